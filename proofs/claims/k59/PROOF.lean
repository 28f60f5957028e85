import PyProof.Rows.All
import Wide.All
import OpenK.AllK
import Wide.FinOn
import HandS.ForMost
import HandS.Flow
import HandS.IsInst
import HandS.TupAny
import HandS.Wide
import HandS.RaiseMore
import KE.DataMinMax
import KE.DataCmp
import HandS.Deep
import HandS.Style
import HandS.Iter
import KE.SortData
import PySem.Challenge.RW_postlands_k59_whole_messages_keyed_and_r
set_option Elab.async false
set_option linter.all false
set_option maxRecDepth 100000
/-! Core1: data in the abstract heap, slots that hold shared data or an own list, results; what an expression gives as a plain function of the slots. -/
namespace Mi
open PySem PySem.Spec PyProof.Rows L2

abbrev D := PyData
abbrev Fr0 := PySem.W.Frag

/-- the written part, once for all -/
class KK where
  K : Fr0
variable [KK]

/-! ### data in a heap (lists and tuples tracked; the script, locked, is told as frzD) -/
abbrev frzD (ds : List D) : D := .dict [(.none, .list ds)]
mutual
inductive Dv (F : Hp) : V → D → Prop
  | non : Dv F .non .none
  | bl (b : Bool) : Dv F (.bl b) (.bool b)
  | int (i : Int) : Dv F (.int i) (.int i)
  | str (x : Str) : Dv F (.str x) (.str x)
  | lst {a : Addr} {xs : List V} {ds : List D} : F a = some (.lst xs) → Dvs F xs ds → Dv F (.ref a) (.list ds)
  | tup {a : Addr} {xs : List V} {ds : List D} : F a = some (.tup xs) → Dvs F xs ds → Dv F (.ref a) (.tuple ds)
  | frz {a : Addr} {xs : List V} {ds : List D} : SqL KK.K F a xs → Dvs F xs ds → Dv F (.ref a) (frzD ds)
inductive Dvs (F : Hp) : List V → List D → Prop
  | nil : Dvs F [] []
  | cons {v : V} {vs : List V} {d : D} {ds : List D} : Dv F v d → Dvs F vs ds → Dvs F (v :: vs) (d :: ds)
end
mutual
theorem Dv.mono {F F' : Hp} (e : Same F F') : ∀ {v : V} {d : D}, Dv F v d → Dv F' v d
  | _, _, .non => .non
  | _, _, .bl b => .bl b
  | _, _, .int i => .int i
  | _, _, .str x => .str x
  | _, _, .lst h a => .lst (e _ _ h) (Dvs.mono e a)
  | _, _, .tup h a => .tup (e _ _ h) (Dvs.mono e a)
  | _, _, .frz h a => .frz (e.seq h) (Dvs.mono e a)
theorem Dvs.mono {F F' : Hp} (e : Same F F') : ∀ {vs : List V} {ds : List D}, Dvs F vs ds → Dvs F' vs ds
  | _, _, .nil => .nil
  | _, _, .cons h a => .cons (Dv.mono e h) (Dvs.mono e a)
end
section
variable {F : Hp} {v : V} {vs us : List V} {d : D} {ds es : List D}
theorem Dvs.len : ∀ {vs : List V} {ds : List D}, Dvs F vs ds → vs.length = ds.length
  | _, _, .nil => rfl
  | _, _, .cons _ a => by rw [List.length_cons, List.length_cons, Dvs.len a]
theorem Dvs.app : ∀ {vs : List V} {ds : List D}, Dvs F vs ds → Dvs F us es → Dvs F (vs ++ us) (ds ++ es)
  | _, _, .nil, b => b
  | _, _, .cons h a, b => .cons h (Dvs.app a b)
theorem Dvs.get : ∀ {vs : List V} {ds : List D} {i : Nat} {d : D}, Dvs F vs ds → ds[i]? = some d → ∃ v, vs[i]? = some v ∧ Dv F v d
  | _, _, i, _, .nil, e => by simp at e
  | _, _, 0, d, .cons h a, e => by
    have e' := Option.some.inj e
    subst e'
    exact ⟨_, rfl, h⟩
  | _, _, i + 1, d, .cons h a, e => by
    obtain ⟨v, e1, h1⟩ := Dvs.get (i := i) (d := d) a (by simpa using e)
    exact ⟨v, by simpa using e1, h1⟩
theorem Dvs.take : ∀ {vs : List V} {ds : List D} (n : Nat), Dvs F vs ds → Dvs F (vs.take n) (ds.take n)
  | _, _, 0, _ => .nil
  | _, _, _ + 1, .nil => .nil
  | _, _, n + 1, .cons h a => .cons h (Dvs.take n a)
theorem Dvs.drop : ∀ {vs : List V} {ds : List D} (n : Nat), Dvs F vs ds → Dvs F (vs.drop n) (ds.drop n)
  | _, _, 0, a => a
  | _, _, _ + 1, .nil => .nil
  | _, _, n + 1, .cons _ a => Dvs.drop n a
theorem Dvs.set : ∀ {vs : List V} {ds : List D} (n : Nat), Dvs F vs ds → Dv F v d → Dvs F (vs.set n v) (ds.set n d)
  | _, _, _, .nil, _ => .nil
  | _, _, 0, .cons _ a, h => .cons h a
  | _, _, n + 1, .cons g a, h => .cons g (Dvs.set n a h)
theorem Dvs.rev : ∀ {vs : List V} {ds : List D}, Dvs F vs ds → Dvs F vs.reverse ds.reverse
  | _, _, .nil => .nil
  | _, _, .cons h a => by
    rw [List.reverse_cons, List.reverse_cons]
    exact Dvs.app (Dvs.rev a) (.cons h .nil)
theorem Dvs.snoc (a : Dvs F vs ds) (h : Dv F v d) : Dvs F (vs ++ [v]) (ds ++ [d]) := a.app (.cons h .nil)
theorem Dvs.ints : ∀ {vs : List V} {ns : List Int}, Dvs F vs (ns.map PyData.int) → vs = ns.map V.int
  | _, [], .nil => rfl
  | _, n :: ns, .cons (.int _) a => by rw [List.map_cons, Dvs.ints a]
theorem Dvs.bls : ∀ {vs : List V} {ns : List Bool}, Dvs F vs (ns.map PyData.bool) → vs = ns.map V.bl
  | _, [], .nil => rfl
  | _, n :: ns, .cons (.bl _) a => by rw [List.map_cons, Dvs.bls a]
theorem Dvs.strs : ∀ {vs : List V} {ns : List Str}, Dvs F vs (ns.map PyData.str) → vs = ns.map V.str
  | _, [], .nil => rfl
  | _, n :: ns, .cons (.str _) a => by rw [List.map_cons, Dvs.strs a]
theorem Dvs.of_ints : ∀ (ns : List Int), Dvs F (ns.map V.int) (ns.map PyData.int)
  | [] => .nil
  | n :: ns => .cons (.int n) (Dvs.of_ints ns)
theorem Dvs.of_strs : ∀ (ns : List Str), Dvs F (ns.map V.str) (ns.map PyData.str)
  | [] => .nil
  | n :: ns => .cons (.str n) (Dvs.of_strs ns)
end
mutual
theorem Dv.dp {K : Fr0} {F : Hp} : ∀ {v : V} {d : D}, Dv F v d → d.canLay0 = true → Dp K F v d
  | _, _, .non, _ => .non
  | _, _, .bl b, _ => .bl b
  | _, _, .int i, _ => .int i
  | _, _, .str x, _ => .str x
  | _, _, .lst h a, c => .lst (.of h) (Dvs.dp a c)
  | _, _, .tup h a, c => .tup (.of h) (Dvs.dp a c)
  | _, _, .frz h a, c => by cases c
theorem Dvs.dp {K : Fr0} {F : Hp} : ∀ {vs : List V} {ds : List D}, Dvs F vs ds → PyData.canLayAll0 ds = true → DpAll K F vs ds
  | _, _, .nil, _ => .nil
  | _, _, .cons h a, c => by
    have c' := Bool.and_eq_true_iff.mp c
    exact .cons (Dv.dp h c'.1) (Dvs.dp a c'.2)
end

/-! ### results, slots -/
/-- what an expression gives: shared data; a new list of its own; the list (or data) that slot i holds -/
inductive R where
  | sh (d : D) | fr (ds : List D) | bw (i : Nat)
/-- what a slot holds: nothing; shared data; an own list; the list that was handed in to be changed -/
inductive M where
  | no | sh (d : D) | own (ds : List D) | io (ds : List D)
abbrev En := List M
def OwnAt (ρ : En) (i : Nat) : Prop := (∃ ds, ρ[i]? = some (.own ds)) ∨ ∃ ds, ρ[i]? = some (.io ds)
def deref (ρ : En) : R → Option D
  | .sh d => some d
  | .fr ds => some (.list ds)
  | .bw i => match ρ[i]? with
    | some (.own ds) => some (.list ds)
    | some (.io ds) => some (.list ds)
    | some (.sh d) => some d
    | _ => none

def SlotOk (F G H : Hp) (b : Addr) (σ : L2.St) (i : Nat) : M → Prop
  | .no => True
  | .sh d => ∃ v, σ[i]? = some (some v) ∧ Dv F v d
  | .own ds => ∃ p vs, σ[i]? = some (some (.ref p)) ∧ H p = some (.lst vs) ∧ Dvs F vs ds ∧ F p = none ∧ G p = none
  | .io ds => σ[i]? = some (some (.ref b)) ∧ ∃ vs, H b = some (.lst vs) ∧ Dvs F vs ds ∧ F b = none ∧ G b = none
/-- the slots stand for ρ: F what is shared for good, G what others have (not to be changed), H the heap -/
structure Rp (F G H : Hp) (b : Addr) (σ : L2.St) (ρ : En) : Prop where
  fh : Same F H
  gh : Same G H
  len : ρ.length = σ.length
  slot : ∀ i m, ρ[i]? = some m → SlotOk F G H b σ i m
  ne : ∀ i j p, OwnAt ρ i → OwnAt ρ j → σ[i]? = some (some (.ref p)) → σ[j]? = some (some (.ref p)) → i = j
def RsOk (F G H : Hp) (σ : L2.St) (ρ : En) (v : V) : R → Prop
  | .sh d => Dv F v d
  | .fr ds => ∃ p vs, v = .ref p ∧ H p = some (.lst vs) ∧ Dvs F vs ds ∧ F p = none ∧ G p = none ∧ ∀ i, OwnAt ρ i → σ[i]? ≠ some (some (.ref p))
  | .bw i => σ[i]? = some (some v)
def Cln (F G F' : Hp) : Prop := ∀ a, G a ≠ none → F' a ≠ none → F a ≠ none
theorem Cln.refl (F G : Hp) : Cln F G F := fun _ _ h => h
theorem Cln.trans {F F1 F2 G : Hp} (a : Cln F G F1) (b : Cln F1 G F2) : Cln F G F2 := fun x g h => a x g (b x g h)
theorem Cln.less {F F' G G' : Hp} (c : Cln F G' F') (e : Same G G') : Cln F G F' := fun x g h => by
  refine c x (fun z => g ?_) h
  cases q : G x with
  | none => rfl
  | some o => rw [e x o q] at z; cases z

abbrev MR := En → Option (R × En)
abbrev MB := En → Option (Bool × En)
/-- what an expression asks, by its plain function -/
def tM (m : MR) : TE := fun σ H Q => ∃ F G b ρ, Rp F G H b σ ρ ∧ ∃ r ρ', m ρ = some (r, ρ') ∧ ∀ F' H' v, Same F F' → Cln F G F' → Rp F' G H' b σ ρ' → RsOk F' G H' σ ρ' v r → Q v H'
def tMB (m : MB) : TT := fun σ H Q => ∃ F G b ρ, Rp F G H b σ ρ ∧ ∃ r ρ', m ρ = some (r, ρ') ∧ ∀ F' H', Same F F' → Cln F G F' → Rp F' G H' b σ ρ' → Q r H'
theorem _root_.L2.PE.imq {X : Cx} {e : Expr} {t t' : TE} (h : PE X e t) (i : ∀ σ H Q, t' σ H Q → t σ H Q) : PE X e t' := ⟨fun pins s σ H Q I q => h.run pins s σ H Q I (i σ H Q q)⟩
theorem _root_.L2.PT.imq {X : Cx} {e : Expr} {t t' : TT} (h : PT X e t) (i : ∀ σ H Q, t' σ H Q → t σ H Q) : PT X e t' := ⟨fun pins s σ H Q I q => h.run pins s σ H Q I (i σ H Q q)⟩
theorem _root_.L2.PW.imq {X : Cx} {e : Expr} {t t' : TT} (h : PW X e t) (i : ∀ σ H Q, t' σ H Q → t σ H Q) : PW X e t' := ⟨fun wh pins s σ H Q I q => h.run wh pins s σ H Q I (i σ H Q q)⟩
theorem _root_.L2.PA.imq {X : Cx} {es : List Expr} {t t' : TA} (h : PA X es t) (i : ∀ σ H Q, t' σ H Q → t σ H Q) : PA X es t' := ⟨fun pos pins s σ H Q I q => h.run pos pins s σ H Q I (i σ H Q q)⟩
theorem _root_.L2.PS.imq {X : Cx} {st : Stmt} {t t' : TS} (h : PS X st t) (i : ∀ D σ H, t' D σ H → t D σ H) : PS X st t' := ⟨fun pins s σ H D I q => h.run pins s σ H D I (i D σ H q)⟩
theorem _root_.L2.PSs.imq {X : Cx} {st : List Stmt} {t t' : TS} (h : PSs X st t) (i : ∀ D σ H, t' D σ H → t D σ H) : PSs X st t' := ⟨fun pins s σ H D I q => h.run pins s σ H D I (i D σ H q)⟩

section
variable {F F' F1 F2 G G' H H' : Hp} {b : Addr} {σ : L2.St} {ρ ρ' : En} {v : V} {r : R}
/-- fresh in the larger heap is fresh in the smaller -/
theorem nn (e : Same F H) {p : Addr} (h : H p = none) : F p = none := e.free h
theorem Rp.slotAddr (h : Rp F G H b σ ρ) {i : Nat} (o : OwnAt ρ i) : ∃ p vs ds, σ[i]? = some (some (.ref p)) ∧ H p = some (.lst vs) ∧ Dvs F vs ds ∧ F p = none ∧ G p = none ∧ (ρ[i]? = some (.own ds) ∨ (ρ[i]? = some (.io ds) ∧ p = b)) := by
  rcases o with ⟨ds, e⟩ | ⟨ds, e⟩
  · obtain ⟨p, vs, a, c, d, f, g⟩ := h.slot i _ e
    exact ⟨p, vs, ds, a, c, d, f, g, .inl e⟩
  · obtain ⟨a, vs, c, d, f, g⟩ := h.slot i _ e
    exact ⟨b, vs, ds, a, c, d, f, g, .inr ⟨e, rfl⟩⟩
/-- more is guarded: the guard grows by what no own list is -/
theorem Rp.more (h : Rp F G H b σ ρ) (e : Same G' H) (hn : ∀ i p, OwnAt ρ i → σ[i]? = some (some (.ref p)) → G' p = none) : Rp F G' H b σ ρ := by
  refine ⟨h.fh, e, h.len, fun i m q => ?_, h.ne⟩
  have s := h.slot i m q
  cases m with
  | no => trivial
  | sh d => exact s
  | own ds =>
    obtain ⟨p, vs, a, c, d, f, g⟩ := s
    exact ⟨p, vs, a, c, d, f, hn i p (.inl ⟨ds, q⟩) a⟩
  | io ds =>
    obtain ⟨a, vs, c, d, f, g⟩ := s
    exact ⟨a, vs, c, d, f, hn i b (.inr ⟨ds, q⟩) a⟩
/-- less is guarded -/
theorem Rp.less (h : Rp F G' H b σ ρ) (e : Same G G') : Rp F G H b σ ρ := by
  refine h.more (e.trans h.gh) fun i p o q => ?_
  obtain ⟨p', vs, ds, a, c, d, f, g, _⟩ := h.slotAddr o
  rw [a] at q
  cases q
  exact e.free g
/-- only new objects and shared data come to the heap -/
theorem Rp.grow (h : Rp F G H b σ ρ) (e : Same F F') (eh : Same H H') (fh : Same F' H') (hn : ∀ i p, OwnAt ρ i → σ[i]? = some (some (.ref p)) → F' p = none) : Rp F' G H' b σ ρ := by
  refine ⟨fh, h.gh.trans eh, h.len, fun i m q => ?_, h.ne⟩
  have s := h.slot i m q
  cases m with
  | no => trivial
  | sh d =>
    obtain ⟨v, a, c⟩ := s
    exact ⟨v, a, c.mono e⟩
  | own ds =>
    obtain ⟨p, vs, a, c, d, f, g⟩ := s
    exact ⟨p, vs, a, eh _ _ c, d.mono e, hn i p (.inl ⟨ds, q⟩) a, g⟩
  | io ds =>
    obtain ⟨a, vs, c, d, f, g⟩ := s
    exact ⟨a, vs, eh _ _ c, d.mono e, hn i b (.inr ⟨ds, q⟩) a, g⟩
theorem Rp.own_some (h : Rp F G H b σ ρ) {i : Nat} {p : Addr} (o : OwnAt ρ i) (q : σ[i]? = some (some (.ref p))) : ∃ vs, H p = some (.lst vs) ∧ F p = none ∧ G p = none := by
  obtain ⟨p', vs, ds, a, c, d, f, g, _⟩ := h.slotAddr o
  rw [a] at q
  cases q
  exact ⟨vs, c, f, g⟩

/-- the guard of a result while more is evaluated -/
def guard (G : Hp) (H : Hp) (v : V) : R → Hp
  | .fr _ => match v with
    | .ref p => match H p with
      | some o => upd G p o
      | none => G
    | _ => G
  | _ => G
theorem guard_same (r : R) (hg : Same G H) : Same G (guard G H v r) ∧ Same (guard G H v r) H ∨ True := .inr trivial
theorem guard_ge (h : RsOk F G H σ ρ v r) : Same G (guard G H v r) := by
  cases r with
  | sh d => exact Same.refl G
  | bw i => exact Same.refl G
  | fr ds =>
    obtain ⟨p, vs, rfl, a, _, _, g, _⟩ := h
    unfold guard
    simp only [a]
    intro x o e
    rw [upd_ne (ne_of_none e g)]
    exact e
theorem guard_le (hg : Same G H) (h : RsOk F G H σ ρ v r) : Same (guard G H v r) H := by
  cases r with
  | sh d => exact hg
  | bw i => exact hg
  | fr ds =>
    obtain ⟨p, vs, rfl, a, _, _, g, _⟩ := h
    unfold guard
    simp only [a]
    intro x o e
    by_cases hx : x = p
    · subst hx
      rw [upd_same] at e
      rw [a, e]
    · rw [upd_ne hx] at e
      exact hg _ _ e
theorem Rp.guarded (R0 : Rp F G H b σ ρ) (h : RsOk F G H σ ρ v r) : Rp F (guard G H v r) H b σ ρ := by
  refine R0.more (guard_le R0.gh h) fun i p o q => ?_
  obtain ⟨vs, a, f, g⟩ := R0.own_some o q
  cases r with
  | sh d => exact g
  | bw i => exact g
  | fr ds =>
    obtain ⟨p', vs', rfl, a', _, _, _, ne⟩ := h
    unfold guard
    simp only [a']
    have : p ≠ p' := fun z => ne i o (z ▸ q)
    rw [upd_ne this]
    exact g
/-- a result stands on behind an evaluation that kept its guard -/
theorem RsOk.keep (h : RsOk F G H σ ρ v r) (e : Same F F') (c : Cln F (guard G H v r) F') (k : Rp F' (guard G H v r) H' b σ ρ') : RsOk F' G H' σ ρ' v r := by
  cases r with
  | sh d => exact Dv.mono e h
  | bw i => exact h
  | fr ds =>
    obtain ⟨p, vs, rfl, a, ha, f, g, ne⟩ := h
    have gp : guard G H (.ref p) (.fr ds) p = some (.lst vs) := by
      unfold guard
      simp only [a]
      exact upd_same
    refine ⟨p, vs, rfl, k.gh _ _ gp, ha.mono e, ?_, g, fun i o q => ?_⟩
    · cases q : F' p with
      | none => rfl
      | some o => exact absurd f (c p (by rw [gp]; exact fun z => nomatch z) (by rw [q]; exact fun z => nomatch z))
    · obtain ⟨_, _, _, g'⟩ := k.own_some o q
      rw [gp] at g'
      cases g'
/-- the results differ, if both are new -/
theorem RsOk.less (h : RsOk F G' H σ ρ v r) (e : Same G G') : RsOk F G H σ ρ v r := by
  cases r with
  | sh d => exact h
  | bw i => exact h
  | fr ds =>
    obtain ⟨p, vs, rfl, a, ha, f, g, ne⟩ := h
    exact ⟨p, vs, rfl, a, ha, f, e.free g, ne⟩
end

/-- two evaluations, one behind the other -/
theorem seq2 {ma mb : MR} {F G H : Hp} {b : Addr} {σ : L2.St} {ρ ρ1 ρ2 : En} {r1 r2 : R} {Q : V → V → Hp → Prop} (h : Rp F G H b σ ρ) (ea : ma ρ = some (r1, ρ1)) (eb : mb ρ1 = some (r2, ρ2))
    (q : ∀ F' H' v1 v2, Same F F' → Cln F G F' → Rp F' G H' b σ ρ2 → RsOk F' G H' σ ρ2 v1 r1 → RsOk F' G H' σ ρ2 v2 r2 → Q v1 v2 H') : tM ma σ H fun v1 H1 => tM mb σ H1 fun v2 H2 => Q v1 v2 H2 := by
  refine ⟨F, G, b, ρ, h, r1, ρ1, ea, fun F1 H1 v1 e1 c1 h1 k1 => ?_⟩
  refine ⟨F1, guard G H1 v1 r1, b, ρ1, h1.guarded k1, r2, ρ2, eb, fun F2 H2 v2 e2 c2 h2 k2 => ?_⟩
  have ge := guard_ge k1
  exact q F2 H2 v1 v2 (e1.trans e2) (c1.trans (c2.less ge)) (h2.less ge) (k1.keep e2 c2 h2) (k2.less ge)

/-! ### what is asked of a value where it is used: data by its contents now -/
/-- v stands for d in H, its items shared for good -/
def Bd (F H : Hp) (v : V) (d : D) : Prop := Dv F v d ∨ ∃ p vs ds, v = .ref p ∧ H p = some (.lst vs) ∧ Dvs F vs ds ∧ d = .list ds
theorem Bd.dv {F H : Hp} {v : V} {d : D} (e : Same F H) (h : Bd F H v d) : Dv H v d := by
  rcases h with h | ⟨p, vs, ds, rfl, a, b, rfl⟩
  · exact h.mono e
  · exact .lst a (b.mono e)
theorem Bd.list {F H : Hp} {v : V} {ds : List D} (e : Same F H) (h : Bd F H v (.list ds)) : ∃ p vs, v = .ref p ∧ H p = some (.lst vs) ∧ Dvs F vs ds := by
  rcases h with h | ⟨p, vs, ds, rfl, a, b, q⟩
  · cases h with
    | lst h a => exact ⟨_, _, rfl, e _ _ h, a⟩
  · cases q
    exact ⟨p, vs, rfl, a, b⟩
theorem Bd.tup {F H : Hp} {v : V} {ds : List D} (h : Bd F H v (.tuple ds)) : ∃ p vs, v = .ref p ∧ F p = some (.tup vs) ∧ Dvs F vs ds := by
  rcases h with h | ⟨p, vs, ds, rfl, a, b, q⟩
  · cases h with
    | tup h a => exact ⟨_, _, rfl, h, a⟩
  · cases q
theorem Bd.frz {F H : Hp} {v : V} {ds : List D} (h : Bd F H v (frzD ds)) : ∃ p vs, v = .ref p ∧ SqL KK.K F p vs ∧ Dvs F vs ds := by
  rcases h with h | ⟨p, vs, ds, rfl, a, b, q⟩
  · cases h with
    | frz h a => exact ⟨_, _, rfl, h, a⟩
  · cases q
theorem Bd.int {F H : Hp} {v : V} {i : Int} (h : Bd F H v (.int i)) : v = .int i := by
  rcases h with h | ⟨p, vs, ds, rfl, a, b, q⟩
  · cases h; rfl
  · cases q
theorem Bd.bl {F H : Hp} {v : V} {i : Bool} (h : Bd F H v (.bool i)) : v = .bl i := by
  rcases h with h | ⟨p, vs, ds, rfl, a, b, q⟩
  · cases h; rfl
  · cases q
theorem Bd.str {F H : Hp} {v : V} {i : Str} (h : Bd F H v (.str i)) : v = .str i := by
  rcases h with h | ⟨p, vs, ds, rfl, a, b, q⟩
  · cases h; rfl
  · cases q
theorem Bd.non {F H : Hp} {v : V} (h : Bd F H v .none) : v = .non := by
  rcases h with h | ⟨p, vs, ds, rfl, a, b, q⟩
  · cases h; rfl
  · cases q
theorem RsOk.bd {F G H : Hp} {b : Addr} {σ : L2.St} {ρ : En} {v : V} {r : R} {d : D} (h : Rp F G H b σ ρ) (k : RsOk F G H σ ρ v r) (e : deref ρ r = some d) : Bd F H v d := by
  cases r with
  | sh d' =>
    cases e
    exact .inl k
  | fr ds =>
    cases e
    obtain ⟨p, vs, rfl, a, ha, _⟩ := k
    exact .inr ⟨p, vs, ds, rfl, a, ha, rfl⟩
  | bw i =>
    have k' : σ[i]? = some (some v) := k
    unfold deref at e
    cases q : ρ[i]? with
    | none => simp [q] at e
    | some m =>
      have s := h.slot i m q
      cases m with
      | no => simp [q] at e
      | sh d' =>
        simp only [q] at e
        cases e
        obtain ⟨v', a, c⟩ := s
        rw [k'] at a
        cases a
        exact .inl c
      | own ds =>
        simp only [q] at e
        cases e
        obtain ⟨p, vs, a, c, d, _⟩ := s
        rw [k'] at a
        cases a
        exact .inr ⟨p, vs, ds, rfl, c, d, rfl⟩
      | io ds =>
        simp only [q] at e
        cases e
        obtain ⟨a, vs, c, d, _⟩ := s
        rw [k'] at a
        cases a
        exact .inr ⟨b, vs, ds, rfl, c, d, rfl⟩
end Mi
set_option Elab.async false
set_option linter.all false
set_option maxRecDepth 100000
/-! Core2: expressions. -/
namespace Mi
open PySem PySem.Spec PyProof.Rows L2
variable [KK]

abbrev lim : Nat := 1000000
theorem lim_le {n : Nat} (h : n ≤ lim) : n ≤ sizeLine := Nat.le_trans h (by rw [sizeLine_eq]; decide)
theorem lim_lt {n : Nat} (h : n < lim) : n < sizeLine := Nat.lt_of_lt_of_le h (by rw [sizeLine_eq]; decide)

/-! ### what an operation leaves: the heap grown -/
def ResOk (F' H H' : Hp) (v : V) : R → Prop
  | .sh d => Dv F' v d
  | .fr ds => ∃ p vs, v = .ref p ∧ H p = none ∧ H' p = some (.lst vs) ∧ Dvs F' vs ds ∧ F' p = none
  | .bw _ => False
structure Post (F H : Hp) (r : R) (F' H' : Hp) (v : V) : Prop where
  ff : Same F F'
  hh : Same H H'
  fh : Same F' H'
  new : ∀ a, F' a ≠ none → F a ≠ none ∨ H a = none
  res : ResOk F' H H' v r
theorem post_sh {F H : Hp} {v : V} {d : D} (e : Same F H) (h : Dv F v d) : Post F H (.sh d) F H v := ⟨.refl _, .refl _, e, fun _ h => .inl h, h⟩
theorem same_upd {H : Hp} {p : Addr} {o : HO} (h : H p = none) : Same H (upd H p o) := fun b x e => by
  rw [upd_ne (ne_of_none e h)]
  exact e
theorem post_fr {F H : Hp} {p : Addr} {vs : List V} {ds : List D} (e : Same F H) (h : H p = none) (a : Dvs F vs ds) : Post F H (.fr ds) F (upd H p (.lst vs)) (.ref p) :=
  ⟨.refl _, same_upd h, e.trans (same_upd h), fun _ h => .inl h, p, vs, rfl, h, upd_same, a, e.free h⟩
theorem same_upd2 {F H : Hp} {p : Addr} {o : HO} (e : Same F H) : Same (upd F p o) (upd H p o) := fun b x q => by
  by_cases hb : b = p
  · subst hb
    rw [upd_same] at q ⊢
    exact q
  · rw [upd_ne hb] at q ⊢
    exact e _ _ q
theorem upd_some {F : Hp} {p a : Addr} {o : HO} (h : upd F p o a ≠ none) : F a ≠ none ∨ a = p := by
  by_cases q : a = p
  · exact .inr q
  · rw [upd_ne q] at h
    exact .inl h
theorem post_tup {F H : Hp} {p : Addr} {vs : List V} {ds : List D} (e : Same F H) (h : H p = none) (a : Dvs F vs ds) : Post F H (.sh (.tuple ds)) (upd F p (.tup vs)) (upd H p (.tup vs)) (.ref p) :=
  ⟨same_upd (e.free h), same_upd h, same_upd2 e, fun x q => (upd_some q).imp id (fun z => by rw [z]; exact h), .tup upd_same (a.mono (same_upd (e.free h)))⟩
theorem Post.cln {F G H F' H' : Hp} {r : R} {v : V} (p : Post F H r F' H' v) (g : Same G H) : Cln F G F' := fun a ga fa => by
  rcases p.new a fa with h | h
  · exact h
  · exact absurd (g.free h) ga
theorem Post.rp {F G H F' H' : Hp} {r : R} {v : V} {b : Addr} {σ : L2.St} {ρ : En} (p : Post F H r F' H' v) (h : Rp F G H b σ ρ) : Rp F' G H' b σ ρ :=
  h.grow p.ff p.hh p.fh fun i q o e => by
    obtain ⟨vs, a, f, g⟩ := h.own_some o e
    cases z : F' q with
    | none => rfl
    | some u =>
      rcases p.new q (by rw [z]; exact fun x => nomatch x) with h1 | h1
      · exact absurd f h1
      · rw [a] at h1
        cases h1
theorem Post.rs {F G H F' H' : Hp} {r : R} {v : V} {b : Addr} {σ : L2.St} {ρ : En} (p : Post F H r F' H' v) (h : Rp F G H b σ ρ) : RsOk F' G H' σ ρ v r := by
  have q := p.res
  cases r with
  | sh d => exact q
  | bw i => exact False.elim q
  | fr ds =>
    obtain ⟨a, vs, rfl, n, e, x, f⟩ := q
    refine ⟨a, vs, rfl, e, x, f, h.gh.free n, fun i o z => ?_⟩
    obtain ⟨_, y, _, _⟩ := h.own_some o z
    rw [n] at y
    cases y

/-! ### judgements -/
structure ME (X : Cx) (e : Expr) (m : MR) : Prop where
  ok : PE X e (tM m)
structure MT (X : Cx) (e : Expr) (m : MB) : Prop where
  ok : PT X e (tMB m)
structure MW (X : Cx) (e : Expr) (m : MB) : Prop where
  ok : PW X e (tMB m)

/-! ### slots and constants -/
def mVar (i : Nat) : MR := fun ρ => match ρ[i]? with
  | some (.sh d) => some (.sh d, ρ)
  | some (.own _) => some (.bw i, ρ)
  | some (.io _) => some (.bw i, ρ)
  | _ => none
def mC (d : D) : MR := fun ρ => some (.sh d, ρ)
section
variable {X : Cx} {e a b c : Expr} {pos : Pos} {m ma mb mc : MR} {t u : MB}
theorem me_var {i : Nat} {x : Str} (h : PE X (.Name x pos) (tVar i)) : ME X (.Name x pos) (mVar i) := ⟨h.imq fun σ H Q q => by
  obtain ⟨F, G, b, ρ, hr, r, ρ', e, k⟩ := q
  unfold mVar at e
  cases q : ρ[i]? with
  | none => simp [q] at e
  | some w =>
    have s := hr.slot i w q
    cases w with
    | no => simp [q] at e
    | sh d =>
      simp only [q] at e
      cases e
      obtain ⟨v, a, c⟩ := s
      exact ⟨v, a, k F H v (.refl _) (.refl _ _) hr c⟩
    | own ds =>
      simp only [q] at e
      cases e
      obtain ⟨p, vs, a, _⟩ := s
      exact ⟨.ref p, a, k F H _ (.refl _) (.refl _ _) hr a⟩
    | io ds =>
      simp only [q] at e
      cases e
      obtain ⟨a, _⟩ := s
      exact ⟨.ref b, a, k F H _ (.refl _) (.refl _ _) hr a⟩⟩
theorem me_const {v : V} {d : D} (h : PE X e (tC v)) (hd : ∀ F, Dv F v d) : ME X e (mC d) := ⟨h.imq fun σ H Q q => by
  obtain ⟨F, G, b, ρ, hr, r, ρ', e, k⟩ := q
  cases e
  exact k F H v (.refl _) (.refl _ _) hr (hd F)⟩
theorem me_int {i : Int} {j} : ME X (.Constant (.int i) j pos) (mC (.int i)) := me_const pe_int fun _ => .int _
theorem me_bl {i : Bool} {j} : ME X (.Constant (.bool i) j pos) (mC (.bool i)) := me_const pe_bl fun _ => .bl _
theorem me_non {j} : ME X (.Constant .none j pos) (mC .none) := me_const pe_non fun _ => .non
theorem me_str {i : Str} {j} : ME X (.Constant (.str i) j pos) (mC (.str i)) := me_const pe_str fun _ => .str _

/-! ### operators -/
/-- an operation on two values keeps f -/
def Op2 (r : R2) (f : D → D → Option R) : Prop := ∀ F H v1 v2 d1 d2 k, Same F H → Bd F H v1 d1 → Bd F H v2 d2 → f d1 d2 = some k → ∀ Q : VK, (∀ F' H' v, Post F H k F' H' v → Q v H') → r v1 v2 H Q
def Op1 (r : V → Hp → VK → Prop) (f : D → Option R) : Prop := ∀ F H v1 d1 k, Same F H → Bd F H v1 d1 → f d1 = some k → ∀ Q : VK, (∀ F' H' v, Post F H k F' H' v → Q v H') → r v1 H Q
theorem Op2.or {r r' : R2} {f g k : D → D → Option R} (h : Op2 r f) (h' : Op2 r' g) (e : ∀ a b z, k a b = some z → f a b = some z ∨ g a b = some z) : Op2 (fun x y H Q => r x y H Q ∨ r' x y H Q) k :=
  fun F H v1 v2 d1 d2 z s b1 b2 q Q w => (e d1 d2 z q).imp (fun q => h F H v1 v2 d1 d2 z s b1 b2 q Q w) (fun q => h' F H v1 v2 d1 d2 z s b1 b2 q Q w)
def mBin (f : D → D → Option R) (ma mb : MR) : MR := fun ρ => do
  let (r1, ρ1) ← ma ρ
  let (r2, ρ2) ← mb ρ1
  let d1 ← deref ρ2 r1
  let d2 ← deref ρ2 r2
  let k ← f d1 d2
  some (k, ρ2)
def mUn (f : D → Option R) (ma : MR) : MR := fun ρ => do
  let (r1, ρ1) ← ma ρ
  let d1 ← deref ρ1 r1
  let k ← f d1
  some (k, ρ1)
theorem bind_some {α β : Type} {o : Option α} {f : α → Option β} {z : β} (h : (o >>= f) = some z) : ∃ a, o = some a ∧ f a = some z := by
  cases o with
  | none => cases h
  | some a => exact ⟨a, rfl, h⟩
theorem tM_bin {r : R2} {f : D → D → Option R} (o : Op2 r f) (σ : L2.St) (H : Hp) (Q : VK) (q : tM (mBin f ma mb) σ H Q) : tOp r (tM ma) (tM mb) σ H Q := by
  obtain ⟨F, G, b, ρ, hr, r', ρ', e, k⟩ := q
  obtain ⟨⟨r1, ρ1⟩, e1, e⟩ := bind_some e
  obtain ⟨⟨r2, ρ2⟩, e2, e⟩ := bind_some e
  obtain ⟨d1, e3, e⟩ := bind_some e
  obtain ⟨d2, e4, e⟩ := bind_some e
  obtain ⟨z, e5, e⟩ := bind_some e
  cases e
  refine seq2 hr e1 e2 fun F1 H1 v1 v2 s1 c1 h1 k1 k2 => ?_
  refine o F1 H1 v1 v2 d1 d2 _ h1.fh (k1.bd h1 e3) (k2.bd h1 e4) e5 Q fun F' H' v p => ?_
  exact k F' H' v (s1.trans p.ff) (c1.trans (p.cln h1.gh)) (p.rp h1) (p.rs h1)
theorem tM_un {r : V → Hp → VK → Prop} {f : D → Option R} (o : Op1 r f) (σ : L2.St) (H : Hp) (Q : VK) (q : tM (mUn f ma) σ H Q) : tUn r (tM ma) σ H Q := by
  obtain ⟨F, G, b, ρ, hr, r', ρ', e, k⟩ := q
  obtain ⟨⟨r1, ρ1⟩, e1, e⟩ := bind_some e
  obtain ⟨d1, e3, e⟩ := bind_some e
  obtain ⟨z, e5, e⟩ := bind_some e
  cases e
  refine ⟨F, G, b, ρ, hr, r1, _, e1, fun F1 H1 v1 s1 c1 h1 k1 => ?_⟩
  refine o F1 H1 v1 d1 _ h1.fh (k1.bd h1 e3) e5 Q fun F' H' v p => ?_
  exact k F' H' v (s1.trans p.ff) (c1.trans (p.cln h1.gh)) (p.rp h1) (p.rs h1)
structure BinOk (X : Cx) (op : Operator) (f : D → D → Option R) : Prop where
  ex : ∃ r, OpR X (binaryOp op) r ∧ Op2 r f
theorem me_bin {op : Operator} {f : D → D → Option R} (o : BinOk X op f) (ha : ME X a ma) (hb : ME X b mb) : ME X (.BinOp a op b pos) (mBin f ma mb) := by
  obtain ⟨r, h1, h2⟩ := o.ex
  exact ⟨(pe_op h1 ha.ok hb.ok).imq (tM_bin h2)⟩
structure UnOk (X : Cx) (op : UnaryOp) (f : D → Option R) : Prop where
  ex : ∃ r, UnR X (unaryOp op) r ∧ Op1 r f
theorem me_un {op : UnaryOp} {f : D → Option R} (o : UnOk X op f) (ha : ME X a ma) : ME X (.UnaryOp op a pos) (mUn f ma) := by
  obtain ⟨r, h1, h2⟩ := o.ex
  exact ⟨(pe_un h1 ha.ok).imq (tM_un h2)⟩

/-! comparisons -/
def Op2B (r : R2) (f : D → D → Option Bool) : Prop := ∀ F H v1 v2 d1 d2 k, Same F H → Bd F H v1 d1 → Bd F H v2 d2 → f d1 d2 = some k → ∀ Q : VK, Q (.bl k) H → r v1 v2 H Q
theorem Op2B.or {r r' : R2} {f g k : D → D → Option Bool} (h : Op2B r f) (h' : Op2B r' g) (e : ∀ a b z, k a b = some z → f a b = some z ∨ g a b = some z) : Op2B (fun x y H Q => r x y H Q ∨ r' x y H Q) k :=
  fun F H v1 v2 d1 d2 z s b1 b2 q Q w => (e d1 d2 z q).imp (fun q => h F H v1 v2 d1 d2 z s b1 b2 q Q w) (fun q => h' F H v1 v2 d1 d2 z s b1 b2 q Q w)
def mCmp (f : D → D → Option Bool) (ma mb : MR) : MB := fun ρ => do
  let (r1, ρ1) ← ma ρ
  let (r2, ρ2) ← mb ρ1
  let d1 ← deref ρ2 r1
  let d2 ← deref ρ2 r2
  let k ← f d1 d2
  some (k, ρ2)
/-- a test as a value -/
def mBV (t : MB) : MR := fun ρ => do
  let (k, ρ1) ← t ρ
  some (.sh (.bool k), ρ1)
structure CmpOk (X : Cx) (op : CmpOp) (f : D → D → Option Bool) : Prop where
  ex : ∃ r, OpR X (compareOp op) r ∧ Op2B r f
theorem mt_cmp {op : CmpOp} {f : D → D → Option Bool} (o : CmpOk X op f) (ha : ME X a ma) (hb : ME X b mb) (hm : behindInMarks op b = false) : MT X (.Compare a [op] [b] pos) (mCmp f ma mb) := by
  obtain ⟨r, h1, h2⟩ := o.ex
  refine ⟨(pt_cmpR h1 ha.ok hb.ok hm).imq fun σ H Q q => ?_⟩
  obtain ⟨F, G, b, ρ, hr, r', ρ', e, k⟩ := q
  obtain ⟨⟨r1, ρ1⟩, e1, e⟩ := bind_some e
  obtain ⟨⟨r2, ρ2⟩, e2, e⟩ := bind_some e
  obtain ⟨d1, e3, e⟩ := bind_some e
  obtain ⟨d2, e4, e⟩ := bind_some e
  obtain ⟨z, e5, e⟩ := bind_some e
  cases e
  refine seq2 hr e1 e2 fun F1 H1 v1 v2 s1 c1 g1 k1 k2 => ?_
  exact h2 F1 H1 v1 v2 d1 d2 _ g1.fh (k1.bd g1 e3) (k2.bd g1 e4) e5 _ ⟨_, rfl, k F1 H1 s1 c1 g1⟩
theorem me_cmp {op : CmpOp} {f : D → D → Option Bool} (o : CmpOk X op f) (ha : ME X a ma) (hb : ME X b mb) (hm : behindInMarks op b = false) : ME X (.Compare a [op] [b] pos) (mBV (mCmp f ma mb)) := by
  obtain ⟨r, h1, h2⟩ := o.ex
  refine ⟨(pe_cmpR h1 ha.ok hb.ok hm).imq fun σ H Q q => ?_⟩
  obtain ⟨F, G, b, ρ, hr, r', ρ', e, k⟩ := q
  obtain ⟨⟨kb, ρ3⟩, e0, e⟩ := bind_some e
  cases e
  obtain ⟨⟨r1, ρ1⟩, e1, e⟩ := bind_some e0
  obtain ⟨⟨r2, ρ2⟩, e2, e⟩ := bind_some e
  obtain ⟨d1, e3, e⟩ := bind_some e
  obtain ⟨d2, e4, e⟩ := bind_some e
  obtain ⟨z, e5, e⟩ := bind_some e
  cases e
  refine seq2 hr e1 e2 fun F1 H1 v1 v2 s1 c1 g1 k1 k2 => ?_
  exact h2 F1 H1 v1 v2 d1 d2 _ g1.fh (k1.bd g1 e3) (k2.bd g1 e4) e5 _ (k F1 H1 _ s1 c1 g1 (.bl _))

theorem ite_some {α : Type} {c : Prop} [Decidable c] {a z : α} (h : (if c then some a else none) = some z) : c ∧ a = z := by
  by_cases q : c
  · rw [if_pos q] at h
    exact ⟨q, Option.some.inj h⟩
  · rw [if_neg q] at h
    cases h
/-! ### tests -/
def truD : D → Option Bool
  | .none => some false
  | .bool b => some b
  | .int i => some (i != 0)
  | .str y => if y.length ≤ lim then some ((y.length : Int) != 0) else none
  | .list ds => some (!ds.isEmpty)
  | .tuple ds => some (!ds.isEmpty)
  | .dict _ => none
def mTest (m : MR) : MB := fun ρ => do
  let (r, ρ1) ← m ρ
  let d ← deref ρ1 r
  let k ← truD d
  some (k, ρ1)
theorem empty_of {F : Hp} {vs : List V} {ds : List D} (h : Dvs F vs ds) : vs.isEmpty = ds.isEmpty := by
  cases h <;> rfl
theorem tru_of {K : Fr0} {F H : Hp} {v : V} {d : D} {k : Bool} (s : Same F H) (h : Bd F H v d) (e : truD d = some k) : TruV K v H k := by
  cases d with
  | none => cases e; rw [h.non]; rfl
  | bool b => cases e; rw [h.bl]; rfl
  | int i => cases e; rw [h.int]; rfl
  | str y =>
    rw [h.str]
    obtain ⟨q, e⟩ := ite_some (show (if y.length ≤ lim then some ((y.length : Int) != 0) else none) = some k from e)
    exact ⟨lim_le q, e.symm⟩
  | list ds =>
    cases e
    obtain ⟨p, vs, rfl, a, b⟩ := h.list s
    exact .inl ⟨vs, .of a, by rw [empty_of b]⟩
  | tuple ds =>
    cases e
    obtain ⟨p, vs, rfl, a, b⟩ := h.tup
    exact .inr (.inl ⟨vs, .of (s _ _ a), by rw [empty_of b]⟩)
  | dict _ => cases e
theorem mt_val (ha : ME X a ma) (he : ∀ whole, isTrue a X.env whole = (do let v ← whole; standAt a.pos; holding [v] (truthy v))) : MT X a (mTest ma) := by
  refine ⟨(pt_truth ha.ok he).imq fun σ H Q q => ?_⟩
  obtain ⟨F, G, b, ρ, hr, r', ρ', e, k⟩ := q
  obtain ⟨⟨r1, ρ1⟩, e1, e⟩ := bind_some e
  obtain ⟨d1, e3, e⟩ := bind_some e
  obtain ⟨z, e5, e⟩ := bind_some e
  cases e
  exact ⟨F, G, b, ρ, hr, r1, _, e1, fun F1 H1 v1 s1 c1 h1 k1 => ⟨_, tru_of h1.fh (k1.bd h1 e3) e5, k F1 H1 s1 c1 h1⟩⟩
def mAnd (t u : MB) : MB := fun ρ => do
  let (k, ρ1) ← t ρ
  if k = true then u ρ1 else some (false, ρ1)
def mOr (t u : MB) : MB := fun ρ => do
  let (k, ρ1) ← t ρ
  if k = true then some (true, ρ1) else u ρ1
def mNot (t : MB) : MB := fun ρ => do
  let (k, ρ1) ← t ρ
  some (!k, ρ1)
variable {rest : List Expr}
theorem MW.mt (h : MW X e t) : MT X e t := ⟨h.ok.pt⟩
theorem mw_and1 (h : MT X a t) : MW X (.BoolOp .And [a] pos) t := ⟨pw_and1 h.ok⟩
theorem mw_or1 (h : MT X a t) : MW X (.BoolOp .Or [a] pos) t := ⟨pw_or1 h.ok⟩
theorem mw_and (ha : MT X a t) (hb : MW X (.BoolOp .And (b :: rest) pos) u) : MW X (.BoolOp .And (a :: b :: rest) pos) (mAnd t u) := ⟨(pw_and ha.ok hb.ok).imq fun σ H Q q => by
  obtain ⟨F, G, b, ρ, hr, r', ρ', e, k⟩ := q
  obtain ⟨⟨k1, ρ1⟩, e1, e⟩ := bind_some e
  refine ⟨F, G, b, ρ, hr, k1, ρ1, e1, fun F1 H1 s1 c1 h1 => ?_⟩
  cases k1 with
  | true => exact ⟨F1, G, b, ρ1, h1, r', ρ', e, fun F2 H2 s2 c2 h2 => k F2 H2 (s1.trans s2) (c1.trans c2) h2⟩
  | false =>
    cases e
    exact k F1 H1 s1 c1 h1⟩
theorem mw_or (ha : MT X a t) (hb : MW X (.BoolOp .Or (b :: rest) pos) u) : MW X (.BoolOp .Or (a :: b :: rest) pos) (mOr t u) := ⟨(pw_or ha.ok hb.ok).imq fun σ H Q q => by
  obtain ⟨F, G, b, ρ, hr, r', ρ', e, k⟩ := q
  obtain ⟨⟨k1, ρ1⟩, e1, e⟩ := bind_some e
  refine ⟨F, G, b, ρ, hr, k1, ρ1, e1, fun F1 H1 s1 c1 h1 => ?_⟩
  cases k1 with
  | false => exact ⟨F1, G, b, ρ1, h1, r', ρ', e, fun F2 H2 s2 c2 h2 => k F2 H2 (s1.trans s2) (c1.trans c2) h2⟩
  | true =>
    cases e
    exact k F1 H1 s1 c1 h1⟩
theorem mt_not (ha : MT X a t) : MT X (.UnaryOp .Not a pos) (mNot t) := ⟨(pt_not ha.ok).imq fun σ H Q q => by
  obtain ⟨F, G, b, ρ, hr, r', ρ', e, k⟩ := q
  obtain ⟨⟨k1, ρ1⟩, e1, e⟩ := bind_some e
  cases e
  exact ⟨F, G, b, ρ, hr, k1, _, e1, fun F1 H1 s1 c1 h1 => k F1 H1 s1 c1 h1⟩⟩
/-- values that are bools -/
def mAndV (ma mb : MR) : MR := fun ρ => do
  let (r, ρ1) ← ma ρ
  match r with
  | .sh (.bool true) => mb ρ1
  | .sh (.bool false) => some (.sh (.bool false), ρ1)
  | _ => none
def mOrV (ma mb : MR) : MR := fun ρ => do
  let (r, ρ1) ← ma ρ
  match r with
  | .sh (.bool false) => mb ρ1
  | .sh (.bool true) => some (.sh (.bool true), ρ1)
  | _ => none
theorem me_one {op} (h : ME X a m) : ME X (.BoolOp op [a] pos) m := ⟨pe_one h.ok⟩
theorem me_and (ha : ME X a ma) (hb : ME X (.BoolOp .And (b :: rest) pos) mb) : ME X (.BoolOp .And (a :: b :: rest) pos) (mAndV ma mb) := ⟨(pe_and ha.ok hb.ok).imq fun σ H Q q => by
  obtain ⟨F, G, b, ρ, hr, r', ρ', e, k⟩ := q
  obtain ⟨⟨k1, ρ1⟩, e1, e⟩ := bind_some e
  refine ⟨F, G, b, ρ, hr, k1, ρ1, e1, fun F1 H1 v1 s1 c1 h1 w1 => ?_⟩
  match k1, w1, e with
  | .sh (.bool true), w1, e =>
    cases (show Dv F1 v1 (.bool true) from w1)
    exact ⟨true, rfl, F1, G, b, ρ1, h1, r', ρ', e, fun F2 H2 v2 s2 c2 h2 => k F2 H2 v2 (s1.trans s2) (c1.trans c2) h2⟩
  | .sh (.bool false), w1, e =>
    cases (show Dv F1 v1 (.bool false) from w1)
    cases e
    exact ⟨false, rfl, k F1 H1 _ s1 c1 h1 (.bl _)⟩⟩
theorem me_or (ha : ME X a ma) (hb : ME X (.BoolOp .Or (b :: rest) pos) mb) : ME X (.BoolOp .Or (a :: b :: rest) pos) (mOrV ma mb) := ⟨(pe_or ha.ok hb.ok).imq fun σ H Q q => by
  obtain ⟨F, G, b, ρ, hr, r', ρ', e, k⟩ := q
  obtain ⟨⟨k1, ρ1⟩, e1, e⟩ := bind_some e
  refine ⟨F, G, b, ρ, hr, k1, ρ1, e1, fun F1 H1 v1 s1 c1 h1 w1 => ?_⟩
  match k1, w1, e with
  | .sh (.bool false), w1, e =>
    cases (show Dv F1 v1 (.bool false) from w1)
    exact ⟨false, rfl, F1, G, b, ρ1, h1, r', ρ', e, fun F2 H2 v2 s2 c2 h2 => k F2 H2 v2 (s1.trans s2) (c1.trans c2) h2⟩
  | .sh (.bool true), w1, e =>
    cases (show Dv F1 v1 (.bool true) from w1)
    cases e
    exact ⟨true, rfl, k F1 H1 _ s1 c1 h1 (.bl _)⟩⟩
def mNotV (ma : MR) : MR := fun ρ => do
  let (r, ρ1) ← ma ρ
  match r with
  | .sh (.bool k) => some (.sh (.bool (!k)), ρ1)
  | _ => none
theorem me_not (ha : ME X a ma) : ME X (.UnaryOp .Not a pos) (mNotV ma) := ⟨(pe_not ha.ok).imq fun σ H Q q => by
  obtain ⟨F, G, b, ρ, hr, r', ρ', e, k⟩ := q
  obtain ⟨⟨k1, ρ1⟩, e1, e⟩ := bind_some e
  refine ⟨F, G, b, ρ, hr, k1, ρ1, e1, fun F1 H1 v1 s1 c1 h1 w1 => ?_⟩
  match k1, w1, e with
  | .sh (.bool z), w1, e =>
    cases (show Dv F1 v1 (.bool z) from w1)
    cases e
    exact ⟨z, rfl, k F1 H1 _ s1 c1 h1 (.bl _)⟩⟩
def mIf (t : MB) (ma mb : MR) : MR := fun ρ => do
  let (k, ρ1) ← t ρ
  if k = true then ma ρ1 else mb ρ1
theorem me_if (hc : MT X c t) (ha : ME X a ma) (hb : ME X b mb) : ME X (.IfExp c a b pos) (mIf t ma mb) := ⟨(pe_ifExp hc.ok ha.ok hb.ok).imq fun σ H Q q => by
  obtain ⟨F, G, b, ρ, hr, r', ρ', e, k⟩ := q
  obtain ⟨⟨k1, ρ1⟩, e1, e⟩ := bind_some e
  refine ⟨F, G, b, ρ, hr, k1, ρ1, e1, fun F1 H1 s1 c1 h1 => ?_⟩
  cases k1 with
  | true => exact ⟨F1, G, b, ρ1, h1, r', ρ', e, fun F2 H2 v2 s2 c2 h2 => k F2 H2 v2 (s1.trans s2) (c1.trans c2) h2⟩
  | false => exact ⟨F1, G, b, ρ1, h1, r', ρ', e, fun F2 H2 v2 s2 c2 h2 => k F2 H2 v2 (s1.trans s2) (c1.trans c2) h2⟩⟩

/-! ### captured: a result becomes shared data -/
def cap (ρ : En) : R → Option (D × En)
  | .sh d => some (d, ρ)
  | .fr ds => some (.list ds, ρ)
  | .bw i => match ρ[i]? with
    | some (.own ds) => some (.list ds, ρ.set i (.sh (.list ds)))
    | some (.sh d) => some (d, ρ)
    | _ => none
theorem own_set {ρ : En} {i j : Nat} {d : D} (h : OwnAt (ρ.set i (.sh d)) j) : OwnAt ρ j ∧ j ≠ i := by
  by_cases q : j = i
  · subst q
    rcases h with ⟨ds, e⟩ | ⟨ds, e⟩
    · by_cases hl : j < ρ.length
      · rw [List.getElem?_set_self hl] at e; cases e
      · rw [List.getElem?_eq_none (by rw [List.length_set]; omega)] at e; cases e
    · by_cases hl : j < ρ.length
      · rw [List.getElem?_set_self hl] at e; cases e
      · rw [List.getElem?_eq_none (by rw [List.length_set]; omega)] at e; cases e
  · rcases h with ⟨ds, e⟩ | ⟨ds, e⟩
    · rw [List.getElem?_set_ne (Ne.symm q)] at e
      exact ⟨.inl ⟨ds, e⟩, q⟩
    · rw [List.getElem?_set_ne (Ne.symm q)] at e
      exact ⟨.inr ⟨ds, e⟩, q⟩
theorem cap_ok {F G H : Hp} {b : Addr} {σ : L2.St} {ρ ρ' : En} {v : V} {r : R} {d : D} (h : Rp F G H b σ ρ) (k : RsOk F G H σ ρ v r) (e : cap ρ r = some (d, ρ')) :
    ∃ F', Same F F' ∧ Cln F G F' ∧ Rp F' G H b σ ρ' ∧ Dv F' v d := by
  cases r with
  | sh d' =>
    cases e
    exact ⟨F, .refl _, .refl _ _, h, k⟩
  | fr ds =>
    cases e
    obtain ⟨p, vs, rfl, a, x, f, g, n⟩ := k
    have s1 : Same F (upd F p (.lst vs)) := same_upd f
    refine ⟨upd F p (.lst vs), s1, fun z gz fz => (upd_some fz).elim id fun w => absurd (w ▸ g) gz, h.grow s1 (.refl _) (fun z o q => ?_) (fun i p' o q => ?_), .lst upd_same (x.mono s1)⟩
    · by_cases hz : z = p
      · subst hz
        rw [upd_same] at q
        rw [a, q]
      · rw [upd_ne hz] at q
        exact h.fh _ _ q
    · obtain ⟨_, _, f', _⟩ := h.own_some o q
      rw [upd_ne (show p' ≠ p from fun z => n i o (by rw [← z]; exact q))]
      exact f'
  | bw i =>
    have k' : σ[i]? = some (some v) := k
    unfold cap at e
    cases q : ρ[i]? with
    | none => simp [q] at e
    | some w =>
      have s := h.slot i w q
      cases w with
      | no => simp [q] at e
      | io ds => simp [q] at e
      | sh d' =>
        simp only [q] at e
        cases e
        obtain ⟨v', a, c⟩ := s
        rw [k'] at a
        cases a
        exact ⟨F, .refl _, .refl _ _, h, c⟩
      | own ds =>
        simp only [q] at e
        cases e
        obtain ⟨p, vs, a, c, x, f, g⟩ := s
        rw [k'] at a
        cases a
        have s1 : Same F (upd F p (.lst vs)) := same_upd f
        have dvl : Dv (upd F p (.lst vs)) (.ref p) (.list ds) := .lst upd_same (x.mono s1)
        refine ⟨upd F p (.lst vs), s1, fun z gz fz => (upd_some fz).elim id fun w => absurd (w ▸ g) gz, ⟨fun z o q' => ?_, h.gh, by rw [List.length_set]; exact h.len, fun j m qj => ?_, fun i1 j1 p1 o1 o2 => h.ne i1 j1 p1 (own_set o1).1 (own_set o2).1⟩, dvl⟩
        · by_cases hz : z = p
          · subst hz
            rw [upd_same] at q'
            rw [c, q']
          · rw [upd_ne hz] at q'
            exact h.fh _ _ q'
        · by_cases hj : j = i
          · subst hj
            have hl : j < ρ.length := (List.getElem?_eq_some_iff.mp q).1
            rw [List.getElem?_set_self hl] at qj
            cases qj
            exact ⟨_, k', dvl⟩
          · rw [List.getElem?_set_ne (Ne.symm hj)] at qj
            have sj := h.slot j m qj
            have np : ∀ p', OwnAt ρ j → σ[j]? = some (some (.ref p')) → p' ≠ p := fun p' oj ej z => hj (h.ne j i p oj (.inl ⟨ds, q⟩) (z ▸ ej) k')
            cases m with
            | no => trivial
            | sh d1 =>
              obtain ⟨v1, a1, c1⟩ := sj
              exact ⟨v1, a1, c1.mono s1⟩
            | own ds1 =>
              obtain ⟨p1, vs1, a1, c1, x1, f1, g1⟩ := sj
              exact ⟨p1, vs1, a1, c1, x1.mono s1, by rw [upd_ne (np p1 (.inl ⟨ds1, qj⟩) a1)]; exact f1, g1⟩
            | io ds1 =>
              obtain ⟨a1, vs1, c1, x1, f1, g1⟩ := sj
              exact ⟨a1, vs1, c1, x1.mono s1, by rw [upd_ne (np b (.inr ⟨ds1, qj⟩) a1)]; exact f1, g1⟩

/-! ### lists of expressions, each captured -/
abbrev MA := En → Option (List D × En)
def tMA (m : MA) : TA := fun σ H Q => ∃ F G b ρ, Rp F G H b σ ρ ∧ ∃ ds ρ', m ρ = some (ds, ρ') ∧ ∀ F' H' vs, Same F F' → Cln F G F' → Rp F' G H' b σ ρ' → Dvs F' vs ds → Q vs H'
structure MAs (X : Cx) (es : List Expr) (m : MA) : Prop where
  ok : PA X es (tMA m)
def aNil : MA := fun ρ => some ([], ρ)
def mCap (m : MR) : En → Option (D × En) := fun ρ => do
  let (r, ρ1) ← m ρ
  cap ρ1 r
def aCons (m : MR) (ms : MA) : MA := fun ρ => do
  let (d, ρ1) ← mCap m ρ
  let (ds, ρ2) ← ms ρ1
  some (d :: ds, ρ2)
theorem ma_nil : MAs X [] aNil := ⟨pa_nil.imq fun σ H Q q => by
  obtain ⟨F, G, b, ρ, hr, ds, ρ', e, k⟩ := q
  cases e
  exact k F H [] (.refl _) (.refl _ _) hr .nil⟩
theorem ma_cons {es : List Expr} {ms : MA} (ha : ME X e m) (hr : MAs X es ms) (hs : starEach (e :: es) X.env = (false, eval e X.env) :: starEach es X.env := by rfl) : MAs X (e :: es) (aCons m ms) := ⟨(pa_cons ha.ok hr.ok hs).imq fun σ H Q q => by
  obtain ⟨F, G, b, ρ, h0, ds, ρ', e, k⟩ := q
  obtain ⟨⟨d, ρ1⟩, e1, e⟩ := bind_some e
  obtain ⟨⟨ds2, ρ2⟩, e2, e⟩ := bind_some e
  cases e
  obtain ⟨⟨r, ρ0⟩, e0, e1⟩ := bind_some e1
  refine ⟨F, G, b, ρ, h0, r, ρ0, e0, fun F1 H1 v1 s1 c1 h1 k1 => ?_⟩
  obtain ⟨F2, s2, c2, h2, dv⟩ := cap_ok h1 k1 e1
  exact ⟨F2, G, b, ρ1, h2, ds2, ρ', e2, fun F3 H3 vs s3 c3 h3 dvs => k F3 H3 _ (s1.trans (s2.trans s3)) (c1.trans (c2.trans c3)) h3 (.cons (dv.mono s3) dvs)⟩⟩
def mTup (ms : MA) : MR := fun ρ => do
  let (ds, ρ1) ← ms ρ
  if ds.length ≤ lim then some (.sh (.tuple ds), ρ1) else none
def mLst (ms : MA) : MR := fun ρ => do
  let (ds, ρ1) ← ms ρ
  if ds.length ≤ lim then some (.fr ds, ρ1) else none
theorem me_tup {es : List Expr} {ms : MA} {x1} (h : MAs X es ms) : ME X (.Tuple es x1 pos) (mTup ms) := ⟨(pe_tup h.ok).imq fun σ H Q q => by
  obtain ⟨F, G, b, ρ, h0, ds, ρ', e, k⟩ := q
  obtain ⟨⟨ds1, ρ1⟩, e1, e⟩ := bind_some e
  obtain ⟨hl, e⟩ := ite_some e
  cases e
  refine ⟨F, G, b, ρ, h0, ds1, _, e1, fun F1 H1 vs s1 c1 h1 dvs => ⟨by rw [dvs.len]; exact lim_le hl, fun p hp => ?_⟩⟩
  have P := post_tup h1.fh hp dvs
  exact k _ _ _ (s1.trans P.ff) (c1.trans (P.cln h1.gh)) (P.rp h1) (P.rs h1)⟩
theorem me_lst {es : List Expr} {ms : MA} (h : MAs X es ms) : ME X (.List es pos) (mLst ms) := ⟨(pe_lst h.ok).imq fun σ H Q q => by
  obtain ⟨F, G, b, ρ, h0, ds, ρ', e, k⟩ := q
  obtain ⟨⟨ds1, ρ1⟩, e1, e⟩ := bind_some e
  obtain ⟨hl, e⟩ := ite_some e
  cases e
  refine ⟨F, G, b, ρ, h0, ds1, _, e1, fun F1 H1 vs s1 c1 h1 dvs => ⟨by rw [dvs.len]; exact lim_le hl, fun p hp => ?_⟩⟩
  have P := post_fr h1.fh hp dvs
  exact k _ _ _ (s1.trans P.ff) (c1.trans (P.cln h1.gh)) (P.rp h1) (P.rs h1)⟩
end
end Mi
set_option Elab.async false
set_option linter.all false
set_option maxRecDepth 100000
/-! Core3: targets, what is walked, comprehensions, statements, loops. -/
namespace Mi
open PySem PySem.Spec PyProof.Rows L2
variable [KK]

/-! ### slots stored -/
section
variable {F G H : Hp} {b : Addr} {σ : L2.St} {ρ : En} {v : V} {d : D} {i : Nat}
/-- slot i holds no list that was handed in -/
def free1 (ρ : En) (i : Nat) : Bool := match ρ[i]? with
  | some (.io _) => false
  | some _ => true
  | none => false
theorem get_set {α : Type} {l : List α} {i j : Nat} {x m : α} (h : (l.set i x)[j]? = some m) : (j = i ∧ m = x) ∨ (j ≠ i ∧ l[j]? = some m) := by
  by_cases q : j = i
  · subst q
    by_cases hl : j < l.length
    · rw [List.getElem?_set_self hl] at h
      exact .inl ⟨rfl, (Option.some.inj h).symm⟩
    · rw [List.getElem?_eq_none (by rw [List.length_set]; omega)] at h
      cases h
  · rw [List.getElem?_set_ne (Ne.symm q)] at h
    exact .inr ⟨q, h⟩
theorem free1_lt (h : free1 ρ i = true) : i < ρ.length := by
  unfold free1 at h
  by_cases q : i < ρ.length
  · exact q
  · rw [List.getElem?_eq_none (by omega)] at h
    cases h
theorem own_set2 {m : M} {j : Nat} (h : OwnAt (ρ.set i m) j) : (j = i ∧ ((∃ ds, m = .own ds) ∨ ∃ ds, m = .io ds)) ∨ (j ≠ i ∧ OwnAt ρ j) := by
  rcases h with ⟨ds, e⟩ | ⟨ds, e⟩
  · rcases get_set e with ⟨a, b⟩ | ⟨a, b⟩
    · exact .inl ⟨a, .inl ⟨ds, b.symm⟩⟩
    · exact .inr ⟨a, .inl ⟨ds, b⟩⟩
  · rcases get_set e with ⟨a, b⟩ | ⟨a, b⟩
    · exact .inl ⟨a, .inr ⟨ds, b.symm⟩⟩
    · exact .inr ⟨a, .inr ⟨ds, b⟩⟩
theorem SlotOk.at {σ' : L2.St} {i : Nat} {m : M} (h : SlotOk F G H b σ i m) (e : σ'[i]? = σ[i]?) : SlotOk F G H b σ' i m := by
  cases m with
  | no => trivial
  | sh d =>
    obtain ⟨v, a, c⟩ := h
    exact ⟨v, e.trans a, c⟩
  | own ds =>
    obtain ⟨p, vs, a, c⟩ := h
    exact ⟨p, vs, e.trans a, c⟩
  | io ds =>
    obtain ⟨a, c⟩ := h
    exact ⟨e.trans a, c⟩
/-- a slot gets shared data -/
theorem Rp.setSh (h : Rp F G H b σ ρ) (hi : i < ρ.length) (dv : Dv F v d) : Rp F G H b (σ.set i (some v)) (ρ.set i (.sh d)) := by
  have hiσ : i < σ.length := by rw [← h.len]; exact hi
  refine ⟨h.fh, h.gh, by rw [List.length_set, List.length_set]; exact h.len, fun j m q => ?_, fun j k p oj ok ej ek => ?_⟩
  · rcases get_set q with ⟨rfl, rfl⟩ | ⟨hj, q⟩
    · exact ⟨v, List.getElem?_set_self hiσ, dv⟩
    · exact (h.slot j m q).at (List.getElem?_set_ne (Ne.symm hj))
  · rcases own_set2 oj with ⟨_, ⟨_, z⟩ | ⟨_, z⟩⟩ | ⟨hj, oj⟩
    · cases z
    · cases z
    · rcases own_set2 ok with ⟨_, ⟨_, z⟩ | ⟨_, z⟩⟩ | ⟨hk, ok⟩
      · cases z
      · cases z
      · rw [List.getElem?_set_ne (Ne.symm hj)] at ej
        rw [List.getElem?_set_ne (Ne.symm hk)] at ek
        exact h.ne j k p oj ok ej ek
/-- a slot gets a new list of its own -/
theorem Rp.setOwn {p : Addr} {vs : List V} {ds : List D} (h : Rp F G H b σ ρ) (hi : i < ρ.length) (a : H p = some (.lst vs)) (x : Dvs F vs ds) (f : F p = none) (g : G p = none) (n : ∀ j, OwnAt ρ j → σ[j]? ≠ some (some (.ref p))) :
    Rp F G H b (σ.set i (some (.ref p))) (ρ.set i (.own ds)) := by
  have hiσ : i < σ.length := by rw [← h.len]; exact hi
  refine ⟨h.fh, h.gh, by rw [List.length_set, List.length_set]; exact h.len, fun j m q => ?_, fun j k p' oj ok ej ek => ?_⟩
  · rcases get_set q with ⟨rfl, rfl⟩ | ⟨hj, q⟩
    · exact ⟨p, vs, List.getElem?_set_self hiσ, a, x, f, g⟩
    · exact (h.slot j m q).at (List.getElem?_set_ne (Ne.symm hj))
  · rcases own_set2 oj with ⟨ej', _⟩ | ⟨hj, oj'⟩
    · rcases own_set2 ok with ⟨ek', _⟩ | ⟨hk, ok'⟩
      · rw [ej', ek']
      · subst ej'
        rw [List.getElem?_set_self hiσ] at ej
        cases ej
        rw [List.getElem?_set_ne (Ne.symm hk)] at ek
        exact absurd ek (n k ok')
    · rcases own_set2 ok with ⟨ek', _⟩ | ⟨hk, ok'⟩
      · subst ek'
        rw [List.getElem?_set_self hiσ] at ek
        cases ek
        rw [List.getElem?_set_ne (Ne.symm hj)] at ej
        exact absurd ej (n j oj')
      · rw [List.getElem?_set_ne (Ne.symm hj)] at ej
        rw [List.getElem?_set_ne (Ne.symm hk)] at ek
        exact h.ne j k p' oj' ok' ej ek
end
/-- a result is stored in slot i -/
def asg (ρ : En) (i : Nat) : R → Option En
  | .fr ds => if free1 ρ i = true then some (ρ.set i (.own ds)) else none
  | r => do
    let (d, ρ1) ← cap ρ r
    if free1 ρ1 i = true then some (ρ1.set i (.sh d)) else none
theorem asg_ok {F G H : Hp} {b : Addr} {σ : L2.St} {ρ ρ' : En} {v : V} {r : R} {i : Nat} (h : Rp F G H b σ ρ) (k : RsOk F G H σ ρ v r) (e : asg ρ i r = some ρ') :
    ∃ F', Same F F' ∧ Cln F G F' ∧ Rp F' G H b (σ.set i (some v)) ρ' := by
  have sh : ∀ r, RsOk F G H σ ρ v r → (do let (d, ρ1) ← cap ρ r; if free1 ρ1 i = true then some (ρ1.set i (.sh d)) else none) = some ρ' → ∃ F', Same F F' ∧ Cln F G F' ∧ Rp F' G H b (σ.set i (some v)) ρ' := fun r k e => by
    obtain ⟨⟨d, ρ1⟩, e1, e⟩ := bind_some e
    obtain ⟨hf, e⟩ := ite_some e
    cases e
    obtain ⟨F', s1, c1, h1, dv⟩ := cap_ok h k e1
    exact ⟨F', s1, c1, h1.setSh (free1_lt hf) dv⟩
  cases r with
  | sh d => exact sh _ k e
  | bw j => exact sh _ k e
  | fr ds =>
    obtain ⟨hf, e⟩ := ite_some (show (if free1 ρ i = true then some (ρ.set i (.own ds)) else none) = some ρ' from e)
    cases e
    obtain ⟨p, vs, rfl, a, x, f, g, n⟩ := k
    exact ⟨F, .refl _, .refl _ _, h.setOwn (free1_lt hf) a x f g n⟩

/-! ### targets of loops -/
theorem wipe_ne {σ : L2.St} {i : Nat} : ∀ {vs : List Nat}, i ∉ vs → (wipe σ vs)[i]? = σ[i]?
  | [], _ => rfl
  | v :: vs, h => by
    unfold wipe
    have h1 : v ≠ i := fun z => h (by rw [z]; exact List.mem_cons_self)
    rw [List.getElem?_set_ne h1]
    exact wipe_ne fun z => h (List.mem_cons_of_mem _ z)
theorem wipe_in {σ : L2.St} {i : Nat} : ∀ {vs : List Nat}, i ∈ vs → i < σ.length → (wipe σ vs)[i]? = some none
  | v :: vs, h, hl => by
    unfold wipe
    by_cases q : v = i
    · subst q
      exact List.getElem?_set_self (by rw [wipe_length]; exact hl)
    · rw [List.getElem?_set_ne q]
      refine wipe_in ?_ hl
      rcases List.mem_cons.mp h with z | z
      · exact absurd z.symm q
      · exact z
theorem wipe_set {σ : L2.St} {i : Nat} {o : Option V} {vs : List Nat} (h : i ∈ vs) : wipe (σ.set i o) vs = wipe σ vs := by
  apply List.ext_getElem?
  intro j
  by_cases q : j ∈ vs
  · by_cases hl : j < σ.length
    · rw [wipe_in q hl, wipe_in q (by rw [List.length_set]; exact hl)]
    · rw [List.getElem?_eq_none (by rw [wipe_length, List.length_set]; omega), List.getElem?_eq_none (by rw [wipe_length]; omega)]
  · rw [wipe_ne q, wipe_ne q, List.getElem?_set_ne]
    intro z
    exact q (z ▸ h)
abbrev MG := D → En → Option En
def tMG (g : MG) (ws : List Nat) : TG := fun v σ H Q => ∃ F G b ρ d, Rp F G H b σ ρ ∧ Dv F v d ∧ ∃ ρ', g d ρ = some ρ' ∧ ∀ σ', Rp F G H b σ' ρ' → (∀ vs, (∀ i ∈ ws, i ∈ vs) → wipe σ' vs = wipe σ vs) → Q σ' H
structure MGt (X : Cx) (tg : Expr) (g : MG) (ws : List Nat) : Prop where
  ok : PG X tg (tMG g ws)
def gNm (i : Nat) : MG := fun d ρ => if free1 ρ i = true then some (ρ.set i (.sh d)) else none
theorem _root_.L2.PG.imq {X : Cx} {e : Expr} {t t' : TG} (h : PG X e t) (i : ∀ v σ H Q, t' v σ H Q → t v σ H Q) : PG X e t' := ⟨fun pins s σ H v u Q I r q => h.run pins s σ H v u Q I r (i v σ H Q q)⟩
theorem _root_.L2.PI.imq {X : Cx} {tg e : Expr} {t t' : TI} (h : PI X tg e t) (i : ∀ σ H Q, t' σ H Q → t σ H Q) : PI X tg e t' := ⟨fun pins s σ H R I q => h.run pins s σ H R I (i σ H R q)⟩
section
variable {X : Cx} {e a b c tg : Expr} {pos : Pos} {m ma mb mc : MR} {t u : MB}
theorem mg_name {i : Nat} {x : Str} (h : PG X (.Name x pos) (gName i)) : MGt X (.Name x pos) (gNm i) [i] := ⟨h.imq fun v σ H Q q => by
  obtain ⟨F, G, b, ρ, d, hr, dv, ρ', e, k⟩ := q
  obtain ⟨hf, e⟩ := ite_some e
  cases e
  exact k _ (hr.setSh (free1_lt hf) dv) fun vs hv => wipe_set (hv i (by simp))⟩
abbrev MGs' := List D → En → Option En
def tMGs (g : MGs') (ws : List Nat) : TGs := fun vs σ H Q => ∃ F G b ρ ds, Rp F G H b σ ρ ∧ Dvs F vs ds ∧ ∃ ρ', g ds ρ = some ρ' ∧ ∀ σ', Rp F G H b σ' ρ' → (∀ vs, (∀ i ∈ ws, i ∈ vs) → wipe σ' vs = wipe σ vs) → Q σ' H
structure MGts (X : Cx) (tg : List Expr) (g : MGs') (ws : List Nat) : Prop where
  ok : PGs X tg (tMGs g ws)
def gNil' : MGs' := fun ds ρ => match ds with
  | [] => some ρ
  | _ :: _ => none
def gCons' (g : MG) (gs : MGs') : MGs' := fun ds ρ => match ds with
  | [] => none
  | d :: r => do
    let ρ1 ← g d ρ
    gs r ρ1
theorem _root_.L2.PGs.imq {X : Cx} {e : List Expr} {t t' : TGs} (h : PGs X e t) (i : ∀ v σ H Q, t' v σ H Q → t v σ H Q) : PGs X e t' := ⟨fun pins s σ H v u Q I r q => h.run pins s σ H v u Q I r (i v σ H Q q)⟩
theorem mgs_nil : MGts X [] gNil' [] := ⟨pgs_nil.imq fun vs σ H Q q => by
  obtain ⟨F, G, b, ρ, ds, hr, dv, ρ', e, k⟩ := q
  cases dv with
  | nil =>
    cases e
    exact ⟨rfl, k σ hr fun _ _ => rfl⟩
  | cons _ _ => cases e⟩
theorem mgs_cons {es : List Expr} {g : MG} {gs : MGs'} {w1 w2 : List Nat} (h1 : MGt X e g w1) (h2 : MGts X es gs w2) (hs : (assignEach (e :: es) X.env).map (·.2) = assign e X.env :: (assignEach es X.env).map (·.2) := by rfl) : MGts X (e :: es) (gCons' g gs) (w1 ++ w2) :=
  ⟨(pgs_cons h1.ok h2.ok hs).imq fun vs σ H Q q => by
    obtain ⟨F, G, b, ρ, ds, hr, dv, ρ', e, k⟩ := q
    cases dv with
    | nil => cases e
    | cons dv dvs =>
      obtain ⟨ρ1, e1, e2⟩ := bind_some e
      refine ⟨_, _, rfl, F, G, b, ρ, _, hr, dv, ρ1, e1, fun σ1 hr1 w1' => ?_⟩
      refine ⟨F, G, b, ρ1, _, hr1, dvs, ρ', e2, fun σ2 hr2 w2' => k σ2 hr2 fun vs hv => ?_⟩
      rw [w2' vs fun i hi => hv i (List.mem_append_right _ hi), w1' vs fun i hi => hv i (List.mem_append_left _ hi)]⟩
def gTp (n : Nat) (gs : MGs') : MG := fun d ρ => match d with
  | .tuple ds => if ds.length = n then gs ds ρ else none
  | _ => none
theorem ite_some' {α : Type} {c : Prop} [Decidable c] {a : Option α} {z : α} (h : (if c then a else none) = some z) : c ∧ a = some z := by
  by_cases q : c
  · rw [if_pos q] at h
    exact ⟨q, h⟩
  · rw [if_neg q] at h
    cases h
theorem mg_tup {es : List Expr} {k n : Nat} {gs : MGs'} {ws : List Nat} (hc : X.calm = true) (h : MGts X es gs ws) (hn : (assignEach es X.env).length = n := by rfl) (hst : (assignEach es X.env).findIdx? (·.1) = none := by rfl) : MGt X (.Tuple es k pos) (gTp n gs) ws :=
  ⟨(pg_tup hc h.ok hn hst).imq fun v σ H Q q => by
    obtain ⟨F, G, b, ρ, d, hr, dv, ρ', e, k⟩ := q
    cases dv with
    | tup hx dvs =>
      obtain ⟨hl, e⟩ := ite_some' (show (if _ = n then gs _ ρ else none) = some ρ' from e)
      exact ⟨_, _, rfl, .of (hr.fh _ _ hx), by rw [dvs.len]; exact hl, F, G, b, ρ, _, hr, dvs, ρ', e, k⟩
    | non => cases e
    | bl _ => cases e
    | int _ => cases e
    | str _ => cases e
    | lst _ _ => cases e
    | frz _ _ => cases e⟩

/-! ### what is walked -/
structure Wk (J : It) (F : Hp) (ds : List D) : Prop where
  go : ∀ i H, i < ds.length → Same F H → J.go i H
  stop : ∀ H, Same F H → J.stop ds.length H
  yld : ∀ i F1 H x H', i < ds.length → Same F F1 → Same F1 H → J.yld i H x H' → ∃ F2 d, ds[i]? = some d ∧ Post F1 H (.sh d) F2 H' x
abbrev MI := En → Option (List D × En)
def tMI (m : MI) : TI := fun σ H R => ∃ F G b ρ, Rp F G H b σ ρ ∧ ∃ ds ρ', m ρ = some (ds, ρ') ∧ ∀ F' H' J, Same F F' → Cln F G F' → Rp F' G H' b σ ρ' → Wk J F' ds → R J H'
structure MIt (X : Cx) (tg e : Expr) (m : MI) : Prop where
  ok : PI X tg e (tMI m)
def charsD (z : Str) : List D := z.cps.toList.map fun c => .str ⟨#[c]⟩
def itemsD : D → Option (List D)
  | .list ds => some ds
  | .tuple ds => some ds
  | .str z => some (charsD z)
  | _ => none
def mIter (m : MR) : MI := fun ρ => do
  let (d, ρ1) ← mCap m ρ
  let ds ← itemsD d
  some (ds, ρ1)
theorem wk_list {K : Fr0} {F : Hp} {p : Addr} {vs : List V} {ds : List D} (h : F p = some (.lst vs)) (a : Dvs F vs ds) : Wk (Itl K p) F ds := by
  refine ⟨fun i H hi s => ?_, fun H s => ⟨vs, .of (s _ _ h), by rw [a.len]; exact Nat.le_refl _⟩, fun i F1 H x H' hi s1 s2 y => ?_⟩
  · have hv : i < vs.length := by rw [a.len]; exact hi
    exact ⟨vs, vs[i], .of (s _ _ h), List.getElem?_eq_getElem hv⟩
  · obtain ⟨rfl, y⟩ := y
    obtain ⟨v, e1, dv⟩ := a.get (List.getElem?_eq_getElem hi)
    have e2 := y vs (.of (s2 _ _ (s1 _ _ h)))
    rw [e1] at e2
    cases e2
    exact ⟨F1, _, List.getElem?_eq_getElem hi, post_sh s2 (dv.mono s1)⟩
theorem wk_tup {K : Fr0} {F : Hp} {p : Addr} {vs : List V} {ds : List D} (h : F p = some (.tup vs)) (a : Dvs F vs ds) : Wk (Itt K p) F ds := by
  refine ⟨fun i H hi s => ?_, fun H s => ⟨vs, .of (s _ _ h), by rw [a.len]; exact Nat.le_refl _⟩, fun i F1 H x H' hi s1 s2 y => ?_⟩
  · have hv : i < vs.length := by rw [a.len]; exact hi
    exact ⟨vs, vs[i], .of (s _ _ h), List.getElem?_eq_getElem hv⟩
  · obtain ⟨rfl, y⟩ := y
    obtain ⟨v, e1, dv⟩ := a.get (List.getElem?_eq_getElem hi)
    have e2 := y vs (.of (s2 _ _ (s1 _ _ h)))
    rw [e1] at e2
    cases e2
    exact ⟨F1, _, List.getElem?_eq_getElem hi, post_sh s2 (dv.mono s1)⟩
theorem charsD_len (z : Str) : (charsD z).length = z.cps.size := by
  unfold charsD
  rw [List.length_map, Array.length_toList]
theorem wk_str {F : Hp} {z : Str} : Wk (Its z) F (charsD z) := by
  refine ⟨fun i H hi s => by rw [charsD_len] at hi; exact hi, fun H s => by rw [charsD_len]; exact Nat.le_refl _, fun i F1 H x H' hi s1 s2 y => ?_⟩
  obtain ⟨rfl, c, hc, rfl⟩ := y
  refine ⟨F1, .str ⟨#[c]⟩, ?_, post_sh s2 (.str _)⟩
  unfold charsD
  rw [List.getElem?_map, Array.getElem?_toList, hc]
  rfl
theorem mi_of (ha : ME X a ma) : MIt X tg a (mIter ma) := ⟨by
  have pl := pi_list (tg := tg) ha.ok
  have pt := pi_tup (tg := tg) ha.ok
  have ps := pi_str (tg := tg) ha.ok
  refine ⟨fun pins s σ H R I q => ?_⟩
  obtain ⟨F, G, b, ρ, hr, ds, ρ', e, k⟩ := q
  obtain ⟨⟨d, ρ1⟩, e1, e⟩ := bind_some e
  obtain ⟨ds1, e2, e⟩ := bind_some e
  cases e
  obtain ⟨⟨r, ρ0⟩, e0, e1⟩ := bind_some e1
  -- the three roads share the operand
  have step : ∀ (Z : V → Hp → Prop), (∀ F2 H1 v1, Same F F2 → Cln F G F2 → Rp F2 G H1 b σ ρ' → Dv F2 v1 d → Z v1 H1) → tM ma σ H Z := fun Z z =>
    ⟨F, G, b, ρ, hr, r, ρ0, e0, fun F1 H1 v1 s1 c1 h1 k1 => by
      obtain ⟨F2, s2, c2, h2, dv⟩ := cap_ok h1 k1 e1
      exact z F2 H1 v1 (s1.trans s2) (c1.trans c2) h2 dv⟩
  cases d with
  | list xs =>
    cases e2
    refine pl.run pins s σ H R I (step _ fun F2 H1 v1 s1 c1 h1 dv => ?_)
    cases dv with
    | lst hx dvs => exact ⟨_, rfl, ⟨_, .of (h1.fh _ _ hx)⟩, k F2 H1 _ s1 c1 h1 (wk_list hx dvs)⟩
  | tuple xs =>
    cases e2
    refine pt.run pins s σ H R I (step _ fun F2 H1 v1 s1 c1 h1 dv => ?_)
    cases dv with
    | tup hx dvs => exact ⟨_, rfl, ⟨_, .of (h1.fh _ _ hx)⟩, k F2 H1 _ s1 c1 h1 (wk_tup hx dvs)⟩
  | str z =>
    cases e2
    refine ps.run pins s σ H R I (step _ fun F2 H1 v1 s1 c1 h1 dv => ?_)
    cases dv with
    | str z => exact ⟨_, rfl, k F2 H1 _ s1 c1 h1 wk_str⟩
  | none => cases e2
  | bool _ => cases e2
  | int _ => cases e2
  | dict _ => cases e2⟩
/-! ranges -/
def rangeL (lo : Int) : Nat → List Int
  | 0 => []
  | n + 1 => lo :: rangeL (lo + 1) n
theorem rangeL_len (lo : Int) : ∀ n, (rangeL lo n).length = n
  | 0 => rfl
  | n + 1 => by unfold rangeL; rw [List.length_cons, rangeL_len (lo + 1) n]
theorem rangeL_get : ∀ (lo : Int) (n i : Nat), i < n → (rangeL lo n)[i]? = some (lo + i)
  | lo, n + 1, 0, _ => by
    unfold rangeL
    show some lo = some (lo + ((0 : Nat) : Int))
    rw [show lo + ((0 : Nat) : Int) = lo by omega]
  | lo, n + 1, i + 1, h => by
    unfold rangeL
    rw [List.getElem?_cons_succ, rangeL_get (lo + 1) n i (by omega)]
    congr 1
    omega
def rangeD (lo hi : Int) : List D := (rangeL lo (hi - lo).toNat).map .int
theorem wk_range {F : Hp} {lo : Int} {n : Nat} : Wk (Itr lo n) F ((rangeL lo n).map .int) := by
  refine ⟨fun i H hi s => by rw [List.length_map, rangeL_len] at hi; exact hi, fun H s => by rw [List.length_map, rangeL_len]; exact Nat.le_refl _, fun i F1 H x H' hi s1 s2 y => ?_⟩
  obtain ⟨rfl, rfl⟩ := y
  rw [List.length_map, rangeL_len] at hi
  exact ⟨F1, _, by rw [List.getElem?_map, rangeL_get lo n i hi]; rfl, post_sh s2 (.int _)⟩
def i62 (i : Int) : Bool := decide (-(2 ^ 62) ≤ i) && decide (i < 2 ^ 62)
def mRange1 (ms : MA) : MI := fun ρ => do
  let (ds, ρ1) ← ms ρ
  match ds with
  | [.int j] => if i62 j = true then some (rangeD 0 j, ρ1) else none
  | _ => none
def mRange2 (ms : MA) : MI := fun ρ => do
  let (ds, ρ1) ← ms ρ
  match ds with
  | [.int i, .int j] => if (i62 i && i62 j) = true then some (rangeD i j, ρ1) else none
  | _ => none
theorem i62_ok {i : Int} (h : i62 i = true) : -(2 ^ 62) ≤ i ∧ i < 2 ^ 62 := by
  unfold i62 at h
  have := Bool.and_eq_true_iff.mp h
  exact ⟨of_decide_eq_true this.1, of_decide_eq_true this.2⟩
variable {ms : MA} {p : Pos}
theorem mi_range1 (hg : Gl X "range") (hm : X.mg "range" = none) (ha : MAs X [a] ms) (hs : starEach [a] X.env = [(false, eval a X.env)] := by rfl) : MIt X tg (.Call (.Name "range" p) [a] [] pos) (mRange1 ms) := ⟨(pi_range1 hg hm ha.ok hs).imq fun σ H R q => by
  obtain ⟨F, G, b, ρ, hr, ds, ρ', e, k⟩ := q
  obtain ⟨⟨ds1, ρ1⟩, e1, e⟩ := bind_some e
  refine ⟨F, G, b, ρ, hr, ds1, ρ1, e1, fun F1 H1 vs s1 c1 h1 dvs => ?_⟩
  match ds1, dvs, e with
  | [.int j], .cons (.int _) .nil, e =>
    obtain ⟨hj, e⟩ := ite_some (show (if i62 j = true then some (rangeD 0 j, ρ1) else none) = some (ds, ρ') from e)
    cases e
    have b62 := i62_ok hj
    refine ⟨j, rfl, b62.1, b62.2, k F1 H1 _ s1 c1 h1 ?_⟩
    have := wk_range (F := F1) (lo := 0) (n := j.toNat)
    unfold rangeD
    rw [show (j - 0).toNat = j.toNat by omega]
    exact this⟩
theorem mi_range2 (hg : Gl X "range") (hm : X.mg "range" = none) (ha : MAs X [a, b] ms) (hs : starEach [a, b] X.env = [(false, eval a X.env), (false, eval b X.env)] := by rfl) (hs2 : starEach [b] X.env = [(false, eval b X.env)] := by rfl) :
    MIt X tg (.Call (.Name "range" p) [a, b] [] pos) (mRange2 ms) := ⟨(pi_range2 hg hm ha.ok hs hs2).imq fun σ H R q => by
  obtain ⟨F, G, b, ρ, hr, ds, ρ', e, k⟩ := q
  obtain ⟨⟨ds1, ρ1⟩, e1, e⟩ := bind_some e
  refine ⟨F, G, b, ρ, hr, ds1, ρ1, e1, fun F1 H1 vs s1 c1 h1 dvs => ?_⟩
  match ds1, dvs, e with
  | [.int i, .int j], .cons (.int _) (.cons (.int _) .nil), e =>
    obtain ⟨hj, e⟩ := ite_some (show (if (i62 i && i62 j) = true then some (rangeD i j, ρ1) else none) = some (ds, ρ') from e)
    cases e
    have hj := Bool.and_eq_true_iff.mp hj
    have b1 := i62_ok hj.1
    have b2 := i62_ok hj.2
    exact ⟨i, j, rfl, ⟨b1.1, b1.2, b2.1, b2.2⟩, k F1 H1 _ s1 c1 h1 wk_range⟩⟩
end
end Mi
set_option Elab.async false
set_option linter.all false
set_option maxRecDepth 100000
/-! Core4: comprehensions, statements, loops, defs. -/
namespace Mi
open PySem PySem.Spec PyProof.Rows L2
variable [KK]

/-! ### comprehensions -/
def wipeE (ρ : En) : List Nat → En
  | [] => ρ
  | v :: vs => (wipeE ρ vs).set v .no
def backE (ρ ρ1 : En) : List Nat → En
  | [] => ρ1
  | v :: vs => (backE ρ ρ1 vs).set v (ρ.getD v .no)
def okW (ρ : En) (vs : List Nat) : Bool := vs.all fun v => match ρ[v]? with
  | some (.own _) => false
  | some (.io _) => false
  | _ => true
theorem wipeE_len (ρ : En) : ∀ vs, (wipeE ρ vs).length = ρ.length
  | [] => rfl
  | v :: vs => by unfold wipeE; rw [List.length_set, wipeE_len ρ vs]
theorem backE_len (ρ ρ1 : En) : ∀ vs, (backE ρ ρ1 vs).length = ρ1.length
  | [] => rfl
  | v :: vs => by unfold backE; rw [List.length_set, backE_len ρ ρ1 vs]
theorem wipeE_get {ρ : En} {i : Nat} {m : M} : ∀ {vs : List Nat}, (wipeE ρ vs)[i]? = some m → (i ∈ vs ∧ m = .no) ∨ (i ∉ vs ∧ ρ[i]? = some m)
  | [], h => .inr ⟨by simp, h⟩
  | v :: vs, h => by
    unfold wipeE at h
    rcases get_set h with ⟨rfl, rfl⟩ | ⟨hj, h⟩
    · exact .inl ⟨List.mem_cons_self, rfl⟩
    · rcases wipeE_get h with ⟨a, b⟩ | ⟨a, b⟩
      · exact .inl ⟨List.mem_cons_of_mem _ a, b⟩
      · refine .inr ⟨fun z => ?_, b⟩
        rcases List.mem_cons.mp z with z | z
        · exact hj z
        · exact a z
theorem backE_get {ρ ρ1 : En} {i : Nat} {m : M} : ∀ {vs : List Nat}, (backE ρ ρ1 vs)[i]? = some m → (i ∈ vs ∧ m = ρ.getD i .no) ∨ (i ∉ vs ∧ ρ1[i]? = some m)
  | [], h => .inr ⟨by simp, h⟩
  | v :: vs, h => by
    unfold backE at h
    rcases get_set h with ⟨rfl, rfl⟩ | ⟨hj, h⟩
    · exact .inl ⟨List.mem_cons_self, rfl⟩
    · rcases backE_get h with ⟨a, b⟩ | ⟨a, b⟩
      · exact .inl ⟨List.mem_cons_of_mem _ a, b⟩
      · refine .inr ⟨fun z => ?_, b⟩
        rcases List.mem_cons.mp z with z | z
        · exact hj z
        · exact a z
section
variable {F F' G H H' : Hp} {b : Addr} {σ σ2 : L2.St} {ρ ρ3 : En} {vs : List Nat}
theorem Rp.wiped (h : Rp F G H b σ ρ) : Rp F G H b (wipe σ vs) (wipeE ρ vs) := by
  have oo : ∀ i, OwnAt (wipeE ρ vs) i → OwnAt ρ i ∧ i ∉ vs := fun i o => by
    rcases o with ⟨ds, e⟩ | ⟨ds, e⟩
    · rcases wipeE_get e with ⟨_, z⟩ | ⟨a, z⟩
      · cases z
      · exact ⟨.inl ⟨ds, z⟩, a⟩
    · rcases wipeE_get e with ⟨_, z⟩ | ⟨a, z⟩
      · cases z
      · exact ⟨.inr ⟨ds, z⟩, a⟩
  refine ⟨h.fh, h.gh, by rw [wipeE_len, wipe_length]; exact h.len, fun i m q => ?_, fun i j p oi oj ei ej => ?_⟩
  · rcases wipeE_get q with ⟨_, rfl⟩ | ⟨hi, q⟩
    · trivial
    · exact (h.slot i m q).at (wipe_ne hi)
  · obtain ⟨oi, ni⟩ := oo i oi
    obtain ⟨oj, nj⟩ := oo j oj
    rw [wipe_ne ni] at ei
    rw [wipe_ne nj] at ej
    exact h.ne i j p oi oj ei ej
/-- behind a turn of a comprehension: its own slots are what they were -/
theorem Rp.backed (h0 : Rp F G H b σ ρ) (e : Same F F') (h : Rp F' G H' b σ2 ρ3) (w : wipe σ2 vs = wipe σ vs) (ok : okW ρ vs = true) : Rp F' G H' b σ (backE ρ ρ3 vs) := by
  have ls : σ2.length = σ.length := by
    have := congrArg List.length w
    rw [wipe_length, wipe_length] at this
    exact this
  have out : ∀ i, i ∉ vs → σ[i]? = σ2[i]? := fun i hi => by rw [← wipe_ne (σ := σ2) hi, w, wipe_ne hi]
  have noW : ∀ i, i ∈ vs → ∀ m, m = ρ.getD i .no → (m = .no ∨ ∃ d, m = .sh d ∧ ρ[i]? = some m) := fun i hi m hm => by
    have q := List.all_eq_true.mp ok i hi
    rw [List.getD_eq_getElem?_getD] at hm
    cases z : ρ[i]? with
    | none => rw [z] at hm; exact .inl hm
    | some w =>
      rw [z] at hm q
      cases w with
      | no => exact .inl hm
      | sh d => exact .inr ⟨d, hm, by rw [hm]; rfl⟩
      | own ds => cases q
      | io ds => cases q
  have oo : ∀ i, OwnAt (backE ρ ρ3 vs) i → OwnAt ρ3 i ∧ i ∉ vs := fun i o => by
    rcases o with ⟨ds, e⟩ | ⟨ds, e⟩
    · rcases backE_get e with ⟨a, z⟩ | ⟨a, z⟩
      · rcases noW i a _ z with q | ⟨d, q, _⟩ <;> cases q
      · exact ⟨.inl ⟨ds, z⟩, a⟩
    · rcases backE_get e with ⟨a, z⟩ | ⟨a, z⟩
      · rcases noW i a _ z with q | ⟨d, q, _⟩ <;> cases q
      · exact ⟨.inr ⟨ds, z⟩, a⟩
  refine ⟨h.fh, h.gh, by rw [backE_len, h.len, ls], fun i m q => ?_, fun i j p oi oj ei ej => ?_⟩
  · rcases backE_get q with ⟨a, z⟩ | ⟨a, z⟩
    · rcases noW i a m z with rfl | ⟨d, rfl, q⟩
      · trivial
      · obtain ⟨v, c, dv⟩ := h0.slot i _ q
        exact ⟨v, c, dv.mono e⟩
    · exact (h.slot i m z).at (out i a)
  · obtain ⟨oi, ni⟩ := oo i oi
    obtain ⟨oj, nj⟩ := oo j oj
    rw [out i ni] at ei
    rw [out j nj] at ej
    exact h.ne i j p oi oj ei ej
end
theorem wipe_wipe {σ : L2.St} {vs : List Nat} : wipe (wipe σ vs) vs = wipe σ vs := by
  apply List.ext_getElem?
  intro j
  by_cases q : j ∈ vs
  · by_cases hl : j < σ.length
    · rw [wipe_in q hl, wipe_in q (by rw [wipe_length]; exact hl)]
    · rw [List.getElem?_eq_none (by rw [wipe_length, wipe_length]; omega), List.getElem?_eq_none (by rw [wipe_length]; omega)]
  · rw [wipe_ne q]
def mYes : MB := fun ρ => some (true, ρ)
def lcGo (g : MG) (t : MB) (el : MR) (vs : List Nat) : List D → En → List D → Option (List D × En)
  | [], ρ, acc => some (acc, ρ)
  | d :: ds, ρ, acc => do
    let ρ1 ← g d (wipeE ρ vs)
    let (k, ρ2) ← t ρ1
    if k = true then do
      let (y, ρ3) ← mCap el ρ2
      if acc.length < lim then lcGo g t el vs ds (backE ρ ρ3 vs) (acc ++ [y]) else none
    else lcGo g t el vs ds (backE ρ ρ2 vs) acc
def mLc (it : MI) (g : MG) (t : MB) (el : MR) (vs : List Nat) : MR := fun ρ => do
  let (ds, ρ1) ← it ρ
  if okW ρ1 vs = true then do
    let (acc, ρ2) ← lcGo g t el vs ds ρ1 []
    some (.fr acc, ρ2)
  else none
theorem okW_back {ρ ρ3 : En} {vs : List Nat} (hl : ρ3.length = ρ.length) (h : okW ρ vs = true) : okW (backE ρ ρ3 vs) vs = true := by
  unfold okW at h ⊢
  rw [List.all_eq_true] at h ⊢
  intro i hi
  have q := h i hi
  cases z : (backE ρ ρ3 vs)[i]? with
  | none => rfl
  | some m =>
    rcases backE_get z with ⟨_, e⟩ | ⟨e, _⟩
    · rw [List.getD_eq_getElem?_getD] at e
      cases y : ρ[i]? with
      | none => rw [y] at e; subst e; rfl
      | some w =>
        rw [y] at e q
        cases w <;> first | (cases q; done) | (subst e; rfl)
    · exact absurd hi e
/-- the tests of a clause -/
structure MTs (X : Cx) (ifs : List Expr) (t : MB) : Prop where
  ok : PTs X ifs (tMB t)
theorem mts_nil {X : Cx} : MTs X [] mYes := ⟨⟨fun pins s σ H Q I q => pts_nil.run pins s σ H Q I (by
  obtain ⟨F, G, b, ρ, hr, r, ρ', e, k⟩ := q
  cases e
  exact k F H (.refl _) (.refl _ _) hr)⟩⟩
theorem mts_one {X : Cx} {c : Expr} {t : MB} (h : MT X c t) : MTs X [c] t := ⟨pts_one h.ok⟩
theorem same_less {G H : Hp} {p : Addr} (h : G p = none) {o : HO} (e : Same (upd G p o) H) : Same G H := (same_upd h).trans e
section
variable {X : Cx} {elt tg iter : Expr} {ifs : List Expr} {scope : Scope} {own : List (Str × Nat)} {pos : Pos} {it : MI} {g : MG} {t : MB} {el : MR}
/-- the loop of a comprehension: from the reading by plain functions to the layer's -/
theorem lc_read {ws : List Nat} {vs : List Nat} (hws : ∀ i ∈ ws, i ∈ vs) {σ : L2.St} {H : Hp} {Q : VK} (q : tM (mLc it g t el vs) σ H Q) : tLc (tMI it) (tMG g ws) (tMB t) (tM el) vs σ H Q := by
  obtain ⟨F, G, b, ρ, hr, r, ρ', e, k⟩ := q
  obtain ⟨⟨ds, ρ1⟩, e1, e⟩ := bind_some e
  obtain ⟨hok, e⟩ := ite_some' e
  obtain ⟨⟨accE, ρ2⟩, e2, e⟩ := bind_some e
  cases e
  refine ⟨F, G, b, ρ, hr, ds, ρ1, e1, fun F1 H1 J s1 c1 h1 wk Dl hD => ?_⟩
  have gD : G Dl = none := h1.gh.free hD
  have fD : F1 Dl = none := h1.fh.free hD
  refine ⟨fun i m Hc => i ≤ ds.length ∧ m = ds.length - i ∧ ∃ F2 ρi acc vacc, Same F1 F2 ∧ Cln F1 G F2 ∧ Rp F2 G Hc b σ ρi ∧ Hc Dl = some (.lst vacc) ∧ Dvs F2 vacc acc ∧ F2 Dl = none ∧
      (∀ j, OwnAt ρi j → σ[j]? ≠ some (some (.ref Dl))) ∧ okW ρi vs = true ∧ lcGo g t el vs (ds.drop i) ρi acc = some (accE, ρ'), ⟨ds.length, Nat.zero_le _, rfl, F1, ρ1, [], [], .refl _, .refl _ _, ?_, upd_same, .nil, fD, ?_, hok, e2⟩, ?_⟩
  · exact h1.grow (.refl _) (same_upd hD) (h1.fh.trans (same_upd hD)) fun i p o q => (h1.own_some o q).elim fun _ z => z.2.1
  · intro j o q
    obtain ⟨_, z, _, _⟩ := h1.own_some o q
    rw [hD] at z
    cases z
  rintro i m Hc ⟨hi, rfl, F2, ρi, acc, vacc, s2, c2, h2, aD, xD, fD2, nD, okI, eL⟩
  by_cases hlt : i < ds.length
  · have hdrop : ds.drop i = ds[i] :: ds.drop (i + 1) := List.drop_eq_getElem_cons hlt
    rw [hdrop] at eL
    obtain ⟨ρa, ea, eL⟩ := bind_some eL
    obtain ⟨⟨kb, ρb⟩, eb, eL⟩ := bind_some eL
    refine .inr ⟨wk.go i Hc hlt (s2.trans h2.fh), fun H' => ∃ F5 ρ5 acc5 vacc5, Same F1 F5 ∧ Cln F1 G F5 ∧ Rp F5 G H' b σ ρ5 ∧ H' Dl = some (.lst vacc5) ∧ Dvs F5 vacc5 acc5 ∧ F5 Dl = none ∧
      (∀ j, OwnAt ρ5 j → σ[j]? ≠ some (some (.ref Dl))) ∧ okW ρ5 vs = true ∧ lcGo g t el vs (ds.drop (i + 1)) ρ5 acc5 = some (accE, ρ'), fun H' ⟨F5, ρ5, a5, v5, r5⟩ => ⟨ds.length - (i + 1), by omega, by omega, rfl, F5, ρ5, a5, v5, r5⟩, fun x H' y => ?_⟩
    obtain ⟨F3, d, ed, P⟩ := wk.yld i F2 Hc x H' hlt s2 h2.fh y
    have edd : d = ds[i] := by
      rw [List.getElem?_eq_getElem hlt] at ed
      exact (Option.some.inj ed).symm
    subst edd
    -- the guard: G and the list that grows
    have gu : Same (upd G Dl (.lst vacc)) H' := fun a o q => by
      by_cases z : a = Dl
      · subst z
        rw [upd_same] at q
        rw [P.hh _ _ aD, q]
      · rw [upd_ne z] at q
        exact P.hh _ _ (h2.gh _ _ q)
    have h3 : Rp F3 G H' b σ ρi := P.rp h2
    have c3 : Cln F2 G F3 := P.cln h2.gh
    have h3g : Rp F3 (upd G Dl (.lst vacc)) H' b (wipe σ vs) (wipeE ρi vs) := by
      refine (h3.more gu fun j p o q => ?_).wiped
      have : p ≠ Dl := fun z => nD j o (by rw [← z]; exact q)
      rw [upd_ne this]
      exact (h3.own_some o q).elim fun _ z => z.2.2
    have fD3 : F3 Dl = none := by
      cases z : F3 Dl with
      | none => rfl
      | some o =>
        rcases P.new Dl (by rw [z]; exact fun x => nomatch x) with w | w
        · exact absurd fD2 w
        · rw [aD] at w; cases w
    have dv : Dv F3 x ds[i] := P.res
    refine ⟨F3, _, b, _, _, h3g, dv, ρa, ea, fun σ2 h4 w4 => ⟨(w4 vs hws).trans wipe_wipe, ?_⟩⟩
    have w4' := (w4 vs hws).trans wipe_wipe
    refine ⟨F3, _, b, ρa, h4, kb, ρb, eb, fun F5 H5 s5 c5 h5 => ?_⟩
    have lenb : ∀ {ρz : En} {Fz Hz : Hp}, Rp Fz (upd G Dl (.lst vacc)) Hz b σ2 ρz → ρz.length = ρi.length := fun {ρz Fz Hz} hz => by
      have l1 := hz.len
      have l2 := congrArg List.length w4'
      rw [wipe_length, wipe_length] at l2
      rw [l1, l2, h3.len]
    have fin : ∀ {ρz : En} {Fz Hz : Hp}, Same F3 Fz → Cln F3 (upd G Dl (.lst vacc)) Fz → Rp Fz (upd G Dl (.lst vacc)) Hz b σ2 ρz →
        Rp Fz G Hz b σ (backE ρi ρz vs) ∧ Hz Dl = some (.lst vacc) ∧ Fz Dl = none ∧ (∀ j, OwnAt (backE ρi ρz vs) j → σ[j]? ≠ some (some (.ref Dl))) ∧ okW (backE ρi ρz vs) vs = true := fun {ρz Fz Hz} sz cz hz => by
      have hb := h3.backed sz (hz.less (same_upd gD)) w4' okI
      have hb2 : Rp Fz (upd G Dl (.lst vacc)) Hz b σ (backE ρi ρz vs) := (h3.more gu fun j p o q => by
        have : p ≠ Dl := fun z => nD j o (by rw [← z]; exact q)
        rw [upd_ne this]
        exact (h3.own_some o q).elim fun _ z => z.2.2).backed sz hz w4' okI
      refine ⟨hb, hz.gh _ _ upd_same, ?_, fun j o q => ?_, okW_back (lenb hz) okI⟩
      · cases z : Fz Dl with
        | none => rfl
        | some o => exact absurd fD3 (cz Dl (by rw [upd_same]; exact fun x => nomatch x) (by rw [z]; exact fun x => nomatch x))
      · obtain ⟨_, _, _, z⟩ := hb2.own_some o q
        rw [upd_same] at z
        cases z
    cases kb with
    | false =>
      have eL : lcGo g t el vs (ds.drop (i + 1)) (backE ρi ρb vs) acc = some (accE, ρ') := eL
      refine iteF ?_
      obtain ⟨f1, f2, f3, f4, f5⟩ := fin s5 c5 h5
      exact ⟨F5, _, acc, vacc, s2.trans (P.ff.trans s5), c2.trans (c3.trans (c5.less (same_upd gD))), f1, f2, xD.mono (P.ff.trans s5), f3, f4, f5, eL⟩
    | true =>
      refine iteT ?_
      obtain ⟨⟨y', ρ6⟩, e6, eL⟩ := bind_some eL
      obtain ⟨hlen, eL⟩ := ite_some' eL
      obtain ⟨⟨r6, ρ7⟩, e7, e6⟩ := bind_some e6
      refine ⟨F5, _, b, ρb, h5, r6, ρ7, e7, fun F7 H7 v7 s7 c7 h7 k7 => ?_⟩
      obtain ⟨F8, s8, c8, h8, dv8⟩ := cap_ok h7 k7 e6
      have cc := c5.trans (c7.trans c8)
      obtain ⟨f1, f2, f3, f4, f5⟩ := fin (s5.trans (s7.trans s8)) cc h8
      have x8 : Dvs F8 vacc acc := xD.mono (P.ff.trans (s5.trans (s7.trans s8)))
      refine ⟨vacc, f2, by rw [xD.len]; exact lim_lt hlen, F8, _, acc ++ [y'], vacc ++ [v7], s2.trans (P.ff.trans (s5.trans (s7.trans s8))), c2.trans (c3.trans (cc.less (same_upd gD))), ?_, upd_same, x8.snoc dv8, f3, f4, f5, eL⟩
      -- the grown list: nobody else looks at it
      refine ⟨fun a o q => ?_, fun a o q => ?_, f1.len, fun j mm q => ?_, f1.ne⟩
      · rw [upd_ne (ne_of_none q f3)]
        exact f1.fh _ _ q
      · rw [upd_ne (ne_of_none q gD)]
        exact f1.gh _ _ q
      · have sl := f1.slot j mm q
        cases mm with
        | no => trivial
        | sh d => exact sl
        | own ds1 =>
          obtain ⟨p1, vs1, a1, c1', x1⟩ := sl
          exact ⟨p1, vs1, a1, by rw [upd_ne (fun z => f4 j (.inl ⟨ds1, q⟩) (by rw [← z]; exact a1))]; exact c1', x1⟩
        | io ds1 =>
          obtain ⟨a1, vs1, c1', x1⟩ := sl
          exact ⟨a1, vs1, by rw [upd_ne (fun z => f4 j (.inr ⟨ds1, q⟩) (by rw [← z]; exact a1))]; exact c1', x1⟩
  · have ei : i = ds.length := by omega
    subst ei
    rw [List.drop_length] at eL
    cases eL
    refine .inl ⟨wk.stop Hc (s2.trans h2.fh), k F2 Hc (.ref Dl) (s1.trans s2) (c1.trans c2) h2 ⟨Dl, vacc, rfl, aD, xD, fD2, gD, nD⟩⟩
theorem me_lc {ws : List Nat} (hc : X.calm = true) (hN : X.N.Nodup) (hi : MIt X tg iter it) (ok : BlkOk X.N X.env.scope scope own)
    (hg : ∀ (s : Shared) (H : Hp) (C : Addr) (cl : List (Str × Addr)) (fp : List Addr), MGt (X.blk s H scope (compEnvC scope cl C X.env) fp) tg g ws)
    (ht : ∀ (s : Shared) (H : Hp) (C : Addr) (cl : List (Str × Addr)) (fp : List Addr), MTs (X.blk s H scope (compEnvC scope cl C X.env) fp) ifs t)
    (he : ∀ (s : Shared) (H : Hp) (C : Addr) (cl : List (Str × Addr)) (fp : List Addr), ME (X.blk s H scope (compEnvC scope cl C X.env) fp) elt el)
    (hws : ∀ i ∈ ws, i ∈ own.map (·.2) := by decide) (hs : ∀ x, foldedSetIterable iter X.env x = pure x := by intro _; rfl) :
    ME X (.ListComp elt [⟨tg, iter, ifs, 0⟩] scope pos) (mLc it g t el (own.map (·.2))) :=
  ⟨(pe_lc hc hN hi.ok ok (fun s H C cl fp => (hg s H C cl fp).ok) (fun s H C cl fp => (ht s H C cl fp).ok) (fun s H C cl fp => (he s H C cl fp).ok) hs).imq fun σ H Q q => lc_read hws q⟩
end

/-! ### statements -/
inductive Out where
  | nx | bk | ct | rt (r : R)
abbrev MS' := En → Option (Out × En)
def endOf (Dn : Ends) (F G H : Hp) (σ : L2.St) (ρ : En) : Out → Prop
  | .nx => Dn.nx σ H
  | .bk => Dn.bk σ H
  | .ct => Dn.ct σ H
  | .rt r => ∀ v, RsOk F G H σ ρ v r → Dn.rt v H
def tMS (m : MS') : TS := fun Dn σ H => ∃ F G b ρ, Rp F G H b σ ρ ∧ ∃ o ρ', m ρ = some (o, ρ') ∧ ∀ F' H' σ', Same F F' → Cln F G F' → Rp F' G H' b σ' ρ' → endOf Dn F' G H' σ' ρ' o
structure MSt (X : Cx) (st : Stmt) (m : MS') : Prop where
  ok : PS X st (tMS m)
structure MSs (X : Cx) (st : List Stmt) (m : MS') : Prop where
  ok : PSs X st (tMS m)
def sNil : MS' := fun ρ => some (.nx, ρ)
def sSeq (m n : MS') : MS' := fun ρ => do
  let (o, ρ1) ← m ρ
  match o with
  | .nx => n ρ1
  | o => some (o, ρ1)
section
variable {X : Cx} {e a b c tg : Expr} {pos : Pos} {m ma mb mc : MR} {t u : MB} {st : Stmt} {rest : List Stmt} {n n1 n2 : MS'}
theorem mss_nil : MSs X [] sNil := ⟨pss_nil.imq fun D σ H q => by
  obtain ⟨F, G, b, ρ, hr, o, ρ', e, k⟩ := q
  cases e
  exact k F H σ (.refl _) (.refl _ _) hr⟩
theorem mss_cons (h1 : MSt X st n1) (h2 : MSs X rest n2) : MSs X (st :: rest) (sSeq n1 n2) := ⟨(pss_cons h1.ok h2.ok).imq fun D σ H q => by
  obtain ⟨F, G, b, ρ, hr, o, ρ', e, k⟩ := q
  obtain ⟨⟨o1, ρ1⟩, e1, e⟩ := bind_some e
  refine ⟨F, G, b, ρ, hr, o1, ρ1, e1, fun F1 H1 σ1 s1 c1 h1 => ?_⟩
  cases o1 with
  | nx => exact ⟨F1, G, b, ρ1, h1, o, ρ', e, fun F2 H2 σ2 s2 c2 h2 => k F2 H2 σ2 (s1.trans s2) (c1.trans c2) h2⟩
  | bk => cases e; exact k F1 H1 σ1 s1 c1 h1
  | ct => cases e; exact k F1 H1 σ1 s1 c1 h1
  | rt r => cases e; exact k F1 H1 σ1 s1 c1 h1⟩
def sBrk : MS' := fun ρ => some (.bk, ρ)
def sCont : MS' := fun ρ => some (.ct, ρ)
theorem ms_pass : MSt X (.Pass pos) sNil := ⟨ps_pass.imq fun D σ H q => by
  obtain ⟨F, G, b, ρ, hr, o, ρ', e, k⟩ := q
  cases e
  exact k F H σ (.refl _) (.refl _ _) hr⟩
theorem ms_break : MSt X (.Break pos) sBrk := ⟨ps_break.imq fun D σ H q => by
  obtain ⟨F, G, b, ρ, hr, o, ρ', e, k⟩ := q
  cases e
  exact k F H σ (.refl _) (.refl _ _) hr⟩
theorem ms_continue : MSt X (.Continue pos) sCont := ⟨ps_continue.imq fun D σ H q => by
  obtain ⟨F, G, b, ρ, hr, o, ρ', e, k⟩ := q
  cases e
  exact k F H σ (.refl _) (.refl _ _) hr⟩
def sExpr (m : MR) : MS' := fun ρ => do
  let (_, ρ1) ← m ρ
  some (.nx, ρ1)
theorem ms_expr (he : ME X e m) (hs : swapsWith e none pos.line X.env = pure false := by rfl) : MSt X (.Expr e pos) (sExpr m) := ⟨(ps_expr he.ok hs).imq fun D σ H q => by
  obtain ⟨F, G, b, ρ, hr, o, ρ', e, k⟩ := q
  obtain ⟨⟨o1, ρ1⟩, e1, e⟩ := bind_some e
  cases e
  exact ⟨F, G, b, ρ, hr, o1, _, e1, fun F1 H1 v s1 c1 h1 k1 => k F1 H1 σ s1 c1 h1⟩⟩
/-- what is handed back: an own list becomes new data of the caller's -/
def retR (ρ : En) : R → Option (R × En)
  | .sh d => some (.sh d, ρ)
  | .fr ds => some (.fr ds, ρ)
  | .bw i => match ρ[i]? with
    | some (.own ds) => some (.fr ds, ρ.set i .no)
    | some (.sh d) => some (.sh d, ρ)
    | _ => none
def sRet (m : MR) : MS' := fun ρ => do
  let (r, ρ1) ← m ρ
  let (r', ρ2) ← retR ρ1 r
  some (.rt r', ρ2)
theorem Rp.drop {F G H : Hp} {b : Addr} {σ : L2.St} {ρ : En} {i : Nat} (h : Rp F G H b σ ρ) : Rp F G H b σ (ρ.set i .no) := by
  refine ⟨h.fh, h.gh, by rw [List.length_set]; exact h.len, fun j m q => ?_, fun j k p oj ok => ?_⟩
  · rcases get_set q with ⟨rfl, rfl⟩ | ⟨_, q⟩
    · trivial
    · exact h.slot j m q
  · have z : ∀ j, OwnAt (ρ.set i .no) j → OwnAt ρ j := fun j o => by
      rcases own_set2 o with ⟨_, ⟨_, z⟩ | ⟨_, z⟩⟩ | ⟨_, o⟩
      · cases z
      · cases z
      · exact o
    exact h.ne j k p (z j oj) (z k ok)
theorem ret_ok {F G H : Hp} {b : Addr} {σ : L2.St} {ρ ρ' : En} {v : V} {r r' : R} (h : Rp F G H b σ ρ) (k : RsOk F G H σ ρ v r) (e : retR ρ r = some (r', ρ')) : Rp F G H b σ ρ' ∧ RsOk F G H σ ρ' v r' := by
  cases r with
  | sh d => cases e; exact ⟨h, k⟩
  | fr ds => cases e; exact ⟨h, k⟩
  | bw i =>
    have k' : σ[i]? = some (some v) := k
    unfold retR at e
    cases q : ρ[i]? with
    | none => simp [q] at e
    | some w =>
      have s := h.slot i w q
      cases w with
      | no => simp [q] at e
      | io ds => simp [q] at e
      | sh d =>
        simp only [q] at e
        cases e
        obtain ⟨v', a, c⟩ := s
        rw [k'] at a
        cases a
        exact ⟨h, c⟩
      | own ds =>
        simp only [q] at e
        cases e
        obtain ⟨p, vs, a, c, x, f, g⟩ := s
        rw [k'] at a
        cases a
        refine ⟨h.drop, p, vs, rfl, c, x, f, g, fun j o z => ?_⟩
        rcases own_set2 o with ⟨_, ⟨_, w⟩ | ⟨_, w⟩⟩ | ⟨hj, o⟩
        · cases w
        · cases w
        · exact hj (h.ne j i p o (.inl ⟨ds, q⟩) z k')
theorem ms_ret (he : ME X e m) : MSt X (.Return (some e) pos) (sRet m) := ⟨(ps_ret he.ok).imq fun D σ H q => by
  obtain ⟨F, G, b, ρ, hr, o, ρ', e, k⟩ := q
  obtain ⟨⟨r1, ρ1⟩, e1, e⟩ := bind_some e
  obtain ⟨⟨r2, ρ2⟩, e2, e⟩ := bind_some e
  cases e
  refine ⟨F, G, b, ρ, hr, r1, ρ1, e1, fun F1 H1 v s1 c1 h1 k1 => ?_⟩
  obtain ⟨h2, k2⟩ := ret_ok h1 k1 e2
  exact k F1 H1 σ s1 c1 h2 v k2⟩
def sRetN : MS' := fun ρ => some (.rt (.sh .none), ρ)
theorem ms_retN : MSt X (.Return none pos) sRetN := ⟨ps_retN.imq fun D σ H q => by
  obtain ⟨F, G, b, ρ, hr, o, ρ', e, k⟩ := q
  cases e
  exact k F H σ (.refl _) (.refl _ _) hr _ .non⟩
def sIf (t : MB) (n1 n2 : MS') : MS' := fun ρ => do
  let (k, ρ1) ← t ρ
  if k = true then n1 ρ1 else n2 ρ1
theorem ms_if {s1 s2 : List Stmt} (hc : MT X c t) (ha : MSs X s1 n1) (hb : MSs X s2 n2) : MSt X (.If c s1 s2 pos) (sIf t n1 n2) := ⟨(ps_if hc.ok ha.ok hb.ok).imq fun D σ H q => by
  obtain ⟨F, G, b, ρ, hr, o, ρ', e, k⟩ := q
  obtain ⟨⟨k1, ρ1⟩, e1, e⟩ := bind_some e
  refine ⟨F, G, b, ρ, hr, k1, ρ1, e1, fun F1 H1 s1 c1 h1 => ?_⟩
  cases k1 with
  | true => exact ⟨F1, G, b, ρ1, h1, o, ρ', e, fun F2 H2 σ2 s2 c2 h2 => k F2 H2 σ2 (s1.trans s2) (c1.trans c2) h2⟩
  | false => exact ⟨F1, G, b, ρ1, h1, o, ρ', e, fun F2 H2 σ2 s2 c2 h2 => k F2 H2 σ2 (s1.trans s2) (c1.trans c2) h2⟩⟩
def sSet (i : Nat) (m : MR) : MS' := fun ρ => do
  let (r, ρ1) ← m ρ
  let ρ2 ← asg ρ1 i r
  some (.nx, ρ2)
theorem asg_read {i : Nat} {D : Ends} {σ : L2.St} {H : Hp} (q : tMS (sSet i m) D σ H) : tAsg (tM m) (gName i) D σ H := by
  obtain ⟨F, G, b, ρ, hr, o, ρ', e, k⟩ := q
  obtain ⟨⟨r1, ρ1⟩, e1, e⟩ := bind_some e
  obtain ⟨ρ2, e2, e⟩ := bind_some e
  cases e
  refine ⟨F, G, b, ρ, hr, r1, ρ1, e1, fun F1 H1 v s1 c1 h1 k1 => ?_⟩
  obtain ⟨F2, s2, c2, h2⟩ := asg_ok h1 k1 e2
  exact k F2 H1 _ (s1.trans s2) (c1.trans c2) h2
theorem ms_set {i : Nat} {x : Str} {pos' : Pos} (hN : X.N.Nodup) (hi : X.N[i]? = some x) (hx : Loc X.env.scope x) (he : ME X e m) (hs : swapsWith e (some (.Name x pos')) pos.line X.env = pure false := by rfl) (hf : X.fn x = true ∨ X.env.scope.names.lookup x = some .local := by first | exact .inl rfl | exact .inr rfl | assumption) :
    MSt X (.Assign [.Name x pos'] e pos) (sSet i m) := ⟨(ps_set hN hi hx he.ok hs hf).imq fun D σ H q => asg_read q⟩
/-- a tuple of targets -/
def sAsg (g : MG) (m : MR) : MS' := fun ρ => do
  let (d, ρ1) ← mCap m ρ
  let ρ2 ← g d ρ1
  some (.nx, ρ2)
theorem ms_asg {g : MG} {ws : List Nat} (he : ME X e m) (hg : MGt X tg g ws) (hs : swapsWithSole [tg] e pos.line X.env = pure false := by rfl) (hw : swappedStores [tg] e X.env = pure none := by rfl) (h1 : (assignEach [tg] X.env).map (·.2) = [assign tg X.env] := by rfl) :
    MSt X (.Assign [tg] e pos) (sAsg g m) := ⟨(ps_asg he.ok hg.ok hs hw h1).imq fun D σ H q => by
  obtain ⟨F, G, b, ρ, hr, o, ρ', e, k⟩ := q
  obtain ⟨⟨d, ρ1⟩, e1, e⟩ := bind_some e
  obtain ⟨ρ2, e2, e⟩ := bind_some e
  cases e
  obtain ⟨⟨r, ρ0⟩, e0, e1⟩ := bind_some e1
  refine ⟨F, G, b, ρ, hr, r, ρ0, e0, fun F1 H1 v s1 c1 h1 k1 => ?_⟩
  obtain ⟨F2, s2, c2, h2, dv⟩ := cap_ok h1 k1 e1
  exact ⟨F2, G, b, ρ1, d, h2, dv, ρ', e2, fun σ2 h3 _ => k F2 H1 σ2 (s1.trans s2) (c1.trans c2) h3⟩⟩
section
variable {elt iter : Expr} {ifs : List Expr} {scope : Scope} {own : List (Str × Nat)} {spos py : Pos} {it : MI} {g : MG} {el : MR}
theorem ms_setLc {i : Nat} {y : Str} {ws : List Nat} (hc : X.calm = true) (hN : X.N.Nodup) (hy : X.N[i]? = some y) (hyl : X.env.scope.names.lookup y = some .local)
    (hsw : swapsWith (.ListComp elt [⟨tg, iter, ifs, 0⟩] scope pos) (some (.Name y py)) spos.line X.env = pure true) (hi : MIt X tg iter it) (ok : BlkOk X.N X.env.scope scope own)
    (hg : ∀ (s : Shared) (H : Hp) (C : Addr) (cl : List (Str × Addr)) (fp : List Addr), MGt (X.blk s H scope (compEnvC scope cl C X.env) fp) tg g ws)
    (ht : ∀ (s : Shared) (H : Hp) (C : Addr) (cl : List (Str × Addr)) (fp : List Addr), MTs (X.blk s H scope (compEnvC scope cl C X.env) fp) ifs t)
    (he : ∀ (s : Shared) (H : Hp) (C : Addr) (cl : List (Str × Addr)) (fp : List Addr), ME (X.blk s H scope (compEnvC scope cl C X.env) fp) elt el)
    (hws : ∀ i ∈ ws, i ∈ own.map (·.2) := by decide) (hs : ∀ x, foldedSetIterable iter X.env x = pure x := by intro _; rfl) :
    MSt X (.Assign [.Name y py] (.ListComp elt [⟨tg, iter, ifs, 0⟩] scope pos) spos) (sSet i (mLc it g t el (own.map (·.2)))) :=
  ⟨(ps_setLc hc hN hy hyl hsw hi.ok ok (fun s H C cl fp => (hg s H C cl fp).ok) (fun s H C cl fp => (ht s H C cl fp).ok) (fun s H C cl fp => (he s H C cl fp).ok) hs).imq fun D σ H q => by
    have h : tM (mLc it g t el (own.map (·.2))) σ H (fun x H1 => gName i x σ H1 D.nx) := asg_read q
    exact lc_read hws h⟩
end

/-! ### loops -/
def forGo (g : MG) (n : MS') : List D → En → Option (Out × En)
  | [], ρ => some (.nx, ρ)
  | d :: ds, ρ => do
    let ρ1 ← g d ρ
    let (o, ρ2) ← n ρ1
    match o with
    | .nx => forGo g n ds ρ2
    | .ct => forGo g n ds ρ2
    | .bk => some (.nx, ρ2)
    | .rt r => some (.rt r, ρ2)
def sFor (it : MI) (g : MG) (n : MS') : MS' := fun ρ => do
  let (ds, ρ1) ← it ρ
  forGo g n ds ρ1
theorem ms_for {iter : Expr} {body : List Stmt} {it : MI} {g : MG} {ws : List Nat} (hp : PassesOwn (model X.prog X.w) X.A X.env X.xe) (hc : X.calm = true) (hi : MIt X tg iter it) (hg : MGt X tg g ws) (hb : MSs X body n) (hs : ∀ x, foldedSetIterable iter X.env x = pure x := by intro _; rfl) :
    MSt X (.For tg iter body [] pos) (sFor it g n) := ⟨(ps_for hp hc hi.ok hg.ok hb.ok hs).imq fun D σ H q => by
  obtain ⟨F, G, b, ρ, hr, o, ρ', e, k⟩ := q
  obtain ⟨⟨ds, ρ1⟩, e1, e⟩ := bind_some e
  refine ⟨F, G, b, ρ, hr, ds, ρ1, e1, fun F1 H1 J s1 c1 h1 wk => ?_⟩
  refine ⟨fun i m σc Hc => i ≤ ds.length ∧ m = ds.length - i ∧ ∃ F2 ρi, Same F1 F2 ∧ Cln F1 G F2 ∧ Rp F2 G Hc b σc ρi ∧ forGo g n (ds.drop i) ρi = some (o, ρ'), ⟨ds.length, Nat.zero_le _, rfl, F1, ρ1, .refl _, .refl _ _, h1, e⟩, ?_⟩
  rintro i m σc Hc ⟨hi, rfl, F2, ρi, s2, c2, h2, eL⟩
  by_cases hlt : i < ds.length
  · have hdrop : ds.drop i = ds[i] :: ds.drop (i + 1) := List.drop_eq_getElem_cons hlt
    rw [hdrop] at eL
    obtain ⟨ρa, ea, eL⟩ := bind_some eL
    obtain ⟨⟨ob, ρb⟩, eb, eL⟩ := bind_some eL
    refine .inr ⟨wk.go i Hc hlt (s2.trans h2.fh), fun σ' H' => ∃ F5 ρ5, Same F1 F5 ∧ Cln F1 G F5 ∧ Rp F5 G H' b σ' ρ5 ∧ forGo g n (ds.drop (i + 1)) ρ5 = some (o, ρ'), fun σ' H' ⟨F5, ρ5, r5⟩ => ⟨ds.length - (i + 1), by omega, by omega, rfl, F5, ρ5, r5⟩, fun x H' y => ?_⟩
    obtain ⟨F3, d, ed, P⟩ := wk.yld i F2 Hc x H' hlt s2 h2.fh y
    have edd : d = ds[i] := by
      rw [List.getElem?_eq_getElem hlt] at ed
      exact (Option.some.inj ed).symm
    subst edd
    have h3 : Rp F3 G H' b σc ρi := P.rp h2
    have c3 : Cln F2 G F3 := P.cln h2.gh
    have dv : Dv F3 x ds[i] := P.res
    refine ⟨F3, G, b, _, _, h3, dv, ρa, ea, fun σ2 h4 _ => ?_⟩
    refine ⟨F3, G, b, ρa, h4, ob, ρb, eb, fun F5 H5 σ5 s5 c5 h5 => ?_⟩
    have ss := s2.trans (P.ff.trans s5)
    have cc := c2.trans (c3.trans c5)
    cases ob with
    | nx => exact ⟨F5, ρb, ss, cc, h5, eL⟩
    | ct => exact ⟨F5, ρb, ss, cc, h5, eL⟩
    | bk =>
      cases eL
      exact k F5 H5 σ5 (s1.trans ss) (c1.trans cc) h5
    | rt r =>
      cases eL
      exact k F5 H5 σ5 (s1.trans ss) (c1.trans cc) h5
  · have ei : i = ds.length := by omega
    subst ei
    rw [List.drop_length] at eL
    cases eL
    exact .inl ⟨wk.stop Hc (s2.trans h2.fh), k F2 Hc σc (s1.trans s2) (c1.trans c2) h2⟩⟩
/-- fuel turns at most -/
def whGo (t : MB) (n : MS') : Nat → En → Option (Out × En)
  | 0, _ => none
  | f + 1, ρ => do
    let (k, ρ1) ← t ρ
    if k = true then do
      let (o, ρ2) ← n ρ1
      match o with
      | .nx => whGo t n f ρ2
      | .ct => whGo t n f ρ2
      | .bk => some (.nx, ρ2)
      | .rt r => some (.rt r, ρ2)
    else some (.nx, ρ1)
def sWhile (f : Nat) (t : MB) (n : MS') : MS' := whGo t n f
theorem ms_while {body : List Stmt} {f : Nat} (hp : PassesOwn (model X.prog X.w) X.A X.env X.xe) (hc : MT X c t) (hb : MSs X body n) : MSt X (.While c body [] pos) (sWhile f t n) := ⟨(ps_while hp hc.ok hb.ok).imq fun D σ H q => by
  obtain ⟨F, G, b, ρ, hr, o, ρ', e, k⟩ := q
  refine ⟨fun m σc Hc => ∃ F2 ρi, Same F F2 ∧ Cln F G F2 ∧ Rp F2 G Hc b σc ρi ∧ whGo t n m ρi = some (o, ρ'), ⟨f, F, ρ, .refl _, .refl _ _, hr, e⟩, ?_⟩
  rintro m σc Hc ⟨F2, ρi, s2, c2, h2, eL⟩
  cases m with
  | zero => cases eL
  | succ m =>
    obtain ⟨⟨kb, ρa⟩, ea, eL⟩ := bind_some eL
    refine ⟨F2, G, b, ρi, h2, kb, ρa, ea, fun F3 H3 s3 c3 h3 => ?_⟩
    cases kb with
    | false =>
      cases eL
      exact k F3 H3 σc (s2.trans s3) (c2.trans c3) h3
    | true =>
      obtain ⟨⟨ob, ρb⟩, eb, eL⟩ := bind_some eL
      refine ⟨fun σ' H' => ∃ F5 ρ5, Same F F5 ∧ Cln F G F5 ∧ Rp F5 G H' b σ' ρ5 ∧ whGo t n m ρ5 = some (o, ρ'), fun σ' H' r5 => ⟨m, Nat.lt_succ_self m, r5⟩, ?_⟩
      refine ⟨F3, G, b, ρa, h3, ob, ρb, eb, fun F5 H5 σ5 s5 c5 h5 => ?_⟩
      have ss := s2.trans (s3.trans s5)
      have cc := c2.trans (c3.trans c5)
      cases ob with
      | nx => exact ⟨F5, ρb, ss, cc, h5, eL⟩
      | ct => exact ⟨F5, ρb, ss, cc, h5, eL⟩
      | bk =>
        cases eL
        exact k F5 H5 σ5 ss cc h5
      | rt r =>
        cases eL
        exact k F5 H5 σ5 ss cc h5⟩
end
end Mi
set_option Elab.async false
set_option linter.all false
set_option maxRecDepth 100000
/-! Core5: defs, calls, lists that are changed. -/
namespace Mi
open PySem PySem.Spec PyProof.Rows L2
variable [KK]

/-! ### defs that change nothing of their callers' -/
def spN (φ : List D → Option R) : Sp := fun vs H Q _ => ∃ F ds r, Same F H ∧ Dvs F vs ds ∧ φ ds = some r ∧ ∀ F' H' v, Post F H r F' H' v → Q v H'
def startE (n : Nat) (ds : List D) : En := ds.map M.sh ++ List.replicate (n - ds.length) M.no
def outR : Out → Option R
  | .nx => some (.sh .none)
  | .rt (.sh d) => some (.sh d)
  | .rt (.fr ds) => some (.fr ds)
  | _ => none
theorem start_len {n : Nat} {ds : List D} (h : ds.length ≤ n) : (startE n ds).length = n := by
  unfold startE
  rw [List.length_append, List.length_map, List.length_replicate]
  omega
theorem start_get {n i : Nat} {ds : List D} {m : M} (h : (startE n ds)[i]? = some m) : m = .no ∨ ∃ d, m = .sh d ∧ ds[i]? = some d := by
  unfold startE at h
  rw [List.getElem?_append] at h
  split at h
  · rw [List.getElem?_map] at h
    cases q : ds[i]? with
    | none => rw [q] at h; cases h
    | some d =>
      rw [q] at h
      exact .inr ⟨d, (Option.some.inj h).symm, rfl⟩
  · rw [List.getElem?_replicate] at h
    split at h
    · exact .inl (Option.some.inj h).symm
    · cases h
theorem startV_get {N : List Str} {vs : List V} {i : Nat} {v : V} (h : vs[i]? = some v) : (start N vs)[i]? = some (some v) := by
  unfold L2.start
  have hl := (List.getElem?_eq_some_iff.mp h).1
  rw [List.getElem?_append_left (by rw [List.length_map]; exact hl), List.getElem?_map, h]
  rfl
theorem startV_len {N : List Str} {vs : List V} (h : vs.length ≤ N.length) : (start N vs).length = N.length := by
  unfold L2.start
  rw [List.length_append, List.length_map, List.length_replicate]
  omega
theorem rp_start {F H : Hp} {N : List Str} {vs : List V} {ds : List D} (s : Same F H) (a : Dvs F vs ds) (hl : ds.length ≤ N.length) : Rp F H H 0 (start N vs) (startE N.length ds) := by
  have hv : vs.length ≤ N.length := by rw [a.len]; exact hl
  have noOwn : ∀ i, ¬ OwnAt (startE N.length ds) i := fun i o => by
    rcases o with ⟨x, e⟩ | ⟨x, e⟩
    · rcases start_get e with z | ⟨_, z, _⟩ <;> cases z
    · rcases start_get e with z | ⟨_, z, _⟩ <;> cases z
  refine ⟨s, .refl _, by rw [start_len hl, startV_len hv], fun i m q => ?_, fun i j p oi => absurd oi (noOwn i)⟩
  rcases start_get q with rfl | ⟨d, rfl, q2⟩
  · trivial
  · obtain ⟨v, e, dv⟩ := a.get q2
    exact ⟨v, startV_get e, dv⟩
theorem post_of {F G F' H H' : Hp} {b : Addr} {σ' : L2.St} {ρ' : En} {v : V} {r : R} (s : Same F F') (c : Cln F H F') (h : Rp F' H H' b σ' ρ') (k : RsOk F' H H' σ' ρ' v r) (hr : ∀ i, r ≠ .bw i) : Post F H r F' H' v := by
  refine ⟨s, h.gh, h.fh, fun a fa => ?_, ?_⟩
  · cases q : H a with
    | none => exact .inr rfl
    | some o => exact .inl (c a (by rw [q]; exact fun z => nomatch z) fa)
  · cases r with
    | sh d => exact k
    | bw i => exact absurd rfl (hr i)
    | fr ds =>
      obtain ⟨p, vs, rfl, a, x, f, g, _⟩ := k
      exact ⟨p, vs, rfl, g, a, x, f⟩
section
variable {P : Program} {w : World} {K : Fr0} {mg : Str → Option Value} {base : Heap}
/-- THE RULE for a def: φ is what its body's plain function gives -/
theorem fn_mk {x qual : Str} {st : Stmt} {f : Addr} {fd : FuncData} {N ps : List Str} {k : Nat} {φ : List D → Option R} {m : MS'} (F : Fun K x qual st f fd) (S : FnScope N ps (defScope st))
    (hb : ∀ (cdv : Value) (A : Around) (outer : List Env) (s : Shared) (H : Hp) (E : XK), Room k (A.deeper (envOfC qual (defScope st) s.heap.objs.size f cdv)) →
      MSs (cxOf CX0 P w K mg base N qual (defScope st) f cdv A outer s H E).nox (defBody st) m)
    (hφ : ∀ ds r, φ ds = some r → ds.length = ps.length ∧ ∃ o ρ', m (startE N.length ds) = some (o, ρ') ∧ outR o = some r) : FnOk P w K mg base CX0 (k + 1) f fd ps (spN φ) := by
  refine F.ok S (fun vs H Q E h => ?_) (fun cdv A outer s H vs Q E hr h => ?_)
  · obtain ⟨F0, ds, r, _, a, e, _⟩ := h
    rw [a.len, (hφ ds r e).1]
  · obtain ⟨F0, ds, r, s0, a, e, q⟩ := h
    obtain ⟨hl, o, ρ', em, eo⟩ := hφ ds r e
    have hpN : ps.length ≤ N.length := by
      have := congrArg List.length S.pre
      rw [List.length_take] at this
      omega
    refine ⟨_, (hb cdv A outer s H E hr).ok, F0, H, 0, _, rp_start s0 a (by omega), o, ρ', em, fun F' H' σ' s1 c1 h1 => ?_⟩
    cases o with
    | nx =>
      cases eo
      exact q F' H' .non (post_of (G := H) s1 c1 h1 (show RsOk F' H H' σ' ρ' .non (.sh .none) from .non) fun _ z => nomatch z)
    | bk => cases eo
    | ct => cases eo
    | rt r' =>
      cases r' with
      | sh d =>
        cases eo
        exact fun v k => q F' H' v (post_of (G := H) s1 c1 h1 k fun _ z => nomatch z)
      | fr ds' =>
        cases eo
        exact fun v k => q F' H' v (post_of (G := H) s1 c1 h1 k fun _ z => nomatch z)
      | bw i => cases eo
end

/-! ### defs that change the list that is their first argument -/
structure PostIO (F H : Hp) (b : Addr) (r : R) (F' H' : Hp) (v : V) : Prop where
  ff : Same F F'
  hh : ∀ a o, a ≠ b → H a = some o → H' a = some o
  fh : Same F' H'
  new : ∀ a, F' a ≠ none → F a ≠ none ∨ H a = none
  res : ResOk F' H H' v r
def spIO (φ : List D → List D → Option (R × List D)) : Sp := fun vs H Q _ => ∃ F b bs ws vs' ds r ws', vs = .ref b :: vs' ∧ Same F H ∧ H b = some (.lst bs) ∧ F b = none ∧ Dvs F bs ws ∧ Dvs F vs' ds ∧ φ ws ds = some (r, ws') ∧
  ∀ F' H' v bs', PostIO F H b r F' H' v → H' b = some (.lst bs') → Dvs F' bs' ws' → F' b = none → Q v H'
def startIO (n : Nat) (ws : List D) (ds : List D) : En := .io ws :: startE (n - 1) ds
def dele (H : Hp) (b : Addr) : Hp := fun a => if a = b then none else H a
theorem dele_same {H : Hp} {b : Addr} : dele H b b = none := by unfold dele; rw [if_pos rfl]
theorem dele_ne {H : Hp} {a b : Addr} (h : a ≠ b) : dele H b a = H a := by unfold dele; rw [if_neg h]
section
variable {P : Program} {w : World} {K : Fr0} {mg : Str → Option Value} {base : Heap}
theorem start_cons {N : List Str} {v : V} {vs : List V} (h : 1 ≤ N.length) : start N (v :: vs) = some v :: start (N.drop 1) vs := by
  unfold L2.start
  rw [List.map_cons, List.cons_append, List.length_cons, List.length_drop]
  congr 3
  omega
theorem fn_mkIO {x qual : Str} {st : Stmt} {f : Addr} {fd : FuncData} {N ps : List Str} {k : Nat} {φ : List D → List D → Option (R × List D)} {m : MS'} (F : Fun K x qual st f fd) (S : FnScope N ps (defScope st))
    (hb : ∀ (cdv : Value) (A : Around) (outer : List Env) (s : Shared) (H : Hp) (E : XK), Room k (A.deeper (envOfC qual (defScope st) s.heap.objs.size f cdv)) →
      MSs (cxOf CX0 P w K mg base N qual (defScope st) f cdv A outer s H E).nox (defBody st) m)
    (hφ : ∀ ws ds r ws', φ ws ds = some (r, ws') → ds.length + 1 = ps.length ∧ ∃ o ρ', m (startIO N.length ws ds) = some (o, ρ') ∧ outR o = some r ∧ ρ'[0]? = some (.io ws')) : FnOk P w K mg base CX0 (k + 1) f fd ps (spIO φ) := by
  refine F.ok S (fun vs H Q E h => ?_) (fun cdv A outer s H vs Q E hr h => ?_)
  · obtain ⟨F0, b, bs, ws, vs', ds, r, ws', rfl, _, _, _, _, a, e, _⟩ := h
    rw [List.length_cons, a.len, (hφ ws ds r ws' e).1]
  · obtain ⟨F0, b, bs, ws, vs', ds, r, ws', rfl, s0, hb0, fb, aw, a, e, q⟩ := h
    obtain ⟨hl, o, ρ', em, eo, e0⟩ := hφ ws ds r ws' e
    have hpN : ps.length ≤ N.length := by
      have := congrArg List.length S.pre
      rw [List.length_take] at this
      omega
    have hN1 : 1 ≤ N.length := by omega
    have rp : Rp F0 (dele H b) H b (start N (.ref b :: vs')) (startIO N.length ws ds) := by
      have r0 := rp_start (N := N.drop 1) s0 a (by rw [List.length_drop]; omega)
      rw [List.length_drop] at r0
      rw [start_cons hN1]
      unfold startIO
      have noOwn : ∀ i, ¬ OwnAt (startE (N.length - 1) ds) i := fun i o => by
        rcases o with ⟨x, e⟩ | ⟨x, e⟩
        · rcases start_get e with z | ⟨_, z, _⟩ <;> cases z
        · rcases start_get e with z | ⟨_, z, _⟩ <;> cases z
      refine ⟨s0, fun x o z => ?_, by rw [List.length_cons, List.length_cons, r0.len], fun i mm z => ?_, fun i j p oi oj _ _ => ?_⟩
      · by_cases hx : x = b
        · rw [hx, dele_same] at z; cases z
        · rw [dele_ne hx] at z; exact z
      · cases i with
        | zero =>
          have z' : M.io ws = mm := Option.some.inj z
          subst z'
          exact ⟨rfl, bs, hb0, aw, fb, dele_same⟩
        | succ i =>
          have z' : (startE (N.length - 1) ds)[i]? = some mm := by simpa using z
          have sl := r0.slot i mm z'
          cases mm with
          | no => trivial
          | sh d =>
            obtain ⟨v, e1, dv⟩ := sl
            exact ⟨v, by simpa using e1, dv⟩
          | own _ => exact absurd (.inl ⟨_, z'⟩) (noOwn i)
          | io _ => exact absurd (.inr ⟨_, z'⟩) (noOwn i)
      · have z : ∀ k, OwnAt (.io ws :: startE (N.length - 1) ds) k → k = 0 := fun k ok => by
          cases k with
          | zero => rfl
          | succ k =>
            rcases ok with ⟨x, e⟩ | ⟨x, e⟩
            · exact absurd (.inl ⟨x, by simpa using e⟩) (noOwn k)
            · exact absurd (.inr ⟨x, by simpa using e⟩) (noOwn k)
        rw [z i oi, z j oj]
    refine ⟨_, (hb cdv A outer s H E hr).ok, F0, dele H b, b, _, rp, o, ρ', em, fun F' H' σ' s1 c1 h1 => ?_⟩
    have sl : SlotOk F' (dele H b) H' b σ' 0 (.io ws') := h1.slot 0 _ e0
    obtain ⟨sb, bs', hb', xb, fb', _⟩ := sl
    have fin : ∀ v r', RsOk F' (dele H b) H' σ' ρ' v r' → (∀ i, r' ≠ .bw i) → r' = r → Q v H' := fun v r' kk hr' er => by
      subst er
      refine q F' H' v bs' ⟨s1, fun a' o' ha' z => h1.gh _ _ (by rw [dele_ne ha']; exact z), h1.fh, fun a' fa => ?_, ?_⟩ hb' xb fb'
      · cases z : H a' with
        | none => exact .inr rfl
        | some o' =>
          by_cases hab : a' = b
          · rw [hab] at fa
            exact absurd fb' fa
          · exact .inl (c1 a' (by rw [dele_ne hab, z]; exact fun y => nomatch y) fa)
      · cases r' with
        | sh d => exact kk
        | bw i => exact absurd rfl (hr' i)
        | fr ds' =>
          obtain ⟨p, vs1, rfl, a1, x1, f1, g1, n1⟩ := kk
          have hpb : p ≠ b := fun z => n1 0 (.inr ⟨ws', e0⟩) (by rw [z]; exact sb)
          rw [dele_ne hpb] at g1
          exact ⟨p, vs1, rfl, g1, a1, x1, f1⟩
    cases o with
    | nx =>
      cases eo
      exact fin .non (.sh .none) .non (fun _ z => nomatch z) rfl
    | bk => cases eo
    | ct => cases eo
    | rt r' =>
      cases r' with
      | sh d =>
        cases eo
        exact fun v k => fin v _ k (fun _ z => nomatch z) rfl
      | fr ds' =>
        cases eo
        exact fun v k => fin v _ k (fun _ z => nomatch z) rfl
      | bw i => cases eo
end

/-! ### calls of defs -/
section
variable {X : Cx} {e a b c tg : Expr} {pos p : Pos} {m ma mb mc : MR} {es : List Expr} {ms : MA} {k : Nat} {f : Addr} {fd : FuncData} {ps : List Str} {x : Str}
def mCall (φ : List D → Option R) (ms : MA) : MR := fun ρ => do
  let (ds, ρ1) ← ms ρ
  let r ← φ ds
  some (r, ρ1)
theorem me_call {φ : List D → Option R} (F : FnOk X.prog X.w X.K X.mg X.base CX0 k f fd ps (spN φ)) (hr : Room k X.A) (hg : Gl X x) (hm : X.mg x = some (.ref f)) (hk : PySem.W.keepIn X.K (.ref f) = true) (hb : Binds X.K fd ps [])
    (ha : MAs X (e :: es) ms) (hdb : (x == ("__debug__" : Str)) = false := by decide) (he : starEach (e :: es) X.env = (false, eval e X.env) :: starEach es X.env := by rfl) (hpl : (backTo pos (starEach es X.env)).any (·.1) = false := by rfl) :
    ME X (.Call (.Name x p) (e :: es) [] pos) (mCall φ ms) := ⟨(pe_call (dvs := []) F hr hg hm hk hb .nil pass0 ha.ok hdb he hpl).imq fun σ H Q q => by
  obtain ⟨F0, G, b, ρ, hr0, r, ρ', e, k⟩ := q
  obtain ⟨⟨ds, ρ1⟩, e1, e⟩ := bind_some e
  obtain ⟨r1, e2, e⟩ := bind_some e
  cases e
  refine ⟨F0, G, b, ρ, hr0, ds, _, e1, fun F1 H1 vs s1 c1 h1 dvs => ?_⟩
  refine (show spN φ (vs ++ []) H1 Q E0 from ?_)
  rw [List.append_nil]
  exact ⟨F1, ds, r, h1.fh, dvs, e2, fun F' H' v P => k F' H' v (s1.trans P.ff) (c1.trans (P.cln h1.gh)) (P.rp h1) (P.rs h1)⟩⟩

/-! the list in a slot, and what is put there -/
def contE (ρ : En) (i : Nat) : Option (List D) := match ρ[i]? with
  | some (.own ds) => some ds
  | some (.io ds) => some ds
  | _ => none
def putE (ρ : En) (i : Nat) (ds : List D) : En := match ρ[i]? with
  | some (.io _) => ρ.set i (.io ds)
  | _ => ρ.set i (.own ds)
section
variable {F F' G H H' : Hp} {b' : Addr} {σ : L2.St} {ρ : En} {i : Nat} {ds ds' : List D}
theorem cont_ok (h : Rp F G H b' σ ρ) (e : contE ρ i = some ds) : OwnAt ρ i ∧ ∃ p vs, σ[i]? = some (some (.ref p)) ∧ H p = some (.lst vs) ∧ Dvs F vs ds ∧ F p = none ∧ G p = none := by
  unfold contE at e
  cases q : ρ[i]? with
  | none => simp [q] at e
  | some m =>
    have s := h.slot i m q
    cases m with
    | no => simp [q] at e
    | sh d => simp [q] at e
    | own xs =>
      simp only [q] at e
      cases e
      exact ⟨.inl ⟨_, q⟩, s⟩
    | io xs =>
      simp only [q] at e
      cases e
      obtain ⟨a, vs, r⟩ := s
      exact ⟨.inr ⟨_, q⟩, b', vs, a, r⟩
theorem putE_get {m : M} {j : Nat} (h : (putE ρ i ds)[j]? = some m) : (j = i ∧ (m = .own ds ∨ (m = .io ds ∧ ∃ xs, ρ[i]? = some (.io xs)))) ∨ (j ≠ i ∧ ρ[j]? = some m) := by
  unfold putE at h
  split at h
  · rename_i xs q
    rcases get_set h with ⟨a, b⟩ | ⟨a, b⟩
    · exact .inl ⟨a, .inr ⟨b, xs, q⟩⟩
    · exact .inr ⟨a, b⟩
  · rcases get_set h with ⟨a, b⟩ | ⟨a, b⟩
    · exact .inl ⟨a, .inl b⟩
    · exact .inr ⟨a, b⟩
theorem putE_len : (putE ρ i ds).length = ρ.length := by
  unfold putE
  split <;> rw [List.length_set]
/-- slot i's list changes; all else stands -/
theorem Rp.putC {p : Addr} {vs' : List V} (h : Rp F G H b' σ ρ) (o : OwnAt ρ i) (es : σ[i]? = some (some (.ref p))) (ff : Same F F') (fh : Same F' H') (gh : Same G H') (hh : ∀ a o, a ≠ p → H a = some o → (∃ vs, o = .lst vs) → H' a = some o)
    (hp : H' p = some (.lst vs')) (x : Dvs F' vs' ds') (fp : F' p = none) (fo : ∀ j q, OwnAt ρ j → σ[j]? = some (some (.ref q)) → F' q = none) : Rp F' G H' b' σ (putE ρ i ds') := by
  have oo : ∀ j, OwnAt (putE ρ i ds') j → OwnAt ρ j := fun j oj => by
    rcases oj with ⟨xs, e⟩ | ⟨xs, e⟩
    · rcases putE_get e with ⟨a, _⟩ | ⟨_, z⟩
      · rw [a]; exact o
      · exact .inl ⟨xs, z⟩
    · rcases putE_get e with ⟨a, _⟩ | ⟨_, z⟩
      · rw [a]; exact o
      · exact .inr ⟨xs, z⟩
  refine ⟨fh, gh, by rw [putE_len]; exact h.len, fun j m q => ?_, fun j k q oj ok => h.ne j k q (oo j oj) (oo k ok)⟩
  obtain ⟨_, _, gp⟩ := h.own_some o es
  rcases putE_get q with ⟨rfl, rfl | ⟨rfl, xs, z⟩⟩ | ⟨hj, q⟩
  · exact ⟨p, vs', es, hp, x, fp, gp.2⟩
  · have s : SlotOk F G H b' σ j (.io xs) := h.slot j _ z
    obtain ⟨a, _⟩ := s
    have : p = b' := by
      rw [es] at a
      cases a
      rfl
    subst this
    exact ⟨es, vs', hp, x, fp, gp.2⟩
  · have s := h.slot j m q
    have np : ∀ q', OwnAt ρ j → σ[j]? = some (some (.ref q')) → q' ≠ p := fun q' oj ej z => hj (h.ne j i p oj o (z ▸ ej) es)
    cases m with
    | no => trivial
    | sh d =>
      obtain ⟨v, a, c⟩ := s
      exact ⟨v, a, c.mono ff⟩
    | own xs =>
      obtain ⟨q', vs, a, c, d, f, g⟩ := s
      exact ⟨q', vs, a, hh _ _ (np q' (.inl ⟨_, q⟩) a) c ⟨_, rfl⟩, d.mono ff, fo j q' (.inl ⟨_, q⟩) a, g⟩
    | io xs =>
      obtain ⟨a, vs, c, d, f, g⟩ := s
      exact ⟨a, vs, hh _ _ (np b' (.inr ⟨_, q⟩) a) c ⟨_, rfl⟩, d.mono ff, fo j b' (.inr ⟨_, q⟩) a, g⟩
/-- by one store -/
theorem Rp.put1 {p : Addr} {vs' : List V} (h : Rp F G H b' σ ρ) (o : OwnAt ρ i) (es : σ[i]? = some (some (.ref p))) (x : Dvs F vs' ds') : Rp F G (upd H p (.lst vs')) b' σ (putE ρ i ds') := by
  obtain ⟨vs, hp, fp, gp⟩ := h.own_some o es
  refine h.putC o es (.refl _) (fun a o q => ?_) (fun a o q => ?_) (fun a o ha q _ => by rw [upd_ne ha]; exact q) upd_same x fp (fun j q oj ej => ?_)
  · rw [upd_ne (ne_of_none q fp)]
    exact h.fh _ _ q
  · rw [upd_ne (ne_of_none q gp)]
    exact h.gh _ _ q
  · exact (h.own_some oj ej).elim fun _ z => z.2.1
end
def mCallIO (φ : List D → List D → Option (R × List D)) (i : Nat) (ms : MA) : MR := fun ρ => do
  let _ ← contE ρ i
  let (ds, ρ1) ← ms ρ
  let ws ← contE ρ1 i
  let (r, ws') ← φ ws ds
  some (r, putE ρ1 i ws')
theorem me_callIO {φ : List D → List D → Option (R × List D)} {i : Nat} {y : Str} {py : Pos} (F : FnOk X.prog X.w X.K X.mg X.base CX0 k f fd ps (spIO φ)) (hr : Room k X.A) (hg : Gl X x) (hm : X.mg x = some (.ref f)) (hk : PySem.W.keepIn X.K (.ref f) = true) (hb : Binds X.K fd ps [])
    (hy : PE X (.Name y py) (tVar i)) (ha : MAs X es ms) (hdb : (x == ("__debug__" : Str)) = false := by decide) (he : starEach (.Name y py :: es) X.env = (false, eval (.Name y py) X.env) :: starEach es X.env := by rfl) (hpl : (backTo pos (starEach es X.env)).any (·.1) = false := by rfl) :
    ME X (.Call (.Name x p) (.Name y py :: es) [] pos) (mCallIO φ i ms) := ⟨(pe_call (dvs := []) F hr hg hm hk hb .nil pass0 (pa_cons hy ha.ok he) hdb he hpl).imq fun σ H Q q => by
  obtain ⟨F0, G, b, ρ, hr0, r, ρ', e, k⟩ := q
  obtain ⟨w0, e0, e⟩ := bind_some e
  obtain ⟨⟨ds, ρ1⟩, e1, e⟩ := bind_some e
  obtain ⟨ws, e2, e⟩ := bind_some e
  obtain ⟨⟨r1, ws'⟩, e3, e⟩ := bind_some e
  cases e
  obtain ⟨_, p0, vs0, es0, _⟩ := cont_ok hr0 e0
  refine ⟨.ref p0, es0, F0, G, b, ρ, hr0, ds, _, e1, fun F1 H1 vs s1 c1 h1 dvs => ?_⟩
  refine (show spIO φ ((.ref p0 :: vs) ++ []) H1 Q E0 from ?_)
  rw [List.append_nil]
  obtain ⟨o1, p1, bs, es1, hb1, xb, fb, gb⟩ := cont_ok h1 e2
  have : p1 = p0 := by
    rw [es0] at es1
    cases es1
    rfl
  subst this
  refine ⟨F1, p1, bs, ws, vs, ds, r, ws', rfl, h1.fh, hb1, fb, xb, dvs, e3, fun F' H' v bs' P hb' x' f' => ?_⟩
  have fo : ∀ j q, OwnAt ρ1 j → σ[j]? = some (some (.ref q)) → F' q = none := fun j q oj ej => by
    obtain ⟨_, a1, f1, _⟩ := h1.own_some oj ej
    cases z : F' q with
    | none => rfl
    | some u =>
      rcases P.new q (by rw [z]; exact fun y => nomatch y) with w | w
      · exact absurd f1 w
      · rw [a1] at w; cases w
  have rp' : Rp F' G H' b σ (putE ρ1 i ws') := by
    refine h1.putC o1 es0 P.ff P.fh (fun a o q => P.hh a o (fun z => ?_) (h1.gh _ _ q)) (fun a o ha q _ => P.hh a o ha q) hb' x' f' fo
    rw [z, gb] at q
    cases q
  refine k F' H' v (s1.trans P.ff) (c1.trans fun a ga fa => ?_) rp' ?_
  · rcases P.new a fa with w | w
    · exact w
    · exact absurd (h1.gh.free w) ga
  · have q := P.res
    cases r with
    | sh d => exact q
    | bw j => exact False.elim q
    | fr xs =>
      obtain ⟨p2, vs2, rfl, n2, a2, x2, f2⟩ := q
      refine ⟨p2, vs2, rfl, a2, x2, f2, h1.gh.free n2, fun j oj ej => ?_⟩
      have oj1 : OwnAt ρ1 j := by
        rcases oj with ⟨xs, e⟩ | ⟨xs, e⟩
        · rcases putE_get e with ⟨a, _⟩ | ⟨_, z⟩
          · rw [a]; exact o1
          · exact .inl ⟨xs, z⟩
        · rcases putE_get e with ⟨a, _⟩ | ⟨_, z⟩
          · rw [a]; exact o1
          · exact .inr ⟨xs, z⟩
      obtain ⟨_, a3, _, _⟩ := h1.own_some oj1 ej
      rw [n2] at a3
      cases a3⟩

/-! ### methods that change the list of a slot -/
section
variable {name y : Str} {py apos cpos : Pos} {i : Nat}
def mAppend (i : Nat) (m : MR) : MR := fun ρ => do
  let _ ← contE ρ i
  let (d, ρ1) ← mCap m ρ
  let ds ← contE ρ1 i
  if ds.length < lim then some (.sh .none, putE ρ1 i (ds ++ [d])) else none
theorem me_append (hy : PE X (.Name y py) (tVar i)) (he : ME X e m) (hbase : attributeBase (.Name y py) "append" X.env (eval (.Name y py) X.env) = eval (.Name y py) X.env := by rfl)
    (hfew : ((backTo cpos (starEach (e :: []) X.env)).all (fun x => !x.1) && (backToKw cpos (keywordEach [] X.env)).all (fun x => x.1.isSome)
      && decide ((e :: ([] : List Expr)).length + ([] : List Keyword).length + (if ([] : List Keyword).isEmpty then 0 else 1) < 30)) = true := by rfl)
    (hline : (apos.endLine == cpos.line) = true := by rfl) (hs : starEach (e :: []) X.env = (false, eval e X.env) :: starEach [] X.env := by rfl) (hplain : (backTo cpos (starEach [] X.env)).any (·.1) = false := by rfl) :
    ME X (.Call (.Attribute (.Name y py) "append" apos) [e] [] cpos) (mAppend i m) :=
  ⟨(pe_bm PySem.F.plainAttrs_list PySem.F.slot_list_append PySem.F.type_list_append mt_append hy (pa_cons he.ok pa_nil hs) hbase hfew hline hs hplain).imq fun σ H Q q => by
    obtain ⟨F, G, b, ρ, hr, r, ρ', e, k⟩ := q
    obtain ⟨w0, e0, e⟩ := bind_some e
    obtain ⟨⟨d, ρ1⟩, e1, e⟩ := bind_some e
    obtain ⟨ds, e2, e⟩ := bind_some e
    obtain ⟨hl, e⟩ := ite_some e
    cases e
    obtain ⟨⟨r1, ρ0⟩, e3, e1⟩ := bind_some e1
    obtain ⟨_, p0, vs0, es0, a0, _⟩ := cont_ok hr e0
    refine ⟨.ref p0, es0, .inl ⟨rfl, _, .of a0⟩, F, G, b, ρ, hr, r1, ρ0, e3, fun F1 H1 v1 s1 c1 h1 k1 => ?_⟩
    obtain ⟨F2, s2, c2, h2, dv⟩ := cap_ok h1 k1 e1
    obtain ⟨o1, p1, vs, es1, a1, x1, f1, g1⟩ := cont_ok h2 e2
    rw [es0] at es1
    cases es1
    refine ⟨p0, vs, v1, rfl, rfl, a1, by rw [x1.len]; exact lim_lt hl, ?_⟩
    exact k F2 _ .non (s1.trans s2) (c1.trans c2) (h2.put1 o1 es0 (x1.snoc dv)) .non⟩
def mPop (i : Nat) : MR := fun ρ => do
  let ds ← contE ρ i
  let d ← ds[ds.length - 1]?
  some (.sh d, putE ρ i ds.dropLast)
theorem dropLast_ok {F : Hp} {vs : List V} {ds : List D} (h : Dvs F vs ds) : Dvs F vs.dropLast ds.dropLast := by
  rw [List.dropLast_eq_take, List.dropLast_eq_take, h.len]
  exact h.take _
theorem me_pop (hy : PE X (.Name y py) (tVar i)) (hbase : attributeBase (.Name y py) "pop" X.env (eval (.Name y py) X.env) = eval (.Name y py) X.env := by rfl) (hline : (apos.endLine == cpos.line) = true := by rfl) :
    ME X (.Call (.Attribute (.Name y py) "pop" apos) [] [] cpos) (mPop i) :=
  ⟨(pe_bm0 PySem.F.plainAttrs_list PySem.F.slot_list_pop PySem.F.type_list_pop mt_pop hy hbase hline).imq fun σ H Q q => by
    obtain ⟨F, G, b, ρ, hr, r, ρ', e, k⟩ := q
    obtain ⟨ds, e0, e⟩ := bind_some e
    obtain ⟨d, e1, e⟩ := bind_some e
    cases e
    obtain ⟨o1, p0, vs, es0, a0, x0, f0, g0⟩ := cont_ok hr e0
    obtain ⟨v, ev, dv⟩ := x0.get e1
    refine ⟨.ref p0, es0, .inl ⟨rfl, _, .of a0⟩, p0, vs, v, rfl, rfl, a0, by rw [x0.len]; exact ev, ?_⟩
    exact k F _ v (.refl _) (.refl _ _) (hr.put1 o1 es0 (dropLast_ok x0)) dv⟩
def mPopAt (i : Nat) (m : MR) : MR := fun ρ => do
  let _ ← contE ρ i
  let (r, ρ1) ← m ρ
  match r with
  | .sh (.int z) => do
    let ds ← contE ρ1 i
    if i62 z = true then do
      let j ← seqIndex? z ds.length
      let d ← ds[j]?
      some (.sh d, putE ρ1 i (ds.eraseIdx j))
    else none
  | _ => none
theorem Dvs.erase {F : Hp} : ∀ {vs : List V} {ds : List D} (n : Nat), Dvs F vs ds → Dvs F (vs.eraseIdx n) (ds.eraseIdx n)
  | _, _, _, .nil => .nil
  | _, _, 0, .cons _ a => a
  | _, _, n + 1, .cons h a => .cons h (Dvs.erase n a)
theorem me_popAt (hy : PE X (.Name y py) (tVar i)) (he : ME X e m) (hbase : attributeBase (.Name y py) "pop" X.env (eval (.Name y py) X.env) = eval (.Name y py) X.env := by rfl)
    (hfew : ((backTo cpos (starEach (e :: []) X.env)).all (fun x => !x.1) && (backToKw cpos (keywordEach [] X.env)).all (fun x => x.1.isSome)
      && decide ((e :: ([] : List Expr)).length + ([] : List Keyword).length + (if ([] : List Keyword).isEmpty then 0 else 1) < 30)) = true := by rfl)
    (hline : (apos.endLine == cpos.line) = true := by rfl) (hs : starEach (e :: []) X.env = (false, eval e X.env) :: starEach [] X.env := by rfl) (hplain : (backTo cpos (starEach [] X.env)).any (·.1) = false := by rfl) :
    ME X (.Call (.Attribute (.Name y py) "pop" apos) [e] [] cpos) (mPopAt i m) :=
  ⟨(pe_bm PySem.F.plainAttrs_list PySem.F.slot_list_pop PySem.F.type_list_pop mt_popAt hy (pa_cons he.ok pa_nil hs) hbase hfew hline hs hplain).imq fun σ H Q q => by
    obtain ⟨F, G, b, ρ, hr, r, ρ', e, k⟩ := q
    obtain ⟨w0, e0, e⟩ := bind_some e
    obtain ⟨⟨r1, ρ1⟩, e1, e⟩ := bind_some e
    obtain ⟨_, p0, vs0, es0, a0, _⟩ := cont_ok hr e0
    refine ⟨.ref p0, es0, .inl ⟨rfl, _, .of a0⟩, F, G, b, ρ, hr, r1, ρ1, e1, fun F1 H1 v1 s1 c1 h1 k1 => ?_⟩
    match r1, k1, e with
    | .sh (.int z), k1, e =>
      cases (show Dv F1 v1 (.int z) from k1)
      obtain ⟨ds, e2, e⟩ := bind_some e
      obtain ⟨hz, e⟩ := ite_some' e
      obtain ⟨j, e3, e⟩ := bind_some e
      obtain ⟨d, e4, e⟩ := bind_some e
      cases e
      obtain ⟨o1, p1, vs, es1, a1, x1, f1, g1⟩ := cont_ok h1 e2
      rw [es0] at es1
      cases es1
      obtain ⟨v, ev, dv⟩ := x1.get e4
      have b62 := i62_ok hz
      refine ⟨p0, vs, z, j, v, rfl, rfl, a1, by omega, by omega, by rw [x1.len]; exact e3, ev, ?_⟩
      exact k F1 _ v s1 c1 (h1.put1 o1 es0 (x1.erase j)) dv⟩
def mExtend (i : Nat) (m : MR) : MR := fun ρ => do
  let _ ← contE ρ i
  let (r, ρ1) ← m ρ
  let d ← deref ρ1 r
  match d with
  | .list es => do
    let ds ← contE ρ1 i
    if ds.length + es.length ≤ lim then some (.sh .none, putE ρ1 i (ds ++ es)) else none
  | _ => none
theorem me_extend (hy : PE X (.Name y py) (tVar i)) (he : ME X e m) (hbase : attributeBase (.Name y py) "extend" X.env (eval (.Name y py) X.env) = eval (.Name y py) X.env := by rfl)
    (hfew : ((backTo cpos (starEach (e :: []) X.env)).all (fun x => !x.1) && (backToKw cpos (keywordEach [] X.env)).all (fun x => x.1.isSome)
      && decide ((e :: ([] : List Expr)).length + ([] : List Keyword).length + (if ([] : List Keyword).isEmpty then 0 else 1) < 30)) = true := by rfl)
    (hline : (apos.endLine == cpos.line) = true := by rfl) (hs : starEach (e :: []) X.env = (false, eval e X.env) :: starEach [] X.env := by rfl) (hplain : (backTo cpos (starEach [] X.env)).any (·.1) = false := by rfl) :
    ME X (.Call (.Attribute (.Name y py) "extend" apos) [e] [] cpos) (mExtend i m) :=
  ⟨(pe_bm PySem.F.plainAttrs_list PySem.F.slot_list_extend PySem.F.type_list_extend mt_extend hy (pa_cons he.ok pa_nil hs) hbase hfew hline hs hplain).imq fun σ H Q q => by
    obtain ⟨F, G, b, ρ, hr, r, ρ', e, k⟩ := q
    obtain ⟨w0, e0, e⟩ := bind_some e
    obtain ⟨⟨r1, ρ1⟩, e1, e⟩ := bind_some e
    obtain ⟨d, e2, e⟩ := bind_some e
    obtain ⟨_, p0, vs0, es0, a0, _⟩ := cont_ok hr e0
    refine ⟨.ref p0, es0, .inl ⟨rfl, _, .of a0⟩, F, G, b, ρ, hr, r1, ρ1, e1, fun F1 H1 v1 s1 c1 h1 k1 => ?_⟩
    have bd := k1.bd h1 e2
    match d, bd, e with
    | .list xs, bd, e =>
      obtain ⟨ds, e3, e⟩ := bind_some e
      obtain ⟨hl, e⟩ := ite_some e
      cases e
      obtain ⟨o1, p1, vs, es1, a1, x1, f1, g1⟩ := cont_ok h1 e3
      rw [es0] at es1
      cases es1
      obtain ⟨q, ys, rfl, aq, xq⟩ := bd.list h1.fh
      refine ⟨p0, q, vs, ys, rfl, rfl, a1, aq, by rw [x1.len, xq.len]; exact lim_le hl, ?_⟩
      exact k F1 _ .non s1 c1 (h1.put1 o1 es0 (x1.app xq)) .non⟩
/-- xs[k] = v -/
def sPut (i : Nat) (mi mv : MR) : MS' := fun ρ => do
  let (d, ρ1) ← mCap mv ρ
  let _ ← contE ρ1 i
  let (r, ρ2) ← mi ρ1
  match r with
  | .sh (.int z) => do
    let ds ← contE ρ2 i
    let j ← ixN ds.length z
    some (.nx, putE ρ2 i (ds.set j d))
  | _ => none
theorem ms_put {ei : Expr} {mi mv : MR} {spos : Pos} (hy : PE X (.Name y py) (tVar i)) (hi : ME X ei mi) (he : ME X e mv)
    (ha : ∀ v, assign (.Subscript (.Name y py) ei pos) X.env v = (do
      let ov ← holding [v] (eval (.Name y py) X.env)
      let iv ← holding [v, ov] (eval ei X.env)
      standAt pos
      holding [v, ov, iv] (setItem ov iv v)
      release [v, ov, iv] []) := by intro _; rfl)
    (hs : swapsWithSole [.Subscript (.Name y py) ei pos] e spos.line X.env = pure false := by rfl) (hw : swappedStores [.Subscript (.Name y py) ei pos] e X.env = pure none := by rfl) (h1 : (assignEach [.Subscript (.Name y py) ei pos] X.env).map (·.2) = [assign (.Subscript (.Name y py) ei pos) X.env] := by rfl) :
    MSt X (.Assign [.Subscript (.Name y py) ei pos] e spos) (sPut i mi mv) := ⟨(ps_asg he.ok (pg_sub hy hi.ok set_list ha) hs hw h1).imq fun D σ H q => by
  obtain ⟨F, G, b, ρ, hr, o, ρ', e, k⟩ := q
  obtain ⟨⟨d, ρ1⟩, e1, e⟩ := bind_some e
  obtain ⟨w0, e0, e⟩ := bind_some e
  obtain ⟨⟨r, ρ2⟩, e2, e⟩ := bind_some e
  obtain ⟨⟨rv, ρ0⟩, e3, e1⟩ := bind_some e1
  refine ⟨F, G, b, ρ, hr, rv, ρ0, e3, fun F1 H1 v1 s1 c1 h1 k1 => ?_⟩
  obtain ⟨F2, s2, c2, h2, dv⟩ := cap_ok h1 k1 e1
  obtain ⟨_, p0, vs0, es0, a0, _⟩ := cont_ok h2 e0
  refine ⟨.ref p0, es0, F2, G, b, ρ1, h2, r, ρ2, e2, fun F3 H3 v3 s3 c3 h3 k3 => ?_⟩
  match r, k3, e with
  | .sh (.int z), k3, e =>
    cases (show Dv F3 v3 (.int z) from k3)
    obtain ⟨ds, e4, e⟩ := bind_some e
    obtain ⟨j, e5, e⟩ := bind_some e
    cases e
    obtain ⟨o1, p1, vs, es1, a1, x1, f1, g1⟩ := cont_ok h3 e4
    rw [es0] at es1
    cases es1
    refine ⟨p0, vs, z, j, rfl, rfl, a1, by rw [x1.len]; exact e5, ?_⟩
    exact k F3 _ σ (s1.trans (s2.trans s3)) (c1.trans (c2.trans c3)) (h3.put1 o1 es0 (x1.set j (dv.mono s3)))⟩
end
end
end Mi
set_option Elab.async false
set_option linter.all false
set_option maxRecDepth 100000
/-! Core6: operators, comparisons, subscripts, slices, built-ins on data. -/
namespace Mi
open PySem PySem.Spec PyProof.Rows L2
open PySem.W (alike alikeAll dataLt AlikeAll minD maxD lt_data gt_data le_data ge_data min_list_data max_list_data)
variable [KK]

/-! ### plain data: no dict in it -/
mutual
def plainD : D → Bool
  | .none => true
  | .bool _ => true
  | .int _ => true
  | .str _ => true
  | .list ds => plainDs ds
  | .tuple ds => plainDs ds
  | .dict _ => false
def plainDs : List D → Bool
  | [] => true
  | d :: ds => plainD d && plainDs ds
end
mutual
theorem Dv.pl {K : Fr0} {F : Hp} : ∀ {v : V} {d : D}, Dv F v d → plainD d = true → Dp K F v d
  | _, _, .non, _ => .non
  | _, _, .bl b, _ => .bl b
  | _, _, .int i, _ => .int i
  | _, _, .str x, _ => .str x
  | _, _, .lst h a, c => .lst (.of h) (Dvs.pl a c)
  | _, _, .tup h a, c => .tup (.of h) (Dvs.pl a c)
  | _, _, .frz h a, c => by cases c
theorem Dvs.pl {K : Fr0} {F : Hp} : ∀ {vs : List V} {ds : List D}, Dvs F vs ds → plainDs ds = true → DpAll K F vs ds
  | _, _, .nil, _ => .nil
  | _, _, .cons h a, c => by
    have c' := Bool.and_eq_true_iff.mp c
    exact .cons (Dv.pl h c'.1) (Dvs.pl a c'.2)
end
mutual
theorem plain_of_canLay : ∀ d : D, d.canLay0 = true → plainD d = true
  | .none, _ => rfl
  | .bool _, _ => rfl
  | .int _, _ => rfl
  | .str _, _ => rfl
  | .list ds, h => plains_of_canLay ds h
  | .tuple ds, h => plains_of_canLay ds h
  | .dict _, h => by cases h
theorem plains_of_canLay : ∀ ds : List D, PyData.canLayAll0 ds = true → plainDs ds = true
  | [], _ => rfl
  | d :: ds, h => by
    have h' := Bool.and_eq_true_iff.mp h
    exact Bool.and_eq_true_iff.mpr ⟨plain_of_canLay d h'.1, plains_of_canLay ds h'.2⟩
end
theorem Bd.dp {K : Fr0} {F H : Hp} {v : V} {d : D} (s : Same F H) (h : Bd F H v d) (c : plainD d = true) : Dp K H v d := (h.dv s).pl c

/-! ### arithmetic -/
section
variable {X : Cx}
def addI : D → D → Option R
  | .int a, .int b => some (.sh (.int (a + b)))
  | _, _ => none
def addS : D → D → Option R
  | .str a, .str b => if a.length + b.length ≤ lim then some (.sh (.str (a ++ b))) else none
  | _, _ => none
def addL : D → D → Option R
  | .list a, .list b => if a.length + b.length ≤ lim then some (.fr (a ++ b)) else none
  | _, _ => none
def addT : D → D → Option R
  | .tuple a, .tuple b => if a.length + b.length ≤ lim then some (.sh (.tuple (a ++ b))) else none
  | _, _ => none
def addD : D → D → Option R
  | .int a, .int b => some (.sh (.int (a + b)))
  | .str a, .str b => if a.length + b.length ≤ lim then some (.sh (.str (a ++ b))) else none
  | .list a, .list b => if a.length + b.length ≤ lim then some (.fr (a ++ b)) else none
  | .tuple a, .tuple b => if a.length + b.length ≤ lim then some (.sh (.tuple (a ++ b))) else none
  | _, _ => none
theorem op2_I {f : Int → Int → Int} {g : D → D → Option R} (h : ∀ a b k, g a b = some k → ∃ i j, a = .int i ∧ b = .int j ∧ k = .sh (.int (f i j))) : Op2 (rI0 fun i j => .int (f i j)) g := fun F H v1 v2 d1 d2 k s b1 b2 e Q q => by
  obtain ⟨i, j, rfl, rfl, rfl⟩ := h d1 d2 k e
  exact ⟨i, j, b1.int, b2.int, q F H _ (post_sh s (.int _))⟩
theorem op2_C {C : Int → Int → Prop} {f : Int → Int → Int} {g : D → D → Option R} (h : ∀ a b k, g a b = some k → ∃ i j, a = .int i ∧ b = .int j ∧ C i j ∧ k = .sh (.int (f i j))) : Op2 (rI C fun i j => .int (f i j)) g := fun F H v1 v2 d1 d2 k s b1 b2 e Q q => by
  obtain ⟨i, j, rfl, rfl, c, rfl⟩ := h d1 d2 k e
  exact ⟨i, j, b1.int, b2.int, c, q F H _ (post_sh s (.int _))⟩
theorem o_addI : Op2 (rI0 fun i j => .int (i + j)) addI := op2_I fun a b k e => by
  match a, b, e with
  | .int i, .int j, e => exact ⟨i, j, rfl, rfl, (Option.some.inj e).symm⟩
theorem o_addS : Op2 (fun x y H Q => ∃ i j, x = .str i ∧ y = .str j ∧ i.length + j.length ≤ sizeLine ∧ Q (.str (i ++ j)) H) addS := fun F H v1 v2 d1 d2 k s b1 b2 e Q q => by
  match d1, d2, e, b1, b2 with
  | .str a, .str b, e, b1, b2 =>
    obtain ⟨hl, rfl⟩ := ite_some (show (if a.length + b.length ≤ lim then some (R.sh (.str (a ++ b))) else none) = some k from e)
    exact ⟨a, b, b1.str, b2.str, lim_le hl, q F H _ (post_sh s (.str _))⟩
theorem o_addL : Op2 rCat addL := fun F H v1 v2 d1 d2 k s b1 b2 e Q q => by
  match d1, d2, e, b1, b2 with
  | .list a, .list b, e, b1, b2 =>
    obtain ⟨hl, rfl⟩ := ite_some (show (if a.length + b.length ≤ lim then some (R.fr (a ++ b)) else none) = some k from e)
    obtain ⟨p1, xs, rfl, h1, x1⟩ := b1.list s
    obtain ⟨p2, ys, rfl, h2, x2⟩ := b2.list s
    exact ⟨p1, p2, xs, ys, rfl, rfl, h1, h2, by rw [x1.len, x2.len]; exact lim_le hl, fun p hp => q _ _ _ (post_fr s hp (x1.app x2))⟩
theorem o_addT {K : Fr0} : Op2 (rCatA K) addT := fun F H v1 v2 d1 d2 k s b1 b2 e Q q => by
  match d1, d2, e, b1, b2 with
  | .tuple a, .tuple b, e, b1, b2 =>
    obtain ⟨hl, rfl⟩ := ite_some (show (if a.length + b.length ≤ lim then some (R.sh (.tuple (a ++ b))) else none) = some k from e)
    obtain ⟨p1, xs, rfl, h1, x1⟩ := b1.tup
    obtain ⟨p2, ys, rfl, h2, x2⟩ := b2.tup
    refine ⟨p1, p2, xs, ys, rfl, rfl, .of (s _ _ h1), .of (s _ _ h2), by rw [x1.len, x2.len]; exact lim_le hl, fun z => ?_, fun _ z => ?_, fun _ _ p hp => q _ _ _ (post_tup s hp (x1.app x2))⟩
    · subst z
      cases x1
      exact q F H _ (post_sh s (.tup h2 x2))
    · subst z
      cases x2
      rw [List.append_nil] at q
      exact q F H _ (post_sh s (.tup h1 x1))
theorem bin_add : BinOk X .Add addD := ⟨_, op_add.or (op_add_str.or (op_cat.or op_catA)), Op2.or (g := fun a b => match a, b with
    | .int _, .int _ => none
    | a, b => addD a b) o_addI (Op2.or (g := fun a b => match a, b with
      | .list a, .list b => addD (.list a) (.list b)
      | .tuple a, .tuple b => addD (.tuple a) (.tuple b)
      | _, _ => none) o_addS (Op2.or o_addL o_addT fun a b z e => by
        match a, b, e with
        | .list a, .list b, e => exact .inl e
        | .tuple a, .tuple b, e => exact .inr e) fun a b z e => by
      match a, b, e with
      | .str a, .str b, e => exact .inl e
      | .list a, .list b, e => exact .inr e
      | .tuple a, .tuple b, e => exact .inr e
      | .int a, b, e => cases b <;> cases e) fun a b z e => by
    match a, b, e with
    | .int a, .int b, e => exact .inl e
    | .str a, .str b, e => exact .inr e
    | .list a, .list b, e => exact .inr e
    | .tuple a, .tuple b, e => exact .inr e⟩
def subD : D → D → Option R
  | .int a, .int b => some (.sh (.int (a - b)))
  | _, _ => none
theorem bin_sub : BinOk X .Sub subD := ⟨_, op_sub, op2_I fun a b k e => by
  match a, b, e with
  | .int i, .int j, e => exact ⟨i, j, rfl, rfl, (Option.some.inj e).symm⟩⟩
def i64 (i : Int) : Bool := decide (-(2 ^ 64) < i) && decide (i < 2 ^ 64)
theorem i64_ok {i : Int} (h : i64 i = true) : -(2 ^ 64) < i ∧ i < 2 ^ 64 := by
  unfold i64 at h
  have := Bool.and_eq_true_iff.mp h
  exact ⟨of_decide_eq_true this.1, of_decide_eq_true this.2⟩
def mulI : D → D → Option R
  | .int a, .int b => if (i64 a || i64 b) = true then some (.sh (.int (a * b))) else none
  | _, _ => none
theorem o_mulI : Op2 (rI CMul fun i j => .int (i * j)) mulI := op2_C fun a b k e => by
  match a, b, e with
  | .int i, .int j, e =>
    obtain ⟨h, rfl⟩ := ite_some (show (if (i64 i || i64 j) = true then some (R.sh (.int (i * j))) else none) = some k from e)
    exact ⟨i, j, rfl, rfl, (Bool.or_eq_true_iff.mp h).imp i64_ok i64_ok, rfl⟩
/-- list * int -/
def mulL : D → D → Option R
  | .list a, .int k => if i62 k = true ∧ a.length * k.toNat ≤ lim then some (.fr (List.replicate k.toNat a).flatten) else none
  | _, _ => none
theorem flat_rep {F : Hp} {vs : List V} {ds : List D} (h : Dvs F vs ds) : ∀ n, Dvs F (List.replicate n vs).flatten (List.replicate n ds).flatten
  | 0 => .nil
  | n + 1 => by
    rw [List.replicate_succ, List.replicate_succ, List.flatten_cons, List.flatten_cons]
    exact h.app (flat_rep h n)
theorem o_mulL : Op2 rRep mulL := fun F H v1 v2 d1 d2 k s b1 b2 e Q q => by
  match d1, d2, e, b1, b2 with
  | .list a, .int z, e, b1, b2 =>
    obtain ⟨⟨hz, hl⟩, rfl⟩ := ite_some (show (if i62 z = true ∧ a.length * z.toNat ≤ lim then some (R.fr (List.replicate z.toNat a).flatten) else none) = some k from e)
    obtain ⟨p1, xs, rfl, h1, x1⟩ := b1.list s
    have b62 := i62_ok hz
    exact ⟨p1, z, xs, rfl, b2.int, h1, by omega, by omega, by rw [x1.len]; exact lim_le hl, fun p hp => q _ _ _ (post_fr s hp (flat_rep x1 _))⟩
def mulD : D → D → Option R
  | .int a, .int b => mulI (.int a) (.int b)
  | .list a, .int b => mulL (.list a) (.int b)
  | _, _ => none
theorem bin_mul : BinOk X .Mult mulD := ⟨_, op_mul.or op_rep, Op2.or o_mulI o_mulL fun a b z e => by
  match a, b, e with
  | .int a, .int b, e => exact .inl e
  | .list a, .int b, e => exact .inr e⟩
def divD : D → D → Option R
  | .int a, .int b => if 0 < b ∧ b < 2 ^ 64 then some (.sh (.int (a / b))) else none
  | _, _ => none
theorem bin_fdiv : BinOk X .FloorDiv divD := ⟨_, op_fdivW, op2_C fun a b k e => by
  match a, b, e with
  | .int i, .int j, e =>
    obtain ⟨h, rfl⟩ := ite_some (show (if 0 < j ∧ j < 2 ^ 64 then some (R.sh (.int (i / j))) else none) = some k from e)
    exact ⟨i, j, rfl, rfl, wide_div (b := 64) h.1 (by omega) (by decide) (by decide), rfl⟩⟩
def modD : D → D → Option R
  | .int a, .int b => if 0 < b then some (.sh (.int (a % b))) else none
  | _, _ => none
theorem bin_mod : BinOk X .Mod modD := ⟨_, op_mod, op2_C fun a b k e => by
  match a, b, e with
  | .int i, .int j, e =>
    obtain ⟨h, rfl⟩ := ite_some (show (if 0 < j then some (R.sh (.int (i % j))) else none) = some k from e)
    exact ⟨i, j, rfl, rfl, h, rfl⟩⟩
def powD : D → D → Option R
  | .int a, .int b => if (i64 a = true ∧ 0 ≤ b ∧ b ≤ 1000) then some (.sh (.int (a ^ b.toNat))) else none
  | _, _ => none
theorem bin_pow : BinOk X .Pow powD := ⟨_, op_pow, op2_C fun a b k e => by
  match a, b, e with
  | .int i, .int j, e =>
    obtain ⟨⟨h1, h2, h3⟩, rfl⟩ := ite_some (show (if (i64 i = true ∧ 0 ≤ j ∧ j ≤ 1000) then some (R.sh (.int (i ^ j.toNat))) else none) = some k from e)
    have b64 := i64_ok h1
    exact ⟨i, j, rfl, rfl, ⟨h2, by omega, by omega⟩, rfl⟩⟩
def xorD : D → D → Option R
  | .int a, .int b => some (.sh (.int (Builtin.bitXor a b)))
  | _, _ => none
theorem bin_xor : BinOk X .BitXor xorD := ⟨_, op_xor, op2_I fun a b k e => by
  match a, b, e with
  | .int i, .int j, e => exact ⟨i, j, rfl, rfl, (Option.some.inj e).symm⟩⟩
def negD : D → Option R
  | .int a => some (.sh (.int (-a)))
  | _ => none
theorem un_negD : UnOk X .USub negD := ⟨_, un_neg, fun F H v1 d1 k s b e Q q => by
  match d1, e, b with
  | .int i, e, b =>
    cases e
    exact ⟨i, b.int, q F H _ (post_sh s (.int _))⟩⟩

/-! ### comparisons -/
def eqD : D → D → Option Bool
  | .str a, .str b => some (decide (a = b))
  | .int a, .int b => some (decide (a = b))
  | a, b => if SeqAt.shaped a = true ∧ SeqAt.shaped b = true then some (PyData.eqv a b) else none
theorem eqD_cases {a b : D} {k : Bool} (h : eqD a b = some k) : (∃ x y, a = .str x ∧ b = .str y ∧ k = decide (x = y)) ∨ (∃ x y, a = .int x ∧ b = .int y ∧ k = decide (x = y)) ∨ (SeqAt.shaped a = true ∧ SeqAt.shaped b = true ∧ PyData.eqv a b = k) := by
  unfold eqD at h
  split at h
  · exact .inl ⟨_, _, rfl, rfl, (Option.some.inj h).symm⟩
  · exact .inr (.inl ⟨_, _, rfl, rfl, (Option.some.inj h).symm⟩)
  · obtain ⟨⟨h1, h2⟩, h3⟩ := ite_some h
    exact .inr (.inr ⟨h1, h2, h3⟩)
theorem plain_of_shaped {d : D} (h : SeqAt.shaped d = true) : plainD d = true := plain_of_canLay d (SeqAt.canLay_of_shaped h)
theorem decV_str {x y : Str} : decide (V.str x = V.str y) = decide (x = y) := by
  by_cases h : x = y
  · rw [h]; simp
  · rw [decide_eq_false h, decide_eq_false (fun z => h (V.str.inj z))]
theorem decV_int {x y : Int} : decide (V.int x = V.int y) = decide (x = y) := by
  by_cases h : x = y
  · rw [h]; simp
  · rw [decide_eq_false h, decide_eq_false (fun z => h (V.int.inj z))]
theorem cmp_eq (hu : X.A.units + 64 < cLine) : CmpOk X .Eq eqD := ⟨_, op_eq.or (op_eqD hu), fun F H v1 v2 d1 d2 k s b1 b2 e Q q => by
  rcases eqD_cases e with ⟨x, y, rfl, rfl, rfl⟩ | ⟨x, y, rfl, rfl, rfl⟩ | ⟨h1, h2, rfl⟩
  · rw [b1.str, b2.str]
    exact .inl ⟨rfl, by rw [decV_str]; exact q⟩
  · rw [b1.int, b2.int]
    exact .inl ⟨rfl, by rw [decV_int]; exact q⟩
  · exact .inr ⟨d1, d2, b1.dp s (plain_of_shaped h1), b2.dp s (plain_of_shaped h2), h1, h2, q⟩⟩
def neD (a b : D) : Option Bool := (eqD a b).map (!·)
theorem cmp_ne (hu : X.A.units + 64 < cLine) : CmpOk X .NotEq neD := ⟨_, op_ne.or (op_neD hu), fun F H v1 v2 d1 d2 k s b1 b2 e Q q => by
  unfold neD at e
  cases z : eqD d1 d2 with
  | none => rw [z] at e; cases e
  | some w =>
    rw [z] at e
    cases e
    rcases eqD_cases z with ⟨x, y, rfl, rfl, rfl⟩ | ⟨x, y, rfl, rfl, rfl⟩ | ⟨h1, h2, rfl⟩
    · rw [b1.str, b2.str]
      exact .inl ⟨rfl, by rw [decV_str]; exact q⟩
    · rw [b1.int, b2.int]
      exact .inl ⟨rfl, by rw [decV_int]; exact q⟩
    · exact .inr ⟨d1, d2, b1.dp s (plain_of_shaped h1), b2.dp s (plain_of_shaped h2), h1, h2, q⟩⟩
/-- orders: ints; else alike plain data -/
def rLtG (K : Fr0) (f : D → D → Bool) : R2 := fun x y H Q => ∃ d e, Dp K H x d ∧ Dp K H y e ∧ alike d e = true ∧ d ≠ .none ∧ min d.depth e.depth ≤ 60 ∧ Q (.bl (f d e)) H
theorem op_ltG (hu : X.A.units + 64 < cLine) : OpR X (compareOp .Lt) (rLtG X.K dataLt) := by
  intro pins s σ H x y v u Q I rx ry h
  obtain ⟨d, e, hd, he, sd, sn, se, q⟩ := h
  obtain ⟨as, r1⟩ := Dp.reads I d x v hd rx
  obtain ⟨bs, r2⟩ := Dp.reads I e y u he ry
  exact lt_data r1 r2 sd sn (by omega) ⟨.bl _, H, I, rfl, q⟩
theorem op_gtG (hu : X.A.units + 64 < cLine) : OpR X (compareOp .Gt) (rLtG X.K fun a b => dataLt b a) := by
  intro pins s σ H x y v u Q I rx ry h
  obtain ⟨d, e, hd, he, sd, sn, se, q⟩ := h
  obtain ⟨as, r1⟩ := Dp.reads I d x v hd rx
  obtain ⟨bs, r2⟩ := Dp.reads I e y u he ry
  exact gt_data r1 r2 sd sn (by omega) ⟨.bl _, H, I, rfl, q⟩
theorem op_leG (hu : X.A.units + 64 < cLine) : OpR X (compareOp .LtE) (rLtG X.K fun a b => !dataLt b a) := by
  intro pins s σ H x y v u Q I rx ry h
  obtain ⟨d, e, hd, he, sd, sn, se, q⟩ := h
  obtain ⟨as, r1⟩ := Dp.reads I d x v hd rx
  obtain ⟨bs, r2⟩ := Dp.reads I e y u he ry
  exact le_data r1 r2 sd sn (by omega) ⟨.bl _, H, I, rfl, q⟩
theorem op_geG (hu : X.A.units + 64 < cLine) : OpR X (compareOp .GtE) (rLtG X.K fun a b => !dataLt a b) := by
  intro pins s σ H x y v u Q I rx ry h
  obtain ⟨d, e, hd, he, sd, sn, se, q⟩ := h
  obtain ⟨as, r1⟩ := Dp.reads I d x v hd rx
  obtain ⟨bs, r2⟩ := Dp.reads I e y u he ry
  exact ge_data r1 r2 sd sn (by omega) ⟨.bl _, H, I, rfl, q⟩
def ordOk (a b : D) : Bool := plainD a && plainD b && alike a b && decide (min a.depth b.depth ≤ 60) && (match a with | .none => false | _ => true)
def ordD (fi : Int → Int → Bool) (fg : D → D → Bool) : D → D → Option Bool
  | .int a, .int b => some (fi a b)
  | a, b => if ordOk a b = true then some (fg a b) else none
theorem ordD_ok {K : Fr0} {fi : Int → Int → Bool} {fg : D → D → Bool} : Op2B (fun x y H Q => rI0 (fun i j => .bl (fi i j)) x y H Q ∨ rLtG K fg x y H Q) (ordD fi fg) := fun F H v1 v2 d1 d2 k s b1 b2 e Q q => by
  unfold ordD at e
  split at e
  · cases e
    exact .inl ⟨_, _, b1.int, b2.int, q⟩
  · obtain ⟨h, rfl⟩ := ite_some e
    unfold ordOk at h
    simp only [Bool.and_eq_true, decide_eq_true_eq] at h
    obtain ⟨⟨⟨⟨h1, h2⟩, h3⟩, h4⟩, h5⟩ := h
    exact .inr ⟨d1, d2, b1.dp s h1, b2.dp s h2, h3, fun z => (by rw [z] at h5; cases h5), h4, q⟩
def ltD := ordD (fun a b => decide (a < b)) dataLt
def gtD := ordD (fun a b => decide (b < a)) fun a b => dataLt b a
def leD := ordD (fun a b => decide (a ≤ b)) fun a b => !dataLt b a
def geD := ordD (fun a b => decide (b ≤ a)) fun a b => !dataLt a b
theorem cmp_lt (hu : X.A.units + 64 < cLine) : CmpOk X .Lt ltD := ⟨_, op_lt.or (op_ltG hu), ordD_ok⟩
theorem cmp_gt (hu : X.A.units + 64 < cLine) : CmpOk X .Gt gtD := ⟨_, op_gt.or (op_gtG hu), ordD_ok⟩
theorem cmp_le (hu : X.A.units + 64 < cLine) : CmpOk X .LtE leD := ⟨_, op_le.or (op_leG hu), ordD_ok⟩
theorem cmp_ge (hu : X.A.units + 64 < cLine) : CmpOk X .GtE geD := ⟨_, op_ge.or (op_geG hu), ordD_ok⟩
/-- is None -/
def noneD : D → Bool
  | .none => true
  | _ => false
def isND (a b : D) : Option Bool := match b with
  | .none => some (noneD a)
  | _ => none
theorem isN_dec {F H : Hp} {v : V} {d : D} (h : Bd F H v d) : decide (v = .non) = noneD d := by
  rcases h with h | ⟨p, vs, ds, rfl, _, _, rfl⟩
  · cases h <;> rfl
  · rfl
theorem cmp_is : CmpOk X .Is isND := ⟨_, op_isN, fun F H v1 v2 d1 d2 k s b1 b2 e Q q => by
  match d2, e, b2 with
  | .none, e, b2 =>
    cases e
    exact ⟨b2.non, by rw [isN_dec b1]; exact q⟩⟩
theorem cmp_isnot : CmpOk X .IsNot (fun a b => (isND a b).map (!·)) := ⟨_, op_notN, fun F H v1 v2 d1 d2 k s b1 b2 e Q q => by
  match d2, e, b2 with
  | .none, e, b2 =>
    cases e
    exact ⟨b2.non, by rw [isN_dec b1]; exact q⟩⟩
/-- x in a list of data; in a tuple of flat data -/
def flatD : D → Bool
  | .none => true
  | .bool _ => true
  | .int _ => true
  | .str _ => true
  | _ => false
theorem flat_v {F H : Hp} {v : V} {d : D} (h : Bd F H v d) (e : flatD d = true) : flatV v = true := by
  rcases h with h | ⟨p, vs, ds, rfl, _, _, rfl⟩
  · cases h <;> first | rfl | cases e
  · cases e
theorem flat_vs {F : Hp} : ∀ {vs : List V} {ds : List D}, Dvs F vs ds → ds.all flatD = true → vs.all flatV = true
  | _, _, .nil, _ => rfl
  | _, _, .cons h a, c => by
    rw [List.all_cons] at c ⊢
    have c' := Bool.and_eq_true_iff.mp c
    rw [flat_v (H := F) (.inl h) c'.1, flat_vs a c'.2]
    rfl
def inD : D → D → Option Bool
  | a, .list ds => if SeqAt.shaped a = true ∧ SeqAt.shaped (.list ds) = true then some (ds.any fun z => PyData.eqv z a) else none
  | _, _ => none
theorem cmp_in (hu : X.A.units + 65 < cLine) : CmpOk X .In inD := ⟨_, op_inD hu, fun F H v1 v2 d1 d2 k s b1 b2 e Q q => by
  match d2, e, b2 with
  | .list ds, e, b2 =>
    obtain ⟨⟨h1, h2⟩, rfl⟩ := ite_some (show (if SeqAt.shaped d1 = true ∧ SeqAt.shaped (.list ds) = true then some (ds.any fun z => PyData.eqv z d1) else none) = some k from e)
    exact ⟨d1, ds, b1.dp s (plain_of_shaped h1), b2.dp s (plain_of_shaped h2), h1, h2, q⟩⟩
theorem cmp_notin (hu : X.A.units + 65 < cLine) : CmpOk X .NotIn (fun a b => (inD a b).map (!·)) := ⟨_, op_notInD hu, fun F H v1 v2 d1 d2 k s b1 b2 e Q q => by
  match d2, e, b2 with
  | .list ds, e, b2 =>
    by_cases hs : SeqAt.shaped d1 = true ∧ SeqAt.shaped (.list ds) = true
    · have e2 : (some (ds.any fun z => PyData.eqv z d1)).map (!·) = some k := by
        rw [← e]
        show _ = (if SeqAt.shaped d1 = true ∧ SeqAt.shaped (.list ds) = true then some (ds.any fun z => PyData.eqv z d1) else none).map (!·)
        rw [if_pos hs]
      cases e2
      exact ⟨d1, ds, b1.dp s (plain_of_shaped hs.1), b2.dp s (plain_of_shaped hs.2), hs.1, hs.2, q⟩
    · have e2 : none = some k := by
        rw [← e]
        show _ = (if SeqAt.shaped d1 = true ∧ SeqAt.shaped (.list ds) = true then some (ds.any fun z => PyData.eqv z d1) else none).map (!·)
        rw [if_neg hs]
        rfl
      cases e2⟩

/-! ### subscripts, slices -/
def ixD : D → D → Option R
  | .list ds, .int i => (atI ds i).map .sh
  | .tuple ds, .int i => (atI ds i).map .sh
  | .str z, .int i => if z.length ≤ lim then (atI z.cps.toList i).map fun c => .sh (.str ⟨#[c]⟩) else none
  | .dict [(.none, .list ds)], .int i => (atI ds i).map .sh
  | _, _ => none
theorem at_dvs {F : Hp} {vs : List V} {ds : List D} {i : Int} {d : D} (h : Dvs F vs ds) (e : atI ds i = some d) : ∃ v, atI vs i = some v ∧ Dv F v d := by
  unfold atI at e ⊢
  rw [h.len]
  cases q : ixN ds.length i with
  | none => rw [q] at e; cases e
  | some j =>
    rw [q] at e
    exact h.get e
theorem map_some {α β : Type} {o : Option α} {f : α → β} {z : β} (h : o.map f = some z) : ∃ a, o = some a ∧ f a = z := by
  cases o with
  | none => cases h
  | some a => exact ⟨a, rfl, Option.some.inj h⟩
theorem o_ix {K : Fr0} (hK : K = KK.K) : Op2 (rIx K) ixD := fun F H v1 v2 d1 d2 k s b1 b2 e Q q => by
  match d1, d2, e, b1, b2 with
  | .list ds, .int i, e, b1, b2 =>
    obtain ⟨d, e1, rfl⟩ := map_some (show (atI ds i).map R.sh = some k from e)
    obtain ⟨p, vs, rfl, a, x⟩ := b1.list s
    obtain ⟨v, ev, dv⟩ := at_dvs x e1
    exact .inl ⟨p, vs, i, v, rfl, b2.int, .of a, ev, q F H v (post_sh s dv)⟩
  | .tuple ds, .int i, e, b1, b2 =>
    obtain ⟨d, e1, rfl⟩ := map_some (show (atI ds i).map R.sh = some k from e)
    obtain ⟨p, vs, rfl, a, x⟩ := b1.tup
    obtain ⟨v, ev, dv⟩ := at_dvs x e1
    exact .inr (.inl ⟨p, vs, i, v, rfl, b2.int, .of (s _ _ a), ev, q F H v (post_sh s dv)⟩)
  | .dict [(.none, .list ds)], .int i, e, b1, b2 =>
    obtain ⟨d, e1, rfl⟩ := map_some (show (atI ds i).map R.sh = some k from e)
    obtain ⟨p, vs, rfl, a, x⟩ := Bd.frz b1
    obtain ⟨v, ev, dv⟩ := at_dvs x e1
    exact .inl ⟨p, vs, i, v, rfl, b2.int, (by rw [hK]; exact s.seq a), ev, q F H v (post_sh s dv)⟩
  | .str z, .int i, e, b1, b2 =>
    obtain ⟨hl, e1⟩ := ite_some' (show (if z.length ≤ lim then (atI z.cps.toList i).map (fun c => R.sh (.str ⟨#[c]⟩)) else none) = some k from e)
    obtain ⟨c, e2, rfl⟩ := map_some e1
    exact .inr (.inr ⟨z, i, c, b1.str, b2.int, lim_le hl, e2, q F H _ (post_sh s (.str _))⟩)
variable {e a b c : Expr} {pos p p2 : Pos} {m ma mb mc : MR} {x : Str}
theorem me_ix (ha : ME X a ma) (hb : ME X b mb) (hs : PlainIx b) (hK : X.K = KK.K := by rfl) : ME X (.Subscript a b pos) (mBin ixD ma mb) := ⟨(pe_ix ix_seq ha.ok hb.ok hs).imq (tM_bin (o_ix hK))⟩
/-- a part of a slice -/
abbrev MP := En → Option (Option Int × En)
def tMP (m : MP) : TO := fun σ H Q => ∃ F G b ρ, Rp F G H b σ ρ ∧ ∃ r ρ', m ρ = some (r, ρ') ∧ ∀ F' H', Same F F' → Cln F G F' → Rp F' G H' b σ ρ' → Q r H'
structure MPt (X : Cx) (o : Option Expr) (m : MP) : Prop where
  ok : PO X o (tMP m)
theorem _root_.L2.PO.imq {X : Cx} {e : Option Expr} {t t' : TO} (h : PO X e t) (i : ∀ σ H Q, t' σ H Q → t σ H Q) : PO X e t' := ⟨fun pins s σ H R I q => h.run pins s σ H R I (i σ H R q)⟩
def pNone : MP := fun ρ => some (none, ρ)
def pSome (m : MR) : MP := fun ρ => do
  let (r, ρ1) ← m ρ
  match r with
  | .sh (.int i) => some (some i, ρ1)
  | _ => none
theorem mp_none : MPt X none pNone := ⟨po_none.imq fun σ H Q q => by
  obtain ⟨F, G, b, ρ, hr, r, ρ', e, k⟩ := q
  cases e
  exact k F H (.refl _) (.refl _ _) hr⟩
theorem mp_some (ha : ME X a ma) : MPt X (some a) (pSome ma) := ⟨(po_some ha.ok).imq fun σ H Q q => by
  obtain ⟨F, G, b, ρ, hr, r, ρ', e, k⟩ := q
  obtain ⟨⟨r1, ρ1⟩, e1, e⟩ := bind_some e
  refine ⟨F, G, b, ρ, hr, r1, ρ1, e1, fun F1 H1 v s1 c1 h1 k1 => ?_⟩
  match r1, k1, e with
  | .sh (.int i), k1, e =>
    cases (show Dv F1 v (.int i) from k1)
    cases e
    exact ⟨i, rfl, k F1 H1 s1 c1 h1⟩⟩
def cutD {α : Type} (xs : List α) (lo hi : Option Int) : List α := (xs.drop (HT.sIx xs.length 0 lo)).take (HT.sIx xs.length xs.length hi - HT.sIx xs.length 0 lo)
def slD (d : D) (lo hi : Option Int) : Option R := match d with
  | .list ds => some (.fr (cutD ds lo hi))
  | .tuple ds => some (.sh (.tuple (cutD ds lo hi)))
  | .str z => if z.length ≤ lim then some (.sh (.str (cutS z lo hi))) else none
  | _ => none
def mSl (m : MR) (lo hi : MP) : MR := fun ρ => do
  let (r, ρ1) ← m ρ
  let (l, ρ2) ← lo ρ1
  let (h, ρ3) ← hi ρ2
  let d ← deref ρ3 r
  let k ← slD d l h
  some (k, ρ3)
theorem cut_dvs {F : Hp} {vs : List V} {ds : List D} (h : Dvs F vs ds) (lo hi : Option Int) : Dvs F (cutV vs lo hi) (cutD ds lo hi) := by
  unfold cutV cutD
  rw [h.len]
  exact (h.drop _).take _
theorem cut_whole {α : Type} {xs : List α} {lo hi : Option Int} (h : HT.sIx xs.length 0 lo = 0 ∧ HT.sIx xs.length xs.length hi = xs.length) : cutD xs lo hi = xs := by
  unfold cutD
  rw [h.1, h.2]
  simp
theorem me_slice {lo hi : Option Expr} {ml mh : MP} (ha : ME X a ma) (hl : MPt X lo ml) (hh : MPt X hi mh) : ME X (.Subscript a (.Slice lo hi none p2) pos) (mSl ma ml mh) :=
  ⟨(pe_slice (sl_list.or (sl_tupA.or sl_str)) ha.ok hl.ok hh.ok).imq fun σ H Q q => by
    obtain ⟨F, G, b, ρ, hr, r, ρ', e, k⟩ := q
    obtain ⟨⟨r1, ρ1⟩, e1, e⟩ := bind_some e
    obtain ⟨⟨l, ρ2⟩, e2, e⟩ := bind_some e
    obtain ⟨⟨h, ρ3⟩, e3, e⟩ := bind_some e
    obtain ⟨d, e4, e⟩ := bind_some e
    obtain ⟨k1, e5, e⟩ := bind_some e
    cases e
    refine ⟨F, G, b, ρ, hr, r1, ρ1, e1, fun F1 H1 v1 s1 c1 h1 k1' => ?_⟩
    refine ⟨F1, guard G H1 v1 r1, b, ρ1, h1.guarded k1', l, ρ2, e2, fun F2 H2 s2 c2 h2 => ?_⟩
    refine ⟨F2, _, b, ρ2, h2, h, _, e3, fun F3 H3 s3 c3 h3 => ?_⟩
    have ge := guard_ge k1'
    have kk := k1'.keep (s2.trans s3) (c2.trans c3) h3
    have h3' := h3.less ge
    have cc := c1.trans ((c2.trans c3).less ge)
    have ss := s1.trans (s2.trans s3)
    have bd := kk.bd h3' e4
    have fin : ∀ F' H' v, Post F3 H3 r F' H' v → Q v H' := fun F' H' v P => k F' H' v (ss.trans P.ff) (cc.trans (P.cln h3'.gh)) (P.rp h3') (P.rs h3')
    match d, e5, bd with
    | .list ds, e5, bd =>
      cases e5
      obtain ⟨p, vs, rfl, a, x⟩ := bd.list h3'.fh
      exact .inl ⟨p, vs, rfl, .of a, fun p' hp => fin _ _ _ (post_fr h3'.fh hp (cut_dvs x l h))⟩
    | .tuple ds, e5, bd =>
      cases e5
      obtain ⟨p, vs, rfl, a, x⟩ := bd.tup
      refine .inr (.inl ⟨p, vs, rfl, .of (h3'.fh _ _ a), fun z => fin F3 H3 _ (post_sh h3'.fh ?_), fun _ p' hp => fin _ _ _ (post_tup h3'.fh hp (cut_dvs x l h))⟩)
      rw [x.len] at z
      rw [cut_whole z]
      exact .tup a x
    | .str z, e5, bd =>
      obtain ⟨hl, rfl⟩ := ite_some (show (if z.length ≤ lim then some (R.sh (.str (cutS z l h))) else none) = some r from e5)
      exact .inr (.inr ⟨z, bd.str, lim_le hl, fin F3 H3 _ (post_sh h3'.fh (.str _))⟩)⟩

/-! ### built-ins of one and two arguments -/
def OpC1 (r : List V → Hp → VK → Prop) (f : D → Option R) : Prop := ∀ F H v1 d1 k, Same F H → Bd F H v1 d1 → f d1 = some k → ∀ Q : VK, (∀ F' H' v, Post F H k F' H' v → Q v H') → r [v1] H Q
def OpC2 (r : List V → Hp → VK → Prop) (f : D → D → Option R) : Prop := ∀ F H v1 v2 d1 d2 k, Same F H → Bd F H v1 d1 → Bd F H v2 d2 → f d1 d2 = some k → ∀ Q : VK, (∀ F' H' v, Post F H k F' H' v → Q v H') → r [v1, v2] H Q
structure Call1 (X : Cx) (g : Value) (f : D → Option R) : Prop where
  ex : ∃ r, CallR X g r ∧ OpC1 r f
structure Call2 (X : Cx) (g : Value) (f : D → D → Option R) : Prop where
  ex : ∃ r, CallR X g r ∧ OpC2 r f
theorem read1 {r : List V → Hp → VK → Prop} {f : D → Option R} (o : OpC1 r f) (σ : L2.St) (H : Hp) (Q : VK) (q : tM (mUn f ma) σ H Q) : tCB r (tCons (tM ma) tNil) σ H Q :=
  tM_un (r := fun v H Q => r [v] H Q) (fun F H v1 d1 k s b e Q q => o F H v1 d1 k s b e Q q) σ H Q q
theorem read2 {r : List V → Hp → VK → Prop} {f : D → D → Option R} (o : OpC2 r f) (σ : L2.St) (H : Hp) (Q : VK) (q : tM (mBin f ma mb) σ H Q) : tCB r (tCons (tM ma) (tCons (tM mb) tNil)) σ H Q :=
  tM_bin (r := fun v w H Q => r [v, w] H Q) (fun F H v1 v2 d1 d2 k s b1 b2 e Q q => o F H v1 v2 d1 d2 k s b1 b2 e Q q) σ H Q q
theorem me_b1 {id : String} {f : D → Option R} (h : Call1 X (.builtin id) f) (hg : Gl X x) (hm : X.mg x = none) (hv : bootBuiltins x = some (.builtin id)) (ha : ME X a ma) (hn : x ≠ "__name__" := by decide) (hdb : (x == ("__debug__" : Str)) = false := by decide)
    (hs : starEach (a :: []) X.env = (false, eval a X.env) :: starEach [] X.env := by rfl) (hpl : (backTo pos (starEach [] X.env)).any (·.1) = false := by rfl) : ME X (.Call (.Name x p) [a] [] pos) (mUn f ma) := by
  obtain ⟨r, h1, h2⟩ := h.ex
  exact ⟨(pe_callB h1 hg hm hv (pa_cons ha.ok pa_nil hs) hn hdb hs hpl).imq (read1 h2)⟩
theorem me_t1 {id : String} {f : D → Option R} (h : Call1 X (.type id) f) (hg : Gl X x) (hm : X.mg x = none) (hv : bootBuiltins x = some (.type id)) (ha : ME X a ma) (hn : x ≠ "__name__" := by decide) (hdb : (x == ("__debug__" : Str)) = false := by decide)
    (hs : starEach (a :: []) X.env = (false, eval a X.env) :: starEach [] X.env := by rfl) (hpl : (backTo pos (starEach [] X.env)).any (·.1) = false := by rfl) : ME X (.Call (.Name x p) [a] [] pos) (mUn f ma) := by
  obtain ⟨r, h1, h2⟩ := h.ex
  exact ⟨(pe_callTy h1 hg hm hv (pa_cons ha.ok pa_nil hs) hn hdb hs hpl).imq (read1 h2)⟩
theorem me_b2 {id : String} {f : D → D → Option R} (h : Call2 X (.builtin id) f) (hg : Gl X x) (hm : X.mg x = none) (hv : bootBuiltins x = some (.builtin id)) (ha : ME X a ma) (hb : ME X b mb) (hn : x ≠ "__name__" := by decide) (hdb : (x == ("__debug__" : Str)) = false := by decide)
    (hs : starEach (a :: [b]) X.env = (false, eval a X.env) :: starEach [b] X.env := by rfl) (hs2 : starEach (b :: []) X.env = (false, eval b X.env) :: starEach [] X.env := by rfl) (hpl : (backTo pos (starEach [b] X.env)).any (·.1) = false := by rfl) : ME X (.Call (.Name x p) [a, b] [] pos) (mBin f ma mb) := by
  obtain ⟨r, h1, h2⟩ := h.ex
  exact ⟨(pe_callB h1 hg hm hv (pa_cons ha.ok (pa_cons hb.ok pa_nil hs2) hs) hn hdb hs hpl).imq (read2 h2)⟩

def lenD : D → Option R
  | .list ds => some (.sh (.int ds.length))
  | .tuple ds => some (.sh (.int ds.length))
  | .str z => if z.length ≤ lim then some (.sh (.int z.length)) else none
  | .dict [(.none, .list ds)] => some (.sh (.int ds.length))
  | _ => none
theorem c_len (hK : X.K = KK.K := by rfl) : Call1 X (.builtin "len") lenD := ⟨_, call_len_seq.or call_len_str, fun F H v1 d1 k s b e Q q => by
  match d1, e, b with
  | .list ds, e, b =>
    cases e
    obtain ⟨p, vs, rfl, a, x⟩ := b.list s
    exact .inl ⟨p, vs, rfl, .inl (.of a), by rw [x.len]; exact q F H _ (post_sh s (.int _))⟩
  | .tuple ds, e, b =>
    cases e
    obtain ⟨p, vs, rfl, a, x⟩ := b.tup
    exact .inl ⟨p, vs, rfl, .inr (.of (s _ _ a)), by rw [x.len]; exact q F H _ (post_sh s (.int _))⟩
  | .dict [(.none, .list ds)], e, b =>
    cases e
    obtain ⟨p, vs, rfl, a, x⟩ := Bd.frz b
    exact .inl ⟨p, vs, rfl, .inl (by rw [hK]; exact s.seq a), by rw [x.len]; exact q F H _ (post_sh s (.int _))⟩
  | .str z, e, b =>
    obtain ⟨hl, rfl⟩ := ite_some (show (if z.length ≤ lim then some (R.sh (.int z.length)) else none) = some k from e)
    exact .inr ⟨z, by rw [b.str], lim_le hl, q F H _ (post_sh s (.int _))⟩⟩
def absD : D → Option R
  | .int i => some (.sh (.int (if i < 0 then -i else i)))
  | _ => none
theorem c_abs : Call1 X (.builtin "abs") absD := ⟨_, call_abs, fun F H v1 d1 k s b e Q q => by
  match d1, e, b with
  | .int i, e, b =>
    cases e
    exact ⟨i, by rw [b.int], q F H _ (post_sh s (.int _))⟩⟩
def intD : D → Option R
  | .int i => some (.sh (.int i))
  | .bool k => some (.sh (.int (if k then 1 else 0)))
  | _ => none
theorem c_int : Call1 X (.type "int") intD := ⟨_, call_int1, fun F H v1 d1 k s b e Q q => by
  match d1, e, b with
  | .int i, e, b =>
    cases e
    exact .inl ⟨i, by rw [b.int], q F H _ (post_sh s (.int _))⟩
  | .bool i, e, b =>
    cases e
    exact .inr ⟨i, by rw [b.bl], q F H _ (post_sh s (.int _))⟩⟩
def max2D : D → D → Option R
  | .int i, .int j => some (.sh (.int (if j > i then j else i)))
  | _, _ => none
theorem c_max2 (hc : X.calm = true) : Call2 X (.builtin "max") max2D := ⟨_, call_max2 hc, fun F H v1 v2 d1 d2 k s b1 b2 e Q q => by
  match d1, d2, e, b1, b2 with
  | .int i, .int j, e, b1, b2 =>
    cases e
    exact ⟨i, j, by rw [b1.int, b2.int], q F H _ (post_sh s (.int _))⟩⟩
def min2D : D → D → Option R
  | .int i, .int j => some (.sh (.int (if j < i then j else i)))
  | _, _ => none
theorem c_min2 (hc : X.calm = true) : Call2 X (.builtin "min") min2D := ⟨_, call_min2 hc, fun F H v1 v2 d1 d2 k s b1 b2 e Q q => by
  match d1, d2, e, b1, b2 with
  | .int i, .int j, e, b1, b2 =>
    cases e
    exact ⟨i, j, by rw [b1.int, b2.int], q F H _ (post_sh s (.int _))⟩⟩
/-- the ints of a list of ints -/
def intsD : List D → Option (List Int)
  | [] => some []
  | .int i :: r => (intsD r).map (i :: ·)
  | _ => none
theorem intsD_eq : ∀ {ds : List D} {ns : List Int}, intsD ds = some ns → ds = ns.map .int
  | [], _, e => by cases e; rfl
  | .int i :: r, ns, e => by
    obtain ⟨ms, e1, rfl⟩ := map_some e
    rw [intsD_eq e1]
    rfl
theorem intsD_map : ∀ ns : List Int, intsD (ns.map .int) = some ns
  | [] => rfl
  | n :: r => by
    show (intsD (r.map .int)).map (n :: ·) = _
    rw [intsD_map r]
    rfl
def sumD : D → Option R
  | .list ds => (intsD ds).map fun ns => .sh (.int ns.sum)
  | _ => none
theorem c_sum (hc : X.calm = true) : Call1 X (.builtin "sum") sumD := ⟨_, cr_sum hc, fun F H v1 d1 k s b e Q q => by
  match d1, e, b with
  | .list ds, e, b =>
    obtain ⟨ns, e1, rfl⟩ := map_some (show (intsD ds).map (fun ns => R.sh (.int ns.sum)) = some k from e)
    obtain ⟨p, vs, rfl, a, x⟩ := b.list s
    rw [intsD_eq e1] at x
    exact ⟨p, ns, rfl, by rw [← x.ints]; exact .of a, q F H _ (post_sh s (.int _))⟩⟩
def blsD : List D → Option (List Bool)
  | [] => some []
  | .bool i :: r => (blsD r).map (i :: ·)
  | _ => none
theorem blsD_eq : ∀ {ds : List D} {ns : List Bool}, blsD ds = some ns → ds = ns.map .bool
  | [], _, e => by cases e; rfl
  | .bool i :: r, ns, e => by
    obtain ⟨ms, e1, rfl⟩ := map_some e
    rw [blsD_eq e1]
    rfl
theorem blsD_map : ∀ ns : List Bool, blsD (ns.map .bool) = some ns
  | [] => rfl
  | n :: r => by
    show (blsD (r.map .bool)).map (n :: ·) = _
    rw [blsD_map r]
    rfl
def anyD : D → Option R
  | .list ds => (blsD ds).map fun ns => .sh (.bool (ns.any id))
  | _ => none
def allD : D → Option R
  | .list ds => (blsD ds).map fun ns => .sh (.bool (ns.all id))
  | _ => none
theorem c_any (hc : X.calm = true) : Call1 X (.builtin "any") anyD := ⟨_, cr_any hc, fun F H v1 d1 k s b e Q q => by
  match d1, e, b with
  | .list ds, e, b =>
    obtain ⟨ns, e1, rfl⟩ := map_some (show (blsD ds).map (fun ns => R.sh (.bool (ns.any id))) = some k from e)
    obtain ⟨p, vs, rfl, a, x⟩ := b.list s
    rw [blsD_eq e1] at x
    exact ⟨p, ns, rfl, by rw [← x.bls]; exact .of a, q F H _ (post_sh s (.bl _))⟩⟩
theorem c_all (hc : X.calm = true) : Call1 X (.builtin "all") allD := ⟨_, cr_all hc, fun F H v1 d1 k s b e Q q => by
  match d1, e, b with
  | .list ds, e, b =>
    obtain ⟨ns, e1, rfl⟩ := map_some (show (blsD ds).map (fun ns => R.sh (.bool (ns.all id))) = some k from e)
    obtain ⟨p, vs, rfl, a, x⟩ := b.list s
    rw [blsD_eq e1] at x
    exact ⟨p, ns, rfl, by rw [← x.bls]; exact .of a, q F H _ (post_sh s (.bl _))⟩⟩
def listD : D → Option R
  | .list ds => some (.fr ds)
  | .tuple ds => some (.fr ds)
  | _ => none
theorem c_list : Call1 X (.type "list") listD := ⟨_, call_list_of, fun F H v1 d1 k s b e Q q => by
  match d1, e, b with
  | .list ds, e, b =>
    cases e
    obtain ⟨p, vs, rfl, a, x⟩ := b.list s
    exact ⟨p, vs, rfl, .inl (.of a), fun l hl => q _ _ _ (post_fr s hl x)⟩
  | .tuple ds, e, b =>
    cases e
    obtain ⟨p, vs, rfl, a, x⟩ := b.tup
    exact ⟨p, vs, rfl, .inr (.of (s _ _ a)), fun l hl => q _ _ _ (post_fr s hl x)⟩⟩
def tupleD : D → Option R
  | .list ds => some (.sh (.tuple ds))
  | .tuple ds => some (.sh (.tuple ds))
  | _ => none
theorem c_tuple : Call1 X (.type "tuple") tupleD := ⟨_, call_tuple_of, fun F H v1 d1 k s b e Q q => by
  match d1, e, b with
  | .list ds, e, b =>
    cases e
    obtain ⟨p, vs, rfl, a, x⟩ := b.list s
    exact ⟨p, vs, rfl, .inl ⟨.of a, fun l hl => q _ _ _ (post_tup s hl x)⟩⟩
  | .tuple ds, e, b =>
    cases e
    obtain ⟨p, vs, rfl, a, x⟩ := b.tup
    exact ⟨p, vs, rfl, .inr ⟨.of (s _ _ a), q F H _ (post_sh s (.tup a x))⟩⟩⟩
/-! the least, the greatest of alike data -/
def rMinG (K : Fr0) (f : D → List D → D) : List V → Hp → VK → Prop := fun vs H Q => ∃ (p : Addr) (its : List V) (x : D) (xs : List D), vs = [.ref p] ∧ SqL K H p its ∧ DpAll K H its (x :: xs) ∧ AlikeAll (x :: xs) ∧ PyData.depthAll (x :: xs) ≤ 60 ∧
  ∀ (i : Nat) (y : V), its[i]? = some y → (x :: xs)[i]? = some (f x xs) → Q y H
theorem depth_ok {A : Around} {n : Nat} (hu : A.units + 64 < cLine) (h : n ≤ 60) : A.units + 1 + n < cLine := by omega
theorem item_at {h : Heap} : ∀ {vs : List Value} {ds : List D} {as : List Addr} {i : Nat} {v : Value}, ReadsAll h vs ds as → vs[i]? = some v → ∃ d bs, ds[i]? = some d ∧ Reads h v d bs
  | _, _, _, i, v, .nil, e => by simp at e
  | _, _, _, 0, v, .cons r rs, e => by
    cases e
    exact ⟨_, _, rfl, r⟩
  | _, _, _, i + 1, v, .cons r rs, e => by
    obtain ⟨d, bs, a, b⟩ := item_at (i := i) (v := v) rs (by simpa using e)
    exact ⟨d, bs, by simpa using a, b⟩
theorem call_minG (hc : X.calm = true) (hu : X.A.units + 64 < cLine) : CallR X (.builtin "min") (rMinG X.K minD) := by
  intro pins s σ H vs us Q I r h
  obtain ⟨a, its, x, xs, rfl, hs, da, al, dep, q⟩ := h
  obtain ⟨vals, rv, hl, _⟩ := I.list hs
  obtain ⟨as, hr⟩ := Dp.readsAll I _ _ _ da rv
  rw [Vals.ref1 r]
  refine min_list_data (vs := vals.toArray) (I.ok.hd hc) hl.isList (by simpa using hr) al (depth_ok hu dep) fun i v h' tk bs hv hrd hk => ?_
  have hv' : vals[i]? = some v := by simpa using hv
  obtain ⟨d, cs, hd, rd⟩ := item_at hr hv'
  obtain ⟨e1, _⟩ := reads_det (fun b o e _ => hk b o e) rd hrd
  have hi : i < its.length := by
    have := rv.length
    have := (List.getElem?_eq_some_iff.mp hv').1
    omega
  obtain ⟨u, hu', ru⟩ := rv.get (List.getElem?_eq_getElem hi)
  rw [hv'] at hu'
  cases hu'
  exact ⟨its[i], H, I.kept hk, ru, q i _ (List.getElem?_eq_getElem hi) (by rw [hd, e1])⟩
theorem call_maxG (hc : X.calm = true) (hu : X.A.units + 64 < cLine) : CallR X (.builtin "max") (rMinG X.K maxD) := by
  intro pins s σ H vs us Q I r h
  obtain ⟨a, its, x, xs, rfl, hs, da, al, dep, q⟩ := h
  obtain ⟨vals, rv, hl, _⟩ := I.list hs
  obtain ⟨as, hr⟩ := Dp.readsAll I _ _ _ da rv
  rw [Vals.ref1 r]
  refine max_list_data (vs := vals.toArray) (I.ok.hd hc) hl.isList (by simpa using hr) al (depth_ok hu dep) fun i v h' tk bs hv hrd hk => ?_
  have hv' : vals[i]? = some v := by simpa using hv
  obtain ⟨d, cs, hd, rd⟩ := item_at hr hv'
  obtain ⟨e1, _⟩ := reads_det (fun b o e _ => hk b o e) rd hrd
  have hi : i < its.length := by
    have := rv.length
    have := (List.getElem?_eq_some_iff.mp hv').1
    omega
  obtain ⟨u, hu', ru⟩ := rv.get (List.getElem?_eq_getElem hi)
  rw [hv'] at hu'
  cases hu'
  exact ⟨its[i], H, I.kept hk, ru, q i _ (List.getElem?_eq_getElem hi) (by rw [hd, e1])⟩
def alikeB (ds : List D) : Bool := ds.all (fun x => ds.all fun y => alike x y) && ds.all fun x => !noneD x
theorem alikeB_ok {ds : List D} (h : alikeB ds = true) : AlikeAll ds := by
  unfold alikeB at h
  obtain ⟨h1, h2⟩ := Bool.and_eq_true_iff.mp h
  rw [List.all_eq_true] at h1 h2
  refine ⟨fun x hx y hy => List.all_eq_true.mp (h1 x hx) y hy, fun x hx z => ?_⟩
  have := h2 x hx
  rw [z] at this
  cases this
def bestOk (ds : List D) : Bool := plainDs ds && alikeB ds && decide (PyData.depthAll ds ≤ 60)
def minLD : D → Option R
  | .list (x :: xs) => if bestOk (x :: xs) = true then some (.sh (minD x xs)) else none
  | _ => none
def maxLD : D → Option R
  | .list (x :: xs) => if bestOk (x :: xs) = true then some (.sh (maxD x xs)) else none
  | _ => none
theorem o_best {K : Fr0} {f : D → List D → D} {g : D → Option R} (hg : ∀ d k, g d = some k → ∃ x xs, d = .list (x :: xs) ∧ bestOk (x :: xs) = true ∧ k = .sh (f x xs)) : OpC1 (rMinG K f) g := fun F H v1 d1 k s b e Q q => by
  obtain ⟨x, xs, rfl, hb, rfl⟩ := hg d1 k e
  obtain ⟨p, vs, rfl, a, dx⟩ := b.list s
  unfold bestOk at hb
  simp only [Bool.and_eq_true, decide_eq_true_eq] at hb
  obtain ⟨⟨h1, h2⟩, h3⟩ := hb
  refine ⟨p, vs, x, xs, rfl, .of a, (dx.mono s).pl h1, alikeB_ok h2, h3, fun i y hy hd => ?_⟩
  obtain ⟨v, ev, dv⟩ := dx.get hd
  rw [hy] at ev
  cases ev
  exact q F H y (post_sh s dv)
theorem c_min (hc : X.calm = true) (hu : X.A.units + 64 < cLine) : Call1 X (.builtin "min") minLD := ⟨_, call_minG hc hu, o_best fun d k e => by
  match d, e with
  | .list (x :: xs), e =>
    obtain ⟨h, rfl⟩ := ite_some (show (if bestOk (x :: xs) = true then some (R.sh (minD x xs)) else none) = some k from e)
    exact ⟨x, xs, rfl, h, rfl⟩⟩
theorem c_max (hc : X.calm = true) (hu : X.A.units + 64 < cLine) : Call1 X (.builtin "max") maxLD := ⟨_, call_maxG hc hu, o_best fun d k e => by
  match d, e with
  | .list (x :: xs), e =>
    obtain ⟨h, rfl⟩ := ite_some (show (if bestOk (x :: xs) = true then some (R.sh (maxD x xs)) else none) = some k from e)
    exact ⟨x, xs, rfl, h, rfl⟩⟩
end
end Mi
set_option Elab.async false
set_option linter.all false
set_option maxRecDepth 100000
/-! Core7: is, isinstance, repr, stores by an operator, texts joined, index, enumerate, zip, reversed. -/
namespace Mi
open PySem PySem.Spec PyProof.Rows L2
open PySem.W (alike alikeAll dataLt AlikeAll minD maxD)
variable [KK]
section
variable {X : Cx}
/-! ### is None, is True, is False -/
def isD : D → D → Option Bool
  | a, .none => some (noneD a)
  | .bool x, .bool y => some (x == y)
  | _, .bool _ => some false
  | _, _ => none
def noTy : V → Bool
  | .ty _ => false
  | _ => true
def rIsBo : R2 := fun x y H Q => ∃ k, y = .bl k ∧ noTy x = true ∧ Q (.bl (decide (x = .bl k))) H
theorem op_isBo : OpR X (compareOp .Is) rIsBo := by
  intro pins s σ H x y v u Q I rx ry h
  obtain ⟨k, rfl, hx, q⟩ := h
  cases (show u = Value.bool k from ry)
  have fin : ∀ b, b = decide (x = V.bl k) → EP X pins σ Q (.bool b) s := fun b e => by
    subst e
    exact ⟨.bl _, H, I, rfl, q⟩
  cases x with
  | non =>
    cases rx
    exact wpAny_is_plain rfl (fin _ rfl)
  | bl b =>
    cases (show v = Value.bool b from rx)
    refine is_bool (fin _ ?_)
    by_cases e : b = k
    · subst e; simp
    · rw [decide_eq_false (fun z => e (V.bl.inj z)), beq_eq_false_iff_ne.mpr e]
  | int i => obtain ⟨t, rfl⟩ := rx; exact wpAny_is_other rfl (fun z => nomatch z) (fin _ rfl)
  | str i => obtain ⟨t, rfl⟩ := rx; exact wpAny_is_other rfl (fun z => nomatch z) (fin _ rfl)
  | byt i => obtain ⟨t, rfl⟩ := rx; exact wpAny_is_other rfl (fun z => nomatch z) (fin _ rfl)
  | flt i => obtain ⟨t, rfl⟩ := rx; exact wpAny_is_other rfl (fun z => nomatch z) (fin _ rfl)
  | ref a => cases rx; exact wpAny_is_other rfl (fun z => nomatch z) (fin _ rfl)
  | ty n => cases hx
theorem isB_dec {F H : Hp} {v : V} {d : D} {k : Bool} (h : Bd F H v d) : noTy v = true ∧ ∀ b, isD d (.bool k) = some b → b = decide (v = .bl k) := by
  rcases h with h | ⟨p, vs, ds, rfl, _, _, rfl⟩
  · cases h with
    | non => exact ⟨rfl, fun b e => by cases e; rfl⟩
    | bl x =>
      refine ⟨rfl, fun b e => ?_⟩
      cases e
      by_cases z : x = k
      · subst z; simp
      · rw [decide_eq_false (fun w => z (V.bl.inj w)), beq_eq_false_iff_ne.mpr z]
    | int x => exact ⟨rfl, fun b e => by cases e; rfl⟩
    | str x => exact ⟨rfl, fun b e => by cases e; rfl⟩
    | lst _ _ => exact ⟨rfl, fun b e => by cases e; rfl⟩
    | tup _ _ => exact ⟨rfl, fun b e => by cases e; rfl⟩
    | frz _ _ => exact ⟨rfl, fun b e => by cases e; rfl⟩
  · exact ⟨rfl, fun b e => by cases e; rfl⟩
theorem cmp_isD : CmpOk X .Is isD := ⟨_, op_isN.or op_isBo, fun F H v1 v2 d1 d2 k s b1 b2 e Q q => by
  match d2, e, b2 with
  | .none, e, b2 =>
    have e' : some (noneD d1) = some k := by
      rw [← e]
      cases d1 <;> rfl
    cases e'
    exact .inl ⟨b2.non, by rw [isN_dec b1]; exact q⟩
  | .bool z, e, b2 =>
    obtain ⟨h1, h2⟩ := isB_dec (k := z) b1
    exact .inr ⟨z, b2.bl, h1, by rw [← h2 k e]; exact q⟩
  | .int _, e, _ => cases d1 <;> cases e
  | .str _, e, _ => cases d1 <;> cases e
  | .list _, e, _ => cases d1 <;> cases e
  | .tuple _, e, _ => cases d1 <;> cases e
  | .dict _, e, _ => cases d1 <;> cases e⟩

/-! ### isinstance(x, T), T a built-in type -/
def tyName : D → String
  | .none => "NoneType"
  | .bool _ => "bool"
  | .int _ => "int"
  | .str _ => "str"
  | .list _ => "list"
  | .tuple _ => "tuple"
  | .dict _ => "dict"
def isiD (T : String) (d : D) : Option Bool := if plainD d = true then kitB (tyName d) T else none
def mIsi (T : String) (m : MR) : MR := fun ρ => do
  let (r, ρ1) ← m ρ
  let d ← deref ρ1 r
  let k ← isiD T d
  some (.sh (.bool k), ρ1)
variable {e a b c : Expr} {pos p p2 p3 : Pos} {m ma mb mc : MR} {x y : Str} {t : MB}
theorem ty_of {K : Fr0} {F H : Hp} {v : V} {d : D} (s : Same F H) (h : Bd F H v d) (c : plainD d = true) : TyX K H v (.type (tyName d)) := by
  rcases h with h | ⟨p, vs, ds, rfl, a, _, rfl⟩
  · cases h with
    | non => exact .base .non
    | bl x => exact .base (.bl x)
    | int x => exact .base (.int x)
    | str x => exact .base (.str x)
    | lst a _ => exact .base (.lst (s _ _ a))
    | tup a _ => exact .base (.tup (s _ _ a))
    | frz _ _ => cases c
  · exact .base (.lst a)
theorem me_isi {T : String} (hg : Gl X "isinstance") (hm : X.mg "isinstance" = none) (hv : bootBuiltins "isinstance" = some (.builtin "isinstance")) (ha : ME X a ma) (hgT : Gl X x) (hmT : X.mg x = none) (hvT : bootBuiltins x = some (.type T))
    (hn : x ≠ "__name__" := by decide) (hdb : (x == ("__debug__" : Str)) = false := by decide)
    (hs : starEach (a :: [.Name x p2]) X.env = (false, eval a X.env) :: starEach [.Name x p2] X.env := by rfl) (hs2 : starEach (.Name x p2 :: []) X.env = (false, eval (.Name x p2) X.env) :: starEach [] X.env := by rfl) (hpl : (backTo pos (starEach [.Name x p2] X.env)).any (·.1) = false := by rfl) :
    ME X (.Call (.Name "isinstance" p) [a, .Name x p2] [] pos) (mIsi T ma) :=
  ⟨(pe_callB call_isi hg hm hv (pa_cons ha.ok (pa_cons (pe_bltn (v := .ty T) hgT hmT hvT rfl hn hdb) pa_nil hs2) hs) (by decide) (by decide) hs hpl).imq fun σ H Q q => by
    obtain ⟨F, G, b, ρ, hr, r, ρ', e, k⟩ := q
    obtain ⟨⟨r1, ρ1⟩, e1, e⟩ := bind_some e
    obtain ⟨d, e2, e⟩ := bind_some e
    obtain ⟨kb, e3, e⟩ := bind_some e
    cases e
    obtain ⟨hp, e3⟩ := ite_some' e3
    refine ⟨F, G, b, ρ, hr, r1, _, e1, fun F1 H1 v1 s1 c1 h1 k1 => ?_⟩
    exact ⟨v1, .ty T, _, _, kb, rfl, .ty T, ty_of h1.fh (k1.bd h1 e2) hp, kit_ty e3, k F1 H1 _ s1 c1 h1 (.bl _)⟩⟩

/-! ### repr -/
def reprD : D → Option R
  | .str x => if (reprText x).length ≤ lim then some (.sh (.str (reprText x))) else none
  | .int i => if i64 i = true then some (.sh (.str (toString i))) else none
  | _ => none
def rReprS : List V → Hp → VK → Prop := fun xs H Q => ∃ x : Str, xs = [.str x] ∧ (reprText x).length ≤ sizeLine ∧ Q (.str (reprText x)) H
theorem call_repr_str : CallR X (.builtin "repr") rReprS := by
  intro pins s σ H xs us Q I r h
  obtain ⟨i, rfl, hz, q⟩ := h
  obtain ⟨u, rfl, t, rfl⟩ := vals1 r
  exact PySem.P.repr_of_str ⟨.str _, H, I.tok _, ⟨_, rfl⟩, q⟩ hz
theorem log_small {i : Int} (h : i64 i = true) : i.natAbs.log2 < 1920 := by
  have h := i64_ok h
  have h2 : i.natAbs < 2 ^ 64 := by omega
  exact Nat.lt_trans (PySem.Flt.log2_lt_of (by decide : 0 < 64) h2) (by decide)
def rReprI : List V → Hp → VK → Prop := fun xs H Q => ∃ i : Int, xs = [.int i] ∧ i.natAbs.log2 < 1920 ∧ Q (.str (toString i)) H
theorem call_repr_i : CallR X (.builtin "repr") rReprI := by
  intro pins s σ H xs us Q I r h
  obtain ⟨i, rfl, hz, q⟩ := h
  obtain ⟨u, rfl, t, rfl⟩ := vals1 r
  exact PySem.P.repr_of_int hz ⟨.str _, H, I.tok _, ⟨_, rfl⟩, q⟩
theorem c_repr : Call1 X (.builtin "repr") reprD := ⟨_, call_repr_i.or call_repr_str, fun F H v1 d1 k s b e Q q => by
  match d1, e, b with
  | .int i, e, b =>
    obtain ⟨h, rfl⟩ := ite_some (show (if i64 i = true then some (R.sh (.str (toString i))) else none) = some k from e)
    exact .inl ⟨i, by rw [b.int], log_small h, q F H _ (post_sh s (.str _))⟩
  | .str i, e, b =>
    obtain ⟨h, rfl⟩ := ite_some (show (if (reprText i).length ≤ lim then some (R.sh (.str (reprText i))) else none) = some k from e)
    exact .inr ⟨i, by rw [b.str], lim_le h, q F H _ (post_sh s (.str _))⟩⟩

/-! ### name op= e -/
structure AugOk (X : Cx) (op : Operator) (f : D → D → Option R) : Prop where
  ex : ∃ r, PIp X op r ∧ Op2 r f
def sAug (i : Nat) (f : D → D → Option R) (m : MR) : MS' := fun ρ => do
  let (r0, ρ0) ← mVar i ρ
  match r0 with
  | .sh d0 => do
    let (r1, ρ1) ← m ρ0
    let d1 ← deref ρ1 r1
    let k ← f d0 d1
    let ρ2 ← asg ρ1 i k
    some (.nx, ρ2)
  | _ => none
theorem ms_aug {i : Nat} {op : Operator} {f : D → D → Option R} {pos' : Pos} (o : AugOk X op f) (hN : X.N.Nodup) (hi : X.N[i]? = some x) (hx : Loc X.env.scope x) (he : ME X e m) (hf : X.fn x = true ∨ X.env.scope.names.lookup x = some .local := by first | exact .inl rfl | exact .inr rfl | assumption) :
    MSt X (.AugAssign (.Name x pos') op e pos) (sAug i f m) := by
  obtain ⟨ti, h1, h2⟩ := o.ex
  refine ⟨(ps_aug hN hi hx he.ok h1 hf).imq fun D σ H q => ?_⟩
  obtain ⟨F, G, b, ρ, hr, o, ρ', e, k⟩ := q
  obtain ⟨⟨r0, ρ0⟩, e0, e⟩ := bind_some e
  match r0, e0, e with
  | .sh d0, e0, e =>
    obtain ⟨⟨r1, ρ1⟩, e1, e⟩ := bind_some e
    obtain ⟨d1, e2, e⟩ := bind_some e
    obtain ⟨z, e3, e⟩ := bind_some e
    obtain ⟨ρ2, e4, e⟩ := bind_some e
    cases e
    unfold mVar at e0
    cases q : ρ[i]? with
    | none => simp [q] at e0
    | some w =>
      have s := hr.slot i w q
      cases w with
      | no => simp [q] at e0
      | own _ => simp [q] at e0
      | io _ => simp [q] at e0
      | sh d =>
        simp only [q] at e0
        cases e0
        obtain ⟨v0, a0, dv0⟩ := s
        refine ⟨v0, a0, F, G, b, ρ, hr, r1, ρ1, e1, fun F1 H1 v1 s1 c1 g1 k1 => ?_⟩
        refine h2 F1 H1 v0 v1 d0 d1 z g1.fh (.inl (dv0.mono s1)) (k1.bd g1 e2) e3 _ fun F' H' v P => ?_
        obtain ⟨F2, s2, c2, r2⟩ := asg_ok (P.rp g1) (P.rs g1) e4
        exact k F2 H' _ (s1.trans (P.ff.trans s2)) (c1.trans ((P.cln g1.gh).trans c2)) r2
theorem pip_of {op : Operator} {r : R2} (h : OpR X (inplaceOp op) r) : PIp X op r := fun pins s σ H x y v u Q I rx ry q => h pins s σ H x y v u Q I rx ry q
def addIS : D → D → Option R
  | .int a, .int b => addI (.int a) (.int b)
  | .str a, .str b => addS (.str a) (.str b)
  | _, _ => none
theorem aug_add : AugOk X .Add addIS := ⟨_, pip_of (iop_add.or iop_add_str), Op2.or o_addI o_addS fun a b z e => by
  match a, b, e with
  | .int a, .int b, e => exact .inl e
  | .str a, .str b, e => exact .inr e⟩
theorem aug_sub : AugOk X .Sub subD := ⟨_, pip_of iop_sub, op2_I fun a b k e => by
  match a, b, e with
  | .int i, .int j, e => exact ⟨i, j, rfl, rfl, (Option.some.inj e).symm⟩⟩
theorem aug_mul : AugOk X .Mult mulI := ⟨_, pip_of iop_mul, o_mulI⟩

/-! ### texts joined; the place of an item -/
def strsD : List D → Option (List Str)
  | [] => some []
  | .str i :: r => (strsD r).map (i :: ·)
  | _ => none
theorem strsD_eq : ∀ {ds : List D} {ns : List Str}, strsD ds = some ns → ds = ns.map .str
  | [], _, e => by cases e; rfl
  | .str i :: r, ns, e => by
    obtain ⟨ms, e1, rfl⟩ := map_some e
    rw [strsD_eq e1]
    rfl
theorem strsD_map : ∀ ns : List Str, strsD (ns.map .str) = some ns
  | [] => rfl
  | n :: r => by
    show (strsD (r.map .str)).map (n :: ·) = _
    rw [strsD_map r]
    rfl
def joinD : D → D → Option R
  | .str a, .list ds => do
    let ys ← strsD ds
    if (ys.map (·.length)).sum + ys.length * a.length ≤ lim then some (.sh (.str (Txt.join a ys))) else none
  | .str a, .tuple ds => do
    let ys ← strsD ds
    if (ys.map (·.length)).sum + ys.length * a.length ≤ lim then some (.sh (.str (Txt.join a ys))) else none
  | _, _ => none
/-- o.m(e), o a text: the object first known to be a text -/
def mM1 (f : D → D → Option R) (mo m : MR) : MR := fun ρ => do
  let (r1, ρ1) ← mo ρ
  match r1 with
  | .sh (.str a) => do
    let (r2, ρ2) ← m ρ1
    let d2 ← deref ρ2 r2
    let k ← f (.str a) d2
    some (k, ρ2)
  | _ => none
theorem tM_m1 {r : V → List V → Hp → VK → Prop} {f : D → D → Option R} (o : Op2 (fun x y H Q => r x [y] H Q) f) (σ : L2.St) (H : Hp) (Q : VK) (q : tM (mM1 f ma mb) σ H Q) : tM1 r (tM ma) (tM mb) σ H Q := by
  obtain ⟨F, G, b, ρ, hr, r', ρ', e, k⟩ := q
  obtain ⟨⟨r1, ρ1⟩, e1, e⟩ := bind_some e
  match r1, e1, e with
  | .sh (.str a), e1, e =>
    obtain ⟨⟨r2, ρ2⟩, e2, e⟩ := bind_some e
    obtain ⟨d2, e4, e⟩ := bind_some e
    obtain ⟨z, e5, e⟩ := bind_some e
    cases e
    refine ⟨F, G, b, ρ, hr, _, ρ1, e1, fun F1 H1 v1 s1 c1 h1 k1 => ?_⟩
    cases (show Dv F1 v1 (.str a) from k1)
    refine ⟨⟨a, rfl⟩, F1, G, b, ρ1, h1, r2, ρ', e2, fun F2 H2 v2 s2 c2 h2 k2 => ?_⟩
    refine o F2 H2 _ v2 (.str a) d2 _ h2.fh (.inl (.str a)) (k2.bd h2 e4) e5 Q fun F' H' v P => ?_
    exact k F' H' v (s1.trans (s2.trans P.ff)) (c1.trans (c2.trans (P.cln h2.gh))) (P.rp h2) (P.rs h2)
theorem me_join {apos : Pos} (ho : ME X a ma) (he : ME X b mb) (hs : starEach [b] X.env = [(false, eval b X.env)] := by rfl) (hbase : attributeBase a "join" X.env (eval a X.env) = eval a X.env := by rfl) (hline : (apos.endLine == pos.line) = true := by rfl) :
    ME X (.Call (.Attribute a "join" apos) [b] [] pos) (mM1 joinD ma mb) := ⟨(pe_join ho.ok he.ok hs hbase hline).imq (tM_m1 fun F H v1 v2 d1 d2 k s b1 b2 e Q q => by
  match d1, d2, e, b1, b2 with
  | .str a, .list ds, e, b1, b2 =>
    obtain ⟨ys, e1, e2⟩ := bind_some (show (do let ys ← strsD ds; if (ys.map (·.length)).sum + ys.length * a.length ≤ lim then some (R.sh (.str (Txt.join a ys))) else none) = some k from e)
    obtain ⟨hl, rfl⟩ := ite_some e2
    obtain ⟨p, vs, rfl, h, x⟩ := b2.list s
    rw [strsD_eq e1] at x
    exact ⟨a, p, ys, b1.str, rfl, .inl (by rw [← x.strs]; exact .of h), lim_le' hl, q F H _ (post_sh s (.str _))⟩
  | .str a, .tuple ds, e, b1, b2 =>
    obtain ⟨ys, e1, e2⟩ := bind_some (show (do let ys ← strsD ds; if (ys.map (·.length)).sum + ys.length * a.length ≤ lim then some (R.sh (.str (Txt.join a ys))) else none) = some k from e)
    obtain ⟨hl, rfl⟩ := ite_some e2
    obtain ⟨p, vs, rfl, h, x⟩ := b2.tup
    rw [strsD_eq e1] at x
    exact ⟨a, p, ys, b1.str, rfl, .inr (by rw [← x.strs]; exact .of (s _ _ h)), lim_le' hl, q F H _ (post_sh s (.str _))⟩)⟩
where lim_le' {n : Nat} (h : n ≤ lim) : n ≤ 16777216 := Nat.le_trans h (by decide)
/-- xs.index(k), whole numbers, found -/
def idxI (k : Int) : List Int → Option Nat
  | [] => none
  | n :: r => if n = k then some 0 else (idxI k r).map (· + 1)
def idxS (k : Str) : List Str → Option Nat
  | [] => none
  | n :: r => if n = k then some 0 else (idxS k r).map (· + 1)
def indexD : D → D → Option R
  | .list ds, .int k => do
    let ns ← intsD ds
    let j ← idxI k ns
    some (.sh (.int (j : Nat)))
  | .list ds, .str k => do
    let ns ← strsD ds
    let j ← idxS k ns
    some (.sh (.int (j : Nat)))
  | _, _ => none
theorem idxI_ok {k : Int} : ∀ {ns : List Int} {j : Nat}, idxI k ns = some j → ns[j]? = some k ∧ ∀ m z, m < j → ns[m]? = some z → z ≠ k
  | n :: r, j, e => by
    unfold idxI at e
    by_cases h : n = k
    · rw [if_pos h] at e
      cases e
      exact ⟨by rw [h]; rfl, fun m z hm => absurd hm (Nat.not_lt_zero m)⟩
    · rw [if_neg h] at e
      obtain ⟨i, e1, rfl⟩ := map_some e
      obtain ⟨a1, a2⟩ := idxI_ok e1
      refine ⟨by simpa using a1, fun m z hm hz => ?_⟩
      cases m with
      | zero =>
        have : n = z := Option.some.inj hz
        rw [← this]
        exact h
      | succ m => exact a2 m z (by omega) (by simpa using hz)
theorem idxS_ok {k : Str} : ∀ {ns : List Str} {j : Nat}, idxS k ns = some j → ns[j]? = some k ∧ ∀ m z, m < j → ns[m]? = some z → z ≠ k
  | n :: r, j, e => by
    unfold idxS at e
    by_cases h : n = k
    · rw [if_pos h] at e
      cases e
      exact ⟨by rw [h]; rfl, fun m z hm => absurd hm (Nat.not_lt_zero m)⟩
    · rw [if_neg h] at e
      obtain ⟨i, e1, rfl⟩ := map_some e
      obtain ⟨a1, a2⟩ := idxS_ok e1
      refine ⟨by simpa using a1, fun m z hm hz => ?_⟩
      cases m with
      | zero =>
        have : n = z := Option.some.inj hz
        rw [← this]
        exact h
      | succ m => exact a2 m z (by omega) (by simpa using hz)
theorem all_flat_int (ns : List Int) : (ns.map V.int).all flatV = true := by
  rw [List.all_map]
  exact List.all_eq_true.mpr fun _ _ => rfl
theorem all_flat_str (ns : List Str) : (ns.map V.str).all flatV = true := by
  rw [List.all_map]
  exact List.all_eq_true.mpr fun _ _ => rfl
theorem eqv_int_ne {z k : Int} (h : z ≠ k) : eqV (.int z) (.int k) = false := beq_eq_false_iff_ne.mpr h
theorem eqv_str_ne {z k : Str} (h : z ≠ k) : eqV (.str z) (.str k) = false := beq_eq_false_iff_ne.mpr h
def mIndex (ma mb : MR) : MR := fun ρ => do
  let (r1, ρ1) ← ma ρ
  let d0 ← deref ρ1 r1
  match d0 with
  | .list _ => do
    let (r2, ρ2) ← mb ρ1
    let d1 ← deref ρ2 r1
    let d2 ← deref ρ2 r2
    let k ← indexD d1 d2
    some (k, ρ2)
  | _ => none
theorem me_index {apos cpos : Pos} (ho : ME X a ma) (he : ME X b mb) (hbase : attributeBase a "index" X.env (eval a X.env) = eval a X.env := by rfl)
    (hfew : ((backTo cpos (starEach (b :: []) X.env)).all (fun x => !x.1) && (backToKw cpos (keywordEach [] X.env)).all (fun x => x.1.isSome)
      && decide ((b :: ([] : List Expr)).length + ([] : List Keyword).length + (if ([] : List Keyword).isEmpty then 0 else 1) < 30)) = true := by rfl)
    (hline : (apos.endLine == cpos.line) = true := by rfl) (hs : starEach (b :: []) X.env = (false, eval b X.env) :: starEach [] X.env := by rfl) (hplain : (backTo cpos (starEach [] X.env)).any (·.1) = false := by rfl) :
    ME X (.Call (.Attribute a "index" apos) [b] [] cpos) (mIndex ma mb) :=
  ⟨(pe_bm PySem.F.plainAttrs_list PySem.F.slot_list_index PySem.F.type_list_index mt_index ho.ok (pa_cons he.ok pa_nil hs) hbase hfew hline hs hplain).imq fun σ H Q q => by
    obtain ⟨F, G, b', ρ, hr, r, ρ', e, k⟩ := q
    obtain ⟨⟨r1, ρ1⟩, e1, e⟩ := bind_some e
    obtain ⟨d0, e0, e⟩ := bind_some e
    refine ⟨F, G, b', ρ, hr, r1, ρ1, e1, fun F1 H1 v1 s1 c1 h1 k1 => ?_⟩
    have bd0 := k1.bd h1 e0
    match d0, bd0, e with
    | .list ds0, bd0, e =>
      obtain ⟨⟨r2, ρ2⟩, e2, e⟩ := bind_some e
      obtain ⟨d1, e3, e⟩ := bind_some e
      obtain ⟨d2, e4, e⟩ := bind_some e
      obtain ⟨z, e5, e⟩ := bind_some e
      cases e
      obtain ⟨p0, vs0, rfl, a0, _⟩ := bd0.list h1.fh
      refine ⟨.inl ⟨rfl, _, .of a0⟩, F1, guard G H1 _ r1, b', ρ1, h1.guarded k1, r2, _, e2, fun F2 H2 v2 s2 c2 h2 k2 => ?_⟩
      have ge := guard_ge k1
      have kk := k1.keep s2 c2 h2
      have h2' := h2.less ge
      have kk2 := k2.less ge
      have bd1 := kk.bd h2' e3
      have bd2 := kk2.bd h2' e4
      have fin : ∀ F' H' v, Post F2 H2 r F' H' v → Q v H' := fun F' H' v P => k F' H' v (s1.trans (s2.trans P.ff)) (c1.trans ((c2.less ge).trans (P.cln h2'.gh))) (P.rp h2') (P.rs h2')
      match d1, d2, e5, bd1, bd2 with
      | .list ds, .int n, e5, bd1, bd2 =>
        obtain ⟨ns, e6, e7⟩ := bind_some (show (do let ns ← intsD ds; let j ← idxI n ns; some (R.sh (.int (j : Nat)))) = some r from e5)
        obtain ⟨j, e8, e9⟩ := bind_some e7
        cases e9
        obtain ⟨p1, vs1, q1, a1, x1⟩ := bd1.list h2'.fh
        cases q1
        rw [intsD_eq e6] at x1
        rw [x1.ints] at a1
        obtain ⟨o1, o2⟩ := idxI_ok e8
        refine ⟨p0, ns.map V.int, .int n, j, .int n, rfl, by rw [bd2.int], .of a1, rfl, all_flat_int ns, by rw [List.getElem?_map, o1]; rfl, beq_self_eq_true n, fun m z' hm hz => ?_, fin F2 H2 _ (post_sh h2'.fh (.int _))⟩
        rw [List.getElem?_map] at hz
        obtain ⟨w, hw, rfl⟩ := map_some hz
        exact eqv_int_ne (o2 m w hm hw)
      | .list ds, .str n, e5, bd1, bd2 =>
        obtain ⟨ns, e6, e7⟩ := bind_some (show (do let ns ← strsD ds; let j ← idxS n ns; some (R.sh (.int (j : Nat)))) = some r from e5)
        obtain ⟨j, e8, e9⟩ := bind_some e7
        cases e9
        obtain ⟨p1, vs1, q1, a1, x1⟩ := bd1.list h2'.fh
        cases q1
        rw [strsD_eq e6] at x1
        rw [x1.strs] at a1
        obtain ⟨o1, o2⟩ := idxS_ok e8
        refine ⟨p0, ns.map V.str, .str n, j, .str n, rfl, by rw [bd2.str], .of a1, rfl, all_flat_str ns, by rw [List.getElem?_map, o1]; rfl, beq_self_eq_true n, fun m z' hm hz => ?_, fin F2 H2 _ (post_sh h2'.fh (.int _))⟩
        rw [List.getElem?_map] at hz
        obtain ⟨w, hw, rfl⟩ := map_some hz
        exact eqv_str_ne (o2 m w hm hw)⟩

/-! ### enumerate, zip, reversed of lists -/
variable {tg : Expr} {elts : List Expr} {kk : Nat} {tpos : Pos} {ms : MA}
def enumL : Int → List D → List D
  | _, [] => []
  | i, d :: ds => .tuple [.int i, d] :: enumL (i + 1) ds
theorem enumL_len : ∀ (i : Int) (ds : List D), (enumL i ds).length = ds.length
  | _, [] => rfl
  | i, d :: ds => by
    unfold enumL
    rw [List.length_cons, List.length_cons, enumL_len (i + 1) ds]
theorem enumL_get : ∀ (i : Int) (ds : List D) (j : Nat) (d : D), ds[j]? = some d → (enumL i ds)[j]? = some (.tuple [.int (i + j), d])
  | i, [], j, d, h => by simp at h
  | i, a :: ds, 0, d, h => by
    cases h
    show some (PyData.tuple [.int i, a]) = _
    rw [show i + ((0 : Nat) : Int) = i by omega]
  | i, a :: ds, j + 1, d, h => by
    unfold enumL
    rw [List.getElem?_cons_succ, enumL_get (i + 1) ds j d (by simpa using h)]
    rw [show i + 1 + (j : Int) = i + ((j + 1 : Nat) : Int) by omega]
theorem dvs2 {F : Hp} {v w : V} {d e : D} (h : Dv F v d) (k : Dv F w e) : Dvs F [v, w] [d, e] := .cons h (.cons k .nil)
theorem wk_enum {K : Fr0} {F : Hp} {p : Addr} {vs : List V} {ds : List D} (h : F p = some (.lst vs)) (a : Dvs F vs ds) : Wk (Ite K p) F (enumL 0 ds) := by
  refine ⟨fun i H hi s => ?_, fun H s => ⟨vs, .of (s _ _ h), by rw [enumL_len, a.len]; exact Nat.le_refl _⟩, fun i F1 H x H' hi s1 s2 y => ?_⟩
  · rw [enumL_len] at hi
    have hv : i < vs.length := by rw [a.len]; exact hi
    exact ⟨vs, vs[i], .of (s _ _ h), List.getElem?_eq_getElem hv⟩
  · rw [enumL_len] at hi
    obtain ⟨T, w, rfl, hT, rfl, y⟩ := y
    obtain ⟨v, e1, dv⟩ := a.get (List.getElem?_eq_getElem hi)
    have e2 := y vs (.of (s2 _ _ (s1 _ _ h)))
    rw [e1] at e2
    cases e2
    have g := enumL_get 0 ds i _ (List.getElem?_eq_getElem hi)
    rw [show (0 : Int) + (i : Int) = (i : Int) by omega] at g
    exact ⟨_, _, g, post_tup s2 hT (dvs2 (.int _) (dv.mono s1))⟩
def mEnum (ms : MA) : MI := fun ρ => do
  let (ds, ρ1) ← ms ρ
  match ds with
  | [.list es] => some (enumL 0 es, ρ1)
  | _ => none
theorem mi_enum (hg : Gl X "enumerate") (hm : X.mg "enumerate" = none) (ha : MAs X [a] ms) (hs : starEach [a] X.env = [(false, eval a X.env)] := by rfl) : MIt X (.Tuple elts kk tpos) (.Call (.Name "enumerate" p) [a] [] pos) (mEnum ms) := ⟨(pi_enum hg hm ha.ok hs).imq fun σ H R q => by
  obtain ⟨F, G, b, ρ, hr, ds, ρ', e, k⟩ := q
  obtain ⟨⟨ds1, ρ1⟩, e1, e⟩ := bind_some e
  refine ⟨F, G, b, ρ, hr, ds1, ρ1, e1, fun F1 H1 vs s1 c1 h1 dvs => ?_⟩
  match ds1, dvs, e with
  | [.list es], .cons (.lst ha hx) .nil, e =>
    cases e
    exact ⟨_, _, rfl, .of (h1.fh _ _ ha), k F1 H1 _ s1 c1 h1 (wk_enum ha hx)⟩⟩
def zipL : List D → List D → List D
  | a :: as, b :: bs => .tuple [a, b] :: zipL as bs
  | _, _ => []
theorem zipL_len : ∀ as bs : List D, (zipL as bs).length = min as.length bs.length
  | [], bs => by unfold zipL; simp
  | _ :: _, [] => by unfold zipL; simp
  | a :: as, b :: bs => by
    unfold zipL
    rw [List.length_cons, List.length_cons, List.length_cons, zipL_len as bs]
    omega
theorem zipL_get : ∀ (as bs : List D) (j : Nat) (d e : D), as[j]? = some d → bs[j]? = some e → (zipL as bs)[j]? = some (.tuple [d, e])
  | [], bs, j, d, e, h, _ => by simp at h
  | _ :: _, [], j, d, e, _, h => by simp at h
  | a :: as, b :: bs, 0, d, e, h, k => by
    cases h
    cases k
    rfl
  | a :: as, b :: bs, j + 1, d, e, h, k => by
    unfold zipL
    rw [List.getElem?_cons_succ]
    exact zipL_get as bs j d e (by simpa using h) (by simpa using k)
theorem wk_zip {K : Fr0} {F : Hp} {p q : Addr} {vs us : List V} {ds es : List D} (h : F p = some (.lst vs)) (a : Dvs F vs ds) (h' : F q = some (.lst us)) (a' : Dvs F us es) : Wk (Itz K p q) F (zipL ds es) := by
  refine ⟨fun i H hi s => ?_, fun H s => ⟨vs, us, .of (s _ _ h), .of (s _ _ h'), by rw [zipL_len, a.len, a'.len]; omega⟩, fun i F1 H x H' hi s1 s2 y => ?_⟩
  · rw [zipL_len] at hi
    have hv : i < vs.length := by rw [a.len]; omega
    have hu : i < us.length := by rw [a'.len]; omega
    exact ⟨vs, us, vs[i], us[i], .of (s _ _ h), .of (s _ _ h'), List.getElem?_eq_getElem hv, List.getElem?_eq_getElem hu⟩
  · rw [zipL_len] at hi
    have hd : i < ds.length := by omega
    have he : i < es.length := by omega
    obtain ⟨T, w, z, rfl, hT, rfl, y, y'⟩ := y
    obtain ⟨v, e1, dv⟩ := a.get (List.getElem?_eq_getElem hd)
    obtain ⟨v', e1', dv'⟩ := a'.get (List.getElem?_eq_getElem he)
    have e2 := y vs (.of (s2 _ _ (s1 _ _ h)))
    rw [e1] at e2
    cases e2
    have e3 := y' us (.of (s2 _ _ (s1 _ _ h')))
    rw [e1'] at e3
    cases e3
    exact ⟨_, _, zipL_get ds es i _ _ (List.getElem?_eq_getElem hd) (List.getElem?_eq_getElem he), post_tup s2 hT (dvs2 (dv.mono s1) (dv'.mono s1))⟩
def mZip (ms : MA) : MI := fun ρ => do
  let (ds, ρ1) ← ms ρ
  match ds with
  | [.list as, .list bs] => some (zipL as bs, ρ1)
  | _ => none
theorem mi_zip (hg : Gl X "zip") (hm : X.mg "zip" = none) (ha : MAs X [a, b] ms) (hs : starEach [a, b] X.env = (false, eval a X.env) :: starEach [b] X.env := by rfl) (hpl : (backTo pos (starEach [b] X.env)).any (·.1) = false := by rfl) :
    MIt X (.Tuple elts kk tpos) (.Call (.Name "zip" p) [a, b] [] pos) (mZip ms) := ⟨(pi_zip hg hm ha.ok hs hpl).imq fun σ H R q => by
  obtain ⟨F, G, b, ρ, hr, ds, ρ', e, k⟩ := q
  obtain ⟨⟨ds1, ρ1⟩, e1, e⟩ := bind_some e
  refine ⟨F, G, b, ρ, hr, ds1, ρ1, e1, fun F1 H1 vs s1 c1 h1 dvs => ?_⟩
  match ds1, dvs, e with
  | [.list as, .list bs], .cons (.lst ha hx) (.cons (.lst hb hy) .nil), e =>
    cases e
    exact ⟨_, _, _, _, rfl, .of (h1.fh _ _ ha), .of (h1.fh _ _ hb), k F1 H1 _ s1 c1 h1 (wk_zip ha hx hb hy)⟩⟩
end
end Mi
set_option Elab.async false
set_option linter.all false
set_option maxRecDepth 100000
/-! Core8: what the printed texts lean on. -/
namespace Mi
open PySem PySem.Spec PyProof.Rows L2
variable [KK]
/-- the def of a name keeps a promise, up to a level -/
def Cl (P : Program) (w : World) (mg : Str → Option Value) (base : Heap) (x : Str) (k : Nat) (sp : Sp) : Prop :=
  ∃ (f : Addr) (fd : FuncData) (ps : List Str), FnOk P w KK.K mg base CX0 k f fd ps sp ∧ mg x = some (.ref f) ∧ PySem.W.keepIn KK.K (.ref f) = true ∧ Binds KK.K fd ps []
section
variable {X : Cx} {e : Expr} {pos p : Pos} {es : List Expr} {ms : MA} {k : Nat} {x y : Str} {py : Pos} {i : Nat}
theorem me_callC {φ : List D → Option R} (c : Cl X.prog X.w X.mg X.base x k (spN φ)) (hr : Room k X.A) (hg : Gl X x)
    (ha : MAs X (e :: es) ms) (hK : X.K = KK.K := by rfl) (hdb : (x == ("__debug__" : Str)) = false := by decide) (he : starEach (e :: es) X.env = (false, eval e X.env) :: starEach es X.env := by rfl) (hpl : (backTo pos (starEach es X.env)).any (·.1) = false := by rfl) :
    ME X (.Call (.Name x p) (e :: es) [] pos) (mCall φ ms) := by
  obtain ⟨f, fd, ps, F, hm, hk, hb⟩ := c
  rw [← hK] at F hk hb
  exact me_call F hr hg hm hk hb ha hdb he hpl
theorem me_call0 {φ : List D → Option R} (c : Cl X.prog X.w X.mg X.base x k (spN φ)) (hr : Room k X.A) (hg : Gl X x) (hK : X.K = KK.K := by rfl) (hdb : (x == ("__debug__" : Str)) = false := by decide) :
    ME X (.Call (.Name x p) [] [] pos) (mCall φ aNil) := by
  obtain ⟨f, fd, ps, F, hm, hk, hb⟩ := c
  rw [← hK] at F hk hb
  exact ⟨(pe_call0 (dvs := []) F hr hg hm hk hb .nil pass0 hdb).imq fun σ H Q q => by
    obtain ⟨F0, G, b, ρ, hr0, r, ρ', e, k⟩ := q
    obtain ⟨⟨ds, ρ1⟩, e1, e⟩ := bind_some e
    cases e1
    obtain ⟨r1, e2, e⟩ := bind_some e
    cases e
    exact ⟨F0, [], r, hr0.fh, .nil, e2, fun F' H' v P => k F' H' v P.ff (P.cln hr0.gh) (P.rp hr0) (P.rs hr0)⟩⟩
theorem me_callIOC {φ : List D → List D → Option (R × List D)} (c : Cl X.prog X.w X.mg X.base x k (spIO φ)) (hr : Room k X.A) (hg : Gl X x)
    (hy : PE X (.Name y py) (tVar i)) (ha : MAs X es ms) (hK : X.K = KK.K := by rfl) (hdb : (x == ("__debug__" : Str)) = false := by decide) (he : starEach (.Name y py :: es) X.env = (false, eval (.Name y py) X.env) :: starEach es X.env := by rfl) (hpl : (backTo pos (starEach es X.env)).any (·.1) = false := by rfl) :
    ME X (.Call (.Name x p) (.Name y py :: es) [] pos) (mCallIO φ i ms) := by
  obtain ⟨f, fd, ps, F, hm, hk, hb⟩ := c
  rw [← hK] at F hk hb
  exact me_callIO F hr hg hm hk hb hy ha hdb he hpl
end
theorem hu64 {k : Nat} {A : Around} (hr : Room k A) : A.units + 64 < cLine := by
  have := hr.un
  omega
theorem hu65 {k : Nat} {A : Around} (hr : Room k A) : A.units + 65 < cLine := by
  have := hr.un
  omega
def runN (n p : Nat) (m : MS') (ds : List D) : Option R := if ds.length = p then (m (startE n ds)).bind fun x => outR x.1 else none
def ioR (ρ : En) (r : R) : Option (R × List D) := match (ρ[(0 : Nat)]? : Option M) with
  | some (.io ws') => some (r, ws')
  | _ => none
def runIO (n p : Nat) (m : MS') (ws ds : List D) : Option (R × List D) := if ds.length + 1 = p then (m (startIO n ws ds)).bind fun x => (outR x.1).bind fun r => ioR x.2 r else none
theorem bind_some' {α β : Type} {o : Option α} {f : α → Option β} {z : β} (h : o.bind f = some z) : ∃ a, o = some a ∧ f a = some z := bind_some h
theorem runN_ok {n p : Nat} {m : MS'} {N ps : List Str} (hn : N.length = n) (hp : ps.length = p) : ∀ ds r, runN n p m ds = some r → ds.length = ps.length ∧ ∃ o ρ', m (startE N.length ds) = some (o, ρ') ∧ outR o = some r := fun ds r h => by
  subst hn hp
  obtain ⟨hl, h⟩ := ite_some' h
  obtain ⟨⟨o, ρ'⟩, e1, e2⟩ := bind_some' h
  exact ⟨hl, o, ρ', e1, e2⟩
theorem runIO_ok {n p : Nat} {m : MS'} {N ps : List Str} (hn : N.length = n) (hp : ps.length = p) : ∀ ws ds r ws', runIO n p m ws ds = some (r, ws') → ds.length + 1 = ps.length ∧ ∃ o ρ', m (startIO N.length ws ds) = some (o, ρ') ∧ outR o = some r ∧ ρ'[0]? = some (.io ws') := fun ws ds r ws' h => by
  subst hn hp
  obtain ⟨hl, h⟩ := ite_some' h
  obtain ⟨⟨o, ρ'⟩, e1, e2⟩ := bind_some' h
  obtain ⟨r', e3, e4⟩ := bind_some' e2
  refine ⟨hl, o, ρ', e1, ?_⟩
  have e4 : ioR ρ' r' = some (r, ws') := e4
  unfold ioR at e4
  cases q : ρ'[0]? with
  | none => simp [q] at e4
  | some mm =>
    cases mm with
    | io xs => simp only [q] at e4; cases e4; exact ⟨e3, rfl⟩
    | no => simp [q] at e4
    | sh _ => simp [q] at e4
    | own _ => simp [q] at e4
section
variable {P : Program} {w : World} {K : Fr0} {mg : Str → Option Value} {base : Heap} {f : Addr} {fd : FuncData} {ps : List Str} {k : Nat}
theorem none_ok {φ : List D → Option R} (h : ∀ ds, φ ds = none) : FnOk P w K mg base CX0 k f fd ps (spN φ) := by
  have no : ∀ vs H Q E, ¬ spN φ vs H Q E := fun vs H Q E q => by
    obtain ⟨_, ds, r, _, _, e, _⟩ := q
    rw [h ds] at e
    cases e
  exact ⟨fun vs H Q E q => absurd q (no vs H Q E), fun A outer s H args us vs Q E hr he hb hv q => absurd q (no vs H Q E)⟩
theorem none_okIO {φ : List D → List D → Option (R × List D)} (h : ∀ ws ds, φ ws ds = none) : FnOk P w K mg base CX0 k f fd ps (spIO φ) := by
  have no : ∀ vs H Q E, ¬ spIO φ vs H Q E := fun vs H Q E q => by
    obtain ⟨_, _, _, ws, _, ds, r, _, _, _, _, _, _, _, e, _⟩ := q
    rw [h ws ds] at e
    cases e
  exact ⟨fun vs H Q E q => absurd q (no vs H Q E), fun A outer s H args us vs Q E hr he hb hv q => absurd q (no vs H Q E)⟩
end
end Mi
namespace Mi
open PySem PySem.Spec PyProof.Rows L2
/-- the law's own promise, from its plain function -/
theorem law_sp (kk : KK) {φ : List D → Option R} {H : Hp} {a : Addr} {ns : List Int} {E : XK} (hS : SqL kk.K H a (ns.map V.int)) (h : φ [frzD (ns.map .int)] = some (.sh (.bool true))) : @spN kk φ [.ref a] H (fun v _ => v = .bl true) E :=
  ⟨H, [frzD (ns.map .int)], .sh (.bool true), .refl H, .cons (.frz hS (@Dvs.of_ints kk H ns)) .nil, h, fun F' H' v P => by
    have q := @Post.res kk _ _ _ _ _ _ P
    cases (show @Dv kk F' v (.bool true) from q)
    rfl⟩
end Mi
set_option Elab.async false
set_option linter.all false
set_option maxRecDepth 100000
/-! Ev: the plain functions evaluated by simp, one combinator at a time, on slots that are written out. -/
namespace Mi
open PySem PySem.Spec PyProof.Rows L2

def bnd {α β : Type} (o : Option α) (f : α → Option β) : Option β := o.bind f
@[simp] theorem bnd_some {α β : Type} (a : α) (f : α → Option β) : bnd (some a) f = f a := (rfl)
@[simp] theorem bnd_none {α β : Type} (f : α → Option β) : bnd none f = none := (rfl)
@[simp] theorem bnd_ite {α β : Type} (c : Prop) [Decidable c] (a b : Option α) (f : α → Option β) : bnd (if c then a else b) f = if c then bnd a f else bnd b f := by
  split <;> rfl
def derefM : Option M → Option D
  | some (.own ds) => some (.list ds)
  | some (.io ds) => some (.list ds)
  | some (.sh d) => some d
  | _ => none
@[simp] theorem derefM_own (ds : List D) : derefM (some (.own ds)) = some (.list ds) := (rfl)
@[simp] theorem derefM_io (ds : List D) : derefM (some (.io ds)) = some (.list ds) := (rfl)
@[simp] theorem derefM_sh (d : D) : derefM (some (.sh d)) = some d := (rfl)
@[simp] theorem deref_sh (ρ : En) (d : D) : deref ρ (.sh d) = some d := (rfl)
@[simp] theorem deref_fr (ρ : En) (ds : List D) : deref ρ (.fr ds) = some (.list ds) := (rfl)
@[simp] theorem deref_bw (ρ : En) (i : Nat) : deref ρ (.bw i) = derefM ρ[i]? := by
  cases q : ρ[i]? with
  | none => simp [deref, q, derefM]
  | some m => cases m <;> simp [deref, q, derefM]
def contM : Option M → Option (List D)
  | some (.own ds) => some ds
  | some (.io ds) => some ds
  | _ => none
@[simp] theorem contM_own (ds : List D) : contM (some (.own ds)) = some ds := (rfl)
@[simp] theorem contM_io (ds : List D) : contM (some (.io ds)) = some ds := (rfl)
theorem contE_eq (ρ : En) (i : Nat) : contE ρ i = contM ρ[i]? := by
  unfold contE contM
  cases ρ[i]? with
  | none => rfl
  | some m => cases m <;> rfl
@[simp] theorem contE_c (e : M) (ρ : En) (i : Nat) : contE (e :: ρ) i = contM (e :: ρ)[i]? := contE_eq _ _
def putM : Option M → En → Nat → List D → En
  | some (.io _), ρ, i, ds => ρ.set i (.io ds)
  | _, ρ, i, ds => ρ.set i (.own ds)
@[simp] theorem putM_own (xs : List D) (ρ : En) (i : Nat) (ds : List D) : putM (some (.own xs)) ρ i ds = ρ.set i (.own ds) := (rfl)
@[simp] theorem putM_io (xs : List D) (ρ : En) (i : Nat) (ds : List D) : putM (some (.io xs)) ρ i ds = ρ.set i (.io ds) := (rfl)
@[simp] theorem putE_c (e : M) (ρ : En) (i : Nat) (ds : List D) : putE (e :: ρ) i ds = putM (e :: ρ)[i]? (e :: ρ) i ds := by
  unfold putE putM
  cases (e :: ρ)[i]? with
  | none => rfl
  | some m => cases m <;> rfl
def freeM : Option M → Bool
  | some (.io _) => false
  | some _ => true
  | none => false
@[simp] theorem freeM_no : freeM (some .no) = true := (rfl)
@[simp] theorem freeM_sh (d : D) : freeM (some (.sh d)) = true := (rfl)
@[simp] theorem freeM_own (d : List D) : freeM (some (.own d)) = true := (rfl)
@[simp] theorem free1_c (e : M) (ρ : En) (i : Nat) : free1 (e :: ρ) i = freeM (e :: ρ)[i]? := by
  unfold free1 freeM
  cases (e :: ρ)[i]? with
  | none => rfl
  | some m => cases m <;> rfl
def capM : Option M → En → Nat → Option (D × En)
  | some (.own ds), ρ, i => some (.list ds, ρ.set i (.sh (.list ds)))
  | some (.sh d), ρ, _ => some (d, ρ)
  | _, _, _ => none
@[simp] theorem capM_own (ds : List D) (ρ : En) (i : Nat) : capM (some (.own ds)) ρ i = some (.list ds, ρ.set i (.sh (.list ds))) := (rfl)
@[simp] theorem capM_sh (d : D) (ρ : En) (i : Nat) : capM (some (.sh d)) ρ i = some (d, ρ) := (rfl)
@[simp] theorem cap_sh (ρ : En) (d : D) : cap ρ (.sh d) = some (d, ρ) := (rfl)
@[simp] theorem cap_fr (ρ : En) (ds : List D) : cap ρ (.fr ds) = some (.list ds, ρ) := (rfl)
@[simp] theorem cap_bw (ρ : En) (i : Nat) : cap ρ (.bw i) = capM ρ[i]? ρ i := by
  cases q : ρ[i]? with
  | none => simp [cap, q, capM]
  | some m => cases m <;> simp [cap, q, capM]
@[simp] theorem asg_fr (ρ : En) (i : Nat) (ds : List D) : asg ρ i (.fr ds) = if free1 ρ i = true then some (ρ.set i (.own ds)) else none := (rfl)
@[simp] theorem asg_sh (ρ : En) (i : Nat) (d : D) : asg ρ i (.sh d) = if free1 ρ i = true then some (ρ.set i (.sh d)) else none := (rfl)
@[simp] theorem asg_bw (ρ : En) (i j : Nat) : asg ρ i (.bw j) = bnd (cap ρ (.bw j)) fun x => if free1 x.2 i = true then some (x.2.set i (.sh x.1)) else none := (rfl)
def retM : Option M → En → Nat → Option (R × En)
  | some (.own ds), ρ, i => some (.fr ds, ρ.set i .no)
  | some (.sh d), ρ, _ => some (.sh d, ρ)
  | _, _, _ => none
@[simp] theorem retM_own (ds : List D) (ρ : En) (i : Nat) : retM (some (.own ds)) ρ i = some (.fr ds, ρ.set i .no) := (rfl)
@[simp] theorem retM_sh (d : D) (ρ : En) (i : Nat) : retM (some (.sh d)) ρ i = some (.sh d, ρ) := (rfl)
@[simp] theorem retR_sh (ρ : En) (d : D) : retR ρ (.sh d) = some (.sh d, ρ) := (rfl)
@[simp] theorem retR_fr (ρ : En) (ds : List D) : retR ρ (.fr ds) = some (.fr ds, ρ) := (rfl)
@[simp] theorem retR_bw (ρ : En) (i : Nat) : retR ρ (.bw i) = retM ρ[i]? ρ i := by
  cases q : ρ[i]? with
  | none => simp [retR, q, retM]
  | some m => cases m <;> simp [retR, q, retM]
@[simp] theorem outR_nx : outR .nx = some (.sh .none) := (rfl)
@[simp] theorem outR_sh (d : D) : outR (.rt (.sh d)) = some (.sh d) := (rfl)
@[simp] theorem outR_fr (d : List D) : outR (.rt (.fr d)) = some (.fr d) := (rfl)
@[simp] theorem ioR_c (ws : List D) (ρ : En) (r : R) : ioR (.io ws :: ρ) r = some (r, ws) := (rfl)
/-! slots at a def's entry -/
@[simp] theorem startE_c (n : Nat) (d : D) (ds : List D) : startE (n + 1) (d :: ds) = .sh d :: startE n ds := by
  unfold startE
  rw [List.map_cons, List.length_cons, Nat.add_sub_add_right, List.cons_append]
@[simp] theorem startE_n (n : Nat) : startE (n + 1) [] = .no :: startE n [] := (rfl)
@[simp] theorem startE_0 : startE 0 [] = [] := (rfl)
@[simp] theorem startIO_c (n : Nat) (ws ds : List D) : startIO (n + 1) ws ds = .io ws :: startE n ds := (rfl)
theorem runN_eq {n p : Nat} {m : MS'} {ds : List D} (h : ds.length = p) : runN n p m ds = bnd (m (startE n ds)) fun x => outR x.1 := by
  unfold runN
  rw [if_pos h]
  rfl
theorem runIO_eq {n p : Nat} {m : MS'} {ws ds : List D} (h : ds.length + 1 = p) : runIO n p m ws ds = bnd (m (startIO n ws ds)) fun x => bnd (outR x.1) fun r => ioR x.2 r := by
  unfold runIO
  rw [if_pos h]
  rfl
/-! combinators -/
section
variable {f : D → D → Option R} {f1 : D → Option R} {g : D → D → Option Bool} {ma mb m mo : MR} {t u : MB} {e : M} {ρ : En} {ms : MA} {i : Nat} {d : D} {lo hi : MP}
def varM : Option M → Nat → En → Option (R × En)
  | some (.sh d), _, ρ => some (.sh d, ρ)
  | some (.own _), i, ρ => some (.bw i, ρ)
  | some (.io _), i, ρ => some (.bw i, ρ)
  | _, _, _ => none
@[simp] theorem varM_sh (i : Nat) (d : D) : varM (some (.sh d)) i ρ = some (.sh d, ρ) := (rfl)
@[simp] theorem varM_own (i : Nat) (d : List D) : varM (some (.own d)) i ρ = some (.bw i, ρ) := (rfl)
@[simp] theorem varM_io (i : Nat) (d : List D) : varM (some (.io d)) i ρ = some (.bw i, ρ) := (rfl)
@[simp] theorem mVar_c : mVar i (e :: ρ) = varM (e :: ρ)[i]? i (e :: ρ) := by
  unfold mVar varM
  cases (e :: ρ)[i]? with
  | none => rfl
  | some m => cases m <;> rfl
@[simp] theorem mC_c : mC d ρ = some (.sh d, ρ) := (rfl)
@[simp] theorem mBin_c : mBin f ma mb (e :: ρ) = bnd (ma (e :: ρ)) fun x => bnd (mb x.2) fun y => bnd (deref y.2 x.1) fun d1 => bnd (deref y.2 y.1) fun d2 => bnd (f d1 d2) fun k => some (k, y.2) := (rfl)
@[simp] theorem mUn_c : mUn f1 ma (e :: ρ) = bnd (ma (e :: ρ)) fun x => bnd (deref x.2 x.1) fun d1 => bnd (f1 d1) fun k => some (k, x.2) := (rfl)
@[simp] theorem mCmp_c : mCmp g ma mb (e :: ρ) = bnd (ma (e :: ρ)) fun x => bnd (mb x.2) fun y => bnd (deref y.2 x.1) fun d1 => bnd (deref y.2 y.1) fun d2 => bnd (g d1 d2) fun k => some (k, y.2) := (rfl)
@[simp] theorem mBV_c : mBV t (e :: ρ) = bnd (t (e :: ρ)) fun x => some (.sh (.bool x.1), x.2) := (rfl)
@[simp] theorem mTest_c : mTest m (e :: ρ) = bnd (m (e :: ρ)) fun x => bnd (deref x.2 x.1) fun d => bnd (truD d) fun k => some (k, x.2) := (rfl)
@[simp] theorem mAnd_c : mAnd t u (e :: ρ) = bnd (t (e :: ρ)) fun x => if x.1 = true then u x.2 else some (false, x.2) := (rfl)
@[simp] theorem mOr_c : mOr t u (e :: ρ) = bnd (t (e :: ρ)) fun x => if x.1 = true then some (true, x.2) else u x.2 := (rfl)
@[simp] theorem mNot_c : mNot t (e :: ρ) = bnd (t (e :: ρ)) fun x => some (!x.1, x.2) := (rfl)
@[simp] theorem mYes_c : mYes ρ = some (true, ρ) := (rfl)
def boolR : R → Option Bool
  | .sh (.bool b) => some b
  | _ => none
@[simp] theorem boolR_sh (b : Bool) : boolR (.sh (.bool b)) = some b := (rfl)
@[simp] theorem mAndV_c : mAndV ma mb (e :: ρ) = bnd (ma (e :: ρ)) fun x => bnd (boolR x.1) fun b => if b = true then mb x.2 else some (.sh (.bool false), x.2) := by
  show (ma (e :: ρ)).bind _ = (ma (e :: ρ)).bind _
  congr 1
  funext x
  obtain ⟨r, ρ1⟩ := x
  cases r with
  | sh d =>
    cases d with
    | bool b => cases b <;> rfl
    | _ => rfl
  | fr _ => rfl
  | bw _ => rfl
@[simp] theorem mOrV_c : mOrV ma mb (e :: ρ) = bnd (ma (e :: ρ)) fun x => bnd (boolR x.1) fun b => if b = true then some (.sh (.bool true), x.2) else mb x.2 := by
  show (ma (e :: ρ)).bind _ = (ma (e :: ρ)).bind _
  congr 1
  funext x
  obtain ⟨r, ρ1⟩ := x
  cases r with
  | sh d =>
    cases d with
    | bool b => cases b <;> rfl
    | _ => rfl
  | fr _ => rfl
  | bw _ => rfl
@[simp] theorem mNotV_c : mNotV ma (e :: ρ) = bnd (ma (e :: ρ)) fun x => bnd (boolR x.1) fun b => some (.sh (.bool (!b)), x.2) := by
  show (ma (e :: ρ)).bind _ = (ma (e :: ρ)).bind _
  congr 1
  funext x
  obtain ⟨r, ρ1⟩ := x
  cases r with
  | sh d =>
    cases d with
    | bool b => cases b <;> rfl
    | _ => rfl
  | fr _ => rfl
  | bw _ => rfl
@[simp] theorem mIf_c : mIf t ma mb (e :: ρ) = bnd (t (e :: ρ)) fun x => if x.1 = true then ma x.2 else mb x.2 := (rfl)
@[simp] theorem aNil_c : aNil ρ = some ([], ρ) := (rfl)
@[simp] theorem mCap_c : mCap m (e :: ρ) = bnd (m (e :: ρ)) fun x => cap x.2 x.1 := (rfl)
@[simp] theorem aCons_c : aCons m ms (e :: ρ) = bnd (mCap m (e :: ρ)) fun x => bnd (ms x.2) fun y => some (x.1 :: y.1, y.2) := (rfl)
@[simp] theorem mTup_c : mTup ms (e :: ρ) = bnd (ms (e :: ρ)) fun x => if x.1.length ≤ lim then some (.sh (.tuple x.1), x.2) else none := (rfl)
@[simp] theorem mLst_c : mLst ms (e :: ρ) = bnd (ms (e :: ρ)) fun x => if x.1.length ≤ lim then some (.fr x.1, x.2) else none := (rfl)
@[simp] theorem pNone_c : pNone ρ = some (none, ρ) := (rfl)
def intR : R → Option Int
  | .sh (.int i) => some i
  | _ => none
@[simp] theorem intR_sh (i : Int) : intR (.sh (.int i)) = some i := (rfl)
@[simp] theorem pSome_c : pSome m (e :: ρ) = bnd (m (e :: ρ)) fun x => bnd (intR x.1) fun i => some (some i, x.2) := by
  show (m (e :: ρ)).bind _ = (m (e :: ρ)).bind _
  congr 1
  funext x
  obtain ⟨r, ρ1⟩ := x
  cases r with
  | sh d => cases d <;> rfl
  | fr _ => rfl
  | bw _ => rfl
@[simp] theorem mSl_c : mSl m lo hi (e :: ρ) = bnd (m (e :: ρ)) fun x => bnd (lo x.2) fun l => bnd (hi l.2) fun h => bnd (deref h.2 x.1) fun d => bnd (slD d l.1 h.1) fun k => some (k, h.2) := (rfl)
variable {φ : List D → Option R} {φi : List D → List D → Option (R × List D)}
@[simp] theorem mCall_c : mCall φ ms (e :: ρ) = bnd (ms (e :: ρ)) fun x => bnd (φ x.1) fun r => some (r, x.2) := (rfl)
@[simp] theorem mCallIO_c : mCallIO φi i ms (e :: ρ) = bnd (contE (e :: ρ) i) fun _ => bnd (ms (e :: ρ)) fun x => bnd (contE x.2 i) fun ws => bnd (φi ws x.1) fun y => some (y.1, putE x.2 i y.2) := (rfl)
@[simp] theorem mAppend_c : mAppend i m (e :: ρ) = bnd (contE (e :: ρ) i) fun _ => bnd (mCap m (e :: ρ)) fun x => bnd (contE x.2 i) fun ds => if ds.length < lim then some (.sh .none, putE x.2 i (ds ++ [x.1])) else none := (rfl)
@[simp] theorem mPop_c : mPop i (e :: ρ) = bnd (contE (e :: ρ) i) fun ds => bnd ds[ds.length - 1]? fun d => some (.sh d, putE (e :: ρ) i ds.dropLast) := (rfl)
@[simp] theorem mPopAt_c : mPopAt i m (e :: ρ) = bnd (contE (e :: ρ) i) fun _ => bnd (m (e :: ρ)) fun x => bnd (intR x.1) fun z => bnd (contE x.2 i) fun ds => if i62 z = true then bnd (seqIndex? z ds.length) fun j => bnd ds[j]? fun d => some (.sh d, putE x.2 i (ds.eraseIdx j)) else none := by
  show (contE (e :: ρ) i).bind _ = (contE (e :: ρ) i).bind _
  congr 1
  funext _
  show (m (e :: ρ)).bind _ = (m (e :: ρ)).bind _
  congr 1
  funext x
  obtain ⟨r, ρ1⟩ := x
  cases r with
  | sh d => cases d <;> rfl
  | fr _ => rfl
  | bw _ => rfl
def listR : D → Option (List D)
  | .list ds => some ds
  | _ => none
@[simp] theorem listR_l (ds : List D) : listR (.list ds) = some ds := (rfl)
@[simp] theorem mExtend_c : mExtend i m (e :: ρ) = bnd (contE (e :: ρ) i) fun _ => bnd (m (e :: ρ)) fun x => bnd (deref x.2 x.1) fun d => bnd (listR d) fun es => bnd (contE x.2 i) fun ds => if ds.length + es.length ≤ lim then some (.sh .none, putE x.2 i (ds ++ es)) else none := by
  show (contE (e :: ρ) i).bind _ = (contE (e :: ρ) i).bind _
  congr 1
  funext _
  show (m (e :: ρ)).bind _ = (m (e :: ρ)).bind _
  congr 1
  funext x
  obtain ⟨r, ρ1⟩ := x
  show (deref ρ1 r).bind _ = (deref ρ1 r).bind _
  congr 1
  funext d
  cases d <;> rfl
@[simp] theorem mIsi_c {T : String} : mIsi T m (e :: ρ) = bnd (m (e :: ρ)) fun x => bnd (deref x.2 x.1) fun d => bnd (isiD T d) fun k => some (.sh (.bool k), x.2) := (rfl)
def strR : R → Option Str
  | .sh (.str a) => some a
  | _ => none
@[simp] theorem strR_s (a : Str) : strR (.sh (.str a)) = some a := (rfl)
@[simp] theorem mM1_c : mM1 f mo m (e :: ρ) = bnd (mo (e :: ρ)) fun x => bnd (strR x.1) fun a => bnd (m x.2) fun y => bnd (deref y.2 y.1) fun d => bnd (f (.str a) d) fun k => some (k, y.2) := by
  show (mo (e :: ρ)).bind _ = (mo (e :: ρ)).bind _
  congr 1
  funext x
  obtain ⟨r, ρ1⟩ := x
  cases r with
  | sh d => cases d <;> rfl
  | fr _ => rfl
  | bw _ => rfl
@[simp] theorem mIndex_c : mIndex ma mb (e :: ρ) = bnd (ma (e :: ρ)) fun x => bnd (deref x.2 x.1) fun d0 => bnd (listR d0) fun _ => bnd (mb x.2) fun y => bnd (deref y.2 x.1) fun d1 => bnd (deref y.2 y.1) fun d2 => bnd (indexD d1 d2) fun k => some (k, y.2) := by
  show (ma (e :: ρ)).bind _ = (ma (e :: ρ)).bind _
  congr 1
  funext x
  obtain ⟨r, ρ1⟩ := x
  show (deref ρ1 r).bind _ = (deref ρ1 r).bind _
  congr 1
  funext d
  cases d <;> rfl
/-! what is walked, targets -/
@[simp] theorem mIter_c : mIter m (e :: ρ) = bnd (mCap m (e :: ρ)) fun x => bnd (itemsD x.1) fun ds => some (ds, x.2) := (rfl)
@[simp] theorem itemsD_l (ds : List D) : itemsD (.list ds) = some ds := (rfl)
@[simp] theorem itemsD_t (ds : List D) : itemsD (.tuple ds) = some ds := (rfl)
@[simp] theorem itemsD_s (z : Str) : itemsD (.str z) = some (charsD z) := (rfl)
def range1 : List D → Option (List D)
  | [.int j] => if i62 j = true then some (rangeD 0 j) else none
  | _ => none
def range2 : List D → Option (List D)
  | [.int i, .int j] => if (i62 i && i62 j) = true then some (rangeD i j) else none
  | _ => none
@[simp] theorem range1_i (j : Int) : range1 [.int j] = if i62 j = true then some (rangeD 0 j) else none := (rfl)
@[simp] theorem range2_i (i j : Int) : range2 [.int i, .int j] = if (i62 i && i62 j) = true then some (rangeD i j) else none := (rfl)
theorem match1 {α : Type} {ρ1 : α} {ds : List D} : (match ds with
    | [.int j] => if i62 j = true then some (rangeD 0 j, ρ1) else none
    | _ => none) = bnd (range1 ds) fun xs => some (xs, ρ1) := by
  unfold range1
  split
  · split <;> rfl
  · rfl
theorem match2 {α : Type} {ρ1 : α} {ds : List D} : (match ds with
    | [.int i, .int j] => if (i62 i && i62 j) = true then some (rangeD i j, ρ1) else none
    | _ => none) = bnd (range2 ds) fun xs => some (xs, ρ1) := by
  unfold range2
  split
  · split <;> rfl
  · rfl
@[simp] theorem mRange1_c : mRange1 ms (e :: ρ) = bnd (ms (e :: ρ)) fun x => bnd (range1 x.1) fun ds => some (ds, x.2) := by
  show (ms (e :: ρ)).bind _ = (ms (e :: ρ)).bind _
  congr 1
  funext x
  exact match1
@[simp] theorem mRange2_c : mRange2 ms (e :: ρ) = bnd (ms (e :: ρ)) fun x => bnd (range2 x.1) fun ds => some (ds, x.2) := by
  show (ms (e :: ρ)).bind _ = (ms (e :: ρ)).bind _
  congr 1
  funext x
  exact match2
@[simp] theorem gNm_c : gNm i d (e :: ρ) = if free1 (e :: ρ) i = true then some ((e :: ρ).set i (.sh d)) else none := (rfl)
variable {gg : MG} {gs : MGs'} {n n1 n2 : MS'}
@[simp] theorem gTp_c (k : Nat) (ds : List D) : gTp k gs (.tuple ds) (e :: ρ) = if ds.length = k then gs ds (e :: ρ) else none := (rfl)
@[simp] theorem gNil_c : gNil' [] (e :: ρ) = some (e :: ρ) := (rfl)
@[simp] theorem gCons_c (r : List D) : gCons' gg gs (d :: r) (e :: ρ) = bnd (gg d (e :: ρ)) fun ρ1 => gs r ρ1 := (rfl)
/-! statements -/
@[simp] theorem sNil_c : sNil ρ = some (.nx, ρ) := (rfl)
@[simp] theorem sBrk_c : sBrk ρ = some (.bk, ρ) := (rfl)
@[simp] theorem sCont_c : sCont ρ = some (.ct, ρ) := (rfl)
def thenS (n2 : MS') : Out × En → Option (Out × En)
  | (.nx, ρ) => n2 ρ
  | x => some x
@[simp] theorem thenS_nx : thenS n2 (.nx, ρ) = n2 ρ := (rfl)
@[simp] theorem thenS_bk : thenS n2 (.bk, ρ) = some (.bk, ρ) := (rfl)
@[simp] theorem thenS_ct : thenS n2 (.ct, ρ) = some (.ct, ρ) := (rfl)
@[simp] theorem thenS_rt (r : R) : thenS n2 (.rt r, ρ) = some (.rt r, ρ) := (rfl)
@[simp] theorem sSeq_c : sSeq n1 n2 (e :: ρ) = bnd (n1 (e :: ρ)) (thenS n2) := by
  show (n1 (e :: ρ)).bind _ = (n1 (e :: ρ)).bind _
  congr 1
  funext x
  obtain ⟨o, ρ1⟩ := x
  cases o <;> rfl
@[simp] theorem sExpr_c : sExpr m (e :: ρ) = bnd (m (e :: ρ)) fun x => some (.nx, x.2) := (rfl)
@[simp] theorem sRet_c : sRet m (e :: ρ) = bnd (m (e :: ρ)) fun x => bnd (retR x.2 x.1) fun y => some (.rt y.1, y.2) := (rfl)
@[simp] theorem sRetN_c : sRetN ρ = some (.rt (.sh .none), ρ) := (rfl)
@[simp] theorem sIf_c : sIf t n1 n2 (e :: ρ) = bnd (t (e :: ρ)) fun x => if x.1 = true then n1 x.2 else n2 x.2 := (rfl)
@[simp] theorem sSet_c : sSet i m (e :: ρ) = bnd (m (e :: ρ)) fun x => bnd (asg x.2 i x.1) fun ρ2 => some (.nx, ρ2) := (rfl)
@[simp] theorem sAsg_c : sAsg gg m (e :: ρ) = bnd (mCap m (e :: ρ)) fun x => bnd (gg x.1 x.2) fun ρ2 => some (.nx, ρ2) := (rfl)
variable {it : MI}
@[simp] theorem sFor_c : sFor it gg n (e :: ρ) = bnd (it (e :: ρ)) fun x => forGo gg n x.1 x.2 := (rfl)
def dR : R → Option D
  | .sh d => some d
  | _ => none
@[simp] theorem dR_sh : dR (.sh d) = some d := (rfl)
@[simp] theorem sAug_c : sAug i f m (e :: ρ) = bnd (mVar i (e :: ρ)) fun x => bnd (dR x.1) fun d0 => bnd (m x.2) fun y => bnd (deref y.2 y.1) fun d1 => bnd (f d0 d1) fun k => bnd (asg y.2 i k) fun ρ2 => some (.nx, ρ2) := by
  show (mVar i (e :: ρ)).bind _ = (mVar i (e :: ρ)).bind _
  congr 1
  funext x
  obtain ⟨r, ρ1⟩ := x
  cases r <;> rfl
@[simp] theorem sPut_c {mi mv : MR} : sPut i mi mv (e :: ρ) = bnd (mCap mv (e :: ρ)) fun x => bnd (contE x.2 i) fun _ => bnd (mi x.2) fun y => bnd (intR y.1) fun z => bnd (contE y.2 i) fun ds => bnd (ixN ds.length z) fun j => some (.nx, putE y.2 i (ds.set j x.1)) := by
  show (mCap mv (e :: ρ)).bind _ = (mCap mv (e :: ρ)).bind _
  congr 1
  funext x
  obtain ⟨d, ρ1⟩ := x
  show (contE ρ1 i).bind _ = (contE ρ1 i).bind _
  congr 1
  funext _
  show (mi ρ1).bind _ = (mi ρ1).bind _
  congr 1
  funext y
  obtain ⟨r, ρ2⟩ := y
  cases r with
  | sh d => cases d <;> rfl
  | fr _ => rfl
  | bw _ => rfl
/-! loops -/
def forO (gg : MG) (n : MS') (ds : List D) : Out × En → Option (Out × En)
  | (.nx, ρ) => forGo gg n ds ρ
  | (.ct, ρ) => forGo gg n ds ρ
  | (.bk, ρ) => some (.nx, ρ)
  | (.rt r, ρ) => some (.rt r, ρ)
@[simp] theorem forO_nx (ds : List D) : forO gg n ds (.nx, ρ) = forGo gg n ds ρ := (rfl)
@[simp] theorem forO_ct (ds : List D) : forO gg n ds (.ct, ρ) = forGo gg n ds ρ := (rfl)
@[simp] theorem forO_bk (ds : List D) : forO gg n ds (.bk, ρ) = some (.nx, ρ) := (rfl)
@[simp] theorem forO_rt (ds : List D) (r : R) : forO gg n ds (.rt r, ρ) = some (.rt r, ρ) := (rfl)
@[simp] theorem forGo_nil : forGo gg n [] ρ = some (.nx, ρ) := (rfl)
@[simp] theorem forGo_cons (ds : List D) : forGo gg n (d :: ds) ρ = bnd (gg d ρ) fun ρ1 => bnd (n ρ1) (forO gg n ds) := by
  show (gg d ρ).bind _ = (gg d ρ).bind _
  congr 1
  funext ρ1
  show (n ρ1).bind _ = (n ρ1).bind _
  congr 1
  funext x
  obtain ⟨o, ρ2⟩ := x
  cases o <;> rfl
/-- a loop that goes through: an invariant over what is left and the slots -/
theorem for_inv {ds : List D} (I : List D → En → Prop) (h0 : I ds ρ) (hs : ∀ d r ρ, I (d :: r) ρ → ∃ ρ1 o ρ2, gg d ρ = some ρ1 ∧ n ρ1 = some (o, ρ2) ∧ (o = .nx ∨ o = .ct) ∧ I r ρ2) : ∃ ρ', forGo gg n ds ρ = some (.nx, ρ') ∧ I [] ρ' := by
  induction ds generalizing ρ with
  | nil => exact ⟨ρ, rfl, h0⟩
  | cons d r ih =>
    obtain ⟨ρ1, o, ρ2, e1, e2, ho, h⟩ := hs d r ρ h0
    obtain ⟨ρ', e, h'⟩ := ih h
    refine ⟨ρ', ?_, h'⟩
    rw [forGo_cons, e1, bnd_some, e2, bnd_some]
    rcases ho with rfl | rfl
    · rw [forO_nx, e]
    · rw [forO_ct, e]
/-- by a fold: what each turn makes of the slots -/
theorem for_fold {ds : List D} {α : Type} (S : α → En) (f : α → D → α) (hs : ∀ a d, d ∈ ds → ∃ ρ1, gg d (S a) = some ρ1 ∧ n ρ1 = some (.nx, S (f a d))) (a : α) : forGo gg n ds (S a) = some (.nx, S (ds.foldl f a)) := by
  induction ds generalizing a with
  | nil => rfl
  | cons d r ih =>
    obtain ⟨ρ1, e1, e2⟩ := hs a d List.mem_cons_self
    rw [forGo_cons, e1, bnd_some, e2, bnd_some, forO_nx, ih (fun a d h => hs a d (List.mem_cons_of_mem _ h))]
    rfl
def whO (t : MB) (n : MS') (f : Nat) : Out × En → Option (Out × En)
  | (.nx, ρ) => whGo t n f ρ
  | (.ct, ρ) => whGo t n f ρ
  | (.bk, ρ) => some (.nx, ρ)
  | (.rt r, ρ) => some (.rt r, ρ)
@[simp] theorem whO_nx (f : Nat) : whO t n f (.nx, ρ) = whGo t n f ρ := (rfl)
@[simp] theorem whO_ct (f : Nat) : whO t n f (.ct, ρ) = whGo t n f ρ := (rfl)
@[simp] theorem whO_bk (f : Nat) : whO t n f (.bk, ρ) = some (.nx, ρ) := (rfl)
@[simp] theorem whO_rt (f : Nat) (r : R) : whO t n f (.rt r, ρ) = some (.rt r, ρ) := (rfl)
theorem whGo_eq (f : Nat) : whGo t n (f + 1) ρ = bnd (t ρ) fun x => if x.1 = true then bnd (n x.2) (whO t n f) else some (.nx, x.2) := by
  show (t ρ).bind _ = (t ρ).bind _
  congr 1
  funext x
  obtain ⟨k, ρ1⟩ := x
  cases k with
  | false => rfl
  | true =>
    show (n ρ1).bind _ = (n ρ1).bind _
    congr 1
    funext y
    obtain ⟨o, ρ2⟩ := y
    cases o <;> rfl
@[simp] theorem sWhile_c (f : Nat) : sWhile f t n (e :: ρ) = whGo t n f (e :: ρ) := (rfl)
/-! comprehensions -/
/-- one turn: what is kept, the slots behind -/
def lcTurn (gg : MG) (t : MB) (el : MR) (vs : List Nat) (d : D) (ρ : En) : Option (Option D × En) :=
  bnd (gg d (wipeE ρ vs)) fun ρ1 => bnd (t ρ1) fun x => if x.1 = true then bnd (mCap el x.2) fun y => some (some y.1, backE ρ y.2 vs) else some (none, backE ρ x.2 vs)
theorem lcGo_cons {el : MR} {vs : List Nat} (ds acc : List D) : lcGo gg t el vs (d :: ds) ρ acc = bnd (lcTurn gg t el vs d ρ) fun x => match x.1 with
    | some y => if acc.length < lim then lcGo gg t el vs ds x.2 (acc ++ [y]) else none
    | none => lcGo gg t el vs ds x.2 acc := by
  unfold lcTurn
  show (gg d (wipeE ρ vs)).bind _ = ((gg d (wipeE ρ vs)).bind _).bind _
  rw [Option.bind_assoc]
  congr 1
  funext ρ1
  show (t ρ1).bind _ = ((t ρ1).bind _).bind _
  rw [Option.bind_assoc]
  congr 1
  funext x
  obtain ⟨k, ρ2⟩ := x
  cases k with
  | false => rfl
  | true =>
    show (mCap el ρ2).bind _ = ((mCap el ρ2).bind _).bind _
    rw [Option.bind_assoc]
    rfl
/-- a comprehension that changes nothing: what each item gives -/
theorem lc_pure {el : MR} {vs : List Nat} {ds : List D} (f : D → Option D) (hs : ∀ d ∈ ds, lcTurn gg t el vs d ρ = some (f d, ρ)) (acc : List D) (hl : acc.length + ds.length ≤ lim) : lcGo gg t el vs ds ρ acc = some (acc ++ ds.filterMap f, ρ) := by
  induction ds generalizing acc with
  | nil => simp [lcGo]
  | cons d r ih =>
    rw [List.length_cons] at hl
    rw [lcGo_cons, hs d List.mem_cons_self, bnd_some, List.filterMap_cons]
    cases q : f d with
    | none => exact ih (fun d h => hs d (List.mem_cons_of_mem _ h)) acc (by omega)
    | some y =>
      show (if acc.length < lim then _ else none) = _
      rw [if_pos (by omega), ih (fun d h => hs d (List.mem_cons_of_mem _ h)) (acc ++ [y]) (by rw [List.length_append, List.length_singleton]; omega), List.append_assoc]
      rfl
/-- one that may draw: an invariant of the slots, a fact of each item kept -/
theorem lc_inv {el : MR} {vs : List Nat} {ds : List D} (I : En → Prop) (Pt : D → Prop) (hs : ∀ d ∈ ds, ∀ ρ, I ρ → ∃ o ρ', lcTurn gg t el vs d ρ = some (o, ρ') ∧ I ρ' ∧ ∀ y, o = some y → Pt y) (h0 : I ρ) (acc : List D) (hl : acc.length + ds.length ≤ lim) :
    ∃ ys ρ', lcGo gg t el vs ds ρ acc = some (acc ++ ys, ρ') ∧ I ρ' ∧ (∀ y ∈ ys, Pt y) ∧ ys.length ≤ ds.length := by
  induction ds generalizing acc ρ with
  | nil => exact ⟨[], ρ, by simp [lcGo], h0, by simp, Nat.le_refl _⟩
  | cons d r ih =>
    rw [List.length_cons] at hl
    obtain ⟨o, ρ1, e, h1, hp⟩ := hs d List.mem_cons_self ρ h0
    rw [lcGo_cons, e, bnd_some]
    cases o with
    | none =>
      obtain ⟨ys, ρ', e', h', hy, hn⟩ := ih (fun d h => hs d (List.mem_cons_of_mem _ h)) h1 acc (by omega)
      exact ⟨ys, ρ', e', h', hy, by rw [List.length_cons]; omega⟩
    | some y =>
      obtain ⟨ys, ρ', e', h', hy, hn⟩ := ih (fun d h => hs d (List.mem_cons_of_mem _ h)) h1 (acc ++ [y]) (by rw [List.length_append, List.length_singleton]; omega)
      refine ⟨y :: ys, ρ', ?_, h', fun z hz => ?_, by rw [List.length_cons, List.length_cons]; omega⟩
      · show (if acc.length < lim then _ else none) = _
        rw [if_pos (by omega), e', List.append_assoc]
        rfl
      · rcases List.mem_cons.mp hz with rfl | hz
        · exact hp _ rfl
        · exact hy z hz
/-- .. that keeps every item -/
theorem lc_invA {el : MR} {vs : List Nat} {ds : List D} (I : En → Prop) (Pt : D → Prop) (hs : ∀ d ∈ ds, ∀ ρ, I ρ → ∃ y ρ', lcTurn gg t el vs d ρ = some (some y, ρ') ∧ I ρ' ∧ Pt y) (h0 : I ρ) (acc : List D) (hl : acc.length + ds.length ≤ lim) :
    ∃ ys ρ', lcGo gg t el vs ds ρ acc = some (acc ++ ys, ρ') ∧ I ρ' ∧ (∀ y ∈ ys, Pt y) ∧ ys.length = ds.length := by
  induction ds generalizing acc ρ with
  | nil => exact ⟨[], ρ, by simp [lcGo], h0, by simp, rfl⟩
  | cons d r ih =>
    rw [List.length_cons] at hl
    obtain ⟨y, ρ1, e, h1, hp⟩ := hs d List.mem_cons_self ρ h0
    rw [lcGo_cons, e, bnd_some]
    obtain ⟨ys, ρ', e', h', hy, hn⟩ := ih (fun d h => hs d (List.mem_cons_of_mem _ h)) h1 (acc ++ [y]) (by rw [List.length_append, List.length_singleton]; omega)
    refine ⟨y :: ys, ρ', ?_, h', fun z hz => ?_, by rw [List.length_cons, List.length_cons, hn]⟩
    · show (if acc.length < lim then _ else none) = _
      rw [if_pos (by omega), e', List.append_assoc]
      rfl
    · rcases List.mem_cons.mp hz with rfl | hz
      · exact hp
      · exact hy z hz
@[simp] theorem lcTurn_c {el : MR} {vs : List Nat} : lcTurn gg t el vs d (e :: ρ) = bnd (gg d (wipeE (e :: ρ) vs)) fun ρ1 => bnd (t ρ1) fun x => if x.1 = true then bnd (mCap el x.2) fun y => some (some y.1, backE (e :: ρ) y.2 vs) else some (none, backE (e :: ρ) x.2 vs) := (rfl)
@[simp] theorem mLc_c {el : MR} {vs : List Nat} : mLc it gg t el vs (e :: ρ) = bnd (it (e :: ρ)) fun x => if okW x.2 vs = true then bnd (lcGo gg t el vs x.1 x.2 []) fun y => some (.fr y.1, y.2) else none := (rfl)
@[simp] theorem wipeE_nil : wipeE ρ [] = ρ := (rfl)
@[simp] theorem wipeE_cons (v : Nat) (vs : List Nat) : wipeE ρ (v :: vs) = (wipeE ρ vs).set v .no := (rfl)
@[simp] theorem backE_nil (ρ1 : En) : backE ρ ρ1 [] = ρ1 := (rfl)
@[simp] theorem backE_cons (ρ1 : En) (v : Nat) (vs : List Nat) : backE ρ ρ1 (v :: vs) = (backE ρ ρ1 vs).set v (ρ.getD v .no) := (rfl)
def okM : Option M → Bool
  | some (.own _) => false
  | some (.io _) => false
  | _ => true
@[simp] theorem okM_no : okM (some .no) = true := (rfl)
@[simp] theorem okM_sh : okM (some (.sh d)) = true := (rfl)
@[simp] theorem okW_nil : okW ρ [] = true := (rfl)
@[simp] theorem okW_cons (v : Nat) (vs : List Nat) : okW ρ (v :: vs) = (okM ρ[v]? && okW ρ vs) := by
  unfold okW
  rw [List.all_cons]
  rfl
end
/-! ### operations on data -/
@[simp] theorem addD_i (a b : Int) : addD (.int a) (.int b) = some (.sh (.int (a + b))) := (rfl)
@[simp] theorem addD_s (a b : Str) : addD (.str a) (.str b) = if a.length + b.length ≤ lim then some (.sh (.str (a ++ b))) else none := (rfl)
@[simp] theorem addD_l (a b : List D) : addD (.list a) (.list b) = if a.length + b.length ≤ lim then some (.fr (a ++ b)) else none := (rfl)
@[simp] theorem addD_t (a b : List D) : addD (.tuple a) (.tuple b) = if a.length + b.length ≤ lim then some (.sh (.tuple (a ++ b))) else none := (rfl)
@[simp] theorem subD_i (a b : Int) : subD (.int a) (.int b) = some (.sh (.int (a - b))) := (rfl)
@[simp] theorem mulD_i (a b : Int) : mulD (.int a) (.int b) = if (i64 a || i64 b) = true then some (.sh (.int (a * b))) else none := (rfl)
@[simp] theorem mulD_l (a : List D) (k : Int) : mulD (.list a) (.int k) = if i62 k = true ∧ a.length * k.toNat ≤ lim then some (.fr (List.replicate k.toNat a).flatten) else none := (rfl)
@[simp] theorem divD_i (a b : Int) : divD (.int a) (.int b) = if 0 < b ∧ b < 2 ^ 64 then some (.sh (.int (a / b))) else none := (rfl)
@[simp] theorem modD_i (a b : Int) : modD (.int a) (.int b) = if 0 < b then some (.sh (.int (a % b))) else none := (rfl)
@[simp] theorem powD_i (a b : Int) : powD (.int a) (.int b) = if (i64 a = true ∧ 0 ≤ b ∧ b ≤ 1000) then some (.sh (.int (a ^ b.toNat))) else none := (rfl)
@[simp] theorem xorD_i (a b : Int) : xorD (.int a) (.int b) = some (.sh (.int (Builtin.bitXor a b))) := (rfl)
@[simp] theorem negD_i (a : Int) : negD (.int a) = some (.sh (.int (-a))) := (rfl)
@[simp] theorem eqD_i (a b : Int) : eqD (.int a) (.int b) = some (decide (a = b)) := (rfl)
@[simp] theorem eqD_s (a b : Str) : eqD (.str a) (.str b) = some (decide (a = b)) := (rfl)
@[simp] theorem neD_i (a b : Int) : neD (.int a) (.int b) = some (!decide (a = b)) := (rfl)
@[simp] theorem neD_s (a b : Str) : neD (.str a) (.str b) = some (!decide (a = b)) := (rfl)
@[simp] theorem ltD_i (a b : Int) : ltD (.int a) (.int b) = some (decide (a < b)) := (rfl)
@[simp] theorem gtD_i (a b : Int) : gtD (.int a) (.int b) = some (decide (b < a)) := (rfl)
@[simp] theorem leD_i (a b : Int) : leD (.int a) (.int b) = some (decide (a ≤ b)) := (rfl)
@[simp] theorem geD_i (a b : Int) : geD (.int a) (.int b) = some (decide (b ≤ a)) := (rfl)
@[simp] theorem isD_n (a : D) : isD a .none = some (noneD a) := by cases a <;> rfl
@[simp] theorem noneD_n : noneD .none = true := (rfl)
@[simp] theorem noneD_i (i : Int) : noneD (.int i) = false := (rfl)
@[simp] theorem noneD_s (i : Str) : noneD (.str i) = false := (rfl)
@[simp] theorem noneD_b (i : Bool) : noneD (.bool i) = false := (rfl)
@[simp] theorem noneD_l (i : List D) : noneD (.list i) = false := (rfl)
@[simp] theorem noneD_t (i : List D) : noneD (.tuple i) = false := (rfl)
@[simp] theorem ixD_l (a : List D) (i : Int) : ixD (.list a) (.int i) = (atI a i).map .sh := (rfl)
@[simp] theorem ixD_t (a : List D) (i : Int) : ixD (.tuple a) (.int i) = (atI a i).map .sh := (rfl)
@[simp] theorem ixD_s (z : Str) (i : Int) : ixD (.str z) (.int i) = if z.length ≤ lim then (atI z.cps.toList i).map fun c => .sh (.str ⟨#[c]⟩) else none := (rfl)
@[simp] theorem ixD_f (a : List D) (i : Int) : ixD (frzD a) (.int i) = (atI a i).map .sh := (rfl)
@[simp] theorem slD_l (a : List D) (l h : Option Int) : slD (.list a) l h = some (.fr (cutD a l h)) := (rfl)
@[simp] theorem slD_t (a : List D) (l h : Option Int) : slD (.tuple a) l h = some (.sh (.tuple (cutD a l h))) := (rfl)
@[simp] theorem slD_s (z : Str) (l h : Option Int) : slD (.str z) l h = if z.length ≤ lim then some (.sh (.str (cutS z l h))) else none := (rfl)
@[simp] theorem lenD_l (a : List D) : lenD (.list a) = some (.sh (.int a.length)) := (rfl)
@[simp] theorem lenD_t (a : List D) : lenD (.tuple a) = some (.sh (.int a.length)) := (rfl)
@[simp] theorem lenD_f (a : List D) : lenD (frzD a) = some (.sh (.int a.length)) := (rfl)
@[simp] theorem lenD_s (z : Str) : lenD (.str z) = if z.length ≤ lim then some (.sh (.int z.length)) else none := (rfl)
@[simp] theorem absD_i (i : Int) : absD (.int i) = some (.sh (.int (if i < 0 then -i else i))) := (rfl)
@[simp] theorem intD_i (i : Int) : intD (.int i) = some (.sh (.int i)) := (rfl)
@[simp] theorem intD_b (b : Bool) : intD (.bool b) = some (.sh (.int (if b then 1 else 0))) := (rfl)
@[simp] theorem max2D_i (i j : Int) : max2D (.int i) (.int j) = some (.sh (.int (if j > i then j else i))) := (rfl)
@[simp] theorem min2D_i (i j : Int) : min2D (.int i) (.int j) = some (.sh (.int (if j < i then j else i))) := (rfl)
theorem intsD_map' : ∀ ns : List Int, intsD (ns.map .int) = some ns
  | [] => rfl
  | n :: r => by
    show (intsD (r.map .int)).map (n :: ·) = _
    rw [intsD_map' r]
    rfl
theorem blsD_map' : ∀ ns : List Bool, blsD (ns.map .bool) = some ns
  | [] => rfl
  | n :: r => by
    show (blsD (r.map .bool)).map (n :: ·) = _
    rw [blsD_map' r]
    rfl
theorem strsD_map' : ∀ ns : List Str, strsD (ns.map .str) = some ns
  | [] => rfl
  | n :: r => by
    show (strsD (r.map .str)).map (n :: ·) = _
    rw [strsD_map' r]
    rfl
@[simp] theorem sumD_l (ns : List Int) : sumD (.list (ns.map .int)) = some (.sh (.int ns.sum)) := by
  show (intsD _).map _ = _
  rw [intsD_map']
  rfl
@[simp] theorem anyD_l (ns : List Bool) : anyD (.list (ns.map .bool)) = some (.sh (.bool (ns.any id))) := by
  show (blsD _).map _ = _
  rw [blsD_map']
  rfl
@[simp] theorem allD_l (ns : List Bool) : allD (.list (ns.map .bool)) = some (.sh (.bool (ns.all id))) := by
  show (blsD _).map _ = _
  rw [blsD_map']
  rfl
@[simp] theorem listD_l (ds : List D) : listD (.list ds) = some (.fr ds) := (rfl)
@[simp] theorem listD_t (ds : List D) : listD (.tuple ds) = some (.fr ds) := (rfl)
@[simp] theorem tupleD_l (ds : List D) : tupleD (.list ds) = some (.sh (.tuple ds)) := (rfl)
@[simp] theorem tupleD_t (ds : List D) : tupleD (.tuple ds) = some (.sh (.tuple ds)) := (rfl)
@[simp] theorem truD_b (b : Bool) : truD (.bool b) = some b := (rfl)
@[simp] theorem truD_i (i : Int) : truD (.int i) = some (i != 0) := (rfl)
@[simp] theorem truD_n : truD .none = some false := (rfl)
@[simp] theorem truD_l (ds : List D) : truD (.list ds) = some (!ds.isEmpty) := (rfl)
@[simp] theorem truD_t (ds : List D) : truD (.tuple ds) = some (!ds.isEmpty) := (rfl)
theorem i64_of {i : Int} (h1 : -(2 ^ 64) < i) (h2 : i < 2 ^ 64) : i64 i = true := by
  unfold i64
  rw [decide_eq_true h1, decide_eq_true h2]
  rfl
theorem i62_of {i : Int} (h1 : -(2 ^ 62) ≤ i) (h2 : i < 2 ^ 62) : i62 i = true := by
  unfold i62
  rw [decide_eq_true h1, decide_eq_true h2]
  rfl
theorem join_ok {a : Str} {ys : List Str} (h : (ys.map (·.length)).sum + ys.length * a.length ≤ lim) : joinD (.str a) (.list (ys.map .str)) = some (.sh (.str (Txt.join a ys))) := by
  show (strsD _).bind _ = _
  rw [strsD_map']
  show (if _ then _ else none) = _
  rw [if_pos h]
theorem atI_nat' {α : Type} (xs : List α) (n : Nat) : atI xs (n : Int) = xs[n]? := by
  unfold atI ixN
  rw [if_pos (by omega)]
  by_cases h : (n : Int) < xs.length
  · rw [if_pos h]
    simp
  · rw [if_neg h, List.getElem?_eq_none (by omega)]
    rfl
@[simp] theorem atI_0 {α : Type} (xs : List α) : atI xs 0 = xs[0]? := atI_nat' xs 0
@[simp] theorem atI_1 {α : Type} (xs : List α) : atI xs 1 = xs[1]? := atI_nat' xs 1
@[simp] theorem atI_2 {α : Type} (xs : List α) : atI xs 2 = xs[2]? := atI_nat' xs 2
@[simp] theorem atI_3 {α : Type} (xs : List α) : atI xs 3 = xs[3]? := atI_nat' xs 3
theorem atI_pos {α : Type} {xs : List α} {i : Int} (h : 0 ≤ i) : atI xs i = xs[i.toNat]? := by
  have := atI_nat' xs i.toNat
  rwa [Int.toNat_of_nonneg h] at this
@[simp] theorem atI_m1 {α : Type} (xs : List α) (x : α) : atI (xs ++ [x]) (-1) = some x := atI_last xs x
theorem atI_last? {α : Type} (xs : List α) : atI xs (-1) = xs.getLast? := by
  cases h : xs.getLast? with
  | none =>
    rw [List.getLast?_eq_none_iff] at h
    subst h
    rfl
  | some x =>
    rw [List.getLast?_eq_some_iff] at h
    obtain ⟨ys, rfl⟩ := h
    exact atI_last ys x
theorem ixN_nat' (n k : Nat) : ixN n (k : Int) = if k < n then some k else none := by
  unfold ixN
  rw [if_pos (by omega)]
  by_cases h : k < n
  · rw [if_pos (by omega), if_pos h]; simp
  · rw [if_neg (by omega), if_neg h]
@[simp] theorem ixN_0 (n : Nat) : ixN n 0 = if 0 < n then some 0 else none := ixN_nat' n 0
@[simp] theorem ixN_1 (n : Nat) : ixN n 1 = if 1 < n then some 1 else none := ixN_nat' n 1
@[simp] theorem ixN_2 (n : Nat) : ixN n 2 = if 2 < n then some 2 else none := ixN_nat' n 2
theorem i64_lit {i : Int} (h : (decide (-(2 ^ 64) < i) && decide (i < 2 ^ 64)) = true) : i64 i = true := h
/-- a slot that holds no list of its own -/
inductive Shy : M → Prop
  | no : Shy .no
  | sh (d : D) : Shy (.sh d)
theorem shy_free {m : M} (h : Shy m) : freeM (some m) = true := by cases h <;> rfl
theorem rangeL_mem {k : Int} : ∀ {lo : Int} {n : Nat}, k ∈ rangeL lo n → lo ≤ k ∧ k < lo + n
  | lo, 0, h => by simp [rangeL] at h
  | lo, n + 1, h => by
    unfold rangeL at h
    rcases List.mem_cons.mp h with rfl | h
    · omega
    · have := rangeL_mem (lo := lo + 1) h
      omega
theorem rangeD_mem {d : D} {lo hi : Int} (h : d ∈ rangeD lo hi) : ∃ k, d = .int k ∧ lo ≤ k ∧ k < hi := by
  unfold rangeD at h
  obtain ⟨k, hk, rfl⟩ := List.mem_map.mp h
  have := rangeL_mem hk
  exact ⟨k, rfl, by omega, by omega⟩
theorem rangeD_len (lo hi : Int) : (rangeD lo hi).length = (hi - lo).toNat := by
  unfold rangeD
  rw [List.length_map]
  induction (hi - lo).toNat generalizing lo with
  | zero => rfl
  | succ n ih => unfold rangeL; rw [List.length_cons, ih]
/-- a loop that goes through, by a count of its turns -/
theorem turns {S : Nat → En → Prop} {g : MG} {b : MS'} {ok : D → Prop} (L : Nat) (hs : ∀ n ρ d, ok d → S n ρ → n < L → ∃ ρ2, bnd (g d ρ) b = some (.nx, ρ2) ∧ S (n + 1) ρ2) {ds : List D} {n : Nat} {ρ : En} (hd : ∀ d ∈ ds, ok d) (h : S n ρ) (hl : n + ds.length ≤ L) : ∃ ρ', forGo g b ds ρ = some (.nx, ρ') ∧ S (n + ds.length) ρ' := by
  induction ds generalizing n ρ with
  | nil => exact ⟨ρ, rfl, h⟩
  | cons d r ih =>
    rw [List.length_cons] at hl
    obtain ⟨ρ2, e2, h2⟩ := hs n ρ d (hd d List.mem_cons_self) h (by omega)
    obtain ⟨ρ', e, h'⟩ := ih (fun d h => hd d (List.mem_cons_of_mem _ h)) h2 (by omega)
    refine ⟨ρ', ?_, by rw [List.length_cons]; rwa [show n + 1 + r.length = n + (r.length + 1) by omega] at h'⟩
    rw [forGo_cons]
    cases q : g d ρ with
    | none => rw [q] at e2; cases e2
    | some ρ1 =>
      rw [q, bnd_some] at e2
      rw [bnd_some, e2, bnd_some, forO_nx, e]
theorem kit_bool_str : kitB "bool" "str" = some false := by decide +kernel
@[simp] theorem isi_bool_str (b : Bool) : isiD "str" (.bool b) = some false := kit_bool_str
theorem kit_bool_int : kitB "bool" "int" = some true := by decide +kernel
@[simp] theorem isi_bool_int (b : Bool) : isiD "int" (.bool b) = some true := kit_bool_int
theorem kit_bool_bool : kitB "bool" "bool" = some true := by decide +kernel
@[simp] theorem isi_bool_bool (b : Bool) : isiD "bool" (.bool b) = some true := kit_bool_bool
theorem kit_bool_tuple : kitB "bool" "tuple" = some false := by decide +kernel
@[simp] theorem isi_bool_tuple (b : Bool) : isiD "tuple" (.bool b) = some false := kit_bool_tuple
theorem kit_bool_list : kitB "bool" "list" = some false := by decide +kernel
@[simp] theorem isi_bool_list (b : Bool) : isiD "list" (.bool b) = some false := kit_bool_list
theorem kit_int_str : kitB "int" "str" = some false := by decide +kernel
@[simp] theorem isi_int_str (i : Int) : isiD "str" (.int i) = some false := kit_int_str
theorem kit_int_int : kitB "int" "int" = some true := by decide +kernel
@[simp] theorem isi_int_int (i : Int) : isiD "int" (.int i) = some true := kit_int_int
theorem kit_int_bool : kitB "int" "bool" = some false := by decide +kernel
@[simp] theorem isi_int_bool (i : Int) : isiD "bool" (.int i) = some false := kit_int_bool
theorem kit_int_tuple : kitB "int" "tuple" = some false := by decide +kernel
@[simp] theorem isi_int_tuple (i : Int) : isiD "tuple" (.int i) = some false := kit_int_tuple
theorem kit_int_list : kitB "int" "list" = some false := by decide +kernel
@[simp] theorem isi_int_list (i : Int) : isiD "list" (.int i) = some false := kit_int_list
theorem kit_str_str : kitB "str" "str" = some true := by decide +kernel
@[simp] theorem isi_str_str (x : Str) : isiD "str" (.str x) = some true := kit_str_str
theorem kit_str_int : kitB "str" "int" = some false := by decide +kernel
@[simp] theorem isi_str_int (x : Str) : isiD "int" (.str x) = some false := kit_str_int
theorem kit_str_bool : kitB "str" "bool" = some false := by decide +kernel
@[simp] theorem isi_str_bool (x : Str) : isiD "bool" (.str x) = some false := kit_str_bool
theorem kit_str_tuple : kitB "str" "tuple" = some false := by decide +kernel
@[simp] theorem isi_str_tuple (x : Str) : isiD "tuple" (.str x) = some false := kit_str_tuple
theorem kit_str_list : kitB "str" "list" = some false := by decide +kernel
@[simp] theorem isi_str_list (x : Str) : isiD "list" (.str x) = some false := kit_str_list
theorem kit_list_str : kitB "list" "str" = some false := by decide +kernel
@[simp] theorem isi_list_str {ds : List D} (h : plainDs ds = true) : isiD "str" (.list ds) = some false := by
  unfold isiD
  rw [show plainD (.list ds) = plainDs ds from rfl, if_pos h]
  exact kit_list_str
theorem kit_list_int : kitB "list" "int" = some false := by decide +kernel
@[simp] theorem isi_list_int {ds : List D} (h : plainDs ds = true) : isiD "int" (.list ds) = some false := by
  unfold isiD
  rw [show plainD (.list ds) = plainDs ds from rfl, if_pos h]
  exact kit_list_int
theorem kit_list_bool : kitB "list" "bool" = some false := by decide +kernel
@[simp] theorem isi_list_bool {ds : List D} (h : plainDs ds = true) : isiD "bool" (.list ds) = some false := by
  unfold isiD
  rw [show plainD (.list ds) = plainDs ds from rfl, if_pos h]
  exact kit_list_bool
theorem kit_list_tuple : kitB "list" "tuple" = some false := by decide +kernel
@[simp] theorem isi_list_tuple {ds : List D} (h : plainDs ds = true) : isiD "tuple" (.list ds) = some false := by
  unfold isiD
  rw [show plainD (.list ds) = plainDs ds from rfl, if_pos h]
  exact kit_list_tuple
theorem kit_list_list : kitB "list" "list" = some true := by decide +kernel
@[simp] theorem isi_list_list {ds : List D} (h : plainDs ds = true) : isiD "list" (.list ds) = some true := by
  unfold isiD
  rw [show plainD (.list ds) = plainDs ds from rfl, if_pos h]
  exact kit_list_list
theorem kit_tuple_str : kitB "tuple" "str" = some false := by decide +kernel
@[simp] theorem isi_tuple_str {ds : List D} (h : plainDs ds = true) : isiD "str" (.tuple ds) = some false := by
  unfold isiD
  rw [show plainD (.tuple ds) = plainDs ds from rfl, if_pos h]
  exact kit_tuple_str
theorem kit_tuple_int : kitB "tuple" "int" = some false := by decide +kernel
@[simp] theorem isi_tuple_int {ds : List D} (h : plainDs ds = true) : isiD "int" (.tuple ds) = some false := by
  unfold isiD
  rw [show plainD (.tuple ds) = plainDs ds from rfl, if_pos h]
  exact kit_tuple_int
theorem kit_tuple_bool : kitB "tuple" "bool" = some false := by decide +kernel
@[simp] theorem isi_tuple_bool {ds : List D} (h : plainDs ds = true) : isiD "bool" (.tuple ds) = some false := by
  unfold isiD
  rw [show plainD (.tuple ds) = plainDs ds from rfl, if_pos h]
  exact kit_tuple_bool
theorem kit_tuple_tuple : kitB "tuple" "tuple" = some true := by decide +kernel
@[simp] theorem isi_tuple_tuple {ds : List D} (h : plainDs ds = true) : isiD "tuple" (.tuple ds) = some true := by
  unfold isiD
  rw [show plainD (.tuple ds) = plainDs ds from rfl, if_pos h]
  exact kit_tuple_tuple
theorem kit_tuple_list : kitB "tuple" "list" = some false := by decide +kernel
@[simp] theorem isi_tuple_list {ds : List D} (h : plainDs ds = true) : isiD "list" (.tuple ds) = some false := by
  unfold isiD
  rw [show plainD (.tuple ds) = plainDs ds from rfl, if_pos h]
  exact kit_tuple_list
@[simp] theorem isD_b (x y : Bool) : isD (.bool x) (.bool y) = some (x == y) := (rfl)
@[simp] theorem isD_i (x : Int) (y : Bool) : isD (.int x) (.bool y) = some false := (rfl)
@[simp] theorem isD_s (x : Str) (y : Bool) : isD (.str x) (.bool y) = some false := (rfl)
@[simp] theorem isD_l (x : List D) (y : Bool) : isD (.list x) (.bool y) = some false := (rfl)
@[simp] theorem isD_t (x : List D) (y : Bool) : isD (.tuple x) (.bool y) = some false := (rfl)
theorem reprD_i {i : Int} (h : i64 i = true) : reprD (.int i) = some (.sh (.str (toString i))) := by
  show (if i64 i = true then _ else none) = _
  rw [if_pos h]
theorem reprD_s {x : Str} (h : (reprText x).length ≤ lim) : reprD (.str x) = some (.sh (.str (reprText x))) := by
  show (if (reprText x).length ≤ lim then _ else none) = _
  rw [if_pos h]
end Mi
set_option Elab.async false
set_option linter.all false
set_option maxRecDepth 100000
/-! Lib: texts as lists of signs, sizes of repr, data that is compared, the least of data. -/
namespace Mi
open PySem PySem.Spec PyProof.Rows L2
open PySem.W (alike alikeAll dataLt AlikeAll minD maxD dataLt_ii minD_ints)

/-! ### texts as lists of signs -/
/-- the text of signs -/
def sS (l : List Nat) : Str := ⟨l.toArray⟩
theorem sS_of (x : Str) : sS x.cps.toList = x := rfl
@[simp] theorem sS_list (l : List Nat) : (sS l).cps.toList = l := (rfl)
@[simp] theorem sS_len (l : List Nat) : (sS l).length = l.length := by
  show l.toArray.size = _
  simp
@[simp] theorem sS_app (a b : List Nat) : sS a ++ sS b = sS (a ++ b) := by
  show (⟨a.toArray ++ b.toArray⟩ : Str) = ⟨(a ++ b).toArray⟩
  congr 1
  simp
@[simp] theorem sS_cut (l : List Nat) (lo hi : Option Int) : cutS (sS l) lo hi = sS (cutD l lo hi) := by
  unfold cutS cutD
  rw [sS_len, sS_list]
  rfl
theorem sS_inj {a b : List Nat} : sS a = sS b ↔ a = b := by
  constructor
  · intro h
    have := congrArg (fun s : Str => s.cps.toList) h
    simpa using this
  · rintro rfl; rfl
theorem cut_from {α : Type} (xs : List α) {i : Int} (h : 0 ≤ i) : cutD xs (some i) none = xs.drop i.toNat := by
  unfold cutD
  have e : HT.sIx xs.length 0 (some i) = min i.toNat xs.length := by
    show (if i < 0 then _ else min i.toNat xs.length) = _
    rw [if_neg (by omega)]
  rw [e, HT.sIx_none]
  by_cases hl : i.toNat ≤ xs.length
  · rw [Nat.min_eq_left hl, List.take_of_length_le (by rw [List.length_drop]; omega)]
  · rw [Nat.min_eq_right (by omega), List.drop_length, List.drop_eq_nil_of_le (by omega)]
    simp
theorem cut_to {α : Type} (xs : List α) {i : Int} (h : 0 ≤ i) : cutD xs none (some i) = xs.take i.toNat := by
  unfold cutD
  have e : HT.sIx xs.length xs.length (some i) = min i.toNat xs.length := by
    show (if i < 0 then _ else min i.toNat xs.length) = _
    rw [if_neg (by omega)]
  rw [e, HT.sIx_none]
  show (xs.drop 0).take _ = _
  rw [List.drop_zero, Nat.sub_zero]
  by_cases hl : i.toNat ≤ xs.length
  · rw [Nat.min_eq_left hl]
  · rw [Nat.min_eq_right (by omega), List.take_length, List.take_of_length_le (by omega)]
theorem cut_both {α : Type} (xs : List α) {i j : Int} (h : 0 ≤ i) (hj : 0 ≤ j) : cutD xs (some i) (some j) = (xs.take j.toNat).drop i.toNat := by
  unfold cutD
  have e : ∀ (d : Nat) (i : Int), 0 ≤ i → HT.sIx xs.length d (some i) = min i.toNat xs.length := fun d i h => by
    show (if i < 0 then _ else min i.toNat xs.length) = _
    rw [if_neg (by omega)]
  rw [e 0 i h, e _ j hj]
  apply List.ext_getElem?
  intro k
  rw [List.getElem?_take, List.getElem?_drop, List.getElem?_drop, List.getElem?_take]
  by_cases h1 : k < min j.toNat xs.length - min i.toNat xs.length
  · rw [if_pos h1, if_pos (by omega)]
    congr 1
    omega
  · rw [if_neg h1]
    by_cases h2 : i.toNat + k < j.toNat
    · rw [if_pos h2, List.getElem?_eq_none (by omega)]
    · rw [if_neg h2]
@[simp] theorem cut_all {α : Type} (xs : List α) : cutD xs none none = xs := by
  unfold cutD
  rw [HT.sIx_none, HT.sIx_none]
  simp
theorem sS_join (ls : List (List Nat)) : Txt.join (sS []) (ls.map sS) = sS ls.flatten := by
  rw [show Txt.join (sS []) (ls.map sS) = Str.join (sS []) (ls.map sS) from _root_.TL.join_eq _ _]
  induction ls with
  | nil => rfl
  | cons a r ih =>
    cases r with
    | nil => show sS a = sS [a].flatten; simp
    | cons b r =>
      show sS a ++ sS [] ++ Str.join (sS []) ((b :: r).map sS) = _
      rw [ih, sS_app, sS_app]
      simp
theorem join_empty : Str.ofString "" = sS [] := by decide +kernel

/-! ### the size of a text's repr -/
theorem digits_len (n : Nat) : ∀ k, n < 16 ^ (k + 1) → (Nat.toDigits 16 n).length ≤ k + 1 := fun k h => by
  exact (Nat.length_toDigits_le_iff (by decide) (by omega)).mpr h
theorem reprChar_len (q c : Nat) (h : c < 1114112) : (Builtin.Str.reprChar q c).length ≤ 10 := by
  unfold Builtin.Str.reprChar
  have d := digits_len c 7 (by omega)
  (repeat' split) <;> simp only [List.length_append, List.length_cons, List.length_nil, List.length_replicate, List.length_map] <;> omega
theorem repr_fold (q : Nat) : ∀ (l : List Nat) (acc : Array Nat), (∀ c ∈ l, c < 1114112) → (l.foldl (fun out c => out ++ (Builtin.Str.reprChar q c).toArray) acc).size ≤ acc.size + 10 * l.length
  | [], acc, _ => by simp
  | c :: r, acc, h => by
    have ih := repr_fold q r (acc ++ (Builtin.Str.reprChar q c).toArray) fun x hx => h x (List.mem_cons_of_mem _ hx)
    have hc := reprChar_len q c (h c List.mem_cons_self)
    rw [List.foldl_cons, List.length_cons]
    have e : (acc ++ (Builtin.Str.reprChar q c).toArray).size = acc.size + (Builtin.Str.reprChar q c).length := by simp
    rw [e] at ih
    omega
theorem repr_len (l : List Nat) (h : ∀ c ∈ l, c < 1114112) : (reprText (sS l)).length ≤ 2 + 10 * l.length := by
  unfold reprText
  show (Array.push _ _).size ≤ _
  rw [Array.size_push]
  have e : (sS l).cps.foldl (fun out c => out ++ (Builtin.Str.reprChar (reprQuote (sS l)) c).toArray) #[reprQuote (sS l)] = l.foldl (fun out c => out ++ (Builtin.Str.reprChar (reprQuote (sS l)) c).toArray) #[reprQuote (sS l)] := by
    rw [← Array.foldl_toList]
    rfl
  rw [e]
  have := repr_fold (reprQuote (sS l)) l #[reprQuote (sS l)] h
  have : (#[reprQuote (sS l)] : Array Nat).size = 1 := rfl
  omega

/-! ### data that is compared -/
theorem depth_le {k : Nat} : ∀ {ds : List D}, (∀ d ∈ ds, d.depth ≤ k) → PyData.depthAll ds ≤ k
  | [], _ => Nat.zero_le _
  | d :: ds, h => Nat.max_le.mpr ⟨h d List.mem_cons_self, depth_le fun x hx => h x (List.mem_cons_of_mem _ hx)⟩
theorem canLay_all : ∀ {ds : List D}, (∀ d ∈ ds, d.canLay0 = true) → PyData.canLayAll0 ds = true
  | [], _ => rfl
  | d :: ds, h => Bool.and_eq_true_iff.mpr ⟨h d List.mem_cons_self, canLay_all fun x hx => h x (List.mem_cons_of_mem _ hx)⟩
theorem plain_all : ∀ {ds : List D}, (∀ d ∈ ds, plainD d = true) → plainDs ds = true
  | [], _ => rfl
  | d :: ds, h => Bool.and_eq_true_iff.mpr ⟨h d List.mem_cons_self, plain_all fun x hx => h x (List.mem_cons_of_mem _ hx)⟩
theorem shaped_of {d : D} (h : d.canLay0 = true) (k : d.depth ≤ 64) : SeqAt.shaped d = true := Bool.and_eq_true_iff.mpr ⟨h, decide_eq_true k⟩
theorem shaped_ints (ns : List Int) : SeqAt.shaped (.list (ns.map .int)) = true :=
  shaped_of (canLay_all fun d hd => by obtain ⟨i, _, rfl⟩ := List.mem_map.mp hd; rfl) (by
    have : PyData.depthAll (ns.map PyData.int) ≤ 0 := depth_le (k := 0) fun d hd => by
      obtain ⟨i, _, rfl⟩ := List.mem_map.mp hd
      exact Nat.zero_le _
    show PyData.depthAll (ns.map PyData.int) + 1 ≤ 64
    omega)
theorem eqD_self {d : D} (h : SeqAt.shaped d = true) : eqD d d = some true := by
  unfold eqD
  split
  · simp_all
  · simp_all
  · rename_i h1 h2
    rw [if_pos ⟨h, h⟩, PySem.SeqAt.eqv_refl d (SeqAt.canLay_of_shaped h)]
theorem neD_self {d : D} (h : SeqAt.shaped d = true) : neD d d = some false := by
  unfold neD
  rw [eqD_self h]
  rfl
theorem plain_ints (ns : List Int) : plainDs (ns.map .int) = true := plain_all fun d hd => by
  obtain ⟨i, _, rfl⟩ := List.mem_map.mp hd
  rfl
/-- what may be compared for the least -/
theorem bestOk_of {ds : List D} (h1 : ∀ d ∈ ds, plainD d = true) (h2 : ∀ d ∈ ds, ∀ e ∈ ds, alike d e = true) (h3 : ∀ d ∈ ds, noneD d = false) (h4 : ∀ d ∈ ds, d.depth ≤ 60) : bestOk ds = true := by
  unfold bestOk alikeB
  rw [plain_all h1, decide_eq_true (depth_le h4)]
  have a : (ds.all fun x => ds.all fun y => alike x y) = true := List.all_eq_true.mpr fun x hx => List.all_eq_true.mpr fun y hy => h2 x hx y hy
  have b : (ds.all fun x => !noneD x) = true := List.all_eq_true.mpr fun x hx => by rw [h3 x hx]; rfl
  rw [a, b]
  rfl
theorem best_ints (ns : List Int) : bestOk (ns.map .int) = true := by
  have h : ∀ d ∈ ns.map PyData.int, ∃ i, d = .int i := fun d hd => by
    obtain ⟨i, _, rfl⟩ := List.mem_map.mp hd
    exact ⟨i, rfl⟩
  refine bestOk_of (fun d hd => ?_) (fun d hd e he => ?_) (fun d hd => ?_) (fun d hd => ?_)
  · obtain ⟨i, rfl⟩ := h d hd; rfl
  · obtain ⟨i, rfl⟩ := h d hd; obtain ⟨j, rfl⟩ := h e he; rfl
  · obtain ⟨i, rfl⟩ := h d hd; rfl
  · obtain ⟨i, rfl⟩ := h d hd; exact Nat.zero_le _
def pairD (p : Int × Int) : D := .tuple [.int p.1, .int p.2]
theorem best_pairs (ps : List (Int × Int)) : bestOk (ps.map pairD) = true := by
  have h : ∀ d ∈ ps.map pairD, ∃ i, d = pairD i := fun d hd => by
    obtain ⟨i, _, rfl⟩ := List.mem_map.mp hd
    exact ⟨i, rfl⟩
  refine bestOk_of (fun d hd => ?_) (fun d hd e he => ?_) (fun d hd => ?_) (fun d hd => ?_)
  · obtain ⟨i, rfl⟩ := h d hd; rfl
  · obtain ⟨i, rfl⟩ := h d hd; obtain ⟨j, rfl⟩ := h e he; rfl
  · obtain ⟨i, rfl⟩ := h d hd; rfl
  · obtain ⟨i, rfl⟩ := h d hd; exact (by decide : 1 ≤ 60)
theorem minLD_ints (n : Int) (ns : List Int) : minLD (.list (.int n :: ns.map .int)) = some (.sh (.int (ns.foldl min n))) := by
  show (if bestOk (.int n :: ns.map .int) = true then some (R.sh (minD (.int n) (ns.map .int))) else none) = _
  rw [if_pos (show bestOk (.int n :: ns.map .int) = true from best_ints (n :: ns)), minD_ints]
def ltP (p q : Int × Int) : Bool := decide (p.1 < q.1 ∨ (p.1 = q.1 ∧ p.2 < q.2))
def minP (p : Int × Int) (ps : List (Int × Int)) : Int × Int := ps.foldl (fun a y => if ltP y a then y else a) p
theorem minD_pairs (p : Int × Int) (ps : List (Int × Int)) : minD (pairD p) (ps.map pairD) = pairD (minP p ps) := by
  unfold minD minP
  induction ps generalizing p with
  | nil => rfl
  | cons q r ih =>
    rw [List.map_cons, List.foldl_cons, List.foldl_cons, ← ih]
    congr 1
    have e : dataLt (pairD q) (pairD p) = ltP q p := dataLt_ii q.1 q.2 p.1 p.2
    rw [e]
    split <;> rfl
theorem minLD_pairs (p : Int × Int) (ps : List (Int × Int)) : minLD (.list (pairD p :: ps.map pairD)) = some (.sh (pairD (minP p ps))) := by
  show (if bestOk (pairD p :: ps.map pairD) = true then some (R.sh (minD (pairD p) (ps.map pairD))) else none) = _
  rw [if_pos (show bestOk (pairD p :: ps.map pairD) = true from best_pairs (p :: ps)), minD_pairs]
end Mi
/-! each def by a plain function of its slots (printed by gen.py) -/
namespace Law
open PySem PySem.Spec PyProof.Rows L2 Mi
set_option maxRecDepth 100000
def l_keyed_1 : MR := (mIf (mCmp ltD (mVar 2) (mBin mulD (mC (.int 2)) (mVar 1))) (mC (.str (Str.ofString "."))) (mC (.str (Str.ofString "-"))))
-- keyed: slots 0 times 1 unit 2 time
def m_keyed : MS' := (sSeq (sRet (mM1 joinD (mC (.str (Str.ofString ""))) (mLc (mIter (mVar 0)) (gNm 2) mYes l_keyed_1 [2])))
  sNil)
def phi_keyed : List D → Option R := runN 3 2 m_keyed
def l_best_unit_1 : MR := (mBin min2D (mUn absD (mBin subD (mVar 4) (mVar 3))) (mUn absD (mBin subD (mVar 4) (mBin mulD (mC (.int 3)) (mVar 3)))))
def l_best_unit_2 : MR := (mUn sumD (mLc (mIter (mVar 0)) (gNm 4) mYes l_best_unit_1 [4]))
-- best_unit: slots 0 times 1 most 2 sums 3 unit 4 time
def m_best_unit : MS' := (sSeq (sSet 2 (mLc (mRange2 (aCons (mC (.int 1)) (aCons (mBin addD (mVar 1) (mC (.int 1))) aNil))) (gNm 3) mYes l_best_unit_2 [3]))
  (sSeq (sRet (mBin addD (mC (.int 1)) (mIndex (mVar 2) (mUn minLD (mVar 2)))))
  sNil))
def phi_best_unit : List D → Option R := runN 5 2 m_best_unit
def b_relayed_1 : MS' := (sSeq (sSet 3 (mIf (mCmp gtD (mUn lenD (mVar 0)) (mC (.int 0))) (mBin modD (mVar 2) (mUn lenD (mVar 0))) (mC (.int 0))))
  (sSeq (sSet 0 (mBin addD (mSl (mVar 0) (pSome (mBin subD (mUn lenD (mVar 0)) (mVar 3))) pNone) (mSl (mVar 0) pNone (pSome (mBin subD (mUn lenD (mVar 0)) (mVar 3))))))
  sNil))
-- relayed: slots 0 message 1 stations 2 many 3 cut
def m_relayed : MS' := (sSeq (sFor (mIter (mVar 1)) (gNm 2) b_relayed_1)
  (sSeq (sRet (mVar 0))
  sNil))
def phi_relayed : List D → Option R := runN 4 2 m_relayed
-- relay_back: slots 0 message 1 stations 2 many
def m_relay_back : MS' := (sSeq (sSet 2 (mIf (mCmp gtD (mUn lenD (mVar 0)) (mC (.int 0))) (mBin modD (mUn sumD (mVar 1)) (mUn lenD (mVar 0))) (mC (.int 0))))
  (sSeq (sRet (mBin addD (mSl (mVar 0) (pSome (mVar 2)) pNone) (mSl (mVar 0) pNone (pSome (mVar 2)))))
  sNil))
def phi_relay_back : List D → Option R := runN 3 2 m_relay_back
-- _law_cell: slots 0 script 1 k
def m_law_cell : MS' := (sSeq (sIf (mCmp ltD (mVar 1) (mUn lenD (mVar 0)))
  (sSeq (sRet (mBin ixD (mVar 0) (mVar 1)))
  sNil)
  sNil)
  (sSeq (sRet (mC (.int 0)))
  sNil))
def phi_law_cell : List D → Option R := runN 2 2 m_law_cell
def b_law_digits_1 : MS' := (sSeq (sIf (mCmp gtD (mVar 5) (mC (.int 0)))
  (sSeq (sExpr (mAppend 3 (mBin modD (mUn intD (mVar 5)) (mC (.int 1000)))))
  (sSeq (sSet 5 (mBin divD (mVar 5) (mC (.int 1000))))
  sNil))
  sNil)
  sNil)
def b_law_digits_2 : MS' := (sSeq (sSet 7 (mBin modD (mUn intD (mBin addD (mBin addD (mBin mulD (mVar 7) (mC (.int 16807))) (mBin mulD (mC (.int 7)) (mVar 6))) (mC (.int 1)))) (mC (.int 2147483647))))
  (sSeq (sExpr (mAppend 3 (mBin modD (mUn intD (mBin divD (mVar 7) (mC (.int 997)))) (mC (.int 1000)))))
  sNil))
def b_law_digits_3 : MS' := (sSeq (sSet 5 (mCall phi_law_cell (aCons (mVar 0) (aCons (mVar 4) aNil))))
  (sSeq (sIf (mCmp ltD (mVar 5) (mC (.int 0)))
  (sSeq (sSet 5 (mBin subD (mC (.int 1)) (mBin mulD (mC (.int 2)) (mVar 5))))
  sNil)
  sNil)
  (sSeq (sIf (mCmp geD (mVar 5) (mBin powD (mC (.int 10)) (mC (.int 18))))
  (sSeq (sFor (mRange1 (aCons (mC (.int 60)) aNil)) (gNm 6) b_law_digits_1)
  sNil)
  (sSeq (sSet 7 (mBin modD (mUn intD (mBin addD (mBin addD (mBin mulD (mVar 5) (mC (.int 48271))) (mBin mulD (mVar 4) (mC (.int 69621)))) (mC (.int 11)))) (mC (.int 2147483647))))
  (sSeq (sFor (mRange1 (aCons (mC (.int 12)) aNil)) (gNm 6) b_law_digits_2)
  sNil)))
  sNil)))
-- _law_digits: slots 0 script 1 first 2 last 3 digits 4 k 5 cell 6 turn 7 seed
def m_law_digits : MS' := (sSeq (sSet 3 (mLst aNil))
  (sSeq (sFor (mRange2 (aCons (mVar 1) (aCons (mVar 2) aNil))) (gNm 4) b_law_digits_3)
  (sSeq (sRet (mVar 3))
  sNil)))
def phi_law_digits : List D → Option R := runN 8 3 m_law_digits
-- _law_draw: slots 0 box 1 many
def m_law_draw : MS' := (sSeq (sPut 0 (mC (.int 1)) (mBin addD (mBin ixD (mVar 0) (mC (.int 1))) (mC (.int 1))))
  (sSeq (sIf (mCmp gtD (mBin ixD (mVar 0) (mC (.int 1))) (mUn lenD (mBin ixD (mVar 0) (mC (.int 0)))))
  (sSeq (sRet (mBin modD (mUn intD (mBin addD (mBin mulD (mBin ixD (mVar 0) (mC (.int 1))) (mC (.int 7))) (mC (.int 3)))) (mVar 1)))
  sNil)
  sNil)
  (sSeq (sRet (mBin modD (mUn intD (mBin ixD (mBin ixD (mVar 0) (mC (.int 0))) (mBin subD (mBin ixD (mVar 0) (mC (.int 1))) (mC (.int 1))))) (mVar 1)))
  sNil)))
def phi_law_draw : List D → List D → Option (R × List D) := runIO 2 2 m_law_draw
-- _law_pick: slots 0 box 1 row
def m_law_pick : MS' := (sSeq (sRet (mBin ixD (mVar 1) (mBin modD (mUn intD (mCallIO phi_law_draw 0 (aCons (mC (.int 1000)) aNil))) (mUn lenD (mVar 1)))))
  sNil)
def phi_law_pick : List D → List D → Option (R × List D) := runIO 2 2 m_law_pick
def b_law_same_1 (φ : List D → Option R) : MS' := (sSeq (sIf (mNot (mTest (mCall φ (aCons (mBin ixD (mVar 0) (mVar 2)) (aCons (mBin ixD (mVar 1) (mVar 2)) aNil)))))
  (sSeq (sRet (mC (.bool false)))
  sNil)
  sNil)
  sNil)
-- _law_same: slots 0 told 1 due 2 k
def m_law_same (φ : List D → Option R) : MS' := (sSeq (sIf (mCmp isD (mVar 1) (mC .none))
  (sSeq (sRet (mBV (mCmp isD (mVar 0) (mC .none))))
  sNil)
  sNil)
  (sSeq (sIf (mCmp isD (mVar 1) (mC (.bool true)))
  (sSeq (sRet (mBV (mCmp isD (mVar 0) (mC (.bool true)))))
  sNil)
  sNil)
  (sSeq (sIf (mCmp isD (mVar 1) (mC (.bool false)))
  (sSeq (sRet (mBV (mCmp isD (mVar 0) (mC (.bool false)))))
  sNil)
  sNil)
  (sSeq (sIf (mTest (mIsi "str" (mVar 1)))
  (sSeq (sRet (mAndV (mIsi "str" (mVar 0)) (mBV (mCmp eqD (mUn reprD (mVar 0)) (mUn reprD (mVar 1))))))
  sNil)
  sNil)
  (sSeq (sIf (mTest (mIsi "int" (mVar 1)))
  (sSeq (sRet (mAndV (mIsi "int" (mVar 0)) (mAndV (mNotV (mIsi "bool" (mVar 0))) (mBV (mCmp eqD (mUn reprD (mVar 0)) (mUn reprD (mVar 1)))))))
  sNil)
  sNil)
  (sSeq (sIf (mOr (mAnd (mTest (mIsi "tuple" (mVar 1))) (mNot (mTest (mIsi "tuple" (mVar 0))))) (mAnd (mTest (mIsi "list" (mVar 1))) (mNot (mTest (mIsi "list" (mVar 0))))))
  (sSeq (sRet (mC (.bool false)))
  sNil)
  sNil)
  (sSeq (sIf (mCmp neD (mUn lenD (mVar 0)) (mUn lenD (mVar 1)))
  (sSeq (sRet (mC (.bool false)))
  sNil)
  sNil)
  (sSeq (sFor (mRange1 (aCons (mUn lenD (mVar 1)) aNil)) (gNm 2) (b_law_same_1 φ))
  (sSeq (sRet (mC (.bool true)))
  sNil)))))))))
def phi_law_same : Nat → List D → Option R
  | 0, _ => none
  | n + 1, ds => runN 3 2 (m_law_same (phi_law_same n)) ds
-- _law_far: slots 0 length 1 unit
def m_law_far : MS' := (sSeq (sRet (mBin min2D (mUn absD (mBin subD (mVar 0) (mVar 1))) (mUn absD (mBin subD (mVar 0) (mBin mulD (mC (.int 3)) (mVar 1))))))
  sNil)
def phi_law_far : List D → Option R := runN 2 2 m_law_far
def b_law_lengths_1 : MS' := (sSeq (sSet 5 (mBin addD (mC (.int 1)) (mCallIO phi_law_draw 0 (aCons (mC (.int 200)) aNil))))
  (sSeq (sIf (mCmp gtD (mVar 2) (mC (.int 0)))
  (sSeq (sSet 5 (mBin addD (mBin mulD (mVar 1) (mCallIO phi_law_pick 0 (aCons (mLst (aCons (mC (.int 1)) (aCons (mC (.int 3)) aNil))) aNil))) (mIf (mCmp eqD (mVar 2) (mC (.int 2))) (mBin subD (mCallIO phi_law_draw 0 (aCons (mC (.int 5)) aNil)) (mC (.int 2))) (mC (.int 0)))))
  sNil)
  sNil)
  (sSeq (sExpr (mAppend 3 (mBin max2D (mC (.int 1)) (mVar 5))))
  sNil)))
-- _law_lengths: slots 0 box 1 unit 2 kind 3 found 4 k 5 length
def m_law_lengths : MS' := (sSeq (sSet 1 (mBin addD (mC (.int 1)) (mCallIO phi_law_draw 0 (aCons (mC (.int 40)) aNil))))
  (sSeq (sSet 2 (mCallIO phi_law_draw 0 (aCons (mC (.int 3)) aNil)))
  (sSeq (sSet 3 (mLst aNil))
  (sSeq (sFor (mRange1 (aCons (mCallIO phi_law_draw 0 (aCons (mC (.int 12)) aNil)) aNil)) (gNm 4) b_law_lengths_1)
  (sSeq (sRet (mTup (aCons (mVar 1) (aCons (mVar 3) aNil))))
  sNil)))))
def phi_law_lengths : List D → List D → Option (R × List D) := runIO 6 1 m_law_lengths
def b_law_passed_1 : MS' := (sSeq (sSet 5 (mBin addD (mSl (mVar 3) (pSome (mBin subD (mUn lenD (mVar 3)) (mC (.int 1)))) pNone) (mVar 5)))
  (sSeq (sSet 3 (mSl (mVar 3) pNone (pSome (mBin subD (mUn lenD (mVar 3)) (mC (.int 1))))))
  sNil))
def b_law_passed_2 : MS' := (sSeq (sSet 5 (mC (.str (Str.ofString ""))))
  (sSeq (sIf (mCmp gtD (mUn lenD (mVar 1)) (mC (.int 0)))
  (sSeq (sFor (mRange1 (aCons (mBin modD (mUn intD (mVar 4)) (mUn lenD (mVar 1))) aNil)) (gNm 6) b_law_passed_1)
  sNil)
  sNil)
  (sSeq (sSet 3 (mBin addD (mVar 5) (mVar 3)))
  sNil)))
def l_law_passed_1 : MR := (mBin modD (mUn intD (mVar 4)) (mBin max2D (mC (.int 1)) (mUn lenD (mVar 1))))
def l_law_passed_2 : MR := (mCallIO phi_law_pick 0 (aCons (mLst (aCons (mCallIO phi_law_draw 0 (aCons (mC (.int 15)) aNil)) (aCons (mC (.int 0)) (aCons (mC (.int 1)) (aCons (mUn lenD (mVar 1)) (aCons (mBin addD (mUn lenD (mVar 1)) (mCallIO phi_law_draw 0 (aCons (mC (.int 30)) aNil))) (aCons (mC (.int 997)) aNil))))))) aNil))
-- _law_passed: slots 0 box 1 message 2 stations 3 now 4 many 5 taken 6 k 7 handed
def m_law_passed : MS' := (sSeq (sSet 2 (mLc (mRange1 (aCons (mCallIO phi_law_draw 0 (aCons (mC (.int 9)) aNil)) aNil)) (gNm 6) mYes l_law_passed_2 [6]))
  (sSeq (sIf (mCmp eqD (mCallIO phi_law_draw 0 (aCons (mC (.int 2)) aNil)) (mC (.int 0)))
  (sSeq (sSet 2 (mLc (mIter (mVar 2)) (gNm 4) mYes l_law_passed_1 [4]))
  sNil)
  sNil)
  (sSeq (sSet 3 (mVar 1))
  (sSeq (sFor (mIter (mVar 2)) (gNm 4) b_law_passed_2)
  (sSeq (sSet 7 (mUn listD (mVar 2)))
  (sSeq (sIf (mOr (mNot (mTest (mCall (phi_law_same 12) (aCons (mCall phi_relayed (aCons (mVar 1) (aCons (mVar 7) aNil))) (aCons (mVar 3) aNil))))) (mCmp neD (mVar 7) (mVar 2)))
  (sSeq (sRet (mC (.bool false)))
  sNil)
  sNil)
  (sSeq (sRet (mAndV (mCall (phi_law_same 12) (aCons (mCall phi_relay_back (aCons (mVar 3) (aCons (mVar 7) aNil))) (aCons (mVar 1) aNil))) (mAndV (mCall (phi_law_same 12) (aCons (mCall phi_relayed (aCons (mVar 1) (aCons (mLst aNil) aNil))) (aCons (mVar 1) aNil))) (mBV (mCmp eqD (mVar 7) (mVar 2))))))
  sNil)))))))
def phi_law_passed : List D → List D → Option (R × List D) := runIO 8 2 m_law_passed
def l_law_1 : MR := (mCallIO phi_law_pick 1 (aCons (mC (.str (Str.ofString ".-"))) aNil))
def l_law_2 : MR := (mCall phi_law_far (aCons (mVar 11) (aCons (mVar 6) aNil)))
def l_law_3 : MR := (mTup (aCons (mUn sumD (mLc (mIter (mVar 4)) (gNm 11) mYes l_law_2 [11])) (aCons (mVar 6) aNil)))
def l_law_4 : MR := (mIf (mCmp ltD (mBin subD (mVar 11) (mVar 6)) (mVar 6)) (mC (.str (Str.ofString "."))) (mC (.str (Str.ofString "-"))))
def b_law_1 : MS' := (sSeq (sSet 7 (mM1 joinD (mC (.str (Str.ofString ""))) (mLc (mIter (mVar 4)) (gNm 11) mYes l_law_4 [11])))
  (sSeq (sIf (mOr (mNot (mTest (mCall (phi_law_same 12) (aCons (mCall phi_keyed (aCons (mVar 5) (aCons (mVar 6) aNil))) (aCons (mVar 7) aNil))))) (mCmp neD (mVar 5) (mVar 4)))
  (sSeq (sRet (mC (.bool false)))
  sNil)
  sNil)
  sNil))
def b_law_2 : MS' := (sSeq (sAsg (gTp 2 (gCons' (gNm 3) (gCons' (gNm 4) gNil'))) (mCallIO phi_law_lengths 1 aNil))
  (sSeq (sSet 5 (mUn listD (mVar 4)))
  (sSeq (sFor (mIter (mLst (aCons (mVar 3) (aCons (mBin addD (mC (.int 1)) (mCallIO phi_law_draw 1 (aCons (mC (.int 60)) aNil))) (aCons (mBin addD (mC (.int 1)) (mCallIO phi_law_draw 1 (aCons (mC (.int 9)) aNil))) aNil))))) (gNm 6) b_law_1)
  (sSeq (sSet 8 (mCallIO phi_law_pick 1 (aCons (mLst (aCons (mVar 3) (aCons (mBin addD (mVar 3) (mC (.int 3))) (aCons (mBin addD (mC (.int 1)) (mCallIO phi_law_draw 1 (aCons (mC (.int 40)) aNil))) (aCons (mC (.int 40)) aNil))))) aNil)))
  (sSeq (sSet 9 (mLc (mRange2 (aCons (mC (.int 1)) (aCons (mBin addD (mVar 8) (mC (.int 1))) aNil))) (gNm 6) mYes l_law_3 [6]))
  (sSeq (sIf (mOr (mNot (mTest (mCall (phi_law_same 12) (aCons (mCall phi_best_unit (aCons (mVar 5) (aCons (mVar 8) aNil))) (aCons (mBin ixD (mUn minLD (mVar 9)) (mC (.int 1))) aNil))))) (mCmp neD (mVar 5) (mVar 4)))
  (sSeq (sRet (mC (.bool false)))
  sNil)
  sNil)
  (sSeq (sSet 10 (mM1 joinD (mC (.str (Str.ofString ""))) (mLc (mRange1 (aCons (mCallIO phi_law_pick 1 (aCons (mLst (aCons (mC (.int 14)) (aCons (mC (.int 9)) (aCons (mC (.int 5)) (aCons (mC (.int 2)) (aCons (mC (.int 1)) (aCons (mC (.int 0)) aNil))))))) aNil)) aNil)) (gNm 12) mYes l_law_1 [12])))
  (sSeq (sIf (mNot (mTest (mCallIO phi_law_passed 1 (aCons (mVar 10) aNil))))
  (sSeq (sRet (mC (.bool false)))
  sNil)
  sNil)
  sNil))))))))
-- law: slots 0 script 1 box 2 turn 3 unit 4 lengths 5 handed 6 near 7 due 8 most 9 sums 10 message 11 length 12 k
def m_law : MS' := (sSeq (sSet 1 (mLst (aCons (mCall phi_law_digits (aCons (mVar 0) (aCons (mC (.int 0)) (aCons (mC (.int 16)) aNil)))) (aCons (mC (.int 0)) aNil))))
  (sSeq (sFor (mRange1 (aCons (mC (.int 3)) aNil)) (gNm 2) b_law_2)
  (sSeq (sIf (mOr (mNot (mTest (mCall (phi_law_same 12) (aCons (mCall phi_keyed (aCons (mLst (aCons (mC (.int 3)) (aCons (mC (.int 4)) (aCons (mC (.int 5)) (aCons (mC (.int 12)) aNil))))) (aCons (mC (.int 2)) aNil))) (aCons (mC (.str (Str.ofString ".---"))) aNil))))) (mOr (mNot (mTest (mCall (phi_law_same 12) (aCons (mCall phi_best_unit (aCons (mLst aNil) (aCons (mC (.int 7)) aNil))) (aCons (mC (.int 1)) aNil))))) (mNot (mTest (mCall (phi_law_same 12) (aCons (mCall phi_best_unit (aCons (mLst (aCons (mC (.int 4)) (aCons (mC (.int 12)) aNil))) (aCons (mC (.int 20)) aNil))) (aCons (mC (.int 4)) aNil)))))))
  (sSeq (sRet (mC (.bool false)))
  sNil)
  sNil)
  (sSeq (sRet (mAndV (mCall (phi_law_same 12) (aCons (mCall phi_relayed (aCons (mC (.str (Str.ofString "..-"))) (aCons (mLst (aCons (mC (.int 1)) aNil)) aNil))) (aCons (mC (.str (Str.ofString "-.."))) aNil))) (mAndV (mCall (phi_law_same 12) (aCons (mCall phi_relay_back (aCons (mC (.str (Str.ofString "-.."))) (aCons (mLst (aCons (mC (.int 1)) aNil)) aNil))) (aCons (mC (.str (Str.ofString "..-"))) aNil))) (mCall (phi_law_same 12) (aCons (mCall phi_relayed (aCons (mC (.str (Str.ofString ""))) (aCons (mLst (aCons (mC (.int 3)) (aCons (mC (.int 4)) aNil))) aNil))) (aCons (mC (.str (Str.ofString ""))) aNil))))))
  sNil))))
def phi_law : List D → Option R := runN 13 1 m_law
end Law
/-! what the law's own helpers give: cells, digits, draws, picks -/
namespace Law
open PySem PySem.Spec PyProof.Rows L2 Mi
set_option maxRecDepth 100000
set_option maxHeartbeats 1000000
def BoxOk (ws : List D) : Prop := ∃ (ds : List Int) (k : Int), ws = [.list (ds.map .int), .int k] ∧ 0 ≤ k
theorem draw_ok {ws : List D} {many : Int} (b : BoxOk ws) (h : 0 < many) : ∃ r ws', phi_law_draw ws [.int many] = some (.sh (.int r), ws') ∧ BoxOk ws' ∧ 0 ≤ r ∧ r < many := by
  obtain ⟨ds, k, rfl, hk⟩ := b
  unfold phi_law_draw
  rw [runIO_eq (by rfl)]
  unfold m_law_draw
  simp [h]
  by_cases hl : (ds.length : Int) < k + 1
  · simp [hl, i64]
    exact ⟨_, _, ⟨rfl, rfl⟩, ⟨ds, k + 1, rfl, by omega⟩, Int.emod_nonneg _ (by omega), Int.emod_lt_of_pos _ h⟩
  · have hkl : k.toNat < ds.length := by omega
    simp [hl, atI_pos hk, hkl, h]
    exact ⟨_, _, ⟨rfl, rfl⟩, ⟨ds, k + 1, rfl, by omega⟩, Int.emod_nonneg _ (by omega), Int.emod_lt_of_pos _ h⟩
theorem mem_atI {α : Type} {xs : List α} {i : Int} (h0 : 0 ≤ i) (h : i < xs.length) : ∃ x, atI xs i = some x ∧ x ∈ xs := by
  rw [atI_pos h0]
  have hl : i.toNat < xs.length := by omega
  exact ⟨xs[i.toNat], List.getElem?_eq_getElem hl, List.getElem_mem hl⟩
theorem pick_ok {ws row : List D} (b : BoxOk ws) (h : row ≠ []) : ∃ d ws', phi_law_pick ws [.list row] = some (.sh d, ws') ∧ BoxOk ws' ∧ d ∈ row := by
  obtain ⟨r, ws1, e1, b1, h0, h1⟩ := draw_ok (many := 1000) b (by decide)
  have hl : 0 < (row.length : Int) := by
    cases row with
    | nil => exact absurd rfl h
    | cons x r => rw [List.length_cons]; omega
  obtain ⟨x, e2, m2⟩ := mem_atI (Int.emod_nonneg r (by omega)) (Int.emod_lt_of_pos r hl)
  unfold phi_law_pick
  rw [runIO_eq (by rfl)]
  unfold m_law_pick
  have hn : 0 < row.length := by omega
  simp [e1, hn, e2]
  exact ⟨_, _, ⟨rfl, rfl⟩, b1, m2⟩
theorem picks_ok {ws : List D} {z : Str} (b : BoxOk ws) (h : z.cps.toList ≠ []) (hz : z.length ≤ lim) : ∃ c ws', phi_law_pick ws [.str z] = some (.sh (.str ⟨#[c]⟩), ws') ∧ BoxOk ws' ∧ c ∈ z.cps.toList := by
  obtain ⟨r, ws1, e1, b1, h0, h1⟩ := draw_ok (many := 1000) b (by decide)
  have hzl : z.length = z.cps.toList.length := Array.length_toList.symm
  have hl : 0 < (z.length : Int) := by
    rw [hzl]
    cases q : z.cps.toList with
    | nil => exact absurd q h
    | cons x r => rw [List.length_cons]; omega
  obtain ⟨x, e2, m2⟩ := mem_atI (xs := z.cps.toList) (i := r % (z.length : Int)) (Int.emod_nonneg r (by omega)) (by rw [← hzl]; exact Int.emod_lt_of_pos r hl)
  unfold phi_law_pick
  rw [runIO_eq (by rfl)]
  unfold m_law_pick
  have hn : 0 < z.length := by omega
  simp [e1, hn, hz, e2]
  exact ⟨_, _, ⟨rfl, rfl⟩, b1, by simpa using m2⟩
theorem cell_ok (ns : List Int) {k : Int} (hk : 0 ≤ k) : ∃ z, phi_law_cell [frzD (ns.map .int), .int k] = some (.sh (.int z)) := by
  unfold phi_law_cell
  rw [runN_eq (by rfl)]
  unfold m_law_cell
  by_cases hl : k < ns.length
  · have hkl : k.toNat < ns.length := by omega
    simp [hl, atI_pos hk, hkl]
  · simp [hl]
end Law
/-! the digits -/
namespace Law
open PySem PySem.Spec PyProof.Rows L2 Mi
set_option maxRecDepth 100000
set_option maxHeartbeats 1000000
/-- the digits as they stand: no more than n of them -/
def Dig (n : Nat) (ρ : En) : Prop := ∃ (m0 m1 m2 : M) (k c : Int) (m6 m7 : M) (ds : List Int), ρ = [m0, m1, m2, .own (ds.map .int), .sh (.int k), .sh (.int c), m6, m7] ∧ ds.length ≤ n ∧ (∃ s : List Int, m0 = .sh (frzD (s.map .int))) ∧ Shy m6 ∧ Shy m7
theorem dig1 (n : Nat) (ρ : En) (d : D) (h : Dig n ρ) (hn : n < lim) : ∃ ρ2, bnd (gNm 6 d ρ) b_law_digits_1 = some (.nx, ρ2) ∧ Dig (n + 1) ρ2 := by
  obtain ⟨m0, m1, m2, k, c, m6, m7, ds, rfl, hl, hs, y6, y7⟩ := h
  have h2 : ds.length < lim := by omega
  unfold b_law_digits_1
  by_cases hc : 0 < c
  · simp [shy_free y6, hc, h2]
    exact ⟨_, _, _, _, _, _, _, ds ++ [c % 1000], by rw [List.map_append]; rfl, by rw [List.length_append, List.length_singleton]; omega, hs, .sh _, y7⟩
  · simp [shy_free y6, hc]
    exact ⟨_, _, _, _, _, _, _, ds, rfl, by omega, hs, .sh _, y7⟩
def Dig7 (n : Nat) (ρ : En) : Prop := Dig n ρ ∧ ∃ z : Int, ρ[7]? = some (.sh (.int z))
theorem dig2 (n : Nat) (ρ : En) (d : D) (hd : ∃ t, d = .int t) (h : Dig7 n ρ) (hn : n < lim) : ∃ ρ2, bnd (gNm 6 d ρ) b_law_digits_2 = some (.nx, ρ2) ∧ Dig7 (n + 1) ρ2 := by
  obtain ⟨t, rfl⟩ := hd
  obtain ⟨⟨m0, m1, m2, k, c, m6, m7, ds, rfl, hl, hs, y6, y7⟩, z, hz⟩ := h
  have hz : m7 = .sh (.int z) := by simpa using hz
  subst hz
  have h2 : ds.length < lim := by omega
  unfold b_law_digits_2
  simp [shy_free y6, h2, i64]
  exact ⟨⟨_, _, _, _, _, _, _, ds ++ [(z * 16807 + 7 * t + 1) % 2147483647 / 997 % 1000], by rw [List.map_append]; rfl, by rw [List.length_append, List.length_singleton]; omega, hs, .sh _, .sh _⟩, _, rfl⟩
def Dig0 (n : Nat) (ρ : En) : Prop := ∃ (m0 m1 m2 m4 m5 m6 m7 : M) (ds : List Int), ρ = [m0, m1, m2, .own (ds.map .int), m4, m5, m6, m7] ∧ ds.length ≤ n * 60 ∧ (∃ s : List Int, m0 = .sh (frzD (s.map .int))) ∧ Shy m4 ∧ Shy m5 ∧ Shy m6 ∧ Shy m7
theorem dig3 (n : Nat) (ρ : En) (d : D) (hd : ∃ k, d = .int k ∧ 0 ≤ k) (h : Dig0 n ρ) (hn : n < 1000) : ∃ ρ2, bnd (gNm 4 d ρ) b_law_digits_3 = some (.nx, ρ2) ∧ Dig0 (n + 1) ρ2 := by
  obtain ⟨k, rfl, hk⟩ := hd
  obtain ⟨m0, m1, m2, m4, m5, m6, m7, ds, rfl, hl, ⟨s, rfl⟩, y4, y5, y6, y7⟩ := h
  obtain ⟨z, ez⟩ := cell_ok s hk
  -- the loops, at any cell
  have big : ∀ c : Int, ∃ ρ', forGo (gNm 6) b_law_digits_1 (rangeD 0 60) [.sh (frzD (s.map .int)), m1, m2, .own (ds.map .int), .sh (.int k), .sh (.int c), m6, m7] = some (.nx, ρ') ∧ Dig0 (n + 1) ρ' := fun c => by
    obtain ⟨ρ', e, m0, q1, q2, k', c', q6, q7, xs, rfl, hx, hs, w6, w7⟩ := turns (S := Dig) (ok := fun _ => True) lim (fun n ρ d _ h hn => dig1 n ρ d h hn) (n := n * 60) (ρ := [.sh (frzD (s.map .int)), m1, m2, .own (ds.map .int), .sh (.int k), .sh (.int c), m6, m7]) (ds := rangeD 0 60) (fun _ _ => trivial)
      ⟨_, _, _, _, _, _, _, ds, rfl, hl, ⟨s, rfl⟩, y6, y7⟩ (by rw [rangeD_len]; show _ ≤ 1000000; simp; omega)
    exact ⟨_, e, _, _, _, _, _, _, _, xs, rfl, by rw [rangeD_len] at hx; simp at hx; omega, hs, .sh _, .sh _, w6, w7⟩
  have few : ∀ c z : Int, ∃ ρ', forGo (gNm 6) b_law_digits_2 (rangeD 0 12) [.sh (frzD (s.map .int)), m1, m2, .own (ds.map .int), .sh (.int k), .sh (.int c), m6, .sh (.int z)] = some (.nx, ρ') ∧ Dig0 (n + 1) ρ' := fun c z => by
    obtain ⟨ρ', e, ⟨m0, q1, q2, k', c', q6, q7, xs, rfl, hx, hs, w6, w7⟩, _⟩ := turns (S := Dig7) (ok := fun d => ∃ t, d = .int t) lim dig2 (n := n * 60) (ρ := [.sh (frzD (s.map .int)), m1, m2, .own (ds.map .int), .sh (.int k), .sh (.int c), m6, .sh (.int z)]) (ds := rangeD 0 12) (fun d hd => (rangeD_mem hd).elim fun t h => ⟨t, h.1⟩)
      ⟨⟨_, _, _, _, _, _, _, ds, rfl, hl, ⟨s, rfl⟩, y6, .sh _⟩, z, rfl⟩ (by rw [rangeD_len]; show _ ≤ 1000000; simp; omega)
    exact ⟨_, e, _, _, _, _, _, _, _, xs, rfl, by rw [rangeD_len] at hx; simp at hx; omega, hs, .sh _, .sh _, w6, w7⟩
  unfold b_law_digits_3
  by_cases hz : z < 0
  · by_cases hc : (1000000000000000000 : Int) ≤ 1 - 2 * z
    · obtain ⟨ρ', e, h⟩ := big (1 - 2 * z)
      simp [shy_free y4, shy_free y5, ez, hz, hc, e, i64, i62]
      exact h
    · obtain ⟨ρ', e, h⟩ := few (1 - 2 * z) (((1 - 2 * z) * 48271 + k * 69621 + 11) % 2147483647)
      simp [shy_free y4, shy_free y5, shy_free y7, ez, hz, hc, e, i64, i62]
      exact h
  · by_cases hc : (1000000000000000000 : Int) ≤ z
    · obtain ⟨ρ', e, h⟩ := big z
      simp [shy_free y4, shy_free y5, ez, hz, hc, e, i64, i62]
      exact h
    · obtain ⟨ρ', e, h⟩ := few z ((z * 48271 + k * 69621 + 11) % 2147483647)
      simp [shy_free y4, shy_free y5, shy_free y7, ez, hz, hc, e, i64, i62]
      exact h
theorem digits_ok (ns : List Int) {b : Int} (hb : 0 ≤ b) (h1 : b ≤ 100) : ∃ ds : List Int, phi_law_digits [frzD (ns.map .int), .int 0, .int b] = some (.fr (ds.map .int)) := by
  obtain ⟨ρ', e, m0, m1, m2, m4, m5, m6, m7, ds, rfl, _⟩ := turns (S := Dig0) (ok := fun d => ∃ k, d = .int k ∧ 0 ≤ k) 1000 dig3 (n := 0) (ρ := [.sh (frzD (ns.map .int)), .sh (.int 0), .sh (.int b), .own [], .no, .no, .no, .no]) (ds := rangeD 0 b) (fun d hd => (rangeD_mem hd).elim fun t h => ⟨t, h.1, h.2.1⟩)
      ⟨_, _, _, _, _, _, _, [], rfl, Nat.zero_le _, ⟨ns, rfl⟩, .no, .no, .no, .no⟩ (by rw [rangeD_len]; omega)
  have z2 : i62 b = true := i62_of (by omega) (by omega)
  have z0 : i62 0 = true := by decide
  refine ⟨ds, ?_⟩
  unfold phi_law_digits
  rw [runN_eq (by rfl)]
  unfold m_law_digits
  simp [z0, z2, e]
/-- a box as the law makes it -/
theorem box_ok (ds : List Int) : BoxOk [.list (ds.map .int), .int 0] := ⟨ds, 0, rfl, Int.le_refl 0⟩
end Law
/-! two alike things are the same -/
namespace Law
open PySem PySem.Spec PyProof.Rows L2 Mi
set_option maxRecDepth 100000
set_option maxHeartbeats 1000000
/-- data that the law may ask for, no deeper than n -/
def okD : Nat → D → Prop
  | _, .none => True
  | _, .bool _ => True
  | _, .int i => i64 i = true
  | _, .str x => (reprText x).length ≤ lim
  | 0, _ => False
  | n + 1, .list ds => ds.length ≤ lim ∧ plainDs ds = true ∧ ∀ d ∈ ds, okD n d
  | n + 1, .tuple ds => ds.length ≤ lim ∧ plainDs ds = true ∧ ∀ d ∈ ds, okD n d
  | _, .dict _ => False
theorem same_loop {φ : List D → Option R} {d : D} {get : Int → Option D} (hg : ∀ k, ixD d (.int k) = (get k).map .sh) : ∀ (ks : List D) (m : M), Shy m → (∀ k ∈ ks, ∃ z e, k = .int z ∧ get z = some e ∧ φ [e, e] = some (.sh (.bool true))) →
    ∃ m', forGo (gNm 2) (b_law_same_1 φ) ks [.sh d, .sh d, m] = some (.nx, [.sh d, .sh d, m'])
  | [], m, _, _ => ⟨_, rfl⟩
  | k :: ks, m, hm, h => by
    obtain ⟨z, e, rfl, he, hφ⟩ := h k List.mem_cons_self
    obtain ⟨ρ', e'⟩ := same_loop hg ks (.sh (.int z)) (.sh _) fun k hk => h k (List.mem_cons_of_mem _ hk)
    refine ⟨ρ', ?_⟩
    rw [forGo_cons]
    unfold b_law_same_1
    simp [shy_free hm, hg, he, hφ]
    exact e'
theorem same_ok : ∀ (n : Nat) (d : D), okD n d → phi_law_same (n + 1) [d, d] = some (.sh (.bool true)) := by
  intro n
  induction n with
  | zero =>
    intro d h
    unfold phi_law_same
    rw [runN_eq (by rfl)]
    unfold m_law_same
    cases d with
    | none => simp
    | bool b => cases b <;> simp
    | int i => simp [reprD_i h]
    | str x => simp [reprD_s h]
    | list ds => exact False.elim h
    | tuple ds => exact False.elim h
    | dict ds => exact False.elim h
  | succ n ih =>
    intro d h
    unfold phi_law_same
    rw [runN_eq (by rfl)]
    unfold m_law_same
    cases d with
    | none => simp
    | bool b => cases b <;> simp
    | int i => simp [reprD_i h]
    | str x => simp [reprD_s h]
    | list ds =>
      obtain ⟨hl, hp, hd⟩ := h
      have hl' : ds.length ≤ 1000000 := hl
      have z : i62 (ds.length : Int) = true := i62_of (by omega) (by omega)
      obtain ⟨ρ', e⟩ := same_loop (φ := phi_law_same (n + 1)) (d := .list ds) (get := fun k => atI ds k) (fun k => rfl) (rangeD 0 ds.length) .no .no fun k hk => by
        obtain ⟨k, rfl, h0, h1⟩ := rangeD_mem hk
        obtain ⟨x, e, hx⟩ := mem_atI h0 h1
        exact ⟨k, x, rfl, e, ih x (hd x hx)⟩
      simp [hp, z, e]
    | tuple ds =>
      obtain ⟨hl, hp, hd⟩ := h
      have hl' : ds.length ≤ 1000000 := hl
      have z : i62 (ds.length : Int) = true := i62_of (by omega) (by omega)
      obtain ⟨ρ', e⟩ := same_loop (φ := phi_law_same (n + 1)) (d := .tuple ds) (get := fun k => atI ds k) (fun k => rfl) (rangeD 0 ds.length) .no .no fun k hk => by
        obtain ⟨k, rfl, h0, h1⟩ := rangeD_mem hk
        obtain ⟨x, e, hx⟩ := mem_atI h0 h1
        exact ⟨k, x, rfl, e, ih x (hd x hx)⟩
      simp [hp, z, e]
    | dict ds => exact False.elim h
end Law
/-! k59: the plain law -/
namespace Law
open PySem PySem.Spec PyProof.Rows L2 Mi
open PySem.W (alike alikeAll dataLt AlikeAll minD maxD)
set_option maxRecDepth 100000
set_option maxHeartbeats 1000000
theorem dot_is : Str.ofString "." = sS [46] := by decide +kernel
theorem dash_is : Str.ofString "-" = sS [45] := by decide +kernel
theorem dd_is : Str.ofString ".-" = sS [46, 45] := by decide +kernel
/-! ### keyed -/
def signOf (b : Bool) : List Nat := if b = true then [46] else [45]
def keyedL (ts : List Int) (u : Int) : List Nat := (ts.map fun t => signOf (decide (t < 2 * u))).flatten
theorem signs_len (f : Int → Bool) : ∀ ts : List Int, (ts.map fun t => signOf (f t)).flatten.length = ts.length
  | [] => rfl
  | t :: r => by
    have ih := signs_len f r
    rw [List.map_cons, List.flatten_cons, List.length_append, ih, List.length_cons]
    unfold signOf
    split <;> simp <;> omega
theorem signs_mem (f : Int → Bool) {ts : List Int} {c : Nat} (h : c ∈ (ts.map fun t => signOf (f t)).flatten) : c = 46 ∨ c = 45 := by
  rw [List.mem_flatten] at h
  obtain ⟨l, hl, hc⟩ := h
  obtain ⟨t, _, rfl⟩ := List.mem_map.mp hl
  unfold signOf at hc
  split at hc
  · exact .inl (by simpa using hc)
  · exact .inr (by simpa using hc)
/-- signs by a test, joined -/
theorem join_signs (f : Int → Bool) {ts : List Int} (h : ts.length ≤ 1000) : joinD (.str (Str.ofString "")) (.list (ts.map fun t => .str (sS (signOf (f t))))) = some (.sh (.str (sS (ts.map fun t => signOf (f t)).flatten))) := by
  have e : (ts.map fun t => PyData.str (sS (signOf (f t)))) = ((ts.map fun t => signOf (f t)).map sS).map .str := by simp
  rw [e, join_empty, join_ok, sS_join]
  have hs : ((((ts.map fun t => signOf (f t)).map sS).map (·.length))).sum = ts.length := by
    clear e h
    induction ts with
    | nil => rfl
    | cons t r ih =>
      rw [List.map_cons, List.map_cons, List.map_cons, List.sum_cons, ih, List.length_cons, sS_len]
      unfold signOf
      split <;> simp <;> omega
  rw [hs, sS_len]
  show _ ≤ 1000000
  simp
  omega
theorem filterMap_all {α β : Type} (f : α → β) : ∀ l : List α, l.filterMap (fun x => some (f x)) = l.map f
  | [] => rfl
  | x :: r => by rw [List.filterMap_cons, List.map_cons, filterMap_all f r]
def tK (u : Int) : D → Option D
  | .int t => some (.str (sS (signOf (decide (t < 2 * u)))))
  | _ => none
theorem keyed_ok {ts : List Int} {u : Int} (h : ts.length ≤ 1000) : phi_keyed [.list (ts.map .int), .int u] = some (.sh (.str (sS (keyedL ts u)))) := by
  unfold phi_keyed
  rw [runN_eq (by rfl)]
  unfold m_keyed
  have e := lc_pure (gg := gNm 2) (t := mYes) (el := l_keyed_1) (vs := [2]) (ds := ts.map .int) (ρ := [.sh (.list (ts.map .int)), .sh (.int u), .no]) (tK u) (fun d hd => by
    obtain ⟨t, _, rfl⟩ := List.mem_map.mp hd
    unfold l_keyed_1
    by_cases hu : t < 2 * u
    · simp [tK, hu, i64, signOf, dot_is]
    · simp [tK, hu, i64, signOf, dash_is]) [] (by show _ ≤ 1000000; simp; omega)
  have em : (ts.map PyData.int).filterMap (tK u) = ts.map fun t => .str (sS (signOf (decide (t < 2 * u)))) := by
    rw [List.filterMap_map]
    exact filterMap_all _ ts
  rw [List.nil_append, em] at e
  simp [e, join_signs (fun t => decide (t < 2 * u)) h]
  rfl

/-! ### best_unit -/
def absI (i : Int) : Int := if i < 0 then -i else i
def farI (t u : Int) : Int := if absI (t - 3 * u) < absI (t - u) then absI (t - 3 * u) else absI (t - u)
def sumU (ts : List Int) (u : Int) : Int := (ts.map fun t => farI t u).sum
def tF (u : Int) : D → Option D
  | .int t => some (.int (farI t u))
  | _ => none
theorem far_all (u : Int) (ts : List Int) : (ts.map PyData.int).filterMap (tF u) = (ts.map fun t => farI t u).map .int := by
  rw [List.filterMap_map, List.map_map]
  exact filterMap_all _ ts
theorem sums_inner {ts : List Int} {m1 m2 : M} {u : Int} (h : ts.length ≤ 1000) : l_best_unit_2 [.sh (.list (ts.map .int)), m1, m2, .sh (.int u), .no] = some (.sh (.int (sumU ts u)), [.sh (.list (ts.map .int)), m1, m2, .sh (.int u), .no]) := by
  have e := lc_pure (gg := gNm 4) (t := mYes) (el := l_best_unit_1) (vs := [4]) (ds := ts.map .int) (ρ := [.sh (.list (ts.map .int)), m1, m2, .sh (.int u), .no]) (tF u) (fun d hd => by
    obtain ⟨t, _, rfl⟩ := List.mem_map.mp hd
    unfold l_best_unit_1
    simp [tF, i64, farI, absI]
    repeat (any_goals rfl)) [] (by show _ ≤ 1000000; simp; omega)
  rw [List.nil_append, far_all] at e
  unfold l_best_unit_2
  unfold sumU
  generalize (ts.map fun t => farI t u) = rs at e ⊢
  simp [e]
def tS (ts : List Int) : D → Option D
  | .int u => some (.int (sumU ts u))
  | _ => none
def sumsL (ts : List Int) (most : Int) : List Int := (rangeL 1 (most + 1 - 1).toNat).map (sumU ts)
theorem rangeD_map (lo hi : Int) (f : Int → D) (g : D → Option D) (h : ∀ i, g (.int i) = some (f i)) : (rangeD lo hi).filterMap g = (rangeL lo (hi - lo).toNat).map f := by
  unfold rangeD
  rw [List.filterMap_map]
  have : (g ∘ PyData.int) = fun i => some (f i) := funext h
  rw [this]
  exact filterMap_all _ _
theorem opt_map {α β : Type} {f : α → β} {o : Option α} {b : β} (h : o.map f = some b) : ∃ a, o = some a ∧ f a = b := by
  cases o with
  | none => cases h
  | some a => exact ⟨a, rfl, Option.some.inj h⟩
theorem rangeL_s (v : Int) (n : Nat) : rangeL v (n + 1) = v :: rangeL (v + 1) n := rfl
/-- the first least of sums, by its place -/
theorem idx_app {x : Int} : ∀ {l : List Int} {j : Nat} (r : List Int), idxI x l = some j → idxI x (l ++ r) = some j
  | n :: l, j, r, e => by
    unfold idxI at e ⊢
    by_cases h : n = x
    · rw [if_pos h] at e
      simp [h] at e ⊢
      exact e
    · rw [if_neg h] at e
      obtain ⟨i, e1, rfl⟩ := opt_map e
      simp [h, idx_app r e1]
theorem idx_new {x : Int} : ∀ {l : List Int}, x ∉ l → idxI x (l ++ [x]) = some l.length
  | [], _ => by simp [idxI]
  | n :: l, h => by
    have h1 : ¬ n = x := fun e => h (by rw [e]; exact List.mem_cons_self)
    have h2 : x ∉ l := fun e => h (List.mem_cons_of_mem _ e)
    simp [idxI, h1, idx_new h2]
/-- least by value, then by number: the number is the value's first place -/
theorem first_least (f : Int → Int) : ∀ (n : Nat) (s u v : Int) (P : List Int), (∀ x ∈ P, s ≤ x) → idxI s P = some (u - 1).toNat → 1 ≤ u → u < v → v = 1 + P.length →
    ∃ j : Nat, minP (s, u) ((rangeL v n).map fun i => (f i, i)) = (((rangeL v n).map f).foldl min s, 1 + (j : Int)) ∧ idxI (((rangeL v n).map f).foldl min s) (P ++ (rangeL v n).map f) = some j
  | 0, s, u, v, P, _, hi, h1, _, _ => by
    refine ⟨(u - 1).toNat, ?_, by simpa [rangeL] using hi⟩
    show (s, u) = (s, 1 + (((u - 1).toNat : Nat) : Int))
    congr 1
    omega
  | n + 1, s, u, v, P, hP, hi, h1, huv, hv => by
    have em : (P ++ [f v]) ++ (rangeL (v + 1) n).map f = P ++ (rangeL v (n + 1)).map f := by
      rw [rangeL_s, List.map_cons, List.append_assoc]
      rfl
    by_cases hlt : f v < s
    · obtain ⟨j, e1, e2⟩ := first_least f n (f v) v (v + 1) (P ++ [f v]) (fun x hx => by
          rcases List.mem_append.mp hx with hx | hx
          · have := hP x hx; omega
          · have : x = f v := by simpa using hx
            omega) (by
          rw [idx_new (fun hm => by have := hP _ hm; omega)]
          congr 1
          omega) (by omega) (by omega) (by rw [List.length_append, List.length_singleton]; omega)
      refine ⟨j, ?_, ?_⟩
      · rw [rangeL_s, List.map_cons, List.map_cons, List.foldl_cons]
        have : min s (f v) = f v := by omega
        rw [this, ← e1]
        unfold minP
        rw [List.foldl_cons]
        congr 1
        show (if ltP (f v, v) (s, u) = true then (f v, v) else (s, u)) = (f v, v)
        rw [if_pos]
        unfold ltP
        exact decide_eq_true (.inl hlt)
      · rw [← em, rangeL_s, List.map_cons, List.foldl_cons]
        have : min s (f v) = f v := by omega
        rw [this]
        exact e2
    · obtain ⟨j, e1, e2⟩ := first_least f n s u (v + 1) (P ++ [f v]) (fun x hx => by
          rcases List.mem_append.mp hx with hx | hx
          · exact hP x hx
          · have : x = f v := by simpa using hx
            omega) (idx_app _ hi) h1 (by omega) (by rw [List.length_append, List.length_singleton]; omega)
      refine ⟨j, ?_, ?_⟩
      · rw [rangeL_s, List.map_cons, List.map_cons, List.foldl_cons]
        have : min s (f v) = s := by omega
        rw [this, ← e1]
        unfold minP
        rw [List.foldl_cons]
        congr 1
        show (if ltP (f v, v) (s, u) = true then (f v, v) else (s, u)) = (s, u)
        rw [if_neg]
        unfold ltP
        intro z
        have := of_decide_eq_true z
        dsimp at this
        omega
      · rw [← em, rangeL_s, List.map_cons, List.foldl_cons]
        have : min s (f v) = s := by omega
        rw [this]
        exact e2
/-- the first of the units with the least sum, as the law tells it -/
theorem least_unit (f : Int → Int) (n : Nat) : ∃ j : Nat, j < n + 1 ∧ minP (f 1, 1) ((rangeL 2 n).map fun i => (f i, i)) = (((rangeL 2 n).map f).foldl min (f 1), 1 + (j : Int)) ∧ idxI (((rangeL 2 n).map f).foldl min (f 1)) ((rangeL 1 (n + 1)).map f) = some j := by
  obtain ⟨j, e1, e2⟩ := first_least f n (f 1) 1 2 [f 1] (fun x hx => by
    have : x = f 1 := by simpa using hx
    omega) (by simp [idxI]) (by omega) (by omega) (by simp)
  have e3 : [f 1] ++ (rangeL 2 n).map f = (rangeL 1 (n + 1)).map f := rfl
  rw [e3] at e2
  refine ⟨j, ?_, e1, e2⟩
  have := (List.getElem?_eq_some_iff.mp (idxI_ok' e2)).1
  rw [List.length_map, rangeL_len'] at this
  exact this
where
  idxI_ok' {k : Int} : ∀ {ns : List Int} {j : Nat}, idxI k ns = some j → ns[j]? = some k := fun {ns} => by
    induction ns with
    | nil => intro j e; cases e
    | cons n r ih =>
      intro j e
      unfold idxI at e
      by_cases h : n = k
      · rw [if_pos h] at e
        cases e
        rw [h]
        rfl
      · rw [if_neg h] at e
        obtain ⟨i, e1, rfl⟩ := opt_map e
        simpa using ih e1
  rangeL_len' {lo : Int} {n : Nat} : (rangeL lo n).length = n := by
    induction n generalizing lo with
    | zero => rfl
    | succ n ih => unfold rangeL; rw [List.length_cons, ih]
theorem best_ok {ts : List Int} {most : Int} (h : ts.length ≤ 1000) (h1 : 1 ≤ most) (h2 : most ≤ 1000) : ∃ j : Nat, (j : Int) < most ∧ phi_best_unit [.list (ts.map .int), .int most] = some (.sh (.int (1 + (j : Int)))) ∧
    minP (sumU ts 1, 1) ((rangeL 2 (most - 1).toNat).map fun i => (sumU ts i, i)) = (((rangeL 2 (most - 1).toNat).map (sumU ts)).foldl min (sumU ts 1), 1 + (j : Int)) := by
  obtain ⟨j, hj, e1, e2⟩ := least_unit (sumU ts) (most - 1).toNat
  refine ⟨j, by omega, ?_, e1⟩
  unfold phi_best_unit
  rw [runN_eq (by rfl)]
  unfold m_best_unit
  have z1 : i62 1 = true := by decide
  have z2 : i62 (most + 1) = true := i62_of (by omega) (by omega)
  have e := lc_pure (gg := gNm 3) (t := mYes) (el := l_best_unit_2) (vs := [3]) (ds := rangeD 1 (most + 1)) (ρ := [.sh (.list (ts.map .int)), .sh (.int most), .no, .no, .no]) (tS ts) (fun d hd => by
    obtain ⟨u, rfl, _, _⟩ := rangeD_mem hd
    simp [sums_inner h, tS]) [] (by show _ ≤ 1000000; rw [rangeD_len]; simp; omega)
  rw [List.nil_append, rangeD_map 1 (most + 1) (fun u => .int (sumU ts u)) (tS ts) (fun i => rfl)] at e
  have en : (most + 1 - 1).toNat = (most - 1).toNat + 1 := by omega
  rw [en] at e
  have em : (rangeL 1 ((most - 1).toNat + 1)).map (fun u => PyData.int (sumU ts u)) = .int (sumU ts 1) :: ((rangeL 2 (most - 1).toNat).map (sumU ts)).map .int := by
    show PyData.int (sumU ts 1) :: (rangeL 2 (most - 1).toNat).map (fun u => PyData.int (sumU ts u)) = _
    rw [List.map_map]
    rfl
  rw [em] at e
  have ei : indexD (.list (.int (sumU ts 1) :: ((rangeL 2 (most - 1).toNat).map (sumU ts)).map .int)) (.int (((rangeL 2 (most - 1).toNat).map (sumU ts)).foldl min (sumU ts 1))) = some (.sh (.int (j : Int))) := by
    show (intsD ((sumU ts 1 :: (rangeL 2 (most - 1).toNat).map (sumU ts)).map .int)).bind _ = _
    rw [intsD_map']
    show (idxI _ (sumU ts 1 :: (rangeL 2 (most - 1).toNat).map (sumU ts))).bind _ = _
    have : sumU ts 1 :: (rangeL 2 (most - 1).toNat).map (sumU ts) = (rangeL 1 ((most - 1).toNat + 1)).map (sumU ts) := rfl
    rw [this, e2]
    rfl
  generalize (rangeL 2 (most - 1).toNat).map (sumU ts) = rs at e ei ⊢
  simp [z1, z2, e, minLD_ints, ei]
end Law
/-! k59: messages handed on -/
namespace Law
open PySem PySem.Spec PyProof.Rows L2 Mi
open PySem.W (alike alikeAll dataLt AlikeAll minD maxD)
set_option maxRecDepth 100000
set_option maxHeartbeats 1000000
def lef (k : Nat) (l : List Nat) : List Nat := l.drop k ++ l.take k
theorem lef_len {k : Nat} {l : List Nat} : (lef k l).length = l.length := by
  unfold lef
  rw [List.length_append, List.length_drop, List.length_take]
  omega
theorem lef_get {l : List Nat} {k i : Nat} (h : k ≤ l.length) (hi : i < l.length) : (lef k l)[i]? = l[if i + k < l.length then i + k else i + k - l.length]? := by
  unfold lef
  rw [List.getElem?_append, List.length_drop]
  by_cases h1 : i < l.length - k
  · rw [if_pos h1, if_pos (by omega), List.getElem?_drop]
    congr 1
    omega
  · rw [if_neg h1, if_neg (by omega), List.getElem?_take, if_pos (by omega)]
    congr 1
    omega
theorem lef_0 (l : List Nat) : lef 0 l = l := by simp [lef]
theorem lef_n (l : List Nat) : lef l.length l = l := by simp [lef]
theorem lef_lef {l : List Nat} {j k : Nat} (hj : j ≤ l.length) (hk : k ≤ l.length) : lef j (lef k l) = lef (if j + k ≤ l.length then j + k else j + k - l.length) l := by
  have hb : (if j + k ≤ l.length then j + k else j + k - l.length) ≤ l.length := by split <;> omega
  apply List.ext_getElem?
  intro i
  by_cases hi : i < l.length
  · rw [lef_get (by rw [lef_len]; exact hj) (by rw [lef_len]; exact hi), lef_len, lef_get hb hi]
    have hc : (if i + j < l.length then i + j else i + j - l.length) < l.length := by split <;> omega
    rw [lef_get hk hc]
    have key : ∀ a b : Nat, a < l.length → b < l.length → (a = b ∨ (a = 0 ∧ b = l.length)) → l[a]? = l[b]? := fun a b _ hb h => by
      rcases h with h | h
      · rw [h]
      · omega
    congr 1
    (repeat' split) <;> omega
  · rw [List.getElem?_eq_none (by rw [lef_len, lef_len]; omega), List.getElem?_eq_none (by rw [lef_len]; omega)]
/-- a station turns the message -/
def rotM (m : Int) (l : List Nat) : List Nat := lef (l.length - (m % (l.length : Int)).toNat) l
def rots (st : List Int) (l : List Nat) : List Nat := st.foldl (fun l m => rotM m l) l
theorem rotM_nil (m : Int) : rotM m [] = [] := by simp [rotM, lef]
theorem rots_is : ∀ (st : List Int) (l : List Nat) (k : Nat) (z : Int), 0 < l.length → k ≤ l.length → (l.length : Int) ∣ k + z → ∃ j : Nat, j ≤ l.length ∧ (l.length : Int) ∣ j + (z + st.sum) ∧ rots st (lef k l) = lef j l
  | [], l, k, z, _, hk, hd => ⟨k, hk, by simpa using hd, rfl⟩
  | m :: st, l, k, z, hl, hk, hd => by
    have h0 := Int.emod_nonneg m (b := (l.length : Int)) (by omega)
    have h1 := Int.emod_lt_of_pos m (b := (l.length : Int)) (by omega)
    have e : rotM m (lef k l) = lef (if l.length - (m % (l.length : Int)).toNat + k ≤ l.length then l.length - (m % (l.length : Int)).toNat + k else l.length - (m % (l.length : Int)).toNat + k - l.length) l := by
      unfold rotM
      rw [lef_len, lef_lef (by omega) hk]
    have hm : (l.length : Int) ∣ m - m % (l.length : Int) := Int.dvd_self_sub_emod
    obtain ⟨j, hj, hd2, e2⟩ := rots_is st l (if l.length - (m % (l.length : Int)).toNat + k ≤ l.length then l.length - (m % (l.length : Int)).toNat + k else l.length - (m % (l.length : Int)).toNat + k - l.length) (z + m) hl (by split <;> omega) (by
      have q : (k + z + (m - m % (l.length : Int)) : Int) = k + z + m - m % (l.length : Int) := by omega
      have := Int.dvd_add hd hm
      rw [q] at this
      split
      · have e3 : (((l.length - (m % (l.length : Int)).toNat + k : Nat) : Int) + (z + m)) = (k + z + m - m % (l.length : Int)) + (l.length : Int) := by omega
        rw [e3]
        exact Int.dvd_add this (Int.dvd_refl _)
      · have e3 : (((l.length - (m % (l.length : Int)).toNat + k - l.length : Nat) : Int) + (z + m)) = (k + z + m - m % (l.length : Int)) := by omega
        rw [e3]
        exact this)
    refine ⟨j, hj, ?_, ?_⟩
    · rw [List.sum_cons, show z + (m + st.sum) = z + m + st.sum by omega]
      exact hd2
    · show rots st (rotM m (lef k l)) = _
      rw [e, e2]
theorem rots_nil : ∀ st : List Int, rots st [] = []
  | [] => rfl
  | m :: st => by
    show rots st (rotM m []) = []
    rw [rotM_nil, rots_nil st]
/-- the way back -/
theorem rots_back (st : List Int) (l : List Nat) : lef (st.sum % ((rots st l).length : Int)).toNat (rots st l) = l ∧ (rots st l).length = l.length ∧ ∀ c ∈ rots st l, c ∈ l := by
  by_cases hl : 0 < l.length
  · obtain ⟨j, hj, hd, e⟩ := rots_is st l 0 0 hl (by omega) ⟨0, by simp⟩
    rw [lef_0] at e
    rw [e, lef_len]
    refine ⟨?_, rfl, fun c hc => ?_⟩
    · have h0 := Int.emod_nonneg st.sum (b := (l.length : Int)) (by omega)
      have h1 := Int.emod_lt_of_pos st.sum (b := (l.length : Int)) (by omega)
      rw [lef_lef (by omega) hj]
      have hm : (l.length : Int) ∣ st.sum - st.sum % (l.length : Int) := Int.dvd_self_sub_emod
      have := Int.dvd_sub hd hm
      rw [show ((j : Int) + (0 + st.sum) - (st.sum - st.sum % (l.length : Int))) = j + st.sum % (l.length : Int) by omega] at this
      obtain ⟨q, hq⟩ := this
      have hq2 : q < 2 := Int.lt_of_mul_lt_mul_left (a := (l.length : Int)) (by omega) (by omega)
      have hq0 : 0 ≤ q := by
        rcases Int.lt_or_le q 0 with h | h
        · have := Int.mul_le_mul_of_nonneg_left (a := q) (b := -1) (c := (l.length : Int)) (by omega) (by omega)
          omega
        · exact h
      have : q = 0 ∨ q = 1 := by omega
      rcases this with rfl | rfl
      · rw [if_pos (by omega), show (st.sum % (l.length : Int)).toNat + j = 0 by omega, lef_0]
      · rw [if_pos (by omega), show (st.sum % (l.length : Int)).toNat + j = l.length by omega, lef_n]
    · unfold lef at hc
      rcases List.mem_append.mp hc with h | h
      · exact List.mem_of_mem_drop h
      · exact List.mem_of_mem_take h
  · have : l = [] := List.eq_nil_of_length_eq_zero (by omega)
    subst this
    rw [rots_nil]
    simp [lef]
theorem rotM_len (m : Int) (l : List Nat) : (rotM m l).length = l.length := lef_len
theorem cut_nil {α : Type} (lo hi : Option Int) : Mi.cutD ([] : List α) lo hi = [] := by simp [Mi.cutD]
theorem rel_turn {l : List Nat} {m1 m2 m3 : M} {m : Int} (hl : l.length ≤ 1000) (h2 : Shy m2) (h3 : Shy m3) : ∃ m2' m3', bnd (gNm 2 (.int m) [.sh (.str (sS l)), m1, m2, m3]) b_relayed_1 = some (.nx, [.sh (.str (sS (rotM m l))), m1, m2', m3']) ∧ Shy m2' ∧ Shy m3' := by
  have hL : l.length ≤ lim := by show _ ≤ 1000000; omega
  have hL2 : ∀ a b, (Mi.cutD l a b).length ≤ l.length := fun a b => by
    unfold Mi.cutD
    rw [List.length_take, List.length_drop]
    omega
  have hL3 : ∀ a b c d, (Mi.cutD l a b).length + (Mi.cutD l c d).length ≤ lim := fun a b c d => by
    have := hL2 a b
    have := hL2 c d
    show _ ≤ 1000000
    omega
  unfold b_relayed_1
  by_cases h0 : 0 < l.length
  · have q0 := Int.emod_nonneg m (b := (l.length : Int)) (by omega)
    have q1 := Int.emod_lt_of_pos m (b := (l.length : Int)) (by omega)
    have e : sS (rotM m l) = sS (Mi.cutD l (some (l.length - m % (l.length : Int))) none ++ Mi.cutD l none (some (l.length - m % (l.length : Int)))) := by
      rw [cut_from _ (by omega), cut_to _ (by omega)]
      unfold rotM lef
      rw [show ((l.length : Int) - m % (l.length : Int)).toNat = l.length - (m % (l.length : Int)).toNat by omega]
    rw [e]
    simp [shy_free h2, shy_free h3, hL, h0, hL3]
    exact ⟨_, _, ⟨rfl, rfl⟩, .sh _, .sh _⟩
  · have : l = [] := List.eq_nil_of_length_eq_zero (by omega)
    subst this
    rw [rotM_nil]
    have z : (0 : Nat) ≤ lim := Nat.zero_le _
    simp [shy_free h2, shy_free h3, cut_nil, z]
    exact ⟨_, _, ⟨rfl, rfl⟩, .sh _, .sh _⟩
theorem relayed_ok (st : List Int) {l : List Nat} (hl : l.length ≤ 1000) : phi_relayed [.str (sS l), .list (st.map .int)] = some (.sh (.str (sS (rots st l)))) := by
  obtain ⟨ρ', e, l', m2, m3, rfl, _, _, hr, _⟩ := for_inv (gg := gNm 2) (n := b_relayed_1) (ds := st.map .int) (ρ := [.sh (.str (sS l)), .sh (.list (st.map .int)), .no, .no])
    (fun ds ρ => ∃ (l' : List Nat) (m2 m3 : M), ρ = [.sh (.str (sS l')), .sh (.list (st.map .int)), m2, m3] ∧ Shy m2 ∧ Shy m3 ∧ (∃ r : List Int, ds = r.map .int ∧ rots r l' = rots st l) ∧ l'.length = l.length) ⟨l, _, _, rfl, .no, .no, ⟨st, rfl, rfl⟩, rfl⟩ (by
    rintro d r ρ ⟨l', m2, m3, rfl, h2, h3, ⟨r', hr, hr2⟩, hl'⟩
    cases r' with
    | nil => cases hr
    | cons m r' =>
      rw [List.map_cons] at hr
      obtain ⟨rfl, rfl⟩ := List.cons.inj hr
      obtain ⟨m2', m3', e, h2', h3'⟩ := rel_turn (l := l') (m1 := .sh (.list (st.map .int))) (m := m) (by omega) h2 h3
      cases q : gNm 2 (.int m) [.sh (.str (sS l')), .sh (.list (st.map .int)), m2, m3] with
      | none => rw [q] at e; cases e
      | some ρ1 =>
        rw [q, bnd_some] at e
        exact ⟨ρ1, .nx, _, rfl, e, .inl rfl, _, _, _, rfl, h2', h3', ⟨r', rfl, hr2⟩, by rw [rotM_len, hl']⟩)
  obtain ⟨r, hr, hr2⟩ := hr
  have : r = [] := by
    cases r with
    | nil => rfl
    | cons => cases hr
  subst this
  have hr3 : l' = rots st l := hr2
  subst hr3
  unfold phi_relayed
  rw [runN_eq (by rfl)]
  unfold m_relayed
  simp [e]
theorem back_ok (st : List Int) {l : List Nat} (hl : l.length ≤ 1000) : phi_relay_back [.str (sS l), .list (st.map .int)] = some (.sh (.str (sS (lef (st.sum % (l.length : Int)).toNat l)))) := by
  have hL : l.length ≤ lim := by show _ ≤ 1000000; omega
  unfold phi_relay_back
  rw [runN_eq (by rfl)]
  unfold m_relay_back
  by_cases h0 : 0 < l.length
  · have q0 := Int.emod_nonneg st.sum (b := (l.length : Int)) (by omega)
    have hs : l.length - (st.sum % (l.length : Int)).toNat + min (st.sum % (l.length : Int)).toNat l.length ≤ lim := by
      show _ ≤ 1000000
      omega
    simp [hL, h0, cut_from _ q0, cut_to _ q0, lef, hs]
  · have : l = [] := List.eq_nil_of_length_eq_zero (by omega)
    subst this
    have z : (0 : Nat) ≤ lim := Nat.zero_le _
    simp [cut_nil, lef, z]
end Law
/-! k59: lengths, messages, the law -/
namespace Law
open PySem PySem.Spec PyProof.Rows L2 Mi
open PySem.W (alike alikeAll dataLt AlikeAll minD maxD)
set_option maxRecDepth 100000
set_option maxHeartbeats 1000000
theorem ints_of : ∀ {ds : List D}, (∀ d ∈ ds, ∃ z, d = .int z) → ∃ zs : List Int, ds = zs.map .int
  | [], _ => ⟨[], rfl⟩
  | d :: ds, h => by
    obtain ⟨z, rfl⟩ := h d List.mem_cons_self
    obtain ⟨zs, rfl⟩ := ints_of fun d hd => h d (List.mem_cons_of_mem _ hd)
    exact ⟨z :: zs, rfl⟩
theorem char_turn {n : Nat} {l : List Nat} {m0 m1 m2 m4 m6 m7 : M} {j : Nat} (d : D) (hl : l.length ≤ 1000) (h6 : Shy m6) (hj : j < l.length) :
    bnd (gNm 6 d [m0, m1, m2, .sh (.str (sS (l.take (l.length - j)))), m4, .sh (.str (sS (l.drop (l.length - j)))), m6, m7]) b_law_passed_1 = some (.nx, [m0, m1, m2, .sh (.str (sS (l.take (l.length - (j + 1))))), m4, .sh (.str (sS (l.drop (l.length - (j + 1))))), .sh d, m7]) := by
  have z1 : (l.take (l.length - j)).length ≤ lim := by
    rw [List.length_take]
    show _ ≤ 1000000
    omega
  have e1 : ((l.take (l.length - j)).length : Int) - 1 = ((l.length - (j + 1) : Nat) : Int) := by
    rw [List.length_take]
    omega
  have e2 : Mi.cutD (l.take (l.length - j)) (some ((l.length - (j + 1) : Nat) : Int)) none = (l.take (l.length - j)).drop (l.length - (j + 1)) := by
    rw [cut_from _ (by omega), Int.toNat_natCast]
  have e3 : Mi.cutD (l.take (l.length - j)) none (some ((l.length - (j + 1) : Nat) : Int)) = l.take (l.length - (j + 1)) := by
    rw [cut_to _ (by omega), Int.toNat_natCast, List.take_take]
    congr 1
    omega
  have e4 : (l.take (l.length - j)).drop (l.length - (j + 1)) ++ l.drop (l.length - j) = l.drop (l.length - (j + 1)) := by
    apply List.ext_getElem?
    intro i
    rw [List.getElem?_append, List.length_drop, List.length_take, List.getElem?_drop, List.getElem?_drop, List.getElem?_drop, List.getElem?_take]
    split
    · rw [if_pos (by omega)]
    · congr 1
      omega
  have z2 : ((l.take (l.length - j)).drop (l.length - (j + 1))).length + (l.drop (l.length - j)).length ≤ lim := by
    rw [List.length_drop, List.length_take, List.length_drop]
    show _ ≤ 1000000
    omega
  generalize l.take (l.length - (j + 1)) = ta at e3 ⊢
  generalize l.drop (l.length - (j + 1)) = tb at e4 ⊢
  generalize l.take (l.length - j) = tc at z1 e1 e2 e3 e4 z2 ⊢
  generalize l.drop (l.length - j) = td at e4 z2 ⊢
  generalize ((l.length - (j + 1) : Nat) : Int) = k at e1 e2 e3
  generalize l.length - (j + 1) = kk at e2 e4 z2
  generalize tc.drop kk = te at e2 e4 z2
  unfold b_law_passed_1
  simp [shy_free h6, e1, e2, e3, z2, e4, z1]
theorem law_turn {l l0 : List Nat} {m0 m2 m4 m5 m6 m7 : M} (m : Int) (hl : l.length ≤ 1000) (h0 : l0.length = l.length) (h4 : Shy m4) (h5 : Shy m5) (h6 : Shy m6) :
    ∃ m6', bnd (gNm 4 (.int m) [m0, .sh (.str (sS l0)), m2, .sh (.str (sS l)), m4, m5, m6, m7]) b_law_passed_2 = some (.nx, [m0, .sh (.str (sS l0)), m2, .sh (.str (sS (rotM m l))), .sh (.int m), .sh (.str (sS (l.drop (l.length - (m % (l.length : Int)).toNat)))), m6', m7]) ∧ Shy m6' := by
  have hL : l0.length ≤ lim := by show _ ≤ 1000000; omega
  unfold b_law_passed_2
  by_cases hp : 0 < l.length
  · have q0 := Int.emod_nonneg m (b := (l.length : Int)) (by omega)
    have q1 := Int.emod_lt_of_pos m (b := (l.length : Int)) (by omega)
    have z : i62 (m % (l.length : Int)) = true := i62_of (by omega) (by omega)
    obtain ⟨ρ', e, m6', rfl, h6'⟩ := turns (S := fun j ρ => ∃ m6', ρ = [m0, .sh (.str (sS l0)), m2, .sh (.str (sS (l.take (l.length - j)))), .sh (.int m), .sh (.str (sS (l.drop (l.length - j)))), m6', m7] ∧ Shy m6') (g := gNm 6) (b := b_law_passed_1) (ok := fun _ => True) l.length
      (fun n ρ d _ hs hn => by
        obtain ⟨m6', rfl, h6'⟩ := hs
        exact ⟨_, char_turn (n := n) d hl h6' hn, _, rfl, .sh _⟩)
      (ds := rangeD 0 (m % (l.length : Int))) (n := 0) (ρ := [m0, .sh (.str (sS l0)), m2, .sh (.str (sS l)), .sh (.int m), .sh (.str (sS [])), m6, m7]) (fun _ _ => trivial) ⟨m6, by simp, h6⟩ (by rw [rangeD_len]; omega)
    rw [rangeD_len, Nat.zero_add, Int.sub_zero] at e
    have z2 : (l.drop (l.length - (m % (l.length : Int)).toNat)).length + (l.take (l.length - (m % (l.length : Int)).toNat)).length ≤ lim := by
      rw [List.length_drop, List.length_take]
      show _ ≤ 1000000
      omega
    refine ⟨m6', ?_, h6'⟩
    unfold rotM lef
    generalize l.drop (l.length - (m % (l.length : Int)).toNat) = td at e z2 ⊢
    generalize l.take (l.length - (m % (l.length : Int)).toNat) = ta at e z2 ⊢
    have hL' : l.length ≤ lim := by omega
    simp [shy_free h4, shy_free h5, hL, hL', h0, hp, z, e, z2, join_empty]
  · have : l = [] := List.eq_nil_of_length_eq_zero (by omega)
    subst this
    have : l0 = [] := List.eq_nil_of_length_eq_zero h0
    subst this
    have z : (0 : Nat) ≤ lim := Nat.zero_le _
    rw [rotM_nil]
    refine ⟨m6, ?_, h6⟩
    simp [shy_free h4, shy_free h5, z, join_empty]
def PaI (l : List Nat) (ρ : En) : Prop := ∃ ws, ρ = [.io ws, .sh (.str (sS l)), .no, .no, .no, .no, .no, .no] ∧ BoxOk ws
theorem pick_turn {l : List Nat} (hl : l.length ≤ 1000) (d : D) (ρ : En) (h : PaI l ρ) : ∃ y ρ', lcTurn (gNm 6) mYes l_law_passed_2 [6] d ρ = some (some y, ρ') ∧ PaI l ρ' ∧ ∃ z, y = .int z := by
  obtain ⟨ws, rfl, b⟩ := h
  have hL : l.length ≤ lim := by show _ ≤ 1000000; omega
  obtain ⟨r1, w1, e1, b1, h10, h11⟩ := draw_ok (many := 15) b (by decide)
  obtain ⟨r2, w2, e2, b2, h20, h21⟩ := draw_ok (many := 30) b1 (by decide)
  obtain ⟨x, w3, e3, b3, hx⟩ := pick_ok (row := [.int r1, .int 0, .int 1, .int (l.length : Int), .int ((l.length : Int) + r2), .int 997]) b2 (by simp)
  have z6 : (6 : Nat) ≤ lim := by show _ ≤ 1000000; omega
  have hz : ∃ z, x = .int z := by
    simp at hx
    rcases hx with h | h | h | h | h | h <;> exact ⟨_, h⟩
  obtain ⟨z, rfl⟩ := hz
  refine ⟨.int z, [.io w3, .sh (.str (sS l)), .no, .no, .no, .no, .no, .no], ?_, ⟨w3, rfl, b3⟩, z, rfl⟩
  unfold l_law_passed_2
  simp [e1, e2, e3, hL, z6]
/-- the slots after the stations are drawn -/
theorem modes {l : List Nat} {ws : List D} {m3 m4 m5 m6 m7 : M} (zs : List Int) (hl : l.length ≤ 1000) (hz : zs.length ≤ 100) (h4 : m4 = .no) :
    ∃ ys : List Int, lcGo (gNm 4) mYes l_law_passed_1 [4] (zs.map .int) [.io ws, .sh (.str (sS l)), .sh (.list (zs.map .int)), .no, .no, .no, .no, .no] [] = some (ys.map .int, [.io ws, .sh (.str (sS l)), .sh (.list (zs.map .int)), .no, .no, .no, .no, .no]) ∧ ys.length ≤ 100 := by
  have hL : l.length ≤ lim := by show _ ≤ 1000000; omega
  obtain ⟨ys, ρ', e, rfl, hy, hn⟩ := lc_inv (gg := gNm 4) (t := mYes) (el := l_law_passed_1) (vs := [4]) (ds := zs.map .int) (ρ := [.io ws, .sh (.str (sS l)), .sh (.list (zs.map .int)), .no, .no, .no, .no, .no]) (fun ρ => ρ = [.io ws, .sh (.str (sS l)), .sh (.list (zs.map .int)), .no, .no, .no, .no, .no]) (fun d => ∃ z, d = .int z)
    (fun d hd ρ hρ => by
      subst hρ
      obtain ⟨z, _, rfl⟩ := List.mem_map.mp hd
      refine ⟨some (.int (z % (if (l.length : Int) > 1 then (l.length : Int) else 1))), _, ?_, rfl, fun y h => ⟨_, (Option.some.inj h).symm⟩⟩
      have hp : 0 < (if (1 : Int) < (l.length : Int) then (l.length : Int) else 1) := by split <;> omega
      unfold l_law_passed_1
      simp [hL]
      exact hp) rfl [] (by show _ ≤ 1000000; rw [List.length_map]; simp; omega)
  obtain ⟨zs', rfl⟩ := ints_of hy
  rw [List.length_map, List.length_map] at hn
  exact ⟨zs', e, by omega⟩
/-- all the stations, as the law turns the message -/
theorem law_turns {l0 : List Nat} {m0 m2 m7 : M} (hl : l0.length ≤ 1000) : ∀ (st : List Int) (l : List Nat) (m4 m5 m6 : M), l0.length = l.length → Shy m4 → Shy m5 → Shy m6 →
    ∃ m4' m5' m6', forGo (gNm 4) b_law_passed_2 (st.map .int) [m0, .sh (.str (sS l0)), m2, .sh (.str (sS l)), m4, m5, m6, m7] = some (.nx, [m0, .sh (.str (sS l0)), m2, .sh (.str (sS (rots st l))), m4', m5', m6', m7])
  | [], l, m4, m5, m6, _, _, _, _ => ⟨m4, m5, m6, rfl⟩
  | m :: st, l, m4, m5, m6, h, h4, h5, h6 => by
    obtain ⟨m6', e, h6'⟩ := law_turn (l := l) (l0 := l0) (m0 := m0) (m2 := m2) (m7 := m7) m (by omega) h h4 h5 h6
    obtain ⟨a, b, c, e2⟩ := law_turns hl st (rotM m l) (.sh (.int m)) (.sh _) m6' (by rw [rotM_len, h]) (.sh _) (.sh _) h6'
    refine ⟨a, b, c, ?_⟩
    rw [List.map_cons, forGo_cons]
    cases q : gNm 4 (.int m) [m0, .sh (.str (sS l0)), m2, .sh (.str (sS l)), m4, m5, m6, m7] with
    | none => rw [q] at e; cases e
    | some ρ1 =>
      rw [q, bnd_some] at e
      rw [bnd_some, e, bnd_some, forO_nx]
      exact e2
theorem same_text {l : List Nat} (h : l.length ≤ 1000) (hc : ∀ c ∈ l, c < 1114112) : phi_law_same 12 [.str (sS l), .str (sS l)] = some (.sh (.bool true)) := same_ok 11 _ (by
  show (reprText (sS l)).length ≤ 1000000
  have := repr_len l hc
  omega)
theorem same_int {i : Int} (h : i64 i = true) : phi_law_same 12 [.int i, .int i] = some (.sh (.bool true)) := same_ok 11 _ h
theorem rots_one (l : List Nat) : rots [] l = l := rfl
theorem passed_ok {ws : List D} {l : List Nat} (b : BoxOk ws) (hl : l.length ≤ 1000) (hc : ∀ c ∈ l, c < 1114112) : ∃ ws', phi_law_passed ws [.str (sS l)] = some (.sh (.bool true), ws') ∧ BoxOk ws' := by
  have hL : l.length ≤ lim := by show _ ≤ 1000000; omega
  obtain ⟨r1, w1, e1, b1, h10, h11⟩ := draw_ok (many := 9) b (by decide)
  have zr : i62 r1 = true := i62_of (by omega) (by omega)
  obtain ⟨ys, ρ1, e2, ⟨w2, rfl, b2⟩, hy, hn⟩ := lc_invA (gg := gNm 6) (t := mYes) (el := l_law_passed_2) (vs := [6]) (ds := rangeD 0 r1) (ρ := [.io w1, .sh (.str (sS l)), .no, .no, .no, .no, .no, .no]) (PaI l) (fun d => ∃ z, d = .int z) (fun d _ ρ h => pick_turn hl d ρ h) ⟨w1, rfl, b1⟩ [] (by rw [rangeD_len]; show _ ≤ 1000000; simp; omega)
  obtain ⟨zs, rfl⟩ := ints_of hy
  rw [List.length_map, rangeD_len] at hn
  rw [List.nil_append] at e2
  obtain ⟨r3, w3, e3, b3, h30, h31⟩ := draw_ok (many := 2) b2 (by decide)
  -- all that follows, at any stations
  have rest : ∀ st : List Int, ∃ m4' m5' m6', forGo (gNm 4) b_law_passed_2 (st.map .int) [.io w3, .sh (.str (sS l)), .sh (.list (st.map .int)), .sh (.str (sS l)), .no, .no, .no, .no] = some (.nx, [.io w3, .sh (.str (sS l)), .sh (.list (st.map .int)), .sh (.str (sS (rots st l))), m4', m5', m6', .no]) := fun st => law_turns hl st l .no .no .no rfl .no .no .no
  have f1 : ∀ st : List Int, phi_relayed [.str (sS l), .list (st.map .int)] = some (.sh (.str (sS (rots st l)))) := fun st => relayed_ok st hl
  have f2 : ∀ st : List Int, phi_relay_back [.str (sS (rots st l)), .list (st.map .int)] = some (.sh (.str (sS l))) := fun st => by
    rw [back_ok st (by rw [(rots_back st l).2.1]; exact hl), (rots_back st l).1]
  have f3 : ∀ st : List Int, phi_law_same 12 [.str (sS (rots st l)), .str (sS (rots st l))] = some (.sh (.bool true)) := fun st =>
    same_text (by rw [(rots_back st l).2.1]; exact hl) fun c h => hc c ((rots_back st l).2.2 c h)
  have f4 : phi_relayed [.str (sS l), .list []] = some (.sh (.str (sS l))) := relayed_ok [] hl
  have f5 := same_text hl hc
  have f6 : ∀ st : List Int, neD (.list (st.map .int)) (.list (st.map .int)) = some false := fun st => neD_self (shaped_ints st)
  have f7 : ∀ st : List Int, eqD (.list (st.map .int)) (.list (st.map .int)) = some true := fun st => eqD_self (shaped_ints st)
  have z0 : (0 : Nat) ≤ lim := Nat.zero_le _
  refine ⟨w3, ?_, b3⟩
  unfold phi_law_passed
  rw [runIO_eq (by rfl)]
  unfold m_law_passed
  by_cases h3 : r3 = 0
  · subst h3
    obtain ⟨ys', e4, hy'⟩ := modes (l := l) (ws := w3) (m3 := .no) (m4 := .no) (m5 := .no) (m6 := .no) (m7 := .no) zs hl (by omega) rfl
    obtain ⟨m4', m5', m6', e5⟩ := rest ys'
    simp [e1, zr, e2, e3, e4, e5, f1, f2, f3, f4, f5, f6, f7, z0]
  · obtain ⟨m4', m5', m6', e5⟩ := rest zs
    simp [e1, zr, e2, e3, h3, e5, f1, f2, f3, f4, f5, f6, f7, z0]
end Law
/-! k59: lengths, the law -/
namespace Law
open PySem PySem.Spec PyProof.Rows L2 Mi
open PySem.W (alike alikeAll dataLt AlikeAll minD maxD)
set_option maxRecDepth 100000
set_option maxHeartbeats 1000000
theorem far_ok (t u : Int) : phi_law_far [.int t, .int u] = some (.sh (.int (farI t u))) := by
  unfold phi_law_far
  rw [runN_eq (by rfl)]
  unfold m_law_far
  simp [i64, farI, absI]
  repeat (any_goals rfl)
def LeI (u k : Int) (n : Nat) (ρ : En) : Prop := ∃ (ws : List D) (ts : List Int) (m4 m5 : M), ρ = [.io ws, .sh (.int u), .sh (.int k), .own (ts.map .int), m4, m5] ∧ BoxOk ws ∧ ts.length = n ∧ Shy m4 ∧ Shy m5
theorem len_turn {u k : Int} (hu : i64 u = true) (n : Nat) (ρ : En) (d : D) (h : LeI u k n ρ) (hn : n < 100) : ∃ ρ2, bnd (gNm 4 d ρ) b_law_lengths_1 = some (.nx, ρ2) ∧ LeI u k (n + 1) ρ2 := by
  obtain ⟨ws, ts, m4, m5, rfl, b, hl, h4, h5⟩ := h
  have hL : ts.length < lim := by show _ < 1000000; omega
  have z2 : 2 ≤ lim := by show _ ≤ 1000000; omega
  obtain ⟨r1, w1, e1, b1, h10, h11⟩ := draw_ok (many := 200) b (by decide)
  unfold b_law_lengths_1
  by_cases hk : 0 < k
  · obtain ⟨x, w2, e2, b2, hx⟩ := pick_ok (row := [.int 1, .int 3]) b1 (by simp)
    have hz : ∃ z, x = .int z := by
      simp at hx
      rcases hx with h | h <;> exact ⟨_, h⟩
    obtain ⟨z, rfl⟩ := hz
    by_cases hk2 : k = 2
    · obtain ⟨r3, w3, e3, b3, h30, h31⟩ := draw_ok (many := 5) b2 (by decide)
      subst hk2
      simp [shy_free h4, shy_free h5, e1, e2, e3, z2, hu, hL]
      exact ⟨_, ts ++ [_], _, _, (by rw [List.map_append]; rfl), b3, by simp [hl], .sh _, .sh _⟩
    · simp [shy_free h4, shy_free h5, e1, e2, z2, hu, hL, hk, hk2]
      exact ⟨_, ts ++ [_], _, _, (by rw [List.map_append]; rfl), b2, by simp [hl], .sh _, .sh _⟩
  · simp [shy_free h4, shy_free h5, e1, z2, hL, hk]
    exact ⟨_, ts ++ [_], _, _, (by rw [List.map_append]; rfl), b1, by simp [hl], .sh _, .sh _⟩
theorem lengths_ok {ws : List D} (b : BoxOk ws) : ∃ (u : Int) (ts : List Int) (ws' : List D), phi_law_lengths ws [] = some (.sh (.tuple [.int u, .list (ts.map .int)]), ws') ∧ BoxOk ws' ∧ 1 ≤ u ∧ u ≤ 40 ∧ ts.length ≤ 100 := by
  obtain ⟨r1, w1, e1, b1, h10, h11⟩ := draw_ok (many := 40) b (by decide)
  obtain ⟨r2, w2, e2, b2, h20, h21⟩ := draw_ok (many := 3) b1 (by decide)
  obtain ⟨r3, w3, e3, b3, h30, h31⟩ := draw_ok (many := 12) b2 (by decide)
  have z3 : i62 r3 = true := i62_of (by omega) (by omega)
  have z2 : 2 ≤ lim := by show _ ≤ 1000000; omega
  obtain ⟨ρ', e, ws', ts, m4, m5, rfl, b', hl, _, _⟩ := turns (S := LeI (1 + r1) r2) (g := gNm 4) (b := b_law_lengths_1) (ok := fun _ => True) 100 (fun n ρ d _ h hn => len_turn (i64_of (by omega) (by omega)) n ρ d h hn)
    (ds := rangeD 0 r3) (n := 0) (ρ := [.io w3, .sh (.int (1 + r1)), .sh (.int r2), .own [], .no, .no]) (fun _ _ => trivial) ⟨w3, [], _, _, rfl, b3, rfl, .no, .no⟩ (by rw [rangeD_len]; omega)
  rw [rangeD_len] at hl
  refine ⟨1 + r1, ts, ws', ?_, b', by omega, by omega, by omega⟩
  unfold phi_law_lengths
  rw [runIO_eq (by rfl)]
  unfold m_law_lengths
  simp [e1, e2, e3, z3, e, z2]
/-- keyed, as the law tells it -/
def tN (u : Int) : D → Option D
  | .int t => some (.str (sS (signOf (decide (t - u < u)))))
  | _ => none
theorem due_ok {m0 m1 m2 m3 m5 m7 m8 m9 m10 m11 m12 : M} {ts : List Int} {u : Int} (h : ts.length ≤ 1000) (h11 : Shy m11) :
    lcGo (gNm 11) mYes l_law_4 [11] (ts.map .int) [m0, m1, m2, m3, .sh (.list (ts.map .int)), m5, .sh (.int u), m7, m8, m9, m10, m11, m12] [] = some (ts.map fun t => .str (sS (signOf (decide (t - u < u)))), [m0, m1, m2, m3, .sh (.list (ts.map .int)), m5, .sh (.int u), m7, m8, m9, m10, m11, m12]) := by
  have e := lc_pure (gg := gNm 11) (t := mYes) (el := l_law_4) (vs := [11]) (ds := ts.map .int) (ρ := [m0, m1, m2, m3, .sh (.list (ts.map .int)), m5, .sh (.int u), m7, m8, m9, m10, m11, m12]) (tN u) (fun d hd => by
    obtain ⟨t, _, rfl⟩ := List.mem_map.mp hd
    unfold l_law_4
    by_cases hu : t - u < u
    · simp [tN, hu, signOf, dot_is]
    · simp [tN, hu, signOf, dash_is]) [] (by show _ ≤ 1000000; simp; omega)
  rw [List.nil_append] at e
  rw [e]
  congr 2
  rw [List.filterMap_map]
  exact filterMap_all _ ts
theorem signs_same (ts : List Int) (u : Int) : (ts.map fun t => signOf (decide (t - u < u))).flatten = keyedL ts u := by
  unfold keyedL
  congr 2
  funext t
  congr 1
  exact decide_eq_decide.mpr (by omega)
theorem keyed_same {ts : List Int} {u : Int} (h : ts.length ≤ 1000) : phi_law_same 12 [.str (sS (keyedL ts u)), .str (sS (keyedL ts u))] = some (.sh (.bool true)) :=
  same_text (by unfold keyedL; rw [signs_len]; exact h) fun c hc => by
    unfold keyedL at hc
    rcases signs_mem _ hc with rfl | rfl <;> omega
def HasL (ts : List Int) (m : M) : Prop := m = .own (ts.map .int) ∨ m = .sh (.list (ts.map .int))
theorem okM_shy {m : M} (h : Shy m) : okM (some m) = true := by cases h <;> rfl
theorem near_turn {m0 m1 m2 m3 m5 m6 m7 m8 m9 m10 m11 m12 : M} {ts : List Int} {u : Int} (h : ts.length ≤ 1000) (h5 : HasL ts m5) (h6 : Shy m6) (h7 : Shy m7) (h11 : Shy m11) :
    ∃ d, bnd (gNm 6 (.int u) [m0, m1, m2, m3, .sh (.list (ts.map .int)), m5, m6, m7, m8, m9, m10, m11, m12]) b_law_1 = some (.nx, [m0, m1, m2, m3, .sh (.list (ts.map .int)), .sh (.list (ts.map .int)), .sh (.int u), .sh d, m8, m9, m10, m11, m12]) := by
  have e1 := due_ok (m0 := m0) (m1 := m1) (m2 := m2) (m3 := m3) (m5 := m5) (m7 := m7) (m8 := m8) (m9 := m9) (m10 := m10) (m12 := m12) (u := u) h h11
  have e2 := join_signs (fun t => decide (t - u < u)) h
  rw [signs_same] at e2
  have e3 := keyed_ok (u := u) h
  have e4 := keyed_same (u := u) h
  have e5 := neD_self (shaped_ints ts)
  generalize (ts.map fun t => PyData.str (sS (signOf (decide (t - u < u))))) = zs at e1 e2
  unfold b_law_1
  rcases h5 with rfl | rfl
  · generalize ts.map PyData.int = ds at *
    simp [shy_free h6, shy_free h7, okM_shy h11, e1, e2, e3, e4, e5]
  · generalize ts.map PyData.int = ds at *
    simp [shy_free h6, shy_free h7, okM_shy h11, e1, e2, e3, e4, e5]
/-- the sums, as the law tells them -/
def tFa (u : Int) : D → Option D
  | .int t => some (.int (farI t u))
  | _ => none
def tSu (ts : List Int) : D → Option D
  | .int u => some (Mi.pairD (sumU ts u, u))
  | _ => none
theorem sums_law {m0 m1 m2 m3 m5 m6 m7 m8 m9 m10 m11 m12 : M} {ts : List Int} {most : Int} (h : ts.length ≤ 1000) (h0 : 1 ≤ most) (h1 : most ≤ 1000) (h11 : Shy m11) :
    lcGo (gNm 6) mYes l_law_3 [6] (rangeD 1 (most + 1)) [m0, m1, m2, m3, .sh (.list (ts.map .int)), m5, m6, m7, m8, m9, m10, m11, m12] [] = some (Mi.pairD (sumU ts 1, 1) :: ((rangeL 2 (most - 1).toNat).map fun i => (sumU ts i, i)).map Mi.pairD, [m0, m1, m2, m3, .sh (.list (ts.map .int)), m5, m6, m7, m8, m9, m10, m11, m12]) := by
  have e := lc_pure (gg := gNm 6) (t := mYes) (el := l_law_3) (vs := [6]) (ds := rangeD 1 (most + 1)) (ρ := [m0, m1, m2, m3, .sh (.list (ts.map .int)), m5, m6, m7, m8, m9, m10, m11, m12]) (tSu ts) (fun d hd => by
    obtain ⟨u, rfl, _, _⟩ := rangeD_mem hd
    have e := lc_pure (gg := gNm 11) (t := mYes) (el := l_law_2) (vs := [11]) (ds := ts.map .int) (ρ := [m0, m1, m2, m3, .sh (.list (ts.map .int)), m5, .sh (.int u), m7, m8, m9, m10, m11, m12]) (tF u) (fun d hd => by
      obtain ⟨t, _, rfl⟩ := List.mem_map.mp hd
      unfold l_law_2
      simp [tF, far_ok]) [] (by show _ ≤ 1000000; simp; omega)
    rw [List.nil_append, far_all] at e
    have z2 : 2 ≤ lim := by show _ ≤ 1000000; omega
    unfold l_law_3
    show _ = some (some (Mi.pairD (sumU ts u, u)), _)
    unfold sumU
    generalize (ts.map fun t => farI t u) = rs at e ⊢
    simp [e, okM_shy h11, Mi.pairD, z2]) [] (by show _ ≤ 1000000; rw [rangeD_len]; simp; omega)
  rw [List.nil_append, rangeD_map 1 (most + 1) (fun u => Mi.pairD (sumU ts u, u)) (tSu ts) (fun i => rfl)] at e
  rw [e]
  have en : (most + 1 - 1).toNat = (most - 1).toNat + 1 := by omega
  rw [en, rangeL_s, List.map_cons, List.map_map]
  rfl
end Law
/-! k59: the law -/
namespace Law
open PySem PySem.Spec PyProof.Rows L2 Mi
open PySem.W (alike alikeAll dataLt AlikeAll minD maxD)
set_option maxRecDepth 100000
set_option maxHeartbeats 1000000
theorem near3 {m0 m1 m2 m3 m5 m6 m7 m8 m9 m10 m11 m12 : M} {ts : List Int} (a b c : Int) (h : ts.length ≤ 1000) (h5 : HasL ts m5) (h6 : Shy m6) (h7 : Shy m7) (h11 : Shy m11) :
    ∃ d, forGo (gNm 6) b_law_1 [.int a, .int b, .int c] [m0, m1, m2, m3, .sh (.list (ts.map .int)), m5, m6, m7, m8, m9, m10, m11, m12] = some (.nx, [m0, m1, m2, m3, .sh (.list (ts.map .int)), .sh (.list (ts.map .int)), .sh (.int c), .sh d, m8, m9, m10, m11, m12]) := by
  have step : ∀ {g : MG} {n : MS'} {d : D} {ds : List D} {ρ ρ1 : En}, bnd (g d ρ) n = some (.nx, ρ1) → forGo g n (d :: ds) ρ = forGo g n ds ρ1 := by
    intro g n d ds ρ ρ1 e
    rw [forGo_cons]
    cases q : g d ρ with
    | none => rw [q] at e; cases e
    | some ρ2 =>
      rw [q, bnd_some] at e
      rw [bnd_some, e, bnd_some, forO_nx]
  obtain ⟨d1, e1⟩ := near_turn (m0 := m0) (m1 := m1) (m2 := m2) (m3 := m3) (m8 := m8) (m9 := m9) (m10 := m10) (m12 := m12) (u := a) h h5 h6 h7 h11
  obtain ⟨d2, e2⟩ := near_turn (m0 := m0) (m1 := m1) (m2 := m2) (m3 := m3) (m8 := m8) (m9 := m9) (m10 := m10) (m12 := m12) (u := b) h (.inr rfl) (.sh (.int a)) (.sh d1) h11
  obtain ⟨d3, e3⟩ := near_turn (m0 := m0) (m1 := m1) (m2 := m2) (m3 := m3) (m8 := m8) (m9 := m9) (m10 := m10) (m12 := m12) (u := c) h (.inr rfl) (.sh (.int b)) (.sh d2) h11
  exact ⟨d3, by rw [step e1, step e2, step e3, forGo_nil]⟩
theorem chars_of {P : Nat → Prop} : ∀ {ys : List D}, (∀ y ∈ ys, ∃ c, y = .str (sS [c]) ∧ P c) → ∃ cs : List Nat, ys = cs.map (fun c => .str (sS [c])) ∧ ∀ c ∈ cs, P c
  | [], _ => ⟨[], rfl, by simp⟩
  | y :: ys, h => by
    obtain ⟨c, rfl, hc⟩ := h y List.mem_cons_self
    obtain ⟨cs, rfl, hcs⟩ := chars_of fun y hy => h y (List.mem_cons_of_mem _ hy)
    exact ⟨c :: cs, rfl, fun x hx => by
      rcases List.mem_cons.mp hx with rfl | hx
      · exact hc
      · exact hcs x hx⟩
theorem join_chars {cs : List Nat} (h : cs.length ≤ 1000) : joinD (.str (Str.ofString "")) (.list (cs.map fun c => .str (sS [c]))) = some (.sh (.str (sS cs))) := by
  have e : (cs.map fun c => PyData.str (sS [c])) = ((cs.map fun c => [c]).map sS).map .str := by simp
  rw [e, join_empty, join_ok, sS_join]
  · congr 4
    induction cs with
    | nil => rfl
    | cons c r ih => rw [List.map_cons, List.flatten_cons, ih (by rw [List.length_cons] at h; omega) (by simp)]; rfl
  · have hs : ((((cs.map fun c => [c]).map sS).map (·.length))).sum = cs.length := by
      clear e h
      induction cs with
      | nil => rfl
      | cons t r ih => rw [List.map_cons, List.map_cons, List.map_cons, List.sum_cons, ih, List.length_cons, sS_len]; simp; omega
    rw [hs, sS_len]
    show _ ≤ 1000000
    simp
    omega
theorem msg_ok {m0 m2 m3 m4 m5 m6 m7 m8 m9 m10 m11 m12 : M} {ws : List D} (b : BoxOk ws) (k : Int) (hk : k ≤ 100) :
    ∃ (cs : List Nat) (ws' : List D), lcGo (gNm 12) mYes l_law_1 [12] (rangeD 0 k) [m0, .own ws, m2, m3, m4, m5, m6, m7, m8, m9, m10, m11, m12] [] = some (cs.map (fun c => .str (sS [c])), [m0, .own ws', m2, m3, m4, m5, m6, m7, m8, m9, m10, m11, m12]) ∧ BoxOk ws' ∧ cs.length ≤ 1000 ∧ ∀ c ∈ cs, c < 1114112 := by
  obtain ⟨ys, ρ1, e2, ⟨w2, rfl, b2⟩, hy, hn⟩ := lc_invA (gg := gNm 12) (t := mYes) (el := l_law_1) (vs := [12]) (ds := rangeD 0 k) (ρ := [m0, .own ws, m2, m3, m4, m5, m6, m7, m8, m9, m10, m11, m12])
    (fun ρ => ∃ ws, ρ = [m0, .own ws, m2, m3, m4, m5, m6, m7, m8, m9, m10, m11, m12] ∧ BoxOk ws) (fun d => ∃ c, d = .str (sS [c]) ∧ c < 1114112)
    (fun d _ ρ h => by
      obtain ⟨ws, rfl, b⟩ := h
      obtain ⟨c, w1, e1, b1, hc⟩ := picks_ok (z := sS [46, 45]) b (by simp) (by show _ ≤ 1000000; simp)
      refine ⟨.str ⟨#[c]⟩, _, ?_, ⟨w1, rfl, b1⟩, c, rfl, ?_⟩
      · unfold l_law_1
        simp [dd_is, e1]
      · simp at hc
        omega) ⟨ws, rfl, b⟩ [] (by rw [rangeD_len]; show _ ≤ 1000000; simp; omega)
  obtain ⟨cs, rfl, hc⟩ := chars_of hy
  rw [List.length_map, rangeD_len] at hn
  exact ⟨cs, w2, e2, b2, by omega, hc⟩
def Fre (m : M) : Prop := freeM (some m) = true
def LawI (ns : List Int) (ρ : En) : Prop := ∃ (ws : List D) (m2 m3 m4 m5 m6 m7 m8 m9 m10 m11 m12 : M), ρ = [.sh (frzD (ns.map .int)), .own ws, m2, m3, m4, m5, m6, m7, m8, m9, m10, m11, m12] ∧ BoxOk ws ∧ Fre m2 ∧ Fre m3 ∧ Fre m4 ∧ Fre m5 ∧ Shy m6 ∧ Shy m7 ∧ Fre m8 ∧ Fre m9 ∧ Fre m10 ∧ Shy m11 ∧ Shy m12
theorem law_turn2 {ns : List Int} (ρ : En) (d : D) (h : LawI ns ρ) : ∃ ρ2, bnd (gNm 2 d ρ) b_law_2 = some (.nx, ρ2) ∧ LawI ns ρ2 := by
  obtain ⟨ws, m2, m3, m4, m5, m6, m7, m8, m9, m10, m11, m12, rfl, b, h2, h3, h4, h5, h6, h7, h8, h9, h10, h11, h12⟩ := h
  obtain ⟨u, ts, w1, e1, b1, hu1, hu2, hts⟩ := lengths_ok b
  obtain ⟨r2, w2, e2, b2, h20, h21⟩ := draw_ok (many := 60) b1 (by decide)
  obtain ⟨r3, w3, e3, b3, h30, h31⟩ := draw_ok (many := 9) b2 (by decide)
  obtain ⟨dd, e4⟩ := near3 (m0 := .sh (frzD (ns.map .int))) (m1 := .own w3) (m2 := .sh d) (m3 := .sh (.int u)) (m5 := .own (ts.map .int)) (m8 := m8) (m9 := m9) (m10 := m10) (m12 := m12) u (1 + r2) (1 + r3) (by omega) (.inl rfl) h6 h7 h11
  obtain ⟨r5, w5, e5, b5, h50, h51⟩ := draw_ok (many := 40) b3 (by decide)
  obtain ⟨x, w6, e6, b6, hx⟩ := pick_ok (row := [.int u, .int (u + 3), .int (1 + r5), .int 40]) b5 (by simp)
  have hm : ∃ z, x = .int z ∧ 1 ≤ z ∧ z ≤ 50 := by
    simp at hx
    rcases hx with rfl | rfl | rfl | rfl <;> exact ⟨_, rfl, by omega, by omega⟩
  obtain ⟨most, rfl, hm1, hm2⟩ := hm
  have e7 := sums_law (m0 := .sh (frzD (ns.map .int))) (m1 := .own w6) (m2 := .sh d) (m3 := .sh (.int u)) (m5 := .sh (.list (ts.map .int))) (m6 := .sh (.int (1 + r3))) (m7 := .sh dd) (m8 := .sh (.int most)) (m9 := m9) (m10 := m10) (m12 := m12) (ts := ts) (most := most) (by omega) hm1 (by omega) h11
  obtain ⟨j, hj, e8, e9⟩ := best_ok (ts := ts) (most := most) (by omega) hm1 (by omega)
  have e10 := minLD_pairs (sumU ts 1, 1) ((rangeL 2 (most - 1).toNat).map fun i => (sumU ts i, i))
  rw [e9] at e10
  have e11 : phi_law_same 12 [.int (1 + (j : Int)), .int (1 + (j : Int))] = some (.sh (.bool true)) := same_int (i64_of (by omega) (by omega))
  have e12 := neD_self (shaped_ints ts)
  obtain ⟨x, w7, e13, b7, hx⟩ := pick_ok (row := [.int 14, .int 9, .int 5, .int 2, .int 1, .int 0]) b6 (by simp)
  have hk : ∃ z : Int, x = .int z ∧ 0 ≤ z ∧ z ≤ 50 := by
    simp at hx
    rcases hx with rfl | rfl | rfl | rfl | rfl | rfl <;> exact ⟨_, rfl, by omega, by omega⟩
  obtain ⟨k, rfl, hk0, hk1⟩ := hk
  have zk : i62 k = true := i62_of (by omega) (by omega)
  have zm : i62 (most + 1) = true := i62_of (by omega) (by omega)
  have z1 : i62 1 = true := by decide
  obtain ⟨cs, w8, e14, b8, hcl, hcc⟩ := msg_ok (m0 := .sh (frzD (ns.map .int))) (m2 := .sh d) (m3 := .sh (.int u)) (m4 := .sh (.list (ts.map .int))) (m5 := .sh (.list (ts.map .int))) (m6 := .sh (.int (1 + r3))) (m7 := .sh dd) (m8 := .sh (.int most)) (m9 := .own (Mi.pairD (sumU ts 1, 1) :: ((rangeL 2 (most - 1).toNat).map fun i => (sumU ts i, i)).map Mi.pairD)) (m10 := m10) (m11 := m11) (m12 := m12) b7 k (by omega)
  have e15 := join_chars hcl
  obtain ⟨w9, e16, b9⟩ := passed_ok b8 hcl hcc
  have y3 : ∀ n : Nat, n ≤ 6 → n ≤ lim := fun n h => by show _ ≤ 1000000; omega
  have y4 : (4 : Nat) ≤ lim := y3 4 (by omega)
  have y6 : (6 : Nat) ≤ lim := y3 6 (by omega)
  have y5 : (3 : Nat) ≤ lim := y3 3 (by omega)
  have hp : ∀ p : Int × Int, ∃ q : List D, Mi.pairD p = .tuple q ∧ q = [.int p.1, .int p.2] := fun p => ⟨_, rfl, rfl⟩
  have e17 : ixD (Mi.pairD (((rangeL 2 (most - 1).toNat).map (sumU ts)).foldl min (sumU ts 1), 1 + (j : Int))) (.int 1) = some (.sh (.int (1 + (j : Int)))) := rfl
  generalize (((rangeL 2 (most - 1).toNat).map fun i => (sumU ts i, i)).map Mi.pairD) = rr at e7 e10 e14
  generalize Mi.pairD (((rangeL 2 (most - 1).toNat).map (sumU ts)).foldl min (sumU ts 1), 1 + (j : Int)) = pp at e10 e17
  generalize Mi.pairD (sumU ts 1, 1) = p1 at e7 e10 e14
  generalize (cs.map fun c => PyData.str (sS [c])) = cc at e14 e15
  refine ⟨[.sh (frzD (ns.map .int)), .own w9, .sh d, .sh (.int u), .sh (.list (ts.map .int)), .sh (.list (ts.map .int)), .sh (.int (1 + r3)), .sh dd, .sh (.int most), .own (p1 :: rr), .sh (.str (sS cs)), m11, m12], ?_, ⟨w9, _, _, _, _, _, _, _, _, _, _, _, rfl, b9, rfl, rfl, rfl, rfl, .sh _, .sh _, rfl, rfl, rfl, h11, h12⟩⟩
  unfold Fre at h2 h3 h4 h5 h8 h9 h10
  generalize ts.map PyData.int = ds at *
  generalize frzD (ns.map PyData.int) = fz at *
  unfold b_law_2
  simp [-forGo_cons, h2, h3, h4, h5, h8, h9, h10, e1, e2, e3, e4, e5, e6, e7, e8, e10, e11, e12, e13, e14, e15, e16, e17, zk, zm, z1, y4, y5, y6, shy_free h6, okM_shy h11, okM_shy h12]
end Law
namespace Law
open PySem PySem.Spec PyProof.Rows L2 Mi
set_option maxRecDepth 100000
set_option maxHeartbeats 1000000
theorem main (ns : List Int) (hn : ns.length ≤ 63) : phi_law [frzD (ns.map .int)] = some (.sh (.bool true)) := by
  obtain ⟨ds, e1⟩ := digits_ok ns (b := 16) (by decide) (by decide)
  obtain ⟨ρ', e2, ws, m2, m3, m4, m5, m6, m7, m8, m9, m10, m11, m12, rfl, _⟩ := turns (S := fun _ => LawI ns) (g := gNm 2) (b := b_law_2) (ok := fun _ => True) 3 (fun n ρ d _ h _ => law_turn2 ρ d h) (ds := rangeD 0 3) (n := 0)
    (ρ := [.sh (frzD (ns.map .int)), .own [.list (ds.map .int), .int 0], .no, .no, .no, .no, .no, .no, .no, .no, .no, .no, .no]) (fun _ _ => trivial) ⟨_, _, _, _, _, _, _, _, _, _, _, _, rfl, box_ok ds, rfl, rfl, rfl, rfl, .no, .no, rfl, rfl, rfl, .no, .no⟩ (by rw [rangeD_len]; decide)
  have a1 : phi_keyed [.list [.int 3, .int 4, .int 5, .int 12], .int 2] = some (.sh (.str (Str.ofString ".---"))) := by
    have e := keyed_ok (ts := [3, 4, 5, 12]) (u := 2) (by decide)
    rw [show sS (keyedL [3, 4, 5, 12] 2) = Str.ofString ".---" by decide +kernel] at e
    exact e
  have a2 : phi_best_unit [.list [], .int 7] = some (.sh (.int 1)) := by
    obtain ⟨j, _, e, h⟩ := best_ok (ts := []) (most := 7) (by decide) (by decide) (by decide)
    have h2 := congrArg (fun p : Int × Int => p.2) h
    rw [show (minP (sumU [] 1, 1) ((rangeL 2 (7 - 1 : Int).toNat).map fun i => (sumU [] i, i))).2 = 1 by decide +kernel] at h2
    dsimp only at h2
    rw [← h2] at e
    exact e
  have a3 : phi_best_unit [.list [.int 4, .int 12], .int 20] = some (.sh (.int 4)) := by
    obtain ⟨j, _, e, h⟩ := best_ok (ts := [4, 12]) (most := 20) (by decide) (by decide) (by decide)
    have h2 := congrArg (fun p : Int × Int => p.2) h
    rw [show (minP (sumU [4, 12] 1, 1) ((rangeL 2 (20 - 1 : Int).toNat).map fun i => (sumU [4, 12] i, i))).2 = 4 by decide +kernel] at h2
    dsimp only at h2
    rw [← h2] at e
    exact e
  have b1 : phi_law_same 12 [.str (Str.ofString ".---"), .str (Str.ofString ".---")] = some (.sh (.bool true)) := same_ok 11 _ (by show _ ≤ 1000000; decide +kernel)
  have b2 : phi_law_same 12 [.int 1, .int 1] = some (.sh (.bool true)) := same_int (by decide)
  have b3 : phi_law_same 12 [.int 4, .int 4] = some (.sh (.bool true)) := same_int (by decide)
  have t1 : Str.ofString "..-" = sS [46, 46, 45] := by decide +kernel
  have t2 : Str.ofString "-.." = sS [45, 46, 46] := by decide +kernel
  have c1 : phi_relayed [.str (sS [46, 46, 45]), .list [.int 1]] = some (.sh (.str (sS [45, 46, 46]))) := by
    have e := relayed_ok [1] (l := [46, 46, 45]) (by decide)
    rw [show rots [1] [46, 46, 45] = [45, 46, 46] by decide +kernel] at e
    exact e
  have c2 : phi_relay_back [.str (sS [45, 46, 46]), .list [.int 1]] = some (.sh (.str (sS [46, 46, 45]))) := by
    have e := back_ok [1] (l := [45, 46, 46]) (by decide)
    rw [show lef (([1] : List Int).sum % (([45, 46, 46] : List Nat).length : Int)).toNat [45, 46, 46] = [46, 46, 45] by decide +kernel] at e
    exact e
  have c3 : phi_relayed [.str (sS []), .list [.int 3, .int 4]] = some (.sh (.str (sS []))) := by
    have e := relayed_ok [3, 4] (l := []) (by decide)
    rw [rots_nil] at e
    exact e
  have s1 : phi_law_same 12 [.str (sS [45, 46, 46]), .str (sS [45, 46, 46])] = some (.sh (.bool true)) := same_text (by decide) (by decide)
  have s2 : phi_law_same 12 [.str (sS [46, 46, 45]), .str (sS [46, 46, 45])] = some (.sh (.bool true)) := same_text (by decide) (by decide)
  have s3 : phi_law_same 12 [.str (sS []), .str (sS [])] = some (.sh (.bool true)) := same_text (by decide) (by decide)
  have y : ∀ n : Nat, n ≤ 6 → n ≤ lim := fun n h => by show _ ≤ 1000000; omega
  have y0 := y 0 (by omega)
  have y1 := y 1 (by omega)
  have y2 := y 2 (by omega)
  have y4 := y 4 (by omega)
  have z : i62 3 = true := by decide
  unfold phi_law
  rw [runN_eq (by rfl)]
  unfold m_law
  simp [e1, e2, a1, a2, a3, b1, b2, b3, t1, t2, c1, c2, c3, s1, s2, s3, y0, y1, y2, y4, z, join_empty]
end Law
/-! the walk: each def keeps its plain function (printed by gen.py) -/
namespace Law
open PySem PySem.Spec PyProof.Rows L2 Mi
set_option maxRecDepth 100000
set_option maxHeartbeats 4000000
def topS (i : Nat) : Stmt := PySem.Challenge.pw_postlands_k59_whole_messages_keyed_and_r.main.body.getD i (.Pass ⟨0, 0, 0, 0⟩)
abbrev s_keyed : Stmt := topS 1
theorem sc_keyed : FnScope ["times", "unit", "time"] ["times", "unit"] (defScope s_keyed) := ⟨rfl, rfl, rfl, by decide +kernel, rfl, by decide +kernel, by decide +kernel⟩
abbrev s_best_unit : Stmt := topS 2
theorem sc_best_unit : FnScope ["times", "most", "sums", "unit", "time"] ["times", "most"] (defScope s_best_unit) := ⟨rfl, rfl, rfl, by decide +kernel, rfl, by decide +kernel, by decide +kernel⟩
abbrev s_relayed : Stmt := topS 3
theorem sc_relayed : FnScope ["message", "stations", "many", "cut"] ["message", "stations"] (defScope s_relayed) := ⟨rfl, rfl, rfl, by decide +kernel, rfl, by decide +kernel, by decide +kernel⟩
abbrev s_relay_back : Stmt := topS 4
theorem sc_relay_back : FnScope ["message", "stations", "many"] ["message", "stations"] (defScope s_relay_back) := ⟨rfl, rfl, rfl, by decide +kernel, rfl, by decide +kernel, by decide +kernel⟩
abbrev s_law_cell : Stmt := topS 6
theorem sc_law_cell : FnScope ["script", "k"] ["script", "k"] (defScope s_law_cell) := ⟨rfl, rfl, rfl, by decide +kernel, rfl, by decide +kernel, by decide +kernel⟩
abbrev s_law_digits : Stmt := topS 7
theorem sc_law_digits : FnScope ["script", "first", "last", "digits", "k", "cell", "turn", "seed"] ["script", "first", "last"] (defScope s_law_digits) := ⟨rfl, rfl, rfl, by decide +kernel, rfl, by decide +kernel, by decide +kernel⟩
abbrev s_law_draw : Stmt := topS 8
theorem sc_law_draw : FnScope ["box", "many"] ["box", "many"] (defScope s_law_draw) := ⟨rfl, rfl, rfl, by decide +kernel, rfl, by decide +kernel, by decide +kernel⟩
abbrev s_law_pick : Stmt := topS 9
theorem sc_law_pick : FnScope ["box", "row"] ["box", "row"] (defScope s_law_pick) := ⟨rfl, rfl, rfl, by decide +kernel, rfl, by decide +kernel, by decide +kernel⟩
abbrev s_law_same : Stmt := topS 10
theorem sc_law_same : FnScope ["told", "due", "k"] ["told", "due"] (defScope s_law_same) := ⟨rfl, rfl, rfl, by decide +kernel, rfl, by decide +kernel, by decide +kernel⟩
abbrev s_law_far : Stmt := topS 11
theorem sc_law_far : FnScope ["length", "unit"] ["length", "unit"] (defScope s_law_far) := ⟨rfl, rfl, rfl, by decide +kernel, rfl, by decide +kernel, by decide +kernel⟩
abbrev s_law_lengths : Stmt := topS 12
theorem sc_law_lengths : FnScope ["box", "unit", "kind", "found", "k", "length"] ["box"] (defScope s_law_lengths) := ⟨rfl, rfl, rfl, by decide +kernel, rfl, by decide +kernel, by decide +kernel⟩
abbrev s_law_passed : Stmt := topS 13
theorem sc_law_passed : FnScope ["box", "message", "stations", "now", "many", "taken", "k", "handed"] ["box", "message"] (defScope s_law_passed) := ⟨rfl, rfl, rfl, by decide +kernel, rfl, by decide +kernel, by decide +kernel⟩
abbrev s_law : Stmt := topS 14
theorem sc_law : FnScope ["script", "box", "turn", "unit", "lengths", "handed", "near", "due", "most", "sums", "message", "length", "k"] ["script"] (defScope s_law) := ⟨rfl, rfl, rfl, by decide +kernel, rfl, by decide +kernel, by decide +kernel⟩
structure Txt (mg : Str → Option Value) : Prop where
  z_abs : mg "abs" = none
  z_bool : mg "bool" = none
  z_int : mg "int" = none
  z_isinstance : mg "isinstance" = none
  z_len : mg "len" = none
  z_list : mg "list" = none
  z_max : mg "max" = none
  z_min : mg "min" = none
  z_range : mg "range" = none
  z_repr : mg "repr" = none
  z_str : mg "str" = none
  z_sum : mg "sum" = none
  z_tuple : mg "tuple" = none
section
variable [KK] {P : Program} {w : World} {mg : Str → Option Value} {base : Heap} {f : Addr} {fd : FuncData}
theorem ok_keyed (T : Txt mg) (F : Fun KK.K "keyed" "keyed" s_keyed f fd) (mgf : mg "keyed" = some (.ref f))  : Cl P w mg base "keyed" 1 (spN phi_keyed) :=
  ⟨f, fd, ["times", "unit"], fn_mk F sc_keyed (fun cdv A outer s H E hr => (mss_cons (ms_ret (me_join me_str (me_lc (own := [("time", 2)]) rfl sc_keyed.nd (mi_of (me_var (pv 0))) (blkOk_by (N := ["times", "unit", "time"]) (sc := (defScope s_keyed)) (by decide +kernel)) (fun _ _ _ _ _ => (mg_name (pg_name (i := 2) sc_keyed.nd rfl (.inl rfl)))) (fun _ _ _ _ _ => mts_nil) (fun _ _ _ _ _ => (me_if (mt_cmp (cmp_lt (hu64 hr)) (me_var (pv 2)) (me_bin bin_mul me_int (me_var (pv 1))) (by rfl)) me_str me_str)))))
  mss_nil)) (runN_ok rfl rfl), mgf, F.kp, F.binds (ps := ["times", "unit"]) fun _ _ _ _ _ _ us hl => match us, hl with | [_, _], _ => rfl⟩
theorem ok_best_unit (T : Txt mg) (F : Fun KK.K "best_unit" "best_unit" s_best_unit f fd) (mgf : mg "best_unit" = some (.ref f))  : Cl P w mg base "best_unit" 1 (spN phi_best_unit) :=
  ⟨f, fd, ["times", "most"], fn_mk F sc_best_unit (fun cdv A outer s H E hr => (mss_cons (ms_setLc (i := 2) (own := [("unit", 3)]) rfl sc_best_unit.nd rfl rfl (sw_true rfl rfl rfl (by decide +kernel)) (mi_range2 (by rfl) (T.z_range) (ma_cons me_int (ma_cons (me_bin bin_add (me_var (pv 1)) me_int) ma_nil))) (blkOk_by (N := ["times", "most", "sums", "unit", "time"]) (sc := (defScope s_best_unit)) (by decide +kernel)) (fun _ _ _ _ _ => (mg_name (pg_name (i := 3) sc_best_unit.nd rfl (.inr rfl)))) (fun _ _ _ _ _ => mts_nil) (fun _ _ _ _ _ => (me_b1 (c_sum rfl) (by rfl) (T.z_sum) (by decide +kernel) (me_lc (own := [("time", 4)]) rfl sc_best_unit.nd (mi_of (me_var (pv 0))) (blkOk_by (N := ["times", "most", "sums", "unit", "time"]) (sc := (relS _ (defScope s_best_unit))) (by decide +kernel)) (fun _ _ _ _ _ => (mg_name (pg_name (i := 4) sc_best_unit.nd rfl (.inl rfl)))) (fun _ _ _ _ _ => mts_nil) (fun _ _ _ _ _ => (me_b2 (c_min2 rfl) (by rfl) (T.z_min) (by decide +kernel) (me_b1 c_abs (by rfl) (T.z_abs) (by decide +kernel) (me_bin bin_sub (me_var (pv 4)) (me_var (pv 3)))) (me_b1 c_abs (by rfl) (T.z_abs) (by decide +kernel) (me_bin bin_sub (me_var (pv 4)) (me_bin bin_mul me_int (me_var (pv 3)))))))))))
  (mss_cons (ms_ret (me_bin bin_add me_int (me_index (me_var (pv 2)) (me_b1 (c_min rfl (hu64 hr)) (by rfl) (T.z_min) (by decide +kernel) (me_var (pv 2))))))
  mss_nil))) (runN_ok rfl rfl), mgf, F.kp, F.binds (ps := ["times", "most"]) fun _ _ _ _ _ _ us hl => match us, hl with | [_, _], _ => rfl⟩
theorem ok_relayed (T : Txt mg) (F : Fun KK.K "relayed" "relayed" s_relayed f fd) (mgf : mg "relayed" = some (.ref f))  : Cl P w mg base "relayed" 1 (spN phi_relayed) :=
  ⟨f, fd, ["message", "stations"], fn_mk F sc_relayed (fun cdv A outer s H E hr => (mss_cons (ms_for PassesOwn.never rfl (mi_of (me_var (pv 1))) (mg_name (pg_name (i := 2) sc_relayed.nd rfl (.inl rfl)))
  (mss_cons (ms_set (i := 3) sc_relayed.nd rfl (.inl rfl) (me_if (mt_cmp (cmp_gt (hu64 hr)) (me_b1 c_len (by rfl) (T.z_len) (by decide +kernel) (me_var (pv 0))) me_int (by rfl)) (me_bin bin_mod (me_var (pv 2)) (me_b1 c_len (by rfl) (T.z_len) (by decide +kernel) (me_var (pv 0)))) me_int))
  (mss_cons (ms_set (i := 0) sc_relayed.nd rfl (.inl rfl) (me_bin bin_add (me_slice (me_var (pv 0)) (mp_some (me_bin bin_sub (me_b1 c_len (by rfl) (T.z_len) (by decide +kernel) (me_var (pv 0))) (me_var (pv 3)))) mp_none) (me_slice (me_var (pv 0)) mp_none (mp_some (me_bin bin_sub (me_b1 c_len (by rfl) (T.z_len) (by decide +kernel) (me_var (pv 0))) (me_var (pv 3)))))))
  mss_nil)))
  (mss_cons (ms_ret (me_var (pv 0)))
  mss_nil))) (runN_ok rfl rfl), mgf, F.kp, F.binds (ps := ["message", "stations"]) fun _ _ _ _ _ _ us hl => match us, hl with | [_, _], _ => rfl⟩
theorem ok_relay_back (T : Txt mg) (F : Fun KK.K "relay_back" "relay_back" s_relay_back f fd) (mgf : mg "relay_back" = some (.ref f))  : Cl P w mg base "relay_back" 1 (spN phi_relay_back) :=
  ⟨f, fd, ["message", "stations"], fn_mk F sc_relay_back (fun cdv A outer s H E hr => (mss_cons (ms_set (i := 2) sc_relay_back.nd rfl (.inl rfl) (me_if (mt_cmp (cmp_gt (hu64 hr)) (me_b1 c_len (by rfl) (T.z_len) (by decide +kernel) (me_var (pv 0))) me_int (by rfl)) (me_bin bin_mod (me_b1 (c_sum rfl) (by rfl) (T.z_sum) (by decide +kernel) (me_var (pv 1))) (me_b1 c_len (by rfl) (T.z_len) (by decide +kernel) (me_var (pv 0)))) me_int))
  (mss_cons (ms_ret (me_bin bin_add (me_slice (me_var (pv 0)) (mp_some (me_var (pv 2))) mp_none) (me_slice (me_var (pv 0)) mp_none (mp_some (me_var (pv 2))))))
  mss_nil))) (runN_ok rfl rfl), mgf, F.kp, F.binds (ps := ["message", "stations"]) fun _ _ _ _ _ _ us hl => match us, hl with | [_, _], _ => rfl⟩
theorem ok_law_cell (T : Txt mg) (F : Fun KK.K "_law_cell" "_law_cell" s_law_cell f fd) (mgf : mg "_law_cell" = some (.ref f))  : Cl P w mg base "_law_cell" 1 (spN phi_law_cell) :=
  ⟨f, fd, ["script", "k"], fn_mk F sc_law_cell (fun cdv A outer s H E hr => (mss_cons (ms_if (mt_cmp (cmp_lt (hu64 hr)) (me_var (pv 1)) (me_b1 c_len (by rfl) (T.z_len) (by decide +kernel) (me_var (pv 0))) (by rfl))
  (mss_cons (ms_ret (me_ix (me_var (pv 0)) (me_var (pv 1)) (fun _ _ => rfl)))
  mss_nil)
  mss_nil)
  (mss_cons (ms_ret me_int)
  mss_nil))) (runN_ok rfl rfl), mgf, F.kp, F.binds (ps := ["script", "k"]) fun _ _ _ _ _ _ us hl => match us, hl with | [_, _], _ => rfl⟩
theorem ok_law_digits (T : Txt mg) (F : Fun KK.K "_law_digits" "_law_digits" s_law_digits f fd) (mgf : mg "_law_digits" = some (.ref f)) (c_law_cell : Cl P w mg base "_law_cell" 1 (spN phi_law_cell)) : Cl P w mg base "_law_digits" 2 (spN phi_law_digits) :=
  ⟨f, fd, ["script", "first", "last"], fn_mk F sc_law_digits (fun cdv A outer s H E hr => (mss_cons (ms_set (i := 3) sc_law_digits.nd rfl (.inl rfl) (me_lst ma_nil))
  (mss_cons (ms_for PassesOwn.never rfl (mi_range2 (by rfl) (T.z_range) (ma_cons (me_var (pv 1)) (ma_cons (me_var (pv 2)) ma_nil))) (mg_name (pg_name (i := 4) sc_law_digits.nd rfl (.inl rfl)))
  (mss_cons (ms_set (i := 5) sc_law_digits.nd rfl (.inl rfl) (me_callC c_law_cell (hr.mono (by decide)) (by rfl) (ma_cons (me_var (pv 0)) (ma_cons (me_var (pv 4)) ma_nil))))
  (mss_cons (ms_if (mt_cmp (cmp_lt (hu64 hr)) (me_var (pv 5)) me_int (by rfl))
  (mss_cons (ms_set (i := 5) sc_law_digits.nd rfl (.inl rfl) (me_bin bin_sub me_int (me_bin bin_mul me_int (me_var (pv 5)))))
  mss_nil)
  mss_nil)
  (mss_cons (ms_if (mt_cmp (cmp_ge (hu64 hr)) (me_var (pv 5)) (me_bin bin_pow me_int me_int) (by rfl))
  (mss_cons (ms_for PassesOwn.never rfl (mi_range1 (by rfl) (T.z_range) (ma_cons me_int ma_nil)) (mg_name (pg_name (i := 6) sc_law_digits.nd rfl (.inl rfl)))
  (mss_cons (ms_if (mt_cmp (cmp_gt (hu64 hr)) (me_var (pv 5)) me_int (by rfl))
  (mss_cons (ms_expr (me_append (pv 3) (me_bin bin_mod (me_t1 c_int (by rfl) (T.z_int) (by decide +kernel) (me_var (pv 5))) me_int)))
  (mss_cons (ms_set (i := 5) sc_law_digits.nd rfl (.inl rfl) (me_bin bin_fdiv (me_var (pv 5)) me_int))
  mss_nil))
  mss_nil)
  mss_nil))
  mss_nil)
  (mss_cons (ms_set (i := 7) sc_law_digits.nd rfl (.inl rfl) (me_bin bin_mod (me_t1 c_int (by rfl) (T.z_int) (by decide +kernel) (me_bin bin_add (me_bin bin_add (me_bin bin_mul (me_var (pv 5)) me_int) (me_bin bin_mul (me_var (pv 4)) me_int)) me_int)) me_int))
  (mss_cons (ms_for PassesOwn.never rfl (mi_range1 (by rfl) (T.z_range) (ma_cons me_int ma_nil)) (mg_name (pg_name (i := 6) sc_law_digits.nd rfl (.inl rfl)))
  (mss_cons (ms_set (i := 7) sc_law_digits.nd rfl (.inl rfl) (me_bin bin_mod (me_t1 c_int (by rfl) (T.z_int) (by decide +kernel) (me_bin bin_add (me_bin bin_add (me_bin bin_mul (me_var (pv 7)) me_int) (me_bin bin_mul me_int (me_var (pv 6)))) me_int)) me_int))
  (mss_cons (ms_expr (me_append (pv 3) (me_bin bin_mod (me_t1 c_int (by rfl) (T.z_int) (by decide +kernel) (me_bin bin_fdiv (me_var (pv 7)) me_int)) me_int)))
  mss_nil)))
  mss_nil)))
  mss_nil))))
  (mss_cons (ms_ret (me_var (pv 3)))
  mss_nil)))) (runN_ok rfl rfl), mgf, F.kp, F.binds (ps := ["script", "first", "last"]) fun _ _ _ _ _ _ us hl => match us, hl with | [_, _, _], _ => rfl⟩
theorem ok_law_draw (T : Txt mg) (F : Fun KK.K "_law_draw" "_law_draw" s_law_draw f fd) (mgf : mg "_law_draw" = some (.ref f))  : Cl P w mg base "_law_draw" 1 (spIO phi_law_draw) :=
  ⟨f, fd, ["box", "many"], fn_mkIO F sc_law_draw (fun cdv A outer s H E hr => (mss_cons (ms_put (pv 0) me_int (me_bin bin_add (me_ix (me_var (pv 0)) me_int (fun _ _ => rfl)) me_int))
  (mss_cons (ms_if (mt_cmp (cmp_gt (hu64 hr)) (me_ix (me_var (pv 0)) me_int (fun _ _ => rfl)) (me_b1 c_len (by rfl) (T.z_len) (by decide +kernel) (me_ix (me_var (pv 0)) me_int (fun _ _ => rfl))) (by rfl))
  (mss_cons (ms_ret (me_bin bin_mod (me_t1 c_int (by rfl) (T.z_int) (by decide +kernel) (me_bin bin_add (me_bin bin_mul (me_ix (me_var (pv 0)) me_int (fun _ _ => rfl)) me_int) me_int)) (me_var (pv 1))))
  mss_nil)
  mss_nil)
  (mss_cons (ms_ret (me_bin bin_mod (me_t1 c_int (by rfl) (T.z_int) (by decide +kernel) (me_ix (me_ix (me_var (pv 0)) me_int (fun _ _ => rfl)) (me_bin bin_sub (me_ix (me_var (pv 0)) me_int (fun _ _ => rfl)) me_int) (fun _ _ => rfl))) (me_var (pv 1))))
  mss_nil)))) (runIO_ok rfl rfl), mgf, F.kp, F.binds (ps := ["box", "many"]) fun _ _ _ _ _ _ us hl => match us, hl with | [_, _], _ => rfl⟩
theorem ok_law_pick (T : Txt mg) (F : Fun KK.K "_law_pick" "_law_pick" s_law_pick f fd) (mgf : mg "_law_pick" = some (.ref f)) (c_law_draw : Cl P w mg base "_law_draw" 1 (spIO phi_law_draw)) : Cl P w mg base "_law_pick" 2 (spIO phi_law_pick) :=
  ⟨f, fd, ["box", "row"], fn_mkIO F sc_law_pick (fun cdv A outer s H E hr => (mss_cons (ms_ret (me_ix (me_var (pv 1)) (me_bin bin_mod (me_t1 c_int (by rfl) (T.z_int) (by decide +kernel) (me_callIOC c_law_draw (hr.mono (by decide)) (by rfl) (pv 0) (ma_cons me_int ma_nil))) (me_b1 c_len (by rfl) (T.z_len) (by decide +kernel) (me_var (pv 1)))) (fun _ _ => rfl)))
  mss_nil)) (runIO_ok rfl rfl), mgf, F.kp, F.binds (ps := ["box", "row"]) fun _ _ _ _ _ _ us hl => match us, hl with | [_, _], _ => rfl⟩
theorem ok_law_same (T : Txt mg) (F : Fun KK.K "_law_same" "_law_same" s_law_same f fd) (mgf : mg "_law_same" = some (.ref f))  : ∀ n, Cl P w mg base "_law_same" (n + 0) (spN (phi_law_same n))
  | 0 => ⟨f, fd, ["told", "due"], none_ok (fun _ => rfl), mgf, F.kp, F.binds (ps := ["told", "due"]) fun _ _ _ _ _ _ us hl => match us, hl with | [_, _], _ => rfl⟩
  | n + 1 => by
    have c_law_same := ok_law_same T F mgf  n
    exact ⟨f, fd, ["told", "due"], (fn_mk (k := n + 0) F sc_law_same (fun cdv A outer s H E hr => (mss_cons (ms_if (mt_cmp cmp_isD (me_var (pv 1)) me_non (by rfl))
  (mss_cons (ms_ret (me_cmp cmp_isD (me_var (pv 0)) me_non (by rfl)))
  mss_nil)
  mss_nil)
  (mss_cons (ms_if (mt_cmp cmp_isD (me_var (pv 1)) me_bl (by rfl))
  (mss_cons (ms_ret (me_cmp cmp_isD (me_var (pv 0)) me_bl (by rfl)))
  mss_nil)
  mss_nil)
  (mss_cons (ms_if (mt_cmp cmp_isD (me_var (pv 1)) me_bl (by rfl))
  (mss_cons (ms_ret (me_cmp cmp_isD (me_var (pv 0)) me_bl (by rfl)))
  mss_nil)
  mss_nil)
  (mss_cons (ms_if (mt_val (me_isi (by rfl) (T.z_isinstance) (by decide +kernel) (me_var (pv 1)) (by rfl) (T.z_str) (by decide +kernel)) (fun _ => rfl))
  (mss_cons (ms_ret (me_and (me_isi (by rfl) (T.z_isinstance) (by decide +kernel) (me_var (pv 0)) (by rfl) (T.z_str) (by decide +kernel)) (me_one (me_cmp (cmp_eq (hu64 hr)) (me_b1 c_repr (by rfl) (T.z_repr) (by decide +kernel) (me_var (pv 0))) (me_b1 c_repr (by rfl) (T.z_repr) (by decide +kernel) (me_var (pv 1))) (by rfl)))))
  mss_nil)
  mss_nil)
  (mss_cons (ms_if (mt_val (me_isi (by rfl) (T.z_isinstance) (by decide +kernel) (me_var (pv 1)) (by rfl) (T.z_int) (by decide +kernel)) (fun _ => rfl))
  (mss_cons (ms_ret (me_and (me_isi (by rfl) (T.z_isinstance) (by decide +kernel) (me_var (pv 0)) (by rfl) (T.z_int) (by decide +kernel)) (me_and (me_not (me_isi (by rfl) (T.z_isinstance) (by decide +kernel) (me_var (pv 0)) (by rfl) (T.z_bool) (by decide +kernel))) (me_one (me_cmp (cmp_eq (hu64 hr)) (me_b1 c_repr (by rfl) (T.z_repr) (by decide +kernel) (me_var (pv 0))) (me_b1 c_repr (by rfl) (T.z_repr) (by decide +kernel) (me_var (pv 1))) (by rfl))))))
  mss_nil)
  mss_nil)
  (mss_cons (ms_if (MW.mt (mw_or (MW.mt (mw_and (mt_val (me_isi (by rfl) (T.z_isinstance) (by decide +kernel) (me_var (pv 1)) (by rfl) (T.z_tuple) (by decide +kernel)) (fun _ => rfl)) (mw_and1 (mt_not (mt_val (me_isi (by rfl) (T.z_isinstance) (by decide +kernel) (me_var (pv 0)) (by rfl) (T.z_tuple) (by decide +kernel)) (fun _ => rfl)))))) (mw_or1 (MW.mt (mw_and (mt_val (me_isi (by rfl) (T.z_isinstance) (by decide +kernel) (me_var (pv 1)) (by rfl) (T.z_list) (by decide +kernel)) (fun _ => rfl)) (mw_and1 (mt_not (mt_val (me_isi (by rfl) (T.z_isinstance) (by decide +kernel) (me_var (pv 0)) (by rfl) (T.z_list) (by decide +kernel)) (fun _ => rfl)))))))))
  (mss_cons (ms_ret me_bl)
  mss_nil)
  mss_nil)
  (mss_cons (ms_if (mt_cmp (cmp_ne (hu64 hr)) (me_b1 c_len (by rfl) (T.z_len) (by decide +kernel) (me_var (pv 0))) (me_b1 c_len (by rfl) (T.z_len) (by decide +kernel) (me_var (pv 1))) (by rfl))
  (mss_cons (ms_ret me_bl)
  mss_nil)
  mss_nil)
  (mss_cons (ms_for PassesOwn.never rfl (mi_range1 (by rfl) (T.z_range) (ma_cons (me_b1 c_len (by rfl) (T.z_len) (by decide +kernel) (me_var (pv 1))) ma_nil)) (mg_name (pg_name (i := 2) sc_law_same.nd rfl (.inl rfl)))
  (mss_cons (ms_if (mt_not (mt_val (me_callC c_law_same (hr.mono (by omega)) (by rfl) (ma_cons (me_ix (me_var (pv 0)) (me_var (pv 2)) (fun _ _ => rfl)) (ma_cons (me_ix (me_var (pv 1)) (me_var (pv 2)) (fun _ _ => rfl)) ma_nil))) (fun _ => rfl)))
  (mss_cons (ms_ret me_bl)
  mss_nil)
  mss_nil)
  mss_nil))
  (mss_cons (ms_ret me_bl)
  mss_nil)))))))))) (runN_ok rfl rfl)).mono (by omega), mgf, F.kp, F.binds (ps := ["told", "due"]) fun _ _ _ _ _ _ us hl => match us, hl with | [_, _], _ => rfl⟩
theorem ok_law_far (T : Txt mg) (F : Fun KK.K "_law_far" "_law_far" s_law_far f fd) (mgf : mg "_law_far" = some (.ref f))  : Cl P w mg base "_law_far" 1 (spN phi_law_far) :=
  ⟨f, fd, ["length", "unit"], fn_mk F sc_law_far (fun cdv A outer s H E hr => (mss_cons (ms_ret (me_b2 (c_min2 rfl) (by rfl) (T.z_min) (by decide +kernel) (me_b1 c_abs (by rfl) (T.z_abs) (by decide +kernel) (me_bin bin_sub (me_var (pv 0)) (me_var (pv 1)))) (me_b1 c_abs (by rfl) (T.z_abs) (by decide +kernel) (me_bin bin_sub (me_var (pv 0)) (me_bin bin_mul me_int (me_var (pv 1)))))))
  mss_nil)) (runN_ok rfl rfl), mgf, F.kp, F.binds (ps := ["length", "unit"]) fun _ _ _ _ _ _ us hl => match us, hl with | [_, _], _ => rfl⟩
theorem ok_law_lengths (T : Txt mg) (F : Fun KK.K "_law_lengths" "_law_lengths" s_law_lengths f fd) (mgf : mg "_law_lengths" = some (.ref f)) (c_law_draw : Cl P w mg base "_law_draw" 1 (spIO phi_law_draw)) (c_law_pick : Cl P w mg base "_law_pick" 2 (spIO phi_law_pick)) : Cl P w mg base "_law_lengths" 3 (spIO phi_law_lengths) :=
  ⟨f, fd, ["box"], fn_mkIO F sc_law_lengths (fun cdv A outer s H E hr => (mss_cons (ms_set (i := 1) sc_law_lengths.nd rfl (.inl rfl) (me_bin bin_add me_int (me_callIOC c_law_draw (hr.mono (by decide)) (by rfl) (pv 0) (ma_cons me_int ma_nil))))
  (mss_cons (ms_set (i := 2) sc_law_lengths.nd rfl (.inl rfl) (me_callIOC c_law_draw (hr.mono (by decide)) (by rfl) (pv 0) (ma_cons me_int ma_nil)))
  (mss_cons (ms_set (i := 3) sc_law_lengths.nd rfl (.inl rfl) (me_lst ma_nil))
  (mss_cons (ms_for PassesOwn.never rfl (mi_range1 (by rfl) (T.z_range) (ma_cons (me_callIOC c_law_draw (hr.mono (by decide)) (by rfl) (pv 0) (ma_cons me_int ma_nil)) ma_nil)) (mg_name (pg_name (i := 4) sc_law_lengths.nd rfl (.inl rfl)))
  (mss_cons (ms_set (i := 5) sc_law_lengths.nd rfl (.inl rfl) (me_bin bin_add me_int (me_callIOC c_law_draw (hr.mono (by decide)) (by rfl) (pv 0) (ma_cons me_int ma_nil))))
  (mss_cons (ms_if (mt_cmp (cmp_gt (hu64 hr)) (me_var (pv 2)) me_int (by rfl))
  (mss_cons (ms_set (i := 5) sc_law_lengths.nd rfl (.inl rfl) (me_bin bin_add (me_bin bin_mul (me_var (pv 1)) (me_callIOC c_law_pick (hr.mono (by decide)) (by rfl) (pv 0) (ma_cons (me_lst (ma_cons me_int (ma_cons me_int ma_nil))) ma_nil))) (me_if (mt_cmp (cmp_eq (hu64 hr)) (me_var (pv 2)) me_int (by rfl)) (me_bin bin_sub (me_callIOC c_law_draw (hr.mono (by decide)) (by rfl) (pv 0) (ma_cons me_int ma_nil)) me_int) me_int)))
  mss_nil)
  mss_nil)
  (mss_cons (ms_expr (me_append (pv 3) (me_b2 (c_max2 rfl) (by rfl) (T.z_max) (by decide +kernel) me_int (me_var (pv 5)))))
  mss_nil))))
  (mss_cons (ms_ret (me_tup (ma_cons (me_var (pv 1)) (ma_cons (me_var (pv 3)) ma_nil))))
  mss_nil)))))) (runIO_ok rfl rfl), mgf, F.kp, F.binds (ps := ["box"]) fun _ _ _ _ _ _ us hl => match us, hl with | [_], _ => rfl⟩
theorem ok_law_passed (T : Txt mg) (F : Fun KK.K "_law_passed" "_law_passed" s_law_passed f fd) (mgf : mg "_law_passed" = some (.ref f)) (c_law_pick : Cl P w mg base "_law_pick" 2 (spIO phi_law_pick)) (c_law_draw : Cl P w mg base "_law_draw" 1 (spIO phi_law_draw)) (c_law_same : Cl P w mg base "_law_same" 12 (spN (phi_law_same 12))) (c_relay_back : Cl P w mg base "relay_back" 1 (spN phi_relay_back)) (c_relayed : Cl P w mg base "relayed" 1 (spN phi_relayed)) : Cl P w mg base "_law_passed" 13 (spIO phi_law_passed) :=
  ⟨f, fd, ["box", "message"], fn_mkIO F sc_law_passed (fun cdv A outer s H E hr => (mss_cons (ms_setLc (i := 2) (own := [("k", 6)]) rfl sc_law_passed.nd rfl rfl (sw_true rfl rfl rfl (by decide +kernel)) (mi_range1 (by rfl) (T.z_range) (ma_cons (me_callIOC c_law_draw (hr.mono (by decide)) (by rfl) (pv 0) (ma_cons me_int ma_nil)) ma_nil)) (blkOk_by (N := ["box", "message", "stations", "now", "many", "taken", "k", "handed"]) (sc := (defScope s_law_passed)) (by decide +kernel)) (fun _ _ _ _ _ => (mg_name (pg_name (i := 6) sc_law_passed.nd rfl (.inl rfl)))) (fun _ _ _ _ _ => mts_nil) (fun _ _ _ _ _ => (me_callIOC c_law_pick (hr.mono (by decide)) (by rfl) (pv 0) (ma_cons (me_lst (ma_cons (me_callIOC c_law_draw (hr.mono (by decide)) (by rfl) (pv 0) (ma_cons me_int ma_nil)) (ma_cons me_int (ma_cons me_int (ma_cons (me_b1 c_len (by rfl) (T.z_len) (by decide +kernel) (me_var (pv 1))) (ma_cons (me_bin bin_add (me_b1 c_len (by rfl) (T.z_len) (by decide +kernel) (me_var (pv 1))) (me_callIOC c_law_draw (hr.mono (by decide)) (by rfl) (pv 0) (ma_cons me_int ma_nil))) (ma_cons me_int ma_nil))))))) ma_nil))))
  (mss_cons (ms_if (mt_cmp (cmp_eq (hu64 hr)) (me_callIOC c_law_draw (hr.mono (by decide)) (by rfl) (pv 0) (ma_cons me_int ma_nil)) me_int (by rfl))
  (mss_cons (ms_setLc (i := 2) (own := [("many", 4)]) rfl sc_law_passed.nd rfl rfl (sw_true rfl rfl rfl (by decide +kernel)) (mi_of (me_var (pv 2))) (blkOk_by (N := ["box", "message", "stations", "now", "many", "taken", "k", "handed"]) (sc := (defScope s_law_passed)) (by decide +kernel)) (fun _ _ _ _ _ => (mg_name (pg_name (i := 4) sc_law_passed.nd rfl (.inl rfl)))) (fun _ _ _ _ _ => mts_nil) (fun _ _ _ _ _ => (me_bin bin_mod (me_t1 c_int (by rfl) (T.z_int) (by decide +kernel) (me_var (pv 4))) (me_b2 (c_max2 rfl) (by rfl) (T.z_max) (by decide +kernel) me_int (me_b1 c_len (by rfl) (T.z_len) (by decide +kernel) (me_var (pv 1)))))))
  mss_nil)
  mss_nil)
  (mss_cons (ms_set (i := 3) sc_law_passed.nd rfl (.inl rfl) (me_var (pv 1)))
  (mss_cons (ms_for PassesOwn.never rfl (mi_of (me_var (pv 2))) (mg_name (pg_name (i := 4) sc_law_passed.nd rfl (.inl rfl)))
  (mss_cons (ms_set (i := 5) sc_law_passed.nd rfl (.inl rfl) me_str)
  (mss_cons (ms_if (mt_cmp (cmp_gt (hu64 hr)) (me_b1 c_len (by rfl) (T.z_len) (by decide +kernel) (me_var (pv 1))) me_int (by rfl))
  (mss_cons (ms_for PassesOwn.never rfl (mi_range1 (by rfl) (T.z_range) (ma_cons (me_bin bin_mod (me_t1 c_int (by rfl) (T.z_int) (by decide +kernel) (me_var (pv 4))) (me_b1 c_len (by rfl) (T.z_len) (by decide +kernel) (me_var (pv 1)))) ma_nil)) (mg_name (pg_name (i := 6) sc_law_passed.nd rfl (.inl rfl)))
  (mss_cons (ms_set (i := 5) sc_law_passed.nd rfl (.inl rfl) (me_bin bin_add (me_slice (me_var (pv 3)) (mp_some (me_bin bin_sub (me_b1 c_len (by rfl) (T.z_len) (by decide +kernel) (me_var (pv 3))) me_int)) mp_none) (me_var (pv 5))))
  (mss_cons (ms_set (i := 3) sc_law_passed.nd rfl (.inl rfl) (me_slice (me_var (pv 3)) mp_none (mp_some (me_bin bin_sub (me_b1 c_len (by rfl) (T.z_len) (by decide +kernel) (me_var (pv 3))) me_int))))
  mss_nil)))
  mss_nil)
  mss_nil)
  (mss_cons (ms_set (i := 3) sc_law_passed.nd rfl (.inl rfl) (me_bin bin_add (me_var (pv 5)) (me_var (pv 3))))
  mss_nil))))
  (mss_cons (ms_set (i := 7) sc_law_passed.nd rfl (.inl rfl) (me_t1 c_list (by rfl) (T.z_list) (by decide +kernel) (me_var (pv 2))))
  (mss_cons (ms_if (MW.mt (mw_or (mt_not (mt_val (me_callC c_law_same (hr.mono (by decide)) (by rfl) (ma_cons (me_callC c_relayed (hr.mono (by decide)) (by rfl) (ma_cons (me_var (pv 1)) (ma_cons (me_var (pv 7)) ma_nil))) (ma_cons (me_var (pv 3)) ma_nil))) (fun _ => rfl))) (mw_or1 (mt_cmp (cmp_ne (hu64 hr)) (me_var (pv 7)) (me_var (pv 2)) (by rfl)))))
  (mss_cons (ms_ret me_bl)
  mss_nil)
  mss_nil)
  (mss_cons (ms_ret (me_and (me_callC c_law_same (hr.mono (by decide)) (by rfl) (ma_cons (me_callC c_relay_back (hr.mono (by decide)) (by rfl) (ma_cons (me_var (pv 3)) (ma_cons (me_var (pv 7)) ma_nil))) (ma_cons (me_var (pv 1)) ma_nil))) (me_and (me_callC c_law_same (hr.mono (by decide)) (by rfl) (ma_cons (me_callC c_relayed (hr.mono (by decide)) (by rfl) (ma_cons (me_var (pv 1)) (ma_cons (me_lst ma_nil) ma_nil))) (ma_cons (me_var (pv 1)) ma_nil))) (me_one (me_cmp (cmp_eq (hu64 hr)) (me_var (pv 7)) (me_var (pv 2)) (by rfl))))))
  mss_nil)))))))) (runIO_ok rfl rfl), mgf, F.kp, F.binds (ps := ["box", "message"]) fun _ _ _ _ _ _ us hl => match us, hl with | [_, _], _ => rfl⟩
theorem ok_law (T : Txt mg) (F : Fun KK.K "law" "law" s_law f fd) (c_law_digits : Cl P w mg base "_law_digits" 2 (spN phi_law_digits)) (c_law_lengths : Cl P w mg base "_law_lengths" 3 (spIO phi_law_lengths)) (c_law_pick : Cl P w mg base "_law_pick" 2 (spIO phi_law_pick)) (c_law_same : Cl P w mg base "_law_same" 12 (spN (phi_law_same 12))) (c_law_passed : Cl P w mg base "_law_passed" 13 (spIO phi_law_passed)) (c_relayed : Cl P w mg base "relayed" 1 (spN phi_relayed)) (c_relay_back : Cl P w mg base "relay_back" 1 (spN phi_relay_back)) (c_law_draw : Cl P w mg base "_law_draw" 1 (spIO phi_law_draw)) (c_keyed : Cl P w mg base "keyed" 1 (spN phi_keyed)) (c_best_unit : Cl P w mg base "best_unit" 1 (spN phi_best_unit)) (c_law_far : Cl P w mg base "_law_far" 1 (spN phi_law_far)) : FnOk P w KK.K mg base CX0 14 f fd ["script"] (spN phi_law) :=
  fn_mk F sc_law (fun cdv A outer s H E hr => (mss_cons (ms_set (i := 1) sc_law.nd rfl (.inr rfl) (me_lst (ma_cons (me_callC c_law_digits (hr.mono (by decide)) (by rfl) (ma_cons (me_var (pv 0)) (ma_cons me_int (ma_cons me_int ma_nil)))) (ma_cons me_int ma_nil))))
  (mss_cons (ms_for PassesOwn.never rfl (mi_range1 (by rfl) (T.z_range) (ma_cons me_int ma_nil)) (mg_name (pg_name (i := 2) sc_law.nd rfl (.inl rfl)))
  (mss_cons (ms_asg (me_callIOC c_law_lengths (hr.mono (by decide)) (by rfl) (pv 1) ma_nil) (mg_tup rfl (mgs_cons (mg_name (pg_name (i := 3) sc_law.nd rfl (.inl rfl))) (mgs_cons (mg_name (pg_name (i := 4) sc_law.nd rfl (.inr rfl))) mgs_nil))))
  (mss_cons (ms_set (i := 5) sc_law.nd rfl (.inl rfl) (me_t1 c_list (by rfl) (T.z_list) (by decide +kernel) (me_var (pv 4))))
  (mss_cons (ms_for PassesOwn.never rfl (mi_of (me_lst (ma_cons (me_var (pv 3)) (ma_cons (me_bin bin_add me_int (me_callIOC c_law_draw (hr.mono (by decide)) (by rfl) (pv 1) (ma_cons me_int ma_nil))) (ma_cons (me_bin bin_add me_int (me_callIOC c_law_draw (hr.mono (by decide)) (by rfl) (pv 1) (ma_cons me_int ma_nil))) ma_nil))))) (mg_name (pg_name (i := 6) sc_law.nd rfl (.inr rfl)))
  (mss_cons (ms_set (i := 7) sc_law.nd rfl (.inl rfl) (me_join me_str (me_lc (own := [("length", 11)]) rfl sc_law.nd (mi_of (me_var (pv 4))) (blkOk_by (N := ["script", "box", "turn", "unit", "lengths", "handed", "near", "due", "most", "sums", "message", "length", "k"]) (sc := (defScope s_law)) (by decide +kernel)) (fun _ _ _ _ _ => (mg_name (pg_name (i := 11) sc_law.nd rfl (.inl rfl)))) (fun _ _ _ _ _ => mts_nil) (fun _ _ _ _ _ => (me_if (mt_cmp (cmp_lt (hu64 hr)) (me_bin bin_sub (me_var (pv 11)) (me_var (pv 6))) (me_var (pv 6)) (by rfl)) me_str me_str)))))
  (mss_cons (ms_if (MW.mt (mw_or (mt_not (mt_val (me_callC c_law_same (hr.mono (by decide)) (by rfl) (ma_cons (me_callC c_keyed (hr.mono (by decide)) (by rfl) (ma_cons (me_var (pv 5)) (ma_cons (me_var (pv 6)) ma_nil))) (ma_cons (me_var (pv 7)) ma_nil))) (fun _ => rfl))) (mw_or1 (mt_cmp (cmp_ne (hu64 hr)) (me_var (pv 5)) (me_var (pv 4)) (by rfl)))))
  (mss_cons (ms_ret me_bl)
  mss_nil)
  mss_nil)
  mss_nil)))
  (mss_cons (ms_set (i := 8) sc_law.nd rfl (.inl rfl) (me_callIOC c_law_pick (hr.mono (by decide)) (by rfl) (pv 1) (ma_cons (me_lst (ma_cons (me_var (pv 3)) (ma_cons (me_bin bin_add (me_var (pv 3)) me_int) (ma_cons (me_bin bin_add me_int (me_callIOC c_law_draw (hr.mono (by decide)) (by rfl) (pv 1) (ma_cons me_int ma_nil))) (ma_cons me_int ma_nil))))) ma_nil)))
  (mss_cons (ms_setLc (i := 9) (own := [("near", 6)]) rfl sc_law.nd rfl rfl (sw_true rfl rfl rfl (by decide +kernel)) (mi_range2 (by rfl) (T.z_range) (ma_cons me_int (ma_cons (me_bin bin_add (me_var (pv 8)) me_int) ma_nil))) (blkOk_by (N := ["script", "box", "turn", "unit", "lengths", "handed", "near", "due", "most", "sums", "message", "length", "k"]) (sc := (defScope s_law)) (by decide +kernel)) (fun _ _ _ _ _ => (mg_name (pg_name (i := 6) sc_law.nd rfl (.inr rfl)))) (fun _ _ _ _ _ => mts_nil) (fun _ _ _ _ _ => (me_tup (ma_cons (me_b1 (c_sum rfl) (by rfl) (T.z_sum) (by decide +kernel) (me_lc (own := [("length", 11)]) rfl sc_law.nd (mi_of (me_var (pv 4))) (blkOk_by (N := ["script", "box", "turn", "unit", "lengths", "handed", "near", "due", "most", "sums", "message", "length", "k"]) (sc := (relS _ (defScope s_law))) (by decide +kernel)) (fun _ _ _ _ _ => (mg_name (pg_name (i := 11) sc_law.nd rfl (.inl rfl)))) (fun _ _ _ _ _ => mts_nil) (fun _ _ _ _ _ => (me_callC c_law_far (hr.mono (by decide)) (by rfl) (ma_cons (me_var (pv 11)) (ma_cons (me_var (pv 6)) ma_nil)))))) (ma_cons (me_var (pv 6)) ma_nil)))))
  (mss_cons (ms_if (MW.mt (mw_or (mt_not (mt_val (me_callC c_law_same (hr.mono (by decide)) (by rfl) (ma_cons (me_callC c_best_unit (hr.mono (by decide)) (by rfl) (ma_cons (me_var (pv 5)) (ma_cons (me_var (pv 8)) ma_nil))) (ma_cons (me_ix (me_b1 (c_min rfl (hu64 hr)) (by rfl) (T.z_min) (by decide +kernel) (me_var (pv 9))) me_int (fun _ _ => rfl)) ma_nil))) (fun _ => rfl))) (mw_or1 (mt_cmp (cmp_ne (hu64 hr)) (me_var (pv 5)) (me_var (pv 4)) (by rfl)))))
  (mss_cons (ms_ret me_bl)
  mss_nil)
  mss_nil)
  (mss_cons (ms_set (i := 10) sc_law.nd rfl (.inl rfl) (me_join me_str (me_lc (own := [("k", 12)]) rfl sc_law.nd (mi_range1 (by rfl) (T.z_range) (ma_cons (me_callIOC c_law_pick (hr.mono (by decide)) (by rfl) (pv 1) (ma_cons (me_lst (ma_cons me_int (ma_cons me_int (ma_cons me_int (ma_cons me_int (ma_cons me_int (ma_cons me_int ma_nil))))))) ma_nil)) ma_nil)) (blkOk_by (N := ["script", "box", "turn", "unit", "lengths", "handed", "near", "due", "most", "sums", "message", "length", "k"]) (sc := (defScope s_law)) (by decide +kernel)) (fun _ _ _ _ _ => (mg_name (pg_name (i := 12) sc_law.nd rfl (.inl rfl)))) (fun _ _ _ _ _ => mts_nil) (fun _ _ _ _ _ => (me_callIOC c_law_pick (hr.mono (by decide)) (by rfl) (pv 1) (ma_cons me_str ma_nil))))))
  (mss_cons (ms_if (mt_not (mt_val (me_callIOC c_law_passed (hr.mono (by decide)) (by rfl) (pv 1) (ma_cons (me_var (pv 10)) ma_nil)) (fun _ => rfl)))
  (mss_cons (ms_ret me_bl)
  mss_nil)
  mss_nil)
  mss_nil)))))))))
  (mss_cons (ms_if (MW.mt (mw_or (mt_not (mt_val (me_callC c_law_same (hr.mono (by decide)) (by rfl) (ma_cons (me_callC c_keyed (hr.mono (by decide)) (by rfl) (ma_cons (me_lst (ma_cons me_int (ma_cons me_int (ma_cons me_int (ma_cons me_int ma_nil))))) (ma_cons me_int ma_nil))) (ma_cons me_str ma_nil))) (fun _ => rfl))) (mw_or (mt_not (mt_val (me_callC c_law_same (hr.mono (by decide)) (by rfl) (ma_cons (me_callC c_best_unit (hr.mono (by decide)) (by rfl) (ma_cons (me_lst ma_nil) (ma_cons me_int ma_nil))) (ma_cons me_int ma_nil))) (fun _ => rfl))) (mw_or1 (mt_not (mt_val (me_callC c_law_same (hr.mono (by decide)) (by rfl) (ma_cons (me_callC c_best_unit (hr.mono (by decide)) (by rfl) (ma_cons (me_lst (ma_cons me_int (ma_cons me_int ma_nil))) (ma_cons me_int ma_nil))) (ma_cons me_int ma_nil))) (fun _ => rfl)))))))
  (mss_cons (ms_ret me_bl)
  mss_nil)
  mss_nil)
  (mss_cons (ms_ret (me_and (me_callC c_law_same (hr.mono (by decide)) (by rfl) (ma_cons (me_callC c_relayed (hr.mono (by decide)) (by rfl) (ma_cons me_str (ma_cons (me_lst (ma_cons me_int ma_nil)) ma_nil))) (ma_cons me_str ma_nil))) (me_and (me_callC c_law_same (hr.mono (by decide)) (by rfl) (ma_cons (me_callC c_relay_back (hr.mono (by decide)) (by rfl) (ma_cons me_str (ma_cons (me_lst (ma_cons me_int ma_nil)) ma_nil))) (ma_cons me_str ma_nil))) (me_one (me_callC c_law_same (hr.mono (by decide)) (by rfl) (ma_cons (me_callC c_relayed (hr.mono (by decide)) (by rfl) (ma_cons me_str (ma_cons (me_lst (ma_cons me_int (ma_cons me_int ma_nil))) ma_nil))) (ma_cons me_str ma_nil)))))))
  mss_nil))))) (runN_ok rfl rfl)
end
theorem all_mk {l : PySem.W.OpenLaw} {w : World} {K : PySem.W.Frag} {h : Heap} {mg : Str → Option Value} {fa f1 f2 f3 f4 f5 f6 f7 f8 f9 f10 f11 f12 f13 : Addr} (X : K.In h) (G : h.Ns mainGlobals mg) (hfa : mg "law" = some (.ref fa))
    {od1 an1 od2 an2 od3 an3 od4 an4 od5 an5 od6 an6 od7 an7 od8 an8 od9 an9 od10 an10 od11 an11 od12 an12 od13 an13 : Option Addr} {sl1 sl2 sl3 sl4 sl5 sl6 sl7 sl8 sl9 sl10 sl11 sl12 sl13 : Array (Option Value)} {oc1 kV1 dc1 pm1 cd1 ct1 oc2 kV2 dc2 pm2 cd2 ct2 oc3 kV3 dc3 pm3 cd3 ct3 oc4 kV4 dc4 pm4 cd4 ct4 oc5 kV5 dc5 pm5 cd5 ct5 oc6 kV6 dc6 pm6 cd6 ct6 oc7 kV7 dc7 pm7 cd7 ct7 oc8 kV8 dc8 pm8 cd8 ct8 oc9 kV9 dc9 pm9 cd9 ct9 oc10 kV10 dc10 pm10 cd10 ct10 oc11 kV11 dc11 pm11 cd11 ct11 oc12 kV12 dc12 pm12 cd12 ct12 oc13 kV13 dc13 pm13 cd13 ct13 : Value}
    (a1 : PySem.W.nsIn K mainGlobals "keyed" = some (some (.ref f1))) (l1 : K.lookup f1 = some ⟨oc1, od1, .func (PySem.W.fnOf "keyed" "keyed" (defArgs s_keyed) (defBody s_keyed) (defScope s_keyed) .none kV1 dc1 pm1 an1 cd1 ct1), sl1⟩) (c1 : PySem.W.codeIn K cd1 "keyed" = true) (k1 : PySem.W.keepIn K (.ref f1) = true)
    (a2 : PySem.W.nsIn K mainGlobals "best_unit" = some (some (.ref f2))) (l2 : K.lookup f2 = some ⟨oc2, od2, .func (PySem.W.fnOf "best_unit" "best_unit" (defArgs s_best_unit) (defBody s_best_unit) (defScope s_best_unit) .none kV2 dc2 pm2 an2 cd2 ct2), sl2⟩) (c2 : PySem.W.codeIn K cd2 "best_unit" = true) (k2 : PySem.W.keepIn K (.ref f2) = true)
    (a3 : PySem.W.nsIn K mainGlobals "relayed" = some (some (.ref f3))) (l3 : K.lookup f3 = some ⟨oc3, od3, .func (PySem.W.fnOf "relayed" "relayed" (defArgs s_relayed) (defBody s_relayed) (defScope s_relayed) .none kV3 dc3 pm3 an3 cd3 ct3), sl3⟩) (c3 : PySem.W.codeIn K cd3 "relayed" = true) (k3 : PySem.W.keepIn K (.ref f3) = true)
    (a4 : PySem.W.nsIn K mainGlobals "relay_back" = some (some (.ref f4))) (l4 : K.lookup f4 = some ⟨oc4, od4, .func (PySem.W.fnOf "relay_back" "relay_back" (defArgs s_relay_back) (defBody s_relay_back) (defScope s_relay_back) .none kV4 dc4 pm4 an4 cd4 ct4), sl4⟩) (c4 : PySem.W.codeIn K cd4 "relay_back" = true) (k4 : PySem.W.keepIn K (.ref f4) = true)
    (a5 : PySem.W.nsIn K mainGlobals "_law_cell" = some (some (.ref f5))) (l5 : K.lookup f5 = some ⟨oc5, od5, .func (PySem.W.fnOf "_law_cell" "_law_cell" (defArgs s_law_cell) (defBody s_law_cell) (defScope s_law_cell) .none kV5 dc5 pm5 an5 cd5 ct5), sl5⟩) (c5 : PySem.W.codeIn K cd5 "_law_cell" = true) (k5 : PySem.W.keepIn K (.ref f5) = true)
    (a6 : PySem.W.nsIn K mainGlobals "_law_digits" = some (some (.ref f6))) (l6 : K.lookup f6 = some ⟨oc6, od6, .func (PySem.W.fnOf "_law_digits" "_law_digits" (defArgs s_law_digits) (defBody s_law_digits) (defScope s_law_digits) .none kV6 dc6 pm6 an6 cd6 ct6), sl6⟩) (c6 : PySem.W.codeIn K cd6 "_law_digits" = true) (k6 : PySem.W.keepIn K (.ref f6) = true)
    (a7 : PySem.W.nsIn K mainGlobals "_law_draw" = some (some (.ref f7))) (l7 : K.lookup f7 = some ⟨oc7, od7, .func (PySem.W.fnOf "_law_draw" "_law_draw" (defArgs s_law_draw) (defBody s_law_draw) (defScope s_law_draw) .none kV7 dc7 pm7 an7 cd7 ct7), sl7⟩) (c7 : PySem.W.codeIn K cd7 "_law_draw" = true) (k7 : PySem.W.keepIn K (.ref f7) = true)
    (a8 : PySem.W.nsIn K mainGlobals "_law_pick" = some (some (.ref f8))) (l8 : K.lookup f8 = some ⟨oc8, od8, .func (PySem.W.fnOf "_law_pick" "_law_pick" (defArgs s_law_pick) (defBody s_law_pick) (defScope s_law_pick) .none kV8 dc8 pm8 an8 cd8 ct8), sl8⟩) (c8 : PySem.W.codeIn K cd8 "_law_pick" = true) (k8 : PySem.W.keepIn K (.ref f8) = true)
    (a9 : PySem.W.nsIn K mainGlobals "_law_same" = some (some (.ref f9))) (l9 : K.lookup f9 = some ⟨oc9, od9, .func (PySem.W.fnOf "_law_same" "_law_same" (defArgs s_law_same) (defBody s_law_same) (defScope s_law_same) .none kV9 dc9 pm9 an9 cd9 ct9), sl9⟩) (c9 : PySem.W.codeIn K cd9 "_law_same" = true) (k9 : PySem.W.keepIn K (.ref f9) = true)
    (a10 : PySem.W.nsIn K mainGlobals "_law_far" = some (some (.ref f10))) (l10 : K.lookup f10 = some ⟨oc10, od10, .func (PySem.W.fnOf "_law_far" "_law_far" (defArgs s_law_far) (defBody s_law_far) (defScope s_law_far) .none kV10 dc10 pm10 an10 cd10 ct10), sl10⟩) (c10 : PySem.W.codeIn K cd10 "_law_far" = true) (k10 : PySem.W.keepIn K (.ref f10) = true)
    (a11 : PySem.W.nsIn K mainGlobals "_law_lengths" = some (some (.ref f11))) (l11 : K.lookup f11 = some ⟨oc11, od11, .func (PySem.W.fnOf "_law_lengths" "_law_lengths" (defArgs s_law_lengths) (defBody s_law_lengths) (defScope s_law_lengths) .none kV11 dc11 pm11 an11 cd11 ct11), sl11⟩) (c11 : PySem.W.codeIn K cd11 "_law_lengths" = true) (k11 : PySem.W.keepIn K (.ref f11) = true)
    (a12 : PySem.W.nsIn K mainGlobals "_law_passed" = some (some (.ref f12))) (l12 : K.lookup f12 = some ⟨oc12, od12, .func (PySem.W.fnOf "_law_passed" "_law_passed" (defArgs s_law_passed) (defBody s_law_passed) (defScope s_law_passed) .none kV12 dc12 pm12 an12 cd12 ct12), sl12⟩) (c12 : PySem.W.codeIn K cd12 "_law_passed" = true) (k12 : PySem.W.keepIn K (.ref f12) = true)
    (a13 : PySem.W.nsIn K mainGlobals "law" = some (some (.ref f13))) (l13 : K.lookup f13 = some ⟨oc13, od13, .func (PySem.W.fnOf "law" "law" (defArgs s_law) (defBody s_law) (defScope s_law) .none kV13 dc13 pm13 an13 cd13 ct13), sl13⟩) (c13 : PySem.W.codeIn K cd13 "law" = true) (k13 : PySem.W.keepIn K (.ref f13) = true)
    (z_abs : PySem.W.nsIn K mainGlobals "abs" = some none)
    (z_bool : PySem.W.nsIn K mainGlobals "bool" = some none)
    (z_int : PySem.W.nsIn K mainGlobals "int" = some none)
    (z_isinstance : PySem.W.nsIn K mainGlobals "isinstance" = some none)
    (z_len : PySem.W.nsIn K mainGlobals "len" = some none)
    (z_list : PySem.W.nsIn K mainGlobals "list" = some none)
    (z_max : PySem.W.nsIn K mainGlobals "max" = some none)
    (z_min : PySem.W.nsIn K mainGlobals "min" = some none)
    (z_range : PySem.W.nsIn K mainGlobals "range" = some none)
    (z_repr : PySem.W.nsIn K mainGlobals "repr" = some none)
    (z_str : PySem.W.nsIn K mainGlobals "str" = some none)
    (z_sum : PySem.W.nsIn K mainGlobals "sum" = some none)
    (z_tuple : PySem.W.nsIn K mainGlobals "tuple" = some none)
    : ∃ fd : FuncData, (∀ (s : Shared) (v : Value), BindsTo s fd ⟨[v], []⟩ [("script", v)]) ∧ ∀ base : Heap, K.In base → base.Ns mainGlobals mg → FnOk l.prog w K mg base CX0 14 fa fd ["script"] (@spN ⟨K⟩ phi_law) := by
  have e := hfa.symm.trans (PySem.W.mg_of X G a13)
  cases e
  letI : KK := ⟨K⟩
  have T : Txt mg := ⟨PySem.W.mg_none_of X G z_abs, PySem.W.mg_none_of X G z_bool, PySem.W.mg_none_of X G z_int, PySem.W.mg_none_of X G z_isinstance, PySem.W.mg_none_of X G z_len, PySem.W.mg_none_of X G z_list, PySem.W.mg_none_of X G z_max, PySem.W.mg_none_of X G z_min, PySem.W.mg_none_of X G z_range, PySem.W.mg_none_of X G z_repr, PySem.W.mg_none_of X G z_str, PySem.W.mg_none_of X G z_sum, PySem.W.mg_none_of X G z_tuple⟩
  exact ⟨PySem.W.fnOf "law" "law" (defArgs s_law) (defBody s_law) (defScope s_law) .none kV13 dc13 pm13 an13 cd13 ct13, fun s v => .of_eq rfl, fun base _ _ => by
    have F_keyed : Fun KK.K "keyed" "keyed" s_keyed f1 _ := fun_mk (st := s_keyed) l1 c1 k1
    have c_keyed := ok_keyed (P := l.prog) (w := w) (base := base) T F_keyed (PySem.W.mg_of X G a1) 
    have F_best_unit : Fun KK.K "best_unit" "best_unit" s_best_unit f2 _ := fun_mk (st := s_best_unit) l2 c2 k2
    have c_best_unit := ok_best_unit (P := l.prog) (w := w) (base := base) T F_best_unit (PySem.W.mg_of X G a2) 
    have F_relayed : Fun KK.K "relayed" "relayed" s_relayed f3 _ := fun_mk (st := s_relayed) l3 c3 k3
    have c_relayed := ok_relayed (P := l.prog) (w := w) (base := base) T F_relayed (PySem.W.mg_of X G a3) 
    have F_relay_back : Fun KK.K "relay_back" "relay_back" s_relay_back f4 _ := fun_mk (st := s_relay_back) l4 c4 k4
    have c_relay_back := ok_relay_back (P := l.prog) (w := w) (base := base) T F_relay_back (PySem.W.mg_of X G a4) 
    have F_law_cell : Fun KK.K "_law_cell" "_law_cell" s_law_cell f5 _ := fun_mk (st := s_law_cell) l5 c5 k5
    have c_law_cell := ok_law_cell (P := l.prog) (w := w) (base := base) T F_law_cell (PySem.W.mg_of X G a5) 
    have F_law_digits : Fun KK.K "_law_digits" "_law_digits" s_law_digits f6 _ := fun_mk (st := s_law_digits) l6 c6 k6
    have c_law_digits := ok_law_digits (P := l.prog) (w := w) (base := base) T F_law_digits (PySem.W.mg_of X G a6) c_law_cell
    have F_law_draw : Fun KK.K "_law_draw" "_law_draw" s_law_draw f7 _ := fun_mk (st := s_law_draw) l7 c7 k7
    have c_law_draw := ok_law_draw (P := l.prog) (w := w) (base := base) T F_law_draw (PySem.W.mg_of X G a7) 
    have F_law_pick : Fun KK.K "_law_pick" "_law_pick" s_law_pick f8 _ := fun_mk (st := s_law_pick) l8 c8 k8
    have c_law_pick := ok_law_pick (P := l.prog) (w := w) (base := base) T F_law_pick (PySem.W.mg_of X G a8) c_law_draw
    have F_law_same : Fun KK.K "_law_same" "_law_same" s_law_same f9 _ := fun_mk (st := s_law_same) l9 c9 k9
    have c_law_same := ok_law_same (P := l.prog) (w := w) (base := base) T F_law_same (PySem.W.mg_of X G a9)  12
    have F_law_far : Fun KK.K "_law_far" "_law_far" s_law_far f10 _ := fun_mk (st := s_law_far) l10 c10 k10
    have c_law_far := ok_law_far (P := l.prog) (w := w) (base := base) T F_law_far (PySem.W.mg_of X G a10) 
    have F_law_lengths : Fun KK.K "_law_lengths" "_law_lengths" s_law_lengths f11 _ := fun_mk (st := s_law_lengths) l11 c11 k11
    have c_law_lengths := ok_law_lengths (P := l.prog) (w := w) (base := base) T F_law_lengths (PySem.W.mg_of X G a11) c_law_draw c_law_pick
    have F_law_passed : Fun KK.K "_law_passed" "_law_passed" s_law_passed f12 _ := fun_mk (st := s_law_passed) l12 c12 k12
    have c_law_passed := ok_law_passed (P := l.prog) (w := w) (base := base) T F_law_passed (PySem.W.mg_of X G a12) c_law_pick c_law_draw c_law_same c_relay_back c_relayed
    have F_law : Fun KK.K "law" "law" s_law fa _ := fun_mk (st := s_law) l13 c13 k13
    exact ok_law (P := l.prog) (w := w) (base := base) T F_law c_law_digits c_law_lengths c_law_pick c_law_same c_law_passed c_relayed c_relay_back c_law_draw c_keyed c_best_unit c_law_far⟩
end Law
open PySem PySem.W PyProof.Rows in
set_option maxRecDepth 100000 in
set_option maxHeartbeats 0 in
theorem PySem.Challenge.cw_postlands_k59_whole_messages_keyed_and_r_holds : PySem.Challenge.rw_postlands_k59_whole_messages_keyed_and_r.Holds := by
  w_on; o_law; k_head; (case hw => w_witness2)
  k_fill
  refine L2.walk_of (l := PySem.Challenge.rw_postlands_k59_whole_messages_keyed_and_r) (n := 63) (k := 14) (x := "script") (CX := fun _ => L2.CX0) (sp := fun w => @Mi.spN ⟨_⟩ Law.phi_law) rfl (by decide) rfl ⟨rfl, by decide, by decide⟩ (fun w h Y => PySem.W.kIn_of Y) ?F (fun w H a ns hl _ hS => Mi.law_sp ⟨_⟩ hS (Law.main ns hl)) (fun _ _ _ _ _ h => h)
  case F =>
    intro w mg fa h KX G hmg
    refine' Law.all_mk KX G hmg ?a1 ?l1 ?c1 ?k1 ?a2 ?l2 ?c2 ?k2 ?a3 ?l3 ?c3 ?k3 ?a4 ?l4 ?c4 ?k4 ?a5 ?l5 ?c5 ?k5 ?a6 ?l6 ?c6 ?k6 ?a7 ?l7 ?c7 ?k7 ?a8 ?l8 ?c8 ?k8 ?a9 ?l9 ?c9 ?k9 ?a10 ?l10 ?c10 ?k10 ?a11 ?l11 ?c11 ?k11 ?a12 ?l12 ?c12 ?k12 ?a13 ?l13 ?c13 ?k13 ?z_abs ?z_bool ?z_int ?z_isinstance ?z_len ?z_list ?z_max ?z_min ?z_range ?z_repr ?z_str ?z_sum ?z_tuple
    (case a1 => k_is); (case l1 => k_is); (case c1 => k_is); (case k1 => k_is); (case a2 => k_is); (case l2 => k_is); (case c2 => k_is); (case k2 => k_is); (case a3 => k_is); (case l3 => k_is); (case c3 => k_is); (case k3 => k_is); (case a4 => k_is); (case l4 => k_is); (case c4 => k_is); (case k4 => k_is); (case a5 => k_is); (case l5 => k_is); (case c5 => k_is); (case k5 => k_is); (case a6 => k_is); (case l6 => k_is); (case c6 => k_is); (case k6 => k_is); (case a7 => k_is); (case l7 => k_is); (case c7 => k_is); (case k7 => k_is); (case a8 => k_is); (case l8 => k_is); (case c8 => k_is); (case k8 => k_is); (case a9 => k_is); (case l9 => k_is); (case c9 => k_is); (case k9 => k_is); (case a10 => k_is); (case l10 => k_is); (case c10 => k_is); (case k10 => k_is); (case a11 => k_is); (case l11 => k_is); (case c11 => k_is); (case k11 => k_is); (case a12 => k_is); (case l12 => k_is); (case c12 => k_is); (case k12 => k_is); (case a13 => k_is); (case l13 => k_is); (case c13 => k_is); (case k13 => k_is); (case z_abs => k_is); (case z_bool => k_is); (case z_int => k_is); (case z_isinstance => k_is); (case z_len => k_is); (case z_list => k_is); (case z_max => k_is); (case z_min => k_is); (case z_range => k_is); (case z_repr => k_is); (case z_str => k_is); (case z_sum => k_is); (case z_tuple => k_is)
