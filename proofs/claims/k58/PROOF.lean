import PyProof.Rows.All
import Wide.All
import OpenK.AllK
import Wide.FinOn
import HandS.ForMost
import HandS.Flow
import HandS.IsInst
import HandS.TupAny
import HandS.Wide
import HandS.RaiseMore
import KE.DataMinMax
import KE.DataCmp
import HandS.Deep
import HandS.Style
import HandS.Iter
import KE.SortData
import HandS.StrMore
import HandS.Replace
import HandS.Rev
import HandS.More
import HandS.SetBool
import HandS.Strs
import HandS.SetFor
import HandS.SortInts
import HandS.Conv
import KE.GoesEnum
import HandS.Dict
import HandS.ReplaceLit
import HandS.Text
import HandS.Codes
import HandS.ReplaceList
import PySem.Challenge.RW_postlands_k58_whole_lines_with_current
set_option Elab.async false
set_option linter.all false
set_option maxRecDepth 100000
/-! Core1: data in the abstract heap, slots that hold shared data or an own list, results; what an expression gives as a plain function of the slots. -/
namespace Mi
open PySem PySem.Spec PyProof.Rows L2

abbrev D := PyData
abbrev Fr0 := PySem.W.Frag

/-- the written part, once for all -/
class KK where
  K : Fr0
variable [KK]

/-! ### data in a heap (lists and tuples tracked; the script, locked, is told as frzD) -/
abbrev frzD (ds : List D) : D := .dict [(.none, .list ds)]
mutual
inductive Dv (F : Hp) : V → D → Prop
  | non : Dv F .non .none
  | bl (b : Bool) : Dv F (.bl b) (.bool b)
  | int (i : Int) : Dv F (.int i) (.int i)
  | str (x : Str) : Dv F (.str x) (.str x)
  | lst {a : Addr} {xs : List V} {ds : List D} : F a = some (.lst xs) → Dvs F xs ds → Dv F (.ref a) (.list ds)
  | tup {a : Addr} {xs : List V} {ds : List D} : F a = some (.tup xs) → Dvs F xs ds → Dv F (.ref a) (.tuple ds)
  | frz {a : Addr} {xs : List V} {ds : List D} : SqL KK.K F a xs → Dvs F xs ds → Dv F (.ref a) (frzD ds)
inductive Dvs (F : Hp) : List V → List D → Prop
  | nil : Dvs F [] []
  | cons {v : V} {vs : List V} {d : D} {ds : List D} : Dv F v d → Dvs F vs ds → Dvs F (v :: vs) (d :: ds)
end
mutual
theorem Dv.mono {F F' : Hp} (e : Same F F') : ∀ {v : V} {d : D}, Dv F v d → Dv F' v d
  | _, _, .non => .non
  | _, _, .bl b => .bl b
  | _, _, .int i => .int i
  | _, _, .str x => .str x
  | _, _, .lst h a => .lst (e _ _ h) (Dvs.mono e a)
  | _, _, .tup h a => .tup (e _ _ h) (Dvs.mono e a)
  | _, _, .frz h a => .frz (e.seq h) (Dvs.mono e a)
theorem Dvs.mono {F F' : Hp} (e : Same F F') : ∀ {vs : List V} {ds : List D}, Dvs F vs ds → Dvs F' vs ds
  | _, _, .nil => .nil
  | _, _, .cons h a => .cons (Dv.mono e h) (Dvs.mono e a)
end
section
variable {F : Hp} {v : V} {vs us : List V} {d : D} {ds es : List D}
theorem Dvs.len : ∀ {vs : List V} {ds : List D}, Dvs F vs ds → vs.length = ds.length
  | _, _, .nil => rfl
  | _, _, .cons _ a => by rw [List.length_cons, List.length_cons, Dvs.len a]
theorem Dvs.app : ∀ {vs : List V} {ds : List D}, Dvs F vs ds → Dvs F us es → Dvs F (vs ++ us) (ds ++ es)
  | _, _, .nil, b => b
  | _, _, .cons h a, b => .cons h (Dvs.app a b)
theorem Dvs.get : ∀ {vs : List V} {ds : List D} {i : Nat} {d : D}, Dvs F vs ds → ds[i]? = some d → ∃ v, vs[i]? = some v ∧ Dv F v d
  | _, _, i, _, .nil, e => by simp at e
  | _, _, 0, d, .cons h a, e => by
    have e' := Option.some.inj e
    subst e'
    exact ⟨_, rfl, h⟩
  | _, _, i + 1, d, .cons h a, e => by
    obtain ⟨v, e1, h1⟩ := Dvs.get (i := i) (d := d) a (by simpa using e)
    exact ⟨v, by simpa using e1, h1⟩
theorem Dvs.take : ∀ {vs : List V} {ds : List D} (n : Nat), Dvs F vs ds → Dvs F (vs.take n) (ds.take n)
  | _, _, 0, _ => .nil
  | _, _, _ + 1, .nil => .nil
  | _, _, n + 1, .cons h a => .cons h (Dvs.take n a)
theorem Dvs.drop : ∀ {vs : List V} {ds : List D} (n : Nat), Dvs F vs ds → Dvs F (vs.drop n) (ds.drop n)
  | _, _, 0, a => a
  | _, _, _ + 1, .nil => .nil
  | _, _, n + 1, .cons _ a => Dvs.drop n a
theorem Dvs.set : ∀ {vs : List V} {ds : List D} (n : Nat), Dvs F vs ds → Dv F v d → Dvs F (vs.set n v) (ds.set n d)
  | _, _, _, .nil, _ => .nil
  | _, _, 0, .cons _ a, h => .cons h a
  | _, _, n + 1, .cons g a, h => .cons g (Dvs.set n a h)
theorem Dvs.rev : ∀ {vs : List V} {ds : List D}, Dvs F vs ds → Dvs F vs.reverse ds.reverse
  | _, _, .nil => .nil
  | _, _, .cons h a => by
    rw [List.reverse_cons, List.reverse_cons]
    exact Dvs.app (Dvs.rev a) (.cons h .nil)
theorem Dvs.snoc (a : Dvs F vs ds) (h : Dv F v d) : Dvs F (vs ++ [v]) (ds ++ [d]) := a.app (.cons h .nil)
theorem Dvs.ints : ∀ {vs : List V} {ns : List Int}, Dvs F vs (ns.map PyData.int) → vs = ns.map V.int
  | _, [], .nil => rfl
  | _, n :: ns, .cons (.int _) a => by rw [List.map_cons, Dvs.ints a]
theorem Dvs.bls : ∀ {vs : List V} {ns : List Bool}, Dvs F vs (ns.map PyData.bool) → vs = ns.map V.bl
  | _, [], .nil => rfl
  | _, n :: ns, .cons (.bl _) a => by rw [List.map_cons, Dvs.bls a]
theorem Dvs.strs : ∀ {vs : List V} {ns : List Str}, Dvs F vs (ns.map PyData.str) → vs = ns.map V.str
  | _, [], .nil => rfl
  | _, n :: ns, .cons (.str _) a => by rw [List.map_cons, Dvs.strs a]
theorem Dvs.of_ints : ∀ (ns : List Int), Dvs F (ns.map V.int) (ns.map PyData.int)
  | [] => .nil
  | n :: ns => .cons (.int n) (Dvs.of_ints ns)
theorem Dvs.of_strs : ∀ (ns : List Str), Dvs F (ns.map V.str) (ns.map PyData.str)
  | [] => .nil
  | n :: ns => .cons (.str n) (Dvs.of_strs ns)
end
mutual
theorem Dv.dp {K : Fr0} {F : Hp} : ∀ {v : V} {d : D}, Dv F v d → d.canLay0 = true → Dp K F v d
  | _, _, .non, _ => .non
  | _, _, .bl b, _ => .bl b
  | _, _, .int i, _ => .int i
  | _, _, .str x, _ => .str x
  | _, _, .lst h a, c => .lst (.of h) (Dvs.dp a c)
  | _, _, .tup h a, c => .tup (.of h) (Dvs.dp a c)
  | _, _, .frz h a, c => by cases c
theorem Dvs.dp {K : Fr0} {F : Hp} : ∀ {vs : List V} {ds : List D}, Dvs F vs ds → PyData.canLayAll0 ds = true → DpAll K F vs ds
  | _, _, .nil, _ => .nil
  | _, _, .cons h a, c => by
    have c' := Bool.and_eq_true_iff.mp c
    exact .cons (Dv.dp h c'.1) (Dvs.dp a c'.2)
end

/-! ### results, slots -/
/-- what an expression gives: shared data; a new list of its own; the list (or data) that slot i holds -/
inductive R where
  | sh (d : D) | fr (ds : List D) | bw (i : Nat)
/-- what a slot holds: nothing; shared data; an own list; the list that was handed in to be changed -/
inductive M where
  | no | sh (d : D) | own (ds : List D) | io (ds : List D)
abbrev En := List M
def OwnAt (ρ : En) (i : Nat) : Prop := (∃ ds, ρ[i]? = some (.own ds)) ∨ ∃ ds, ρ[i]? = some (.io ds)
def deref (ρ : En) : R → Option D
  | .sh d => some d
  | .fr ds => some (.list ds)
  | .bw i => match ρ[i]? with
    | some (.own ds) => some (.list ds)
    | some (.io ds) => some (.list ds)
    | some (.sh d) => some d
    | _ => none

def SlotOk (F G H : Hp) (b : Addr) (σ : L2.St) (i : Nat) : M → Prop
  | .no => True
  | .sh d => ∃ v, σ[i]? = some (some v) ∧ Dv F v d
  | .own ds => ∃ p vs, σ[i]? = some (some (.ref p)) ∧ H p = some (.lst vs) ∧ Dvs F vs ds ∧ F p = none ∧ G p = none
  | .io ds => σ[i]? = some (some (.ref b)) ∧ ∃ vs, H b = some (.lst vs) ∧ Dvs F vs ds ∧ F b = none ∧ G b = none
/-- the slots stand for ρ: F what is shared for good, G what others have (not to be changed), H the heap -/
structure Rp (F G H : Hp) (b : Addr) (σ : L2.St) (ρ : En) : Prop where
  fh : Same F H
  gh : Same G H
  len : ρ.length = σ.length
  slot : ∀ i m, ρ[i]? = some m → SlotOk F G H b σ i m
  ne : ∀ i j p, OwnAt ρ i → OwnAt ρ j → σ[i]? = some (some (.ref p)) → σ[j]? = some (some (.ref p)) → i = j
def RsOk (F G H : Hp) (σ : L2.St) (ρ : En) (v : V) : R → Prop
  | .sh d => Dv F v d
  | .fr ds => ∃ p vs, v = .ref p ∧ H p = some (.lst vs) ∧ Dvs F vs ds ∧ F p = none ∧ G p = none ∧ ∀ i, OwnAt ρ i → σ[i]? ≠ some (some (.ref p))
  | .bw i => σ[i]? = some (some v)
def Cln (F G F' : Hp) : Prop := ∀ a, G a ≠ none → F' a ≠ none → F a ≠ none
theorem Cln.refl (F G : Hp) : Cln F G F := fun _ _ h => h
theorem Cln.trans {F F1 F2 G : Hp} (a : Cln F G F1) (b : Cln F1 G F2) : Cln F G F2 := fun x g h => a x g (b x g h)
theorem Cln.less {F F' G G' : Hp} (c : Cln F G' F') (e : Same G G') : Cln F G F' := fun x g h => by
  refine c x (fun z => g ?_) h
  cases q : G x with
  | none => rfl
  | some o => rw [e x o q] at z; cases z

abbrev MR := En → Option (R × En)
abbrev MB := En → Option (Bool × En)
/-- what an expression asks, by its plain function -/
def tM (m : MR) : TE := fun σ H Q => ∃ F G b ρ, Rp F G H b σ ρ ∧ ∃ r ρ', m ρ = some (r, ρ') ∧ ∀ F' H' v, Same F F' → Cln F G F' → Rp F' G H' b σ ρ' → RsOk F' G H' σ ρ' v r → Q v H'
def tMB (m : MB) : TT := fun σ H Q => ∃ F G b ρ, Rp F G H b σ ρ ∧ ∃ r ρ', m ρ = some (r, ρ') ∧ ∀ F' H', Same F F' → Cln F G F' → Rp F' G H' b σ ρ' → Q r H'
theorem _root_.L2.PE.imq {X : Cx} {e : Expr} {t t' : TE} (h : PE X e t) (i : ∀ σ H Q, t' σ H Q → t σ H Q) : PE X e t' := ⟨fun pins s σ H Q I q => h.run pins s σ H Q I (i σ H Q q)⟩
theorem _root_.L2.PT.imq {X : Cx} {e : Expr} {t t' : TT} (h : PT X e t) (i : ∀ σ H Q, t' σ H Q → t σ H Q) : PT X e t' := ⟨fun pins s σ H Q I q => h.run pins s σ H Q I (i σ H Q q)⟩
theorem _root_.L2.PW.imq {X : Cx} {e : Expr} {t t' : TT} (h : PW X e t) (i : ∀ σ H Q, t' σ H Q → t σ H Q) : PW X e t' := ⟨fun wh pins s σ H Q I q => h.run wh pins s σ H Q I (i σ H Q q)⟩
theorem _root_.L2.PA.imq {X : Cx} {es : List Expr} {t t' : TA} (h : PA X es t) (i : ∀ σ H Q, t' σ H Q → t σ H Q) : PA X es t' := ⟨fun pos pins s σ H Q I q => h.run pos pins s σ H Q I (i σ H Q q)⟩
theorem _root_.L2.PS.imq {X : Cx} {st : Stmt} {t t' : TS} (h : PS X st t) (i : ∀ D σ H, t' D σ H → t D σ H) : PS X st t' := ⟨fun pins s σ H D I q => h.run pins s σ H D I (i D σ H q)⟩
theorem _root_.L2.PSs.imq {X : Cx} {st : List Stmt} {t t' : TS} (h : PSs X st t) (i : ∀ D σ H, t' D σ H → t D σ H) : PSs X st t' := ⟨fun pins s σ H D I q => h.run pins s σ H D I (i D σ H q)⟩

section
variable {F F' F1 F2 G G' H H' : Hp} {b : Addr} {σ : L2.St} {ρ ρ' : En} {v : V} {r : R}
/-- fresh in the larger heap is fresh in the smaller -/
theorem nn (e : Same F H) {p : Addr} (h : H p = none) : F p = none := e.free h
theorem Rp.slotAddr (h : Rp F G H b σ ρ) {i : Nat} (o : OwnAt ρ i) : ∃ p vs ds, σ[i]? = some (some (.ref p)) ∧ H p = some (.lst vs) ∧ Dvs F vs ds ∧ F p = none ∧ G p = none ∧ (ρ[i]? = some (.own ds) ∨ (ρ[i]? = some (.io ds) ∧ p = b)) := by
  rcases o with ⟨ds, e⟩ | ⟨ds, e⟩
  · obtain ⟨p, vs, a, c, d, f, g⟩ := h.slot i _ e
    exact ⟨p, vs, ds, a, c, d, f, g, .inl e⟩
  · obtain ⟨a, vs, c, d, f, g⟩ := h.slot i _ e
    exact ⟨b, vs, ds, a, c, d, f, g, .inr ⟨e, rfl⟩⟩
/-- more is guarded: the guard grows by what no own list is -/
theorem Rp.more (h : Rp F G H b σ ρ) (e : Same G' H) (hn : ∀ i p, OwnAt ρ i → σ[i]? = some (some (.ref p)) → G' p = none) : Rp F G' H b σ ρ := by
  refine ⟨h.fh, e, h.len, fun i m q => ?_, h.ne⟩
  have s := h.slot i m q
  cases m with
  | no => trivial
  | sh d => exact s
  | own ds =>
    obtain ⟨p, vs, a, c, d, f, g⟩ := s
    exact ⟨p, vs, a, c, d, f, hn i p (.inl ⟨ds, q⟩) a⟩
  | io ds =>
    obtain ⟨a, vs, c, d, f, g⟩ := s
    exact ⟨a, vs, c, d, f, hn i b (.inr ⟨ds, q⟩) a⟩
/-- less is guarded -/
theorem Rp.less (h : Rp F G' H b σ ρ) (e : Same G G') : Rp F G H b σ ρ := by
  refine h.more (e.trans h.gh) fun i p o q => ?_
  obtain ⟨p', vs, ds, a, c, d, f, g, _⟩ := h.slotAddr o
  rw [a] at q
  cases q
  exact e.free g
/-- only new objects and shared data come to the heap -/
theorem Rp.grow (h : Rp F G H b σ ρ) (e : Same F F') (eh : Same H H') (fh : Same F' H') (hn : ∀ i p, OwnAt ρ i → σ[i]? = some (some (.ref p)) → F' p = none) : Rp F' G H' b σ ρ := by
  refine ⟨fh, h.gh.trans eh, h.len, fun i m q => ?_, h.ne⟩
  have s := h.slot i m q
  cases m with
  | no => trivial
  | sh d =>
    obtain ⟨v, a, c⟩ := s
    exact ⟨v, a, c.mono e⟩
  | own ds =>
    obtain ⟨p, vs, a, c, d, f, g⟩ := s
    exact ⟨p, vs, a, eh _ _ c, d.mono e, hn i p (.inl ⟨ds, q⟩) a, g⟩
  | io ds =>
    obtain ⟨a, vs, c, d, f, g⟩ := s
    exact ⟨a, vs, eh _ _ c, d.mono e, hn i b (.inr ⟨ds, q⟩) a, g⟩
theorem Rp.own_some (h : Rp F G H b σ ρ) {i : Nat} {p : Addr} (o : OwnAt ρ i) (q : σ[i]? = some (some (.ref p))) : ∃ vs, H p = some (.lst vs) ∧ F p = none ∧ G p = none := by
  obtain ⟨p', vs, ds, a, c, d, f, g, _⟩ := h.slotAddr o
  rw [a] at q
  cases q
  exact ⟨vs, c, f, g⟩

/-- the guard of a result while more is evaluated -/
def guard (G : Hp) (H : Hp) (v : V) : R → Hp
  | .fr _ => match v with
    | .ref p => match H p with
      | some o => upd G p o
      | none => G
    | _ => G
  | _ => G
theorem guard_same (r : R) (hg : Same G H) : Same G (guard G H v r) ∧ Same (guard G H v r) H ∨ True := .inr trivial
theorem guard_ge (h : RsOk F G H σ ρ v r) : Same G (guard G H v r) := by
  cases r with
  | sh d => exact Same.refl G
  | bw i => exact Same.refl G
  | fr ds =>
    obtain ⟨p, vs, rfl, a, _, _, g, _⟩ := h
    unfold guard
    simp only [a]
    intro x o e
    rw [upd_ne (ne_of_none e g)]
    exact e
theorem guard_le (hg : Same G H) (h : RsOk F G H σ ρ v r) : Same (guard G H v r) H := by
  cases r with
  | sh d => exact hg
  | bw i => exact hg
  | fr ds =>
    obtain ⟨p, vs, rfl, a, _, _, g, _⟩ := h
    unfold guard
    simp only [a]
    intro x o e
    by_cases hx : x = p
    · subst hx
      rw [upd_same] at e
      rw [a, e]
    · rw [upd_ne hx] at e
      exact hg _ _ e
theorem Rp.guarded (R0 : Rp F G H b σ ρ) (h : RsOk F G H σ ρ v r) : Rp F (guard G H v r) H b σ ρ := by
  refine R0.more (guard_le R0.gh h) fun i p o q => ?_
  obtain ⟨vs, a, f, g⟩ := R0.own_some o q
  cases r with
  | sh d => exact g
  | bw i => exact g
  | fr ds =>
    obtain ⟨p', vs', rfl, a', _, _, _, ne⟩ := h
    unfold guard
    simp only [a']
    have : p ≠ p' := fun z => ne i o (z ▸ q)
    rw [upd_ne this]
    exact g
/-- a result stands on behind an evaluation that kept its guard -/
theorem RsOk.keep (h : RsOk F G H σ ρ v r) (e : Same F F') (c : Cln F (guard G H v r) F') (k : Rp F' (guard G H v r) H' b σ ρ') : RsOk F' G H' σ ρ' v r := by
  cases r with
  | sh d => exact Dv.mono e h
  | bw i => exact h
  | fr ds =>
    obtain ⟨p, vs, rfl, a, ha, f, g, ne⟩ := h
    have gp : guard G H (.ref p) (.fr ds) p = some (.lst vs) := by
      unfold guard
      simp only [a]
      exact upd_same
    refine ⟨p, vs, rfl, k.gh _ _ gp, ha.mono e, ?_, g, fun i o q => ?_⟩
    · cases q : F' p with
      | none => rfl
      | some o => exact absurd f (c p (by rw [gp]; exact fun z => nomatch z) (by rw [q]; exact fun z => nomatch z))
    · obtain ⟨_, _, _, g'⟩ := k.own_some o q
      rw [gp] at g'
      cases g'
/-- the results differ, if both are new -/
theorem RsOk.less (h : RsOk F G' H σ ρ v r) (e : Same G G') : RsOk F G H σ ρ v r := by
  cases r with
  | sh d => exact h
  | bw i => exact h
  | fr ds =>
    obtain ⟨p, vs, rfl, a, ha, f, g, ne⟩ := h
    exact ⟨p, vs, rfl, a, ha, f, e.free g, ne⟩
end

/-- two evaluations, one behind the other -/
theorem seq2 {ma mb : MR} {F G H : Hp} {b : Addr} {σ : L2.St} {ρ ρ1 ρ2 : En} {r1 r2 : R} {Q : V → V → Hp → Prop} (h : Rp F G H b σ ρ) (ea : ma ρ = some (r1, ρ1)) (eb : mb ρ1 = some (r2, ρ2))
    (q : ∀ F' H' v1 v2, Same F F' → Cln F G F' → Rp F' G H' b σ ρ2 → RsOk F' G H' σ ρ2 v1 r1 → RsOk F' G H' σ ρ2 v2 r2 → Q v1 v2 H') : tM ma σ H fun v1 H1 => tM mb σ H1 fun v2 H2 => Q v1 v2 H2 := by
  refine ⟨F, G, b, ρ, h, r1, ρ1, ea, fun F1 H1 v1 e1 c1 h1 k1 => ?_⟩
  refine ⟨F1, guard G H1 v1 r1, b, ρ1, h1.guarded k1, r2, ρ2, eb, fun F2 H2 v2 e2 c2 h2 k2 => ?_⟩
  have ge := guard_ge k1
  exact q F2 H2 v1 v2 (e1.trans e2) (c1.trans (c2.less ge)) (h2.less ge) (k1.keep e2 c2 h2) (k2.less ge)

/-! ### what is asked of a value where it is used: data by its contents now -/
/-- v stands for d in H, its items shared for good -/
def Bd (F H : Hp) (v : V) (d : D) : Prop := Dv F v d ∨ ∃ p vs ds, v = .ref p ∧ H p = some (.lst vs) ∧ Dvs F vs ds ∧ d = .list ds
theorem Bd.dv {F H : Hp} {v : V} {d : D} (e : Same F H) (h : Bd F H v d) : Dv H v d := by
  rcases h with h | ⟨p, vs, ds, rfl, a, b, rfl⟩
  · exact h.mono e
  · exact .lst a (b.mono e)
theorem Bd.list {F H : Hp} {v : V} {ds : List D} (e : Same F H) (h : Bd F H v (.list ds)) : ∃ p vs, v = .ref p ∧ H p = some (.lst vs) ∧ Dvs F vs ds := by
  rcases h with h | ⟨p, vs, ds, rfl, a, b, q⟩
  · cases h with
    | lst h a => exact ⟨_, _, rfl, e _ _ h, a⟩
  · cases q
    exact ⟨p, vs, rfl, a, b⟩
theorem Bd.tup {F H : Hp} {v : V} {ds : List D} (h : Bd F H v (.tuple ds)) : ∃ p vs, v = .ref p ∧ F p = some (.tup vs) ∧ Dvs F vs ds := by
  rcases h with h | ⟨p, vs, ds, rfl, a, b, q⟩
  · cases h with
    | tup h a => exact ⟨_, _, rfl, h, a⟩
  · cases q
theorem Bd.frz {F H : Hp} {v : V} {ds : List D} (h : Bd F H v (frzD ds)) : ∃ p vs, v = .ref p ∧ SqL KK.K F p vs ∧ Dvs F vs ds := by
  rcases h with h | ⟨p, vs, ds, rfl, a, b, q⟩
  · cases h with
    | frz h a => exact ⟨_, _, rfl, h, a⟩
  · cases q
theorem Bd.int {F H : Hp} {v : V} {i : Int} (h : Bd F H v (.int i)) : v = .int i := by
  rcases h with h | ⟨p, vs, ds, rfl, a, b, q⟩
  · cases h; rfl
  · cases q
theorem Bd.bl {F H : Hp} {v : V} {i : Bool} (h : Bd F H v (.bool i)) : v = .bl i := by
  rcases h with h | ⟨p, vs, ds, rfl, a, b, q⟩
  · cases h; rfl
  · cases q
theorem Bd.str {F H : Hp} {v : V} {i : Str} (h : Bd F H v (.str i)) : v = .str i := by
  rcases h with h | ⟨p, vs, ds, rfl, a, b, q⟩
  · cases h; rfl
  · cases q
theorem Bd.non {F H : Hp} {v : V} (h : Bd F H v .none) : v = .non := by
  rcases h with h | ⟨p, vs, ds, rfl, a, b, q⟩
  · cases h; rfl
  · cases q
theorem RsOk.bd {F G H : Hp} {b : Addr} {σ : L2.St} {ρ : En} {v : V} {r : R} {d : D} (h : Rp F G H b σ ρ) (k : RsOk F G H σ ρ v r) (e : deref ρ r = some d) : Bd F H v d := by
  cases r with
  | sh d' =>
    cases e
    exact .inl k
  | fr ds =>
    cases e
    obtain ⟨p, vs, rfl, a, ha, _⟩ := k
    exact .inr ⟨p, vs, ds, rfl, a, ha, rfl⟩
  | bw i =>
    have k' : σ[i]? = some (some v) := k
    unfold deref at e
    cases q : ρ[i]? with
    | none => simp [q] at e
    | some m =>
      have s := h.slot i m q
      cases m with
      | no => simp [q] at e
      | sh d' =>
        simp only [q] at e
        cases e
        obtain ⟨v', a, c⟩ := s
        rw [k'] at a
        cases a
        exact .inl c
      | own ds =>
        simp only [q] at e
        cases e
        obtain ⟨p, vs, a, c, d, _⟩ := s
        rw [k'] at a
        cases a
        exact .inr ⟨p, vs, ds, rfl, c, d, rfl⟩
      | io ds =>
        simp only [q] at e
        cases e
        obtain ⟨a, vs, c, d, _⟩ := s
        rw [k'] at a
        cases a
        exact .inr ⟨b, vs, ds, rfl, c, d, rfl⟩
end Mi
set_option Elab.async false
set_option linter.all false
set_option maxRecDepth 100000
/-! Core2: expressions. -/
namespace Mi
open PySem PySem.Spec PyProof.Rows L2
variable [KK]

abbrev lim : Nat := 1000000
theorem lim_le {n : Nat} (h : n ≤ lim) : n ≤ sizeLine := Nat.le_trans h (by rw [sizeLine_eq]; decide)
theorem lim_lt {n : Nat} (h : n < lim) : n < sizeLine := Nat.lt_of_lt_of_le h (by rw [sizeLine_eq]; decide)

/-! ### what an operation leaves: the heap grown -/
def ResOk (F' H H' : Hp) (v : V) : R → Prop
  | .sh d => Dv F' v d
  | .fr ds => ∃ p vs, v = .ref p ∧ H p = none ∧ H' p = some (.lst vs) ∧ Dvs F' vs ds ∧ F' p = none
  | .bw _ => False
structure Post (F H : Hp) (r : R) (F' H' : Hp) (v : V) : Prop where
  ff : Same F F'
  hh : Same H H'
  fh : Same F' H'
  new : ∀ a, F' a ≠ none → F a ≠ none ∨ H a = none
  res : ResOk F' H H' v r
theorem post_sh {F H : Hp} {v : V} {d : D} (e : Same F H) (h : Dv F v d) : Post F H (.sh d) F H v := ⟨.refl _, .refl _, e, fun _ h => .inl h, h⟩
theorem same_upd {H : Hp} {p : Addr} {o : HO} (h : H p = none) : Same H (upd H p o) := fun b x e => by
  rw [upd_ne (ne_of_none e h)]
  exact e
theorem post_fr {F H : Hp} {p : Addr} {vs : List V} {ds : List D} (e : Same F H) (h : H p = none) (a : Dvs F vs ds) : Post F H (.fr ds) F (upd H p (.lst vs)) (.ref p) :=
  ⟨.refl _, same_upd h, e.trans (same_upd h), fun _ h => .inl h, p, vs, rfl, h, upd_same, a, e.free h⟩
theorem same_upd2 {F H : Hp} {p : Addr} {o : HO} (e : Same F H) : Same (upd F p o) (upd H p o) := fun b x q => by
  by_cases hb : b = p
  · subst hb
    rw [upd_same] at q ⊢
    exact q
  · rw [upd_ne hb] at q ⊢
    exact e _ _ q
theorem upd_some {F : Hp} {p a : Addr} {o : HO} (h : upd F p o a ≠ none) : F a ≠ none ∨ a = p := by
  by_cases q : a = p
  · exact .inr q
  · rw [upd_ne q] at h
    exact .inl h
theorem post_tup {F H : Hp} {p : Addr} {vs : List V} {ds : List D} (e : Same F H) (h : H p = none) (a : Dvs F vs ds) : Post F H (.sh (.tuple ds)) (upd F p (.tup vs)) (upd H p (.tup vs)) (.ref p) :=
  ⟨same_upd (e.free h), same_upd h, same_upd2 e, fun x q => (upd_some q).imp id (fun z => by rw [z]; exact h), .tup upd_same (a.mono (same_upd (e.free h)))⟩
theorem Post.cln {F G H F' H' : Hp} {r : R} {v : V} (p : Post F H r F' H' v) (g : Same G H) : Cln F G F' := fun a ga fa => by
  rcases p.new a fa with h | h
  · exact h
  · exact absurd (g.free h) ga
theorem Post.rp {F G H F' H' : Hp} {r : R} {v : V} {b : Addr} {σ : L2.St} {ρ : En} (p : Post F H r F' H' v) (h : Rp F G H b σ ρ) : Rp F' G H' b σ ρ :=
  h.grow p.ff p.hh p.fh fun i q o e => by
    obtain ⟨vs, a, f, g⟩ := h.own_some o e
    cases z : F' q with
    | none => rfl
    | some u =>
      rcases p.new q (by rw [z]; exact fun x => nomatch x) with h1 | h1
      · exact absurd f h1
      · rw [a] at h1
        cases h1
theorem Post.rs {F G H F' H' : Hp} {r : R} {v : V} {b : Addr} {σ : L2.St} {ρ : En} (p : Post F H r F' H' v) (h : Rp F G H b σ ρ) : RsOk F' G H' σ ρ v r := by
  have q := p.res
  cases r with
  | sh d => exact q
  | bw i => exact False.elim q
  | fr ds =>
    obtain ⟨a, vs, rfl, n, e, x, f⟩ := q
    refine ⟨a, vs, rfl, e, x, f, h.gh.free n, fun i o z => ?_⟩
    obtain ⟨_, y, _, _⟩ := h.own_some o z
    rw [n] at y
    cases y

/-! ### judgements -/
structure ME (X : Cx) (e : Expr) (m : MR) : Prop where
  ok : PE X e (tM m)
structure MT (X : Cx) (e : Expr) (m : MB) : Prop where
  ok : PT X e (tMB m)
structure MW (X : Cx) (e : Expr) (m : MB) : Prop where
  ok : PW X e (tMB m)

/-! ### slots and constants -/
def mVar (i : Nat) : MR := fun ρ => match ρ[i]? with
  | some (.sh d) => some (.sh d, ρ)
  | some (.own _) => some (.bw i, ρ)
  | some (.io _) => some (.bw i, ρ)
  | _ => none
def mC (d : D) : MR := fun ρ => some (.sh d, ρ)
section
variable {X : Cx} {e a b c : Expr} {pos : Pos} {m ma mb mc : MR} {t u : MB}
theorem me_var {i : Nat} {x : Str} (h : PE X (.Name x pos) (tVar i)) : ME X (.Name x pos) (mVar i) := ⟨h.imq fun σ H Q q => by
  obtain ⟨F, G, b, ρ, hr, r, ρ', e, k⟩ := q
  unfold mVar at e
  cases q : ρ[i]? with
  | none => simp [q] at e
  | some w =>
    have s := hr.slot i w q
    cases w with
    | no => simp [q] at e
    | sh d =>
      simp only [q] at e
      cases e
      obtain ⟨v, a, c⟩ := s
      exact ⟨v, a, k F H v (.refl _) (.refl _ _) hr c⟩
    | own ds =>
      simp only [q] at e
      cases e
      obtain ⟨p, vs, a, _⟩ := s
      exact ⟨.ref p, a, k F H _ (.refl _) (.refl _ _) hr a⟩
    | io ds =>
      simp only [q] at e
      cases e
      obtain ⟨a, _⟩ := s
      exact ⟨.ref b, a, k F H _ (.refl _) (.refl _ _) hr a⟩⟩
theorem me_const {v : V} {d : D} (h : PE X e (tC v)) (hd : ∀ F, Dv F v d) : ME X e (mC d) := ⟨h.imq fun σ H Q q => by
  obtain ⟨F, G, b, ρ, hr, r, ρ', e, k⟩ := q
  cases e
  exact k F H v (.refl _) (.refl _ _) hr (hd F)⟩
theorem me_int {i : Int} {j} : ME X (.Constant (.int i) j pos) (mC (.int i)) := me_const pe_int fun _ => .int _
theorem me_bl {i : Bool} {j} : ME X (.Constant (.bool i) j pos) (mC (.bool i)) := me_const pe_bl fun _ => .bl _
theorem me_non {j} : ME X (.Constant .none j pos) (mC .none) := me_const pe_non fun _ => .non
theorem me_str {i : Str} {j} : ME X (.Constant (.str i) j pos) (mC (.str i)) := me_const pe_str fun _ => .str _

/-! ### operators -/
/-- an operation on two values keeps f -/
def Op2 (r : R2) (f : D → D → Option R) : Prop := ∀ F H v1 v2 d1 d2 k, Same F H → Bd F H v1 d1 → Bd F H v2 d2 → f d1 d2 = some k → ∀ Q : VK, (∀ F' H' v, Post F H k F' H' v → Q v H') → r v1 v2 H Q
def Op1 (r : V → Hp → VK → Prop) (f : D → Option R) : Prop := ∀ F H v1 d1 k, Same F H → Bd F H v1 d1 → f d1 = some k → ∀ Q : VK, (∀ F' H' v, Post F H k F' H' v → Q v H') → r v1 H Q
theorem Op2.or {r r' : R2} {f g k : D → D → Option R} (h : Op2 r f) (h' : Op2 r' g) (e : ∀ a b z, k a b = some z → f a b = some z ∨ g a b = some z) : Op2 (fun x y H Q => r x y H Q ∨ r' x y H Q) k :=
  fun F H v1 v2 d1 d2 z s b1 b2 q Q w => (e d1 d2 z q).imp (fun q => h F H v1 v2 d1 d2 z s b1 b2 q Q w) (fun q => h' F H v1 v2 d1 d2 z s b1 b2 q Q w)
def mBin (f : D → D → Option R) (ma mb : MR) : MR := fun ρ => do
  let (r1, ρ1) ← ma ρ
  let (r2, ρ2) ← mb ρ1
  let d1 ← deref ρ2 r1
  let d2 ← deref ρ2 r2
  let k ← f d1 d2
  some (k, ρ2)
def mUn (f : D → Option R) (ma : MR) : MR := fun ρ => do
  let (r1, ρ1) ← ma ρ
  let d1 ← deref ρ1 r1
  let k ← f d1
  some (k, ρ1)
theorem bind_some {α β : Type} {o : Option α} {f : α → Option β} {z : β} (h : (o >>= f) = some z) : ∃ a, o = some a ∧ f a = some z := by
  cases o with
  | none => cases h
  | some a => exact ⟨a, rfl, h⟩
theorem tM_bin {r : R2} {f : D → D → Option R} (o : Op2 r f) (σ : L2.St) (H : Hp) (Q : VK) (q : tM (mBin f ma mb) σ H Q) : tOp r (tM ma) (tM mb) σ H Q := by
  obtain ⟨F, G, b, ρ, hr, r', ρ', e, k⟩ := q
  obtain ⟨⟨r1, ρ1⟩, e1, e⟩ := bind_some e
  obtain ⟨⟨r2, ρ2⟩, e2, e⟩ := bind_some e
  obtain ⟨d1, e3, e⟩ := bind_some e
  obtain ⟨d2, e4, e⟩ := bind_some e
  obtain ⟨z, e5, e⟩ := bind_some e
  cases e
  refine seq2 hr e1 e2 fun F1 H1 v1 v2 s1 c1 h1 k1 k2 => ?_
  refine o F1 H1 v1 v2 d1 d2 _ h1.fh (k1.bd h1 e3) (k2.bd h1 e4) e5 Q fun F' H' v p => ?_
  exact k F' H' v (s1.trans p.ff) (c1.trans (p.cln h1.gh)) (p.rp h1) (p.rs h1)
theorem tM_un {r : V → Hp → VK → Prop} {f : D → Option R} (o : Op1 r f) (σ : L2.St) (H : Hp) (Q : VK) (q : tM (mUn f ma) σ H Q) : tUn r (tM ma) σ H Q := by
  obtain ⟨F, G, b, ρ, hr, r', ρ', e, k⟩ := q
  obtain ⟨⟨r1, ρ1⟩, e1, e⟩ := bind_some e
  obtain ⟨d1, e3, e⟩ := bind_some e
  obtain ⟨z, e5, e⟩ := bind_some e
  cases e
  refine ⟨F, G, b, ρ, hr, r1, _, e1, fun F1 H1 v1 s1 c1 h1 k1 => ?_⟩
  refine o F1 H1 v1 d1 _ h1.fh (k1.bd h1 e3) e5 Q fun F' H' v p => ?_
  exact k F' H' v (s1.trans p.ff) (c1.trans (p.cln h1.gh)) (p.rp h1) (p.rs h1)
structure BinOk (X : Cx) (op : Operator) (f : D → D → Option R) : Prop where
  ex : ∃ r, OpR X (binaryOp op) r ∧ Op2 r f
theorem me_bin {op : Operator} {f : D → D → Option R} (o : BinOk X op f) (ha : ME X a ma) (hb : ME X b mb) : ME X (.BinOp a op b pos) (mBin f ma mb) := by
  obtain ⟨r, h1, h2⟩ := o.ex
  exact ⟨(pe_op h1 ha.ok hb.ok).imq (tM_bin h2)⟩
structure UnOk (X : Cx) (op : UnaryOp) (f : D → Option R) : Prop where
  ex : ∃ r, UnR X (unaryOp op) r ∧ Op1 r f
theorem me_un {op : UnaryOp} {f : D → Option R} (o : UnOk X op f) (ha : ME X a ma) : ME X (.UnaryOp op a pos) (mUn f ma) := by
  obtain ⟨r, h1, h2⟩ := o.ex
  exact ⟨(pe_un h1 ha.ok).imq (tM_un h2)⟩

/-! comparisons -/
def Op2B (r : R2) (f : D → D → Option Bool) : Prop := ∀ F H v1 v2 d1 d2 k, Same F H → Bd F H v1 d1 → Bd F H v2 d2 → f d1 d2 = some k → ∀ Q : VK, Q (.bl k) H → r v1 v2 H Q
theorem Op2B.or {r r' : R2} {f g k : D → D → Option Bool} (h : Op2B r f) (h' : Op2B r' g) (e : ∀ a b z, k a b = some z → f a b = some z ∨ g a b = some z) : Op2B (fun x y H Q => r x y H Q ∨ r' x y H Q) k :=
  fun F H v1 v2 d1 d2 z s b1 b2 q Q w => (e d1 d2 z q).imp (fun q => h F H v1 v2 d1 d2 z s b1 b2 q Q w) (fun q => h' F H v1 v2 d1 d2 z s b1 b2 q Q w)
def mCmp (f : D → D → Option Bool) (ma mb : MR) : MB := fun ρ => do
  let (r1, ρ1) ← ma ρ
  let (r2, ρ2) ← mb ρ1
  let d1 ← deref ρ2 r1
  let d2 ← deref ρ2 r2
  let k ← f d1 d2
  some (k, ρ2)
/-- a test as a value -/
def mBV (t : MB) : MR := fun ρ => do
  let (k, ρ1) ← t ρ
  some (.sh (.bool k), ρ1)
structure CmpOk (X : Cx) (op : CmpOp) (f : D → D → Option Bool) : Prop where
  ex : ∃ r, OpR X (compareOp op) r ∧ Op2B r f
theorem mt_cmp {op : CmpOp} {f : D → D → Option Bool} (o : CmpOk X op f) (ha : ME X a ma) (hb : ME X b mb) (hm : behindInMarks op b = false) : MT X (.Compare a [op] [b] pos) (mCmp f ma mb) := by
  obtain ⟨r, h1, h2⟩ := o.ex
  refine ⟨(pt_cmpR h1 ha.ok hb.ok hm).imq fun σ H Q q => ?_⟩
  obtain ⟨F, G, b, ρ, hr, r', ρ', e, k⟩ := q
  obtain ⟨⟨r1, ρ1⟩, e1, e⟩ := bind_some e
  obtain ⟨⟨r2, ρ2⟩, e2, e⟩ := bind_some e
  obtain ⟨d1, e3, e⟩ := bind_some e
  obtain ⟨d2, e4, e⟩ := bind_some e
  obtain ⟨z, e5, e⟩ := bind_some e
  cases e
  refine seq2 hr e1 e2 fun F1 H1 v1 v2 s1 c1 g1 k1 k2 => ?_
  exact h2 F1 H1 v1 v2 d1 d2 _ g1.fh (k1.bd g1 e3) (k2.bd g1 e4) e5 _ ⟨_, rfl, k F1 H1 s1 c1 g1⟩
theorem me_cmp {op : CmpOp} {f : D → D → Option Bool} (o : CmpOk X op f) (ha : ME X a ma) (hb : ME X b mb) (hm : behindInMarks op b = false) : ME X (.Compare a [op] [b] pos) (mBV (mCmp f ma mb)) := by
  obtain ⟨r, h1, h2⟩ := o.ex
  refine ⟨(pe_cmpR h1 ha.ok hb.ok hm).imq fun σ H Q q => ?_⟩
  obtain ⟨F, G, b, ρ, hr, r', ρ', e, k⟩ := q
  obtain ⟨⟨kb, ρ3⟩, e0, e⟩ := bind_some e
  cases e
  obtain ⟨⟨r1, ρ1⟩, e1, e⟩ := bind_some e0
  obtain ⟨⟨r2, ρ2⟩, e2, e⟩ := bind_some e
  obtain ⟨d1, e3, e⟩ := bind_some e
  obtain ⟨d2, e4, e⟩ := bind_some e
  obtain ⟨z, e5, e⟩ := bind_some e
  cases e
  refine seq2 hr e1 e2 fun F1 H1 v1 v2 s1 c1 g1 k1 k2 => ?_
  exact h2 F1 H1 v1 v2 d1 d2 _ g1.fh (k1.bd g1 e3) (k2.bd g1 e4) e5 _ (k F1 H1 _ s1 c1 g1 (.bl _))

theorem ite_some {α : Type} {c : Prop} [Decidable c] {a z : α} (h : (if c then some a else none) = some z) : c ∧ a = z := by
  by_cases q : c
  · rw [if_pos q] at h
    exact ⟨q, Option.some.inj h⟩
  · rw [if_neg q] at h
    cases h
/-! ### tests -/
def truD : D → Option Bool
  | .none => some false
  | .bool b => some b
  | .int i => some (i != 0)
  | .str y => if y.length ≤ lim then some ((y.length : Int) != 0) else none
  | .list ds => some (!ds.isEmpty)
  | .tuple ds => some (!ds.isEmpty)
  | .dict _ => none
def mTest (m : MR) : MB := fun ρ => do
  let (r, ρ1) ← m ρ
  let d ← deref ρ1 r
  let k ← truD d
  some (k, ρ1)
theorem empty_of {F : Hp} {vs : List V} {ds : List D} (h : Dvs F vs ds) : vs.isEmpty = ds.isEmpty := by
  cases h <;> rfl
theorem tru_of {K : Fr0} {F H : Hp} {v : V} {d : D} {k : Bool} (s : Same F H) (h : Bd F H v d) (e : truD d = some k) : TruV K v H k := by
  cases d with
  | none => cases e; rw [h.non]; rfl
  | bool b => cases e; rw [h.bl]; rfl
  | int i => cases e; rw [h.int]; rfl
  | str y =>
    rw [h.str]
    obtain ⟨q, e⟩ := ite_some (show (if y.length ≤ lim then some ((y.length : Int) != 0) else none) = some k from e)
    exact ⟨lim_le q, e.symm⟩
  | list ds =>
    cases e
    obtain ⟨p, vs, rfl, a, b⟩ := h.list s
    exact .inl ⟨vs, .of a, by rw [empty_of b]⟩
  | tuple ds =>
    cases e
    obtain ⟨p, vs, rfl, a, b⟩ := h.tup
    exact .inr (.inl ⟨vs, .of (s _ _ a), by rw [empty_of b]⟩)
  | dict _ => cases e
theorem mt_val (ha : ME X a ma) (he : ∀ whole, isTrue a X.env whole = (do let v ← whole; standAt a.pos; holding [v] (truthy v))) : MT X a (mTest ma) := by
  refine ⟨(pt_truth ha.ok he).imq fun σ H Q q => ?_⟩
  obtain ⟨F, G, b, ρ, hr, r', ρ', e, k⟩ := q
  obtain ⟨⟨r1, ρ1⟩, e1, e⟩ := bind_some e
  obtain ⟨d1, e3, e⟩ := bind_some e
  obtain ⟨z, e5, e⟩ := bind_some e
  cases e
  exact ⟨F, G, b, ρ, hr, r1, _, e1, fun F1 H1 v1 s1 c1 h1 k1 => ⟨_, tru_of h1.fh (k1.bd h1 e3) e5, k F1 H1 s1 c1 h1⟩⟩
def mAnd (t u : MB) : MB := fun ρ => do
  let (k, ρ1) ← t ρ
  if k = true then u ρ1 else some (false, ρ1)
def mOr (t u : MB) : MB := fun ρ => do
  let (k, ρ1) ← t ρ
  if k = true then some (true, ρ1) else u ρ1
def mNot (t : MB) : MB := fun ρ => do
  let (k, ρ1) ← t ρ
  some (!k, ρ1)
variable {rest : List Expr}
theorem MW.mt (h : MW X e t) : MT X e t := ⟨h.ok.pt⟩
theorem mw_and1 (h : MT X a t) : MW X (.BoolOp .And [a] pos) t := ⟨pw_and1 h.ok⟩
theorem mw_or1 (h : MT X a t) : MW X (.BoolOp .Or [a] pos) t := ⟨pw_or1 h.ok⟩
theorem mw_and (ha : MT X a t) (hb : MW X (.BoolOp .And (b :: rest) pos) u) : MW X (.BoolOp .And (a :: b :: rest) pos) (mAnd t u) := ⟨(pw_and ha.ok hb.ok).imq fun σ H Q q => by
  obtain ⟨F, G, b, ρ, hr, r', ρ', e, k⟩ := q
  obtain ⟨⟨k1, ρ1⟩, e1, e⟩ := bind_some e
  refine ⟨F, G, b, ρ, hr, k1, ρ1, e1, fun F1 H1 s1 c1 h1 => ?_⟩
  cases k1 with
  | true => exact ⟨F1, G, b, ρ1, h1, r', ρ', e, fun F2 H2 s2 c2 h2 => k F2 H2 (s1.trans s2) (c1.trans c2) h2⟩
  | false =>
    cases e
    exact k F1 H1 s1 c1 h1⟩
theorem mw_or (ha : MT X a t) (hb : MW X (.BoolOp .Or (b :: rest) pos) u) : MW X (.BoolOp .Or (a :: b :: rest) pos) (mOr t u) := ⟨(pw_or ha.ok hb.ok).imq fun σ H Q q => by
  obtain ⟨F, G, b, ρ, hr, r', ρ', e, k⟩ := q
  obtain ⟨⟨k1, ρ1⟩, e1, e⟩ := bind_some e
  refine ⟨F, G, b, ρ, hr, k1, ρ1, e1, fun F1 H1 s1 c1 h1 => ?_⟩
  cases k1 with
  | false => exact ⟨F1, G, b, ρ1, h1, r', ρ', e, fun F2 H2 s2 c2 h2 => k F2 H2 (s1.trans s2) (c1.trans c2) h2⟩
  | true =>
    cases e
    exact k F1 H1 s1 c1 h1⟩
theorem mt_not (ha : MT X a t) : MT X (.UnaryOp .Not a pos) (mNot t) := ⟨(pt_not ha.ok).imq fun σ H Q q => by
  obtain ⟨F, G, b, ρ, hr, r', ρ', e, k⟩ := q
  obtain ⟨⟨k1, ρ1⟩, e1, e⟩ := bind_some e
  cases e
  exact ⟨F, G, b, ρ, hr, k1, _, e1, fun F1 H1 s1 c1 h1 => k F1 H1 s1 c1 h1⟩⟩
/-- values that are bools -/
def mAndV (ma mb : MR) : MR := fun ρ => do
  let (r, ρ1) ← ma ρ
  match r with
  | .sh (.bool true) => mb ρ1
  | .sh (.bool false) => some (.sh (.bool false), ρ1)
  | _ => none
def mOrV (ma mb : MR) : MR := fun ρ => do
  let (r, ρ1) ← ma ρ
  match r with
  | .sh (.bool false) => mb ρ1
  | .sh (.bool true) => some (.sh (.bool true), ρ1)
  | _ => none
theorem me_one {op} (h : ME X a m) : ME X (.BoolOp op [a] pos) m := ⟨pe_one h.ok⟩
theorem me_and (ha : ME X a ma) (hb : ME X (.BoolOp .And (b :: rest) pos) mb) : ME X (.BoolOp .And (a :: b :: rest) pos) (mAndV ma mb) := ⟨(pe_and ha.ok hb.ok).imq fun σ H Q q => by
  obtain ⟨F, G, b, ρ, hr, r', ρ', e, k⟩ := q
  obtain ⟨⟨k1, ρ1⟩, e1, e⟩ := bind_some e
  refine ⟨F, G, b, ρ, hr, k1, ρ1, e1, fun F1 H1 v1 s1 c1 h1 w1 => ?_⟩
  match k1, w1, e with
  | .sh (.bool true), w1, e =>
    cases (show Dv F1 v1 (.bool true) from w1)
    exact ⟨true, rfl, F1, G, b, ρ1, h1, r', ρ', e, fun F2 H2 v2 s2 c2 h2 => k F2 H2 v2 (s1.trans s2) (c1.trans c2) h2⟩
  | .sh (.bool false), w1, e =>
    cases (show Dv F1 v1 (.bool false) from w1)
    cases e
    exact ⟨false, rfl, k F1 H1 _ s1 c1 h1 (.bl _)⟩⟩
theorem me_or (ha : ME X a ma) (hb : ME X (.BoolOp .Or (b :: rest) pos) mb) : ME X (.BoolOp .Or (a :: b :: rest) pos) (mOrV ma mb) := ⟨(pe_or ha.ok hb.ok).imq fun σ H Q q => by
  obtain ⟨F, G, b, ρ, hr, r', ρ', e, k⟩ := q
  obtain ⟨⟨k1, ρ1⟩, e1, e⟩ := bind_some e
  refine ⟨F, G, b, ρ, hr, k1, ρ1, e1, fun F1 H1 v1 s1 c1 h1 w1 => ?_⟩
  match k1, w1, e with
  | .sh (.bool false), w1, e =>
    cases (show Dv F1 v1 (.bool false) from w1)
    exact ⟨false, rfl, F1, G, b, ρ1, h1, r', ρ', e, fun F2 H2 v2 s2 c2 h2 => k F2 H2 v2 (s1.trans s2) (c1.trans c2) h2⟩
  | .sh (.bool true), w1, e =>
    cases (show Dv F1 v1 (.bool true) from w1)
    cases e
    exact ⟨true, rfl, k F1 H1 _ s1 c1 h1 (.bl _)⟩⟩
def mNotV (ma : MR) : MR := fun ρ => do
  let (r, ρ1) ← ma ρ
  match r with
  | .sh (.bool k) => some (.sh (.bool (!k)), ρ1)
  | _ => none
theorem me_not (ha : ME X a ma) : ME X (.UnaryOp .Not a pos) (mNotV ma) := ⟨(pe_not ha.ok).imq fun σ H Q q => by
  obtain ⟨F, G, b, ρ, hr, r', ρ', e, k⟩ := q
  obtain ⟨⟨k1, ρ1⟩, e1, e⟩ := bind_some e
  refine ⟨F, G, b, ρ, hr, k1, ρ1, e1, fun F1 H1 v1 s1 c1 h1 w1 => ?_⟩
  match k1, w1, e with
  | .sh (.bool z), w1, e =>
    cases (show Dv F1 v1 (.bool z) from w1)
    cases e
    exact ⟨z, rfl, k F1 H1 _ s1 c1 h1 (.bl _)⟩⟩
def mIf (t : MB) (ma mb : MR) : MR := fun ρ => do
  let (k, ρ1) ← t ρ
  if k = true then ma ρ1 else mb ρ1
theorem me_if (hc : MT X c t) (ha : ME X a ma) (hb : ME X b mb) : ME X (.IfExp c a b pos) (mIf t ma mb) := ⟨(pe_ifExp hc.ok ha.ok hb.ok).imq fun σ H Q q => by
  obtain ⟨F, G, b, ρ, hr, r', ρ', e, k⟩ := q
  obtain ⟨⟨k1, ρ1⟩, e1, e⟩ := bind_some e
  refine ⟨F, G, b, ρ, hr, k1, ρ1, e1, fun F1 H1 s1 c1 h1 => ?_⟩
  cases k1 with
  | true => exact ⟨F1, G, b, ρ1, h1, r', ρ', e, fun F2 H2 v2 s2 c2 h2 => k F2 H2 v2 (s1.trans s2) (c1.trans c2) h2⟩
  | false => exact ⟨F1, G, b, ρ1, h1, r', ρ', e, fun F2 H2 v2 s2 c2 h2 => k F2 H2 v2 (s1.trans s2) (c1.trans c2) h2⟩⟩

/-! ### captured: a result becomes shared data -/
def cap (ρ : En) : R → Option (D × En)
  | .sh d => some (d, ρ)
  | .fr ds => some (.list ds, ρ)
  | .bw i => match ρ[i]? with
    | some (.own ds) => some (.list ds, ρ.set i (.sh (.list ds)))
    | some (.sh d) => some (d, ρ)
    | _ => none
theorem own_set {ρ : En} {i j : Nat} {d : D} (h : OwnAt (ρ.set i (.sh d)) j) : OwnAt ρ j ∧ j ≠ i := by
  by_cases q : j = i
  · subst q
    rcases h with ⟨ds, e⟩ | ⟨ds, e⟩
    · by_cases hl : j < ρ.length
      · rw [List.getElem?_set_self hl] at e; cases e
      · rw [List.getElem?_eq_none (by rw [List.length_set]; omega)] at e; cases e
    · by_cases hl : j < ρ.length
      · rw [List.getElem?_set_self hl] at e; cases e
      · rw [List.getElem?_eq_none (by rw [List.length_set]; omega)] at e; cases e
  · rcases h with ⟨ds, e⟩ | ⟨ds, e⟩
    · rw [List.getElem?_set_ne (Ne.symm q)] at e
      exact ⟨.inl ⟨ds, e⟩, q⟩
    · rw [List.getElem?_set_ne (Ne.symm q)] at e
      exact ⟨.inr ⟨ds, e⟩, q⟩
theorem cap_ok {F G H : Hp} {b : Addr} {σ : L2.St} {ρ ρ' : En} {v : V} {r : R} {d : D} (h : Rp F G H b σ ρ) (k : RsOk F G H σ ρ v r) (e : cap ρ r = some (d, ρ')) :
    ∃ F', Same F F' ∧ Cln F G F' ∧ Rp F' G H b σ ρ' ∧ Dv F' v d := by
  cases r with
  | sh d' =>
    cases e
    exact ⟨F, .refl _, .refl _ _, h, k⟩
  | fr ds =>
    cases e
    obtain ⟨p, vs, rfl, a, x, f, g, n⟩ := k
    have s1 : Same F (upd F p (.lst vs)) := same_upd f
    refine ⟨upd F p (.lst vs), s1, fun z gz fz => (upd_some fz).elim id fun w => absurd (w ▸ g) gz, h.grow s1 (.refl _) (fun z o q => ?_) (fun i p' o q => ?_), .lst upd_same (x.mono s1)⟩
    · by_cases hz : z = p
      · subst hz
        rw [upd_same] at q
        rw [a, q]
      · rw [upd_ne hz] at q
        exact h.fh _ _ q
    · obtain ⟨_, _, f', _⟩ := h.own_some o q
      rw [upd_ne (show p' ≠ p from fun z => n i o (by rw [← z]; exact q))]
      exact f'
  | bw i =>
    have k' : σ[i]? = some (some v) := k
    unfold cap at e
    cases q : ρ[i]? with
    | none => simp [q] at e
    | some w =>
      have s := h.slot i w q
      cases w with
      | no => simp [q] at e
      | io ds => simp [q] at e
      | sh d' =>
        simp only [q] at e
        cases e
        obtain ⟨v', a, c⟩ := s
        rw [k'] at a
        cases a
        exact ⟨F, .refl _, .refl _ _, h, c⟩
      | own ds =>
        simp only [q] at e
        cases e
        obtain ⟨p, vs, a, c, x, f, g⟩ := s
        rw [k'] at a
        cases a
        have s1 : Same F (upd F p (.lst vs)) := same_upd f
        have dvl : Dv (upd F p (.lst vs)) (.ref p) (.list ds) := .lst upd_same (x.mono s1)
        refine ⟨upd F p (.lst vs), s1, fun z gz fz => (upd_some fz).elim id fun w => absurd (w ▸ g) gz, ⟨fun z o q' => ?_, h.gh, by rw [List.length_set]; exact h.len, fun j m qj => ?_, fun i1 j1 p1 o1 o2 => h.ne i1 j1 p1 (own_set o1).1 (own_set o2).1⟩, dvl⟩
        · by_cases hz : z = p
          · subst hz
            rw [upd_same] at q'
            rw [c, q']
          · rw [upd_ne hz] at q'
            exact h.fh _ _ q'
        · by_cases hj : j = i
          · subst hj
            have hl : j < ρ.length := (List.getElem?_eq_some_iff.mp q).1
            rw [List.getElem?_set_self hl] at qj
            cases qj
            exact ⟨_, k', dvl⟩
          · rw [List.getElem?_set_ne (Ne.symm hj)] at qj
            have sj := h.slot j m qj
            have np : ∀ p', OwnAt ρ j → σ[j]? = some (some (.ref p')) → p' ≠ p := fun p' oj ej z => hj (h.ne j i p oj (.inl ⟨ds, q⟩) (z ▸ ej) k')
            cases m with
            | no => trivial
            | sh d1 =>
              obtain ⟨v1, a1, c1⟩ := sj
              exact ⟨v1, a1, c1.mono s1⟩
            | own ds1 =>
              obtain ⟨p1, vs1, a1, c1, x1, f1, g1⟩ := sj
              exact ⟨p1, vs1, a1, c1, x1.mono s1, by rw [upd_ne (np p1 (.inl ⟨ds1, qj⟩) a1)]; exact f1, g1⟩
            | io ds1 =>
              obtain ⟨a1, vs1, c1, x1, f1, g1⟩ := sj
              exact ⟨a1, vs1, c1, x1.mono s1, by rw [upd_ne (np b (.inr ⟨ds1, qj⟩) a1)]; exact f1, g1⟩

/-! ### lists of expressions, each captured -/
abbrev MA := En → Option (List D × En)
def tMA (m : MA) : TA := fun σ H Q => ∃ F G b ρ, Rp F G H b σ ρ ∧ ∃ ds ρ', m ρ = some (ds, ρ') ∧ ∀ F' H' vs, Same F F' → Cln F G F' → Rp F' G H' b σ ρ' → Dvs F' vs ds → Q vs H'
structure MAs (X : Cx) (es : List Expr) (m : MA) : Prop where
  ok : PA X es (tMA m)
def aNil : MA := fun ρ => some ([], ρ)
def mCap (m : MR) : En → Option (D × En) := fun ρ => do
  let (r, ρ1) ← m ρ
  cap ρ1 r
def aCons (m : MR) (ms : MA) : MA := fun ρ => do
  let (d, ρ1) ← mCap m ρ
  let (ds, ρ2) ← ms ρ1
  some (d :: ds, ρ2)
theorem ma_nil : MAs X [] aNil := ⟨pa_nil.imq fun σ H Q q => by
  obtain ⟨F, G, b, ρ, hr, ds, ρ', e, k⟩ := q
  cases e
  exact k F H [] (.refl _) (.refl _ _) hr .nil⟩
theorem ma_cons {es : List Expr} {ms : MA} (ha : ME X e m) (hr : MAs X es ms) (hs : starEach (e :: es) X.env = (false, eval e X.env) :: starEach es X.env := by rfl) : MAs X (e :: es) (aCons m ms) := ⟨(pa_cons ha.ok hr.ok hs).imq fun σ H Q q => by
  obtain ⟨F, G, b, ρ, h0, ds, ρ', e, k⟩ := q
  obtain ⟨⟨d, ρ1⟩, e1, e⟩ := bind_some e
  obtain ⟨⟨ds2, ρ2⟩, e2, e⟩ := bind_some e
  cases e
  obtain ⟨⟨r, ρ0⟩, e0, e1⟩ := bind_some e1
  refine ⟨F, G, b, ρ, h0, r, ρ0, e0, fun F1 H1 v1 s1 c1 h1 k1 => ?_⟩
  obtain ⟨F2, s2, c2, h2, dv⟩ := cap_ok h1 k1 e1
  exact ⟨F2, G, b, ρ1, h2, ds2, ρ', e2, fun F3 H3 vs s3 c3 h3 dvs => k F3 H3 _ (s1.trans (s2.trans s3)) (c1.trans (c2.trans c3)) h3 (.cons (dv.mono s3) dvs)⟩⟩
def mTup (ms : MA) : MR := fun ρ => do
  let (ds, ρ1) ← ms ρ
  if ds.length ≤ lim then some (.sh (.tuple ds), ρ1) else none
def mLst (ms : MA) : MR := fun ρ => do
  let (ds, ρ1) ← ms ρ
  if ds.length ≤ lim then some (.fr ds, ρ1) else none
theorem me_tup {es : List Expr} {ms : MA} {x1} (h : MAs X es ms) : ME X (.Tuple es x1 pos) (mTup ms) := ⟨(pe_tup h.ok).imq fun σ H Q q => by
  obtain ⟨F, G, b, ρ, h0, ds, ρ', e, k⟩ := q
  obtain ⟨⟨ds1, ρ1⟩, e1, e⟩ := bind_some e
  obtain ⟨hl, e⟩ := ite_some e
  cases e
  refine ⟨F, G, b, ρ, h0, ds1, _, e1, fun F1 H1 vs s1 c1 h1 dvs => ⟨by rw [dvs.len]; exact lim_le hl, fun p hp => ?_⟩⟩
  have P := post_tup h1.fh hp dvs
  exact k _ _ _ (s1.trans P.ff) (c1.trans (P.cln h1.gh)) (P.rp h1) (P.rs h1)⟩
theorem me_lst {es : List Expr} {ms : MA} (h : MAs X es ms) : ME X (.List es pos) (mLst ms) := ⟨(pe_lst h.ok).imq fun σ H Q q => by
  obtain ⟨F, G, b, ρ, h0, ds, ρ', e, k⟩ := q
  obtain ⟨⟨ds1, ρ1⟩, e1, e⟩ := bind_some e
  obtain ⟨hl, e⟩ := ite_some e
  cases e
  refine ⟨F, G, b, ρ, h0, ds1, _, e1, fun F1 H1 vs s1 c1 h1 dvs => ⟨by rw [dvs.len]; exact lim_le hl, fun p hp => ?_⟩⟩
  have P := post_fr h1.fh hp dvs
  exact k _ _ _ (s1.trans P.ff) (c1.trans (P.cln h1.gh)) (P.rp h1) (P.rs h1)⟩
end
end Mi
set_option Elab.async false
set_option linter.all false
set_option maxRecDepth 100000
/-! Core3: targets, what is walked, comprehensions, statements, loops. -/
namespace Mi
open PySem PySem.Spec PyProof.Rows L2
variable [KK]

/-! ### slots stored -/
section
variable {F G H : Hp} {b : Addr} {σ : L2.St} {ρ : En} {v : V} {d : D} {i : Nat}
/-- slot i holds no list that was handed in -/
def free1 (ρ : En) (i : Nat) : Bool := match ρ[i]? with
  | some (.io _) => false
  | some _ => true
  | none => false
theorem get_set {α : Type} {l : List α} {i j : Nat} {x m : α} (h : (l.set i x)[j]? = some m) : (j = i ∧ m = x) ∨ (j ≠ i ∧ l[j]? = some m) := by
  by_cases q : j = i
  · subst q
    by_cases hl : j < l.length
    · rw [List.getElem?_set_self hl] at h
      exact .inl ⟨rfl, (Option.some.inj h).symm⟩
    · rw [List.getElem?_eq_none (by rw [List.length_set]; omega)] at h
      cases h
  · rw [List.getElem?_set_ne (Ne.symm q)] at h
    exact .inr ⟨q, h⟩
theorem free1_lt (h : free1 ρ i = true) : i < ρ.length := by
  unfold free1 at h
  by_cases q : i < ρ.length
  · exact q
  · rw [List.getElem?_eq_none (by omega)] at h
    cases h
theorem own_set2 {m : M} {j : Nat} (h : OwnAt (ρ.set i m) j) : (j = i ∧ ((∃ ds, m = .own ds) ∨ ∃ ds, m = .io ds)) ∨ (j ≠ i ∧ OwnAt ρ j) := by
  rcases h with ⟨ds, e⟩ | ⟨ds, e⟩
  · rcases get_set e with ⟨a, b⟩ | ⟨a, b⟩
    · exact .inl ⟨a, .inl ⟨ds, b.symm⟩⟩
    · exact .inr ⟨a, .inl ⟨ds, b⟩⟩
  · rcases get_set e with ⟨a, b⟩ | ⟨a, b⟩
    · exact .inl ⟨a, .inr ⟨ds, b.symm⟩⟩
    · exact .inr ⟨a, .inr ⟨ds, b⟩⟩
theorem SlotOk.at {σ' : L2.St} {i : Nat} {m : M} (h : SlotOk F G H b σ i m) (e : σ'[i]? = σ[i]?) : SlotOk F G H b σ' i m := by
  cases m with
  | no => trivial
  | sh d =>
    obtain ⟨v, a, c⟩ := h
    exact ⟨v, e.trans a, c⟩
  | own ds =>
    obtain ⟨p, vs, a, c⟩ := h
    exact ⟨p, vs, e.trans a, c⟩
  | io ds =>
    obtain ⟨a, c⟩ := h
    exact ⟨e.trans a, c⟩
/-- a slot gets shared data -/
theorem Rp.setSh (h : Rp F G H b σ ρ) (hi : i < ρ.length) (dv : Dv F v d) : Rp F G H b (σ.set i (some v)) (ρ.set i (.sh d)) := by
  have hiσ : i < σ.length := by rw [← h.len]; exact hi
  refine ⟨h.fh, h.gh, by rw [List.length_set, List.length_set]; exact h.len, fun j m q => ?_, fun j k p oj ok ej ek => ?_⟩
  · rcases get_set q with ⟨rfl, rfl⟩ | ⟨hj, q⟩
    · exact ⟨v, List.getElem?_set_self hiσ, dv⟩
    · exact (h.slot j m q).at (List.getElem?_set_ne (Ne.symm hj))
  · rcases own_set2 oj with ⟨_, ⟨_, z⟩ | ⟨_, z⟩⟩ | ⟨hj, oj⟩
    · cases z
    · cases z
    · rcases own_set2 ok with ⟨_, ⟨_, z⟩ | ⟨_, z⟩⟩ | ⟨hk, ok⟩
      · cases z
      · cases z
      · rw [List.getElem?_set_ne (Ne.symm hj)] at ej
        rw [List.getElem?_set_ne (Ne.symm hk)] at ek
        exact h.ne j k p oj ok ej ek
/-- a slot gets a new list of its own -/
theorem Rp.setOwn {p : Addr} {vs : List V} {ds : List D} (h : Rp F G H b σ ρ) (hi : i < ρ.length) (a : H p = some (.lst vs)) (x : Dvs F vs ds) (f : F p = none) (g : G p = none) (n : ∀ j, OwnAt ρ j → σ[j]? ≠ some (some (.ref p))) :
    Rp F G H b (σ.set i (some (.ref p))) (ρ.set i (.own ds)) := by
  have hiσ : i < σ.length := by rw [← h.len]; exact hi
  refine ⟨h.fh, h.gh, by rw [List.length_set, List.length_set]; exact h.len, fun j m q => ?_, fun j k p' oj ok ej ek => ?_⟩
  · rcases get_set q with ⟨rfl, rfl⟩ | ⟨hj, q⟩
    · exact ⟨p, vs, List.getElem?_set_self hiσ, a, x, f, g⟩
    · exact (h.slot j m q).at (List.getElem?_set_ne (Ne.symm hj))
  · rcases own_set2 oj with ⟨ej', _⟩ | ⟨hj, oj'⟩
    · rcases own_set2 ok with ⟨ek', _⟩ | ⟨hk, ok'⟩
      · rw [ej', ek']
      · subst ej'
        rw [List.getElem?_set_self hiσ] at ej
        cases ej
        rw [List.getElem?_set_ne (Ne.symm hk)] at ek
        exact absurd ek (n k ok')
    · rcases own_set2 ok with ⟨ek', _⟩ | ⟨hk, ok'⟩
      · subst ek'
        rw [List.getElem?_set_self hiσ] at ek
        cases ek
        rw [List.getElem?_set_ne (Ne.symm hj)] at ej
        exact absurd ej (n j oj')
      · rw [List.getElem?_set_ne (Ne.symm hj)] at ej
        rw [List.getElem?_set_ne (Ne.symm hk)] at ek
        exact h.ne j k p' oj' ok' ej ek
end
/-- a result is stored in slot i -/
def asg (ρ : En) (i : Nat) : R → Option En
  | .fr ds => if free1 ρ i = true then some (ρ.set i (.own ds)) else none
  | r => do
    let (d, ρ1) ← cap ρ r
    if free1 ρ1 i = true then some (ρ1.set i (.sh d)) else none
theorem asg_ok {F G H : Hp} {b : Addr} {σ : L2.St} {ρ ρ' : En} {v : V} {r : R} {i : Nat} (h : Rp F G H b σ ρ) (k : RsOk F G H σ ρ v r) (e : asg ρ i r = some ρ') :
    ∃ F', Same F F' ∧ Cln F G F' ∧ Rp F' G H b (σ.set i (some v)) ρ' := by
  have sh : ∀ r, RsOk F G H σ ρ v r → (do let (d, ρ1) ← cap ρ r; if free1 ρ1 i = true then some (ρ1.set i (.sh d)) else none) = some ρ' → ∃ F', Same F F' ∧ Cln F G F' ∧ Rp F' G H b (σ.set i (some v)) ρ' := fun r k e => by
    obtain ⟨⟨d, ρ1⟩, e1, e⟩ := bind_some e
    obtain ⟨hf, e⟩ := ite_some e
    cases e
    obtain ⟨F', s1, c1, h1, dv⟩ := cap_ok h k e1
    exact ⟨F', s1, c1, h1.setSh (free1_lt hf) dv⟩
  cases r with
  | sh d => exact sh _ k e
  | bw j => exact sh _ k e
  | fr ds =>
    obtain ⟨hf, e⟩ := ite_some (show (if free1 ρ i = true then some (ρ.set i (.own ds)) else none) = some ρ' from e)
    cases e
    obtain ⟨p, vs, rfl, a, x, f, g, n⟩ := k
    exact ⟨F, .refl _, .refl _ _, h.setOwn (free1_lt hf) a x f g n⟩

/-! ### targets of loops -/
theorem wipe_ne {σ : L2.St} {i : Nat} : ∀ {vs : List Nat}, i ∉ vs → (wipe σ vs)[i]? = σ[i]?
  | [], _ => rfl
  | v :: vs, h => by
    unfold wipe
    have h1 : v ≠ i := fun z => h (by rw [z]; exact List.mem_cons_self)
    rw [List.getElem?_set_ne h1]
    exact wipe_ne fun z => h (List.mem_cons_of_mem _ z)
theorem wipe_in {σ : L2.St} {i : Nat} : ∀ {vs : List Nat}, i ∈ vs → i < σ.length → (wipe σ vs)[i]? = some none
  | v :: vs, h, hl => by
    unfold wipe
    by_cases q : v = i
    · subst q
      exact List.getElem?_set_self (by rw [wipe_length]; exact hl)
    · rw [List.getElem?_set_ne q]
      refine wipe_in ?_ hl
      rcases List.mem_cons.mp h with z | z
      · exact absurd z.symm q
      · exact z
theorem wipe_set {σ : L2.St} {i : Nat} {o : Option V} {vs : List Nat} (h : i ∈ vs) : wipe (σ.set i o) vs = wipe σ vs := by
  apply List.ext_getElem?
  intro j
  by_cases q : j ∈ vs
  · by_cases hl : j < σ.length
    · rw [wipe_in q hl, wipe_in q (by rw [List.length_set]; exact hl)]
    · rw [List.getElem?_eq_none (by rw [wipe_length, List.length_set]; omega), List.getElem?_eq_none (by rw [wipe_length]; omega)]
  · rw [wipe_ne q, wipe_ne q, List.getElem?_set_ne]
    intro z
    exact q (z ▸ h)
abbrev MG := D → En → Option En
def tMG (g : MG) (ws : List Nat) : TG := fun v σ H Q => ∃ F G b ρ d, Rp F G H b σ ρ ∧ Dv F v d ∧ ∃ ρ', g d ρ = some ρ' ∧ ∀ σ', Rp F G H b σ' ρ' → (∀ vs, (∀ i ∈ ws, i ∈ vs) → wipe σ' vs = wipe σ vs) → Q σ' H
structure MGt (X : Cx) (tg : Expr) (g : MG) (ws : List Nat) : Prop where
  ok : PG X tg (tMG g ws)
def gNm (i : Nat) : MG := fun d ρ => if free1 ρ i = true then some (ρ.set i (.sh d)) else none
theorem _root_.L2.PG.imq {X : Cx} {e : Expr} {t t' : TG} (h : PG X e t) (i : ∀ v σ H Q, t' v σ H Q → t v σ H Q) : PG X e t' := ⟨fun pins s σ H v u Q I r q => h.run pins s σ H v u Q I r (i v σ H Q q)⟩
theorem _root_.L2.PI.imq {X : Cx} {tg e : Expr} {t t' : TI} (h : PI X tg e t) (i : ∀ σ H Q, t' σ H Q → t σ H Q) : PI X tg e t' := ⟨fun pins s σ H R I q => h.run pins s σ H R I (i σ H R q)⟩
section
variable {X : Cx} {e a b c tg : Expr} {pos : Pos} {m ma mb mc : MR} {t u : MB}
theorem mg_name {i : Nat} {x : Str} (h : PG X (.Name x pos) (gName i)) : MGt X (.Name x pos) (gNm i) [i] := ⟨h.imq fun v σ H Q q => by
  obtain ⟨F, G, b, ρ, d, hr, dv, ρ', e, k⟩ := q
  obtain ⟨hf, e⟩ := ite_some e
  cases e
  exact k _ (hr.setSh (free1_lt hf) dv) fun vs hv => wipe_set (hv i (by simp))⟩
abbrev MGs' := List D → En → Option En
def tMGs (g : MGs') (ws : List Nat) : TGs := fun vs σ H Q => ∃ F G b ρ ds, Rp F G H b σ ρ ∧ Dvs F vs ds ∧ ∃ ρ', g ds ρ = some ρ' ∧ ∀ σ', Rp F G H b σ' ρ' → (∀ vs, (∀ i ∈ ws, i ∈ vs) → wipe σ' vs = wipe σ vs) → Q σ' H
structure MGts (X : Cx) (tg : List Expr) (g : MGs') (ws : List Nat) : Prop where
  ok : PGs X tg (tMGs g ws)
def gNil' : MGs' := fun ds ρ => match ds with
  | [] => some ρ
  | _ :: _ => none
def gCons' (g : MG) (gs : MGs') : MGs' := fun ds ρ => match ds with
  | [] => none
  | d :: r => do
    let ρ1 ← g d ρ
    gs r ρ1
theorem _root_.L2.PGs.imq {X : Cx} {e : List Expr} {t t' : TGs} (h : PGs X e t) (i : ∀ v σ H Q, t' v σ H Q → t v σ H Q) : PGs X e t' := ⟨fun pins s σ H v u Q I r q => h.run pins s σ H v u Q I r (i v σ H Q q)⟩
theorem mgs_nil : MGts X [] gNil' [] := ⟨pgs_nil.imq fun vs σ H Q q => by
  obtain ⟨F, G, b, ρ, ds, hr, dv, ρ', e, k⟩ := q
  cases dv with
  | nil =>
    cases e
    exact ⟨rfl, k σ hr fun _ _ => rfl⟩
  | cons _ _ => cases e⟩
theorem mgs_cons {es : List Expr} {g : MG} {gs : MGs'} {w1 w2 : List Nat} (h1 : MGt X e g w1) (h2 : MGts X es gs w2) (hs : (assignEach (e :: es) X.env).map (·.2) = assign e X.env :: (assignEach es X.env).map (·.2) := by rfl) : MGts X (e :: es) (gCons' g gs) (w1 ++ w2) :=
  ⟨(pgs_cons h1.ok h2.ok hs).imq fun vs σ H Q q => by
    obtain ⟨F, G, b, ρ, ds, hr, dv, ρ', e, k⟩ := q
    cases dv with
    | nil => cases e
    | cons dv dvs =>
      obtain ⟨ρ1, e1, e2⟩ := bind_some e
      refine ⟨_, _, rfl, F, G, b, ρ, _, hr, dv, ρ1, e1, fun σ1 hr1 w1' => ?_⟩
      refine ⟨F, G, b, ρ1, _, hr1, dvs, ρ', e2, fun σ2 hr2 w2' => k σ2 hr2 fun vs hv => ?_⟩
      rw [w2' vs fun i hi => hv i (List.mem_append_right _ hi), w1' vs fun i hi => hv i (List.mem_append_left _ hi)]⟩
def gTp (n : Nat) (gs : MGs') : MG := fun d ρ => match d with
  | .tuple ds => if ds.length = n then gs ds ρ else none
  | _ => none
theorem ite_some' {α : Type} {c : Prop} [Decidable c] {a : Option α} {z : α} (h : (if c then a else none) = some z) : c ∧ a = some z := by
  by_cases q : c
  · rw [if_pos q] at h
    exact ⟨q, h⟩
  · rw [if_neg q] at h
    cases h
theorem mg_tup {es : List Expr} {k n : Nat} {gs : MGs'} {ws : List Nat} (hc : X.calm = true) (h : MGts X es gs ws) (hn : (assignEach es X.env).length = n := by rfl) (hst : (assignEach es X.env).findIdx? (·.1) = none := by rfl) : MGt X (.Tuple es k pos) (gTp n gs) ws :=
  ⟨(pg_tup hc h.ok hn hst).imq fun v σ H Q q => by
    obtain ⟨F, G, b, ρ, d, hr, dv, ρ', e, k⟩ := q
    cases dv with
    | tup hx dvs =>
      obtain ⟨hl, e⟩ := ite_some' (show (if _ = n then gs _ ρ else none) = some ρ' from e)
      exact ⟨_, _, rfl, .of (hr.fh _ _ hx), by rw [dvs.len]; exact hl, F, G, b, ρ, _, hr, dvs, ρ', e, k⟩
    | non => cases e
    | bl _ => cases e
    | int _ => cases e
    | str _ => cases e
    | lst _ _ => cases e
    | frz _ _ => cases e⟩

/-! ### what is walked -/
structure Wk (J : It) (F : Hp) (ds : List D) : Prop where
  go : ∀ i H, i < ds.length → Same F H → J.go i H
  stop : ∀ H, Same F H → J.stop ds.length H
  yld : ∀ i F1 H x H', i < ds.length → Same F F1 → Same F1 H → J.yld i H x H' → ∃ F2 d, ds[i]? = some d ∧ Post F1 H (.sh d) F2 H' x
abbrev MI := En → Option (List D × En)
def tMI (m : MI) : TI := fun σ H R => ∃ F G b ρ, Rp F G H b σ ρ ∧ ∃ ds ρ', m ρ = some (ds, ρ') ∧ ∀ F' H' J, Same F F' → Cln F G F' → Rp F' G H' b σ ρ' → Wk J F' ds → R J H'
structure MIt (X : Cx) (tg e : Expr) (m : MI) : Prop where
  ok : PI X tg e (tMI m)
def charsD (z : Str) : List D := z.cps.toList.map fun c => .str ⟨#[c]⟩
def itemsD : D → Option (List D)
  | .list ds => some ds
  | .tuple ds => some ds
  | .str z => some (charsD z)
  | _ => none
def mIter (m : MR) : MI := fun ρ => do
  let (d, ρ1) ← mCap m ρ
  let ds ← itemsD d
  some (ds, ρ1)
theorem wk_list {K : Fr0} {F : Hp} {p : Addr} {vs : List V} {ds : List D} (h : F p = some (.lst vs)) (a : Dvs F vs ds) : Wk (Itl K p) F ds := by
  refine ⟨fun i H hi s => ?_, fun H s => ⟨vs, .of (s _ _ h), by rw [a.len]; exact Nat.le_refl _⟩, fun i F1 H x H' hi s1 s2 y => ?_⟩
  · have hv : i < vs.length := by rw [a.len]; exact hi
    exact ⟨vs, vs[i], .of (s _ _ h), List.getElem?_eq_getElem hv⟩
  · obtain ⟨rfl, y⟩ := y
    obtain ⟨v, e1, dv⟩ := a.get (List.getElem?_eq_getElem hi)
    have e2 := y vs (.of (s2 _ _ (s1 _ _ h)))
    rw [e1] at e2
    cases e2
    exact ⟨F1, _, List.getElem?_eq_getElem hi, post_sh s2 (dv.mono s1)⟩
theorem wk_tup {K : Fr0} {F : Hp} {p : Addr} {vs : List V} {ds : List D} (h : F p = some (.tup vs)) (a : Dvs F vs ds) : Wk (Itt K p) F ds := by
  refine ⟨fun i H hi s => ?_, fun H s => ⟨vs, .of (s _ _ h), by rw [a.len]; exact Nat.le_refl _⟩, fun i F1 H x H' hi s1 s2 y => ?_⟩
  · have hv : i < vs.length := by rw [a.len]; exact hi
    exact ⟨vs, vs[i], .of (s _ _ h), List.getElem?_eq_getElem hv⟩
  · obtain ⟨rfl, y⟩ := y
    obtain ⟨v, e1, dv⟩ := a.get (List.getElem?_eq_getElem hi)
    have e2 := y vs (.of (s2 _ _ (s1 _ _ h)))
    rw [e1] at e2
    cases e2
    exact ⟨F1, _, List.getElem?_eq_getElem hi, post_sh s2 (dv.mono s1)⟩
theorem charsD_len (z : Str) : (charsD z).length = z.cps.size := by
  unfold charsD
  rw [List.length_map, Array.length_toList]
theorem wk_str {F : Hp} {z : Str} : Wk (Its z) F (charsD z) := by
  refine ⟨fun i H hi s => by rw [charsD_len] at hi; exact hi, fun H s => by rw [charsD_len]; exact Nat.le_refl _, fun i F1 H x H' hi s1 s2 y => ?_⟩
  obtain ⟨rfl, c, hc, rfl⟩ := y
  refine ⟨F1, .str ⟨#[c]⟩, ?_, post_sh s2 (.str _)⟩
  unfold charsD
  rw [List.getElem?_map, Array.getElem?_toList, hc]
  rfl
theorem mi_of (ha : ME X a ma) : MIt X tg a (mIter ma) := ⟨by
  have pl := pi_list (tg := tg) ha.ok
  have pt := pi_tup (tg := tg) ha.ok
  have ps := pi_str (tg := tg) ha.ok
  refine ⟨fun pins s σ H R I q => ?_⟩
  obtain ⟨F, G, b, ρ, hr, ds, ρ', e, k⟩ := q
  obtain ⟨⟨d, ρ1⟩, e1, e⟩ := bind_some e
  obtain ⟨ds1, e2, e⟩ := bind_some e
  cases e
  obtain ⟨⟨r, ρ0⟩, e0, e1⟩ := bind_some e1
  -- the three roads share the operand
  have step : ∀ (Z : V → Hp → Prop), (∀ F2 H1 v1, Same F F2 → Cln F G F2 → Rp F2 G H1 b σ ρ' → Dv F2 v1 d → Z v1 H1) → tM ma σ H Z := fun Z z =>
    ⟨F, G, b, ρ, hr, r, ρ0, e0, fun F1 H1 v1 s1 c1 h1 k1 => by
      obtain ⟨F2, s2, c2, h2, dv⟩ := cap_ok h1 k1 e1
      exact z F2 H1 v1 (s1.trans s2) (c1.trans c2) h2 dv⟩
  cases d with
  | list xs =>
    cases e2
    refine pl.run pins s σ H R I (step _ fun F2 H1 v1 s1 c1 h1 dv => ?_)
    cases dv with
    | lst hx dvs => exact ⟨_, rfl, ⟨_, .of (h1.fh _ _ hx)⟩, k F2 H1 _ s1 c1 h1 (wk_list hx dvs)⟩
  | tuple xs =>
    cases e2
    refine pt.run pins s σ H R I (step _ fun F2 H1 v1 s1 c1 h1 dv => ?_)
    cases dv with
    | tup hx dvs => exact ⟨_, rfl, ⟨_, .of (h1.fh _ _ hx)⟩, k F2 H1 _ s1 c1 h1 (wk_tup hx dvs)⟩
  | str z =>
    cases e2
    refine ps.run pins s σ H R I (step _ fun F2 H1 v1 s1 c1 h1 dv => ?_)
    cases dv with
    | str z => exact ⟨_, rfl, k F2 H1 _ s1 c1 h1 wk_str⟩
  | none => cases e2
  | bool _ => cases e2
  | int _ => cases e2
  | dict _ => cases e2⟩
/-! ranges -/
def rangeL (lo : Int) : Nat → List Int
  | 0 => []
  | n + 1 => lo :: rangeL (lo + 1) n
theorem rangeL_len (lo : Int) : ∀ n, (rangeL lo n).length = n
  | 0 => rfl
  | n + 1 => by unfold rangeL; rw [List.length_cons, rangeL_len (lo + 1) n]
theorem rangeL_get : ∀ (lo : Int) (n i : Nat), i < n → (rangeL lo n)[i]? = some (lo + i)
  | lo, n + 1, 0, _ => by
    unfold rangeL
    show some lo = some (lo + ((0 : Nat) : Int))
    rw [show lo + ((0 : Nat) : Int) = lo by omega]
  | lo, n + 1, i + 1, h => by
    unfold rangeL
    rw [List.getElem?_cons_succ, rangeL_get (lo + 1) n i (by omega)]
    congr 1
    omega
def rangeD (lo hi : Int) : List D := (rangeL lo (hi - lo).toNat).map .int
theorem wk_range {F : Hp} {lo : Int} {n : Nat} : Wk (Itr lo n) F ((rangeL lo n).map .int) := by
  refine ⟨fun i H hi s => by rw [List.length_map, rangeL_len] at hi; exact hi, fun H s => by rw [List.length_map, rangeL_len]; exact Nat.le_refl _, fun i F1 H x H' hi s1 s2 y => ?_⟩
  obtain ⟨rfl, rfl⟩ := y
  rw [List.length_map, rangeL_len] at hi
  exact ⟨F1, _, by rw [List.getElem?_map, rangeL_get lo n i hi]; rfl, post_sh s2 (.int _)⟩
def i62 (i : Int) : Bool := decide (-(2 ^ 62) ≤ i) && decide (i < 2 ^ 62)
def mRange1 (ms : MA) : MI := fun ρ => do
  let (ds, ρ1) ← ms ρ
  match ds with
  | [.int j] => if i62 j = true then some (rangeD 0 j, ρ1) else none
  | _ => none
def mRange2 (ms : MA) : MI := fun ρ => do
  let (ds, ρ1) ← ms ρ
  match ds with
  | [.int i, .int j] => if (i62 i && i62 j) = true then some (rangeD i j, ρ1) else none
  | _ => none
theorem i62_ok {i : Int} (h : i62 i = true) : -(2 ^ 62) ≤ i ∧ i < 2 ^ 62 := by
  unfold i62 at h
  have := Bool.and_eq_true_iff.mp h
  exact ⟨of_decide_eq_true this.1, of_decide_eq_true this.2⟩
variable {ms : MA} {p : Pos}
theorem mi_range1 (hg : Gl X "range") (hm : X.mg "range" = none) (ha : MAs X [a] ms) (hs : starEach [a] X.env = [(false, eval a X.env)] := by rfl) : MIt X tg (.Call (.Name "range" p) [a] [] pos) (mRange1 ms) := ⟨(pi_range1 hg hm ha.ok hs).imq fun σ H R q => by
  obtain ⟨F, G, b, ρ, hr, ds, ρ', e, k⟩ := q
  obtain ⟨⟨ds1, ρ1⟩, e1, e⟩ := bind_some e
  refine ⟨F, G, b, ρ, hr, ds1, ρ1, e1, fun F1 H1 vs s1 c1 h1 dvs => ?_⟩
  match ds1, dvs, e with
  | [.int j], .cons (.int _) .nil, e =>
    obtain ⟨hj, e⟩ := ite_some (show (if i62 j = true then some (rangeD 0 j, ρ1) else none) = some (ds, ρ') from e)
    cases e
    have b62 := i62_ok hj
    refine ⟨j, rfl, b62.1, b62.2, k F1 H1 _ s1 c1 h1 ?_⟩
    have := wk_range (F := F1) (lo := 0) (n := j.toNat)
    unfold rangeD
    rw [show (j - 0).toNat = j.toNat by omega]
    exact this⟩
theorem mi_range2 (hg : Gl X "range") (hm : X.mg "range" = none) (ha : MAs X [a, b] ms) (hs : starEach [a, b] X.env = [(false, eval a X.env), (false, eval b X.env)] := by rfl) (hs2 : starEach [b] X.env = [(false, eval b X.env)] := by rfl) :
    MIt X tg (.Call (.Name "range" p) [a, b] [] pos) (mRange2 ms) := ⟨(pi_range2 hg hm ha.ok hs hs2).imq fun σ H R q => by
  obtain ⟨F, G, b, ρ, hr, ds, ρ', e, k⟩ := q
  obtain ⟨⟨ds1, ρ1⟩, e1, e⟩ := bind_some e
  refine ⟨F, G, b, ρ, hr, ds1, ρ1, e1, fun F1 H1 vs s1 c1 h1 dvs => ?_⟩
  match ds1, dvs, e with
  | [.int i, .int j], .cons (.int _) (.cons (.int _) .nil), e =>
    obtain ⟨hj, e⟩ := ite_some (show (if (i62 i && i62 j) = true then some (rangeD i j, ρ1) else none) = some (ds, ρ') from e)
    cases e
    have hj := Bool.and_eq_true_iff.mp hj
    have b1 := i62_ok hj.1
    have b2 := i62_ok hj.2
    exact ⟨i, j, rfl, ⟨b1.1, b1.2, b2.1, b2.2⟩, k F1 H1 _ s1 c1 h1 wk_range⟩⟩
end
end Mi
set_option Elab.async false
set_option linter.all false
set_option maxRecDepth 100000
/-! Core4: comprehensions, statements, loops, defs. -/
namespace Mi
open PySem PySem.Spec PyProof.Rows L2
variable [KK]

/-! ### comprehensions -/
def wipeE (ρ : En) : List Nat → En
  | [] => ρ
  | v :: vs => (wipeE ρ vs).set v .no
def backE (ρ ρ1 : En) : List Nat → En
  | [] => ρ1
  | v :: vs => (backE ρ ρ1 vs).set v (ρ.getD v .no)
def okW (ρ : En) (vs : List Nat) : Bool := vs.all fun v => match ρ[v]? with
  | some (.own _) => false
  | some (.io _) => false
  | _ => true
theorem wipeE_len (ρ : En) : ∀ vs, (wipeE ρ vs).length = ρ.length
  | [] => rfl
  | v :: vs => by unfold wipeE; rw [List.length_set, wipeE_len ρ vs]
theorem backE_len (ρ ρ1 : En) : ∀ vs, (backE ρ ρ1 vs).length = ρ1.length
  | [] => rfl
  | v :: vs => by unfold backE; rw [List.length_set, backE_len ρ ρ1 vs]
theorem wipeE_get {ρ : En} {i : Nat} {m : M} : ∀ {vs : List Nat}, (wipeE ρ vs)[i]? = some m → (i ∈ vs ∧ m = .no) ∨ (i ∉ vs ∧ ρ[i]? = some m)
  | [], h => .inr ⟨by simp, h⟩
  | v :: vs, h => by
    unfold wipeE at h
    rcases get_set h with ⟨rfl, rfl⟩ | ⟨hj, h⟩
    · exact .inl ⟨List.mem_cons_self, rfl⟩
    · rcases wipeE_get h with ⟨a, b⟩ | ⟨a, b⟩
      · exact .inl ⟨List.mem_cons_of_mem _ a, b⟩
      · refine .inr ⟨fun z => ?_, b⟩
        rcases List.mem_cons.mp z with z | z
        · exact hj z
        · exact a z
theorem backE_get {ρ ρ1 : En} {i : Nat} {m : M} : ∀ {vs : List Nat}, (backE ρ ρ1 vs)[i]? = some m → (i ∈ vs ∧ m = ρ.getD i .no) ∨ (i ∉ vs ∧ ρ1[i]? = some m)
  | [], h => .inr ⟨by simp, h⟩
  | v :: vs, h => by
    unfold backE at h
    rcases get_set h with ⟨rfl, rfl⟩ | ⟨hj, h⟩
    · exact .inl ⟨List.mem_cons_self, rfl⟩
    · rcases backE_get h with ⟨a, b⟩ | ⟨a, b⟩
      · exact .inl ⟨List.mem_cons_of_mem _ a, b⟩
      · refine .inr ⟨fun z => ?_, b⟩
        rcases List.mem_cons.mp z with z | z
        · exact hj z
        · exact a z
section
variable {F F' G H H' : Hp} {b : Addr} {σ σ2 : L2.St} {ρ ρ3 : En} {vs : List Nat}
theorem Rp.wiped (h : Rp F G H b σ ρ) : Rp F G H b (wipe σ vs) (wipeE ρ vs) := by
  have oo : ∀ i, OwnAt (wipeE ρ vs) i → OwnAt ρ i ∧ i ∉ vs := fun i o => by
    rcases o with ⟨ds, e⟩ | ⟨ds, e⟩
    · rcases wipeE_get e with ⟨_, z⟩ | ⟨a, z⟩
      · cases z
      · exact ⟨.inl ⟨ds, z⟩, a⟩
    · rcases wipeE_get e with ⟨_, z⟩ | ⟨a, z⟩
      · cases z
      · exact ⟨.inr ⟨ds, z⟩, a⟩
  refine ⟨h.fh, h.gh, by rw [wipeE_len, wipe_length]; exact h.len, fun i m q => ?_, fun i j p oi oj ei ej => ?_⟩
  · rcases wipeE_get q with ⟨_, rfl⟩ | ⟨hi, q⟩
    · trivial
    · exact (h.slot i m q).at (wipe_ne hi)
  · obtain ⟨oi, ni⟩ := oo i oi
    obtain ⟨oj, nj⟩ := oo j oj
    rw [wipe_ne ni] at ei
    rw [wipe_ne nj] at ej
    exact h.ne i j p oi oj ei ej
/-- behind a turn of a comprehension: its own slots are what they were -/
theorem Rp.backed (h0 : Rp F G H b σ ρ) (e : Same F F') (h : Rp F' G H' b σ2 ρ3) (w : wipe σ2 vs = wipe σ vs) (ok : okW ρ vs = true) : Rp F' G H' b σ (backE ρ ρ3 vs) := by
  have ls : σ2.length = σ.length := by
    have := congrArg List.length w
    rw [wipe_length, wipe_length] at this
    exact this
  have out : ∀ i, i ∉ vs → σ[i]? = σ2[i]? := fun i hi => by rw [← wipe_ne (σ := σ2) hi, w, wipe_ne hi]
  have noW : ∀ i, i ∈ vs → ∀ m, m = ρ.getD i .no → (m = .no ∨ ∃ d, m = .sh d ∧ ρ[i]? = some m) := fun i hi m hm => by
    have q := List.all_eq_true.mp ok i hi
    rw [List.getD_eq_getElem?_getD] at hm
    cases z : ρ[i]? with
    | none => rw [z] at hm; exact .inl hm
    | some w =>
      rw [z] at hm q
      cases w with
      | no => exact .inl hm
      | sh d => exact .inr ⟨d, hm, by rw [hm]; rfl⟩
      | own ds => cases q
      | io ds => cases q
  have oo : ∀ i, OwnAt (backE ρ ρ3 vs) i → OwnAt ρ3 i ∧ i ∉ vs := fun i o => by
    rcases o with ⟨ds, e⟩ | ⟨ds, e⟩
    · rcases backE_get e with ⟨a, z⟩ | ⟨a, z⟩
      · rcases noW i a _ z with q | ⟨d, q, _⟩ <;> cases q
      · exact ⟨.inl ⟨ds, z⟩, a⟩
    · rcases backE_get e with ⟨a, z⟩ | ⟨a, z⟩
      · rcases noW i a _ z with q | ⟨d, q, _⟩ <;> cases q
      · exact ⟨.inr ⟨ds, z⟩, a⟩
  refine ⟨h.fh, h.gh, by rw [backE_len, h.len, ls], fun i m q => ?_, fun i j p oi oj ei ej => ?_⟩
  · rcases backE_get q with ⟨a, z⟩ | ⟨a, z⟩
    · rcases noW i a m z with rfl | ⟨d, rfl, q⟩
      · trivial
      · obtain ⟨v, c, dv⟩ := h0.slot i _ q
        exact ⟨v, c, dv.mono e⟩
    · exact (h.slot i m z).at (out i a)
  · obtain ⟨oi, ni⟩ := oo i oi
    obtain ⟨oj, nj⟩ := oo j oj
    rw [out i ni] at ei
    rw [out j nj] at ej
    exact h.ne i j p oi oj ei ej
end
theorem wipe_wipe {σ : L2.St} {vs : List Nat} : wipe (wipe σ vs) vs = wipe σ vs := by
  apply List.ext_getElem?
  intro j
  by_cases q : j ∈ vs
  · by_cases hl : j < σ.length
    · rw [wipe_in q hl, wipe_in q (by rw [wipe_length]; exact hl)]
    · rw [List.getElem?_eq_none (by rw [wipe_length, wipe_length]; omega), List.getElem?_eq_none (by rw [wipe_length]; omega)]
  · rw [wipe_ne q]
def mYes : MB := fun ρ => some (true, ρ)
def lcGo (g : MG) (t : MB) (el : MR) (vs : List Nat) : List D → En → List D → Option (List D × En)
  | [], ρ, acc => some (acc, ρ)
  | d :: ds, ρ, acc => do
    let ρ1 ← g d (wipeE ρ vs)
    let (k, ρ2) ← t ρ1
    if k = true then do
      let (y, ρ3) ← mCap el ρ2
      if acc.length < lim then lcGo g t el vs ds (backE ρ ρ3 vs) (acc ++ [y]) else none
    else lcGo g t el vs ds (backE ρ ρ2 vs) acc
def mLc (it : MI) (g : MG) (t : MB) (el : MR) (vs : List Nat) : MR := fun ρ => do
  let (ds, ρ1) ← it ρ
  if okW ρ1 vs = true then do
    let (acc, ρ2) ← lcGo g t el vs ds ρ1 []
    some (.fr acc, ρ2)
  else none
theorem okW_back {ρ ρ3 : En} {vs : List Nat} (hl : ρ3.length = ρ.length) (h : okW ρ vs = true) : okW (backE ρ ρ3 vs) vs = true := by
  unfold okW at h ⊢
  rw [List.all_eq_true] at h ⊢
  intro i hi
  have q := h i hi
  cases z : (backE ρ ρ3 vs)[i]? with
  | none => rfl
  | some m =>
    rcases backE_get z with ⟨_, e⟩ | ⟨e, _⟩
    · rw [List.getD_eq_getElem?_getD] at e
      cases y : ρ[i]? with
      | none => rw [y] at e; subst e; rfl
      | some w =>
        rw [y] at e q
        cases w <;> first | (cases q; done) | (subst e; rfl)
    · exact absurd hi e
/-- the tests of a clause -/
structure MTs (X : Cx) (ifs : List Expr) (t : MB) : Prop where
  ok : PTs X ifs (tMB t)
theorem mts_nil {X : Cx} : MTs X [] mYes := ⟨⟨fun pins s σ H Q I q => pts_nil.run pins s σ H Q I (by
  obtain ⟨F, G, b, ρ, hr, r, ρ', e, k⟩ := q
  cases e
  exact k F H (.refl _) (.refl _ _) hr)⟩⟩
theorem mts_one {X : Cx} {c : Expr} {t : MB} (h : MT X c t) : MTs X [c] t := ⟨pts_one h.ok⟩
theorem same_less {G H : Hp} {p : Addr} (h : G p = none) {o : HO} (e : Same (upd G p o) H) : Same G H := (same_upd h).trans e
section
variable {X : Cx} {elt tg iter : Expr} {ifs : List Expr} {scope : Scope} {own : List (Str × Nat)} {pos : Pos} {it : MI} {g : MG} {t : MB} {el : MR}
/-- the loop of a comprehension: from the reading by plain functions to the layer's -/
theorem lc_read {ws : List Nat} {vs : List Nat} (hws : ∀ i ∈ ws, i ∈ vs) {σ : L2.St} {H : Hp} {Q : VK} (q : tM (mLc it g t el vs) σ H Q) : tLc (tMI it) (tMG g ws) (tMB t) (tM el) vs σ H Q := by
  obtain ⟨F, G, b, ρ, hr, r, ρ', e, k⟩ := q
  obtain ⟨⟨ds, ρ1⟩, e1, e⟩ := bind_some e
  obtain ⟨hok, e⟩ := ite_some' e
  obtain ⟨⟨accE, ρ2⟩, e2, e⟩ := bind_some e
  cases e
  refine ⟨F, G, b, ρ, hr, ds, ρ1, e1, fun F1 H1 J s1 c1 h1 wk Dl hD => ?_⟩
  have gD : G Dl = none := h1.gh.free hD
  have fD : F1 Dl = none := h1.fh.free hD
  refine ⟨fun i m Hc => i ≤ ds.length ∧ m = ds.length - i ∧ ∃ F2 ρi acc vacc, Same F1 F2 ∧ Cln F1 G F2 ∧ Rp F2 G Hc b σ ρi ∧ Hc Dl = some (.lst vacc) ∧ Dvs F2 vacc acc ∧ F2 Dl = none ∧
      (∀ j, OwnAt ρi j → σ[j]? ≠ some (some (.ref Dl))) ∧ okW ρi vs = true ∧ lcGo g t el vs (ds.drop i) ρi acc = some (accE, ρ'), ⟨ds.length, Nat.zero_le _, rfl, F1, ρ1, [], [], .refl _, .refl _ _, ?_, upd_same, .nil, fD, ?_, hok, e2⟩, ?_⟩
  · exact h1.grow (.refl _) (same_upd hD) (h1.fh.trans (same_upd hD)) fun i p o q => (h1.own_some o q).elim fun _ z => z.2.1
  · intro j o q
    obtain ⟨_, z, _, _⟩ := h1.own_some o q
    rw [hD] at z
    cases z
  rintro i m Hc ⟨hi, rfl, F2, ρi, acc, vacc, s2, c2, h2, aD, xD, fD2, nD, okI, eL⟩
  by_cases hlt : i < ds.length
  · have hdrop : ds.drop i = ds[i] :: ds.drop (i + 1) := List.drop_eq_getElem_cons hlt
    rw [hdrop] at eL
    obtain ⟨ρa, ea, eL⟩ := bind_some eL
    obtain ⟨⟨kb, ρb⟩, eb, eL⟩ := bind_some eL
    refine .inr ⟨wk.go i Hc hlt (s2.trans h2.fh), fun H' => ∃ F5 ρ5 acc5 vacc5, Same F1 F5 ∧ Cln F1 G F5 ∧ Rp F5 G H' b σ ρ5 ∧ H' Dl = some (.lst vacc5) ∧ Dvs F5 vacc5 acc5 ∧ F5 Dl = none ∧
      (∀ j, OwnAt ρ5 j → σ[j]? ≠ some (some (.ref Dl))) ∧ okW ρ5 vs = true ∧ lcGo g t el vs (ds.drop (i + 1)) ρ5 acc5 = some (accE, ρ'), fun H' ⟨F5, ρ5, a5, v5, r5⟩ => ⟨ds.length - (i + 1), by omega, by omega, rfl, F5, ρ5, a5, v5, r5⟩, fun x H' y => ?_⟩
    obtain ⟨F3, d, ed, P⟩ := wk.yld i F2 Hc x H' hlt s2 h2.fh y
    have edd : d = ds[i] := by
      rw [List.getElem?_eq_getElem hlt] at ed
      exact (Option.some.inj ed).symm
    subst edd
    -- the guard: G and the list that grows
    have gu : Same (upd G Dl (.lst vacc)) H' := fun a o q => by
      by_cases z : a = Dl
      · subst z
        rw [upd_same] at q
        rw [P.hh _ _ aD, q]
      · rw [upd_ne z] at q
        exact P.hh _ _ (h2.gh _ _ q)
    have h3 : Rp F3 G H' b σ ρi := P.rp h2
    have c3 : Cln F2 G F3 := P.cln h2.gh
    have h3g : Rp F3 (upd G Dl (.lst vacc)) H' b (wipe σ vs) (wipeE ρi vs) := by
      refine (h3.more gu fun j p o q => ?_).wiped
      have : p ≠ Dl := fun z => nD j o (by rw [← z]; exact q)
      rw [upd_ne this]
      exact (h3.own_some o q).elim fun _ z => z.2.2
    have fD3 : F3 Dl = none := by
      cases z : F3 Dl with
      | none => rfl
      | some o =>
        rcases P.new Dl (by rw [z]; exact fun x => nomatch x) with w | w
        · exact absurd fD2 w
        · rw [aD] at w; cases w
    have dv : Dv F3 x ds[i] := P.res
    refine ⟨F3, _, b, _, _, h3g, dv, ρa, ea, fun σ2 h4 w4 => ⟨(w4 vs hws).trans wipe_wipe, ?_⟩⟩
    have w4' := (w4 vs hws).trans wipe_wipe
    refine ⟨F3, _, b, ρa, h4, kb, ρb, eb, fun F5 H5 s5 c5 h5 => ?_⟩
    have lenb : ∀ {ρz : En} {Fz Hz : Hp}, Rp Fz (upd G Dl (.lst vacc)) Hz b σ2 ρz → ρz.length = ρi.length := fun {ρz Fz Hz} hz => by
      have l1 := hz.len
      have l2 := congrArg List.length w4'
      rw [wipe_length, wipe_length] at l2
      rw [l1, l2, h3.len]
    have fin : ∀ {ρz : En} {Fz Hz : Hp}, Same F3 Fz → Cln F3 (upd G Dl (.lst vacc)) Fz → Rp Fz (upd G Dl (.lst vacc)) Hz b σ2 ρz →
        Rp Fz G Hz b σ (backE ρi ρz vs) ∧ Hz Dl = some (.lst vacc) ∧ Fz Dl = none ∧ (∀ j, OwnAt (backE ρi ρz vs) j → σ[j]? ≠ some (some (.ref Dl))) ∧ okW (backE ρi ρz vs) vs = true := fun {ρz Fz Hz} sz cz hz => by
      have hb := h3.backed sz (hz.less (same_upd gD)) w4' okI
      have hb2 : Rp Fz (upd G Dl (.lst vacc)) Hz b σ (backE ρi ρz vs) := (h3.more gu fun j p o q => by
        have : p ≠ Dl := fun z => nD j o (by rw [← z]; exact q)
        rw [upd_ne this]
        exact (h3.own_some o q).elim fun _ z => z.2.2).backed sz hz w4' okI
      refine ⟨hb, hz.gh _ _ upd_same, ?_, fun j o q => ?_, okW_back (lenb hz) okI⟩
      · cases z : Fz Dl with
        | none => rfl
        | some o => exact absurd fD3 (cz Dl (by rw [upd_same]; exact fun x => nomatch x) (by rw [z]; exact fun x => nomatch x))
      · obtain ⟨_, _, _, z⟩ := hb2.own_some o q
        rw [upd_same] at z
        cases z
    cases kb with
    | false =>
      have eL : lcGo g t el vs (ds.drop (i + 1)) (backE ρi ρb vs) acc = some (accE, ρ') := eL
      refine iteF ?_
      obtain ⟨f1, f2, f3, f4, f5⟩ := fin s5 c5 h5
      exact ⟨F5, _, acc, vacc, s2.trans (P.ff.trans s5), c2.trans (c3.trans (c5.less (same_upd gD))), f1, f2, xD.mono (P.ff.trans s5), f3, f4, f5, eL⟩
    | true =>
      refine iteT ?_
      obtain ⟨⟨y', ρ6⟩, e6, eL⟩ := bind_some eL
      obtain ⟨hlen, eL⟩ := ite_some' eL
      obtain ⟨⟨r6, ρ7⟩, e7, e6⟩ := bind_some e6
      refine ⟨F5, _, b, ρb, h5, r6, ρ7, e7, fun F7 H7 v7 s7 c7 h7 k7 => ?_⟩
      obtain ⟨F8, s8, c8, h8, dv8⟩ := cap_ok h7 k7 e6
      have cc := c5.trans (c7.trans c8)
      obtain ⟨f1, f2, f3, f4, f5⟩ := fin (s5.trans (s7.trans s8)) cc h8
      have x8 : Dvs F8 vacc acc := xD.mono (P.ff.trans (s5.trans (s7.trans s8)))
      refine ⟨vacc, f2, by rw [xD.len]; exact lim_lt hlen, F8, _, acc ++ [y'], vacc ++ [v7], s2.trans (P.ff.trans (s5.trans (s7.trans s8))), c2.trans (c3.trans (cc.less (same_upd gD))), ?_, upd_same, x8.snoc dv8, f3, f4, f5, eL⟩
      -- the grown list: nobody else looks at it
      refine ⟨fun a o q => ?_, fun a o q => ?_, f1.len, fun j mm q => ?_, f1.ne⟩
      · rw [upd_ne (ne_of_none q f3)]
        exact f1.fh _ _ q
      · rw [upd_ne (ne_of_none q gD)]
        exact f1.gh _ _ q
      · have sl := f1.slot j mm q
        cases mm with
        | no => trivial
        | sh d => exact sl
        | own ds1 =>
          obtain ⟨p1, vs1, a1, c1', x1⟩ := sl
          exact ⟨p1, vs1, a1, by rw [upd_ne (fun z => f4 j (.inl ⟨ds1, q⟩) (by rw [← z]; exact a1))]; exact c1', x1⟩
        | io ds1 =>
          obtain ⟨a1, vs1, c1', x1⟩ := sl
          exact ⟨a1, vs1, by rw [upd_ne (fun z => f4 j (.inr ⟨ds1, q⟩) (by rw [← z]; exact a1))]; exact c1', x1⟩
  · have ei : i = ds.length := by omega
    subst ei
    rw [List.drop_length] at eL
    cases eL
    refine .inl ⟨wk.stop Hc (s2.trans h2.fh), k F2 Hc (.ref Dl) (s1.trans s2) (c1.trans c2) h2 ⟨Dl, vacc, rfl, aD, xD, fD2, gD, nD⟩⟩
theorem me_lc {ws : List Nat} (hc : X.calm = true) (hN : X.N.Nodup) (hi : MIt X tg iter it) (ok : BlkOk X.N X.env.scope scope own)
    (hg : ∀ (s : Shared) (H : Hp) (C : Addr) (cl : List (Str × Addr)) (fp : List Addr), MGt (X.blk s H scope (compEnvC scope cl C X.env) fp) tg g ws)
    (ht : ∀ (s : Shared) (H : Hp) (C : Addr) (cl : List (Str × Addr)) (fp : List Addr), MTs (X.blk s H scope (compEnvC scope cl C X.env) fp) ifs t)
    (he : ∀ (s : Shared) (H : Hp) (C : Addr) (cl : List (Str × Addr)) (fp : List Addr), ME (X.blk s H scope (compEnvC scope cl C X.env) fp) elt el)
    (hws : ∀ i ∈ ws, i ∈ own.map (·.2) := by decide) (hs : ∀ x, foldedSetIterable iter X.env x = pure x := by intro _; rfl) :
    ME X (.ListComp elt [⟨tg, iter, ifs, 0⟩] scope pos) (mLc it g t el (own.map (·.2))) :=
  ⟨(pe_lc hc hN hi.ok ok (fun s H C cl fp => (hg s H C cl fp).ok) (fun s H C cl fp => (ht s H C cl fp).ok) (fun s H C cl fp => (he s H C cl fp).ok) hs).imq fun σ H Q q => lc_read hws q⟩
end

/-! ### statements -/
inductive Out where
  | nx | bk | ct | rt (r : R)
abbrev MS' := En → Option (Out × En)
def endOf (Dn : Ends) (F G H : Hp) (σ : L2.St) (ρ : En) : Out → Prop
  | .nx => Dn.nx σ H
  | .bk => Dn.bk σ H
  | .ct => Dn.ct σ H
  | .rt r => ∀ v, RsOk F G H σ ρ v r → Dn.rt v H
def tMS (m : MS') : TS := fun Dn σ H => ∃ F G b ρ, Rp F G H b σ ρ ∧ ∃ o ρ', m ρ = some (o, ρ') ∧ ∀ F' H' σ', Same F F' → Cln F G F' → Rp F' G H' b σ' ρ' → endOf Dn F' G H' σ' ρ' o
structure MSt (X : Cx) (st : Stmt) (m : MS') : Prop where
  ok : PS X st (tMS m)
structure MSs (X : Cx) (st : List Stmt) (m : MS') : Prop where
  ok : PSs X st (tMS m)
def sNil : MS' := fun ρ => some (.nx, ρ)
def sSeq (m n : MS') : MS' := fun ρ => do
  let (o, ρ1) ← m ρ
  match o with
  | .nx => n ρ1
  | o => some (o, ρ1)
section
variable {X : Cx} {e a b c tg : Expr} {pos : Pos} {m ma mb mc : MR} {t u : MB} {st : Stmt} {rest : List Stmt} {n n1 n2 : MS'}
theorem mss_nil : MSs X [] sNil := ⟨pss_nil.imq fun D σ H q => by
  obtain ⟨F, G, b, ρ, hr, o, ρ', e, k⟩ := q
  cases e
  exact k F H σ (.refl _) (.refl _ _) hr⟩
theorem mss_cons (h1 : MSt X st n1) (h2 : MSs X rest n2) : MSs X (st :: rest) (sSeq n1 n2) := ⟨(pss_cons h1.ok h2.ok).imq fun D σ H q => by
  obtain ⟨F, G, b, ρ, hr, o, ρ', e, k⟩ := q
  obtain ⟨⟨o1, ρ1⟩, e1, e⟩ := bind_some e
  refine ⟨F, G, b, ρ, hr, o1, ρ1, e1, fun F1 H1 σ1 s1 c1 h1 => ?_⟩
  cases o1 with
  | nx => exact ⟨F1, G, b, ρ1, h1, o, ρ', e, fun F2 H2 σ2 s2 c2 h2 => k F2 H2 σ2 (s1.trans s2) (c1.trans c2) h2⟩
  | bk => cases e; exact k F1 H1 σ1 s1 c1 h1
  | ct => cases e; exact k F1 H1 σ1 s1 c1 h1
  | rt r => cases e; exact k F1 H1 σ1 s1 c1 h1⟩
def sBrk : MS' := fun ρ => some (.bk, ρ)
def sCont : MS' := fun ρ => some (.ct, ρ)
theorem ms_pass : MSt X (.Pass pos) sNil := ⟨ps_pass.imq fun D σ H q => by
  obtain ⟨F, G, b, ρ, hr, o, ρ', e, k⟩ := q
  cases e
  exact k F H σ (.refl _) (.refl _ _) hr⟩
theorem ms_break : MSt X (.Break pos) sBrk := ⟨ps_break.imq fun D σ H q => by
  obtain ⟨F, G, b, ρ, hr, o, ρ', e, k⟩ := q
  cases e
  exact k F H σ (.refl _) (.refl _ _) hr⟩
theorem ms_continue : MSt X (.Continue pos) sCont := ⟨ps_continue.imq fun D σ H q => by
  obtain ⟨F, G, b, ρ, hr, o, ρ', e, k⟩ := q
  cases e
  exact k F H σ (.refl _) (.refl _ _) hr⟩
def sExpr (m : MR) : MS' := fun ρ => do
  let (_, ρ1) ← m ρ
  some (.nx, ρ1)
theorem ms_expr (he : ME X e m) (hs : swapsWith e none pos.line X.env = pure false := by rfl) : MSt X (.Expr e pos) (sExpr m) := ⟨(ps_expr he.ok hs).imq fun D σ H q => by
  obtain ⟨F, G, b, ρ, hr, o, ρ', e, k⟩ := q
  obtain ⟨⟨o1, ρ1⟩, e1, e⟩ := bind_some e
  cases e
  exact ⟨F, G, b, ρ, hr, o1, _, e1, fun F1 H1 v s1 c1 h1 k1 => k F1 H1 σ s1 c1 h1⟩⟩
/-- what is handed back: an own list becomes new data of the caller's -/
def retR (ρ : En) : R → Option (R × En)
  | .sh d => some (.sh d, ρ)
  | .fr ds => some (.fr ds, ρ)
  | .bw i => match ρ[i]? with
    | some (.own ds) => some (.fr ds, ρ.set i .no)
    | some (.sh d) => some (.sh d, ρ)
    | _ => none
def sRet (m : MR) : MS' := fun ρ => do
  let (r, ρ1) ← m ρ
  let (r', ρ2) ← retR ρ1 r
  some (.rt r', ρ2)
theorem Rp.drop {F G H : Hp} {b : Addr} {σ : L2.St} {ρ : En} {i : Nat} (h : Rp F G H b σ ρ) : Rp F G H b σ (ρ.set i .no) := by
  refine ⟨h.fh, h.gh, by rw [List.length_set]; exact h.len, fun j m q => ?_, fun j k p oj ok => ?_⟩
  · rcases get_set q with ⟨rfl, rfl⟩ | ⟨_, q⟩
    · trivial
    · exact h.slot j m q
  · have z : ∀ j, OwnAt (ρ.set i .no) j → OwnAt ρ j := fun j o => by
      rcases own_set2 o with ⟨_, ⟨_, z⟩ | ⟨_, z⟩⟩ | ⟨_, o⟩
      · cases z
      · cases z
      · exact o
    exact h.ne j k p (z j oj) (z k ok)
theorem ret_ok {F G H : Hp} {b : Addr} {σ : L2.St} {ρ ρ' : En} {v : V} {r r' : R} (h : Rp F G H b σ ρ) (k : RsOk F G H σ ρ v r) (e : retR ρ r = some (r', ρ')) : Rp F G H b σ ρ' ∧ RsOk F G H σ ρ' v r' := by
  cases r with
  | sh d => cases e; exact ⟨h, k⟩
  | fr ds => cases e; exact ⟨h, k⟩
  | bw i =>
    have k' : σ[i]? = some (some v) := k
    unfold retR at e
    cases q : ρ[i]? with
    | none => simp [q] at e
    | some w =>
      have s := h.slot i w q
      cases w with
      | no => simp [q] at e
      | io ds => simp [q] at e
      | sh d =>
        simp only [q] at e
        cases e
        obtain ⟨v', a, c⟩ := s
        rw [k'] at a
        cases a
        exact ⟨h, c⟩
      | own ds =>
        simp only [q] at e
        cases e
        obtain ⟨p, vs, a, c, x, f, g⟩ := s
        rw [k'] at a
        cases a
        refine ⟨h.drop, p, vs, rfl, c, x, f, g, fun j o z => ?_⟩
        rcases own_set2 o with ⟨_, ⟨_, w⟩ | ⟨_, w⟩⟩ | ⟨hj, o⟩
        · cases w
        · cases w
        · exact hj (h.ne j i p o (.inl ⟨ds, q⟩) z k')
theorem ms_ret (he : ME X e m) : MSt X (.Return (some e) pos) (sRet m) := ⟨(ps_ret he.ok).imq fun D σ H q => by
  obtain ⟨F, G, b, ρ, hr, o, ρ', e, k⟩ := q
  obtain ⟨⟨r1, ρ1⟩, e1, e⟩ := bind_some e
  obtain ⟨⟨r2, ρ2⟩, e2, e⟩ := bind_some e
  cases e
  refine ⟨F, G, b, ρ, hr, r1, ρ1, e1, fun F1 H1 v s1 c1 h1 k1 => ?_⟩
  obtain ⟨h2, k2⟩ := ret_ok h1 k1 e2
  exact k F1 H1 σ s1 c1 h2 v k2⟩
def sRetN : MS' := fun ρ => some (.rt (.sh .none), ρ)
theorem ms_retN : MSt X (.Return none pos) sRetN := ⟨ps_retN.imq fun D σ H q => by
  obtain ⟨F, G, b, ρ, hr, o, ρ', e, k⟩ := q
  cases e
  exact k F H σ (.refl _) (.refl _ _) hr _ .non⟩
def sIf (t : MB) (n1 n2 : MS') : MS' := fun ρ => do
  let (k, ρ1) ← t ρ
  if k = true then n1 ρ1 else n2 ρ1
theorem ms_if {s1 s2 : List Stmt} (hc : MT X c t) (ha : MSs X s1 n1) (hb : MSs X s2 n2) : MSt X (.If c s1 s2 pos) (sIf t n1 n2) := ⟨(ps_if hc.ok ha.ok hb.ok).imq fun D σ H q => by
  obtain ⟨F, G, b, ρ, hr, o, ρ', e, k⟩ := q
  obtain ⟨⟨k1, ρ1⟩, e1, e⟩ := bind_some e
  refine ⟨F, G, b, ρ, hr, k1, ρ1, e1, fun F1 H1 s1 c1 h1 => ?_⟩
  cases k1 with
  | true => exact ⟨F1, G, b, ρ1, h1, o, ρ', e, fun F2 H2 σ2 s2 c2 h2 => k F2 H2 σ2 (s1.trans s2) (c1.trans c2) h2⟩
  | false => exact ⟨F1, G, b, ρ1, h1, o, ρ', e, fun F2 H2 σ2 s2 c2 h2 => k F2 H2 σ2 (s1.trans s2) (c1.trans c2) h2⟩⟩
def sSet (i : Nat) (m : MR) : MS' := fun ρ => do
  let (r, ρ1) ← m ρ
  let ρ2 ← asg ρ1 i r
  some (.nx, ρ2)
theorem asg_read {i : Nat} {D : Ends} {σ : L2.St} {H : Hp} (q : tMS (sSet i m) D σ H) : tAsg (tM m) (gName i) D σ H := by
  obtain ⟨F, G, b, ρ, hr, o, ρ', e, k⟩ := q
  obtain ⟨⟨r1, ρ1⟩, e1, e⟩ := bind_some e
  obtain ⟨ρ2, e2, e⟩ := bind_some e
  cases e
  refine ⟨F, G, b, ρ, hr, r1, ρ1, e1, fun F1 H1 v s1 c1 h1 k1 => ?_⟩
  obtain ⟨F2, s2, c2, h2⟩ := asg_ok h1 k1 e2
  exact k F2 H1 _ (s1.trans s2) (c1.trans c2) h2
theorem ms_set {i : Nat} {x : Str} {pos' : Pos} (hN : X.N.Nodup) (hi : X.N[i]? = some x) (hx : Loc X.env.scope x) (he : ME X e m) (hs : swapsWith e (some (.Name x pos')) pos.line X.env = pure false := by rfl) (hf : X.fn x = true ∨ X.env.scope.names.lookup x = some .local := by first | exact .inl rfl | exact .inr rfl | assumption) :
    MSt X (.Assign [.Name x pos'] e pos) (sSet i m) := ⟨(ps_set hN hi hx he.ok hs hf).imq fun D σ H q => asg_read q⟩
/-- a tuple of targets -/
def sAsg (g : MG) (m : MR) : MS' := fun ρ => do
  let (d, ρ1) ← mCap m ρ
  let ρ2 ← g d ρ1
  some (.nx, ρ2)
theorem ms_asg {g : MG} {ws : List Nat} (he : ME X e m) (hg : MGt X tg g ws) (hs : swapsWithSole [tg] e pos.line X.env = pure false := by rfl) (hw : swappedStores [tg] e X.env = pure none := by rfl) (h1 : (assignEach [tg] X.env).map (·.2) = [assign tg X.env] := by rfl) :
    MSt X (.Assign [tg] e pos) (sAsg g m) := ⟨(ps_asg he.ok hg.ok hs hw h1).imq fun D σ H q => by
  obtain ⟨F, G, b, ρ, hr, o, ρ', e, k⟩ := q
  obtain ⟨⟨d, ρ1⟩, e1, e⟩ := bind_some e
  obtain ⟨ρ2, e2, e⟩ := bind_some e
  cases e
  obtain ⟨⟨r, ρ0⟩, e0, e1⟩ := bind_some e1
  refine ⟨F, G, b, ρ, hr, r, ρ0, e0, fun F1 H1 v s1 c1 h1 k1 => ?_⟩
  obtain ⟨F2, s2, c2, h2, dv⟩ := cap_ok h1 k1 e1
  exact ⟨F2, G, b, ρ1, d, h2, dv, ρ', e2, fun σ2 h3 _ => k F2 H1 σ2 (s1.trans s2) (c1.trans c2) h3⟩⟩
section
variable {elt iter : Expr} {ifs : List Expr} {scope : Scope} {own : List (Str × Nat)} {spos py : Pos} {it : MI} {g : MG} {el : MR}
theorem ms_setLc {i : Nat} {y : Str} {ws : List Nat} (hc : X.calm = true) (hN : X.N.Nodup) (hy : X.N[i]? = some y) (hyl : X.env.scope.names.lookup y = some .local)
    (hsw : swapsWith (.ListComp elt [⟨tg, iter, ifs, 0⟩] scope pos) (some (.Name y py)) spos.line X.env = pure true) (hi : MIt X tg iter it) (ok : BlkOk X.N X.env.scope scope own)
    (hg : ∀ (s : Shared) (H : Hp) (C : Addr) (cl : List (Str × Addr)) (fp : List Addr), MGt (X.blk s H scope (compEnvC scope cl C X.env) fp) tg g ws)
    (ht : ∀ (s : Shared) (H : Hp) (C : Addr) (cl : List (Str × Addr)) (fp : List Addr), MTs (X.blk s H scope (compEnvC scope cl C X.env) fp) ifs t)
    (he : ∀ (s : Shared) (H : Hp) (C : Addr) (cl : List (Str × Addr)) (fp : List Addr), ME (X.blk s H scope (compEnvC scope cl C X.env) fp) elt el)
    (hws : ∀ i ∈ ws, i ∈ own.map (·.2) := by decide) (hs : ∀ x, foldedSetIterable iter X.env x = pure x := by intro _; rfl) :
    MSt X (.Assign [.Name y py] (.ListComp elt [⟨tg, iter, ifs, 0⟩] scope pos) spos) (sSet i (mLc it g t el (own.map (·.2)))) :=
  ⟨(ps_setLc hc hN hy hyl hsw hi.ok ok (fun s H C cl fp => (hg s H C cl fp).ok) (fun s H C cl fp => (ht s H C cl fp).ok) (fun s H C cl fp => (he s H C cl fp).ok) hs).imq fun D σ H q => by
    have h : tM (mLc it g t el (own.map (·.2))) σ H (fun x H1 => gName i x σ H1 D.nx) := asg_read q
    exact lc_read hws h⟩
end

/-! ### loops -/
def forGo (g : MG) (n : MS') : List D → En → Option (Out × En)
  | [], ρ => some (.nx, ρ)
  | d :: ds, ρ => do
    let ρ1 ← g d ρ
    let (o, ρ2) ← n ρ1
    match o with
    | .nx => forGo g n ds ρ2
    | .ct => forGo g n ds ρ2
    | .bk => some (.nx, ρ2)
    | .rt r => some (.rt r, ρ2)
def sFor (it : MI) (g : MG) (n : MS') : MS' := fun ρ => do
  let (ds, ρ1) ← it ρ
  forGo g n ds ρ1
theorem ms_for {iter : Expr} {body : List Stmt} {it : MI} {g : MG} {ws : List Nat} (hp : PassesOwn (model X.prog X.w) X.A X.env X.xe) (hc : X.calm = true) (hi : MIt X tg iter it) (hg : MGt X tg g ws) (hb : MSs X body n) (hs : ∀ x, foldedSetIterable iter X.env x = pure x := by intro _; rfl) :
    MSt X (.For tg iter body [] pos) (sFor it g n) := ⟨(ps_for hp hc hi.ok hg.ok hb.ok hs).imq fun D σ H q => by
  obtain ⟨F, G, b, ρ, hr, o, ρ', e, k⟩ := q
  obtain ⟨⟨ds, ρ1⟩, e1, e⟩ := bind_some e
  refine ⟨F, G, b, ρ, hr, ds, ρ1, e1, fun F1 H1 J s1 c1 h1 wk => ?_⟩
  refine ⟨fun i m σc Hc => i ≤ ds.length ∧ m = ds.length - i ∧ ∃ F2 ρi, Same F1 F2 ∧ Cln F1 G F2 ∧ Rp F2 G Hc b σc ρi ∧ forGo g n (ds.drop i) ρi = some (o, ρ'), ⟨ds.length, Nat.zero_le _, rfl, F1, ρ1, .refl _, .refl _ _, h1, e⟩, ?_⟩
  rintro i m σc Hc ⟨hi, rfl, F2, ρi, s2, c2, h2, eL⟩
  by_cases hlt : i < ds.length
  · have hdrop : ds.drop i = ds[i] :: ds.drop (i + 1) := List.drop_eq_getElem_cons hlt
    rw [hdrop] at eL
    obtain ⟨ρa, ea, eL⟩ := bind_some eL
    obtain ⟨⟨ob, ρb⟩, eb, eL⟩ := bind_some eL
    refine .inr ⟨wk.go i Hc hlt (s2.trans h2.fh), fun σ' H' => ∃ F5 ρ5, Same F1 F5 ∧ Cln F1 G F5 ∧ Rp F5 G H' b σ' ρ5 ∧ forGo g n (ds.drop (i + 1)) ρ5 = some (o, ρ'), fun σ' H' ⟨F5, ρ5, r5⟩ => ⟨ds.length - (i + 1), by omega, by omega, rfl, F5, ρ5, r5⟩, fun x H' y => ?_⟩
    obtain ⟨F3, d, ed, P⟩ := wk.yld i F2 Hc x H' hlt s2 h2.fh y
    have edd : d = ds[i] := by
      rw [List.getElem?_eq_getElem hlt] at ed
      exact (Option.some.inj ed).symm
    subst edd
    have h3 : Rp F3 G H' b σc ρi := P.rp h2
    have c3 : Cln F2 G F3 := P.cln h2.gh
    have dv : Dv F3 x ds[i] := P.res
    refine ⟨F3, G, b, _, _, h3, dv, ρa, ea, fun σ2 h4 _ => ?_⟩
    refine ⟨F3, G, b, ρa, h4, ob, ρb, eb, fun F5 H5 σ5 s5 c5 h5 => ?_⟩
    have ss := s2.trans (P.ff.trans s5)
    have cc := c2.trans (c3.trans c5)
    cases ob with
    | nx => exact ⟨F5, ρb, ss, cc, h5, eL⟩
    | ct => exact ⟨F5, ρb, ss, cc, h5, eL⟩
    | bk =>
      cases eL
      exact k F5 H5 σ5 (s1.trans ss) (c1.trans cc) h5
    | rt r =>
      cases eL
      exact k F5 H5 σ5 (s1.trans ss) (c1.trans cc) h5
  · have ei : i = ds.length := by omega
    subst ei
    rw [List.drop_length] at eL
    cases eL
    exact .inl ⟨wk.stop Hc (s2.trans h2.fh), k F2 Hc σc (s1.trans s2) (c1.trans c2) h2⟩⟩
/-- fuel turns at most -/
def whGo (t : MB) (n : MS') : Nat → En → Option (Out × En)
  | 0, _ => none
  | f + 1, ρ => do
    let (k, ρ1) ← t ρ
    if k = true then do
      let (o, ρ2) ← n ρ1
      match o with
      | .nx => whGo t n f ρ2
      | .ct => whGo t n f ρ2
      | .bk => some (.nx, ρ2)
      | .rt r => some (.rt r, ρ2)
    else some (.nx, ρ1)
def sWhile (f : Nat) (t : MB) (n : MS') : MS' := whGo t n f
theorem ms_while {body : List Stmt} {f : Nat} (hp : PassesOwn (model X.prog X.w) X.A X.env X.xe) (hc : MT X c t) (hb : MSs X body n) : MSt X (.While c body [] pos) (sWhile f t n) := ⟨(ps_while hp hc.ok hb.ok).imq fun D σ H q => by
  obtain ⟨F, G, b, ρ, hr, o, ρ', e, k⟩ := q
  refine ⟨fun m σc Hc => ∃ F2 ρi, Same F F2 ∧ Cln F G F2 ∧ Rp F2 G Hc b σc ρi ∧ whGo t n m ρi = some (o, ρ'), ⟨f, F, ρ, .refl _, .refl _ _, hr, e⟩, ?_⟩
  rintro m σc Hc ⟨F2, ρi, s2, c2, h2, eL⟩
  cases m with
  | zero => cases eL
  | succ m =>
    obtain ⟨⟨kb, ρa⟩, ea, eL⟩ := bind_some eL
    refine ⟨F2, G, b, ρi, h2, kb, ρa, ea, fun F3 H3 s3 c3 h3 => ?_⟩
    cases kb with
    | false =>
      cases eL
      exact k F3 H3 σc (s2.trans s3) (c2.trans c3) h3
    | true =>
      obtain ⟨⟨ob, ρb⟩, eb, eL⟩ := bind_some eL
      refine ⟨fun σ' H' => ∃ F5 ρ5, Same F F5 ∧ Cln F G F5 ∧ Rp F5 G H' b σ' ρ5 ∧ whGo t n m ρ5 = some (o, ρ'), fun σ' H' r5 => ⟨m, Nat.lt_succ_self m, r5⟩, ?_⟩
      refine ⟨F3, G, b, ρa, h3, ob, ρb, eb, fun F5 H5 σ5 s5 c5 h5 => ?_⟩
      have ss := s2.trans (s3.trans s5)
      have cc := c2.trans (c3.trans c5)
      cases ob with
      | nx => exact ⟨F5, ρb, ss, cc, h5, eL⟩
      | ct => exact ⟨F5, ρb, ss, cc, h5, eL⟩
      | bk =>
        cases eL
        exact k F5 H5 σ5 ss cc h5
      | rt r =>
        cases eL
        exact k F5 H5 σ5 ss cc h5⟩
end
end Mi
set_option Elab.async false
set_option linter.all false
set_option maxRecDepth 100000
/-! Core5: defs, calls, lists that are changed. -/
namespace Mi
open PySem PySem.Spec PyProof.Rows L2
variable [KK]

/-! ### defs that change nothing of their callers' -/
def spN (φ : List D → Option R) : Sp := fun vs H Q _ => ∃ F ds r, Same F H ∧ Dvs F vs ds ∧ φ ds = some r ∧ ∀ F' H' v, Post F H r F' H' v → Q v H'
def startE (n : Nat) (ds : List D) : En := ds.map M.sh ++ List.replicate (n - ds.length) M.no
def outR : Out → Option R
  | .nx => some (.sh .none)
  | .rt (.sh d) => some (.sh d)
  | .rt (.fr ds) => some (.fr ds)
  | _ => none
theorem start_len {n : Nat} {ds : List D} (h : ds.length ≤ n) : (startE n ds).length = n := by
  unfold startE
  rw [List.length_append, List.length_map, List.length_replicate]
  omega
theorem start_get {n i : Nat} {ds : List D} {m : M} (h : (startE n ds)[i]? = some m) : m = .no ∨ ∃ d, m = .sh d ∧ ds[i]? = some d := by
  unfold startE at h
  rw [List.getElem?_append] at h
  split at h
  · rw [List.getElem?_map] at h
    cases q : ds[i]? with
    | none => rw [q] at h; cases h
    | some d =>
      rw [q] at h
      exact .inr ⟨d, (Option.some.inj h).symm, rfl⟩
  · rw [List.getElem?_replicate] at h
    split at h
    · exact .inl (Option.some.inj h).symm
    · cases h
theorem startV_get {N : List Str} {vs : List V} {i : Nat} {v : V} (h : vs[i]? = some v) : (start N vs)[i]? = some (some v) := by
  unfold L2.start
  have hl := (List.getElem?_eq_some_iff.mp h).1
  rw [List.getElem?_append_left (by rw [List.length_map]; exact hl), List.getElem?_map, h]
  rfl
theorem startV_len {N : List Str} {vs : List V} (h : vs.length ≤ N.length) : (start N vs).length = N.length := by
  unfold L2.start
  rw [List.length_append, List.length_map, List.length_replicate]
  omega
theorem rp_start {F H : Hp} {N : List Str} {vs : List V} {ds : List D} (s : Same F H) (a : Dvs F vs ds) (hl : ds.length ≤ N.length) : Rp F H H 0 (start N vs) (startE N.length ds) := by
  have hv : vs.length ≤ N.length := by rw [a.len]; exact hl
  have noOwn : ∀ i, ¬ OwnAt (startE N.length ds) i := fun i o => by
    rcases o with ⟨x, e⟩ | ⟨x, e⟩
    · rcases start_get e with z | ⟨_, z, _⟩ <;> cases z
    · rcases start_get e with z | ⟨_, z, _⟩ <;> cases z
  refine ⟨s, .refl _, by rw [start_len hl, startV_len hv], fun i m q => ?_, fun i j p oi => absurd oi (noOwn i)⟩
  rcases start_get q with rfl | ⟨d, rfl, q2⟩
  · trivial
  · obtain ⟨v, e, dv⟩ := a.get q2
    exact ⟨v, startV_get e, dv⟩
theorem post_of {F G F' H H' : Hp} {b : Addr} {σ' : L2.St} {ρ' : En} {v : V} {r : R} (s : Same F F') (c : Cln F H F') (h : Rp F' H H' b σ' ρ') (k : RsOk F' H H' σ' ρ' v r) (hr : ∀ i, r ≠ .bw i) : Post F H r F' H' v := by
  refine ⟨s, h.gh, h.fh, fun a fa => ?_, ?_⟩
  · cases q : H a with
    | none => exact .inr rfl
    | some o => exact .inl (c a (by rw [q]; exact fun z => nomatch z) fa)
  · cases r with
    | sh d => exact k
    | bw i => exact absurd rfl (hr i)
    | fr ds =>
      obtain ⟨p, vs, rfl, a, x, f, g, _⟩ := k
      exact ⟨p, vs, rfl, g, a, x, f⟩
section
variable {P : Program} {w : World} {K : Fr0} {mg : Str → Option Value} {base : Heap}
/-- THE RULE for a def: φ is what its body's plain function gives -/
theorem fn_mk {x qual : Str} {st : Stmt} {f : Addr} {fd : FuncData} {N ps : List Str} {k : Nat} {φ : List D → Option R} {m : MS'} (F : Fun K x qual st f fd) (S : FnScope N ps (defScope st))
    (hb : ∀ (cdv : Value) (A : Around) (outer : List Env) (s : Shared) (H : Hp) (E : XK), Room k (A.deeper (envOfC qual (defScope st) s.heap.objs.size f cdv)) →
      MSs (cxOf CX0 P w K mg base N qual (defScope st) f cdv A outer s H E).nox (defBody st) m)
    (hφ : ∀ ds r, φ ds = some r → ds.length = ps.length ∧ ∃ o ρ', m (startE N.length ds) = some (o, ρ') ∧ outR o = some r) : FnOk P w K mg base CX0 (k + 1) f fd ps (spN φ) := by
  refine F.ok S (fun vs H Q E h => ?_) (fun cdv A outer s H vs Q E hr h => ?_)
  · obtain ⟨F0, ds, r, _, a, e, _⟩ := h
    rw [a.len, (hφ ds r e).1]
  · obtain ⟨F0, ds, r, s0, a, e, q⟩ := h
    obtain ⟨hl, o, ρ', em, eo⟩ := hφ ds r e
    have hpN : ps.length ≤ N.length := by
      have := congrArg List.length S.pre
      rw [List.length_take] at this
      omega
    refine ⟨_, (hb cdv A outer s H E hr).ok, F0, H, 0, _, rp_start s0 a (by omega), o, ρ', em, fun F' H' σ' s1 c1 h1 => ?_⟩
    cases o with
    | nx =>
      cases eo
      exact q F' H' .non (post_of (G := H) s1 c1 h1 (show RsOk F' H H' σ' ρ' .non (.sh .none) from .non) fun _ z => nomatch z)
    | bk => cases eo
    | ct => cases eo
    | rt r' =>
      cases r' with
      | sh d =>
        cases eo
        exact fun v k => q F' H' v (post_of (G := H) s1 c1 h1 k fun _ z => nomatch z)
      | fr ds' =>
        cases eo
        exact fun v k => q F' H' v (post_of (G := H) s1 c1 h1 k fun _ z => nomatch z)
      | bw i => cases eo
end

/-! ### defs that change the list that is their first argument -/
structure PostIO (F H : Hp) (b : Addr) (r : R) (F' H' : Hp) (v : V) : Prop where
  ff : Same F F'
  hh : ∀ a o, a ≠ b → H a = some o → H' a = some o
  fh : Same F' H'
  new : ∀ a, F' a ≠ none → F a ≠ none ∨ H a = none
  res : ResOk F' H H' v r
def spIO (φ : List D → List D → Option (R × List D)) : Sp := fun vs H Q _ => ∃ F b bs ws vs' ds r ws', vs = .ref b :: vs' ∧ Same F H ∧ H b = some (.lst bs) ∧ F b = none ∧ Dvs F bs ws ∧ Dvs F vs' ds ∧ φ ws ds = some (r, ws') ∧
  ∀ F' H' v bs', PostIO F H b r F' H' v → H' b = some (.lst bs') → Dvs F' bs' ws' → F' b = none → Q v H'
def startIO (n : Nat) (ws : List D) (ds : List D) : En := .io ws :: startE (n - 1) ds
def dele (H : Hp) (b : Addr) : Hp := fun a => if a = b then none else H a
theorem dele_same {H : Hp} {b : Addr} : dele H b b = none := by unfold dele; rw [if_pos rfl]
theorem dele_ne {H : Hp} {a b : Addr} (h : a ≠ b) : dele H b a = H a := by unfold dele; rw [if_neg h]
section
variable {P : Program} {w : World} {K : Fr0} {mg : Str → Option Value} {base : Heap}
theorem start_cons {N : List Str} {v : V} {vs : List V} (h : 1 ≤ N.length) : start N (v :: vs) = some v :: start (N.drop 1) vs := by
  unfold L2.start
  rw [List.map_cons, List.cons_append, List.length_cons, List.length_drop]
  congr 3
  omega
theorem fn_mkIO {x qual : Str} {st : Stmt} {f : Addr} {fd : FuncData} {N ps : List Str} {k : Nat} {φ : List D → List D → Option (R × List D)} {m : MS'} (F : Fun K x qual st f fd) (S : FnScope N ps (defScope st))
    (hb : ∀ (cdv : Value) (A : Around) (outer : List Env) (s : Shared) (H : Hp) (E : XK), Room k (A.deeper (envOfC qual (defScope st) s.heap.objs.size f cdv)) →
      MSs (cxOf CX0 P w K mg base N qual (defScope st) f cdv A outer s H E).nox (defBody st) m)
    (hφ : ∀ ws ds r ws', φ ws ds = some (r, ws') → ds.length + 1 = ps.length ∧ ∃ o ρ', m (startIO N.length ws ds) = some (o, ρ') ∧ outR o = some r ∧ ρ'[0]? = some (.io ws')) : FnOk P w K mg base CX0 (k + 1) f fd ps (spIO φ) := by
  refine F.ok S (fun vs H Q E h => ?_) (fun cdv A outer s H vs Q E hr h => ?_)
  · obtain ⟨F0, b, bs, ws, vs', ds, r, ws', rfl, _, _, _, _, a, e, _⟩ := h
    rw [List.length_cons, a.len, (hφ ws ds r ws' e).1]
  · obtain ⟨F0, b, bs, ws, vs', ds, r, ws', rfl, s0, hb0, fb, aw, a, e, q⟩ := h
    obtain ⟨hl, o, ρ', em, eo, e0⟩ := hφ ws ds r ws' e
    have hpN : ps.length ≤ N.length := by
      have := congrArg List.length S.pre
      rw [List.length_take] at this
      omega
    have hN1 : 1 ≤ N.length := by omega
    have rp : Rp F0 (dele H b) H b (start N (.ref b :: vs')) (startIO N.length ws ds) := by
      have r0 := rp_start (N := N.drop 1) s0 a (by rw [List.length_drop]; omega)
      rw [List.length_drop] at r0
      rw [start_cons hN1]
      unfold startIO
      have noOwn : ∀ i, ¬ OwnAt (startE (N.length - 1) ds) i := fun i o => by
        rcases o with ⟨x, e⟩ | ⟨x, e⟩
        · rcases start_get e with z | ⟨_, z, _⟩ <;> cases z
        · rcases start_get e with z | ⟨_, z, _⟩ <;> cases z
      refine ⟨s0, fun x o z => ?_, by rw [List.length_cons, List.length_cons, r0.len], fun i mm z => ?_, fun i j p oi oj _ _ => ?_⟩
      · by_cases hx : x = b
        · rw [hx, dele_same] at z; cases z
        · rw [dele_ne hx] at z; exact z
      · cases i with
        | zero =>
          have z' : M.io ws = mm := Option.some.inj z
          subst z'
          exact ⟨rfl, bs, hb0, aw, fb, dele_same⟩
        | succ i =>
          have z' : (startE (N.length - 1) ds)[i]? = some mm := by simpa using z
          have sl := r0.slot i mm z'
          cases mm with
          | no => trivial
          | sh d =>
            obtain ⟨v, e1, dv⟩ := sl
            exact ⟨v, by simpa using e1, dv⟩
          | own _ => exact absurd (.inl ⟨_, z'⟩) (noOwn i)
          | io _ => exact absurd (.inr ⟨_, z'⟩) (noOwn i)
      · have z : ∀ k, OwnAt (.io ws :: startE (N.length - 1) ds) k → k = 0 := fun k ok => by
          cases k with
          | zero => rfl
          | succ k =>
            rcases ok with ⟨x, e⟩ | ⟨x, e⟩
            · exact absurd (.inl ⟨x, by simpa using e⟩) (noOwn k)
            · exact absurd (.inr ⟨x, by simpa using e⟩) (noOwn k)
        rw [z i oi, z j oj]
    refine ⟨_, (hb cdv A outer s H E hr).ok, F0, dele H b, b, _, rp, o, ρ', em, fun F' H' σ' s1 c1 h1 => ?_⟩
    have sl : SlotOk F' (dele H b) H' b σ' 0 (.io ws') := h1.slot 0 _ e0
    obtain ⟨sb, bs', hb', xb, fb', _⟩ := sl
    have fin : ∀ v r', RsOk F' (dele H b) H' σ' ρ' v r' → (∀ i, r' ≠ .bw i) → r' = r → Q v H' := fun v r' kk hr' er => by
      subst er
      refine q F' H' v bs' ⟨s1, fun a' o' ha' z => h1.gh _ _ (by rw [dele_ne ha']; exact z), h1.fh, fun a' fa => ?_, ?_⟩ hb' xb fb'
      · cases z : H a' with
        | none => exact .inr rfl
        | some o' =>
          by_cases hab : a' = b
          · rw [hab] at fa
            exact absurd fb' fa
          · exact .inl (c1 a' (by rw [dele_ne hab, z]; exact fun y => nomatch y) fa)
      · cases r' with
        | sh d => exact kk
        | bw i => exact absurd rfl (hr' i)
        | fr ds' =>
          obtain ⟨p, vs1, rfl, a1, x1, f1, g1, n1⟩ := kk
          have hpb : p ≠ b := fun z => n1 0 (.inr ⟨ws', e0⟩) (by rw [z]; exact sb)
          rw [dele_ne hpb] at g1
          exact ⟨p, vs1, rfl, g1, a1, x1, f1⟩
    cases o with
    | nx =>
      cases eo
      exact fin .non (.sh .none) .non (fun _ z => nomatch z) rfl
    | bk => cases eo
    | ct => cases eo
    | rt r' =>
      cases r' with
      | sh d =>
        cases eo
        exact fun v k => fin v _ k (fun _ z => nomatch z) rfl
      | fr ds' =>
        cases eo
        exact fun v k => fin v _ k (fun _ z => nomatch z) rfl
      | bw i => cases eo
end

/-! ### calls of defs -/
section
variable {X : Cx} {e a b c tg : Expr} {pos p : Pos} {m ma mb mc : MR} {es : List Expr} {ms : MA} {k : Nat} {f : Addr} {fd : FuncData} {ps : List Str} {x : Str}
def mCall (φ : List D → Option R) (ms : MA) : MR := fun ρ => do
  let (ds, ρ1) ← ms ρ
  let r ← φ ds
  some (r, ρ1)
theorem me_call {φ : List D → Option R} (F : FnOk X.prog X.w X.K X.mg X.base CX0 k f fd ps (spN φ)) (hr : Room k X.A) (hg : Gl X x) (hm : X.mg x = some (.ref f)) (hk : PySem.W.keepIn X.K (.ref f) = true) (hb : Binds X.K fd ps [])
    (ha : MAs X (e :: es) ms) (hdb : (x == ("__debug__" : Str)) = false := by decide) (he : starEach (e :: es) X.env = (false, eval e X.env) :: starEach es X.env := by rfl) (hpl : (backTo pos (starEach es X.env)).any (·.1) = false := by rfl) :
    ME X (.Call (.Name x p) (e :: es) [] pos) (mCall φ ms) := ⟨(pe_call (dvs := []) F hr hg hm hk hb .nil pass0 ha.ok hdb he hpl).imq fun σ H Q q => by
  obtain ⟨F0, G, b, ρ, hr0, r, ρ', e, k⟩ := q
  obtain ⟨⟨ds, ρ1⟩, e1, e⟩ := bind_some e
  obtain ⟨r1, e2, e⟩ := bind_some e
  cases e
  refine ⟨F0, G, b, ρ, hr0, ds, _, e1, fun F1 H1 vs s1 c1 h1 dvs => ?_⟩
  refine (show spN φ (vs ++ []) H1 Q E0 from ?_)
  rw [List.append_nil]
  exact ⟨F1, ds, r, h1.fh, dvs, e2, fun F' H' v P => k F' H' v (s1.trans P.ff) (c1.trans (P.cln h1.gh)) (P.rp h1) (P.rs h1)⟩⟩

/-! the list in a slot, and what is put there -/
def contE (ρ : En) (i : Nat) : Option (List D) := match ρ[i]? with
  | some (.own ds) => some ds
  | some (.io ds) => some ds
  | _ => none
def putE (ρ : En) (i : Nat) (ds : List D) : En := match ρ[i]? with
  | some (.io _) => ρ.set i (.io ds)
  | _ => ρ.set i (.own ds)
section
variable {F F' G H H' : Hp} {b' : Addr} {σ : L2.St} {ρ : En} {i : Nat} {ds ds' : List D}
theorem cont_ok (h : Rp F G H b' σ ρ) (e : contE ρ i = some ds) : OwnAt ρ i ∧ ∃ p vs, σ[i]? = some (some (.ref p)) ∧ H p = some (.lst vs) ∧ Dvs F vs ds ∧ F p = none ∧ G p = none := by
  unfold contE at e
  cases q : ρ[i]? with
  | none => simp [q] at e
  | some m =>
    have s := h.slot i m q
    cases m with
    | no => simp [q] at e
    | sh d => simp [q] at e
    | own xs =>
      simp only [q] at e
      cases e
      exact ⟨.inl ⟨_, q⟩, s⟩
    | io xs =>
      simp only [q] at e
      cases e
      obtain ⟨a, vs, r⟩ := s
      exact ⟨.inr ⟨_, q⟩, b', vs, a, r⟩
theorem putE_get {m : M} {j : Nat} (h : (putE ρ i ds)[j]? = some m) : (j = i ∧ (m = .own ds ∨ (m = .io ds ∧ ∃ xs, ρ[i]? = some (.io xs)))) ∨ (j ≠ i ∧ ρ[j]? = some m) := by
  unfold putE at h
  split at h
  · rename_i xs q
    rcases get_set h with ⟨a, b⟩ | ⟨a, b⟩
    · exact .inl ⟨a, .inr ⟨b, xs, q⟩⟩
    · exact .inr ⟨a, b⟩
  · rcases get_set h with ⟨a, b⟩ | ⟨a, b⟩
    · exact .inl ⟨a, .inl b⟩
    · exact .inr ⟨a, b⟩
theorem putE_len : (putE ρ i ds).length = ρ.length := by
  unfold putE
  split <;> rw [List.length_set]
/-- slot i's list changes; all else stands -/
theorem Rp.putC {p : Addr} {vs' : List V} (h : Rp F G H b' σ ρ) (o : OwnAt ρ i) (es : σ[i]? = some (some (.ref p))) (ff : Same F F') (fh : Same F' H') (gh : Same G H') (hh : ∀ a o, a ≠ p → H a = some o → (∃ vs, o = .lst vs) → H' a = some o)
    (hp : H' p = some (.lst vs')) (x : Dvs F' vs' ds') (fp : F' p = none) (fo : ∀ j q, OwnAt ρ j → σ[j]? = some (some (.ref q)) → F' q = none) : Rp F' G H' b' σ (putE ρ i ds') := by
  have oo : ∀ j, OwnAt (putE ρ i ds') j → OwnAt ρ j := fun j oj => by
    rcases oj with ⟨xs, e⟩ | ⟨xs, e⟩
    · rcases putE_get e with ⟨a, _⟩ | ⟨_, z⟩
      · rw [a]; exact o
      · exact .inl ⟨xs, z⟩
    · rcases putE_get e with ⟨a, _⟩ | ⟨_, z⟩
      · rw [a]; exact o
      · exact .inr ⟨xs, z⟩
  refine ⟨fh, gh, by rw [putE_len]; exact h.len, fun j m q => ?_, fun j k q oj ok => h.ne j k q (oo j oj) (oo k ok)⟩
  obtain ⟨_, _, gp⟩ := h.own_some o es
  rcases putE_get q with ⟨rfl, rfl | ⟨rfl, xs, z⟩⟩ | ⟨hj, q⟩
  · exact ⟨p, vs', es, hp, x, fp, gp.2⟩
  · have s : SlotOk F G H b' σ j (.io xs) := h.slot j _ z
    obtain ⟨a, _⟩ := s
    have : p = b' := by
      rw [es] at a
      cases a
      rfl
    subst this
    exact ⟨es, vs', hp, x, fp, gp.2⟩
  · have s := h.slot j m q
    have np : ∀ q', OwnAt ρ j → σ[j]? = some (some (.ref q')) → q' ≠ p := fun q' oj ej z => hj (h.ne j i p oj o (z ▸ ej) es)
    cases m with
    | no => trivial
    | sh d =>
      obtain ⟨v, a, c⟩ := s
      exact ⟨v, a, c.mono ff⟩
    | own xs =>
      obtain ⟨q', vs, a, c, d, f, g⟩ := s
      exact ⟨q', vs, a, hh _ _ (np q' (.inl ⟨_, q⟩) a) c ⟨_, rfl⟩, d.mono ff, fo j q' (.inl ⟨_, q⟩) a, g⟩
    | io xs =>
      obtain ⟨a, vs, c, d, f, g⟩ := s
      exact ⟨a, vs, hh _ _ (np b' (.inr ⟨_, q⟩) a) c ⟨_, rfl⟩, d.mono ff, fo j b' (.inr ⟨_, q⟩) a, g⟩
/-- by one store -/
theorem Rp.put1 {p : Addr} {vs' : List V} (h : Rp F G H b' σ ρ) (o : OwnAt ρ i) (es : σ[i]? = some (some (.ref p))) (x : Dvs F vs' ds') : Rp F G (upd H p (.lst vs')) b' σ (putE ρ i ds') := by
  obtain ⟨vs, hp, fp, gp⟩ := h.own_some o es
  refine h.putC o es (.refl _) (fun a o q => ?_) (fun a o q => ?_) (fun a o ha q _ => by rw [upd_ne ha]; exact q) upd_same x fp (fun j q oj ej => ?_)
  · rw [upd_ne (ne_of_none q fp)]
    exact h.fh _ _ q
  · rw [upd_ne (ne_of_none q gp)]
    exact h.gh _ _ q
  · exact (h.own_some oj ej).elim fun _ z => z.2.1
end
def mCallIO (φ : List D → List D → Option (R × List D)) (i : Nat) (ms : MA) : MR := fun ρ => do
  let _ ← contE ρ i
  let (ds, ρ1) ← ms ρ
  let ws ← contE ρ1 i
  let (r, ws') ← φ ws ds
  some (r, putE ρ1 i ws')
theorem me_callIO {φ : List D → List D → Option (R × List D)} {i : Nat} {y : Str} {py : Pos} (F : FnOk X.prog X.w X.K X.mg X.base CX0 k f fd ps (spIO φ)) (hr : Room k X.A) (hg : Gl X x) (hm : X.mg x = some (.ref f)) (hk : PySem.W.keepIn X.K (.ref f) = true) (hb : Binds X.K fd ps [])
    (hy : PE X (.Name y py) (tVar i)) (ha : MAs X es ms) (hdb : (x == ("__debug__" : Str)) = false := by decide) (he : starEach (.Name y py :: es) X.env = (false, eval (.Name y py) X.env) :: starEach es X.env := by rfl) (hpl : (backTo pos (starEach es X.env)).any (·.1) = false := by rfl) :
    ME X (.Call (.Name x p) (.Name y py :: es) [] pos) (mCallIO φ i ms) := ⟨(pe_call (dvs := []) F hr hg hm hk hb .nil pass0 (pa_cons hy ha.ok he) hdb he hpl).imq fun σ H Q q => by
  obtain ⟨F0, G, b, ρ, hr0, r, ρ', e, k⟩ := q
  obtain ⟨w0, e0, e⟩ := bind_some e
  obtain ⟨⟨ds, ρ1⟩, e1, e⟩ := bind_some e
  obtain ⟨ws, e2, e⟩ := bind_some e
  obtain ⟨⟨r1, ws'⟩, e3, e⟩ := bind_some e
  cases e
  obtain ⟨_, p0, vs0, es0, _⟩ := cont_ok hr0 e0
  refine ⟨.ref p0, es0, F0, G, b, ρ, hr0, ds, _, e1, fun F1 H1 vs s1 c1 h1 dvs => ?_⟩
  refine (show spIO φ ((.ref p0 :: vs) ++ []) H1 Q E0 from ?_)
  rw [List.append_nil]
  obtain ⟨o1, p1, bs, es1, hb1, xb, fb, gb⟩ := cont_ok h1 e2
  have : p1 = p0 := by
    rw [es0] at es1
    cases es1
    rfl
  subst this
  refine ⟨F1, p1, bs, ws, vs, ds, r, ws', rfl, h1.fh, hb1, fb, xb, dvs, e3, fun F' H' v bs' P hb' x' f' => ?_⟩
  have fo : ∀ j q, OwnAt ρ1 j → σ[j]? = some (some (.ref q)) → F' q = none := fun j q oj ej => by
    obtain ⟨_, a1, f1, _⟩ := h1.own_some oj ej
    cases z : F' q with
    | none => rfl
    | some u =>
      rcases P.new q (by rw [z]; exact fun y => nomatch y) with w | w
      · exact absurd f1 w
      · rw [a1] at w; cases w
  have rp' : Rp F' G H' b σ (putE ρ1 i ws') := by
    refine h1.putC o1 es0 P.ff P.fh (fun a o q => P.hh a o (fun z => ?_) (h1.gh _ _ q)) (fun a o ha q _ => P.hh a o ha q) hb' x' f' fo
    rw [z, gb] at q
    cases q
  refine k F' H' v (s1.trans P.ff) (c1.trans fun a ga fa => ?_) rp' ?_
  · rcases P.new a fa with w | w
    · exact w
    · exact absurd (h1.gh.free w) ga
  · have q := P.res
    cases r with
    | sh d => exact q
    | bw j => exact False.elim q
    | fr xs =>
      obtain ⟨p2, vs2, rfl, n2, a2, x2, f2⟩ := q
      refine ⟨p2, vs2, rfl, a2, x2, f2, h1.gh.free n2, fun j oj ej => ?_⟩
      have oj1 : OwnAt ρ1 j := by
        rcases oj with ⟨xs, e⟩ | ⟨xs, e⟩
        · rcases putE_get e with ⟨a, _⟩ | ⟨_, z⟩
          · rw [a]; exact o1
          · exact .inl ⟨xs, z⟩
        · rcases putE_get e with ⟨a, _⟩ | ⟨_, z⟩
          · rw [a]; exact o1
          · exact .inr ⟨xs, z⟩
      obtain ⟨_, a3, _, _⟩ := h1.own_some oj1 ej
      rw [n2] at a3
      cases a3⟩

/-! ### methods that change the list of a slot -/
section
variable {name y : Str} {py apos cpos : Pos} {i : Nat}
def mAppend (i : Nat) (m : MR) : MR := fun ρ => do
  let _ ← contE ρ i
  let (d, ρ1) ← mCap m ρ
  let ds ← contE ρ1 i
  if ds.length < lim then some (.sh .none, putE ρ1 i (ds ++ [d])) else none
theorem me_append (hy : PE X (.Name y py) (tVar i)) (he : ME X e m) (hbase : attributeBase (.Name y py) "append" X.env (eval (.Name y py) X.env) = eval (.Name y py) X.env := by rfl)
    (hfew : ((backTo cpos (starEach (e :: []) X.env)).all (fun x => !x.1) && (backToKw cpos (keywordEach [] X.env)).all (fun x => x.1.isSome)
      && decide ((e :: ([] : List Expr)).length + ([] : List Keyword).length + (if ([] : List Keyword).isEmpty then 0 else 1) < 30)) = true := by rfl)
    (hline : (apos.endLine == cpos.line) = true := by rfl) (hs : starEach (e :: []) X.env = (false, eval e X.env) :: starEach [] X.env := by rfl) (hplain : (backTo cpos (starEach [] X.env)).any (·.1) = false := by rfl) :
    ME X (.Call (.Attribute (.Name y py) "append" apos) [e] [] cpos) (mAppend i m) :=
  ⟨(pe_bm PySem.F.plainAttrs_list PySem.F.slot_list_append PySem.F.type_list_append mt_append hy (pa_cons he.ok pa_nil hs) hbase hfew hline hs hplain).imq fun σ H Q q => by
    obtain ⟨F, G, b, ρ, hr, r, ρ', e, k⟩ := q
    obtain ⟨w0, e0, e⟩ := bind_some e
    obtain ⟨⟨d, ρ1⟩, e1, e⟩ := bind_some e
    obtain ⟨ds, e2, e⟩ := bind_some e
    obtain ⟨hl, e⟩ := ite_some e
    cases e
    obtain ⟨⟨r1, ρ0⟩, e3, e1⟩ := bind_some e1
    obtain ⟨_, p0, vs0, es0, a0, _⟩ := cont_ok hr e0
    refine ⟨.ref p0, es0, .inl ⟨rfl, _, .of a0⟩, F, G, b, ρ, hr, r1, ρ0, e3, fun F1 H1 v1 s1 c1 h1 k1 => ?_⟩
    obtain ⟨F2, s2, c2, h2, dv⟩ := cap_ok h1 k1 e1
    obtain ⟨o1, p1, vs, es1, a1, x1, f1, g1⟩ := cont_ok h2 e2
    rw [es0] at es1
    cases es1
    refine ⟨p0, vs, v1, rfl, rfl, a1, by rw [x1.len]; exact lim_lt hl, ?_⟩
    exact k F2 _ .non (s1.trans s2) (c1.trans c2) (h2.put1 o1 es0 (x1.snoc dv)) .non⟩
def mPop (i : Nat) : MR := fun ρ => do
  let ds ← contE ρ i
  let d ← ds[ds.length - 1]?
  some (.sh d, putE ρ i ds.dropLast)
theorem dropLast_ok {F : Hp} {vs : List V} {ds : List D} (h : Dvs F vs ds) : Dvs F vs.dropLast ds.dropLast := by
  rw [List.dropLast_eq_take, List.dropLast_eq_take, h.len]
  exact h.take _
theorem me_pop (hy : PE X (.Name y py) (tVar i)) (hbase : attributeBase (.Name y py) "pop" X.env (eval (.Name y py) X.env) = eval (.Name y py) X.env := by rfl) (hline : (apos.endLine == cpos.line) = true := by rfl) :
    ME X (.Call (.Attribute (.Name y py) "pop" apos) [] [] cpos) (mPop i) :=
  ⟨(pe_bm0 PySem.F.plainAttrs_list PySem.F.slot_list_pop PySem.F.type_list_pop mt_pop hy hbase hline).imq fun σ H Q q => by
    obtain ⟨F, G, b, ρ, hr, r, ρ', e, k⟩ := q
    obtain ⟨ds, e0, e⟩ := bind_some e
    obtain ⟨d, e1, e⟩ := bind_some e
    cases e
    obtain ⟨o1, p0, vs, es0, a0, x0, f0, g0⟩ := cont_ok hr e0
    obtain ⟨v, ev, dv⟩ := x0.get e1
    refine ⟨.ref p0, es0, .inl ⟨rfl, _, .of a0⟩, p0, vs, v, rfl, rfl, a0, by rw [x0.len]; exact ev, ?_⟩
    exact k F _ v (.refl _) (.refl _ _) (hr.put1 o1 es0 (dropLast_ok x0)) dv⟩
def mPopAt (i : Nat) (m : MR) : MR := fun ρ => do
  let _ ← contE ρ i
  let (r, ρ1) ← m ρ
  match r with
  | .sh (.int z) => do
    let ds ← contE ρ1 i
    if i62 z = true then do
      let j ← seqIndex? z ds.length
      let d ← ds[j]?
      some (.sh d, putE ρ1 i (ds.eraseIdx j))
    else none
  | _ => none
theorem Dvs.erase {F : Hp} : ∀ {vs : List V} {ds : List D} (n : Nat), Dvs F vs ds → Dvs F (vs.eraseIdx n) (ds.eraseIdx n)
  | _, _, _, .nil => .nil
  | _, _, 0, .cons _ a => a
  | _, _, n + 1, .cons h a => .cons h (Dvs.erase n a)
theorem me_popAt (hy : PE X (.Name y py) (tVar i)) (he : ME X e m) (hbase : attributeBase (.Name y py) "pop" X.env (eval (.Name y py) X.env) = eval (.Name y py) X.env := by rfl)
    (hfew : ((backTo cpos (starEach (e :: []) X.env)).all (fun x => !x.1) && (backToKw cpos (keywordEach [] X.env)).all (fun x => x.1.isSome)
      && decide ((e :: ([] : List Expr)).length + ([] : List Keyword).length + (if ([] : List Keyword).isEmpty then 0 else 1) < 30)) = true := by rfl)
    (hline : (apos.endLine == cpos.line) = true := by rfl) (hs : starEach (e :: []) X.env = (false, eval e X.env) :: starEach [] X.env := by rfl) (hplain : (backTo cpos (starEach [] X.env)).any (·.1) = false := by rfl) :
    ME X (.Call (.Attribute (.Name y py) "pop" apos) [e] [] cpos) (mPopAt i m) :=
  ⟨(pe_bm PySem.F.plainAttrs_list PySem.F.slot_list_pop PySem.F.type_list_pop mt_popAt hy (pa_cons he.ok pa_nil hs) hbase hfew hline hs hplain).imq fun σ H Q q => by
    obtain ⟨F, G, b, ρ, hr, r, ρ', e, k⟩ := q
    obtain ⟨w0, e0, e⟩ := bind_some e
    obtain ⟨⟨r1, ρ1⟩, e1, e⟩ := bind_some e
    obtain ⟨_, p0, vs0, es0, a0, _⟩ := cont_ok hr e0
    refine ⟨.ref p0, es0, .inl ⟨rfl, _, .of a0⟩, F, G, b, ρ, hr, r1, ρ1, e1, fun F1 H1 v1 s1 c1 h1 k1 => ?_⟩
    match r1, k1, e with
    | .sh (.int z), k1, e =>
      cases (show Dv F1 v1 (.int z) from k1)
      obtain ⟨ds, e2, e⟩ := bind_some e
      obtain ⟨hz, e⟩ := ite_some' e
      obtain ⟨j, e3, e⟩ := bind_some e
      obtain ⟨d, e4, e⟩ := bind_some e
      cases e
      obtain ⟨o1, p1, vs, es1, a1, x1, f1, g1⟩ := cont_ok h1 e2
      rw [es0] at es1
      cases es1
      obtain ⟨v, ev, dv⟩ := x1.get e4
      have b62 := i62_ok hz
      refine ⟨p0, vs, z, j, v, rfl, rfl, a1, by omega, by omega, by rw [x1.len]; exact e3, ev, ?_⟩
      exact k F1 _ v s1 c1 (h1.put1 o1 es0 (x1.erase j)) dv⟩
def mExtend (i : Nat) (m : MR) : MR := fun ρ => do
  let _ ← contE ρ i
  let (r, ρ1) ← m ρ
  let d ← deref ρ1 r
  match d with
  | .list es => do
    let ds ← contE ρ1 i
    if ds.length + es.length ≤ lim then some (.sh .none, putE ρ1 i (ds ++ es)) else none
  | _ => none
theorem me_extend (hy : PE X (.Name y py) (tVar i)) (he : ME X e m) (hbase : attributeBase (.Name y py) "extend" X.env (eval (.Name y py) X.env) = eval (.Name y py) X.env := by rfl)
    (hfew : ((backTo cpos (starEach (e :: []) X.env)).all (fun x => !x.1) && (backToKw cpos (keywordEach [] X.env)).all (fun x => x.1.isSome)
      && decide ((e :: ([] : List Expr)).length + ([] : List Keyword).length + (if ([] : List Keyword).isEmpty then 0 else 1) < 30)) = true := by rfl)
    (hline : (apos.endLine == cpos.line) = true := by rfl) (hs : starEach (e :: []) X.env = (false, eval e X.env) :: starEach [] X.env := by rfl) (hplain : (backTo cpos (starEach [] X.env)).any (·.1) = false := by rfl) :
    ME X (.Call (.Attribute (.Name y py) "extend" apos) [e] [] cpos) (mExtend i m) :=
  ⟨(pe_bm PySem.F.plainAttrs_list PySem.F.slot_list_extend PySem.F.type_list_extend mt_extend hy (pa_cons he.ok pa_nil hs) hbase hfew hline hs hplain).imq fun σ H Q q => by
    obtain ⟨F, G, b, ρ, hr, r, ρ', e, k⟩ := q
    obtain ⟨w0, e0, e⟩ := bind_some e
    obtain ⟨⟨r1, ρ1⟩, e1, e⟩ := bind_some e
    obtain ⟨d, e2, e⟩ := bind_some e
    obtain ⟨_, p0, vs0, es0, a0, _⟩ := cont_ok hr e0
    refine ⟨.ref p0, es0, .inl ⟨rfl, _, .of a0⟩, F, G, b, ρ, hr, r1, ρ1, e1, fun F1 H1 v1 s1 c1 h1 k1 => ?_⟩
    have bd := k1.bd h1 e2
    match d, bd, e with
    | .list xs, bd, e =>
      obtain ⟨ds, e3, e⟩ := bind_some e
      obtain ⟨hl, e⟩ := ite_some e
      cases e
      obtain ⟨o1, p1, vs, es1, a1, x1, f1, g1⟩ := cont_ok h1 e3
      rw [es0] at es1
      cases es1
      obtain ⟨q, ys, rfl, aq, xq⟩ := bd.list h1.fh
      refine ⟨p0, q, vs, ys, rfl, rfl, a1, aq, by rw [x1.len, xq.len]; exact lim_le hl, ?_⟩
      exact k F1 _ .non s1 c1 (h1.put1 o1 es0 (x1.app xq)) .non⟩
/-- xs[k] = v -/
def sPut (i : Nat) (mi mv : MR) : MS' := fun ρ => do
  let (d, ρ1) ← mCap mv ρ
  let _ ← contE ρ1 i
  let (r, ρ2) ← mi ρ1
  match r with
  | .sh (.int z) => do
    let ds ← contE ρ2 i
    let j ← ixN ds.length z
    some (.nx, putE ρ2 i (ds.set j d))
  | _ => none
theorem ms_put {ei : Expr} {mi mv : MR} {spos : Pos} (hy : PE X (.Name y py) (tVar i)) (hi : ME X ei mi) (he : ME X e mv)
    (ha : ∀ v, assign (.Subscript (.Name y py) ei pos) X.env v = (do
      let ov ← holding [v] (eval (.Name y py) X.env)
      let iv ← holding [v, ov] (eval ei X.env)
      standAt pos
      holding [v, ov, iv] (setItem ov iv v)
      release [v, ov, iv] []) := by intro _; rfl)
    (hs : swapsWithSole [.Subscript (.Name y py) ei pos] e spos.line X.env = pure false := by rfl) (hw : swappedStores [.Subscript (.Name y py) ei pos] e X.env = pure none := by rfl) (h1 : (assignEach [.Subscript (.Name y py) ei pos] X.env).map (·.2) = [assign (.Subscript (.Name y py) ei pos) X.env] := by rfl) :
    MSt X (.Assign [.Subscript (.Name y py) ei pos] e spos) (sPut i mi mv) := ⟨(ps_asg he.ok (pg_sub hy hi.ok set_list ha) hs hw h1).imq fun D σ H q => by
  obtain ⟨F, G, b, ρ, hr, o, ρ', e, k⟩ := q
  obtain ⟨⟨d, ρ1⟩, e1, e⟩ := bind_some e
  obtain ⟨w0, e0, e⟩ := bind_some e
  obtain ⟨⟨r, ρ2⟩, e2, e⟩ := bind_some e
  obtain ⟨⟨rv, ρ0⟩, e3, e1⟩ := bind_some e1
  refine ⟨F, G, b, ρ, hr, rv, ρ0, e3, fun F1 H1 v1 s1 c1 h1 k1 => ?_⟩
  obtain ⟨F2, s2, c2, h2, dv⟩ := cap_ok h1 k1 e1
  obtain ⟨_, p0, vs0, es0, a0, _⟩ := cont_ok h2 e0
  refine ⟨.ref p0, es0, F2, G, b, ρ1, h2, r, ρ2, e2, fun F3 H3 v3 s3 c3 h3 k3 => ?_⟩
  match r, k3, e with
  | .sh (.int z), k3, e =>
    cases (show Dv F3 v3 (.int z) from k3)
    obtain ⟨ds, e4, e⟩ := bind_some e
    obtain ⟨j, e5, e⟩ := bind_some e
    cases e
    obtain ⟨o1, p1, vs, es1, a1, x1, f1, g1⟩ := cont_ok h3 e4
    rw [es0] at es1
    cases es1
    refine ⟨p0, vs, z, j, rfl, rfl, a1, by rw [x1.len]; exact e5, ?_⟩
    exact k F3 _ σ (s1.trans (s2.trans s3)) (c1.trans (c2.trans c3)) (h3.put1 o1 es0 (x1.set j (dv.mono s3)))⟩
end
end
end Mi
set_option Elab.async false
set_option linter.all false
set_option maxRecDepth 100000
/-! Core6: operators, comparisons, subscripts, slices, built-ins on data. -/
namespace Mi
open PySem PySem.Spec PyProof.Rows L2
open PySem.W (alike alikeAll dataLt AlikeAll minD maxD lt_data gt_data le_data ge_data min_list_data max_list_data)
variable [KK]

/-! ### plain data: no dict in it -/
mutual
def plainD : D → Bool
  | .none => true
  | .bool _ => true
  | .int _ => true
  | .str _ => true
  | .list ds => plainDs ds
  | .tuple ds => plainDs ds
  | .dict _ => false
def plainDs : List D → Bool
  | [] => true
  | d :: ds => plainD d && plainDs ds
end
mutual
theorem Dv.pl {K : Fr0} {F : Hp} : ∀ {v : V} {d : D}, Dv F v d → plainD d = true → Dp K F v d
  | _, _, .non, _ => .non
  | _, _, .bl b, _ => .bl b
  | _, _, .int i, _ => .int i
  | _, _, .str x, _ => .str x
  | _, _, .lst h a, c => .lst (.of h) (Dvs.pl a c)
  | _, _, .tup h a, c => .tup (.of h) (Dvs.pl a c)
  | _, _, .frz h a, c => by cases c
theorem Dvs.pl {K : Fr0} {F : Hp} : ∀ {vs : List V} {ds : List D}, Dvs F vs ds → plainDs ds = true → DpAll K F vs ds
  | _, _, .nil, _ => .nil
  | _, _, .cons h a, c => by
    have c' := Bool.and_eq_true_iff.mp c
    exact .cons (Dv.pl h c'.1) (Dvs.pl a c'.2)
end
mutual
theorem plain_of_canLay : ∀ d : D, d.canLay0 = true → plainD d = true
  | .none, _ => rfl
  | .bool _, _ => rfl
  | .int _, _ => rfl
  | .str _, _ => rfl
  | .list ds, h => plains_of_canLay ds h
  | .tuple ds, h => plains_of_canLay ds h
  | .dict _, h => by cases h
theorem plains_of_canLay : ∀ ds : List D, PyData.canLayAll0 ds = true → plainDs ds = true
  | [], _ => rfl
  | d :: ds, h => by
    have h' := Bool.and_eq_true_iff.mp h
    exact Bool.and_eq_true_iff.mpr ⟨plain_of_canLay d h'.1, plains_of_canLay ds h'.2⟩
end
theorem Bd.dp {K : Fr0} {F H : Hp} {v : V} {d : D} (s : Same F H) (h : Bd F H v d) (c : plainD d = true) : Dp K H v d := (h.dv s).pl c

/-! ### arithmetic -/
section
variable {X : Cx}
def addI : D → D → Option R
  | .int a, .int b => some (.sh (.int (a + b)))
  | _, _ => none
def addS : D → D → Option R
  | .str a, .str b => if a.length + b.length ≤ lim then some (.sh (.str (a ++ b))) else none
  | _, _ => none
def addL : D → D → Option R
  | .list a, .list b => if a.length + b.length ≤ lim then some (.fr (a ++ b)) else none
  | _, _ => none
def addT : D → D → Option R
  | .tuple a, .tuple b => if a.length + b.length ≤ lim then some (.sh (.tuple (a ++ b))) else none
  | _, _ => none
def addD : D → D → Option R
  | .int a, .int b => some (.sh (.int (a + b)))
  | .str a, .str b => if a.length + b.length ≤ lim then some (.sh (.str (a ++ b))) else none
  | .list a, .list b => if a.length + b.length ≤ lim then some (.fr (a ++ b)) else none
  | .tuple a, .tuple b => if a.length + b.length ≤ lim then some (.sh (.tuple (a ++ b))) else none
  | _, _ => none
theorem op2_I {f : Int → Int → Int} {g : D → D → Option R} (h : ∀ a b k, g a b = some k → ∃ i j, a = .int i ∧ b = .int j ∧ k = .sh (.int (f i j))) : Op2 (rI0 fun i j => .int (f i j)) g := fun F H v1 v2 d1 d2 k s b1 b2 e Q q => by
  obtain ⟨i, j, rfl, rfl, rfl⟩ := h d1 d2 k e
  exact ⟨i, j, b1.int, b2.int, q F H _ (post_sh s (.int _))⟩
theorem op2_C {C : Int → Int → Prop} {f : Int → Int → Int} {g : D → D → Option R} (h : ∀ a b k, g a b = some k → ∃ i j, a = .int i ∧ b = .int j ∧ C i j ∧ k = .sh (.int (f i j))) : Op2 (rI C fun i j => .int (f i j)) g := fun F H v1 v2 d1 d2 k s b1 b2 e Q q => by
  obtain ⟨i, j, rfl, rfl, c, rfl⟩ := h d1 d2 k e
  exact ⟨i, j, b1.int, b2.int, c, q F H _ (post_sh s (.int _))⟩
theorem o_addI : Op2 (rI0 fun i j => .int (i + j)) addI := op2_I fun a b k e => by
  match a, b, e with
  | .int i, .int j, e => exact ⟨i, j, rfl, rfl, (Option.some.inj e).symm⟩
theorem o_addS : Op2 (fun x y H Q => ∃ i j, x = .str i ∧ y = .str j ∧ i.length + j.length ≤ sizeLine ∧ Q (.str (i ++ j)) H) addS := fun F H v1 v2 d1 d2 k s b1 b2 e Q q => by
  match d1, d2, e, b1, b2 with
  | .str a, .str b, e, b1, b2 =>
    obtain ⟨hl, rfl⟩ := ite_some (show (if a.length + b.length ≤ lim then some (R.sh (.str (a ++ b))) else none) = some k from e)
    exact ⟨a, b, b1.str, b2.str, lim_le hl, q F H _ (post_sh s (.str _))⟩
theorem o_addL : Op2 rCat addL := fun F H v1 v2 d1 d2 k s b1 b2 e Q q => by
  match d1, d2, e, b1, b2 with
  | .list a, .list b, e, b1, b2 =>
    obtain ⟨hl, rfl⟩ := ite_some (show (if a.length + b.length ≤ lim then some (R.fr (a ++ b)) else none) = some k from e)
    obtain ⟨p1, xs, rfl, h1, x1⟩ := b1.list s
    obtain ⟨p2, ys, rfl, h2, x2⟩ := b2.list s
    exact ⟨p1, p2, xs, ys, rfl, rfl, h1, h2, by rw [x1.len, x2.len]; exact lim_le hl, fun p hp => q _ _ _ (post_fr s hp (x1.app x2))⟩
theorem o_addT {K : Fr0} : Op2 (rCatA K) addT := fun F H v1 v2 d1 d2 k s b1 b2 e Q q => by
  match d1, d2, e, b1, b2 with
  | .tuple a, .tuple b, e, b1, b2 =>
    obtain ⟨hl, rfl⟩ := ite_some (show (if a.length + b.length ≤ lim then some (R.sh (.tuple (a ++ b))) else none) = some k from e)
    obtain ⟨p1, xs, rfl, h1, x1⟩ := b1.tup
    obtain ⟨p2, ys, rfl, h2, x2⟩ := b2.tup
    refine ⟨p1, p2, xs, ys, rfl, rfl, .of (s _ _ h1), .of (s _ _ h2), by rw [x1.len, x2.len]; exact lim_le hl, fun z => ?_, fun _ z => ?_, fun _ _ p hp => q _ _ _ (post_tup s hp (x1.app x2))⟩
    · subst z
      cases x1
      exact q F H _ (post_sh s (.tup h2 x2))
    · subst z
      cases x2
      rw [List.append_nil] at q
      exact q F H _ (post_sh s (.tup h1 x1))
theorem bin_add : BinOk X .Add addD := ⟨_, op_add.or (op_add_str.or (op_cat.or op_catA)), Op2.or (g := fun a b => match a, b with
    | .int _, .int _ => none
    | a, b => addD a b) o_addI (Op2.or (g := fun a b => match a, b with
      | .list a, .list b => addD (.list a) (.list b)
      | .tuple a, .tuple b => addD (.tuple a) (.tuple b)
      | _, _ => none) o_addS (Op2.or o_addL o_addT fun a b z e => by
        match a, b, e with
        | .list a, .list b, e => exact .inl e
        | .tuple a, .tuple b, e => exact .inr e) fun a b z e => by
      match a, b, e with
      | .str a, .str b, e => exact .inl e
      | .list a, .list b, e => exact .inr e
      | .tuple a, .tuple b, e => exact .inr e
      | .int a, b, e => cases b <;> cases e) fun a b z e => by
    match a, b, e with
    | .int a, .int b, e => exact .inl e
    | .str a, .str b, e => exact .inr e
    | .list a, .list b, e => exact .inr e
    | .tuple a, .tuple b, e => exact .inr e⟩
def subD : D → D → Option R
  | .int a, .int b => some (.sh (.int (a - b)))
  | _, _ => none
theorem bin_sub : BinOk X .Sub subD := ⟨_, op_sub, op2_I fun a b k e => by
  match a, b, e with
  | .int i, .int j, e => exact ⟨i, j, rfl, rfl, (Option.some.inj e).symm⟩⟩
def i64 (i : Int) : Bool := decide (-(2 ^ 64) < i) && decide (i < 2 ^ 64)
theorem i64_ok {i : Int} (h : i64 i = true) : -(2 ^ 64) < i ∧ i < 2 ^ 64 := by
  unfold i64 at h
  have := Bool.and_eq_true_iff.mp h
  exact ⟨of_decide_eq_true this.1, of_decide_eq_true this.2⟩
def mulI : D → D → Option R
  | .int a, .int b => if (i64 a || i64 b) = true then some (.sh (.int (a * b))) else none
  | _, _ => none
theorem o_mulI : Op2 (rI CMul fun i j => .int (i * j)) mulI := op2_C fun a b k e => by
  match a, b, e with
  | .int i, .int j, e =>
    obtain ⟨h, rfl⟩ := ite_some (show (if (i64 i || i64 j) = true then some (R.sh (.int (i * j))) else none) = some k from e)
    exact ⟨i, j, rfl, rfl, (Bool.or_eq_true_iff.mp h).imp i64_ok i64_ok, rfl⟩
/-- list * int -/
def mulL : D → D → Option R
  | .list a, .int k => if i62 k = true ∧ a.length * k.toNat ≤ lim then some (.fr (List.replicate k.toNat a).flatten) else none
  | _, _ => none
theorem flat_rep {F : Hp} {vs : List V} {ds : List D} (h : Dvs F vs ds) : ∀ n, Dvs F (List.replicate n vs).flatten (List.replicate n ds).flatten
  | 0 => .nil
  | n + 1 => by
    rw [List.replicate_succ, List.replicate_succ, List.flatten_cons, List.flatten_cons]
    exact h.app (flat_rep h n)
theorem o_mulL : Op2 rRep mulL := fun F H v1 v2 d1 d2 k s b1 b2 e Q q => by
  match d1, d2, e, b1, b2 with
  | .list a, .int z, e, b1, b2 =>
    obtain ⟨⟨hz, hl⟩, rfl⟩ := ite_some (show (if i62 z = true ∧ a.length * z.toNat ≤ lim then some (R.fr (List.replicate z.toNat a).flatten) else none) = some k from e)
    obtain ⟨p1, xs, rfl, h1, x1⟩ := b1.list s
    have b62 := i62_ok hz
    exact ⟨p1, z, xs, rfl, b2.int, h1, by omega, by omega, by rw [x1.len]; exact lim_le hl, fun p hp => q _ _ _ (post_fr s hp (flat_rep x1 _))⟩
def mulD : D → D → Option R
  | .int a, .int b => mulI (.int a) (.int b)
  | .list a, .int b => mulL (.list a) (.int b)
  | _, _ => none
theorem bin_mul : BinOk X .Mult mulD := ⟨_, op_mul.or op_rep, Op2.or o_mulI o_mulL fun a b z e => by
  match a, b, e with
  | .int a, .int b, e => exact .inl e
  | .list a, .int b, e => exact .inr e⟩
def divD : D → D → Option R
  | .int a, .int b => if 0 < b ∧ b < 2 ^ 64 then some (.sh (.int (a / b))) else none
  | _, _ => none
theorem bin_fdiv : BinOk X .FloorDiv divD := ⟨_, op_fdivW, op2_C fun a b k e => by
  match a, b, e with
  | .int i, .int j, e =>
    obtain ⟨h, rfl⟩ := ite_some (show (if 0 < j ∧ j < 2 ^ 64 then some (R.sh (.int (i / j))) else none) = some k from e)
    exact ⟨i, j, rfl, rfl, wide_div (b := 64) h.1 (by omega) (by decide) (by decide), rfl⟩⟩
def modD : D → D → Option R
  | .int a, .int b => if 0 < b then some (.sh (.int (a % b))) else none
  | _, _ => none
theorem bin_mod : BinOk X .Mod modD := ⟨_, op_mod, op2_C fun a b k e => by
  match a, b, e with
  | .int i, .int j, e =>
    obtain ⟨h, rfl⟩ := ite_some (show (if 0 < j then some (R.sh (.int (i % j))) else none) = some k from e)
    exact ⟨i, j, rfl, rfl, h, rfl⟩⟩
def powD : D → D → Option R
  | .int a, .int b => if (i64 a = true ∧ 0 ≤ b ∧ b ≤ 1000) then some (.sh (.int (a ^ b.toNat))) else none
  | _, _ => none
theorem bin_pow : BinOk X .Pow powD := ⟨_, op_pow, op2_C fun a b k e => by
  match a, b, e with
  | .int i, .int j, e =>
    obtain ⟨⟨h1, h2, h3⟩, rfl⟩ := ite_some (show (if (i64 i = true ∧ 0 ≤ j ∧ j ≤ 1000) then some (R.sh (.int (i ^ j.toNat))) else none) = some k from e)
    have b64 := i64_ok h1
    exact ⟨i, j, rfl, rfl, ⟨h2, by omega, by omega⟩, rfl⟩⟩
def xorD : D → D → Option R
  | .int a, .int b => some (.sh (.int (Builtin.bitXor a b)))
  | _, _ => none
theorem bin_xor : BinOk X .BitXor xorD := ⟨_, op_xor, op2_I fun a b k e => by
  match a, b, e with
  | .int i, .int j, e => exact ⟨i, j, rfl, rfl, (Option.some.inj e).symm⟩⟩
def negD : D → Option R
  | .int a => some (.sh (.int (-a)))
  | _ => none
theorem un_negD : UnOk X .USub negD := ⟨_, un_neg, fun F H v1 d1 k s b e Q q => by
  match d1, e, b with
  | .int i, e, b =>
    cases e
    exact ⟨i, b.int, q F H _ (post_sh s (.int _))⟩⟩

/-! ### comparisons -/
def eqD : D → D → Option Bool
  | .str a, .str b => some (decide (a = b))
  | .int a, .int b => some (decide (a = b))
  | a, b => if SeqAt.shaped a = true ∧ SeqAt.shaped b = true then some (PyData.eqv a b) else none
theorem eqD_cases {a b : D} {k : Bool} (h : eqD a b = some k) : (∃ x y, a = .str x ∧ b = .str y ∧ k = decide (x = y)) ∨ (∃ x y, a = .int x ∧ b = .int y ∧ k = decide (x = y)) ∨ (SeqAt.shaped a = true ∧ SeqAt.shaped b = true ∧ PyData.eqv a b = k) := by
  unfold eqD at h
  split at h
  · exact .inl ⟨_, _, rfl, rfl, (Option.some.inj h).symm⟩
  · exact .inr (.inl ⟨_, _, rfl, rfl, (Option.some.inj h).symm⟩)
  · obtain ⟨⟨h1, h2⟩, h3⟩ := ite_some h
    exact .inr (.inr ⟨h1, h2, h3⟩)
theorem plain_of_shaped {d : D} (h : SeqAt.shaped d = true) : plainD d = true := plain_of_canLay d (SeqAt.canLay_of_shaped h)
theorem decV_str {x y : Str} : decide (V.str x = V.str y) = decide (x = y) := by
  by_cases h : x = y
  · rw [h]; simp
  · rw [decide_eq_false h, decide_eq_false (fun z => h (V.str.inj z))]
theorem decV_int {x y : Int} : decide (V.int x = V.int y) = decide (x = y) := by
  by_cases h : x = y
  · rw [h]; simp
  · rw [decide_eq_false h, decide_eq_false (fun z => h (V.int.inj z))]
theorem cmp_eq (hu : X.A.units + 64 < cLine) : CmpOk X .Eq eqD := ⟨_, op_eq.or (op_eqD hu), fun F H v1 v2 d1 d2 k s b1 b2 e Q q => by
  rcases eqD_cases e with ⟨x, y, rfl, rfl, rfl⟩ | ⟨x, y, rfl, rfl, rfl⟩ | ⟨h1, h2, rfl⟩
  · rw [b1.str, b2.str]
    exact .inl ⟨rfl, by rw [decV_str]; exact q⟩
  · rw [b1.int, b2.int]
    exact .inl ⟨rfl, by rw [decV_int]; exact q⟩
  · exact .inr ⟨d1, d2, b1.dp s (plain_of_shaped h1), b2.dp s (plain_of_shaped h2), h1, h2, q⟩⟩
def neD (a b : D) : Option Bool := (eqD a b).map (!·)
theorem cmp_ne (hu : X.A.units + 64 < cLine) : CmpOk X .NotEq neD := ⟨_, op_ne.or (op_neD hu), fun F H v1 v2 d1 d2 k s b1 b2 e Q q => by
  unfold neD at e
  cases z : eqD d1 d2 with
  | none => rw [z] at e; cases e
  | some w =>
    rw [z] at e
    cases e
    rcases eqD_cases z with ⟨x, y, rfl, rfl, rfl⟩ | ⟨x, y, rfl, rfl, rfl⟩ | ⟨h1, h2, rfl⟩
    · rw [b1.str, b2.str]
      exact .inl ⟨rfl, by rw [decV_str]; exact q⟩
    · rw [b1.int, b2.int]
      exact .inl ⟨rfl, by rw [decV_int]; exact q⟩
    · exact .inr ⟨d1, d2, b1.dp s (plain_of_shaped h1), b2.dp s (plain_of_shaped h2), h1, h2, q⟩⟩
/-- orders: ints; else alike plain data -/
def rLtG (K : Fr0) (f : D → D → Bool) : R2 := fun x y H Q => ∃ d e, Dp K H x d ∧ Dp K H y e ∧ alike d e = true ∧ d ≠ .none ∧ min d.depth e.depth ≤ 60 ∧ Q (.bl (f d e)) H
theorem op_ltG (hu : X.A.units + 64 < cLine) : OpR X (compareOp .Lt) (rLtG X.K dataLt) := by
  intro pins s σ H x y v u Q I rx ry h
  obtain ⟨d, e, hd, he, sd, sn, se, q⟩ := h
  obtain ⟨as, r1⟩ := Dp.reads I d x v hd rx
  obtain ⟨bs, r2⟩ := Dp.reads I e y u he ry
  exact lt_data r1 r2 sd sn (by omega) ⟨.bl _, H, I, rfl, q⟩
theorem op_gtG (hu : X.A.units + 64 < cLine) : OpR X (compareOp .Gt) (rLtG X.K fun a b => dataLt b a) := by
  intro pins s σ H x y v u Q I rx ry h
  obtain ⟨d, e, hd, he, sd, sn, se, q⟩ := h
  obtain ⟨as, r1⟩ := Dp.reads I d x v hd rx
  obtain ⟨bs, r2⟩ := Dp.reads I e y u he ry
  exact gt_data r1 r2 sd sn (by omega) ⟨.bl _, H, I, rfl, q⟩
theorem op_leG (hu : X.A.units + 64 < cLine) : OpR X (compareOp .LtE) (rLtG X.K fun a b => !dataLt b a) := by
  intro pins s σ H x y v u Q I rx ry h
  obtain ⟨d, e, hd, he, sd, sn, se, q⟩ := h
  obtain ⟨as, r1⟩ := Dp.reads I d x v hd rx
  obtain ⟨bs, r2⟩ := Dp.reads I e y u he ry
  exact le_data r1 r2 sd sn (by omega) ⟨.bl _, H, I, rfl, q⟩
theorem op_geG (hu : X.A.units + 64 < cLine) : OpR X (compareOp .GtE) (rLtG X.K fun a b => !dataLt a b) := by
  intro pins s σ H x y v u Q I rx ry h
  obtain ⟨d, e, hd, he, sd, sn, se, q⟩ := h
  obtain ⟨as, r1⟩ := Dp.reads I d x v hd rx
  obtain ⟨bs, r2⟩ := Dp.reads I e y u he ry
  exact ge_data r1 r2 sd sn (by omega) ⟨.bl _, H, I, rfl, q⟩
def ordOk (a b : D) : Bool := plainD a && plainD b && alike a b && decide (min a.depth b.depth ≤ 60) && (match a with | .none => false | _ => true)
def ordD (fi : Int → Int → Bool) (fg : D → D → Bool) : D → D → Option Bool
  | .int a, .int b => some (fi a b)
  | a, b => if ordOk a b = true then some (fg a b) else none
theorem ordD_ok {K : Fr0} {fi : Int → Int → Bool} {fg : D → D → Bool} : Op2B (fun x y H Q => rI0 (fun i j => .bl (fi i j)) x y H Q ∨ rLtG K fg x y H Q) (ordD fi fg) := fun F H v1 v2 d1 d2 k s b1 b2 e Q q => by
  unfold ordD at e
  split at e
  · cases e
    exact .inl ⟨_, _, b1.int, b2.int, q⟩
  · obtain ⟨h, rfl⟩ := ite_some e
    unfold ordOk at h
    simp only [Bool.and_eq_true, decide_eq_true_eq] at h
    obtain ⟨⟨⟨⟨h1, h2⟩, h3⟩, h4⟩, h5⟩ := h
    exact .inr ⟨d1, d2, b1.dp s h1, b2.dp s h2, h3, fun z => (by rw [z] at h5; cases h5), h4, q⟩
def ltD := ordD (fun a b => decide (a < b)) dataLt
def gtD := ordD (fun a b => decide (b < a)) fun a b => dataLt b a
def leD := ordD (fun a b => decide (a ≤ b)) fun a b => !dataLt b a
def geD := ordD (fun a b => decide (b ≤ a)) fun a b => !dataLt a b
theorem cmp_lt (hu : X.A.units + 64 < cLine) : CmpOk X .Lt ltD := ⟨_, op_lt.or (op_ltG hu), ordD_ok⟩
theorem cmp_gt (hu : X.A.units + 64 < cLine) : CmpOk X .Gt gtD := ⟨_, op_gt.or (op_gtG hu), ordD_ok⟩
theorem cmp_le (hu : X.A.units + 64 < cLine) : CmpOk X .LtE leD := ⟨_, op_le.or (op_leG hu), ordD_ok⟩
theorem cmp_ge (hu : X.A.units + 64 < cLine) : CmpOk X .GtE geD := ⟨_, op_ge.or (op_geG hu), ordD_ok⟩
/-- is None -/
def noneD : D → Bool
  | .none => true
  | _ => false
def isND (a b : D) : Option Bool := match b with
  | .none => some (noneD a)
  | _ => none
theorem isN_dec {F H : Hp} {v : V} {d : D} (h : Bd F H v d) : decide (v = .non) = noneD d := by
  rcases h with h | ⟨p, vs, ds, rfl, _, _, rfl⟩
  · cases h <;> rfl
  · rfl
theorem cmp_is : CmpOk X .Is isND := ⟨_, op_isN, fun F H v1 v2 d1 d2 k s b1 b2 e Q q => by
  match d2, e, b2 with
  | .none, e, b2 =>
    cases e
    exact ⟨b2.non, by rw [isN_dec b1]; exact q⟩⟩
theorem cmp_isnot : CmpOk X .IsNot (fun a b => (isND a b).map (!·)) := ⟨_, op_notN, fun F H v1 v2 d1 d2 k s b1 b2 e Q q => by
  match d2, e, b2 with
  | .none, e, b2 =>
    cases e
    exact ⟨b2.non, by rw [isN_dec b1]; exact q⟩⟩
/-- x in a list of data; in a tuple of flat data -/
def flatD : D → Bool
  | .none => true
  | .bool _ => true
  | .int _ => true
  | .str _ => true
  | _ => false
theorem flat_v {F H : Hp} {v : V} {d : D} (h : Bd F H v d) (e : flatD d = true) : flatV v = true := by
  rcases h with h | ⟨p, vs, ds, rfl, _, _, rfl⟩
  · cases h <;> first | rfl | cases e
  · cases e
theorem flat_vs {F : Hp} : ∀ {vs : List V} {ds : List D}, Dvs F vs ds → ds.all flatD = true → vs.all flatV = true
  | _, _, .nil, _ => rfl
  | _, _, .cons h a, c => by
    rw [List.all_cons] at c ⊢
    have c' := Bool.and_eq_true_iff.mp c
    rw [flat_v (H := F) (.inl h) c'.1, flat_vs a c'.2]
    rfl
def inD : D → D → Option Bool
  | a, .list ds => if SeqAt.shaped a = true ∧ SeqAt.shaped (.list ds) = true then some (ds.any fun z => PyData.eqv z a) else none
  | _, _ => none
theorem cmp_in (hu : X.A.units + 65 < cLine) : CmpOk X .In inD := ⟨_, op_inD hu, fun F H v1 v2 d1 d2 k s b1 b2 e Q q => by
  match d2, e, b2 with
  | .list ds, e, b2 =>
    obtain ⟨⟨h1, h2⟩, rfl⟩ := ite_some (show (if SeqAt.shaped d1 = true ∧ SeqAt.shaped (.list ds) = true then some (ds.any fun z => PyData.eqv z d1) else none) = some k from e)
    exact ⟨d1, ds, b1.dp s (plain_of_shaped h1), b2.dp s (plain_of_shaped h2), h1, h2, q⟩⟩
theorem cmp_notin (hu : X.A.units + 65 < cLine) : CmpOk X .NotIn (fun a b => (inD a b).map (!·)) := ⟨_, op_notInD hu, fun F H v1 v2 d1 d2 k s b1 b2 e Q q => by
  match d2, e, b2 with
  | .list ds, e, b2 =>
    by_cases hs : SeqAt.shaped d1 = true ∧ SeqAt.shaped (.list ds) = true
    · have e2 : (some (ds.any fun z => PyData.eqv z d1)).map (!·) = some k := by
        rw [← e]
        show _ = (if SeqAt.shaped d1 = true ∧ SeqAt.shaped (.list ds) = true then some (ds.any fun z => PyData.eqv z d1) else none).map (!·)
        rw [if_pos hs]
      cases e2
      exact ⟨d1, ds, b1.dp s (plain_of_shaped hs.1), b2.dp s (plain_of_shaped hs.2), hs.1, hs.2, q⟩
    · have e2 : none = some k := by
        rw [← e]
        show _ = (if SeqAt.shaped d1 = true ∧ SeqAt.shaped (.list ds) = true then some (ds.any fun z => PyData.eqv z d1) else none).map (!·)
        rw [if_neg hs]
        rfl
      cases e2⟩

/-! ### subscripts, slices -/
def ixD : D → D → Option R
  | .list ds, .int i => (atI ds i).map .sh
  | .tuple ds, .int i => (atI ds i).map .sh
  | .str z, .int i => if z.length ≤ lim then (atI z.cps.toList i).map fun c => .sh (.str ⟨#[c]⟩) else none
  | .dict [(.none, .list ds)], .int i => (atI ds i).map .sh
  | _, _ => none
theorem at_dvs {F : Hp} {vs : List V} {ds : List D} {i : Int} {d : D} (h : Dvs F vs ds) (e : atI ds i = some d) : ∃ v, atI vs i = some v ∧ Dv F v d := by
  unfold atI at e ⊢
  rw [h.len]
  cases q : ixN ds.length i with
  | none => rw [q] at e; cases e
  | some j =>
    rw [q] at e
    exact h.get e
theorem map_some {α β : Type} {o : Option α} {f : α → β} {z : β} (h : o.map f = some z) : ∃ a, o = some a ∧ f a = z := by
  cases o with
  | none => cases h
  | some a => exact ⟨a, rfl, Option.some.inj h⟩
theorem o_ix {K : Fr0} (hK : K = KK.K) : Op2 (rIx K) ixD := fun F H v1 v2 d1 d2 k s b1 b2 e Q q => by
  match d1, d2, e, b1, b2 with
  | .list ds, .int i, e, b1, b2 =>
    obtain ⟨d, e1, rfl⟩ := map_some (show (atI ds i).map R.sh = some k from e)
    obtain ⟨p, vs, rfl, a, x⟩ := b1.list s
    obtain ⟨v, ev, dv⟩ := at_dvs x e1
    exact .inl ⟨p, vs, i, v, rfl, b2.int, .of a, ev, q F H v (post_sh s dv)⟩
  | .tuple ds, .int i, e, b1, b2 =>
    obtain ⟨d, e1, rfl⟩ := map_some (show (atI ds i).map R.sh = some k from e)
    obtain ⟨p, vs, rfl, a, x⟩ := b1.tup
    obtain ⟨v, ev, dv⟩ := at_dvs x e1
    exact .inr (.inl ⟨p, vs, i, v, rfl, b2.int, .of (s _ _ a), ev, q F H v (post_sh s dv)⟩)
  | .dict [(.none, .list ds)], .int i, e, b1, b2 =>
    obtain ⟨d, e1, rfl⟩ := map_some (show (atI ds i).map R.sh = some k from e)
    obtain ⟨p, vs, rfl, a, x⟩ := Bd.frz b1
    obtain ⟨v, ev, dv⟩ := at_dvs x e1
    exact .inl ⟨p, vs, i, v, rfl, b2.int, (by rw [hK]; exact s.seq a), ev, q F H v (post_sh s dv)⟩
  | .str z, .int i, e, b1, b2 =>
    obtain ⟨hl, e1⟩ := ite_some' (show (if z.length ≤ lim then (atI z.cps.toList i).map (fun c => R.sh (.str ⟨#[c]⟩)) else none) = some k from e)
    obtain ⟨c, e2, rfl⟩ := map_some e1
    exact .inr (.inr ⟨z, i, c, b1.str, b2.int, lim_le hl, e2, q F H _ (post_sh s (.str _))⟩)
variable {e a b c : Expr} {pos p p2 : Pos} {m ma mb mc : MR} {x : Str}
theorem me_ix (ha : ME X a ma) (hb : ME X b mb) (hs : PlainIx b) (hK : X.K = KK.K := by rfl) : ME X (.Subscript a b pos) (mBin ixD ma mb) := ⟨(pe_ix ix_seq ha.ok hb.ok hs).imq (tM_bin (o_ix hK))⟩
/-- a part of a slice -/
abbrev MP := En → Option (Option Int × En)
def tMP (m : MP) : TO := fun σ H Q => ∃ F G b ρ, Rp F G H b σ ρ ∧ ∃ r ρ', m ρ = some (r, ρ') ∧ ∀ F' H', Same F F' → Cln F G F' → Rp F' G H' b σ ρ' → Q r H'
structure MPt (X : Cx) (o : Option Expr) (m : MP) : Prop where
  ok : PO X o (tMP m)
theorem _root_.L2.PO.imq {X : Cx} {e : Option Expr} {t t' : TO} (h : PO X e t) (i : ∀ σ H Q, t' σ H Q → t σ H Q) : PO X e t' := ⟨fun pins s σ H R I q => h.run pins s σ H R I (i σ H R q)⟩
def pNone : MP := fun ρ => some (none, ρ)
def pSome (m : MR) : MP := fun ρ => do
  let (r, ρ1) ← m ρ
  match r with
  | .sh (.int i) => some (some i, ρ1)
  | _ => none
theorem mp_none : MPt X none pNone := ⟨po_none.imq fun σ H Q q => by
  obtain ⟨F, G, b, ρ, hr, r, ρ', e, k⟩ := q
  cases e
  exact k F H (.refl _) (.refl _ _) hr⟩
theorem mp_some (ha : ME X a ma) : MPt X (some a) (pSome ma) := ⟨(po_some ha.ok).imq fun σ H Q q => by
  obtain ⟨F, G, b, ρ, hr, r, ρ', e, k⟩ := q
  obtain ⟨⟨r1, ρ1⟩, e1, e⟩ := bind_some e
  refine ⟨F, G, b, ρ, hr, r1, ρ1, e1, fun F1 H1 v s1 c1 h1 k1 => ?_⟩
  match r1, k1, e with
  | .sh (.int i), k1, e =>
    cases (show Dv F1 v (.int i) from k1)
    cases e
    exact ⟨i, rfl, k F1 H1 s1 c1 h1⟩⟩
def cutD {α : Type} (xs : List α) (lo hi : Option Int) : List α := (xs.drop (HT.sIx xs.length 0 lo)).take (HT.sIx xs.length xs.length hi - HT.sIx xs.length 0 lo)
def slD (d : D) (lo hi : Option Int) : Option R := match d with
  | .list ds => some (.fr (cutD ds lo hi))
  | .tuple ds => some (.sh (.tuple (cutD ds lo hi)))
  | .str z => if z.length ≤ lim then some (.sh (.str (cutS z lo hi))) else none
  | _ => none
def mSl (m : MR) (lo hi : MP) : MR := fun ρ => do
  let (r, ρ1) ← m ρ
  let (l, ρ2) ← lo ρ1
  let (h, ρ3) ← hi ρ2
  let d ← deref ρ3 r
  let k ← slD d l h
  some (k, ρ3)
theorem cut_dvs {F : Hp} {vs : List V} {ds : List D} (h : Dvs F vs ds) (lo hi : Option Int) : Dvs F (cutV vs lo hi) (cutD ds lo hi) := by
  unfold cutV cutD
  rw [h.len]
  exact (h.drop _).take _
theorem cut_whole {α : Type} {xs : List α} {lo hi : Option Int} (h : HT.sIx xs.length 0 lo = 0 ∧ HT.sIx xs.length xs.length hi = xs.length) : cutD xs lo hi = xs := by
  unfold cutD
  rw [h.1, h.2]
  simp
theorem me_slice {lo hi : Option Expr} {ml mh : MP} (ha : ME X a ma) (hl : MPt X lo ml) (hh : MPt X hi mh) : ME X (.Subscript a (.Slice lo hi none p2) pos) (mSl ma ml mh) :=
  ⟨(pe_slice (sl_list.or (sl_tupA.or sl_str)) ha.ok hl.ok hh.ok).imq fun σ H Q q => by
    obtain ⟨F, G, b, ρ, hr, r, ρ', e, k⟩ := q
    obtain ⟨⟨r1, ρ1⟩, e1, e⟩ := bind_some e
    obtain ⟨⟨l, ρ2⟩, e2, e⟩ := bind_some e
    obtain ⟨⟨h, ρ3⟩, e3, e⟩ := bind_some e
    obtain ⟨d, e4, e⟩ := bind_some e
    obtain ⟨k1, e5, e⟩ := bind_some e
    cases e
    refine ⟨F, G, b, ρ, hr, r1, ρ1, e1, fun F1 H1 v1 s1 c1 h1 k1' => ?_⟩
    refine ⟨F1, guard G H1 v1 r1, b, ρ1, h1.guarded k1', l, ρ2, e2, fun F2 H2 s2 c2 h2 => ?_⟩
    refine ⟨F2, _, b, ρ2, h2, h, _, e3, fun F3 H3 s3 c3 h3 => ?_⟩
    have ge := guard_ge k1'
    have kk := k1'.keep (s2.trans s3) (c2.trans c3) h3
    have h3' := h3.less ge
    have cc := c1.trans ((c2.trans c3).less ge)
    have ss := s1.trans (s2.trans s3)
    have bd := kk.bd h3' e4
    have fin : ∀ F' H' v, Post F3 H3 r F' H' v → Q v H' := fun F' H' v P => k F' H' v (ss.trans P.ff) (cc.trans (P.cln h3'.gh)) (P.rp h3') (P.rs h3')
    match d, e5, bd with
    | .list ds, e5, bd =>
      cases e5
      obtain ⟨p, vs, rfl, a, x⟩ := bd.list h3'.fh
      exact .inl ⟨p, vs, rfl, .of a, fun p' hp => fin _ _ _ (post_fr h3'.fh hp (cut_dvs x l h))⟩
    | .tuple ds, e5, bd =>
      cases e5
      obtain ⟨p, vs, rfl, a, x⟩ := bd.tup
      refine .inr (.inl ⟨p, vs, rfl, .of (h3'.fh _ _ a), fun z => fin F3 H3 _ (post_sh h3'.fh ?_), fun _ p' hp => fin _ _ _ (post_tup h3'.fh hp (cut_dvs x l h))⟩)
      rw [x.len] at z
      rw [cut_whole z]
      exact .tup a x
    | .str z, e5, bd =>
      obtain ⟨hl, rfl⟩ := ite_some (show (if z.length ≤ lim then some (R.sh (.str (cutS z l h))) else none) = some r from e5)
      exact .inr (.inr ⟨z, bd.str, lim_le hl, fin F3 H3 _ (post_sh h3'.fh (.str _))⟩)⟩

/-! ### built-ins of one and two arguments -/
def OpC1 (r : List V → Hp → VK → Prop) (f : D → Option R) : Prop := ∀ F H v1 d1 k, Same F H → Bd F H v1 d1 → f d1 = some k → ∀ Q : VK, (∀ F' H' v, Post F H k F' H' v → Q v H') → r [v1] H Q
def OpC2 (r : List V → Hp → VK → Prop) (f : D → D → Option R) : Prop := ∀ F H v1 v2 d1 d2 k, Same F H → Bd F H v1 d1 → Bd F H v2 d2 → f d1 d2 = some k → ∀ Q : VK, (∀ F' H' v, Post F H k F' H' v → Q v H') → r [v1, v2] H Q
structure Call1 (X : Cx) (g : Value) (f : D → Option R) : Prop where
  ex : ∃ r, CallR X g r ∧ OpC1 r f
structure Call2 (X : Cx) (g : Value) (f : D → D → Option R) : Prop where
  ex : ∃ r, CallR X g r ∧ OpC2 r f
theorem read1 {r : List V → Hp → VK → Prop} {f : D → Option R} (o : OpC1 r f) (σ : L2.St) (H : Hp) (Q : VK) (q : tM (mUn f ma) σ H Q) : tCB r (tCons (tM ma) tNil) σ H Q :=
  tM_un (r := fun v H Q => r [v] H Q) (fun F H v1 d1 k s b e Q q => o F H v1 d1 k s b e Q q) σ H Q q
theorem read2 {r : List V → Hp → VK → Prop} {f : D → D → Option R} (o : OpC2 r f) (σ : L2.St) (H : Hp) (Q : VK) (q : tM (mBin f ma mb) σ H Q) : tCB r (tCons (tM ma) (tCons (tM mb) tNil)) σ H Q :=
  tM_bin (r := fun v w H Q => r [v, w] H Q) (fun F H v1 v2 d1 d2 k s b1 b2 e Q q => o F H v1 v2 d1 d2 k s b1 b2 e Q q) σ H Q q
theorem me_b1 {id : String} {f : D → Option R} (h : Call1 X (.builtin id) f) (hg : Gl X x) (hm : X.mg x = none) (hv : bootBuiltins x = some (.builtin id)) (ha : ME X a ma) (hn : x ≠ "__name__" := by decide) (hdb : (x == ("__debug__" : Str)) = false := by decide)
    (hs : starEach (a :: []) X.env = (false, eval a X.env) :: starEach [] X.env := by rfl) (hpl : (backTo pos (starEach [] X.env)).any (·.1) = false := by rfl) : ME X (.Call (.Name x p) [a] [] pos) (mUn f ma) := by
  obtain ⟨r, h1, h2⟩ := h.ex
  exact ⟨(pe_callB h1 hg hm hv (pa_cons ha.ok pa_nil hs) hn hdb hs hpl).imq (read1 h2)⟩
theorem me_t1 {id : String} {f : D → Option R} (h : Call1 X (.type id) f) (hg : Gl X x) (hm : X.mg x = none) (hv : bootBuiltins x = some (.type id)) (ha : ME X a ma) (hn : x ≠ "__name__" := by decide) (hdb : (x == ("__debug__" : Str)) = false := by decide)
    (hs : starEach (a :: []) X.env = (false, eval a X.env) :: starEach [] X.env := by rfl) (hpl : (backTo pos (starEach [] X.env)).any (·.1) = false := by rfl) : ME X (.Call (.Name x p) [a] [] pos) (mUn f ma) := by
  obtain ⟨r, h1, h2⟩ := h.ex
  exact ⟨(pe_callTy h1 hg hm hv (pa_cons ha.ok pa_nil hs) hn hdb hs hpl).imq (read1 h2)⟩
theorem me_b2 {id : String} {f : D → D → Option R} (h : Call2 X (.builtin id) f) (hg : Gl X x) (hm : X.mg x = none) (hv : bootBuiltins x = some (.builtin id)) (ha : ME X a ma) (hb : ME X b mb) (hn : x ≠ "__name__" := by decide) (hdb : (x == ("__debug__" : Str)) = false := by decide)
    (hs : starEach (a :: [b]) X.env = (false, eval a X.env) :: starEach [b] X.env := by rfl) (hs2 : starEach (b :: []) X.env = (false, eval b X.env) :: starEach [] X.env := by rfl) (hpl : (backTo pos (starEach [b] X.env)).any (·.1) = false := by rfl) : ME X (.Call (.Name x p) [a, b] [] pos) (mBin f ma mb) := by
  obtain ⟨r, h1, h2⟩ := h.ex
  exact ⟨(pe_callB h1 hg hm hv (pa_cons ha.ok (pa_cons hb.ok pa_nil hs2) hs) hn hdb hs hpl).imq (read2 h2)⟩

def lenD : D → Option R
  | .list ds => some (.sh (.int ds.length))
  | .tuple ds => some (.sh (.int ds.length))
  | .str z => if z.length ≤ lim then some (.sh (.int z.length)) else none
  | .dict [(.none, .list ds)] => some (.sh (.int ds.length))
  | _ => none
theorem c_len (hK : X.K = KK.K := by rfl) : Call1 X (.builtin "len") lenD := ⟨_, call_len_seq.or call_len_str, fun F H v1 d1 k s b e Q q => by
  match d1, e, b with
  | .list ds, e, b =>
    cases e
    obtain ⟨p, vs, rfl, a, x⟩ := b.list s
    exact .inl ⟨p, vs, rfl, .inl (.of a), by rw [x.len]; exact q F H _ (post_sh s (.int _))⟩
  | .tuple ds, e, b =>
    cases e
    obtain ⟨p, vs, rfl, a, x⟩ := b.tup
    exact .inl ⟨p, vs, rfl, .inr (.of (s _ _ a)), by rw [x.len]; exact q F H _ (post_sh s (.int _))⟩
  | .dict [(.none, .list ds)], e, b =>
    cases e
    obtain ⟨p, vs, rfl, a, x⟩ := Bd.frz b
    exact .inl ⟨p, vs, rfl, .inl (by rw [hK]; exact s.seq a), by rw [x.len]; exact q F H _ (post_sh s (.int _))⟩
  | .str z, e, b =>
    obtain ⟨hl, rfl⟩ := ite_some (show (if z.length ≤ lim then some (R.sh (.int z.length)) else none) = some k from e)
    exact .inr ⟨z, by rw [b.str], lim_le hl, q F H _ (post_sh s (.int _))⟩⟩
def absD : D → Option R
  | .int i => some (.sh (.int (if i < 0 then -i else i)))
  | _ => none
theorem c_abs : Call1 X (.builtin "abs") absD := ⟨_, call_abs, fun F H v1 d1 k s b e Q q => by
  match d1, e, b with
  | .int i, e, b =>
    cases e
    exact ⟨i, by rw [b.int], q F H _ (post_sh s (.int _))⟩⟩
def intD : D → Option R
  | .int i => some (.sh (.int i))
  | .bool k => some (.sh (.int (if k then 1 else 0)))
  | _ => none
theorem c_int : Call1 X (.type "int") intD := ⟨_, call_int1, fun F H v1 d1 k s b e Q q => by
  match d1, e, b with
  | .int i, e, b =>
    cases e
    exact .inl ⟨i, by rw [b.int], q F H _ (post_sh s (.int _))⟩
  | .bool i, e, b =>
    cases e
    exact .inr ⟨i, by rw [b.bl], q F H _ (post_sh s (.int _))⟩⟩
def max2D : D → D → Option R
  | .int i, .int j => some (.sh (.int (if j > i then j else i)))
  | _, _ => none
theorem c_max2 (hc : X.calm = true) : Call2 X (.builtin "max") max2D := ⟨_, call_max2 hc, fun F H v1 v2 d1 d2 k s b1 b2 e Q q => by
  match d1, d2, e, b1, b2 with
  | .int i, .int j, e, b1, b2 =>
    cases e
    exact ⟨i, j, by rw [b1.int, b2.int], q F H _ (post_sh s (.int _))⟩⟩
def min2D : D → D → Option R
  | .int i, .int j => some (.sh (.int (if j < i then j else i)))
  | _, _ => none
theorem c_min2 (hc : X.calm = true) : Call2 X (.builtin "min") min2D := ⟨_, call_min2 hc, fun F H v1 v2 d1 d2 k s b1 b2 e Q q => by
  match d1, d2, e, b1, b2 with
  | .int i, .int j, e, b1, b2 =>
    cases e
    exact ⟨i, j, by rw [b1.int, b2.int], q F H _ (post_sh s (.int _))⟩⟩
/-- the ints of a list of ints -/
def intsD : List D → Option (List Int)
  | [] => some []
  | .int i :: r => (intsD r).map (i :: ·)
  | _ => none
theorem intsD_eq : ∀ {ds : List D} {ns : List Int}, intsD ds = some ns → ds = ns.map .int
  | [], _, e => by cases e; rfl
  | .int i :: r, ns, e => by
    obtain ⟨ms, e1, rfl⟩ := map_some e
    rw [intsD_eq e1]
    rfl
theorem intsD_map : ∀ ns : List Int, intsD (ns.map .int) = some ns
  | [] => rfl
  | n :: r => by
    show (intsD (r.map .int)).map (n :: ·) = _
    rw [intsD_map r]
    rfl
def sumD : D → Option R
  | .list ds => (intsD ds).map fun ns => .sh (.int ns.sum)
  | _ => none
theorem c_sum (hc : X.calm = true) : Call1 X (.builtin "sum") sumD := ⟨_, cr_sum hc, fun F H v1 d1 k s b e Q q => by
  match d1, e, b with
  | .list ds, e, b =>
    obtain ⟨ns, e1, rfl⟩ := map_some (show (intsD ds).map (fun ns => R.sh (.int ns.sum)) = some k from e)
    obtain ⟨p, vs, rfl, a, x⟩ := b.list s
    rw [intsD_eq e1] at x
    exact ⟨p, ns, rfl, by rw [← x.ints]; exact .of a, q F H _ (post_sh s (.int _))⟩⟩
def blsD : List D → Option (List Bool)
  | [] => some []
  | .bool i :: r => (blsD r).map (i :: ·)
  | _ => none
theorem blsD_eq : ∀ {ds : List D} {ns : List Bool}, blsD ds = some ns → ds = ns.map .bool
  | [], _, e => by cases e; rfl
  | .bool i :: r, ns, e => by
    obtain ⟨ms, e1, rfl⟩ := map_some e
    rw [blsD_eq e1]
    rfl
theorem blsD_map : ∀ ns : List Bool, blsD (ns.map .bool) = some ns
  | [] => rfl
  | n :: r => by
    show (blsD (r.map .bool)).map (n :: ·) = _
    rw [blsD_map r]
    rfl
def anyD : D → Option R
  | .list ds => (blsD ds).map fun ns => .sh (.bool (ns.any id))
  | _ => none
def allD : D → Option R
  | .list ds => (blsD ds).map fun ns => .sh (.bool (ns.all id))
  | _ => none
theorem c_any (hc : X.calm = true) : Call1 X (.builtin "any") anyD := ⟨_, cr_any hc, fun F H v1 d1 k s b e Q q => by
  match d1, e, b with
  | .list ds, e, b =>
    obtain ⟨ns, e1, rfl⟩ := map_some (show (blsD ds).map (fun ns => R.sh (.bool (ns.any id))) = some k from e)
    obtain ⟨p, vs, rfl, a, x⟩ := b.list s
    rw [blsD_eq e1] at x
    exact ⟨p, ns, rfl, by rw [← x.bls]; exact .of a, q F H _ (post_sh s (.bl _))⟩⟩
theorem c_all (hc : X.calm = true) : Call1 X (.builtin "all") allD := ⟨_, cr_all hc, fun F H v1 d1 k s b e Q q => by
  match d1, e, b with
  | .list ds, e, b =>
    obtain ⟨ns, e1, rfl⟩ := map_some (show (blsD ds).map (fun ns => R.sh (.bool (ns.all id))) = some k from e)
    obtain ⟨p, vs, rfl, a, x⟩ := b.list s
    rw [blsD_eq e1] at x
    exact ⟨p, ns, rfl, by rw [← x.bls]; exact .of a, q F H _ (post_sh s (.bl _))⟩⟩
def listD : D → Option R
  | .list ds => some (.fr ds)
  | .tuple ds => some (.fr ds)
  | _ => none
theorem c_list : Call1 X (.type "list") listD := ⟨_, call_list_of, fun F H v1 d1 k s b e Q q => by
  match d1, e, b with
  | .list ds, e, b =>
    cases e
    obtain ⟨p, vs, rfl, a, x⟩ := b.list s
    exact ⟨p, vs, rfl, .inl (.of a), fun l hl => q _ _ _ (post_fr s hl x)⟩
  | .tuple ds, e, b =>
    cases e
    obtain ⟨p, vs, rfl, a, x⟩ := b.tup
    exact ⟨p, vs, rfl, .inr (.of (s _ _ a)), fun l hl => q _ _ _ (post_fr s hl x)⟩⟩
def tupleD : D → Option R
  | .list ds => some (.sh (.tuple ds))
  | .tuple ds => some (.sh (.tuple ds))
  | _ => none
theorem c_tuple : Call1 X (.type "tuple") tupleD := ⟨_, call_tuple_of, fun F H v1 d1 k s b e Q q => by
  match d1, e, b with
  | .list ds, e, b =>
    cases e
    obtain ⟨p, vs, rfl, a, x⟩ := b.list s
    exact ⟨p, vs, rfl, .inl ⟨.of a, fun l hl => q _ _ _ (post_tup s hl x)⟩⟩
  | .tuple ds, e, b =>
    cases e
    obtain ⟨p, vs, rfl, a, x⟩ := b.tup
    exact ⟨p, vs, rfl, .inr ⟨.of (s _ _ a), q F H _ (post_sh s (.tup a x))⟩⟩⟩
/-! the least, the greatest of alike data -/
def rMinG (K : Fr0) (f : D → List D → D) : List V → Hp → VK → Prop := fun vs H Q => ∃ (p : Addr) (its : List V) (x : D) (xs : List D), vs = [.ref p] ∧ SqL K H p its ∧ DpAll K H its (x :: xs) ∧ AlikeAll (x :: xs) ∧ PyData.depthAll (x :: xs) ≤ 60 ∧
  ∀ (i : Nat) (y : V), its[i]? = some y → (x :: xs)[i]? = some (f x xs) → Q y H
theorem depth_ok {A : Around} {n : Nat} (hu : A.units + 64 < cLine) (h : n ≤ 60) : A.units + 1 + n < cLine := by omega
theorem item_at {h : Heap} : ∀ {vs : List Value} {ds : List D} {as : List Addr} {i : Nat} {v : Value}, ReadsAll h vs ds as → vs[i]? = some v → ∃ d bs, ds[i]? = some d ∧ Reads h v d bs
  | _, _, _, i, v, .nil, e => by simp at e
  | _, _, _, 0, v, .cons r rs, e => by
    cases e
    exact ⟨_, _, rfl, r⟩
  | _, _, _, i + 1, v, .cons r rs, e => by
    obtain ⟨d, bs, a, b⟩ := item_at (i := i) (v := v) rs (by simpa using e)
    exact ⟨d, bs, by simpa using a, b⟩
theorem call_minG (hc : X.calm = true) (hu : X.A.units + 64 < cLine) : CallR X (.builtin "min") (rMinG X.K minD) := by
  intro pins s σ H vs us Q I r h
  obtain ⟨a, its, x, xs, rfl, hs, da, al, dep, q⟩ := h
  obtain ⟨vals, rv, hl, _⟩ := I.list hs
  obtain ⟨as, hr⟩ := Dp.readsAll I _ _ _ da rv
  rw [Vals.ref1 r]
  refine min_list_data (vs := vals.toArray) (I.ok.hd hc) hl.isList (by simpa using hr) al (depth_ok hu dep) fun i v h' tk bs hv hrd hk => ?_
  have hv' : vals[i]? = some v := by simpa using hv
  obtain ⟨d, cs, hd, rd⟩ := item_at hr hv'
  obtain ⟨e1, _⟩ := reads_det (fun b o e _ => hk b o e) rd hrd
  have hi : i < its.length := by
    have := rv.length
    have := (List.getElem?_eq_some_iff.mp hv').1
    omega
  obtain ⟨u, hu', ru⟩ := rv.get (List.getElem?_eq_getElem hi)
  rw [hv'] at hu'
  cases hu'
  exact ⟨its[i], H, I.kept hk, ru, q i _ (List.getElem?_eq_getElem hi) (by rw [hd, e1])⟩
theorem call_maxG (hc : X.calm = true) (hu : X.A.units + 64 < cLine) : CallR X (.builtin "max") (rMinG X.K maxD) := by
  intro pins s σ H vs us Q I r h
  obtain ⟨a, its, x, xs, rfl, hs, da, al, dep, q⟩ := h
  obtain ⟨vals, rv, hl, _⟩ := I.list hs
  obtain ⟨as, hr⟩ := Dp.readsAll I _ _ _ da rv
  rw [Vals.ref1 r]
  refine max_list_data (vs := vals.toArray) (I.ok.hd hc) hl.isList (by simpa using hr) al (depth_ok hu dep) fun i v h' tk bs hv hrd hk => ?_
  have hv' : vals[i]? = some v := by simpa using hv
  obtain ⟨d, cs, hd, rd⟩ := item_at hr hv'
  obtain ⟨e1, _⟩ := reads_det (fun b o e _ => hk b o e) rd hrd
  have hi : i < its.length := by
    have := rv.length
    have := (List.getElem?_eq_some_iff.mp hv').1
    omega
  obtain ⟨u, hu', ru⟩ := rv.get (List.getElem?_eq_getElem hi)
  rw [hv'] at hu'
  cases hu'
  exact ⟨its[i], H, I.kept hk, ru, q i _ (List.getElem?_eq_getElem hi) (by rw [hd, e1])⟩
def alikeB (ds : List D) : Bool := ds.all (fun x => ds.all fun y => alike x y) && ds.all fun x => !noneD x
theorem alikeB_ok {ds : List D} (h : alikeB ds = true) : AlikeAll ds := by
  unfold alikeB at h
  obtain ⟨h1, h2⟩ := Bool.and_eq_true_iff.mp h
  rw [List.all_eq_true] at h1 h2
  refine ⟨fun x hx y hy => List.all_eq_true.mp (h1 x hx) y hy, fun x hx z => ?_⟩
  have := h2 x hx
  rw [z] at this
  cases this
def bestOk (ds : List D) : Bool := plainDs ds && alikeB ds && decide (PyData.depthAll ds ≤ 60)
def minLD : D → Option R
  | .list (x :: xs) => if bestOk (x :: xs) = true then some (.sh (minD x xs)) else none
  | _ => none
def maxLD : D → Option R
  | .list (x :: xs) => if bestOk (x :: xs) = true then some (.sh (maxD x xs)) else none
  | _ => none
theorem o_best {K : Fr0} {f : D → List D → D} {g : D → Option R} (hg : ∀ d k, g d = some k → ∃ x xs, d = .list (x :: xs) ∧ bestOk (x :: xs) = true ∧ k = .sh (f x xs)) : OpC1 (rMinG K f) g := fun F H v1 d1 k s b e Q q => by
  obtain ⟨x, xs, rfl, hb, rfl⟩ := hg d1 k e
  obtain ⟨p, vs, rfl, a, dx⟩ := b.list s
  unfold bestOk at hb
  simp only [Bool.and_eq_true, decide_eq_true_eq] at hb
  obtain ⟨⟨h1, h2⟩, h3⟩ := hb
  refine ⟨p, vs, x, xs, rfl, .of a, (dx.mono s).pl h1, alikeB_ok h2, h3, fun i y hy hd => ?_⟩
  obtain ⟨v, ev, dv⟩ := dx.get hd
  rw [hy] at ev
  cases ev
  exact q F H y (post_sh s dv)
theorem c_min (hc : X.calm = true) (hu : X.A.units + 64 < cLine) : Call1 X (.builtin "min") minLD := ⟨_, call_minG hc hu, o_best fun d k e => by
  match d, e with
  | .list (x :: xs), e =>
    obtain ⟨h, rfl⟩ := ite_some (show (if bestOk (x :: xs) = true then some (R.sh (minD x xs)) else none) = some k from e)
    exact ⟨x, xs, rfl, h, rfl⟩⟩
theorem c_max (hc : X.calm = true) (hu : X.A.units + 64 < cLine) : Call1 X (.builtin "max") maxLD := ⟨_, call_maxG hc hu, o_best fun d k e => by
  match d, e with
  | .list (x :: xs), e =>
    obtain ⟨h, rfl⟩ := ite_some (show (if bestOk (x :: xs) = true then some (R.sh (maxD x xs)) else none) = some k from e)
    exact ⟨x, xs, rfl, h, rfl⟩⟩
end
end Mi
set_option Elab.async false
set_option linter.all false
set_option maxRecDepth 100000
/-! Core7: is, isinstance, repr, stores by an operator, texts joined, index, enumerate, zip, reversed. -/
namespace Mi
open PySem PySem.Spec PyProof.Rows L2
open PySem.W (alike alikeAll dataLt AlikeAll minD maxD)
variable [KK]
section
variable {X : Cx}
/-! ### is None, is True, is False -/
def isD : D → D → Option Bool
  | a, .none => some (noneD a)
  | .bool x, .bool y => some (x == y)
  | _, .bool _ => some false
  | _, _ => none
def noTy : V → Bool
  | .ty _ => false
  | _ => true
def rIsBo : R2 := fun x y H Q => ∃ k, y = .bl k ∧ noTy x = true ∧ Q (.bl (decide (x = .bl k))) H
theorem op_isBo : OpR X (compareOp .Is) rIsBo := by
  intro pins s σ H x y v u Q I rx ry h
  obtain ⟨k, rfl, hx, q⟩ := h
  cases (show u = Value.bool k from ry)
  have fin : ∀ b, b = decide (x = V.bl k) → EP X pins σ Q (.bool b) s := fun b e => by
    subst e
    exact ⟨.bl _, H, I, rfl, q⟩
  cases x with
  | non =>
    cases rx
    exact wpAny_is_plain rfl (fin _ rfl)
  | bl b =>
    cases (show v = Value.bool b from rx)
    refine is_bool (fin _ ?_)
    by_cases e : b = k
    · subst e; simp
    · rw [decide_eq_false (fun z => e (V.bl.inj z)), beq_eq_false_iff_ne.mpr e]
  | int i => obtain ⟨t, rfl⟩ := rx; exact wpAny_is_other rfl (fun z => nomatch z) (fin _ rfl)
  | str i => obtain ⟨t, rfl⟩ := rx; exact wpAny_is_other rfl (fun z => nomatch z) (fin _ rfl)
  | byt i => obtain ⟨t, rfl⟩ := rx; exact wpAny_is_other rfl (fun z => nomatch z) (fin _ rfl)
  | flt i => obtain ⟨t, rfl⟩ := rx; exact wpAny_is_other rfl (fun z => nomatch z) (fin _ rfl)
  | ref a => cases rx; exact wpAny_is_other rfl (fun z => nomatch z) (fin _ rfl)
  | ty n => cases hx
theorem isB_dec {F H : Hp} {v : V} {d : D} {k : Bool} (h : Bd F H v d) : noTy v = true ∧ ∀ b, isD d (.bool k) = some b → b = decide (v = .bl k) := by
  rcases h with h | ⟨p, vs, ds, rfl, _, _, rfl⟩
  · cases h with
    | non => exact ⟨rfl, fun b e => by cases e; rfl⟩
    | bl x =>
      refine ⟨rfl, fun b e => ?_⟩
      cases e
      by_cases z : x = k
      · subst z; simp
      · rw [decide_eq_false (fun w => z (V.bl.inj w)), beq_eq_false_iff_ne.mpr z]
    | int x => exact ⟨rfl, fun b e => by cases e; rfl⟩
    | str x => exact ⟨rfl, fun b e => by cases e; rfl⟩
    | lst _ _ => exact ⟨rfl, fun b e => by cases e; rfl⟩
    | tup _ _ => exact ⟨rfl, fun b e => by cases e; rfl⟩
    | frz _ _ => exact ⟨rfl, fun b e => by cases e; rfl⟩
  · exact ⟨rfl, fun b e => by cases e; rfl⟩
theorem cmp_isD : CmpOk X .Is isD := ⟨_, op_isN.or op_isBo, fun F H v1 v2 d1 d2 k s b1 b2 e Q q => by
  match d2, e, b2 with
  | .none, e, b2 =>
    have e' : some (noneD d1) = some k := by
      rw [← e]
      cases d1 <;> rfl
    cases e'
    exact .inl ⟨b2.non, by rw [isN_dec b1]; exact q⟩
  | .bool z, e, b2 =>
    obtain ⟨h1, h2⟩ := isB_dec (k := z) b1
    exact .inr ⟨z, b2.bl, h1, by rw [← h2 k e]; exact q⟩
  | .int _, e, _ => cases d1 <;> cases e
  | .str _, e, _ => cases d1 <;> cases e
  | .list _, e, _ => cases d1 <;> cases e
  | .tuple _, e, _ => cases d1 <;> cases e
  | .dict _, e, _ => cases d1 <;> cases e⟩

/-! ### isinstance(x, T), T a built-in type -/
def tyName : D → String
  | .none => "NoneType"
  | .bool _ => "bool"
  | .int _ => "int"
  | .str _ => "str"
  | .list _ => "list"
  | .tuple _ => "tuple"
  | .dict _ => "dict"
def isiD (T : String) (d : D) : Option Bool := if plainD d = true then kitB (tyName d) T else none
def mIsi (T : String) (m : MR) : MR := fun ρ => do
  let (r, ρ1) ← m ρ
  let d ← deref ρ1 r
  let k ← isiD T d
  some (.sh (.bool k), ρ1)
variable {e a b c : Expr} {pos p p2 p3 : Pos} {m ma mb mc : MR} {x y : Str} {t : MB}
theorem ty_of {K : Fr0} {F H : Hp} {v : V} {d : D} (s : Same F H) (h : Bd F H v d) (c : plainD d = true) : TyX K H v (.type (tyName d)) := by
  rcases h with h | ⟨p, vs, ds, rfl, a, _, rfl⟩
  · cases h with
    | non => exact .base .non
    | bl x => exact .base (.bl x)
    | int x => exact .base (.int x)
    | str x => exact .base (.str x)
    | lst a _ => exact .base (.lst (s _ _ a))
    | tup a _ => exact .base (.tup (s _ _ a))
    | frz _ _ => cases c
  · exact .base (.lst a)
theorem me_isi {T : String} (hg : Gl X "isinstance") (hm : X.mg "isinstance" = none) (hv : bootBuiltins "isinstance" = some (.builtin "isinstance")) (ha : ME X a ma) (hgT : Gl X x) (hmT : X.mg x = none) (hvT : bootBuiltins x = some (.type T))
    (hn : x ≠ "__name__" := by decide) (hdb : (x == ("__debug__" : Str)) = false := by decide)
    (hs : starEach (a :: [.Name x p2]) X.env = (false, eval a X.env) :: starEach [.Name x p2] X.env := by rfl) (hs2 : starEach (.Name x p2 :: []) X.env = (false, eval (.Name x p2) X.env) :: starEach [] X.env := by rfl) (hpl : (backTo pos (starEach [.Name x p2] X.env)).any (·.1) = false := by rfl) :
    ME X (.Call (.Name "isinstance" p) [a, .Name x p2] [] pos) (mIsi T ma) :=
  ⟨(pe_callB call_isi hg hm hv (pa_cons ha.ok (pa_cons (pe_bltn (v := .ty T) hgT hmT hvT rfl hn hdb) pa_nil hs2) hs) (by decide) (by decide) hs hpl).imq fun σ H Q q => by
    obtain ⟨F, G, b, ρ, hr, r, ρ', e, k⟩ := q
    obtain ⟨⟨r1, ρ1⟩, e1, e⟩ := bind_some e
    obtain ⟨d, e2, e⟩ := bind_some e
    obtain ⟨kb, e3, e⟩ := bind_some e
    cases e
    obtain ⟨hp, e3⟩ := ite_some' e3
    refine ⟨F, G, b, ρ, hr, r1, _, e1, fun F1 H1 v1 s1 c1 h1 k1 => ?_⟩
    exact ⟨v1, .ty T, _, _, kb, rfl, .ty T, ty_of h1.fh (k1.bd h1 e2) hp, kit_ty e3, k F1 H1 _ s1 c1 h1 (.bl _)⟩⟩

/-! ### repr -/
def reprD : D → Option R
  | .str x => if (reprText x).length ≤ lim then some (.sh (.str (reprText x))) else none
  | .int i => if i64 i = true then some (.sh (.str (toString i))) else none
  | _ => none
def rReprS : List V → Hp → VK → Prop := fun xs H Q => ∃ x : Str, xs = [.str x] ∧ (reprText x).length ≤ sizeLine ∧ Q (.str (reprText x)) H
theorem call_repr_str : CallR X (.builtin "repr") rReprS := by
  intro pins s σ H xs us Q I r h
  obtain ⟨i, rfl, hz, q⟩ := h
  obtain ⟨u, rfl, t, rfl⟩ := vals1 r
  exact PySem.P.repr_of_str ⟨.str _, H, I.tok _, ⟨_, rfl⟩, q⟩ hz
theorem log_small {i : Int} (h : i64 i = true) : i.natAbs.log2 < 1920 := by
  have h := i64_ok h
  have h2 : i.natAbs < 2 ^ 64 := by omega
  exact Nat.lt_trans (PySem.Flt.log2_lt_of (by decide : 0 < 64) h2) (by decide)
def rReprI : List V → Hp → VK → Prop := fun xs H Q => ∃ i : Int, xs = [.int i] ∧ i.natAbs.log2 < 1920 ∧ Q (.str (toString i)) H
theorem call_repr_i : CallR X (.builtin "repr") rReprI := by
  intro pins s σ H xs us Q I r h
  obtain ⟨i, rfl, hz, q⟩ := h
  obtain ⟨u, rfl, t, rfl⟩ := vals1 r
  exact PySem.P.repr_of_int hz ⟨.str _, H, I.tok _, ⟨_, rfl⟩, q⟩
theorem c_repr : Call1 X (.builtin "repr") reprD := ⟨_, call_repr_i.or call_repr_str, fun F H v1 d1 k s b e Q q => by
  match d1, e, b with
  | .int i, e, b =>
    obtain ⟨h, rfl⟩ := ite_some (show (if i64 i = true then some (R.sh (.str (toString i))) else none) = some k from e)
    exact .inl ⟨i, by rw [b.int], log_small h, q F H _ (post_sh s (.str _))⟩
  | .str i, e, b =>
    obtain ⟨h, rfl⟩ := ite_some (show (if (reprText i).length ≤ lim then some (R.sh (.str (reprText i))) else none) = some k from e)
    exact .inr ⟨i, by rw [b.str], lim_le h, q F H _ (post_sh s (.str _))⟩⟩

/-! ### name op= e -/
structure AugOk (X : Cx) (op : Operator) (f : D → D → Option R) : Prop where
  ex : ∃ r, PIp X op r ∧ Op2 r f
def sAug (i : Nat) (f : D → D → Option R) (m : MR) : MS' := fun ρ => do
  let (r0, ρ0) ← mVar i ρ
  match r0 with
  | .sh d0 => do
    let (r1, ρ1) ← m ρ0
    let d1 ← deref ρ1 r1
    let k ← f d0 d1
    let ρ2 ← asg ρ1 i k
    some (.nx, ρ2)
  | _ => none
theorem ms_aug {i : Nat} {op : Operator} {f : D → D → Option R} {pos' : Pos} (o : AugOk X op f) (hN : X.N.Nodup) (hi : X.N[i]? = some x) (hx : Loc X.env.scope x) (he : ME X e m) (hf : X.fn x = true ∨ X.env.scope.names.lookup x = some .local := by first | exact .inl rfl | exact .inr rfl | assumption) :
    MSt X (.AugAssign (.Name x pos') op e pos) (sAug i f m) := by
  obtain ⟨ti, h1, h2⟩ := o.ex
  refine ⟨(ps_aug hN hi hx he.ok h1 hf).imq fun D σ H q => ?_⟩
  obtain ⟨F, G, b, ρ, hr, o, ρ', e, k⟩ := q
  obtain ⟨⟨r0, ρ0⟩, e0, e⟩ := bind_some e
  match r0, e0, e with
  | .sh d0, e0, e =>
    obtain ⟨⟨r1, ρ1⟩, e1, e⟩ := bind_some e
    obtain ⟨d1, e2, e⟩ := bind_some e
    obtain ⟨z, e3, e⟩ := bind_some e
    obtain ⟨ρ2, e4, e⟩ := bind_some e
    cases e
    unfold mVar at e0
    cases q : ρ[i]? with
    | none => simp [q] at e0
    | some w =>
      have s := hr.slot i w q
      cases w with
      | no => simp [q] at e0
      | own _ => simp [q] at e0
      | io _ => simp [q] at e0
      | sh d =>
        simp only [q] at e0
        cases e0
        obtain ⟨v0, a0, dv0⟩ := s
        refine ⟨v0, a0, F, G, b, ρ, hr, r1, ρ1, e1, fun F1 H1 v1 s1 c1 g1 k1 => ?_⟩
        refine h2 F1 H1 v0 v1 d0 d1 z g1.fh (.inl (dv0.mono s1)) (k1.bd g1 e2) e3 _ fun F' H' v P => ?_
        obtain ⟨F2, s2, c2, r2⟩ := asg_ok (P.rp g1) (P.rs g1) e4
        exact k F2 H' _ (s1.trans (P.ff.trans s2)) (c1.trans ((P.cln g1.gh).trans c2)) r2
theorem pip_of {op : Operator} {r : R2} (h : OpR X (inplaceOp op) r) : PIp X op r := fun pins s σ H x y v u Q I rx ry q => h pins s σ H x y v u Q I rx ry q
def addIS : D → D → Option R
  | .int a, .int b => addI (.int a) (.int b)
  | .str a, .str b => addS (.str a) (.str b)
  | _, _ => none
theorem aug_add : AugOk X .Add addIS := ⟨_, pip_of (iop_add.or iop_add_str), Op2.or o_addI o_addS fun a b z e => by
  match a, b, e with
  | .int a, .int b, e => exact .inl e
  | .str a, .str b, e => exact .inr e⟩
theorem aug_sub : AugOk X .Sub subD := ⟨_, pip_of iop_sub, op2_I fun a b k e => by
  match a, b, e with
  | .int i, .int j, e => exact ⟨i, j, rfl, rfl, (Option.some.inj e).symm⟩⟩
theorem aug_mul : AugOk X .Mult mulI := ⟨_, pip_of iop_mul, o_mulI⟩

/-! ### texts joined; the place of an item -/
def strsD : List D → Option (List Str)
  | [] => some []
  | .str i :: r => (strsD r).map (i :: ·)
  | _ => none
theorem strsD_eq : ∀ {ds : List D} {ns : List Str}, strsD ds = some ns → ds = ns.map .str
  | [], _, e => by cases e; rfl
  | .str i :: r, ns, e => by
    obtain ⟨ms, e1, rfl⟩ := map_some e
    rw [strsD_eq e1]
    rfl
theorem strsD_map : ∀ ns : List Str, strsD (ns.map .str) = some ns
  | [] => rfl
  | n :: r => by
    show (strsD (r.map .str)).map (n :: ·) = _
    rw [strsD_map r]
    rfl
def joinD : D → D → Option R
  | .str a, .list ds => do
    let ys ← strsD ds
    if (ys.map (·.length)).sum + ys.length * a.length ≤ lim then some (.sh (.str (Txt.join a ys))) else none
  | .str a, .tuple ds => do
    let ys ← strsD ds
    if (ys.map (·.length)).sum + ys.length * a.length ≤ lim then some (.sh (.str (Txt.join a ys))) else none
  | _, _ => none
/-- o.m(e), o a text: the object first known to be a text -/
def mM1 (f : D → D → Option R) (mo m : MR) : MR := fun ρ => do
  let (r1, ρ1) ← mo ρ
  match r1 with
  | .sh (.str a) => do
    let (r2, ρ2) ← m ρ1
    let d2 ← deref ρ2 r2
    let k ← f (.str a) d2
    some (k, ρ2)
  | _ => none
theorem tM_m1 {r : V → List V → Hp → VK → Prop} {f : D → D → Option R} (o : Op2 (fun x y H Q => r x [y] H Q) f) (σ : L2.St) (H : Hp) (Q : VK) (q : tM (mM1 f ma mb) σ H Q) : tM1 r (tM ma) (tM mb) σ H Q := by
  obtain ⟨F, G, b, ρ, hr, r', ρ', e, k⟩ := q
  obtain ⟨⟨r1, ρ1⟩, e1, e⟩ := bind_some e
  match r1, e1, e with
  | .sh (.str a), e1, e =>
    obtain ⟨⟨r2, ρ2⟩, e2, e⟩ := bind_some e
    obtain ⟨d2, e4, e⟩ := bind_some e
    obtain ⟨z, e5, e⟩ := bind_some e
    cases e
    refine ⟨F, G, b, ρ, hr, _, ρ1, e1, fun F1 H1 v1 s1 c1 h1 k1 => ?_⟩
    cases (show Dv F1 v1 (.str a) from k1)
    refine ⟨⟨a, rfl⟩, F1, G, b, ρ1, h1, r2, ρ', e2, fun F2 H2 v2 s2 c2 h2 k2 => ?_⟩
    refine o F2 H2 _ v2 (.str a) d2 _ h2.fh (.inl (.str a)) (k2.bd h2 e4) e5 Q fun F' H' v P => ?_
    exact k F' H' v (s1.trans (s2.trans P.ff)) (c1.trans (c2.trans (P.cln h2.gh))) (P.rp h2) (P.rs h2)
theorem me_join {apos : Pos} (ho : ME X a ma) (he : ME X b mb) (hs : starEach [b] X.env = [(false, eval b X.env)] := by rfl) (hbase : attributeBase a "join" X.env (eval a X.env) = eval a X.env := by rfl) (hline : (apos.endLine == pos.line) = true := by rfl) :
    ME X (.Call (.Attribute a "join" apos) [b] [] pos) (mM1 joinD ma mb) := ⟨(pe_join ho.ok he.ok hs hbase hline).imq (tM_m1 fun F H v1 v2 d1 d2 k s b1 b2 e Q q => by
  match d1, d2, e, b1, b2 with
  | .str a, .list ds, e, b1, b2 =>
    obtain ⟨ys, e1, e2⟩ := bind_some (show (do let ys ← strsD ds; if (ys.map (·.length)).sum + ys.length * a.length ≤ lim then some (R.sh (.str (Txt.join a ys))) else none) = some k from e)
    obtain ⟨hl, rfl⟩ := ite_some e2
    obtain ⟨p, vs, rfl, h, x⟩ := b2.list s
    rw [strsD_eq e1] at x
    exact ⟨a, p, ys, b1.str, rfl, .inl (by rw [← x.strs]; exact .of h), lim_le' hl, q F H _ (post_sh s (.str _))⟩
  | .str a, .tuple ds, e, b1, b2 =>
    obtain ⟨ys, e1, e2⟩ := bind_some (show (do let ys ← strsD ds; if (ys.map (·.length)).sum + ys.length * a.length ≤ lim then some (R.sh (.str (Txt.join a ys))) else none) = some k from e)
    obtain ⟨hl, rfl⟩ := ite_some e2
    obtain ⟨p, vs, rfl, h, x⟩ := b2.tup
    rw [strsD_eq e1] at x
    exact ⟨a, p, ys, b1.str, rfl, .inr (by rw [← x.strs]; exact .of (s _ _ h)), lim_le' hl, q F H _ (post_sh s (.str _))⟩)⟩
where lim_le' {n : Nat} (h : n ≤ lim) : n ≤ 16777216 := Nat.le_trans h (by decide)
/-- xs.index(k), whole numbers, found -/
def idxI (k : Int) : List Int → Option Nat
  | [] => none
  | n :: r => if n = k then some 0 else (idxI k r).map (· + 1)
def idxS (k : Str) : List Str → Option Nat
  | [] => none
  | n :: r => if n = k then some 0 else (idxS k r).map (· + 1)
def indexD : D → D → Option R
  | .list ds, .int k => do
    let ns ← intsD ds
    let j ← idxI k ns
    some (.sh (.int (j : Nat)))
  | .list ds, .str k => do
    let ns ← strsD ds
    let j ← idxS k ns
    some (.sh (.int (j : Nat)))
  | _, _ => none
theorem idxI_ok {k : Int} : ∀ {ns : List Int} {j : Nat}, idxI k ns = some j → ns[j]? = some k ∧ ∀ m z, m < j → ns[m]? = some z → z ≠ k
  | n :: r, j, e => by
    unfold idxI at e
    by_cases h : n = k
    · rw [if_pos h] at e
      cases e
      exact ⟨by rw [h]; rfl, fun m z hm => absurd hm (Nat.not_lt_zero m)⟩
    · rw [if_neg h] at e
      obtain ⟨i, e1, rfl⟩ := map_some e
      obtain ⟨a1, a2⟩ := idxI_ok e1
      refine ⟨by simpa using a1, fun m z hm hz => ?_⟩
      cases m with
      | zero =>
        have : n = z := Option.some.inj hz
        rw [← this]
        exact h
      | succ m => exact a2 m z (by omega) (by simpa using hz)
theorem idxS_ok {k : Str} : ∀ {ns : List Str} {j : Nat}, idxS k ns = some j → ns[j]? = some k ∧ ∀ m z, m < j → ns[m]? = some z → z ≠ k
  | n :: r, j, e => by
    unfold idxS at e
    by_cases h : n = k
    · rw [if_pos h] at e
      cases e
      exact ⟨by rw [h]; rfl, fun m z hm => absurd hm (Nat.not_lt_zero m)⟩
    · rw [if_neg h] at e
      obtain ⟨i, e1, rfl⟩ := map_some e
      obtain ⟨a1, a2⟩ := idxS_ok e1
      refine ⟨by simpa using a1, fun m z hm hz => ?_⟩
      cases m with
      | zero =>
        have : n = z := Option.some.inj hz
        rw [← this]
        exact h
      | succ m => exact a2 m z (by omega) (by simpa using hz)
theorem all_flat_int (ns : List Int) : (ns.map V.int).all flatV = true := by
  rw [List.all_map]
  exact List.all_eq_true.mpr fun _ _ => rfl
theorem all_flat_str (ns : List Str) : (ns.map V.str).all flatV = true := by
  rw [List.all_map]
  exact List.all_eq_true.mpr fun _ _ => rfl
theorem eqv_int_ne {z k : Int} (h : z ≠ k) : eqV (.int z) (.int k) = false := beq_eq_false_iff_ne.mpr h
theorem eqv_str_ne {z k : Str} (h : z ≠ k) : eqV (.str z) (.str k) = false := beq_eq_false_iff_ne.mpr h
def mIndex (ma mb : MR) : MR := fun ρ => do
  let (r1, ρ1) ← ma ρ
  let d0 ← deref ρ1 r1
  match d0 with
  | .list _ => do
    let (r2, ρ2) ← mb ρ1
    let d1 ← deref ρ2 r1
    let d2 ← deref ρ2 r2
    let k ← indexD d1 d2
    some (k, ρ2)
  | _ => none
theorem me_index {apos cpos : Pos} (ho : ME X a ma) (he : ME X b mb) (hbase : attributeBase a "index" X.env (eval a X.env) = eval a X.env := by rfl)
    (hfew : ((backTo cpos (starEach (b :: []) X.env)).all (fun x => !x.1) && (backToKw cpos (keywordEach [] X.env)).all (fun x => x.1.isSome)
      && decide ((b :: ([] : List Expr)).length + ([] : List Keyword).length + (if ([] : List Keyword).isEmpty then 0 else 1) < 30)) = true := by rfl)
    (hline : (apos.endLine == cpos.line) = true := by rfl) (hs : starEach (b :: []) X.env = (false, eval b X.env) :: starEach [] X.env := by rfl) (hplain : (backTo cpos (starEach [] X.env)).any (·.1) = false := by rfl) :
    ME X (.Call (.Attribute a "index" apos) [b] [] cpos) (mIndex ma mb) :=
  ⟨(pe_bm PySem.F.plainAttrs_list PySem.F.slot_list_index PySem.F.type_list_index mt_index ho.ok (pa_cons he.ok pa_nil hs) hbase hfew hline hs hplain).imq fun σ H Q q => by
    obtain ⟨F, G, b', ρ, hr, r, ρ', e, k⟩ := q
    obtain ⟨⟨r1, ρ1⟩, e1, e⟩ := bind_some e
    obtain ⟨d0, e0, e⟩ := bind_some e
    refine ⟨F, G, b', ρ, hr, r1, ρ1, e1, fun F1 H1 v1 s1 c1 h1 k1 => ?_⟩
    have bd0 := k1.bd h1 e0
    match d0, bd0, e with
    | .list ds0, bd0, e =>
      obtain ⟨⟨r2, ρ2⟩, e2, e⟩ := bind_some e
      obtain ⟨d1, e3, e⟩ := bind_some e
      obtain ⟨d2, e4, e⟩ := bind_some e
      obtain ⟨z, e5, e⟩ := bind_some e
      cases e
      obtain ⟨p0, vs0, rfl, a0, _⟩ := bd0.list h1.fh
      refine ⟨.inl ⟨rfl, _, .of a0⟩, F1, guard G H1 _ r1, b', ρ1, h1.guarded k1, r2, _, e2, fun F2 H2 v2 s2 c2 h2 k2 => ?_⟩
      have ge := guard_ge k1
      have kk := k1.keep s2 c2 h2
      have h2' := h2.less ge
      have kk2 := k2.less ge
      have bd1 := kk.bd h2' e3
      have bd2 := kk2.bd h2' e4
      have fin : ∀ F' H' v, Post F2 H2 r F' H' v → Q v H' := fun F' H' v P => k F' H' v (s1.trans (s2.trans P.ff)) (c1.trans ((c2.less ge).trans (P.cln h2'.gh))) (P.rp h2') (P.rs h2')
      match d1, d2, e5, bd1, bd2 with
      | .list ds, .int n, e5, bd1, bd2 =>
        obtain ⟨ns, e6, e7⟩ := bind_some (show (do let ns ← intsD ds; let j ← idxI n ns; some (R.sh (.int (j : Nat)))) = some r from e5)
        obtain ⟨j, e8, e9⟩ := bind_some e7
        cases e9
        obtain ⟨p1, vs1, q1, a1, x1⟩ := bd1.list h2'.fh
        cases q1
        rw [intsD_eq e6] at x1
        rw [x1.ints] at a1
        obtain ⟨o1, o2⟩ := idxI_ok e8
        refine ⟨p0, ns.map V.int, .int n, j, .int n, rfl, by rw [bd2.int], .of a1, rfl, all_flat_int ns, by rw [List.getElem?_map, o1]; rfl, beq_self_eq_true n, fun m z' hm hz => ?_, fin F2 H2 _ (post_sh h2'.fh (.int _))⟩
        rw [List.getElem?_map] at hz
        obtain ⟨w, hw, rfl⟩ := map_some hz
        exact eqv_int_ne (o2 m w hm hw)
      | .list ds, .str n, e5, bd1, bd2 =>
        obtain ⟨ns, e6, e7⟩ := bind_some (show (do let ns ← strsD ds; let j ← idxS n ns; some (R.sh (.int (j : Nat)))) = some r from e5)
        obtain ⟨j, e8, e9⟩ := bind_some e7
        cases e9
        obtain ⟨p1, vs1, q1, a1, x1⟩ := bd1.list h2'.fh
        cases q1
        rw [strsD_eq e6] at x1
        rw [x1.strs] at a1
        obtain ⟨o1, o2⟩ := idxS_ok e8
        refine ⟨p0, ns.map V.str, .str n, j, .str n, rfl, by rw [bd2.str], .of a1, rfl, all_flat_str ns, by rw [List.getElem?_map, o1]; rfl, beq_self_eq_true n, fun m z' hm hz => ?_, fin F2 H2 _ (post_sh h2'.fh (.int _))⟩
        rw [List.getElem?_map] at hz
        obtain ⟨w, hw, rfl⟩ := map_some hz
        exact eqv_str_ne (o2 m w hm hw)⟩

/-! ### enumerate, zip, reversed of lists -/
variable {tg : Expr} {elts : List Expr} {kk : Nat} {tpos : Pos} {ms : MA}
def enumL : Int → List D → List D
  | _, [] => []
  | i, d :: ds => .tuple [.int i, d] :: enumL (i + 1) ds
theorem enumL_len : ∀ (i : Int) (ds : List D), (enumL i ds).length = ds.length
  | _, [] => rfl
  | i, d :: ds => by
    unfold enumL
    rw [List.length_cons, List.length_cons, enumL_len (i + 1) ds]
theorem enumL_get : ∀ (i : Int) (ds : List D) (j : Nat) (d : D), ds[j]? = some d → (enumL i ds)[j]? = some (.tuple [.int (i + j), d])
  | i, [], j, d, h => by simp at h
  | i, a :: ds, 0, d, h => by
    cases h
    show some (PyData.tuple [.int i, a]) = _
    rw [show i + ((0 : Nat) : Int) = i by omega]
  | i, a :: ds, j + 1, d, h => by
    unfold enumL
    rw [List.getElem?_cons_succ, enumL_get (i + 1) ds j d (by simpa using h)]
    rw [show i + 1 + (j : Int) = i + ((j + 1 : Nat) : Int) by omega]
theorem dvs2 {F : Hp} {v w : V} {d e : D} (h : Dv F v d) (k : Dv F w e) : Dvs F [v, w] [d, e] := .cons h (.cons k .nil)
theorem wk_enum {K : Fr0} {F : Hp} {p : Addr} {vs : List V} {ds : List D} (h : F p = some (.lst vs)) (a : Dvs F vs ds) : Wk (Ite K p) F (enumL 0 ds) := by
  refine ⟨fun i H hi s => ?_, fun H s => ⟨vs, .of (s _ _ h), by rw [enumL_len, a.len]; exact Nat.le_refl _⟩, fun i F1 H x H' hi s1 s2 y => ?_⟩
  · rw [enumL_len] at hi
    have hv : i < vs.length := by rw [a.len]; exact hi
    exact ⟨vs, vs[i], .of (s _ _ h), List.getElem?_eq_getElem hv⟩
  · rw [enumL_len] at hi
    obtain ⟨T, w, rfl, hT, rfl, y⟩ := y
    obtain ⟨v, e1, dv⟩ := a.get (List.getElem?_eq_getElem hi)
    have e2 := y vs (.of (s2 _ _ (s1 _ _ h)))
    rw [e1] at e2
    cases e2
    have g := enumL_get 0 ds i _ (List.getElem?_eq_getElem hi)
    rw [show (0 : Int) + (i : Int) = (i : Int) by omega] at g
    exact ⟨_, _, g, post_tup s2 hT (dvs2 (.int _) (dv.mono s1))⟩
def mEnum (ms : MA) : MI := fun ρ => do
  let (ds, ρ1) ← ms ρ
  match ds with
  | [.list es] => some (enumL 0 es, ρ1)
  | _ => none
theorem mi_enum (hg : Gl X "enumerate") (hm : X.mg "enumerate" = none) (ha : MAs X [a] ms) (hs : starEach [a] X.env = [(false, eval a X.env)] := by rfl) : MIt X (.Tuple elts kk tpos) (.Call (.Name "enumerate" p) [a] [] pos) (mEnum ms) := ⟨(pi_enum hg hm ha.ok hs).imq fun σ H R q => by
  obtain ⟨F, G, b, ρ, hr, ds, ρ', e, k⟩ := q
  obtain ⟨⟨ds1, ρ1⟩, e1, e⟩ := bind_some e
  refine ⟨F, G, b, ρ, hr, ds1, ρ1, e1, fun F1 H1 vs s1 c1 h1 dvs => ?_⟩
  match ds1, dvs, e with
  | [.list es], .cons (.lst ha hx) .nil, e =>
    cases e
    exact ⟨_, _, rfl, .of (h1.fh _ _ ha), k F1 H1 _ s1 c1 h1 (wk_enum ha hx)⟩⟩
def zipL : List D → List D → List D
  | a :: as, b :: bs => .tuple [a, b] :: zipL as bs
  | _, _ => []
theorem zipL_len : ∀ as bs : List D, (zipL as bs).length = min as.length bs.length
  | [], bs => by unfold zipL; simp
  | _ :: _, [] => by unfold zipL; simp
  | a :: as, b :: bs => by
    unfold zipL
    rw [List.length_cons, List.length_cons, List.length_cons, zipL_len as bs]
    omega
theorem zipL_get : ∀ (as bs : List D) (j : Nat) (d e : D), as[j]? = some d → bs[j]? = some e → (zipL as bs)[j]? = some (.tuple [d, e])
  | [], bs, j, d, e, h, _ => by simp at h
  | _ :: _, [], j, d, e, _, h => by simp at h
  | a :: as, b :: bs, 0, d, e, h, k => by
    cases h
    cases k
    rfl
  | a :: as, b :: bs, j + 1, d, e, h, k => by
    unfold zipL
    rw [List.getElem?_cons_succ]
    exact zipL_get as bs j d e (by simpa using h) (by simpa using k)
theorem wk_zip {K : Fr0} {F : Hp} {p q : Addr} {vs us : List V} {ds es : List D} (h : F p = some (.lst vs)) (a : Dvs F vs ds) (h' : F q = some (.lst us)) (a' : Dvs F us es) : Wk (Itz K p q) F (zipL ds es) := by
  refine ⟨fun i H hi s => ?_, fun H s => ⟨vs, us, .of (s _ _ h), .of (s _ _ h'), by rw [zipL_len, a.len, a'.len]; omega⟩, fun i F1 H x H' hi s1 s2 y => ?_⟩
  · rw [zipL_len] at hi
    have hv : i < vs.length := by rw [a.len]; omega
    have hu : i < us.length := by rw [a'.len]; omega
    exact ⟨vs, us, vs[i], us[i], .of (s _ _ h), .of (s _ _ h'), List.getElem?_eq_getElem hv, List.getElem?_eq_getElem hu⟩
  · rw [zipL_len] at hi
    have hd : i < ds.length := by omega
    have he : i < es.length := by omega
    obtain ⟨T, w, z, rfl, hT, rfl, y, y'⟩ := y
    obtain ⟨v, e1, dv⟩ := a.get (List.getElem?_eq_getElem hd)
    obtain ⟨v', e1', dv'⟩ := a'.get (List.getElem?_eq_getElem he)
    have e2 := y vs (.of (s2 _ _ (s1 _ _ h)))
    rw [e1] at e2
    cases e2
    have e3 := y' us (.of (s2 _ _ (s1 _ _ h')))
    rw [e1'] at e3
    cases e3
    exact ⟨_, _, zipL_get ds es i _ _ (List.getElem?_eq_getElem hd) (List.getElem?_eq_getElem he), post_tup s2 hT (dvs2 (dv.mono s1) (dv'.mono s1))⟩
def mZip (ms : MA) : MI := fun ρ => do
  let (ds, ρ1) ← ms ρ
  match ds with
  | [.list as, .list bs] => some (zipL as bs, ρ1)
  | _ => none
theorem mi_zip (hg : Gl X "zip") (hm : X.mg "zip" = none) (ha : MAs X [a, b] ms) (hs : starEach [a, b] X.env = (false, eval a X.env) :: starEach [b] X.env := by rfl) (hpl : (backTo pos (starEach [b] X.env)).any (·.1) = false := by rfl) :
    MIt X (.Tuple elts kk tpos) (.Call (.Name "zip" p) [a, b] [] pos) (mZip ms) := ⟨(pi_zip hg hm ha.ok hs hpl).imq fun σ H R q => by
  obtain ⟨F, G, b, ρ, hr, ds, ρ', e, k⟩ := q
  obtain ⟨⟨ds1, ρ1⟩, e1, e⟩ := bind_some e
  refine ⟨F, G, b, ρ, hr, ds1, ρ1, e1, fun F1 H1 vs s1 c1 h1 dvs => ?_⟩
  match ds1, dvs, e with
  | [.list as, .list bs], .cons (.lst ha hx) (.cons (.lst hb hy) .nil), e =>
    cases e
    exact ⟨_, _, _, _, rfl, .of (h1.fh _ _ ha), .of (h1.fh _ _ hb), k F1 H1 _ s1 c1 h1 (wk_zip ha hx hb hy)⟩⟩
end
end Mi
set_option Elab.async false
set_option linter.all false
set_option maxRecDepth 100000
/-! Core8: what the printed texts lean on. -/
namespace Mi
open PySem PySem.Spec PyProof.Rows L2
variable [KK]
/-- the def of a name keeps a promise, up to a level -/
def Cl (P : Program) (w : World) (mg : Str → Option Value) (base : Heap) (x : Str) (k : Nat) (sp : Sp) : Prop :=
  ∃ (f : Addr) (fd : FuncData) (ps : List Str), FnOk P w KK.K mg base CX0 k f fd ps sp ∧ mg x = some (.ref f) ∧ PySem.W.keepIn KK.K (.ref f) = true ∧ Binds KK.K fd ps []
section
variable {X : Cx} {e : Expr} {pos p : Pos} {es : List Expr} {ms : MA} {k : Nat} {x y : Str} {py : Pos} {i : Nat}
theorem me_callC {φ : List D → Option R} (c : Cl X.prog X.w X.mg X.base x k (spN φ)) (hr : Room k X.A) (hg : Gl X x)
    (ha : MAs X (e :: es) ms) (hK : X.K = KK.K := by rfl) (hdb : (x == ("__debug__" : Str)) = false := by decide) (he : starEach (e :: es) X.env = (false, eval e X.env) :: starEach es X.env := by rfl) (hpl : (backTo pos (starEach es X.env)).any (·.1) = false := by rfl) :
    ME X (.Call (.Name x p) (e :: es) [] pos) (mCall φ ms) := by
  obtain ⟨f, fd, ps, F, hm, hk, hb⟩ := c
  rw [← hK] at F hk hb
  exact me_call F hr hg hm hk hb ha hdb he hpl
theorem me_call0 {φ : List D → Option R} (c : Cl X.prog X.w X.mg X.base x k (spN φ)) (hr : Room k X.A) (hg : Gl X x) (hK : X.K = KK.K := by rfl) (hdb : (x == ("__debug__" : Str)) = false := by decide) :
    ME X (.Call (.Name x p) [] [] pos) (mCall φ aNil) := by
  obtain ⟨f, fd, ps, F, hm, hk, hb⟩ := c
  rw [← hK] at F hk hb
  exact ⟨(pe_call0 (dvs := []) F hr hg hm hk hb .nil pass0 hdb).imq fun σ H Q q => by
    obtain ⟨F0, G, b, ρ, hr0, r, ρ', e, k⟩ := q
    obtain ⟨⟨ds, ρ1⟩, e1, e⟩ := bind_some e
    cases e1
    obtain ⟨r1, e2, e⟩ := bind_some e
    cases e
    exact ⟨F0, [], r, hr0.fh, .nil, e2, fun F' H' v P => k F' H' v P.ff (P.cln hr0.gh) (P.rp hr0) (P.rs hr0)⟩⟩
theorem me_callIOC {φ : List D → List D → Option (R × List D)} (c : Cl X.prog X.w X.mg X.base x k (spIO φ)) (hr : Room k X.A) (hg : Gl X x)
    (hy : PE X (.Name y py) (tVar i)) (ha : MAs X es ms) (hK : X.K = KK.K := by rfl) (hdb : (x == ("__debug__" : Str)) = false := by decide) (he : starEach (.Name y py :: es) X.env = (false, eval (.Name y py) X.env) :: starEach es X.env := by rfl) (hpl : (backTo pos (starEach es X.env)).any (·.1) = false := by rfl) :
    ME X (.Call (.Name x p) (.Name y py :: es) [] pos) (mCallIO φ i ms) := by
  obtain ⟨f, fd, ps, F, hm, hk, hb⟩ := c
  rw [← hK] at F hk hb
  exact me_callIO F hr hg hm hk hb hy ha hdb he hpl
end
theorem hu64 {k : Nat} {A : Around} (hr : Room k A) : A.units + 64 < cLine := by
  have := hr.un
  omega
theorem hu65 {k : Nat} {A : Around} (hr : Room k A) : A.units + 65 < cLine := by
  have := hr.un
  omega
def runN (n p : Nat) (m : MS') (ds : List D) : Option R := if ds.length = p then (m (startE n ds)).bind fun x => outR x.1 else none
def ioR (ρ : En) (r : R) : Option (R × List D) := match (ρ[(0 : Nat)]? : Option M) with
  | some (.io ws') => some (r, ws')
  | _ => none
def runIO (n p : Nat) (m : MS') (ws ds : List D) : Option (R × List D) := if ds.length + 1 = p then (m (startIO n ws ds)).bind fun x => (outR x.1).bind fun r => ioR x.2 r else none
theorem bind_some' {α β : Type} {o : Option α} {f : α → Option β} {z : β} (h : o.bind f = some z) : ∃ a, o = some a ∧ f a = some z := bind_some h
theorem runN_ok {n p : Nat} {m : MS'} {N ps : List Str} (hn : N.length = n) (hp : ps.length = p) : ∀ ds r, runN n p m ds = some r → ds.length = ps.length ∧ ∃ o ρ', m (startE N.length ds) = some (o, ρ') ∧ outR o = some r := fun ds r h => by
  subst hn hp
  obtain ⟨hl, h⟩ := ite_some' h
  obtain ⟨⟨o, ρ'⟩, e1, e2⟩ := bind_some' h
  exact ⟨hl, o, ρ', e1, e2⟩
theorem runIO_ok {n p : Nat} {m : MS'} {N ps : List Str} (hn : N.length = n) (hp : ps.length = p) : ∀ ws ds r ws', runIO n p m ws ds = some (r, ws') → ds.length + 1 = ps.length ∧ ∃ o ρ', m (startIO N.length ws ds) = some (o, ρ') ∧ outR o = some r ∧ ρ'[0]? = some (.io ws') := fun ws ds r ws' h => by
  subst hn hp
  obtain ⟨hl, h⟩ := ite_some' h
  obtain ⟨⟨o, ρ'⟩, e1, e2⟩ := bind_some' h
  obtain ⟨r', e3, e4⟩ := bind_some' e2
  refine ⟨hl, o, ρ', e1, ?_⟩
  have e4 : ioR ρ' r' = some (r, ws') := e4
  unfold ioR at e4
  cases q : ρ'[0]? with
  | none => simp [q] at e4
  | some mm =>
    cases mm with
    | io xs => simp only [q] at e4; cases e4; exact ⟨e3, rfl⟩
    | no => simp [q] at e4
    | sh _ => simp [q] at e4
    | own _ => simp [q] at e4
section
variable {P : Program} {w : World} {K : Fr0} {mg : Str → Option Value} {base : Heap} {f : Addr} {fd : FuncData} {ps : List Str} {k : Nat}
theorem none_ok {φ : List D → Option R} (h : ∀ ds, φ ds = none) : FnOk P w K mg base CX0 k f fd ps (spN φ) := by
  have no : ∀ vs H Q E, ¬ spN φ vs H Q E := fun vs H Q E q => by
    obtain ⟨_, ds, r, _, _, e, _⟩ := q
    rw [h ds] at e
    cases e
  exact ⟨fun vs H Q E q => absurd q (no vs H Q E), fun A outer s H args us vs Q E hr he hb hv q => absurd q (no vs H Q E)⟩
theorem none_okIO {φ : List D → List D → Option (R × List D)} (h : ∀ ws ds, φ ws ds = none) : FnOk P w K mg base CX0 k f fd ps (spIO φ) := by
  have no : ∀ vs H Q E, ¬ spIO φ vs H Q E := fun vs H Q E q => by
    obtain ⟨_, _, _, ws, _, ds, r, _, _, _, _, _, _, _, e, _⟩ := q
    rw [h ws ds] at e
    cases e
  exact ⟨fun vs H Q E q => absurd q (no vs H Q E), fun A outer s H args us vs Q E hr he hb hv q => absurd q (no vs H Q E)⟩
end
end Mi
namespace Mi
open PySem PySem.Spec PyProof.Rows L2
/-- the law's own promise, from its plain function -/
theorem law_sp (kk : KK) {φ : List D → Option R} {H : Hp} {a : Addr} {ns : List Int} {E : XK} (hS : SqL kk.K H a (ns.map V.int)) (h : φ [frzD (ns.map .int)] = some (.sh (.bool true))) : @spN kk φ [.ref a] H (fun v _ => v = .bl true) E :=
  ⟨H, [frzD (ns.map .int)], .sh (.bool true), .refl H, .cons (.frz hS (@Dvs.of_ints kk H ns)) .nil, h, fun F' H' v P => by
    have q := @Post.res kk _ _ _ _ _ _ P
    cases (show @Dv kk F' v (.bool true) from q)
    rfl⟩
end Mi
set_option Elab.async false
set_option linter.all false
set_option maxRecDepth 100000
/-! Ev: the plain functions evaluated by simp, one combinator at a time, on slots that are written out. -/
namespace Mi
open PySem PySem.Spec PyProof.Rows L2

def bnd {α β : Type} (o : Option α) (f : α → Option β) : Option β := o.bind f
@[simp] theorem bnd_some {α β : Type} (a : α) (f : α → Option β) : bnd (some a) f = f a := (rfl)
@[simp] theorem bnd_none {α β : Type} (f : α → Option β) : bnd none f = none := (rfl)
@[simp] theorem bnd_ite {α β : Type} (c : Prop) [Decidable c] (a b : Option α) (f : α → Option β) : bnd (if c then a else b) f = if c then bnd a f else bnd b f := by
  split <;> rfl
def derefM : Option M → Option D
  | some (.own ds) => some (.list ds)
  | some (.io ds) => some (.list ds)
  | some (.sh d) => some d
  | _ => none
@[simp] theorem derefM_own (ds : List D) : derefM (some (.own ds)) = some (.list ds) := (rfl)
@[simp] theorem derefM_io (ds : List D) : derefM (some (.io ds)) = some (.list ds) := (rfl)
@[simp] theorem derefM_sh (d : D) : derefM (some (.sh d)) = some d := (rfl)
@[simp] theorem deref_sh (ρ : En) (d : D) : deref ρ (.sh d) = some d := (rfl)
@[simp] theorem deref_fr (ρ : En) (ds : List D) : deref ρ (.fr ds) = some (.list ds) := (rfl)
@[simp] theorem deref_bw (ρ : En) (i : Nat) : deref ρ (.bw i) = derefM ρ[i]? := by
  cases q : ρ[i]? with
  | none => simp [deref, q, derefM]
  | some m => cases m <;> simp [deref, q, derefM]
def contM : Option M → Option (List D)
  | some (.own ds) => some ds
  | some (.io ds) => some ds
  | _ => none
@[simp] theorem contM_own (ds : List D) : contM (some (.own ds)) = some ds := (rfl)
@[simp] theorem contM_io (ds : List D) : contM (some (.io ds)) = some ds := (rfl)
theorem contE_eq (ρ : En) (i : Nat) : contE ρ i = contM ρ[i]? := by
  unfold contE contM
  cases ρ[i]? with
  | none => rfl
  | some m => cases m <;> rfl
@[simp] theorem contE_c (e : M) (ρ : En) (i : Nat) : contE (e :: ρ) i = contM (e :: ρ)[i]? := contE_eq _ _
def putM : Option M → En → Nat → List D → En
  | some (.io _), ρ, i, ds => ρ.set i (.io ds)
  | _, ρ, i, ds => ρ.set i (.own ds)
@[simp] theorem putM_own (xs : List D) (ρ : En) (i : Nat) (ds : List D) : putM (some (.own xs)) ρ i ds = ρ.set i (.own ds) := (rfl)
@[simp] theorem putM_io (xs : List D) (ρ : En) (i : Nat) (ds : List D) : putM (some (.io xs)) ρ i ds = ρ.set i (.io ds) := (rfl)
@[simp] theorem putE_c (e : M) (ρ : En) (i : Nat) (ds : List D) : putE (e :: ρ) i ds = putM (e :: ρ)[i]? (e :: ρ) i ds := by
  unfold putE putM
  cases (e :: ρ)[i]? with
  | none => rfl
  | some m => cases m <;> rfl
def freeM : Option M → Bool
  | some (.io _) => false
  | some _ => true
  | none => false
@[simp] theorem freeM_no : freeM (some .no) = true := (rfl)
@[simp] theorem freeM_sh (d : D) : freeM (some (.sh d)) = true := (rfl)
@[simp] theorem freeM_own (d : List D) : freeM (some (.own d)) = true := (rfl)
@[simp] theorem free1_c (e : M) (ρ : En) (i : Nat) : free1 (e :: ρ) i = freeM (e :: ρ)[i]? := by
  unfold free1 freeM
  cases (e :: ρ)[i]? with
  | none => rfl
  | some m => cases m <;> rfl
def capM : Option M → En → Nat → Option (D × En)
  | some (.own ds), ρ, i => some (.list ds, ρ.set i (.sh (.list ds)))
  | some (.sh d), ρ, _ => some (d, ρ)
  | _, _, _ => none
@[simp] theorem capM_own (ds : List D) (ρ : En) (i : Nat) : capM (some (.own ds)) ρ i = some (.list ds, ρ.set i (.sh (.list ds))) := (rfl)
@[simp] theorem capM_sh (d : D) (ρ : En) (i : Nat) : capM (some (.sh d)) ρ i = some (d, ρ) := (rfl)
@[simp] theorem cap_sh (ρ : En) (d : D) : cap ρ (.sh d) = some (d, ρ) := (rfl)
@[simp] theorem cap_fr (ρ : En) (ds : List D) : cap ρ (.fr ds) = some (.list ds, ρ) := (rfl)
@[simp] theorem cap_bw (ρ : En) (i : Nat) : cap ρ (.bw i) = capM ρ[i]? ρ i := by
  cases q : ρ[i]? with
  | none => simp [cap, q, capM]
  | some m => cases m <;> simp [cap, q, capM]
@[simp] theorem asg_fr (ρ : En) (i : Nat) (ds : List D) : asg ρ i (.fr ds) = if free1 ρ i = true then some (ρ.set i (.own ds)) else none := (rfl)
@[simp] theorem asg_sh (ρ : En) (i : Nat) (d : D) : asg ρ i (.sh d) = if free1 ρ i = true then some (ρ.set i (.sh d)) else none := (rfl)
@[simp] theorem asg_bw (ρ : En) (i j : Nat) : asg ρ i (.bw j) = bnd (cap ρ (.bw j)) fun x => if free1 x.2 i = true then some (x.2.set i (.sh x.1)) else none := (rfl)
def retM : Option M → En → Nat → Option (R × En)
  | some (.own ds), ρ, i => some (.fr ds, ρ.set i .no)
  | some (.sh d), ρ, _ => some (.sh d, ρ)
  | _, _, _ => none
@[simp] theorem retM_own (ds : List D) (ρ : En) (i : Nat) : retM (some (.own ds)) ρ i = some (.fr ds, ρ.set i .no) := (rfl)
@[simp] theorem retM_sh (d : D) (ρ : En) (i : Nat) : retM (some (.sh d)) ρ i = some (.sh d, ρ) := (rfl)
@[simp] theorem retR_sh (ρ : En) (d : D) : retR ρ (.sh d) = some (.sh d, ρ) := (rfl)
@[simp] theorem retR_fr (ρ : En) (ds : List D) : retR ρ (.fr ds) = some (.fr ds, ρ) := (rfl)
@[simp] theorem retR_bw (ρ : En) (i : Nat) : retR ρ (.bw i) = retM ρ[i]? ρ i := by
  cases q : ρ[i]? with
  | none => simp [retR, q, retM]
  | some m => cases m <;> simp [retR, q, retM]
@[simp] theorem outR_nx : outR .nx = some (.sh .none) := (rfl)
@[simp] theorem outR_sh (d : D) : outR (.rt (.sh d)) = some (.sh d) := (rfl)
@[simp] theorem outR_fr (d : List D) : outR (.rt (.fr d)) = some (.fr d) := (rfl)
@[simp] theorem ioR_c (ws : List D) (ρ : En) (r : R) : ioR (.io ws :: ρ) r = some (r, ws) := (rfl)
/-! slots at a def's entry -/
@[simp] theorem startE_c (n : Nat) (d : D) (ds : List D) : startE (n + 1) (d :: ds) = .sh d :: startE n ds := by
  unfold startE
  rw [List.map_cons, List.length_cons, Nat.add_sub_add_right, List.cons_append]
@[simp] theorem startE_n (n : Nat) : startE (n + 1) [] = .no :: startE n [] := (rfl)
@[simp] theorem startE_0 : startE 0 [] = [] := (rfl)
@[simp] theorem startIO_c (n : Nat) (ws ds : List D) : startIO (n + 1) ws ds = .io ws :: startE n ds := (rfl)
theorem runN_eq {n p : Nat} {m : MS'} {ds : List D} (h : ds.length = p) : runN n p m ds = bnd (m (startE n ds)) fun x => outR x.1 := by
  unfold runN
  rw [if_pos h]
  rfl
theorem runIO_eq {n p : Nat} {m : MS'} {ws ds : List D} (h : ds.length + 1 = p) : runIO n p m ws ds = bnd (m (startIO n ws ds)) fun x => bnd (outR x.1) fun r => ioR x.2 r := by
  unfold runIO
  rw [if_pos h]
  rfl
/-! combinators -/
section
variable {f : D → D → Option R} {f1 : D → Option R} {g : D → D → Option Bool} {ma mb m mo : MR} {t u : MB} {e : M} {ρ : En} {ms : MA} {i : Nat} {d : D} {lo hi : MP}
def varM : Option M → Nat → En → Option (R × En)
  | some (.sh d), _, ρ => some (.sh d, ρ)
  | some (.own _), i, ρ => some (.bw i, ρ)
  | some (.io _), i, ρ => some (.bw i, ρ)
  | _, _, _ => none
@[simp] theorem varM_sh (i : Nat) (d : D) : varM (some (.sh d)) i ρ = some (.sh d, ρ) := (rfl)
@[simp] theorem varM_own (i : Nat) (d : List D) : varM (some (.own d)) i ρ = some (.bw i, ρ) := (rfl)
@[simp] theorem varM_io (i : Nat) (d : List D) : varM (some (.io d)) i ρ = some (.bw i, ρ) := (rfl)
@[simp] theorem mVar_c : mVar i (e :: ρ) = varM (e :: ρ)[i]? i (e :: ρ) := by
  unfold mVar varM
  cases (e :: ρ)[i]? with
  | none => rfl
  | some m => cases m <;> rfl
@[simp] theorem mC_c : mC d ρ = some (.sh d, ρ) := (rfl)
@[simp] theorem mBin_c : mBin f ma mb (e :: ρ) = bnd (ma (e :: ρ)) fun x => bnd (mb x.2) fun y => bnd (deref y.2 x.1) fun d1 => bnd (deref y.2 y.1) fun d2 => bnd (f d1 d2) fun k => some (k, y.2) := (rfl)
@[simp] theorem mUn_c : mUn f1 ma (e :: ρ) = bnd (ma (e :: ρ)) fun x => bnd (deref x.2 x.1) fun d1 => bnd (f1 d1) fun k => some (k, x.2) := (rfl)
@[simp] theorem mCmp_c : mCmp g ma mb (e :: ρ) = bnd (ma (e :: ρ)) fun x => bnd (mb x.2) fun y => bnd (deref y.2 x.1) fun d1 => bnd (deref y.2 y.1) fun d2 => bnd (g d1 d2) fun k => some (k, y.2) := (rfl)
@[simp] theorem mBV_c : mBV t (e :: ρ) = bnd (t (e :: ρ)) fun x => some (.sh (.bool x.1), x.2) := (rfl)
@[simp] theorem mTest_c : mTest m (e :: ρ) = bnd (m (e :: ρ)) fun x => bnd (deref x.2 x.1) fun d => bnd (truD d) fun k => some (k, x.2) := (rfl)
@[simp] theorem mAnd_c : mAnd t u (e :: ρ) = bnd (t (e :: ρ)) fun x => if x.1 = true then u x.2 else some (false, x.2) := (rfl)
@[simp] theorem mOr_c : mOr t u (e :: ρ) = bnd (t (e :: ρ)) fun x => if x.1 = true then some (true, x.2) else u x.2 := (rfl)
@[simp] theorem mNot_c : mNot t (e :: ρ) = bnd (t (e :: ρ)) fun x => some (!x.1, x.2) := (rfl)
@[simp] theorem mYes_c : mYes ρ = some (true, ρ) := (rfl)
def boolR : R → Option Bool
  | .sh (.bool b) => some b
  | _ => none
@[simp] theorem boolR_sh (b : Bool) : boolR (.sh (.bool b)) = some b := (rfl)
@[simp] theorem mAndV_c : mAndV ma mb (e :: ρ) = bnd (ma (e :: ρ)) fun x => bnd (boolR x.1) fun b => if b = true then mb x.2 else some (.sh (.bool false), x.2) := by
  show (ma (e :: ρ)).bind _ = (ma (e :: ρ)).bind _
  congr 1
  funext x
  obtain ⟨r, ρ1⟩ := x
  cases r with
  | sh d =>
    cases d with
    | bool b => cases b <;> rfl
    | _ => rfl
  | fr _ => rfl
  | bw _ => rfl
@[simp] theorem mOrV_c : mOrV ma mb (e :: ρ) = bnd (ma (e :: ρ)) fun x => bnd (boolR x.1) fun b => if b = true then some (.sh (.bool true), x.2) else mb x.2 := by
  show (ma (e :: ρ)).bind _ = (ma (e :: ρ)).bind _
  congr 1
  funext x
  obtain ⟨r, ρ1⟩ := x
  cases r with
  | sh d =>
    cases d with
    | bool b => cases b <;> rfl
    | _ => rfl
  | fr _ => rfl
  | bw _ => rfl
@[simp] theorem mNotV_c : mNotV ma (e :: ρ) = bnd (ma (e :: ρ)) fun x => bnd (boolR x.1) fun b => some (.sh (.bool (!b)), x.2) := by
  show (ma (e :: ρ)).bind _ = (ma (e :: ρ)).bind _
  congr 1
  funext x
  obtain ⟨r, ρ1⟩ := x
  cases r with
  | sh d =>
    cases d with
    | bool b => cases b <;> rfl
    | _ => rfl
  | fr _ => rfl
  | bw _ => rfl
@[simp] theorem mIf_c : mIf t ma mb (e :: ρ) = bnd (t (e :: ρ)) fun x => if x.1 = true then ma x.2 else mb x.2 := (rfl)
@[simp] theorem aNil_c : aNil ρ = some ([], ρ) := (rfl)
@[simp] theorem mCap_c : mCap m (e :: ρ) = bnd (m (e :: ρ)) fun x => cap x.2 x.1 := (rfl)
@[simp] theorem aCons_c : aCons m ms (e :: ρ) = bnd (mCap m (e :: ρ)) fun x => bnd (ms x.2) fun y => some (x.1 :: y.1, y.2) := (rfl)
@[simp] theorem mTup_c : mTup ms (e :: ρ) = bnd (ms (e :: ρ)) fun x => if x.1.length ≤ lim then some (.sh (.tuple x.1), x.2) else none := (rfl)
@[simp] theorem mLst_c : mLst ms (e :: ρ) = bnd (ms (e :: ρ)) fun x => if x.1.length ≤ lim then some (.fr x.1, x.2) else none := (rfl)
@[simp] theorem pNone_c : pNone ρ = some (none, ρ) := (rfl)
def intR : R → Option Int
  | .sh (.int i) => some i
  | _ => none
@[simp] theorem intR_sh (i : Int) : intR (.sh (.int i)) = some i := (rfl)
@[simp] theorem pSome_c : pSome m (e :: ρ) = bnd (m (e :: ρ)) fun x => bnd (intR x.1) fun i => some (some i, x.2) := by
  show (m (e :: ρ)).bind _ = (m (e :: ρ)).bind _
  congr 1
  funext x
  obtain ⟨r, ρ1⟩ := x
  cases r with
  | sh d => cases d <;> rfl
  | fr _ => rfl
  | bw _ => rfl
@[simp] theorem mSl_c : mSl m lo hi (e :: ρ) = bnd (m (e :: ρ)) fun x => bnd (lo x.2) fun l => bnd (hi l.2) fun h => bnd (deref h.2 x.1) fun d => bnd (slD d l.1 h.1) fun k => some (k, h.2) := (rfl)
variable {φ : List D → Option R} {φi : List D → List D → Option (R × List D)}
@[simp] theorem mCall_c : mCall φ ms (e :: ρ) = bnd (ms (e :: ρ)) fun x => bnd (φ x.1) fun r => some (r, x.2) := (rfl)
@[simp] theorem mCallIO_c : mCallIO φi i ms (e :: ρ) = bnd (contE (e :: ρ) i) fun _ => bnd (ms (e :: ρ)) fun x => bnd (contE x.2 i) fun ws => bnd (φi ws x.1) fun y => some (y.1, putE x.2 i y.2) := (rfl)
@[simp] theorem mAppend_c : mAppend i m (e :: ρ) = bnd (contE (e :: ρ) i) fun _ => bnd (mCap m (e :: ρ)) fun x => bnd (contE x.2 i) fun ds => if ds.length < lim then some (.sh .none, putE x.2 i (ds ++ [x.1])) else none := (rfl)
@[simp] theorem mPop_c : mPop i (e :: ρ) = bnd (contE (e :: ρ) i) fun ds => bnd ds[ds.length - 1]? fun d => some (.sh d, putE (e :: ρ) i ds.dropLast) := (rfl)
@[simp] theorem mPopAt_c : mPopAt i m (e :: ρ) = bnd (contE (e :: ρ) i) fun _ => bnd (m (e :: ρ)) fun x => bnd (intR x.1) fun z => bnd (contE x.2 i) fun ds => if i62 z = true then bnd (seqIndex? z ds.length) fun j => bnd ds[j]? fun d => some (.sh d, putE x.2 i (ds.eraseIdx j)) else none := by
  show (contE (e :: ρ) i).bind _ = (contE (e :: ρ) i).bind _
  congr 1
  funext _
  show (m (e :: ρ)).bind _ = (m (e :: ρ)).bind _
  congr 1
  funext x
  obtain ⟨r, ρ1⟩ := x
  cases r with
  | sh d => cases d <;> rfl
  | fr _ => rfl
  | bw _ => rfl
def listR : D → Option (List D)
  | .list ds => some ds
  | _ => none
@[simp] theorem listR_l (ds : List D) : listR (.list ds) = some ds := (rfl)
@[simp] theorem mExtend_c : mExtend i m (e :: ρ) = bnd (contE (e :: ρ) i) fun _ => bnd (m (e :: ρ)) fun x => bnd (deref x.2 x.1) fun d => bnd (listR d) fun es => bnd (contE x.2 i) fun ds => if ds.length + es.length ≤ lim then some (.sh .none, putE x.2 i (ds ++ es)) else none := by
  show (contE (e :: ρ) i).bind _ = (contE (e :: ρ) i).bind _
  congr 1
  funext _
  show (m (e :: ρ)).bind _ = (m (e :: ρ)).bind _
  congr 1
  funext x
  obtain ⟨r, ρ1⟩ := x
  show (deref ρ1 r).bind _ = (deref ρ1 r).bind _
  congr 1
  funext d
  cases d <;> rfl
@[simp] theorem mIsi_c {T : String} : mIsi T m (e :: ρ) = bnd (m (e :: ρ)) fun x => bnd (deref x.2 x.1) fun d => bnd (isiD T d) fun k => some (.sh (.bool k), x.2) := (rfl)
def strR : R → Option Str
  | .sh (.str a) => some a
  | _ => none
@[simp] theorem strR_s (a : Str) : strR (.sh (.str a)) = some a := (rfl)
@[simp] theorem mM1_c : mM1 f mo m (e :: ρ) = bnd (mo (e :: ρ)) fun x => bnd (strR x.1) fun a => bnd (m x.2) fun y => bnd (deref y.2 y.1) fun d => bnd (f (.str a) d) fun k => some (k, y.2) := by
  show (mo (e :: ρ)).bind _ = (mo (e :: ρ)).bind _
  congr 1
  funext x
  obtain ⟨r, ρ1⟩ := x
  cases r with
  | sh d => cases d <;> rfl
  | fr _ => rfl
  | bw _ => rfl
@[simp] theorem mIndex_c : mIndex ma mb (e :: ρ) = bnd (ma (e :: ρ)) fun x => bnd (deref x.2 x.1) fun d0 => bnd (listR d0) fun _ => bnd (mb x.2) fun y => bnd (deref y.2 x.1) fun d1 => bnd (deref y.2 y.1) fun d2 => bnd (indexD d1 d2) fun k => some (k, y.2) := by
  show (ma (e :: ρ)).bind _ = (ma (e :: ρ)).bind _
  congr 1
  funext x
  obtain ⟨r, ρ1⟩ := x
  show (deref ρ1 r).bind _ = (deref ρ1 r).bind _
  congr 1
  funext d
  cases d <;> rfl
/-! what is walked, targets -/
@[simp] theorem mIter_c : mIter m (e :: ρ) = bnd (mCap m (e :: ρ)) fun x => bnd (itemsD x.1) fun ds => some (ds, x.2) := (rfl)
@[simp] theorem itemsD_l (ds : List D) : itemsD (.list ds) = some ds := (rfl)
@[simp] theorem itemsD_t (ds : List D) : itemsD (.tuple ds) = some ds := (rfl)
@[simp] theorem itemsD_s (z : Str) : itemsD (.str z) = some (charsD z) := (rfl)
def range1 : List D → Option (List D)
  | [.int j] => if i62 j = true then some (rangeD 0 j) else none
  | _ => none
def range2 : List D → Option (List D)
  | [.int i, .int j] => if (i62 i && i62 j) = true then some (rangeD i j) else none
  | _ => none
@[simp] theorem range1_i (j : Int) : range1 [.int j] = if i62 j = true then some (rangeD 0 j) else none := (rfl)
@[simp] theorem range2_i (i j : Int) : range2 [.int i, .int j] = if (i62 i && i62 j) = true then some (rangeD i j) else none := (rfl)
theorem match1 {α : Type} {ρ1 : α} {ds : List D} : (match ds with
    | [.int j] => if i62 j = true then some (rangeD 0 j, ρ1) else none
    | _ => none) = bnd (range1 ds) fun xs => some (xs, ρ1) := by
  unfold range1
  split
  · split <;> rfl
  · rfl
theorem match2 {α : Type} {ρ1 : α} {ds : List D} : (match ds with
    | [.int i, .int j] => if (i62 i && i62 j) = true then some (rangeD i j, ρ1) else none
    | _ => none) = bnd (range2 ds) fun xs => some (xs, ρ1) := by
  unfold range2
  split
  · split <;> rfl
  · rfl
@[simp] theorem mRange1_c : mRange1 ms (e :: ρ) = bnd (ms (e :: ρ)) fun x => bnd (range1 x.1) fun ds => some (ds, x.2) := by
  show (ms (e :: ρ)).bind _ = (ms (e :: ρ)).bind _
  congr 1
  funext x
  exact match1
@[simp] theorem mRange2_c : mRange2 ms (e :: ρ) = bnd (ms (e :: ρ)) fun x => bnd (range2 x.1) fun ds => some (ds, x.2) := by
  show (ms (e :: ρ)).bind _ = (ms (e :: ρ)).bind _
  congr 1
  funext x
  exact match2
@[simp] theorem gNm_c : gNm i d (e :: ρ) = if free1 (e :: ρ) i = true then some ((e :: ρ).set i (.sh d)) else none := (rfl)
variable {gg : MG} {gs : MGs'} {n n1 n2 : MS'}
@[simp] theorem gTp_c (k : Nat) (ds : List D) : gTp k gs (.tuple ds) (e :: ρ) = if ds.length = k then gs ds (e :: ρ) else none := (rfl)
@[simp] theorem gNil_c : gNil' [] (e :: ρ) = some (e :: ρ) := (rfl)
@[simp] theorem gCons_c (r : List D) : gCons' gg gs (d :: r) (e :: ρ) = bnd (gg d (e :: ρ)) fun ρ1 => gs r ρ1 := (rfl)
/-! statements -/
@[simp] theorem sNil_c : sNil ρ = some (.nx, ρ) := (rfl)
@[simp] theorem sBrk_c : sBrk ρ = some (.bk, ρ) := (rfl)
@[simp] theorem sCont_c : sCont ρ = some (.ct, ρ) := (rfl)
def thenS (n2 : MS') : Out × En → Option (Out × En)
  | (.nx, ρ) => n2 ρ
  | x => some x
@[simp] theorem thenS_nx : thenS n2 (.nx, ρ) = n2 ρ := (rfl)
@[simp] theorem thenS_bk : thenS n2 (.bk, ρ) = some (.bk, ρ) := (rfl)
@[simp] theorem thenS_ct : thenS n2 (.ct, ρ) = some (.ct, ρ) := (rfl)
@[simp] theorem thenS_rt (r : R) : thenS n2 (.rt r, ρ) = some (.rt r, ρ) := (rfl)
@[simp] theorem sSeq_c : sSeq n1 n2 (e :: ρ) = bnd (n1 (e :: ρ)) (thenS n2) := by
  show (n1 (e :: ρ)).bind _ = (n1 (e :: ρ)).bind _
  congr 1
  funext x
  obtain ⟨o, ρ1⟩ := x
  cases o <;> rfl
@[simp] theorem sExpr_c : sExpr m (e :: ρ) = bnd (m (e :: ρ)) fun x => some (.nx, x.2) := (rfl)
@[simp] theorem sRet_c : sRet m (e :: ρ) = bnd (m (e :: ρ)) fun x => bnd (retR x.2 x.1) fun y => some (.rt y.1, y.2) := (rfl)
@[simp] theorem sRetN_c : sRetN ρ = some (.rt (.sh .none), ρ) := (rfl)
@[simp] theorem sIf_c : sIf t n1 n2 (e :: ρ) = bnd (t (e :: ρ)) fun x => if x.1 = true then n1 x.2 else n2 x.2 := (rfl)
@[simp] theorem sSet_c : sSet i m (e :: ρ) = bnd (m (e :: ρ)) fun x => bnd (asg x.2 i x.1) fun ρ2 => some (.nx, ρ2) := (rfl)
@[simp] theorem sAsg_c : sAsg gg m (e :: ρ) = bnd (mCap m (e :: ρ)) fun x => bnd (gg x.1 x.2) fun ρ2 => some (.nx, ρ2) := (rfl)
variable {it : MI}
@[simp] theorem sFor_c : sFor it gg n (e :: ρ) = bnd (it (e :: ρ)) fun x => forGo gg n x.1 x.2 := (rfl)
def dR : R → Option D
  | .sh d => some d
  | _ => none
@[simp] theorem dR_sh : dR (.sh d) = some d := (rfl)
@[simp] theorem sAug_c : sAug i f m (e :: ρ) = bnd (mVar i (e :: ρ)) fun x => bnd (dR x.1) fun d0 => bnd (m x.2) fun y => bnd (deref y.2 y.1) fun d1 => bnd (f d0 d1) fun k => bnd (asg y.2 i k) fun ρ2 => some (.nx, ρ2) := by
  show (mVar i (e :: ρ)).bind _ = (mVar i (e :: ρ)).bind _
  congr 1
  funext x
  obtain ⟨r, ρ1⟩ := x
  cases r <;> rfl
@[simp] theorem sPut_c {mi mv : MR} : sPut i mi mv (e :: ρ) = bnd (mCap mv (e :: ρ)) fun x => bnd (contE x.2 i) fun _ => bnd (mi x.2) fun y => bnd (intR y.1) fun z => bnd (contE y.2 i) fun ds => bnd (ixN ds.length z) fun j => some (.nx, putE y.2 i (ds.set j x.1)) := by
  show (mCap mv (e :: ρ)).bind _ = (mCap mv (e :: ρ)).bind _
  congr 1
  funext x
  obtain ⟨d, ρ1⟩ := x
  show (contE ρ1 i).bind _ = (contE ρ1 i).bind _
  congr 1
  funext _
  show (mi ρ1).bind _ = (mi ρ1).bind _
  congr 1
  funext y
  obtain ⟨r, ρ2⟩ := y
  cases r with
  | sh d => cases d <;> rfl
  | fr _ => rfl
  | bw _ => rfl
/-! loops -/
def forO (gg : MG) (n : MS') (ds : List D) : Out × En → Option (Out × En)
  | (.nx, ρ) => forGo gg n ds ρ
  | (.ct, ρ) => forGo gg n ds ρ
  | (.bk, ρ) => some (.nx, ρ)
  | (.rt r, ρ) => some (.rt r, ρ)
@[simp] theorem forO_nx (ds : List D) : forO gg n ds (.nx, ρ) = forGo gg n ds ρ := (rfl)
@[simp] theorem forO_ct (ds : List D) : forO gg n ds (.ct, ρ) = forGo gg n ds ρ := (rfl)
@[simp] theorem forO_bk (ds : List D) : forO gg n ds (.bk, ρ) = some (.nx, ρ) := (rfl)
@[simp] theorem forO_rt (ds : List D) (r : R) : forO gg n ds (.rt r, ρ) = some (.rt r, ρ) := (rfl)
@[simp] theorem forGo_nil : forGo gg n [] ρ = some (.nx, ρ) := (rfl)
@[simp] theorem forGo_cons (ds : List D) : forGo gg n (d :: ds) ρ = bnd (gg d ρ) fun ρ1 => bnd (n ρ1) (forO gg n ds) := by
  show (gg d ρ).bind _ = (gg d ρ).bind _
  congr 1
  funext ρ1
  show (n ρ1).bind _ = (n ρ1).bind _
  congr 1
  funext x
  obtain ⟨o, ρ2⟩ := x
  cases o <;> rfl
/-- a loop that goes through: an invariant over what is left and the slots -/
theorem for_inv {ds : List D} (I : List D → En → Prop) (h0 : I ds ρ) (hs : ∀ d r ρ, I (d :: r) ρ → ∃ ρ1 o ρ2, gg d ρ = some ρ1 ∧ n ρ1 = some (o, ρ2) ∧ (o = .nx ∨ o = .ct) ∧ I r ρ2) : ∃ ρ', forGo gg n ds ρ = some (.nx, ρ') ∧ I [] ρ' := by
  induction ds generalizing ρ with
  | nil => exact ⟨ρ, rfl, h0⟩
  | cons d r ih =>
    obtain ⟨ρ1, o, ρ2, e1, e2, ho, h⟩ := hs d r ρ h0
    obtain ⟨ρ', e, h'⟩ := ih h
    refine ⟨ρ', ?_, h'⟩
    rw [forGo_cons, e1, bnd_some, e2, bnd_some]
    rcases ho with rfl | rfl
    · rw [forO_nx, e]
    · rw [forO_ct, e]
/-- by a fold: what each turn makes of the slots -/
theorem for_fold {ds : List D} {α : Type} (S : α → En) (f : α → D → α) (hs : ∀ a d, d ∈ ds → ∃ ρ1, gg d (S a) = some ρ1 ∧ n ρ1 = some (.nx, S (f a d))) (a : α) : forGo gg n ds (S a) = some (.nx, S (ds.foldl f a)) := by
  induction ds generalizing a with
  | nil => rfl
  | cons d r ih =>
    obtain ⟨ρ1, e1, e2⟩ := hs a d List.mem_cons_self
    rw [forGo_cons, e1, bnd_some, e2, bnd_some, forO_nx, ih (fun a d h => hs a d (List.mem_cons_of_mem _ h))]
    rfl
def whO (t : MB) (n : MS') (f : Nat) : Out × En → Option (Out × En)
  | (.nx, ρ) => whGo t n f ρ
  | (.ct, ρ) => whGo t n f ρ
  | (.bk, ρ) => some (.nx, ρ)
  | (.rt r, ρ) => some (.rt r, ρ)
@[simp] theorem whO_nx (f : Nat) : whO t n f (.nx, ρ) = whGo t n f ρ := (rfl)
@[simp] theorem whO_ct (f : Nat) : whO t n f (.ct, ρ) = whGo t n f ρ := (rfl)
@[simp] theorem whO_bk (f : Nat) : whO t n f (.bk, ρ) = some (.nx, ρ) := (rfl)
@[simp] theorem whO_rt (f : Nat) (r : R) : whO t n f (.rt r, ρ) = some (.rt r, ρ) := (rfl)
theorem whGo_eq (f : Nat) : whGo t n (f + 1) ρ = bnd (t ρ) fun x => if x.1 = true then bnd (n x.2) (whO t n f) else some (.nx, x.2) := by
  show (t ρ).bind _ = (t ρ).bind _
  congr 1
  funext x
  obtain ⟨k, ρ1⟩ := x
  cases k with
  | false => rfl
  | true =>
    show (n ρ1).bind _ = (n ρ1).bind _
    congr 1
    funext y
    obtain ⟨o, ρ2⟩ := y
    cases o <;> rfl
@[simp] theorem sWhile_c (f : Nat) : sWhile f t n (e :: ρ) = whGo t n f (e :: ρ) := (rfl)
/-! comprehensions -/
/-- one turn: what is kept, the slots behind -/
def lcTurn (gg : MG) (t : MB) (el : MR) (vs : List Nat) (d : D) (ρ : En) : Option (Option D × En) :=
  bnd (gg d (wipeE ρ vs)) fun ρ1 => bnd (t ρ1) fun x => if x.1 = true then bnd (mCap el x.2) fun y => some (some y.1, backE ρ y.2 vs) else some (none, backE ρ x.2 vs)
theorem lcGo_cons {el : MR} {vs : List Nat} (ds acc : List D) : lcGo gg t el vs (d :: ds) ρ acc = bnd (lcTurn gg t el vs d ρ) fun x => match x.1 with
    | some y => if acc.length < lim then lcGo gg t el vs ds x.2 (acc ++ [y]) else none
    | none => lcGo gg t el vs ds x.2 acc := by
  unfold lcTurn
  show (gg d (wipeE ρ vs)).bind _ = ((gg d (wipeE ρ vs)).bind _).bind _
  rw [Option.bind_assoc]
  congr 1
  funext ρ1
  show (t ρ1).bind _ = ((t ρ1).bind _).bind _
  rw [Option.bind_assoc]
  congr 1
  funext x
  obtain ⟨k, ρ2⟩ := x
  cases k with
  | false => rfl
  | true =>
    show (mCap el ρ2).bind _ = ((mCap el ρ2).bind _).bind _
    rw [Option.bind_assoc]
    rfl
/-- a comprehension that changes nothing: what each item gives -/
theorem lc_pure {el : MR} {vs : List Nat} {ds : List D} (f : D → Option D) (hs : ∀ d ∈ ds, lcTurn gg t el vs d ρ = some (f d, ρ)) (acc : List D) (hl : acc.length + ds.length ≤ lim) : lcGo gg t el vs ds ρ acc = some (acc ++ ds.filterMap f, ρ) := by
  induction ds generalizing acc with
  | nil => simp [lcGo]
  | cons d r ih =>
    rw [List.length_cons] at hl
    rw [lcGo_cons, hs d List.mem_cons_self, bnd_some, List.filterMap_cons]
    cases q : f d with
    | none => exact ih (fun d h => hs d (List.mem_cons_of_mem _ h)) acc (by omega)
    | some y =>
      show (if acc.length < lim then _ else none) = _
      rw [if_pos (by omega), ih (fun d h => hs d (List.mem_cons_of_mem _ h)) (acc ++ [y]) (by rw [List.length_append, List.length_singleton]; omega), List.append_assoc]
      rfl
/-- one that may draw: an invariant of the slots, a fact of each item kept -/
theorem lc_inv {el : MR} {vs : List Nat} {ds : List D} (I : En → Prop) (Pt : D → Prop) (hs : ∀ d ∈ ds, ∀ ρ, I ρ → ∃ o ρ', lcTurn gg t el vs d ρ = some (o, ρ') ∧ I ρ' ∧ ∀ y, o = some y → Pt y) (h0 : I ρ) (acc : List D) (hl : acc.length + ds.length ≤ lim) :
    ∃ ys ρ', lcGo gg t el vs ds ρ acc = some (acc ++ ys, ρ') ∧ I ρ' ∧ (∀ y ∈ ys, Pt y) ∧ ys.length ≤ ds.length := by
  induction ds generalizing acc ρ with
  | nil => exact ⟨[], ρ, by simp [lcGo], h0, by simp, Nat.le_refl _⟩
  | cons d r ih =>
    rw [List.length_cons] at hl
    obtain ⟨o, ρ1, e, h1, hp⟩ := hs d List.mem_cons_self ρ h0
    rw [lcGo_cons, e, bnd_some]
    cases o with
    | none =>
      obtain ⟨ys, ρ', e', h', hy, hn⟩ := ih (fun d h => hs d (List.mem_cons_of_mem _ h)) h1 acc (by omega)
      exact ⟨ys, ρ', e', h', hy, by rw [List.length_cons]; omega⟩
    | some y =>
      obtain ⟨ys, ρ', e', h', hy, hn⟩ := ih (fun d h => hs d (List.mem_cons_of_mem _ h)) h1 (acc ++ [y]) (by rw [List.length_append, List.length_singleton]; omega)
      refine ⟨y :: ys, ρ', ?_, h', fun z hz => ?_, by rw [List.length_cons, List.length_cons]; omega⟩
      · show (if acc.length < lim then _ else none) = _
        rw [if_pos (by omega), e', List.append_assoc]
        rfl
      · rcases List.mem_cons.mp hz with rfl | hz
        · exact hp _ rfl
        · exact hy z hz
/-- .. that keeps every item -/
theorem lc_invA {el : MR} {vs : List Nat} {ds : List D} (I : En → Prop) (Pt : D → Prop) (hs : ∀ d ∈ ds, ∀ ρ, I ρ → ∃ y ρ', lcTurn gg t el vs d ρ = some (some y, ρ') ∧ I ρ' ∧ Pt y) (h0 : I ρ) (acc : List D) (hl : acc.length + ds.length ≤ lim) :
    ∃ ys ρ', lcGo gg t el vs ds ρ acc = some (acc ++ ys, ρ') ∧ I ρ' ∧ (∀ y ∈ ys, Pt y) ∧ ys.length = ds.length := by
  induction ds generalizing acc ρ with
  | nil => exact ⟨[], ρ, by simp [lcGo], h0, by simp, rfl⟩
  | cons d r ih =>
    rw [List.length_cons] at hl
    obtain ⟨y, ρ1, e, h1, hp⟩ := hs d List.mem_cons_self ρ h0
    rw [lcGo_cons, e, bnd_some]
    obtain ⟨ys, ρ', e', h', hy, hn⟩ := ih (fun d h => hs d (List.mem_cons_of_mem _ h)) h1 (acc ++ [y]) (by rw [List.length_append, List.length_singleton]; omega)
    refine ⟨y :: ys, ρ', ?_, h', fun z hz => ?_, by rw [List.length_cons, List.length_cons, hn]⟩
    · show (if acc.length < lim then _ else none) = _
      rw [if_pos (by omega), e', List.append_assoc]
      rfl
    · rcases List.mem_cons.mp hz with rfl | hz
      · exact hp
      · exact hy z hz
@[simp] theorem lcTurn_c {el : MR} {vs : List Nat} : lcTurn gg t el vs d (e :: ρ) = bnd (gg d (wipeE (e :: ρ) vs)) fun ρ1 => bnd (t ρ1) fun x => if x.1 = true then bnd (mCap el x.2) fun y => some (some y.1, backE (e :: ρ) y.2 vs) else some (none, backE (e :: ρ) x.2 vs) := (rfl)
@[simp] theorem mLc_c {el : MR} {vs : List Nat} : mLc it gg t el vs (e :: ρ) = bnd (it (e :: ρ)) fun x => if okW x.2 vs = true then bnd (lcGo gg t el vs x.1 x.2 []) fun y => some (.fr y.1, y.2) else none := (rfl)
@[simp] theorem wipeE_nil : wipeE ρ [] = ρ := (rfl)
@[simp] theorem wipeE_cons (v : Nat) (vs : List Nat) : wipeE ρ (v :: vs) = (wipeE ρ vs).set v .no := (rfl)
@[simp] theorem backE_nil (ρ1 : En) : backE ρ ρ1 [] = ρ1 := (rfl)
@[simp] theorem backE_cons (ρ1 : En) (v : Nat) (vs : List Nat) : backE ρ ρ1 (v :: vs) = (backE ρ ρ1 vs).set v (ρ.getD v .no) := (rfl)
def okM : Option M → Bool
  | some (.own _) => false
  | some (.io _) => false
  | _ => true
@[simp] theorem okM_no : okM (some .no) = true := (rfl)
@[simp] theorem okM_sh : okM (some (.sh d)) = true := (rfl)
@[simp] theorem okW_nil : okW ρ [] = true := (rfl)
@[simp] theorem okW_cons (v : Nat) (vs : List Nat) : okW ρ (v :: vs) = (okM ρ[v]? && okW ρ vs) := by
  unfold okW
  rw [List.all_cons]
  rfl
end
/-! ### operations on data -/
@[simp] theorem addD_i (a b : Int) : addD (.int a) (.int b) = some (.sh (.int (a + b))) := (rfl)
@[simp] theorem addD_s (a b : Str) : addD (.str a) (.str b) = if a.length + b.length ≤ lim then some (.sh (.str (a ++ b))) else none := (rfl)
@[simp] theorem addD_l (a b : List D) : addD (.list a) (.list b) = if a.length + b.length ≤ lim then some (.fr (a ++ b)) else none := (rfl)
@[simp] theorem addD_t (a b : List D) : addD (.tuple a) (.tuple b) = if a.length + b.length ≤ lim then some (.sh (.tuple (a ++ b))) else none := (rfl)
@[simp] theorem subD_i (a b : Int) : subD (.int a) (.int b) = some (.sh (.int (a - b))) := (rfl)
@[simp] theorem mulD_i (a b : Int) : mulD (.int a) (.int b) = if (i64 a || i64 b) = true then some (.sh (.int (a * b))) else none := (rfl)
@[simp] theorem mulD_l (a : List D) (k : Int) : mulD (.list a) (.int k) = if i62 k = true ∧ a.length * k.toNat ≤ lim then some (.fr (List.replicate k.toNat a).flatten) else none := (rfl)
@[simp] theorem divD_i (a b : Int) : divD (.int a) (.int b) = if 0 < b ∧ b < 2 ^ 64 then some (.sh (.int (a / b))) else none := (rfl)
@[simp] theorem modD_i (a b : Int) : modD (.int a) (.int b) = if 0 < b then some (.sh (.int (a % b))) else none := (rfl)
@[simp] theorem powD_i (a b : Int) : powD (.int a) (.int b) = if (i64 a = true ∧ 0 ≤ b ∧ b ≤ 1000) then some (.sh (.int (a ^ b.toNat))) else none := (rfl)
@[simp] theorem xorD_i (a b : Int) : xorD (.int a) (.int b) = some (.sh (.int (Builtin.bitXor a b))) := (rfl)
@[simp] theorem negD_i (a : Int) : negD (.int a) = some (.sh (.int (-a))) := (rfl)
@[simp] theorem eqD_i (a b : Int) : eqD (.int a) (.int b) = some (decide (a = b)) := (rfl)
@[simp] theorem eqD_s (a b : Str) : eqD (.str a) (.str b) = some (decide (a = b)) := (rfl)
@[simp] theorem neD_i (a b : Int) : neD (.int a) (.int b) = some (!decide (a = b)) := (rfl)
@[simp] theorem neD_s (a b : Str) : neD (.str a) (.str b) = some (!decide (a = b)) := (rfl)
@[simp] theorem ltD_i (a b : Int) : ltD (.int a) (.int b) = some (decide (a < b)) := (rfl)
@[simp] theorem gtD_i (a b : Int) : gtD (.int a) (.int b) = some (decide (b < a)) := (rfl)
@[simp] theorem leD_i (a b : Int) : leD (.int a) (.int b) = some (decide (a ≤ b)) := (rfl)
@[simp] theorem geD_i (a b : Int) : geD (.int a) (.int b) = some (decide (b ≤ a)) := (rfl)
@[simp] theorem isD_n (a : D) : isD a .none = some (noneD a) := by cases a <;> rfl
@[simp] theorem noneD_n : noneD .none = true := (rfl)
@[simp] theorem noneD_i (i : Int) : noneD (.int i) = false := (rfl)
@[simp] theorem noneD_s (i : Str) : noneD (.str i) = false := (rfl)
@[simp] theorem noneD_b (i : Bool) : noneD (.bool i) = false := (rfl)
@[simp] theorem noneD_l (i : List D) : noneD (.list i) = false := (rfl)
@[simp] theorem noneD_t (i : List D) : noneD (.tuple i) = false := (rfl)
@[simp] theorem ixD_l (a : List D) (i : Int) : ixD (.list a) (.int i) = (atI a i).map .sh := (rfl)
@[simp] theorem ixD_t (a : List D) (i : Int) : ixD (.tuple a) (.int i) = (atI a i).map .sh := (rfl)
@[simp] theorem ixD_s (z : Str) (i : Int) : ixD (.str z) (.int i) = if z.length ≤ lim then (atI z.cps.toList i).map fun c => .sh (.str ⟨#[c]⟩) else none := (rfl)
@[simp] theorem ixD_f (a : List D) (i : Int) : ixD (frzD a) (.int i) = (atI a i).map .sh := (rfl)
@[simp] theorem slD_l (a : List D) (l h : Option Int) : slD (.list a) l h = some (.fr (cutD a l h)) := (rfl)
@[simp] theorem slD_t (a : List D) (l h : Option Int) : slD (.tuple a) l h = some (.sh (.tuple (cutD a l h))) := (rfl)
@[simp] theorem slD_s (z : Str) (l h : Option Int) : slD (.str z) l h = if z.length ≤ lim then some (.sh (.str (cutS z l h))) else none := (rfl)
@[simp] theorem lenD_l (a : List D) : lenD (.list a) = some (.sh (.int a.length)) := (rfl)
@[simp] theorem lenD_t (a : List D) : lenD (.tuple a) = some (.sh (.int a.length)) := (rfl)
@[simp] theorem lenD_f (a : List D) : lenD (frzD a) = some (.sh (.int a.length)) := (rfl)
@[simp] theorem lenD_s (z : Str) : lenD (.str z) = if z.length ≤ lim then some (.sh (.int z.length)) else none := (rfl)
@[simp] theorem absD_i (i : Int) : absD (.int i) = some (.sh (.int (if i < 0 then -i else i))) := (rfl)
@[simp] theorem intD_i (i : Int) : intD (.int i) = some (.sh (.int i)) := (rfl)
@[simp] theorem intD_b (b : Bool) : intD (.bool b) = some (.sh (.int (if b then 1 else 0))) := (rfl)
@[simp] theorem max2D_i (i j : Int) : max2D (.int i) (.int j) = some (.sh (.int (if j > i then j else i))) := (rfl)
@[simp] theorem min2D_i (i j : Int) : min2D (.int i) (.int j) = some (.sh (.int (if j < i then j else i))) := (rfl)
theorem intsD_map' : ∀ ns : List Int, intsD (ns.map .int) = some ns
  | [] => rfl
  | n :: r => by
    show (intsD (r.map .int)).map (n :: ·) = _
    rw [intsD_map' r]
    rfl
theorem blsD_map' : ∀ ns : List Bool, blsD (ns.map .bool) = some ns
  | [] => rfl
  | n :: r => by
    show (blsD (r.map .bool)).map (n :: ·) = _
    rw [blsD_map' r]
    rfl
theorem strsD_map' : ∀ ns : List Str, strsD (ns.map .str) = some ns
  | [] => rfl
  | n :: r => by
    show (strsD (r.map .str)).map (n :: ·) = _
    rw [strsD_map' r]
    rfl
@[simp] theorem sumD_l (ns : List Int) : sumD (.list (ns.map .int)) = some (.sh (.int ns.sum)) := by
  show (intsD _).map _ = _
  rw [intsD_map']
  rfl
@[simp] theorem anyD_l (ns : List Bool) : anyD (.list (ns.map .bool)) = some (.sh (.bool (ns.any id))) := by
  show (blsD _).map _ = _
  rw [blsD_map']
  rfl
@[simp] theorem allD_l (ns : List Bool) : allD (.list (ns.map .bool)) = some (.sh (.bool (ns.all id))) := by
  show (blsD _).map _ = _
  rw [blsD_map']
  rfl
@[simp] theorem listD_l (ds : List D) : listD (.list ds) = some (.fr ds) := (rfl)
@[simp] theorem listD_t (ds : List D) : listD (.tuple ds) = some (.fr ds) := (rfl)
@[simp] theorem tupleD_l (ds : List D) : tupleD (.list ds) = some (.sh (.tuple ds)) := (rfl)
@[simp] theorem tupleD_t (ds : List D) : tupleD (.tuple ds) = some (.sh (.tuple ds)) := (rfl)
@[simp] theorem truD_b (b : Bool) : truD (.bool b) = some b := (rfl)
@[simp] theorem truD_i (i : Int) : truD (.int i) = some (i != 0) := (rfl)
@[simp] theorem truD_n : truD .none = some false := (rfl)
@[simp] theorem truD_l (ds : List D) : truD (.list ds) = some (!ds.isEmpty) := (rfl)
@[simp] theorem truD_t (ds : List D) : truD (.tuple ds) = some (!ds.isEmpty) := (rfl)
theorem i64_of {i : Int} (h1 : -(2 ^ 64) < i) (h2 : i < 2 ^ 64) : i64 i = true := by
  unfold i64
  rw [decide_eq_true h1, decide_eq_true h2]
  rfl
theorem i62_of {i : Int} (h1 : -(2 ^ 62) ≤ i) (h2 : i < 2 ^ 62) : i62 i = true := by
  unfold i62
  rw [decide_eq_true h1, decide_eq_true h2]
  rfl
theorem join_ok {a : Str} {ys : List Str} (h : (ys.map (·.length)).sum + ys.length * a.length ≤ lim) : joinD (.str a) (.list (ys.map .str)) = some (.sh (.str (Txt.join a ys))) := by
  show (strsD _).bind _ = _
  rw [strsD_map']
  show (if _ then _ else none) = _
  rw [if_pos h]
theorem atI_nat' {α : Type} (xs : List α) (n : Nat) : atI xs (n : Int) = xs[n]? := by
  unfold atI ixN
  rw [if_pos (by omega)]
  by_cases h : (n : Int) < xs.length
  · rw [if_pos h]
    simp
  · rw [if_neg h, List.getElem?_eq_none (by omega)]
    rfl
@[simp] theorem atI_0 {α : Type} (xs : List α) : atI xs 0 = xs[0]? := atI_nat' xs 0
@[simp] theorem atI_1 {α : Type} (xs : List α) : atI xs 1 = xs[1]? := atI_nat' xs 1
@[simp] theorem atI_2 {α : Type} (xs : List α) : atI xs 2 = xs[2]? := atI_nat' xs 2
@[simp] theorem atI_3 {α : Type} (xs : List α) : atI xs 3 = xs[3]? := atI_nat' xs 3
theorem atI_pos {α : Type} {xs : List α} {i : Int} (h : 0 ≤ i) : atI xs i = xs[i.toNat]? := by
  have := atI_nat' xs i.toNat
  rwa [Int.toNat_of_nonneg h] at this
@[simp] theorem atI_m1 {α : Type} (xs : List α) (x : α) : atI (xs ++ [x]) (-1) = some x := atI_last xs x
theorem atI_last? {α : Type} (xs : List α) : atI xs (-1) = xs.getLast? := by
  cases h : xs.getLast? with
  | none =>
    rw [List.getLast?_eq_none_iff] at h
    subst h
    rfl
  | some x =>
    rw [List.getLast?_eq_some_iff] at h
    obtain ⟨ys, rfl⟩ := h
    exact atI_last ys x
theorem ixN_nat' (n k : Nat) : ixN n (k : Int) = if k < n then some k else none := by
  unfold ixN
  rw [if_pos (by omega)]
  by_cases h : k < n
  · rw [if_pos (by omega), if_pos h]; simp
  · rw [if_neg (by omega), if_neg h]
@[simp] theorem ixN_0 (n : Nat) : ixN n 0 = if 0 < n then some 0 else none := ixN_nat' n 0
@[simp] theorem ixN_1 (n : Nat) : ixN n 1 = if 1 < n then some 1 else none := ixN_nat' n 1
@[simp] theorem ixN_2 (n : Nat) : ixN n 2 = if 2 < n then some 2 else none := ixN_nat' n 2
theorem i64_lit {i : Int} (h : (decide (-(2 ^ 64) < i) && decide (i < 2 ^ 64)) = true) : i64 i = true := h
/-- a slot that holds no list of its own -/
inductive Shy : M → Prop
  | no : Shy .no
  | sh (d : D) : Shy (.sh d)
theorem shy_free {m : M} (h : Shy m) : freeM (some m) = true := by cases h <;> rfl
theorem rangeL_mem {k : Int} : ∀ {lo : Int} {n : Nat}, k ∈ rangeL lo n → lo ≤ k ∧ k < lo + n
  | lo, 0, h => by simp [rangeL] at h
  | lo, n + 1, h => by
    unfold rangeL at h
    rcases List.mem_cons.mp h with rfl | h
    · omega
    · have := rangeL_mem (lo := lo + 1) h
      omega
theorem rangeD_mem {d : D} {lo hi : Int} (h : d ∈ rangeD lo hi) : ∃ k, d = .int k ∧ lo ≤ k ∧ k < hi := by
  unfold rangeD at h
  obtain ⟨k, hk, rfl⟩ := List.mem_map.mp h
  have := rangeL_mem hk
  exact ⟨k, rfl, by omega, by omega⟩
theorem rangeD_len (lo hi : Int) : (rangeD lo hi).length = (hi - lo).toNat := by
  unfold rangeD
  rw [List.length_map]
  induction (hi - lo).toNat generalizing lo with
  | zero => rfl
  | succ n ih => unfold rangeL; rw [List.length_cons, ih]
/-- a loop that goes through, by a count of its turns -/
theorem turns {S : Nat → En → Prop} {g : MG} {b : MS'} {ok : D → Prop} (L : Nat) (hs : ∀ n ρ d, ok d → S n ρ → n < L → ∃ ρ2, bnd (g d ρ) b = some (.nx, ρ2) ∧ S (n + 1) ρ2) {ds : List D} {n : Nat} {ρ : En} (hd : ∀ d ∈ ds, ok d) (h : S n ρ) (hl : n + ds.length ≤ L) : ∃ ρ', forGo g b ds ρ = some (.nx, ρ') ∧ S (n + ds.length) ρ' := by
  induction ds generalizing n ρ with
  | nil => exact ⟨ρ, rfl, h⟩
  | cons d r ih =>
    rw [List.length_cons] at hl
    obtain ⟨ρ2, e2, h2⟩ := hs n ρ d (hd d List.mem_cons_self) h (by omega)
    obtain ⟨ρ', e, h'⟩ := ih (fun d h => hd d (List.mem_cons_of_mem _ h)) h2 (by omega)
    refine ⟨ρ', ?_, by rw [List.length_cons]; rwa [show n + 1 + r.length = n + (r.length + 1) by omega] at h'⟩
    rw [forGo_cons]
    cases q : g d ρ with
    | none => rw [q] at e2; cases e2
    | some ρ1 =>
      rw [q, bnd_some] at e2
      rw [bnd_some, e2, bnd_some, forO_nx, e]
theorem kit_bool_str : kitB "bool" "str" = some false := by decide +kernel
@[simp] theorem isi_bool_str (b : Bool) : isiD "str" (.bool b) = some false := kit_bool_str
theorem kit_bool_int : kitB "bool" "int" = some true := by decide +kernel
@[simp] theorem isi_bool_int (b : Bool) : isiD "int" (.bool b) = some true := kit_bool_int
theorem kit_bool_bool : kitB "bool" "bool" = some true := by decide +kernel
@[simp] theorem isi_bool_bool (b : Bool) : isiD "bool" (.bool b) = some true := kit_bool_bool
theorem kit_bool_tuple : kitB "bool" "tuple" = some false := by decide +kernel
@[simp] theorem isi_bool_tuple (b : Bool) : isiD "tuple" (.bool b) = some false := kit_bool_tuple
theorem kit_bool_list : kitB "bool" "list" = some false := by decide +kernel
@[simp] theorem isi_bool_list (b : Bool) : isiD "list" (.bool b) = some false := kit_bool_list
theorem kit_int_str : kitB "int" "str" = some false := by decide +kernel
@[simp] theorem isi_int_str (i : Int) : isiD "str" (.int i) = some false := kit_int_str
theorem kit_int_int : kitB "int" "int" = some true := by decide +kernel
@[simp] theorem isi_int_int (i : Int) : isiD "int" (.int i) = some true := kit_int_int
theorem kit_int_bool : kitB "int" "bool" = some false := by decide +kernel
@[simp] theorem isi_int_bool (i : Int) : isiD "bool" (.int i) = some false := kit_int_bool
theorem kit_int_tuple : kitB "int" "tuple" = some false := by decide +kernel
@[simp] theorem isi_int_tuple (i : Int) : isiD "tuple" (.int i) = some false := kit_int_tuple
theorem kit_int_list : kitB "int" "list" = some false := by decide +kernel
@[simp] theorem isi_int_list (i : Int) : isiD "list" (.int i) = some false := kit_int_list
theorem kit_str_str : kitB "str" "str" = some true := by decide +kernel
@[simp] theorem isi_str_str (x : Str) : isiD "str" (.str x) = some true := kit_str_str
theorem kit_str_int : kitB "str" "int" = some false := by decide +kernel
@[simp] theorem isi_str_int (x : Str) : isiD "int" (.str x) = some false := kit_str_int
theorem kit_str_bool : kitB "str" "bool" = some false := by decide +kernel
@[simp] theorem isi_str_bool (x : Str) : isiD "bool" (.str x) = some false := kit_str_bool
theorem kit_str_tuple : kitB "str" "tuple" = some false := by decide +kernel
@[simp] theorem isi_str_tuple (x : Str) : isiD "tuple" (.str x) = some false := kit_str_tuple
theorem kit_str_list : kitB "str" "list" = some false := by decide +kernel
@[simp] theorem isi_str_list (x : Str) : isiD "list" (.str x) = some false := kit_str_list
theorem kit_list_str : kitB "list" "str" = some false := by decide +kernel
@[simp] theorem isi_list_str {ds : List D} (h : plainDs ds = true) : isiD "str" (.list ds) = some false := by
  unfold isiD
  rw [show plainD (.list ds) = plainDs ds from rfl, if_pos h]
  exact kit_list_str
theorem kit_list_int : kitB "list" "int" = some false := by decide +kernel
@[simp] theorem isi_list_int {ds : List D} (h : plainDs ds = true) : isiD "int" (.list ds) = some false := by
  unfold isiD
  rw [show plainD (.list ds) = plainDs ds from rfl, if_pos h]
  exact kit_list_int
theorem kit_list_bool : kitB "list" "bool" = some false := by decide +kernel
@[simp] theorem isi_list_bool {ds : List D} (h : plainDs ds = true) : isiD "bool" (.list ds) = some false := by
  unfold isiD
  rw [show plainD (.list ds) = plainDs ds from rfl, if_pos h]
  exact kit_list_bool
theorem kit_list_tuple : kitB "list" "tuple" = some false := by decide +kernel
@[simp] theorem isi_list_tuple {ds : List D} (h : plainDs ds = true) : isiD "tuple" (.list ds) = some false := by
  unfold isiD
  rw [show plainD (.list ds) = plainDs ds from rfl, if_pos h]
  exact kit_list_tuple
theorem kit_list_list : kitB "list" "list" = some true := by decide +kernel
@[simp] theorem isi_list_list {ds : List D} (h : plainDs ds = true) : isiD "list" (.list ds) = some true := by
  unfold isiD
  rw [show plainD (.list ds) = plainDs ds from rfl, if_pos h]
  exact kit_list_list
theorem kit_tuple_str : kitB "tuple" "str" = some false := by decide +kernel
@[simp] theorem isi_tuple_str {ds : List D} (h : plainDs ds = true) : isiD "str" (.tuple ds) = some false := by
  unfold isiD
  rw [show plainD (.tuple ds) = plainDs ds from rfl, if_pos h]
  exact kit_tuple_str
theorem kit_tuple_int : kitB "tuple" "int" = some false := by decide +kernel
@[simp] theorem isi_tuple_int {ds : List D} (h : plainDs ds = true) : isiD "int" (.tuple ds) = some false := by
  unfold isiD
  rw [show plainD (.tuple ds) = plainDs ds from rfl, if_pos h]
  exact kit_tuple_int
theorem kit_tuple_bool : kitB "tuple" "bool" = some false := by decide +kernel
@[simp] theorem isi_tuple_bool {ds : List D} (h : plainDs ds = true) : isiD "bool" (.tuple ds) = some false := by
  unfold isiD
  rw [show plainD (.tuple ds) = plainDs ds from rfl, if_pos h]
  exact kit_tuple_bool
theorem kit_tuple_tuple : kitB "tuple" "tuple" = some true := by decide +kernel
@[simp] theorem isi_tuple_tuple {ds : List D} (h : plainDs ds = true) : isiD "tuple" (.tuple ds) = some true := by
  unfold isiD
  rw [show plainD (.tuple ds) = plainDs ds from rfl, if_pos h]
  exact kit_tuple_tuple
theorem kit_tuple_list : kitB "tuple" "list" = some false := by decide +kernel
@[simp] theorem isi_tuple_list {ds : List D} (h : plainDs ds = true) : isiD "list" (.tuple ds) = some false := by
  unfold isiD
  rw [show plainD (.tuple ds) = plainDs ds from rfl, if_pos h]
  exact kit_tuple_list
@[simp] theorem isD_b (x y : Bool) : isD (.bool x) (.bool y) = some (x == y) := (rfl)
@[simp] theorem isD_i (x : Int) (y : Bool) : isD (.int x) (.bool y) = some false := (rfl)
@[simp] theorem isD_s (x : Str) (y : Bool) : isD (.str x) (.bool y) = some false := (rfl)
@[simp] theorem isD_l (x : List D) (y : Bool) : isD (.list x) (.bool y) = some false := (rfl)
@[simp] theorem isD_t (x : List D) (y : Bool) : isD (.tuple x) (.bool y) = some false := (rfl)
theorem reprD_i {i : Int} (h : i64 i = true) : reprD (.int i) = some (.sh (.str (toString i))) := by
  show (if i64 i = true then _ else none) = _
  rw [if_pos h]
theorem reprD_s {x : Str} (h : (reprText x).length ≤ lim) : reprD (.str x) = some (.sh (.str (reprText x))) := by
  show (if (reprText x).length ≤ lim then _ else none) = _
  rw [if_pos h]
end Mi
set_option Elab.async false
set_option linter.all false
set_option maxRecDepth 100000
/-! Lib: texts as lists of signs, sizes of repr, data that is compared, the least of data. -/
namespace Mi
open PySem PySem.Spec PyProof.Rows L2
open PySem.W (alike alikeAll dataLt AlikeAll minD maxD dataLt_ii minD_ints)

/-! ### texts as lists of signs -/
/-- the text of signs -/
def sS (l : List Nat) : Str := ⟨l.toArray⟩
theorem sS_of (x : Str) : sS x.cps.toList = x := rfl
@[simp] theorem sS_list (l : List Nat) : (sS l).cps.toList = l := (rfl)
@[simp] theorem sS_len (l : List Nat) : (sS l).length = l.length := by
  show l.toArray.size = _
  simp
@[simp] theorem sS_app (a b : List Nat) : sS a ++ sS b = sS (a ++ b) := by
  show (⟨a.toArray ++ b.toArray⟩ : Str) = ⟨(a ++ b).toArray⟩
  congr 1
  simp
@[simp] theorem sS_cut (l : List Nat) (lo hi : Option Int) : cutS (sS l) lo hi = sS (cutD l lo hi) := by
  unfold cutS cutD
  rw [sS_len, sS_list]
  rfl
theorem sS_inj {a b : List Nat} : sS a = sS b ↔ a = b := by
  constructor
  · intro h
    have := congrArg (fun s : Str => s.cps.toList) h
    simpa using this
  · rintro rfl; rfl
theorem cut_from {α : Type} (xs : List α) {i : Int} (h : 0 ≤ i) : cutD xs (some i) none = xs.drop i.toNat := by
  unfold cutD
  have e : HT.sIx xs.length 0 (some i) = min i.toNat xs.length := by
    show (if i < 0 then _ else min i.toNat xs.length) = _
    rw [if_neg (by omega)]
  rw [e, HT.sIx_none]
  by_cases hl : i.toNat ≤ xs.length
  · rw [Nat.min_eq_left hl, List.take_of_length_le (by rw [List.length_drop]; omega)]
  · rw [Nat.min_eq_right (by omega), List.drop_length, List.drop_eq_nil_of_le (by omega)]
    simp
theorem cut_to {α : Type} (xs : List α) {i : Int} (h : 0 ≤ i) : cutD xs none (some i) = xs.take i.toNat := by
  unfold cutD
  have e : HT.sIx xs.length xs.length (some i) = min i.toNat xs.length := by
    show (if i < 0 then _ else min i.toNat xs.length) = _
    rw [if_neg (by omega)]
  rw [e, HT.sIx_none]
  show (xs.drop 0).take _ = _
  rw [List.drop_zero, Nat.sub_zero]
  by_cases hl : i.toNat ≤ xs.length
  · rw [Nat.min_eq_left hl]
  · rw [Nat.min_eq_right (by omega), List.take_length, List.take_of_length_le (by omega)]
theorem cut_both {α : Type} (xs : List α) {i j : Int} (h : 0 ≤ i) (hj : 0 ≤ j) : cutD xs (some i) (some j) = (xs.take j.toNat).drop i.toNat := by
  unfold cutD
  have e : ∀ (d : Nat) (i : Int), 0 ≤ i → HT.sIx xs.length d (some i) = min i.toNat xs.length := fun d i h => by
    show (if i < 0 then _ else min i.toNat xs.length) = _
    rw [if_neg (by omega)]
  rw [e 0 i h, e _ j hj]
  apply List.ext_getElem?
  intro k
  rw [List.getElem?_take, List.getElem?_drop, List.getElem?_drop, List.getElem?_take]
  by_cases h1 : k < min j.toNat xs.length - min i.toNat xs.length
  · rw [if_pos h1, if_pos (by omega)]
    congr 1
    omega
  · rw [if_neg h1]
    by_cases h2 : i.toNat + k < j.toNat
    · rw [if_pos h2, List.getElem?_eq_none (by omega)]
    · rw [if_neg h2]
@[simp] theorem cut_all {α : Type} (xs : List α) : cutD xs none none = xs := by
  unfold cutD
  rw [HT.sIx_none, HT.sIx_none]
  simp
theorem sS_join (ls : List (List Nat)) : Txt.join (sS []) (ls.map sS) = sS ls.flatten := by
  rw [show Txt.join (sS []) (ls.map sS) = Str.join (sS []) (ls.map sS) from _root_.TL.join_eq _ _]
  induction ls with
  | nil => rfl
  | cons a r ih =>
    cases r with
    | nil => show sS a = sS [a].flatten; simp
    | cons b r =>
      show sS a ++ sS [] ++ Str.join (sS []) ((b :: r).map sS) = _
      rw [ih, sS_app, sS_app]
      simp
theorem join_empty : Str.ofString "" = sS [] := by decide +kernel

/-! ### the size of a text's repr -/
theorem digits_len (n : Nat) : ∀ k, n < 16 ^ (k + 1) → (Nat.toDigits 16 n).length ≤ k + 1 := fun k h => by
  exact (Nat.length_toDigits_le_iff (by decide) (by omega)).mpr h
theorem reprChar_len (q c : Nat) (h : c < 1114112) : (Builtin.Str.reprChar q c).length ≤ 10 := by
  unfold Builtin.Str.reprChar
  have d := digits_len c 7 (by omega)
  (repeat' split) <;> simp only [List.length_append, List.length_cons, List.length_nil, List.length_replicate, List.length_map] <;> omega
theorem repr_fold (q : Nat) : ∀ (l : List Nat) (acc : Array Nat), (∀ c ∈ l, c < 1114112) → (l.foldl (fun out c => out ++ (Builtin.Str.reprChar q c).toArray) acc).size ≤ acc.size + 10 * l.length
  | [], acc, _ => by simp
  | c :: r, acc, h => by
    have ih := repr_fold q r (acc ++ (Builtin.Str.reprChar q c).toArray) fun x hx => h x (List.mem_cons_of_mem _ hx)
    have hc := reprChar_len q c (h c List.mem_cons_self)
    rw [List.foldl_cons, List.length_cons]
    have e : (acc ++ (Builtin.Str.reprChar q c).toArray).size = acc.size + (Builtin.Str.reprChar q c).length := by simp
    rw [e] at ih
    omega
theorem repr_len (l : List Nat) (h : ∀ c ∈ l, c < 1114112) : (reprText (sS l)).length ≤ 2 + 10 * l.length := by
  unfold reprText
  show (Array.push _ _).size ≤ _
  rw [Array.size_push]
  have e : (sS l).cps.foldl (fun out c => out ++ (Builtin.Str.reprChar (reprQuote (sS l)) c).toArray) #[reprQuote (sS l)] = l.foldl (fun out c => out ++ (Builtin.Str.reprChar (reprQuote (sS l)) c).toArray) #[reprQuote (sS l)] := by
    rw [← Array.foldl_toList]
    rfl
  rw [e]
  have := repr_fold (reprQuote (sS l)) l #[reprQuote (sS l)] h
  have : (#[reprQuote (sS l)] : Array Nat).size = 1 := rfl
  omega

/-! ### data that is compared -/
theorem depth_le {k : Nat} : ∀ {ds : List D}, (∀ d ∈ ds, d.depth ≤ k) → PyData.depthAll ds ≤ k
  | [], _ => Nat.zero_le _
  | d :: ds, h => Nat.max_le.mpr ⟨h d List.mem_cons_self, depth_le fun x hx => h x (List.mem_cons_of_mem _ hx)⟩
theorem canLay_all : ∀ {ds : List D}, (∀ d ∈ ds, d.canLay0 = true) → PyData.canLayAll0 ds = true
  | [], _ => rfl
  | d :: ds, h => Bool.and_eq_true_iff.mpr ⟨h d List.mem_cons_self, canLay_all fun x hx => h x (List.mem_cons_of_mem _ hx)⟩
theorem plain_all : ∀ {ds : List D}, (∀ d ∈ ds, plainD d = true) → plainDs ds = true
  | [], _ => rfl
  | d :: ds, h => Bool.and_eq_true_iff.mpr ⟨h d List.mem_cons_self, plain_all fun x hx => h x (List.mem_cons_of_mem _ hx)⟩
theorem shaped_of {d : D} (h : d.canLay0 = true) (k : d.depth ≤ 64) : SeqAt.shaped d = true := Bool.and_eq_true_iff.mpr ⟨h, decide_eq_true k⟩
theorem shaped_ints (ns : List Int) : SeqAt.shaped (.list (ns.map .int)) = true :=
  shaped_of (canLay_all fun d hd => by obtain ⟨i, _, rfl⟩ := List.mem_map.mp hd; rfl) (by
    have : PyData.depthAll (ns.map PyData.int) ≤ 0 := depth_le (k := 0) fun d hd => by
      obtain ⟨i, _, rfl⟩ := List.mem_map.mp hd
      exact Nat.zero_le _
    show PyData.depthAll (ns.map PyData.int) + 1 ≤ 64
    omega)
theorem eqD_self {d : D} (h : SeqAt.shaped d = true) : eqD d d = some true := by
  unfold eqD
  split
  · simp_all
  · simp_all
  · rename_i h1 h2
    rw [if_pos ⟨h, h⟩, PySem.SeqAt.eqv_refl d (SeqAt.canLay_of_shaped h)]
theorem neD_self {d : D} (h : SeqAt.shaped d = true) : neD d d = some false := by
  unfold neD
  rw [eqD_self h]
  rfl
theorem plain_ints (ns : List Int) : plainDs (ns.map .int) = true := plain_all fun d hd => by
  obtain ⟨i, _, rfl⟩ := List.mem_map.mp hd
  rfl
/-- what may be compared for the least -/
theorem bestOk_of {ds : List D} (h1 : ∀ d ∈ ds, plainD d = true) (h2 : ∀ d ∈ ds, ∀ e ∈ ds, alike d e = true) (h3 : ∀ d ∈ ds, noneD d = false) (h4 : ∀ d ∈ ds, d.depth ≤ 60) : bestOk ds = true := by
  unfold bestOk alikeB
  rw [plain_all h1, decide_eq_true (depth_le h4)]
  have a : (ds.all fun x => ds.all fun y => alike x y) = true := List.all_eq_true.mpr fun x hx => List.all_eq_true.mpr fun y hy => h2 x hx y hy
  have b : (ds.all fun x => !noneD x) = true := List.all_eq_true.mpr fun x hx => by rw [h3 x hx]; rfl
  rw [a, b]
  rfl
theorem best_ints (ns : List Int) : bestOk (ns.map .int) = true := by
  have h : ∀ d ∈ ns.map PyData.int, ∃ i, d = .int i := fun d hd => by
    obtain ⟨i, _, rfl⟩ := List.mem_map.mp hd
    exact ⟨i, rfl⟩
  refine bestOk_of (fun d hd => ?_) (fun d hd e he => ?_) (fun d hd => ?_) (fun d hd => ?_)
  · obtain ⟨i, rfl⟩ := h d hd; rfl
  · obtain ⟨i, rfl⟩ := h d hd; obtain ⟨j, rfl⟩ := h e he; rfl
  · obtain ⟨i, rfl⟩ := h d hd; rfl
  · obtain ⟨i, rfl⟩ := h d hd; exact Nat.zero_le _
def pairD (p : Int × Int) : D := .tuple [.int p.1, .int p.2]
theorem best_pairs (ps : List (Int × Int)) : bestOk (ps.map pairD) = true := by
  have h : ∀ d ∈ ps.map pairD, ∃ i, d = pairD i := fun d hd => by
    obtain ⟨i, _, rfl⟩ := List.mem_map.mp hd
    exact ⟨i, rfl⟩
  refine bestOk_of (fun d hd => ?_) (fun d hd e he => ?_) (fun d hd => ?_) (fun d hd => ?_)
  · obtain ⟨i, rfl⟩ := h d hd; rfl
  · obtain ⟨i, rfl⟩ := h d hd; obtain ⟨j, rfl⟩ := h e he; rfl
  · obtain ⟨i, rfl⟩ := h d hd; rfl
  · obtain ⟨i, rfl⟩ := h d hd; exact (by decide : 1 ≤ 60)
theorem minLD_ints (n : Int) (ns : List Int) : minLD (.list (.int n :: ns.map .int)) = some (.sh (.int (ns.foldl min n))) := by
  show (if bestOk (.int n :: ns.map .int) = true then some (R.sh (minD (.int n) (ns.map .int))) else none) = _
  rw [if_pos (show bestOk (.int n :: ns.map .int) = true from best_ints (n :: ns)), minD_ints]
def ltP (p q : Int × Int) : Bool := decide (p.1 < q.1 ∨ (p.1 = q.1 ∧ p.2 < q.2))
def minP (p : Int × Int) (ps : List (Int × Int)) : Int × Int := ps.foldl (fun a y => if ltP y a then y else a) p
theorem minD_pairs (p : Int × Int) (ps : List (Int × Int)) : minD (pairD p) (ps.map pairD) = pairD (minP p ps) := by
  unfold minD minP
  induction ps generalizing p with
  | nil => rfl
  | cons q r ih =>
    rw [List.map_cons, List.foldl_cons, List.foldl_cons, ← ih]
    congr 1
    have e : dataLt (pairD q) (pairD p) = ltP q p := dataLt_ii q.1 q.2 p.1 p.2
    rw [e]
    split <;> rfl
theorem minLD_pairs (p : Int × Int) (ps : List (Int × Int)) : minLD (.list (pairD p :: ps.map pairD)) = some (.sh (pairD (minP p ps))) := by
  show (if bestOk (pairD p :: ps.map pairD) = true then some (R.sh (minD (pairD p) (ps.map pairD))) else none) = _
  rw [if_pos (show bestOk (pairD p :: ps.map pairD) = true from best_pairs (p :: ps)), minD_pairs]
end Mi
set_option Elab.async false
set_option linter.all false
set_option maxRecDepth 100000
/-! Core9: calls that only read, parallel stores, more methods, more subscripts. -/
namespace Mi
open PySem PySem.Spec PyProof.Rows L2
variable [KK]
section
variable {X : Cx} {e a b c tg : Expr} {pos p : Pos} {m ma mb mc : MR} {es : List Expr} {ms : MA} {k : Nat} {x y : Str} {t u : MB}

/-! ### arguments as they stand -/
abbrev ML := En → Option (List R × En)
def RsAll (F G H : Hp) (σ : L2.St) (ρ : En) : List V → List R → Prop
  | [], [] => True
  | v :: vs, r :: rs => RsOk F G H σ ρ v r ∧ RsAll F G H σ ρ vs rs
  | _, _ => False
def tML (m : ML) : TA := fun σ H Q => ∃ F G b ρ, Rp F G H b σ ρ ∧ ∃ rs ρ', m ρ = some (rs, ρ') ∧ ∀ F' H' vs, Same F F' → Cln F G F' → Rp F' G H' b σ ρ' → RsAll F' G H' σ ρ' vs rs → Q vs H'
structure MLs (X : Cx) (es : List Expr) (m : ML) : Prop where
  ok : PA X es (tML m)
def lNil : ML := fun ρ => some ([], ρ)
def lCons (m : MR) (ms : ML) : ML := fun ρ => do
  let (r, ρ1) ← m ρ
  let (rs, ρ2) ← ms ρ1
  some (r :: rs, ρ2)
theorem ml_nil : MLs X [] lNil := ⟨pa_nil.imq fun σ H Q q => by
  obtain ⟨F, G, b, ρ, hr, rs, ρ', e, k⟩ := q
  cases e
  exact k F H [] (.refl _) (.refl _ _) hr trivial⟩
theorem RsAll.less {F G G' H : Hp} {σ : L2.St} {ρ : En} (e : Same G G') : ∀ {vs : List V} {rs : List R}, RsAll F G' H σ ρ vs rs → RsAll F G H σ ρ vs rs
  | [], [], _ => trivial
  | v :: vs, r :: rs, h => ⟨h.1.less e, RsAll.less e h.2⟩
  | [], _ :: _, h => h
  | _ :: _, [], h => h
theorem ml_cons {ml : ML} (ha : ME X e m) (hr : MLs X es ml) (hs : starEach (e :: es) X.env = (false, eval e X.env) :: starEach es X.env := by rfl) : MLs X (e :: es) (lCons m ml) := ⟨(pa_cons ha.ok hr.ok hs).imq fun σ H Q q => by
  obtain ⟨F, G, b, ρ, hr, rs, ρ', e, k⟩ := q
  obtain ⟨⟨r1, ρ1⟩, e1, e⟩ := bind_some e
  obtain ⟨⟨rs2, ρ2⟩, e2, e⟩ := bind_some e
  cases e
  refine ⟨F, G, b, ρ, hr, r1, ρ1, e1, fun F1 H1 v1 s1 c1 h1 k1 => ?_⟩
  refine ⟨F1, guard G H1 v1 r1, b, ρ1, h1.guarded k1, rs2, _, e2, fun F2 H2 vs s2 c2 h2 k2 => ?_⟩
  have ge := guard_ge k1
  exact k F2 H2 (v1 :: vs) (s1.trans s2) (c1.trans (c2.less ge)) (h2.less ge) ⟨k1.keep s2 c2 h2, k2.less ge⟩⟩
def derefs (ρ : En) : List R → Option (List D)
  | [] => some []
  | r :: rs => do
    let d ← deref ρ r
    let ds ← derefs ρ rs
    some (d :: ds)
theorem RsAll.dvs {F G H : Hp} {b : Addr} {σ : L2.St} {ρ : En} (h : Rp F G H b σ ρ) : ∀ {vs : List V} {rs : List R} {ds : List D}, RsAll F G H σ ρ vs rs → derefs ρ rs = some ds → Dvs H vs ds
  | [], [], ds, _, e => by
    cases e
    exact .nil
  | v :: vs, r :: rs, ds, k, e => by
    obtain ⟨d, e1, e⟩ := bind_some e
    obtain ⟨ds2, e2, e⟩ := bind_some e
    cases e
    exact .cons ((k.1.bd h e1).dv h.fh) (RsAll.dvs h k.2 e2)
  | [], _ :: _, _, k, _ => False.elim k
  | _ :: _, [], _, k, _ => False.elim k
def flD : D → Bool
  | .none => true
  | .bool _ => true
  | .int _ => true
  | .str _ => true
  | _ => false
theorem fl_dv {F F' : Hp} {v : V} {d : D} (h : Dv F v d) (f : flD d = true) : Dv F' v d := by
  cases h with
  | non => exact .non
  | bl b => exact .bl b
  | int i => exact .int i
  | str x => exact .str x
  | lst _ _ => cases f
  | tup _ _ => cases f
  | frz _ _ => cases f
def flatR : R → Option R
  | .sh d => if flD d = true then some (.sh d) else none
  | _ => none
/-- a call that only reads: what is handed in stays as it was; the answer is flat -/
def mCallL (φ : List D → Option R) (ms : ML) : MR := fun ρ => do
  let (rs, ρ1) ← ms ρ
  let ds ← derefs ρ1 rs
  let r ← φ ds
  let r ← flatR r
  some (r, ρ1)
theorem me_callLC {φ : List D → Option R} {ml : ML} (c : Cl X.prog X.w X.mg X.base x k (spN φ)) (hr : Room k X.A) (hg : Gl X x)
    (ha : MLs X (e :: es) ml) (hK : X.K = KK.K := by rfl) (hdb : (x == ("__debug__" : Str)) = false := by decide) (he : starEach (e :: es) X.env = (false, eval e X.env) :: starEach es X.env := by rfl) (hpl : (backTo pos (starEach es X.env)).any (·.1) = false := by rfl) :
    ME X (.Call (.Name x p) (e :: es) [] pos) (mCallL φ ml) := by
  obtain ⟨f, fd, ps, F, hm, hk, hb⟩ := c
  rw [← hK] at F hk hb
  exact ⟨(pe_call (dvs := []) F hr hg hm hk hb .nil pass0 ha.ok hdb he hpl).imq fun σ H Q q => by
    obtain ⟨F0, G, b, ρ, hr0, r, ρ', e, k⟩ := q
    obtain ⟨⟨rs, ρ1⟩, e1, e⟩ := bind_some e
    obtain ⟨ds, e2, e⟩ := bind_some e
    obtain ⟨r1, e3, e⟩ := bind_some e
    obtain ⟨r2, e4, e⟩ := bind_some e
    cases e
    refine ⟨F0, G, b, ρ, hr0, rs, _, e1, fun F1 H1 vs s1 c1 h1 k1 => ?_⟩
    refine (show spN φ (vs ++ []) H1 Q E0 from ?_)
    rw [List.append_nil]
    refine ⟨H1, ds, r1, .refl _, k1.dvs h1 e2, e3, fun F' H' v P => ?_⟩
    have hP := P.res
    match r1, e4, hP with
    | .sh d, e4, hP =>
      obtain ⟨fl, e5⟩ := ite_some (show (if flD d = true then some (R.sh d) else none) = some r from e4)
      subst e5
      have g : Rp F1 G H' b σ ρ' := h1.grow (.refl _) P.hh (h1.fh.trans P.hh) fun i q o z => by
        obtain ⟨_, _, f, _⟩ := h1.own_some o z
        exact f
      exact k F1 H' v s1 c1 g (show Dv F1 v d from fl_dv (show Dv F' v d from hP) fl)⟩

/-! ### x, y = a, b -/
def sPar (i j : Nat) (ms : MA) : MS' := fun ρ => do
  let (ds, ρ1) ← ms ρ
  match ds with
  | [d1, d2] => if free1 ρ1 i = true then (if free1 (ρ1.set i (.sh d1)) j = true then some (.nx, (ρ1.set i (.sh d1)).set j (.sh d2)) else none) else none
  | _ => none
theorem ms_par {i j : Nat} {z : Str} {px py pt pt2 : Pos} {kt k2} (hc : X.calm = true) (hN : X.N.Nodup) (hi : X.N[i]? = some x) (hj : X.N[j]? = some z) (hij : i ≠ j)
    (hx : X.env.scope.names.lookup x = some .local) (hy : X.env.scope.names.lookup z = some .local) (ha : MAs X [a, b] ms)
    (hw : swappedStores [.Tuple [.Name x px, .Name z py] kt pt] (.Tuple [a, b] k2 pt2) X.env = pure (some [x, z]) := by rfl)
    (hs : swapsWithSole [.Tuple [.Name x px, .Name z py] kt pt] (.Tuple [a, b] k2 pt2) pos.line X.env = pure false := by rfl) :
    MSt X (.Assign [.Tuple [.Name x px, .Name z py] kt pt] (.Tuple [a, b] k2 pt2) pos) (sPar i j ms) := ⟨(ps_par hc hN hi hj hij hx hy ha.ok hw hs).imq fun D σ H q => by
  obtain ⟨F, G, b, ρ, hr, o, ρ', e, k⟩ := q
  obtain ⟨⟨ds, ρ1⟩, e1, e⟩ := bind_some e
  refine ⟨F, G, b, ρ, hr, ds, ρ1, e1, fun F1 H1 vs s1 c1 h1 dvs => ?_⟩
  match ds, vs, dvs, e with
  | [d1, d2], [v1, v2], .cons dv1 (.cons dv2 .nil), e =>
    obtain ⟨f1, e⟩ := ite_some' (show (if free1 ρ1 i = true then (if free1 (ρ1.set i (.sh d1)) j = true then some (Out.nx, (ρ1.set i (.sh d1)).set j (.sh d2)) else none) else none) = some (o, ρ') from e)
    obtain ⟨f2, e⟩ := ite_some e
    cases e
    exact ⟨v1, v2, rfl, k F1 H1 _ s1 c1 ((h1.setSh (free1_lt f1) dv1).setSh (free1_lt f2) dv2)⟩⟩

/-! ### ranges with a step of one down or up -/
def stepD (lo c : Int) (n : Nat) : List D := (List.range n).map fun i => .int (lo + (i : Nat) * c)
def range3 : List D → Option (List D)
  | [.int i, .int j, .int c] => if (i62 i && i62 j) = true then (if c = -1 then some (stepD i (-1) (i - j).toNat) else if (0 < c ∧ c < 1000000 ∧ Builtin.Range.small i j c = true ∧ Builtin.Range.rangeSize i j c = ((Builtin.Range.rangeSize i j c).toNat : Int)) then some (stepD i c (Builtin.Range.rangeSize i j c).toNat) else none) else none
  | _ => none
def mRange3 (ms : MA) : MI := fun ρ => do
  let (ds, ρ1) ← ms ρ
  let es ← range3 ds
  some (es, ρ1)
theorem stepD_get (lo c : Int) (n i : Nat) (h : i < n) : (stepD lo c n)[i]? = some (.int (lo + (i : Nat) * c)) := by
  unfold stepD
  rw [List.getElem?_map, List.getElem?_range h]
  rfl
theorem wk_step {F : Hp} {lo c : Int} {n : Nat} : Wk (Itc lo c n) F (stepD lo c n) := by
  have el : (stepD lo c n).length = n := by unfold stepD; rw [List.length_map, List.length_range]
  refine ⟨fun i H hi s => by rw [el] at hi; exact hi, fun H s => by rw [el]; exact Nat.le_refl _, fun i F1 H x H' hi s1 s2 y => ?_⟩
  obtain ⟨rfl, rfl⟩ := y
  rw [el] at hi
  exact ⟨F1, _, stepD_get lo c n i hi, post_sh s2 (.int _)⟩
theorem mi_range3 (hg : Gl X "range") (hm : X.mg "range" = none) (ha : MAs X [a, b, c] ms)
    (hs : starEach [a, b, c] X.env = (false, eval a X.env) :: starEach [b, c] X.env := by rfl) (hs2 : (backTo pos (starEach [b, c] X.env)).any (·.1) = false := by rfl) : MIt X tg (.Call (.Name "range" p) [a, b, c] [] pos) (mRange3 ms) := ⟨(pi_range3 hg hm ha.ok hs hs2).imq fun σ H R q => by
  obtain ⟨F, G, b', ρ, hr, ds, ρ', e, k⟩ := q
  obtain ⟨⟨ds1, ρ1⟩, e1, e⟩ := bind_some e
  obtain ⟨es, e2, e⟩ := bind_some e
  cases e
  refine ⟨F, G, b', ρ, hr, ds1, _, e1, fun F1 H1 vs s1 c1 h1 dvs => ?_⟩
  match ds1, dvs, e2 with
  | [.int i, .int j, .int z], .cons (.int _) (.cons (.int _) (.cons (.int _) .nil)), e =>
    obtain ⟨hj, e⟩ := ite_some' (show (if (i62 i && i62 j) = true then (if z = -1 then some (stepD i (-1) (i - j).toNat) else if (0 < z ∧ z < 1000000 ∧ Builtin.Range.small i j z = true ∧ Builtin.Range.rangeSize i j z = ((Builtin.Range.rangeSize i j z).toNat : Int)) then some (stepD i z (Builtin.Range.rangeSize i j z).toNat) else none) else none) = some ds from e)
    have hj := Bool.and_eq_true_iff.mp hj
    have b1 := i62_ok hj.1
    have b2 := i62_ok hj.2
    by_cases hz : z = -1
    · subst hz
      rw [if_pos rfl] at e
      cases e
      exact ⟨i, j, -1, _, rfl, RgC.neg b1.1 b1.2 b2.1 b2.2, k F1 H1 _ s1 c1 h1 wk_step⟩
    · rw [if_neg hz] at e
      obtain ⟨⟨z0, z1, z2, z3⟩, e⟩ := ite_some e
      cases e
      exact ⟨i, j, z, _, rfl, ⟨by omega, by omega, z2, z3⟩, k F1 H1 _ s1 c1 h1 wk_step⟩⟩

/-! ### text * number -/
def timesS (a : Str) (n : Int) : Str := if n < 1 then Str.empty else if (n == 1 || a.length == 0) = true then a else ⟨(List.replicate n.toNat a.cps).foldl (· ++ ·) #[]⟩
def mulSD : D → D → Option R
  | .str a, .int n => if 0 ≤ n ∧ n ≤ 1000000 ∧ a.length * n.toNat ≤ lim then some (.sh (.str (timesS a n))) else none
  | _, _ => none
def rMulS : R2 := fun x y H Q => ∃ a n, x = .str a ∧ y = .int n ∧ 0 ≤ n ∧ n ≤ 1000000 ∧ a.length * n.toNat ≤ lim ∧ Q (.str (timesS a n)) H
theorem op_mulS : OpR X (binaryOp .Mult) rMulS := by
  intro pins s σ H x y v u Q I rx ry h
  obtain ⟨a, n, rfl, rfl, h0, h1, h2, q⟩ := h
  obtain ⟨t, rfl⟩ := rx
  obtain ⟨t', rfl⟩ := ry
  have htl : Builtin.Str.tooLong (a.length * n.toNat) = false := by
    unfold Builtin.Str.tooLong
    have := lim_le h2
    exact decide_eq_false (by omega)
  refine P.mul_str (by rw [decide_eq_false (by omega), decide_eq_false (by omega)]; rfl) (fun h1 h2' => ?_) (fun _ _ => htl) ?_
  · intro z
    have hp : 0 < n := by omega
    have e : n = (n.toNat : Int) := by omega
    have h3 : ((a.length : Int) * n) ≤ 1000000 := by
      have h2' : a.length * n.toNat ≤ 1000000 := h2
      have h3' := Int.ofNat_le.mpr h2'
      rw [Int.natCast_mul, ← e] at h3'
      exact h3'
    have h4 : ((2 : Int) ^ 63 - 1) / n < (a.length : Int) := z
    have h5 := Int.lt_mul_of_ediv_lt hp h4
    omega
  · have e : (if n < 1 then Made.str Str.empty else if (n == 1 || a.length == 0) = true then Made.val (.str a t) else Made.str ⟨(List.replicate n.toNat a.cps).foldl (· ++ ·) #[]⟩) = Made.str (timesS a n) ∨ ((timesS a n) = a ∧ (if n < 1 then Made.str Str.empty else if (n == 1 || a.length == 0) = true then Made.val (.str a t) else Made.str ⟨(List.replicate n.toNat a.cps).foldl (· ++ ·) #[]⟩) = Made.val (.str a t)) := by
      unfold timesS
      split
      · exact .inl rfl
      · split
        · exact .inr ⟨rfl, rfl⟩
        · exact .inl rfl
    rcases e with e | ⟨e1, e2⟩
    · rw [e]
      have hfit : (timesS a n).length ≤ sizeLine := by
        unfold timesS
        split
        · exact Nat.zero_le _
        · split
          · by_cases hn : n = 1
            · subst hn
              have : a.length * 1 ≤ lim := h2
              exact lim_le (by omega)
            · have h0' : a.length = 0 := by
                rename_i hh
                rcases Bool.or_eq_true_iff.mp hh with z | z
                · exact absurd (eq_of_beq z) hn
                · exact eq_of_beq z
              rw [h0']
              exact Nat.zero_le _
          · exact fits_reps htl
      exact ⟨hfit, ⟨.str (timesS a n), H, I.tok _, ⟨_, rfl⟩, q⟩⟩
    · rw [e2]
      rw [e1] at q
      exact ⟨.str a, H, I, ⟨_, rfl⟩, q⟩
theorem bin_mulS : BinOk X .Mult mulSD := ⟨_, op_mulS, fun F H v1 v2 d1 d2 k s b1 b2 e Q q => by
  match d1, d2, e, b1, b2 with
  | .str a, .int n, e, b1, b2 =>
    obtain ⟨⟨h0, h1, h2⟩, e⟩ := ite_some (show (if 0 ≤ n ∧ n ≤ 1000000 ∧ a.length * n.toNat ≤ lim then some (R.sh (.str (timesS a n))) else none) = some k from e)
    subst e
    exact ⟨a, n, b1.str, b2.int, h0, h1, h2, q F H _ (post_sh s (.str _))⟩⟩

/-! ### startswith from a place, the place of a text in a text -/
def mStarts3 (mo ma mb : MR) : MR := fun ρ => do
  let (r0, ρ0) ← mo ρ
  let (r1, ρ1) ← ma ρ0
  let (r2, ρ2) ← mb ρ1
  match r0, r1, r2 with
  | .sh (.str a), .sh (.str b), .sh (.int i) => some (.sh (.bool (Txt.startswith3 a b i)), ρ2)
  | _, _, _ => none
theorem me_starts3 {apos cpos : Pos} (ho : ME X a ma) (he : ME X b mb) (hf : ME X c mc) (hbase : attributeBase a "startswith" X.env (eval a X.env) = eval a X.env := by rfl)
    (hfew : ((backTo cpos (starEach (b :: [c]) X.env)).all (fun x => !x.1) && (backToKw cpos (keywordEach [] X.env)).all (fun x => x.1.isSome)
      && decide ((b :: ([c] : List Expr)).length + ([] : List Keyword).length + (if ([] : List Keyword).isEmpty then 0 else 1) < 30)) = true := by rfl)
    (hline : (apos.endLine == cpos.line) = true := by rfl) (hs : starEach (b :: [c]) X.env = (false, eval b X.env) :: starEach [c] X.env := by rfl) (hs2 : starEach [c] X.env = (false, eval c X.env) :: starEach [] X.env := by rfl) (hplain : (backTo cpos (starEach [c] X.env)).any (·.1) = false := by rfl) :
    ME X (.Call (.Attribute a "startswith" apos) [b, c] [] cpos) (mStarts3 ma mb mc) :=
  ⟨(pe_bm PySem.F.plainAttrs_str PySem.F.slot_str_startswith PySem.F.type_str_startswith mt_startswith3 ho.ok (pa_cons he.ok (pa_cons hf.ok pa_nil hs2) hs) hbase hfew hline hs hplain).imq fun σ H Q q => by
    obtain ⟨F, G, b', ρ, hr, r, ρ', e, k⟩ := q
    obtain ⟨⟨r0, ρ0⟩, e0, e⟩ := bind_some e
    obtain ⟨⟨r1, ρ1⟩, e1, e⟩ := bind_some e
    obtain ⟨⟨r2, ρ2⟩, e2, e⟩ := bind_some e
    match r0, r1, r2, e0, e1, e2, e with
    | .sh (.str a), .sh (.str b), .sh (.int i), e0, e1, e2, e =>
      cases e
      refine ⟨F, G, b', ρ, hr, _, ρ0, e0, fun F0 H0 v0 s0 c0 h0 k0 => ?_⟩
      cases (show Dv F0 v0 (.str a) from k0)
      refine ⟨rfl, F0, G, b', ρ0, h0, _, ρ1, e1, fun F1 H1 v1 s1 c1 h1 k1 => ?_⟩
      cases (show Dv F1 v1 (.str b) from k1)
      refine ⟨F1, G, b', ρ1, h1, _, _, e2, fun F2 H2 v2 s2 c2 h2 k2 => ?_⟩
      cases (show Dv F2 v2 (.int i) from k2)
      exact ⟨a, b, i, rfl, rfl, k F2 H2 _ (s0.trans (s1.trans s2)) (c0.trans (c1.trans c2)) h2 (.bl _)⟩⟩
def sindexD : D → D → Option R
  | .str a, .str b => match Builtin.Str.occurrences a b 0 a.length 1 with
    | i :: _ => some (.sh (.int (i : Nat)))
    | [] => none
  | _, _ => none
theorem me_sindex {apos : Pos} (ho : ME X a ma) (he : ME X b mb) (hs : starEach [b] X.env = [(false, eval b X.env)] := by rfl) (hbase : attributeBase a "index" X.env (eval a X.env) = eval a X.env := by rfl) (hline : (apos.endLine == pos.line) = true := by rfl) :
    ME X (.Call (.Attribute a "index" apos) [b] [] pos) (mM1 sindexD ma mb) := ⟨(pe_m1 PySem.F.slot_str_index PySem.F.type_str_index mt_sindex ho.ok he.ok hs hbase hline).imq (tM_m1 fun F H v1 v2 d1 d2 k s b1 b2 e Q q => by
  match d1, d2, e, b1, b2 with
  | .str a, .str b, e, b1, b2 =>
    cases z : Builtin.Str.occurrences a b 0 a.length 1 with
    | nil =>
      have e' : (match Builtin.Str.occurrences a b 0 a.length 1 with
        | i :: _ => some (R.sh (.int (i : Nat)))
        | [] => none) = some k := e
      rw [z] at e'
      cases e'
    | cons i r =>
      have e' : (match Builtin.Str.occurrences a b 0 a.length 1 with
        | i :: _ => some (R.sh (.int (i : Nat)))
        | [] => none) = some k := e
      rw [z] at e'
      cases e'
      exact ⟨a, b, i, r, b1.str, by rw [b2.str], z, q F H _ (post_sh s (.int _))⟩)⟩

/-! ### a dict of the module, texts for texts -/
def assocS : List (Str × Str) → Str → Option Str
  | [], _ => none
  | p :: r, z => if z = p.1 then some p.2 else assocS r z
theorem assoc_all {P : Str → Str → Prop} : ∀ {L : List (Str × Str)} {z x : Str}, (∀ p ∈ L, P p.1 p.2) → assocS L z = some x → P z x
  | [], _, _, _, e => by cases e
  | p :: r, z, x, h, e => by
    unfold assocS at e
    by_cases hz : z = p.1
    · rw [if_pos hz] at e
      cases e
      rw [hz]
      exact h p List.mem_cons_self
    · rw [if_neg hz] at e
      exact assoc_all (fun q hq => h q (List.mem_cons_of_mem _ hq)) e
def kdD (L : List (Str × Str)) : D → Option R
  | .str z => (assocS L z).map fun x => .sh (.str x)
  | _ => none
def KdAt (K : Fr0) (w : World) (mg : Str → Option Value) (x : Str) (L : List (Str × Str)) : Prop := ∃ d, mg x = some (.ref d) ∧ ∀ p ∈ L, KDct K w d p.1 (.str p.2)
theorem me_kd {L : List (Str × Str)} (hd : KdAt KK.K X.w X.mg x L) (hg : Gl X x) (hb : ME X b mb) (hs : PlainIx b) (hK : X.K = KK.K := by rfl) (hdb : (x == ("__debug__" : Str)) = false := by decide) : ME X (.Subscript (.Name x p) b pos) (mUn (kdD L) mb) := by
  obtain ⟨d, hm, hk⟩ := hd
  rw [← hK] at hk
  refine ⟨(pe_ix ix_kdict (pe_glob (v := .ref d) hg hm rfl hdb) hb.ok hs).imq fun σ H Q q => ?_⟩
  obtain ⟨F, G, b, ρ, hr, r', ρ', e, k⟩ := q
  obtain ⟨⟨r1, ρ1⟩, e1, e⟩ := bind_some e
  obtain ⟨d1, e3, e⟩ := bind_some e
  obtain ⟨z, e5, e⟩ := bind_some e
  cases e
  refine (show tM mb σ H (fun y H2 => rIxD X.K X.w (.ref d) y H2 Q) from ⟨F, G, b, ρ, hr, r1, _, e1, fun F1 H1 v1 s1 c1 h1 k1 => ?_⟩)
  have bd := k1.bd h1 e3
  match d1, bd, e5 with
  | .str y, bd, e5 =>
    obtain ⟨x, e6, e7⟩ := map_some (show (assocS L y).map (fun x => R.sh (.str x)) = some r' from e5)
    subst e7
    exact ⟨d, y, .str x, rfl, bd.str, assoc_all (P := fun z x => KDct X.K X.w d z (.str x)) hk e6, k F1 H1 _ s1 c1 h1 (.str x)⟩

/-! ### chains of two comparisons -/
def mChain (f g : D → D → Option Bool) (ma mb mc : MR) : MB := fun ρ => do
  let (r1, ρ1) ← ma ρ
  let (r2, ρ2) ← mb ρ1
  match r1, r2 with
  | .sh (.int i), .sh (.int j) => do
    let k ← f (.int i) (.int j)
    if k = true then (do
      let (r3, ρ3) ← mc ρ2
      let d3 ← deref ρ3 r3
      let k2 ← g (.int j) d3
      some (k2, ρ3))
    else some (false, ρ2)
  | _, _ => none
theorem chain_read {r r' : R2} {f g : D → D → Option Bool} (o : Op2B r f) (o' : Op2B r' g) {σ : L2.St} {H : Hp} {Q : VK} (q : tMB (mChain f g ma mb mc) σ H fun k H' => Q (.bl k) H') : tChain r r' (tM ma) (tM mb) (tM mc) σ H Q := by
  obtain ⟨F, G, b, ρ, hr, z, ρ', e, k⟩ := q
  obtain ⟨⟨r1, ρ1⟩, e1, e⟩ := bind_some e
  obtain ⟨⟨r2, ρ2⟩, e2, e⟩ := bind_some e
  match r1, r2, e1, e2, e with
  | .sh (.int i), .sh (.int j), e1, e2, e =>
    obtain ⟨kk, e3, e⟩ := bind_some e
    refine ⟨F, G, b, ρ, hr, _, ρ1, e1, fun F1 H1 v1 s1 c1 h1 k1 => ?_⟩
    refine ⟨F1, G, b, ρ1, h1, _, ρ2, e2, fun F2 H2 v2 s2 c2 h2 k2 => ?_⟩
    have k1' : Dv F2 v1 (.int i) := Dv.mono s2 k1
    refine o F2 H2 v1 v2 _ _ _ h2.fh (.inl k1') (.inl k2) e3 _ ⟨_, rfl, ?_⟩
    cases kk with
    | false =>
      cases e
      exact k F2 H2 (s1.trans s2) (c1.trans c2) h2
    | true =>
      obtain ⟨⟨r3, ρ3⟩, e4, e⟩ := bind_some e
      obtain ⟨d3, e5, e⟩ := bind_some e
      obtain ⟨k2', e6, e⟩ := bind_some e
      cases e
      refine ⟨F2, G, b, ρ2, h2, r3, _, e4, fun F3 H3 v3 s3 c3 h3 k3 => ?_⟩
      exact o' F3 H3 v2 v3 _ _ _ h3.fh (.inl (Dv.mono s3 k2)) (k3.bd h3 e5) e6 _ (k F3 H3 (s1.trans (s2.trans s3)) (c1.trans (c2.trans c3)) h3)
theorem me_chain {op op' : CmpOp} {f g : D → D → Option Bool} (o : CmpOk X op f) (o' : CmpOk X op' g) (ha : ME X a ma) (hb : ME X b mb) (hc : ME X c mc)
    (hm : lastMarks [op, op'] [b, c] = false := by with_unfolding_all rfl) : ME X (.Compare a [op, op'] [b, c] pos) (mBV (mChain f g ma mb mc)) := by
  obtain ⟨r, h1, h2⟩ := o.ex
  obtain ⟨r', h1', h2'⟩ := o'.ex
  refine ⟨(pe_chain h1 h1' ha.ok hb.ok hc.ok hm).imq fun σ H Q q => chain_read h2 h2' ?_⟩
  obtain ⟨F, G, b, ρ, hr, z, ρ', e, k⟩ := q
  obtain ⟨⟨kk, ρ1⟩, e1, e⟩ := bind_some e
  cases e
  exact ⟨F, G, b, ρ, hr, kk, _, e1, fun F1 H1 s1 c1 h1 => k F1 H1 _ s1 c1 h1 (.bl kk)⟩
theorem mt_chain {op op' : CmpOp} {f g : D → D → Option Bool} (o : CmpOk X op f) (o' : CmpOk X op' g) (ha : ME X a ma) (hb : ME X b mb) (hc : ME X c mc)
    (hm : lastMarks [op, op'] [b, c] = false := by with_unfolding_all rfl) : MT X (.Compare a [op, op'] [b, c] pos) (mChain f g ma mb mc) := by
  obtain ⟨r, h1, h2⟩ := o.ex
  obtain ⟨r', h1', h2'⟩ := o'.ex
  exact ⟨(pt_chain h1 h1' ha.ok hb.ok hc.ok hm).imq fun σ H Q q => chain_read h2 h2' (by
    obtain ⟨F, G, b, ρ, hr, z, ρ', e, k⟩ := q
    exact ⟨F, G, b, ρ, hr, z, _, e, fun F1 H1 s1 c1 h1 => ⟨_, rfl, k F1 H1 s1 c1 h1⟩⟩)⟩

/-! ### xs[::-1] -/
def revSl : D → Option R
  | .list ds => some (.fr ds.reverse)
  | _ => none
theorem me_revL {e : Expr} {k0 : Nat} {p1 p2 p3 : Pos} (he : ME X e m) (hK : X.K = KK.K := by rfl) : ME X (.Subscript e (.Slice none none (some (.UnaryOp .USub (.Constant (.int 1) k0 p1) p2)) p3) pos) (mUn revSl m) := ⟨(pe_revL he.ok).imq fun σ H Q q => by
  obtain ⟨F, G, b, ρ, hr, r', ρ', e, k⟩ := q
  obtain ⟨⟨r1, ρ1⟩, e1, e⟩ := bind_some e
  obtain ⟨d1, e3, e⟩ := bind_some e
  obtain ⟨z, e5, e⟩ := bind_some e
  cases e
  refine ⟨F, G, b, ρ, hr, r1, _, e1, fun F1 H1 v1 s1 c1 h1 k1 => ?_⟩
  have bd := k1.bd h1 e3
  match d1, bd, e5 with
  | .list ds, bd, e5 =>
    cases e5
    obtain ⟨p0, vs, rfl, a0, x0⟩ := bd.list h1.fh
    refine ⟨p0, vs, rfl, .of a0, fun q hq => ?_⟩
    have P : Post F1 H1 (.fr ds.reverse) F1 (upd H1 q (.lst vs.reverse)) (.ref q) := post_fr h1.fh hq x0.rev
    exact k F1 _ _ (s1.trans P.ff) (c1.trans (P.cln h1.gh)) (P.rp h1) (P.rs h1)⟩
end
end Mi
set_option Elab.async false
set_option linter.all false
set_option maxRecDepth 100000
/-! Core10: list(reversed(xs)), xs[i] += e. -/
namespace Mi
open PySem PySem.Spec PyProof.Rows L2
section
variable {prog : Program} {w : World} {A : Around} {E : Value → Shared → Prop} {s : Shared}
/-- the list that list(it) has begun, filled from a reversed list -/
theorem fill_rev {R : Result → Shared → Prop} {S it l : Addr} {items : Array Value} (hh : A.handled = none) (ri : s.heap.IsRevIter it l ((items.size : Int) - 1)) (li : s.heap.IsList l items) (hne : l ≠ it) (hSi : S ≠ it) (hSl : S ≠ l) (hn : items.size ≤ sizeLine)
    (hS : s.heap.get? S = some { cls := .type "list", data := .seq #[] })
    (go : ∀ h' tk acc c', (∀ b o, b ≠ it → b ≠ S → s.heap.get? b = some o → h'.get? b = some o) → h'.get? S = some { cls := .type "list", dict := none, data := .seq acc c', slots := #[] } → ItemsOf (fun i v => items[items.size - 1 - i]? = some v) acc items.size → R (.ok (.ret .none)) { s with heap := h', toks := tk }) :
    wpAny (model prog w) A.in1 (Builtin.«list.__init__» ⟨[.ref S, .ref it], []⟩)
      (fun fin s' => match fin with | .done f => R (.ok f) s' | .again c' => c'.quiet = true ∧ codeAny (model prog w) A c' R s') (fun e s' => R (.error e) s') s := by
  have W := (Walks.listRev (prog := prog) (w := w) (A := A.in1) hh it l hne items).toS
  have hSf : S ∉ [it, l] := by
    rw [List.mem_cons, List.mem_singleton]
    exact not_or.mpr ⟨hSi, hSl⟩
  have same : Builtin.List.listSameRef (.ref S) (.ref it) = false := by simp [Builtin.List.listSameRef, hSi]
  show wpAny _ A.in1 (Builtin.List.listItems (.ref S) >>= fun old => Builtin.List.listUpdate (.ref S) (fun _ => #[]) >>= fun _ => letGo old.toList.reverse >>= fun _ => Builtin.List.listExtendWith (.ref S) (.ref it) .none) _ _ s
  refine wpAny_bind ?_
  unfold Builtin.List.listItems
  refine wpAny_bind (wpAny_seqItems hS rfl (wpAny_pure (wpAny_bind ?_)))
  show wpAny _ A.in1 (updateSeq S (fun _ => #[])) _ _ s
  refine wpAny_updateSeq hS rfl (wpAny_bind (wpAny_letGo ?_))
  have away : ∀ b o, b ≠ S → s.heap.get? b = some o → (s.heap.update S (Obj.mapSeq fun _ => (#[] : Array Value))).get? b = some o :=
    fun b o hb e => (Heap.get?_update_other _ _ (Ne.symm hb)).trans e
  have hS2 := Heap.get?_update_self (Obj.mapSeq (fun _ => (#[] : Array Value))) hS rfl
  have ri2 : (s.heap.update S (Obj.mapSeq fun _ => (#[] : Array Value))).IsRevIter it l ((items.size : Int) - 1) := ri.at fun o e => away _ o (Ne.symm hSi) e
  have li2 : (s.heap.update S (Obj.mapSeq fun _ => (#[] : Array Value))).IsList l items := li.at fun o e => away _ o (Ne.symm hSl) e
  generalize s.heap.update S (Obj.mapSeq fun _ => (#[] : Array Value)) = h2 at away hS2 ri2 li2 ⊢
  have ty : ({ s with heap := h2 } : Shared).TypeIs (.ref it) "list_reverseiterator" := Heap.IsRevIter.typeIs (s := { s with heap := h2 }) ri2
  unfold Builtin.List.listExtendWith
  refine wpAny_bind (wpAny_typeOf ty ?_)
  rw [if_neg (by rw [same]; decide)]
  refine wpAny_bind (wpAny_pyIter_revIter (s := { s with heap := h2 }) ri2 (wpAny_bind (wpAny_holding ?_)))
  unfold Builtin.List.listLengthHint
  refine wpAny_bind (wpAny_specialOf ty RT.nolen_lri ?_)
  show wpAny _ A.in1 (specialOf (Value.ref it) (Str.ofString "__length_hint__") >>= _) _ _ _
  refine wpAny_bind (wpAny_specialOf ty RT.hint_lri ?_)
  generalize hid : ("list_reverseiterator.__length_hint__" : String) = nm
  wp_delta
  rw [show splitId nm = some ("list_reverseiterator", "__length_hint__") from by subst hid; decide +kernel]
  subst hid
  refine wpAny_bind (wpAny_isInstance (b := true) ty (by rw [isSubtype_type]; kernel_rfl) (wpAny_pure ?_))
  rw [if_neg (by decide)]
  have e0 : ((items.size : Nat) : Int) - 1 - ((0 : Nat) : Int) = (items.size : Int) - 1 := by omega
  refine wpAny_pure ⟨plainId_quiet PySem.F.plain_extend_loop _, codeAny_extend_loopS W hn S hSf _ items.size 0 _ _ _ rfl (Nat.zero_le _) ⟨Nat.zero_le _, by rw [e0]; exact ri2, li2⟩ hS2 (ItemsOf.nil _) fun s' acc c' mv hS' ok => ?_⟩
  rw [Moved.eq_with mv]
  refine go s'.heap s'.toks acc c' (fun b o h1 h2 e => mv.heap b o (fun m => ?_) (away b o h2 e)) hS' ok
  rcases List.mem_cons.mp m with z | z
  · exact h2 z
  · exact h1 (List.mem_singleton.mp z)
theorem call_listRev {it l : Addr} {items : Array Value} {Q : Value → Shared → Prop} (hh : A.handled = none) (ri : s.heap.IsRevIter it l ((items.size : Int) - 1)) (li : s.heap.IsList l items) (hne : l ≠ it) (hn : items.size ≤ sizeLine)
    (hQ : ∀ h' tk acc c', (∀ b o, b ≠ it → s.heap.get? b = some o → h'.get? b = some o) → h'.get? s.heap.objs.size = some { cls := .type "list", dict := none, data := .seq acc c', slots := #[] } → ItemsOf (fun i v => items[items.size - 1 - i]? = some v) acc items.size → Q (.ref s.heap.objs.size) { s with heap := h', toks := tk }) :
    wpAny (model prog w) A (call (.type "list") [.ref it]) Q E s := by
  obtain ⟨oi, hoi, _⟩ := id ri
  obtain ⟨ol, hol, _⟩ := id li
  have n1 : s.heap.objs.size ≠ it := Nat.ne_of_gt (Heap.lt_size hoi)
  have n2 : s.heap.objs.size ≠ l := Nat.ne_of_gt (Heap.lt_size hol)
  refine callType_codes (Q₁ := fun obj s₁ => obj = .ref s.heap.objs.size ∧ s₁ = { s with heap := s.heap.push { cls := .type "list", data := .seq #[] } }) PySem.F.called_list (PySem.F.typeCall_list_1 _) PySem.F.entry_list_init (code_list_new _ ⟨rfl, rfl⟩) fun obj s₁ h₁ => ?_
  obtain ⟨rfl, rfl⟩ := h₁
  have hS : (s.heap.push { cls := .type "list", data := .seq #[] }).get? s.heap.objs.size = some { cls := .type "list", data := .seq #[] } := Heap.get?_push_size _ rfl
  refine ⟨⟨_, hS, rfl⟩, PySem.F.args_list_init_2 _ _, fill_rev (A := A.in1) (s := { s with heap := s.heap.push { cls := .type "list", data := .seq #[] } }) hh (ri.at fun o e => Heap.get?_push_of_some _ e) (li.push _) hne n1 n2 hn hS fun h' tk acc c' k hS' ok => ?_⟩
  exact ⟨rfl, hQ h' tk acc c' (fun b o hb e => k b o hb (Nat.ne_of_lt (Heap.lt_size e)) (Heap.get?_push_of_some _ e)) hS' ok⟩
end
section
variable [KK] {X : Cx} {e a b c tg : Expr} {pos p p2 pos2 : Pos} {m ma mb mc : MR} {x y : Str} {te : TE}
def tLstRev (K : Fr0) (te : TE) : TE := fun σ H Q => te σ H fun v H1 => ∃ (a : Addr) (xs : List V), v = .ref a ∧ SqL K H1 a xs ∧ ∀ q, H1 q = none → Q (.ref q) (upd H1 q (.lst xs.reverse))
theorem pe_lstRev (hc : X.calm = true) (hg : Gl X "list") (hm : X.mg "list" = none) (hg2 : Gl X "reversed") (hm2 : X.mg "reversed" = none) (he : PE X e te)
    (hs : starEach [e] X.env = (false, eval e X.env) :: starEach [] X.env)
    (hs2 : starEach [.Call (.Name "reversed" p2) [e] [] pos2] X.env = (false, eval (.Call (.Name "reversed" p2) [e] [] pos2) X.env) :: starEach [] X.env) :
    PE X (.Call (.Name "list" p) [.Call (.Name "reversed" p2) [e] [] pos2] [] pos) (tLstRev X.K te) := by
  refine ⟨fun pins s σ H Q I h => ?_⟩
  refine Call_ (ld_blt I hg hm boot_list (PyProof.Rows.callWith_type1 (args_cons (Call_ (ld_blt I hg2 hm2 PyProof.Rows.boot_reversed (PyProof.Rows.callWith_type1 (args_cons (thn (he.run pins s σ H _ I h) fun u s1 ⟨v, H1, I1, r1, q1⟩ => args_nil ?_) hs) hs rfl))) hs2) hs2 rfl))
  obtain ⟨a, xs, rfl, hq, q⟩ := q1
  obtain rfl : u = Value.ref a := r1
  obtain ⟨its, rv, pl, hz⟩ := I1.list hq
  refine call_reversed_list pl.isList (args_nil ?_)
  obtain ⟨f0, f1, f2, f3, f4, f5⟩ := I1.fpOk (H' := H1) (b := s1.heap.objs.size) (Nat.le_refl _) (I1.hok.fresh (Nat.le_refl _))
  have I2 : Inv X pins σ H1 { s1 with heap := s1.heap.push (revObj a ((its.toArray.size : Int) - 1)) } := I1.kept (t' := s1.toks) fun b o e => Heap.get?_push_of_some _ e
  have li := pl.isList
  obtain ⟨ol, hol, _⟩ := id li
  have hne : a ≠ s1.heap.objs.size := Nat.ne_of_lt (Heap.lt_size hol)
  have hn : its.toArray.size ≤ sizeLine := by rw [List.size_toArray, ← rv.length]; exact hz
  refine call_listRev (s := { s1 with heap := s1.heap.push (revObj a ((its.toArray.size : Int) - 1)) }) (I1.ok.hd hc) ⟨_, Heap.get?_push_size _ rfl, rfl, rfl⟩ (li.push _) hne hn fun h' tk acc c' hk hS hi => ?_
  have fr : H1 (s1.heap.push (revObj a ((its.toArray.size : Int) - 1))).objs.size = none := I2.hok.fresh (Nat.le_refl _)
  refine ⟨.ref (s1.heap.push (revObj a ((its.toArray.size : Int) - 1))).objs.size, upd H1 (s1.heap.push (revObj a ((its.toArray.size : Int) - 1))).objs.size (.lst xs.reverse), ?_, rfl, q _ fr⟩
  refine I2.turnedNew (t' := tk) (ch := [s1.heap.objs.size]) (fun b o hb e => hk b o (fun z => hb (by rw [z]; exact List.mem_singleton_self _)) e) (fun b hb => ?_) (Nat.le_refl _) ?_
  · rw [List.mem_singleton.mp hb]
    exact ⟨f0, f1, f2, f3, f4, f5⟩
  · exact (show ObjOk X.prog X.w _ _ _ (.lst xs.reverse) from ⟨by rw [List.length_reverse]; exact hz, acc.toList, c', RT.vals_rev rv hi, by rw [Array.toArray_toList]; exact hS⟩)
def revLD : D → Option R
  | .list ds => some (.fr ds.reverse)
  | _ => none
theorem me_listRev (hc : X.calm = true) (hg : Gl X "list") (hm : X.mg "list" = none) (hg2 : Gl X "reversed") (hm2 : X.mg "reversed" = none) (he : ME X e m)
    (hs : starEach [e] X.env = (false, eval e X.env) :: starEach [] X.env := by rfl)
    (hs2 : starEach [.Call (.Name "reversed" p2) [e] [] pos2] X.env = (false, eval (.Call (.Name "reversed" p2) [e] [] pos2) X.env) :: starEach [] X.env := by rfl) :
    ME X (.Call (.Name "list" p) [.Call (.Name "reversed" p2) [e] [] pos2] [] pos) (mUn revLD m) := ⟨(pe_lstRev hc hg hm hg2 hm2 he.ok hs hs2).imq fun σ H Q q => by
  obtain ⟨F, G, b, ρ, hr, r', ρ', e, k⟩ := q
  obtain ⟨⟨r1, ρ1⟩, e1, e⟩ := bind_some e
  obtain ⟨d1, e3, e⟩ := bind_some e
  obtain ⟨z, e5, e⟩ := bind_some e
  cases e
  refine ⟨F, G, b, ρ, hr, r1, _, e1, fun F1 H1 v1 s1 c1 h1 k1 => ?_⟩
  have bd := k1.bd h1 e3
  match d1, bd, e5 with
  | .list ds, bd, e5 =>
    cases e5
    obtain ⟨p0, vs, rfl, a0, x0⟩ := bd.list h1.fh
    refine ⟨p0, vs, rfl, .of a0, fun q hq => ?_⟩
    have P : Post F1 H1 (.fr ds.reverse) F1 (upd H1 q (.lst vs.reverse)) (.ref q) := post_fr h1.fh hq x0.rev
    exact k F1 _ _ (s1.trans P.ff) (c1.trans (P.cln h1.gh)) (P.rp h1) (P.rs h1)⟩

/-! ### xs[i] op= e -/
theorem get_list : PGet X (rIxL X.K) := by
  intro pins s σ H x y v u Q I rx ry h
  obtain ⟨p, xs, i, z, rfl, rfl, hq, he, q⟩ := h
  cases rx
  obtain ⟨t, rfl⟩ := ry
  obtain ⟨its, r, pl, hz⟩ := I.list hq
  obtain ⟨j, h1, h2, h3, h4, h5⟩ := atI_get he
  obtain ⟨w, ew, rw'⟩ := r.get h2
  have hl := r.length
  have hn := line63
  have fin : EP X pins σ Q w s := ⟨z, H, I, rw', q⟩
  by_cases h0 : 0 ≤ i
  · have hj : i.toNat = j := by
      rw [seqIndex_of h0 h5] at h1
      exact Option.some.inj h1
    exact wpAny_getItem_list pl.isList h0 (by omega) (by rw [hj]; simpa using ew) fin
  · have hj : (i + (its.toArray.size : Int)).toNat = j := by
      rw [seqIndex_neg (by omega) h4] at h1
      rw [List.size_toArray, ← hl]
      exact Option.some.inj h1
    exact wpAny_getItem_list_neg pl.isList (by omega) (by rw [List.size_toArray] <;> omega) (by omega) (by rw [hj]; simpa using ew) fin
def sAugS (i : Nat) (f : D → D → Option R) (mi mv : MR) : MS' := fun ρ => do
  let _ ← contE ρ i
  let (r, ρ1) ← mi ρ
  match r with
  | .sh (.int z) => do
    let ds0 ← contE ρ1 i
    let d0 ← atI ds0 z
    let (rv, ρ2) ← mv ρ1
    let dv ← deref ρ2 rv
    let k ← f d0 dv
    match k with
    | .sh d => do
      let ds ← contE ρ2 i
      let j ← ixN ds.length z
      some (.nx, putE ρ2 i (ds.set j d))
    | _ => none
  | _ => none
theorem ms_augS {i : Nat} {ei : Expr} {mi mv : MR} {op : Operator} {f : D → D → Option R} {py tpos : Pos} (o : AugOk X op f) (hy : PE X (.Name y py) (tVar i)) (hi : ME X ei mi) (he : ME X e mv)
    (ha : ∀ ov iv new, augStore ei ov iv new = (do holding [new, ov, iv] (setItem ov iv new); release [new, ov, iv] []; pure .next) := by intros; rfl) (hK : X.K = KK.K := by rfl) :
    MSt X (.AugAssign (.Subscript (.Name y py) ei tpos) op e pos) (sAugS i f mi mv) := by
  obtain ⟨r0, hp, hf⟩ := o.ex
  refine ⟨(ps_augS hy hi.ok get_list he.ok hp set_list ha).imq fun D σ H q => ?_⟩
  obtain ⟨F, G, b, ρ, hr, o, ρ', e, k⟩ := q
  obtain ⟨w0, e0, e⟩ := bind_some e
  obtain ⟨⟨r, ρ1⟩, e1, e⟩ := bind_some e
  obtain ⟨_, p0, vs0, es0, a0, _⟩ := cont_ok hr e0
  refine ⟨.ref p0, es0, F, G, b, ρ, hr, r, ρ1, e1, fun F1 H1 v1 s1 c1 h1 k1 => ?_⟩
  match r, k1, e with
  | .sh (.int z), k1, e =>
    cases (show Dv F1 v1 (.int z) from k1)
    obtain ⟨ds0, e2, e⟩ := bind_some e
    obtain ⟨d0, e3, e⟩ := bind_some e
    obtain ⟨⟨rv, ρ2⟩, e4, e⟩ := bind_some e
    obtain ⟨dv, e5, e⟩ := bind_some e
    obtain ⟨k0, e6, e⟩ := bind_some e
    obtain ⟨_, p1, vs1, es1, a1, x1, f1, g1⟩ := cont_ok h1 e2
    rw [es0] at es1
    cases es1
    obtain ⟨v0, ev0, dv0⟩ := at_dvs x1 e3
    refine ⟨p0, vs1, z, v0, rfl, rfl, .of a1, ev0, F1, G, b, ρ1, h1, rv, ρ2, e4, fun F2 H2 v2 s2 c2 h2 k2 => ?_⟩
    refine hf F2 H2 v0 v2 d0 dv k0 h2.fh (.inl (dv0.mono s2)) (k2.bd h2 e5) e6 _ fun F3 H3 v3 P => ?_
    match k0, e, P with
    | .sh d, e, P =>
      obtain ⟨ds, e7, e⟩ := bind_some e
      obtain ⟨j, e8, e⟩ := bind_some e
      cases e
      have h3 := P.rp h2
      obtain ⟨o4, p4, vs4, es4, a4, x4, f4, g4⟩ := cont_ok h3 e7
      rw [es0] at es4
      cases es4
      refine ⟨p0, vs4, z, j, rfl, rfl, a4, by rw [x4.len]; exact e8, ?_⟩
      exact k F3 _ σ (s1.trans (s2.trans P.ff)) (c1.trans (c2.trans (P.cln h2.gh))) (h3.put1 o4 es0 (x4.set j (show Dv F3 v3 d from P.res)))
end
end Mi
set_option Elab.async false
set_option linter.all false
set_option maxRecDepth 100000
/-! Core11: set comprehensions by a kit of sets, sorted({..}). -/
namespace Mi
open PySem PySem.Spec PyProof.Rows L2
/-- what a kind of set must give: its states, the empty one, how an item is put in -/
structure SetKit (P : Program) (w : World) (κ : Type) where
  obj : Addr → κ → HO
  k0 : κ
  step : κ → Hp → V → κ → Prop
  fresh : ∀ (H : Hp) (h : Heap) (D : Addr), h.get? D = some { cls := .type "set", dict := none, data := .set #[] 0 (.fresh 0 0 (!w.params.followText "set-order")) } → ObjOk P w H h D (obj D k0)
  add : ∀ (X : Cx) (pins : List (Addr × Obj)) (σ : L2.St) (H : Hp) (s : Shared) (E : Value → Shared → Prop) (D : Addr) (k k' : κ) (y : V) (v : Value) (Q : Value → Shared → Prop), X.prog = P → X.w = w → Inv X pins σ H s → H D = some (obj D k) → RelV y v → step k H y k' →
    (∀ s', Inv X pins σ (upd H D (obj D k')) s' → Q .none s') → wpAny (model P w) X.A (call (.builtin "set.add") [.ref D, v]) Q E s
section
variable {X : Cx} {κ : Type}
/-- {elt for tg in iter if ..}: D the new set -/
def tScK (K : SetKit X.prog X.w κ) (wi : TI) (g : TG) (tt : TT) (te : TE) (vs : List Nat) : TE := fun σ H Q => wi σ H fun J H1 => ∀ D, H1 D = none → ∃ W : Nat → Nat → Hp → Prop, (∃ m, W 0 m (upd H1 D (K.obj D K.k0))) ∧ ∀ i m H2, W i m H2 →
  ((J.stop i H2 ∧ Q (.ref D) H2) ∨ (J.go i H2 ∧ ∃ Nx : Hp → Prop, (∀ H', Nx H' → ∃ m', m' < m ∧ W (i + 1) m' H') ∧
    ∀ x H', J.yld i H2 x H' → g x (wipe σ vs) H' fun σ2 H3 => wipe σ2 vs = wipe σ vs ∧ tt σ2 H3 fun b H4 => if b = true then te σ2 H4 fun y H5 => ∃ (k k' : κ), H5 D = some (K.obj D k) ∧ K.step k H5 y k' ∧ Nx (upd H5 D (K.obj D k')) else Nx H4))
theorem pe_scK (K : SetKit X.prog X.w κ) {elt tg iter : Expr} {ifs : List Expr} {scope : Scope} {own : List (PySem.Str × Nat)} {pos : Pos} {wi : TI} {g : TG} {tt : TT} {te : TE} (hc : X.calm = true) (hN : X.N.Nodup) (hi : PI X tg iter wi) (ok : BlkOk X.N X.env.scope scope own)
    (hg : ∀ (s : Shared) (H : Hp) (C : Addr) (cl : List (PySem.Str × Addr)) (fp : List Addr), PG (X.blk s H scope (compEnvC scope cl C X.env) fp) tg g)
    (ht : ∀ (s : Shared) (H : Hp) (C : Addr) (cl : List (PySem.Str × Addr)) (fp : List Addr), PTs (X.blk s H scope (compEnvC scope cl C X.env) fp) ifs tt)
    (he : ∀ (s : Shared) (H : Hp) (C : Addr) (cl : List (PySem.Str × Addr)) (fp : List Addr), PE (X.blk s H scope (compEnvC scope cl C X.env) fp) elt te) (hs : ∀ x, foldedSetIterable iter X.env x = pure x := by intro _; rfl) :
    PE X (.SetComp elt [⟨tg, iter, ifs, 0⟩] scope pos) (tScK K wi g tt te (own.map (·.2))) := by
  refine ⟨fun pins s σ H Q I h => ?_⟩
  rw [PpSet.eval_SetComp]
  have free : ∀ y ∈ scope.names, y.2 = .free → ∃ c, X.env.cells.lookup y.1 = some c := fun y hy e => (ok.free y hy e).elim (fun k => I.ok.has _ (.inl k)) (fun k => I.ok.has _ (.inr k))
  refine wpAny_comprehension_free (use := none) rfl hs (closure_ok free) ok.kind (fun y hy e => by rw [ok.uniq y hy, e]) (thn (hi.run pins s σ H _ I h) fun xv s1 w1 => thn w1 fun itv s2 w2 => ?_)
  obtain ⟨it, fp, tn, J, H2, rfl, I2, T, st2, f2, q⟩ := w2
  refine PpSet.newSet_ok (newEnv_comp ?_)
  generalize hD : s2.heap.objs.size = D
  obtain ⟨W, ⟨m0, w0⟩, turn⟩ := q D (I2.hok.fresh (Nat.le_of_eq hD))
  have at2 : ∀ b ∈ fp, b < s2.heap.objs.size := fun b hb => let ⟨o, e, _⟩ := T.obj _ _ st2 b hb; Heap.lt_size e
  -- the new set stands
  generalize hs3 : ({ s2 with heap := s2.heap.push { cls := .type "set", dict := none, data := .set #[] 0 (.fresh 0 0 (!X.w.params.followText "set-order")) } } : Shared) = s3
  have heap3 : s3.heap = s2.heap.push { cls := .type "set", dict := none, data := .set #[] 0 (.fresh 0 0 (!X.w.params.followText "set-order")) } := by subst hs3; rfl
  have I3 : Inv X pins σ (upd H2 D (K.obj D K.k0)) s3 := by
    subst hs3
    exact I2.laid (t' := s2.toks) (fun b o e => Heap.get?_push_of_some _ e) (Nat.le_of_eq hD) (K.fresh _ _ _ (by rw [← hD]; exact Heap.get?_push_size _ rfl))
  have fp3 : ∀ b ∈ fp, FpOk X pins (upd H2 D (K.obj D K.k0)) b ∧ b < s3.heap.objs.size := fun b hb => by
    have lt := at2 b hb
    have ne : b ≠ D := by rw [← hD]; exact Nat.ne_of_lt lt
    exact ⟨⟨by rw [upd_ne ne]; exact (f2 b hb).1, (f2 b hb).2⟩, by rw [heap3, Heap.size_push]; exact Nat.lt_succ_of_lt lt⟩
  have st3 : tn 0 s3.heap := T.keep _ _ _ st2 fun b _ o e => by rw [heap3]; exact Heap.get?_push_of_some _ e
  have I4 := block_start I3 ok hN fp3
  have pg := hg s3 (upd H2 D (K.obj D K.k0)) s3.heap.objs.size (cellsFrom (s3.heap.objs.size + 1) scope.names (cloFrom X.env.cells scope.names [])) fp
  have pt := ht s3 (upd H2 D (K.obj D K.k0)) s3.heap.objs.size (cellsFrom (s3.heap.objs.size + 1) scope.names (cloFrom X.env.cells scope.names [])) fp
  have pe := he s3 (upd H2 D (K.obj D K.k0)) s3.heap.objs.size (cellsFrom (s3.heap.objs.size + 1) scope.names (cloFrom X.env.cells scope.names [])) fp
  show codeAny (model X.prog X.w) X.A (.compStart (.SetComp elt [⟨tg, iter, ifs, 0⟩] scope pos) 0 (.ref it) (.ref D) (compEnvC scope (cellsFrom (s3.heap.objs.size + 1) scope.names (cloFrom X.env.cells scope.names [])) s3.heap.objs.size X.env)) (compPost (model X.prog X.w) X.A X.xe none _ (.ref D) s3.heap.objs.size) { s3 with heap := pushCells (s3.heap.push { cls := .type "dict", data := .dict #[] }) scope.names }
  have no3 : ∀ b ∈ fp, (upd H2 D (K.obj D K.k0)) b = none := fun b hb => (fp3 b hb).1.1
  generalize hce : compEnvC scope (cellsFrom (s3.heap.objs.size + 1) scope.names (cloFrom X.env.cells scope.names [])) s3.heap.objs.size X.env = ce at I4 pg pt pe ⊢
  have locC : ce.locals = s3.heap.objs.size := by rw [← hce]; rfl
  generalize hH3 : upd H2 D (K.obj D K.k0) = H3 at I3 I4 pg pt pe w0 no3 fp3
  generalize hs4 : ({ s3 with heap := pushCells (s3.heap.push { cls := .type "dict", data := .dict #[] }) scope.names } : Shared) = s4 at I4 ⊢
  have st4 : tn 0 s4.heap := T.keep _ _ _ st3 fun b _ o e => by subst hs4; exact pushCells_keeps _ _ _ _ (Heap.get?_push_of_some _ e)
  have okFp : ∀ {σ' : L2.St} {H' : Hp} {s' : Shared}, Inv (X.blk s3 H3 scope ce fp) [] σ' H' s' → (∀ b ∈ fp, H' b = none) → ∀ b ∈ fp, FpOk (X.blk s3 H3 scope ce fp) [] H' b := fun {σ' H' s'} I' no b hb =>
    ⟨no b hb, (I'.ok.exf b hb).1, I'.ok.exfs b hb, .inl hb, fun x c e => (I'.ok.exf b hb).2 x c e, fun p hp => absurd (show p ∈ ([] : List (Addr × Obj)) ++ [] from hp) (by simp)⟩
  refine PpSet.codeAny_compStart_set ?run (T.self X.A 0 _ _ _ st4 ?run)
  refine PpSet.compLoopS_any (fun n s' => ∃ i H', Inv (X.blk s3 H3 scope ce fp) [] (wipe σ (own.map (·.2))) H' s' ∧ tn i s'.heap ∧ (∀ b ∈ fp, H' b = none) ∧ W i n H') ?_ m0 ⟨0, H3, I4, st4, no3, w0⟩
  rintro n s5 ⟨i, H5, I5, st5, no5, w5⟩
  rcases turn i n H5 w5 with ⟨stop, fin⟩ | ⟨go, Nx, hNx, each⟩
  · -- the end: back in the def
    refine thnF (T.done (X.blk s3 H3 scope ce fp) rfl rfl rfl hc i [] s5 _ H5 (fun _ _ => False) I5 (okFp I5 no5) st5 stop) fun r s6 ⟨hr, I6⟩ => ?_
    subst hr
    have I7 : Inv X pins σ H5 s6 := I3.call' (ch := fp) I6.os I6.base I6.hok I6.bare fun b hb => let z := (fp3 b hb).1.2; ⟨z.2.2.1, z.1, z.2.2.2.1, z.2.2.2.2⟩
    have noC : H5 s3.heap.objs.size = none := by rw [← locC]; exact I6.free
    obtain ⟨m, hn, _⟩ := I6.loc
    have hn' : s6.heap.Ns s3.heap.objs.size m := by rw [← locC]; exact hn
    obtain ⟨f0, f1, f2', f3, f4, f5⟩ := I3.fpOk (Nat.le_refl _) noC
    exact ⟨m, hn', fun h'' sb => ⟨.ref D, H5, I7.turned (t' := s6.toks) (fun b o hb e => (sb.2 b hb).trans e) f0 f1 f3 f4 f5, rfl, fin⟩⟩
  · refine thnF (T.item (X.blk s3 H3 scope ce fp) rfl rfl rfl hc i [] s5 _ H5 (fun _ _ => False) I5 (okFp I5 no5) st5 go) fun r s6 ⟨u, hr, w6⟩ => ?_
    subst hr
    refine thnF w6 fun _ s7 ⟨x, H7, I7, r7, y7, st7, no7⟩ => ?_
    have I7' := I7.pinned (okFp I7 no7) (T.obj _ _ st7)
    refine thnF (pg.run _ s7 _ H7 x u _ I7' r7 (each x H7 y7)) fun _ s8 ⟨σ8, H8, I8, wp8, q8⟩ => ?_
    refine thnF (pt.run _ s8 σ8 H8 _ I8 q8) fun b s9 ⟨H9, I9, q9⟩ => ?_
    have back : ∀ {s' : Shared} {H' : Hp}, Inv (X.blk s3 H3 scope ce fp) ([] ++ pinsAt fp s7.heap) σ8 H' s' → Nx H' → ∃ m, m < n ∧ ∃ i H', Inv (X.blk s3 H3 scope ce fp) [] (wipe σ (own.map (·.2))) H' s' ∧ tn i s'.heap ∧ (∀ b ∈ fp, H' b = none) ∧ W i m H' := by
      intro s' H' I' nx
      obtain ⟨m', lt, w'⟩ := hNx H' nx
      have pin : ∀ b ∈ fp, ∀ o, s7.heap.get? b = some o → s'.heap.get? b = some o ∧ H' b = none := fun b hb o e => by
        have z := I'.pin (b, o) (List.mem_append_right _ (List.mem_append_right _ (mem_pinsAt hb e)))
        exact ⟨z.1, z.2.1⟩
      have len : (wipe σ (own.map (·.2))).length = σ8.length := by rw [← wp8, wipe_length]
      refine ⟨m', lt, i + 1, H', (I'.unpinned (pins := [])).weak len (fun j v e => by rw [← wp8] at e; exact (wipe_some e).1), T.keep _ _ _ st7 fun b hb o e => (pin b hb o e).1, fun b hb => ?_, w'⟩
      obtain ⟨o, e, _⟩ := T.obj _ _ st7 b hb
      exact (pin b hb o e).2
    cases b with
    | false =>
      simp only [Bool.false_eq_true, if_false] at q9 ⊢
      exact back I9 q9
    | true =>
      simp only [if_true] at q9 ⊢
      refine thnF (pe.run _ s9 σ8 H9 _ I9 q9) fun z s10 ⟨yv, H10, I10, r10, k, k', hD10, hst, nx⟩ => ?_
      exact K.add (X.blk s3 H3 scope ce fp) _ _ _ _ _ _ _ _ _ _ _ rfl rfl I10 hD10 r10 hst fun s11 I11 => back I11 nx
end
/-! ### sets of whole numbers -/
def intKit (P : Program) (w : World) : SetKit P w ((Int → Bool) × Nat) where
  obj := fun D k => SetO w D k.1 k.2
  k0 := (fun _ => false, 0)
  step := fun k _ y k' => ∃ i, y = .int i ∧ k.2 + 1 < scanBound ∧ k' = (fun j => k.1 j || decide (j = i), if k.1 i = true then k.2 else k.2 + 1)
  fresh := fun H h D e => setO_new ⟨_, #[], 0, _, e, ⟨rfl, rfl, rfl⟩, rfl, (fun e he => by simp at he), (by simp), (fun k => by simp), (by decide), (by rfl), rfl, List.Pairwise.nil, by
    show _ ∨ (!w.params.followText "set-order") = true
    cases w.params.followText "set-order" <;> simp⟩
  add := fun X pins σ H s E D k k' y v Q hp hw I hD r st go => by
    subst hp
    subst hw
    obtain ⟨i, rfl, room, rfl⟩ := st
    obtain ⟨t, rfl⟩ := r
    refine setR_add (setO_get I hD) room fun h' sb new => ?_
    obtain ⟨o, ho⟩ : ∃ o, h'.get? D = some o := let ⟨o, _, _, _, ho, _⟩ := new; ⟨o, ho⟩
    exact go _ (I.write (e := D) (t' := s.toks + 1) (by rw [hD]; trivial) (.inl rfl) (fun b u hb hu => (sb.2 b hb).trans hu) ⟨o, ho⟩ (setO_new new))
/-! ### sorted({whole numbers}) -/
def ddI (ns : List Int) : List Int := ns.foldl (fun a k => if k ∈ a then a else a ++ [k]) []
theorem ddI_snoc (ns : List Int) (k : Int) : ddI (ns ++ [k]) = if k ∈ ddI ns then ddI ns else ddI ns ++ [k] := by
  unfold ddI
  rw [List.foldl_append]
  rfl
def insI (k : Int) : List Int → List Int
  | [] => [k]
  | x :: r => if k ≤ x then k :: x :: r else x :: insI k r
def sortI : List Int → List Int
  | [] => []
  | x :: r => insI x (sortI r)
def isortI (ns : List Int) : List Int := sortI ns
theorem insI_mem {k z : Int} : ∀ {l : List Int}, z ∈ insI k l ↔ z = k ∨ z ∈ l
  | [] => by simp [insI]
  | x :: r => by
    unfold insI
    split
    · simp
    · rw [List.mem_cons, insI_mem, List.mem_cons]
      constructor
      · rintro (h | h | h)
        · exact .inr (.inl h)
        · exact .inl h
        · exact .inr (.inr h)
      · rintro (h | h | h)
        · exact .inr (.inl h)
        · exact .inl h
        · exact .inr (.inr h)
theorem sortI_mem {z : Int} : ∀ {l : List Int}, z ∈ sortI l ↔ z ∈ l
  | [] => Iff.rfl
  | x :: r => by
    unfold sortI
    rw [insI_mem, sortI_mem, List.mem_cons]
theorem insI_lt {k : Int} : ∀ {l : List Int}, l.Pairwise (· < ·) → k ∉ l → (insI k l).Pairwise (· < ·)
  | [], _, _ => List.pairwise_singleton _ _
  | x :: r, h, hk => by
    have h1 : k ≠ x := fun e => hk (by rw [e]; exact List.mem_cons_self)
    have h2 : k ∉ r := fun e => hk (List.mem_cons_of_mem _ e)
    obtain ⟨h3, h4⟩ := List.pairwise_cons.mp h
    unfold insI
    split
    · refine List.pairwise_cons.mpr ⟨fun z hz => ?_, h⟩
      rcases List.mem_cons.mp hz with rfl | hz
      · omega
      · have := h3 z hz; omega
    · refine List.pairwise_cons.mpr ⟨fun z hz => ?_, insI_lt h4 h2⟩
      rcases insI_mem.mp hz with rfl | hz
      · omega
      · exact h3 z hz
theorem sortI_lt : ∀ {l : List Int}, l.Nodup → (sortI l).Pairwise (· < ·)
  | [], _ => .nil
  | x :: r, h => by
    obtain ⟨h1, h2⟩ := List.nodup_cons.mp h
    exact insI_lt (sortI_lt h2) fun e => h1 (sortI_mem.mp e)
theorem ddI_ok : ∀ (ns : List Int), (ddI ns).Nodup ∧ ∀ k, k ∈ ddI ns ↔ k ∈ ns := by
  have key : ∀ (ns a : List Int), a.Nodup → (ns.foldl (fun a k => if k ∈ a then a else a ++ [k]) a).Nodup ∧ ∀ k, k ∈ ns.foldl (fun a k => if k ∈ a then a else a ++ [k]) a ↔ k ∈ a ∨ k ∈ ns := by
    intro ns
    induction ns with
    | nil => intro a h; exact ⟨h, fun k => by simp⟩
    | cons x r ih =>
      intro a h
      rw [List.foldl_cons]
      by_cases hx : x ∈ a
      · rw [if_pos hx]
        obtain ⟨i1, i2⟩ := ih a h
        refine ⟨i1, fun k => ?_⟩
        rw [i2, List.mem_cons]
        constructor
        · rintro (h | h)
          · exact .inl h
          · exact .inr (.inr h)
        · rintro (h | h | h)
          · exact .inl h
          · exact .inl (h ▸ hx)
          · exact .inr h
      · rw [if_neg hx]
        obtain ⟨i1, i2⟩ := ih (a ++ [x]) (List.nodup_append.mpr ⟨h, by simp, fun y hy z hz => by
          have : z = x := by simpa using hz
          rw [this]
          intro e
          exact hx (e ▸ hy)⟩)
        refine ⟨i1, fun k => ?_⟩
        rw [i2]
        simp [or_assoc]
  intro ns
  obtain ⟨h1, h2⟩ := key ns [] List.nodup_nil
  exact ⟨h1, fun k => by rw [show ddI ns = ns.foldl (fun a k => if k ∈ a then a else a ++ [k]) [] from rfl, h2]; simp⟩
/-- rising lists with the same members are the same -/
theorem rising_unique : ∀ {a b : List Int}, a.Pairwise (· < ·) → b.Pairwise (· < ·) → (∀ k, k ∈ a ↔ k ∈ b) → a = b
  | [], [], _, _, _ => rfl
  | [], y :: b, _, _, h => absurd ((h y).mpr List.mem_cons_self) (by simp)
  | x :: a, [], _, _, h => absurd ((h x).mp List.mem_cons_self) (by simp)
  | x :: a, y :: b, ha, hb, h => by
    obtain ⟨a1, a2⟩ := List.pairwise_cons.mp ha
    obtain ⟨b1, b2⟩ := List.pairwise_cons.mp hb
    have exy : x = y := by
      rcases List.mem_cons.mp ((h x).mp List.mem_cons_self) with e | e
      · exact e
      · rcases List.mem_cons.mp ((h y).mpr List.mem_cons_self) with e2 | e2
        · exact e2.symm
        · have := b1 x e
          have := a1 y e2
          omega
    subst exy
    rw [rising_unique a2 b2 fun k => ?_]
    constructor
    · intro hk
      rcases List.mem_cons.mp ((h k).mp (List.mem_cons_of_mem _ hk)) with e | e
      · have := a1 k hk; omega
      · exact e
    · intro hk
      rcases List.mem_cons.mp ((h k).mpr (List.mem_cons_of_mem _ hk)) with e | e
      · have := b1 k hk; omega
      · exact e
theorem lcGo_pre [KK] {g : MG} {t : MB} {el : MR} {vs : List Nat} : ∀ {ds : List D} {ρ ρ' : En} {acc accE : List D}, lcGo g t el vs ds ρ acc = some (accE, ρ') → ∃ tl, accE = acc ++ tl
  | [], ρ, ρ', acc, accE, e => by
    cases e
    exact ⟨[], by simp⟩
  | d :: ds, ρ, ρ', acc, accE, e => by
    obtain ⟨ρa, _, e⟩ := bind_some e
    obtain ⟨⟨kb, ρb⟩, _, e⟩ := bind_some e
    cases kb with
    | false => exact lcGo_pre (show lcGo g t el vs ds (backE ρ ρb vs) acc = some (accE, ρ') from e)
    | true =>
      obtain ⟨⟨y, ρc⟩, _, e⟩ := bind_some e
      obtain ⟨_, e⟩ := ite_some' e
      obtain ⟨tl, h⟩ := lcGo_pre e
      exact ⟨y :: tl, by rw [h, List.append_assoc]; rfl⟩
def setFin (acc : List D) : Option R := (intsD acc).bind fun ns => if ns.length ≤ 1000 ∧ (ddI ns).length < 64 then some (.fr ((sortI (ddI ns)).map .int)) else none
def mSortSet (it : MI) (g : MG) (t : MB) (el : MR) (vs : List Nat) : MR := fun ρ => do
  let (ds, ρ1) ← it ρ
  if okW ρ1 vs = true then do
    let (acc, ρ2) ← lcGo g t el vs ds ρ1 []
    let r ← setFin acc
    some (r, ρ2)
  else none
section
variable [KK] {X : Cx} {elt tg iter : Expr} {ifs : List Expr} {scope : Scope} {own : List (PySem.Str × Nat)} {pos p : Pos} {it : MI} {g : MG} {t : MB} {el : MR}
def kI (ns : List Int) : (Int → Bool) × Nat := (fun j => decide (j ∈ ddI ns), (ddI ns).length)
theorem kI_snoc (ns : List Int) (i : Int) : kI (ns ++ [i]) = (fun j => (kI ns).1 j || decide (j = i), if (kI ns).1 i = true then (kI ns).2 else (kI ns).2 + 1) := by
  unfold kI
  rw [ddI_snoc]
  by_cases h : i ∈ ddI ns
  · rw [if_pos h]
    refine Prod.ext (funext fun j => ?_) (by simp [h])
    by_cases hj : j = i
    · subst hj; simp [h]
    · simp [hj]
  · rw [if_neg h]
    refine Prod.ext (funext fun j => ?_) (by simp [h])
    simp
theorem ddI_le (ns : List Int) : (ddI ns).length ≤ ns.length := by
  have key : ∀ (ns a : List Int), (ns.foldl (fun a k => if k ∈ a then a else a ++ [k]) a).length ≤ a.length + ns.length := by
    intro ns
    induction ns with
    | nil => intro a; simp
    | cons x r ih =>
      intro a
      rw [List.foldl_cons, List.length_cons]
      have := ih (if x ∈ a then a else a ++ [x])
      split at this
      · rename_i h
        rw [if_pos h]
        omega
      · rename_i h
        rw [if_neg h]
        rw [List.length_append, List.length_singleton] at this
        omega
  have := key ns []
  rw [List.length_nil, Nat.zero_add] at this
  exact this
/-- sorted({elt for ..}), whole numbers: what the layer asks, from the reading by plain functions -/
theorem ss_read {K : Fr0} {P : Program} {w : World} {ws vs : List Nat} (hws : ∀ i ∈ ws, i ∈ vs) {σ : L2.St} {H : Hp} {Q : VK} (q : tM (mSortSet it g t el vs) σ H Q) :
    (fun σ H (Q : VK) => tMI it σ H fun J H1 => ∀ D, H1 D = none → ∃ W : Nat → Nat → Hp → Prop, (∃ m, W 0 m (upd H1 D ((intKit P w).obj D (intKit P w).k0))) ∧ ∀ i m H2, W i m H2 →
      ((J.stop i H2 ∧ Q (.ref D) H2) ∨ (J.go i H2 ∧ ∃ Nx : Hp → Prop, (∀ H', Nx H' → ∃ m', m' < m ∧ W (i + 1) m' H') ∧
        ∀ x H', J.yld i H2 x H' → tMG g ws x (wipe σ vs) H' fun σ2 H3 => wipe σ2 vs = wipe σ vs ∧ tMB t σ2 H3 fun b H4 => if b = true then tM el σ2 H4 fun y H5 => ∃ (k k' : (Int → Bool) × Nat), H5 D = some ((intKit P w).obj D k) ∧ (intKit P w).step k H5 y k' ∧ Nx (upd H5 D ((intKit P w).obj D k')) else Nx H4))) σ H
      (fun v H1 => rSortedSet w [v] H1 Q) := by
  obtain ⟨F, G, b, ρ, hr, r, ρ', e, k⟩ := q
  obtain ⟨⟨ds, ρ1⟩, e1, e⟩ := bind_some e
  obtain ⟨hok, e⟩ := ite_some' e
  obtain ⟨⟨accE, ρ2⟩, e2, e⟩ := bind_some e
  obtain ⟨rr, e3, e⟩ := bind_some e
  cases e
  obtain ⟨nsE, e4, e5⟩ := bind_some (show (do let ns ← intsD accE; if ns.length ≤ 1000 ∧ (ddI ns).length < 64 then some (R.fr ((sortI (ddI ns)).map .int)) else none) = some r from e3)
  obtain ⟨⟨small, few⟩, e6⟩ := ite_some e5
  subst e6
  have hAcc := intsD_eq e4
  refine ⟨F, G, b, ρ, hr, ds, ρ1, e1, fun F1 H1 J s1 c1 h1 wk Dl hD => ?_⟩
  have gD : G Dl = none := h1.gh.free hD
  have fD : F1 Dl = none := h1.fh.free hD
  refine ⟨fun i m Hc => i ≤ ds.length ∧ m = ds.length - i ∧ ∃ (F2 : Hp) (ρi : En) (ns : List Int), Same F1 F2 ∧ Cln F1 G F2 ∧ Rp F2 G Hc b σ ρi ∧ Hc Dl = some ((intKit P w).obj Dl (kI ns)) ∧ F2 Dl = none ∧ okW ρi vs = true ∧ lcGo g t el vs (ds.drop i) ρi (ns.map .int) = some (accE, ρ'),
    ⟨ds.length, Nat.zero_le _, rfl, F1, ρ1, [], .refl _, .refl _ _, ?_, ?_, fD, hok, e2⟩, ?_⟩
  · exact h1.grow (.refl _) (same_upd hD) (h1.fh.trans (same_upd hD)) fun i p o q => (h1.own_some o q).elim fun _ z => z.2.1
  · rw [upd_same]
    rfl
  rintro i m Hc ⟨hi, rfl, F2, ρi, ns, s2, c2, h2, aD, fD2, okI, eL⟩
  by_cases hlt : i < ds.length
  · have hdrop : ds.drop i = ds[i] :: ds.drop (i + 1) := List.drop_eq_getElem_cons hlt
    rw [hdrop] at eL
    obtain ⟨ρa, ea, eL⟩ := bind_some eL
    obtain ⟨⟨kb, ρb⟩, eb, eL⟩ := bind_some eL
    refine .inr ⟨wk.go i Hc hlt (s2.trans h2.fh), fun H' => ∃ (F5 : Hp) (ρ5 : En) (ns5 : List Int), Same F1 F5 ∧ Cln F1 G F5 ∧ Rp F5 G H' b σ ρ5 ∧ H' Dl = some ((intKit P w).obj Dl (kI ns5)) ∧ F5 Dl = none ∧ okW ρ5 vs = true ∧ lcGo g t el vs (ds.drop (i + 1)) ρ5 (ns5.map .int) = some (accE, ρ'),
      fun H' z => ⟨ds.length - (i + 1), by omega, by omega, rfl, z⟩, fun x H' y => ?_⟩
    obtain ⟨F3, d, ed, Pp⟩ := wk.yld i F2 Hc x H' hlt s2 h2.fh y
    have edd : ds[i] = d := by
      rw [List.getElem?_eq_getElem hlt] at ed
      exact Option.some.inj ed
    rw [← edd] at Pp
    -- a guard that also holds the set
    have gu : Same (upd G Dl ((intKit P w).obj Dl (kI ns))) H' := fun a o q => by
      by_cases z : a = Dl
      · subst z
        rw [upd_same] at q
        rw [← q]
        exact Pp.hh _ _ aD
      · rw [upd_ne z] at q
        exact Pp.hh _ _ (h2.gh _ _ q)
    have h3 : Rp F3 G H' b σ ρi := Pp.rp h2
    have c3 : Cln F2 G F3 := Pp.cln h2.gh
    have noD : ∀ j p, OwnAt ρi j → σ[j]? = some (some (.ref p)) → p ≠ Dl := fun j p o q z => by
      obtain ⟨vs0, a0, _, _⟩ := h2.own_some o q
      rw [z, aD] at a0
      cases a0
    have more : ∀ j p, OwnAt ρi j → σ[j]? = some (some (.ref p)) → (upd G Dl ((intKit P w).obj Dl (kI ns))) p = none := fun j p o q => by
      rw [upd_ne (noD j p o q)]
      exact (h3.own_some o q).elim fun _ z => z.2.2
    have h3g : Rp F3 (upd G Dl ((intKit P w).obj Dl (kI ns))) H' b (wipe σ vs) (wipeE ρi vs) := (h3.more gu more).wiped
    have fD3 : F3 Dl = none := by
      cases z : F3 Dl with
      | none => rfl
      | some o =>
        rcases Pp.new Dl (by rw [z]; exact fun x => nomatch x) with w | w
        · exact absurd fD2 w
        · rw [aD] at w; cases w
    refine ⟨F3, _, b, _, _, h3g, (show Dv F3 x ds[i] from Pp.res), ρa, ea, fun σ2 h4 w4 => ⟨(w4 vs hws).trans wipe_wipe, ?_⟩⟩
    have w4' := (w4 vs hws).trans wipe_wipe
    refine ⟨F3, _, b, ρa, h4, kb, ρb, eb, fun F5 H5 s5 c5 h5 => ?_⟩
    have lenb : ∀ {ρz : En} {Fz Hz : Hp}, Rp Fz (upd G Dl ((intKit P w).obj Dl (kI ns))) Hz b σ2 ρz → ρz.length = ρi.length := fun {ρz Fz Hz} hz => by
      have l2 := congrArg List.length w4'
      rw [wipe_length, wipe_length] at l2
      rw [hz.len, l2, h3.len]
    have fin : ∀ {ρz : En} {Fz Hz : Hp}, Same F3 Fz → Cln F3 (upd G Dl ((intKit P w).obj Dl (kI ns))) Fz → Rp Fz (upd G Dl ((intKit P w).obj Dl (kI ns))) Hz b σ2 ρz →
        Rp Fz G Hz b σ (backE ρi ρz vs) ∧ Hz Dl = some ((intKit P w).obj Dl (kI ns)) ∧ Fz Dl = none ∧ okW (backE ρi ρz vs) vs = true := fun {ρz Fz Hz} sz cz hz => by
      refine ⟨h3.backed sz (hz.less (same_upd gD)) w4' okI, hz.gh _ _ upd_same, ?_, okW_back (lenb hz) okI⟩
      cases z : Fz Dl with
      | none => rfl
      | some o => exact absurd fD3 (cz Dl (by rw [upd_same]; exact fun x => nomatch x) (by rw [z]; exact fun x => nomatch x))
    cases kb with
    | false =>
      refine iteF ?_
      obtain ⟨f1, f2, f3, f5⟩ := fin s5 c5 h5
      exact ⟨F5, _, ns, s2.trans (Pp.ff.trans s5), c2.trans (c3.trans (c5.less (same_upd gD))), f1, f2, f3, f5, eL⟩
    | true =>
      refine iteT ?_
      obtain ⟨⟨y', ρ6⟩, e6, eL⟩ := bind_some eL
      obtain ⟨hlen, eL⟩ := ite_some' eL
      obtain ⟨⟨r6, ρ7⟩, e7, e6⟩ := bind_some e6
      -- the item is a number
      obtain ⟨tl, hpre⟩ := lcGo_pre eL
      have hy : ∃ z : Int, y' = .int z := by
        have hm : y' ∈ nsE.map PyData.int := by
          rw [← hAcc, hpre]
          exact List.mem_append_left _ (List.mem_append_right _ (List.mem_singleton_self _))
        obtain ⟨z, _, hz⟩ := List.mem_map.mp hm
        exact ⟨z, hz.symm⟩
      obtain ⟨z, rfl⟩ := hy
      have hn : ns.length + 1 ≤ nsE.length := by
        have h := congrArg List.length (hAcc.symm.trans hpre)
        rw [List.length_map, List.length_append, List.length_append, List.length_map, List.length_singleton] at h
        omega
      refine ⟨F5, _, b, ρb, h5, r6, ρ7, e7, fun F7 H7 v7 s7 c7 h7 k7 => ?_⟩
      obtain ⟨F8, s8, c8, h8, dv8⟩ := cap_ok h7 k7 e6
      cases (show Dv F8 v7 (.int z) from dv8)
      have cc := c5.trans (c7.trans c8)
      obtain ⟨f1, f2, f3, f5⟩ := fin (s5.trans (s7.trans s8)) cc h8
      have hle := ddI_le ns
      refine ⟨kI ns, kI (ns ++ [z]), f2, ⟨z, rfl, by show (ddI ns).length + 1 < 4096; omega, kI_snoc ns z⟩, F8, _, ns ++ [z], s2.trans (Pp.ff.trans (s5.trans (s7.trans s8))), c2.trans (c3.trans (cc.less (same_upd gD))), ?_, upd_same, f3, f5, by rw [List.map_append]; exact eL⟩
      have away : ∀ j p, OwnAt (backE ρi ρ6 vs) j → σ[j]? = some (some (.ref p)) → p ≠ Dl := fun j p o q zz => by
        obtain ⟨vs0, a0, _, _⟩ := f1.own_some o q
        rw [zz, f2] at a0
        cases a0
      refine ⟨fun a o q => by rw [upd_ne (ne_of_none q f3)]; exact f1.fh _ _ q, fun a o q => by rw [upd_ne (ne_of_none q gD)]; exact f1.gh _ _ q, f1.len, fun j mm q => ?_, f1.ne⟩
      have sl := f1.slot j mm q
      cases mm with
      | no => trivial
      | sh d => exact sl
      | own ds1 =>
        obtain ⟨p1, vs1, a1, c1', x1⟩ := sl
        exact ⟨p1, vs1, a1, by rw [upd_ne (away j p1 (.inl ⟨ds1, q⟩) a1)]; exact c1', x1⟩
      | io ds1 =>
        obtain ⟨a1, vs1, c1', x1⟩ := sl
        exact ⟨a1, vs1, by rw [upd_ne (away j b (.inr ⟨ds1, q⟩) a1)]; exact c1', x1⟩
  · have ei : i = ds.length := by omega
    subst ei
    rw [List.drop_length] at eL
    cases eL
    have hns : ns = nsE := by
      have h := hAcc
      clear e2 e3 e5
      have inj : ∀ {a b : List Int}, a.map PyData.int = b.map PyData.int → a = b := by
        intro a
        induction a with
        | nil => intro b hb; cases b with
          | nil => rfl
          | cons _ _ => cases hb
        | cons x r ih => intro b hb; cases b with
          | nil => cases hb
          | cons y s =>
            rw [List.map_cons, List.map_cons] at hb
            obtain ⟨h1, h2⟩ := List.cons.inj hb
            cases h1
            rw [ih h2]
      exact inj h
    subst hns
    refine .inl ⟨wk.stop Hc (s2.trans h2.fh), Dl, _, _, rfl, aD, few, fun ns' pq hs hm hl hp => ?_⟩
    have hd := ddI_ok ns
    have e9 : ns' = sortI (ddI ns) := rising_unique hs (sortI_lt hd.1) fun k => by
      rw [hm, sortI_mem]
      exact decide_eq_true_iff
    rw [e9]
    have Pf : Post F2 Hc (.fr ((sortI (ddI ns)).map .int)) F2 (upd Hc pq (.lst ((sortI (ddI ns)).map V.int))) (.ref pq) := post_fr h2.fh hp (Dvs.of_ints _)
    exact k F2 _ _ (s1.trans (s2.trans Pf.ff)) (c1.trans (c2.trans (Pf.cln h2.gh))) (Pf.rp h2) (Pf.rs h2)
theorem me_sortSet {ws : List Nat} {pos2 : Pos} (hc : X.calm = true) (hN : X.N.Nodup) (hi : MIt X tg iter it) (ok : BlkOk X.N X.env.scope scope own)
    (hg : ∀ (s : Shared) (H : Hp) (C : Addr) (cl : List (Str × Addr)) (fp : List Addr), MGt (X.blk s H scope (compEnvC scope cl C X.env) fp) tg g ws)
    (ht : ∀ (s : Shared) (H : Hp) (C : Addr) (cl : List (Str × Addr)) (fp : List Addr), MTs (X.blk s H scope (compEnvC scope cl C X.env) fp) ifs t)
    (he : ∀ (s : Shared) (H : Hp) (C : Addr) (cl : List (Str × Addr)) (fp : List Addr), ME (X.blk s H scope (compEnvC scope cl C X.env) fp) elt el)
    (gl : Gl X "sorted") (gm : X.mg "sorted" = none) (gv : bootBuiltins "sorted" = some (.builtin "sorted"))
    (hws : ∀ i ∈ ws, i ∈ own.map (·.2) := by decide) (hs : ∀ x, foldedSetIterable iter X.env x = pure x := by intro _; rfl)
    (hst : starEach [.SetComp elt [⟨tg, iter, ifs, 0⟩] scope pos] X.env = (false, eval (.SetComp elt [⟨tg, iter, ifs, 0⟩] scope pos) X.env) :: starEach [] X.env := by rfl)
    (hpl : (backTo pos2 (starEach [] X.env)).any (·.1) = false := by rfl) :
    ME X (.Call (.Name "sorted" p) [.SetComp elt [⟨tg, iter, ifs, 0⟩] scope pos] [] pos2) (mSortSet it g t el (own.map (·.2))) :=
  ⟨(pe_callB (cr_sortedSet hc) gl gm gv (pa_cons (pe_scK (intKit X.prog X.w) hc hN hi.ok ok (fun s H C cl fp => (hg s H C cl fp).ok) (fun s H C cl fp => (ht s H C cl fp).ok) (fun s H C cl fp => (he s H C cl fp).ok) hs) pa_nil hst) (by decide) (by decide) hst hpl).imq fun σ H Q q => ss_read (K := X.K) hws q⟩

/-! ### sorted of whole numbers -/
def sortLD : D → Option R
  | .list ds => (intsD ds).map fun ns => .fr ((isortI ns).map .int)
  | _ => none
end
end Mi
set_option Elab.async false
set_option linter.all false
set_option maxRecDepth 100000
/-! Core12: sorted of whole numbers, list.count, sum(range(n)), n * list. -/
namespace Mi
open PySem PySem.Spec PyProof.Rows L2
section
variable {prog : Program} {w : World} {A : Around} {E : Value → Shared → Prop} {s : Shared}
/-- the items of a tuple, collected -/
theorem collect_tup {t : Addr} {vs : List Value} {Q : List Value → Shared → Prop} (ht : IsTup s.heap t vs.toArray)
    (go : Q vs { s with heap := (s.heap.push (seqObj "list" #[] 0)).update s.heap.objs.size (Obj.mapSeq (· ++ vs.toArray)) }) (sz : vs.length ≤ sizeLine) : wpAny (model prog w) A (collect (.ref t)) Q E s := by
  obtain ⟨o, ho, hc, n, hd⟩ := id ht
  unfold collect
  refine wpAny_bind (wpAny_runValue (codeAny_builtin entry_proto_collect' ?_))
  show wpAny _ _ (newList [] >>= fun l' => again (.builtin "list.__iadd__" ⟨[l', .ref t], []⟩)) _ _ s
  refine wpAny_bind (wpAny_newList (wpAny_pure ⟨Code.quiet_builtin _ (by decide +kernel), codeAny_builtin entry_list_iadd' ?_⟩))
  show wpAny _ _ (Builtin.List.listExtendWith (.ref s.heap.objs.size) (.ref t) (.ref s.heap.objs.size)) _ _ { s with heap := s.heap.push (seqObj "list" #[] 0) }
  unfold Builtin.List.listExtendWith
  have old : (s.heap.push (seqObj "list" #[] 0)).get? t = some o := Heap.get?_push_of_some _ ho
  refine wpAny_bind (wpAny_typeOf (T := "tuple") ⟨o, old, hc⟩ ?_)
  rw [if_pos (by rw [show (Value.type "tuple" == Value.type "tuple") = true from rfl]; simp)]
  refine wpAny_bind (listItems_at old hd ?_)
  refine wpAny_bind (listItems_at (xs := #[]) (n := 0) (Heap.get?_push_size _ rfl) rfl ?_)
  rw [if_neg (by simp)]
  refine wpAny_bind (listUpdate_at (xs := #[]) (n := 0) (Heap.get?_push_size _ rfl) rfl (wpAny_pure ?_) (Nat.zero_le _) (by show (#[] ++ vs.toArray).size ≤ sizeLine + 1; simp only [Array.size_append, List.size_toArray, List.length_nil]; omega))
  refine wpAny_bind (wpAny_load (get?_update_seq (Heap.get?_push_size _ rfl) _) ?_)
  show wpAny _ _ (pure ((#[] : Array Value) ++ vs.toArray).toList) Q E _
  rw [show ((#[] : Array Value) ++ vs.toArray).toList = vs by simp]
  exact wpAny_pure go
end
section
variable [KK] {X : Cx} {e a b c : Expr} {pos p : Pos} {m ma mb : MR} {x : Str}
/-- sorted of a tuple of whole numbers -/
def rSortTI (K : Fr0) : List V → Hp → VK → Prop := fun vs H Q => ∃ (t : Addr) (ns : List Int), vs = [V.ref t] ∧ SqT K H t (ns.map V.int) ∧
  ∀ (ns' : List Int) (p : Addr), ns'.Perm ns → ns'.Pairwise (· ≤ ·) → H p = none → Q (.ref p) (upd H p (.lst (ns'.map V.int)))
theorem cr_sortTI : CallR X (.builtin "sorted") (rSortTI X.K) := by
  intro pins s σ H vs us Q I r h
  obtain ⟨t, ns, rfl, hs, q⟩ := h
  obtain ⟨its, rv, ht, hz⟩ := I.tuple hs
  rw [Vals.ref1 r]
  have hi := rv.ints
  have hz2 : its.length ≤ sizeLine := by rw [← rv.length]; exact hz
  refine Calls.call_function_entry kind_sorted plain_sorted entry_sorted (args_sorted1 _) ?_
  unfold Builtin.«sorted»
  refine wpAny_bind (m := checkCount "sorted" 1 1 _) (wpAny_pure (wpAny_bind (collect_tup ht (wpAny_bind (wpAny_newList ?_ hz2)) hz2)))
  have size1 : ((s.heap.push (seqObj "list" #[] 0)).update s.heap.objs.size (Obj.mapSeq (· ++ its.toArray))).objs.size = s.heap.objs.size + 1 := by rw [Heap.size_update, size_push']
  have there : (((s.heap.push (seqObj "list" #[] 0)).update s.heap.objs.size (Obj.mapSeq (· ++ its.toArray))).push (seqObj "list" its.toArray 0)).get? (s.heap.objs.size + 1) = some (seqObj "list" its.toArray 0) := by
    rw [← size1]
    exact Heap.get?_push_size _ rfl
  show wpAny _ _ _ _ _ { s with heap := ((s.heap.push (seqObj "list" #[] 0)).update s.heap.objs.size (Obj.mapSeq (· ++ its.toArray))).push (seqObj "list" its.toArray 0) }
  rw [size1]
  refine wpAny_bind (wpAny_holding (wpAny_call_entry slot_list_sort ⟨_, there, rfl⟩ entry_list_sort (SrtO.list_sort_ord SrtO.swo_int there hz2 (fun h2 => SrtO.ints_sortable hi h2) fun out h1 h2 => ⟨_, rfl, wpAny_pure ⟨_, rfl, ?_⟩⟩) (args_list_sort _)))
  obtain ⟨k1, k2, k3⟩ := SrtO.ints_out hi h1 h2
  obtain ⟨ep, he'⟩ := PyProof.Rows.sortedAll_at s.heap its out.toArray
  have hlen : ((out.map SrtO.iv).map V.int).length ≤ sizeLine := by
    rw [List.length_map, k2.length_eq]
    rw [List.length_map] at hz
    exact hz
  exact ⟨.ref _, upd H (s.heap.objs.size + 1) (.lst ((out.map SrtO.iv).map V.int)), I.laid (t' := s.toks) (fun _ _ => PyProof.Rows.sortedAll_old) (Nat.le_succ _) ⟨hlen, out, ep, vals_of_ints k1, he'⟩, rfl, q _ _ k2 k3 (I.hok.fresh (Nat.le_succ _))⟩
end
def insL (k : Int) : List Int → List Int
  | [] => [k]
  | x :: r => if k ≤ x then k :: x :: r else x :: insL k r
def srtL : List Int → List Int
  | [] => []
  | x :: r => insL x (srtL r)
theorem insL_perm (k : Int) : ∀ l : List Int, (insL k l).Perm (k :: l)
  | [] => .refl _
  | x :: r => by
    unfold insL
    split
    · exact .refl _
    · exact ((insL_perm k r).cons x).trans (.swap k x r)
theorem srtL_perm : ∀ l : List Int, (srtL l).Perm l
  | [] => .refl _
  | x :: r => (insL_perm x (srtL r)).trans ((srtL_perm r).cons x)
theorem insL_le {k : Int} : ∀ {l : List Int}, l.Pairwise (· ≤ ·) → (insL k l).Pairwise (· ≤ ·)
  | [], _ => List.pairwise_singleton _ _
  | x :: r, h => by
    obtain ⟨h3, h4⟩ := List.pairwise_cons.mp h
    unfold insL
    split
    · refine List.pairwise_cons.mpr ⟨fun z hz => ?_, h⟩
      rcases List.mem_cons.mp hz with rfl | hz
      · assumption
      · have := h3 z hz; omega
    · refine List.pairwise_cons.mpr ⟨fun z hz => ?_, insL_le h4⟩
      rcases List.mem_cons.mp ((insL_perm k r).mem_iff.mp hz) with rfl | hz
      · omega
      · exact h3 z hz
theorem srtL_le : ∀ l : List Int, (srtL l).Pairwise (· ≤ ·)
  | [] => .nil
  | x :: r => insL_le (srtL_le r)
theorem sorted_unique : ∀ {a b : List Int}, a.Pairwise (· ≤ ·) → b.Pairwise (· ≤ ·) → a.Perm b → a = b
  | [], b, _, _, h => (List.nil_perm.mp h).symm ▸ rfl
  | x :: a, [], _, _, h => absurd h.length_eq (by simp)
  | x :: a, y :: b, ha, hb, h => by
    obtain ⟨a1, a2⟩ := List.pairwise_cons.mp ha
    obtain ⟨b1, b2⟩ := List.pairwise_cons.mp hb
    have e1 : x ≤ y := by
      rcases List.mem_cons.mp (h.mem_iff.mpr List.mem_cons_self) with e | e
      · omega
      · exact a1 y e
    have e2 : y ≤ x := by
      rcases List.mem_cons.mp (h.mem_iff.mp List.mem_cons_self) with e | e
      · omega
      · exact b1 x e
    have : x = y := by omega
    subst this
    rw [sorted_unique a2 b2 ((List.perm_cons x).mp h)]
section
variable [KK] {X : Cx} {e a b c : Expr} {pos p : Pos} {m ma mb : MR} {x : Str}
def sortD : D → Option R
  | .list ds => (intsD ds).map fun ns => .fr ((srtL ns).map .int)
  | .tuple ds => (intsD ds).map fun ns => .fr ((srtL ns).map .int)
  | _ => none
theorem c_sorted (hK : X.K = KK.K := by rfl) : Call1 X (.builtin "sorted") sortD := ⟨_, cr_sortedI.or cr_sortTI, fun F H v1 d1 k s b e Q q => by
  match d1, e, b with
  | .list ds, e, b =>
    obtain ⟨ns, e1, rfl⟩ := map_some (show (intsD ds).map (fun ns => R.fr ((srtL ns).map .int)) = some k from e)
    obtain ⟨p0, vs, rfl, h, xx⟩ := b.list s
    rw [intsD_eq e1] at xx
    rw [xx.ints] at h
    refine .inl ⟨p0, ns, rfl, .of h, fun ns' l pm hs hl => ?_⟩
    rw [sorted_unique hs (srtL_le ns) (pm.trans (srtL_perm ns).symm)]
    exact q _ _ _ (post_fr s hl (Dvs.of_ints _))
  | .tuple ds, e, b =>
    obtain ⟨ns, e1, rfl⟩ := map_some (show (intsD ds).map (fun ns => R.fr ((srtL ns).map .int)) = some k from e)
    obtain ⟨p0, vs, rfl, h, xx⟩ := b.tup
    rw [intsD_eq e1] at xx
    rw [xx.ints] at h
    refine .inr ⟨p0, ns, rfl, .of (s _ _ h), fun ns' l pm hs hl => ?_⟩
    rw [sorted_unique hs (srtL_le ns) (pm.trans (srtL_perm ns).symm)]
    exact q _ _ _ (post_fr s hl (Dvs.of_ints _))⟩
/-! ### xs.count(k) -/
def countD : D → D → Option R
  | .list ds, .int n => (intsD ds).map fun ns => .sh (.int (ns.count n : Nat))
  | _, _ => none
def mCount (ma mb : MR) : MR := fun ρ => do
  let (r1, ρ1) ← ma ρ
  let d0 ← deref ρ1 r1
  match d0 with
  | .list _ => do
    let (r2, ρ2) ← mb ρ1
    let d1 ← deref ρ2 r1
    let d2 ← deref ρ2 r2
    let k ← countD d1 d2
    some (k, ρ2)
  | _ => none
theorem me_count {apos cpos : Pos} (ho : ME X a ma) (he : ME X b mb) (hbase : attributeBase a "count" X.env (eval a X.env) = eval a X.env := by rfl)
    (hfew : ((backTo cpos (starEach (b :: []) X.env)).all (fun x => !x.1) && (backToKw cpos (keywordEach [] X.env)).all (fun x => x.1.isSome)
      && decide ((b :: ([] : List Expr)).length + ([] : List Keyword).length + (if ([] : List Keyword).isEmpty then 0 else 1) < 30)) = true := by rfl)
    (hline : (apos.endLine == cpos.line) = true := by rfl) (hs : starEach (b :: []) X.env = (false, eval b X.env) :: starEach [] X.env := by rfl) (hplain : (backTo cpos (starEach [] X.env)).any (·.1) = false := by rfl) :
    ME X (.Call (.Attribute a "count" apos) [b] [] cpos) (mCount ma mb) :=
  ⟨(pe_bm PySem.F.plainAttrs_list PySem.F.slot_list_count PySem.F.type_list_count mt_lcount ho.ok (pa_cons he.ok pa_nil hs) hbase hfew hline hs hplain).imq fun σ H Q q => by
    obtain ⟨F, G, b', ρ, hr, r, ρ', e, k⟩ := q
    obtain ⟨⟨r1, ρ1⟩, e1, e⟩ := bind_some e
    obtain ⟨d0, e0, e⟩ := bind_some e
    refine ⟨F, G, b', ρ, hr, r1, ρ1, e1, fun F1 H1 v1 s1 c1 h1 k1 => ?_⟩
    have bd0 := k1.bd h1 e0
    match d0, bd0, e with
    | .list ds0, bd0, e =>
      obtain ⟨⟨r2, ρ2⟩, e2, e⟩ := bind_some e
      obtain ⟨d1, e3, e⟩ := bind_some e
      obtain ⟨d2, e4, e⟩ := bind_some e
      obtain ⟨z, e5, e⟩ := bind_some e
      cases e
      obtain ⟨p0, vs0, rfl, a0, _⟩ := bd0.list h1.fh
      refine ⟨.inl ⟨rfl, _, .of a0⟩, F1, guard G H1 _ r1, b', ρ1, h1.guarded k1, r2, _, e2, fun F2 H2 v2 s2 c2 h2 k2 => ?_⟩
      have ge := guard_ge k1
      have kk := k1.keep s2 c2 h2
      have h2' := h2.less ge
      have bd1 := kk.bd h2' e3
      have bd2 := (k2.less ge).bd h2' e4
      match d1, d2, e5, bd1, bd2 with
      | .list ds, .int n, e5, bd1, bd2 =>
        obtain ⟨ns, e6, e7⟩ := map_some (show (intsD ds).map (fun ns => R.sh (.int (ns.count n : Nat))) = some r from e5)
        subst e7
        obtain ⟨p1, vs1, q1, a1, x1⟩ := bd1.list h2'.fh
        cases q1
        rw [intsD_eq e6] at x1
        rw [x1.ints] at a1
        exact ⟨p0, ns, n, rfl, by rw [bd2.int], .of a1, k F2 H2 _ (s1.trans s2) (c1.trans (c2.less ge)) h2' (.int _)⟩⟩

/-! ### sum(range(n)) -/
def sumTo (n : Int) : Int := (rangeL 0 n.toNat).sum
def sumRD : D → Option R
  | .int n => if 0 ≤ n ∧ n ≤ 1000000 then some (.sh (.int (sumTo n))) else none
  | _ => none
theorem preSum_range (n : Nat) : preSum (fun i => (0 : Int) + (i : Int) * 1) n = sumTo (n : Int) := by
  unfold sumTo
  rw [Int.toNat_natCast]
  have key : ∀ n : Nat, ∀ lo : Int, (rangeL lo (n + 1)).sum = (rangeL lo n).sum + (lo + n) := by
    intro n
    induction n with
    | zero => intro lo; show lo + 0 = 0 + (lo + 0); omega
    | succ n ih =>
      intro lo
      have e1 : rangeL lo (n + 2) = lo :: rangeL (lo + 1) (n + 1) := rfl
      have e2 : rangeL lo (n + 1) = lo :: rangeL (lo + 1) n := rfl
      rw [e1, List.sum_cons, ih (lo + 1), e2, List.sum_cons]
      omega
  induction n with
  | zero => rfl
  | succ n ih =>
    rw [key n 0, ← ih]
    show preSum _ n + (0 + (n : Int) * 1) = _
    omega
def tSumR (ta : TE) : TE := fun σ H Q => ta σ H fun x H1 => ∃ n : Int, x = .int n ∧ (0 : Int) = 0 ∧ 0 ≤ n ∧ n ≤ 1000000 ∧ Q (.int (sumTo n)) H1
theorem pe_sumRange {ta : TE} {p2 pos2 : Pos} (hc : X.calm = true) (hg : Gl X "sum") (hm : X.mg "sum" = none) (hv : bootBuiltins "sum" = some (.builtin "sum")) (hg2 : Gl X "range") (hm2 : X.mg "range" = none) (ha : PE X a ta)
    (hs : starEach [a] X.env = (false, eval a X.env) :: starEach [] X.env)
    (hs2 : starEach [.Call (.Name "range" p2) [a] [] pos2] X.env = (false, eval (.Call (.Name "range" p2) [a] [] pos2) X.env) :: starEach [] X.env) :
    PE X (.Call (.Name "sum" p) [.Call (.Name "range" p2) [a] [] pos2] [] pos) (tSumR ta) := by
  refine ⟨fun pins s σ H Q I h => ?_⟩
  refine wpAny_Call_Name_kw (ld_blt I hg hm hv ?_ (by decide) (by decide))
  refine PyProof.Rows.callWith_builtin1 (args_cons (thn (prg_1 hg2 hm2 ha hs pins s σ H (fun i j H1 => i = 0 ∧ 0 ≤ j ∧ j ≤ 1000000 ∧ Q (.int (sumTo j)) H1) I h) fun u s1 w1 => args_nil ?_) hs2) hs2 rfl
  obtain ⟨r, i, j, t, u', v, H1, rfl, hr, I1, rfl, j0, j1, q⟩ := w1
  have hsmall : Builtin.Range.small 0 j 1 = true := small_one (by decide) (by decide) (by omega) (by omega)
  have hsize : Builtin.Range.rangeSize 0 j 1 = ((j.toNat : Nat) : Int) := by rw [PyProof.Rows.rangeSize_nat, Int.sub_zero]
  obtain ⟨f0, f1, f2, f3, f4, f5⟩ := I1.fpOk (H' := H1) (b := s1.heap.objs.size) (Nat.le_refl _) (I1.hok.fresh (Nat.le_refl _))
  refine call_sum_walkAnyS (wpAny_pyIter_range hr hsmall ?_)
  rw [hsize]
  refine ⟨s1.heap.objs.size, _, _, _, j.toNat, _, _, fun i => (0 : Int) + (i : Int) * 1, rfl, (Walks.range (A := X.A.in1) (I1.ok.hd hc) s1.heap.objs.size 0 1 j.toNat).toS, ?_, fun b hb => ?_, fun i v hv => hv, fun s' t' mv => ?_⟩
  · have e0 : (0 : Int) + ((0 : Nat) : Int) * 1 = 0 := by omega
    have e1 : ((j.toNat : Nat) : Int) - ((0 : Nat) : Int) = ((j.toNat : Nat) : Int) := by omega
    show IsRangeIter _ _ ((0 : Int) + ((0 : Nat) : Int) * 1) (((j.toNat : Nat) : Int) - ((0 : Nat) : Int)) 1
    rw [e0, e1]
    exact Heap.get?_push_size _ rfl
  · rw [List.mem_singleton.mp hb, Heap.size_push]
    exact Nat.lt_succ_self _
  · rw [preSum_range, Int.toNat_of_nonneg j0]
    have mvh := mv.heap
    rw [Moved.eq_with mv]
    exact ⟨.int (sumTo j), H1, I1.turned (t' := s'.toks) (fun b o hb e => mvh b o (fun z => hb (List.mem_singleton.mp z)) (Heap.get?_push_of_some _ e)) f0 f1 f3 f4 f5, ⟨_, rfl⟩, q⟩
theorem me_sumRange1 {p2 pos2 : Pos} (hc : X.calm = true) (hg : Gl X "sum") (hm : X.mg "sum" = none) (hv : bootBuiltins "sum" = some (.builtin "sum")) (hg2 : Gl X "range") (hm2 : X.mg "range" = none) (ha : ME X a ma)
    (hs : starEach [a] X.env = (false, eval a X.env) :: starEach [] X.env := by rfl)
    (hs2 : starEach [.Call (.Name "range" p2) [a] [] pos2] X.env = (false, eval (.Call (.Name "range" p2) [a] [] pos2) X.env) :: starEach [] X.env := by rfl) :
    ME X (.Call (.Name "sum" p) [.Call (.Name "range" p2) [a] [] pos2] [] pos) (mUn sumRD ma) := ⟨(pe_sumRange hc hg hm hv hg2 hm2 ha.ok hs hs2).imq fun σ H Q q => by
  obtain ⟨F, G, b, ρ, hr, r', ρ', e, k⟩ := q
  obtain ⟨⟨r1, ρ1⟩, e1, e⟩ := bind_some e
  obtain ⟨d1, e3, e⟩ := bind_some e
  obtain ⟨z, e5, e⟩ := bind_some e
  cases e
  refine ⟨F, G, b, ρ, hr, r1, _, e1, fun F1 H1 v1 s1 c1 h1 k1 => ?_⟩
  have bd := k1.bd h1 e3
  match d1, bd, e5 with
  | .int n, bd, e5 =>
    obtain ⟨⟨n0, n1⟩, e6⟩ := ite_some (show (if 0 ≤ n ∧ n ≤ 1000000 then some (R.sh (.int (sumTo n))) else none) = some r' from e5)
    subst e6
    exact ⟨n, bd.int, rfl, n0, n1, k F1 H1 _ s1 c1 h1 (.int _)⟩⟩

/-! ### n * list -/
def rMulNL : R2 := fun x y H Q => ∃ (n : Int) (l : Addr) (xs : List V), x = .int n ∧ y = .ref l ∧ H l = some (.lst xs) ∧ -(2 ^ 62) ≤ n ∧ n < 2 ^ 62 ∧ xs.length * n.toNat ≤ lim ∧ ∀ p, H p = none → Q (.ref p) (upd H p (.lst (List.replicate n.toNat xs).flatten))
theorem vals_rep : ∀ (k : Nat) {xs : List V} {us : List Value}, Vals xs us → Vals (List.replicate k xs).flatten (List.replicate k us).flatten
  | 0, _, _, _ => .nil
  | k + 1, xs, us, r => by
    rw [List.replicate_succ, List.replicate_succ, List.flatten_cons, List.flatten_cons]
    exact r.append (vals_rep k r)
theorem op_mulNL : OpR X (binaryOp .Mult) rMulNL := by
  intro pins s σ H x y v u Q I rx ry h
  obtain ⟨n, l, xs, rfl, rfl, hH, h1, h2, hz, q⟩ := h
  obtain ⟨t, rfl⟩ := rx
  obtain rfl : u = Value.ref l := ry
  obtain ⟨z, its, k, r, ho⟩ := I.hok l _ hH
  have hlim : its.toArray.size * n.toNat ≤ 1000000 := by rw [List.size_toArray, ← r.length]; exact hz
  have a1 : ¬ (!Builtin.List.listFitsIndex n) = true := by
    simp [Builtin.List.listFitsIndex]
    omega
  have a2 : ¬ its.toArray.size * n.toNat > (2 ^ 63 - 1) / 8 := by
    have : (1000000 : Nat) ≤ (2 ^ 63 - 1) / 8 := by decide
    omega
  have a3 : ¬ Builtin.List.listTooLong (its.toArray.size * n.toNat) = true := by
    simp only [Builtin.List.listTooLong, sizeLine_eq, decide_eq_true_eq]
    omega
  have body : List.foldl (fun x1 x2 => x1 ++ x2) #[] (List.replicate (if its.toArray.isEmpty = true then 0 else n.toNat) its.toArray) = (List.replicate n.toNat its).flatten.toArray := by
    have f0 : ∀ (m : Nat) (acc : Array Value), List.foldl (fun x1 x2 => x1 ++ x2) acc (List.replicate m its.toArray) = acc ++ (List.replicate m its).flatten.toArray := by
      intro m
      induction m with
      | zero => intro acc; simp
      | succ m ih => intro acc; rw [List.replicate_succ, List.foldl_cons, ih, List.replicate_succ, List.flatten_cons]; simp
    rw [f0]
    cases its with
    | nil => simp
    | cons a r' => rw [if_neg (by simp)]; simp
  refine lm_binaryOp_repeat_right (T := "list") (U := "int") (by decide) (fun s' => typeIs_int s' n t) ⟨_, ho, rfl⟩ PySem.F.fills_int_mul noFill_list_mul PySem.F.slot_int_mul lm_noRepeat_int repeat_list PySem.F.slot_int_index.lookup ?_
  refine call_meets PySem.F.slot_int_mul (typeIs_int s n t) PySem.F.entry_int_mul (PySem.F.args_int_mul_2 _ _) (int___mul___int_list n t l its.toArray k) ⟨ho, rfl, ⟨_, ho, rfl⟩, ?_⟩
  refine call_meets PySem.F.slot_list_mul ⟨_, ho, rfl⟩ PySem.F.entry_list_mul (PySem.F.args_list_mul_2 _ _) (AutoListH.list___mul___list_int_3 l its.toArray k n t a1 a2 a3) ⟨ho, ?_⟩
  rw [body]
  exact ⟨.ref _, _, I.lnew (t' := s.toks) (vals_rep n.toNat r) (by rw [PyProof.Rows.lm_len_rep_flat, Nat.mul_comm]; exact lim_le hz), rfl, q _ I.fresh⟩
theorem rep_dvs {F : Hp} {vs : List V} {ds : List D} (h : Dvs F vs ds) : ∀ k : Nat, Dvs F (List.replicate k vs).flatten (List.replicate k ds).flatten
  | 0 => .nil
  | k + 1 => by
    rw [List.replicate_succ, List.replicate_succ, List.flatten_cons, List.flatten_cons]
    exact h.app (rep_dvs h k)
def mulNL : D → D → Option R
  | .int n, .list ds => if i62 n = true ∧ ds.length * n.toNat ≤ lim then some (.fr (List.replicate n.toNat ds).flatten) else none
  | _, _ => none
theorem bin_mulNL : BinOk X .Mult mulNL := ⟨_, op_mulNL, fun F H v1 v2 d1 d2 k s b1 b2 e Q q => by
  match d1, d2, e, b1, b2 with
  | .int n, .list ds, e, b1, b2 =>
    obtain ⟨⟨hn, hl⟩, e⟩ := ite_some (show (if i62 n = true ∧ ds.length * n.toNat ≤ lim then some (R.fr (List.replicate n.toNat ds).flatten) else none) = some k from e)
    subst e
    obtain ⟨p0, vs, rfl, h, xx⟩ := b2.list s
    have := i62_ok hn
    exact ⟨n, p0, vs, b1.int, rfl, h, this.1, this.2, by rw [xx.len]; exact hl, fun p hp => q _ _ _ (post_fr s hp (rep_dvs xx n.toNat))⟩⟩
/-! ### // and % by numbers below 0, too -/
def divND : D → D → Option R
  | .int a, .int b => if b ≠ 0 ∧ -1000000 ≤ b ∧ b ≤ 1000000 then some (.sh (.int (a.fdiv b))) else none
  | _, _ => none
def modND : D → D → Option R
  | .int a, .int b => if b ≠ 0 then some (.sh (.int (a.fmod b))) else none
  | _, _ => none
theorem bin_modN : BinOk X .Mod modND := ⟨_, op_modN, op2_C fun a b k e => by
  match a, b, e with
  | .int i, .int j, e =>
    obtain ⟨h, rfl⟩ := ite_some (show (if j ≠ 0 then some (R.sh (.int (i.fmod j))) else none) = some k from e)
    exact ⟨i, j, rfl, rfl, h, rfl⟩⟩
theorem bin_fdivN : BinOk X .FloorDiv divND := ⟨_, op_fdivN, op2_C fun a b k e => by
  match a, b, e with
  | .int i, .int j, e =>
    obtain ⟨⟨h, h1, h2⟩, rfl⟩ := ite_some (show (if j ≠ 0 ∧ -1000000 ≤ j ∧ j ≤ 1000000 then some (R.sh (.int (i.fdiv j))) else none) = some k from e)
    exact ⟨i, j, rfl, rfl, ⟨h, by omega⟩, rfl⟩⟩
end
end Mi
set_option Elab.async false
set_option linter.all false
set_option maxRecDepth 100000
/-! Ev9: equations for Core9, Core10. -/
namespace Mi
open PySem PySem.Spec PyProof.Rows L2
section
variable {ρ : En} {e : M} {ma mb mc m : MR} {ms : ML} {mas : MA} {i j : Nat} {d : D}
@[simp] theorem lNil_c : lNil ρ = some ([], ρ) := (rfl)
@[simp] theorem lCons_c : lCons m ms (e :: ρ) = bnd (m (e :: ρ)) fun x => bnd (ms x.2) fun y => some (x.1 :: y.1, y.2) := (rfl)
@[simp] theorem derefs_nil : derefs ρ [] = some [] := (rfl)
@[simp] theorem derefs_cons (r : R) (rs : List R) : derefs ρ (r :: rs) = bnd (deref ρ r) fun d => bnd (derefs ρ rs) fun ds => some (d :: ds) := (rfl)
@[simp] theorem flatR_b (b : Bool) : flatR (.sh (.bool b)) = some (.sh (.bool b)) := (rfl)
@[simp] theorem flatR_i (b : Int) : flatR (.sh (.int b)) = some (.sh (.int b)) := (rfl)
@[simp] theorem flatR_s (b : Str) : flatR (.sh (.str b)) = some (.sh (.str b)) := (rfl)
@[simp] theorem flatR_n : flatR (.sh .none) = some (.sh .none) := (rfl)
@[simp] theorem mCallL_c (φ : List D → Option R) : mCallL φ ms (e :: ρ) = bnd (ms (e :: ρ)) fun x => bnd (derefs x.2 x.1) fun ds => bnd (φ ds) fun r => bnd (flatR r) fun r => some (r, x.2) := (rfl)
def par2 (i j : Nat) : List D → En → Option En
  | [d1, d2], ρ => bnd (asg ρ i (.sh d1)) fun ρ1 => asg ρ1 j (.sh d2)
  | _, _ => none
@[simp] theorem par2_c (d1 d2 : D) : par2 i j [d1, d2] ρ = bnd (asg ρ i (.sh d1)) fun ρ1 => asg ρ1 j (.sh d2) := (rfl)
@[simp] theorem sPar_c : sPar i j mas (e :: ρ) = bnd (mas (e :: ρ)) fun x => bnd (par2 i j x.1 x.2) fun ρ2 => some (.nx, ρ2) := by
  show (mas (e :: ρ)).bind _ = (mas (e :: ρ)).bind _
  congr 1
  funext x
  obtain ⟨ds, ρ1⟩ := x
  match ds with
  | [] => rfl
  | [d1] => rfl
  | [d1, d2] =>
    show (if free1 ρ1 i = true then _ else _) = bnd (bnd (if free1 ρ1 i = true then _ else _) _) _
    by_cases h : free1 ρ1 i = true
    · rw [if_pos h, if_pos h]
      show (if free1 _ j = true then _ else _) = bnd (if free1 _ j = true then _ else _) _
      by_cases h2 : free1 (ρ1.set i (.sh d1)) j = true
      · rw [if_pos h2, if_pos h2]; rfl
      · rw [if_neg h2, if_neg h2]; rfl
    · rw [if_neg h, if_neg h]; rfl
  | _ :: _ :: _ :: _ => rfl
@[simp] theorem range3_down (a b : Int) : range3 [.int a, .int b, .int (-1)] = if (i62 a && i62 b) = true then some (stepD a (-1) (a - b).toNat) else none := by
  show (if _ then _ else _) = _
  rw [if_pos rfl]
@[simp] theorem mRange3_c : mRange3 mas (e :: ρ) = bnd (mas (e :: ρ)) fun x => bnd (range3 x.1) fun ds => some (ds, x.2) := (rfl)
@[simp] theorem mStarts3_c : mStarts3 ma mb mc (e :: ρ) = bnd (ma (e :: ρ)) fun x => bnd (mb x.2) fun y => bnd (mc y.2) fun z => bnd (strR x.1) fun a => bnd (strR y.1) fun b => bnd (intR z.1) fun i => some (.sh (.bool (Txt.startswith3 a b i)), z.2) := by
  show (ma (e :: ρ)).bind _ = (ma (e :: ρ)).bind _
  congr 1
  funext x
  show (mb x.2).bind _ = (mb x.2).bind _
  congr 1
  funext y
  show (mc y.2).bind _ = (mc y.2).bind _
  congr 1
  funext z
  obtain ⟨r0, ρ0⟩ := x
  obtain ⟨r1, ρ1⟩ := y
  obtain ⟨r2, ρ2⟩ := z
  dsimp only
  cases r0 with
  | sh d0 => cases d0 <;> cases r1 <;> first
    | rfl
    | (rename_i d1; cases d1 <;> cases r2 <;> first
      | rfl
      | (rename_i d2; cases d2 <;> rfl))
  | fr _ => rfl
  | bw _ => rfl
def chainD (f g : D → D → Option Bool) (mc : MR) : R → R → En → Option (Bool × En)
  | .sh (.int i), .sh (.int j), ρ2 => bnd (f (.int i) (.int j)) fun k => if k = true then bnd (mc ρ2) fun z => bnd (deref z.2 z.1) fun d3 => bnd (g (.int j) d3) fun k2 => some (k2, z.2) else some (false, ρ2)
  | _, _, _ => none
@[simp] theorem chainD_i (f g : D → D → Option Bool) (a b : Int) : chainD f g mc (.sh (.int a)) (.sh (.int b)) ρ = bnd (f (.int a) (.int b)) fun k => if k = true then bnd (mc ρ) fun z => bnd (deref z.2 z.1) fun d3 => bnd (g (.int b) d3) fun k2 => some (k2, z.2) else some (false, ρ) := (rfl)
@[simp] theorem mChain_c (f g : D → D → Option Bool) : mChain f g ma mb mc (e :: ρ) = bnd (ma (e :: ρ)) fun x => bnd (mb x.2) fun y => chainD f g mc x.1 y.1 y.2 := by
  show (ma (e :: ρ)).bind _ = (ma (e :: ρ)).bind _
  congr 1
  funext x
  show (mb x.2).bind _ = (mb x.2).bind _
  congr 1
  funext y
  obtain ⟨r0, ρ0⟩ := x
  obtain ⟨r1, ρ1⟩ := y
  dsimp only
  cases r0 with
  | sh d0 => cases d0 <;> cases r1 <;> first
    | rfl
    | (rename_i d1; cases d1 <;> rfl)
  | fr _ => rfl
  | bw _ => rfl
@[simp] theorem sAugS_c (f : D → D → Option R) : sAugS i f ma mb (e :: ρ) = bnd (contE (e :: ρ) i) fun _ => bnd (ma (e :: ρ)) fun x => bnd (intR x.1) fun z => bnd (contE x.2 i) fun ds0 => bnd (atI ds0 z) fun d0 => bnd (mb x.2) fun y => bnd (deref y.2 y.1) fun dv => bnd (f d0 dv) fun k => bnd (dR k) fun d => bnd (contE y.2 i) fun ds => bnd (ixN ds.length z) fun j => some (.nx, putE y.2 i (ds.set j d)) := by
  show (contE (e :: ρ) i).bind _ = (contE (e :: ρ) i).bind _
  congr 1
  funext _
  show (ma (e :: ρ)).bind _ = (ma (e :: ρ)).bind _
  congr 1
  funext x
  obtain ⟨r0, ρ0⟩ := x
  cases r0 with
  | sh d0 =>
    cases d0 with
    | int z =>
      show (contE ρ0 i).bind _ = (contE ρ0 i).bind _
      congr 1
      funext ds0
      show (atI ds0 z).bind _ = (atI ds0 z).bind _
      congr 1
      funext d0
      show (mb ρ0).bind _ = (mb ρ0).bind _
      congr 1
      funext y
      show (deref y.2 y.1).bind _ = (deref y.2 y.1).bind _
      congr 1
      funext dv
      show (f d0 dv).bind _ = (f d0 dv).bind _
      congr 1
      funext k
      cases k <;> rfl
    | _ => rfl
  | fr _ => rfl
  | bw _ => rfl
end
@[simp] theorem kdD_s (L : List (Str × Str)) (z : Str) : kdD L (.str z) = (assocS L z).map fun x => .sh (.str x) := (rfl)
@[simp] theorem revSl_l (ds : List D) : revSl (.list ds) = some (.fr ds.reverse) := (rfl)
@[simp] theorem revLD_l (ds : List D) : revLD (.list ds) = some (.fr ds.reverse) := (rfl)
@[simp] theorem mulSD_s (a : Str) (n : Int) : mulSD (.str a) (.int n) = if 0 ≤ n ∧ n ≤ 1000000 ∧ a.length * n.toNat ≤ lim then some (.sh (.str (timesS a n))) else none := (rfl)
theorem for_step {g : MG} {n : MS'} {d : D} {ds : List D} {ρ ρ1 : En} (e : bnd (g d ρ) n = some (.nx, ρ1)) : forGo g n (d :: ds) ρ = forGo g n ds ρ1 := by
  rw [forGo_cons]
  cases q : g d ρ with
  | none => rw [q] at e; cases e
  | some ρ2 =>
    rw [q, bnd_some] at e
    rw [bnd_some, e, bnd_some, forO_nx]
theorem for_stop {g : MG} {n : MS'} {d : D} {ds : List D} {ρ ρ1 : En} {r : R} (e : bnd (g d ρ) n = some (.rt r, ρ1)) : forGo g n (d :: ds) ρ = some (.rt r, ρ1) := by
  rw [forGo_cons]
  cases q : g d ρ with
  | none => rw [q] at e; cases e
  | some ρ2 =>
    rw [q, bnd_some] at e
    rw [bnd_some, e, bnd_some, forO_rt]
theorem rangeL_eq (lo : Int) (n : Nat) : rangeL lo n = (List.range n).map fun i : Nat => lo + (i : Int) := by
  induction n generalizing lo with
  | zero => rfl
  | succ n ih =>
    unfold rangeL
    rw [ih, List.range_succ_eq_map, List.map_cons, List.map_map]
    congr 1
    · omega
    · congr 1
      funext i
      show lo + 1 + (i : Int) = lo + ((i + 1 : Nat) : Int)
      omega
theorem rangeD_eq (lo hi : Int) : rangeD lo hi = (List.range (hi - lo).toNat).map fun i : Nat => .int (lo + (i : Int)) := by
  unfold rangeD
  rw [rangeL_eq, List.map_map]
  rfl
theorem rangeD_0 (n : Nat) : rangeD 0 (n : Int) = (List.range n).map fun i : Nat => .int (i : Int) := by
  rw [rangeD_eq]
  simp
theorem times_fold (l : List Nat) : ∀ (n : Nat) (acc : Array Nat), (List.replicate n l.toArray).foldl (· ++ ·) acc = acc ++ (List.replicate n l).flatten.toArray
  | 0, acc => by simp
  | n + 1, acc => by
    rw [List.replicate_succ, List.foldl_cons, times_fold l n, List.replicate_succ, List.flatten_cons]
    simp
theorem timesS_sS (l : List Nat) (n : Int) : timesS (sS l) n = sS (List.replicate n.toNat l).flatten := by
  unfold timesS
  split
  · have : n.toNat = 0 := by omega
    rw [this]
    rfl
  · split
    · rename_i h
      rcases Bool.or_eq_true_iff.mp h with h | h
      · have : n = 1 := eq_of_beq h
        subst this
        show sS l = sS (List.replicate 1 l).flatten
        simp
      · have hl : (sS l).length = 0 := eq_of_beq h
        rw [sS_len] at hl
        have : l = [] := List.eq_nil_of_length_eq_zero hl
        subst this
        congr 1
        rw [List.flatten_eq_nil_iff.mpr (fun x hx => List.eq_of_mem_replicate hx)]
    · show (⟨_⟩ : Str) = ⟨_⟩
      congr 1
      rw [show (sS l).cps = l.toArray from rfl, times_fold]
      simp
end Mi
set_option Elab.async false
set_option linter.all false
set_option maxRecDepth 100000
/-! Ev12: equations for Core11, Core12. -/
namespace Mi
open PySem PySem.Spec PyProof.Rows L2
section
variable {ρ : En} {e : M} {ma mb m : MR} {it : MI} {g : MG} {t : MB} {el : MR} {vs : List Nat}
@[simp] theorem mSortSet_c : mSortSet it g t el vs (e :: ρ) = bnd (it (e :: ρ)) fun x => if okW x.2 vs = true then bnd (lcGo g t el vs x.1 x.2 []) fun y => bnd (setFin y.1) fun r => some (r, y.2) else none := (rfl)
theorem intsD_m (ns : List Int) : intsD (ns.map .int) = some ns := intsD_map' ns
@[simp] theorem setFin_i (ns : List Int) : setFin (ns.map .int) = if ns.length ≤ 1000 ∧ (ddI ns).length < 64 then some (.fr ((sortI (ddI ns)).map .int)) else none := by
  unfold setFin
  rw [intsD_map']
  rfl
@[simp] theorem mCount_c : mCount ma mb (e :: ρ) = bnd (ma (e :: ρ)) fun x => bnd (deref x.2 x.1) fun d0 => bnd (listR d0) fun _ => bnd (mb x.2) fun y => bnd (deref y.2 x.1) fun d1 => bnd (deref y.2 y.1) fun d2 => bnd (countD d1 d2) fun k => some (k, y.2) := by
  show (ma (e :: ρ)).bind _ = (ma (e :: ρ)).bind _
  congr 1
  funext x
  obtain ⟨r, ρ1⟩ := x
  show (deref ρ1 r).bind _ = (deref ρ1 r).bind _
  congr 1
  funext d0
  cases d0 <;> rfl
end
@[simp] theorem countD_i (ns : List Int) (n : Int) : countD (.list (ns.map .int)) (.int n) = some (.sh (.int (ns.count n : Nat))) := by
  show (intsD _).map _ = _
  rw [intsD_map']
  rfl
@[simp] theorem modND_i (a b : Int) : modND (.int a) (.int b) = if b ≠ 0 then some (.sh (.int (a.fmod b))) else none := (rfl)
@[simp] theorem divND_i (a b : Int) : divND (.int a) (.int b) = if b ≠ 0 ∧ -1000000 ≤ b ∧ b ≤ 1000000 then some (.sh (.int (a.fdiv b))) else none := (rfl)
@[simp] theorem sumRD_i (n : Int) : sumRD (.int n) = if 0 ≤ n ∧ n ≤ 1000000 then some (.sh (.int (sumTo n))) else none := (rfl)
@[simp] theorem mulNL_i (n : Int) (ds : List D) : mulNL (.int n) (.list ds) = if i62 n = true ∧ ds.length * n.toNat ≤ lim then some (.fr (List.replicate n.toNat ds).flatten) else none := (rfl)
@[simp] theorem sortD_l (ns : List Int) : sortD (.list (ns.map .int)) = some (.fr ((srtL ns).map .int)) := by
  show (intsD _).map _ = _
  rw [intsD_map']
  rfl
@[simp] theorem sortD_t2 (a b : Int) : sortD (.tuple [.int a, .int b]) = some (.fr ((srtL [a, b]).map .int)) := (rfl)
@[simp] theorem mulI_i (a b : Int) : mulI (.int a) (.int b) = if (i64 a || i64 b) = true then some (.sh (.int (a * b))) else none := (rfl)
@[simp] theorem addIS_i (a b : Int) : addIS (.int a) (.int b) = some (.sh (.int (a + b))) := (rfl)
@[simp] theorem addIS_s (a b : Str) : addIS (.str a) (.str b) = if a.length + b.length ≤ lim then some (.sh (.str (a ++ b))) else none := (rfl)
end Mi
set_option Elab.async false
set_option linter.all false
set_option maxRecDepth 100000
/-! Core13: enumerate of lists, tuples, texts, from any count. -/
namespace Mi
open PySem PySem.Spec PyProof.Rows L2
/-- what is gone through: a list, a tuple, a text -/
inductive Sq where
  | l (a : Addr) | t (a : Addr) | s (x : Str)
def kgo (K : Fr0) : Sq → Nat → Hp → Prop
  | .l a, i, H => ∃ xs x, SqL K H a xs ∧ xs[i]? = some x
  | .t a, i, H => ∃ xs x, SqT K H a xs ∧ xs[i]? = some x
  | .s z, i, _ => i < z.cps.size
def kyl (K : Fr0) : Sq → Nat → Hp → V → Prop
  | .l a, i, H, x => ∀ xs, SqL K H a xs → xs[i]? = some x
  | .t a, i, H, x => ∀ xs, SqT K H a xs → xs[i]? = some x
  | .s z, i, _, x => ∃ c, z.cps[i]? = some c ∧ x = .str ⟨#[c]⟩
def kst (K : Fr0) : Sq → Nat → Hp → Prop
  | .l a, i, H => ∃ xs, SqL K H a xs ∧ xs.length ≤ i
  | .t a, i, H => ∃ xs, SqT K H a xs ∧ xs.length ≤ i
  | .s z, i, _ => z.cps.size ≤ i
def kit (it : Addr) : Sq → Nat → Heap → Prop
  | .l a, i, h => h.IsListIter it a i
  | .t a, i, h => h.IsTupleIter it a i
  | .s z, i, h => ∃ tk, h.IsStrIter it (strIterType z) z tk i
theorem kit_obj {it : Addr} {q : Sq} {i : Nat} {h : Heap} (k : kit it q i h) : ∃ o n vs, h.get? it = some o ∧ o.cls = .type n ∧ o.data = .fields vs ∧ n ≠ "enumerate" ∧ n ≠ "list" ∧ n ≠ "tuple" := by
  cases q with
  | l a =>
    obtain ⟨o, e, c, d⟩ := k
    exact ⟨o, _, _, e, c, d, by decide, by decide, by decide⟩
  | t a =>
    obtain ⟨o, e, c, d⟩ := k
    exact ⟨o, _, _, e, c, d, by decide, by decide, by decide⟩
  | s z =>
    obtain ⟨tk, o, e, c, d⟩ := k
    refine ⟨o, _, _, e, c, d, ?_, ?_, ?_⟩ <;> (unfold strIterType; split <;> decide)
theorem kit_keep {it : Addr} {q : Sq} {i : Nat} {h h' : Heap} (k : kit it q i h) (e : ∀ o, h.get? it = some o → h'.get? it = some o) : kit it q i h' := by
  cases q with
  | l a => obtain ⟨o, a, r⟩ := k; exact ⟨o, e o a, r⟩
  | t a => obtain ⟨o, a, r⟩ := k; exact ⟨o, e o a, r⟩
  | s z => obtain ⟨tk, o, a, r⟩ := k; exact ⟨tk, o, e o a, r⟩
theorem isList_cls {h : Heap} {a : Addr} {xs : Array Value} (k : h.IsList a xs) : ∃ o, h.get? a = some o ∧ o.cls = .type "list" := by
  obtain ⟨o, e, c, _⟩ := k
  exact ⟨o, e, c⟩
theorem isTuple_cls {h : Heap} {a : Addr} {xs : Array Value} (k : h.IsTuple a xs) : ∃ o, h.get? a = some o ∧ o.cls = .type "tuple" := by
  obtain ⟨o, e, c, _⟩ := k
  exact ⟨o, e, c⟩
theorem ne_cls {h : Heap} {a b : Addr} {n m : String} (x : ∃ o, h.get? a = some o ∧ o.cls = .type n) (y : ∃ o, h.get? b = some o ∧ o.cls = .type m) (ne : n ≠ m) : a ≠ b := by
  rintro rfl
  obtain ⟨o, e, c⟩ := x
  obtain ⟨o', e', c'⟩ := y
  rw [e] at e'
  cases e'
  rw [c] at c'
  injection c' with c'
  exact ne c'
/-- what an iterator draws, as it stands -/
theorem kdraws {X : Cx} {pins : List (Addr × Obj)} {σ : L2.St} {H : Hp} {s : Shared} {q : Sq} {it e : Addr} {i : Nat} (hc : X.calm = true) (I : Inv X pins σ H s) (k : kit it q i s.heap) (he : ∃ o, s.heap.get? e = some o ∧ o.cls = .type "enumerate") :
    (kgo X.K q i H → ∃ n Pd fpD St, Draws X.prog X.w X.A.in1 it fpD n Pd St ∧ i < n ∧ St i s.heap ∧ e ∉ fpD ∧ (∀ h, St (i + 1) h → kit it q (i + 1) h) ∧ ∀ v, Pd i v → ∃ x, RelV x v ∧ kyl X.K q i H x) ∧
    (kst X.K q i H → kgo X.K q i H ∨ ∃ n Pd fpD St, Draws X.prog X.w X.A.in1 it fpD n Pd St ∧ St n s.heap) := by
  obtain ⟨o, n, vs, eo, co, dd, n1, n2, n3⟩ := kit_obj k
  have hei : e ≠ it := ne_cls he ⟨o, eo, co⟩ (Ne.symm n1)
  cases q with
  | l a =>
    constructor
    · rintro ⟨xs, x, hq, hx⟩
      obtain ⟨its, rv, p, hz⟩ := I.list hq
      have pl := p.isList
      have hne : a ≠ it := ne_cls (isList_cls pl) ⟨o, eo, co⟩ (Ne.symm n2)
      have hae : e ≠ a := ne_cls he (isList_cls pl) (by decide)
      refine ⟨_, _, _, _, Draws.list (A := X.A.in1) (I.ok.hd hc) it a hne its.toArray, ?_, ⟨k, pl⟩, by simp [hei, hae], fun h st => st.1, fun v hv => ?_⟩
      · obtain ⟨u, hu, ru⟩ := rv.get hx
        have := (List.getElem?_eq_some_iff.mp hu).1
        simpa using this
      · have hv' : its[i]? = some v := by simpa using hv
        obtain ⟨u, hu, ru⟩ := rv.get hx
        rw [hu] at hv'
        cases hv'
        exact ⟨x, ru, fun ys hy => by rw [I.list_inj hy hq]; exact hx⟩
    · rintro ⟨xs, hq, hx⟩
      obtain ⟨its, rv, p, hz⟩ := I.list hq
      have pl := p.isList
      have hne : a ≠ it := ne_cls (isList_cls pl) ⟨o, eo, co⟩ (Ne.symm n2)
      right
      have hl := rv.length
      refine ⟨i, fun _ _ => False, [it, a], fun j h => j = i ∧ h.IsListIter it a i ∧ h.IsList a its.toArray, ⟨fun _ _ st => let ⟨o, ho, _⟩ := st.2.1; ⟨o, ho⟩, fun _ _ _ st hk => ⟨st.1, st.2.1.at fun o e => hk it (by simp) o e, st.2.2.at fun o e => hk a (by simp) o e⟩, fun j s Q E hj st hQ => by omega, fun s Q E st hE => wpAny_nextOf_list_end (I.ok.hd hc) st.2.1 st.2.2 (by simp; omega) hE⟩, rfl, k, pl⟩
  | t a =>
    constructor
    · rintro ⟨xs, x, hq, hx⟩
      obtain ⟨its, rv, p, hz⟩ := I.tuple hq
      have pl : s.heap.IsTuple a its.toArray := p
      have hne : a ≠ it := ne_cls (isTuple_cls pl) ⟨o, eo, co⟩ (Ne.symm n3)
      have hae : e ≠ a := ne_cls he (isTuple_cls pl) (by decide)
      refine ⟨_, _, _, _, Draws.tuple (A := X.A.in1) (I.ok.hd hc) it a hne its.toArray, ?_, ⟨k, pl⟩, by simp [hei, hae], fun h st => st.1, fun v hv => ?_⟩
      · obtain ⟨u, hu, ru⟩ := rv.get hx
        have := (List.getElem?_eq_some_iff.mp hu).1
        simpa using this
      · have hv' : its[i]? = some v := by simpa using hv
        obtain ⟨u, hu, ru⟩ := rv.get hx
        rw [hu] at hv'
        cases hv'
        exact ⟨x, ru, fun ys hy => by rw [I.tuple_inj hy hq]; exact hx⟩
    · rintro ⟨xs, hq, hx⟩
      obtain ⟨its, rv, p, hz⟩ := I.tuple hq
      have pl : s.heap.IsTuple a its.toArray := p
      right
      have hl := rv.length
      refine ⟨i, fun _ _ => False, [it, a], fun j h => j = i ∧ h.IsTupleIter it a i ∧ h.IsTuple a its.toArray, ⟨fun _ _ st => let ⟨o, ho, _⟩ := st.2.1; ⟨o, ho⟩, fun _ _ _ st hk => ⟨st.1, st.2.1.at fun o e => hk it (by simp) o e, st.2.2.at fun o e => hk a (by simp) o e⟩, fun j s Q E hj st hQ => by omega, fun s Q E st hE => wpAny_nextOf_tuple_end (I.ok.hd hc) st.2.1 st.2.2 (by simp; omega) hE⟩, rfl, k, pl⟩
  | s z =>
    obtain ⟨tk, k⟩ := k
    constructor
    · intro hi
      refine ⟨_, _, _, _, Draws.text (A := X.A.in1) (I.ok.hd hc) it z tk, hi, k, by simp [hei], fun h st => ⟨tk, st⟩, fun v hv => ?_⟩
      obtain ⟨c, u, hx, rfl⟩ := hv
      exact ⟨.str ⟨#[c]⟩, ⟨u, rfl⟩, c, hx, rfl⟩
    · intro hi
      by_cases h : i < z.cps.size
      · exact .inl h
      · right
        have D := Draws.text (A := X.A.in1) (prog := X.prog) (w := X.w) (I.ok.hd hc) it z tk
        have hx : z.cps[i]? = none := Array.getElem?_eq_none (by omega)
        refine ⟨i, fun _ _ => False, [it], fun j h => j = i ∧ h.IsStrIter it (strIterType z) z tk i, ⟨fun _ _ st => let ⟨o, ho, _⟩ := st.2; ⟨o, ho⟩, fun _ _ _ st hk => ⟨st.1, let ⟨o, ho, r⟩ := st.2; ⟨o, hk it (by simp) o ho, r⟩⟩, fun j s Q E hj st hQ => by omega, fun s Q E st hE => ?_⟩, rfl, k⟩
        have st2 := st.2
        unfold strIterType at st2
        split at st2
        · exact wpAny_nextOf_ascii_end (I.ok.hd hc) st2 hx hE
        · exact wpAny_nextOf_wide_end (I.ok.hd hc) st2 hx hE
def IteF (K : Fr0) (q : Sq) (k0 : Int) : It :=
  ⟨kgo K q, fun i H v H' => ∃ T x, v = .ref T ∧ H T = none ∧ H' = upd H T (.tup [.int (k0 + (i : Nat)), x]) ∧ kyl K q i H x, kst K q⟩
theorem turn_enumF {P : Program} {w : World} {K : Fr0} {elts : List Expr} {kk : Nat} {tpos : Pos} (q : Sq) (k0 : Int) (e it : Addr) :
    Turn P w K (.Tuple elts kk tpos) (IteF K q k0) [e, it] e (fun i h => (∃ old, IsEnum h e it (k0 + ((i : Nat) : Int)) old) ∧ kit it q i h ∧ e ≠ it) where
  mem := by simp
  obj := fun i h st b hb => by
    obtain ⟨⟨old, he⟩, hk, _⟩ := st
    obtain ⟨o, n, vs, ho, hc, hd, _⟩ := kit_obj hk
    have e' : b = e ∨ b = it := by simpa using hb
    rcases e' with z | z
    · rw [z]; exact ⟨_, he, fun v q => nomatch q⟩
    · rw [z]; exact ⟨o, ho, fun v q => by rw [hd] at q; cases q⟩
  keep := fun i h h' st k => let ⟨⟨old, he⟩, hi, hne⟩ := st; ⟨⟨old, k e (by simp) _ he⟩, kit_keep hi fun o q => k it (by simp) o q, hne⟩
  item := by
    intro X hP hw hK hc i pins s σ H E I hf st hg
    subst hP hw hK
    obtain ⟨⟨old, he⟩, hit, hne⟩ := st
    obtain ⟨n, Pd, fpD, St, D, hlt, hst, hef, hnx, hyl⟩ := (kdraws (e := e) hc I hit ⟨_, he, rfl⟩).1 hg
    have hel : e < s.heap.objs.size := Heap.lt_size he
    have hil : it < s.heap.objs.size := by obtain ⟨_, _, _, q, _⟩ := kit_obj hit; exact Heap.lt_size q
    refine wpAny_pyNext_enum_itemC D he hst hlt hne hef fun u h' tk hP ho hst' hT hsz hk => ?_
    obtain ⟨x, ru, hx⟩ := hyl u hP
    refine ⟨_, rfl, wpAny_letOwnedTupleGo_enum (s := { s with heap := h', toks := tk + 1 }) ho fun h'' he' sb => ?_⟩
    have hT2 : h''.get? s.heap.objs.size = some { cls := .type "tuple", data := .seq #[.int (k0 + (i : Nat)) tk, u] } := (sb.2 _ (Nat.ne_of_gt hel)).trans hT
    have new : ObjOk X.prog X.w (upd H s.heap.objs.size (.tup [.int (k0 + (i : Nat)), x])) h'' s.heap.objs.size (.tup [.int (k0 + (i : Nat)), x]) :=
      ⟨by show 2 ≤ sizeLine; decide, [.int (k0 + (i : Nat)) tk, u], .cons ⟨_, rfl⟩ (.cons ru .nil), ⟨_, hT2, rfl, _, rfl⟩⟩
    have I1 : Inv X pins σ (upd H s.heap.objs.size (.tup [.int (k0 + (i : Nat)), x])) { s with heap := h'', toks := tk + 1 } :=
      I.turnedNew (ch := [e, it]) (fun b ob hb q => (sb.2 b (fun z => hb (by simp [z]))).trans (hk b ob (fun z => hb (by simp [z])) (fun z => hb (by simp [z])) q)) hf (Nat.le_refl _) new
    refine ⟨.ref s.heap.objs.size, _, I1, rfl, ⟨_, x, rfl, I.hok.fresh (Nat.le_refl _), rfl, hx⟩, ⟨⟨u, ?_⟩, kit_keep (hnx _ hst') fun o q => (sb.2 it (Ne.symm hne)).trans q, hne⟩, fun b hb => ?_⟩
    · have e1 : k0 + ((i + 1 : Nat) : Int) = k0 + (i : Int) + 1 := by omega
      rw [e1]; exact he'
    · have hb' : b < s.heap.objs.size := by
        have e' : b = e ∨ b = it := by simpa using hb
        rcases e' with z | z
        · rw [z]; exact hel
        · rw [z]; exact hil
      rw [upd_ne (Nat.ne_of_lt hb')]
      exact (hf b hb).1
  done := by
    intro X hP hw hK hc i pins s σ H E I hf st hg
    subst hP hw hK
    obtain ⟨⟨old, he⟩, hit, hne⟩ := st
    obtain ⟨f0, f1, f2, f3, f4, f5⟩ := hf it (by simp)
    have nog : ¬ kgo X.K q i H := fun g => by
      cases q with
      | l a =>
        obtain ⟨xs, x, h1, h2⟩ := g
        obtain ⟨ys, h3, h4⟩ := hg
        rw [I.list_inj h1 h3] at h2
        have := (List.getElem?_eq_some_iff.mp h2).1
        omega
      | t a =>
        obtain ⟨xs, x, h1, h2⟩ := g
        obtain ⟨ys, h3, h4⟩ := hg
        rw [I.tuple_inj h1 h3] at h2
        have := (List.getElem?_eq_some_iff.mp h2).1
        omega
      | s z =>
        have h1 : i < z.cps.size := g
        have h2 : z.cps.size ≤ i := hg
        omega
    obtain ⟨n, Pd, fpD, St, D, hst⟩ := ((kdraws (e := e) hc I hit ⟨_, he, rfl⟩).2 hg).resolve_left nog
    exact wpAny_pyNext_enum_endD D he hst fun h' eb => ⟨rfl, I.turned (t' := s.toks) (fun b o hb q => eb b o hb q) f0 f1 f3 f4 f5⟩
  self := fun A i s Q E st h => let ⟨⟨_, he⟩, _⟩ := st; wpAny_pyIter_enum he h
/-- a value that can be gone through -/
def ksrc (K : Fr0) (H : Hp) (v : V) : Sq → Prop
  | .l a => v = .ref a ∧ ∃ xs, SqL K H a xs
  | .t a => v = .ref a ∧ ∃ xs, SqT K H a xs
  | .s z => v = .str z
def kobj (v : Value) : Sq → Obj
  | .l a => { cls := .type "list_iterator", data := .fields #[.ref a, .int 0 0] }
  | .t a => { cls := .type "tuple_iterator", data := .fields #[.ref a, .int 0 0] }
  | .s z => { cls := .type (strIterType z), data := .fields #[v, .int 0 0] }
theorem kbegins {X : Cx} {pins : List (Addr × Obj)} {σ : L2.St} {H : Hp} {s : Shared} {q : Sq} {v : V} {u : Value} (I : Inv X pins σ H s) (r : RelV v u) (k : ksrc X.K H v q) : ∃ B, Begins u (kobj u q) B ∧ B s.heap ∧ ∀ h it, h.get? it = some (kobj u q) → kit it q 0 h := by
  cases q with
  | l a =>
    obtain ⟨rfl, xs, hq⟩ := k
    obtain ⟨its, rv, p, hz⟩ := I.list hq
    cases r
    exact ⟨_, begins_list a its.toArray, p.isList, fun h it e => ⟨_, e, rfl, rfl⟩⟩
  | t a =>
    obtain ⟨rfl, xs, hq⟩ := k
    obtain ⟨its, rv, p, hz⟩ := I.tuple hq
    cases r
    exact ⟨_, begins_tuple a its.toArray, p, fun h it e => ⟨_, e, rfl, rfl⟩⟩
  | s z =>
    cases k
    obtain ⟨t, rfl⟩ := r
    exact ⟨_, begins_text z t, trivial, fun h it e => ⟨t, _, e, rfl, rfl⟩⟩
set_option maxHeartbeats 1000000 in
theorem meets_enumerate_newB1 {v : Value} {o : Obj} {H : Heap → Prop} (B : Begins v o H) :
    Meets (Builtin.«enumerate.__new__» ⟨[.type "enumerate", v], []⟩) (fun _ R s => H s.heap ∧
      R (.ok (.ret (.ref (s.heap.push o).objs.size))) { s with heap := (s.heap.push o).push { cls := .type "enumerate", data := .fields #[.none, .bool false, .ref s.heap.objs.size, rawInt 0, .none, .none] } }) :=
  .of_wp fun prog w A R s h => by
    obtain ⟨hp, g, d, tk, os⟩ := s; obtain ⟨h1, h⟩ := h
    have hsub := sub_enumerate
    have q1 : ∀ {A' : Around} {E : Value → Shared → Prop} {Q : Value → Shared → Prop}, Q (.ref hp.objs.size) ⟨hp.push o, g, d, tk, os⟩ → wpAny (model prog w) A' (pyIter v) Q E ⟨hp, g, d, tk, os⟩ :=
      fun q => B.iter prog w _ _ ⟨hp, g, d, tk, os⟩ _ h1 q
    wp_walk using q1
    refine wpAny_stack_any fun st => wpAny_pure ?_
    split
    · rename_i c _ _ _ _ _
      cases (c == Value.type "enumerate")
      · wp_walk using q1
        exact ⟨_, rfl, h⟩
      · wp_walk using q1
        exact ⟨_, rfl, h⟩
    · wp_walk using q1
      exact ⟨_, rfl, h⟩
section
variable {prog : Program} {w : World} {A : Around} {E : Value → Shared → Prop} {s : Shared}
theorem enum_begins1 {v : Value} {o : Obj} {H : Heap → Prop} {Q : Value → Shared → Prop} (B : Begins v o H) (h1 : H s.heap)
    (h : ∀ h', IsEnum h' (s.heap.objs.size + 1) s.heap.objs.size 0 .none → h'.get? s.heap.objs.size = some o → h'.objs.size = s.heap.objs.size + 2 →
      (∀ b o, s.heap.get? b = some o → h'.get? b = some o) → Q (.ref (s.heap.objs.size + 1)) { s with heap := h' }) :
    wpAny (model prog w) A (call (.type "enumerate") [v]) Q E s := by
  refine callType_new F.called_enumerate (by decide) (F.typeCall_enumerate_1 _) (F.newCall_enumerate_1 _) (fun obj => F.args_object_init_2 obj _) F.entry_enumerate_new
    (meets_enumerate_newB1 B) ⟨h1, ?_⟩
  have hz : (s.heap.push o).objs.size = s.heap.objs.size + 1 := Heap.size_push ..
  show _ ∧ _
  rw [hz]
  have he : IsEnum ((s.heap.push o).push { cls := .type "enumerate", data := .fields #[.none, .bool false, .ref s.heap.objs.size, rawInt 0, .none, .none] }) (s.heap.objs.size + 1) s.heap.objs.size 0 .none := by
    have := Heap.get?_push_size (s.heap.push o) (o := { cls := .type "enumerate", data := .fields #[.none, .bool false, .ref s.heap.objs.size, rawInt 0, .none, .none] }) rfl
    rw [hz] at this; exact this
  refine ⟨⟨_, he, rfl⟩, h _ he (Heap.get?_push_of_some _ (Heap.get?_push_size _ B.free)) (by rw [Heap.size_push, hz]) fun b o x => Heap.get?_push_of_some _ (Heap.get?_push_of_some _ x)⟩
end
section
variable [KK] {X : Cx} {e a b c tg : Expr} {pos p tpos : Pos} {elts : List Expr} {kk : Nat} {ms : MA}
def iEnumA (K : Fr0) (ta : TA) : TI := fun σ H R => ta σ H fun vs H1 => ∃ v q, vs = [v] ∧ ksrc K H1 v q ∧ R (IteF K q 0) H1
def iEnumB (K : Fr0) (ta : TA) : TI := fun σ H R => ta σ H fun vs H1 => ∃ v q k, vs = [v, .int k] ∧ (-(2 ^ 62) ≤ k ∧ k < 2 ^ 62) ∧ ksrc K H1 v q ∧ R (IteF K q k) H1
theorem enum_pie {pins : List (Addr × Obj)} {σ : L2.St} {H : Hp} {s : Shared} {q : Sq} {v : V} {u : Value} {k0 : Int} {R : It → Hp → Prop} {h' : Heap} (I : Inv X pins σ H s) (hit : ∀ h it, h.get? it = some (kobj u q) → kit it q 0 h)
    (he : IsEnum h' (s.heap.objs.size + 1) s.heap.objs.size k0 .none) (hi : h'.get? s.heap.objs.size = some (kobj u q)) (hk : ∀ b o, s.heap.get? b = some o → h'.get? b = some o) (r : R (IteF X.K q k0) H) :
    PIE X pins σ (.Tuple elts kk tpos) R (.ref (s.heap.objs.size + 1)) { s with heap := h' } := by
  have I2 : Inv X pins σ H { s with heap := h' } := I.kept (t' := s.toks) hk
  refine ⟨s.heap.objs.size + 1, [s.heap.objs.size + 1, s.heap.objs.size], _, _, H, rfl, I2, turn_enumF q k0 (s.heap.objs.size + 1) s.heap.objs.size, ⟨⟨.none, ?_⟩, hit _ _ hi, Nat.succ_ne_self _⟩, fun b hb => ?_, r⟩
  · have e0 : k0 + ((0 : Nat) : Int) = k0 := by omega
    show IsEnum h' _ _ (k0 + ((0 : Nat) : Int)) _
    rw [e0]
    exact he
  · have e' : b = s.heap.objs.size + 1 ∨ b = s.heap.objs.size := by simpa using hb
    have hle : s.heap.objs.size ≤ b := by
      rcases e' with z | z
      · rw [z]; exact Nat.le_add_right _ _
      · rw [z]; exact Nat.le_refl _
    exact I.fpOk hle (I.hok.fresh hle)
theorem pi_enumA {ta : TA} (hg : Gl X "enumerate") (hm : X.mg "enumerate" = none) (ha : PA X [e] ta) (hs : starEach [e] X.env = [(false, eval e X.env)] := by rfl) :
    PI X (.Tuple elts kk tpos) (.Call (.Name "enumerate" p) [e] [] pos) (iEnumA X.K ta) := by
  refine ⟨fun pins s σ H R I h => ?_⟩
  refine Call_ (ld_blt I hg hm boot_enumerate (PyProof.Rows.callWith_type1 (thn (ha.run pos pins s σ H _ I h) fun us s1 ⟨vs, H1, I1, r1, q1⟩ => ?_) hs rfl))
  obtain ⟨v, q, ex, hq, qq⟩ := q1
  subst ex
  cases r1 with
  | cons r rr =>
    cases rr
    obtain ⟨B, hB, b1, hit⟩ := kbegins I1 r hq
    exact enum_begins1 hB b1 fun h' he hi hsz hk => wpAny_pyIter_enum he (enum_pie (v := v) I1 hit he hi hk qq)
theorem pi_enumB {ta : TA} (hg : Gl X "enumerate") (hm : X.mg "enumerate" = none) (ha : PA X [a, b] ta) (hs : starEach [a, b] X.env = [(false, eval a X.env), (false, eval b X.env)] := by rfl) (hs2 : starEach [b] X.env = [(false, eval b X.env)] := by rfl) :
    PI X (.Tuple elts kk tpos) (.Call (.Name "enumerate" p) [a, b] [] pos) (iEnumB X.K ta) := by
  refine ⟨fun pins s σ H R I h => ?_⟩
  refine Call_ (ld_blt I hg hm boot_enumerate (PyProof.Rows.callWith_type1 (thn (ha.run pos pins s σ H _ I h) fun us s1 ⟨vs, H1, I1, r1, q1⟩ => ?_) (by rw [hs, hs2]) (by rw [hs2]; rfl)))
  obtain ⟨v, q, k, ex, hk62, hq, qq⟩ := q1
  subst ex
  cases r1 with
  | cons r rr =>
    cases rr with
    | cons r' rr =>
      cases rr
      obtain ⟨t, rfl⟩ := r'
      obtain ⟨B, hB, b1, hit⟩ := kbegins I1 r hq
      exact enum_begins hB b1 (by omega) (by omega) fun h' he hi hsz hk => wpAny_pyIter_enum he (enum_pie (v := v) I1 hit he hi hk qq)
/-- what the loop gets -/
theorem wk_enumF {K : Fr0} {F : Hp} {q : Sq} {k0 : Int} {ds : List D} (hgo : ∀ i H, i < ds.length → Same F H → kgo K q i H) (hst : ∀ H, Same F H → kst K q ds.length H)
    (hyl : ∀ i H x, i < ds.length → Same F H → kyl K q i H x → ∃ d, ds[i]? = some d ∧ Dv F x d) : Wk (IteF K q k0) F (enumL k0 ds) := by
  refine ⟨fun i H hi s => ?_, fun H s => ?_, fun i F1 H x H' hi s1 s2 y => ?_⟩
  · rw [enumL_len] at hi
    exact hgo i H hi s
  · rw [enumL_len]
    exact hst H s
  · rw [enumL_len] at hi
    obtain ⟨T, z, rfl, hT, rfl, y⟩ := y
    obtain ⟨d, e1, dv⟩ := hyl i H z hi (s1.trans s2) y
    exact ⟨_, _, enumL_get k0 ds i _ e1, post_tup s2 hT (dvs2 (.int _) (dv.mono s1))⟩
theorem src_of {K : Fr0} {F H : Hp} {v : V} {d : D} {ds : List D} (hF : Same F H) (dv : Dv F v d) (e : itemsD d = some ds) : ∃ q, ksrc K H v q ∧ ∀ k0, Wk (IteF K q k0) F (enumL k0 ds) := by
  cases d with
  | list xs =>
    cases e
    cases dv with
    | lst hx dvs =>
      refine ⟨.l _, ⟨rfl, _, .of (hF _ _ hx)⟩, fun k0 => wk_enumF (fun i H hi s => ?_) (fun H s => ⟨_, .of (s _ _ hx), by rw [dvs.len]; exact Nat.le_refl _⟩) fun i H x hi s y => ?_⟩
      · obtain ⟨w, hw, _⟩ := dvs.get (List.getElem?_eq_getElem hi)
        exact ⟨_, w, .of (s _ _ hx), hw⟩
      · obtain ⟨w, hw, dw⟩ := dvs.get (List.getElem?_eq_getElem hi)
        have := y _ (.of (s _ _ hx))
        rw [hw] at this
        cases this
        exact ⟨_, List.getElem?_eq_getElem hi, dw⟩
  | tuple xs =>
    cases e
    cases dv with
    | tup hx dvs =>
      refine ⟨.t _, ⟨rfl, _, .of (hF _ _ hx)⟩, fun k0 => wk_enumF (fun i H hi s => ?_) (fun H s => ⟨_, .of (s _ _ hx), by rw [dvs.len]; exact Nat.le_refl _⟩) fun i H x hi s y => ?_⟩
      · obtain ⟨w, hw, _⟩ := dvs.get (List.getElem?_eq_getElem hi)
        exact ⟨_, w, .of (s _ _ hx), hw⟩
      · obtain ⟨w, hw, dw⟩ := dvs.get (List.getElem?_eq_getElem hi)
        have := y _ (.of (s _ _ hx))
        rw [hw] at this
        cases this
        exact ⟨_, List.getElem?_eq_getElem hi, dw⟩
  | str z =>
    cases e
    cases dv
    refine ⟨.s z, rfl, fun k0 => wk_enumF (fun i H hi s => by rw [charsD_len] at hi; exact hi) (fun H s => by rw [charsD_len]; exact Nat.le_refl _) fun i H x hi s y => ?_⟩
    obtain ⟨c, hc, rfl⟩ := y
    refine ⟨.str ⟨#[c]⟩, ?_, .str _⟩
    unfold charsD
    rw [List.getElem?_map, Array.getElem?_toList, hc]
    rfl
  | none => cases e
  | bool _ => cases e
  | int _ => cases e
  | dict _ => cases e
def enumA : List D → Option (List D)
  | [d] => (itemsD d).map (enumL 0)
  | _ => none
def enumB : List D → Option (List D)
  | [d, .int k] => if i62 k = true then (itemsD d).map (enumL k) else none
  | _ => none
def mEnumA (ms : MA) : MI := fun ρ => do
  let (ds, ρ1) ← ms ρ
  let es ← enumA ds
  some (es, ρ1)
def mEnumB (ms : MA) : MI := fun ρ => do
  let (ds, ρ1) ← ms ρ
  let es ← enumB ds
  some (es, ρ1)
theorem mi_enumA (hg : Gl X "enumerate") (hm : X.mg "enumerate" = none) (ha : MAs X [a] ms) (hs : starEach [a] X.env = [(false, eval a X.env)] := by rfl) : MIt X (.Tuple elts kk tpos) (.Call (.Name "enumerate" p) [a] [] pos) (mEnumA ms) := ⟨(pi_enumA hg hm ha.ok hs).imq fun σ H R q => by
  obtain ⟨F, G, b, ρ, hr, ds, ρ', e, k⟩ := q
  obtain ⟨⟨ds1, ρ1⟩, e1, e⟩ := bind_some e
  obtain ⟨es, e2, e⟩ := bind_some e
  cases e
  refine ⟨F, G, b, ρ, hr, ds1, _, e1, fun F1 H1 vs s1 c1 h1 dvs => ?_⟩
  match ds1, dvs, e2 with
  | [d], .cons dv .nil, e2 =>
    obtain ⟨xs, e3, e4⟩ := map_some (show (itemsD d).map (enumL 0) = some ds from e2)
    subst e4
    obtain ⟨q, hq, wk⟩ := src_of (K := X.K) h1.fh dv e3
    exact ⟨_, q, rfl, hq, k F1 H1 _ s1 c1 h1 (wk 0)⟩⟩
theorem mi_enumB (hg : Gl X "enumerate") (hm : X.mg "enumerate" = none) (ha : MAs X [a, c] ms) (hs : starEach [a, c] X.env = [(false, eval a X.env), (false, eval c X.env)] := by rfl) (hs2 : starEach [c] X.env = [(false, eval c X.env)] := by rfl) :
    MIt X (.Tuple elts kk tpos) (.Call (.Name "enumerate" p) [a, c] [] pos) (mEnumB ms) := ⟨(pi_enumB hg hm ha.ok hs hs2).imq fun σ H R q => by
  obtain ⟨F, G, b, ρ, hr, ds, ρ', e, k⟩ := q
  obtain ⟨⟨ds1, ρ1⟩, e1, e⟩ := bind_some e
  obtain ⟨es, e2, e⟩ := bind_some e
  cases e
  refine ⟨F, G, b, ρ, hr, ds1, _, e1, fun F1 H1 vs s1 c1 h1 dvs => ?_⟩
  match ds1, dvs, e2 with
  | [d, .int n], .cons dv (.cons (.int _) .nil), e2 =>
    obtain ⟨hn, e2⟩ := ite_some' (show (if i62 n = true then (itemsD d).map (enumL n) else none) = some ds from e2)
    obtain ⟨xs, e3, e4⟩ := map_some e2
    subst e4
    obtain ⟨q, hq, wk⟩ := src_of (K := X.K) h1.fh dv e3
    have b62 := i62_ok hn
    exact ⟨_, q, n, rfl, b62, hq, k F1 H1 _ s1 c1 h1 (wk n)⟩⟩
/-! ### texts and tuples of texts of the module -/
theorem me_gstr {x : Str} {z : Str} (hd : ∃ u, X.mg x = some u ∧ RelV (.str z) u) (hg : Gl X x) (hdb : (x == ("__debug__" : Str)) = false := by decide) : ME X (.Name x p) (mC (.str z)) := by
  obtain ⟨u, hm, r⟩ := hd
  exact me_const (pe_glob hg hm r hdb) fun _ => .str _
/-- a tuple of texts of the module -/
def KtAt (K : Fr0) (mg : Str → Option Value) (x : Str) (L : List Str) : Prop := ∃ (a : Addr) (o : Obj) (its : Array Value) (n : Nat), mg x = some (.ref a) ∧ K.lookup a = some o ∧ o.cls = .type "tuple" ∧ o.dict = none ∧ o.data = .seq its n ∧ its.size ≤ sizeLine ∧ Vals (L.map V.str) its.toList
theorem KtAt.sq {K : Fr0} {mg : Str → Option Value} {x : Str} {L : List Str} (h : KtAt K mg x L) : ∃ a, mg x = some (.ref a) ∧ (∃ o, K.lookup a = some o ∧ o.cls = .type "tuple" ∧ o.dict = none) ∧ ∀ H, SqT K H a (L.map V.str) := by
  obtain ⟨a, o, its, n, e, h1, h2, h3, h4, h5, h6⟩ := h
  exact ⟨a, e, ⟨o, h1, h2, h3⟩, fun H => .inr ⟨o, its, n, h1, h2, h4, h5, h6⟩⟩
def ktD (L : List Str) : D → Option R
  | .int i => (atI L i).map fun z => .sh (.str z)
  | _ => none
theorem atI_map {α β : Type} (f : α → β) (xs : List α) (i : Int) : atI (xs.map f) i = (atI xs i).map f := by
  unfold atI
  rw [List.length_map]
  cases ixN xs.length i with
  | none => rfl
  | some j =>
    show (xs.map f)[j]? = (xs[j]?).map f
    rw [List.getElem?_map]
theorem me_kt {L : List Str} {x : Str} {m : MR} (hd : KtAt KK.K X.mg x L) (hg : Gl X x) (hb : ME X b m) (hs : PlainIx b) (hK : X.K = KK.K := by rfl) (hdb : (x == ("__debug__" : Str)) = false := by decide) : ME X (.Subscript (.Name x p) b pos) (mUn (ktD L) m) := by
  obtain ⟨d, hm, _, hk⟩ := hd.sq
  rw [← hK] at hk
  refine ⟨(pe_ix ix_tup (pe_glob (v := .ref d) hg hm rfl hdb) hb.ok hs).imq fun σ H Q q => ?_⟩
  obtain ⟨F, G, b', ρ, hr, r', ρ', e, k⟩ := q
  obtain ⟨⟨r1, ρ1⟩, e1, e⟩ := bind_some e
  obtain ⟨d1, e3, e⟩ := bind_some e
  obtain ⟨z, e5, e⟩ := bind_some e
  cases e
  refine (show tM m σ H (fun y H2 => rIxT X.K (.ref d) y H2 Q) from ⟨F, G, b', ρ, hr, r1, _, e1, fun F1 H1 v1 s1 c1 h1 k1 => ?_⟩)
  have bd := k1.bd h1 e3
  match d1, bd, e5 with
  | .int i, bd, e5 =>
    obtain ⟨y, e6, e7⟩ := map_some (show (atI L i).map (fun z => R.sh (.str z)) = some r' from e5)
    subst e7
    exact ⟨d, _, i, .str y, rfl, bd.int, hk _, by rw [atI_map, e6]; rfl, k F1 H1 _ s1 c1 h1 (.str y)⟩
def ktIdx (L : List Str) : D → Option R
  | .str z => (idxS z L).map fun j => .sh (.int (j : Nat))
  | _ => none
theorem me_ktIndex {L : List Str} {x : Str} {m : MR} {apos cpos : Pos} (hd : KtAt KK.K X.mg x L) (hg : Gl X x) (he : ME X b m) (hK : X.K = KK.K := by rfl) (hdb : (x == ("__debug__" : Str)) = false := by decide)
    (hbase : attributeBase (.Name x p) "index" X.env (eval (.Name x p) X.env) = eval (.Name x p) X.env := by rfl)
    (hfew : ((backTo cpos (starEach (b :: []) X.env)).all (fun x => !x.1) && (backToKw cpos (keywordEach [] X.env)).all (fun x => x.1.isSome)
      && decide ((b :: ([] : List Expr)).length + ([] : List Keyword).length + (if ([] : List Keyword).isEmpty then 0 else 1) < 30)) = true := by rfl)
    (hline : (apos.endLine == cpos.line) = true := by rfl) (hs : starEach (b :: []) X.env = (false, eval b X.env) :: starEach [] X.env := by rfl) (hplain : (backTo cpos (starEach [] X.env)).any (·.1) = false := by rfl) :
    ME X (.Call (.Attribute (.Name x p) "index" apos) [b] [] cpos) (mUn (ktIdx L) m) := by
  obtain ⟨d, hm, ⟨o, o1, o2, o3⟩, hk⟩ := hd.sq
  rw [← hK] at hk o1
  refine ⟨(pe_bm PySem.F.plainAttrs_tuple PySem.F.slot_tuple_index PySem.F.type_tuple_index mt_tup_index (pe_glob (v := .ref d) hg hm rfl hdb) (pa_cons he.ok pa_nil hs) hbase hfew hline hs hplain).imq fun σ H Q q => ?_⟩
  obtain ⟨F, G, b', ρ, hr, r', ρ', e, k⟩ := q
  obtain ⟨⟨r1, ρ1⟩, e1, e⟩ := bind_some e
  obtain ⟨d1, e3, e⟩ := bind_some e
  obtain ⟨z, e5, e⟩ := bind_some e
  cases e
  refine ⟨.inr (.inl ⟨rfl, o, o1, o2, o3⟩), F, G, b', ρ, hr, r1, _, e1, fun F1 H1 v1 s1 c1 h1 k1 => ?_⟩
  have bd := k1.bd h1 e3
  match d1, bd, e5 with
  | .str y, bd, e5 =>
    obtain ⟨j, e6, e7⟩ := map_some (show (idxS y L).map (fun j => R.sh (.int (j : Nat))) = some r' from e5)
    subst e7
    obtain ⟨o5, o6⟩ := idxS_ok e6
    exact ⟨d, L, y, j, rfl, by rw [bd.str], hk _, o5, fun m hm q => (o6 m y hm q) rfl, k F1 H1 _ s1 c1 h1 (.int _)⟩
theorem me_ktLen {L : List Str} {x ln : Str} {q : Pos} (hd : KtAt KK.K X.mg x L) (hg : Gl X x) (hg2 : Gl X ln) (hm2 : X.mg ln = none) (hv : bootBuiltins ln = some (.builtin "len")) (hK : X.K = KK.K := by rfl) (hdb : (x == ("__debug__" : Str)) = false := by decide) (hn : ln ≠ "__name__" := by decide) (hdb2 : (ln == ("__debug__" : Str)) = false := by decide)
    (hs : starEach ((.Name x q) :: []) X.env = (false, eval (.Name x q) X.env) :: starEach [] X.env := by rfl) (hpl : (backTo pos (starEach [] X.env)).any (·.1) = false := by rfl) : ME X (.Call (.Name ln p) [.Name x q] [] pos) (mC (.int (L.length : Nat))) := by
  obtain ⟨d, hm, _, hk⟩ := hd.sq
  rw [← hK] at hk
  refine ⟨(pe_callB call_len_seq hg2 hm2 hv (pa_cons (pe_glob (v := .ref d) hg hm rfl hdb) pa_nil hs) hn hdb2 hs hpl).imq fun σ H Q q => ?_⟩
  obtain ⟨F, G, b', ρ, hr, r', ρ', e, k⟩ := q
  cases e
  refine ⟨d, L.map V.str, rfl, .inr (hk _), ?_⟩
  rw [List.length_map]
  exact k F H _ (.refl _) (.refl _ _) hr (.int _)
end
end Mi
set_option Elab.async false
set_option linter.all false
set_option maxRecDepth 100000
/-! Ev13: equations for Core13. -/
namespace Mi
open PySem PySem.Spec PyProof.Rows L2
section
variable {ρ : En} {e : M} {ma mb m : MR} {it : MI} {g : MG} {t : MB} {el : MR} {vs : List Nat} {mas : MA}
@[simp] theorem mEnumA_c : mEnumA mas (e :: ρ) = bnd (mas (e :: ρ)) fun x => bnd (enumA x.1) fun ds => some (ds, x.2) := (rfl)
@[simp] theorem mEnumB_c : mEnumB mas (e :: ρ) = bnd (mas (e :: ρ)) fun x => bnd (enumB x.1) fun ds => some (ds, x.2) := (rfl)
end
@[simp] theorem enumA_1 (d : D) : enumA [d] = (itemsD d).map (enumL 0) := (rfl)
@[simp] theorem enumB_1 (d : D) (k : Int) : enumB [d, .int k] = if i62 k = true then (itemsD d).map (enumL k) else none := (rfl)
@[simp] theorem ktD_i (L : List Str) (i : Int) : ktD L (.int i) = (atI L i).map fun z => .sh (.str z) := (rfl)
@[simp] theorem ktIdx_s (L : List Str) (z : Str) : ktIdx L (.str z) = (idxS z L).map fun j => .sh (.int (j : Nat)) := (rfl)
end Mi
set_option Elab.async false
set_option linter.all false
set_option maxRecDepth 100000
/-! Core14: text.split, text.replace of written texts, a written dict's get, in of tuples and texts. -/
namespace Mi
open PySem PySem.Spec PyProof.Rows L2
section
variable [KK] {X : Cx} {e a b c o f tg : Expr} {pos p tpos apos : Pos} {ma mb m mo : MR} {ms : MA} {es : List Expr}
theorem hu1 {k : Nat} {A : Around} (hr : Room k A) : A.units + 1 < cLine := by
  have := hr.un
  omega
/-! ### text.split -/
def splitD : D → D → Option R
  | .str a, .str b => if b.length ≠ 0 ∧ a.length ≤ lim then some (.fr ((Txt.split a b).map .str)) else none
  | _, _ => none
theorem me_split (ho : ME X a ma) (he : ME X b mb) (hs : starEach [b] X.env = [(false, eval b X.env)] := by rfl) (hbase : attributeBase a "split" X.env (eval a X.env) = eval a X.env := by rfl) (hline : (apos.endLine == pos.line) = true := by rfl) :
    ME X (.Call (.Attribute a "split" apos) [b] [] pos) (mM1 splitD ma mb) := ⟨(pe_m1 PySem.F.slot_str_split PySem.F.type_str_split mt_split ho.ok he.ok hs hbase hline).imq (tM_m1 fun F H v1 v2 d1 d2 k s b1 b2 e Q q => by
  match d1, d2, e, b1, b2 with
  | .str a, .str b, e, b1, b2 =>
    obtain ⟨⟨h1, h2⟩, rfl⟩ := ite_some (show (if b.length ≠ 0 ∧ a.length ≤ lim then some (R.fr ((Txt.split a b).map .str)) else none) = some k from e)
    refine ⟨a, b, b1.str, by rw [b2.str], by simpa using h1, ?_, fun p hp => q _ _ _ (post_fr s hp (Dvs.of_strs _))⟩
    rw [sizeLine_eq]
    have : a.length ≤ 1000000 := h2
    omega)⟩
/-! ### in -/
def inTD : D → List D → Option Bool
  | .int i, ds => (intsD ds).map fun ns => ns.any fun n => decide (n = i)
  | .str x, ds => (strsD ds).map fun ns => ns.any fun n => decide (n = x)
  | _, _ => none
def inSD : D → Str → Option Bool
  | .str x, z => match x.cps.toList with
    | [c] => some (decide (c ∈ z.cps.toList))
    | _ => none
  | _, _ => none
def inGD (a : D) : D → Option Bool
  | .list ds => inD a (.list ds)
  | .tuple ds => inTD a ds
  | .str z => inSD a z
  | _ => none
theorem inV_ints (i : Int) (ns : List Int) : inV (.int i) (ns.map V.int) = ns.any fun n => decide (n = i) := by
  unfold inV
  rw [List.any_map]
  rfl
theorem inV_strs (x : Str) (ns : List Str) : inV (.str x) (ns.map V.str) = ns.any fun n => decide (n = x) := by
  unfold inV
  rw [List.any_map]
  congr 1
theorem in_tup {F H : Hp} {v1 v2 : V} {d1 : D} {ds : List D} {k : Bool} (s : Same F H) (b1 : Bd F H v1 d1) (b2 : Bd F H v2 (.tuple ds)) (e : inTD d1 ds = some k) (hK : X.K = KK.K) :
    ∃ p xs, v2 = .ref p ∧ (SqL X.K H p xs ∨ SqT X.K H p xs) ∧ flatV v1 = true ∧ xs.all flatV = true ∧ inV v1 xs = k := by
  obtain ⟨p, vs, rfl, h, x⟩ := b2.tup
  match d1, b1, e with
  | .int i, b1, e =>
    obtain ⟨ns, e1, e2⟩ := map_some (show (intsD ds).map (fun ns => ns.any fun n => decide (n = i)) = some k from e)
    rw [intsD_eq e1] at x
    have hv := b1.int
    subst hv
    refine ⟨p, vs, rfl, .inr (.of (s _ _ h)), rfl, ?_, ?_⟩
    · rw [x.ints]; exact all_flat_int ns
    · rw [x.ints, inV_ints]; exact e2
  | .str z, b1, e =>
    obtain ⟨ns, e1, e2⟩ := map_some (show (strsD ds).map (fun ns => ns.any fun n => decide (n = z)) = some k from e)
    rw [strsD_eq e1] at x
    have hv := b1.str
    subst hv
    refine ⟨p, vs, rfl, .inr (.of (s _ _ h)), rfl, ?_, ?_⟩
    · rw [x.strs]; exact all_flat_str ns
    · rw [x.strs, inV_strs]; exact e2
theorem in_sign {F H : Hp} {v1 : V} {d1 : D} {z : Str} {k : Bool} (b1 : Bd F H v1 d1) (e : inSD d1 z = some k) : ∃ c : Nat, v1 = .str ⟨#[c]⟩ ∧ decide (c ∈ z.cps.toList) = k := by
  match d1, b1, e with
  | .str x, b1, e =>
    have e' : (match x.cps.toList with
      | [c] => some (decide (c ∈ z.cps.toList))
      | _ => none) = some k := e
    cases q : x.cps.toList with
    | nil => rw [q] at e'; cases e'
    | cons c r =>
      cases r with
      | cons _ _ => rw [q] at e'; cases e'
      | nil =>
        rw [q] at e'
        refine ⟨c, ?_, Option.some.inj e'⟩
        rw [b1.str]
        congr 1
        obtain ⟨l⟩ := x
        congr 1
        exact Array.toList_inj.mp q
theorem cmp_inG (hu : X.A.units + 65 < cLine) (hK : X.K = KK.K := by rfl) : CmpOk X .In inGD := ⟨_, ((op_inD hu).or op_in_seq).or op_in_sign, fun F H v1 v2 d1 d2 k s b1 b2 e Q q => by
  match d2, e, b2 with
  | .list ds, e, b2 =>
    obtain ⟨⟨h1, h2⟩, rfl⟩ := ite_some (show (if SeqAt.shaped d1 = true ∧ SeqAt.shaped (.list ds) = true then some (ds.any fun z => PyData.eqv z d1) else none) = some k from e)
    exact .inl (.inl ⟨d1, ds, b1.dp s (plain_of_shaped h1), b2.dp s (plain_of_shaped h2), h1, h2, q⟩)
  | .tuple ds, e, b2 =>
    obtain ⟨p, xs, e1, e2, e3, e4, e5⟩ := in_tup (X := X) s b1 b2 e hK
    exact .inl (.inr ⟨p, xs, e1, e2, e3, e4, by rw [e5]; exact q⟩)
  | .str z, e, b2 =>
    obtain ⟨c, e1, e2⟩ := in_sign b1 e
    exact .inr ⟨c, z, e1, b2.str, by rw [e2]; exact q⟩⟩
theorem cmp_notinG (hu : X.A.units + 65 < cLine) (hK : X.K = KK.K := by rfl) : CmpOk X .NotIn (fun a b => (inGD a b).map (!·)) := ⟨_, ((op_notInD hu).or op_notIn_seq).or op_notIn_sign, fun F H v1 v2 d1 d2 k s b1 b2 e Q q => by
  obtain ⟨k', e0, rfl⟩ := map_some e
  clear e
  have e : inGD d1 d2 = some k' := e0
  clear e0
  match d2, e, b2 with
  | .list ds, e, b2 =>
    obtain ⟨⟨h1, h2⟩, rfl⟩ := ite_some (show (if SeqAt.shaped d1 = true ∧ SeqAt.shaped (.list ds) = true then some (ds.any fun z => PyData.eqv z d1) else none) = some k' from e)
    exact .inl (.inl ⟨d1, ds, b1.dp s (plain_of_shaped h1), b2.dp s (plain_of_shaped h2), h1, h2, q⟩)
  | .tuple ds, e, b2 =>
    obtain ⟨p, xs, e1, e2, e3, e4, e5⟩ := in_tup (X := X) s b1 b2 e hK
    exact .inl (.inr ⟨p, xs, e1, e2, e3, e4, by rw [e5]; exact q⟩)
  | .str z, e, b2 =>
    obtain ⟨c, e1, e2⟩ := in_sign b1 e
    exact .inr ⟨c, z, e1, b2.str, by rw [e2]; exact q⟩⟩
/-! ### text.replace of written texts: a token is out -/
structure MEt (X : Cx) (e : Expr) (m : MR) : Prop where
  ok : PET X e (tM m)
structure MAt (X : Cx) (es : List Expr) (m : MA) : Prop where
  ok : PAT X es (tMA m)
structure ME1 (X : Cx) (e : Expr) (m : MR) : Prop where
  ok : ∀ (pins : List (Addr × Obj)) (s : Shared) (σ : L2.St) (H : Hp) (Q : VK), Inv X pins σ H s → tM m σ H Q → wpAny (model X.prog X.w) X.A (eval e X.env) (fun u s1 => 1 ≤ s1.toks ∧ EP X pins σ Q u s1) X.xe s
theorem met_of (h : ME X e m) : MEt X e m := ⟨CwR.PET.of h.ok⟩
theorem mat_nil : MAt X [] aNil := ⟨fun pos pins s σ H Q _ I q => (ma_nil (X := X)).ok.run pos pins s σ H Q I q⟩
theorem tMA_cons {m : MR} {ms : MA} (σ : L2.St) (H : Hp) (Q : List V → Hp → Prop) (q : tMA (aCons m ms) σ H Q) : tCons (tM m) (tMA ms) σ H Q := by
  obtain ⟨F, G, b, ρ, h0, ds, ρ', e, k⟩ := q
  obtain ⟨⟨d, ρ1⟩, e1, e⟩ := bind_some e
  obtain ⟨⟨ds2, ρ2⟩, e2, e⟩ := bind_some e
  cases e
  obtain ⟨⟨r, ρ0⟩, e0, e1⟩ := bind_some e1
  refine ⟨F, G, b, ρ, h0, r, ρ0, e0, fun F1 H1 v1 s1 c1 h1 k1 => ?_⟩
  obtain ⟨F2, s2, c2, h2, dv⟩ := cap_ok h1 k1 e1
  exact ⟨F2, G, b, ρ1, h2, ds2, ρ', e2, fun F3 H3 vs s3 c3 h3 dvs => k F3 H3 _ (s1.trans (s2.trans s3)) (c1.trans (c2.trans c3)) h3 (.cons (dv.mono s3) dvs)⟩
theorem mat_cons (ha : MEt X e m) (hr : MAt X es ms) (hs : starEach (e :: es) X.env = (false, eval e X.env) :: starEach es X.env := by rfl) : MAt X (e :: es) (aCons m ms) :=
  ⟨fun pos pins s σ H Q h0 I q => pat_cons ha.ok hr.ok hs pos pins s σ H Q h0 I (tMA_cons σ H Q q)⟩
/-- the first item gives out a token -/
theorem ma_consT (ha : ME1 X e m) (hr : MAt X es ms) (hs : starEach (e :: es) X.env = (false, eval e X.env) :: starEach es X.env := by rfl) : MAs X (e :: es) (aCons m ms) := by
  refine ⟨⟨fun pos pins s σ H Q I q => ?_⟩⟩
  have q1 := tMA_cons σ H Q q
  rw [hs]
  show wpAny _ _ (spliced ((false, eval e X.env) :: backTo pos (starEach es X.env))) _ _ s
  refine Calls.spliced_cons (thn (ha.ok pins s σ H _ I q1) fun v s1 q2 => ?_)
  obtain ⟨hk, x, H1, I1, r1, q1⟩ := q2
  exact thn (hr.ok pos pins s1 σ H1 _ hk I1 q1) fun us s2 ⟨xs, H2, I2, r2, q2⟩ => ⟨x :: xs, H2, I2, .cons r1 r2, q2⟩
theorem me1_const {x : Str} {j : Nat} {p : Pos} : ME1 X (.Constant (.str x) j p) (mC (.str x)) := ⟨fun pins s σ H Q I q => by
  obtain ⟨F, G, b', ρ, hr, rr, ρ', e, k⟩ := q
  cases e
  exact Calls.Constant_str ⟨Nat.succ_le_succ (Nat.zero_le _), .str x, H, I.tok _, ⟨s.toks, rfl⟩, k F H (.str x) (.refl _) (.refl _ _) hr (.str x)⟩⟩
theorem me1_l {op : Operator} {g : D → D → Option R} (ob : BinOk X op g) (ha : ME1 X a ma) (hb : ME X b mb) : ME1 X (.BinOp a op b pos) (mBin g ma mb) := by
  obtain ⟨r, h1, h2⟩ := ob.ex
  refine ⟨fun pins s σ H Q I q => ?_⟩
  have q1 : tM ma σ H fun x H1 => tM mb σ H1 fun y H2 => r x y H2 Q := tM_bin h2 σ H Q q
  refine wpAny_BinOp (thn (ha.ok pins s σ H _ I q1) fun v s1 z => ?_)
  obtain ⟨hk, x, H1, I1, rx, q2⟩ := z
  refine wpAny_mono (PySem.wpAny_toks (hb.ok.run pins s1 σ H1 _ I1 q2)) (fun u s2 z => ?_) fun _ _ z => z.2
  obtain ⟨hk2, y, H2, I2, ry, q3⟩ := z
  refine wpAny_mono (PySem.wpAny_toks (h1 pins s2 σ H2 x y v u Q I2 rx ry q3)) (fun v s3 z => ?_) fun _ _ z => z.2
  exact ⟨by have := z.1; omega, z.2⟩
theorem me1_r {op : Operator} {g : D → D → Option R} (ob : BinOk X op g) (ha : ME X a ma) (hb : ME1 X b mb) : ME1 X (.BinOp a op b pos) (mBin g ma mb) := by
  obtain ⟨r, h1, h2⟩ := ob.ex
  refine ⟨fun pins s σ H Q I q => ?_⟩
  have q1 : tM ma σ H fun x H1 => tM mb σ H1 fun y H2 => r x y H2 Q := tM_bin h2 σ H Q q
  refine wpAny_BinOp (thn (ha.ok.run pins s σ H _ I q1) fun v s1 z => ?_)
  obtain ⟨x, H1, I1, rx, q2⟩ := z
  refine thn (hb.ok pins s1 σ H1 _ I1 q2) fun u s2 z => ?_
  obtain ⟨hk2, y, H2, I2, ry, q3⟩ := z
  refine wpAny_mono (PySem.wpAny_toks (h1 pins s2 σ H2 x y v u Q I2 rx ry q3)) (fun v s3 z => ?_) fun _ _ z => z.2
  exact ⟨by have := z.1; omega, z.2⟩
def replD (y z : Str) : D → Option R
  | .str x => if x.length + (x.length + 1) * z.length ≤ 1000000 then some (.sh (.str (Txt.replace x y z))) else none
  | _ => none
theorem met_repl {y z : Str} {j k : Nat} {c0 c1 : Pos} (ho : ME X o mo) (hyz : (y == z) = false := by decide)
    (hst : starEach [.Constant (.str y) j c0, .Constant (.str z) k c1] X.env = [(false, eval (.Constant (.str y) j c0) X.env), (false, eval (.Constant (.str z) k c1) X.env)] := by rfl)
    (hbase : attributeBase o "replace" X.env (eval o X.env) = eval o X.env := by rfl) (hline : (apos.endLine == pos.line) = true := by rfl) :
    MEt X (.Call (.Attribute o "replace" apos) [.Constant (.str y) j c0, .Constant (.str z) k c1] [] pos) (mUn (replD y z) mo) := ⟨fun pins s σ H Q h0 I q => by
  refine CwR.pet_replC ho.ok hyz hst hbase hline pins s σ H Q h0 I ?_
  obtain ⟨F, G, b, ρ, hr, r', ρ', e, k⟩ := q
  obtain ⟨⟨r1, ρ1⟩, e1, e⟩ := bind_some e
  obtain ⟨d1, e3, e⟩ := bind_some e
  obtain ⟨w, e5, e⟩ := bind_some e
  cases e
  refine ⟨F, G, b, ρ, hr, r1, _, e1, fun F1 H1 v1 s1 c1 h1 k1 => ?_⟩
  have bd := k1.bd h1 e3
  match d1, bd, e5 with
  | .str x, bd, e5 =>
    obtain ⟨hl, e6⟩ := ite_some (show (if x.length + (x.length + 1) * z.length ≤ 1000000 then some (R.sh (.str (Txt.replace x y z))) else none) = some r' from e5)
    subst e6
    exact ⟨x, bd.str, by omega, k F1 H1 _ s1 c1 h1 (.str _)⟩⟩
/-! ### a written dict of two texts: get -/
def litD (a x b y z : Str) : D → Option R
  | .str s => some (.sh (.str (if s = a then x else if s = b then y else z)))
  | _ => none
theorem me_lit2 {a x b y z : Str} {j1 j2 j3 j4 j5 : Nat} {p1 p2 p3 p4 p5 dp cpos : Pos} (hu : X.A.units + 1 < cLine) (he : ME X e m) (hab : a ≠ b := by decide)
    (m2 : M2 X (.Dict [some (.Constant (.str a) j1 p1), some (.Constant (.str b) j2 p2)] [.Constant (.str x) j3 p3, .Constant (.str y) j4 p4] dp) "get" apos e (.Constant (.str z) j5 p5) cpos := by exact ⟨rfl, rfl, rfl, rfl⟩) :
    ME X (.Call (.Attribute (.Dict [some (.Constant (.str a) j1 p1), some (.Constant (.str b) j2 p2)] [.Constant (.str x) j3 p3, .Constant (.str y) j4 p4] dp) "get" apos) [e, .Constant (.str z) j5 p5] [] cpos) (mUn (litD a x b y z) m) :=
  ⟨(pe_dget2 hu (pe_disp (pps_cons pe_str pe_str (pps_cons pe_str pe_str pps_nil)) (by rfl) (by rfl) (fun z => by cases z) (by simp)) he.ok pe_str m2).imq fun σ H Q q => by
    obtain ⟨F, G, b', ρ, hr, r', ρ', e, k⟩ := q
    obtain ⟨⟨r1, ρ1⟩, e1, e⟩ := bind_some e
    obtain ⟨d1, e3, e⟩ := bind_some e
    obtain ⟨w, e5, e⟩ := bind_some e
    cases e
    intro p hp
    have hm : mergeK [] [((.inr a : Key), V.str x), (.inr b, V.str y)] = [(.inr a, V.str x), (.inr b, V.str y)] := by
      have : ¬ (Sum.inr a : Key) = .inr b := fun z => hab (Sum.inr.inj z)
      simp [mergeK, putK, this]
    refine ⟨upd_same, [(.inr a, .str x), (.inr b, .str y)], rfl, by simp, p, rfl, .inl ⟨_, .inl upd_same⟩, ?_⟩
    rw [hm]
    obtain ⟨H0, hH0⟩ : ∃ H0, H0 = upd (upd H p (.dK [])) p (.dK [((.inr a : Key), V.str x), (.inr b, V.str y)]) := ⟨_, rfl⟩
    have at0 : H0 p = some (.dK [((.inr a : Key), V.str x), (.inr b, V.str y)]) := by rw [hH0]; exact upd_same
    have sHH : Same H H0 := fun q o e => by
      rw [hH0, upd_ne (ne_of_none e hp), upd_ne (ne_of_none e hp)]
      exact e
    rw [← hH0]
    have fp : F p = none := hr.fh.free hp
    have gp : G p = none := hr.gh.free hp
    have hr0 : Rp F G H0 b' σ ρ := hr.grow (.refl _) sHH (hr.fh.trans sHH) fun i q o eq => (hr.own_some o eq).elim fun _ h => h.2.1
    have gg : Same G (upd G p (.dK [((.inr a : Key), V.str x), (.inr b, V.str y)])) := fun q o e => by
      rw [upd_ne (ne_of_none e gp)]
      exact e
    have hr1 : Rp F (upd G p (.dK [((.inr a : Key), V.str x), (.inr b, V.str y)])) H0 b' σ ρ := hr0.more (fun q o e => by
      by_cases hq : q = p
      · subst hq
        rw [upd_same] at e
        rw [at0, e]
      · rw [upd_ne hq] at e
        exact hr0.gh _ _ e) fun i q o eq => by
        obtain ⟨vs, h1, h2, h3⟩ := hr.own_some o eq
        have : q ≠ p := ne_of_none h1 hp
        rw [upd_ne this]
        exact h3
    refine ⟨F, _, b', ρ, hr1, r1, _, e1, fun F1 H1 v1 s1 c1 h1 k1 => ?_⟩
    have bd := k1.bd h1 e3
    have at1 : H1 p = some (.dK [((.inr a : Key), V.str x), (.inr b, V.str y)]) := h1.gh _ _ upd_same
    match d1, bd, e5 with
    | .str s, bd, e5 =>
      cases e5
      have hv := bd.str
      subst hv
      refine ⟨valV [((.inr a : Key), V.str x), (.inr b, V.str y)] (.inr s), DGet.k (k := .inr s) at1, ?_⟩
      have hval : (valV [((.inr a : Key), V.str x), (.inr b, V.str y)] (.inr s)).getD (V.str z) = V.str (if s = a then x else if s = b then y else z) := by
        by_cases h : s = a
        · subst h
          rw [if_pos rfl, valV_pos rfl]
          rfl
        · rw [if_neg h]
          by_cases h2 : s = b
          · subst h2
            have : ¬ (Sum.inr a : Key) = .inr s := fun z => hab (Sum.inr.inj z)
            simp [valV, List.find?_cons, this]
          · have n1 : ¬ (Sum.inr a : Key) = .inr s := fun z => h (Sum.inr.inj z).symm
            have n2 : ¬ (Sum.inr b : Key) = .inr s := fun z => h2 (Sum.inr.inj z).symm
            simp [valV, List.find?_cons, n1, n2, h2]
      rw [hval]
      exact k F1 H1 _ s1 (c1.less gg) (h1.less gg) (.str _)⟩
end
end Mi
set_option Elab.async false
set_option linter.all false
set_option maxRecDepth 100000
/-! Ev14: equations for Core14. -/
namespace Mi
open PySem PySem.Spec PyProof.Rows L2
@[simp] theorem splitD_s (a b : Str) : splitD (.str a) (.str b) = if b.length ≠ 0 ∧ a.length ≤ lim then some (.fr ((Txt.split a b).map .str)) else none := (rfl)
@[simp] theorem inGD_l (a : D) (ds : List D) : inGD a (.list ds) = inD a (.list ds) := (rfl)
@[simp] theorem inGD_t (a : D) (ds : List D) : inGD a (.tuple ds) = inTD a ds := (rfl)
@[simp] theorem inGD_s (a : D) (z : Str) : inGD a (.str z) = inSD a z := (rfl)
@[simp] theorem replD_s (x y z : Str) : replD y z (.str x) = if x.length + (x.length + 1) * z.length ≤ 1000000 then some (.sh (.str (Txt.replace x y z))) else none := (rfl)
@[simp] theorem litD_s (a x b y z s : Str) : litD a x b y z (.str s) = some (.sh (.str (if s = a then x else if s = b then y else z))) := (rfl)
end Mi
set_option Elab.async false
set_option linter.all false
set_option maxRecDepth 100000
/-! Core15: texts split and texts replaced, by lists of signs. -/
namespace Law
open PySem PySem.Spec PyProof.Rows L2 Mi
theorem split_sS {a b : List Nat} (hb : b ≠ []) (hk : b.all (· < 256) = true) : Txt.split (sS a) (sS b) = (TL.spl b 0 [] a).map sS := SX.split_S hb hk
theorem replS_any {y z : List Nat} {P : Nat → Prop} (hz : ∀ c ∈ z, P c) : ∀ (l : List Nat) (s : Nat), (∀ c ∈ l, P c) → (∀ c ∈ PySem.StrLaws.replS y z s l, P c) ∧ (PySem.StrLaws.replS y z s l).length ≤ l.length * (z.length + 1)
  | [], s, _ => by
    have : PySem.StrLaws.replS y z s [] = [] := by cases s <;> rfl
    rw [this]
    exact ⟨fun c h => (by cases h), by simp⟩
  | c :: r, s + 1, h => by
    have ih := replS_any (y := y) hz r s fun x hx => h x (List.mem_cons_of_mem _ hx)
    refine ⟨ih.1, Nat.le_trans ih.2 ?_⟩
    rw [List.length_cons]
    exact Nat.mul_le_mul_right _ (Nat.le_succ _)
  | c :: r, 0, h => by
    have hr := fun x hx => h x (List.mem_cons_of_mem _ hx)
    show (∀ x ∈ (if (c :: r).take y.length = y then z ++ PySem.StrLaws.replS y z (y.length - 1) r else c :: PySem.StrLaws.replS y z 0 r), P x) ∧ (if (c :: r).take y.length = y then z ++ PySem.StrLaws.replS y z (y.length - 1) r else c :: PySem.StrLaws.replS y z 0 r).length ≤ _
    rw [List.length_cons, Nat.succ_mul]
    by_cases q : (c :: r).take y.length = y
    · rw [if_pos q]
      have ih := replS_any (y := y) hz r (y.length - 1) hr
      refine ⟨fun x hx => ?_, ?_⟩
      · rcases List.mem_append.mp hx with hx | hx
        · exact hz x hx
        · exact ih.1 x hx
      · rw [List.length_append]
        have := ih.2
        omega
    · rw [if_neg q]
      have ih := replS_any (y := y) hz r 0 hr
      refine ⟨fun x hx => ?_, ?_⟩
      · rcases List.mem_cons.mp hx with rfl | hx
        · exact h _ List.mem_cons_self
        · exact ih.1 x hx
      · rw [List.length_cons]
        have := ih.2
        omega
theorem repl_ok {x y z : List Nat} {P : Nat → Prop} (hy : 1 ≤ y.length) (hx : ∀ c ∈ x, P c) (hz : ∀ c ∈ z, P c) : ∃ l, Txt.replace (sS x) (sS y) (sS z) = sS l ∧ (∀ c ∈ l, P c) ∧ l.length ≤ x.length * (z.length + 1) := by
  have e := PySem.StrLaws.replace_list (x := sS x) (y := sS y) (z := sS z) (by simpa using hy)
  rw [sS_list, sS_list, sS_list] at e
  have h := replS_any (y := y) hz x 0 hx
  refine ⟨PySem.StrLaws.replL y z x, ?_, h.1, h.2⟩
  rw [← e]
  exact (sS_of _).symm
end Law
/-! each def by a plain function of its slots (printed by gen.py) -/
namespace Law
open PySem PySem.Spec PyProof.Rows L2 Mi
set_option maxRecDepth 100000
def kd_SIGNALS : List (Str × Str) := [(Str.ofString "a", Str.ofString ".-"), (Str.ofString "b", Str.ofString "-..."), (Str.ofString "c", Str.ofString "-.-."), (Str.ofString "d", Str.ofString "-.."), (Str.ofString "e", Str.ofString "."), (Str.ofString "f", Str.ofString "..-."), (Str.ofString "g", Str.ofString "--."), (Str.ofString "h", Str.ofString "...."), (Str.ofString "i", Str.ofString ".."), (Str.ofString "j", Str.ofString ".---"), (Str.ofString "k", Str.ofString "-.-"), (Str.ofString "l", Str.ofString ".-.."), (Str.ofString "m", Str.ofString "--"), (Str.ofString "n", Str.ofString "-."), (Str.ofString "o", Str.ofString "---"), (Str.ofString "p", Str.ofString ".--."), (Str.ofString "q", Str.ofString "--.-"), (Str.ofString "r", Str.ofString ".-."), (Str.ofString "s", Str.ofString "..."), (Str.ofString "t", Str.ofString "-"), (Str.ofString "u", Str.ofString "..-"), (Str.ofString "v", Str.ofString "...-"), (Str.ofString "w", Str.ofString ".--"), (Str.ofString "x", Str.ofString "-..-"), (Str.ofString "y", Str.ofString "-.--"), (Str.ofString "z", Str.ofString "--..")]
def b_letter_of_1 : MS' := (sSeq (sIf (mCmp eqD (mUn (kdD kd_SIGNALS) (mVar 1)) (mVar 0))
  (sSeq (sRet (mVar 1))
  sNil)
  sNil)
  sNil)
-- letter_of: slots 0 signal 1 letter
def m_letter_of : MS' := (sSeq (sFor (mIter (mC (.str (Str.ofString "abcdefghijklmnopqrstuvwxyz")))) (gNm 1) b_letter_of_1)
  (sSeq (sRet (mC .none))
  sNil))
def phi_letter_of : List D → Option R := runN 2 1 m_letter_of
def l_units_1 : MR := (mIf (mCmp eqD (mVar 3) (mC (.str (Str.ofString ".")))) (mC (.int 1)) (mC (.int 3)))
def l_units_2 : MR := (mBin subD (mBin addD (mUn sumD (mLc (mIter (mUn (kdD kd_SIGNALS) (mVar 2))) (gNm 3) mYes l_units_1 [3])) (mUn lenD (mUn (kdD kd_SIGNALS) (mVar 2)))) (mC (.int 1)))
-- units: slots 0 word 1 rows 2 letter 3 sign
def m_units : MS' := (sSeq (sSet 1 (mLc (mIter (mVar 0)) (gNm 2) mYes l_units_2 [2]))
  (sSeq (sRet (mBin addD (mUn sumD (mVar 1)) (mBin mulD (mC (.int 3)) (mBin max2D (mC (.int 0)) (mBin subD (mUn lenD (mVar 0)) (mC (.int 1)))))))
  sNil))
def phi_units : List D → Option R := runN 4 1 m_units
def l_line_of_1 : MR := (mIf (mCmp eqD (mVar 3) (mC (.str (Str.ofString ".")))) (mC (.str (Str.ofString "="))) (mC (.str (Str.ofString "==="))))
def l_line_of_2 : MR := (mM1 joinD (mC (.str (Str.ofString " "))) (mLc (mIter (mUn (kdD kd_SIGNALS) (mVar 2))) (gNm 3) mYes l_line_of_1 [3]))
-- line_of: slots 0 word 1 rows 2 letter 3 sign
def m_line_of : MS' := (sSeq (sSet 1 (mLc (mIter (mVar 0)) (gNm 2) mYes l_line_of_2 [2]))
  (sSeq (sRet (mM1 joinD (mC (.str (Str.ofString "   "))) (mVar 1)))
  sNil))
def phi_line_of : List D → Option R := runN 4 1 m_line_of
def l_read_line_1 : MR := (mUn (litD (Str.ofString "=") (Str.ofString ".") (Str.ofString "===") (Str.ofString "-") (Str.ofString "?")) (mVar 5))
def b_read_line_1 : MS' := (sSeq (sSet 3 (mLc (mIter (mM1 splitD (mVar 2) (mC (.str (Str.ofString " "))))) (gNm 5) mYes l_read_line_1 [5]))
  (sSeq (sSet 4 (mCall phi_letter_of (aCons (mM1 joinD (mC (.str (Str.ofString ""))) (mVar 3)) aNil)))
  (sSeq (sIf (mCmp isD (mVar 4) (mC .none))
  (sSeq (sRet (mC .none))
  sNil)
  sNil)
  (sSeq (sAug 1 addIS (mVar 4))
  sNil))))
-- read_line: slots 0 text 1 found 2 part 3 signs 4 letter 5 far
def m_read_line : MS' := (sSeq (sIf (mCmp eqD (mVar 0) (mC (.str (Str.ofString ""))))
  (sSeq (sRet (mC (.str (Str.ofString ""))))
  sNil)
  sNil)
  (sSeq (sSet 1 (mC (.str (Str.ofString ""))))
  (sSeq (sFor (mIter (mM1 splitD (mVar 0) (mC (.str (Str.ofString "   "))))) (gNm 2) b_read_line_1)
  (sSeq (sRet (mVar 1))
  sNil))))
def phi_read_line : List D → Option R := runN 6 1 m_read_line
-- weakened: slots 0 text 1 place
def m_weakened : MS' := (sSeq (sRet (mBin addD (mBin addD (mSl (mVar 0) pNone (pSome (mVar 1))) (mC (.str (Str.ofString " ")))) (mSl (mVar 0) (pSome (mBin addD (mVar 1) (mC (.int 1)))) pNone)))
  sNil)
def phi_weakened : List D → Option R := runN 2 2 m_weakened
def b_lost_units_1 : MS' := (sSeq (sIf (mAnd (mCmp eqD (mVar 4) (mC (.str (Str.ofString "=")))) (mCmp (fun a b => (isND a b).map (!·)) (mCall phi_read_line (aCons (mCall phi_weakened (aCons (mVar 1) (aCons (mVar 3) aNil))) aNil)) (mC .none)))
  (sSeq (sExpr (mAppend 2 (mVar 3)))
  sNil)
  sNil)
  sNil)
-- lost_units: slots 0 word 1 text 2 found 3 place 4 sign
def m_lost_units : MS' := (sSeq (sSet 1 (mCall phi_line_of (aCons (mVar 0) aNil)))
  (sSeq (sSet 2 (mLst aNil))
  (sSeq (sFor (mEnumA (aCons (mVar 1) aNil)) (gTp 2 (gCons' (gNm 3) (gCons' (gNm 4) gNil'))) b_lost_units_1)
  (sSeq (sRet (mVar 2))
  sNil))))
def phi_lost_units : List D → Option R := runN 5 1 m_lost_units
-- _law_cell: slots 0 script 1 k
def m_law_cell : MS' := (sSeq (sIf (mCmp ltD (mVar 1) (mUn lenD (mVar 0)))
  (sSeq (sRet (mBin ixD (mVar 0) (mVar 1)))
  sNil)
  sNil)
  (sSeq (sRet (mC (.int 0)))
  sNil))
def phi_law_cell : List D → Option R := runN 2 2 m_law_cell
def b_law_digits_1 : MS' := (sSeq (sIf (mCmp gtD (mVar 5) (mC (.int 0)))
  (sSeq (sExpr (mAppend 3 (mBin modD (mUn intD (mVar 5)) (mC (.int 1000)))))
  (sSeq (sSet 5 (mBin divD (mVar 5) (mC (.int 1000))))
  sNil))
  sNil)
  sNil)
def b_law_digits_2 : MS' := (sSeq (sSet 7 (mBin modD (mUn intD (mBin addD (mBin addD (mBin mulD (mVar 7) (mC (.int 16807))) (mBin mulD (mC (.int 7)) (mVar 6))) (mC (.int 1)))) (mC (.int 2147483647))))
  (sSeq (sExpr (mAppend 3 (mBin modD (mUn intD (mBin divD (mVar 7) (mC (.int 997)))) (mC (.int 1000)))))
  sNil))
def b_law_digits_3 : MS' := (sSeq (sSet 5 (mCall phi_law_cell (aCons (mVar 0) (aCons (mVar 4) aNil))))
  (sSeq (sIf (mCmp ltD (mVar 5) (mC (.int 0)))
  (sSeq (sSet 5 (mBin subD (mC (.int 1)) (mBin mulD (mC (.int 2)) (mVar 5))))
  sNil)
  sNil)
  (sSeq (sIf (mCmp geD (mVar 5) (mBin powD (mC (.int 10)) (mC (.int 18))))
  (sSeq (sFor (mRange1 (aCons (mC (.int 60)) aNil)) (gNm 6) b_law_digits_1)
  sNil)
  (sSeq (sSet 7 (mBin modD (mUn intD (mBin addD (mBin addD (mBin mulD (mVar 5) (mC (.int 48271))) (mBin mulD (mVar 4) (mC (.int 69621)))) (mC (.int 11)))) (mC (.int 2147483647))))
  (sSeq (sFor (mRange1 (aCons (mC (.int 12)) aNil)) (gNm 6) b_law_digits_2)
  sNil)))
  sNil)))
-- _law_digits: slots 0 script 1 first 2 last 3 digits 4 k 5 cell 6 turn 7 seed
def m_law_digits : MS' := (sSeq (sSet 3 (mLst aNil))
  (sSeq (sFor (mRange2 (aCons (mVar 1) (aCons (mVar 2) aNil))) (gNm 4) b_law_digits_3)
  (sSeq (sRet (mVar 3))
  sNil)))
def phi_law_digits : List D → Option R := runN 8 3 m_law_digits
-- _law_draw: slots 0 box 1 many
def m_law_draw : MS' := (sSeq (sPut 0 (mC (.int 1)) (mBin addD (mBin ixD (mVar 0) (mC (.int 1))) (mC (.int 1))))
  (sSeq (sIf (mCmp gtD (mBin ixD (mVar 0) (mC (.int 1))) (mUn lenD (mBin ixD (mVar 0) (mC (.int 0)))))
  (sSeq (sRet (mBin modD (mUn intD (mBin addD (mBin mulD (mBin ixD (mVar 0) (mC (.int 1))) (mC (.int 7))) (mC (.int 3)))) (mVar 1)))
  sNil)
  sNil)
  (sSeq (sRet (mBin modD (mUn intD (mBin ixD (mBin ixD (mVar 0) (mC (.int 0))) (mBin subD (mBin ixD (mVar 0) (mC (.int 1))) (mC (.int 1))))) (mVar 1)))
  sNil)))
def phi_law_draw : List D → List D → Option (R × List D) := runIO 2 2 m_law_draw
-- _law_pick: slots 0 box 1 row
def m_law_pick : MS' := (sSeq (sRet (mBin ixD (mVar 1) (mBin modD (mUn intD (mCallIO phi_law_draw 0 (aCons (mC (.int 1000)) aNil))) (mUn lenD (mVar 1)))))
  sNil)
def phi_law_pick : List D → List D → Option (R × List D) := runIO 2 2 m_law_pick
def b_law_same_1 (φ : List D → Option R) : MS' := (sSeq (sIf (mNot (mTest (mCallL φ (lCons (mBin ixD (mVar 0) (mVar 2)) (lCons (mBin ixD (mVar 1) (mVar 2)) lNil)))))
  (sSeq (sRet (mC (.bool false)))
  sNil)
  sNil)
  sNil)
-- _law_same: slots 0 told 1 due 2 k
def m_law_same (φ : List D → Option R) : MS' := (sSeq (sIf (mCmp isD (mVar 1) (mC .none))
  (sSeq (sRet (mBV (mCmp isD (mVar 0) (mC .none))))
  sNil)
  sNil)
  (sSeq (sIf (mCmp isD (mVar 1) (mC (.bool true)))
  (sSeq (sRet (mBV (mCmp isD (mVar 0) (mC (.bool true)))))
  sNil)
  sNil)
  (sSeq (sIf (mCmp isD (mVar 1) (mC (.bool false)))
  (sSeq (sRet (mBV (mCmp isD (mVar 0) (mC (.bool false)))))
  sNil)
  sNil)
  (sSeq (sIf (mTest (mIsi "str" (mVar 1)))
  (sSeq (sRet (mAndV (mIsi "str" (mVar 0)) (mBV (mCmp eqD (mUn reprD (mVar 0)) (mUn reprD (mVar 1))))))
  sNil)
  sNil)
  (sSeq (sIf (mTest (mIsi "int" (mVar 1)))
  (sSeq (sRet (mAndV (mIsi "int" (mVar 0)) (mAndV (mNotV (mIsi "bool" (mVar 0))) (mBV (mCmp eqD (mUn reprD (mVar 0)) (mUn reprD (mVar 1)))))))
  sNil)
  sNil)
  (sSeq (sIf (mOr (mAnd (mTest (mIsi "tuple" (mVar 1))) (mNot (mTest (mIsi "tuple" (mVar 0))))) (mAnd (mTest (mIsi "list" (mVar 1))) (mNot (mTest (mIsi "list" (mVar 0))))))
  (sSeq (sRet (mC (.bool false)))
  sNil)
  sNil)
  (sSeq (sIf (mCmp neD (mUn lenD (mVar 0)) (mUn lenD (mVar 1)))
  (sSeq (sRet (mC (.bool false)))
  sNil)
  sNil)
  (sSeq (sFor (mRange1 (aCons (mUn lenD (mVar 1)) aNil)) (gNm 2) (b_law_same_1 φ))
  (sSeq (sRet (mC (.bool true)))
  sNil)))))))))
def phi_law_same : Nat → List D → Option R
  | 0, _ => none
  | n + 1, ds => runN 3 2 (m_law_same (phi_law_same n)) ds
-- _law_signals: slots 0 first
def m_law_signals : MS' := (sSeq (sSet 0 (mLst (aCons (mC (.str (Str.ofString ".-"))) (aCons (mC (.str (Str.ofString "-..."))) (aCons (mC (.str (Str.ofString "-.-."))) (aCons (mC (.str (Str.ofString "-.."))) (aCons (mC (.str (Str.ofString "."))) (aCons (mC (.str (Str.ofString "..-."))) (aCons (mC (.str (Str.ofString "--."))) (aCons (mC (.str (Str.ofString "...."))) (aCons (mC (.str (Str.ofString ".."))) (aCons (mC (.str (Str.ofString ".---"))) (aCons (mC (.str (Str.ofString "-.-"))) (aCons (mC (.str (Str.ofString ".-.."))) (aCons (mC (.str (Str.ofString "--"))) aNil)))))))))))))))
  (sSeq (sRet (mBin addD (mVar 0) (mLst (aCons (mC (.str (Str.ofString "-."))) (aCons (mC (.str (Str.ofString "---"))) (aCons (mC (.str (Str.ofString ".--."))) (aCons (mC (.str (Str.ofString "--.-"))) (aCons (mC (.str (Str.ofString ".-."))) (aCons (mC (.str (Str.ofString "..."))) (aCons (mC (.str (Str.ofString "-"))) (aCons (mC (.str (Str.ofString "..-"))) (aCons (mC (.str (Str.ofString "...-"))) (aCons (mC (.str (Str.ofString ".--"))) (aCons (mC (.str (Str.ofString "-..-"))) (aCons (mC (.str (Str.ofString "-.--"))) (aCons (mC (.str (Str.ofString "--.."))) aNil))))))))))))))))
  sNil))
def phi_law_signals : List D → Option R := runN 1 0 m_law_signals
def l_law_spelt_1 : MR := (mBin ixD (mCall phi_law_signals aNil) (mM1 sindexD (mC (.str (Str.ofString "abcdefghijklmnopqrstuvwxyz"))) (mVar 1)))
-- _law_spelt: slots 0 word 1 sign
def m_law_spelt : MS' := (sSeq (sRet (mLc (mIter (mVar 0)) (gNm 1) mYes l_law_spelt_1 [1]))
  sNil)
def phi_law_spelt : List D → Option R := runN 2 1 m_law_spelt
def b_law_line_1 : MS' := (sSeq (sSet 1 (mBin addD (mBin addD (mVar 1) (mIf (mCmp gtD (mVar 3) (mC (.int 0))) (mC (.str (Str.ofString " "))) (mC (.str (Str.ofString ""))))) (mIf (mCmp eqD (mBin ixD (mVar 2) (mVar 3)) (mC (.str (Str.ofString ".")))) (mC (.str (Str.ofString "="))) (mC (.str (Str.ofString "==="))))))
  sNil)
def b_law_line_2 : MS' := (sSeq (sIf (mCmp neD (mVar 1) (mC (.str (Str.ofString ""))))
  (sSeq (sSet 1 (mBin addD (mVar 1) (mC (.str (Str.ofString "   ")))))
  sNil)
  sNil)
  (sSeq (sFor (mRange1 (aCons (mUn lenD (mVar 2)) aNil)) (gNm 3) b_law_line_1)
  sNil))
-- _law_line: slots 0 word 1 found 2 signal 3 k
def m_law_line : MS' := (sSeq (sSet 1 (mC (.str (Str.ofString ""))))
  (sSeq (sFor (mIter (mCall phi_law_spelt (aCons (mVar 0) aNil))) (gNm 2) b_law_line_2)
  (sSeq (sRet (mVar 1))
  sNil)))
def phi_law_line : List D → Option R := runN 4 1 m_law_line
def b_law_stretches_1 : MS' := (sSeq (sIf (mAnd (mCmp neD (mVar 1) (mLst aNil)) (mCmp eqD (mBin ixD (mBin ixD (mVar 1) (mUn negD (mC (.int 1)))) (mC (.int 0))) (mVar 2)))
  (sSeq (sPut 1 (mUn negD (mC (.int 1))) (mTup (aCons (mVar 2) (aCons (mBin addD (mBin ixD (mBin ixD (mVar 1) (mUn negD (mC (.int 1)))) (mC (.int 1))) (mC (.int 1))) aNil))))
  sNil)
  (sSeq (sExpr (mAppend 1 (mTup (aCons (mVar 2) (aCons (mC (.int 1)) aNil)))))
  sNil))
  sNil)
-- _law_stretches: slots 0 text 1 found 2 sign
def m_law_stretches : MS' := (sSeq (sSet 1 (mLst aNil))
  (sSeq (sFor (mIter (mVar 0)) (gNm 2) b_law_stretches_1)
  (sSeq (sRet (mVar 1))
  sNil)))
def phi_law_stretches : List D → Option R := runN 3 1 m_law_stretches
def b_law_read_1 : MS' := (sSeq (sIf (mCmp (fun a b => (inGD a b).map (!·)) (mVar 6) (mTup (aCons (mC (.int 1)) (aCons (mC (.int 3)) aNil))))
  (sSeq (sRet (mC .none))
  sNil)
  sNil)
  (sSeq (sIf (mCmp eqD (mVar 5) (mC (.str (Str.ofString "="))))
  (sSeq (sSet 3 (mBin addD (mVar 3) (mIf (mCmp eqD (mVar 6) (mC (.int 1))) (mC (.str (Str.ofString "."))) (mC (.str (Str.ofString "-"))))))
  sNil)
  (sSeq (sIf (mCmp eqD (mVar 6) (mC (.int 3)))
  (sSeq (sIf (mCmp (fun a b => (inGD a b).map (!·)) (mVar 3) (mVar 1))
  (sSeq (sRet (mC .none))
  sNil)
  sNil)
  (sSeq (sSet 2 (mBin addD (mVar 2) (mBin ixD (mC (.str (Str.ofString "abcdefghijklmnopqrstuvwxyz"))) (mIndex (mVar 1) (mVar 3)))))
  (sSeq (sSet 3 (mC (.str (Str.ofString ""))))
  sNil)))
  sNil)
  sNil))
  sNil))
-- _law_read: slots 0 text 1 signals 2 found 3 signal 4 rows 5 sign 6 many
def m_law_read : MS' := (sSeq (sSet 1 (mCall phi_law_signals aNil))
  (sSeq (sSet 2 (mC (.str (Str.ofString ""))))
  (sSeq (sSet 3 (mC (.str (Str.ofString ""))))
  (sSeq (sSet 4 (mCall phi_law_stretches (aCons (mVar 0) aNil)))
  (sSeq (sIf (mAnd (mCmp neD (mVar 4) (mLst aNil)) (mOr (mCmp neD (mBin ixD (mBin ixD (mVar 4) (mC (.int 0))) (mC (.int 0))) (mC (.str (Str.ofString "=")))) (mCmp neD (mBin ixD (mBin ixD (mVar 4) (mUn negD (mC (.int 1)))) (mC (.int 0))) (mC (.str (Str.ofString "="))))))
  (sSeq (sRet (mC .none))
  sNil)
  sNil)
  (sSeq (sFor (mIter (mBin addD (mVar 4) (mIf (mCmp neD (mVar 4) (mLst aNil)) (mLst (aCons (mTup (aCons (mC (.str (Str.ofString " "))) (aCons (mC (.int 3)) aNil))) aNil)) (mLst aNil)))) (gTp 2 (gCons' (gNm 5) (gCons' (gNm 6) gNil'))) b_law_read_1)
  (sSeq (sRet (mVar 2))
  sNil)))))))
def phi_law_read : List D → Option R := runN 7 1 m_law_read
-- _law_bent: slots 0 box 1 text 2 at 3 far 4 other 5 rows
def m_law_bent : MS' := (sSeq (sSet 2 (mCallIO phi_law_draw 0 (aCons (mBin addD (mUn lenD (mVar 1)) (mC (.int 1))) aNil)))
  (sSeq (sSet 3 (mCallIO phi_law_draw 0 (aCons (mBin addD (mUn lenD (mVar 1)) (mC (.int 1))) aNil)))
  (sSeq (sSet 4 (mIf (mCmp eqD (mSl (mVar 1) (pSome (mVar 2)) (pSome (mBin addD (mVar 2) (mC (.int 1))))) (mC (.str (Str.ofString " ")))) (mC (.str (Str.ofString "="))) (mC (.str (Str.ofString " ")))))
  (sSeq (sSet 5 (mLst (aCons (mBin addD (mBin addD (mSl (mVar 1) pNone (pSome (mVar 2))) (mVar 4)) (mSl (mVar 1) (pSome (mBin addD (mVar 2) (mC (.int 1)))) pNone)) (aCons (mBin addD (mSl (mVar 1) pNone (pSome (mVar 2))) (mSl (mVar 1) (pSome (mBin addD (mVar 2) (mC (.int 1)))) pNone)) (aCons (mBin addD (mBin addD (mSl (mVar 1) pNone (pSome (mVar 2))) (mC (.str (Str.ofString "=")))) (mSl (mVar 1) (pSome (mVar 2)) pNone)) (aCons (mBin addD (mBin addD (mSl (mVar 1) pNone (pSome (mVar 2))) (mC (.str (Str.ofString " ")))) (mSl (mVar 1) (pSome (mVar 2)) pNone)) aNil))))))
  (sSeq (sSet 5 (mBin addD (mVar 5) (mLst (aCons (mBin addD (mC (.str (Str.ofString " "))) (mVar 1)) (aCons (mBin addD (mVar 1) (mC (.str (Str.ofString " ")))) (aCons (mBin addD (mVar 1) (mC (.str (Str.ofString "   ")))) (aCons (mBin addD (mC (.str (Str.ofString "   "))) (mVar 1)) (aCons (mBin addD (mVar 1) (mC (.str (Str.ofString "   =")))) (aCons (mUn (replD (Str.ofString "   ") (Str.ofString " ")) (mVar 1)) (aCons (mUn (replD (Str.ofString "   ") (Str.ofString "      ")) (mVar 1)) aNil))))))))))
  (sSeq (sSet 5 (mBin addD (mVar 5) (mLst (aCons (mSl (mVar 1) pNone (pSome (mVar 2))) (aCons (mSl (mVar 1) (pSome (mVar 2)) pNone) (aCons (mBin addD (mBin addD (mSl (mVar 1) pNone (pSome (mVar 2))) (mC (.str (Str.ofString "==")))) (mSl (mVar 1) (pSome (mVar 2)) pNone)) (aCons (mBin addD (mBin addD (mSl (mVar 1) pNone (pSome (mVar 2))) (mC (.str (Str.ofString "  ")))) (mSl (mVar 1) (pSome (mVar 2)) pNone)) (aCons (mUn (replD (Str.ofString "===") (Str.ofString "=")) (mVar 1)) aNil))))))))
  (sSeq (sExpr (mAppend 5 (mBin addD (mSl (mVar 1) pNone (pSome (mBin min2D (mVar 2) (mVar 3)))) (mSl (mVar 1) (pSome (mBin max2D (mVar 2) (mVar 3))) pNone))))
  (sSeq (sRet (mVar 5))
  sNil))))))))
def phi_law_bent : List D → List D → Option (R × List D) := runIO 6 2 m_law_bent
def t_law_lost_1 : MB := (mAnd (mCmp eqD (mBin ixD (mVar 0) (mVar 1)) (mC (.str (Str.ofString "=")))) (mCmp (fun a b => (isND a b).map (!·)) (mCall phi_law_read (aCons (mBin addD (mBin addD (mSl (mVar 0) pNone (pSome (mVar 1))) (mC (.str (Str.ofString " ")))) (mSl (mVar 0) (pSome (mBin addD (mVar 1) (mC (.int 1)))) pNone)) aNil)) (mC .none)))
def l_law_lost_1 : MR := (mVar 1)
-- _law_lost: slots 0 text 1 k
def m_law_lost : MS' := (sSeq (sRet (mLc (mRange1 (aCons (mUn lenD (mVar 0)) aNil)) (gNm 1) t_law_lost_1 l_law_lost_1 [1]))
  sNil)
def phi_law_lost : List D → Option R := runN 2 1 m_law_lost
def l_law_1 : MR := (mCallIO phi_law_pick 1 (aCons (mLst (aCons (mC (.str (Str.ofString "="))) (aCons (mC (.str (Str.ofString "==="))) (aCons (mC (.str (Str.ofString " "))) (aCons (mC (.str (Str.ofString "   "))) (aCons (mC (.str (Str.ofString "= "))) (aCons (mC (.str (Str.ofString "=== ="))) (aCons (mC (.str (Str.ofString "  "))) aNil)))))))) aNil))
def b_law_1 : MS' := (sSeq (sIf (mNot (mTest (mCallL (phi_law_same 12) (lCons (mCall phi_read_line (aCons (mVar 8) aNil)) (lCons (mCall phi_law_read (aCons (mVar 8) aNil)) lNil)))))
  (sSeq (sRet (mC (.bool false)))
  sNil)
  sNil)
  sNil)
def l_law_2 : MR := (mCallIO phi_law_pick 1 (aCons (mVar 3) aNil))
def b_law_2 : MS' := (sSeq (sSet 3 (mCallIO phi_law_pick 1 (aCons (mLst (aCons (mC (.str (Str.ofString "abcdefghijklmnopqrstuvwxyz"))) (aCons (mC (.str (Str.ofString "abcdefghijklmnopqrstuvwxyz"))) (aCons (mC (.str (Str.ofString "etianms"))) (aCons (mC (.str (Str.ofString "eishkt"))) aNil))))) aNil)))
  (sSeq (sSet 4 (mM1 joinD (mC (.str (Str.ofString ""))) (mLc (mRange1 (aCons (mBin ixD (mLst (aCons (mBin addD (mC (.int 1)) (mCallIO phi_law_draw 1 (aCons (mC (.int 6)) aNil))) (aCons (mCallIO phi_law_draw 1 (aCons (mC (.int 3)) aNil)) aNil))) (mVar 2)) aNil)) (gNm 9) mYes l_law_2 [9])))
  (sSeq (sSet 5 (mCall phi_law_line (aCons (mVar 4) aNil)))
  (sSeq (sIf (mOr (mNot (mTest (mCallL (phi_law_same 12) (lCons (mCall phi_units (aCons (mVar 4) aNil)) (lCons (mUn lenD (mVar 5)) lNil))))) (mOr (mNot (mTest (mCallL (phi_law_same 12) (lCons (mCall phi_line_of (aCons (mVar 4) aNil)) (lCons (mVar 5) lNil))))) (mNot (mTest (mCallL (phi_law_same 12) (lCons (mCall phi_read_line (aCons (mVar 5) aNil)) (lCons (mVar 4) lNil)))))))
  (sSeq (sRet (mC (.bool false)))
  sNil)
  sNil)
  (sSeq (sIf (mCmp ltD (mUn lenD (mVar 5)) (mC (.int 46)))
  (sSeq (sSet 6 (mCall phi_law_lost (aCons (mVar 5) aNil)))
  (sSeq (sSet 7 (mCall phi_lost_units (aCons (mVar 4) aNil)))
  (sSeq (sIf (mNot (mTest (mCallL (phi_law_same 12) (lCons (mVar 7) (lCons (mVar 6) lNil)))))
  (sSeq (sRet (mC (.bool false)))
  sNil)
  sNil)
  (sSeq (sExpr (mAppend 7 (mC (.int 0))))
  (sSeq (sIf (mNot (mTest (mCallL (phi_law_same 12) (lCons (mCall phi_lost_units (aCons (mSl (mVar 4) pNone (pSome (mC (.int 1)))) aNil)) (lCons (mCall phi_law_lost (aCons (mCall phi_law_line (aCons (mSl (mVar 4) pNone (pSome (mC (.int 1)))) aNil)) aNil)) lNil)))))
  (sSeq (sRet (mC (.bool false)))
  sNil)
  sNil)
  sNil)))))
  sNil)
  (sSeq (sFor (mIter (mCallIO phi_law_bent 1 (aCons (mVar 5) aNil))) (gNm 8) b_law_1)
  sNil))))))
-- law: slots 0 script 1 box 2 turn 3 some 4 word 5 text 6 due 7 told 8 far 9 k
def m_law : MS' := (sSeq (sSet 1 (mLst (aCons (mCall phi_law_digits (aCons (mVar 0) (aCons (mC (.int 0)) (aCons (mC (.int 12)) aNil)))) (aCons (mC (.int 0)) aNil))))
  (sSeq (sFor (mRange1 (aCons (mC (.int 2)) aNil)) (gNm 2) b_law_2)
  (sSeq (sSet 8 (mM1 joinD (mC (.str (Str.ofString ""))) (mLc (mRange1 (aCons (mBin addD (mC (.int 1)) (mCallIO phi_law_draw 1 (aCons (mC (.int 8)) aNil))) aNil)) (gNm 9) mYes l_law_1 [9])))
  (sSeq (sIf (mOr (mNot (mTest (mCallL (phi_law_same 12) (lCons (mCall phi_read_line (aCons (mVar 8) aNil)) (lCons (mCall phi_law_read (aCons (mVar 8) aNil)) lNil))))) (mOr (mNot (mTest (mCallL (phi_law_same 12) (lCons (mCall phi_read_line (aCons (mC (.str (Str.ofString ""))) aNil)) (lCons (mC (.str (Str.ofString ""))) lNil))))) (mCmp (fun a b => (isND a b).map (!·)) (mCall phi_read_line (aCons (mC (.str (Str.ofString " "))) aNil)) (mC .none))))
  (sSeq (sRet (mC (.bool false)))
  sNil)
  sNil)
  (sSeq (sIf (mOr (mNot (mTest (mCallL (phi_law_same 12) (lCons (mCall phi_lost_units (aCons (mC (.str (Str.ofString "s"))) aNil)) (lCons (mLst (aCons (mC (.int 2)) aNil)) lNil))))) (mOr (mNot (mTest (mCallL (phi_law_same 12) (lCons (mCall phi_lost_units (aCons (mC (.str (Str.ofString "k"))) aNil)) (lCons (mLst (aCons (mC (.int 1)) (aCons (mC (.int 4)) (aCons (mC (.int 7)) aNil)))) lNil))))) (mNot (mTest (mCallL (phi_law_same 12) (lCons (mCall phi_lost_units (aCons (mC (.str (Str.ofString "t"))) aNil)) (lCons (mLst (aCons (mC (.int 1)) aNil)) lNil)))))))
  (sSeq (sRet (mC (.bool false)))
  sNil)
  sNil)
  (sSeq (sRet (mAndV (mCallL (phi_law_same 12) (lCons (mCall phi_units (aCons (mC (.str (Str.ofString "paris"))) aNil)) (lCons (mC (.int 43)) lNil))) (mAndV (mCallL (phi_law_same 12) (lCons (mCall phi_units (aCons (mC (.str (Str.ofString ""))) aNil)) (lCons (mC (.int 0)) lNil))) (mAndV (mCallL (phi_law_same 12) (lCons (mCall phi_line_of (aCons (mC (.str (Str.ofString "et"))) aNil)) (lCons (mC (.str (Str.ofString "=   ==="))) lNil))) (mBV (mCmp isD (mCall phi_read_line (aCons (mC (.str (Str.ofString "= = = = ="))) aNil)) (mC .none)))))))
  sNil))))))
def phi_law : List D → Option R := runN 10 1 m_law
end Law
/-! what the law's own helpers give: cells, digits, draws, picks -/
namespace Law
open PySem PySem.Spec PyProof.Rows L2 Mi
set_option maxRecDepth 100000
set_option maxHeartbeats 1000000
def BoxOk (ws : List D) : Prop := ∃ (ds : List Int) (k : Int), ws = [.list (ds.map .int), .int k] ∧ 0 ≤ k
theorem draw_ok {ws : List D} {many : Int} (b : BoxOk ws) (h : 0 < many) : ∃ r ws', phi_law_draw ws [.int many] = some (.sh (.int r), ws') ∧ BoxOk ws' ∧ 0 ≤ r ∧ r < many := by
  obtain ⟨ds, k, rfl, hk⟩ := b
  unfold phi_law_draw
  rw [runIO_eq (by rfl)]
  unfold m_law_draw
  simp [h]
  by_cases hl : (ds.length : Int) < k + 1
  · simp [hl, i64]
    exact ⟨_, _, ⟨rfl, rfl⟩, ⟨ds, k + 1, rfl, by omega⟩, Int.emod_nonneg _ (by omega), Int.emod_lt_of_pos _ h⟩
  · have hkl : k.toNat < ds.length := by omega
    simp [hl, atI_pos hk, hkl, h]
    exact ⟨_, _, ⟨rfl, rfl⟩, ⟨ds, k + 1, rfl, by omega⟩, Int.emod_nonneg _ (by omega), Int.emod_lt_of_pos _ h⟩
theorem mem_atI {α : Type} {xs : List α} {i : Int} (h0 : 0 ≤ i) (h : i < xs.length) : ∃ x, atI xs i = some x ∧ x ∈ xs := by
  rw [atI_pos h0]
  have hl : i.toNat < xs.length := by omega
  exact ⟨xs[i.toNat], List.getElem?_eq_getElem hl, List.getElem_mem hl⟩
theorem pick_ok {ws row : List D} (b : BoxOk ws) (h : row ≠ []) : ∃ d ws', phi_law_pick ws [.list row] = some (.sh d, ws') ∧ BoxOk ws' ∧ d ∈ row := by
  obtain ⟨r, ws1, e1, b1, h0, h1⟩ := draw_ok (many := 1000) b (by decide)
  have hl : 0 < (row.length : Int) := by
    cases row with
    | nil => exact absurd rfl h
    | cons x r => rw [List.length_cons]; omega
  obtain ⟨x, e2, m2⟩ := mem_atI (Int.emod_nonneg r (by omega)) (Int.emod_lt_of_pos r hl)
  unfold phi_law_pick
  rw [runIO_eq (by rfl)]
  unfold m_law_pick
  have hn : 0 < row.length := by omega
  simp [e1, hn, e2]
  exact ⟨_, _, ⟨rfl, rfl⟩, b1, m2⟩
theorem picks_ok {ws : List D} {z : Str} (b : BoxOk ws) (h : z.cps.toList ≠ []) (hz : z.length ≤ lim) : ∃ c ws', phi_law_pick ws [.str z] = some (.sh (.str ⟨#[c]⟩), ws') ∧ BoxOk ws' ∧ c ∈ z.cps.toList := by
  obtain ⟨r, ws1, e1, b1, h0, h1⟩ := draw_ok (many := 1000) b (by decide)
  have hzl : z.length = z.cps.toList.length := Array.length_toList.symm
  have hl : 0 < (z.length : Int) := by
    rw [hzl]
    cases q : z.cps.toList with
    | nil => exact absurd q h
    | cons x r => rw [List.length_cons]; omega
  obtain ⟨x, e2, m2⟩ := mem_atI (xs := z.cps.toList) (i := r % (z.length : Int)) (Int.emod_nonneg r (by omega)) (by rw [← hzl]; exact Int.emod_lt_of_pos r hl)
  unfold phi_law_pick
  rw [runIO_eq (by rfl)]
  unfold m_law_pick
  have hn : 0 < z.length := by omega
  simp [e1, hn, hz, e2]
  exact ⟨_, _, ⟨rfl, rfl⟩, b1, by simpa using m2⟩
theorem cell_ok (ns : List Int) {k : Int} (hk : 0 ≤ k) : ∃ z, phi_law_cell [frzD (ns.map .int), .int k] = some (.sh (.int z)) := by
  unfold phi_law_cell
  rw [runN_eq (by rfl)]
  unfold m_law_cell
  by_cases hl : k < ns.length
  · have hkl : k.toNat < ns.length := by omega
    simp [hl, atI_pos hk, hkl]
  · simp [hl]
end Law
/-! the digits -/
namespace Law
open PySem PySem.Spec PyProof.Rows L2 Mi
set_option maxRecDepth 100000
set_option maxHeartbeats 1000000
/-- the digits as they stand: no more than n of them -/
def Dig (n : Nat) (ρ : En) : Prop := ∃ (m0 m1 m2 : M) (k c : Int) (m6 m7 : M) (ds : List Int), ρ = [m0, m1, m2, .own (ds.map .int), .sh (.int k), .sh (.int c), m6, m7] ∧ ds.length ≤ n ∧ (∃ s : List Int, m0 = .sh (frzD (s.map .int))) ∧ Shy m6 ∧ Shy m7
theorem dig1 (n : Nat) (ρ : En) (d : D) (h : Dig n ρ) (hn : n < lim) : ∃ ρ2, bnd (gNm 6 d ρ) b_law_digits_1 = some (.nx, ρ2) ∧ Dig (n + 1) ρ2 := by
  obtain ⟨m0, m1, m2, k, c, m6, m7, ds, rfl, hl, hs, y6, y7⟩ := h
  have h2 : ds.length < lim := by omega
  unfold b_law_digits_1
  by_cases hc : 0 < c
  · simp [shy_free y6, hc, h2]
    exact ⟨_, _, _, _, _, _, _, ds ++ [c % 1000], by rw [List.map_append]; rfl, by rw [List.length_append, List.length_singleton]; omega, hs, .sh _, y7⟩
  · simp [shy_free y6, hc]
    exact ⟨_, _, _, _, _, _, _, ds, rfl, by omega, hs, .sh _, y7⟩
def Dig7 (n : Nat) (ρ : En) : Prop := Dig n ρ ∧ ∃ z : Int, ρ[7]? = some (.sh (.int z))
theorem dig2 (n : Nat) (ρ : En) (d : D) (hd : ∃ t, d = .int t) (h : Dig7 n ρ) (hn : n < lim) : ∃ ρ2, bnd (gNm 6 d ρ) b_law_digits_2 = some (.nx, ρ2) ∧ Dig7 (n + 1) ρ2 := by
  obtain ⟨t, rfl⟩ := hd
  obtain ⟨⟨m0, m1, m2, k, c, m6, m7, ds, rfl, hl, hs, y6, y7⟩, z, hz⟩ := h
  have hz : m7 = .sh (.int z) := by simpa using hz
  subst hz
  have h2 : ds.length < lim := by omega
  unfold b_law_digits_2
  simp [shy_free y6, h2, i64]
  exact ⟨⟨_, _, _, _, _, _, _, ds ++ [(z * 16807 + 7 * t + 1) % 2147483647 / 997 % 1000], by rw [List.map_append]; rfl, by rw [List.length_append, List.length_singleton]; omega, hs, .sh _, .sh _⟩, _, rfl⟩
def Dig0 (n : Nat) (ρ : En) : Prop := ∃ (m0 m1 m2 m4 m5 m6 m7 : M) (ds : List Int), ρ = [m0, m1, m2, .own (ds.map .int), m4, m5, m6, m7] ∧ ds.length ≤ n * 60 ∧ (∃ s : List Int, m0 = .sh (frzD (s.map .int))) ∧ Shy m4 ∧ Shy m5 ∧ Shy m6 ∧ Shy m7
theorem dig3 (n : Nat) (ρ : En) (d : D) (hd : ∃ k, d = .int k ∧ 0 ≤ k) (h : Dig0 n ρ) (hn : n < 1000) : ∃ ρ2, bnd (gNm 4 d ρ) b_law_digits_3 = some (.nx, ρ2) ∧ Dig0 (n + 1) ρ2 := by
  obtain ⟨k, rfl, hk⟩ := hd
  obtain ⟨m0, m1, m2, m4, m5, m6, m7, ds, rfl, hl, ⟨s, rfl⟩, y4, y5, y6, y7⟩ := h
  obtain ⟨z, ez⟩ := cell_ok s hk
  -- the loops, at any cell
  have big : ∀ c : Int, ∃ ρ', forGo (gNm 6) b_law_digits_1 (rangeD 0 60) [.sh (frzD (s.map .int)), m1, m2, .own (ds.map .int), .sh (.int k), .sh (.int c), m6, m7] = some (.nx, ρ') ∧ Dig0 (n + 1) ρ' := fun c => by
    obtain ⟨ρ', e, m0, q1, q2, k', c', q6, q7, xs, rfl, hx, hs, w6, w7⟩ := turns (S := Dig) (ok := fun _ => True) lim (fun n ρ d _ h hn => dig1 n ρ d h hn) (n := n * 60) (ρ := [.sh (frzD (s.map .int)), m1, m2, .own (ds.map .int), .sh (.int k), .sh (.int c), m6, m7]) (ds := rangeD 0 60) (fun _ _ => trivial)
      ⟨_, _, _, _, _, _, _, ds, rfl, hl, ⟨s, rfl⟩, y6, y7⟩ (by rw [rangeD_len]; show _ ≤ 1000000; simp; omega)
    exact ⟨_, e, _, _, _, _, _, _, _, xs, rfl, by rw [rangeD_len] at hx; simp at hx; omega, hs, .sh _, .sh _, w6, w7⟩
  have few : ∀ c z : Int, ∃ ρ', forGo (gNm 6) b_law_digits_2 (rangeD 0 12) [.sh (frzD (s.map .int)), m1, m2, .own (ds.map .int), .sh (.int k), .sh (.int c), m6, .sh (.int z)] = some (.nx, ρ') ∧ Dig0 (n + 1) ρ' := fun c z => by
    obtain ⟨ρ', e, ⟨m0, q1, q2, k', c', q6, q7, xs, rfl, hx, hs, w6, w7⟩, _⟩ := turns (S := Dig7) (ok := fun d => ∃ t, d = .int t) lim dig2 (n := n * 60) (ρ := [.sh (frzD (s.map .int)), m1, m2, .own (ds.map .int), .sh (.int k), .sh (.int c), m6, .sh (.int z)]) (ds := rangeD 0 12) (fun d hd => (rangeD_mem hd).elim fun t h => ⟨t, h.1⟩)
      ⟨⟨_, _, _, _, _, _, _, ds, rfl, hl, ⟨s, rfl⟩, y6, .sh _⟩, z, rfl⟩ (by rw [rangeD_len]; show _ ≤ 1000000; simp; omega)
    exact ⟨_, e, _, _, _, _, _, _, _, xs, rfl, by rw [rangeD_len] at hx; simp at hx; omega, hs, .sh _, .sh _, w6, w7⟩
  unfold b_law_digits_3
  by_cases hz : z < 0
  · by_cases hc : (1000000000000000000 : Int) ≤ 1 - 2 * z
    · obtain ⟨ρ', e, h⟩ := big (1 - 2 * z)
      simp [shy_free y4, shy_free y5, ez, hz, hc, e, i64, i62]
      exact h
    · obtain ⟨ρ', e, h⟩ := few (1 - 2 * z) (((1 - 2 * z) * 48271 + k * 69621 + 11) % 2147483647)
      simp [shy_free y4, shy_free y5, shy_free y7, ez, hz, hc, e, i64, i62]
      exact h
  · by_cases hc : (1000000000000000000 : Int) ≤ z
    · obtain ⟨ρ', e, h⟩ := big z
      simp [shy_free y4, shy_free y5, ez, hz, hc, e, i64, i62]
      exact h
    · obtain ⟨ρ', e, h⟩ := few z ((z * 48271 + k * 69621 + 11) % 2147483647)
      simp [shy_free y4, shy_free y5, shy_free y7, ez, hz, hc, e, i64, i62]
      exact h
theorem digits_ok (ns : List Int) {b : Int} (hb : 0 ≤ b) (h1 : b ≤ 100) : ∃ ds : List Int, phi_law_digits [frzD (ns.map .int), .int 0, .int b] = some (.fr (ds.map .int)) := by
  obtain ⟨ρ', e, m0, m1, m2, m4, m5, m6, m7, ds, rfl, _⟩ := turns (S := Dig0) (ok := fun d => ∃ k, d = .int k ∧ 0 ≤ k) 1000 dig3 (n := 0) (ρ := [.sh (frzD (ns.map .int)), .sh (.int 0), .sh (.int b), .own [], .no, .no, .no, .no]) (ds := rangeD 0 b) (fun d hd => (rangeD_mem hd).elim fun t h => ⟨t, h.1, h.2.1⟩)
      ⟨_, _, _, _, _, _, _, [], rfl, Nat.zero_le _, ⟨ns, rfl⟩, .no, .no, .no, .no⟩ (by rw [rangeD_len]; omega)
  have z2 : i62 b = true := i62_of (by omega) (by omega)
  have z0 : i62 0 = true := by decide
  refine ⟨ds, ?_⟩
  unfold phi_law_digits
  rw [runN_eq (by rfl)]
  unfold m_law_digits
  simp [z0, z2, e]
/-- a box as the law makes it -/
theorem box_ok (ds : List Int) : BoxOk [.list (ds.map .int), .int 0] := ⟨ds, 0, rfl, Int.le_refl 0⟩
end Law
/-! two alike things are the same -/
namespace Law
open PySem PySem.Spec PyProof.Rows L2 Mi
set_option maxRecDepth 100000
set_option maxHeartbeats 1000000
/-- data that the law may ask for, no deeper than n -/
def okD : Nat → D → Prop
  | _, .none => True
  | _, .bool _ => True
  | _, .int i => i64 i = true
  | _, .str x => (reprText x).length ≤ lim
  | 0, _ => False
  | n + 1, .list ds => ds.length ≤ lim ∧ plainDs ds = true ∧ ∀ d ∈ ds, okD n d
  | n + 1, .tuple ds => ds.length ≤ lim ∧ plainDs ds = true ∧ ∀ d ∈ ds, okD n d
  | _, .dict _ => False
theorem same_loop {φ : List D → Option R} {d : D} {get : Int → Option D} (hg : ∀ k, ixD d (.int k) = (get k).map .sh) : ∀ (ks : List D) (m : M), Shy m → (∀ k ∈ ks, ∃ z e, k = .int z ∧ get z = some e ∧ φ [e, e] = some (.sh (.bool true))) →
    ∃ m', forGo (gNm 2) (b_law_same_1 φ) ks [.sh d, .sh d, m] = some (.nx, [.sh d, .sh d, m'])
  | [], m, _, _ => ⟨_, rfl⟩
  | k :: ks, m, hm, h => by
    obtain ⟨z, e, rfl, he, hφ⟩ := h k List.mem_cons_self
    obtain ⟨ρ', e'⟩ := same_loop hg ks (.sh (.int z)) (.sh _) fun k hk => h k (List.mem_cons_of_mem _ hk)
    refine ⟨ρ', ?_⟩
    rw [forGo_cons]
    unfold b_law_same_1
    simp [shy_free hm, hg, he, hφ]
    exact e'
theorem same_ok : ∀ (n : Nat) (d : D), okD n d → phi_law_same (n + 1) [d, d] = some (.sh (.bool true)) := by
  intro n
  induction n with
  | zero =>
    intro d h
    unfold phi_law_same
    rw [runN_eq (by rfl)]
    unfold m_law_same
    cases d with
    | none => simp
    | bool b => cases b <;> simp
    | int i => simp [reprD_i h]
    | str x => simp [reprD_s h]
    | list ds => exact False.elim h
    | tuple ds => exact False.elim h
    | dict ds => exact False.elim h
  | succ n ih =>
    intro d h
    unfold phi_law_same
    rw [runN_eq (by rfl)]
    unfold m_law_same
    cases d with
    | none => simp
    | bool b => cases b <;> simp
    | int i => simp [reprD_i h]
    | str x => simp [reprD_s h]
    | list ds =>
      obtain ⟨hl, hp, hd⟩ := h
      have hl' : ds.length ≤ 1000000 := hl
      have z : i62 (ds.length : Int) = true := i62_of (by omega) (by omega)
      obtain ⟨ρ', e⟩ := same_loop (φ := phi_law_same (n + 1)) (d := .list ds) (get := fun k => atI ds k) (fun k => rfl) (rangeD 0 ds.length) .no .no fun k hk => by
        obtain ⟨k, rfl, h0, h1⟩ := rangeD_mem hk
        obtain ⟨x, e, hx⟩ := mem_atI h0 h1
        exact ⟨k, x, rfl, e, ih x (hd x hx)⟩
      simp [hp, z, e]
    | tuple ds =>
      obtain ⟨hl, hp, hd⟩ := h
      have hl' : ds.length ≤ 1000000 := hl
      have z : i62 (ds.length : Int) = true := i62_of (by omega) (by omega)
      obtain ⟨ρ', e⟩ := same_loop (φ := phi_law_same (n + 1)) (d := .tuple ds) (get := fun k => atI ds k) (fun k => rfl) (rangeD 0 ds.length) .no .no fun k hk => by
        obtain ⟨k, rfl, h0, h1⟩ := rangeD_mem hk
        obtain ⟨x, e, hx⟩ := mem_atI h0 h1
        exact ⟨k, x, rfl, e, ih x (hd x hx)⟩
      simp [hp, z, e]
    | dict ds => exact False.elim h
end Law
/-! loops that check -/
namespace Law
open PySem PySem.Spec PyProof.Rows L2 Mi
set_option maxRecDepth 100000
set_option maxHeartbeats 1000000
theorem loops {S : En → Prop} {g : MG} {b : MS'} {ok : D → Prop} (hs : ∀ ρ d, ok d → S ρ → ∃ ρ2, bnd (g d ρ) b = some (.nx, ρ2) ∧ S ρ2) : ∀ {ds : List D} {ρ : En}, (∀ d ∈ ds, ok d) → S ρ → ∃ ρ', forGo g b ds ρ = some (.nx, ρ') ∧ S ρ'
  | [], ρ, _, h => ⟨ρ, rfl, h⟩
  | d :: r, ρ, hd, h => by
    obtain ⟨ρ2, e2, h2⟩ := hs ρ d (hd d List.mem_cons_self) h
    obtain ⟨ρ', e, h'⟩ := loops hs (fun d h => hd d (List.mem_cons_of_mem _ h)) h2
    exact ⟨ρ', by rw [for_step e2, e], h'⟩
theorem rturns {S : Nat → En → Prop} {g : MG} {b : MS'} {N : Nat} (hs : ∀ n ρ, n < N → S n ρ → ∃ ρ2, bnd (g (.int n) ρ) b = some (.nx, ρ2) ∧ S (n + 1) ρ2) {ρ : En} (h : S 0 ρ) : ∃ ρ', forGo g b (rangeD 0 N) ρ = some (.nx, ρ') ∧ S N ρ' := by
  have key : ∀ (c k : Nat) (ρ : En), k + c = N → S k ρ → ∃ ρ', forGo g b ((List.range' k c).map fun i : Nat => .int (i : Int)) ρ = some (.nx, ρ') ∧ S N ρ' := by
    intro c
    induction c with
    | zero => intro k ρ hk h; exact ⟨ρ, rfl, by rw [← hk]; exact h⟩
    | succ c ih =>
      intro k ρ hk h
      obtain ⟨ρ2, e2, h2⟩ := hs k ρ (by omega) h
      obtain ⟨ρ', e, h'⟩ := ih (k + 1) ρ2 (by omega) h2
      exact ⟨ρ', by rw [List.range'_succ, List.map_cons, for_step e2, e], h'⟩
  rw [rangeD_0, List.range_eq_range']
  exact key N 0 ρ (by omega) h
/-- over whole numbers from 0 on, told as such -/
theorem iturns {S : Nat → En → Prop} {g : MG} {b : MS'} {m : Int} (hm : 0 ≤ m) (hs : ∀ (n : Nat) ρ, (n : Int) < m → S n ρ → ∃ ρ2, bnd (g (.int n) ρ) b = some (.nx, ρ2) ∧ S (n + 1) ρ2) {ρ : En} (h : S 0 ρ) : ∃ ρ', forGo g b (rangeD 0 m) ρ = some (.nx, ρ') ∧ S m.toNat ρ' := by
  have e : m = (m.toNat : Int) := by omega
  rw [e]
  exact rturns (fun n ρ hn h => hs n ρ (by omega) h) h
theorem shaped_nil : SeqAt.shaped (.list []) = true := rfl
theorem eqD_lists {a b : List D} (ha : SeqAt.shaped (.list a) = true) (hb : SeqAt.shaped (.list b) = true) : eqD (.list a) (.list b) = some (PyData.eqv (.list a) (.list b)) := by
  show (if _ then _ else _) = _
  rw [if_pos ⟨ha, hb⟩]
theorem neD_cons {x : D} {xs : List D} (h : SeqAt.shaped (.list (x :: xs)) = true) : neD (.list (x :: xs)) (.list []) = some true := by
  unfold neD
  rw [eqD_lists h shaped_nil]
  rfl
theorem neD_nil : neD (.list []) (.list []) = some false := by
  unfold neD
  rw [eqD_lists shaped_nil shaped_nil]
  rfl
theorem eqD_cons {x : D} {xs : List D} (h : SeqAt.shaped (.list (x :: xs)) = true) : eqD (.list (x :: xs)) (.list []) = some false := by
  rw [eqD_lists h shaped_nil]
  rfl
theorem eqD_nil : eqD (.list []) (.list []) = some true := by
  rw [eqD_lists shaped_nil shaped_nil]
  rfl
theorem same_none : phi_law_same 12 [.none, .none] = some (.sh (.bool true)) := same_ok 11 .none trivial
theorem same_int {i : Int} (h : i64 i = true) : phi_law_same 12 [.int i, .int i] = some (.sh (.bool true)) := same_ok 11 (.int i) h
theorem same_pair {i j : Int} (h : i64 i = true) (h2 : i64 j = true) : phi_law_same 12 [.tuple [.int i, .int j], .tuple [.int i, .int j]] = some (.sh (.bool true)) := same_ok 11 (.tuple [.int i, .int j]) ⟨by show 2 ≤ 1000000; omega, rfl, fun d hd => by
  rcases List.mem_cons.mp hd with rfl | hd
  · exact h
  · rcases List.mem_cons.mp hd with rfl | hd
    · exact h2
    · cases hd⟩
end Law
/-! k58: letters and signals -/
namespace Law
open PySem PySem.Spec PyProof.Rows L2 Mi
set_option maxRecDepth 100000
set_option maxHeartbeats 1000000
def al : List Nat := (List.range 26).map (97 + ·)
def SGL : List (List Nat) := [[46,45],[45,46,46,46],[45,46,45,46],[45,46,46],[46],[46,46,45,46],[45,45,46],[46,46,46,46],[46,46],[46,45,45,45],[45,46,45],[46,45,46,46],[45,45],[45,46],[45,45,45],[46,45,45,46],[45,45,46,45],[46,45,46],[46,46,46],[45],[46,46,45],[46,46,46,45],[46,45,45],[45,46,46,45],[45,46,45,45],[45,45,46,46]]
def sg (c : Nat) : List Nat := SGL.getD (c - 97) []
def abcT : Str := Str.ofString "abcdefghijklmnopqrstuvwxyz"
theorem abc_is : abcT = sS al := by decide +kernel
theorem kd_al : ∀ c ∈ al, assocS kd_SIGNALS (sS [c]) = some (sS (sg c)) := by decide +kernel
theorem occ_al : ∀ c ∈ al, Builtin.Str.occurrences (sS al) (sS [c]) 0 (sS al).length 1 = [c - 97] := by decide +kernel
theorem idx_al {c : Nat} (h : c ∈ al) : sindexD (.str (sS al)) (.str (sS [c])) = some (.sh (.int ((c - 97 : Nat) : Int))) := by
  unfold sindexD
  dsimp only
  rw [occ_al c h]
theorem sg_inj : ∀ c ∈ al, ∀ d ∈ al, sg c = sg d → c = d := by decide +kernel
theorem sg_pos : ∀ c ∈ al, 1 ≤ (sg c).length ∧ (sg c).length ≤ 4 := by decide +kernel
theorem sg_dots : ∀ c ∈ al, ∀ s ∈ sg c, s = 46 ∨ s = 45 := by decide +kernel
theorem opt_map {α β : Type} {f : α → β} {o : Option α} {b : β} (h : o.map f = some b) : ∃ a, o = some a ∧ f a = b := by
  cases o with
  | none => cases h
  | some a => exact ⟨a, rfl, Option.some.inj h⟩
theorem filterMap_all {α β : Type} (f : α → β) : ∀ l : List α, l.filterMap (fun x => some (f x)) = l.map f
  | [] => rfl
  | x :: r => by rw [List.filterMap_cons, List.map_cons, filterMap_all f r]
theorem join_all {ls : List (List Nat)} (h : ls.flatten.length ≤ 1000000) : joinD (.str (Str.ofString "")) (.list (ls.map fun l => .str (sS l))) = some (.sh (.str (sS ls.flatten))) := by
  have e : (ls.map fun l => PyData.str (sS l)) = (ls.map sS).map .str := by simp
  rw [e, join_empty, join_ok, sS_join]
  have hs : ((ls.map sS).map (·.length)).sum = ls.flatten.length := by
    clear e h
    induction ls with
    | nil => rfl
    | cons t r ih => rw [List.map_cons, List.map_cons, List.sum_cons, ih, List.flatten_cons, List.length_append, sS_len]
  rw [hs, sS_len]
  show _ + _ * 0 ≤ 1000000
  rw [Nat.mul_zero]
  exact h
theorem charsD_sS (l : List Nat) : charsD (sS l) = l.map fun c => .str (sS [c]) := rfl
/-- a loop that looks for the first that fits -/
theorem for_find {g : MG} {n : MS'} {ds : List D} {α : Type} (S : α → En) (p : D → Bool) (o : D → Out) (T : D → En) (u : α → D → α) (hs : ∀ a d, d ∈ ds → bnd (g d (S a)) n = if p d = true then some (o d, T d) else some (.nx, S (u a d))) (ho : ∀ d, ∃ r, o d = .rt r) (a : α) :
    forGo g n ds (S a) = match ds.find? p with
      | some d => some (o d, T d)
      | none => some (.nx, S (ds.foldl u a)) := by
  induction ds generalizing a with
  | nil => rfl
  | cons d r ih =>
    have e := hs a d List.mem_cons_self
    rw [forGo_cons, List.find?_cons]
    cases q : g d (S a) with
    | none =>
      rw [q, bnd_none] at e
      split at e <;> cases e
    | some ρ1 =>
      rw [q, bnd_some] at e
      rw [bnd_some, e]
      by_cases hp : p d = true
      · rw [if_pos hp, hp, bnd_some]
        obtain ⟨x, hx⟩ := ho d
        show forO g n r (o d, T d) = some (o d, T d)
        rw [hx]
        rfl
      · rw [if_neg hp, Bool.eq_false_iff.mpr hp, bnd_some, forO_nx, ih (fun a d h => hs a d (List.mem_cons_of_mem _ h))]
        rfl
def strC (c : Nat) : D := .str (sS [c])
def cod : D → Nat
  | .str z => z.cps.toList.getD 0 0
  | _ => 0
@[simp] theorem cod_strC (c : Nat) : cod (strC c) = c := rfl
/-- the letter of a signal -/
def lto (l : List Nat) : Option Nat := al.find? fun c => sg c == l
def ltD (l : List Nat) : D := match lto l with
  | some c => strC c
  | none => .none
theorem sS_eqb (a b : List Nat) : decide (sS a = sS b) = (a == b) := by
  by_cases h : a = b
  · subst h; simp
  · have : ¬ sS a = sS b := fun e => h (sS_inj.mp e)
    simp [h, this]
theorem letter_ok (l : List Nat) : phi_letter_of [.str (sS l)] = some (.sh (ltD l)) := by
  have e := for_find (g := gNm 1) (n := b_letter_of_1) (ds := charsD (sS al)) (α := Option D) (fun a => [.sh (.str (sS l)), match a with | none => .no | some d => .sh d]) (fun d => sg (cod d) == l) (fun d => .rt (.sh d)) (fun d => [.sh (.str (sS l)), .sh d]) (fun _ d => some d) (fun a d hd => by
    rw [charsD_sS] at hd
    obtain ⟨c, hc, rfl⟩ := List.mem_map.mp hd
    have hk := kd_al c hc
    have hq : sg (cod (.str (sS [c]))) = sg c := rfl
    unfold b_letter_of_1
    by_cases h : sg c = l
    · cases a <;> simp [hk, hq, h]
    · have : ¬ sS (sg c) = sS l := fun e => h (sS_inj.mp e)
      cases a <;> simp [hk, hq, h, this]) (fun d => ⟨_, rfl⟩) none
  have ef : (charsD (sS al)).find? (fun d => sg (cod d) == l) = (lto l).map strC := by
    rw [charsD_sS]
    unfold lto
    rw [List.find?_map]
    rfl
  rw [ef] at e
  unfold phi_letter_of
  rw [runN_eq (by rfl)]
  unfold m_letter_of ltD
  rw [show Str.ofString "abcdefghijklmnopqrstuvwxyz" = sS al from abc_is]
  cases h : lto l with
  | none =>
    rw [h] at e
    dsimp only [Option.map] at e
    simp [e]
  | some c =>
    rw [h] at e
    dsimp only [Option.map] at e
    simp [e]
def sgD : List D := SGL.map fun l => .str (sS l)
theorem sig_texts : [Str.ofString ".-", Str.ofString "-...", Str.ofString "-.-.", Str.ofString "-..", Str.ofString ".", Str.ofString "..-.", Str.ofString "--.", Str.ofString "....", Str.ofString "..", Str.ofString ".---", Str.ofString "-.-", Str.ofString ".-..", Str.ofString "--",
    Str.ofString "-.", Str.ofString "---", Str.ofString ".--.", Str.ofString "--.-", Str.ofString ".-.", Str.ofString "...", Str.ofString "-", Str.ofString "..-", Str.ofString "...-", Str.ofString ".--", Str.ofString "-..-", Str.ofString "-.--", Str.ofString "--.."] = SGL.map sS := by decide +kernel
theorem lim_of {n : Nat} (h : n ≤ 1000) : n ≤ lim := by show _ ≤ 1000000; omega
theorem lim_lt' {n : Nat} (h : n ≤ 1000) : n < lim := by show _ < 1000000; omega
theorem signals_ok : phi_law_signals [] = some (.fr sgD) := by
  have z1 := lim_of (n := 13) (by decide)
  have z2 := lim_of (n := 26) (by decide)
  have e : sgD = ([Str.ofString ".-", Str.ofString "-...", Str.ofString "-.-.", Str.ofString "-..", Str.ofString ".", Str.ofString "..-.", Str.ofString "--.", Str.ofString "....", Str.ofString "..", Str.ofString ".---", Str.ofString "-.-", Str.ofString ".-..", Str.ofString "--",
    Str.ofString "-.", Str.ofString "---", Str.ofString ".--.", Str.ofString "--.-", Str.ofString ".-.", Str.ofString "...", Str.ofString "-", Str.ofString "..-", Str.ofString "...-", Str.ofString ".--", Str.ofString "-..-", Str.ofString "-.--", Str.ofString "--.."] : List Str).map .str := by
    rw [sig_texts, List.map_map]
    rfl
  unfold phi_law_signals
  rw [runN_eq (by rfl)]
  unfold m_law_signals
  rw [e]
  simp [z1, z2]
theorem sgD_at {c : Nat} (h : c ∈ al) : atI sgD ((c - 97 : Nat) : Int) = some (.str (sS (sg c))) := by
  rw [atI_nat']
  unfold sgD sg
  rw [List.getElem?_map]
  have hl : ∀ c ∈ al, c - 97 < SGL.length := by decide +kernel
  have := hl c h
  rw [List.getElem?_eq_getElem this, List.getD_eq_getElem?_getD, List.getElem?_eq_getElem this]
  rfl
theorem sgD_len : sgD.length = 26 := by decide +kernel
theorem spelt_ok {w : List Nat} (hw : ∀ c ∈ w, c ∈ al) (hl : w.length ≤ 1000) : phi_law_spelt [.str (sS w)] = some (.fr (w.map fun c => .str (sS (sg c)))) := by
  have e := lc_pure (gg := gNm 1) (t := mYes) (el := l_law_spelt_1) (vs := [1]) (ds := charsD (sS w)) (ρ := [.sh (.str (sS w)), .no]) (fun d => some (.str (sS (sg (cod d))))) (fun d hd => by
    rw [charsD_sS] at hd
    obtain ⟨c, hc, rfl⟩ := List.mem_map.mp hd
    have h1 := idx_al (hw c hc)
    rw [← abc_is] at h1
    have h2 := sgD_at (hw c hc)
    have h3 : sg (cod (.str (sS [c]))) = sg c := rfl
    unfold abcT at h1
    unfold l_law_spelt_1
    simp [signals_ok, h1, h2, h3]) [] (by rw [charsD_sS, List.length_map]; show _ ≤ 1000000; simp; omega)
  rw [List.nil_append, filterMap_all, charsD_sS, List.map_map] at e
  unfold phi_law_spelt
  rw [runN_eq (by rfl)]
  unfold m_law_spelt
  have e2 : (w.map ((fun d => PyData.str (sS (sg (cod d)))) ∘ fun c => PyData.str (sS [c]))) = w.map fun c => .str (sS (sg c)) := rfl
  rw [e2] at e
  simp [e, charsD_sS]
theorem al_mem {c : Nat} : c ∈ al ↔ 97 ≤ c ∧ c ≤ 122 := by
  unfold al
  rw [List.mem_map]
  constructor
  · rintro ⟨a, h, rfl⟩
    rw [List.mem_range] at h
    omega
  · intro h
    exact ⟨c - 97, List.mem_range.mpr (by omega), by omega⟩
theorem al_at {k : Nat} (hk : k < 26) : atI al (k : Int) = some (97 + k) := by
  rw [atI_nat']
  unfold al
  rw [List.getElem?_map, List.getElem?_range hk]
  rfl
theorem join_chars {cs : List Nat} (h : cs.length ≤ 1000) : joinD (.str (Str.ofString "")) (.list (cs.map fun c => .str (sS [c]))) = some (.sh (.str (sS cs))) := by
  have e : (cs.map fun c => PyData.str (sS [c])) = (cs.map fun c => [c]).map fun l => .str (sS l) := by rw [List.map_map]; rfl
  have hf : (cs.map fun c => [c]).flatten = cs := by
    clear e h
    induction cs with
    | nil => rfl
    | cons c r ih => rw [List.map_cons, List.flatten_cons, ih]; rfl
  rw [e, join_all (by rw [hf]; omega), hf]
theorem chars_of {z : List Nat} : ∀ {ds : List D}, (∀ d ∈ ds, ∃ c, d = .str (sS [c]) ∧ c ∈ z) → ∃ cs : List Nat, ds = (cs.map fun c => .str (sS [c])) ∧ ∀ c ∈ cs, c ∈ z
  | [], _ => ⟨[], rfl, fun c h => by cases h⟩
  | d :: r, h => by
    obtain ⟨c, rfl, hc⟩ := h d List.mem_cons_self
    obtain ⟨cs, rfl, hcs⟩ := chars_of fun d hd => h d (List.mem_cons_of_mem _ hd)
    refine ⟨c :: cs, rfl, fun x hx => ?_⟩
    rcases List.mem_cons.mp hx with rfl | hx
    · exact hc
    · exact hcs x hx
/-- signs drawn from a text -/
theorem draws_ok {g : MG} {el : MR} {v : Nat} {S : List D → En} {z : List Nat} {k : Int} (hz : z ≠ []) (hzl : z.length ≤ 900)
    (hel : ∀ (ws ws' : List D) (d : D) (c : Nat), phi_law_pick ws [.str (sS z)] = some (.sh (.str (sS [c])), ws') → lcTurn g mYes el [v] d (S ws) = some (some (.str (sS [c])), S ws')) {ws : List D} (b : BoxOk ws) (hk : k ≤ 100) :
    ∃ (cs : List Nat) (ws' : List D), lcGo g mYes el [v] (rangeD 0 k) (S ws) [] = some (cs.map fun c => .str (sS [c]), S ws') ∧ BoxOk ws' ∧ cs.length = k.toNat ∧ ∀ c ∈ cs, c ∈ z := by
  obtain ⟨ys, ρ1, e2, ⟨w2, rfl, b2⟩, hy, hn⟩ := lc_invA (gg := g) (t := mYes) (el := el) (vs := [v]) (ds := rangeD 0 k) (ρ := S ws) (fun ρ => ∃ ws, ρ = S ws ∧ BoxOk ws) (fun d => ∃ c, d = .str (sS [c]) ∧ c ∈ z)
    (fun d _ ρ h => by
      obtain ⟨ws, rfl, b⟩ := h
      obtain ⟨c, w1, e1, b1, hc⟩ := picks_ok (z := sS z) b (by simpa using hz) (by rw [sS_len]; exact lim_of (by omega))
      exact ⟨.str (sS [c]), S w1, hel ws w1 d c e1, ⟨w1, rfl, b1⟩, c, rfl, by simpa using hc⟩) ⟨ws, rfl, b⟩ [] (by rw [rangeD_len]; show _ ≤ 1000000; simp; omega)
  obtain ⟨cs, rfl, hc⟩ := chars_of hy
  rw [List.length_map, rangeD_len] at hn
  exact ⟨cs, w2, e2, b2, by omega, hc⟩
/-- a comprehension that gives each item's image -/
theorem lc_map {α : Type} {g : MG} {el : MR} {vs : List Nat} {ρ : En} {f h : α → D} {xs : List α} (hl : xs.length ≤ 100000) (hs : ∀ x ∈ xs, lcTurn g mYes el vs (f x) ρ = some (some (h x), ρ)) : lcGo g mYes el vs (xs.map f) ρ [] = some (xs.map h, ρ) := by
  have key : ∀ (xs : List α) (acc : List D), acc.length + xs.length ≤ 100000 → (∀ x ∈ xs, lcTurn g mYes el vs (f x) ρ = some (some (h x), ρ)) → lcGo g mYes el vs (xs.map f) ρ acc = some (acc ++ xs.map h, ρ) := by
    intro xs
    induction xs with
    | nil => intro acc _ _; simp [lcGo]
    | cons x r ih =>
      intro acc hl hs
      rw [List.length_cons] at hl
      rw [List.map_cons, lcGo_cons, hs x List.mem_cons_self, bnd_some]
      show (if acc.length < lim then _ else none) = _
      rw [if_pos (show acc.length < 1000000 by omega), ih (acc ++ [h x]) (by rw [List.length_append, List.length_singleton]; omega) (fun y hy => hs y (List.mem_cons_of_mem _ hy)), List.append_assoc]
      rfl
  have := key xs [] (by simpa using hl) hs
  rwa [List.nil_append] at this
end Law
/-! whole numbers kept, ranges -/
namespace Law
open PySem PySem.Spec PyProof.Rows L2 Mi
set_option maxRecDepth 100000
set_option maxHeartbeats 1000000
theorem shaped_i (i : Int) : SeqAt.shaped (.int i) = true := shaped_of rfl (Nat.zero_le _)
theorem inD_ints (a : Int) (ns : List Int) : inD (.int a) (.list (ns.map .int)) = some (decide (a ∈ ns)) := by
  show (if SeqAt.shaped (.int a) = true ∧ SeqAt.shaped (.list (ns.map .int)) = true then some ((ns.map PyData.int).any fun z => PyData.eqv z (.int a)) else none) = _
  rw [if_pos ⟨shaped_i a, shaped_ints ns⟩]
  congr 1
  induction ns with
  | nil => rfl
  | cons n r ih =>
    rw [List.map_cons, List.any_cons, ih]
    by_cases h : a = n
    · subst h
      simp [PyData.eqv]
    · have : ¬ n = a := fun e => h e.symm
      simp [PyData.eqv, h, this]
def rng (m : Int) : List Int := rangeL 0 m.toNat
theorem rangeD_rng {m : Int} : rangeD 0 m = (rng m).map .int := by
  unfold rangeD rng
  rw [Int.sub_zero]
theorem fm_filter {α : Type} {f : α → D} {p : α → Bool} {g : D → Option D} (h : ∀ x, g (f x) = if p x = true then some (f x) else none) : ∀ xs : List α, (xs.map f).filterMap g = (xs.filter p).map f
  | [] => rfl
  | x :: r => by
    rw [List.map_cons, List.filterMap_cons, h x, List.filter_cons, fm_filter h r]
    by_cases hp : p x = true
    · rw [if_pos hp, if_pos hp]; rfl
    · rw [if_neg hp, if_neg hp]
/-- a comprehension that keeps the numbers by a test -/
def keepD (p : Int → Bool) : D → Option D
  | .int i => if p i = true then some (.int i) else none
  | _ => none
theorem keep_ints {g : MG} {t : MB} {el : MR} {vs : List Nat} {ρ : En} {ns : List Int} (p : Int → Bool) (hl : ns.length ≤ 1000) (hs : ∀ i ∈ ns, lcTurn g t el vs (.int i) ρ = some (if p i = true then some (.int i) else none, ρ)) :
    lcGo g t el vs (ns.map .int) ρ [] = some ((ns.filter p).map .int, ρ) := by
  have e := lc_pure (gg := g) (t := t) (el := el) (vs := vs) (ds := ns.map .int) (ρ := ρ) (keepD p) (fun d hd => by
    obtain ⟨i, hi, rfl⟩ := List.mem_map.mp hd
    exact hs i hi) [] (by rw [List.length_map]; show _ ≤ 1000000; simp; omega)
  rw [e, List.nil_append, fm_filter (f := PyData.int) (p := p) (fun x => rfl)]
theorem rng_len {m : Int} : (rng m).length = m.toNat := by
  unfold rng
  rw [rangeL_eq, List.length_map, List.length_range]
theorem same_ints {ns : List Int} (hl : ns.length ≤ 900) (h : ∀ i ∈ ns, -1000000000 ≤ i ∧ i ≤ 1000000000) : phi_law_same 12 [.list (ns.map .int), .list (ns.map .int)] = some (.sh (.bool true)) := same_ok 11 _ ⟨by
  rw [List.length_map]
  show _ ≤ 1000000
  omega, plain_ints ns, fun d hd => by
  obtain ⟨i, hi, rfl⟩ := List.mem_map.mp hd
  have := h i hi
  exact i64_of (by omega) (by omega)⟩
theorem rng_mem {m i : Int} (h : i ∈ rng m) : 0 ≤ i ∧ i < m := by
  unfold rng at h
  have := rangeL_mem h
  omega
theorem mem_rng {m i : Int} (h0 : 0 ≤ i) (h1 : i < m) : i ∈ rng m := by
  unfold rng
  rw [rangeL_eq]
  exact List.mem_map.mpr ⟨i.toNat, List.mem_range.mpr (by omega), by omega⟩
theorem rng_lt (m : Int) : (rng m).Pairwise (· < ·) := by
  unfold rng
  rw [rangeL_eq, List.pairwise_map]
  exact List.pairwise_lt_range.imp fun h => by omega
end Law
/-! k58: two ways to read a line -/
namespace Law
open PySem PySem.Spec PyProof.Rows L2 Mi
set_option maxRecDepth 100000
set_option maxHeartbeats 1000000
/-- a stretch of current -/
def T (tok : List Nat) : List Nat := if tok = [61] then [46] else if tok = [61, 61, 61] then [45] else [63]
abbrev S3 : List Nat := [32, 32, 32]
def rd : Nat → List Nat → List Nat → List Nat → Option (List Nat)
  | _, tok, sig, [] => (lto (sig ++ T tok)).map fun c => [c]
  | k + 1, tok, sig, _ :: r => rd k tok sig r
  | 0, tok, sig, c :: r => if TL.pre S3 (c :: r) = true then (lto (sig ++ T tok)).bind fun x => (rd 2 [] [] r).map (x :: ·) else if c = 32 then rd 0 [] (sig ++ T tok) r else rd 0 (tok ++ [c]) sig r
theorem rd_pass : ∀ (k : Nat) (tok sig l : List Nat), rd k tok sig l = rd 0 tok sig (l.drop k)
  | 0, _, _, _ => by rw [List.drop_zero]
  | k + 1, tok, sig, [] => by rw [List.drop_nil]; rfl
  | k + 1, tok, sig, _ :: r => by
    show rd k tok sig r = _
    rw [rd_pass k, List.drop_succ_cons]
/-! the program's way -/
def Fl (tok l : List Nat) : List Nat := ((TL.spl [32] 0 tok l).map T).flatten
theorem Fl_nil (tok : List Nat) : Fl tok [] = T tok := by
  unfold Fl
  rw [TL.spl_nil]
  simp
theorem pre1 (c : Nat) (r : List Nat) : TL.pre [32] (c :: r) = decide (c = 32) := by
  by_cases h : c = 32
  · subst h
    rw [decide_eq_true rfl]
    exact TL.pre_self [32] r
  · rw [decide_eq_false h]
    exact TL.pre_of_head [] r h
theorem Fl_cons (tok : List Nat) (c : Nat) (r : List Nat) : Fl tok (c :: r) = if c = 32 then T tok ++ Fl [] r else Fl (tok ++ [c]) r := by
  unfold Fl
  by_cases h : c = 32
  · rw [if_pos h, TL.spl_hit (by rw [pre1, decide_eq_true h])]
    rfl
  · rw [if_neg h, TL.spl_miss (by rw [pre1, decide_eq_false h])]
def run : List Nat → List Nat → List Nat × List Nat
  | tok, [] => (tok, [])
  | tok, c :: r => if c = 32 then ((run [] r).1, T tok ++ (run [] r).2) else run (tok ++ [c]) r
theorem Fl_run : ∀ (acc tok x : List Nat), Fl tok (acc ++ x) = (run tok acc).2 ++ Fl (run tok acc).1 x
  | [], tok, x => rfl
  | c :: r, tok, x => by
    rw [List.cons_append, Fl_cons]
    unfold run
    by_cases h : c = 32
    · rw [if_pos h, if_pos h, Fl_run r [] x, List.append_assoc]
    · rw [if_neg h, if_neg h, Fl_run r _ x]
theorem run_snoc : ∀ (acc tok : List Nat) (c : Nat), run tok (acc ++ [c]) = if c = 32 then ([], (run tok acc).2 ++ T (run tok acc).1) else ((run tok acc).1 ++ [c], (run tok acc).2)
  | [], tok, c => by
    show run tok [c] = _
    unfold run
    by_cases h : c = 32
    · rw [if_pos h, if_pos h]; simp [run]
    · rw [if_neg h, if_neg h]; simp [run]
  | d :: r, tok, c => by
    show run tok (d :: (r ++ [c])) = _
    unfold run
    by_cases h : d = 32
    · rw [if_pos h, if_pos h, run_snoc r [] c]
      by_cases h2 : c = 32
      · rw [if_pos h2, if_pos h2]; simp
      · rw [if_neg h2, if_neg h2]
    · rw [if_neg h, if_neg h, run_snoc r _ c]
def readP : List (List Nat) → Option (List Nat)
  | [] => some []
  | p :: ps => (lto (Fl [] p)).bind fun c => (readP ps).map (c :: ·)
theorem readP_rd : ∀ (l : List Nat) (k : Nat) (acc : List Nat), readP (TL.spl S3 k acc l) = rd k (run [] acc).1 (run [] acc).2 l
  | [], k, acc => by
    rw [TL.spl_nil]
    have e := Fl_run acc [] []
    rw [List.append_nil, Fl_nil] at e
    have : rd k (run [] acc).1 (run [] acc).2 [] = (lto ((run [] acc).2 ++ T (run [] acc).1)).map fun c => [c] := by cases k <;> rfl
    rw [this, ← e]
    show (lto (Fl [] acc)).bind (fun c => (some []).map (c :: ·)) = _
    cases lto (Fl [] acc) <;> rfl
  | c :: r, k + 1, acc => readP_rd r k acc
  | c :: r, 0, acc => by
    show readP (if TL.pre S3 (c :: r) = true then acc :: TL.spl S3 2 [] r else TL.spl S3 0 (acc ++ [c]) r) = if TL.pre S3 (c :: r) = true then _ else _
    by_cases h : TL.pre S3 (c :: r) = true
    · rw [if_pos h, if_pos h]
      have e := Fl_run acc [] []
      rw [List.append_nil, Fl_nil] at e
      have ih := readP_rd r 2 []
      show (lto (Fl [] acc)).bind (fun x => (readP (TL.spl S3 2 [] r)).map (x :: ·)) = _
      rw [e, ih]
      rfl
    · rw [if_neg h, if_neg h]
      have ih := readP_rd r 0 (acc ++ [c])
      rw [ih, run_snoc]
      by_cases h2 : c = 32
      · rw [if_pos h2, if_pos h2]
      · rw [if_neg h2, if_neg h2]
/-! the law's way -/
def str : Nat → Nat → List Nat → List (Nat × Nat)
  | c, n, [] => [(c, n)]
  | c, n, d :: r => if d = c then str c (n + 1) r else (c, n) :: str d 1 r
def lw : List Nat → List (Nat × Nat) → Option (List Nat)
  | _, [] => some []
  | sig, (c, n) :: rs => if n ≠ 1 ∧ n ≠ 3 then none else if c = 61 then lw (sig ++ [if n = 1 then 46 else 45]) rs else if n = 3 then (lto sig).bind fun x => (lw [] rs).map (x :: ·) else lw sig rs
def LW (sig : List Nat) (rows : List (Nat × Nat)) : Option (List Nat) := if (rows.getLast?).map (·.1) = some 61 then lw sig (rows ++ [(32, 3)]) else none
theorem lto_sg {l : List Nat} {c : Nat} (h : lto l = some c) : c ∈ al ∧ sg c = l := by
  unfold lto at h
  have h1 := List.find?_some h
  exact ⟨List.mem_of_find?_eq_some h, eq_of_beq h1⟩
theorem lto_bad {l : List Nat} (h : 63 ∈ l) : lto l = none := by
  cases q : lto l with
  | none => rfl
  | some c =>
    obtain ⟨h1, h2⟩ := lto_sg q
    have := sg_dots c h1 63 (h2 ▸ h)
    omega
theorem rd_bad : ∀ (l : List Nat) (k : Nat) (tok sig : List Nat), 63 ∈ sig → rd k tok sig l = none
  | [], k, tok, sig, h => by
    have : rd k tok sig [] = (lto (sig ++ T tok)).map fun c => [c] := by cases k <;> rfl
    rw [this, lto_bad (List.mem_append_left _ h)]
    rfl
  | c :: r, k + 1, tok, sig, h => rd_bad r k tok sig h
  | c :: r, 0, tok, sig, h => by
    show (if TL.pre S3 (c :: r) = true then _ else _) = _
    rw [lto_bad (List.mem_append_left _ h)]
    by_cases h1 : TL.pre S3 (c :: r) = true
    · rw [if_pos h1]; rfl
    · rw [if_neg h1]
      by_cases h2 : c = 32
      · rw [if_pos h2]; exact rd_bad r 0 _ _ (List.mem_append_left _ h)
      · rw [if_neg h2]; exact rd_bad r 0 _ _ h
theorem T_nil : T [] = [63] := rfl
/-- a blank ahead, or nothing: no letter -/
theorem rd_blank {sig l : List Nat} (h : ∀ c r, l = c :: r → c = 32) : rd 0 [] sig l = none := by
  cases l with
  | nil =>
    show (lto (sig ++ T [])).map _ = none
    rw [lto_bad (by rw [T_nil]; simp)]
    rfl
  | cons c r =>
    have := h c r rfl
    subst this
    show (if TL.pre S3 (32 :: r) = true then _ else if (32 : Nat) = 32 then rd 0 [] (sig ++ T []) r else _) = _
    rw [lto_bad (by rw [T_nil]; simp), if_pos rfl, rd_bad r 0 [] _ (by rw [T_nil]; simp)]
    split <;> rfl
theorem pre3_eq (m : Nat) {r : List Nat} (hr : ∀ c q, r = c :: q → c ≠ 32) : TL.pre S3 (List.replicate (m + 1) 32 ++ r) = decide (2 ≤ m) := by
  unfold TL.pre
  match m with
  | 0 =>
    rw [decide_eq_false (by omega)]
    cases r with
    | nil => rfl
    | cons c q =>
      have := hr c q rfl
      cases q with
      | nil =>
        show ([32, c] == S3) = false
        simp
      | cons d q =>
        show ([32, c, d] == S3) = false
        simp [this]
  | 1 =>
    rw [decide_eq_false (by omega)]
    cases r with
    | nil => rfl
    | cons c q =>
      have := hr c q rfl
      show ([32, 32, c] == S3) = false
      simp [this]
  | m + 2 =>
    rw [decide_eq_true (by omega)]
    rfl
theorem rd_sp1 {tok sig r : List Nat} {m : Nat} (hm : m < 2) (hr : ∀ c q, r = c :: q → c ≠ 32) : rd 0 tok sig (List.replicate (m + 1) 32 ++ r) = rd 0 [] (sig ++ T tok) (List.replicate m 32 ++ r) := by
  have hp := pre3_eq m hr
  rw [decide_eq_false (by omega)] at hp
  rw [List.replicate_succ, List.cons_append] at hp ⊢
  show (if TL.pre S3 (32 :: (List.replicate m 32 ++ r)) = true then _ else if (32 : Nat) = 32 then rd 0 [] (sig ++ T tok) (List.replicate m 32 ++ r) else _) = _
  rw [if_neg (by rw [hp]; exact Bool.false_ne_true), if_pos rfl]
theorem rd_sp3 {tok sig r : List Nat} {m : Nat} (hr : ∀ c q, r = c :: q → c ≠ 32) : rd 0 tok sig (List.replicate (m + 3) 32 ++ r) = (lto (sig ++ T tok)).bind fun x => (rd 0 [] [] (List.replicate m 32 ++ r)).map (x :: ·) := by
  have hp := pre3_eq (m + 2) hr
  rw [decide_eq_true (by omega)] at hp
  have e : List.replicate (m + 3) 32 ++ r = 32 :: 32 :: 32 :: (List.replicate m 32 ++ r) := rfl
  rw [show m + 2 + 1 = m + 3 from rfl] at hp
  rw [e] at hp ⊢
  show (if TL.pre S3 (32 :: 32 :: 32 :: (List.replicate m 32 ++ r)) = true then (lto (sig ++ T tok)).bind fun x => (rd 2 [] [] (32 :: 32 :: (List.replicate m 32 ++ r))).map (x :: ·) else _) = _
  rw [if_pos hp]
  rfl
theorem rd_cur {tok sig r : List Nat} : rd 0 tok sig (61 :: r) = rd 0 (tok ++ [61]) sig r := by
  show (if TL.pre S3 (61 :: r) = true then _ else if (61 : Nat) = 32 then _ else rd 0 (tok ++ [61]) sig r) = _
  rw [if_neg (by rw [TL.pre_of_head [32, 32] r (by decide)]; exact Bool.false_ne_true), if_neg (by decide)]
/-- blanks at the beginning -/
theorem blanks : ∀ (l : List Nat), (∀ c ∈ l, c = 32 ∨ c = 61) → ∃ m r, l = List.replicate m 32 ++ r ∧ (r = [] ∨ ∃ q, r = 61 :: q)
  | [], _ => ⟨0, [], rfl, .inl rfl⟩
  | c :: l, h => by
    rcases h c List.mem_cons_self with rfl | rfl
    · obtain ⟨m, r, e, hr⟩ := blanks l fun x hx => h x (List.mem_cons_of_mem _ hx)
      exact ⟨m + 1, r, by rw [e]; rfl, hr⟩
    · exact ⟨0, 61 :: l, rfl, .inr ⟨l, rfl⟩⟩
theorem str_sp : ∀ (m k : Nat) (r : List Nat), str 32 k (List.replicate m 32 ++ r) = str 32 (k + m) r
  | 0, k, r => rfl
  | m + 1, k, r => by
    rw [List.replicate_succ, List.cons_append]
    show (if (32 : Nat) = 32 then str 32 (k + 1) (List.replicate m 32 ++ r) else _) = _
    rw [if_pos rfl, str_sp m (k + 1) r, show k + 1 + m = k + (m + 1) by omega]
theorem str_ne : ∀ (l : List Nat) (c n : Nat), str c n l ≠ []
  | [], c, n => by simp [str]
  | d :: r, c, n => by
    unfold str
    split
    · exact str_ne r c (n + 1)
    · simp
theorem T_rep (n : Nat) : T (List.replicate n 61) = if n = 1 then [46] else if n = 3 then [45] else [63] := by
  unfold T
  by_cases h1 : n = 1
  · subst h1; rfl
  · by_cases h3 : n = 3
    · subst h3; rfl
    · have l1 : ¬ List.replicate n 61 = [61] := fun e => h1 (by have := congrArg List.length e; simpa using this)
      have l3 : ¬ List.replicate n 61 = [61, 61, 61] := fun e => h3 (by have := congrArg List.length e; simpa using this)
      rw [if_neg l1, if_neg l3, if_neg h1, if_neg h3]
theorem LW_cons {sig : List Nat} {p : Nat × Nat} {rs : List (Nat × Nat)} (h : rs ≠ []) : ((p :: rs).getLast?).map (·.1) = (rs.getLast?).map (·.1) := by
  rw [List.getLast?_cons_of_ne_nil h]
/-- a stretch of current, told -/
theorem lw_cur (sig : List Nat) (n : Nat) (rs : List (Nat × Nat)) : lw sig ((61, n) :: rs) = if n = 1 ∨ n = 3 then lw (sig ++ T (List.replicate n 61)) rs else none := by
  show (if n ≠ 1 ∧ n ≠ 3 then none else if (61 : Nat) = 61 then lw (sig ++ [if n = 1 then 46 else 45]) rs else _) = _
  rw [T_rep]
  by_cases h1 : n = 1
  · subst h1; rfl
  · by_cases h3 : n = 3
    · subst h3; rfl
    · rw [if_pos ⟨h1, h3⟩, if_neg fun h => h.elim h1 h3]
theorem lw_gap (sig : List Nat) (rs : List (Nat × Nat)) : lw sig ((32, 3) :: rs) = (lto sig).bind fun x => (lw [] rs).map (x :: ·) := by
  show (if (3 : Nat) ≠ 1 ∧ (3 : Nat) ≠ 3 then none else if (32 : Nat) = 61 then _ else if (3 : Nat) = 3 then (lto sig).bind fun x => (lw [] rs).map (x :: ·) else lw sig rs) = _
  rw [if_neg (by omega), if_neg (by decide), if_pos rfl]
theorem lw_one (sig : List Nat) (rs : List (Nat × Nat)) : lw sig ((32, 1) :: rs) = lw sig rs := by
  show (if (1 : Nat) ≠ 1 ∧ (1 : Nat) ≠ 3 then none else if (32 : Nat) = 61 then _ else if (1 : Nat) = 3 then _ else lw sig rs) = _
  rw [if_neg (by omega), if_neg (by decide), if_neg (by decide)]
theorem lw_no (sig : List Nat) (c m : Nat) (rs : List (Nat × Nat)) (h : m ≠ 1 ∧ m ≠ 3) : lw sig ((c, m) :: rs) = none := by
  show (if m ≠ 1 ∧ m ≠ 3 then none else _) = _
  rw [if_pos h]
theorem T_bad {n : Nat} (h : ¬ (n = 1 ∨ n = 3)) : T (List.replicate n 61) = [63] := by
  rw [T_rep, if_neg (by omega), if_neg (by omega)]
/-- in a stretch of current -/
theorem rd_LW : ∀ (N : Nat) (l : List Nat) (n : Nat) (sig : List Nat), l.length ≤ N → (∀ c ∈ l, c = 32 ∨ c = 61) → rd 0 (List.replicate n 61) sig l = LW sig (str 61 n l) := by
  intro N
  induction N with
  | zero =>
    intro l n sig hl _
    have : l = [] := List.eq_nil_of_length_eq_zero (by omega)
    subst this
    show (lto (sig ++ T (List.replicate n 61))).map _ = if (61 : Nat) |> some |> (· = some 61) then lw sig ([(61, n)] ++ [(32, 3)]) else none
    rw [if_pos rfl, List.singleton_append, lw_cur, lw_gap]
    by_cases hn : n = 1 ∨ n = 3
    · rw [if_pos hn]
      cases lto (sig ++ T (List.replicate n 61)) <;> rfl
    · rw [if_neg hn, T_bad hn, lto_bad (by simp)]
      rfl
  | succ N ih =>
    intro l n sig hl hc
    cases l with
    | nil => exact ih [] n sig (by simp) hc
    | cons c r =>
      rcases hc c List.mem_cons_self with rfl | rfl
      · -- blanks
        obtain ⟨m, q, e, hq⟩ := blanks r fun x hx => hc x (List.mem_cons_of_mem _ hx)
        have hlen : r.length = m + q.length := by rw [e, List.length_append, List.length_replicate]
        rw [List.length_cons] at hl
        have hstr : str 61 n (32 :: r) = (61, n) :: str 32 1 r := by
          show (if (32 : Nat) = 61 then _ else (61, n) :: str 32 1 r) = _
          rw [if_neg (by decide)]
        have e' : 32 :: r = List.replicate (m + 1) 32 ++ q := by rw [e]; rfl
        rw [hstr, e, str_sp]
        rw [show (32 :: (List.replicate m 32 ++ q)) = List.replicate (m + 1) 32 ++ q from rfl]
        have hq32 : ∀ c p, q = c :: p → c ≠ 32 := fun c p e => by
          rcases hq with rfl | ⟨q', rfl⟩
          · cases e
          · injection e with e1 e2
            omega
        rcases hq with rfl | ⟨q', rfl⟩
        · -- to the end
          have hlw : LW sig ((61, n) :: str 32 (1 + m) []) = none := by
            show (if (some (32 : Nat)) = some 61 then _ else none) = none
            rw [if_neg (by decide)]
          rw [hlw]
          rcases Nat.lt_or_ge m 2 with hm | hm
          · rw [rd_sp1 hm hq32, List.append_nil]
            refine rd_blank fun c p e => ?_
            have : c ∈ List.replicate m 32 := by rw [e]; exact List.mem_cons_self
            exact List.eq_of_mem_replicate this
          · obtain ⟨k, rfl⟩ : ∃ k, m = k + 2 := ⟨m - 2, by omega⟩
            rw [show k + 2 + 1 = k + 3 from rfl, rd_sp3 hq32, List.append_nil, rd_blank fun c p e => ?_]
            · cases lto (sig ++ T (List.replicate n 61)) <;> rfl
            · have : c ∈ List.replicate k 32 := by rw [e]; exact List.mem_cons_self
              exact List.eq_of_mem_replicate this
        · have hq' : ∀ c ∈ q', c = 32 ∨ c = 61 := fun x hx => hc x (List.mem_cons_of_mem _ (by rw [e]; exact List.mem_append_right _ (List.mem_cons_of_mem _ hx)))
          rw [List.length_cons] at hlen
          have hst : str 32 (1 + m) (61 :: q') = (32, 1 + m) :: str 61 1 q' := by
            show (if (61 : Nat) = 32 then _ else (32, 1 + m) :: str 61 1 q') = _
            rw [if_neg (by decide)]
          rw [hst]
          have hlast : (((61, n) :: (32, 1 + m) :: str 61 1 q').getLast?).map (·.1) = ((str 61 1 q').getLast?).map (·.1) := by
            rw [LW_cons (sig := []) (by simp), LW_cons (sig := []) (str_ne _ _ _)]
          have hL : LW sig ((61, n) :: (32, 1 + m) :: str 61 1 q') = if ((str 61 1 q').getLast?).map (·.1) = some 61 then lw sig ((61, n) :: (32, 1 + m) :: (str 61 1 q' ++ [(32, 3)])) else none := by
            unfold LW
            rw [hlast]
            rfl
          rw [hL, lw_cur]
          by_cases hn : n = 1 ∨ n = 3
          · rw [if_pos hn]
            have hI : ∀ s, rd 0 [61] s q' = if ((str 61 1 q').getLast?).map (·.1) = some 61 then lw s (str 61 1 q' ++ [(32, 3)]) else none := fun s => ih q' 1 s (by omega) hq'
            match m, hlen with
            | 0, _ =>
              rw [rd_sp1 (by omega) hq32]
              show rd 0 [] (sig ++ T (List.replicate n 61)) (61 :: q') = _
              rw [rd_cur, List.nil_append, hI, show 1 + 0 = 1 from rfl, lw_one]
            | 1, _ =>
              rw [rd_sp1 (by omega) hq32, show 1 + 1 = 2 from rfl, lw_no _ _ 2 _ (by omega), ite_self]
              exact rd_blank fun c r e => by injection e with e1 e2; omega
            | 2, _ =>
              rw [show (2 : Nat) + 1 = 0 + 3 from rfl, rd_sp3 hq32, show 1 + 2 = 3 from rfl, lw_gap]
              show ((lto (sig ++ T (List.replicate n 61))).bind fun x => (rd 0 [] [] (61 :: q')).map (x :: ·)) = _
              rw [rd_cur, List.nil_append, hI]
              by_cases hl : ((str 61 1 q').getLast?).map (·.1) = some 61
              · rw [if_pos hl, if_pos hl]
              · rw [if_neg hl, if_neg hl]
                cases lto (sig ++ T (List.replicate n 61)) <;> rfl
            | m + 3, _ =>
              rw [show m + 3 + 1 = (m + 1) + 3 from rfl, rd_sp3 hq32, lw_no _ _ (1 + (m + 3)) _ (by omega), ite_self, rd_blank fun c r e => by injection e with e1 e2; omega]
              cases lto (sig ++ T (List.replicate n 61)) <;> rfl
          · rw [if_neg hn, ite_self]
            rcases Nat.lt_or_ge m 2 with hm | hm
            · rw [rd_sp1 hm hq32, rd_bad _ 0 _ _ (by rw [T_bad hn]; simp)]
            · obtain ⟨k, rfl⟩ : ∃ k, m = k + 2 := ⟨m - 2, by omega⟩
              rw [show k + 2 + 1 = k + 3 from rfl, rd_sp3 hq32, lto_bad (by rw [T_bad hn]; simp)]
              rfl
      · -- current goes on
        have e1 : str 61 n (61 :: r) = str 61 (n + 1) r := by
          show (if (61 : Nat) = 61 then str 61 (n + 1) r else _) = _
          rw [if_pos rfl]
        rw [rd_cur, e1, show List.replicate n 61 ++ [61] = List.replicate (n + 1) 61 from (List.replicate_succ' ..).symm]
        exact ih r (n + 1) sig (by rw [List.length_cons] at hl; omega) fun x hx => hc x (List.mem_cons_of_mem _ hx)
/-- a line, read both ways -/
theorem two_ways {l : List Nat} (h0 : l ≠ []) (hc : ∀ c ∈ l, c = 32 ∨ c = 61) : readP (TL.spl S3 0 [] l) = (match l with | 61 :: r => LW [] (str 61 1 r) | _ => none) := by
  rw [readP_rd]
  show rd 0 [] [] l = _
  cases l with
  | nil => exact absurd rfl h0
  | cons c r =>
    rcases hc c List.mem_cons_self with rfl | rfl
    · exact rd_blank fun c q e => by injection e with e1 e2; exact e1.symm
    · show rd 0 [] [] (61 :: r) = LW [] (str 61 1 r)
      rw [rd_cur]
      exact rd_LW r.length r 1 [] (Nat.le_refl _) fun x hx => hc x (List.mem_cons_of_mem _ hx)
end Law
/-! k58: the program reads -/
namespace Law
open PySem PySem.Spec PyProof.Rows L2 Mi
set_option maxRecDepth 100000
set_option maxHeartbeats 1000000
theorem t_sp1 : Str.ofString " " = sS [32] := by decide +kernel
theorem t_sp3 : Str.ofString "   " = sS S3 := by decide +kernel
theorem t_eq : Str.ofString "=" = sS [61] := by decide +kernel
theorem t_eq3 : Str.ofString "===" = sS [61, 61, 61] := by decide +kernel
theorem t_dot : Str.ofString "." = sS [46] := by decide +kernel
theorem t_dash : Str.ofString "-" = sS [45] := by decide +kernel
theorem t_q : Str.ofString "?" = sS [63] := by decide +kernel
theorem t_nil : Str.ofString "" = sS [] := by decide +kernel
theorem spl_len (b : List Nat) : ∀ (l : List Nat) (k : Nat) (acc : List Nat), (TL.spl b k acc l).length ≤ l.length + 1
  | [], k, acc => by rw [TL.spl_nil]; simp
  | c :: r, k + 1, acc => by
    have := spl_len b r k acc
    rw [List.length_cons]
    exact Nat.le_trans this (by omega)
  | c :: r, 0, acc => by
    show (if TL.pre b (c :: r) = true then acc :: TL.spl b (b.length - 1) [] r else TL.spl b 0 (acc ++ [c]) r).length ≤ _
    rw [List.length_cons]
    split
    · have := spl_len b r (b.length - 1) []
      rw [List.length_cons]; omega
    · have := spl_len b r 0 (acc ++ [c])
      omega
theorem spl_mem (b : List Nat) : ∀ (l : List Nat) (k : Nat) (acc p : List Nat), p ∈ TL.spl b k acc l → p.length ≤ acc.length + l.length
  | [], k, acc, p, h => by
    rw [TL.spl_nil, List.mem_singleton] at h
    subst h
    omega
  | c :: r, k + 1, acc, p, h => by
    have := spl_mem b r k acc p h
    rw [List.length_cons]; omega
  | c :: r, 0, acc, p, h => by
    have h' : p ∈ (if TL.pre b (c :: r) = true then acc :: TL.spl b (b.length - 1) [] r else TL.spl b 0 (acc ++ [c]) r) := h
    rw [List.length_cons]
    split at h'
    · rcases List.mem_cons.mp h' with rfl | h'
      · omega
      · have := spl_mem b r (b.length - 1) [] p h'
        rw [List.length_nil] at this
        omega
    · have := spl_mem b r 0 (acc ++ [c]) p h'
      rw [List.length_append, List.length_singleton] at this
      omega
theorem T_len (t : List Nat) : (T t).length = 1 := by
  unfold T
  split
  · rfl
  · split <;> rfl
theorem Fl_len (p : List Nat) : (Fl [] p).length ≤ p.length + 1 := by
  have h := spl_len [32] p 0 []
  have : (Fl [] p).length = (TL.spl [32] 0 [] p).length := by
    unfold Fl
    clear h
    generalize TL.spl [32] 0 [] p = ts
    induction ts with
    | nil => rfl
    | cons t r ih => rw [List.map_cons, List.flatten_cons, List.length_append, T_len, ih, List.length_cons]; omega
  omega
theorem lit_T (t : List Nat) : (if sS t = sS [61] then sS [46] else if sS t = sS [61, 61, 61] then sS [45] else sS [63]) = sS (T t) := by
  unfold T
  by_cases h1 : t = [61]
  · subst h1; simp
  · have : ¬ sS t = sS [61] := fun e => h1 (sS_inj.mp e)
    rw [if_neg this, if_neg h1]
    by_cases h3 : t = [61, 61, 61]
    · subst h3; simp
    · have : ¬ sS t = sS [61, 61, 61] := fun e => h3 (sS_inj.mp e)
      rw [if_neg this, if_neg h3]
theorem signs_lc {p : List Nat} {m0 m1 m2 m3 m4 m5 : M} (hp : p.length ≤ 10000) (h5 : Shy m5) : lcGo (gNm 5) mYes l_read_line_1 [5] ((TL.spl [32] 0 [] p).map fun t => .str (sS t)) [m0, m1, m2, m3, m4, m5] [] = some ((TL.spl [32] 0 [] p).map fun t => .str (sS (T t)), [m0, m1, m2, m3, m4, m5]) := by
  have hn := spl_len [32] p 0 []
  refine lc_map (by omega) fun t _ => ?_
  unfold l_read_line_1
  rw [t_eq, t_dot, t_eq3, t_dash, t_q]
  have := lit_T t
  simp [shy_free h5, this]
theorem read_turn {l p f : List Nat} {m2 m3 m4 : M} (hp : p.length ≤ 10000) (hf : f.length ≤ 100000) (h2 : Shy m2) (h3 : freeM (some m3) = true) (h4 : Shy m4) :
    ∃ ρ', bnd (gNm 2 (.str (sS p)) [.sh (.str (sS l)), .sh (.str (sS f)), m2, m3, m4, .no]) b_read_line_1 = some (match lto (Fl [] p) with | none => (.rt (.sh .none), ρ') | some c => (.nx, [.sh (.str (sS l)), .sh (.str (sS (f ++ [c]))), .sh (.str (sS p)), .own ((TL.spl [32] 0 [] p).map fun t => .str (sS (T t))), .sh (strC c), .no])) := by
  have e := signs_lc (p := p) (m0 := .sh (.str (sS l))) (m1 := .sh (.str (sS f))) (m2 := .sh (.str (sS p))) (m3 := m3) (m4 := m4) (m5 := .no) hp .no
  have hsp : Txt.split (sS p) (sS [32]) = (TL.spl [32] 0 [] p).map sS := split_sS (by simp) (by decide)
  have hfl := Fl_len p
  have hj := join_all (ls := (TL.spl [32] 0 [] p).map T) (by show (Fl [] p).length ≤ _; omega)
  rw [List.map_map] at hj
  have hj2 : joinD (.str (sS [])) (.list ((TL.spl [32] 0 [] p).map fun t => .str (sS (T t)))) = some (.sh (.str (sS (Fl [] p)))) := by rw [← t_nil]; exact hj
  have hlet := letter_ok (Fl [] p)
  have hl : p.length ≤ lim := by show _ ≤ 1000000; omega
  have hf2 : f.length + 1 ≤ lim := by show _ ≤ 1000000; omega
  have e' := e
  rw [show ((TL.spl [32] 0 [] p).map fun t => PyData.str (sS t)) = ((TL.spl [32] 0 [] p).map sS).map .str by rw [List.map_map]; rfl] at e'
  generalize hS : (TL.spl [32] 0 [] p).map sS = S at *
  generalize hT : ((TL.spl [32] 0 [] p).map fun t => PyData.str (sS (T t))) = TT at *
  unfold b_read_line_1
  rw [t_sp1, t_nil]
  unfold ltD at hlet
  cases q : lto (Fl [] p) with
  | none =>
    rw [q] at hlet
    dsimp only at hlet
    refine ⟨[.sh (.str (sS l)), .sh (.str (sS f)), .sh (.str (sS p)), .own TT, .sh .none, .no], ?_⟩
    simp [shy_free h2, h3, shy_free h4, hsp, hl, e', hj2, hlet]
  | some c =>
    rw [q] at hlet
    dsimp only at hlet
    refine ⟨[], ?_⟩
    unfold strC at hlet ⊢
    simp [shy_free h2, h3, shy_free h4, hsp, hl, e', hj2, hlet, hf2]
theorem spl_forGo {g : MG} {b : MS'} {d : D} {r : List D} {ρ ρ' : En} {o : Out} (e : bnd (g d ρ) b = some (o, ρ')) : forGo g b (d :: r) ρ = bnd (some (o, ρ')) (forO g b r) := by
  rw [forGo_cons]
  cases q : g d ρ with
  | none => rw [q] at e; cases e
  | some ρ1 =>
    rw [q, bnd_some] at e
    rw [bnd_some, e]
theorem read_loop {l : List Nat} : ∀ (ps : List (List Nat)) (f : List Nat) (m2 m3 m4 : M), (∀ p ∈ ps, p.length ≤ 10000) → f.length + ps.length ≤ 100000 → Shy m2 → freeM (some m3) = true → Shy m4 →
    (∃ m2' m3' m4' f', readP ps = some f' ∧ forGo (gNm 2) b_read_line_1 (ps.map fun p => .str (sS p)) [.sh (.str (sS l)), .sh (.str (sS f)), m2, m3, m4, .no] = some (.nx, [.sh (.str (sS l)), .sh (.str (sS (f ++ f'))), m2', m3', m4', .no])) ∨
    (readP ps = none ∧ ∃ ρ', forGo (gNm 2) b_read_line_1 (ps.map fun p => .str (sS p)) [.sh (.str (sS l)), .sh (.str (sS f)), m2, m3, m4, .no] = some (.rt (.sh .none), ρ'))
  | [], f, m2, m3, m4, _, _, _, _, _ => .inl ⟨m2, m3, m4, [], rfl, by rw [List.append_nil]; rfl⟩
  | p :: ps, f, m2, m3, m4, hp, hn, h2, h3, h4 => by
    rw [List.length_cons] at hn
    obtain ⟨ρ1, e⟩ := read_turn (l := l) (p := p) (f := f) (hp p List.mem_cons_self) (by omega) h2 h3 h4
    have er : readP (p :: ps) = (lto (Fl [] p)).bind fun c => (readP ps).map (c :: ·) := rfl
    rw [er, List.map_cons]
    cases q : lto (Fl [] p) with
    | none =>
      rw [q] at e
      dsimp only at e
      refine .inr ⟨rfl, ρ1, ?_⟩
      rw [spl_forGo e, bnd_some]
      rfl
    | some c =>
      rw [q] at e
      dsimp only at e
      rcases read_loop (l := l) ps (f ++ [c]) _ _ _ (fun p h => hp p (List.mem_cons_of_mem _ h)) (by rw [List.length_append, List.length_singleton]; omega) (.sh (.str (sS p))) (freeM_own ((TL.spl [32] 0 [] p).map fun t => .str (sS (T t)))) (.sh (strC c)) with ⟨m2', m3', m4', f', e1, e2⟩ | ⟨e1, ρ', e2⟩
      · refine .inl ⟨m2', m3', m4', c :: f', ?_, ?_⟩
        · rw [e1]; rfl
        · rw [for_step e, e2, List.append_assoc]
          rfl
      · refine .inr ⟨?_, ρ', ?_⟩
        · rw [e1]; rfl
        · rw [for_step e, e2]
def rdD (o : Option (List Nat)) : D := match o with
  | none => .none
  | some f => .str (sS f)
/-- what a line reads as -/
def RD (l : List Nat) : Option (List Nat) := if l = [] then some [] else readP (TL.spl S3 0 [] l)
theorem read_ok {l : List Nat} (hl : l.length ≤ 5000) : phi_read_line [.str (sS l)] = some (.sh (rdD (RD l))) := by
  have hL : l.length ≤ lim := by show _ ≤ 1000000; omega
  unfold phi_read_line RD
  rw [runN_eq (by rfl)]
  unfold m_read_line
  rw [t_nil, t_sp3]
  by_cases h0 : l = []
  · subst h0
    simp [rdD]
  · have hne : ¬ sS l = sS [] := fun e => h0 (sS_inj.mp e)
    have hsp : Txt.split (sS l) (sS S3) = (TL.spl S3 0 [] l).map sS := split_sS (by simp) (by decide)
    have hn := spl_len S3 l 0 []
    rw [if_neg h0]
    have hmm : ((TL.spl S3 0 [] l).map fun p => PyData.str (sS p)) = ((TL.spl S3 0 [] l).map sS).map .str := by rw [List.map_map]; rfl
    rcases read_loop (l := l) (TL.spl S3 0 [] l) [] .no .no .no (fun p hp => by have := spl_mem S3 l 0 [] p hp; rw [List.length_nil] at this; omega) (by rw [List.length_nil]; omega) .no rfl .no with ⟨m2', m3', m4', f', e1, e2⟩ | ⟨e1, ρ', e2⟩
    · rw [hmm] at e2
      rw [e1]
      generalize (TL.spl S3 0 [] l).map sS = S at *
      simp [hne, hsp, hL, e2, rdD]
    · rw [hmm] at e2
      rw [e1]
      generalize (TL.spl S3 0 [] l).map sS = S at *
      simp [hne, hsp, hL, e2, rdD]
end Law
/-! k58: the law's rows of stretches -/
namespace Law
open PySem PySem.Spec PyProof.Rows L2 Mi
set_option maxRecDepth 100000
set_option maxHeartbeats 1000000
def Cur (l : List Nat) : Prop := ∀ c ∈ l, c = 32 ∨ c = 61
def rowD (p : Nat × Nat) : D := .tuple [.str (sS [p.1]), .int (p.2 : Int)]
theorem strOk_sS {l : List Nat} (h : ∀ c ∈ l, c < 1114112) : (PyData.str (sS l)).canLay0 = true := by
  show l.toArray.all (fun c => decide (c < 0x110000)) = true
  rw [← Array.all_toList]
  exact List.all_eq_true.mpr fun c hc => decide_eq_true (h c hc)
theorem shaped_str {l : List Nat} (h : ∀ c ∈ l, c < 1114112) : SeqAt.shaped (.str (sS l)) = true := shaped_of (strOk_sS h) (Nat.zero_le _)
theorem shaped_strs {ls : List (List Nat)} (h : ∀ l ∈ ls, ∀ c ∈ l, c < 1114112) : SeqAt.shaped (.list (ls.map fun l => .str (sS l))) = true :=
  shaped_of (canLay_all fun d hd => by obtain ⟨l, hl, rfl⟩ := List.mem_map.mp hd; exact strOk_sS (h l hl)) (by
    have : PyData.depthAll (ls.map fun l => PyData.str (sS l)) ≤ 0 := depth_le (k := 0) fun d hd => by
      obtain ⟨l, _, rfl⟩ := List.mem_map.mp hd
      exact Nat.zero_le _
    show PyData.depthAll (ls.map fun l => PyData.str (sS l)) + 1 ≤ 64
    omega)
theorem shaped_rows {ps : List (Nat × Nat)} (h : ∀ p ∈ ps, p.1 < 1114112) : SeqAt.shaped (.list (ps.map rowD)) = true :=
  shaped_of (canLay_all fun d hd => by
    obtain ⟨p, hp, rfl⟩ := List.mem_map.mp hd
    have := strOk_sS (l := [p.1]) fun c hc => by rw [List.mem_singleton] at hc; subst hc; exact h p hp
    show PyData.canLayAll0 [.str (sS [p.1]), .int (p.2 : Int)] = true
    exact canLay_all fun d hd => by
      rcases List.mem_cons.mp hd with rfl | hd
      · exact this
      · rw [List.mem_singleton] at hd; subst hd; rfl) (by
    have : PyData.depthAll (ps.map rowD) ≤ 1 := depth_le (k := 1) fun d hd => by
      obtain ⟨p, _, rfl⟩ := List.mem_map.mp hd
      show PyData.depthAll [.str (sS [p.1]), .int (p.2 : Int)] + 1 ≤ 1
      exact Nat.le_refl _
    show PyData.depthAll (ps.map rowD) + 1 ≤ 64
    omega)
theorem neD_rows {ps : List (Nat × Nat)} (h : ∀ p ∈ ps, p.1 < 1114112) (h0 : ps ≠ []) : neD (.list (ps.map rowD)) (.list []) = some true := by
  obtain ⟨p, r, rfl⟩ := List.exists_cons_of_ne_nil h0
  exact neD_cons (x := rowD p) (xs := r.map rowD) (shaped_rows h)
theorem str_turn {l : List Nat} {acc : List (Nat × Nat)} {p : Nat × Nat} {d : Nat} {m2 : M} (h2 : Shy m2) (hs : ∀ q ∈ acc ++ [p], q.1 < 1114112) (hn : acc.length + 1 < lim) :
    bnd (gNm 2 (.str (sS [d])) [.sh (.str (sS l)), .own ((acc ++ [p]).map rowD), m2]) b_law_stretches_1 = some (.nx, [.sh (.str (sS l)), .own ((if d = p.1 then acc ++ [(p.1, p.2 + 1)] else acc ++ [p] ++ [(d, 1)]).map rowD), .sh (.str (sS [d]))]) := by
  have hne := neD_rows hs (by simp)
  rw [List.map_append, List.map_cons, List.map_nil] at hne ⊢
  have hix : ixN (acc.length + 1) (-1) = some acc.length := by
    unfold ixN
    simp
    omega
  have hset : ∀ y, (acc.map rowD ++ [rowD p]).set acc.length y = acc.map rowD ++ [y] := fun y => by
    rw [List.set_append_right _ _ (by simp)]
    simp
  have hL : (acc.map rowD).length = acc.length := List.length_map _
  have z2 : 2 ≤ lim := lim_of (by decide)
  have h1 := hne
  unfold b_law_stretches_1
  by_cases h : d = p.1
  · rw [if_pos h, List.map_append, List.map_cons, List.map_nil]
    subst h
    unfold rowD at hne hset ⊢
    generalize acc.map rowD = L at *
    simp [shy_free h2, hne, hix, hset, hL, z2]
  · rw [if_neg h, List.map_append, List.map_append, List.map_cons, List.map_cons, List.map_nil]
    have hd : ¬ sS [p.1] = sS [d] := fun e => h (by have := sS_inj.mp e; injection this with this; exact this.symm)
    unfold rowD at hne ⊢
    generalize acc.map rowD = L at *
    simp [shy_free h2, hne, hL, hd, hn, z2]
theorem str_mem : ∀ (l : List Nat) (c n : Nat), Cur (c :: l) → ∀ q ∈ str c n l, q.1 = 32 ∨ q.1 = 61
  | [], c, n, h, q, hq => by
    have : q ∈ [(c, n)] := hq
    rw [List.mem_singleton] at this
    subst this
    exact h c List.mem_cons_self
  | d :: r, c, n, h, q, hq => by
    have hr : Cur (d :: r) := fun x hx => h x (List.mem_cons_of_mem _ hx)
    unfold str at hq
    by_cases e : d = c
    · rw [if_pos e] at hq
      subst e
      exact str_mem r d (n + 1) hr q hq
    · rw [if_neg e] at hq
      rcases List.mem_cons.mp hq with rfl | hq
      · exact h _ List.mem_cons_self
      · exact str_mem r d 1 hr q hq
theorem str_loop {l : List Nat} : ∀ (r : List Nat) (acc : List (Nat × Nat)) (p : Nat × Nat) (m2 : M), Shy m2 → (∀ q ∈ acc ++ [p], q.1 = 32 ∨ q.1 = 61) → Cur r → acc.length + r.length ≤ 10000 →
    ∃ m2', forGo (gNm 2) b_law_stretches_1 (charsD (sS r)) [.sh (.str (sS l)), .own ((acc ++ [p]).map rowD), m2] = some (.nx, [.sh (.str (sS l)), .own ((acc ++ str p.1 p.2 r).map rowD), m2'])
  | [], acc, p, m2, _, _, _, _ => ⟨m2, rfl⟩
  | d :: r, acc, p, m2, h2, hq, hr, hn => by
    rw [List.length_cons] at hn
    have e := str_turn (l := l) (acc := acc) (p := p) (d := d) h2 (fun q h => by have := hq q h; omega) (by show _ < 1000000; omega)
    have hr' : Cur r := fun x hx => hr x (List.mem_cons_of_mem _ hx)
    rw [show charsD (sS (d :: r)) = .str (sS [d]) :: charsD (sS r) from rfl, for_step e]
    unfold str
    by_cases h : d = p.1
    · rw [if_pos h, if_pos h]
      exact str_loop r acc (p.1, p.2 + 1) _ (.sh _) (fun q hx => by
        rcases List.mem_append.mp hx with hx | hx
        · exact hq q (List.mem_append_left _ hx)
        · rw [List.mem_singleton] at hx
          subst hx
          exact hq p (List.mem_append_right _ (List.mem_singleton.mpr rfl))) hr' (by omega)
    · rw [if_neg h, if_neg h]
      obtain ⟨m2', e2⟩ := str_loop (l := l) r (acc ++ [p]) (d, 1) _ (.sh (.str (sS [d]))) (fun q hx => by
        rcases List.mem_append.mp hx with hx | hx
        · exact hq q hx
        · rw [List.mem_singleton] at hx
          subst hx
          exact hr d List.mem_cons_self) hr' (by rw [List.length_append, List.length_singleton]; omega)
      refine ⟨m2', ?_⟩
      rw [e2, List.append_assoc]
      rfl
def rowsOf : List Nat → List (Nat × Nat)
  | [] => []
  | c :: r => str c 1 r
theorem stretches_ok {l : List Nat} (hc : Cur l) (hl : l.length ≤ 5000) : phi_law_stretches [.str (sS l)] = some (.fr ((rowsOf l).map rowD)) := by
  unfold phi_law_stretches
  rw [runN_eq (by rfl)]
  unfold m_law_stretches
  cases l with
  | nil =>
    simp [rowsOf]
    rfl
  | cons c r =>
    have z2 : 2 ≤ lim := lim_of (by decide)
    rw [List.length_cons] at hl
    have hr : Cur r := fun x hx => hc x (List.mem_cons_of_mem _ hx)
    obtain ⟨m2', e⟩ := str_loop (l := c :: r) r [] (c, 1) (.sh (.str (sS [c]))) (.sh _) (fun q hx => by
        rw [List.nil_append, List.mem_singleton] at hx
        subst hx
        exact hc c List.mem_cons_self) hr (by rw [List.length_nil]; omega)
    rw [List.nil_append, List.nil_append] at e
    have e1 : bnd (gNm 2 (.str (sS [c])) [.sh (.str (sS (c :: r))), .own [], .no]) b_law_stretches_1 = some (.nx, [.sh (.str (sS (c :: r))), .own ([(c, 1)].map rowD), .sh (.str (sS [c]))]) := by
      unfold b_law_stretches_1
      simp [neD_nil, z2, rowD]
    have e3 : forGo (gNm 2) b_law_stretches_1 (charsD (sS (c :: r))) [.sh (.str (sS (c :: r))), .own [], .no] = some (.nx, [.sh (.str (sS (c :: r))), .own ((str c 1 r).map rowD), m2']) := by
      rw [show charsD (sS (c :: r)) = .str (sS [c]) :: charsD (sS r) from rfl, for_step e1, e]
    simp [-forGo_cons, e3, rowsOf]
end Law
/-! k58: the law reads -/
namespace Law
open PySem PySem.Spec PyProof.Rows L2 Mi
set_option maxRecDepth 100000
set_option maxHeartbeats 1000000
def In3 (l : List Nat) : Prop := ∀ c ∈ l, c = 45 ∨ c = 46
theorem SGL_al : SGL = al.map sg := by decide +kernel
theorem SGL_lt : ∀ l ∈ SGL, ∀ c ∈ l, c < 1114112 := by decide +kernel
theorem in_sigs {s : List Nat} (h : In3 s) : inD (.str (sS s)) (.list sgD) = some (lto s).isSome := by
  have h1 : SeqAt.shaped (.str (sS s)) = true := shaped_str fun c hc => by have := h c hc; omega
  have h2 : SeqAt.shaped (.list sgD) = true := shaped_strs SGL_lt
  show (if SeqAt.shaped (.str (sS s)) = true ∧ SeqAt.shaped (.list sgD) = true then some (sgD.any fun z => PyData.eqv z (.str (sS s))) else none) = _
  rw [if_pos ⟨h1, h2⟩]
  congr 1
  unfold sgD lto
  rw [SGL_al, List.map_map, List.any_map, Bool.eq_iff_iff, List.any_eq_true, List.find?_isSome]
  have hb : ∀ x : List Nat, PyData.eqv (.str (sS x)) (.str (sS s)) = (x == s) := fun x => SX.S_beq x s
  exact ⟨fun ⟨x, hx, e⟩ => ⟨x, hx, by rw [← hb]; exact e⟩, fun ⟨x, hx, e⟩ => ⟨x, hx, by rw [← hb] at e; exact e⟩⟩
theorem idx_sigs : ∀ c ∈ al, idxS (sS (sg c)) (SGL.map sS) = some (c - 97) := by decide +kernel
theorem index_sigs {s : List Nat} {c : Nat} (h : lto s = some c) : indexD (.list sgD) (.str (sS s)) = some (.sh (.int ((c - 97 : Nat) : Int))) := by
  obtain ⟨hc, rfl⟩ := lto_sg h
  have e : sgD = (SGL.map sS).map .str := by unfold sgD; rw [List.map_map]; rfl
  show (do
    let ns ← strsD sgD
    let j ← idxS (sS (sg c)) ns
    some (R.sh (.int (j : Nat)))) = _
  rw [e, strsD_map']
  show (do
    let j ← idxS (sS (sg c)) (SGL.map sS)
    some (R.sh (.int (j : Nat)))) = _
  rw [idx_sigs c hc]
  rfl
theorem in13 (n : Nat) : inTD (.int (n : Int)) [.int 1, .int 3] = some (decide (n = 1 ∨ n = 3)) := by
  show some ((([1, 3] : List Int)).any fun m => decide (m = (n : Int))) = _
  congr 1
  rw [Bool.eq_iff_iff]
  simp
  omega
theorem lw_turn {t : D} {rows : List D} {f s : List Nat} {p : Nat × Nat} {m5 m6 : M} (h5 : Shy m5) (h6 : Shy m6) (hs : In3 s) (hf : f.length ≤ 10000) (hsl : s.length ≤ 10000) (hp : p.1 = 32 ∨ p.1 = 61) :
    ∃ ρ', bnd (gTp 2 (gCons' (gNm 5) (gCons' (gNm 6) gNil')) (rowD p) [.sh t, .own sgD, .sh (.str (sS f)), .sh (.str (sS s)), .own rows, m5, m6]) b_law_read_1 = some (
      if p.2 ≠ 1 ∧ p.2 ≠ 3 then (.rt (.sh .none), ρ')
      else if p.1 = 61 then (.nx, [.sh t, .own sgD, .sh (.str (sS f)), .sh (.str (sS (s ++ [if p.2 = 1 then 46 else 45]))), .own rows, .sh (.str (sS [p.1])), .sh (.int (p.2 : Int))])
      else if p.2 = 3 then match lto s with
        | none => (.rt (.sh .none), ρ')
        | some c => (.nx, [.sh t, .own sgD, .sh (.str (sS (f ++ [c]))), .sh (.str (sS [])), .own rows, .sh (.str (sS [p.1])), .sh (.int (p.2 : Int))])
      else (.nx, [.sh t, .own sgD, .sh (.str (sS f)), .sh (.str (sS s)), .own rows, .sh (.str (sS [p.1])), .sh (.int (p.2 : Int))])) := by
  obtain ⟨c, n⟩ := p
  dsimp only at hp ⊢
  refine ⟨[.sh t, .own sgD, .sh (.str (sS f)), .sh (.str (sS s)), .own rows, .sh (.str (sS [c])), .sh (.int (n : Int))], ?_⟩
  have h13 := in13 n
  have z2 : 2 ≤ lim := lim_of (by decide)
  have hin := in_sigs hs
  have hfl : f.length + 1 ≤ lim := by show _ ≤ 1000000; omega
  have hsl' : s.length + 1 ≤ lim := by show _ ≤ 1000000; omega
  have hal : al.length ≤ lim := lim_of (by decide)
  unfold b_law_read_1 rowD
  rw [t_eq, t_dot, t_dash, t_nil, show Str.ofString "abcdefghijklmnopqrstuvwxyz" = sS al from abc_is]
  dsimp only
  have f5 := shy_free h5
  have f6 := shy_free h6
  by_cases hn : n ≠ 1 ∧ n ≠ 3
  · rw [if_pos hn]
    have : decide (n = 1 ∨ n = 3) = false := decide_eq_false (by omega)
    rw [this] at h13
    simp [f5, f6, h13, z2]
  · rw [if_neg hn]
    have : decide (n = 1 ∨ n = 3) = true := decide_eq_true (by omega)
    rw [this] at h13
    rcases hp with rfl | rfl
    · rw [if_neg (by decide)]
      have h32 : ¬ sS [32] = sS [61] := fun e => by have := sS_inj.mp e; simp at this
      by_cases h3 : n = 3
      · subst h3
        rw [if_pos rfl]
        have h13 : inTD (.int 3) [.int 1, .int 3] = some true := h13
        cases q : lto s with
        | none =>
          rw [q] at hin
          simp [f5, f6, h13, z2, h32, hin]
        | some c =>
          rw [q] at hin
          have hix := index_sigs q
          obtain ⟨hc, _⟩ := lto_sg q
          have hr := al_mem.mp hc
          have ha := al_at (k := c - 97) (by omega)
          rw [show 97 + (c - 97) = c by omega] at ha
          simp [f5, f6, h13, z2, h32, hin, hix, ha, hal, hfl]
          exact ⟨hfl, sS_app f [c]⟩
      · rw [if_neg h3]
        have h3' : ¬ (n : Int) = 3 := by omega
        simp [f5, f6, h13, z2, h32, h3']
    · rw [if_pos rfl]
      by_cases h1 : n = 1
      · subst h1
        have h13 : inTD (.int 1) [.int 1, .int 3] = some true := h13
        simp [f5, f6, h13, z2, hsl']
      · have h1' : ¬ (n : Int) = 1 := by omega
        rw [if_neg h1]
        simp [f5, f6, h13, z2, hsl', h1']
theorem lw_loop {t : D} {rows : List D} : ∀ (ps : List (Nat × Nat)) (f s : List Nat) (m5 m6 : M), Shy m5 → Shy m6 → In3 s → f.length + ps.length ≤ 10000 → s.length + ps.length ≤ 10000 → (∀ p ∈ ps, p.1 = 32 ∨ p.1 = 61) →
    (∃ s' m5' m6' f', lw s ps = some f' ∧ forGo (gTp 2 (gCons' (gNm 5) (gCons' (gNm 6) gNil'))) b_law_read_1 (ps.map rowD) [.sh t, .own sgD, .sh (.str (sS f)), .sh (.str (sS s)), .own rows, m5, m6] = some (.nx, [.sh t, .own sgD, .sh (.str (sS (f ++ f'))), .sh (.str (sS s')), .own rows, m5', m6'])) ∨
    (lw s ps = none ∧ ∃ ρ', forGo (gTp 2 (gCons' (gNm 5) (gCons' (gNm 6) gNil'))) b_law_read_1 (ps.map rowD) [.sh t, .own sgD, .sh (.str (sS f)), .sh (.str (sS s)), .own rows, m5, m6] = some (.rt (.sh .none), ρ'))
  | [], f, s, m5, m6, _, _, _, _, _, _ => .inl ⟨s, m5, m6, [], rfl, by rw [List.append_nil]; rfl⟩
  | (c, n) :: ps, f, s, m5, m6, h5, h6, hs, hf, hsl, hp => by
    rw [List.length_cons] at hf hsl
    have hp0 := hp (c, n) List.mem_cons_self
    have hps := fun p h => hp p (List.mem_cons_of_mem _ h)
    obtain ⟨ρ1, e⟩ := lw_turn (t := t) (rows := rows) (f := f) (s := s) (p := (c, n)) h5 h6 hs (by omega) (by omega) hp0
    have el : lw s ((c, n) :: ps) = if n ≠ 1 ∧ n ≠ 3 then none else if c = 61 then lw (s ++ [if n = 1 then 46 else 45]) ps else if n = 3 then (lto s).bind fun x => (lw [] ps).map (x :: ·) else lw s ps := rfl
    rw [el, List.map_cons]
    dsimp only at e
    by_cases hn : n ≠ 1 ∧ n ≠ 3
    · rw [if_pos hn] at e ⊢
      refine .inr ⟨rfl, ρ1, ?_⟩
      rw [spl_forGo e, bnd_some]
      rfl
    · rw [if_neg hn] at e ⊢
      by_cases hc : c = 61
      · rw [if_pos hc] at e ⊢
        have hs' : In3 (s ++ [if n = 1 then 46 else 45]) := fun x hx => by
          rcases List.mem_append.mp hx with hx | hx
          · exact hs x hx
          · rw [List.mem_singleton] at hx
            subst hx
            by_cases h1 : n = 1
            · rw [if_pos h1]; exact .inr rfl
            · rw [if_neg h1]; exact .inl rfl
        rcases lw_loop (t := t) (rows := rows) ps f _ (.sh (.str (sS [c]))) (.sh (.int (n : Int))) (.sh _) (.sh _) hs' (by omega) (by rw [List.length_append, List.length_singleton]; omega) hps with ⟨s', a, b, f', e1, e2⟩ | ⟨e1, ρ', e2⟩
        · exact .inl ⟨s', a, b, f', e1, by rw [for_step e, e2]⟩
        · exact .inr ⟨e1, ρ', by rw [for_step e, e2]⟩
      · rw [if_neg hc] at e ⊢
        by_cases h3 : n = 3
        · rw [if_pos h3] at e ⊢
          cases q : lto s with
          | none =>
            rw [q] at e
            dsimp only at e
            refine .inr ⟨rfl, ρ1, ?_⟩
            rw [spl_forGo e, bnd_some]
            rfl
          | some x =>
            rw [q] at e
            dsimp only at e
            rcases lw_loop (t := t) (rows := rows) ps (f ++ [x]) [] (.sh (.str (sS [c]))) (.sh (.int (n : Int))) (.sh _) (.sh _) (fun x hx => by cases hx) (by rw [List.length_append, List.length_singleton]; omega) (by rw [List.length_nil]; omega) hps with ⟨s', a, b, f', e1, e2⟩ | ⟨e1, ρ', e2⟩
            · refine .inl ⟨s', a, b, x :: f', by rw [e1]; rfl, ?_⟩
              rw [for_step e, e2, List.append_assoc]
              rfl
            · exact .inr ⟨by rw [e1]; rfl, ρ', by rw [for_step e, e2]⟩
        · rw [if_neg h3] at e ⊢
          rcases lw_loop (t := t) (rows := rows) ps f s (.sh (.str (sS [c]))) (.sh (.int (n : Int))) (.sh _) (.sh _) hs (by omega) (by omega) hps with ⟨s', a, b, f', e1, e2⟩ | ⟨e1, ρ', e2⟩
          · exact .inl ⟨s', a, b, f', e1, by rw [for_step e, e2]⟩
          · exact .inr ⟨e1, ρ', by rw [for_step e, e2]⟩
/-- what the law reads -/
def LR : List Nat → Option (List Nat)
  | [] => some []
  | 61 :: r => LW [] (str 61 1 r)
  | _ => none
theorem str_head : ∀ (l : List Nat) (c n : Nat), ∃ k r, str c n l = (c, k) :: r
  | [], c, n => ⟨n, [], rfl⟩
  | d :: l, c, n => by
    unfold str
    by_cases h : d = c
    · rw [if_pos h]; exact str_head l c (n + 1)
    · rw [if_neg h]; exact ⟨n, _, rfl⟩
theorem str_len : ∀ (l : List Nat) (c n : Nat), (str c n l).length ≤ l.length + 1
  | [], c, n => Nat.le_refl _
  | d :: l, c, n => by
    unfold str
    rw [List.length_cons]
    split
    · exact Nat.le_trans (str_len l c (n + 1)) (by omega)
    · rw [List.length_cons]; have := str_len l d 1; omega
theorem law_read_ok {l : List Nat} (hc : Cur l) (hl : l.length ≤ 4000) : phi_law_read [.str (sS l)] = some (.sh (rdD (LR l))) := by
  have est := stretches_ok hc (by omega)
  have z2 : 2 ≤ lim := lim_of (by decide)
  have z1 : 1 ≤ lim := lim_of (by decide)
  unfold phi_law_read
  rw [runN_eq (by rfl)]
  unfold m_law_read
  rw [t_nil, t_sp1, t_eq]
  cases l with
  | nil =>
    have est' : phi_law_stretches [.str (sS [])] = some (.fr []) := est
    simp [signals_ok, est', neD_nil, LR, rdD]
  | cons c r =>
    rw [List.length_cons] at hl
    obtain ⟨k, q, eh⟩ := str_head r c 1
    obtain ⟨A, x, ex⟩ : ∃ A x, str c 1 r = A ++ [x] := ⟨_, _, (List.dropLast_concat_getLast (str_ne r c 1)).symm⟩
    have hm := str_mem r c 1 hc
    have hlen := str_len r c 1
    have est' : phi_law_stretches [.str (sS (c :: r))] = some (.fr ((str c 1 r).map rowD)) := est
    have hne := neD_rows (ps := str c 1 r) (fun p hp => by have := hm p hp; omega) (str_ne r c 1)
    have h0 : ((str c 1 r).map rowD)[0]? = some (.tuple [.str (sS [c]), .int (k : Int)]) := by rw [eh]; rfl
    have hlast : atI ((str c 1 r).map rowD) (-1) = some (.tuple [.str (sS [x.1]), .int (x.2 : Int)]) := by
      rw [ex, List.map_append]
      exact atI_m1 _ _
    have hLW : LW [] (str 61 1 r) = LW [] (str 61 1 r) := rfl
    have hl2 : ((str c 1 r).map rowD).length + 1 ≤ lim := by rw [List.length_map]; show _ ≤ 1000000; omega
    have happ : (str c 1 r).map rowD ++ [.tuple [.str (sS [32]), .int 3]] = (str c 1 r ++ [(32, 3)]).map rowD := by rw [List.map_append]; rfl
    have hlo := lw_loop (t := .str (sS (c :: r))) (rows := (str c 1 r).map rowD) (str c 1 r ++ [(32, 3)]) [] [] .no .no .no .no (fun x hx => by cases hx) (by rw [List.length_append, List.length_nil, List.length_singleton]; omega) (by rw [List.length_append, List.length_nil, List.length_singleton]; omega) (fun p hp => by
      rcases List.mem_append.mp hp with hp | hp
      · exact hm p hp
      · rw [List.mem_singleton] at hp; subst hp; exact .inl rfl)
    rw [← happ] at hlo
    by_cases h61 : c = 61
    · subst h61
      have hLR : LR (61 :: r) = LW [] (str 61 1 r) := rfl
      have hgl : ((str 61 1 r).getLast?).map (·.1) = some x.1 := by rw [ex, List.getLast?_concat]; rfl
      unfold LW at hLR
      rw [hgl] at hLR
      generalize (str 61 1 r).map rowD = RW at *
      by_cases hx : x.1 = 61
      · rw [hx] at hLR hlast
        rw [if_pos rfl] at hLR
        rcases hlo with ⟨s', a, b, f', e1, e2⟩ | ⟨e1, ρ', e2⟩
        · rw [hLR, e1]
          rw [List.nil_append] at e2
          simp [-forGo_cons, signals_ok, est', hne, h0, hlast, z1, z2, hl2, e2, rdD]
        · rw [hLR, e1]
          simp [-forGo_cons, signals_ok, est', hne, h0, hlast, z1, z2, hl2, e2, rdD]
      · have hx' : ¬ sS [x.1] = sS [61] := fun e => hx (by have := sS_inj.mp e; injection this)
        rw [hLR, if_neg (fun e => hx (Option.some.inj e))]
        simp [signals_ok, est', hne, h0, hlast, rdD, hx']
    · have hLR : LR (c :: r) = none := by
        unfold LR
        split
        · rename_i e; cases e
        · rename_i e; injection e with e1 e2; exact absurd e1 h61
        · rfl
      have hc' : ¬ sS [c] = sS [61] := fun e => h61 (by have := sS_inj.mp e; injection this)
      generalize (str c 1 r).map rowD = RW at *
      rw [hLR]
      simp [signals_ok, est', hne, h0, rdD, hc']
theorem RD_LR {l : List Nat} (hc : Cur l) : RD l = LR l := by
  unfold RD
  by_cases h : l = []
  · subst h; rfl
  · rw [if_neg h, two_ways h hc]
    cases l with
    | nil => exact absurd rfl h
    | cons c r => rcases hc c List.mem_cons_self with rfl | rfl <;> rfl
end Law
/-! k58: the line of a word -/
namespace Law
open PySem PySem.Spec PyProof.Rows L2 Mi
set_option maxRecDepth 100000
set_option maxHeartbeats 1000000
def jn (b : List Nat) : List (List Nat) → List Nat
  | [] => []
  | [x] => x
  | x :: y :: r => x ++ b ++ jn b (y :: r)
theorem sS_jn (b : List Nat) (ls : List (List Nat)) : Txt.join (sS b) (ls.map sS) = sS (jn b ls) := by
  rw [show Txt.join (sS b) (ls.map sS) = Str.join (sS b) (ls.map sS) from _root_.TL.join_eq _ _]
  induction ls with
  | nil => rfl
  | cons a r ih =>
    cases r with
    | nil => rfl
    | cons x r =>
      show sS a ++ sS b ++ Str.join (sS b) ((x :: r).map sS) = _
      rw [ih, sS_app, sS_app]
      rfl
def cur (s : Nat) : List Nat := if s = 46 then [61] else [61, 61, 61]
def lnS (s : List Nat) : List Nat := jn [32] (s.map cur)
def line (w : List Nat) : List Nat := jn S3 (w.map fun c => lnS (sg c))
theorem joinL_one (b x : List Nat) : jn b [x] = x := rfl
theorem joinL_two (b x y : List Nat) (r : List (List Nat)) : jn b (x :: y :: r) = x ++ b ++ jn b (y :: r) := rfl
theorem lnS_one (s : Nat) : lnS [s] = cur s := rfl
theorem lnS_two (s t : Nat) (r : List Nat) : lnS (s :: t :: r) = cur s ++ 32 :: lnS (t :: r) := by
  show cur s ++ [32] ++ lnS (t :: r) = _
  rw [List.append_assoc]
  rfl
theorem line_nil : line [] = [] := rfl
theorem line_one (c : Nat) : line [c] = lnS (sg c) := by
  simp only [line, List.map_cons, List.map_nil, jn]
theorem line_two (c d : Nat) (r : List Nat) : line (c :: d :: r) = lnS (sg c) ++ S3 ++ line (d :: r) := by
  simp only [line, List.map_cons, List.map_nil, jn]
theorem cur_Cur (s : Nat) : Cur (cur s) := fun c h => by
  unfold cur at h
  split at h <;> simp at h <;> exact .inr h
theorem lnS_Cur : ∀ s, Cur (lnS s)
  | [] => fun c h => by cases h
  | [s] => cur_Cur s
  | s :: t :: r => fun c h => by
    rw [lnS_two] at h
    rcases List.mem_append.mp h with h | h
    · exact cur_Cur s c h
    · rcases List.mem_cons.mp h with rfl | h
      · exact .inl rfl
      · exact lnS_Cur (t :: r) c h
theorem line_Cur : ∀ w, Cur (line w)
  | [] => fun c h => by cases h
  | [c] => lnS_Cur _
  | c :: d :: r => fun x h => by
    rw [line_two] at h
    rcases List.mem_append.mp h with h | h
    · rcases List.mem_append.mp h with h | h
      · exact lnS_Cur _ x h
      · simp at h; exact .inl h
    · exact line_Cur (d :: r) x h
theorem cur_len (s : Nat) : (cur s).length = if s = 46 then 1 else 3 := by
  unfold cur
  split <;> rfl
theorem lnS_len : ∀ (s : List Nat), s ≠ [] → (lnS s).length + 1 = (s.map fun x => if x = 46 then 1 else 3).sum + s.length
  | [], h => absurd rfl h
  | [s], _ => by
    rw [lnS_one, cur_len]
    simp
  | s :: t :: r, _ => by
    have ih := lnS_len (t :: r) (by simp)
    rw [lnS_two, List.length_append, List.length_cons, cur_len, List.map_cons, List.sum_cons, List.length_cons]
    omega
theorem line_len : ∀ (w : List Nat), (line w).length = (w.map fun c => (lnS (sg c)).length).sum + 3 * (w.length - 1)
  | [] => rfl
  | [c] => by simp [line_one]
  | c :: d :: r => by
    have ih := line_len (d :: r)
    rw [line_two, List.length_append, List.length_append, ih, List.map_cons (a := c), List.sum_cons, List.length_cons (a := c)]
    generalize ((d :: r).map fun c => (lnS (sg c)).length).sum = S
    show _ + 3 + _ = _
    rw [List.length_cons]
    omega
theorem lnS_small : ∀ c ∈ al, (lnS (sg c)).length ≤ 15 := by decide +kernel
theorem sg_ne : ∀ c ∈ al, sg c ≠ [] := by decide +kernel
theorem sum_le15 : ∀ (w : List Nat), (∀ c ∈ w, c ∈ al) → (w.map fun c => (lnS (sg c)).length).sum ≤ 15 * w.length
  | [], _ => Nat.le_refl _
  | c :: r, h => by
    have ih := sum_le15 r fun x hx => h x (List.mem_cons_of_mem _ hx)
    have := lnS_small c (h c List.mem_cons_self)
    rw [List.map_cons, List.sum_cons, List.length_cons]
    omega
theorem line_le {w : List Nat} (h : ∀ c ∈ w, c ∈ al) : (line w).length ≤ 18 * w.length := by
  have := sum_le15 w h
  rw [line_len]
  omega
/-! read back -/
theorem T_cur {s : Nat} (h : s = 46 ∨ s = 45) : T (cur s) = [s] := by
  rcases h with rfl | rfl <;> rfl
theorem rd_curs (s : Nat) (sig r : List Nat) : rd 0 [] sig (cur s ++ r) = rd 0 (cur s) sig r := by
  unfold cur
  split
  · show rd 0 [] sig (61 :: r) = _
    rw [rd_cur]; rfl
  · show rd 0 [] sig (61 :: 61 :: 61 :: r) = _
    rw [rd_cur, rd_cur, rd_cur]; rfl
theorem cur_head (s : Nat) : ∃ q, cur s = 61 :: q := by
  unfold cur
  split <;> exact ⟨_, rfl⟩
theorem lnS_head (s : Nat) : ∀ r, ∃ q, lnS (s :: r) = 61 :: q
  | [] => cur_head s
  | t :: r => by
    obtain ⟨q, e⟩ := cur_head s
    rw [lnS_two, e]
    exact ⟨_, rfl⟩
theorem rd_sig : ∀ (s : Nat) (r sig rest : List Nat), In3 (s :: r) → ∃ p z, p ++ [z] = sig ++ s :: r ∧ (z = 46 ∨ z = 45) ∧ rd 0 [] sig (lnS (s :: r) ++ rest) = rd 0 (cur z) p rest
  | s, [], sig, rest, h => ⟨sig, s, rfl, (h s List.mem_cons_self).symm, by rw [lnS_one, rd_curs]⟩
  | s, t :: r, sig, rest, h => by
    obtain ⟨p, z, e1, hz, e2⟩ := rd_sig t r (sig ++ [s]) rest fun x hx => h x (List.mem_cons_of_mem _ hx)
    refine ⟨p, z, by rw [e1, List.append_assoc]; rfl, hz, ?_⟩
    rw [← e2, lnS_two, List.append_assoc, rd_curs, List.cons_append]
    obtain ⟨q, eq⟩ := lnS_head t r
    have := rd_sp1 (tok := cur s) (sig := sig) (r := lnS (t :: r) ++ rest) (m := 0) (by omega) (by
      intro c q' e
      rw [eq] at e
      injection e with e
      omega)
    rw [T_cur (h s List.mem_cons_self).symm] at this
    exact this
theorem lto_sg_self : ∀ c ∈ al, lto (sg c) = some c := by decide +kernel
theorem rd_letter {c : Nat} (hc : c ∈ al) (rest : List Nat) : ∃ p z, p ++ T (cur z) = sg c ∧ rd 0 [] [] (lnS (sg c) ++ rest) = rd 0 (cur z) p rest := by
  obtain ⟨s, r, e⟩ := List.exists_cons_of_ne_nil (sg_ne c hc)
  have hd := sg_dots c hc
  rw [e] at hd ⊢
  obtain ⟨p, z, e1, hz, e2⟩ := rd_sig s r [] rest fun x hx => (hd x hx).symm
  exact ⟨p, z, by rw [T_cur hz, e1]; rfl, e2⟩
theorem rd_line : ∀ (w : List Nat) (c : Nat), (∀ x ∈ c :: w, x ∈ al) → rd 0 [] [] (line (c :: w)) = some (c :: w)
  | [], c, h => by
    have hc := h c List.mem_cons_self
    obtain ⟨p, z, e1, e2⟩ := rd_letter hc []
    rw [List.append_nil] at e2
    rw [line_one, e2]
    show (lto (p ++ T (cur z))).map _ = _
    rw [e1, lto_sg_self c hc]
    rfl
  | d :: w, c, h => by
    have hc := h c List.mem_cons_self
    obtain ⟨p, z, e1, e2⟩ := rd_letter hc (S3 ++ line (d :: w))
    have hd := h d (List.mem_cons_of_mem _ List.mem_cons_self)
    rw [line_two, List.append_assoc, e2]
    obtain ⟨s, r, es⟩ := List.exists_cons_of_ne_nil (sg_ne d hd)
    have hh : ∃ q, line (d :: w) = 61 :: q := by
      obtain ⟨q, eq⟩ := lnS_head s r
      cases w with
      | nil => rw [line_one, es]; exact ⟨q, eq⟩
      | cons x w => rw [line_two, es, eq]; exact ⟨_, rfl⟩
    obtain ⟨q, eq⟩ := hh
    have := rd_sp3 (tok := cur z) (sig := p) (r := line (d :: w)) (m := 0) (by
      intro c q' e
      rw [eq] at e
      injection e with e
      omega)
    rw [show S3 ++ line (d :: w) = List.replicate (0 + 3) 32 ++ line (d :: w) from rfl, this, e1, lto_sg_self c hc]
    show (rd 0 [] [] (line (d :: w))).map (c :: ·) = _
    rw [rd_line w d fun x hx => h x (List.mem_cons_of_mem _ hx)]
    rfl
theorem RD_line {w : List Nat} (h : ∀ x ∈ w, x ∈ al) : RD (line w) = some w := by
  cases w with
  | nil => rfl
  | cons c w =>
    have e := rd_line w c h
    unfold RD
    have hne : line (c :: w) ≠ [] := fun e' => by
      have h1 := lnS_small c (h c List.mem_cons_self)
      have h2 := line_len (c :: w)
      rw [e'] at e
      have : rd 0 [] [] [] = none := by
        show (lto ([] ++ T [])).map _ = none
        rw [lto_bad (by rw [T_nil]; simp)]
        rfl
      rw [this] at e
      cases e
    rw [if_neg hne, readP_rd]
    exact e
end Law
/-! k58: lines, as the program and as the law make them -/
namespace Law
open PySem PySem.Spec PyProof.Rows L2 Mi
set_option maxRecDepth 100000
set_option maxHeartbeats 1000000
theorem join_jn {b : List Nat} {ls : List (List Nat)} (h : (ls.map (·.length)).sum + ls.length * b.length ≤ 100000) : joinD (.str (sS b)) (.list (ls.map fun l => .str (sS l))) = some (.sh (.str (sS (jn b ls)))) := by
  have e : (ls.map fun l => PyData.str (sS l)) = (ls.map sS).map .str := by rw [List.map_map]; rfl
  rw [e, join_ok, sS_jn]
  have hs : ((ls.map sS).map (·.length)) = ls.map (·.length) := by
    rw [List.map_map]
    apply List.map_congr_left
    intro l _
    exact sS_len l
  rw [hs, sS_len, List.length_map]
  show _ ≤ 1000000
  omega
theorem curs_len (s : List Nat) : ((s.map cur).map (·.length)).sum ≤ 3 * s.length := by
  induction s with
  | nil => exact Nat.le_refl _
  | cons x r ih =>
    rw [List.map_cons, List.map_cons, List.sum_cons, List.length_cons, cur_len]
    split <;> omega
theorem lineof_sign {c : Nat} {m0 m1 m2 : M} (hc : c ∈ al) : lcGo (gNm 3) mYes l_line_of_1 [3] (charsD (sS (sg c))) [m0, m1, m2, .no] [] = some ((sg c).map fun s => .str (sS (cur s)), [m0, m1, m2, .no]) := by
  rw [charsD_sS]
  refine lc_map (by have := (sg_pos c hc).2; omega) fun s _ => ?_
  unfold l_line_of_1
  rw [t_dot, t_eq, t_eq3]
  unfold cur
  by_cases h : s = 46
  · subst h; simp
  · have : ¬ sS [s] = sS [46] := fun e => h (by have := sS_inj.mp e; injection this)
    rw [if_neg h]
    simp [this]
theorem lineof_lc {w : List Nat} (hw : ∀ c ∈ w, c ∈ al) (hl : w.length ≤ 1000) {m0 : M} : lcGo (gNm 2) mYes l_line_of_2 [2] (charsD (sS w)) [m0, .no, .no, .no] [] = some (w.map fun c => .str (sS (lnS (sg c))), [m0, .no, .no, .no]) := by
  rw [charsD_sS]
  refine lc_map (by omega) fun c hc => ?_
  have hcal := hw c hc
  have hk := kd_al c hcal
  have e := lineof_sign (c := c) (m0 := m0) (m1 := .no) (m2 := .sh (.str (sS [c]))) hcal
  have hj := join_jn (b := [32]) (ls := (sg c).map cur) (by have h1 := curs_len (sg c); have h2 := (sg_pos c hcal).2; rw [List.length_map]; show _ + _ * 1 ≤ _; omega)
  rw [List.map_map] at hj
  have hj' : joinD (.str (sS [32])) (.list ((sg c).map fun s => .str (sS (cur s)))) = some (.sh (.str (sS (lnS (sg c))))) := hj
  generalize ((sg c).map fun s => PyData.str (sS (cur s))) = Z at *
  unfold l_line_of_2
  rw [t_sp1]
  simp [hk, e, hj']
theorem line_ok {w : List Nat} (hw : ∀ c ∈ w, c ∈ al) (hl : w.length ≤ 1000) : phi_line_of [.str (sS w)] = some (.sh (.str (sS (line w)))) := by
  have e := lineof_lc hw hl (m0 := .sh (.str (sS w)))
  have hj := join_jn (b := S3) (ls := w.map fun c => lnS (sg c)) (by
    have := sum_le15 w hw
    rw [List.map_map]
    have h2 : ((w.map ((fun x : List Nat => x.length) ∘ fun c => lnS (sg c)))) = w.map fun c => (lnS (sg c)).length := rfl
    rw [h2, List.length_map]
    show _ + _ * 3 ≤ _
    omega)
  rw [List.map_map] at hj
  have hj' : joinD (.str (sS S3)) (.list (w.map fun c => .str (sS (lnS (sg c))))) = some (.sh (.str (sS (line w)))) := hj
  unfold phi_line_of
  rw [runN_eq (by rfl)]
  unfold m_line_of
  rw [t_sp3]
  generalize (w.map fun c => PyData.str (sS (lnS (sg c)))) = Z at *
  simp [e, hj']
/-! units -/
def uI (s : Nat) : Int := if s = 46 then 1 else 3
theorem units_sign {c : Nat} {m0 m1 m2 : M} (hc : c ∈ al) : lcGo (gNm 3) mYes l_units_1 [3] (charsD (sS (sg c))) [m0, m1, m2, .no] [] = some ((sg c).map fun s => .int (uI s), [m0, m1, m2, .no]) := by
  rw [charsD_sS]
  refine lc_map (by have := (sg_pos c hc).2; omega) fun s _ => ?_
  unfold l_units_1
  rw [t_dot]
  unfold uI
  by_cases h : s = 46
  · subst h; simp
  · have : ¬ sS [s] = sS [46] := fun e => h (by have := sS_inj.mp e; injection this)
    rw [if_neg h]
    simp [this]
theorem units_val : ∀ c ∈ al, ((sg c).map uI).sum + ((sg c).length : Int) - 1 = ((lnS (sg c)).length : Int) := by decide +kernel
theorem units_lc {w : List Nat} (hw : ∀ c ∈ w, c ∈ al) (hl : w.length ≤ 1000) {m0 : M} : lcGo (gNm 2) mYes l_units_2 [2] (charsD (sS w)) [m0, .no, .no, .no] [] = some (w.map fun c => .int ((lnS (sg c)).length : Int), [m0, .no, .no, .no]) := by
  rw [charsD_sS]
  refine lc_map (by omega) fun c hc => ?_
  have hcal := hw c hc
  have hk := kd_al c hcal
  have e := units_sign (c := c) (m0 := m0) (m1 := .no) (m2 := .sh (.str (sS [c]))) hcal
  have hs : sumD (.list ((sg c).map fun s => .int (uI s))) = some (.sh (.int ((sg c).map uI).sum)) := by
    have := sumD_l ((sg c).map uI)
    rw [List.map_map] at this
    exact this
  have hv := units_val c hcal
  have hlen : (sg c).length ≤ lim := lim_of (by have := (sg_pos c hcal).2; omega)
  generalize ((sg c).map fun s => PyData.int (uI s)) = Z at *
  unfold l_units_2
  simp [hk, e, hs, hv, hlen]
theorem sum_cast (w : List Nat) : (w.map fun c => ((lnS (sg c)).length : Int)).sum = ((w.map fun c => (lnS (sg c)).length).sum : Nat) := by
  induction w with
  | nil => rfl
  | cons c r ih => rw [List.map_cons, List.sum_cons, List.map_cons, List.sum_cons, ih]; omega
theorem units_ok {w : List Nat} (hw : ∀ c ∈ w, c ∈ al) (hl : w.length ≤ 1000) : phi_units [.str (sS w)] = some (.sh (.int ((line w).length : Int))) := by
  have e := units_lc hw hl (m0 := .sh (.str (sS w)))
  have hs : sumD (.list (w.map fun c => .int ((lnS (sg c)).length : Int))) = some (.sh (.int ((w.map fun c => (lnS (sg c)).length).sum : Nat))) := by
    have := sumD_l (w.map fun c => ((lnS (sg c)).length : Int))
    rw [List.map_map, sum_cast] at this
    exact this
  have hlen : w.length ≤ lim := lim_of hl
  have hll := line_len w
  generalize (w.map fun c => PyData.int ((lnS (sg c)).length : Int)) = Z at *
  unfold phi_units
  rw [runN_eq (by rfl)]
  unfold m_units
  simp [e, hs, hlen]
  rw [hll]
  refine ⟨.inl (by decide), ?_⟩
  split <;> omega
/-! the law's line -/
theorem jn_snoc (b x : List Nat) : ∀ ls : List (List Nat), jn b (ls ++ [x]) = if ls = [] then x else jn b ls ++ b ++ x
  | [] => rfl
  | [y] => rfl
  | y :: z :: r => by
    have ih := jn_snoc b x (z :: r)
    rw [if_neg (by simp)] at ih ⊢
    show y ++ b ++ jn b ((z :: r) ++ [x]) = y ++ b ++ jn b (z :: r) ++ b ++ x
    rw [ih]
    simp only [List.append_assoc]
theorem lnS_snoc (s : List Nat) (x : Nat) : lnS (s ++ [x]) = if s = [] then cur x else lnS s ++ [32] ++ cur x := by
  unfold lnS
  rw [List.map_append, List.map_cons, List.map_nil, jn_snoc]
  by_cases h : s = []
  · subst h; rfl
  · rw [if_neg h, if_neg (by simpa using h)]
theorem line_snoc (w : List Nat) (c : Nat) : line (w ++ [c]) = if w = [] then lnS (sg c) else line w ++ S3 ++ lnS (sg c) := by
  unfold line
  rw [List.map_append, List.map_cons, List.map_nil, jn_snoc]
  by_cases h : w = []
  · subst h; simp only [List.map_nil, if_true]
  · rw [if_neg h, if_neg (by simpa using h)]
theorem ll_turn {t : D} {f s : List Nat} {k : Nat} {m3 : M} (h3 : Shy m3) (hk : k < s.length) (hf : f.length + (lnS (s.take k)).length ≤ 100000) (hs : s.length ≤ 1000) :
    bnd (gNm 3 (.int (k : Int)) [.sh t, .sh (.str (sS (f ++ lnS (s.take k)))), .sh (.str (sS s)), m3]) b_law_line_1 = some (.nx, [.sh t, .sh (.str (sS (f ++ lnS (s.take (k + 1))))), .sh (.str (sS s)), .sh (.int (k : Int))]) := by
  have hx : s[k]? = some s[k] := List.getElem?_eq_getElem hk
  have ht : s.take (k + 1) = s.take k ++ [s[k]] := (List.take_append_getElem hk).symm
  have hl : s.length ≤ lim := lim_of hs
  rw [ht, lnS_snoc]
  have ha : atI s (k : Int) = some s[k] := by rw [atI_nat', hx]
  generalize s[k] = x at *
  have h46 : (decide (sS [x] = sS [46])) = decide (x = 46) := by
    by_cases h : x = 46
    · subst h; simp
    · have : ¬ sS [x] = sS [46] := fun e => h (by have := sS_inj.mp e; injection this)
      simp [h, this]
  have hq : (⟨#[x]⟩ : Str) = sS [x] := rfl
  have l1 : f.length + (lnS (s.take k)).length + 1 ≤ lim := by show _ ≤ 1000000; omega
  have l2 : f.length + (lnS (s.take k)).length + 1 + 1 ≤ lim := by show _ ≤ 1000000; omega
  have l4 : f.length + (lnS (s.take k)).length + 1 + 3 ≤ lim := by show _ ≤ 1000000; omega
  have l3 : f.length + (lnS (s.take k)).length + 3 ≤ lim := by show _ ≤ 1000000; omega
  have l0 : f.length + (lnS (s.take k)).length ≤ lim := by show _ ≤ 1000000; omega
  unfold b_law_line_1
  rw [t_sp1, t_nil, t_dot, t_eq, t_eq3]
  by_cases h0 : k = 0
  · subst h0
    rw [List.take_zero, if_pos rfl]
    rw [List.take_zero] at l0 l1 l3
    have : lnS [] = [] := rfl
    rw [this] at l0 l1 l3 ⊢
    rw [List.length_nil, Nat.add_zero] at l0 l1 l3
    unfold cur
    by_cases h : x = 46
    · subst h
      have ha' : s[0]? = some 46 := by rw [← atI_0]; exact ha
      simp [shy_free h3, hl, ha', l0, l1, hq]
    · have hn : ¬ sS [x] = sS [46] := fun e => h (by have := sS_inj.mp e; injection this)
      have ha' : s[0]? = some x := by rw [← atI_0]; exact ha
      rw [if_neg h]
      simp [shy_free h3, hl, ha', l0, l3, hn, hq]
  · have hk0 : 0 < k := by omega
    have hne : ¬ s.take k = [] := fun e => by
      have := congrArg List.length e
      rw [List.length_take, List.length_nil] at this
      omega
    rw [if_neg hne]
    unfold cur
    by_cases h : x = 46
    · subst h
      simp [shy_free h3, hl, ha, hk0, l1, l2, hq]
      show _ ≤ 1000000
      omega
    · have hn : ¬ sS [x] = sS [46] := fun e => h (by have := sS_inj.mp e; injection this)
      rw [if_neg h]
      simp [shy_free h3, hl, ha, hk0, l1, l4, hn, hq]
      show _ ≤ 1000000
      omega
theorem lnS_take_le (s : List Nat) : ∀ k, (lnS (s.take k)).length ≤ 4 * k
  | 0 => by rw [List.take_zero]; exact Nat.zero_le _
  | k + 1 => by
    have ih := lnS_take_le s k
    by_cases hk : k < s.length
    · have ht : s.take (k + 1) = s.take k ++ [s[k]] := (List.take_append_getElem hk).symm
      rw [ht, lnS_snoc]
      have hc := cur_len s[k]
      have : (cur s[k]).length ≤ 3 := by rw [hc]; split <;> omega
      split
      · omega
      · rw [List.length_append, List.length_append, List.length_singleton]; omega
    · rw [List.take_of_length_le (by omega)]
      rw [List.take_of_length_le (by omega)] at ih
      omega
theorem ll_inner {t : D} {f s : List Nat} {m3 : M} (h3 : Shy m3) (hf : f.length ≤ 50000) (hs : s.length ≤ 1000) : ∃ m3', forGo (gNm 3) b_law_line_1 (rangeD 0 (s.length : Nat)) [.sh t, .sh (.str (sS f)), .sh (.str (sS s)), m3] = some (.nx, [.sh t, .sh (.str (sS (f ++ lnS s))), .sh (.str (sS s)), m3']) ∧ Shy m3' := by
  obtain ⟨ρ', e, m3', rfl, h⟩ := rturns (S := fun k ρ => ∃ m, ρ = [.sh t, .sh (.str (sS (f ++ lnS (s.take k)))), .sh (.str (sS s)), m] ∧ Shy m) (g := gNm 3) (b := b_law_line_1) (N := s.length) (ρ := [.sh t, .sh (.str (sS f)), .sh (.str (sS s)), m3]) (fun k ρ hk h => by
    obtain ⟨m, rfl, hm⟩ := h
    have hl := lnS_take_le s k
    exact ⟨_, ll_turn hm hk (by omega) hs, _, rfl, .sh _⟩) ⟨m3, by rw [List.take_zero, show lnS [] = [] from rfl, List.append_nil], h3⟩
  rw [List.take_length] at e
  exact ⟨m3', e, h⟩
theorem line_ne {c : Nat} {w : List Nat} (hc : c ∈ al) : line (c :: w) ≠ [] := by
  obtain ⟨s, r, es⟩ := List.exists_cons_of_ne_nil (sg_ne c hc)
  obtain ⟨q, eq⟩ := lnS_head s r
  cases w with
  | nil => rw [line_one, es, eq]; simp
  | cons x w => rw [line_two, es, eq]; simp
theorem ll_outer {t : D} : ∀ (r w : List Nat) (m2 m3 : M), Shy m2 → Shy m3 → (∀ c ∈ w ++ r, c ∈ al) → w.length + r.length ≤ 1000 → ∃ m2' m3', forGo (gNm 2) b_law_line_2 (r.map fun c => .str (sS (sg c))) [.sh t, .sh (.str (sS (line w))), m2, m3] = some (.nx, [.sh t, .sh (.str (sS (line (w ++ r)))), m2', m3'])
  | [], w, m2, m3, _, _, _, _ => ⟨m2, m3, by rw [List.append_nil]; rfl⟩
  | c :: r, w, m2, m3, h2, h3, hw, hn => by
    rw [List.length_cons] at hn
    have hc : c ∈ al := hw c (List.mem_append_right _ List.mem_cons_self)
    have hww : ∀ x ∈ w, x ∈ al := fun x hx => hw x (List.mem_append_left _ hx)
    have hll := line_le hww
    have hsl := (sg_pos c hc).2
    have z3 : (line w).length + 3 ≤ lim := by show _ ≤ 1000000; omega
    have hs : (sg c).length ≤ lim := lim_of (by omega)
    have hi : i62 ((sg c).length : Int) = true := i62_of (by omega) (by omega)
    have e : ∃ m3', bnd (gNm 2 (.str (sS (sg c))) [.sh t, .sh (.str (sS (line w))), m2, m3]) b_law_line_2 = some (.nx, [.sh t, .sh (.str (sS (line (w ++ [c])))), .sh (.str (sS (sg c))), m3']) ∧ Shy m3' := by
      rw [line_snoc]
      unfold b_law_line_2
      rw [t_nil, t_sp3]
      by_cases h0 : w = []
      · subst h0
        obtain ⟨m3', e, h⟩ := ll_inner (t := t) (f := []) (s := sg c) h3 (by simp) (by omega)
        refine ⟨m3', ?_, h⟩
        rw [List.nil_append] at e
        simp [-forGo_cons, shy_free h2, line_nil, hs, hi, e]
      · rw [if_neg h0]
        have hne : ¬ sS (line w) = sS [] := fun e => by
          obtain ⟨d, q, rfl⟩ := List.exists_cons_of_ne_nil h0
          exact line_ne (hww d List.mem_cons_self) (sS_inj.mp e)
        obtain ⟨m3', e, h⟩ := ll_inner (t := t) (f := line w ++ S3) (s := sg c) h3 (by rw [List.length_append]; show _ + 3 ≤ _; omega) (by omega)
        refine ⟨m3', ?_, h⟩
        simp only [List.append_assoc] at e ⊢
        simp [-forGo_cons, -List.append_assoc, shy_free h2, hne, z3, hs, hi, e]
    obtain ⟨m3', e, h⟩ := e
    obtain ⟨a, b, e2⟩ := ll_outer (t := t) r (w ++ [c]) _ m3' (.sh (.str (sS (sg c)))) h (by rw [List.append_assoc]; exact hw) (by rw [List.length_append, List.length_singleton]; omega)
    refine ⟨a, b, ?_⟩
    rw [List.map_cons, for_step e, e2, List.append_assoc]
    rfl
theorem law_line_ok {w : List Nat} (hw : ∀ c ∈ w, c ∈ al) (hl : w.length ≤ 1000) : phi_law_line [.str (sS w)] = some (.sh (.str (sS (line w)))) := by
  obtain ⟨a, b, e⟩ := ll_outer (t := .str (sS w)) w [] .no .no .no .no hw (by simpa using hl)
  rw [List.nil_append, line_nil] at e
  have hsp := spelt_ok hw hl
  unfold phi_law_line
  rw [runN_eq (by rfl)]
  unfold m_law_line
  rw [t_nil]
  generalize (w.map fun c => PyData.str (sS (sg c))) = Z at *
  simp [-forGo_cons, hsp, e]
end Law
/-! k58: places that may be lost -/
namespace Law
open PySem PySem.Spec PyProof.Rows L2 Mi
set_option maxRecDepth 100000
set_option maxHeartbeats 1000000
def wk (l : List Nat) (k : Nat) : List Nat := l.take k ++ [32] ++ l.drop (k + 1)
theorem wk_len (l : List Nat) (k : Nat) : (wk l k).length ≤ l.length + 1 := by
  unfold wk
  rw [List.length_append, List.length_append, List.length_take, List.length_drop, List.length_singleton]
  omega
theorem wk_Cur {l : List Nat} (h : Cur l) (k : Nat) : Cur (wk l k) := fun c hc => by
  unfold wk at hc
  rcases List.mem_append.mp hc with hc | hc
  · rcases List.mem_append.mp hc with hc | hc
    · exact h c (List.mem_of_mem_take hc)
    · rw [List.mem_singleton] at hc; exact .inl hc
  · exact h c (List.mem_of_mem_drop hc)
theorem weak_ok {l : List Nat} {k : Nat} (hl : l.length ≤ 4000) : phi_weakened [.str (sS l), .int (k : Int)] = some (.sh (.str (sS (wk l k)))) := by
  have h1 : Mi.cutD l none (some (k : Int)) = l.take k := by rw [cut_to _ (by omega), Int.toNat_natCast]
  have h2 : Mi.cutD l (some ((k : Int) + 1)) none = l.drop (k + 1) := by rw [cut_from _ (by omega), show ((k : Int) + 1).toNat = k + 1 by omega]
  have hL : l.length ≤ lim := by show _ ≤ 1000000; omega
  unfold phi_weakened wk
  rw [runN_eq (by rfl)]
  unfold m_weakened
  rw [t_sp1]
  simp [hL, h1, h2]
  unfold lim
  omega
def keepB (l : List Nat) (i : Int) : Bool := decide (l[i.toNat]? = some 61) && (RD (wk l i.toNat)).isSome
theorem keep_at {l : List Nat} {k c : Nat} (hc : l[k]? = some c) : keepB l k = (decide (c = 61) && (RD (wk l k)).isSome) := by
  unfold keepB
  rw [Int.toNat_natCast, hc]
  congr 1
  by_cases h : c = 61
  · subst h; simp
  · simp [h]
theorem isN_rd (o : Option (List Nat)) : isND (rdD o) .none = some (!o.isSome) := by
  cases o <;> rfl
theorem lost_turn {l : List Nat} {k c : Nat} {acc : List Int} {w : D} {m3 m4 : M} (hl : l.length ≤ 3000) (h3 : Shy m3) (h4 : Shy m4) (hc : l[k]? = some c) (ha : acc.length ≤ 3000) :
    bnd (gTp 2 (gCons' (gNm 3) (gCons' (gNm 4) gNil')) (.tuple [.int (k : Int), .str (sS [c])]) [.sh w, .sh (.str (sS l)), .own (acc.map .int), m3, m4]) b_lost_units_1 = some (.nx, [.sh w, .sh (.str (sS l)), .own ((acc ++ if keepB l k = true then [(k : Int)] else []).map .int), .sh (.int (k : Int)), .sh (.str (sS [c]))]) := by
  have e1 := weak_ok (l := l) (k := k) (by omega)
  have hwl := wk_len l k
  have e2 := read_ok (l := wk l k) (by omega)
  have e3 := isN_rd (RD (wk l k))
  have hk : keepB l k = (decide (c = 61) && (RD (wk l k)).isSome) := by
    unfold keepB
    rw [Int.toNat_natCast, hc]
    congr 1
    by_cases h : c = 61
    · subst h; simp
    · have : ¬ some c = some 61 := fun e => h (Option.some.inj e)
      simp [h]
  have hal : acc.length < lim := by show _ < 1000000; omega
  rw [hk]
  unfold b_lost_units_1
  rw [t_eq]
  by_cases h : c = 61
  · subst h
    cases q : (RD (wk l k)).isSome with
    | true =>
      rw [q] at e3
      simp [shy_free h3, shy_free h4, e1, e2, e3, hal]
    | false =>
      rw [q] at e3
      simp [shy_free h3, shy_free h4, e1, e2, e3]
  · have hn : ¬ sS [c] = sS [61] := fun e => h (by have := sS_inj.mp e; injection this)
    simp [shy_free h3, shy_free h4, h, hn]
def lostN (l : List Nat) : List Int := (rng (l.length : Nat)).filter (keepB l)
theorem lost_loop {l : List Nat} {w : D} (hl : l.length ≤ 2000) : ∀ (r : List Nat) (k : Nat) (acc : List Int) (m3 m4 : M), Shy m3 → Shy m4 → l.drop k = r → acc.length + r.length ≤ 3000 →
    ∃ m3' m4', forGo (gTp 2 (gCons' (gNm 3) (gCons' (gNm 4) gNil'))) b_lost_units_1 (enumL (k : Int) (charsD (sS r))) [.sh w, .sh (.str (sS l)), .own (acc.map .int), m3, m4] = some (.nx, [.sh w, .sh (.str (sS l)), .own ((acc ++ ((List.range' k r.length).map fun i : Nat => (i : Int)).filter (keepB l)).map .int), m3', m4'])
  | [], k, acc, m3, m4, _, _, _, _ => ⟨m3, m4, by simp [charsD_sS, enumL, forGo]⟩
  | c :: r, k, acc, m3, m4, h3, h4, hr, hn => by
    rw [List.length_cons] at hn
    have hc : l[k]? = some c := by
      have := congrArg (fun x : List Nat => x[0]?) hr
      simpa using this
    have hr' : l.drop (k + 1) = r := by
      have := congrArg (List.drop 1) hr
      rw [List.drop_drop] at this
      simpa [Nat.add_comm] using this
    have e := lost_turn (l := l) (k := k) (c := c) (acc := acc) (w := w) (by omega) h3 h4 hc (by omega)
    obtain ⟨a, b, e2⟩ := lost_loop (l := l) (w := w) hl r (k + 1) (acc ++ if keepB l k = true then [(k : Int)] else []) (.sh (.int (k : Int))) (.sh (.str (sS [c]))) (.sh _) (.sh _) hr' (by rw [List.length_append]; split <;> simp <;> omega)
    refine ⟨a, b, ?_⟩
    rw [show enumL (k : Int) (charsD (sS (c :: r))) = .tuple [.int (k : Int), .str (sS [c])] :: enumL ((k + 1 : Nat) : Int) (charsD (sS r)) from rfl, for_step e, e2, List.length_cons, List.range'_succ, List.map_cons, List.filter_cons, List.append_assoc]
    by_cases hk : keepB l k = true
    · rw [if_pos hk, if_pos hk]; rfl
    · rw [if_neg hk, if_neg hk]; rfl
theorem lost_ok {w : List Nat} (hw : ∀ c ∈ w, c ∈ al) (hl : w.length ≤ 100) : phi_lost_units [.str (sS w)] = some (.fr ((lostN (line w)).map .int)) := by
  have e1 := line_ok hw (by omega)
  have hll := line_le hw
  obtain ⟨a, b, e⟩ := lost_loop (l := line w) (w := .str (sS w)) (by omega) (line w) 0 [] .no .no .no .no rfl (by rw [List.length_nil]; omega)
  have hL : (line w).length ≤ lim := by show _ ≤ 1000000; omega
  have eN : ((List.range' 0 (line w).length).map fun i : Nat => (i : Int)).filter (keepB (line w)) = lostN (line w) := by
    unfold lostN rng
    rw [rangeL_eq, ← List.range_eq_range', Int.toNat_natCast]
    congr 1
    apply List.map_congr_left
    intro i _
    omega
  rw [eN, List.nil_append] at e
  have e' : forGo (gTp 2 (gCons' (gNm 3) (gCons' (gNm 4) gNil'))) b_lost_units_1 (enumL 0 (charsD (sS (line w)))) [.sh (.str (sS w)), .sh (.str (sS (line w))), .own [], .no, .no] = some (.nx, [.sh (.str (sS w)), .sh (.str (sS (line w))), .own ((lostN (line w)).map .int), a, b]) := e
  unfold phi_lost_units
  rw [runN_eq (by rfl)]
  unfold m_lost_units
  simp [-forGo_cons, e1, hL, e']
theorem law_lost_ok {l : List Nat} (hc : Cur l) (hl : l.length ≤ 900) : phi_law_lost [.str (sS l)] = some (.fr ((lostN l).map .int)) := by
  have hL : l.length ≤ lim := lim_of (by omega)
  have zi : i62 (l.length : Int) = true := i62_of (by omega) (by omega)
  have e := keep_ints (g := gNm 1) (t := t_law_lost_1) (el := l_law_lost_1) (vs := [1]) (ρ := [.sh (.str (sS l)), .no]) (ns := rng (l.length : Nat)) (keepB l) (by rw [rng_len]; omega) (fun i hi => by
    obtain ⟨h0, h1⟩ := rng_mem hi
    obtain ⟨k, rfl⟩ : ∃ k : Nat, i = (k : Int) := ⟨i.toNat, by omega⟩
    have hk : k < l.length := by omega
    obtain ⟨c, hx⟩ : ∃ c, l[k]? = some c := ⟨_, List.getElem?_eq_getElem hk⟩
    have ha : atI l (k : Int) = some c := by rw [atI_nat', hx]
    have hwl := wk_len l k
    have e2 := law_read_ok (wk_Cur hc k) (by omega)
    rw [← RD_LR (wk_Cur hc k)] at e2
    have e3 := isN_rd (RD (wk l k))
    have h1' : Mi.cutD l none (some (k : Int)) = l.take k := by rw [cut_to _ (by omega), Int.toNat_natCast]
    have h2' : Mi.cutD l (some ((k : Int) + 1)) none = l.drop (k + 1) := by rw [cut_from _ (by omega), show ((k : Int) + 1).toNat = k + 1 by omega]
    have hkb := keep_at (l := l) hx
    have hll : min k l.length + 1 + (l.length - (k + 1)) ≤ lim := by show _ ≤ 1000000; omega
    have hll2 : min k l.length + 1 ≤ lim := by show _ ≤ 1000000; omega
    have hwk : l.take k ++ 32 :: l.drop (k + 1) = wk l k := by unfold wk; rw [List.append_assoc]; rfl
    have hwk2 : l.take k ++ ([32] ++ l.drop (k + 1)) = wk l k := by unfold wk; rw [List.append_assoc]
    rw [hkb]
    unfold t_law_lost_1 l_law_lost_1
    rw [t_eq, t_sp1]
    have hq : (⟨#[c]⟩ : Str) = sS [c] := rfl
    by_cases h : c = 61
    · subst h
      cases q : (RD (wk l k)).isSome with
      | true =>
        rw [q] at e3
        simp [hL, ha, hq, h1', h2', hll, hll2, hwk, hwk2, e2, e3]
        all_goals (unfold lim; omega)
      | false =>
        rw [q] at e3
        simp [hL, ha, hq, h1', h2', hll, hll2, hwk, hwk2, e2, e3]
        all_goals (unfold lim; omega)
    · have hn : ¬ sS [c] = sS [61] := fun e => h (by have := sS_inj.mp e; injection this)
      simp [hL, ha, hq, h, hn])
  rw [← rangeD_rng] at e
  unfold phi_law_lost
  rw [runN_eq (by rfl)]
  unfold m_law_lost
  rw [show (lostN l) = (rng (l.length : Nat)).filter (keepB l) from rfl]
  simp [hL, zi, e]
end Law
/-! k58: bent lines -/
namespace Law
open PySem PySem.Spec PyProof.Rows L2 Mi
set_option maxRecDepth 100000
set_option maxHeartbeats 1000000
theorem t_sp6 : Str.ofString "      " = sS [32, 32, 32, 32, 32, 32] := by decide +kernel
theorem t_sp2 : Str.ofString "  " = sS [32, 32] := by decide +kernel
theorem t_eq2 : Str.ofString "==" = sS [61, 61] := by decide +kernel
theorem t_spe : Str.ofString "   =" = sS [32, 32, 32, 61] := by decide +kernel
def Ln (d : D) : Prop := ∃ x, d = .str (sS x) ∧ Cur x ∧ x.length ≤ 3500
theorem Cur_app {a b : List Nat} (ha : Cur a) (hb : Cur b) : Cur (a ++ b) := fun c h => by
  rcases List.mem_append.mp h with h | h
  · exact ha c h
  · exact hb c h
theorem Cur_take {a : List Nat} (ha : Cur a) (k : Nat) : Cur (a.take k) := fun c h => ha c (List.mem_of_mem_take h)
theorem Cur_drop {a : List Nat} (ha : Cur a) (k : Nat) : Cur (a.drop k) := fun c h => ha c (List.mem_of_mem_drop h)
theorem Cur_32 {r : List Nat} (h : Cur r) : Cur (32 :: r) := fun c hc => by
  rcases List.mem_cons.mp hc with rfl | hc
  · exact .inl rfl
  · exact h c hc
theorem Cur_61 {r : List Nat} (h : Cur r) : Cur (61 :: r) := fun c hc => by
  rcases List.mem_cons.mp hc with rfl | hc
  · exact .inr rfl
  · exact h c hc
theorem Cur_nil : Cur [] := fun c h => by cases h
theorem add_sS {x y : List Nat} (h : x.length + y.length ≤ 5000) : addD (.str (sS x)) (.str (sS y)) = some (.sh (.str (sS (x ++ y)))) := by
  have : x.length + y.length ≤ lim := by show _ ≤ 1000000; omega
  simp [this]
theorem repl_D {x y z : List Nat} (hy : 1 ≤ y.length) (hx : Cur x) (hz : Cur z) (hxl : x.length ≤ 300) (hzl : z.length ≤ 6) : ∃ r, replD (sS y) (sS z) (.str (sS x)) = some (.sh (.str (sS r))) ∧ Cur r ∧ r.length ≤ 2100 := by
  obtain ⟨r, e, h1, h2⟩ := repl_ok hy hx hz
  refine ⟨r, ?_, h1, ?_⟩
  · rw [replD_s, sS_len, sS_len, if_pos, e]
    have := Nat.mul_le_mul (Nat.succ_le_succ hxl) hzl
    have h3 : (x.length + 1) * z.length ≤ 301 * 6 := this
    omega
  · have h3 : x.length * (z.length + 1) ≤ 300 * 7 := Nat.mul_le_mul hxl (Nat.succ_le_succ hzl)
    omega
theorem Ln_nil : ∀ d ∈ ([] : List D), Ln d := fun d h => by cases h
theorem Ln_cons {d : D} {r : List D} (h : Ln d) (hr : ∀ x ∈ r, Ln x) : ∀ x ∈ d :: r, Ln x := fun x hx => by
  rcases List.mem_cons.mp hx with rfl | hx
  · exact h
  · exact hr x hx
theorem bent_ok {l : List Nat} {ws : List D} (hc : Cur l) (hl : l.length ≤ 300) (b : BoxOk ws) : ∃ ds ws', phi_law_bent ws [.str (sS l)] = some (.fr ds, ws') ∧ BoxOk ws' ∧ (∀ d ∈ ds, Ln d) ∧ ds.length ≤ 20 := by
  obtain ⟨ra, w1, e1, b1, h0, h1⟩ := draw_ok (many := (l.length : Int) + 1) b (by omega)
  obtain ⟨rb, w2, e2, b2, h2, h3⟩ := draw_ok (many := (l.length : Int) + 1) b1 (by omega)
  obtain ⟨a, rfl⟩ : ∃ a : Nat, ra = (a : Int) := ⟨ra.toNat, by omega⟩
  obtain ⟨c, rfl⟩ : ∃ c : Nat, rb = (c : Int) := ⟨rb.toNat, by omega⟩
  have hL : l.length ≤ lim := lim_of (by omega)
  have c1 : Mi.cutD l none (some (a : Int)) = l.take a := by rw [cut_to _ (by omega), Int.toNat_natCast]
  have c2 : Mi.cutD l (some ((a : Int) + 1)) none = l.drop (a + 1) := by rw [cut_from _ (by omega), show ((a : Int) + 1).toNat = a + 1 by omega]
  have c3 : Mi.cutD l (some (a : Int)) none = l.drop a := by rw [cut_from _ (by omega), Int.toNat_natCast]
  obtain ⟨r1, q1, k1, j1⟩ := repl_D (x := l) (y := S3) (z := [32]) (by decide) hc (Cur_32 Cur_nil) hl (by decide)
  obtain ⟨r2, q2, k2, j2⟩ := repl_D (x := l) (y := S3) (z := [32, 32, 32, 32, 32, 32]) (by decide) hc (Cur_32 (Cur_32 (Cur_32 (Cur_32 (Cur_32 (Cur_32 Cur_nil)))))) hl (by decide)
  obtain ⟨r3, q3, k3, j3⟩ := repl_D (x := l) (y := [61, 61, 61]) (z := [61]) (by decide) hc (Cur_61 Cur_nil) hl (by decide)
  have c4 : ∃ u : Nat, min2D (.int (a : Int)) (.int (c : Int)) = some (.sh (.int (u : Int))) := by
    refine ⟨if (c : Nat) < a then c else a, ?_⟩
    simp [min2D_i]
    split <;> rfl
  have c5 : ∃ u : Nat, max2D (.int (a : Int)) (.int (c : Int)) = some (.sh (.int (u : Int))) := by
    refine ⟨if (c : Nat) > a then c else a, ?_⟩
    simp [max2D_i]
    split <;> rfl
  obtain ⟨u, c4⟩ := c4
  obtain ⟨v, c5⟩ := c5
  have c6 : Mi.cutD l none (some (u : Int)) = l.take u := by rw [cut_to _ (by omega), Int.toNat_natCast]
  have c7 : Mi.cutD l (some (v : Int)) none = l.drop v := by rw [cut_from _ (by omega), Int.toNat_natCast]
  have cx : ∃ X, Mi.cutD l (some (a : Int)) (some ((a : Int) + 1)) = X := ⟨_, rfl⟩
  obtain ⟨X, c8⟩ := cx
  have z18 : 20 ≤ lim := lim_of (by decide)
  have zz : ∀ n, n ≤ 20 → n ≤ lim := fun n h => lim_of (by omega)
  have zl : 17 < lim := lim_lt' (by decide)
  unfold phi_law_bent
  rw [runIO_eq (by rfl)]
  unfold m_law_bent
  rw [t_sp1, t_sp3, t_eq, t_sp6, t_sp2, t_eq2, t_spe, t_eq3]
  have g : ∀ n, n ≤ 20 → n ≤ lim := fun n h => lim_of (by omega)
  have hX' : ¬ X = [32] → ¬ sS X = sS [32] := fun h e => h (sS_inj.mp e)
  by_cases hX : X = [32]
  · subst hX
    simp (disch := first | (simp only [List.length_append, List.length_take, List.length_drop, List.length_cons, List.length_nil]; omega)) [-addD_s, -replD_s, -min2D_i, -max2D_i, -List.append_assoc, e1, e2, hL, c1, c2, c3, c4, c5, c6, c7, c8, q1, q2, q3, add_sS, zz, zl]
    refine ⟨_, _, ⟨g _ (by decide), g _ (by decide), g _ (by decide), g _ (by decide), g _ (by decide), Nat.lt_of_lt_of_le (by decide) zl, rfl, rfl⟩, b2, ?_, (by simp)⟩
    repeat' (first | exact Ln_nil | refine Ln_cons ⟨_, rfl, (by repeat' (first | exact hc | exact k1 | exact k2 | exact k3 | exact Cur_nil | apply Cur_take | apply Cur_drop | apply Cur_app | apply Cur_32 | apply Cur_61)), (by first | omega | (simp only [List.length_append, List.length_take, List.length_drop, List.length_cons, List.length_nil]; omega))⟩ ?_)
  · have hX2 := hX' hX
    simp (disch := first | (simp only [List.length_append, List.length_take, List.length_drop, List.length_cons, List.length_nil]; omega)) [-addD_s, -replD_s, -min2D_i, -max2D_i, -List.append_assoc, e1, e2, hL, c1, c2, c3, c4, c5, c6, c7, c8, q1, q2, q3, add_sS, zz, zl, hX2]
    refine ⟨_, _, ⟨g _ (by decide), g _ (by decide), g _ (by decide), g _ (by decide), g _ (by decide), Nat.lt_of_lt_of_le (by decide) zl, rfl, rfl⟩, b2, ?_, (by simp)⟩
    repeat' (first | exact Ln_nil | refine Ln_cons ⟨_, rfl, (by repeat' (first | exact hc | exact k1 | exact k2 | exact k3 | exact Cur_nil | apply Cur_take | apply Cur_drop | apply Cur_app | apply Cur_32 | apply Cur_61)), (by first | omega | (simp only [List.length_append, List.length_take, List.length_drop, List.length_cons, List.length_nil]; omega))⟩ ?_)
end Law
/-! k58: the law's turns -/
namespace Law
open PySem PySem.Spec PyProof.Rows L2 Mi
set_option maxRecDepth 100000
set_option maxHeartbeats 1000000
def OkT (l : List Nat) : Prop := l.length ≤ 9000 ∧ ∀ c ∈ l, c < 1114112
theorem okT_D {n : Nat} {l : List Nat} (h : OkT l) : okD n (.str (sS l)) := by
  have e : (reprText (sS l)).length ≤ lim := by
    show _ ≤ 1000000
    have := repr_len l h.2
    have := h.1
    omega
  cases n <;> exact e
theorem same_text {l : List Nat} (h : OkT l) : phi_law_same 12 [.str (sS l), .str (sS l)] = some (.sh (.bool true)) := same_ok 11 _ (okT_D h)
theorem Cur_lt {l : List Nat} (h : Cur l) : ∀ c ∈ l, c < 1114112 := fun c hc => by have := h c hc; omega
theorem al_lt {l : List Nat} (h : ∀ c ∈ l, c ∈ al) : ∀ c ∈ l, c < 1114112 := fun c hc => by have := al_mem.mp (h c hc); omega
theorem readP_al : ∀ (ps : List (List Nat)) (f : List Nat), readP ps = some f → (∀ c ∈ f, c ∈ al) ∧ f.length = ps.length
  | [], f, h => by
    have : some [] = some f := h
    cases this
    exact ⟨fun c h => (by cases h), rfl⟩
  | p :: ps, f, h => by
    have h' : ((lto (Fl [] p)).bind fun c => (readP ps).map (c :: ·)) = some f := h
    cases q : lto (Fl [] p) with
    | none => rw [q] at h'; cases h'
    | some c =>
      rw [q] at h'
      obtain ⟨g, e1, e2⟩ := opt_map (show (readP ps).map (c :: ·) = some f from h')
      subst e2
      obtain ⟨i1, i2⟩ := readP_al ps g e1
      refine ⟨fun x hx => ?_, by rw [List.length_cons, List.length_cons, i2]⟩
      rcases List.mem_cons.mp hx with rfl | hx
      · exact (lto_sg q).1
      · exact i1 x hx
theorem same_rd {l : List Nat} (hl : l.length ≤ 5000) : phi_law_same 12 [rdD (RD l), rdD (RD l)] = some (.sh (.bool true)) := by
  cases q : RD l with
  | none => exact same_none
  | some f =>
    have h : (∀ c ∈ f, c ∈ al) ∧ f.length ≤ 9000 := by
      unfold RD at q
      by_cases h0 : l = []
      · rw [if_pos h0] at q
        cases q
        exact ⟨fun c h => (by cases h), by decide⟩
      · rw [if_neg h0] at q
        obtain ⟨h1, h2⟩ := readP_al _ f q
        have := spl_len S3 l 0 []
        exact ⟨h1, by omega⟩
    exact same_text ⟨h.2, al_lt h.1⟩
theorem far_loop {m0 m1 m2 m3 m4 m5 m6 m7 m9 : M} : ∀ (ds : List D) (m8 : M), (∀ d ∈ ds, Ln d) → Shy m8 → ∃ m8', forGo (gNm 8) b_law_1 ds [m0, m1, m2, m3, m4, m5, m6, m7, m8, m9] = some (.nx, [m0, m1, m2, m3, m4, m5, m6, m7, m8', m9]) ∧ Shy m8'
  | [], m8, _, h => ⟨m8, rfl, h⟩
  | d :: ds, m8, hd, h8 => by
    obtain ⟨x, rfl, hc, hl⟩ := hd d List.mem_cons_self
    have e1 := read_ok (l := x) (by omega)
    have e2 := law_read_ok hc (by omega)
    rw [← RD_LR hc] at e2
    have e3 := same_rd (l := x) (by omega)
    have e : bnd (gNm 8 (.str (sS x)) [m0, m1, m2, m3, m4, m5, m6, m7, m8, m9]) b_law_1 = some (.nx, [m0, m1, m2, m3, m4, m5, m6, m7, .sh (.str (sS x)), m9]) := by
      unfold b_law_1
      simp [shy_free h8, e1, e2, e3]
    obtain ⟨m8', e4, k8⟩ := far_loop (m0 := m0) (m1 := m1) (m2 := m2) (m3 := m3) (m4 := m4) (m5 := m5) (m6 := m6) (m7 := m7) (m9 := m9) ds (.sh (.str (sS x))) (fun d h => hd d (List.mem_cons_of_mem _ h)) (.sh _)
    exact ⟨m8', by rw [for_step e, e4], k8⟩
def LI (ns : List Int) (ρ : En) : Prop := ∃ (ws : List D) (m2 m3 m4 m5 m6 m7 m8 : M), ρ = [.sh (frzD (ns.map .int)), .own ws, m2, m3, m4, m5, m6, m7, m8, .no] ∧ BoxOk ws ∧ Shy m2 ∧ Shy m3 ∧ Shy m4 ∧ Shy m5 ∧ freeM (some m6) = true ∧ freeM (some m7) = true ∧ Shy m8
def Z1 : List Nat := [101, 116, 105, 97, 110, 109, 115]
def Z2 : List Nat := [101, 105, 115, 104, 107, 116]
theorem t_z1 : Str.ofString "etianms" = sS Z1 := by decide +kernel
theorem t_z2 : Str.ofString "eishkt" = sS Z2 := by decide +kernel
theorem Z_al : ∀ z ∈ [al, al, Z1, Z2], z ≠ [] ∧ z.length ≤ 26 ∧ ∀ c ∈ z, c ∈ al := by decide +kernel
theorem lost_mem {l : List Nat} (hl : l.length ≤ 900) : (lostN l).length ≤ 900 ∧ ∀ i ∈ lostN l, -1000000000 ≤ i ∧ i ≤ 1000000000 := by
  unfold lostN
  refine ⟨Nat.le_trans (List.length_filter_le _ _) (by rw [rng_len]; omega), fun i hi => ?_⟩
  have := rng_mem (List.mem_filter.mp hi).1
  omega
theorem turn_ok {ns : List Int} (n : Nat) (ρ : En) (hn : n < 2) (h : LI ns ρ) : ∃ ρ2, bnd (gNm 2 (.int n) ρ) b_law_2 = some (.nx, ρ2) ∧ LI ns ρ2 := by
  obtain ⟨ws, m2, m3, m4, m5, m6, m7, m8, rfl, b, h2, h3, h4, h5, h6, h7, h8⟩ := h
  obtain ⟨d, w1, e1, b1, hd⟩ := pick_ok (row := [.str (sS al), .str (sS al), .str (sS Z1), .str (sS Z2)]) b (by simp)
  obtain ⟨z, rfl, hz⟩ : ∃ z, d = .str (sS z) ∧ z ∈ [al, al, Z1, Z2] := by
    simp only [List.mem_cons, List.not_mem_nil, or_false] at hd
    rcases hd with rfl | rfl | rfl | rfl
    · exact ⟨al, rfl, by simp⟩
    · exact ⟨al, rfl, by simp⟩
    · exact ⟨Z1, rfl, by simp⟩
    · exact ⟨Z2, rfl, by simp⟩
  obtain ⟨hz0, hzl, hza⟩ := Z_al z hz
  obtain ⟨r1, w2, e2, b2, h10, h11⟩ := draw_ok (many := 6) b1 (by decide)
  obtain ⟨r2, w3, e3, b3, h20, h21⟩ := draw_ok (many := 3) b2 (by decide)
  obtain ⟨k, hk, hk0, hk1⟩ : ∃ k : Int, atI [PyData.int (1 + r1), .int r2] (n : Int) = some (.int k) ∧ 0 ≤ k ∧ k ≤ 6 := by
    match n, hn with
    | 0, _ => exact ⟨1 + r1, rfl, by omega, by omega⟩
    | 1, _ => exact ⟨r2, rfl, by omega, by omega⟩
  obtain ⟨cs, w4, e4, b4, hcl, hcm⟩ := draws_ok (g := gNm 9) (el := l_law_2) (v := 9) (S := fun ws => [.sh (frzD (ns.map .int)), .own ws, .sh (.int (n : Int)), .sh (.str (sS z)), m4, m5, m6, m7, m8, .no]) (z := z) (k := k) hz0 (by omega) (fun ws ws' d c e => by
    unfold l_law_2
    simp [e]) b3 (by omega)
  have hca : ∀ c ∈ cs, c ∈ al := fun c hc => hza c (hcm c hc)
  have hcl6 : cs.length ≤ 6 := by omega
  have e5 := join_chars (cs := cs) (by omega)
  rw [t_nil] at e5
  have e6 := law_line_ok hca (by omega)
  have e7 := units_ok hca (by omega)
  have e8 := line_ok hca (by omega)
  have hll := line_le hca
  have hcur := line_Cur cs
  have e9 := read_ok (l := line cs) (by omega)
  rw [RD_line hca] at e9
  have e9 : phi_read_line [.str (sS (line cs))] = some (.sh (.str (sS cs))) := e9
  have s1 : phi_law_same 12 [.int ((line cs).length : Int), .int ((line cs).length : Int)] = some (.sh (.bool true)) := same_int (i64_of (by omega) (by omega))
  have s2 := same_text (l := line cs) ⟨by omega, Cur_lt hcur⟩
  have s3 := same_text (l := cs) ⟨by omega, al_lt hca⟩
  have hL : (line cs).length ≤ lim := lim_of (by omega)
  have z4 : 4 ≤ lim := lim_of (by decide)
  have z2 : 2 ≤ lim := lim_of (by decide)
  have zk : i62 k = true := i62_of (by omega) (by omega)
  obtain ⟨ds, w5, e10, b5, hds, hdl⟩ := bent_ok hcur (by omega) b4
  have hcl1 : cs.length ≤ lim := lim_of (by omega)
  have hc1 : Mi.cutD cs none (some (1 : Int)) = cs.take 1 := cut_to _ (by omega)
  have hca1 : ∀ c ∈ cs.take 1, c ∈ al := fun c hc => hca c (List.mem_of_mem_take hc)
  have hll1 : (line (cs.take 1)).length ≤ 18 := by
    have := line_le hca1
    rw [List.length_take] at this
    omega
  have e11 := law_line_ok hca1 (by rw [List.length_take]; omega)
  have e12 := lost_ok hca1 (by rw [List.length_take]; omega)
  have e13 := law_lost_ok (line_Cur (cs.take 1)) (by omega)
  have e14 := lost_ok hca (by omega)
  have e15 := law_lost_ok hcur (by omega)
  have lm1 := lost_mem (l := line (cs.take 1)) (by omega)
  have lm2 := lost_mem (l := line cs) (by omega)
  have s4 := same_ints lm1.1 lm1.2
  have s5 := same_ints lm2.1 lm2.2
  have lm3 : (lostN (line cs)).length < lim := lim_lt' (by omega)
  generalize hV : (lostN (line cs)).map PyData.int = V at *
  have hVl : V.length < lim := by rw [← hV, List.length_map]; exact lm3
  generalize (lostN (line (cs.take 1))).map PyData.int = V1 at *
  by_cases hlt : (line cs).length < 46
  · obtain ⟨m8', e16, k8⟩ := far_loop (m0 := .sh (frzD (ns.map .int))) (m1 := .own w5) (m2 := .sh (.int (n : Int))) (m3 := .sh (.str (sS z))) (m4 := .sh (.str (sS cs))) (m5 := .sh (.str (sS (line cs)))) (m6 := .own V) (m7 := .own (V ++ [.int 0])) (m9 := .no) ds m8 hds h8
    refine ⟨[.sh (frzD (ns.map .int)), .own w5, .sh (.int (n : Int)), .sh (.str (sS z)), .sh (.str (sS cs)), .sh (.str (sS (line cs))), .own V, .own (V ++ [.int 0]), m8', .no], ?_, w5, _, _, _, _, _, _, _, rfl, b5, .sh _, .sh _, .sh _, .sh _, rfl, rfl, k8⟩
    have hlt' : ((line cs).length : Int) < 46 := by omega
    generalize (cs.map fun c => PyData.str (sS [c])) = CH at *
    generalize frzD (ns.map PyData.int) = fz at *
    unfold b_law_2
    rw [t_nil, t_z1, t_z2, show Str.ofString "abcdefghijklmnopqrstuvwxyz" = sS al from abc_is]
    simp [-forGo_cons, shy_free h2, shy_free h3, shy_free h4, shy_free h5, h6, h7, e1, e2, e3, hk, e4, e5, e6, e7, e8, e9, s1, s2, s3, hL, z4, z2, zk, e10, hcl1, hc1, e11, e12, e13, e14, e15, s4, s5, hVl, e16, hlt', hlt]
  · obtain ⟨m8', e16, k8⟩ := far_loop (m0 := .sh (frzD (ns.map .int))) (m1 := .own w5) (m2 := .sh (.int (n : Int))) (m3 := .sh (.str (sS z))) (m4 := .sh (.str (sS cs))) (m5 := .sh (.str (sS (line cs)))) (m6 := m6) (m7 := m7) (m9 := .no) ds m8 hds h8
    refine ⟨[.sh (frzD (ns.map .int)), .own w5, .sh (.int (n : Int)), .sh (.str (sS z)), .sh (.str (sS cs)), .sh (.str (sS (line cs))), m6, m7, m8', .no], ?_, w5, _, _, _, _, _, _, _, rfl, b5, .sh _, .sh _, .sh _, .sh _, h6, h7, k8⟩
    have hlt' : ¬ ((line cs).length : Int) < 46 := by omega
    generalize (cs.map fun c => PyData.str (sS [c])) = CH at *
    generalize frzD (ns.map PyData.int) = fz at *
    unfold b_law_2
    rw [t_nil, t_z1, t_z2, show Str.ofString "abcdefghijklmnopqrstuvwxyz" = sS al from abc_is]
    simp [-forGo_cons, shy_free h2, shy_free h3, shy_free h4, shy_free h5, e1, e2, e3, hk, e4, e5, e6, e7, e8, e9, s1, s2, s3, hL, z4, z2, zk, e10, e16, hlt', hlt]
end Law
/-! k58: the law -/
namespace Law
open PySem PySem.Spec PyProof.Rows L2 Mi
set_option maxRecDepth 100000
set_option maxHeartbeats 1000000
def TS : List (List Nat) := [[61], [61, 61, 61], [32], S3, [61, 32], [61, 61, 61, 32, 61], [32, 32]]
theorem t_e1 : Str.ofString "= " = sS [61, 32] := by decide +kernel
theorem t_e2 : Str.ofString "=== =" = sS [61, 61, 61, 32, 61] := by decide +kernel
theorem TS_ok : ∀ t ∈ TS, t.length ≤ 5 ∧ ∀ c ∈ t, c = 32 ∨ c = 61 := by decide
theorem parts_of : ∀ {ds : List D}, (∀ d ∈ ds, ∃ t, d = .str (sS t) ∧ t ∈ TS) → ∃ ts : List (List Nat), ds = (ts.map fun t => .str (sS t)) ∧ ∀ t ∈ ts, t ∈ TS
  | [], _ => ⟨[], rfl, fun c h => by cases h⟩
  | d :: r, h => by
    obtain ⟨t, rfl, ht⟩ := h d List.mem_cons_self
    obtain ⟨ts, rfl, hts⟩ := parts_of fun d hd => h d (List.mem_cons_of_mem _ hd)
    refine ⟨t :: ts, rfl, fun x hx => ?_⟩
    rcases List.mem_cons.mp hx with rfl | hx
    · exact ht
    · exact hts x hx
theorem flat_ok : ∀ {ts : List (List Nat)}, (∀ t ∈ ts, t ∈ TS) → Cur ts.flatten ∧ ts.flatten.length ≤ 5 * ts.length
  | [], _ => ⟨fun c h => (by cases h), Nat.zero_le _⟩
  | t :: ts, h => by
    obtain ⟨h1, h2⟩ := TS_ok t (h t List.mem_cons_self)
    obtain ⟨i1, i2⟩ := flat_ok fun x hx => h x (List.mem_cons_of_mem _ hx)
    rw [List.flatten_cons]
    exact ⟨Cur_app h2 i1, by rw [List.length_append, List.length_cons]; omega⟩
theorem v1 : lostN (line [115]) = [2] := by decide +kernel
theorem v2 : lostN (line [107]) = [1, 4, 7] := by decide +kernel
theorem v3 : lostN (line [116]) = [1] := by decide +kernel
theorem v4 : (line [112, 97, 114, 105, 115]).length = 43 := by decide +kernel
theorem v5 : line [101, 116] = [61, 32, 32, 32, 61, 61, 61] := by decide +kernel
theorem v6 : RD [61, 32, 61, 32, 61, 32, 61, 32, 61] = none := by decide +kernel
theorem v7 : RD [32] = none := by decide +kernel
theorem main (ns : List Int) (hn : ns.length ≤ 63) : phi_law [frzD (ns.map .int)] = some (.sh (.bool true)) := by
  obtain ⟨ds, e1⟩ := digits_ok ns (b := 12) (by decide) (by decide)
  obtain ⟨ρ', e2, ws, m2, m3, m4, m5, m6, m7, m8, rfl, b, h2, h3, h4, h5, h6, h7, h8⟩ := rturns (S := fun _ => LI ns) (g := gNm 2) (b := b_law_2) (N := 2) (fun n ρ hn h => turn_ok n ρ hn h)
    (ρ := [.sh (frzD (ns.map .int)), .own [.list (ds.map .int), .int 0], .no, .no, .no, .no, .no, .no, .no, .no]) ⟨_, _, _, _, _, _, _, _, rfl, box_ok ds, .no, .no, .no, .no, rfl, rfl, .no⟩
  have e2 : forGo (gNm 2) b_law_2 (rangeD 0 2) [.sh (frzD (ns.map .int)), .own [.list (ds.map .int), .int 0], .no, .no, .no, .no, .no, .no, .no, .no] = some (.nx, [.sh (frzD (ns.map .int)), .own ws, m2, m3, m4, m5, m6, m7, m8, .no]) := e2
  obtain ⟨r1, w1, e3, b1, h10, h11⟩ := draw_ok (many := 8) b (by decide)
  have z7 : 7 ≤ lim := lim_of (by decide)
  obtain ⟨ys, ρ1, e4, ⟨w2, rfl, b2⟩, hy, hyn⟩ := lc_invA (gg := gNm 9) (t := mYes) (el := l_law_1) (vs := [9]) (ds := rangeD 0 (1 + r1)) (ρ := [.sh (frzD (ns.map .int)), .own w1, m2, m3, m4, m5, m6, m7, m8, .no])
    (fun ρ => ∃ ws, ρ = [.sh (frzD (ns.map .int)), .own ws, m2, m3, m4, m5, m6, m7, m8, .no] ∧ BoxOk ws) (fun d => ∃ t, d = .str (sS t) ∧ t ∈ TS)
    (fun d _ ρ h => by
      obtain ⟨ws, rfl, b⟩ := h
      obtain ⟨x, w1, e1, b1, hx⟩ := pick_ok (row := TS.map fun t => .str (sS t)) b (by decide)
      obtain ⟨t, ht, rfl⟩ := List.mem_map.mp hx
      refine ⟨.str (sS t), [.sh (frzD (ns.map .int)), .own w1, m2, m3, m4, m5, m6, m7, m8, .no], ?_, ⟨w1, rfl, b1⟩, t, rfl, ht⟩
      have e1 : phi_law_pick ws [.list [.str (sS [61]), .str (sS [61, 61, 61]), .str (sS [32]), .str (sS S3), .str (sS [61, 32]), .str (sS [61, 61, 61, 32, 61]), .str (sS [32, 32])]] = some (.sh (.str (sS t)), w1) := e1
      unfold l_law_1
      rw [t_eq, t_eq3, t_sp1, t_sp3, t_e1, t_e2, t_sp2]
      simp [e1, z7]) ⟨w1, rfl, b1⟩ [] (by rw [rangeD_len]; show _ ≤ 1000000; simp; omega)
  obtain ⟨ts, rfl, hts⟩ := parts_of hy
  rw [List.length_map, rangeD_len] at hyn
  rw [List.nil_append] at e4
  obtain ⟨hcur, hfl⟩ := flat_ok hts
  have hj := join_all (ls := ts) (by omega)
  rw [t_nil] at hj
  have e5 := read_ok (l := ts.flatten) (by omega)
  have e6 := law_read_ok hcur (by omega)
  rw [← RD_LR hcur] at e6
  have s1 := same_rd (l := ts.flatten) (by omega)
  generalize ts.flatten = x at *
  generalize (ts.map fun t => PyData.str (sS t)) = TD at *
  have a1 := read_ok (l := []) (by decide)
  have a1 : phi_read_line [.str (sS [])] = some (.sh (.str (sS []))) := a1
  have a2 := read_ok (l := [32]) (by decide)
  rw [v7] at a2
  have a2 : phi_read_line [.str (sS [32])] = some (.sh .none) := a2
  have a3 := read_ok (l := [61, 32, 61, 32, 61, 32, 61, 32, 61]) (by decide)
  rw [v6] at a3
  have a3 : phi_read_line [.str (sS [61, 32, 61, 32, 61, 32, 61, 32, 61])] = some (.sh .none) := a3
  have a4 := lost_ok (w := [115]) (by decide) (by decide)
  rw [v1] at a4
  have a4 : phi_lost_units [.str (sS [115])] = some (.fr [.int 2]) := a4
  have a5 := lost_ok (w := [107]) (by decide) (by decide)
  rw [v2] at a5
  have a5 : phi_lost_units [.str (sS [107])] = some (.fr [.int 1, .int 4, .int 7]) := a5
  have a6 := lost_ok (w := [116]) (by decide) (by decide)
  rw [v3] at a6
  have a6 : phi_lost_units [.str (sS [116])] = some (.fr [.int 1]) := a6
  have a7 := units_ok (w := [112, 97, 114, 105, 115]) (by decide) (by decide)
  rw [v4] at a7
  have a7 : phi_units [.str (sS [112, 97, 114, 105, 115])] = some (.sh (.int 43)) := a7
  have a8 := units_ok (w := []) (by decide) (by decide)
  have a8 : phi_units [.str (sS [])] = some (.sh (.int 0)) := a8
  have a9 := line_ok (w := [101, 116]) (by decide) (by decide)
  rw [v5] at a9
  have t1 : Str.ofString "s" = sS [115] := by decide +kernel
  have t2 : Str.ofString "k" = sS [107] := by decide +kernel
  have t3 : Str.ofString "t" = sS [116] := by decide +kernel
  have t4 : Str.ofString "paris" = sS [112, 97, 114, 105, 115] := by decide +kernel
  have t5 : Str.ofString "et" = sS [101, 116] := by decide +kernel
  have t6 : Str.ofString "=   ===" = sS [61, 32, 32, 32, 61, 61, 61] := by decide +kernel
  have t7 : Str.ofString "= = = = =" = sS [61, 32, 61, 32, 61, 32, 61, 32, 61] := by decide +kernel
  have c1 : phi_law_same 12 [.list [.int 2], .list [.int 2]] = some (.sh (.bool true)) := same_ints (ns := [2]) (by decide) (by decide)
  have c2 : phi_law_same 12 [.list [.int 1, .int 4, .int 7], .list [.int 1, .int 4, .int 7]] = some (.sh (.bool true)) := same_ints (ns := [1, 4, 7]) (by decide) (by decide)
  have c3 : phi_law_same 12 [.list [.int 1], .list [.int 1]] = some (.sh (.bool true)) := same_ints (ns := [1]) (by decide) (by decide)
  have c4 : phi_law_same 12 [.int 43, .int 43] = some (.sh (.bool true)) := same_int (by decide)
  have c5 : phi_law_same 12 [.int 0, .int 0] = some (.sh (.bool true)) := same_int (by decide)
  have c6 : phi_law_same 12 [.str (sS []), .str (sS [])] = some (.sh (.bool true)) := same_text ⟨by decide, fun c hc => by cases hc⟩
  have c7 := same_text (l := [61, 32, 32, 32, 61, 61, 61]) ⟨by decide, by decide⟩
  have zr : i62 (1 + r1) = true := i62_of (by omega) (by omega)
  have z2 : i62 2 = true := by decide
  have y1 : 1 ≤ lim := lim_of (by decide)
  have y2 : 2 ≤ lim := lim_of (by decide)
  have y3 : 3 ≤ lim := lim_of (by decide)
  have n1 : isND .none .none = some true := rfl
  unfold phi_law
  rw [runN_eq (by rfl)]
  unfold m_law
  rw [t1, t2, t3, t4, t5, t6, t7, t_nil, t_sp1]
  simp [-forGo_cons, shy_free h8, e1, e2, e3, e4, hj, e5, e6, s1, a1, a2, a3, a4, a5, a6, a7, a8, a9, c1, c2, c3, c4, c5, c6, c7, zr, z2, y1, y2, y3, n1]
end Law
/-! the walk: each def keeps its plain function (printed by gen.py) -/
namespace Law
open PySem PySem.Spec PyProof.Rows L2 Mi
set_option maxRecDepth 100000
set_option maxHeartbeats 4000000
def topS (i : Nat) : Stmt := PySem.Challenge.pw_postlands_k58_whole_lines_with_current.main.body.getD i (.Pass ⟨0, 0, 0, 0⟩)
abbrev s_letter_of : Stmt := topS 2
theorem sc_letter_of : FnScope ["signal", "letter"] ["signal"] (defScope s_letter_of) := ⟨rfl, rfl, rfl, by decide +kernel, rfl, by decide +kernel, by decide +kernel⟩
abbrev s_units : Stmt := topS 3
theorem sc_units : FnScope ["word", "rows", "letter", "sign"] ["word"] (defScope s_units) := ⟨rfl, rfl, rfl, by decide +kernel, rfl, by decide +kernel, by decide +kernel⟩
abbrev s_line_of : Stmt := topS 4
theorem sc_line_of : FnScope ["word", "rows", "letter", "sign"] ["word"] (defScope s_line_of) := ⟨rfl, rfl, rfl, by decide +kernel, rfl, by decide +kernel, by decide +kernel⟩
abbrev s_read_line : Stmt := topS 5
theorem sc_read_line : FnScope ["text", "found", "part", "signs", "letter", "far"] ["text"] (defScope s_read_line) := ⟨rfl, rfl, rfl, by decide +kernel, rfl, by decide +kernel, by decide +kernel⟩
abbrev s_weakened : Stmt := topS 6
theorem sc_weakened : FnScope ["text", "place"] ["text", "place"] (defScope s_weakened) := ⟨rfl, rfl, rfl, by decide +kernel, rfl, by decide +kernel, by decide +kernel⟩
abbrev s_lost_units : Stmt := topS 7
theorem sc_lost_units : FnScope ["word", "text", "found", "place", "sign"] ["word"] (defScope s_lost_units) := ⟨rfl, rfl, rfl, by decide +kernel, rfl, by decide +kernel, by decide +kernel⟩
abbrev s_law_cell : Stmt := topS 9
theorem sc_law_cell : FnScope ["script", "k"] ["script", "k"] (defScope s_law_cell) := ⟨rfl, rfl, rfl, by decide +kernel, rfl, by decide +kernel, by decide +kernel⟩
abbrev s_law_digits : Stmt := topS 10
theorem sc_law_digits : FnScope ["script", "first", "last", "digits", "k", "cell", "turn", "seed"] ["script", "first", "last"] (defScope s_law_digits) := ⟨rfl, rfl, rfl, by decide +kernel, rfl, by decide +kernel, by decide +kernel⟩
abbrev s_law_draw : Stmt := topS 11
theorem sc_law_draw : FnScope ["box", "many"] ["box", "many"] (defScope s_law_draw) := ⟨rfl, rfl, rfl, by decide +kernel, rfl, by decide +kernel, by decide +kernel⟩
abbrev s_law_pick : Stmt := topS 12
theorem sc_law_pick : FnScope ["box", "row"] ["box", "row"] (defScope s_law_pick) := ⟨rfl, rfl, rfl, by decide +kernel, rfl, by decide +kernel, by decide +kernel⟩
abbrev s_law_same : Stmt := topS 13
theorem sc_law_same : FnScope ["told", "due", "k"] ["told", "due"] (defScope s_law_same) := ⟨rfl, rfl, rfl, by decide +kernel, rfl, by decide +kernel, by decide +kernel⟩
abbrev s_law_signals : Stmt := topS 14
theorem sc_law_signals : FnScope ["first"] [] (defScope s_law_signals) := ⟨rfl, rfl, rfl, by decide +kernel, rfl, by decide +kernel, by decide +kernel⟩
abbrev s_law_spelt : Stmt := topS 15
theorem sc_law_spelt : FnScope ["word", "sign"] ["word"] (defScope s_law_spelt) := ⟨rfl, rfl, rfl, by decide +kernel, rfl, by decide +kernel, by decide +kernel⟩
abbrev s_law_line : Stmt := topS 16
theorem sc_law_line : FnScope ["word", "found", "signal", "k"] ["word"] (defScope s_law_line) := ⟨rfl, rfl, rfl, by decide +kernel, rfl, by decide +kernel, by decide +kernel⟩
abbrev s_law_stretches : Stmt := topS 17
theorem sc_law_stretches : FnScope ["text", "found", "sign"] ["text"] (defScope s_law_stretches) := ⟨rfl, rfl, rfl, by decide +kernel, rfl, by decide +kernel, by decide +kernel⟩
abbrev s_law_read : Stmt := topS 18
theorem sc_law_read : FnScope ["text", "signals", "found", "signal", "rows", "sign", "many"] ["text"] (defScope s_law_read) := ⟨rfl, rfl, rfl, by decide +kernel, rfl, by decide +kernel, by decide +kernel⟩
abbrev s_law_bent : Stmt := topS 19
theorem sc_law_bent : FnScope ["box", "text", "at", "far", "other", "rows"] ["box", "text"] (defScope s_law_bent) := ⟨rfl, rfl, rfl, by decide +kernel, rfl, by decide +kernel, by decide +kernel⟩
abbrev s_law_lost : Stmt := topS 20
theorem sc_law_lost : FnScope ["text", "k"] ["text"] (defScope s_law_lost) := ⟨rfl, rfl, rfl, by decide +kernel, rfl, by decide +kernel, by decide +kernel⟩
abbrev s_law : Stmt := topS 21
theorem sc_law : FnScope ["script", "box", "turn", "some", "word", "text", "due", "told", "far", "k"] ["script"] (defScope s_law) := ⟨rfl, rfl, rfl, by decide +kernel, rfl, by decide +kernel, by decide +kernel⟩
structure Txt [KK] (w : World) (mg : Str → Option Value) : Prop where
  z_bool : mg "bool" = none
  z_enumerate : mg "enumerate" = none
  z_int : mg "int" = none
  z_isinstance : mg "isinstance" = none
  z_len : mg "len" = none
  z_list : mg "list" = none
  z_max : mg "max" = none
  z_min : mg "min" = none
  z_range : mg "range" = none
  z_repr : mg "repr" = none
  z_str : mg "str" = none
  z_sum : mg "sum" = none
  z_tuple : mg "tuple" = none
  k_SIGNALS : KdAt KK.K w mg "SIGNALS" kd_SIGNALS
section
variable [KK] {P : Program} {w : World} {mg : Str → Option Value} {base : Heap} {f : Addr} {fd : FuncData}
theorem ok_letter_of (T : Txt w mg) (F : Fun KK.K "letter_of" "letter_of" s_letter_of f fd) (mgf : mg "letter_of" = some (.ref f))  : Cl P w mg base "letter_of" 1 (spN phi_letter_of) :=
  ⟨f, fd, ["signal"], fn_mk F sc_letter_of (fun cdv A outer s H E hr => (mss_cons (ms_for PassesOwn.never rfl (mi_of me_str) (mg_name (pg_name (i := 1) sc_letter_of.nd rfl (.inl rfl)))
  (mss_cons (ms_if (mt_cmp (cmp_eq (hu64 hr)) (me_kd T.k_SIGNALS (by rfl) (me_var (pv 1)) (fun _ _ => rfl)) (me_var (pv 0)) (by rfl))
  (mss_cons (ms_ret (me_var (pv 1)))
  mss_nil)
  mss_nil)
  mss_nil))
  (mss_cons (ms_ret me_non)
  mss_nil))) (runN_ok rfl rfl), mgf, F.kp, F.binds (ps := ["signal"]) fun _ _ _ _ _ _ us hl => match us, hl with | [_], _ => rfl⟩
theorem ok_units (T : Txt w mg) (F : Fun KK.K "units" "units" s_units f fd) (mgf : mg "units" = some (.ref f))  : Cl P w mg base "units" 1 (spN phi_units) :=
  ⟨f, fd, ["word"], fn_mk F sc_units (fun cdv A outer s H E hr => (mss_cons (ms_setLc (i := 1) (own := [("letter", 2)]) rfl sc_units.nd rfl rfl (sw_true rfl rfl rfl (by decide +kernel)) (mi_of (me_var (pv 0))) (blkOk_by (N := ["word", "rows", "letter", "sign"]) (sc := (defScope s_units)) (by decide +kernel)) (fun _ _ _ _ _ => (mg_name (pg_name (i := 2) sc_units.nd rfl (.inl rfl)))) (fun _ _ _ _ _ => mts_nil) (fun _ _ _ _ _ => (me_bin bin_sub (me_bin bin_add (me_b1 (c_sum rfl) (by rfl) (T.z_sum) (by decide +kernel) (me_lc (own := [("sign", 3)]) rfl sc_units.nd (mi_of (me_kd T.k_SIGNALS (by rfl) (me_var (pv 2)) (fun _ _ => rfl))) (blkOk_by (N := ["word", "rows", "letter", "sign"]) (sc := (relS _ (defScope s_units))) (by decide +kernel)) (fun _ _ _ _ _ => (mg_name (pg_name (i := 3) sc_units.nd rfl (.inl rfl)))) (fun _ _ _ _ _ => mts_nil) (fun _ _ _ _ _ => (me_if (mt_cmp (cmp_eq (hu64 hr)) (me_var (pv 3)) me_str (by rfl)) me_int me_int)))) (me_b1 c_len (by rfl) (T.z_len) (by decide +kernel) (me_kd T.k_SIGNALS (by rfl) (me_var (pv 2)) (fun _ _ => rfl)))) me_int)))
  (mss_cons (ms_ret (me_bin bin_add (me_b1 (c_sum rfl) (by rfl) (T.z_sum) (by decide +kernel) (me_var (pv 1))) (me_bin bin_mul me_int (me_b2 (c_max2 rfl) (by rfl) (T.z_max) (by decide +kernel) me_int (me_bin bin_sub (me_b1 c_len (by rfl) (T.z_len) (by decide +kernel) (me_var (pv 0))) me_int)))))
  mss_nil))) (runN_ok rfl rfl), mgf, F.kp, F.binds (ps := ["word"]) fun _ _ _ _ _ _ us hl => match us, hl with | [_], _ => rfl⟩
theorem ok_line_of (T : Txt w mg) (F : Fun KK.K "line_of" "line_of" s_line_of f fd) (mgf : mg "line_of" = some (.ref f))  : Cl P w mg base "line_of" 1 (spN phi_line_of) :=
  ⟨f, fd, ["word"], fn_mk F sc_line_of (fun cdv A outer s H E hr => (mss_cons (ms_setLc (i := 1) (own := [("letter", 2)]) rfl sc_line_of.nd rfl rfl (sw_true rfl rfl rfl (by decide +kernel)) (mi_of (me_var (pv 0))) (blkOk_by (N := ["word", "rows", "letter", "sign"]) (sc := (defScope s_line_of)) (by decide +kernel)) (fun _ _ _ _ _ => (mg_name (pg_name (i := 2) sc_line_of.nd rfl (.inl rfl)))) (fun _ _ _ _ _ => mts_nil) (fun _ _ _ _ _ => (me_join me_str (me_lc (own := [("sign", 3)]) rfl sc_line_of.nd (mi_of (me_kd T.k_SIGNALS (by rfl) (me_var (pv 2)) (fun _ _ => rfl))) (blkOk_by (N := ["word", "rows", "letter", "sign"]) (sc := (relS _ (defScope s_line_of))) (by decide +kernel)) (fun _ _ _ _ _ => (mg_name (pg_name (i := 3) sc_line_of.nd rfl (.inl rfl)))) (fun _ _ _ _ _ => mts_nil) (fun _ _ _ _ _ => (me_if (mt_cmp (cmp_eq (hu64 hr)) (me_var (pv 3)) me_str (by rfl)) me_str me_str))))))
  (mss_cons (ms_ret (me_join me_str (me_var (pv 1))))
  mss_nil))) (runN_ok rfl rfl), mgf, F.kp, F.binds (ps := ["word"]) fun _ _ _ _ _ _ us hl => match us, hl with | [_], _ => rfl⟩
theorem ok_read_line (T : Txt w mg) (F : Fun KK.K "read_line" "read_line" s_read_line f fd) (mgf : mg "read_line" = some (.ref f)) (c_letter_of : Cl P w mg base "letter_of" 1 (spN phi_letter_of)) : Cl P w mg base "read_line" 2 (spN phi_read_line) :=
  ⟨f, fd, ["text"], fn_mk F sc_read_line (fun cdv A outer s H E hr => (mss_cons (ms_if (mt_cmp (cmp_eq (hu64 hr)) (me_var (pv 0)) me_str (by rfl))
  (mss_cons (ms_ret me_str)
  mss_nil)
  mss_nil)
  (mss_cons (ms_set (i := 1) sc_read_line.nd rfl (.inl rfl) me_str)
  (mss_cons (ms_for PassesOwn.never rfl (mi_of (me_split (me_var (pv 0)) me_str)) (mg_name (pg_name (i := 2) sc_read_line.nd rfl (.inl rfl)))
  (mss_cons (ms_setLc (i := 3) (own := [("far", 5)]) rfl sc_read_line.nd rfl rfl (sw_true rfl rfl rfl (by decide +kernel)) (mi_of (me_split (me_var (pv 2)) me_str)) (blkOk_by (N := ["text", "found", "part", "signs", "letter", "far"]) (sc := (defScope s_read_line)) (by decide +kernel)) (fun _ _ _ _ _ => (mg_name (pg_name (i := 5) sc_read_line.nd rfl (.inl rfl)))) (fun _ _ _ _ _ => mts_nil) (fun _ _ _ _ _ => (me_lit2 (hu1 hr) (me_var (pv 5)))))
  (mss_cons (ms_set (i := 4) sc_read_line.nd rfl (.inl rfl) (me_callC c_letter_of (hr.mono (by decide)) (by rfl) (ma_cons (me_join me_str (me_var (pv 3))) ma_nil)))
  (mss_cons (ms_if (mt_cmp cmp_isD (me_var (pv 4)) me_non (by rfl))
  (mss_cons (ms_ret me_non)
  mss_nil)
  mss_nil)
  (mss_cons (ms_aug (i := 1) aug_add sc_read_line.nd rfl (.inl rfl) (me_var (pv 4)))
  mss_nil)))))
  (mss_cons (ms_ret (me_var (pv 1)))
  mss_nil))))) (runN_ok rfl rfl), mgf, F.kp, F.binds (ps := ["text"]) fun _ _ _ _ _ _ us hl => match us, hl with | [_], _ => rfl⟩
theorem ok_weakened (T : Txt w mg) (F : Fun KK.K "weakened" "weakened" s_weakened f fd) (mgf : mg "weakened" = some (.ref f))  : Cl P w mg base "weakened" 1 (spN phi_weakened) :=
  ⟨f, fd, ["text", "place"], fn_mk F sc_weakened (fun cdv A outer s H E hr => (mss_cons (ms_ret (me_bin bin_add (me_bin bin_add (me_slice (me_var (pv 0)) mp_none (mp_some (me_var (pv 1)))) me_str) (me_slice (me_var (pv 0)) (mp_some (me_bin bin_add (me_var (pv 1)) me_int)) mp_none)))
  mss_nil)) (runN_ok rfl rfl), mgf, F.kp, F.binds (ps := ["text", "place"]) fun _ _ _ _ _ _ us hl => match us, hl with | [_, _], _ => rfl⟩
theorem ok_lost_units (T : Txt w mg) (F : Fun KK.K "lost_units" "lost_units" s_lost_units f fd) (mgf : mg "lost_units" = some (.ref f)) (c_line_of : Cl P w mg base "line_of" 1 (spN phi_line_of)) (c_read_line : Cl P w mg base "read_line" 2 (spN phi_read_line)) (c_weakened : Cl P w mg base "weakened" 1 (spN phi_weakened)) : Cl P w mg base "lost_units" 3 (spN phi_lost_units) :=
  ⟨f, fd, ["word"], fn_mk F sc_lost_units (fun cdv A outer s H E hr => (mss_cons (ms_set (i := 1) sc_lost_units.nd rfl (.inl rfl) (me_callC c_line_of (hr.mono (by decide)) (by rfl) (ma_cons (me_var (pv 0)) ma_nil)))
  (mss_cons (ms_set (i := 2) sc_lost_units.nd rfl (.inl rfl) (me_lst ma_nil))
  (mss_cons (ms_for PassesOwn.never rfl (mi_enumA (by rfl) (T.z_enumerate) (ma_cons (me_var (pv 1)) ma_nil)) (mg_tup rfl (mgs_cons (mg_name (pg_name (i := 3) sc_lost_units.nd rfl (.inl rfl))) (mgs_cons (mg_name (pg_name (i := 4) sc_lost_units.nd rfl (.inl rfl))) mgs_nil)))
  (mss_cons (ms_if (MW.mt (mw_and (mt_cmp (cmp_eq (hu64 hr)) (me_var (pv 4)) me_str (by rfl)) (mw_and1 (mt_cmp cmp_isnot (me_callC c_read_line (hr.mono (by decide)) (by rfl) (ma_cons (me_callC c_weakened (hr.mono (by decide)) (by rfl) (ma_cons (me_var (pv 1)) (ma_cons (me_var (pv 3)) ma_nil))) ma_nil)) me_non (by rfl)))))
  (mss_cons (ms_expr (me_append (pv 2) (me_var (pv 3))))
  mss_nil)
  mss_nil)
  mss_nil))
  (mss_cons (ms_ret (me_var (pv 2)))
  mss_nil))))) (runN_ok rfl rfl), mgf, F.kp, F.binds (ps := ["word"]) fun _ _ _ _ _ _ us hl => match us, hl with | [_], _ => rfl⟩
theorem ok_law_cell (T : Txt w mg) (F : Fun KK.K "_law_cell" "_law_cell" s_law_cell f fd) (mgf : mg "_law_cell" = some (.ref f))  : Cl P w mg base "_law_cell" 1 (spN phi_law_cell) :=
  ⟨f, fd, ["script", "k"], fn_mk F sc_law_cell (fun cdv A outer s H E hr => (mss_cons (ms_if (mt_cmp (cmp_lt (hu64 hr)) (me_var (pv 1)) (me_b1 c_len (by rfl) (T.z_len) (by decide +kernel) (me_var (pv 0))) (by rfl))
  (mss_cons (ms_ret (me_ix (me_var (pv 0)) (me_var (pv 1)) (fun _ _ => rfl)))
  mss_nil)
  mss_nil)
  (mss_cons (ms_ret me_int)
  mss_nil))) (runN_ok rfl rfl), mgf, F.kp, F.binds (ps := ["script", "k"]) fun _ _ _ _ _ _ us hl => match us, hl with | [_, _], _ => rfl⟩
theorem ok_law_digits (T : Txt w mg) (F : Fun KK.K "_law_digits" "_law_digits" s_law_digits f fd) (mgf : mg "_law_digits" = some (.ref f)) (c_law_cell : Cl P w mg base "_law_cell" 1 (spN phi_law_cell)) : Cl P w mg base "_law_digits" 2 (spN phi_law_digits) :=
  ⟨f, fd, ["script", "first", "last"], fn_mk F sc_law_digits (fun cdv A outer s H E hr => (mss_cons (ms_set (i := 3) sc_law_digits.nd rfl (.inl rfl) (me_lst ma_nil))
  (mss_cons (ms_for PassesOwn.never rfl (mi_range2 (by rfl) (T.z_range) (ma_cons (me_var (pv 1)) (ma_cons (me_var (pv 2)) ma_nil))) (mg_name (pg_name (i := 4) sc_law_digits.nd rfl (.inl rfl)))
  (mss_cons (ms_set (i := 5) sc_law_digits.nd rfl (.inl rfl) (me_callC c_law_cell (hr.mono (by decide)) (by rfl) (ma_cons (me_var (pv 0)) (ma_cons (me_var (pv 4)) ma_nil))))
  (mss_cons (ms_if (mt_cmp (cmp_lt (hu64 hr)) (me_var (pv 5)) me_int (by rfl))
  (mss_cons (ms_set (i := 5) sc_law_digits.nd rfl (.inl rfl) (me_bin bin_sub me_int (me_bin bin_mul me_int (me_var (pv 5)))))
  mss_nil)
  mss_nil)
  (mss_cons (ms_if (mt_cmp (cmp_ge (hu64 hr)) (me_var (pv 5)) (me_bin bin_pow me_int me_int) (by rfl))
  (mss_cons (ms_for PassesOwn.never rfl (mi_range1 (by rfl) (T.z_range) (ma_cons me_int ma_nil)) (mg_name (pg_name (i := 6) sc_law_digits.nd rfl (.inl rfl)))
  (mss_cons (ms_if (mt_cmp (cmp_gt (hu64 hr)) (me_var (pv 5)) me_int (by rfl))
  (mss_cons (ms_expr (me_append (pv 3) (me_bin bin_mod (me_t1 c_int (by rfl) (T.z_int) (by decide +kernel) (me_var (pv 5))) me_int)))
  (mss_cons (ms_set (i := 5) sc_law_digits.nd rfl (.inl rfl) (me_bin bin_fdiv (me_var (pv 5)) me_int))
  mss_nil))
  mss_nil)
  mss_nil))
  mss_nil)
  (mss_cons (ms_set (i := 7) sc_law_digits.nd rfl (.inl rfl) (me_bin bin_mod (me_t1 c_int (by rfl) (T.z_int) (by decide +kernel) (me_bin bin_add (me_bin bin_add (me_bin bin_mul (me_var (pv 5)) me_int) (me_bin bin_mul (me_var (pv 4)) me_int)) me_int)) me_int))
  (mss_cons (ms_for PassesOwn.never rfl (mi_range1 (by rfl) (T.z_range) (ma_cons me_int ma_nil)) (mg_name (pg_name (i := 6) sc_law_digits.nd rfl (.inl rfl)))
  (mss_cons (ms_set (i := 7) sc_law_digits.nd rfl (.inl rfl) (me_bin bin_mod (me_t1 c_int (by rfl) (T.z_int) (by decide +kernel) (me_bin bin_add (me_bin bin_add (me_bin bin_mul (me_var (pv 7)) me_int) (me_bin bin_mul me_int (me_var (pv 6)))) me_int)) me_int))
  (mss_cons (ms_expr (me_append (pv 3) (me_bin bin_mod (me_t1 c_int (by rfl) (T.z_int) (by decide +kernel) (me_bin bin_fdiv (me_var (pv 7)) me_int)) me_int)))
  mss_nil)))
  mss_nil)))
  mss_nil))))
  (mss_cons (ms_ret (me_var (pv 3)))
  mss_nil)))) (runN_ok rfl rfl), mgf, F.kp, F.binds (ps := ["script", "first", "last"]) fun _ _ _ _ _ _ us hl => match us, hl with | [_, _, _], _ => rfl⟩
theorem ok_law_draw (T : Txt w mg) (F : Fun KK.K "_law_draw" "_law_draw" s_law_draw f fd) (mgf : mg "_law_draw" = some (.ref f))  : Cl P w mg base "_law_draw" 1 (spIO phi_law_draw) :=
  ⟨f, fd, ["box", "many"], fn_mkIO F sc_law_draw (fun cdv A outer s H E hr => (mss_cons (ms_put (pv 0) me_int (me_bin bin_add (me_ix (me_var (pv 0)) me_int (fun _ _ => rfl)) me_int))
  (mss_cons (ms_if (mt_cmp (cmp_gt (hu64 hr)) (me_ix (me_var (pv 0)) me_int (fun _ _ => rfl)) (me_b1 c_len (by rfl) (T.z_len) (by decide +kernel) (me_ix (me_var (pv 0)) me_int (fun _ _ => rfl))) (by rfl))
  (mss_cons (ms_ret (me_bin bin_mod (me_t1 c_int (by rfl) (T.z_int) (by decide +kernel) (me_bin bin_add (me_bin bin_mul (me_ix (me_var (pv 0)) me_int (fun _ _ => rfl)) me_int) me_int)) (me_var (pv 1))))
  mss_nil)
  mss_nil)
  (mss_cons (ms_ret (me_bin bin_mod (me_t1 c_int (by rfl) (T.z_int) (by decide +kernel) (me_ix (me_ix (me_var (pv 0)) me_int (fun _ _ => rfl)) (me_bin bin_sub (me_ix (me_var (pv 0)) me_int (fun _ _ => rfl)) me_int) (fun _ _ => rfl))) (me_var (pv 1))))
  mss_nil)))) (runIO_ok rfl rfl), mgf, F.kp, F.binds (ps := ["box", "many"]) fun _ _ _ _ _ _ us hl => match us, hl with | [_, _], _ => rfl⟩
theorem ok_law_pick (T : Txt w mg) (F : Fun KK.K "_law_pick" "_law_pick" s_law_pick f fd) (mgf : mg "_law_pick" = some (.ref f)) (c_law_draw : Cl P w mg base "_law_draw" 1 (spIO phi_law_draw)) : Cl P w mg base "_law_pick" 2 (spIO phi_law_pick) :=
  ⟨f, fd, ["box", "row"], fn_mkIO F sc_law_pick (fun cdv A outer s H E hr => (mss_cons (ms_ret (me_ix (me_var (pv 1)) (me_bin bin_mod (me_t1 c_int (by rfl) (T.z_int) (by decide +kernel) (me_callIOC c_law_draw (hr.mono (by decide)) (by rfl) (pv 0) (ma_cons me_int ma_nil))) (me_b1 c_len (by rfl) (T.z_len) (by decide +kernel) (me_var (pv 1)))) (fun _ _ => rfl)))
  mss_nil)) (runIO_ok rfl rfl), mgf, F.kp, F.binds (ps := ["box", "row"]) fun _ _ _ _ _ _ us hl => match us, hl with | [_, _], _ => rfl⟩
theorem ok_law_same (T : Txt w mg) (F : Fun KK.K "_law_same" "_law_same" s_law_same f fd) (mgf : mg "_law_same" = some (.ref f))  : ∀ n, Cl P w mg base "_law_same" (n + 0) (spN (phi_law_same n))
  | 0 => ⟨f, fd, ["told", "due"], none_ok (fun _ => rfl), mgf, F.kp, F.binds (ps := ["told", "due"]) fun _ _ _ _ _ _ us hl => match us, hl with | [_, _], _ => rfl⟩
  | n + 1 => by
    have c_law_same := ok_law_same T F mgf  n
    exact ⟨f, fd, ["told", "due"], (fn_mk (k := n + 0) F sc_law_same (fun cdv A outer s H E hr => (mss_cons (ms_if (mt_cmp cmp_isD (me_var (pv 1)) me_non (by rfl))
  (mss_cons (ms_ret (me_cmp cmp_isD (me_var (pv 0)) me_non (by rfl)))
  mss_nil)
  mss_nil)
  (mss_cons (ms_if (mt_cmp cmp_isD (me_var (pv 1)) me_bl (by rfl))
  (mss_cons (ms_ret (me_cmp cmp_isD (me_var (pv 0)) me_bl (by rfl)))
  mss_nil)
  mss_nil)
  (mss_cons (ms_if (mt_cmp cmp_isD (me_var (pv 1)) me_bl (by rfl))
  (mss_cons (ms_ret (me_cmp cmp_isD (me_var (pv 0)) me_bl (by rfl)))
  mss_nil)
  mss_nil)
  (mss_cons (ms_if (mt_val (me_isi (by rfl) (T.z_isinstance) (by decide +kernel) (me_var (pv 1)) (by rfl) (T.z_str) (by decide +kernel)) (fun _ => rfl))
  (mss_cons (ms_ret (me_and (me_isi (by rfl) (T.z_isinstance) (by decide +kernel) (me_var (pv 0)) (by rfl) (T.z_str) (by decide +kernel)) (me_one (me_cmp (cmp_eq (hu64 hr)) (me_b1 c_repr (by rfl) (T.z_repr) (by decide +kernel) (me_var (pv 0))) (me_b1 c_repr (by rfl) (T.z_repr) (by decide +kernel) (me_var (pv 1))) (by rfl)))))
  mss_nil)
  mss_nil)
  (mss_cons (ms_if (mt_val (me_isi (by rfl) (T.z_isinstance) (by decide +kernel) (me_var (pv 1)) (by rfl) (T.z_int) (by decide +kernel)) (fun _ => rfl))
  (mss_cons (ms_ret (me_and (me_isi (by rfl) (T.z_isinstance) (by decide +kernel) (me_var (pv 0)) (by rfl) (T.z_int) (by decide +kernel)) (me_and (me_not (me_isi (by rfl) (T.z_isinstance) (by decide +kernel) (me_var (pv 0)) (by rfl) (T.z_bool) (by decide +kernel))) (me_one (me_cmp (cmp_eq (hu64 hr)) (me_b1 c_repr (by rfl) (T.z_repr) (by decide +kernel) (me_var (pv 0))) (me_b1 c_repr (by rfl) (T.z_repr) (by decide +kernel) (me_var (pv 1))) (by rfl))))))
  mss_nil)
  mss_nil)
  (mss_cons (ms_if (MW.mt (mw_or (MW.mt (mw_and (mt_val (me_isi (by rfl) (T.z_isinstance) (by decide +kernel) (me_var (pv 1)) (by rfl) (T.z_tuple) (by decide +kernel)) (fun _ => rfl)) (mw_and1 (mt_not (mt_val (me_isi (by rfl) (T.z_isinstance) (by decide +kernel) (me_var (pv 0)) (by rfl) (T.z_tuple) (by decide +kernel)) (fun _ => rfl)))))) (mw_or1 (MW.mt (mw_and (mt_val (me_isi (by rfl) (T.z_isinstance) (by decide +kernel) (me_var (pv 1)) (by rfl) (T.z_list) (by decide +kernel)) (fun _ => rfl)) (mw_and1 (mt_not (mt_val (me_isi (by rfl) (T.z_isinstance) (by decide +kernel) (me_var (pv 0)) (by rfl) (T.z_list) (by decide +kernel)) (fun _ => rfl)))))))))
  (mss_cons (ms_ret me_bl)
  mss_nil)
  mss_nil)
  (mss_cons (ms_if (mt_cmp (cmp_ne (hu64 hr)) (me_b1 c_len (by rfl) (T.z_len) (by decide +kernel) (me_var (pv 0))) (me_b1 c_len (by rfl) (T.z_len) (by decide +kernel) (me_var (pv 1))) (by rfl))
  (mss_cons (ms_ret me_bl)
  mss_nil)
  mss_nil)
  (mss_cons (ms_for PassesOwn.never rfl (mi_range1 (by rfl) (T.z_range) (ma_cons (me_b1 c_len (by rfl) (T.z_len) (by decide +kernel) (me_var (pv 1))) ma_nil)) (mg_name (pg_name (i := 2) sc_law_same.nd rfl (.inl rfl)))
  (mss_cons (ms_if (mt_not (mt_val (me_callLC c_law_same (hr.mono (by omega)) (by rfl) (ml_cons (me_ix (me_var (pv 0)) (me_var (pv 2)) (fun _ _ => rfl)) (ml_cons (me_ix (me_var (pv 1)) (me_var (pv 2)) (fun _ _ => rfl)) ml_nil))) (fun _ => rfl)))
  (mss_cons (ms_ret me_bl)
  mss_nil)
  mss_nil)
  mss_nil))
  (mss_cons (ms_ret me_bl)
  mss_nil)))))))))) (runN_ok rfl rfl)).mono (by omega), mgf, F.kp, F.binds (ps := ["told", "due"]) fun _ _ _ _ _ _ us hl => match us, hl with | [_, _], _ => rfl⟩
theorem ok_law_signals (T : Txt w mg) (F : Fun KK.K "_law_signals" "_law_signals" s_law_signals f fd) (mgf : mg "_law_signals" = some (.ref f))  : Cl P w mg base "_law_signals" 1 (spN phi_law_signals) :=
  ⟨f, fd, [], fn_mk F sc_law_signals (fun cdv A outer s H E hr => (mss_cons (ms_set (i := 0) sc_law_signals.nd rfl (.inl rfl) (me_lst (ma_cons me_str (ma_cons me_str (ma_cons me_str (ma_cons me_str (ma_cons me_str (ma_cons me_str (ma_cons me_str (ma_cons me_str (ma_cons me_str (ma_cons me_str (ma_cons me_str (ma_cons me_str (ma_cons me_str ma_nil)))))))))))))))
  (mss_cons (ms_ret (me_bin bin_add (me_var (pv 0)) (me_lst (ma_cons me_str (ma_cons me_str (ma_cons me_str (ma_cons me_str (ma_cons me_str (ma_cons me_str (ma_cons me_str (ma_cons me_str (ma_cons me_str (ma_cons me_str (ma_cons me_str (ma_cons me_str (ma_cons me_str ma_nil))))))))))))))))
  mss_nil))) (runN_ok rfl rfl), mgf, F.kp, F.binds (ps := []) fun _ _ _ _ _ _ us hl => match us, hl with | [], _ => rfl⟩
theorem ok_law_spelt (T : Txt w mg) (F : Fun KK.K "_law_spelt" "_law_spelt" s_law_spelt f fd) (mgf : mg "_law_spelt" = some (.ref f)) (c_law_signals : Cl P w mg base "_law_signals" 1 (spN phi_law_signals)) : Cl P w mg base "_law_spelt" 2 (spN phi_law_spelt) :=
  ⟨f, fd, ["word"], fn_mk F sc_law_spelt (fun cdv A outer s H E hr => (mss_cons (ms_ret (me_lc (own := [("sign", 1)]) rfl sc_law_spelt.nd (mi_of (me_var (pv 0))) (blkOk_by (N := ["word", "sign"]) (sc := (defScope s_law_spelt)) (by decide +kernel)) (fun _ _ _ _ _ => (mg_name (pg_name (i := 1) sc_law_spelt.nd rfl (.inl rfl)))) (fun _ _ _ _ _ => mts_nil) (fun _ _ _ _ _ => (me_ix (me_call0 c_law_signals (hr.mono (by decide)) (by rfl)) (me_sindex me_str (me_var (pv 1))) (fun _ _ => rfl)))))
  mss_nil)) (runN_ok rfl rfl), mgf, F.kp, F.binds (ps := ["word"]) fun _ _ _ _ _ _ us hl => match us, hl with | [_], _ => rfl⟩
theorem ok_law_line (T : Txt w mg) (F : Fun KK.K "_law_line" "_law_line" s_law_line f fd) (mgf : mg "_law_line" = some (.ref f)) (c_law_spelt : Cl P w mg base "_law_spelt" 2 (spN phi_law_spelt)) : Cl P w mg base "_law_line" 3 (spN phi_law_line) :=
  ⟨f, fd, ["word"], fn_mk F sc_law_line (fun cdv A outer s H E hr => (mss_cons (ms_set (i := 1) sc_law_line.nd rfl (.inl rfl) me_str)
  (mss_cons (ms_for PassesOwn.never rfl (mi_of (me_callC c_law_spelt (hr.mono (by decide)) (by rfl) (ma_cons (me_var (pv 0)) ma_nil))) (mg_name (pg_name (i := 2) sc_law_line.nd rfl (.inl rfl)))
  (mss_cons (ms_if (mt_cmp (cmp_ne (hu64 hr)) (me_var (pv 1)) me_str (by rfl))
  (mss_cons (ms_set (i := 1) sc_law_line.nd rfl (.inl rfl) (me_bin bin_add (me_var (pv 1)) me_str))
  mss_nil)
  mss_nil)
  (mss_cons (ms_for PassesOwn.never rfl (mi_range1 (by rfl) (T.z_range) (ma_cons (me_b1 c_len (by rfl) (T.z_len) (by decide +kernel) (me_var (pv 2))) ma_nil)) (mg_name (pg_name (i := 3) sc_law_line.nd rfl (.inl rfl)))
  (mss_cons (ms_set (i := 1) sc_law_line.nd rfl (.inl rfl) (me_bin bin_add (me_bin bin_add (me_var (pv 1)) (me_if (mt_cmp (cmp_gt (hu64 hr)) (me_var (pv 3)) me_int (by rfl)) me_str me_str)) (me_if (mt_cmp (cmp_eq (hu64 hr)) (me_ix (me_var (pv 2)) (me_var (pv 3)) (fun _ _ => rfl)) me_str (by rfl)) me_str me_str)))
  mss_nil))
  mss_nil)))
  (mss_cons (ms_ret (me_var (pv 1)))
  mss_nil)))) (runN_ok rfl rfl), mgf, F.kp, F.binds (ps := ["word"]) fun _ _ _ _ _ _ us hl => match us, hl with | [_], _ => rfl⟩
theorem ok_law_stretches (T : Txt w mg) (F : Fun KK.K "_law_stretches" "_law_stretches" s_law_stretches f fd) (mgf : mg "_law_stretches" = some (.ref f))  : Cl P w mg base "_law_stretches" 1 (spN phi_law_stretches) :=
  ⟨f, fd, ["text"], fn_mk F sc_law_stretches (fun cdv A outer s H E hr => (mss_cons (ms_set (i := 1) sc_law_stretches.nd rfl (.inl rfl) (me_lst ma_nil))
  (mss_cons (ms_for PassesOwn.never rfl (mi_of (me_var (pv 0))) (mg_name (pg_name (i := 2) sc_law_stretches.nd rfl (.inl rfl)))
  (mss_cons (ms_if (MW.mt (mw_and (mt_cmp (cmp_ne (hu64 hr)) (me_var (pv 1)) (me_lst ma_nil) (by rfl)) (mw_and1 (mt_cmp (cmp_eq (hu64 hr)) (me_ix (me_ix (me_var (pv 1)) (me_un un_negD me_int) (fun _ _ => rfl)) me_int (fun _ _ => rfl)) (me_var (pv 2)) (by rfl)))))
  (mss_cons (ms_put (pv 1) (me_un un_negD me_int) (me_tup (ma_cons (me_var (pv 2)) (ma_cons (me_bin bin_add (me_ix (me_ix (me_var (pv 1)) (me_un un_negD me_int) (fun _ _ => rfl)) me_int (fun _ _ => rfl)) me_int) ma_nil))))
  mss_nil)
  (mss_cons (ms_expr (me_append (pv 1) (me_tup (ma_cons (me_var (pv 2)) (ma_cons me_int ma_nil)))))
  mss_nil))
  mss_nil))
  (mss_cons (ms_ret (me_var (pv 1)))
  mss_nil)))) (runN_ok rfl rfl), mgf, F.kp, F.binds (ps := ["text"]) fun _ _ _ _ _ _ us hl => match us, hl with | [_], _ => rfl⟩
theorem ok_law_read (T : Txt w mg) (F : Fun KK.K "_law_read" "_law_read" s_law_read f fd) (mgf : mg "_law_read" = some (.ref f)) (c_law_signals : Cl P w mg base "_law_signals" 1 (spN phi_law_signals)) (c_law_stretches : Cl P w mg base "_law_stretches" 1 (spN phi_law_stretches)) : Cl P w mg base "_law_read" 2 (spN phi_law_read) :=
  ⟨f, fd, ["text"], fn_mk F sc_law_read (fun cdv A outer s H E hr => (mss_cons (ms_set (i := 1) sc_law_read.nd rfl (.inl rfl) (me_call0 c_law_signals (hr.mono (by decide)) (by rfl)))
  (mss_cons (ms_set (i := 2) sc_law_read.nd rfl (.inl rfl) me_str)
  (mss_cons (ms_set (i := 3) sc_law_read.nd rfl (.inl rfl) me_str)
  (mss_cons (ms_set (i := 4) sc_law_read.nd rfl (.inl rfl) (me_callC c_law_stretches (hr.mono (by decide)) (by rfl) (ma_cons (me_var (pv 0)) ma_nil)))
  (mss_cons (ms_if (MW.mt (mw_and (mt_cmp (cmp_ne (hu64 hr)) (me_var (pv 4)) (me_lst ma_nil) (by rfl)) (mw_and1 (MW.mt (mw_or (mt_cmp (cmp_ne (hu64 hr)) (me_ix (me_ix (me_var (pv 4)) me_int (fun _ _ => rfl)) me_int (fun _ _ => rfl)) me_str (by rfl)) (mw_or1 (mt_cmp (cmp_ne (hu64 hr)) (me_ix (me_ix (me_var (pv 4)) (me_un un_negD me_int) (fun _ _ => rfl)) me_int (fun _ _ => rfl)) me_str (by rfl))))))))
  (mss_cons (ms_ret me_non)
  mss_nil)
  mss_nil)
  (mss_cons (ms_for PassesOwn.never rfl (mi_of (me_bin bin_add (me_var (pv 4)) (me_if (mt_cmp (cmp_ne (hu64 hr)) (me_var (pv 4)) (me_lst ma_nil) (by rfl)) (me_lst (ma_cons (me_tup (ma_cons me_str (ma_cons me_int ma_nil))) ma_nil)) (me_lst ma_nil)))) (mg_tup rfl (mgs_cons (mg_name (pg_name (i := 5) sc_law_read.nd rfl (.inl rfl))) (mgs_cons (mg_name (pg_name (i := 6) sc_law_read.nd rfl (.inl rfl))) mgs_nil)))
  (mss_cons (ms_if (mt_cmp (cmp_notinG (hu65 hr)) (me_var (pv 6)) (me_tup (ma_cons me_int (ma_cons me_int ma_nil))) (by rfl))
  (mss_cons (ms_ret me_non)
  mss_nil)
  mss_nil)
  (mss_cons (ms_if (mt_cmp (cmp_eq (hu64 hr)) (me_var (pv 5)) me_str (by rfl))
  (mss_cons (ms_set (i := 3) sc_law_read.nd rfl (.inl rfl) (me_bin bin_add (me_var (pv 3)) (me_if (mt_cmp (cmp_eq (hu64 hr)) (me_var (pv 6)) me_int (by rfl)) me_str me_str)))
  mss_nil)
  (mss_cons (ms_if (mt_cmp (cmp_eq (hu64 hr)) (me_var (pv 6)) me_int (by rfl))
  (mss_cons (ms_if (mt_cmp (cmp_notinG (hu65 hr)) (me_var (pv 3)) (me_var (pv 1)) (by rfl))
  (mss_cons (ms_ret me_non)
  mss_nil)
  mss_nil)
  (mss_cons (ms_set (i := 2) sc_law_read.nd rfl (.inl rfl) (me_bin bin_add (me_var (pv 2)) (me_ix me_str (me_index (me_var (pv 1)) (me_var (pv 3))) (fun _ _ => rfl))))
  (mss_cons (ms_set (i := 3) sc_law_read.nd rfl (.inl rfl) me_str)
  mss_nil)))
  mss_nil)
  mss_nil))
  mss_nil)))
  (mss_cons (ms_ret (me_var (pv 2)))
  mss_nil)))))))) (runN_ok rfl rfl), mgf, F.kp, F.binds (ps := ["text"]) fun _ _ _ _ _ _ us hl => match us, hl with | [_], _ => rfl⟩
theorem ok_law_bent (T : Txt w mg) (F : Fun KK.K "_law_bent" "_law_bent" s_law_bent f fd) (mgf : mg "_law_bent" = some (.ref f)) (c_law_draw : Cl P w mg base "_law_draw" 1 (spIO phi_law_draw)) : Cl P w mg base "_law_bent" 2 (spIO phi_law_bent) :=
  ⟨f, fd, ["box", "text"], fn_mkIO F sc_law_bent (fun cdv A outer s H E hr => (mss_cons (ms_set (i := 2) sc_law_bent.nd rfl (.inl rfl) (me_callIOC c_law_draw (hr.mono (by decide)) (by rfl) (pv 0) (ma_cons (me_bin bin_add (me_b1 c_len (by rfl) (T.z_len) (by decide +kernel) (me_var (pv 1))) me_int) ma_nil)))
  (mss_cons (ms_set (i := 3) sc_law_bent.nd rfl (.inl rfl) (me_callIOC c_law_draw (hr.mono (by decide)) (by rfl) (pv 0) (ma_cons (me_bin bin_add (me_b1 c_len (by rfl) (T.z_len) (by decide +kernel) (me_var (pv 1))) me_int) ma_nil)))
  (mss_cons (ms_set (i := 4) sc_law_bent.nd rfl (.inl rfl) (me_if (mt_cmp (cmp_eq (hu64 hr)) (me_slice (me_var (pv 1)) (mp_some (me_var (pv 2))) (mp_some (me_bin bin_add (me_var (pv 2)) me_int))) me_str (by rfl)) me_str me_str))
  (mss_cons (ms_set (i := 5) sc_law_bent.nd rfl (.inl rfl) (me_lst (ma_cons (me_bin bin_add (me_bin bin_add (me_slice (me_var (pv 1)) mp_none (mp_some (me_var (pv 2)))) (me_var (pv 4))) (me_slice (me_var (pv 1)) (mp_some (me_bin bin_add (me_var (pv 2)) me_int)) mp_none)) (ma_cons (me_bin bin_add (me_slice (me_var (pv 1)) mp_none (mp_some (me_var (pv 2)))) (me_slice (me_var (pv 1)) (mp_some (me_bin bin_add (me_var (pv 2)) me_int)) mp_none)) (ma_cons (me_bin bin_add (me_bin bin_add (me_slice (me_var (pv 1)) mp_none (mp_some (me_var (pv 2)))) me_str) (me_slice (me_var (pv 1)) (mp_some (me_var (pv 2))) mp_none)) (ma_cons (me_bin bin_add (me_bin bin_add (me_slice (me_var (pv 1)) mp_none (mp_some (me_var (pv 2)))) me_str) (me_slice (me_var (pv 1)) (mp_some (me_var (pv 2))) mp_none)) ma_nil))))))
  (mss_cons (ms_set (i := 5) sc_law_bent.nd rfl (.inl rfl) (me_bin bin_add (me_var (pv 5)) (me_lst (ma_consT (me1_l bin_add me1_const (me_var (pv 1))) (mat_cons (met_of (me_bin bin_add (me_var (pv 1)) me_str)) (mat_cons (met_of (me_bin bin_add (me_var (pv 1)) me_str)) (mat_cons (met_of (me_bin bin_add me_str (me_var (pv 1)))) (mat_cons (met_of (me_bin bin_add (me_var (pv 1)) me_str)) (mat_cons (met_repl (me_var (pv 1))) (mat_cons (met_repl (me_var (pv 1))) mat_nil))))))))))
  (mss_cons (ms_set (i := 5) sc_law_bent.nd rfl (.inl rfl) (me_bin bin_add (me_var (pv 5)) (me_lst (ma_cons (me_slice (me_var (pv 1)) mp_none (mp_some (me_var (pv 2)))) (ma_cons (me_slice (me_var (pv 1)) (mp_some (me_var (pv 2))) mp_none) (ma_consT (me1_l bin_add (me1_r bin_add (me_slice (me_var (pv 1)) mp_none (mp_some (me_var (pv 2)))) me1_const) (me_slice (me_var (pv 1)) (mp_some (me_var (pv 2))) mp_none)) (mat_cons (met_of (me_bin bin_add (me_bin bin_add (me_slice (me_var (pv 1)) mp_none (mp_some (me_var (pv 2)))) me_str) (me_slice (me_var (pv 1)) (mp_some (me_var (pv 2))) mp_none))) (mat_cons (met_repl (me_var (pv 1))) mat_nil))))))))
  (mss_cons (ms_expr (me_append (pv 5) (me_bin bin_add (me_slice (me_var (pv 1)) mp_none (mp_some (me_b2 (c_min2 rfl) (by rfl) (T.z_min) (by decide +kernel) (me_var (pv 2)) (me_var (pv 3))))) (me_slice (me_var (pv 1)) (mp_some (me_b2 (c_max2 rfl) (by rfl) (T.z_max) (by decide +kernel) (me_var (pv 2)) (me_var (pv 3)))) mp_none))))
  (mss_cons (ms_ret (me_var (pv 5)))
  mss_nil))))))))) (runIO_ok rfl rfl), mgf, F.kp, F.binds (ps := ["box", "text"]) fun _ _ _ _ _ _ us hl => match us, hl with | [_, _], _ => rfl⟩
theorem ok_law_lost (T : Txt w mg) (F : Fun KK.K "_law_lost" "_law_lost" s_law_lost f fd) (mgf : mg "_law_lost" = some (.ref f)) (c_law_read : Cl P w mg base "_law_read" 2 (spN phi_law_read)) : Cl P w mg base "_law_lost" 3 (spN phi_law_lost) :=
  ⟨f, fd, ["text"], fn_mk F sc_law_lost (fun cdv A outer s H E hr => (mss_cons (ms_ret (me_lc (own := [("k", 1)]) rfl sc_law_lost.nd (mi_range1 (by rfl) (T.z_range) (ma_cons (me_b1 c_len (by rfl) (T.z_len) (by decide +kernel) (me_var (pv 0))) ma_nil)) (blkOk_by (N := ["text", "k"]) (sc := (defScope s_law_lost)) (by decide +kernel)) (fun _ _ _ _ _ => (mg_name (pg_name (i := 1) sc_law_lost.nd rfl (.inl rfl)))) (fun _ _ _ _ _ => (mts_one (MW.mt (mw_and (mt_cmp (cmp_eq (hu64 hr)) (me_ix (me_var (pv 0)) (me_var (pv 1)) (fun _ _ => rfl)) me_str (by rfl)) (mw_and1 (mt_cmp cmp_isnot (me_callC c_law_read (hr.mono (by decide)) (by rfl) (ma_cons (me_bin bin_add (me_bin bin_add (me_slice (me_var (pv 0)) mp_none (mp_some (me_var (pv 1)))) me_str) (me_slice (me_var (pv 0)) (mp_some (me_bin bin_add (me_var (pv 1)) me_int)) mp_none)) ma_nil)) me_non (by rfl))))))) (fun _ _ _ _ _ => (me_var (pv 1)))))
  mss_nil)) (runN_ok rfl rfl), mgf, F.kp, F.binds (ps := ["text"]) fun _ _ _ _ _ _ us hl => match us, hl with | [_], _ => rfl⟩
theorem ok_law (T : Txt w mg) (F : Fun KK.K "law" "law" s_law f fd) (c_law_digits : Cl P w mg base "_law_digits" 2 (spN phi_law_digits)) (c_law_pick : Cl P w mg base "_law_pick" 2 (spIO phi_law_pick)) (c_law_line : Cl P w mg base "_law_line" 3 (spN phi_law_line)) (c_law_bent : Cl P w mg base "_law_bent" 2 (spIO phi_law_bent)) (c_law_same : Cl P w mg base "_law_same" 12 (spN (phi_law_same 12))) (c_law_lost : Cl P w mg base "_law_lost" 3 (spN phi_law_lost)) (c_lost_units : Cl P w mg base "lost_units" 3 (spN phi_lost_units)) (c_read_line : Cl P w mg base "read_line" 2 (spN phi_read_line)) (c_units : Cl P w mg base "units" 1 (spN phi_units)) (c_line_of : Cl P w mg base "line_of" 1 (spN phi_line_of)) (c_law_read : Cl P w mg base "_law_read" 2 (spN phi_law_read)) (c_law_draw : Cl P w mg base "_law_draw" 1 (spIO phi_law_draw)) : FnOk P w KK.K mg base CX0 13 f fd ["script"] (spN phi_law) :=
  fn_mk F sc_law (fun cdv A outer s H E hr => (mss_cons (ms_set (i := 1) sc_law.nd rfl (.inr rfl) (me_lst (ma_cons (me_callC c_law_digits (hr.mono (by decide)) (by rfl) (ma_cons (me_var (pv 0)) (ma_cons me_int (ma_cons me_int ma_nil)))) (ma_cons me_int ma_nil))))
  (mss_cons (ms_for PassesOwn.never rfl (mi_range1 (by rfl) (T.z_range) (ma_cons me_int ma_nil)) (mg_name (pg_name (i := 2) sc_law.nd rfl (.inl rfl)))
  (mss_cons (ms_set (i := 3) sc_law.nd rfl (.inr rfl) (me_callIOC c_law_pick (hr.mono (by decide)) (by rfl) (pv 1) (ma_cons (me_lst (ma_cons me_str (ma_cons me_str (ma_cons me_str (ma_cons me_str ma_nil))))) ma_nil)))
  (mss_cons (ms_set (i := 4) sc_law.nd rfl (.inl rfl) (me_join me_str (me_lc (own := [("k", 9)]) rfl sc_law.nd (mi_range1 (by rfl) (T.z_range) (ma_cons (me_ix (me_lst (ma_cons (me_bin bin_add me_int (me_callIOC c_law_draw (hr.mono (by decide)) (by rfl) (pv 1) (ma_cons me_int ma_nil))) (ma_cons (me_callIOC c_law_draw (hr.mono (by decide)) (by rfl) (pv 1) (ma_cons me_int ma_nil)) ma_nil))) (me_var (pv 2)) (fun _ _ => rfl)) ma_nil)) (blkOk_by (N := ["script", "box", "turn", "some", "word", "text", "due", "told", "far", "k"]) (sc := (defScope s_law)) (by decide +kernel)) (fun _ _ _ _ _ => (mg_name (pg_name (i := 9) sc_law.nd rfl (.inl rfl)))) (fun _ _ _ _ _ => mts_nil) (fun _ _ _ _ _ => (me_callIOC c_law_pick (hr.mono (by decide)) (by rfl) (pv 1) (ma_cons (me_var (pv 3)) ma_nil))))))
  (mss_cons (ms_set (i := 5) sc_law.nd rfl (.inl rfl) (me_callC c_law_line (hr.mono (by decide)) (by rfl) (ma_cons (me_var (pv 4)) ma_nil)))
  (mss_cons (ms_if (MW.mt (mw_or (mt_not (mt_val (me_callLC c_law_same (hr.mono (by decide)) (by rfl) (ml_cons (me_callC c_units (hr.mono (by decide)) (by rfl) (ma_cons (me_var (pv 4)) ma_nil)) (ml_cons (me_b1 c_len (by rfl) (T.z_len) (by decide +kernel) (me_var (pv 5))) ml_nil))) (fun _ => rfl))) (mw_or (mt_not (mt_val (me_callLC c_law_same (hr.mono (by decide)) (by rfl) (ml_cons (me_callC c_line_of (hr.mono (by decide)) (by rfl) (ma_cons (me_var (pv 4)) ma_nil)) (ml_cons (me_var (pv 5)) ml_nil))) (fun _ => rfl))) (mw_or1 (mt_not (mt_val (me_callLC c_law_same (hr.mono (by decide)) (by rfl) (ml_cons (me_callC c_read_line (hr.mono (by decide)) (by rfl) (ma_cons (me_var (pv 5)) ma_nil)) (ml_cons (me_var (pv 4)) ml_nil))) (fun _ => rfl)))))))
  (mss_cons (ms_ret me_bl)
  mss_nil)
  mss_nil)
  (mss_cons (ms_if (mt_cmp (cmp_lt (hu64 hr)) (me_b1 c_len (by rfl) (T.z_len) (by decide +kernel) (me_var (pv 5))) me_int (by rfl))
  (mss_cons (ms_set (i := 6) sc_law.nd rfl (.inl rfl) (me_callC c_law_lost (hr.mono (by decide)) (by rfl) (ma_cons (me_var (pv 5)) ma_nil)))
  (mss_cons (ms_set (i := 7) sc_law.nd rfl (.inl rfl) (me_callC c_lost_units (hr.mono (by decide)) (by rfl) (ma_cons (me_var (pv 4)) ma_nil)))
  (mss_cons (ms_if (mt_not (mt_val (me_callLC c_law_same (hr.mono (by decide)) (by rfl) (ml_cons (me_var (pv 7)) (ml_cons (me_var (pv 6)) ml_nil))) (fun _ => rfl)))
  (mss_cons (ms_ret me_bl)
  mss_nil)
  mss_nil)
  (mss_cons (ms_expr (me_append (pv 7) me_int))
  (mss_cons (ms_if (mt_not (mt_val (me_callLC c_law_same (hr.mono (by decide)) (by rfl) (ml_cons (me_callC c_lost_units (hr.mono (by decide)) (by rfl) (ma_cons (me_slice (me_var (pv 4)) mp_none (mp_some me_int)) ma_nil)) (ml_cons (me_callC c_law_lost (hr.mono (by decide)) (by rfl) (ma_cons (me_callC c_law_line (hr.mono (by decide)) (by rfl) (ma_cons (me_slice (me_var (pv 4)) mp_none (mp_some me_int)) ma_nil)) ma_nil)) ml_nil))) (fun _ => rfl)))
  (mss_cons (ms_ret me_bl)
  mss_nil)
  mss_nil)
  mss_nil)))))
  mss_nil)
  (mss_cons (ms_for PassesOwn.never rfl (mi_of (me_callIOC c_law_bent (hr.mono (by decide)) (by rfl) (pv 1) (ma_cons (me_var (pv 5)) ma_nil))) (mg_name (pg_name (i := 8) sc_law.nd rfl (.inl rfl)))
  (mss_cons (ms_if (mt_not (mt_val (me_callLC c_law_same (hr.mono (by decide)) (by rfl) (ml_cons (me_callC c_read_line (hr.mono (by decide)) (by rfl) (ma_cons (me_var (pv 8)) ma_nil)) (ml_cons (me_callC c_law_read (hr.mono (by decide)) (by rfl) (ma_cons (me_var (pv 8)) ma_nil)) ml_nil))) (fun _ => rfl)))
  (mss_cons (ms_ret me_bl)
  mss_nil)
  mss_nil)
  mss_nil))
  mss_nil)))))))
  (mss_cons (ms_set (i := 8) sc_law.nd rfl (.inl rfl) (me_join me_str (me_lc (own := [("k", 9)]) rfl sc_law.nd (mi_range1 (by rfl) (T.z_range) (ma_cons (me_bin bin_add me_int (me_callIOC c_law_draw (hr.mono (by decide)) (by rfl) (pv 1) (ma_cons me_int ma_nil))) ma_nil)) (blkOk_by (N := ["script", "box", "turn", "some", "word", "text", "due", "told", "far", "k"]) (sc := (defScope s_law)) (by decide +kernel)) (fun _ _ _ _ _ => (mg_name (pg_name (i := 9) sc_law.nd rfl (.inl rfl)))) (fun _ _ _ _ _ => mts_nil) (fun _ _ _ _ _ => (me_callIOC c_law_pick (hr.mono (by decide)) (by rfl) (pv 1) (ma_cons (me_lst (ma_cons me_str (ma_cons me_str (ma_cons me_str (ma_cons me_str (ma_cons me_str (ma_cons me_str (ma_cons me_str ma_nil)))))))) ma_nil))))))
  (mss_cons (ms_if (MW.mt (mw_or (mt_not (mt_val (me_callLC c_law_same (hr.mono (by decide)) (by rfl) (ml_cons (me_callC c_read_line (hr.mono (by decide)) (by rfl) (ma_cons (me_var (pv 8)) ma_nil)) (ml_cons (me_callC c_law_read (hr.mono (by decide)) (by rfl) (ma_cons (me_var (pv 8)) ma_nil)) ml_nil))) (fun _ => rfl))) (mw_or (mt_not (mt_val (me_callLC c_law_same (hr.mono (by decide)) (by rfl) (ml_cons (me_callC c_read_line (hr.mono (by decide)) (by rfl) (ma_cons me_str ma_nil)) (ml_cons me_str ml_nil))) (fun _ => rfl))) (mw_or1 (mt_cmp cmp_isnot (me_callC c_read_line (hr.mono (by decide)) (by rfl) (ma_cons me_str ma_nil)) me_non (by rfl))))))
  (mss_cons (ms_ret me_bl)
  mss_nil)
  mss_nil)
  (mss_cons (ms_if (MW.mt (mw_or (mt_not (mt_val (me_callLC c_law_same (hr.mono (by decide)) (by rfl) (ml_cons (me_callC c_lost_units (hr.mono (by decide)) (by rfl) (ma_cons me_str ma_nil)) (ml_cons (me_lst (ma_cons me_int ma_nil)) ml_nil))) (fun _ => rfl))) (mw_or (mt_not (mt_val (me_callLC c_law_same (hr.mono (by decide)) (by rfl) (ml_cons (me_callC c_lost_units (hr.mono (by decide)) (by rfl) (ma_cons me_str ma_nil)) (ml_cons (me_lst (ma_cons me_int (ma_cons me_int (ma_cons me_int ma_nil)))) ml_nil))) (fun _ => rfl))) (mw_or1 (mt_not (mt_val (me_callLC c_law_same (hr.mono (by decide)) (by rfl) (ml_cons (me_callC c_lost_units (hr.mono (by decide)) (by rfl) (ma_cons me_str ma_nil)) (ml_cons (me_lst (ma_cons me_int ma_nil)) ml_nil))) (fun _ => rfl)))))))
  (mss_cons (ms_ret me_bl)
  mss_nil)
  mss_nil)
  (mss_cons (ms_ret (me_and (me_callLC c_law_same (hr.mono (by decide)) (by rfl) (ml_cons (me_callC c_units (hr.mono (by decide)) (by rfl) (ma_cons me_str ma_nil)) (ml_cons me_int ml_nil))) (me_and (me_callLC c_law_same (hr.mono (by decide)) (by rfl) (ml_cons (me_callC c_units (hr.mono (by decide)) (by rfl) (ma_cons me_str ma_nil)) (ml_cons me_int ml_nil))) (me_and (me_callLC c_law_same (hr.mono (by decide)) (by rfl) (ml_cons (me_callC c_line_of (hr.mono (by decide)) (by rfl) (ma_cons me_str ma_nil)) (ml_cons me_str ml_nil))) (me_one (me_cmp cmp_isD (me_callC c_read_line (hr.mono (by decide)) (by rfl) (ma_cons me_str ma_nil)) me_non (by rfl)))))))
  mss_nil))))))) (runN_ok rfl rfl)
end
theorem all_mk {l : PySem.W.OpenLaw} {w : World} {fd_SIGNALS : Addr} {es_SIGNALS : Array DictEntry} {n_SIGNALS : Nat} {v_SIGNALS0 v_SIGNALS1 v_SIGNALS2 v_SIGNALS3 v_SIGNALS4 v_SIGNALS5 v_SIGNALS6 v_SIGNALS7 v_SIGNALS8 v_SIGNALS9 v_SIGNALS10 v_SIGNALS11 v_SIGNALS12 v_SIGNALS13 v_SIGNALS14 v_SIGNALS15 v_SIGNALS16 v_SIGNALS17 v_SIGNALS18 v_SIGNALS19 v_SIGNALS20 v_SIGNALS21 v_SIGNALS22 v_SIGNALS23 v_SIGNALS24 v_SIGNALS25 : Value} {K : PySem.W.Frag} {h : Heap} {mg : Str → Option Value} {fa f1 f2 f3 f4 f5 f6 f7 f8 f9 f10 f11 f12 f13 f14 f15 f16 f17 f18 f19 : Addr} (X : K.In h) (G : h.Ns mainGlobals mg) (hfa : mg "law" = some (.ref fa))
    {od1 an1 od2 an2 od3 an3 od4 an4 od5 an5 od6 an6 od7 an7 od8 an8 od9 an9 od10 an10 od11 an11 od12 an12 od13 an13 od14 an14 od15 an15 od16 an16 od17 an17 od18 an18 od19 an19 : Option Addr} {sl1 sl2 sl3 sl4 sl5 sl6 sl7 sl8 sl9 sl10 sl11 sl12 sl13 sl14 sl15 sl16 sl17 sl18 sl19 : Array (Option Value)} {oc1 kV1 dc1 pm1 cd1 ct1 oc2 kV2 dc2 pm2 cd2 ct2 oc3 kV3 dc3 pm3 cd3 ct3 oc4 kV4 dc4 pm4 cd4 ct4 oc5 kV5 dc5 pm5 cd5 ct5 oc6 kV6 dc6 pm6 cd6 ct6 oc7 kV7 dc7 pm7 cd7 ct7 oc8 kV8 dc8 pm8 cd8 ct8 oc9 kV9 dc9 pm9 cd9 ct9 oc10 kV10 dc10 pm10 cd10 ct10 oc11 kV11 dc11 pm11 cd11 ct11 oc12 kV12 dc12 pm12 cd12 ct12 oc13 kV13 dc13 pm13 cd13 ct13 oc14 kV14 dc14 pm14 cd14 ct14 oc15 kV15 dc15 pm15 cd15 ct15 oc16 kV16 dc16 pm16 cd16 ct16 oc17 kV17 dc17 pm17 cd17 ct17 oc18 kV18 dc18 pm18 cd18 ct18 oc19 kV19 dc19 pm19 cd19 ct19 : Value}
    (a1 : PySem.W.nsIn K mainGlobals "letter_of" = some (some (.ref f1))) (l1 : K.lookup f1 = some ⟨oc1, od1, .func (PySem.W.fnOf "letter_of" "letter_of" (defArgs s_letter_of) (defBody s_letter_of) (defScope s_letter_of) .none kV1 dc1 pm1 an1 cd1 ct1), sl1⟩) (c1 : PySem.W.codeIn K cd1 "letter_of" = true) (k1 : PySem.W.keepIn K (.ref f1) = true)
    (a2 : PySem.W.nsIn K mainGlobals "units" = some (some (.ref f2))) (l2 : K.lookup f2 = some ⟨oc2, od2, .func (PySem.W.fnOf "units" "units" (defArgs s_units) (defBody s_units) (defScope s_units) .none kV2 dc2 pm2 an2 cd2 ct2), sl2⟩) (c2 : PySem.W.codeIn K cd2 "units" = true) (k2 : PySem.W.keepIn K (.ref f2) = true)
    (a3 : PySem.W.nsIn K mainGlobals "line_of" = some (some (.ref f3))) (l3 : K.lookup f3 = some ⟨oc3, od3, .func (PySem.W.fnOf "line_of" "line_of" (defArgs s_line_of) (defBody s_line_of) (defScope s_line_of) .none kV3 dc3 pm3 an3 cd3 ct3), sl3⟩) (c3 : PySem.W.codeIn K cd3 "line_of" = true) (k3 : PySem.W.keepIn K (.ref f3) = true)
    (a4 : PySem.W.nsIn K mainGlobals "read_line" = some (some (.ref f4))) (l4 : K.lookup f4 = some ⟨oc4, od4, .func (PySem.W.fnOf "read_line" "read_line" (defArgs s_read_line) (defBody s_read_line) (defScope s_read_line) .none kV4 dc4 pm4 an4 cd4 ct4), sl4⟩) (c4 : PySem.W.codeIn K cd4 "read_line" = true) (k4 : PySem.W.keepIn K (.ref f4) = true)
    (a5 : PySem.W.nsIn K mainGlobals "weakened" = some (some (.ref f5))) (l5 : K.lookup f5 = some ⟨oc5, od5, .func (PySem.W.fnOf "weakened" "weakened" (defArgs s_weakened) (defBody s_weakened) (defScope s_weakened) .none kV5 dc5 pm5 an5 cd5 ct5), sl5⟩) (c5 : PySem.W.codeIn K cd5 "weakened" = true) (k5 : PySem.W.keepIn K (.ref f5) = true)
    (a6 : PySem.W.nsIn K mainGlobals "lost_units" = some (some (.ref f6))) (l6 : K.lookup f6 = some ⟨oc6, od6, .func (PySem.W.fnOf "lost_units" "lost_units" (defArgs s_lost_units) (defBody s_lost_units) (defScope s_lost_units) .none kV6 dc6 pm6 an6 cd6 ct6), sl6⟩) (c6 : PySem.W.codeIn K cd6 "lost_units" = true) (k6 : PySem.W.keepIn K (.ref f6) = true)
    (a7 : PySem.W.nsIn K mainGlobals "_law_cell" = some (some (.ref f7))) (l7 : K.lookup f7 = some ⟨oc7, od7, .func (PySem.W.fnOf "_law_cell" "_law_cell" (defArgs s_law_cell) (defBody s_law_cell) (defScope s_law_cell) .none kV7 dc7 pm7 an7 cd7 ct7), sl7⟩) (c7 : PySem.W.codeIn K cd7 "_law_cell" = true) (k7 : PySem.W.keepIn K (.ref f7) = true)
    (a8 : PySem.W.nsIn K mainGlobals "_law_digits" = some (some (.ref f8))) (l8 : K.lookup f8 = some ⟨oc8, od8, .func (PySem.W.fnOf "_law_digits" "_law_digits" (defArgs s_law_digits) (defBody s_law_digits) (defScope s_law_digits) .none kV8 dc8 pm8 an8 cd8 ct8), sl8⟩) (c8 : PySem.W.codeIn K cd8 "_law_digits" = true) (k8 : PySem.W.keepIn K (.ref f8) = true)
    (a9 : PySem.W.nsIn K mainGlobals "_law_draw" = some (some (.ref f9))) (l9 : K.lookup f9 = some ⟨oc9, od9, .func (PySem.W.fnOf "_law_draw" "_law_draw" (defArgs s_law_draw) (defBody s_law_draw) (defScope s_law_draw) .none kV9 dc9 pm9 an9 cd9 ct9), sl9⟩) (c9 : PySem.W.codeIn K cd9 "_law_draw" = true) (k9 : PySem.W.keepIn K (.ref f9) = true)
    (a10 : PySem.W.nsIn K mainGlobals "_law_pick" = some (some (.ref f10))) (l10 : K.lookup f10 = some ⟨oc10, od10, .func (PySem.W.fnOf "_law_pick" "_law_pick" (defArgs s_law_pick) (defBody s_law_pick) (defScope s_law_pick) .none kV10 dc10 pm10 an10 cd10 ct10), sl10⟩) (c10 : PySem.W.codeIn K cd10 "_law_pick" = true) (k10 : PySem.W.keepIn K (.ref f10) = true)
    (a11 : PySem.W.nsIn K mainGlobals "_law_same" = some (some (.ref f11))) (l11 : K.lookup f11 = some ⟨oc11, od11, .func (PySem.W.fnOf "_law_same" "_law_same" (defArgs s_law_same) (defBody s_law_same) (defScope s_law_same) .none kV11 dc11 pm11 an11 cd11 ct11), sl11⟩) (c11 : PySem.W.codeIn K cd11 "_law_same" = true) (k11 : PySem.W.keepIn K (.ref f11) = true)
    (a12 : PySem.W.nsIn K mainGlobals "_law_signals" = some (some (.ref f12))) (l12 : K.lookup f12 = some ⟨oc12, od12, .func (PySem.W.fnOf "_law_signals" "_law_signals" (defArgs s_law_signals) (defBody s_law_signals) (defScope s_law_signals) .none kV12 dc12 pm12 an12 cd12 ct12), sl12⟩) (c12 : PySem.W.codeIn K cd12 "_law_signals" = true) (k12 : PySem.W.keepIn K (.ref f12) = true)
    (a13 : PySem.W.nsIn K mainGlobals "_law_spelt" = some (some (.ref f13))) (l13 : K.lookup f13 = some ⟨oc13, od13, .func (PySem.W.fnOf "_law_spelt" "_law_spelt" (defArgs s_law_spelt) (defBody s_law_spelt) (defScope s_law_spelt) .none kV13 dc13 pm13 an13 cd13 ct13), sl13⟩) (c13 : PySem.W.codeIn K cd13 "_law_spelt" = true) (k13 : PySem.W.keepIn K (.ref f13) = true)
    (a14 : PySem.W.nsIn K mainGlobals "_law_line" = some (some (.ref f14))) (l14 : K.lookup f14 = some ⟨oc14, od14, .func (PySem.W.fnOf "_law_line" "_law_line" (defArgs s_law_line) (defBody s_law_line) (defScope s_law_line) .none kV14 dc14 pm14 an14 cd14 ct14), sl14⟩) (c14 : PySem.W.codeIn K cd14 "_law_line" = true) (k14 : PySem.W.keepIn K (.ref f14) = true)
    (a15 : PySem.W.nsIn K mainGlobals "_law_stretches" = some (some (.ref f15))) (l15 : K.lookup f15 = some ⟨oc15, od15, .func (PySem.W.fnOf "_law_stretches" "_law_stretches" (defArgs s_law_stretches) (defBody s_law_stretches) (defScope s_law_stretches) .none kV15 dc15 pm15 an15 cd15 ct15), sl15⟩) (c15 : PySem.W.codeIn K cd15 "_law_stretches" = true) (k15 : PySem.W.keepIn K (.ref f15) = true)
    (a16 : PySem.W.nsIn K mainGlobals "_law_read" = some (some (.ref f16))) (l16 : K.lookup f16 = some ⟨oc16, od16, .func (PySem.W.fnOf "_law_read" "_law_read" (defArgs s_law_read) (defBody s_law_read) (defScope s_law_read) .none kV16 dc16 pm16 an16 cd16 ct16), sl16⟩) (c16 : PySem.W.codeIn K cd16 "_law_read" = true) (k16 : PySem.W.keepIn K (.ref f16) = true)
    (a17 : PySem.W.nsIn K mainGlobals "_law_bent" = some (some (.ref f17))) (l17 : K.lookup f17 = some ⟨oc17, od17, .func (PySem.W.fnOf "_law_bent" "_law_bent" (defArgs s_law_bent) (defBody s_law_bent) (defScope s_law_bent) .none kV17 dc17 pm17 an17 cd17 ct17), sl17⟩) (c17 : PySem.W.codeIn K cd17 "_law_bent" = true) (k17 : PySem.W.keepIn K (.ref f17) = true)
    (a18 : PySem.W.nsIn K mainGlobals "_law_lost" = some (some (.ref f18))) (l18 : K.lookup f18 = some ⟨oc18, od18, .func (PySem.W.fnOf "_law_lost" "_law_lost" (defArgs s_law_lost) (defBody s_law_lost) (defScope s_law_lost) .none kV18 dc18 pm18 an18 cd18 ct18), sl18⟩) (c18 : PySem.W.codeIn K cd18 "_law_lost" = true) (k18 : PySem.W.keepIn K (.ref f18) = true)
    (a19 : PySem.W.nsIn K mainGlobals "law" = some (some (.ref f19))) (l19 : K.lookup f19 = some ⟨oc19, od19, .func (PySem.W.fnOf "law" "law" (defArgs s_law) (defBody s_law) (defScope s_law) .none kV19 dc19 pm19 an19 cd19 ct19), sl19⟩) (c19 : PySem.W.codeIn K cd19 "law" = true) (k19 : PySem.W.keepIn K (.ref f19) = true)
    (dA_SIGNALS : PySem.W.nsIn K mainGlobals "SIGNALS" = some (some (.ref fd_SIGNALS))) (dL_SIGNALS : K.lookup fd_SIGNALS = some ⟨.type "dict", none, .dict es_SIGNALS n_SIGNALS, #[]⟩) (dK_SIGNALS : PySem.W.KeysLit w.params es_SIGNALS.toList)
    (dV_SIGNALS0 : PySem.W.nsIn K fd_SIGNALS "a" = some (some v_SIGNALS0)) (dR_SIGNALS0 : RelV (.str (Str.ofString ".-")) v_SIGNALS0)
    (dV_SIGNALS1 : PySem.W.nsIn K fd_SIGNALS "b" = some (some v_SIGNALS1)) (dR_SIGNALS1 : RelV (.str (Str.ofString "-...")) v_SIGNALS1)
    (dV_SIGNALS2 : PySem.W.nsIn K fd_SIGNALS "c" = some (some v_SIGNALS2)) (dR_SIGNALS2 : RelV (.str (Str.ofString "-.-.")) v_SIGNALS2)
    (dV_SIGNALS3 : PySem.W.nsIn K fd_SIGNALS "d" = some (some v_SIGNALS3)) (dR_SIGNALS3 : RelV (.str (Str.ofString "-..")) v_SIGNALS3)
    (dV_SIGNALS4 : PySem.W.nsIn K fd_SIGNALS "e" = some (some v_SIGNALS4)) (dR_SIGNALS4 : RelV (.str (Str.ofString ".")) v_SIGNALS4)
    (dV_SIGNALS5 : PySem.W.nsIn K fd_SIGNALS "f" = some (some v_SIGNALS5)) (dR_SIGNALS5 : RelV (.str (Str.ofString "..-.")) v_SIGNALS5)
    (dV_SIGNALS6 : PySem.W.nsIn K fd_SIGNALS "g" = some (some v_SIGNALS6)) (dR_SIGNALS6 : RelV (.str (Str.ofString "--.")) v_SIGNALS6)
    (dV_SIGNALS7 : PySem.W.nsIn K fd_SIGNALS "h" = some (some v_SIGNALS7)) (dR_SIGNALS7 : RelV (.str (Str.ofString "....")) v_SIGNALS7)
    (dV_SIGNALS8 : PySem.W.nsIn K fd_SIGNALS "i" = some (some v_SIGNALS8)) (dR_SIGNALS8 : RelV (.str (Str.ofString "..")) v_SIGNALS8)
    (dV_SIGNALS9 : PySem.W.nsIn K fd_SIGNALS "j" = some (some v_SIGNALS9)) (dR_SIGNALS9 : RelV (.str (Str.ofString ".---")) v_SIGNALS9)
    (dV_SIGNALS10 : PySem.W.nsIn K fd_SIGNALS "k" = some (some v_SIGNALS10)) (dR_SIGNALS10 : RelV (.str (Str.ofString "-.-")) v_SIGNALS10)
    (dV_SIGNALS11 : PySem.W.nsIn K fd_SIGNALS "l" = some (some v_SIGNALS11)) (dR_SIGNALS11 : RelV (.str (Str.ofString ".-..")) v_SIGNALS11)
    (dV_SIGNALS12 : PySem.W.nsIn K fd_SIGNALS "m" = some (some v_SIGNALS12)) (dR_SIGNALS12 : RelV (.str (Str.ofString "--")) v_SIGNALS12)
    (dV_SIGNALS13 : PySem.W.nsIn K fd_SIGNALS "n" = some (some v_SIGNALS13)) (dR_SIGNALS13 : RelV (.str (Str.ofString "-.")) v_SIGNALS13)
    (dV_SIGNALS14 : PySem.W.nsIn K fd_SIGNALS "o" = some (some v_SIGNALS14)) (dR_SIGNALS14 : RelV (.str (Str.ofString "---")) v_SIGNALS14)
    (dV_SIGNALS15 : PySem.W.nsIn K fd_SIGNALS "p" = some (some v_SIGNALS15)) (dR_SIGNALS15 : RelV (.str (Str.ofString ".--.")) v_SIGNALS15)
    (dV_SIGNALS16 : PySem.W.nsIn K fd_SIGNALS "q" = some (some v_SIGNALS16)) (dR_SIGNALS16 : RelV (.str (Str.ofString "--.-")) v_SIGNALS16)
    (dV_SIGNALS17 : PySem.W.nsIn K fd_SIGNALS "r" = some (some v_SIGNALS17)) (dR_SIGNALS17 : RelV (.str (Str.ofString ".-.")) v_SIGNALS17)
    (dV_SIGNALS18 : PySem.W.nsIn K fd_SIGNALS "s" = some (some v_SIGNALS18)) (dR_SIGNALS18 : RelV (.str (Str.ofString "...")) v_SIGNALS18)
    (dV_SIGNALS19 : PySem.W.nsIn K fd_SIGNALS "t" = some (some v_SIGNALS19)) (dR_SIGNALS19 : RelV (.str (Str.ofString "-")) v_SIGNALS19)
    (dV_SIGNALS20 : PySem.W.nsIn K fd_SIGNALS "u" = some (some v_SIGNALS20)) (dR_SIGNALS20 : RelV (.str (Str.ofString "..-")) v_SIGNALS20)
    (dV_SIGNALS21 : PySem.W.nsIn K fd_SIGNALS "v" = some (some v_SIGNALS21)) (dR_SIGNALS21 : RelV (.str (Str.ofString "...-")) v_SIGNALS21)
    (dV_SIGNALS22 : PySem.W.nsIn K fd_SIGNALS "w" = some (some v_SIGNALS22)) (dR_SIGNALS22 : RelV (.str (Str.ofString ".--")) v_SIGNALS22)
    (dV_SIGNALS23 : PySem.W.nsIn K fd_SIGNALS "x" = some (some v_SIGNALS23)) (dR_SIGNALS23 : RelV (.str (Str.ofString "-..-")) v_SIGNALS23)
    (dV_SIGNALS24 : PySem.W.nsIn K fd_SIGNALS "y" = some (some v_SIGNALS24)) (dR_SIGNALS24 : RelV (.str (Str.ofString "-.--")) v_SIGNALS24)
    (dV_SIGNALS25 : PySem.W.nsIn K fd_SIGNALS "z" = some (some v_SIGNALS25)) (dR_SIGNALS25 : RelV (.str (Str.ofString "--..")) v_SIGNALS25)
    (z_bool : PySem.W.nsIn K mainGlobals "bool" = some none)
    (z_enumerate : PySem.W.nsIn K mainGlobals "enumerate" = some none)
    (z_int : PySem.W.nsIn K mainGlobals "int" = some none)
    (z_isinstance : PySem.W.nsIn K mainGlobals "isinstance" = some none)
    (z_len : PySem.W.nsIn K mainGlobals "len" = some none)
    (z_list : PySem.W.nsIn K mainGlobals "list" = some none)
    (z_max : PySem.W.nsIn K mainGlobals "max" = some none)
    (z_min : PySem.W.nsIn K mainGlobals "min" = some none)
    (z_range : PySem.W.nsIn K mainGlobals "range" = some none)
    (z_repr : PySem.W.nsIn K mainGlobals "repr" = some none)
    (z_str : PySem.W.nsIn K mainGlobals "str" = some none)
    (z_sum : PySem.W.nsIn K mainGlobals "sum" = some none)
    (z_tuple : PySem.W.nsIn K mainGlobals "tuple" = some none)
    : ∃ fd : FuncData, (∀ (s : Shared) (v : Value), BindsTo s fd ⟨[v], []⟩ [("script", v)]) ∧ ∀ base : Heap, K.In base → base.Ns mainGlobals mg → FnOk l.prog w K mg base CX0 13 fa fd ["script"] (@spN ⟨K⟩ phi_law) := by
  have e := hfa.symm.trans (PySem.W.mg_of X G a19)
  cases e
  letI : KK := ⟨K⟩
  have T : Txt w mg := ⟨PySem.W.mg_none_of X G z_bool, PySem.W.mg_none_of X G z_enumerate, PySem.W.mg_none_of X G z_int, PySem.W.mg_none_of X G z_isinstance, PySem.W.mg_none_of X G z_len, PySem.W.mg_none_of X G z_list, PySem.W.mg_none_of X G z_max, PySem.W.mg_none_of X G z_min, PySem.W.mg_none_of X G z_range, PySem.W.mg_none_of X G z_repr, PySem.W.mg_none_of X G z_str, PySem.W.mg_none_of X G z_sum, PySem.W.mg_none_of X G z_tuple, ⟨fd_SIGNALS, PySem.W.mg_of X G dA_SIGNALS, fun p hp => by unfold kd_SIGNALS at hp; simp only [List.mem_cons, List.not_mem_nil, or_false] at hp; rcases hp with rfl | rfl | rfl | rfl | rfl | rfl | rfl | rfl | rfl | rfl | rfl | rfl | rfl | rfl | rfl | rfl | rfl | rfl | rfl | rfl | rfl | rfl | rfl | rfl | rfl | rfl; exact ⟨_, _, _, dL_SIGNALS, dK_SIGNALS, dV_SIGNALS0, dR_SIGNALS0⟩; exact ⟨_, _, _, dL_SIGNALS, dK_SIGNALS, dV_SIGNALS1, dR_SIGNALS1⟩; exact ⟨_, _, _, dL_SIGNALS, dK_SIGNALS, dV_SIGNALS2, dR_SIGNALS2⟩; exact ⟨_, _, _, dL_SIGNALS, dK_SIGNALS, dV_SIGNALS3, dR_SIGNALS3⟩; exact ⟨_, _, _, dL_SIGNALS, dK_SIGNALS, dV_SIGNALS4, dR_SIGNALS4⟩; exact ⟨_, _, _, dL_SIGNALS, dK_SIGNALS, dV_SIGNALS5, dR_SIGNALS5⟩; exact ⟨_, _, _, dL_SIGNALS, dK_SIGNALS, dV_SIGNALS6, dR_SIGNALS6⟩; exact ⟨_, _, _, dL_SIGNALS, dK_SIGNALS, dV_SIGNALS7, dR_SIGNALS7⟩; exact ⟨_, _, _, dL_SIGNALS, dK_SIGNALS, dV_SIGNALS8, dR_SIGNALS8⟩; exact ⟨_, _, _, dL_SIGNALS, dK_SIGNALS, dV_SIGNALS9, dR_SIGNALS9⟩; exact ⟨_, _, _, dL_SIGNALS, dK_SIGNALS, dV_SIGNALS10, dR_SIGNALS10⟩; exact ⟨_, _, _, dL_SIGNALS, dK_SIGNALS, dV_SIGNALS11, dR_SIGNALS11⟩; exact ⟨_, _, _, dL_SIGNALS, dK_SIGNALS, dV_SIGNALS12, dR_SIGNALS12⟩; exact ⟨_, _, _, dL_SIGNALS, dK_SIGNALS, dV_SIGNALS13, dR_SIGNALS13⟩; exact ⟨_, _, _, dL_SIGNALS, dK_SIGNALS, dV_SIGNALS14, dR_SIGNALS14⟩; exact ⟨_, _, _, dL_SIGNALS, dK_SIGNALS, dV_SIGNALS15, dR_SIGNALS15⟩; exact ⟨_, _, _, dL_SIGNALS, dK_SIGNALS, dV_SIGNALS16, dR_SIGNALS16⟩; exact ⟨_, _, _, dL_SIGNALS, dK_SIGNALS, dV_SIGNALS17, dR_SIGNALS17⟩; exact ⟨_, _, _, dL_SIGNALS, dK_SIGNALS, dV_SIGNALS18, dR_SIGNALS18⟩; exact ⟨_, _, _, dL_SIGNALS, dK_SIGNALS, dV_SIGNALS19, dR_SIGNALS19⟩; exact ⟨_, _, _, dL_SIGNALS, dK_SIGNALS, dV_SIGNALS20, dR_SIGNALS20⟩; exact ⟨_, _, _, dL_SIGNALS, dK_SIGNALS, dV_SIGNALS21, dR_SIGNALS21⟩; exact ⟨_, _, _, dL_SIGNALS, dK_SIGNALS, dV_SIGNALS22, dR_SIGNALS22⟩; exact ⟨_, _, _, dL_SIGNALS, dK_SIGNALS, dV_SIGNALS23, dR_SIGNALS23⟩; exact ⟨_, _, _, dL_SIGNALS, dK_SIGNALS, dV_SIGNALS24, dR_SIGNALS24⟩; exact ⟨_, _, _, dL_SIGNALS, dK_SIGNALS, dV_SIGNALS25, dR_SIGNALS25⟩⟩⟩
  exact ⟨PySem.W.fnOf "law" "law" (defArgs s_law) (defBody s_law) (defScope s_law) .none kV19 dc19 pm19 an19 cd19 ct19, fun s v => .of_eq rfl, fun base _ _ => by
    have F_letter_of : Fun KK.K "letter_of" "letter_of" s_letter_of f1 _ := fun_mk (st := s_letter_of) l1 c1 k1
    have c_letter_of := ok_letter_of (P := l.prog) (w := w) (base := base) T F_letter_of (PySem.W.mg_of X G a1) 
    have F_units : Fun KK.K "units" "units" s_units f2 _ := fun_mk (st := s_units) l2 c2 k2
    have c_units := ok_units (P := l.prog) (w := w) (base := base) T F_units (PySem.W.mg_of X G a2) 
    have F_line_of : Fun KK.K "line_of" "line_of" s_line_of f3 _ := fun_mk (st := s_line_of) l3 c3 k3
    have c_line_of := ok_line_of (P := l.prog) (w := w) (base := base) T F_line_of (PySem.W.mg_of X G a3) 
    have F_read_line : Fun KK.K "read_line" "read_line" s_read_line f4 _ := fun_mk (st := s_read_line) l4 c4 k4
    have c_read_line := ok_read_line (P := l.prog) (w := w) (base := base) T F_read_line (PySem.W.mg_of X G a4) c_letter_of
    have F_weakened : Fun KK.K "weakened" "weakened" s_weakened f5 _ := fun_mk (st := s_weakened) l5 c5 k5
    have c_weakened := ok_weakened (P := l.prog) (w := w) (base := base) T F_weakened (PySem.W.mg_of X G a5) 
    have F_lost_units : Fun KK.K "lost_units" "lost_units" s_lost_units f6 _ := fun_mk (st := s_lost_units) l6 c6 k6
    have c_lost_units := ok_lost_units (P := l.prog) (w := w) (base := base) T F_lost_units (PySem.W.mg_of X G a6) c_line_of c_read_line c_weakened
    have F_law_cell : Fun KK.K "_law_cell" "_law_cell" s_law_cell f7 _ := fun_mk (st := s_law_cell) l7 c7 k7
    have c_law_cell := ok_law_cell (P := l.prog) (w := w) (base := base) T F_law_cell (PySem.W.mg_of X G a7) 
    have F_law_digits : Fun KK.K "_law_digits" "_law_digits" s_law_digits f8 _ := fun_mk (st := s_law_digits) l8 c8 k8
    have c_law_digits := ok_law_digits (P := l.prog) (w := w) (base := base) T F_law_digits (PySem.W.mg_of X G a8) c_law_cell
    have F_law_draw : Fun KK.K "_law_draw" "_law_draw" s_law_draw f9 _ := fun_mk (st := s_law_draw) l9 c9 k9
    have c_law_draw := ok_law_draw (P := l.prog) (w := w) (base := base) T F_law_draw (PySem.W.mg_of X G a9) 
    have F_law_pick : Fun KK.K "_law_pick" "_law_pick" s_law_pick f10 _ := fun_mk (st := s_law_pick) l10 c10 k10
    have c_law_pick := ok_law_pick (P := l.prog) (w := w) (base := base) T F_law_pick (PySem.W.mg_of X G a10) c_law_draw
    have F_law_same : Fun KK.K "_law_same" "_law_same" s_law_same f11 _ := fun_mk (st := s_law_same) l11 c11 k11
    have c_law_same := ok_law_same (P := l.prog) (w := w) (base := base) T F_law_same (PySem.W.mg_of X G a11)  12
    have F_law_signals : Fun KK.K "_law_signals" "_law_signals" s_law_signals f12 _ := fun_mk (st := s_law_signals) l12 c12 k12
    have c_law_signals := ok_law_signals (P := l.prog) (w := w) (base := base) T F_law_signals (PySem.W.mg_of X G a12) 
    have F_law_spelt : Fun KK.K "_law_spelt" "_law_spelt" s_law_spelt f13 _ := fun_mk (st := s_law_spelt) l13 c13 k13
    have c_law_spelt := ok_law_spelt (P := l.prog) (w := w) (base := base) T F_law_spelt (PySem.W.mg_of X G a13) c_law_signals
    have F_law_line : Fun KK.K "_law_line" "_law_line" s_law_line f14 _ := fun_mk (st := s_law_line) l14 c14 k14
    have c_law_line := ok_law_line (P := l.prog) (w := w) (base := base) T F_law_line (PySem.W.mg_of X G a14) c_law_spelt
    have F_law_stretches : Fun KK.K "_law_stretches" "_law_stretches" s_law_stretches f15 _ := fun_mk (st := s_law_stretches) l15 c15 k15
    have c_law_stretches := ok_law_stretches (P := l.prog) (w := w) (base := base) T F_law_stretches (PySem.W.mg_of X G a15) 
    have F_law_read : Fun KK.K "_law_read" "_law_read" s_law_read f16 _ := fun_mk (st := s_law_read) l16 c16 k16
    have c_law_read := ok_law_read (P := l.prog) (w := w) (base := base) T F_law_read (PySem.W.mg_of X G a16) c_law_signals c_law_stretches
    have F_law_bent : Fun KK.K "_law_bent" "_law_bent" s_law_bent f17 _ := fun_mk (st := s_law_bent) l17 c17 k17
    have c_law_bent := ok_law_bent (P := l.prog) (w := w) (base := base) T F_law_bent (PySem.W.mg_of X G a17) c_law_draw
    have F_law_lost : Fun KK.K "_law_lost" "_law_lost" s_law_lost f18 _ := fun_mk (st := s_law_lost) l18 c18 k18
    have c_law_lost := ok_law_lost (P := l.prog) (w := w) (base := base) T F_law_lost (PySem.W.mg_of X G a18) c_law_read
    have F_law : Fun KK.K "law" "law" s_law fa _ := fun_mk (st := s_law) l19 c19 k19
    exact ok_law (P := l.prog) (w := w) (base := base) T F_law c_law_digits c_law_pick c_law_line c_law_bent c_law_same c_law_lost c_lost_units c_read_line c_units c_line_of c_law_read c_law_draw⟩
end Law
open PySem PySem.W PyProof.Rows in
set_option maxRecDepth 100000 in
set_option maxHeartbeats 0 in
theorem PySem.Challenge.cw_postlands_k58_whole_lines_with_current_holds : PySem.Challenge.rw_postlands_k58_whole_lines_with_current.Holds := by
  w_on; o_law; k_head; (case hw => w_witness2)
  k_fill
  refine L2.walk_of (l := PySem.Challenge.rw_postlands_k58_whole_lines_with_current) (n := 63) (k := 13) (x := "script") (CX := fun _ => L2.CX0) (sp := fun w => @Mi.spN ⟨_⟩ Law.phi_law) rfl (by decide) rfl ⟨rfl, by decide, by decide⟩ (fun w h Y => PySem.W.kIn_of Y) ?F (fun w H a ns hl _ hS => Mi.law_sp ⟨_⟩ hS (Law.main ns hl)) (fun _ _ _ _ _ h => h)
  case F =>
    intro w mg fa h KX G hmg
    refine' Law.all_mk KX G hmg ?a1 ?l1 ?c1 ?k1 ?a2 ?l2 ?c2 ?k2 ?a3 ?l3 ?c3 ?k3 ?a4 ?l4 ?c4 ?k4 ?a5 ?l5 ?c5 ?k5 ?a6 ?l6 ?c6 ?k6 ?a7 ?l7 ?c7 ?k7 ?a8 ?l8 ?c8 ?k8 ?a9 ?l9 ?c9 ?k9 ?a10 ?l10 ?c10 ?k10 ?a11 ?l11 ?c11 ?k11 ?a12 ?l12 ?c12 ?k12 ?a13 ?l13 ?c13 ?k13 ?a14 ?l14 ?c14 ?k14 ?a15 ?l15 ?c15 ?k15 ?a16 ?l16 ?c16 ?k16 ?a17 ?l17 ?c17 ?k17 ?a18 ?l18 ?c18 ?k18 ?a19 ?l19 ?c19 ?k19 ?dA_SIGNALS ?dL_SIGNALS ?dK_SIGNALS ?dV_SIGNALS0 ?dR_SIGNALS0 ?dV_SIGNALS1 ?dR_SIGNALS1 ?dV_SIGNALS2 ?dR_SIGNALS2 ?dV_SIGNALS3 ?dR_SIGNALS3 ?dV_SIGNALS4 ?dR_SIGNALS4 ?dV_SIGNALS5 ?dR_SIGNALS5 ?dV_SIGNALS6 ?dR_SIGNALS6 ?dV_SIGNALS7 ?dR_SIGNALS7 ?dV_SIGNALS8 ?dR_SIGNALS8 ?dV_SIGNALS9 ?dR_SIGNALS9 ?dV_SIGNALS10 ?dR_SIGNALS10 ?dV_SIGNALS11 ?dR_SIGNALS11 ?dV_SIGNALS12 ?dR_SIGNALS12 ?dV_SIGNALS13 ?dR_SIGNALS13 ?dV_SIGNALS14 ?dR_SIGNALS14 ?dV_SIGNALS15 ?dR_SIGNALS15 ?dV_SIGNALS16 ?dR_SIGNALS16 ?dV_SIGNALS17 ?dR_SIGNALS17 ?dV_SIGNALS18 ?dR_SIGNALS18 ?dV_SIGNALS19 ?dR_SIGNALS19 ?dV_SIGNALS20 ?dR_SIGNALS20 ?dV_SIGNALS21 ?dR_SIGNALS21 ?dV_SIGNALS22 ?dR_SIGNALS22 ?dV_SIGNALS23 ?dR_SIGNALS23 ?dV_SIGNALS24 ?dR_SIGNALS24 ?dV_SIGNALS25 ?dR_SIGNALS25 ?z_bool ?z_enumerate ?z_int ?z_isinstance ?z_len ?z_list ?z_max ?z_min ?z_range ?z_repr ?z_str ?z_sum ?z_tuple
    (case a1 => k_is); (case l1 => k_is); (case c1 => k_is); (case k1 => k_is); (case a2 => k_is); (case l2 => k_is); (case c2 => k_is); (case k2 => k_is); (case a3 => k_is); (case l3 => k_is); (case c3 => k_is); (case k3 => k_is); (case a4 => k_is); (case l4 => k_is); (case c4 => k_is); (case k4 => k_is); (case a5 => k_is); (case l5 => k_is); (case c5 => k_is); (case k5 => k_is); (case a6 => k_is); (case l6 => k_is); (case c6 => k_is); (case k6 => k_is); (case a7 => k_is); (case l7 => k_is); (case c7 => k_is); (case k7 => k_is); (case a8 => k_is); (case l8 => k_is); (case c8 => k_is); (case k8 => k_is); (case a9 => k_is); (case l9 => k_is); (case c9 => k_is); (case k9 => k_is); (case a10 => k_is); (case l10 => k_is); (case c10 => k_is); (case k10 => k_is); (case a11 => k_is); (case l11 => k_is); (case c11 => k_is); (case k11 => k_is); (case a12 => k_is); (case l12 => k_is); (case c12 => k_is); (case k12 => k_is); (case a13 => k_is); (case l13 => k_is); (case c13 => k_is); (case k13 => k_is); (case a14 => k_is); (case l14 => k_is); (case c14 => k_is); (case k14 => k_is); (case a15 => k_is); (case l15 => k_is); (case c15 => k_is); (case k15 => k_is); (case a16 => k_is); (case l16 => k_is); (case c16 => k_is); (case k16 => k_is); (case a17 => k_is); (case l17 => k_is); (case c17 => k_is); (case k17 => k_is); (case a18 => k_is); (case l18 => k_is); (case c18 => k_is); (case k18 => k_is); (case a19 => k_is); (case l19 => k_is); (case c19 => k_is); (case k19 => k_is); (case dA_SIGNALS => k_is); (case dL_SIGNALS => k_is); (case dK_SIGNALS => k_keys); (case dV_SIGNALS0 => k_is); (case dR_SIGNALS0 => exact ⟨_, rfl⟩); (case dV_SIGNALS1 => k_is); (case dR_SIGNALS1 => exact ⟨_, rfl⟩); (case dV_SIGNALS2 => k_is); (case dR_SIGNALS2 => exact ⟨_, rfl⟩); (case dV_SIGNALS3 => k_is); (case dR_SIGNALS3 => exact ⟨_, rfl⟩); (case dV_SIGNALS4 => k_is); (case dR_SIGNALS4 => exact ⟨_, rfl⟩); (case dV_SIGNALS5 => k_is); (case dR_SIGNALS5 => exact ⟨_, rfl⟩); (case dV_SIGNALS6 => k_is); (case dR_SIGNALS6 => exact ⟨_, rfl⟩); (case dV_SIGNALS7 => k_is); (case dR_SIGNALS7 => exact ⟨_, rfl⟩); (case dV_SIGNALS8 => k_is); (case dR_SIGNALS8 => exact ⟨_, rfl⟩); (case dV_SIGNALS9 => k_is); (case dR_SIGNALS9 => exact ⟨_, rfl⟩); (case dV_SIGNALS10 => k_is); (case dR_SIGNALS10 => exact ⟨_, rfl⟩); (case dV_SIGNALS11 => k_is); (case dR_SIGNALS11 => exact ⟨_, rfl⟩); (case dV_SIGNALS12 => k_is); (case dR_SIGNALS12 => exact ⟨_, rfl⟩); (case dV_SIGNALS13 => k_is); (case dR_SIGNALS13 => exact ⟨_, rfl⟩); (case dV_SIGNALS14 => k_is); (case dR_SIGNALS14 => exact ⟨_, rfl⟩); (case dV_SIGNALS15 => k_is); (case dR_SIGNALS15 => exact ⟨_, rfl⟩); (case dV_SIGNALS16 => k_is); (case dR_SIGNALS16 => exact ⟨_, rfl⟩); (case dV_SIGNALS17 => k_is); (case dR_SIGNALS17 => exact ⟨_, rfl⟩); (case dV_SIGNALS18 => k_is); (case dR_SIGNALS18 => exact ⟨_, rfl⟩); (case dV_SIGNALS19 => k_is); (case dR_SIGNALS19 => exact ⟨_, rfl⟩); (case dV_SIGNALS20 => k_is); (case dR_SIGNALS20 => exact ⟨_, rfl⟩); (case dV_SIGNALS21 => k_is); (case dR_SIGNALS21 => exact ⟨_, rfl⟩); (case dV_SIGNALS22 => k_is); (case dR_SIGNALS22 => exact ⟨_, rfl⟩); (case dV_SIGNALS23 => k_is); (case dR_SIGNALS23 => exact ⟨_, rfl⟩); (case dV_SIGNALS24 => k_is); (case dR_SIGNALS24 => exact ⟨_, rfl⟩); (case dV_SIGNALS25 => k_is); (case dR_SIGNALS25 => exact ⟨_, rfl⟩); (case z_bool => k_is); (case z_enumerate => k_is); (case z_int => k_is); (case z_isinstance => k_is); (case z_len => k_is); (case z_list => k_is); (case z_max => k_is); (case z_min => k_is); (case z_range => k_is); (case z_repr => k_is); (case z_str => k_is); (case z_sum => k_is); (case z_tuple => k_is)
