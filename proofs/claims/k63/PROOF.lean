import PyProof.Rows.All
import Wide.All
import OpenK.AllK
import Wide.FinOn
import HandS.ForMost
import HandS.Flow
import HandS.IsInst
import HandS.TupAny
import HandS.Wide
import HandS.RaiseMore
import KE.DataMinMax
import KE.DataCmp
import HandS.Deep
import HandS.Style
import HandS.Iter
import KE.SortData
import HandS.StrMore
import HandS.Replace
import HandS.Rev
import HandS.More
import HandS.SetBool
import HandS.Strs
import HandS.SetFor
import HandS.SortInts
import HandS.Conv
import KE.GoesEnum
import HandS.Dict
import HandS.ReplaceLit
import HandS.Text
import HandS.Codes
import HandS.ReplaceList
import PyProof.ZipIter
import PyProof.TupleIter
import KE.GoesMore
import KE.KStar
import HandS.Zip
import KE.KTupSum
import PySem.Challenge.RW_postlands_k63_whole_plans_of_keys
set_option Elab.async false
set_option linter.all false
set_option maxRecDepth 100000
/-! Core1: data in the abstract heap, slots that hold shared data or an own list, results; what an expression gives as a plain function of the slots. -/
namespace Mi
open PySem PySem.Spec PyProof.Rows L2

abbrev D := PyData
abbrev Fr0 := PySem.W.Frag

/-- the written part, once for all -/
class KK where
  K : Fr0
variable [KK]

/-! ### data in a heap (lists and tuples tracked; the script, locked, is told as frzD) -/
abbrev frzD (ds : List D) : D := .dict [(.none, .list ds)]
mutual
inductive Dv (F : Hp) : V → D → Prop
  | non : Dv F .non .none
  | bl (b : Bool) : Dv F (.bl b) (.bool b)
  | int (i : Int) : Dv F (.int i) (.int i)
  | str (x : Str) : Dv F (.str x) (.str x)
  | lst {a : Addr} {xs : List V} {ds : List D} : F a = some (.lst xs) → Dvs F xs ds → Dv F (.ref a) (.list ds)
  | tup {a : Addr} {xs : List V} {ds : List D} : F a = some (.tup xs) → Dvs F xs ds → Dv F (.ref a) (.tuple ds)
  | frz {a : Addr} {xs : List V} {ds : List D} : SqL KK.K F a xs → Dvs F xs ds → Dv F (.ref a) (frzD ds)
inductive Dvs (F : Hp) : List V → List D → Prop
  | nil : Dvs F [] []
  | cons {v : V} {vs : List V} {d : D} {ds : List D} : Dv F v d → Dvs F vs ds → Dvs F (v :: vs) (d :: ds)
end
mutual
theorem Dv.mono {F F' : Hp} (e : Same F F') : ∀ {v : V} {d : D}, Dv F v d → Dv F' v d
  | _, _, .non => .non
  | _, _, .bl b => .bl b
  | _, _, .int i => .int i
  | _, _, .str x => .str x
  | _, _, .lst h a => .lst (e _ _ h) (Dvs.mono e a)
  | _, _, .tup h a => .tup (e _ _ h) (Dvs.mono e a)
  | _, _, .frz h a => .frz (e.seq h) (Dvs.mono e a)
theorem Dvs.mono {F F' : Hp} (e : Same F F') : ∀ {vs : List V} {ds : List D}, Dvs F vs ds → Dvs F' vs ds
  | _, _, .nil => .nil
  | _, _, .cons h a => .cons (Dv.mono e h) (Dvs.mono e a)
end
section
variable {F : Hp} {v : V} {vs us : List V} {d : D} {ds es : List D}
theorem Dvs.len : ∀ {vs : List V} {ds : List D}, Dvs F vs ds → vs.length = ds.length
  | _, _, .nil => rfl
  | _, _, .cons _ a => by rw [List.length_cons, List.length_cons, Dvs.len a]
theorem Dvs.app : ∀ {vs : List V} {ds : List D}, Dvs F vs ds → Dvs F us es → Dvs F (vs ++ us) (ds ++ es)
  | _, _, .nil, b => b
  | _, _, .cons h a, b => .cons h (Dvs.app a b)
theorem Dvs.get : ∀ {vs : List V} {ds : List D} {i : Nat} {d : D}, Dvs F vs ds → ds[i]? = some d → ∃ v, vs[i]? = some v ∧ Dv F v d
  | _, _, i, _, .nil, e => by simp at e
  | _, _, 0, d, .cons h a, e => by
    have e' := Option.some.inj e
    subst e'
    exact ⟨_, rfl, h⟩
  | _, _, i + 1, d, .cons h a, e => by
    obtain ⟨v, e1, h1⟩ := Dvs.get (i := i) (d := d) a (by simpa using e)
    exact ⟨v, by simpa using e1, h1⟩
theorem Dvs.take : ∀ {vs : List V} {ds : List D} (n : Nat), Dvs F vs ds → Dvs F (vs.take n) (ds.take n)
  | _, _, 0, _ => .nil
  | _, _, _ + 1, .nil => .nil
  | _, _, n + 1, .cons h a => .cons h (Dvs.take n a)
theorem Dvs.drop : ∀ {vs : List V} {ds : List D} (n : Nat), Dvs F vs ds → Dvs F (vs.drop n) (ds.drop n)
  | _, _, 0, a => a
  | _, _, _ + 1, .nil => .nil
  | _, _, n + 1, .cons _ a => Dvs.drop n a
theorem Dvs.set : ∀ {vs : List V} {ds : List D} (n : Nat), Dvs F vs ds → Dv F v d → Dvs F (vs.set n v) (ds.set n d)
  | _, _, _, .nil, _ => .nil
  | _, _, 0, .cons _ a, h => .cons h a
  | _, _, n + 1, .cons g a, h => .cons g (Dvs.set n a h)
theorem Dvs.rev : ∀ {vs : List V} {ds : List D}, Dvs F vs ds → Dvs F vs.reverse ds.reverse
  | _, _, .nil => .nil
  | _, _, .cons h a => by
    rw [List.reverse_cons, List.reverse_cons]
    exact Dvs.app (Dvs.rev a) (.cons h .nil)
theorem Dvs.snoc (a : Dvs F vs ds) (h : Dv F v d) : Dvs F (vs ++ [v]) (ds ++ [d]) := a.app (.cons h .nil)
theorem Dvs.ints : ∀ {vs : List V} {ns : List Int}, Dvs F vs (ns.map PyData.int) → vs = ns.map V.int
  | _, [], .nil => rfl
  | _, n :: ns, .cons (.int _) a => by rw [List.map_cons, Dvs.ints a]
theorem Dvs.bls : ∀ {vs : List V} {ns : List Bool}, Dvs F vs (ns.map PyData.bool) → vs = ns.map V.bl
  | _, [], .nil => rfl
  | _, n :: ns, .cons (.bl _) a => by rw [List.map_cons, Dvs.bls a]
theorem Dvs.strs : ∀ {vs : List V} {ns : List Str}, Dvs F vs (ns.map PyData.str) → vs = ns.map V.str
  | _, [], .nil => rfl
  | _, n :: ns, .cons (.str _) a => by rw [List.map_cons, Dvs.strs a]
theorem Dvs.of_ints : ∀ (ns : List Int), Dvs F (ns.map V.int) (ns.map PyData.int)
  | [] => .nil
  | n :: ns => .cons (.int n) (Dvs.of_ints ns)
theorem Dvs.of_strs : ∀ (ns : List Str), Dvs F (ns.map V.str) (ns.map PyData.str)
  | [] => .nil
  | n :: ns => .cons (.str n) (Dvs.of_strs ns)
end
mutual
theorem Dv.dp {K : Fr0} {F : Hp} : ∀ {v : V} {d : D}, Dv F v d → d.canLay0 = true → Dp K F v d
  | _, _, .non, _ => .non
  | _, _, .bl b, _ => .bl b
  | _, _, .int i, _ => .int i
  | _, _, .str x, _ => .str x
  | _, _, .lst h a, c => .lst (.of h) (Dvs.dp a c)
  | _, _, .tup h a, c => .tup (.of h) (Dvs.dp a c)
  | _, _, .frz h a, c => by cases c
theorem Dvs.dp {K : Fr0} {F : Hp} : ∀ {vs : List V} {ds : List D}, Dvs F vs ds → PyData.canLayAll0 ds = true → DpAll K F vs ds
  | _, _, .nil, _ => .nil
  | _, _, .cons h a, c => by
    have c' := Bool.and_eq_true_iff.mp c
    exact .cons (Dv.dp h c'.1) (Dvs.dp a c'.2)
end

/-! ### results, slots -/
/-- what an expression gives: shared data; a new list of its own; the list (or data) that slot i holds -/
inductive R where
  | sh (d : D) | fr (ds : List D) | bw (i : Nat)
/-- what a slot holds: nothing; shared data; an own list; the list that was handed in to be changed -/
inductive M where
  | no | sh (d : D) | own (ds : List D) | io (ds : List D) | dct (ks : List (L2.Key × D)) | lent (ds : List D)
abbrev En := List M
/-- what a def's slots stand by: the list that was handed in to be changed; lists that are lent -/
structure Fm where
  b : Addr
  L : Hp
/-- the values of a dict are data -/
def DvK (F : Hp) : List (L2.Key × V) → List (L2.Key × D) → Prop := Paired fun p q => p.1 = q.1 ∧ Dv F p.2 q.2
theorem DvK.mono {F F' : Hp} (e : Same F F') {xs : List (L2.Key × V)} {ys : List (L2.Key × D)} (h : DvK F xs ys) : DvK F' xs ys := Paired.mapP h fun _ _ z => ⟨z.1, z.2.mono e⟩
def OwnAt (ρ : En) (i : Nat) : Prop := (∃ ds, ρ[i]? = some (.own ds)) ∨ (∃ ds, ρ[i]? = some (.io ds)) ∨ ∃ ks, ρ[i]? = some (.dct ks)
def deref (ρ : En) : R → Option D
  | .sh d => some d
  | .fr ds => some (.list ds)
  | .bw i => match ρ[i]? with
    | some (.own ds) => some (.list ds)
    | some (.io ds) => some (.list ds)
    | some (.sh d) => some d
    | some (.lent ds) => some (.list ds)
    | _ => none

def SlotOk (F G H : Hp) (b : Fm) (σ : L2.St) (i : Nat) : M → Prop
  | .no => True
  | .sh d => ∃ v, σ[i]? = some (some v) ∧ Dv F v d
  | .own ds => ∃ p vs, σ[i]? = some (some (.ref p)) ∧ H p = some (.lst vs) ∧ Dvs F vs ds ∧ F p = none ∧ G p = none
  | .io ds => σ[i]? = some (some (.ref b.b)) ∧ ∃ vs, H b.b = some (.lst vs) ∧ Dvs F vs ds ∧ F b.b = none ∧ G b.b = none
  | .dct ks => ∃ p vs, σ[i]? = some (some (.ref p)) ∧ H p = some (.dK vs) ∧ DvK F vs ks ∧ F p = none ∧ G p = none
  | .lent ds => ∃ p vs, σ[i]? = some (some (.ref p)) ∧ b.L p = some (.lst vs) ∧ Dvs F vs ds
/-- the slots stand for ρ: F what is shared for good, G what others have (not to be changed), H the heap -/
structure Rp (F G H : Hp) (b : Fm) (σ : L2.St) (ρ : En) : Prop where
  fh : Same F H
  gh : Same G H
  len : ρ.length = σ.length
  slot : ∀ i m, ρ[i]? = some m → SlotOk F G H b σ i m
  ne : ∀ i j p, OwnAt ρ i → OwnAt ρ j → σ[i]? = some (some (.ref p)) → σ[j]? = some (some (.ref p)) → i = j
  lg : Same b.L G
def RsOk (F G H : Hp) (σ : L2.St) (ρ : En) (v : V) : R → Prop
  | .sh d => Dv F v d
  | .fr ds => ∃ p vs, v = .ref p ∧ H p = some (.lst vs) ∧ Dvs F vs ds ∧ F p = none ∧ G p = none ∧ ∀ i, OwnAt ρ i → σ[i]? ≠ some (some (.ref p))
  | .bw i => σ[i]? = some (some v)
def Cln (F G F' : Hp) : Prop := ∀ a, G a ≠ none → F' a ≠ none → F a ≠ none
theorem Cln.refl (F G : Hp) : Cln F G F := fun _ _ h => h
theorem Cln.trans {F F1 F2 G : Hp} (a : Cln F G F1) (b : Cln F1 G F2) : Cln F G F2 := fun x g h => a x g (b x g h)
theorem Cln.less {F F' G G' : Hp} (c : Cln F G' F') (e : Same G G') : Cln F G F' := fun x g h => by
  refine c x (fun z => g ?_) h
  cases q : G x with
  | none => rfl
  | some o => rw [e x o q] at z; cases z

abbrev MR := En → Option (R × En)
abbrev MB := En → Option (Bool × En)
/-- what an expression asks, by its plain function -/
def tM (m : MR) : TE := fun σ H Q => ∃ F G b ρ, Rp F G H b σ ρ ∧ ∃ r ρ', m ρ = some (r, ρ') ∧ ∀ F' H' v, Same F F' → Cln F G F' → Rp F' G H' b σ ρ' → RsOk F' G H' σ ρ' v r → Q v H'
def tMB (m : MB) : TT := fun σ H Q => ∃ F G b ρ, Rp F G H b σ ρ ∧ ∃ r ρ', m ρ = some (r, ρ') ∧ ∀ F' H', Same F F' → Cln F G F' → Rp F' G H' b σ ρ' → Q r H'
theorem _root_.L2.PE.imq {X : Cx} {e : Expr} {t t' : TE} (h : PE X e t) (i : ∀ σ H Q, t' σ H Q → t σ H Q) : PE X e t' := ⟨fun pins s σ H Q I q => h.run pins s σ H Q I (i σ H Q q)⟩
theorem _root_.L2.PT.imq {X : Cx} {e : Expr} {t t' : TT} (h : PT X e t) (i : ∀ σ H Q, t' σ H Q → t σ H Q) : PT X e t' := ⟨fun pins s σ H Q I q => h.run pins s σ H Q I (i σ H Q q)⟩
theorem _root_.L2.PW.imq {X : Cx} {e : Expr} {t t' : TT} (h : PW X e t) (i : ∀ σ H Q, t' σ H Q → t σ H Q) : PW X e t' := ⟨fun wh pins s σ H Q I q => h.run wh pins s σ H Q I (i σ H Q q)⟩
theorem _root_.L2.PA.imq {X : Cx} {es : List Expr} {t t' : TA} (h : PA X es t) (i : ∀ σ H Q, t' σ H Q → t σ H Q) : PA X es t' := ⟨fun pos pins s σ H Q I q => h.run pos pins s σ H Q I (i σ H Q q)⟩
theorem _root_.L2.PS.imq {X : Cx} {st : Stmt} {t t' : TS} (h : PS X st t) (i : ∀ D σ H, t' D σ H → t D σ H) : PS X st t' := ⟨fun pins s σ H D I q => h.run pins s σ H D I (i D σ H q)⟩
theorem _root_.L2.PSs.imq {X : Cx} {st : List Stmt} {t t' : TS} (h : PSs X st t) (i : ∀ D σ H, t' D σ H → t D σ H) : PSs X st t' := ⟨fun pins s σ H D I q => h.run pins s σ H D I (i D σ H q)⟩

section
variable {F F' F1 F2 G G' H H' : Hp} {b : Fm} {σ : L2.St} {ρ ρ' : En} {v : V} {r : R}
/-- fresh in the larger heap is fresh in the smaller -/
theorem nn (e : Same F H) {p : Addr} (h : H p = none) : F p = none := e.free h
theorem Rp.slotAddr (h : Rp F G H b σ ρ) {i : Nat} (o : OwnAt ρ i) : ∃ p u, σ[i]? = some (some (.ref p)) ∧ H p = some u ∧ F p = none ∧ G p = none := by
  rcases o with ⟨ds, e⟩ | ⟨ds, e⟩ | ⟨ks, e⟩
  · obtain ⟨p, vs, a, c, d, f, g⟩ := h.slot i _ e
    exact ⟨p, _, a, c, f, g⟩
  · obtain ⟨a, vs, c, d, f, g⟩ := h.slot i _ e
    exact ⟨b.b, _, a, c, f, g⟩
  · obtain ⟨p, vs, a, c, d, f, g⟩ := h.slot i _ e
    exact ⟨p, _, a, c, f, g⟩
/-- more is guarded: the guard grows by what no own list is -/
theorem Rp.more (h : Rp F G H b σ ρ) (e : Same G' H) (lg : Same b.L G') (hn : ∀ i p, OwnAt ρ i → σ[i]? = some (some (.ref p)) → G' p = none) : Rp F G' H b σ ρ := by
  refine ⟨h.fh, e, h.len, fun i m q => ?_, h.ne, lg⟩
  have s := h.slot i m q
  cases m with
  | no => trivial
  | sh d => exact s
  | own ds =>
    obtain ⟨p, vs, a, c, d, f, g⟩ := s
    exact ⟨p, vs, a, c, d, f, hn i p (.inl ⟨ds, q⟩) a⟩
  | io ds =>
    obtain ⟨a, vs, c, d, f, g⟩ := s
    exact ⟨a, vs, c, d, f, hn i b.b (.inr (.inl ⟨ds, q⟩)) a⟩
  | lent ds => exact s
  | dct ks =>
    obtain ⟨p, vs, a, c, d, f, g⟩ := s
    exact ⟨p, vs, a, c, d, f, hn i p (.inr (.inr ⟨ks, q⟩)) a⟩
/-- less is guarded -/
theorem Rp.less (h : Rp F G' H b σ ρ) (e : Same G G') (lg : Same b.L G) : Rp F G H b σ ρ := by
  refine h.more (e.trans h.gh) lg fun i p o q => ?_
  obtain ⟨p', u, a, c, f, g⟩ := h.slotAddr o
  rw [a] at q
  cases q
  exact e.free g
/-- only new objects and shared data come to the heap -/
theorem Rp.grow (h : Rp F G H b σ ρ) (e : Same F F') (eh : Same H H') (fh : Same F' H') (hn : ∀ i p, OwnAt ρ i → σ[i]? = some (some (.ref p)) → F' p = none) : Rp F' G H' b σ ρ := by
  refine ⟨fh, h.gh.trans eh, h.len, fun i m q => ?_, h.ne, h.lg⟩
  have s := h.slot i m q
  cases m with
  | no => trivial
  | sh d =>
    obtain ⟨v, a, c⟩ := s
    exact ⟨v, a, c.mono e⟩
  | own ds =>
    obtain ⟨p, vs, a, c, d, f, g⟩ := s
    exact ⟨p, vs, a, eh _ _ c, d.mono e, hn i p (.inl ⟨ds, q⟩) a, g⟩
  | io ds =>
    obtain ⟨a, vs, c, d, f, g⟩ := s
    exact ⟨a, vs, eh _ _ c, d.mono e, hn i b.b (.inr (.inl ⟨ds, q⟩)) a, g⟩
  | lent ds =>
    obtain ⟨p, vs, a, c, d⟩ := s
    exact ⟨p, vs, a, c, d.mono e⟩
  | dct ks =>
    obtain ⟨p, vs, a, c, d, f, g⟩ := s
    exact ⟨p, vs, a, eh _ _ c, d.mono e, hn i p (.inr (.inr ⟨ks, q⟩)) a, g⟩
theorem Rp.own_some (h : Rp F G H b σ ρ) {i : Nat} {p : Addr} (o : OwnAt ρ i) (q : σ[i]? = some (some (.ref p))) : ∃ u, H p = some u ∧ F p = none ∧ G p = none := by
  obtain ⟨p', u, a, c, f, g⟩ := h.slotAddr o
  rw [a] at q
  cases q
  exact ⟨u, c, f, g⟩

theorem Rp.own_kind (h : Rp F G H b σ ρ) {i : Nat} {p : Addr} (o : OwnAt ρ i) (q : σ[i]? = some (some (.ref p))) : (∃ vs, H p = some (.lst vs)) ∨ ∃ vs, H p = some (.dK vs) := by
  rcases o with ⟨ds, e⟩ | ⟨ds, e⟩ | ⟨ks, e⟩
  · obtain ⟨p', vs, a, c, _⟩ := h.slot i _ e
    rw [a] at q
    cases q
    exact .inl ⟨vs, c⟩
  · obtain ⟨a, vs, c, _⟩ := h.slot i _ e
    rw [a] at q
    cases q
    exact .inl ⟨vs, c⟩
  · obtain ⟨p', vs, a, c, _⟩ := h.slot i _ e
    rw [a] at q
    cases q
    exact .inr ⟨vs, c⟩
/-- the guard of a result while more is evaluated -/
def guard (G : Hp) (H : Hp) (v : V) : R → Hp
  | .fr _ => match v with
    | .ref p => match H p with
      | some o => upd G p o
      | none => G
    | _ => G
  | _ => G
theorem guard_same (r : R) (hg : Same G H) : Same G (guard G H v r) ∧ Same (guard G H v r) H ∨ True := .inr trivial
theorem guard_ge (h : RsOk F G H σ ρ v r) : Same G (guard G H v r) := by
  cases r with
  | sh d => exact Same.refl G
  | bw i => exact Same.refl G
  | fr ds =>
    obtain ⟨p, vs, rfl, a, _, _, g, _⟩ := h
    unfold guard
    simp only [a]
    intro x o e
    rw [upd_ne (ne_of_none e g)]
    exact e
theorem guard_le (hg : Same G H) (h : RsOk F G H σ ρ v r) : Same (guard G H v r) H := by
  cases r with
  | sh d => exact hg
  | bw i => exact hg
  | fr ds =>
    obtain ⟨p, vs, rfl, a, _, _, g, _⟩ := h
    unfold guard
    simp only [a]
    intro x o e
    by_cases hx : x = p
    · subst hx
      rw [upd_same] at e
      rw [a, e]
    · rw [upd_ne hx] at e
      exact hg _ _ e
theorem Rp.guarded (R0 : Rp F G H b σ ρ) (h : RsOk F G H σ ρ v r) : Rp F (guard G H v r) H b σ ρ := by
  refine R0.more (guard_le R0.gh h) (R0.lg.trans (guard_ge h)) fun i p o q => ?_
  obtain ⟨vs, a, f, g⟩ := R0.own_some o q
  cases r with
  | sh d => exact g
  | bw i => exact g
  | fr ds =>
    obtain ⟨p', vs', rfl, a', _, _, _, ne⟩ := h
    unfold guard
    simp only [a']
    have : p ≠ p' := fun z => ne i o (z ▸ q)
    rw [upd_ne this]
    exact g
/-- a result stands on behind an evaluation that kept its guard -/
theorem RsOk.keep (h : RsOk F G H σ ρ v r) (e : Same F F') (c : Cln F (guard G H v r) F') (k : Rp F' (guard G H v r) H' b σ ρ') : RsOk F' G H' σ ρ' v r := by
  cases r with
  | sh d => exact Dv.mono e h
  | bw i => exact h
  | fr ds =>
    obtain ⟨p, vs, rfl, a, ha, f, g, ne⟩ := h
    have gp : guard G H (.ref p) (.fr ds) p = some (.lst vs) := by
      unfold guard
      simp only [a]
      exact upd_same
    refine ⟨p, vs, rfl, k.gh _ _ gp, ha.mono e, ?_, g, fun i o q => ?_⟩
    · cases q : F' p with
      | none => rfl
      | some o => exact absurd f (c p (by rw [gp]; exact fun z => nomatch z) (by rw [q]; exact fun z => nomatch z))
    · obtain ⟨_, _, _, g'⟩ := k.own_some o q
      rw [gp] at g'
      cases g'
/-- the results differ, if both are new -/
theorem RsOk.less (h : RsOk F G' H σ ρ v r) (e : Same G G') : RsOk F G H σ ρ v r := by
  cases r with
  | sh d => exact h
  | bw i => exact h
  | fr ds =>
    obtain ⟨p, vs, rfl, a, ha, f, g, ne⟩ := h
    exact ⟨p, vs, rfl, a, ha, f, e.free g, ne⟩
end

/-- two evaluations, one behind the other -/
theorem seq2 {ma mb : MR} {F G H : Hp} {b : Fm} {σ : L2.St} {ρ ρ1 ρ2 : En} {r1 r2 : R} {Q : V → V → Hp → Prop} (h : Rp F G H b σ ρ) (ea : ma ρ = some (r1, ρ1)) (eb : mb ρ1 = some (r2, ρ2))
    (q : ∀ F' H' v1 v2, Same F F' → Cln F G F' → Rp F' G H' b σ ρ2 → RsOk F' G H' σ ρ2 v1 r1 → RsOk F' G H' σ ρ2 v2 r2 → Q v1 v2 H') : tM ma σ H fun v1 H1 => tM mb σ H1 fun v2 H2 => Q v1 v2 H2 := by
  refine ⟨F, G, b, ρ, h, r1, ρ1, ea, fun F1 H1 v1 e1 c1 h1 k1 => ?_⟩
  refine ⟨F1, guard G H1 v1 r1, b, ρ1, h1.guarded k1, r2, ρ2, eb, fun F2 H2 v2 e2 c2 h2 k2 => ?_⟩
  have ge := guard_ge k1
  exact q F2 H2 v1 v2 (e1.trans e2) (c1.trans (c2.less ge)) (h2.less ge h1.lg) (k1.keep e2 c2 h2) (k2.less ge)

/-! ### what is asked of a value where it is used: data by its contents now -/
/-- v stands for d in H, its items shared for good -/
def Bd (F H : Hp) (v : V) (d : D) : Prop := Dv F v d ∨ ∃ p vs ds, v = .ref p ∧ H p = some (.lst vs) ∧ Dvs F vs ds ∧ d = .list ds
theorem Bd.dv {F H : Hp} {v : V} {d : D} (e : Same F H) (h : Bd F H v d) : Dv H v d := by
  rcases h with h | ⟨p, vs, ds, rfl, a, b, rfl⟩
  · exact h.mono e
  · exact .lst a (b.mono e)
theorem Bd.list {F H : Hp} {v : V} {ds : List D} (e : Same F H) (h : Bd F H v (.list ds)) : ∃ p vs, v = .ref p ∧ H p = some (.lst vs) ∧ Dvs F vs ds := by
  rcases h with h | ⟨p, vs, ds, rfl, a, b, q⟩
  · cases h with
    | lst h a => exact ⟨_, _, rfl, e _ _ h, a⟩
  · cases q
    exact ⟨p, vs, rfl, a, b⟩
theorem Bd.tup {F H : Hp} {v : V} {ds : List D} (h : Bd F H v (.tuple ds)) : ∃ p vs, v = .ref p ∧ F p = some (.tup vs) ∧ Dvs F vs ds := by
  rcases h with h | ⟨p, vs, ds, rfl, a, b, q⟩
  · cases h with
    | tup h a => exact ⟨_, _, rfl, h, a⟩
  · cases q
theorem Bd.frz {F H : Hp} {v : V} {ds : List D} (h : Bd F H v (frzD ds)) : ∃ p vs, v = .ref p ∧ SqL KK.K F p vs ∧ Dvs F vs ds := by
  rcases h with h | ⟨p, vs, ds, rfl, a, b, q⟩
  · cases h with
    | frz h a => exact ⟨_, _, rfl, h, a⟩
  · cases q
theorem Bd.int {F H : Hp} {v : V} {i : Int} (h : Bd F H v (.int i)) : v = .int i := by
  rcases h with h | ⟨p, vs, ds, rfl, a, b, q⟩
  · cases h; rfl
  · cases q
theorem Bd.bl {F H : Hp} {v : V} {i : Bool} (h : Bd F H v (.bool i)) : v = .bl i := by
  rcases h with h | ⟨p, vs, ds, rfl, a, b, q⟩
  · cases h; rfl
  · cases q
theorem Bd.str {F H : Hp} {v : V} {i : Str} (h : Bd F H v (.str i)) : v = .str i := by
  rcases h with h | ⟨p, vs, ds, rfl, a, b, q⟩
  · cases h; rfl
  · cases q
theorem Bd.non {F H : Hp} {v : V} (h : Bd F H v .none) : v = .non := by
  rcases h with h | ⟨p, vs, ds, rfl, a, b, q⟩
  · cases h; rfl
  · cases q
theorem RsOk.bd {F G H : Hp} {b : Fm} {σ : L2.St} {ρ : En} {v : V} {r : R} {d : D} (h : Rp F G H b σ ρ) (k : RsOk F G H σ ρ v r) (e : deref ρ r = some d) : Bd F H v d := by
  cases r with
  | sh d' =>
    cases e
    exact .inl k
  | fr ds =>
    cases e
    obtain ⟨p, vs, rfl, a, ha, _⟩ := k
    exact .inr ⟨p, vs, ds, rfl, a, ha, rfl⟩
  | bw i =>
    have k' : σ[i]? = some (some v) := k
    unfold deref at e
    cases q : ρ[i]? with
    | none => simp [q] at e
    | some m =>
      have s := h.slot i m q
      cases m with
      | no => simp [q] at e
      | sh d' =>
        simp only [q] at e
        cases e
        obtain ⟨v', a, c⟩ := s
        rw [k'] at a
        cases a
        exact .inl c
      | own ds =>
        simp only [q] at e
        cases e
        obtain ⟨p, vs, a, c, d, _⟩ := s
        rw [k'] at a
        cases a
        exact .inr ⟨p, vs, ds, rfl, c, d, rfl⟩
      | io ds =>
        simp only [q] at e
        cases e
        obtain ⟨a, vs, c, d, _⟩ := s
        rw [k'] at a
        cases a
        exact .inr ⟨b.b, vs, ds, rfl, c, d, rfl⟩
      | dct ks => simp [q] at e
      | lent ds =>
        simp only [q] at e
        cases e
        obtain ⟨p, vs, a, c, d⟩ := s
        rw [k'] at a
        cases a
        exact .inr ⟨p, vs, ds, rfl, h.gh _ _ (h.lg _ _ c), d, rfl⟩
end Mi
set_option Elab.async false
set_option linter.all false
set_option maxRecDepth 100000
/-! Core2: expressions. -/
namespace Mi
open PySem PySem.Spec PyProof.Rows L2
variable [KK]

abbrev lim : Nat := 1000000
theorem lim_le {n : Nat} (h : n ≤ lim) : n ≤ sizeLine := Nat.le_trans h (by rw [sizeLine_eq]; decide)
theorem lim_lt {n : Nat} (h : n < lim) : n < sizeLine := Nat.lt_of_lt_of_le h (by rw [sizeLine_eq]; decide)

/-! ### what an operation leaves: the heap grown -/
def ResOk (F' H H' : Hp) (v : V) : R → Prop
  | .sh d => Dv F' v d
  | .fr ds => ∃ p vs, v = .ref p ∧ H p = none ∧ H' p = some (.lst vs) ∧ Dvs F' vs ds ∧ F' p = none
  | .bw _ => False
structure Post (F H : Hp) (r : R) (F' H' : Hp) (v : V) : Prop where
  ff : Same F F'
  hh : Same H H'
  fh : Same F' H'
  new : ∀ a, F' a ≠ none → F a ≠ none ∨ H a = none
  res : ResOk F' H H' v r
theorem post_sh {F H : Hp} {v : V} {d : D} (e : Same F H) (h : Dv F v d) : Post F H (.sh d) F H v := ⟨.refl _, .refl _, e, fun _ h => .inl h, h⟩
theorem same_upd {H : Hp} {p : Addr} {o : HO} (h : H p = none) : Same H (upd H p o) := fun b x e => by
  rw [upd_ne (ne_of_none e h)]
  exact e
theorem post_fr {F H : Hp} {p : Addr} {vs : List V} {ds : List D} (e : Same F H) (h : H p = none) (a : Dvs F vs ds) : Post F H (.fr ds) F (upd H p (.lst vs)) (.ref p) :=
  ⟨.refl _, same_upd h, e.trans (same_upd h), fun _ h => .inl h, p, vs, rfl, h, upd_same, a, e.free h⟩
theorem same_upd2 {F H : Hp} {p : Addr} {o : HO} (e : Same F H) : Same (upd F p o) (upd H p o) := fun b x q => by
  by_cases hb : b = p
  · subst hb
    rw [upd_same] at q ⊢
    exact q
  · rw [upd_ne hb] at q ⊢
    exact e _ _ q
theorem upd_some {F : Hp} {p a : Addr} {o : HO} (h : upd F p o a ≠ none) : F a ≠ none ∨ a = p := by
  by_cases q : a = p
  · exact .inr q
  · rw [upd_ne q] at h
    exact .inl h
theorem post_tup {F H : Hp} {p : Addr} {vs : List V} {ds : List D} (e : Same F H) (h : H p = none) (a : Dvs F vs ds) : Post F H (.sh (.tuple ds)) (upd F p (.tup vs)) (upd H p (.tup vs)) (.ref p) :=
  ⟨same_upd (e.free h), same_upd h, same_upd2 e, fun x q => (upd_some q).imp id (fun z => by rw [z]; exact h), .tup upd_same (a.mono (same_upd (e.free h)))⟩
theorem Post.cln {F G H F' H' : Hp} {r : R} {v : V} (p : Post F H r F' H' v) (g : Same G H) : Cln F G F' := fun a ga fa => by
  rcases p.new a fa with h | h
  · exact h
  · exact absurd (g.free h) ga
theorem Post.rp {F G H F' H' : Hp} {r : R} {v : V} {b : Fm} {σ : L2.St} {ρ : En} (p : Post F H r F' H' v) (h : Rp F G H b σ ρ) : Rp F' G H' b σ ρ :=
  h.grow p.ff p.hh p.fh fun i q o e => by
    obtain ⟨vs, a, f, g⟩ := h.own_some o e
    cases z : F' q with
    | none => rfl
    | some u =>
      rcases p.new q (by rw [z]; exact fun x => nomatch x) with h1 | h1
      · exact absurd f h1
      · rw [a] at h1
        cases h1
theorem Post.rs {F G H F' H' : Hp} {r : R} {v : V} {b : Fm} {σ : L2.St} {ρ : En} (p : Post F H r F' H' v) (h : Rp F G H b σ ρ) : RsOk F' G H' σ ρ v r := by
  have q := p.res
  cases r with
  | sh d => exact q
  | bw i => exact False.elim q
  | fr ds =>
    obtain ⟨a, vs, rfl, n, e, x, f⟩ := q
    refine ⟨a, vs, rfl, e, x, f, h.gh.free n, fun i o z => ?_⟩
    obtain ⟨_, y, _, _⟩ := h.own_some o z
    rw [n] at y
    cases y

/-! ### judgements -/
structure ME (X : Cx) (e : Expr) (m : MR) : Prop where
  ok : PE X e (tM m)
structure MT (X : Cx) (e : Expr) (m : MB) : Prop where
  ok : PT X e (tMB m)
structure MW (X : Cx) (e : Expr) (m : MB) : Prop where
  ok : PW X e (tMB m)

/-! ### slots and constants -/
def mVar (i : Nat) : MR := fun ρ => match ρ[i]? with
  | some (.sh d) => some (.sh d, ρ)
  | some (.own _) => some (.bw i, ρ)
  | some (.io _) => some (.bw i, ρ)
  | some (.lent _) => some (.bw i, ρ)
  | _ => none
def mC (d : D) : MR := fun ρ => some (.sh d, ρ)
section
variable {X : Cx} {e a b c : Expr} {pos : Pos} {m ma mb mc : MR} {t u : MB}
theorem me_var {i : Nat} {x : Str} (h : PE X (.Name x pos) (tVar i)) : ME X (.Name x pos) (mVar i) := ⟨h.imq fun σ H Q q => by
  obtain ⟨F, G, b, ρ, hr, r, ρ', e, k⟩ := q
  unfold mVar at e
  cases q : ρ[i]? with
  | none => simp [q] at e
  | some w =>
    have s := hr.slot i w q
    cases w with
    | no => simp [q] at e
    | sh d =>
      simp only [q] at e
      cases e
      obtain ⟨v, a, c⟩ := s
      exact ⟨v, a, k F H v (.refl _) (.refl _ _) hr c⟩
    | own ds =>
      simp only [q] at e
      cases e
      obtain ⟨p, vs, a, _⟩ := s
      exact ⟨.ref p, a, k F H _ (.refl _) (.refl _ _) hr a⟩
    | io ds =>
      simp only [q] at e
      cases e
      obtain ⟨a, _⟩ := s
      exact ⟨.ref b.b, a, k F H _ (.refl _) (.refl _ _) hr a⟩
    | dct ks => simp [q] at e
    | lent ds =>
      simp only [q] at e
      cases e
      obtain ⟨p, vs, a, _⟩ := s
      exact ⟨.ref p, a, k F H _ (.refl _) (.refl _ _) hr a⟩⟩
theorem me_const {v : V} {d : D} (h : PE X e (tC v)) (hd : ∀ F, Dv F v d) : ME X e (mC d) := ⟨h.imq fun σ H Q q => by
  obtain ⟨F, G, b, ρ, hr, r, ρ', e, k⟩ := q
  cases e
  exact k F H v (.refl _) (.refl _ _) hr (hd F)⟩
theorem me_int {i : Int} {j} : ME X (.Constant (.int i) j pos) (mC (.int i)) := me_const pe_int fun _ => .int _
theorem me_bl {i : Bool} {j} : ME X (.Constant (.bool i) j pos) (mC (.bool i)) := me_const pe_bl fun _ => .bl _
theorem me_non {j} : ME X (.Constant .none j pos) (mC .none) := me_const pe_non fun _ => .non
theorem me_str {i : Str} {j} : ME X (.Constant (.str i) j pos) (mC (.str i)) := me_const pe_str fun _ => .str _

/-! ### operators -/
/-- an operation on two values keeps f -/
def Op2 (r : R2) (f : D → D → Option R) : Prop := ∀ F H v1 v2 d1 d2 k, Same F H → Bd F H v1 d1 → Bd F H v2 d2 → f d1 d2 = some k → ∀ Q : VK, (∀ F' H' v, Post F H k F' H' v → Q v H') → r v1 v2 H Q
def Op1 (r : V → Hp → VK → Prop) (f : D → Option R) : Prop := ∀ F H v1 d1 k, Same F H → Bd F H v1 d1 → f d1 = some k → ∀ Q : VK, (∀ F' H' v, Post F H k F' H' v → Q v H') → r v1 H Q
theorem Op2.or {r r' : R2} {f g k : D → D → Option R} (h : Op2 r f) (h' : Op2 r' g) (e : ∀ a b z, k a b = some z → f a b = some z ∨ g a b = some z) : Op2 (fun x y H Q => r x y H Q ∨ r' x y H Q) k :=
  fun F H v1 v2 d1 d2 z s b1 b2 q Q w => (e d1 d2 z q).imp (fun q => h F H v1 v2 d1 d2 z s b1 b2 q Q w) (fun q => h' F H v1 v2 d1 d2 z s b1 b2 q Q w)
def mBin (f : D → D → Option R) (ma mb : MR) : MR := fun ρ => do
  let (r1, ρ1) ← ma ρ
  let (r2, ρ2) ← mb ρ1
  let d1 ← deref ρ2 r1
  let d2 ← deref ρ2 r2
  let k ← f d1 d2
  some (k, ρ2)
def mUn (f : D → Option R) (ma : MR) : MR := fun ρ => do
  let (r1, ρ1) ← ma ρ
  let d1 ← deref ρ1 r1
  let k ← f d1
  some (k, ρ1)
theorem bind_some {α β : Type} {o : Option α} {f : α → Option β} {z : β} (h : (o >>= f) = some z) : ∃ a, o = some a ∧ f a = some z := by
  cases o with
  | none => cases h
  | some a => exact ⟨a, rfl, h⟩
theorem tM_bin {r : R2} {f : D → D → Option R} (o : Op2 r f) (σ : L2.St) (H : Hp) (Q : VK) (q : tM (mBin f ma mb) σ H Q) : tOp r (tM ma) (tM mb) σ H Q := by
  obtain ⟨F, G, b, ρ, hr, r', ρ', e, k⟩ := q
  obtain ⟨⟨r1, ρ1⟩, e1, e⟩ := bind_some e
  obtain ⟨⟨r2, ρ2⟩, e2, e⟩ := bind_some e
  obtain ⟨d1, e3, e⟩ := bind_some e
  obtain ⟨d2, e4, e⟩ := bind_some e
  obtain ⟨z, e5, e⟩ := bind_some e
  cases e
  refine seq2 hr e1 e2 fun F1 H1 v1 v2 s1 c1 h1 k1 k2 => ?_
  refine o F1 H1 v1 v2 d1 d2 _ h1.fh (k1.bd h1 e3) (k2.bd h1 e4) e5 Q fun F' H' v p => ?_
  exact k F' H' v (s1.trans p.ff) (c1.trans (p.cln h1.gh)) (p.rp h1) (p.rs h1)
theorem tM_un {r : V → Hp → VK → Prop} {f : D → Option R} (o : Op1 r f) (σ : L2.St) (H : Hp) (Q : VK) (q : tM (mUn f ma) σ H Q) : tUn r (tM ma) σ H Q := by
  obtain ⟨F, G, b, ρ, hr, r', ρ', e, k⟩ := q
  obtain ⟨⟨r1, ρ1⟩, e1, e⟩ := bind_some e
  obtain ⟨d1, e3, e⟩ := bind_some e
  obtain ⟨z, e5, e⟩ := bind_some e
  cases e
  refine ⟨F, G, b, ρ, hr, r1, _, e1, fun F1 H1 v1 s1 c1 h1 k1 => ?_⟩
  refine o F1 H1 v1 d1 _ h1.fh (k1.bd h1 e3) e5 Q fun F' H' v p => ?_
  exact k F' H' v (s1.trans p.ff) (c1.trans (p.cln h1.gh)) (p.rp h1) (p.rs h1)
structure BinOk (X : Cx) (op : Operator) (f : D → D → Option R) : Prop where
  ex : ∃ r, OpR X (binaryOp op) r ∧ Op2 r f
theorem me_bin {op : Operator} {f : D → D → Option R} (o : BinOk X op f) (ha : ME X a ma) (hb : ME X b mb) : ME X (.BinOp a op b pos) (mBin f ma mb) := by
  obtain ⟨r, h1, h2⟩ := o.ex
  exact ⟨(pe_op h1 ha.ok hb.ok).imq (tM_bin h2)⟩
structure UnOk (X : Cx) (op : UnaryOp) (f : D → Option R) : Prop where
  ex : ∃ r, UnR X (unaryOp op) r ∧ Op1 r f
theorem me_un {op : UnaryOp} {f : D → Option R} (o : UnOk X op f) (ha : ME X a ma) : ME X (.UnaryOp op a pos) (mUn f ma) := by
  obtain ⟨r, h1, h2⟩ := o.ex
  exact ⟨(pe_un h1 ha.ok).imq (tM_un h2)⟩

/-! comparisons -/
def Op2B (r : R2) (f : D → D → Option Bool) : Prop := ∀ F H v1 v2 d1 d2 k, Same F H → Bd F H v1 d1 → Bd F H v2 d2 → f d1 d2 = some k → ∀ Q : VK, Q (.bl k) H → r v1 v2 H Q
theorem Op2B.or {r r' : R2} {f g k : D → D → Option Bool} (h : Op2B r f) (h' : Op2B r' g) (e : ∀ a b z, k a b = some z → f a b = some z ∨ g a b = some z) : Op2B (fun x y H Q => r x y H Q ∨ r' x y H Q) k :=
  fun F H v1 v2 d1 d2 z s b1 b2 q Q w => (e d1 d2 z q).imp (fun q => h F H v1 v2 d1 d2 z s b1 b2 q Q w) (fun q => h' F H v1 v2 d1 d2 z s b1 b2 q Q w)
def mCmp (f : D → D → Option Bool) (ma mb : MR) : MB := fun ρ => do
  let (r1, ρ1) ← ma ρ
  let (r2, ρ2) ← mb ρ1
  let d1 ← deref ρ2 r1
  let d2 ← deref ρ2 r2
  let k ← f d1 d2
  some (k, ρ2)
/-- a test as a value -/
def mBV (t : MB) : MR := fun ρ => do
  let (k, ρ1) ← t ρ
  some (.sh (.bool k), ρ1)
structure CmpOk (X : Cx) (op : CmpOp) (f : D → D → Option Bool) : Prop where
  ex : ∃ r, OpR X (compareOp op) r ∧ Op2B r f
theorem mt_cmp {op : CmpOp} {f : D → D → Option Bool} (o : CmpOk X op f) (ha : ME X a ma) (hb : ME X b mb) (hm : behindInMarks op b = false) : MT X (.Compare a [op] [b] pos) (mCmp f ma mb) := by
  obtain ⟨r, h1, h2⟩ := o.ex
  refine ⟨(pt_cmpR h1 ha.ok hb.ok hm).imq fun σ H Q q => ?_⟩
  obtain ⟨F, G, b, ρ, hr, r', ρ', e, k⟩ := q
  obtain ⟨⟨r1, ρ1⟩, e1, e⟩ := bind_some e
  obtain ⟨⟨r2, ρ2⟩, e2, e⟩ := bind_some e
  obtain ⟨d1, e3, e⟩ := bind_some e
  obtain ⟨d2, e4, e⟩ := bind_some e
  obtain ⟨z, e5, e⟩ := bind_some e
  cases e
  refine seq2 hr e1 e2 fun F1 H1 v1 v2 s1 c1 g1 k1 k2 => ?_
  exact h2 F1 H1 v1 v2 d1 d2 _ g1.fh (k1.bd g1 e3) (k2.bd g1 e4) e5 _ ⟨_, rfl, k F1 H1 s1 c1 g1⟩
theorem me_cmp {op : CmpOp} {f : D → D → Option Bool} (o : CmpOk X op f) (ha : ME X a ma) (hb : ME X b mb) (hm : behindInMarks op b = false) : ME X (.Compare a [op] [b] pos) (mBV (mCmp f ma mb)) := by
  obtain ⟨r, h1, h2⟩ := o.ex
  refine ⟨(pe_cmpR h1 ha.ok hb.ok hm).imq fun σ H Q q => ?_⟩
  obtain ⟨F, G, b, ρ, hr, r', ρ', e, k⟩ := q
  obtain ⟨⟨kb, ρ3⟩, e0, e⟩ := bind_some e
  cases e
  obtain ⟨⟨r1, ρ1⟩, e1, e⟩ := bind_some e0
  obtain ⟨⟨r2, ρ2⟩, e2, e⟩ := bind_some e
  obtain ⟨d1, e3, e⟩ := bind_some e
  obtain ⟨d2, e4, e⟩ := bind_some e
  obtain ⟨z, e5, e⟩ := bind_some e
  cases e
  refine seq2 hr e1 e2 fun F1 H1 v1 v2 s1 c1 g1 k1 k2 => ?_
  exact h2 F1 H1 v1 v2 d1 d2 _ g1.fh (k1.bd g1 e3) (k2.bd g1 e4) e5 _ (k F1 H1 _ s1 c1 g1 (.bl _))

theorem ite_some {α : Type} {c : Prop} [Decidable c] {a z : α} (h : (if c then some a else none) = some z) : c ∧ a = z := by
  by_cases q : c
  · rw [if_pos q] at h
    exact ⟨q, Option.some.inj h⟩
  · rw [if_neg q] at h
    cases h
/-! ### tests -/
def truD : D → Option Bool
  | .none => some false
  | .bool b => some b
  | .int i => some (i != 0)
  | .str y => if y.length ≤ lim then some ((y.length : Int) != 0) else none
  | .list ds => some (!ds.isEmpty)
  | .tuple ds => some (!ds.isEmpty)
  | .dict _ => none
def mTest (m : MR) : MB := fun ρ => do
  let (r, ρ1) ← m ρ
  let d ← deref ρ1 r
  let k ← truD d
  some (k, ρ1)
theorem empty_of {F : Hp} {vs : List V} {ds : List D} (h : Dvs F vs ds) : vs.isEmpty = ds.isEmpty := by
  cases h <;> rfl
theorem tru_of {K : Fr0} {F H : Hp} {v : V} {d : D} {k : Bool} (s : Same F H) (h : Bd F H v d) (e : truD d = some k) : TruV K v H k := by
  cases d with
  | none => cases e; rw [h.non]; rfl
  | bool b => cases e; rw [h.bl]; rfl
  | int i => cases e; rw [h.int]; rfl
  | str y =>
    rw [h.str]
    obtain ⟨q, e⟩ := ite_some (show (if y.length ≤ lim then some ((y.length : Int) != 0) else none) = some k from e)
    exact ⟨lim_le q, e.symm⟩
  | list ds =>
    cases e
    obtain ⟨p, vs, rfl, a, b⟩ := h.list s
    exact .inl ⟨vs, .of a, by rw [empty_of b]⟩
  | tuple ds =>
    cases e
    obtain ⟨p, vs, rfl, a, b⟩ := h.tup
    exact .inr (.inl ⟨vs, .of (s _ _ a), by rw [empty_of b]⟩)
  | dict _ => cases e
theorem mt_val (ha : ME X a ma) (he : ∀ whole, isTrue a X.env whole = (do let v ← whole; standAt a.pos; holding [v] (truthy v))) : MT X a (mTest ma) := by
  refine ⟨(pt_truth ha.ok he).imq fun σ H Q q => ?_⟩
  obtain ⟨F, G, b, ρ, hr, r', ρ', e, k⟩ := q
  obtain ⟨⟨r1, ρ1⟩, e1, e⟩ := bind_some e
  obtain ⟨d1, e3, e⟩ := bind_some e
  obtain ⟨z, e5, e⟩ := bind_some e
  cases e
  exact ⟨F, G, b, ρ, hr, r1, _, e1, fun F1 H1 v1 s1 c1 h1 k1 => ⟨_, tru_of h1.fh (k1.bd h1 e3) e5, k F1 H1 s1 c1 h1⟩⟩
def mAnd (t u : MB) : MB := fun ρ => do
  let (k, ρ1) ← t ρ
  if k = true then u ρ1 else some (false, ρ1)
def mOr (t u : MB) : MB := fun ρ => do
  let (k, ρ1) ← t ρ
  if k = true then some (true, ρ1) else u ρ1
def mNot (t : MB) : MB := fun ρ => do
  let (k, ρ1) ← t ρ
  some (!k, ρ1)
variable {rest : List Expr}
theorem MW.mt (h : MW X e t) : MT X e t := ⟨h.ok.pt⟩
theorem mw_and1 (h : MT X a t) : MW X (.BoolOp .And [a] pos) t := ⟨pw_and1 h.ok⟩
theorem mw_or1 (h : MT X a t) : MW X (.BoolOp .Or [a] pos) t := ⟨pw_or1 h.ok⟩
theorem mw_and (ha : MT X a t) (hb : MW X (.BoolOp .And (b :: rest) pos) u) : MW X (.BoolOp .And (a :: b :: rest) pos) (mAnd t u) := ⟨(pw_and ha.ok hb.ok).imq fun σ H Q q => by
  obtain ⟨F, G, b, ρ, hr, r', ρ', e, k⟩ := q
  obtain ⟨⟨k1, ρ1⟩, e1, e⟩ := bind_some e
  refine ⟨F, G, b, ρ, hr, k1, ρ1, e1, fun F1 H1 s1 c1 h1 => ?_⟩
  cases k1 with
  | true => exact ⟨F1, G, b, ρ1, h1, r', ρ', e, fun F2 H2 s2 c2 h2 => k F2 H2 (s1.trans s2) (c1.trans c2) h2⟩
  | false =>
    cases e
    exact k F1 H1 s1 c1 h1⟩
theorem mw_or (ha : MT X a t) (hb : MW X (.BoolOp .Or (b :: rest) pos) u) : MW X (.BoolOp .Or (a :: b :: rest) pos) (mOr t u) := ⟨(pw_or ha.ok hb.ok).imq fun σ H Q q => by
  obtain ⟨F, G, b, ρ, hr, r', ρ', e, k⟩ := q
  obtain ⟨⟨k1, ρ1⟩, e1, e⟩ := bind_some e
  refine ⟨F, G, b, ρ, hr, k1, ρ1, e1, fun F1 H1 s1 c1 h1 => ?_⟩
  cases k1 with
  | false => exact ⟨F1, G, b, ρ1, h1, r', ρ', e, fun F2 H2 s2 c2 h2 => k F2 H2 (s1.trans s2) (c1.trans c2) h2⟩
  | true =>
    cases e
    exact k F1 H1 s1 c1 h1⟩
theorem mt_not (ha : MT X a t) : MT X (.UnaryOp .Not a pos) (mNot t) := ⟨(pt_not ha.ok).imq fun σ H Q q => by
  obtain ⟨F, G, b, ρ, hr, r', ρ', e, k⟩ := q
  obtain ⟨⟨k1, ρ1⟩, e1, e⟩ := bind_some e
  cases e
  exact ⟨F, G, b, ρ, hr, k1, _, e1, fun F1 H1 s1 c1 h1 => k F1 H1 s1 c1 h1⟩⟩
/-- values that are bools -/
def mAndV (ma mb : MR) : MR := fun ρ => do
  let (r, ρ1) ← ma ρ
  match r with
  | .sh (.bool true) => mb ρ1
  | .sh (.bool false) => some (.sh (.bool false), ρ1)
  | _ => none
def mOrV (ma mb : MR) : MR := fun ρ => do
  let (r, ρ1) ← ma ρ
  match r with
  | .sh (.bool false) => mb ρ1
  | .sh (.bool true) => some (.sh (.bool true), ρ1)
  | _ => none
theorem me_one {op} (h : ME X a m) : ME X (.BoolOp op [a] pos) m := ⟨pe_one h.ok⟩
theorem me_and (ha : ME X a ma) (hb : ME X (.BoolOp .And (b :: rest) pos) mb) : ME X (.BoolOp .And (a :: b :: rest) pos) (mAndV ma mb) := ⟨(pe_and ha.ok hb.ok).imq fun σ H Q q => by
  obtain ⟨F, G, b, ρ, hr, r', ρ', e, k⟩ := q
  obtain ⟨⟨k1, ρ1⟩, e1, e⟩ := bind_some e
  refine ⟨F, G, b, ρ, hr, k1, ρ1, e1, fun F1 H1 v1 s1 c1 h1 w1 => ?_⟩
  match k1, w1, e with
  | .sh (.bool true), w1, e =>
    cases (show Dv F1 v1 (.bool true) from w1)
    exact ⟨true, rfl, F1, G, b, ρ1, h1, r', ρ', e, fun F2 H2 v2 s2 c2 h2 => k F2 H2 v2 (s1.trans s2) (c1.trans c2) h2⟩
  | .sh (.bool false), w1, e =>
    cases (show Dv F1 v1 (.bool false) from w1)
    cases e
    exact ⟨false, rfl, k F1 H1 _ s1 c1 h1 (.bl _)⟩⟩
theorem me_or (ha : ME X a ma) (hb : ME X (.BoolOp .Or (b :: rest) pos) mb) : ME X (.BoolOp .Or (a :: b :: rest) pos) (mOrV ma mb) := ⟨(pe_or ha.ok hb.ok).imq fun σ H Q q => by
  obtain ⟨F, G, b, ρ, hr, r', ρ', e, k⟩ := q
  obtain ⟨⟨k1, ρ1⟩, e1, e⟩ := bind_some e
  refine ⟨F, G, b, ρ, hr, k1, ρ1, e1, fun F1 H1 v1 s1 c1 h1 w1 => ?_⟩
  match k1, w1, e with
  | .sh (.bool false), w1, e =>
    cases (show Dv F1 v1 (.bool false) from w1)
    exact ⟨false, rfl, F1, G, b, ρ1, h1, r', ρ', e, fun F2 H2 v2 s2 c2 h2 => k F2 H2 v2 (s1.trans s2) (c1.trans c2) h2⟩
  | .sh (.bool true), w1, e =>
    cases (show Dv F1 v1 (.bool true) from w1)
    cases e
    exact ⟨true, rfl, k F1 H1 _ s1 c1 h1 (.bl _)⟩⟩
def mNotV (ma : MR) : MR := fun ρ => do
  let (r, ρ1) ← ma ρ
  match r with
  | .sh (.bool k) => some (.sh (.bool (!k)), ρ1)
  | _ => none
theorem me_not (ha : ME X a ma) : ME X (.UnaryOp .Not a pos) (mNotV ma) := ⟨(pe_not ha.ok).imq fun σ H Q q => by
  obtain ⟨F, G, b, ρ, hr, r', ρ', e, k⟩ := q
  obtain ⟨⟨k1, ρ1⟩, e1, e⟩ := bind_some e
  refine ⟨F, G, b, ρ, hr, k1, ρ1, e1, fun F1 H1 v1 s1 c1 h1 w1 => ?_⟩
  match k1, w1, e with
  | .sh (.bool z), w1, e =>
    cases (show Dv F1 v1 (.bool z) from w1)
    cases e
    exact ⟨z, rfl, k F1 H1 _ s1 c1 h1 (.bl _)⟩⟩
def mIf (t : MB) (ma mb : MR) : MR := fun ρ => do
  let (k, ρ1) ← t ρ
  if k = true then ma ρ1 else mb ρ1
theorem me_if (hc : MT X c t) (ha : ME X a ma) (hb : ME X b mb) : ME X (.IfExp c a b pos) (mIf t ma mb) := ⟨(pe_ifExp hc.ok ha.ok hb.ok).imq fun σ H Q q => by
  obtain ⟨F, G, b, ρ, hr, r', ρ', e, k⟩ := q
  obtain ⟨⟨k1, ρ1⟩, e1, e⟩ := bind_some e
  refine ⟨F, G, b, ρ, hr, k1, ρ1, e1, fun F1 H1 s1 c1 h1 => ?_⟩
  cases k1 with
  | true => exact ⟨F1, G, b, ρ1, h1, r', ρ', e, fun F2 H2 v2 s2 c2 h2 => k F2 H2 v2 (s1.trans s2) (c1.trans c2) h2⟩
  | false => exact ⟨F1, G, b, ρ1, h1, r', ρ', e, fun F2 H2 v2 s2 c2 h2 => k F2 H2 v2 (s1.trans s2) (c1.trans c2) h2⟩⟩

/-! ### captured: a result becomes shared data -/
def cap (ρ : En) : R → Option (D × En)
  | .sh d => some (d, ρ)
  | .fr ds => some (.list ds, ρ)
  | .bw i => match ρ[i]? with
    | some (.own ds) => some (.list ds, ρ.set i (.sh (.list ds)))
    | some (.sh d) => some (d, ρ)
    | _ => none
theorem own_set {ρ : En} {i j : Nat} {d : D} (h : OwnAt (ρ.set i (.sh d)) j) : OwnAt ρ j ∧ j ≠ i := by
  by_cases q : j = i
  · subst q
    have key : ∀ m : M, (ρ.set j (.sh d))[j]? = some m → m = .sh d := fun m e => by
      by_cases hl : j < ρ.length
      · rw [List.getElem?_set_self hl] at e; cases e; rfl
      · rw [List.getElem?_eq_none (by rw [List.length_set]; omega)] at e; cases e
    rcases h with ⟨ds, e⟩ | ⟨ds, e⟩ | ⟨ds, e⟩
    · cases key _ e
    · cases key _ e
    · cases key _ e
  · unfold OwnAt at h
    rw [List.getElem?_set_ne (Ne.symm q)] at h
    exact ⟨h, q⟩
theorem cap_ok {F G H : Hp} {b : Fm} {σ : L2.St} {ρ ρ' : En} {v : V} {r : R} {d : D} (h : Rp F G H b σ ρ) (k : RsOk F G H σ ρ v r) (e : cap ρ r = some (d, ρ')) :
    ∃ F', Same F F' ∧ Cln F G F' ∧ Rp F' G H b σ ρ' ∧ Dv F' v d := by
  cases r with
  | sh d' =>
    cases e
    exact ⟨F, .refl _, .refl _ _, h, k⟩
  | fr ds =>
    cases e
    obtain ⟨p, vs, rfl, a, x, f, g, n⟩ := k
    have s1 : Same F (upd F p (.lst vs)) := same_upd f
    refine ⟨upd F p (.lst vs), s1, fun z gz fz => (upd_some fz).elim id fun w => absurd (w ▸ g) gz, h.grow s1 (.refl _) (fun z o q => ?_) (fun i p' o q => ?_), .lst upd_same (x.mono s1)⟩
    · by_cases hz : z = p
      · subst hz
        rw [upd_same] at q
        rw [a, q]
      · rw [upd_ne hz] at q
        exact h.fh _ _ q
    · obtain ⟨_, _, f', _⟩ := h.own_some o q
      rw [upd_ne (show p' ≠ p from fun z => n i o (by rw [← z]; exact q))]
      exact f'
  | bw i =>
    have k' : σ[i]? = some (some v) := k
    unfold cap at e
    cases q : ρ[i]? with
    | none => simp [q] at e
    | some w =>
      have s := h.slot i w q
      cases w with
      | no => simp [q] at e
      | io ds => simp [q] at e
      | dct ks => simp [q] at e
      | lent ds => simp [q] at e
      | sh d' =>
        simp only [q] at e
        cases e
        obtain ⟨v', a, c⟩ := s
        rw [k'] at a
        cases a
        exact ⟨F, .refl _, .refl _ _, h, c⟩
      | own ds =>
        simp only [q] at e
        cases e
        obtain ⟨p, vs, a, c, x, f, g⟩ := s
        rw [k'] at a
        cases a
        have s1 : Same F (upd F p (.lst vs)) := same_upd f
        have dvl : Dv (upd F p (.lst vs)) (.ref p) (.list ds) := .lst upd_same (x.mono s1)
        refine ⟨upd F p (.lst vs), s1, fun z gz fz => (upd_some fz).elim id fun w => absurd (w ▸ g) gz, ⟨fun z o q' => ?_, h.gh, by rw [List.length_set]; exact h.len, fun j m qj => ?_, fun i1 j1 p1 o1 o2 => h.ne i1 j1 p1 (own_set o1).1 (own_set o2).1, h.lg⟩, dvl⟩
        · by_cases hz : z = p
          · subst hz
            rw [upd_same] at q'
            rw [c, q']
          · rw [upd_ne hz] at q'
            exact h.fh _ _ q'
        · by_cases hj : j = i
          · subst hj
            have hl : j < ρ.length := (List.getElem?_eq_some_iff.mp q).1
            rw [List.getElem?_set_self hl] at qj
            cases qj
            exact ⟨_, k', dvl⟩
          · rw [List.getElem?_set_ne (Ne.symm hj)] at qj
            have sj := h.slot j m qj
            have np : ∀ p', OwnAt ρ j → σ[j]? = some (some (.ref p')) → p' ≠ p := fun p' oj ej z => hj (h.ne j i p oj (.inl ⟨ds, q⟩) (z ▸ ej) k')
            cases m with
            | no => trivial
            | sh d1 =>
              obtain ⟨v1, a1, c1⟩ := sj
              exact ⟨v1, a1, c1.mono s1⟩
            | own ds1 =>
              obtain ⟨p1, vs1, a1, c1, x1, f1, g1⟩ := sj
              exact ⟨p1, vs1, a1, c1, x1.mono s1, by rw [upd_ne (np p1 (.inl ⟨ds1, qj⟩) a1)]; exact f1, g1⟩
            | io ds1 =>
              obtain ⟨a1, vs1, c1, x1, f1, g1⟩ := sj
              exact ⟨a1, vs1, c1, x1.mono s1, by rw [upd_ne (np b.b (.inr (.inl ⟨ds1, qj⟩)) a1)]; exact f1, g1⟩
            | lent ds1 =>
              obtain ⟨p1, vs1, a1, c1, x1⟩ := sj
              exact ⟨p1, vs1, a1, c1, x1.mono s1⟩
            | dct ks1 =>
              obtain ⟨p1, vs1, a1, c1, x1, f1, g1⟩ := sj
              exact ⟨p1, vs1, a1, c1, x1.mono s1, by rw [upd_ne (np p1 (.inr (.inr ⟨ks1, qj⟩)) a1)]; exact f1, g1⟩

/-! ### lists of expressions, each captured -/
abbrev MA := En → Option (List D × En)
def tMA (m : MA) : TA := fun σ H Q => ∃ F G b ρ, Rp F G H b σ ρ ∧ ∃ ds ρ', m ρ = some (ds, ρ') ∧ ∀ F' H' vs, Same F F' → Cln F G F' → Rp F' G H' b σ ρ' → Dvs F' vs ds → Q vs H'
structure MAs (X : Cx) (es : List Expr) (m : MA) : Prop where
  ok : PA X es (tMA m)
def aNil : MA := fun ρ => some ([], ρ)
def mCap (m : MR) : En → Option (D × En) := fun ρ => do
  let (r, ρ1) ← m ρ
  cap ρ1 r
def aCons (m : MR) (ms : MA) : MA := fun ρ => do
  let (d, ρ1) ← mCap m ρ
  let (ds, ρ2) ← ms ρ1
  some (d :: ds, ρ2)
theorem ma_nil : MAs X [] aNil := ⟨pa_nil.imq fun σ H Q q => by
  obtain ⟨F, G, b, ρ, hr, ds, ρ', e, k⟩ := q
  cases e
  exact k F H [] (.refl _) (.refl _ _) hr .nil⟩
theorem ma_cons {es : List Expr} {ms : MA} (ha : ME X e m) (hr : MAs X es ms) (hs : starEach (e :: es) X.env = (false, eval e X.env) :: starEach es X.env := by rfl) : MAs X (e :: es) (aCons m ms) := ⟨(pa_cons ha.ok hr.ok hs).imq fun σ H Q q => by
  obtain ⟨F, G, b, ρ, h0, ds, ρ', e, k⟩ := q
  obtain ⟨⟨d, ρ1⟩, e1, e⟩ := bind_some e
  obtain ⟨⟨ds2, ρ2⟩, e2, e⟩ := bind_some e
  cases e
  obtain ⟨⟨r, ρ0⟩, e0, e1⟩ := bind_some e1
  refine ⟨F, G, b, ρ, h0, r, ρ0, e0, fun F1 H1 v1 s1 c1 h1 k1 => ?_⟩
  obtain ⟨F2, s2, c2, h2, dv⟩ := cap_ok h1 k1 e1
  exact ⟨F2, G, b, ρ1, h2, ds2, ρ', e2, fun F3 H3 vs s3 c3 h3 dvs => k F3 H3 _ (s1.trans (s2.trans s3)) (c1.trans (c2.trans c3)) h3 (.cons (dv.mono s3) dvs)⟩⟩
def mTup (ms : MA) : MR := fun ρ => do
  let (ds, ρ1) ← ms ρ
  if ds.length ≤ lim then some (.sh (.tuple ds), ρ1) else none
def mLst (ms : MA) : MR := fun ρ => do
  let (ds, ρ1) ← ms ρ
  if ds.length ≤ lim then some (.fr ds, ρ1) else none
theorem me_tup {es : List Expr} {ms : MA} {x1} (h : MAs X es ms) : ME X (.Tuple es x1 pos) (mTup ms) := ⟨(pe_tup h.ok).imq fun σ H Q q => by
  obtain ⟨F, G, b, ρ, h0, ds, ρ', e, k⟩ := q
  obtain ⟨⟨ds1, ρ1⟩, e1, e⟩ := bind_some e
  obtain ⟨hl, e⟩ := ite_some e
  cases e
  refine ⟨F, G, b, ρ, h0, ds1, _, e1, fun F1 H1 vs s1 c1 h1 dvs => ⟨by rw [dvs.len]; exact lim_le hl, fun p hp => ?_⟩⟩
  have P := post_tup h1.fh hp dvs
  exact k _ _ _ (s1.trans P.ff) (c1.trans (P.cln h1.gh)) (P.rp h1) (P.rs h1)⟩
theorem me_lst {es : List Expr} {ms : MA} (h : MAs X es ms) : ME X (.List es pos) (mLst ms) := ⟨(pe_lst h.ok).imq fun σ H Q q => by
  obtain ⟨F, G, b, ρ, h0, ds, ρ', e, k⟩ := q
  obtain ⟨⟨ds1, ρ1⟩, e1, e⟩ := bind_some e
  obtain ⟨hl, e⟩ := ite_some e
  cases e
  refine ⟨F, G, b, ρ, h0, ds1, _, e1, fun F1 H1 vs s1 c1 h1 dvs => ⟨by rw [dvs.len]; exact lim_le hl, fun p hp => ?_⟩⟩
  have P := post_fr h1.fh hp dvs
  exact k _ _ _ (s1.trans P.ff) (c1.trans (P.cln h1.gh)) (P.rp h1) (P.rs h1)⟩
end
end Mi
set_option Elab.async false
set_option linter.all false
set_option maxRecDepth 100000
/-! Core3: targets, what is walked, comprehensions, statements, loops. -/
namespace Mi
open PySem PySem.Spec PyProof.Rows L2
variable [KK]

/-! ### slots stored -/
section
variable {F G H : Hp} {b : Fm} {σ : L2.St} {ρ : En} {v : V} {d : D} {i : Nat}
/-- slot i holds no list that was handed in -/
def free1 (ρ : En) (i : Nat) : Bool := match ρ[i]? with
  | some (.io _) => false
  | some _ => true
  | none => false
theorem get_set {α : Type} {l : List α} {i j : Nat} {x m : α} (h : (l.set i x)[j]? = some m) : (j = i ∧ m = x) ∨ (j ≠ i ∧ l[j]? = some m) := by
  by_cases q : j = i
  · subst q
    by_cases hl : j < l.length
    · rw [List.getElem?_set_self hl] at h
      exact .inl ⟨rfl, (Option.some.inj h).symm⟩
    · rw [List.getElem?_eq_none (by rw [List.length_set]; omega)] at h
      cases h
  · rw [List.getElem?_set_ne (Ne.symm q)] at h
    exact .inr ⟨q, h⟩
theorem free1_lt (h : free1 ρ i = true) : i < ρ.length := by
  unfold free1 at h
  by_cases q : i < ρ.length
  · exact q
  · rw [List.getElem?_eq_none (by omega)] at h
    cases h
theorem own_set2 {m : M} {j : Nat} (h : OwnAt (ρ.set i m) j) : (j = i ∧ ((∃ ds, m = .own ds) ∨ (∃ ds, m = .io ds) ∨ ∃ ks, m = .dct ks)) ∨ (j ≠ i ∧ OwnAt ρ j) := by
  rcases h with ⟨ds, e⟩ | ⟨ds, e⟩ | ⟨ks, e⟩
  · rcases get_set e with ⟨a, b⟩ | ⟨a, b⟩
    · exact .inl ⟨a, .inl ⟨ds, b.symm⟩⟩
    · exact .inr ⟨a, .inl ⟨ds, b⟩⟩
  · rcases get_set e with ⟨a, b⟩ | ⟨a, b⟩
    · exact .inl ⟨a, .inr (.inl ⟨ds, b.symm⟩)⟩
    · exact .inr ⟨a, .inr (.inl ⟨ds, b⟩)⟩
  · rcases get_set e with ⟨a, b⟩ | ⟨a, b⟩
    · exact .inl ⟨a, .inr (.inr ⟨ks, b.symm⟩)⟩
    · exact .inr ⟨a, .inr (.inr ⟨ks, b⟩)⟩
theorem SlotOk.at {σ' : L2.St} {i : Nat} {m : M} (h : SlotOk F G H b σ i m) (e : σ'[i]? = σ[i]?) : SlotOk F G H b σ' i m := by
  cases m with
  | no => trivial
  | sh d =>
    obtain ⟨v, a, c⟩ := h
    exact ⟨v, e.trans a, c⟩
  | own ds =>
    obtain ⟨p, vs, a, c⟩ := h
    exact ⟨p, vs, e.trans a, c⟩
  | io ds =>
    obtain ⟨a, c⟩ := h
    exact ⟨e.trans a, c⟩
  | dct ks =>
    obtain ⟨p, vs, a, c⟩ := h
    exact ⟨p, vs, e.trans a, c⟩
  | lent ds =>
    obtain ⟨p, vs, a, c⟩ := h
    exact ⟨p, vs, e.trans a, c⟩
/-- a slot gets shared data -/
theorem Rp.setSh (h : Rp F G H b σ ρ) (hi : i < ρ.length) (dv : Dv F v d) : Rp F G H b (σ.set i (some v)) (ρ.set i (.sh d)) := by
  have hiσ : i < σ.length := by rw [← h.len]; exact hi
  refine ⟨h.fh, h.gh, by rw [List.length_set, List.length_set]; exact h.len, fun j m q => ?_, fun j k p oj ok ej ek => ?_, h.lg⟩
  · rcases get_set q with ⟨rfl, rfl⟩ | ⟨hj, q⟩
    · exact ⟨v, List.getElem?_set_self hiσ, dv⟩
    · exact (h.slot j m q).at (List.getElem?_set_ne (Ne.symm hj))
  · rcases own_set2 oj with ⟨_, ⟨_, z⟩ | ⟨_, z⟩ | ⟨_, z⟩⟩ | ⟨hj, oj⟩
    · cases z
    · cases z
    · cases z
    · rcases own_set2 ok with ⟨_, ⟨_, z⟩ | ⟨_, z⟩ | ⟨_, z⟩⟩ | ⟨hk, ok⟩
      · cases z
      · cases z
      · cases z
      · rw [List.getElem?_set_ne (Ne.symm hj)] at ej
        rw [List.getElem?_set_ne (Ne.symm hk)] at ek
        exact h.ne j k p oj ok ej ek
/-- a slot gets a new list of its own -/
theorem Rp.setOwn {p : Addr} {vs : List V} {ds : List D} (h : Rp F G H b σ ρ) (hi : i < ρ.length) (a : H p = some (.lst vs)) (x : Dvs F vs ds) (f : F p = none) (g : G p = none) (n : ∀ j, OwnAt ρ j → σ[j]? ≠ some (some (.ref p))) :
    Rp F G H b (σ.set i (some (.ref p))) (ρ.set i (.own ds)) := by
  have hiσ : i < σ.length := by rw [← h.len]; exact hi
  refine ⟨h.fh, h.gh, by rw [List.length_set, List.length_set]; exact h.len, fun j m q => ?_, fun j k p' oj ok ej ek => ?_, h.lg⟩
  · rcases get_set q with ⟨rfl, rfl⟩ | ⟨hj, q⟩
    · exact ⟨p, vs, List.getElem?_set_self hiσ, a, x, f, g⟩
    · exact (h.slot j m q).at (List.getElem?_set_ne (Ne.symm hj))
  · rcases own_set2 oj with ⟨ej', _⟩ | ⟨hj, oj'⟩
    · rcases own_set2 ok with ⟨ek', _⟩ | ⟨hk, ok'⟩
      · rw [ej', ek']
      · subst ej'
        rw [List.getElem?_set_self hiσ] at ej
        cases ej
        rw [List.getElem?_set_ne (Ne.symm hk)] at ek
        exact absurd ek (n k ok')
    · rcases own_set2 ok with ⟨ek', _⟩ | ⟨hk, ok'⟩
      · subst ek'
        rw [List.getElem?_set_self hiσ] at ek
        cases ek
        rw [List.getElem?_set_ne (Ne.symm hj)] at ej
        exact absurd ej (n j oj')
      · rw [List.getElem?_set_ne (Ne.symm hj)] at ej
        rw [List.getElem?_set_ne (Ne.symm hk)] at ek
        exact h.ne j k p' oj' ok' ej ek
/-- a slot gets a new dict of its own -/
theorem Rp.setDct {p : Addr} {vs : List (L2.Key × V)} {ks : List (L2.Key × D)} (h : Rp F G H b σ ρ) (hi : i < ρ.length) (a : H p = some (.dK vs)) (x : DvK F vs ks) (f : F p = none) (g : G p = none) (n : ∀ j, OwnAt ρ j → σ[j]? ≠ some (some (.ref p))) :
    Rp F G H b (σ.set i (some (.ref p))) (ρ.set i (.dct ks)) := by
  have hiσ : i < σ.length := by rw [← h.len]; exact hi
  refine ⟨h.fh, h.gh, by rw [List.length_set, List.length_set]; exact h.len, fun j m q => ?_, fun j k p' oj ok ej ek => ?_, h.lg⟩
  · rcases get_set q with ⟨rfl, rfl⟩ | ⟨hj, q⟩
    · exact ⟨p, vs, List.getElem?_set_self hiσ, a, x, f, g⟩
    · exact (h.slot j m q).at (List.getElem?_set_ne (Ne.symm hj))
  · rcases own_set2 oj with ⟨ej', _⟩ | ⟨hj, oj'⟩
    · rcases own_set2 ok with ⟨ek', _⟩ | ⟨hk, ok'⟩
      · rw [ej', ek']
      · subst ej'
        rw [List.getElem?_set_self hiσ] at ej
        cases ej
        rw [List.getElem?_set_ne (Ne.symm hk)] at ek
        exact absurd ek (n k ok')
    · rcases own_set2 ok with ⟨ek', _⟩ | ⟨hk, ok'⟩
      · subst ek'
        rw [List.getElem?_set_self hiσ] at ek
        cases ek
        rw [List.getElem?_set_ne (Ne.symm hj)] at ej
        exact absurd ej (n j oj')
      · rw [List.getElem?_set_ne (Ne.symm hj)] at ej
        rw [List.getElem?_set_ne (Ne.symm hk)] at ek
        exact h.ne j k p' oj' ok' ej ek
end
/-- a result is stored in slot i -/
def asg (ρ : En) (i : Nat) : R → Option En
  | .fr ds => if free1 ρ i = true then some (ρ.set i (.own ds)) else none
  | r => do
    let (d, ρ1) ← cap ρ r
    if free1 ρ1 i = true then some (ρ1.set i (.sh d)) else none
theorem asg_ok {F G H : Hp} {b : Fm} {σ : L2.St} {ρ ρ' : En} {v : V} {r : R} {i : Nat} (h : Rp F G H b σ ρ) (k : RsOk F G H σ ρ v r) (e : asg ρ i r = some ρ') :
    ∃ F', Same F F' ∧ Cln F G F' ∧ Rp F' G H b (σ.set i (some v)) ρ' := by
  have sh : ∀ r, RsOk F G H σ ρ v r → (do let (d, ρ1) ← cap ρ r; if free1 ρ1 i = true then some (ρ1.set i (.sh d)) else none) = some ρ' → ∃ F', Same F F' ∧ Cln F G F' ∧ Rp F' G H b (σ.set i (some v)) ρ' := fun r k e => by
    obtain ⟨⟨d, ρ1⟩, e1, e⟩ := bind_some e
    obtain ⟨hf, e⟩ := ite_some e
    cases e
    obtain ⟨F', s1, c1, h1, dv⟩ := cap_ok h k e1
    exact ⟨F', s1, c1, h1.setSh (free1_lt hf) dv⟩
  cases r with
  | sh d => exact sh _ k e
  | bw j => exact sh _ k e
  | fr ds =>
    obtain ⟨hf, e⟩ := ite_some (show (if free1 ρ i = true then some (ρ.set i (.own ds)) else none) = some ρ' from e)
    cases e
    obtain ⟨p, vs, rfl, a, x, f, g, n⟩ := k
    exact ⟨F, .refl _, .refl _ _, h.setOwn (free1_lt hf) a x f g n⟩

/-! ### targets of loops -/
theorem wipe_ne {σ : L2.St} {i : Nat} : ∀ {vs : List Nat}, i ∉ vs → (wipe σ vs)[i]? = σ[i]?
  | [], _ => rfl
  | v :: vs, h => by
    unfold wipe
    have h1 : v ≠ i := fun z => h (by rw [z]; exact List.mem_cons_self)
    rw [List.getElem?_set_ne h1]
    exact wipe_ne fun z => h (List.mem_cons_of_mem _ z)
theorem wipe_in {σ : L2.St} {i : Nat} : ∀ {vs : List Nat}, i ∈ vs → i < σ.length → (wipe σ vs)[i]? = some none
  | v :: vs, h, hl => by
    unfold wipe
    by_cases q : v = i
    · subst q
      exact List.getElem?_set_self (by rw [wipe_length]; exact hl)
    · rw [List.getElem?_set_ne q]
      refine wipe_in ?_ hl
      rcases List.mem_cons.mp h with z | z
      · exact absurd z.symm q
      · exact z
theorem wipe_set {σ : L2.St} {i : Nat} {o : Option V} {vs : List Nat} (h : i ∈ vs) : wipe (σ.set i o) vs = wipe σ vs := by
  apply List.ext_getElem?
  intro j
  by_cases q : j ∈ vs
  · by_cases hl : j < σ.length
    · rw [wipe_in q hl, wipe_in q (by rw [List.length_set]; exact hl)]
    · rw [List.getElem?_eq_none (by rw [wipe_length, List.length_set]; omega), List.getElem?_eq_none (by rw [wipe_length]; omega)]
  · rw [wipe_ne q, wipe_ne q, List.getElem?_set_ne]
    intro z
    exact q (z ▸ h)
abbrev MG := D → En → Option En
def tMG (g : MG) (ws : List Nat) : TG := fun v σ H Q => ∃ F G b ρ d, Rp F G H b σ ρ ∧ Dv F v d ∧ ∃ ρ', g d ρ = some ρ' ∧ ∀ σ', Rp F G H b σ' ρ' → (∀ vs, (∀ i ∈ ws, i ∈ vs) → wipe σ' vs = wipe σ vs) → Q σ' H
structure MGt (X : Cx) (tg : Expr) (g : MG) (ws : List Nat) : Prop where
  ok : PG X tg (tMG g ws)
def gNm (i : Nat) : MG := fun d ρ => if free1 ρ i = true then some (ρ.set i (.sh d)) else none
theorem _root_.L2.PG.imq {X : Cx} {e : Expr} {t t' : TG} (h : PG X e t) (i : ∀ v σ H Q, t' v σ H Q → t v σ H Q) : PG X e t' := ⟨fun pins s σ H v u Q I r q => h.run pins s σ H v u Q I r (i v σ H Q q)⟩
theorem _root_.L2.PI.imq {X : Cx} {tg e : Expr} {t t' : TI} (h : PI X tg e t) (i : ∀ σ H Q, t' σ H Q → t σ H Q) : PI X tg e t' := ⟨fun pins s σ H R I q => h.run pins s σ H R I (i σ H R q)⟩
section
variable {X : Cx} {e a b c tg : Expr} {pos : Pos} {m ma mb mc : MR} {t u : MB}
theorem mg_name {i : Nat} {x : Str} (h : PG X (.Name x pos) (gName i)) : MGt X (.Name x pos) (gNm i) [i] := ⟨h.imq fun v σ H Q q => by
  obtain ⟨F, G, b, ρ, d, hr, dv, ρ', e, k⟩ := q
  obtain ⟨hf, e⟩ := ite_some e
  cases e
  exact k _ (hr.setSh (free1_lt hf) dv) fun vs hv => wipe_set (hv i (by simp))⟩
abbrev MGs' := List D → En → Option En
def tMGs (g : MGs') (ws : List Nat) : TGs := fun vs σ H Q => ∃ F G b ρ ds, Rp F G H b σ ρ ∧ Dvs F vs ds ∧ ∃ ρ', g ds ρ = some ρ' ∧ ∀ σ', Rp F G H b σ' ρ' → (∀ vs, (∀ i ∈ ws, i ∈ vs) → wipe σ' vs = wipe σ vs) → Q σ' H
structure MGts (X : Cx) (tg : List Expr) (g : MGs') (ws : List Nat) : Prop where
  ok : PGs X tg (tMGs g ws)
def gNil' : MGs' := fun ds ρ => match ds with
  | [] => some ρ
  | _ :: _ => none
def gCons' (g : MG) (gs : MGs') : MGs' := fun ds ρ => match ds with
  | [] => none
  | d :: r => do
    let ρ1 ← g d ρ
    gs r ρ1
theorem _root_.L2.PGs.imq {X : Cx} {e : List Expr} {t t' : TGs} (h : PGs X e t) (i : ∀ v σ H Q, t' v σ H Q → t v σ H Q) : PGs X e t' := ⟨fun pins s σ H v u Q I r q => h.run pins s σ H v u Q I r (i v σ H Q q)⟩
theorem mgs_nil : MGts X [] gNil' [] := ⟨pgs_nil.imq fun vs σ H Q q => by
  obtain ⟨F, G, b, ρ, ds, hr, dv, ρ', e, k⟩ := q
  cases dv with
  | nil =>
    cases e
    exact ⟨rfl, k σ hr fun _ _ => rfl⟩
  | cons _ _ => cases e⟩
theorem mgs_cons {es : List Expr} {g : MG} {gs : MGs'} {w1 w2 : List Nat} (h1 : MGt X e g w1) (h2 : MGts X es gs w2) (hs : (assignEach (e :: es) X.env).map (·.2) = assign e X.env :: (assignEach es X.env).map (·.2) := by rfl) : MGts X (e :: es) (gCons' g gs) (w1 ++ w2) :=
  ⟨(pgs_cons h1.ok h2.ok hs).imq fun vs σ H Q q => by
    obtain ⟨F, G, b, ρ, ds, hr, dv, ρ', e, k⟩ := q
    cases dv with
    | nil => cases e
    | cons dv dvs =>
      obtain ⟨ρ1, e1, e2⟩ := bind_some e
      refine ⟨_, _, rfl, F, G, b, ρ, _, hr, dv, ρ1, e1, fun σ1 hr1 w1' => ?_⟩
      refine ⟨F, G, b, ρ1, _, hr1, dvs, ρ', e2, fun σ2 hr2 w2' => k σ2 hr2 fun vs hv => ?_⟩
      rw [w2' vs fun i hi => hv i (List.mem_append_right _ hi), w1' vs fun i hi => hv i (List.mem_append_left _ hi)]⟩
def gTp (n : Nat) (gs : MGs') : MG := fun d ρ => match d with
  | .tuple ds => if ds.length = n then gs ds ρ else none
  | _ => none
theorem ite_some' {α : Type} {c : Prop} [Decidable c] {a : Option α} {z : α} (h : (if c then a else none) = some z) : c ∧ a = some z := by
  by_cases q : c
  · rw [if_pos q] at h
    exact ⟨q, h⟩
  · rw [if_neg q] at h
    cases h
theorem mg_tup {es : List Expr} {k n : Nat} {gs : MGs'} {ws : List Nat} (hc : X.calm = true) (h : MGts X es gs ws) (hn : (assignEach es X.env).length = n := by rfl) (hst : (assignEach es X.env).findIdx? (·.1) = none := by rfl) : MGt X (.Tuple es k pos) (gTp n gs) ws :=
  ⟨(pg_tup hc h.ok hn hst).imq fun v σ H Q q => by
    obtain ⟨F, G, b, ρ, d, hr, dv, ρ', e, k⟩ := q
    cases dv with
    | tup hx dvs =>
      obtain ⟨hl, e⟩ := ite_some' (show (if _ = n then gs _ ρ else none) = some ρ' from e)
      exact ⟨_, _, rfl, .of (hr.fh _ _ hx), by rw [dvs.len]; exact hl, F, G, b, ρ, _, hr, dvs, ρ', e, k⟩
    | non => cases e
    | bl _ => cases e
    | int _ => cases e
    | str _ => cases e
    | lst _ _ => cases e
    | frz _ _ => cases e⟩

/-! ### what is walked -/
structure Wk (J : It) (F : Hp) (ds : List D) : Prop where
  go : ∀ i H, i < ds.length → Same F H → J.go i H
  stop : ∀ H, Same F H → J.stop ds.length H
  yld : ∀ i F1 H x H', i < ds.length → Same F F1 → Same F1 H → J.yld i H x H' → ∃ F2 d, ds[i]? = some d ∧ Post F1 H (.sh d) F2 H' x
abbrev MI := En → Option (List D × En)
def tMI (m : MI) : TI := fun σ H R => ∃ F G b ρ, Rp F G H b σ ρ ∧ ∃ ds ρ', m ρ = some (ds, ρ') ∧ ∀ F' H' J, Same F F' → Cln F G F' → Rp F' G H' b σ ρ' → Wk J F' ds → R J H'
structure MIt (X : Cx) (tg e : Expr) (m : MI) : Prop where
  ok : PI X tg e (tMI m)
def charsD (z : Str) : List D := z.cps.toList.map fun c => .str ⟨#[c]⟩
def itemsD : D → Option (List D)
  | .list ds => some ds
  | .tuple ds => some ds
  | .str z => some (charsD z)
  | _ => none
def mIter (m : MR) : MI := fun ρ => do
  let (d, ρ1) ← mCap m ρ
  let ds ← itemsD d
  some (ds, ρ1)
theorem wk_list {K : Fr0} {F : Hp} {p : Addr} {vs : List V} {ds : List D} (h : F p = some (.lst vs)) (a : Dvs F vs ds) : Wk (Itl K p) F ds := by
  refine ⟨fun i H hi s => ?_, fun H s => ⟨vs, .of (s _ _ h), by rw [a.len]; exact Nat.le_refl _⟩, fun i F1 H x H' hi s1 s2 y => ?_⟩
  · have hv : i < vs.length := by rw [a.len]; exact hi
    exact ⟨vs, vs[i], .of (s _ _ h), List.getElem?_eq_getElem hv⟩
  · obtain ⟨rfl, y⟩ := y
    obtain ⟨v, e1, dv⟩ := a.get (List.getElem?_eq_getElem hi)
    have e2 := y vs (.of (s2 _ _ (s1 _ _ h)))
    rw [e1] at e2
    cases e2
    exact ⟨F1, _, List.getElem?_eq_getElem hi, post_sh s2 (dv.mono s1)⟩
theorem wk_tup {K : Fr0} {F : Hp} {p : Addr} {vs : List V} {ds : List D} (h : F p = some (.tup vs)) (a : Dvs F vs ds) : Wk (Itt K p) F ds := by
  refine ⟨fun i H hi s => ?_, fun H s => ⟨vs, .of (s _ _ h), by rw [a.len]; exact Nat.le_refl _⟩, fun i F1 H x H' hi s1 s2 y => ?_⟩
  · have hv : i < vs.length := by rw [a.len]; exact hi
    exact ⟨vs, vs[i], .of (s _ _ h), List.getElem?_eq_getElem hv⟩
  · obtain ⟨rfl, y⟩ := y
    obtain ⟨v, e1, dv⟩ := a.get (List.getElem?_eq_getElem hi)
    have e2 := y vs (.of (s2 _ _ (s1 _ _ h)))
    rw [e1] at e2
    cases e2
    exact ⟨F1, _, List.getElem?_eq_getElem hi, post_sh s2 (dv.mono s1)⟩
theorem charsD_len (z : Str) : (charsD z).length = z.cps.size := by
  unfold charsD
  rw [List.length_map, Array.length_toList]
theorem wk_str {F : Hp} {z : Str} : Wk (Its z) F (charsD z) := by
  refine ⟨fun i H hi s => by rw [charsD_len] at hi; exact hi, fun H s => by rw [charsD_len]; exact Nat.le_refl _, fun i F1 H x H' hi s1 s2 y => ?_⟩
  obtain ⟨rfl, c, hc, rfl⟩ := y
  refine ⟨F1, .str ⟨#[c]⟩, ?_, post_sh s2 (.str _)⟩
  unfold charsD
  rw [List.getElem?_map, Array.getElem?_toList, hc]
  rfl
theorem mi_of (ha : ME X a ma) : MIt X tg a (mIter ma) := ⟨by
  have pl := pi_list (tg := tg) ha.ok
  have pt := pi_tup (tg := tg) ha.ok
  have ps := pi_str (tg := tg) ha.ok
  refine ⟨fun pins s σ H R I q => ?_⟩
  obtain ⟨F, G, b, ρ, hr, ds, ρ', e, k⟩ := q
  obtain ⟨⟨d, ρ1⟩, e1, e⟩ := bind_some e
  obtain ⟨ds1, e2, e⟩ := bind_some e
  cases e
  obtain ⟨⟨r, ρ0⟩, e0, e1⟩ := bind_some e1
  -- the three roads share the operand
  have step : ∀ (Z : V → Hp → Prop), (∀ F2 H1 v1, Same F F2 → Cln F G F2 → Rp F2 G H1 b σ ρ' → Dv F2 v1 d → Z v1 H1) → tM ma σ H Z := fun Z z =>
    ⟨F, G, b, ρ, hr, r, ρ0, e0, fun F1 H1 v1 s1 c1 h1 k1 => by
      obtain ⟨F2, s2, c2, h2, dv⟩ := cap_ok h1 k1 e1
      exact z F2 H1 v1 (s1.trans s2) (c1.trans c2) h2 dv⟩
  cases d with
  | list xs =>
    cases e2
    refine pl.run pins s σ H R I (step _ fun F2 H1 v1 s1 c1 h1 dv => ?_)
    cases dv with
    | lst hx dvs => exact ⟨_, rfl, ⟨_, .of (h1.fh _ _ hx)⟩, k F2 H1 _ s1 c1 h1 (wk_list hx dvs)⟩
  | tuple xs =>
    cases e2
    refine pt.run pins s σ H R I (step _ fun F2 H1 v1 s1 c1 h1 dv => ?_)
    cases dv with
    | tup hx dvs => exact ⟨_, rfl, ⟨_, .of (h1.fh _ _ hx)⟩, k F2 H1 _ s1 c1 h1 (wk_tup hx dvs)⟩
  | str z =>
    cases e2
    refine ps.run pins s σ H R I (step _ fun F2 H1 v1 s1 c1 h1 dv => ?_)
    cases dv with
    | str z => exact ⟨_, rfl, k F2 H1 _ s1 c1 h1 wk_str⟩
  | none => cases e2
  | bool _ => cases e2
  | int _ => cases e2
  | dict _ => cases e2⟩
/-! ranges -/
def rangeL (lo : Int) : Nat → List Int
  | 0 => []
  | n + 1 => lo :: rangeL (lo + 1) n
theorem rangeL_len (lo : Int) : ∀ n, (rangeL lo n).length = n
  | 0 => rfl
  | n + 1 => by unfold rangeL; rw [List.length_cons, rangeL_len (lo + 1) n]
theorem rangeL_get : ∀ (lo : Int) (n i : Nat), i < n → (rangeL lo n)[i]? = some (lo + i)
  | lo, n + 1, 0, _ => by
    unfold rangeL
    show some lo = some (lo + ((0 : Nat) : Int))
    rw [show lo + ((0 : Nat) : Int) = lo by omega]
  | lo, n + 1, i + 1, h => by
    unfold rangeL
    rw [List.getElem?_cons_succ, rangeL_get (lo + 1) n i (by omega)]
    congr 1
    omega
def rangeD (lo hi : Int) : List D := (rangeL lo (hi - lo).toNat).map .int
theorem wk_range {F : Hp} {lo : Int} {n : Nat} : Wk (Itr lo n) F ((rangeL lo n).map .int) := by
  refine ⟨fun i H hi s => by rw [List.length_map, rangeL_len] at hi; exact hi, fun H s => by rw [List.length_map, rangeL_len]; exact Nat.le_refl _, fun i F1 H x H' hi s1 s2 y => ?_⟩
  obtain ⟨rfl, rfl⟩ := y
  rw [List.length_map, rangeL_len] at hi
  exact ⟨F1, _, by rw [List.getElem?_map, rangeL_get lo n i hi]; rfl, post_sh s2 (.int _)⟩
def i62 (i : Int) : Bool := decide (-(2 ^ 62) ≤ i) && decide (i < 2 ^ 62)
def mRange1 (ms : MA) : MI := fun ρ => do
  let (ds, ρ1) ← ms ρ
  match ds with
  | [.int j] => if i62 j = true then some (rangeD 0 j, ρ1) else none
  | _ => none
def mRange2 (ms : MA) : MI := fun ρ => do
  let (ds, ρ1) ← ms ρ
  match ds with
  | [.int i, .int j] => if (i62 i && i62 j) = true then some (rangeD i j, ρ1) else none
  | _ => none
theorem i62_ok {i : Int} (h : i62 i = true) : -(2 ^ 62) ≤ i ∧ i < 2 ^ 62 := by
  unfold i62 at h
  have := Bool.and_eq_true_iff.mp h
  exact ⟨of_decide_eq_true this.1, of_decide_eq_true this.2⟩
variable {ms : MA} {p : Pos}
theorem mi_range1 (hg : Gl X "range") (hm : X.mg "range" = none) (ha : MAs X [a] ms) (hs : starEach [a] X.env = [(false, eval a X.env)] := by rfl) : MIt X tg (.Call (.Name "range" p) [a] [] pos) (mRange1 ms) := ⟨(pi_range1 hg hm ha.ok hs).imq fun σ H R q => by
  obtain ⟨F, G, b, ρ, hr, ds, ρ', e, k⟩ := q
  obtain ⟨⟨ds1, ρ1⟩, e1, e⟩ := bind_some e
  refine ⟨F, G, b, ρ, hr, ds1, ρ1, e1, fun F1 H1 vs s1 c1 h1 dvs => ?_⟩
  match ds1, dvs, e with
  | [.int j], .cons (.int _) .nil, e =>
    obtain ⟨hj, e⟩ := ite_some (show (if i62 j = true then some (rangeD 0 j, ρ1) else none) = some (ds, ρ') from e)
    cases e
    have b62 := i62_ok hj
    refine ⟨j, rfl, b62.1, b62.2, k F1 H1 _ s1 c1 h1 ?_⟩
    have := wk_range (F := F1) (lo := 0) (n := j.toNat)
    unfold rangeD
    rw [show (j - 0).toNat = j.toNat by omega]
    exact this⟩
theorem mi_range2 (hg : Gl X "range") (hm : X.mg "range" = none) (ha : MAs X [a, b] ms) (hs : starEach [a, b] X.env = [(false, eval a X.env), (false, eval b X.env)] := by rfl) (hs2 : starEach [b] X.env = [(false, eval b X.env)] := by rfl) :
    MIt X tg (.Call (.Name "range" p) [a, b] [] pos) (mRange2 ms) := ⟨(pi_range2 hg hm ha.ok hs hs2).imq fun σ H R q => by
  obtain ⟨F, G, b, ρ, hr, ds, ρ', e, k⟩ := q
  obtain ⟨⟨ds1, ρ1⟩, e1, e⟩ := bind_some e
  refine ⟨F, G, b, ρ, hr, ds1, ρ1, e1, fun F1 H1 vs s1 c1 h1 dvs => ?_⟩
  match ds1, dvs, e with
  | [.int i, .int j], .cons (.int _) (.cons (.int _) .nil), e =>
    obtain ⟨hj, e⟩ := ite_some (show (if (i62 i && i62 j) = true then some (rangeD i j, ρ1) else none) = some (ds, ρ') from e)
    cases e
    have hj := Bool.and_eq_true_iff.mp hj
    have b1 := i62_ok hj.1
    have b2 := i62_ok hj.2
    exact ⟨i, j, rfl, ⟨b1.1, b1.2, b2.1, b2.2⟩, k F1 H1 _ s1 c1 h1 wk_range⟩⟩
end
end Mi
set_option Elab.async false
set_option linter.all false
set_option maxRecDepth 100000
/-! Core4: comprehensions, statements, loops, defs. -/
namespace Mi
open PySem PySem.Spec PyProof.Rows L2
variable [KK]

/-! ### comprehensions -/
def wipeE (ρ : En) : List Nat → En
  | [] => ρ
  | v :: vs => (wipeE ρ vs).set v .no
def backE (ρ ρ1 : En) : List Nat → En
  | [] => ρ1
  | v :: vs => (backE ρ ρ1 vs).set v (ρ.getD v .no)
def okW (ρ : En) (vs : List Nat) : Bool := vs.all fun v => match ρ[v]? with
  | some (.own _) => false
  | some (.io _) => false
  | some (.dct _) => false
  | some (.lent _) => false
  | _ => true
theorem wipeE_len (ρ : En) : ∀ vs, (wipeE ρ vs).length = ρ.length
  | [] => rfl
  | v :: vs => by unfold wipeE; rw [List.length_set, wipeE_len ρ vs]
theorem backE_len (ρ ρ1 : En) : ∀ vs, (backE ρ ρ1 vs).length = ρ1.length
  | [] => rfl
  | v :: vs => by unfold backE; rw [List.length_set, backE_len ρ ρ1 vs]
theorem wipeE_get {ρ : En} {i : Nat} {m : M} : ∀ {vs : List Nat}, (wipeE ρ vs)[i]? = some m → (i ∈ vs ∧ m = .no) ∨ (i ∉ vs ∧ ρ[i]? = some m)
  | [], h => .inr ⟨by simp, h⟩
  | v :: vs, h => by
    unfold wipeE at h
    rcases get_set h with ⟨rfl, rfl⟩ | ⟨hj, h⟩
    · exact .inl ⟨List.mem_cons_self, rfl⟩
    · rcases wipeE_get h with ⟨a, b⟩ | ⟨a, b⟩
      · exact .inl ⟨List.mem_cons_of_mem _ a, b⟩
      · refine .inr ⟨fun z => ?_, b⟩
        rcases List.mem_cons.mp z with z | z
        · exact hj z
        · exact a z
theorem backE_get {ρ ρ1 : En} {i : Nat} {m : M} : ∀ {vs : List Nat}, (backE ρ ρ1 vs)[i]? = some m → (i ∈ vs ∧ m = ρ.getD i .no) ∨ (i ∉ vs ∧ ρ1[i]? = some m)
  | [], h => .inr ⟨by simp, h⟩
  | v :: vs, h => by
    unfold backE at h
    rcases get_set h with ⟨rfl, rfl⟩ | ⟨hj, h⟩
    · exact .inl ⟨List.mem_cons_self, rfl⟩
    · rcases backE_get h with ⟨a, b⟩ | ⟨a, b⟩
      · exact .inl ⟨List.mem_cons_of_mem _ a, b⟩
      · refine .inr ⟨fun z => ?_, b⟩
        rcases List.mem_cons.mp z with z | z
        · exact hj z
        · exact a z
section
variable {F F' G H H' : Hp} {b : Fm} {σ σ2 : L2.St} {ρ ρ3 : En} {vs : List Nat}
theorem Rp.wiped (h : Rp F G H b σ ρ) : Rp F G H b (wipe σ vs) (wipeE ρ vs) := by
  have oo : ∀ i, OwnAt (wipeE ρ vs) i → OwnAt ρ i ∧ i ∉ vs := fun i o => by
    rcases o with ⟨ds, e⟩ | ⟨ds, e⟩ | ⟨ds, e⟩
    · rcases wipeE_get e with ⟨_, z⟩ | ⟨a, z⟩
      · cases z
      · exact ⟨.inl ⟨ds, z⟩, a⟩
    · rcases wipeE_get e with ⟨_, z⟩ | ⟨a, z⟩
      · cases z
      · exact ⟨.inr (.inl ⟨ds, z⟩), a⟩
    · rcases wipeE_get e with ⟨_, z⟩ | ⟨a, z⟩
      · cases z
      · exact ⟨.inr (.inr ⟨ds, z⟩), a⟩
  refine ⟨h.fh, h.gh, by rw [wipeE_len, wipe_length]; exact h.len, fun i m q => ?_, fun i j p oi oj ei ej => ?_, h.lg⟩
  · rcases wipeE_get q with ⟨_, rfl⟩ | ⟨hi, q⟩
    · trivial
    · exact (h.slot i m q).at (wipe_ne hi)
  · obtain ⟨oi, ni⟩ := oo i oi
    obtain ⟨oj, nj⟩ := oo j oj
    rw [wipe_ne ni] at ei
    rw [wipe_ne nj] at ej
    exact h.ne i j p oi oj ei ej
/-- behind a turn of a comprehension: its own slots are what they were -/
theorem Rp.backed (h0 : Rp F G H b σ ρ) (e : Same F F') (h : Rp F' G H' b σ2 ρ3) (w : wipe σ2 vs = wipe σ vs) (ok : okW ρ vs = true) : Rp F' G H' b σ (backE ρ ρ3 vs) := by
  have ls : σ2.length = σ.length := by
    have := congrArg List.length w
    rw [wipe_length, wipe_length] at this
    exact this
  have out : ∀ i, i ∉ vs → σ[i]? = σ2[i]? := fun i hi => by rw [← wipe_ne (σ := σ2) hi, w, wipe_ne hi]
  have noW : ∀ i, i ∈ vs → ∀ m, m = ρ.getD i .no → (m = .no ∨ ∃ d, m = .sh d ∧ ρ[i]? = some m) := fun i hi m hm => by
    have q := List.all_eq_true.mp ok i hi
    rw [List.getD_eq_getElem?_getD] at hm
    cases z : ρ[i]? with
    | none => rw [z] at hm; exact .inl hm
    | some w =>
      rw [z] at hm q
      cases w with
      | no => exact .inl hm
      | sh d => exact .inr ⟨d, hm, by rw [hm]; rfl⟩
      | own ds => cases q
      | io ds => cases q
      | dct ds => cases q
      | lent ds => cases q
  have oo : ∀ i, OwnAt (backE ρ ρ3 vs) i → OwnAt ρ3 i ∧ i ∉ vs := fun i o => by
    rcases o with ⟨ds, e⟩ | ⟨ds, e⟩ | ⟨ds, e⟩
    · rcases backE_get e with ⟨a, z⟩ | ⟨a, z⟩
      · rcases noW i a _ z with q | ⟨d, q, _⟩ <;> cases q
      · exact ⟨.inl ⟨ds, z⟩, a⟩
    · rcases backE_get e with ⟨a, z⟩ | ⟨a, z⟩
      · rcases noW i a _ z with q | ⟨d, q, _⟩ <;> cases q
      · exact ⟨.inr (.inl ⟨ds, z⟩), a⟩
    · rcases backE_get e with ⟨a, z⟩ | ⟨a, z⟩
      · rcases noW i a _ z with q | ⟨d, q, _⟩ <;> cases q
      · exact ⟨.inr (.inr ⟨ds, z⟩), a⟩
  refine ⟨h.fh, h.gh, by rw [backE_len, h.len, ls], fun i m q => ?_, fun i j p oi oj ei ej => ?_, h.lg⟩
  · rcases backE_get q with ⟨a, z⟩ | ⟨a, z⟩
    · rcases noW i a m z with rfl | ⟨d, rfl, q⟩
      · trivial
      · obtain ⟨v, c, dv⟩ := h0.slot i _ q
        exact ⟨v, c, dv.mono e⟩
    · exact (h.slot i m z).at (out i a)
  · obtain ⟨oi, ni⟩ := oo i oi
    obtain ⟨oj, nj⟩ := oo j oj
    rw [out i ni] at ei
    rw [out j nj] at ej
    exact h.ne i j p oi oj ei ej
end
theorem wipe_wipe {σ : L2.St} {vs : List Nat} : wipe (wipe σ vs) vs = wipe σ vs := by
  apply List.ext_getElem?
  intro j
  by_cases q : j ∈ vs
  · by_cases hl : j < σ.length
    · rw [wipe_in q hl, wipe_in q (by rw [wipe_length]; exact hl)]
    · rw [List.getElem?_eq_none (by rw [wipe_length, wipe_length]; omega), List.getElem?_eq_none (by rw [wipe_length]; omega)]
  · rw [wipe_ne q]
def mYes : MB := fun ρ => some (true, ρ)
def lcGo (g : MG) (t : MB) (el : MR) (vs : List Nat) : List D → En → List D → Option (List D × En)
  | [], ρ, acc => some (acc, ρ)
  | d :: ds, ρ, acc => do
    let ρ1 ← g d (wipeE ρ vs)
    let (k, ρ2) ← t ρ1
    if k = true then do
      let (y, ρ3) ← mCap el ρ2
      if acc.length < lim then lcGo g t el vs ds (backE ρ ρ3 vs) (acc ++ [y]) else none
    else lcGo g t el vs ds (backE ρ ρ2 vs) acc
def mLc (it : MI) (g : MG) (t : MB) (el : MR) (vs : List Nat) : MR := fun ρ => do
  let (ds, ρ1) ← it ρ
  if okW ρ1 vs = true then do
    let (acc, ρ2) ← lcGo g t el vs ds ρ1 []
    some (.fr acc, ρ2)
  else none
theorem okW_back {ρ ρ3 : En} {vs : List Nat} (hl : ρ3.length = ρ.length) (h : okW ρ vs = true) : okW (backE ρ ρ3 vs) vs = true := by
  unfold okW at h ⊢
  rw [List.all_eq_true] at h ⊢
  intro i hi
  have q := h i hi
  cases z : (backE ρ ρ3 vs)[i]? with
  | none => rfl
  | some m =>
    rcases backE_get z with ⟨_, e⟩ | ⟨e, _⟩
    · rw [List.getD_eq_getElem?_getD] at e
      cases y : ρ[i]? with
      | none => rw [y] at e; subst e; rfl
      | some w =>
        rw [y] at e q
        cases w <;> first | (cases q; done) | (subst e; rfl)
    · exact absurd hi e
/-- the tests of a clause -/
structure MTs (X : Cx) (ifs : List Expr) (t : MB) : Prop where
  ok : PTs X ifs (tMB t)
theorem mts_nil {X : Cx} : MTs X [] mYes := ⟨⟨fun pins s σ H Q I q => pts_nil.run pins s σ H Q I (by
  obtain ⟨F, G, b, ρ, hr, r, ρ', e, k⟩ := q
  cases e
  exact k F H (.refl _) (.refl _ _) hr)⟩⟩
theorem mts_one {X : Cx} {c : Expr} {t : MB} (h : MT X c t) : MTs X [c] t := ⟨pts_one h.ok⟩
theorem same_less {G H : Hp} {p : Addr} (h : G p = none) {o : HO} (e : Same (upd G p o) H) : Same G H := (same_upd h).trans e
section
variable {X : Cx} {elt tg iter : Expr} {ifs : List Expr} {scope : Scope} {own : List (Str × Nat)} {pos : Pos} {it : MI} {g : MG} {t : MB} {el : MR}
/-- the loop of a comprehension: from the reading by plain functions to the layer's -/
theorem lc_read {ws : List Nat} {vs : List Nat} (hws : ∀ i ∈ ws, i ∈ vs) {σ : L2.St} {H : Hp} {Q : VK} (q : tM (mLc it g t el vs) σ H Q) : tLc (tMI it) (tMG g ws) (tMB t) (tM el) vs σ H Q := by
  obtain ⟨F, G, b, ρ, hr, r, ρ', e, k⟩ := q
  obtain ⟨⟨ds, ρ1⟩, e1, e⟩ := bind_some e
  obtain ⟨hok, e⟩ := ite_some' e
  obtain ⟨⟨accE, ρ2⟩, e2, e⟩ := bind_some e
  cases e
  refine ⟨F, G, b, ρ, hr, ds, ρ1, e1, fun F1 H1 J s1 c1 h1 wk Dl hD => ?_⟩
  have gD : G Dl = none := h1.gh.free hD
  have fD : F1 Dl = none := h1.fh.free hD
  refine ⟨fun i m Hc => i ≤ ds.length ∧ m = ds.length - i ∧ ∃ F2 ρi acc vacc, Same F1 F2 ∧ Cln F1 G F2 ∧ Rp F2 G Hc b σ ρi ∧ Hc Dl = some (.lst vacc) ∧ Dvs F2 vacc acc ∧ F2 Dl = none ∧
      (∀ j, OwnAt ρi j → σ[j]? ≠ some (some (.ref Dl))) ∧ okW ρi vs = true ∧ lcGo g t el vs (ds.drop i) ρi acc = some (accE, ρ'), ⟨ds.length, Nat.zero_le _, rfl, F1, ρ1, [], [], .refl _, .refl _ _, ?_, upd_same, .nil, fD, ?_, hok, e2⟩, ?_⟩
  · exact h1.grow (.refl _) (same_upd hD) (h1.fh.trans (same_upd hD)) fun i p o q => (h1.own_some o q).elim fun _ z => z.2.1
  · intro j o q
    obtain ⟨_, z, _, _⟩ := h1.own_some o q
    rw [hD] at z
    cases z
  rintro i m Hc ⟨hi, rfl, F2, ρi, acc, vacc, s2, c2, h2, aD, xD, fD2, nD, okI, eL⟩
  by_cases hlt : i < ds.length
  · have hdrop : ds.drop i = ds[i] :: ds.drop (i + 1) := List.drop_eq_getElem_cons hlt
    rw [hdrop] at eL
    obtain ⟨ρa, ea, eL⟩ := bind_some eL
    obtain ⟨⟨kb, ρb⟩, eb, eL⟩ := bind_some eL
    refine .inr ⟨wk.go i Hc hlt (s2.trans h2.fh), fun H' => ∃ F5 ρ5 acc5 vacc5, Same F1 F5 ∧ Cln F1 G F5 ∧ Rp F5 G H' b σ ρ5 ∧ H' Dl = some (.lst vacc5) ∧ Dvs F5 vacc5 acc5 ∧ F5 Dl = none ∧
      (∀ j, OwnAt ρ5 j → σ[j]? ≠ some (some (.ref Dl))) ∧ okW ρ5 vs = true ∧ lcGo g t el vs (ds.drop (i + 1)) ρ5 acc5 = some (accE, ρ'), fun H' ⟨F5, ρ5, a5, v5, r5⟩ => ⟨ds.length - (i + 1), by omega, by omega, rfl, F5, ρ5, a5, v5, r5⟩, fun x H' y => ?_⟩
    obtain ⟨F3, d, ed, P⟩ := wk.yld i F2 Hc x H' hlt s2 h2.fh y
    have edd : d = ds[i] := by
      rw [List.getElem?_eq_getElem hlt] at ed
      exact (Option.some.inj ed).symm
    subst edd
    -- the guard: G and the list that grows
    have gu : Same (upd G Dl (.lst vacc)) H' := fun a o q => by
      by_cases z : a = Dl
      · subst z
        rw [upd_same] at q
        rw [P.hh _ _ aD, q]
      · rw [upd_ne z] at q
        exact P.hh _ _ (h2.gh _ _ q)
    have h3 : Rp F3 G H' b σ ρi := P.rp h2
    have c3 : Cln F2 G F3 := P.cln h2.gh
    have h3g : Rp F3 (upd G Dl (.lst vacc)) H' b (wipe σ vs) (wipeE ρi vs) := by
      refine (h3.more gu (h3.lg.trans (same_upd gD)) fun j p o q => ?_).wiped
      have : p ≠ Dl := fun z => nD j o (by rw [← z]; exact q)
      rw [upd_ne this]
      exact (h3.own_some o q).elim fun _ z => z.2.2
    have fD3 : F3 Dl = none := by
      cases z : F3 Dl with
      | none => rfl
      | some o =>
        rcases P.new Dl (by rw [z]; exact fun x => nomatch x) with w | w
        · exact absurd fD2 w
        · rw [aD] at w; cases w
    have dv : Dv F3 x ds[i] := P.res
    refine ⟨F3, _, b, _, _, h3g, dv, ρa, ea, fun σ2 h4 w4 => ⟨(w4 vs hws).trans wipe_wipe, ?_⟩⟩
    have w4' := (w4 vs hws).trans wipe_wipe
    refine ⟨F3, _, b, ρa, h4, kb, ρb, eb, fun F5 H5 s5 c5 h5 => ?_⟩
    have lenb : ∀ {ρz : En} {Fz Hz : Hp}, Rp Fz (upd G Dl (.lst vacc)) Hz b σ2 ρz → ρz.length = ρi.length := fun {ρz Fz Hz} hz => by
      have l1 := hz.len
      have l2 := congrArg List.length w4'
      rw [wipe_length, wipe_length] at l2
      rw [l1, l2, h3.len]
    have fin : ∀ {ρz : En} {Fz Hz : Hp}, Same F3 Fz → Cln F3 (upd G Dl (.lst vacc)) Fz → Rp Fz (upd G Dl (.lst vacc)) Hz b σ2 ρz →
        Rp Fz G Hz b σ (backE ρi ρz vs) ∧ Hz Dl = some (.lst vacc) ∧ Fz Dl = none ∧ (∀ j, OwnAt (backE ρi ρz vs) j → σ[j]? ≠ some (some (.ref Dl))) ∧ okW (backE ρi ρz vs) vs = true := fun {ρz Fz Hz} sz cz hz => by
      have hb := h3.backed sz (hz.less (same_upd gD) h3.lg) w4' okI
      have hb2 : Rp Fz (upd G Dl (.lst vacc)) Hz b σ (backE ρi ρz vs) := (h3.more gu (h3.lg.trans (same_upd gD)) fun j p o q => by
        have : p ≠ Dl := fun z => nD j o (by rw [← z]; exact q)
        rw [upd_ne this]
        exact (h3.own_some o q).elim fun _ z => z.2.2).backed sz hz w4' okI
      refine ⟨hb, hz.gh _ _ upd_same, ?_, fun j o q => ?_, okW_back (lenb hz) okI⟩
      · cases z : Fz Dl with
        | none => rfl
        | some o => exact absurd fD3 (cz Dl (by rw [upd_same]; exact fun x => nomatch x) (by rw [z]; exact fun x => nomatch x))
      · obtain ⟨_, _, _, z⟩ := hb2.own_some o q
        rw [upd_same] at z
        cases z
    cases kb with
    | false =>
      have eL : lcGo g t el vs (ds.drop (i + 1)) (backE ρi ρb vs) acc = some (accE, ρ') := eL
      refine iteF ?_
      obtain ⟨f1, f2, f3, f4, f5⟩ := fin s5 c5 h5
      exact ⟨F5, _, acc, vacc, s2.trans (P.ff.trans s5), c2.trans (c3.trans (c5.less (same_upd gD))), f1, f2, xD.mono (P.ff.trans s5), f3, f4, f5, eL⟩
    | true =>
      refine iteT ?_
      obtain ⟨⟨y', ρ6⟩, e6, eL⟩ := bind_some eL
      obtain ⟨hlen, eL⟩ := ite_some' eL
      obtain ⟨⟨r6, ρ7⟩, e7, e6⟩ := bind_some e6
      refine ⟨F5, _, b, ρb, h5, r6, ρ7, e7, fun F7 H7 v7 s7 c7 h7 k7 => ?_⟩
      obtain ⟨F8, s8, c8, h8, dv8⟩ := cap_ok h7 k7 e6
      have cc := c5.trans (c7.trans c8)
      obtain ⟨f1, f2, f3, f4, f5⟩ := fin (s5.trans (s7.trans s8)) cc h8
      have x8 : Dvs F8 vacc acc := xD.mono (P.ff.trans (s5.trans (s7.trans s8)))
      refine ⟨vacc, f2, by rw [xD.len]; exact lim_lt hlen, F8, _, acc ++ [y'], vacc ++ [v7], s2.trans (P.ff.trans (s5.trans (s7.trans s8))), c2.trans (c3.trans (cc.less (same_upd gD))), ?_, upd_same, x8.snoc dv8, f3, f4, f5, eL⟩
      -- the grown list: nobody else looks at it
      refine ⟨fun a o q => ?_, fun a o q => ?_, f1.len, fun j mm q => ?_, f1.ne, f1.lg⟩
      · rw [upd_ne (ne_of_none q f3)]
        exact f1.fh _ _ q
      · rw [upd_ne (ne_of_none q gD)]
        exact f1.gh _ _ q
      · have sl := f1.slot j mm q
        cases mm with
        | no => trivial
        | sh d => exact sl
        | own ds1 =>
          obtain ⟨p1, vs1, a1, c1', x1⟩ := sl
          exact ⟨p1, vs1, a1, by rw [upd_ne (fun z => f4 j (.inl ⟨ds1, q⟩) (by rw [← z]; exact a1))]; exact c1', x1⟩
        | io ds1 =>
          obtain ⟨a1, vs1, c1', x1⟩ := sl
          exact ⟨a1, vs1, by rw [upd_ne (fun z => f4 j (.inr (.inl ⟨ds1, q⟩)) (by rw [← z]; exact a1))]; exact c1', x1⟩
        | dct ks1 =>
          obtain ⟨p1, vs1, a1, c1', x1⟩ := sl
          exact ⟨p1, vs1, a1, by rw [upd_ne (fun z => f4 j (.inr (.inr ⟨ks1, q⟩)) (by rw [← z]; exact a1))]; exact c1', x1⟩
        | lent ds1 => exact sl
  · have ei : i = ds.length := by omega
    subst ei
    rw [List.drop_length] at eL
    cases eL
    refine .inl ⟨wk.stop Hc (s2.trans h2.fh), k F2 Hc (.ref Dl) (s1.trans s2) (c1.trans c2) h2 ⟨Dl, vacc, rfl, aD, xD, fD2, gD, nD⟩⟩
theorem me_lc {ws : List Nat} (hc : X.calm = true) (hN : X.N.Nodup) (hi : MIt X tg iter it) (ok : BlkOk X.N X.env.scope scope own)
    (hg : ∀ (s : Shared) (H : Hp) (C : Addr) (cl : List (Str × Addr)) (fp : List Addr), MGt (X.blk s H scope (compEnvC scope cl C X.env) fp) tg g ws)
    (ht : ∀ (s : Shared) (H : Hp) (C : Addr) (cl : List (Str × Addr)) (fp : List Addr), MTs (X.blk s H scope (compEnvC scope cl C X.env) fp) ifs t)
    (he : ∀ (s : Shared) (H : Hp) (C : Addr) (cl : List (Str × Addr)) (fp : List Addr), ME (X.blk s H scope (compEnvC scope cl C X.env) fp) elt el)
    (hws : ∀ i ∈ ws, i ∈ own.map (·.2) := by decide) (hs : ∀ x, foldedSetIterable iter X.env x = pure x := by intro _; rfl) :
    ME X (.ListComp elt [⟨tg, iter, ifs, 0⟩] scope pos) (mLc it g t el (own.map (·.2))) :=
  ⟨(pe_lc hc hN hi.ok ok (fun s H C cl fp => (hg s H C cl fp).ok) (fun s H C cl fp => (ht s H C cl fp).ok) (fun s H C cl fp => (he s H C cl fp).ok) hs).imq fun σ H Q q => lc_read hws q⟩
end

/-! ### statements -/
inductive Out where
  | nx | bk | ct | rt (r : R)
abbrev MS' := En → Option (Out × En)
def endOf (Dn : Ends) (F G H : Hp) (σ : L2.St) (ρ : En) : Out → Prop
  | .nx => Dn.nx σ H
  | .bk => Dn.bk σ H
  | .ct => Dn.ct σ H
  | .rt r => ∀ v, RsOk F G H σ ρ v r → Dn.rt v H
def tMS (m : MS') : TS := fun Dn σ H => ∃ F G b ρ, Rp F G H b σ ρ ∧ ∃ o ρ', m ρ = some (o, ρ') ∧ ∀ F' H' σ', Same F F' → Cln F G F' → Rp F' G H' b σ' ρ' → endOf Dn F' G H' σ' ρ' o
structure MSt (X : Cx) (st : Stmt) (m : MS') : Prop where
  ok : PS X st (tMS m)
structure MSs (X : Cx) (st : List Stmt) (m : MS') : Prop where
  ok : PSs X st (tMS m)
def sNil : MS' := fun ρ => some (.nx, ρ)
def sSeq (m n : MS') : MS' := fun ρ => do
  let (o, ρ1) ← m ρ
  match o with
  | .nx => n ρ1
  | o => some (o, ρ1)
section
variable {X : Cx} {e a b c tg : Expr} {pos : Pos} {m ma mb mc : MR} {t u : MB} {st : Stmt} {rest : List Stmt} {n n1 n2 : MS'}
theorem mss_nil : MSs X [] sNil := ⟨pss_nil.imq fun D σ H q => by
  obtain ⟨F, G, b, ρ, hr, o, ρ', e, k⟩ := q
  cases e
  exact k F H σ (.refl _) (.refl _ _) hr⟩
theorem mss_cons (h1 : MSt X st n1) (h2 : MSs X rest n2) : MSs X (st :: rest) (sSeq n1 n2) := ⟨(pss_cons h1.ok h2.ok).imq fun D σ H q => by
  obtain ⟨F, G, b, ρ, hr, o, ρ', e, k⟩ := q
  obtain ⟨⟨o1, ρ1⟩, e1, e⟩ := bind_some e
  refine ⟨F, G, b, ρ, hr, o1, ρ1, e1, fun F1 H1 σ1 s1 c1 h1 => ?_⟩
  cases o1 with
  | nx => exact ⟨F1, G, b, ρ1, h1, o, ρ', e, fun F2 H2 σ2 s2 c2 h2 => k F2 H2 σ2 (s1.trans s2) (c1.trans c2) h2⟩
  | bk => cases e; exact k F1 H1 σ1 s1 c1 h1
  | ct => cases e; exact k F1 H1 σ1 s1 c1 h1
  | rt r => cases e; exact k F1 H1 σ1 s1 c1 h1⟩
def sBrk : MS' := fun ρ => some (.bk, ρ)
def sCont : MS' := fun ρ => some (.ct, ρ)
theorem ms_pass : MSt X (.Pass pos) sNil := ⟨ps_pass.imq fun D σ H q => by
  obtain ⟨F, G, b, ρ, hr, o, ρ', e, k⟩ := q
  cases e
  exact k F H σ (.refl _) (.refl _ _) hr⟩
theorem ms_break : MSt X (.Break pos) sBrk := ⟨ps_break.imq fun D σ H q => by
  obtain ⟨F, G, b, ρ, hr, o, ρ', e, k⟩ := q
  cases e
  exact k F H σ (.refl _) (.refl _ _) hr⟩
theorem ms_continue : MSt X (.Continue pos) sCont := ⟨ps_continue.imq fun D σ H q => by
  obtain ⟨F, G, b, ρ, hr, o, ρ', e, k⟩ := q
  cases e
  exact k F H σ (.refl _) (.refl _ _) hr⟩
def sExpr (m : MR) : MS' := fun ρ => do
  let (_, ρ1) ← m ρ
  some (.nx, ρ1)
theorem ms_expr (he : ME X e m) (hs : swapsWith e none pos.line X.env = pure false := by rfl) : MSt X (.Expr e pos) (sExpr m) := ⟨(ps_expr he.ok hs).imq fun D σ H q => by
  obtain ⟨F, G, b, ρ, hr, o, ρ', e, k⟩ := q
  obtain ⟨⟨o1, ρ1⟩, e1, e⟩ := bind_some e
  cases e
  exact ⟨F, G, b, ρ, hr, o1, _, e1, fun F1 H1 v s1 c1 h1 k1 => k F1 H1 σ s1 c1 h1⟩⟩
/-- what is handed back: an own list becomes new data of the caller's -/
def retR (ρ : En) : R → Option (R × En)
  | .sh d => some (.sh d, ρ)
  | .fr ds => some (.fr ds, ρ)
  | .bw i => match ρ[i]? with
    | some (.own ds) => some (.fr ds, ρ.set i .no)
    | some (.sh d) => some (.sh d, ρ)
    | _ => none
def sRet (m : MR) : MS' := fun ρ => do
  let (r, ρ1) ← m ρ
  let (r', ρ2) ← retR ρ1 r
  some (.rt r', ρ2)
theorem Rp.drop {F G H : Hp} {b : Fm} {σ : L2.St} {ρ : En} {i : Nat} (h : Rp F G H b σ ρ) : Rp F G H b σ (ρ.set i .no) := by
  refine ⟨h.fh, h.gh, by rw [List.length_set]; exact h.len, fun j m q => ?_, fun j k p oj ok => ?_, h.lg⟩
  · rcases get_set q with ⟨rfl, rfl⟩ | ⟨_, q⟩
    · trivial
    · exact h.slot j m q
  · have z : ∀ j, OwnAt (ρ.set i .no) j → OwnAt ρ j := fun j o => by
      rcases own_set2 o with ⟨_, ⟨_, z⟩ | ⟨_, z⟩ | ⟨_, z⟩⟩ | ⟨_, o⟩
      · cases z
      · cases z
      · cases z
      · exact o
    exact h.ne j k p (z j oj) (z k ok)
theorem ret_ok {F G H : Hp} {b : Fm} {σ : L2.St} {ρ ρ' : En} {v : V} {r r' : R} (h : Rp F G H b σ ρ) (k : RsOk F G H σ ρ v r) (e : retR ρ r = some (r', ρ')) : Rp F G H b σ ρ' ∧ RsOk F G H σ ρ' v r' := by
  cases r with
  | sh d => cases e; exact ⟨h, k⟩
  | fr ds => cases e; exact ⟨h, k⟩
  | bw i =>
    have k' : σ[i]? = some (some v) := k
    unfold retR at e
    cases q : ρ[i]? with
    | none => simp [q] at e
    | some w =>
      have s := h.slot i w q
      cases w with
      | no => simp [q] at e
      | io ds => simp [q] at e
      | dct ds => simp [q] at e
      | lent ds => simp [q] at e
      | sh d =>
        simp only [q] at e
        cases e
        obtain ⟨v', a, c⟩ := s
        rw [k'] at a
        cases a
        exact ⟨h, c⟩
      | own ds =>
        simp only [q] at e
        cases e
        obtain ⟨p, vs, a, c, x, f, g⟩ := s
        rw [k'] at a
        cases a
        refine ⟨h.drop, p, vs, rfl, c, x, f, g, fun j o z => ?_⟩
        rcases own_set2 o with ⟨_, ⟨_, w⟩ | ⟨_, w⟩ | ⟨_, w⟩⟩ | ⟨hj, o⟩
        · cases w
        · cases w
        · cases w
        · exact hj (h.ne j i p o (.inl ⟨ds, q⟩) z k')
theorem ms_ret (he : ME X e m) : MSt X (.Return (some e) pos) (sRet m) := ⟨(ps_ret he.ok).imq fun D σ H q => by
  obtain ⟨F, G, b, ρ, hr, o, ρ', e, k⟩ := q
  obtain ⟨⟨r1, ρ1⟩, e1, e⟩ := bind_some e
  obtain ⟨⟨r2, ρ2⟩, e2, e⟩ := bind_some e
  cases e
  refine ⟨F, G, b, ρ, hr, r1, ρ1, e1, fun F1 H1 v s1 c1 h1 k1 => ?_⟩
  obtain ⟨h2, k2⟩ := ret_ok h1 k1 e2
  exact k F1 H1 σ s1 c1 h2 v k2⟩
def sRetN : MS' := fun ρ => some (.rt (.sh .none), ρ)
theorem ms_retN : MSt X (.Return none pos) sRetN := ⟨ps_retN.imq fun D σ H q => by
  obtain ⟨F, G, b, ρ, hr, o, ρ', e, k⟩ := q
  cases e
  exact k F H σ (.refl _) (.refl _ _) hr _ .non⟩
def sIf (t : MB) (n1 n2 : MS') : MS' := fun ρ => do
  let (k, ρ1) ← t ρ
  if k = true then n1 ρ1 else n2 ρ1
theorem ms_if {s1 s2 : List Stmt} (hc : MT X c t) (ha : MSs X s1 n1) (hb : MSs X s2 n2) : MSt X (.If c s1 s2 pos) (sIf t n1 n2) := ⟨(ps_if hc.ok ha.ok hb.ok).imq fun D σ H q => by
  obtain ⟨F, G, b, ρ, hr, o, ρ', e, k⟩ := q
  obtain ⟨⟨k1, ρ1⟩, e1, e⟩ := bind_some e
  refine ⟨F, G, b, ρ, hr, k1, ρ1, e1, fun F1 H1 s1 c1 h1 => ?_⟩
  cases k1 with
  | true => exact ⟨F1, G, b, ρ1, h1, o, ρ', e, fun F2 H2 σ2 s2 c2 h2 => k F2 H2 σ2 (s1.trans s2) (c1.trans c2) h2⟩
  | false => exact ⟨F1, G, b, ρ1, h1, o, ρ', e, fun F2 H2 σ2 s2 c2 h2 => k F2 H2 σ2 (s1.trans s2) (c1.trans c2) h2⟩⟩
def sSet (i : Nat) (m : MR) : MS' := fun ρ => do
  let (r, ρ1) ← m ρ
  let ρ2 ← asg ρ1 i r
  some (.nx, ρ2)
theorem asg_read {i : Nat} {D : Ends} {σ : L2.St} {H : Hp} (q : tMS (sSet i m) D σ H) : tAsg (tM m) (gName i) D σ H := by
  obtain ⟨F, G, b, ρ, hr, o, ρ', e, k⟩ := q
  obtain ⟨⟨r1, ρ1⟩, e1, e⟩ := bind_some e
  obtain ⟨ρ2, e2, e⟩ := bind_some e
  cases e
  refine ⟨F, G, b, ρ, hr, r1, ρ1, e1, fun F1 H1 v s1 c1 h1 k1 => ?_⟩
  obtain ⟨F2, s2, c2, h2⟩ := asg_ok h1 k1 e2
  exact k F2 H1 _ (s1.trans s2) (c1.trans c2) h2
theorem ms_set {i : Nat} {x : Str} {pos' : Pos} (hN : X.N.Nodup) (hi : X.N[i]? = some x) (hx : Loc X.env.scope x) (he : ME X e m) (hs : swapsWith e (some (.Name x pos')) pos.line X.env = pure false := by rfl) (hf : X.fn x = true ∨ X.env.scope.names.lookup x = some .local := by first | exact .inl rfl | exact .inr rfl | assumption) :
    MSt X (.Assign [.Name x pos'] e pos) (sSet i m) := ⟨(ps_set hN hi hx he.ok hs hf).imq fun D σ H q => asg_read q⟩
/-- a tuple of targets -/
def sAsg (g : MG) (m : MR) : MS' := fun ρ => do
  let (d, ρ1) ← mCap m ρ
  let ρ2 ← g d ρ1
  some (.nx, ρ2)
theorem ms_asg {g : MG} {ws : List Nat} (he : ME X e m) (hg : MGt X tg g ws) (hs : swapsWithSole [tg] e pos.line X.env = pure false := by rfl) (hw : swappedStores [tg] e X.env = pure none := by rfl) (h1 : (assignEach [tg] X.env).map (·.2) = [assign tg X.env] := by rfl) :
    MSt X (.Assign [tg] e pos) (sAsg g m) := ⟨(ps_asg he.ok hg.ok hs hw h1).imq fun D σ H q => by
  obtain ⟨F, G, b, ρ, hr, o, ρ', e, k⟩ := q
  obtain ⟨⟨d, ρ1⟩, e1, e⟩ := bind_some e
  obtain ⟨ρ2, e2, e⟩ := bind_some e
  cases e
  obtain ⟨⟨r, ρ0⟩, e0, e1⟩ := bind_some e1
  refine ⟨F, G, b, ρ, hr, r, ρ0, e0, fun F1 H1 v s1 c1 h1 k1 => ?_⟩
  obtain ⟨F2, s2, c2, h2, dv⟩ := cap_ok h1 k1 e1
  exact ⟨F2, G, b, ρ1, d, h2, dv, ρ', e2, fun σ2 h3 _ => k F2 H1 σ2 (s1.trans s2) (c1.trans c2) h3⟩⟩
section
variable {elt iter : Expr} {ifs : List Expr} {scope : Scope} {own : List (Str × Nat)} {spos py : Pos} {it : MI} {g : MG} {el : MR}
theorem ms_setLc {i : Nat} {y : Str} {ws : List Nat} (hc : X.calm = true) (hN : X.N.Nodup) (hy : X.N[i]? = some y) (hyl : X.env.scope.names.lookup y = some .local)
    (hsw : swapsWith (.ListComp elt [⟨tg, iter, ifs, 0⟩] scope pos) (some (.Name y py)) spos.line X.env = pure true) (hi : MIt X tg iter it) (ok : BlkOk X.N X.env.scope scope own)
    (hg : ∀ (s : Shared) (H : Hp) (C : Addr) (cl : List (Str × Addr)) (fp : List Addr), MGt (X.blk s H scope (compEnvC scope cl C X.env) fp) tg g ws)
    (ht : ∀ (s : Shared) (H : Hp) (C : Addr) (cl : List (Str × Addr)) (fp : List Addr), MTs (X.blk s H scope (compEnvC scope cl C X.env) fp) ifs t)
    (he : ∀ (s : Shared) (H : Hp) (C : Addr) (cl : List (Str × Addr)) (fp : List Addr), ME (X.blk s H scope (compEnvC scope cl C X.env) fp) elt el)
    (hws : ∀ i ∈ ws, i ∈ own.map (·.2) := by decide) (hs : ∀ x, foldedSetIterable iter X.env x = pure x := by intro _; rfl) :
    MSt X (.Assign [.Name y py] (.ListComp elt [⟨tg, iter, ifs, 0⟩] scope pos) spos) (sSet i (mLc it g t el (own.map (·.2)))) :=
  ⟨(ps_setLc hc hN hy hyl hsw hi.ok ok (fun s H C cl fp => (hg s H C cl fp).ok) (fun s H C cl fp => (ht s H C cl fp).ok) (fun s H C cl fp => (he s H C cl fp).ok) hs).imq fun D σ H q => by
    have h : tM (mLc it g t el (own.map (·.2))) σ H (fun x H1 => gName i x σ H1 D.nx) := asg_read q
    exact lc_read hws h⟩
end

/-! ### loops -/
def forGo (g : MG) (n : MS') : List D → En → Option (Out × En)
  | [], ρ => some (.nx, ρ)
  | d :: ds, ρ => do
    let ρ1 ← g d ρ
    let (o, ρ2) ← n ρ1
    match o with
    | .nx => forGo g n ds ρ2
    | .ct => forGo g n ds ρ2
    | .bk => some (.nx, ρ2)
    | .rt r => some (.rt r, ρ2)
def sFor (it : MI) (g : MG) (n : MS') : MS' := fun ρ => do
  let (ds, ρ1) ← it ρ
  forGo g n ds ρ1
theorem ms_for {iter : Expr} {body : List Stmt} {it : MI} {g : MG} {ws : List Nat} (hp : PassesOwn (model X.prog X.w) X.A X.env X.xe) (hc : X.calm = true) (hi : MIt X tg iter it) (hg : MGt X tg g ws) (hb : MSs X body n) (hs : ∀ x, foldedSetIterable iter X.env x = pure x := by intro _; rfl) :
    MSt X (.For tg iter body [] pos) (sFor it g n) := ⟨(ps_for hp hc hi.ok hg.ok hb.ok hs).imq fun D σ H q => by
  obtain ⟨F, G, b, ρ, hr, o, ρ', e, k⟩ := q
  obtain ⟨⟨ds, ρ1⟩, e1, e⟩ := bind_some e
  refine ⟨F, G, b, ρ, hr, ds, ρ1, e1, fun F1 H1 J s1 c1 h1 wk => ?_⟩
  refine ⟨fun i m σc Hc => i ≤ ds.length ∧ m = ds.length - i ∧ ∃ F2 ρi, Same F1 F2 ∧ Cln F1 G F2 ∧ Rp F2 G Hc b σc ρi ∧ forGo g n (ds.drop i) ρi = some (o, ρ'), ⟨ds.length, Nat.zero_le _, rfl, F1, ρ1, .refl _, .refl _ _, h1, e⟩, ?_⟩
  rintro i m σc Hc ⟨hi, rfl, F2, ρi, s2, c2, h2, eL⟩
  by_cases hlt : i < ds.length
  · have hdrop : ds.drop i = ds[i] :: ds.drop (i + 1) := List.drop_eq_getElem_cons hlt
    rw [hdrop] at eL
    obtain ⟨ρa, ea, eL⟩ := bind_some eL
    obtain ⟨⟨ob, ρb⟩, eb, eL⟩ := bind_some eL
    refine .inr ⟨wk.go i Hc hlt (s2.trans h2.fh), fun σ' H' => ∃ F5 ρ5, Same F1 F5 ∧ Cln F1 G F5 ∧ Rp F5 G H' b σ' ρ5 ∧ forGo g n (ds.drop (i + 1)) ρ5 = some (o, ρ'), fun σ' H' ⟨F5, ρ5, r5⟩ => ⟨ds.length - (i + 1), by omega, by omega, rfl, F5, ρ5, r5⟩, fun x H' y => ?_⟩
    obtain ⟨F3, d, ed, P⟩ := wk.yld i F2 Hc x H' hlt s2 h2.fh y
    have edd : d = ds[i] := by
      rw [List.getElem?_eq_getElem hlt] at ed
      exact (Option.some.inj ed).symm
    subst edd
    have h3 : Rp F3 G H' b σc ρi := P.rp h2
    have c3 : Cln F2 G F3 := P.cln h2.gh
    have dv : Dv F3 x ds[i] := P.res
    refine ⟨F3, G, b, _, _, h3, dv, ρa, ea, fun σ2 h4 _ => ?_⟩
    refine ⟨F3, G, b, ρa, h4, ob, ρb, eb, fun F5 H5 σ5 s5 c5 h5 => ?_⟩
    have ss := s2.trans (P.ff.trans s5)
    have cc := c2.trans (c3.trans c5)
    cases ob with
    | nx => exact ⟨F5, ρb, ss, cc, h5, eL⟩
    | ct => exact ⟨F5, ρb, ss, cc, h5, eL⟩
    | bk =>
      cases eL
      exact k F5 H5 σ5 (s1.trans ss) (c1.trans cc) h5
    | rt r =>
      cases eL
      exact k F5 H5 σ5 (s1.trans ss) (c1.trans cc) h5
  · have ei : i = ds.length := by omega
    subst ei
    rw [List.drop_length] at eL
    cases eL
    exact .inl ⟨wk.stop Hc (s2.trans h2.fh), k F2 Hc σc (s1.trans s2) (c1.trans c2) h2⟩⟩
/-- fuel turns at most -/
def whGo (t : MB) (n : MS') : Nat → En → Option (Out × En)
  | 0, _ => none
  | f + 1, ρ => do
    let (k, ρ1) ← t ρ
    if k = true then do
      let (o, ρ2) ← n ρ1
      match o with
      | .nx => whGo t n f ρ2
      | .ct => whGo t n f ρ2
      | .bk => some (.nx, ρ2)
      | .rt r => some (.rt r, ρ2)
    else some (.nx, ρ1)
def sWhile (f : Nat) (t : MB) (n : MS') : MS' := whGo t n f
theorem ms_while {body : List Stmt} {f : Nat} (hp : PassesOwn (model X.prog X.w) X.A X.env X.xe) (hc : MT X c t) (hb : MSs X body n) : MSt X (.While c body [] pos) (sWhile f t n) := ⟨(ps_while hp hc.ok hb.ok).imq fun D σ H q => by
  obtain ⟨F, G, b, ρ, hr, o, ρ', e, k⟩ := q
  refine ⟨fun m σc Hc => ∃ F2 ρi, Same F F2 ∧ Cln F G F2 ∧ Rp F2 G Hc b σc ρi ∧ whGo t n m ρi = some (o, ρ'), ⟨f, F, ρ, .refl _, .refl _ _, hr, e⟩, ?_⟩
  rintro m σc Hc ⟨F2, ρi, s2, c2, h2, eL⟩
  cases m with
  | zero => cases eL
  | succ m =>
    obtain ⟨⟨kb, ρa⟩, ea, eL⟩ := bind_some eL
    refine ⟨F2, G, b, ρi, h2, kb, ρa, ea, fun F3 H3 s3 c3 h3 => ?_⟩
    cases kb with
    | false =>
      cases eL
      exact k F3 H3 σc (s2.trans s3) (c2.trans c3) h3
    | true =>
      obtain ⟨⟨ob, ρb⟩, eb, eL⟩ := bind_some eL
      refine ⟨fun σ' H' => ∃ F5 ρ5, Same F F5 ∧ Cln F G F5 ∧ Rp F5 G H' b σ' ρ5 ∧ whGo t n m ρ5 = some (o, ρ'), fun σ' H' r5 => ⟨m, Nat.lt_succ_self m, r5⟩, ?_⟩
      refine ⟨F3, G, b, ρa, h3, ob, ρb, eb, fun F5 H5 σ5 s5 c5 h5 => ?_⟩
      have ss := s2.trans (s3.trans s5)
      have cc := c2.trans (c3.trans c5)
      cases ob with
      | nx => exact ⟨F5, ρb, ss, cc, h5, eL⟩
      | ct => exact ⟨F5, ρb, ss, cc, h5, eL⟩
      | bk =>
        cases eL
        exact k F5 H5 σ5 ss cc h5
      | rt r =>
        cases eL
        exact k F5 H5 σ5 ss cc h5⟩
end
end Mi
set_option Elab.async false
set_option linter.all false
set_option maxRecDepth 100000
/-! Core5: defs, calls, lists that are changed. -/
namespace Mi
open PySem PySem.Spec PyProof.Rows L2
variable [KK]

/-! ### defs that change nothing of their callers' -/
def spN (φ : List D → Option R) : Sp := fun vs H Q _ => ∃ F ds r, Same F H ∧ Dvs F vs ds ∧ φ ds = some r ∧ ∀ F' H' v, Post F H r F' H' v → Q v H'
def startE (n : Nat) (ds : List D) : En := ds.map M.sh ++ List.replicate (n - ds.length) M.no
def outR : Out → Option R
  | .nx => some (.sh .none)
  | .rt (.sh d) => some (.sh d)
  | .rt (.fr ds) => some (.fr ds)
  | _ => none
theorem start_len {n : Nat} {ds : List D} (h : ds.length ≤ n) : (startE n ds).length = n := by
  unfold startE
  rw [List.length_append, List.length_map, List.length_replicate]
  omega
theorem start_get {n i : Nat} {ds : List D} {m : M} (h : (startE n ds)[i]? = some m) : m = .no ∨ ∃ d, m = .sh d ∧ ds[i]? = some d := by
  unfold startE at h
  rw [List.getElem?_append] at h
  split at h
  · rw [List.getElem?_map] at h
    cases q : ds[i]? with
    | none => rw [q] at h; cases h
    | some d =>
      rw [q] at h
      exact .inr ⟨d, (Option.some.inj h).symm, rfl⟩
  · rw [List.getElem?_replicate] at h
    split at h
    · exact .inl (Option.some.inj h).symm
    · cases h
theorem startV_get {N : List Str} {vs : List V} {i : Nat} {v : V} (h : vs[i]? = some v) : (start N vs)[i]? = some (some v) := by
  unfold L2.start
  have hl := (List.getElem?_eq_some_iff.mp h).1
  rw [List.getElem?_append_left (by rw [List.length_map]; exact hl), List.getElem?_map, h]
  rfl
theorem startV_len {N : List Str} {vs : List V} (h : vs.length ≤ N.length) : (start N vs).length = N.length := by
  unfold L2.start
  rw [List.length_append, List.length_map, List.length_replicate]
  omega
theorem rp_start {F H : Hp} {N : List Str} {vs : List V} {ds : List D} (s : Same F H) (a : Dvs F vs ds) (hl : ds.length ≤ N.length) : Rp F H H ⟨0, fun _ => none⟩ (start N vs) (startE N.length ds) := by
  have hv : vs.length ≤ N.length := by rw [a.len]; exact hl
  have noOwn : ∀ i, ¬ OwnAt (startE N.length ds) i := fun i o => by
    rcases o with ⟨x, e⟩ | ⟨x, e⟩ | ⟨x, e⟩
    · rcases start_get e with z | ⟨_, z, _⟩ <;> cases z
    · rcases start_get e with z | ⟨_, z, _⟩ <;> cases z
    · rcases start_get e with z | ⟨_, z, _⟩ <;> cases z
  refine ⟨s, .refl _, by rw [start_len hl, startV_len hv], fun i m q => ?_, fun i j p oi => absurd oi (noOwn i), fun a o h => by cases h⟩
  rcases start_get q with rfl | ⟨d, rfl, q2⟩
  · trivial
  · obtain ⟨v, e, dv⟩ := a.get q2
    exact ⟨v, startV_get e, dv⟩
theorem post_of {F G F' H H' : Hp} {b : Fm} {σ' : L2.St} {ρ' : En} {v : V} {r : R} (s : Same F F') (c : Cln F H F') (h : Rp F' H H' b σ' ρ') (k : RsOk F' H H' σ' ρ' v r) (hr : ∀ i, r ≠ .bw i) : Post F H r F' H' v := by
  refine ⟨s, h.gh, h.fh, fun a fa => ?_, ?_⟩
  · cases q : H a with
    | none => exact .inr rfl
    | some o => exact .inl (c a (by rw [q]; exact fun z => nomatch z) fa)
  · cases r with
    | sh d => exact k
    | bw i => exact absurd rfl (hr i)
    | fr ds =>
      obtain ⟨p, vs, rfl, a, x, f, g, _⟩ := k
      exact ⟨p, vs, rfl, g, a, x, f⟩
section
variable {P : Program} {w : World} {K : Fr0} {mg : Str → Option Value} {base : Heap}
/-- THE RULE for a def: φ is what its body's plain function gives -/
theorem fn_mk {x qual : Str} {st : Stmt} {f : Addr} {fd : FuncData} {N ps : List Str} {k : Nat} {φ : List D → Option R} {m : MS'} (F : Fun K x qual st f fd) (S : FnScope N ps (defScope st))
    (hb : ∀ (cdv : Value) (A : Around) (outer : List Env) (s : Shared) (H : Hp) (E : XK), Room k (A.deeper (envOfC qual (defScope st) s.heap.objs.size f cdv)) →
      MSs (cxOf CX0 P w K mg base N qual (defScope st) f cdv A outer s H E).nox (defBody st) m)
    (hφ : ∀ ds r, φ ds = some r → ds.length = ps.length ∧ ∃ o ρ', m (startE N.length ds) = some (o, ρ') ∧ outR o = some r) : FnOk P w K mg base CX0 (k + 1) f fd ps (spN φ) := by
  refine F.ok S (fun vs H Q E h => ?_) (fun cdv A outer s H vs Q E hr h => ?_)
  · obtain ⟨F0, ds, r, _, a, e, _⟩ := h
    rw [a.len, (hφ ds r e).1]
  · obtain ⟨F0, ds, r, s0, a, e, q⟩ := h
    obtain ⟨hl, o, ρ', em, eo⟩ := hφ ds r e
    have hpN : ps.length ≤ N.length := by
      have := congrArg List.length S.pre
      rw [List.length_take] at this
      omega
    refine ⟨_, (hb cdv A outer s H E hr).ok, F0, H, ⟨0, fun _ => none⟩, _, rp_start s0 a (by omega), o, ρ', em, fun F' H' σ' s1 c1 h1 => ?_⟩
    cases o with
    | nx =>
      cases eo
      exact q F' H' .non (post_of (G := H) s1 c1 h1 (show RsOk F' H H' σ' ρ' .non (.sh .none) from .non) fun _ z => nomatch z)
    | bk => cases eo
    | ct => cases eo
    | rt r' =>
      cases r' with
      | sh d =>
        cases eo
        exact fun v k => q F' H' v (post_of (G := H) s1 c1 h1 k fun _ z => nomatch z)
      | fr ds' =>
        cases eo
        exact fun v k => q F' H' v (post_of (G := H) s1 c1 h1 k fun _ z => nomatch z)
      | bw i => cases eo
end

/-! ### defs that change the list that is their first argument -/
structure PostIO (F H : Hp) (b : Addr) (r : R) (F' H' : Hp) (v : V) : Prop where
  ff : Same F F'
  hh : ∀ a o, a ≠ b → H a = some o → H' a = some o
  fh : Same F' H'
  new : ∀ a, F' a ≠ none → F a ≠ none ∨ H a = none
  res : ResOk F' H H' v r
def spIO (φ : List D → List D → Option (R × List D)) : Sp := fun vs H Q _ => ∃ F b bs ws vs' ds r ws', vs = .ref b :: vs' ∧ Same F H ∧ H b = some (.lst bs) ∧ F b = none ∧ Dvs F bs ws ∧ Dvs F vs' ds ∧ φ ws ds = some (r, ws') ∧
  ∀ F' H' v bs', PostIO F H b r F' H' v → H' b = some (.lst bs') → Dvs F' bs' ws' → F' b = none → Q v H'
def startIO (n : Nat) (ws : List D) (ds : List D) : En := .io ws :: startE (n - 1) ds
def dele (H : Hp) (b : Addr) : Hp := fun a => if a = b then none else H a
theorem dele_same {H : Hp} {b : Addr} : dele H b b = none := by unfold dele; rw [if_pos rfl]
theorem dele_ne {H : Hp} {a b : Addr} (h : a ≠ b) : dele H b a = H a := by unfold dele; rw [if_neg h]
section
variable {P : Program} {w : World} {K : Fr0} {mg : Str → Option Value} {base : Heap}
theorem start_cons {N : List Str} {v : V} {vs : List V} (h : 1 ≤ N.length) : start N (v :: vs) = some v :: start (N.drop 1) vs := by
  unfold L2.start
  rw [List.map_cons, List.cons_append, List.length_cons, List.length_drop]
  congr 3
  omega
theorem fn_mkIO {x qual : Str} {st : Stmt} {f : Addr} {fd : FuncData} {N ps : List Str} {k : Nat} {φ : List D → List D → Option (R × List D)} {m : MS'} (F : Fun K x qual st f fd) (S : FnScope N ps (defScope st))
    (hb : ∀ (cdv : Value) (A : Around) (outer : List Env) (s : Shared) (H : Hp) (E : XK), Room k (A.deeper (envOfC qual (defScope st) s.heap.objs.size f cdv)) →
      MSs (cxOf CX0 P w K mg base N qual (defScope st) f cdv A outer s H E).nox (defBody st) m)
    (hφ : ∀ ws ds r ws', φ ws ds = some (r, ws') → ds.length + 1 = ps.length ∧ ∃ o ρ', m (startIO N.length ws ds) = some (o, ρ') ∧ outR o = some r ∧ ρ'[0]? = some (.io ws')) : FnOk P w K mg base CX0 (k + 1) f fd ps (spIO φ) := by
  refine F.ok S (fun vs H Q E h => ?_) (fun cdv A outer s H vs Q E hr h => ?_)
  · obtain ⟨F0, b, bs, ws, vs', ds, r, ws', rfl, _, _, _, _, a, e, _⟩ := h
    rw [List.length_cons, a.len, (hφ ws ds r ws' e).1]
  · obtain ⟨F0, b, bs, ws, vs', ds, r, ws', rfl, s0, hb0, fb, aw, a, e, q⟩ := h
    obtain ⟨hl, o, ρ', em, eo, e0⟩ := hφ ws ds r ws' e
    have hpN : ps.length ≤ N.length := by
      have := congrArg List.length S.pre
      rw [List.length_take] at this
      omega
    have hN1 : 1 ≤ N.length := by omega
    have rp : Rp F0 (dele H b) H ⟨b, fun _ => none⟩ (start N (.ref b :: vs')) (startIO N.length ws ds) := by
      have r0 := rp_start (N := N.drop 1) s0 a (by rw [List.length_drop]; omega)
      rw [List.length_drop] at r0
      rw [start_cons hN1]
      unfold startIO
      have noOwn : ∀ i, ¬ OwnAt (startE (N.length - 1) ds) i := fun i o => by
        rcases o with ⟨x, e⟩ | ⟨x, e⟩ | ⟨x, e⟩
        · rcases start_get e with z | ⟨_, z, _⟩ <;> cases z
        · rcases start_get e with z | ⟨_, z, _⟩ <;> cases z
        · rcases start_get e with z | ⟨_, z, _⟩ <;> cases z
      refine ⟨s0, fun x o z => ?_, by rw [List.length_cons, List.length_cons, r0.len], fun i mm z => ?_, fun i j p oi oj _ _ => ?_, fun a o h => by cases h⟩
      · by_cases hx : x = b
        · rw [hx, dele_same] at z; cases z
        · rw [dele_ne hx] at z; exact z
      · cases i with
        | zero =>
          have z' : M.io ws = mm := Option.some.inj z
          subst z'
          exact ⟨rfl, bs, hb0, aw, fb, dele_same⟩
        | succ i =>
          have z' : (startE (N.length - 1) ds)[i]? = some mm := by simpa using z
          have sl := r0.slot i mm z'
          cases mm with
          | no => trivial
          | sh d =>
            obtain ⟨v, e1, dv⟩ := sl
            exact ⟨v, by simpa using e1, dv⟩
          | own _ => exact absurd (.inl ⟨_, z'⟩) (noOwn i)
          | io _ => exact absurd (.inr (.inl ⟨_, z'⟩)) (noOwn i)
          | dct _ => exact absurd (.inr (.inr ⟨_, z'⟩)) (noOwn i)
          | lent _ =>
            rcases start_get z' with w | ⟨_, w, _⟩ <;> cases w
      · have z : ∀ k, OwnAt (.io ws :: startE (N.length - 1) ds) k → k = 0 := fun k ok => by
          cases k with
          | zero => rfl
          | succ k =>
            rcases ok with ⟨x, e⟩ | ⟨x, e⟩ | ⟨x, e⟩
            · exact absurd (.inl ⟨x, by simpa using e⟩) (noOwn k)
            · exact absurd (.inr (.inl ⟨x, by simpa using e⟩)) (noOwn k)
            · exact absurd (.inr (.inr ⟨x, by simpa using e⟩)) (noOwn k)
        rw [z i oi, z j oj]
    refine ⟨_, (hb cdv A outer s H E hr).ok, F0, dele H b, ⟨b, fun _ => none⟩, _, rp, o, ρ', em, fun F' H' σ' s1 c1 h1 => ?_⟩
    have sl : SlotOk F' (dele H b) H' ⟨b, fun _ => none⟩ σ' 0 (.io ws') := h1.slot 0 _ e0
    obtain ⟨sb, bs', hb', xb, fb', _⟩ := sl
    have fin : ∀ v r', RsOk F' (dele H b) H' σ' ρ' v r' → (∀ i, r' ≠ .bw i) → r' = r → Q v H' := fun v r' kk hr' er => by
      subst er
      refine q F' H' v bs' ⟨s1, fun a' o' ha' z => h1.gh _ _ (by rw [dele_ne ha']; exact z), h1.fh, fun a' fa => ?_, ?_⟩ hb' xb fb'
      · cases z : H a' with
        | none => exact .inr rfl
        | some o' =>
          by_cases hab : a' = b
          · rw [hab] at fa
            exact absurd fb' fa
          · exact .inl (c1 a' (by rw [dele_ne hab, z]; exact fun y => nomatch y) fa)
      · cases r' with
        | sh d => exact kk
        | bw i => exact absurd rfl (hr' i)
        | fr ds' =>
          obtain ⟨p, vs1, rfl, a1, x1, f1, g1, n1⟩ := kk
          have hpb : p ≠ b := fun z => n1 0 (.inr (.inl ⟨ws', e0⟩)) (by rw [z]; exact sb)
          rw [dele_ne hpb] at g1
          exact ⟨p, vs1, rfl, g1, a1, x1, f1⟩
    cases o with
    | nx =>
      cases eo
      exact fin .non (.sh .none) .non (fun _ z => nomatch z) rfl
    | bk => cases eo
    | ct => cases eo
    | rt r' =>
      cases r' with
      | sh d =>
        cases eo
        exact fun v k => fin v _ k (fun _ z => nomatch z) rfl
      | fr ds' =>
        cases eo
        exact fun v k => fin v _ k (fun _ z => nomatch z) rfl
      | bw i => cases eo
end

/-! ### calls of defs -/
section
variable {X : Cx} {e a b c tg : Expr} {pos p : Pos} {m ma mb mc : MR} {es : List Expr} {ms : MA} {k : Nat} {f : Addr} {fd : FuncData} {ps : List Str} {x : Str}
def mCall (φ : List D → Option R) (ms : MA) : MR := fun ρ => do
  let (ds, ρ1) ← ms ρ
  let r ← φ ds
  some (r, ρ1)
theorem me_call {φ : List D → Option R} (F : FnOk X.prog X.w X.K X.mg X.base CX0 k f fd ps (spN φ)) (hr : Room k X.A) (hg : Gl X x) (hm : X.mg x = some (.ref f)) (hk : PySem.W.keepIn X.K (.ref f) = true) (hb : Binds X.K fd ps [])
    (ha : MAs X (e :: es) ms) (hdb : (x == ("__debug__" : Str)) = false := by decide) (he : starEach (e :: es) X.env = (false, eval e X.env) :: starEach es X.env := by rfl) (hpl : (backTo pos (starEach es X.env)).any (·.1) = false := by rfl) :
    ME X (.Call (.Name x p) (e :: es) [] pos) (mCall φ ms) := ⟨(pe_call (dvs := []) F hr hg hm hk hb .nil pass0 ha.ok hdb he hpl).imq fun σ H Q q => by
  obtain ⟨F0, G, b, ρ, hr0, r, ρ', e, k⟩ := q
  obtain ⟨⟨ds, ρ1⟩, e1, e⟩ := bind_some e
  obtain ⟨r1, e2, e⟩ := bind_some e
  cases e
  refine ⟨F0, G, b, ρ, hr0, ds, _, e1, fun F1 H1 vs s1 c1 h1 dvs => ?_⟩
  refine (show spN φ (vs ++ []) H1 Q E0 from ?_)
  rw [List.append_nil]
  exact ⟨F1, ds, r, h1.fh, dvs, e2, fun F' H' v P => k F' H' v (s1.trans P.ff) (c1.trans (P.cln h1.gh)) (P.rp h1) (P.rs h1)⟩⟩

/-! the list in a slot, and what is put there -/
def contE (ρ : En) (i : Nat) : Option (List D) := match ρ[i]? with
  | some (.own ds) => some ds
  | some (.io ds) => some ds
  | _ => none
def putE (ρ : En) (i : Nat) (ds : List D) : En := match ρ[i]? with
  | some (.io _) => ρ.set i (.io ds)
  | _ => ρ.set i (.own ds)
section
variable {F F' G H H' : Hp} {b' : Fm} {σ : L2.St} {ρ : En} {i : Nat} {ds ds' : List D}
theorem cont_ok (h : Rp F G H b' σ ρ) (e : contE ρ i = some ds) : OwnAt ρ i ∧ ∃ p vs, σ[i]? = some (some (.ref p)) ∧ H p = some (.lst vs) ∧ Dvs F vs ds ∧ F p = none ∧ G p = none := by
  unfold contE at e
  cases q : ρ[i]? with
  | none => simp [q] at e
  | some m =>
    have s := h.slot i m q
    cases m with
    | no => simp [q] at e
    | sh d => simp [q] at e
    | own xs =>
      simp only [q] at e
      cases e
      exact ⟨.inl ⟨_, q⟩, s⟩
    | io xs =>
      simp only [q] at e
      cases e
      obtain ⟨a, vs, r⟩ := s
      exact ⟨.inr (.inl ⟨_, q⟩), b'.b, vs, a, r⟩
    | dct xs => simp [q] at e
    | lent xs => simp [q] at e
theorem putE_get {m : M} {j : Nat} (h : (putE ρ i ds)[j]? = some m) : (j = i ∧ (m = .own ds ∨ (m = .io ds ∧ ∃ xs, ρ[i]? = some (.io xs)))) ∨ (j ≠ i ∧ ρ[j]? = some m) := by
  unfold putE at h
  split at h
  · rename_i xs q
    rcases get_set h with ⟨a, b⟩ | ⟨a, b⟩
    · exact .inl ⟨a, .inr ⟨b, xs, q⟩⟩
    · exact .inr ⟨a, b⟩
  · rcases get_set h with ⟨a, b⟩ | ⟨a, b⟩
    · exact .inl ⟨a, .inl b⟩
    · exact .inr ⟨a, b⟩
theorem putE_len : (putE ρ i ds).length = ρ.length := by
  unfold putE
  split <;> rw [List.length_set]
/-- slot i's list changes; all else stands -/
theorem Rp.putC {p : Addr} {vs' : List V} (h : Rp F G H b' σ ρ) (o : OwnAt ρ i) (es : σ[i]? = some (some (.ref p))) (ff : Same F F') (fh : Same F' H') (gh : Same G H') (hh : ∀ a o, a ≠ p → H a = some o → ((∃ vs, o = .lst vs) ∨ ∃ vs, o = .dK vs) → H' a = some o)
    (hp : H' p = some (.lst vs')) (x : Dvs F' vs' ds') (fp : F' p = none) (fo : ∀ j q, OwnAt ρ j → σ[j]? = some (some (.ref q)) → F' q = none) : Rp F' G H' b' σ (putE ρ i ds') := by
  have oo : ∀ j, OwnAt (putE ρ i ds') j → OwnAt ρ j := fun j oj => by
    rcases oj with ⟨xs, e⟩ | ⟨xs, e⟩ | ⟨xs, e⟩
    · rcases putE_get e with ⟨a, _⟩ | ⟨_, z⟩
      · rw [a]; exact o
      · exact .inl ⟨xs, z⟩
    · rcases putE_get e with ⟨a, _⟩ | ⟨_, z⟩
      · rw [a]; exact o
      · exact .inr (.inl ⟨xs, z⟩)
    · rcases putE_get e with ⟨a, _⟩ | ⟨_, z⟩
      · rw [a]; exact o
      · exact .inr (.inr ⟨xs, z⟩)
  refine ⟨fh, gh, by rw [putE_len]; exact h.len, fun j m q => ?_, fun j k q oj ok => h.ne j k q (oo j oj) (oo k ok), h.lg⟩
  obtain ⟨_, _, gp⟩ := h.own_some o es
  rcases putE_get q with ⟨rfl, rfl | ⟨rfl, xs, z⟩⟩ | ⟨hj, q⟩
  · exact ⟨p, vs', es, hp, x, fp, gp.2⟩
  · have s : SlotOk F G H b' σ j (.io xs) := h.slot j _ z
    obtain ⟨a, _⟩ := s
    have : p = b'.b := by
      rw [es] at a
      cases a
      rfl
    rw [this] at es hp fp gp
    exact ⟨es, vs', hp, x, fp, gp.2⟩
  · have s := h.slot j m q
    have np : ∀ q', OwnAt ρ j → σ[j]? = some (some (.ref q')) → q' ≠ p := fun q' oj ej z => hj (h.ne j i p oj o (z ▸ ej) es)
    cases m with
    | no => trivial
    | sh d =>
      obtain ⟨v, a, c⟩ := s
      exact ⟨v, a, c.mono ff⟩
    | own xs =>
      obtain ⟨q', vs, a, c, d, f, g⟩ := s
      exact ⟨q', vs, a, hh _ _ (np q' (.inl ⟨_, q⟩) a) c (.inl ⟨_, rfl⟩), d.mono ff, fo j q' (.inl ⟨_, q⟩) a, g⟩
    | io xs =>
      obtain ⟨a, vs, c, d, f, g⟩ := s
      exact ⟨a, vs, hh _ _ (np b'.b (.inr (.inl ⟨_, q⟩)) a) c (.inl ⟨_, rfl⟩), d.mono ff, fo j b'.b (.inr (.inl ⟨_, q⟩)) a, g⟩
    | dct xs =>
      obtain ⟨q', vs, a, c, d, f, g⟩ := s
      exact ⟨q', vs, a, hh _ _ (np q' (.inr (.inr ⟨_, q⟩)) a) c (.inr ⟨_, rfl⟩), d.mono ff, fo j q' (.inr (.inr ⟨_, q⟩)) a, g⟩
    | lent xs =>
      obtain ⟨q', vs, a, c, d⟩ := s
      exact ⟨q', vs, a, c, d.mono ff⟩
/-- by one store -/
theorem Rp.put1 {p : Addr} {vs' : List V} (h : Rp F G H b' σ ρ) (o : OwnAt ρ i) (es : σ[i]? = some (some (.ref p))) (x : Dvs F vs' ds') : Rp F G (upd H p (.lst vs')) b' σ (putE ρ i ds') := by
  obtain ⟨vs, hp, fp, gp⟩ := h.own_some o es
  refine h.putC o es (.refl _) (fun a o q => ?_) (fun a o q => ?_) (fun a o ha q _ => by rw [upd_ne ha]; exact q) upd_same x fp (fun j q oj ej => ?_)
  · rw [upd_ne (ne_of_none q fp)]
    exact h.fh _ _ q
  · rw [upd_ne (ne_of_none q gp)]
    exact h.gh _ _ q
  · exact (h.own_some oj ej).elim fun _ z => z.2.1
end
def mCallIO (φ : List D → List D → Option (R × List D)) (i : Nat) (ms : MA) : MR := fun ρ => do
  let _ ← contE ρ i
  let (ds, ρ1) ← ms ρ
  let ws ← contE ρ1 i
  let (r, ws') ← φ ws ds
  some (r, putE ρ1 i ws')
theorem me_callIO {φ : List D → List D → Option (R × List D)} {i : Nat} {y : Str} {py : Pos} (F : FnOk X.prog X.w X.K X.mg X.base CX0 k f fd ps (spIO φ)) (hr : Room k X.A) (hg : Gl X x) (hm : X.mg x = some (.ref f)) (hk : PySem.W.keepIn X.K (.ref f) = true) (hb : Binds X.K fd ps [])
    (hy : PE X (.Name y py) (tVar i)) (ha : MAs X es ms) (hdb : (x == ("__debug__" : Str)) = false := by decide) (he : starEach (.Name y py :: es) X.env = (false, eval (.Name y py) X.env) :: starEach es X.env := by rfl) (hpl : (backTo pos (starEach es X.env)).any (·.1) = false := by rfl) :
    ME X (.Call (.Name x p) (.Name y py :: es) [] pos) (mCallIO φ i ms) := ⟨(pe_call (dvs := []) F hr hg hm hk hb .nil pass0 (pa_cons hy ha.ok he) hdb he hpl).imq fun σ H Q q => by
  obtain ⟨F0, G, b, ρ, hr0, r, ρ', e, k⟩ := q
  obtain ⟨w0, e0, e⟩ := bind_some e
  obtain ⟨⟨ds, ρ1⟩, e1, e⟩ := bind_some e
  obtain ⟨ws, e2, e⟩ := bind_some e
  obtain ⟨⟨r1, ws'⟩, e3, e⟩ := bind_some e
  cases e
  obtain ⟨_, p0, vs0, es0, _⟩ := cont_ok hr0 e0
  refine ⟨.ref p0, es0, F0, G, b, ρ, hr0, ds, _, e1, fun F1 H1 vs s1 c1 h1 dvs => ?_⟩
  refine (show spIO φ ((.ref p0 :: vs) ++ []) H1 Q E0 from ?_)
  rw [List.append_nil]
  obtain ⟨o1, p1, bs, es1, hb1, xb, fb, gb⟩ := cont_ok h1 e2
  have : p1 = p0 := by
    rw [es0] at es1
    cases es1
    rfl
  subst this
  refine ⟨F1, p1, bs, ws, vs, ds, r, ws', rfl, h1.fh, hb1, fb, xb, dvs, e3, fun F' H' v bs' P hb' x' f' => ?_⟩
  have fo : ∀ j q, OwnAt ρ1 j → σ[j]? = some (some (.ref q)) → F' q = none := fun j q oj ej => by
    obtain ⟨_, a1, f1, _⟩ := h1.own_some oj ej
    cases z : F' q with
    | none => rfl
    | some u =>
      rcases P.new q (by rw [z]; exact fun y => nomatch y) with w | w
      · exact absurd f1 w
      · rw [a1] at w; cases w
  have rp' : Rp F' G H' b σ (putE ρ1 i ws') := by
    refine h1.putC o1 es0 P.ff P.fh (fun a o q => P.hh a o (fun z => ?_) (h1.gh _ _ q)) (fun a o ha q _ => P.hh a o ha q) hb' x' f' fo
    rw [z, gb] at q
    cases q
  refine k F' H' v (s1.trans P.ff) (c1.trans fun a ga fa => ?_) rp' ?_
  · rcases P.new a fa with w | w
    · exact w
    · exact absurd (h1.gh.free w) ga
  · have q := P.res
    cases r with
    | sh d => exact q
    | bw j => exact False.elim q
    | fr xs =>
      obtain ⟨p2, vs2, rfl, n2, a2, x2, f2⟩ := q
      refine ⟨p2, vs2, rfl, a2, x2, f2, h1.gh.free n2, fun j oj ej => ?_⟩
      have oj1 : OwnAt ρ1 j := by
        rcases oj with ⟨xs, e⟩ | ⟨xs, e⟩ | ⟨xs, e⟩
        · rcases putE_get e with ⟨a, _⟩ | ⟨_, z⟩
          · rw [a]; exact o1
          · exact .inl ⟨xs, z⟩
        · rcases putE_get e with ⟨a, _⟩ | ⟨_, z⟩
          · rw [a]; exact o1
          · exact .inr (.inl ⟨xs, z⟩)
        · rcases putE_get e with ⟨a, _⟩ | ⟨_, z⟩
          · rw [a]; exact o1
          · exact .inr (.inr ⟨xs, z⟩)
      obtain ⟨_, a3, _, _⟩ := h1.own_some oj1 ej
      rw [n2] at a3
      cases a3⟩

/-! ### methods that change the list of a slot -/
section
variable {name y : Str} {py apos cpos : Pos} {i : Nat}
def mAppend (i : Nat) (m : MR) : MR := fun ρ => do
  let _ ← contE ρ i
  let (d, ρ1) ← mCap m ρ
  let ds ← contE ρ1 i
  if ds.length < lim then some (.sh .none, putE ρ1 i (ds ++ [d])) else none
theorem me_append (hy : PE X (.Name y py) (tVar i)) (he : ME X e m) (hbase : attributeBase (.Name y py) "append" X.env (eval (.Name y py) X.env) = eval (.Name y py) X.env := by rfl)
    (hfew : ((backTo cpos (starEach (e :: []) X.env)).all (fun x => !x.1) && (backToKw cpos (keywordEach [] X.env)).all (fun x => x.1.isSome)
      && decide ((e :: ([] : List Expr)).length + ([] : List Keyword).length + (if ([] : List Keyword).isEmpty then 0 else 1) < 30)) = true := by rfl)
    (hline : (apos.endLine == cpos.line) = true := by rfl) (hs : starEach (e :: []) X.env = (false, eval e X.env) :: starEach [] X.env := by rfl) (hplain : (backTo cpos (starEach [] X.env)).any (·.1) = false := by rfl) :
    ME X (.Call (.Attribute (.Name y py) "append" apos) [e] [] cpos) (mAppend i m) :=
  ⟨(pe_bm PySem.F.plainAttrs_list PySem.F.slot_list_append PySem.F.type_list_append mt_append hy (pa_cons he.ok pa_nil hs) hbase hfew hline hs hplain).imq fun σ H Q q => by
    obtain ⟨F, G, b, ρ, hr, r, ρ', e, k⟩ := q
    obtain ⟨w0, e0, e⟩ := bind_some e
    obtain ⟨⟨d, ρ1⟩, e1, e⟩ := bind_some e
    obtain ⟨ds, e2, e⟩ := bind_some e
    obtain ⟨hl, e⟩ := ite_some e
    cases e
    obtain ⟨⟨r1, ρ0⟩, e3, e1⟩ := bind_some e1
    obtain ⟨_, p0, vs0, es0, a0, _⟩ := cont_ok hr e0
    refine ⟨.ref p0, es0, .inl ⟨rfl, _, .of a0⟩, F, G, b, ρ, hr, r1, ρ0, e3, fun F1 H1 v1 s1 c1 h1 k1 => ?_⟩
    obtain ⟨F2, s2, c2, h2, dv⟩ := cap_ok h1 k1 e1
    obtain ⟨o1, p1, vs, es1, a1, x1, f1, g1⟩ := cont_ok h2 e2
    rw [es0] at es1
    cases es1
    refine ⟨p0, vs, v1, rfl, rfl, a1, by rw [x1.len]; exact lim_lt hl, ?_⟩
    exact k F2 _ .non (s1.trans s2) (c1.trans c2) (h2.put1 o1 es0 (x1.snoc dv)) .non⟩
def mPop (i : Nat) : MR := fun ρ => do
  let ds ← contE ρ i
  let d ← ds[ds.length - 1]?
  some (.sh d, putE ρ i ds.dropLast)
theorem dropLast_ok {F : Hp} {vs : List V} {ds : List D} (h : Dvs F vs ds) : Dvs F vs.dropLast ds.dropLast := by
  rw [List.dropLast_eq_take, List.dropLast_eq_take, h.len]
  exact h.take _
theorem me_pop (hy : PE X (.Name y py) (tVar i)) (hbase : attributeBase (.Name y py) "pop" X.env (eval (.Name y py) X.env) = eval (.Name y py) X.env := by rfl) (hline : (apos.endLine == cpos.line) = true := by rfl) :
    ME X (.Call (.Attribute (.Name y py) "pop" apos) [] [] cpos) (mPop i) :=
  ⟨(pe_bm0 PySem.F.plainAttrs_list PySem.F.slot_list_pop PySem.F.type_list_pop mt_pop hy hbase hline).imq fun σ H Q q => by
    obtain ⟨F, G, b, ρ, hr, r, ρ', e, k⟩ := q
    obtain ⟨ds, e0, e⟩ := bind_some e
    obtain ⟨d, e1, e⟩ := bind_some e
    cases e
    obtain ⟨o1, p0, vs, es0, a0, x0, f0, g0⟩ := cont_ok hr e0
    obtain ⟨v, ev, dv⟩ := x0.get e1
    refine ⟨.ref p0, es0, .inl ⟨rfl, _, .of a0⟩, p0, vs, v, rfl, rfl, a0, by rw [x0.len]; exact ev, ?_⟩
    exact k F _ v (.refl _) (.refl _ _) (hr.put1 o1 es0 (dropLast_ok x0)) dv⟩
def mPopAt (i : Nat) (m : MR) : MR := fun ρ => do
  let _ ← contE ρ i
  let (r, ρ1) ← m ρ
  match r with
  | .sh (.int z) => do
    let ds ← contE ρ1 i
    if i62 z = true then do
      let j ← seqIndex? z ds.length
      let d ← ds[j]?
      some (.sh d, putE ρ1 i (ds.eraseIdx j))
    else none
  | _ => none
theorem Dvs.erase {F : Hp} : ∀ {vs : List V} {ds : List D} (n : Nat), Dvs F vs ds → Dvs F (vs.eraseIdx n) (ds.eraseIdx n)
  | _, _, _, .nil => .nil
  | _, _, 0, .cons _ a => a
  | _, _, n + 1, .cons h a => .cons h (Dvs.erase n a)
theorem me_popAt (hy : PE X (.Name y py) (tVar i)) (he : ME X e m) (hbase : attributeBase (.Name y py) "pop" X.env (eval (.Name y py) X.env) = eval (.Name y py) X.env := by rfl)
    (hfew : ((backTo cpos (starEach (e :: []) X.env)).all (fun x => !x.1) && (backToKw cpos (keywordEach [] X.env)).all (fun x => x.1.isSome)
      && decide ((e :: ([] : List Expr)).length + ([] : List Keyword).length + (if ([] : List Keyword).isEmpty then 0 else 1) < 30)) = true := by rfl)
    (hline : (apos.endLine == cpos.line) = true := by rfl) (hs : starEach (e :: []) X.env = (false, eval e X.env) :: starEach [] X.env := by rfl) (hplain : (backTo cpos (starEach [] X.env)).any (·.1) = false := by rfl) :
    ME X (.Call (.Attribute (.Name y py) "pop" apos) [e] [] cpos) (mPopAt i m) :=
  ⟨(pe_bm PySem.F.plainAttrs_list PySem.F.slot_list_pop PySem.F.type_list_pop mt_popAt hy (pa_cons he.ok pa_nil hs) hbase hfew hline hs hplain).imq fun σ H Q q => by
    obtain ⟨F, G, b, ρ, hr, r, ρ', e, k⟩ := q
    obtain ⟨w0, e0, e⟩ := bind_some e
    obtain ⟨⟨r1, ρ1⟩, e1, e⟩ := bind_some e
    obtain ⟨_, p0, vs0, es0, a0, _⟩ := cont_ok hr e0
    refine ⟨.ref p0, es0, .inl ⟨rfl, _, .of a0⟩, F, G, b, ρ, hr, r1, ρ1, e1, fun F1 H1 v1 s1 c1 h1 k1 => ?_⟩
    match r1, k1, e with
    | .sh (.int z), k1, e =>
      cases (show Dv F1 v1 (.int z) from k1)
      obtain ⟨ds, e2, e⟩ := bind_some e
      obtain ⟨hz, e⟩ := ite_some' e
      obtain ⟨j, e3, e⟩ := bind_some e
      obtain ⟨d, e4, e⟩ := bind_some e
      cases e
      obtain ⟨o1, p1, vs, es1, a1, x1, f1, g1⟩ := cont_ok h1 e2
      rw [es0] at es1
      cases es1
      obtain ⟨v, ev, dv⟩ := x1.get e4
      have b62 := i62_ok hz
      refine ⟨p0, vs, z, j, v, rfl, rfl, a1, by omega, by omega, by rw [x1.len]; exact e3, ev, ?_⟩
      exact k F1 _ v s1 c1 (h1.put1 o1 es0 (x1.erase j)) dv⟩
def mExtend (i : Nat) (m : MR) : MR := fun ρ => do
  let _ ← contE ρ i
  let (r, ρ1) ← m ρ
  let d ← deref ρ1 r
  match d with
  | .list es => do
    let ds ← contE ρ1 i
    if ds.length + es.length ≤ lim then some (.sh .none, putE ρ1 i (ds ++ es)) else none
  | _ => none
theorem me_extend (hy : PE X (.Name y py) (tVar i)) (he : ME X e m) (hbase : attributeBase (.Name y py) "extend" X.env (eval (.Name y py) X.env) = eval (.Name y py) X.env := by rfl)
    (hfew : ((backTo cpos (starEach (e :: []) X.env)).all (fun x => !x.1) && (backToKw cpos (keywordEach [] X.env)).all (fun x => x.1.isSome)
      && decide ((e :: ([] : List Expr)).length + ([] : List Keyword).length + (if ([] : List Keyword).isEmpty then 0 else 1) < 30)) = true := by rfl)
    (hline : (apos.endLine == cpos.line) = true := by rfl) (hs : starEach (e :: []) X.env = (false, eval e X.env) :: starEach [] X.env := by rfl) (hplain : (backTo cpos (starEach [] X.env)).any (·.1) = false := by rfl) :
    ME X (.Call (.Attribute (.Name y py) "extend" apos) [e] [] cpos) (mExtend i m) :=
  ⟨(pe_bm PySem.F.plainAttrs_list PySem.F.slot_list_extend PySem.F.type_list_extend mt_extend hy (pa_cons he.ok pa_nil hs) hbase hfew hline hs hplain).imq fun σ H Q q => by
    obtain ⟨F, G, b, ρ, hr, r, ρ', e, k⟩ := q
    obtain ⟨w0, e0, e⟩ := bind_some e
    obtain ⟨⟨r1, ρ1⟩, e1, e⟩ := bind_some e
    obtain ⟨d, e2, e⟩ := bind_some e
    obtain ⟨_, p0, vs0, es0, a0, _⟩ := cont_ok hr e0
    refine ⟨.ref p0, es0, .inl ⟨rfl, _, .of a0⟩, F, G, b, ρ, hr, r1, ρ1, e1, fun F1 H1 v1 s1 c1 h1 k1 => ?_⟩
    have bd := k1.bd h1 e2
    match d, bd, e with
    | .list xs, bd, e =>
      obtain ⟨ds, e3, e⟩ := bind_some e
      obtain ⟨hl, e⟩ := ite_some e
      cases e
      obtain ⟨o1, p1, vs, es1, a1, x1, f1, g1⟩ := cont_ok h1 e3
      rw [es0] at es1
      cases es1
      obtain ⟨q, ys, rfl, aq, xq⟩ := bd.list h1.fh
      refine ⟨p0, q, vs, ys, rfl, rfl, a1, aq, by rw [x1.len, xq.len]; exact lim_le hl, ?_⟩
      exact k F1 _ .non s1 c1 (h1.put1 o1 es0 (x1.app xq)) .non⟩
/-- xs[k] = v -/
def sPut (i : Nat) (mi mv : MR) : MS' := fun ρ => do
  let (d, ρ1) ← mCap mv ρ
  let _ ← contE ρ1 i
  let (r, ρ2) ← mi ρ1
  match r with
  | .sh (.int z) => do
    let ds ← contE ρ2 i
    let j ← ixN ds.length z
    some (.nx, putE ρ2 i (ds.set j d))
  | _ => none
theorem ms_put {ei : Expr} {mi mv : MR} {spos : Pos} (hy : PE X (.Name y py) (tVar i)) (hi : ME X ei mi) (he : ME X e mv)
    (ha : ∀ v, assign (.Subscript (.Name y py) ei pos) X.env v = (do
      let ov ← holding [v] (eval (.Name y py) X.env)
      let iv ← holding [v, ov] (eval ei X.env)
      standAt pos
      holding [v, ov, iv] (setItem ov iv v)
      release [v, ov, iv] []) := by intro _; rfl)
    (hs : swapsWithSole [.Subscript (.Name y py) ei pos] e spos.line X.env = pure false := by rfl) (hw : swappedStores [.Subscript (.Name y py) ei pos] e X.env = pure none := by rfl) (h1 : (assignEach [.Subscript (.Name y py) ei pos] X.env).map (·.2) = [assign (.Subscript (.Name y py) ei pos) X.env] := by rfl) :
    MSt X (.Assign [.Subscript (.Name y py) ei pos] e spos) (sPut i mi mv) := ⟨(ps_asg he.ok (pg_sub hy hi.ok set_list ha) hs hw h1).imq fun D σ H q => by
  obtain ⟨F, G, b, ρ, hr, o, ρ', e, k⟩ := q
  obtain ⟨⟨d, ρ1⟩, e1, e⟩ := bind_some e
  obtain ⟨w0, e0, e⟩ := bind_some e
  obtain ⟨⟨r, ρ2⟩, e2, e⟩ := bind_some e
  obtain ⟨⟨rv, ρ0⟩, e3, e1⟩ := bind_some e1
  refine ⟨F, G, b, ρ, hr, rv, ρ0, e3, fun F1 H1 v1 s1 c1 h1 k1 => ?_⟩
  obtain ⟨F2, s2, c2, h2, dv⟩ := cap_ok h1 k1 e1
  obtain ⟨_, p0, vs0, es0, a0, _⟩ := cont_ok h2 e0
  refine ⟨.ref p0, es0, F2, G, b, ρ1, h2, r, ρ2, e2, fun F3 H3 v3 s3 c3 h3 k3 => ?_⟩
  match r, k3, e with
  | .sh (.int z), k3, e =>
    cases (show Dv F3 v3 (.int z) from k3)
    obtain ⟨ds, e4, e⟩ := bind_some e
    obtain ⟨j, e5, e⟩ := bind_some e
    cases e
    obtain ⟨o1, p1, vs, es1, a1, x1, f1, g1⟩ := cont_ok h3 e4
    rw [es0] at es1
    cases es1
    refine ⟨p0, vs, z, j, rfl, rfl, a1, by rw [x1.len]; exact e5, ?_⟩
    exact k F3 _ σ (s1.trans (s2.trans s3)) (c1.trans (c2.trans c3)) (h3.put1 o1 es0 (x1.set j (dv.mono s3)))⟩
end
end
end Mi
set_option Elab.async false
set_option linter.all false
set_option maxRecDepth 100000
/-! Core6: operators, comparisons, subscripts, slices, built-ins on data. -/
namespace Mi
open PySem PySem.Spec PyProof.Rows L2
open PySem.W (alike alikeAll dataLt AlikeAll minD maxD lt_data gt_data le_data ge_data min_list_data max_list_data)
variable [KK]

/-! ### plain data: no dict in it -/
mutual
def plainD : D → Bool
  | .none => true
  | .bool _ => true
  | .int _ => true
  | .str _ => true
  | .list ds => plainDs ds
  | .tuple ds => plainDs ds
  | .dict _ => false
def plainDs : List D → Bool
  | [] => true
  | d :: ds => plainD d && plainDs ds
end
mutual
theorem Dv.pl {K : Fr0} {F : Hp} : ∀ {v : V} {d : D}, Dv F v d → plainD d = true → Dp K F v d
  | _, _, .non, _ => .non
  | _, _, .bl b, _ => .bl b
  | _, _, .int i, _ => .int i
  | _, _, .str x, _ => .str x
  | _, _, .lst h a, c => .lst (.of h) (Dvs.pl a c)
  | _, _, .tup h a, c => .tup (.of h) (Dvs.pl a c)
  | _, _, .frz h a, c => by cases c
theorem Dvs.pl {K : Fr0} {F : Hp} : ∀ {vs : List V} {ds : List D}, Dvs F vs ds → plainDs ds = true → DpAll K F vs ds
  | _, _, .nil, _ => .nil
  | _, _, .cons h a, c => by
    have c' := Bool.and_eq_true_iff.mp c
    exact .cons (Dv.pl h c'.1) (Dvs.pl a c'.2)
end
mutual
theorem plain_of_canLay : ∀ d : D, d.canLay0 = true → plainD d = true
  | .none, _ => rfl
  | .bool _, _ => rfl
  | .int _, _ => rfl
  | .str _, _ => rfl
  | .list ds, h => plains_of_canLay ds h
  | .tuple ds, h => plains_of_canLay ds h
  | .dict _, h => by cases h
theorem plains_of_canLay : ∀ ds : List D, PyData.canLayAll0 ds = true → plainDs ds = true
  | [], _ => rfl
  | d :: ds, h => by
    have h' := Bool.and_eq_true_iff.mp h
    exact Bool.and_eq_true_iff.mpr ⟨plain_of_canLay d h'.1, plains_of_canLay ds h'.2⟩
end
theorem Bd.dp {K : Fr0} {F H : Hp} {v : V} {d : D} (s : Same F H) (h : Bd F H v d) (c : plainD d = true) : Dp K H v d := (h.dv s).pl c

/-! ### arithmetic -/
section
variable {X : Cx}
def addI : D → D → Option R
  | .int a, .int b => some (.sh (.int (a + b)))
  | _, _ => none
def addS : D → D → Option R
  | .str a, .str b => if a.length + b.length ≤ lim then some (.sh (.str (a ++ b))) else none
  | _, _ => none
def addL : D → D → Option R
  | .list a, .list b => if a.length + b.length ≤ lim then some (.fr (a ++ b)) else none
  | _, _ => none
def addT : D → D → Option R
  | .tuple a, .tuple b => if a.length + b.length ≤ lim then some (.sh (.tuple (a ++ b))) else none
  | _, _ => none
def addD : D → D → Option R
  | .int a, .int b => some (.sh (.int (a + b)))
  | .str a, .str b => if a.length + b.length ≤ lim then some (.sh (.str (a ++ b))) else none
  | .list a, .list b => if a.length + b.length ≤ lim then some (.fr (a ++ b)) else none
  | .tuple a, .tuple b => if a.length + b.length ≤ lim then some (.sh (.tuple (a ++ b))) else none
  | _, _ => none
theorem op2_I {f : Int → Int → Int} {g : D → D → Option R} (h : ∀ a b k, g a b = some k → ∃ i j, a = .int i ∧ b = .int j ∧ k = .sh (.int (f i j))) : Op2 (rI0 fun i j => .int (f i j)) g := fun F H v1 v2 d1 d2 k s b1 b2 e Q q => by
  obtain ⟨i, j, rfl, rfl, rfl⟩ := h d1 d2 k e
  exact ⟨i, j, b1.int, b2.int, q F H _ (post_sh s (.int _))⟩
theorem op2_C {C : Int → Int → Prop} {f : Int → Int → Int} {g : D → D → Option R} (h : ∀ a b k, g a b = some k → ∃ i j, a = .int i ∧ b = .int j ∧ C i j ∧ k = .sh (.int (f i j))) : Op2 (rI C fun i j => .int (f i j)) g := fun F H v1 v2 d1 d2 k s b1 b2 e Q q => by
  obtain ⟨i, j, rfl, rfl, c, rfl⟩ := h d1 d2 k e
  exact ⟨i, j, b1.int, b2.int, c, q F H _ (post_sh s (.int _))⟩
theorem o_addI : Op2 (rI0 fun i j => .int (i + j)) addI := op2_I fun a b k e => by
  match a, b, e with
  | .int i, .int j, e => exact ⟨i, j, rfl, rfl, (Option.some.inj e).symm⟩
theorem o_addS : Op2 (fun x y H Q => ∃ i j, x = .str i ∧ y = .str j ∧ i.length + j.length ≤ sizeLine ∧ Q (.str (i ++ j)) H) addS := fun F H v1 v2 d1 d2 k s b1 b2 e Q q => by
  match d1, d2, e, b1, b2 with
  | .str a, .str b, e, b1, b2 =>
    obtain ⟨hl, rfl⟩ := ite_some (show (if a.length + b.length ≤ lim then some (R.sh (.str (a ++ b))) else none) = some k from e)
    exact ⟨a, b, b1.str, b2.str, lim_le hl, q F H _ (post_sh s (.str _))⟩
theorem o_addL : Op2 rCat addL := fun F H v1 v2 d1 d2 k s b1 b2 e Q q => by
  match d1, d2, e, b1, b2 with
  | .list a, .list b, e, b1, b2 =>
    obtain ⟨hl, rfl⟩ := ite_some (show (if a.length + b.length ≤ lim then some (R.fr (a ++ b)) else none) = some k from e)
    obtain ⟨p1, xs, rfl, h1, x1⟩ := b1.list s
    obtain ⟨p2, ys, rfl, h2, x2⟩ := b2.list s
    exact ⟨p1, p2, xs, ys, rfl, rfl, h1, h2, by rw [x1.len, x2.len]; exact lim_le hl, fun p hp => q _ _ _ (post_fr s hp (x1.app x2))⟩
theorem o_addT {K : Fr0} : Op2 (rCatA K) addT := fun F H v1 v2 d1 d2 k s b1 b2 e Q q => by
  match d1, d2, e, b1, b2 with
  | .tuple a, .tuple b, e, b1, b2 =>
    obtain ⟨hl, rfl⟩ := ite_some (show (if a.length + b.length ≤ lim then some (R.sh (.tuple (a ++ b))) else none) = some k from e)
    obtain ⟨p1, xs, rfl, h1, x1⟩ := b1.tup
    obtain ⟨p2, ys, rfl, h2, x2⟩ := b2.tup
    refine ⟨p1, p2, xs, ys, rfl, rfl, .of (s _ _ h1), .of (s _ _ h2), by rw [x1.len, x2.len]; exact lim_le hl, fun z => ?_, fun _ z => ?_, fun _ _ p hp => q _ _ _ (post_tup s hp (x1.app x2))⟩
    · subst z
      cases x1
      exact q F H _ (post_sh s (.tup h2 x2))
    · subst z
      cases x2
      rw [List.append_nil] at q
      exact q F H _ (post_sh s (.tup h1 x1))
theorem bin_add : BinOk X .Add addD := ⟨_, op_add.or (op_add_str.or (op_cat.or op_catA)), Op2.or (g := fun a b => match a, b with
    | .int _, .int _ => none
    | a, b => addD a b) o_addI (Op2.or (g := fun a b => match a, b with
      | .list a, .list b => addD (.list a) (.list b)
      | .tuple a, .tuple b => addD (.tuple a) (.tuple b)
      | _, _ => none) o_addS (Op2.or o_addL o_addT fun a b z e => by
        match a, b, e with
        | .list a, .list b, e => exact .inl e
        | .tuple a, .tuple b, e => exact .inr e) fun a b z e => by
      match a, b, e with
      | .str a, .str b, e => exact .inl e
      | .list a, .list b, e => exact .inr e
      | .tuple a, .tuple b, e => exact .inr e
      | .int a, b, e => cases b <;> cases e) fun a b z e => by
    match a, b, e with
    | .int a, .int b, e => exact .inl e
    | .str a, .str b, e => exact .inr e
    | .list a, .list b, e => exact .inr e
    | .tuple a, .tuple b, e => exact .inr e⟩
def subD : D → D → Option R
  | .int a, .int b => some (.sh (.int (a - b)))
  | _, _ => none
theorem bin_sub : BinOk X .Sub subD := ⟨_, op_sub, op2_I fun a b k e => by
  match a, b, e with
  | .int i, .int j, e => exact ⟨i, j, rfl, rfl, (Option.some.inj e).symm⟩⟩
def i64 (i : Int) : Bool := decide (-(2 ^ 64) < i) && decide (i < 2 ^ 64)
theorem i64_ok {i : Int} (h : i64 i = true) : -(2 ^ 64) < i ∧ i < 2 ^ 64 := by
  unfold i64 at h
  have := Bool.and_eq_true_iff.mp h
  exact ⟨of_decide_eq_true this.1, of_decide_eq_true this.2⟩
def mulI : D → D → Option R
  | .int a, .int b => if (i64 a || i64 b) = true then some (.sh (.int (a * b))) else none
  | _, _ => none
theorem o_mulI : Op2 (rI CMul fun i j => .int (i * j)) mulI := op2_C fun a b k e => by
  match a, b, e with
  | .int i, .int j, e =>
    obtain ⟨h, rfl⟩ := ite_some (show (if (i64 i || i64 j) = true then some (R.sh (.int (i * j))) else none) = some k from e)
    exact ⟨i, j, rfl, rfl, (Bool.or_eq_true_iff.mp h).imp i64_ok i64_ok, rfl⟩
/-- list * int -/
def mulL : D → D → Option R
  | .list a, .int k => if i62 k = true ∧ a.length * k.toNat ≤ lim then some (.fr (List.replicate k.toNat a).flatten) else none
  | _, _ => none
theorem flat_rep {F : Hp} {vs : List V} {ds : List D} (h : Dvs F vs ds) : ∀ n, Dvs F (List.replicate n vs).flatten (List.replicate n ds).flatten
  | 0 => .nil
  | n + 1 => by
    rw [List.replicate_succ, List.replicate_succ, List.flatten_cons, List.flatten_cons]
    exact h.app (flat_rep h n)
theorem o_mulL : Op2 rRep mulL := fun F H v1 v2 d1 d2 k s b1 b2 e Q q => by
  match d1, d2, e, b1, b2 with
  | .list a, .int z, e, b1, b2 =>
    obtain ⟨⟨hz, hl⟩, rfl⟩ := ite_some (show (if i62 z = true ∧ a.length * z.toNat ≤ lim then some (R.fr (List.replicate z.toNat a).flatten) else none) = some k from e)
    obtain ⟨p1, xs, rfl, h1, x1⟩ := b1.list s
    have b62 := i62_ok hz
    exact ⟨p1, z, xs, rfl, b2.int, h1, by omega, by omega, by rw [x1.len]; exact lim_le hl, fun p hp => q _ _ _ (post_fr s hp (flat_rep x1 _))⟩
def mulD : D → D → Option R
  | .int a, .int b => mulI (.int a) (.int b)
  | .list a, .int b => mulL (.list a) (.int b)
  | _, _ => none
theorem bin_mul : BinOk X .Mult mulD := ⟨_, op_mul.or op_rep, Op2.or o_mulI o_mulL fun a b z e => by
  match a, b, e with
  | .int a, .int b, e => exact .inl e
  | .list a, .int b, e => exact .inr e⟩
def divD : D → D → Option R
  | .int a, .int b => if 0 < b ∧ b < 2 ^ 64 then some (.sh (.int (a / b))) else none
  | _, _ => none
theorem bin_fdiv : BinOk X .FloorDiv divD := ⟨_, op_fdivW, op2_C fun a b k e => by
  match a, b, e with
  | .int i, .int j, e =>
    obtain ⟨h, rfl⟩ := ite_some (show (if 0 < j ∧ j < 2 ^ 64 then some (R.sh (.int (i / j))) else none) = some k from e)
    exact ⟨i, j, rfl, rfl, wide_div (b := 64) h.1 (by omega) (by decide) (by decide), rfl⟩⟩
def modD : D → D → Option R
  | .int a, .int b => if 0 < b then some (.sh (.int (a % b))) else none
  | _, _ => none
theorem bin_mod : BinOk X .Mod modD := ⟨_, op_mod, op2_C fun a b k e => by
  match a, b, e with
  | .int i, .int j, e =>
    obtain ⟨h, rfl⟩ := ite_some (show (if 0 < j then some (R.sh (.int (i % j))) else none) = some k from e)
    exact ⟨i, j, rfl, rfl, h, rfl⟩⟩
def powD : D → D → Option R
  | .int a, .int b => if (i64 a = true ∧ 0 ≤ b ∧ b ≤ 1000) then some (.sh (.int (a ^ b.toNat))) else none
  | _, _ => none
theorem bin_pow : BinOk X .Pow powD := ⟨_, op_pow, op2_C fun a b k e => by
  match a, b, e with
  | .int i, .int j, e =>
    obtain ⟨⟨h1, h2, h3⟩, rfl⟩ := ite_some (show (if (i64 i = true ∧ 0 ≤ j ∧ j ≤ 1000) then some (R.sh (.int (i ^ j.toNat))) else none) = some k from e)
    have b64 := i64_ok h1
    exact ⟨i, j, rfl, rfl, ⟨h2, by omega, by omega⟩, rfl⟩⟩
def xorD : D → D → Option R
  | .int a, .int b => some (.sh (.int (Builtin.bitXor a b)))
  | _, _ => none
theorem bin_xor : BinOk X .BitXor xorD := ⟨_, op_xor, op2_I fun a b k e => by
  match a, b, e with
  | .int i, .int j, e => exact ⟨i, j, rfl, rfl, (Option.some.inj e).symm⟩⟩
def negD : D → Option R
  | .int a => some (.sh (.int (-a)))
  | _ => none
theorem un_negD : UnOk X .USub negD := ⟨_, un_neg, fun F H v1 d1 k s b e Q q => by
  match d1, e, b with
  | .int i, e, b =>
    cases e
    exact ⟨i, b.int, q F H _ (post_sh s (.int _))⟩⟩

/-! ### comparisons -/
def eqD : D → D → Option Bool
  | .str a, .str b => some (decide (a = b))
  | .int a, .int b => some (decide (a = b))
  | a, b => if SeqAt.shaped a = true ∧ SeqAt.shaped b = true then some (PyData.eqv a b) else none
theorem eqD_cases {a b : D} {k : Bool} (h : eqD a b = some k) : (∃ x y, a = .str x ∧ b = .str y ∧ k = decide (x = y)) ∨ (∃ x y, a = .int x ∧ b = .int y ∧ k = decide (x = y)) ∨ (SeqAt.shaped a = true ∧ SeqAt.shaped b = true ∧ PyData.eqv a b = k) := by
  unfold eqD at h
  split at h
  · exact .inl ⟨_, _, rfl, rfl, (Option.some.inj h).symm⟩
  · exact .inr (.inl ⟨_, _, rfl, rfl, (Option.some.inj h).symm⟩)
  · obtain ⟨⟨h1, h2⟩, h3⟩ := ite_some h
    exact .inr (.inr ⟨h1, h2, h3⟩)
theorem plain_of_shaped {d : D} (h : SeqAt.shaped d = true) : plainD d = true := plain_of_canLay d (SeqAt.canLay_of_shaped h)
theorem decV_str {x y : Str} : decide (V.str x = V.str y) = decide (x = y) := by
  by_cases h : x = y
  · rw [h]; simp
  · rw [decide_eq_false h, decide_eq_false (fun z => h (V.str.inj z))]
theorem decV_int {x y : Int} : decide (V.int x = V.int y) = decide (x = y) := by
  by_cases h : x = y
  · rw [h]; simp
  · rw [decide_eq_false h, decide_eq_false (fun z => h (V.int.inj z))]
theorem cmp_eq (hu : X.A.units + 64 < cLine) : CmpOk X .Eq eqD := ⟨_, op_eq.or (op_eqD hu), fun F H v1 v2 d1 d2 k s b1 b2 e Q q => by
  rcases eqD_cases e with ⟨x, y, rfl, rfl, rfl⟩ | ⟨x, y, rfl, rfl, rfl⟩ | ⟨h1, h2, rfl⟩
  · rw [b1.str, b2.str]
    exact .inl ⟨rfl, by rw [decV_str]; exact q⟩
  · rw [b1.int, b2.int]
    exact .inl ⟨rfl, by rw [decV_int]; exact q⟩
  · exact .inr ⟨d1, d2, b1.dp s (plain_of_shaped h1), b2.dp s (plain_of_shaped h2), h1, h2, q⟩⟩
def neD (a b : D) : Option Bool := (eqD a b).map (!·)
theorem cmp_ne (hu : X.A.units + 64 < cLine) : CmpOk X .NotEq neD := ⟨_, op_ne.or (op_neD hu), fun F H v1 v2 d1 d2 k s b1 b2 e Q q => by
  unfold neD at e
  cases z : eqD d1 d2 with
  | none => rw [z] at e; cases e
  | some w =>
    rw [z] at e
    cases e
    rcases eqD_cases z with ⟨x, y, rfl, rfl, rfl⟩ | ⟨x, y, rfl, rfl, rfl⟩ | ⟨h1, h2, rfl⟩
    · rw [b1.str, b2.str]
      exact .inl ⟨rfl, by rw [decV_str]; exact q⟩
    · rw [b1.int, b2.int]
      exact .inl ⟨rfl, by rw [decV_int]; exact q⟩
    · exact .inr ⟨d1, d2, b1.dp s (plain_of_shaped h1), b2.dp s (plain_of_shaped h2), h1, h2, q⟩⟩
/-- orders: ints; else alike plain data -/
def rLtG (K : Fr0) (f : D → D → Bool) : R2 := fun x y H Q => ∃ d e, Dp K H x d ∧ Dp K H y e ∧ alike d e = true ∧ d ≠ .none ∧ min d.depth e.depth ≤ 60 ∧ Q (.bl (f d e)) H
theorem op_ltG (hu : X.A.units + 64 < cLine) : OpR X (compareOp .Lt) (rLtG X.K dataLt) := by
  intro pins s σ H x y v u Q I rx ry h
  obtain ⟨d, e, hd, he, sd, sn, se, q⟩ := h
  obtain ⟨as, r1⟩ := Dp.reads I d x v hd rx
  obtain ⟨bs, r2⟩ := Dp.reads I e y u he ry
  exact lt_data r1 r2 sd sn (by omega) ⟨.bl _, H, I, rfl, q⟩
theorem op_gtG (hu : X.A.units + 64 < cLine) : OpR X (compareOp .Gt) (rLtG X.K fun a b => dataLt b a) := by
  intro pins s σ H x y v u Q I rx ry h
  obtain ⟨d, e, hd, he, sd, sn, se, q⟩ := h
  obtain ⟨as, r1⟩ := Dp.reads I d x v hd rx
  obtain ⟨bs, r2⟩ := Dp.reads I e y u he ry
  exact gt_data r1 r2 sd sn (by omega) ⟨.bl _, H, I, rfl, q⟩
theorem op_leG (hu : X.A.units + 64 < cLine) : OpR X (compareOp .LtE) (rLtG X.K fun a b => !dataLt b a) := by
  intro pins s σ H x y v u Q I rx ry h
  obtain ⟨d, e, hd, he, sd, sn, se, q⟩ := h
  obtain ⟨as, r1⟩ := Dp.reads I d x v hd rx
  obtain ⟨bs, r2⟩ := Dp.reads I e y u he ry
  exact le_data r1 r2 sd sn (by omega) ⟨.bl _, H, I, rfl, q⟩
theorem op_geG (hu : X.A.units + 64 < cLine) : OpR X (compareOp .GtE) (rLtG X.K fun a b => !dataLt a b) := by
  intro pins s σ H x y v u Q I rx ry h
  obtain ⟨d, e, hd, he, sd, sn, se, q⟩ := h
  obtain ⟨as, r1⟩ := Dp.reads I d x v hd rx
  obtain ⟨bs, r2⟩ := Dp.reads I e y u he ry
  exact ge_data r1 r2 sd sn (by omega) ⟨.bl _, H, I, rfl, q⟩
def ordOk (a b : D) : Bool := plainD a && plainD b && alike a b && decide (min a.depth b.depth ≤ 60) && (match a with | .none => false | _ => true)
def ordD (fi : Int → Int → Bool) (fg : D → D → Bool) : D → D → Option Bool
  | .int a, .int b => some (fi a b)
  | a, b => if ordOk a b = true then some (fg a b) else none
theorem ordD_ok {K : Fr0} {fi : Int → Int → Bool} {fg : D → D → Bool} : Op2B (fun x y H Q => rI0 (fun i j => .bl (fi i j)) x y H Q ∨ rLtG K fg x y H Q) (ordD fi fg) := fun F H v1 v2 d1 d2 k s b1 b2 e Q q => by
  unfold ordD at e
  split at e
  · cases e
    exact .inl ⟨_, _, b1.int, b2.int, q⟩
  · obtain ⟨h, rfl⟩ := ite_some e
    unfold ordOk at h
    simp only [Bool.and_eq_true, decide_eq_true_eq] at h
    obtain ⟨⟨⟨⟨h1, h2⟩, h3⟩, h4⟩, h5⟩ := h
    exact .inr ⟨d1, d2, b1.dp s h1, b2.dp s h2, h3, fun z => (by rw [z] at h5; cases h5), h4, q⟩
def ltD := ordD (fun a b => decide (a < b)) dataLt
def gtD := ordD (fun a b => decide (b < a)) fun a b => dataLt b a
def leD := ordD (fun a b => decide (a ≤ b)) fun a b => !dataLt b a
def geD := ordD (fun a b => decide (b ≤ a)) fun a b => !dataLt a b
theorem cmp_lt (hu : X.A.units + 64 < cLine) : CmpOk X .Lt ltD := ⟨_, op_lt.or (op_ltG hu), ordD_ok⟩
theorem cmp_gt (hu : X.A.units + 64 < cLine) : CmpOk X .Gt gtD := ⟨_, op_gt.or (op_gtG hu), ordD_ok⟩
theorem cmp_le (hu : X.A.units + 64 < cLine) : CmpOk X .LtE leD := ⟨_, op_le.or (op_leG hu), ordD_ok⟩
theorem cmp_ge (hu : X.A.units + 64 < cLine) : CmpOk X .GtE geD := ⟨_, op_ge.or (op_geG hu), ordD_ok⟩
/-- is None -/
def noneD : D → Bool
  | .none => true
  | _ => false
def isND (a b : D) : Option Bool := match b with
  | .none => some (noneD a)
  | _ => none
theorem isN_dec {F H : Hp} {v : V} {d : D} (h : Bd F H v d) : decide (v = .non) = noneD d := by
  rcases h with h | ⟨p, vs, ds, rfl, _, _, rfl⟩
  · cases h <;> rfl
  · rfl
theorem cmp_is : CmpOk X .Is isND := ⟨_, op_isN, fun F H v1 v2 d1 d2 k s b1 b2 e Q q => by
  match d2, e, b2 with
  | .none, e, b2 =>
    cases e
    exact ⟨b2.non, by rw [isN_dec b1]; exact q⟩⟩
theorem cmp_isnot : CmpOk X .IsNot (fun a b => (isND a b).map (!·)) := ⟨_, op_notN, fun F H v1 v2 d1 d2 k s b1 b2 e Q q => by
  match d2, e, b2 with
  | .none, e, b2 =>
    cases e
    exact ⟨b2.non, by rw [isN_dec b1]; exact q⟩⟩
/-- x in a list of data; in a tuple of flat data -/
def flatD : D → Bool
  | .none => true
  | .bool _ => true
  | .int _ => true
  | .str _ => true
  | _ => false
theorem flat_v {F H : Hp} {v : V} {d : D} (h : Bd F H v d) (e : flatD d = true) : flatV v = true := by
  rcases h with h | ⟨p, vs, ds, rfl, _, _, rfl⟩
  · cases h <;> first | rfl | cases e
  · cases e
theorem flat_vs {F : Hp} : ∀ {vs : List V} {ds : List D}, Dvs F vs ds → ds.all flatD = true → vs.all flatV = true
  | _, _, .nil, _ => rfl
  | _, _, .cons h a, c => by
    rw [List.all_cons] at c ⊢
    have c' := Bool.and_eq_true_iff.mp c
    rw [flat_v (H := F) (.inl h) c'.1, flat_vs a c'.2]
    rfl
def inD : D → D → Option Bool
  | a, .list ds => if SeqAt.shaped a = true ∧ SeqAt.shaped (.list ds) = true then some (ds.any fun z => PyData.eqv z a) else none
  | _, _ => none
theorem cmp_in (hu : X.A.units + 65 < cLine) : CmpOk X .In inD := ⟨_, op_inD hu, fun F H v1 v2 d1 d2 k s b1 b2 e Q q => by
  match d2, e, b2 with
  | .list ds, e, b2 =>
    obtain ⟨⟨h1, h2⟩, rfl⟩ := ite_some (show (if SeqAt.shaped d1 = true ∧ SeqAt.shaped (.list ds) = true then some (ds.any fun z => PyData.eqv z d1) else none) = some k from e)
    exact ⟨d1, ds, b1.dp s (plain_of_shaped h1), b2.dp s (plain_of_shaped h2), h1, h2, q⟩⟩
theorem cmp_notin (hu : X.A.units + 65 < cLine) : CmpOk X .NotIn (fun a b => (inD a b).map (!·)) := ⟨_, op_notInD hu, fun F H v1 v2 d1 d2 k s b1 b2 e Q q => by
  match d2, e, b2 with
  | .list ds, e, b2 =>
    by_cases hs : SeqAt.shaped d1 = true ∧ SeqAt.shaped (.list ds) = true
    · have e2 : (some (ds.any fun z => PyData.eqv z d1)).map (!·) = some k := by
        rw [← e]
        show _ = (if SeqAt.shaped d1 = true ∧ SeqAt.shaped (.list ds) = true then some (ds.any fun z => PyData.eqv z d1) else none).map (!·)
        rw [if_pos hs]
      cases e2
      exact ⟨d1, ds, b1.dp s (plain_of_shaped hs.1), b2.dp s (plain_of_shaped hs.2), hs.1, hs.2, q⟩
    · have e2 : none = some k := by
        rw [← e]
        show _ = (if SeqAt.shaped d1 = true ∧ SeqAt.shaped (.list ds) = true then some (ds.any fun z => PyData.eqv z d1) else none).map (!·)
        rw [if_neg hs]
        rfl
      cases e2⟩

/-! ### subscripts, slices -/
def ixD : D → D → Option R
  | .list ds, .int i => (atI ds i).map .sh
  | .tuple ds, .int i => (atI ds i).map .sh
  | .str z, .int i => if z.length ≤ lim then (atI z.cps.toList i).map fun c => .sh (.str ⟨#[c]⟩) else none
  | .dict [(.none, .list ds)], .int i => (atI ds i).map .sh
  | _, _ => none
theorem at_dvs {F : Hp} {vs : List V} {ds : List D} {i : Int} {d : D} (h : Dvs F vs ds) (e : atI ds i = some d) : ∃ v, atI vs i = some v ∧ Dv F v d := by
  unfold atI at e ⊢
  rw [h.len]
  cases q : ixN ds.length i with
  | none => rw [q] at e; cases e
  | some j =>
    rw [q] at e
    exact h.get e
theorem map_some {α β : Type} {o : Option α} {f : α → β} {z : β} (h : o.map f = some z) : ∃ a, o = some a ∧ f a = z := by
  cases o with
  | none => cases h
  | some a => exact ⟨a, rfl, Option.some.inj h⟩
theorem o_ix {K : Fr0} (hK : K = KK.K) : Op2 (rIx K) ixD := fun F H v1 v2 d1 d2 k s b1 b2 e Q q => by
  match d1, d2, e, b1, b2 with
  | .list ds, .int i, e, b1, b2 =>
    obtain ⟨d, e1, rfl⟩ := map_some (show (atI ds i).map R.sh = some k from e)
    obtain ⟨p, vs, rfl, a, x⟩ := b1.list s
    obtain ⟨v, ev, dv⟩ := at_dvs x e1
    exact .inl ⟨p, vs, i, v, rfl, b2.int, .of a, ev, q F H v (post_sh s dv)⟩
  | .tuple ds, .int i, e, b1, b2 =>
    obtain ⟨d, e1, rfl⟩ := map_some (show (atI ds i).map R.sh = some k from e)
    obtain ⟨p, vs, rfl, a, x⟩ := b1.tup
    obtain ⟨v, ev, dv⟩ := at_dvs x e1
    exact .inr (.inl ⟨p, vs, i, v, rfl, b2.int, .of (s _ _ a), ev, q F H v (post_sh s dv)⟩)
  | .dict [(.none, .list ds)], .int i, e, b1, b2 =>
    obtain ⟨d, e1, rfl⟩ := map_some (show (atI ds i).map R.sh = some k from e)
    obtain ⟨p, vs, rfl, a, x⟩ := Bd.frz b1
    obtain ⟨v, ev, dv⟩ := at_dvs x e1
    exact .inl ⟨p, vs, i, v, rfl, b2.int, (by rw [hK]; exact s.seq a), ev, q F H v (post_sh s dv)⟩
  | .str z, .int i, e, b1, b2 =>
    obtain ⟨hl, e1⟩ := ite_some' (show (if z.length ≤ lim then (atI z.cps.toList i).map (fun c => R.sh (.str ⟨#[c]⟩)) else none) = some k from e)
    obtain ⟨c, e2, rfl⟩ := map_some e1
    exact .inr (.inr ⟨z, i, c, b1.str, b2.int, lim_le hl, e2, q F H _ (post_sh s (.str _))⟩)
variable {e a b c : Expr} {pos p p2 : Pos} {m ma mb mc : MR} {x : Str}
theorem me_ix (ha : ME X a ma) (hb : ME X b mb) (hs : PlainIx b) (hK : X.K = KK.K := by rfl) : ME X (.Subscript a b pos) (mBin ixD ma mb) := ⟨(pe_ix ix_seq ha.ok hb.ok hs).imq (tM_bin (o_ix hK))⟩
/-- a part of a slice -/
abbrev MP := En → Option (Option Int × En)
def tMP (m : MP) : TO := fun σ H Q => ∃ F G b ρ, Rp F G H b σ ρ ∧ ∃ r ρ', m ρ = some (r, ρ') ∧ ∀ F' H', Same F F' → Cln F G F' → Rp F' G H' b σ ρ' → Q r H'
structure MPt (X : Cx) (o : Option Expr) (m : MP) : Prop where
  ok : PO X o (tMP m)
theorem _root_.L2.PO.imq {X : Cx} {e : Option Expr} {t t' : TO} (h : PO X e t) (i : ∀ σ H Q, t' σ H Q → t σ H Q) : PO X e t' := ⟨fun pins s σ H R I q => h.run pins s σ H R I (i σ H R q)⟩
def pNone : MP := fun ρ => some (none, ρ)
def pSome (m : MR) : MP := fun ρ => do
  let (r, ρ1) ← m ρ
  match r with
  | .sh (.int i) => some (some i, ρ1)
  | _ => none
theorem mp_none : MPt X none pNone := ⟨po_none.imq fun σ H Q q => by
  obtain ⟨F, G, b, ρ, hr, r, ρ', e, k⟩ := q
  cases e
  exact k F H (.refl _) (.refl _ _) hr⟩
theorem mp_some (ha : ME X a ma) : MPt X (some a) (pSome ma) := ⟨(po_some ha.ok).imq fun σ H Q q => by
  obtain ⟨F, G, b, ρ, hr, r, ρ', e, k⟩ := q
  obtain ⟨⟨r1, ρ1⟩, e1, e⟩ := bind_some e
  refine ⟨F, G, b, ρ, hr, r1, ρ1, e1, fun F1 H1 v s1 c1 h1 k1 => ?_⟩
  match r1, k1, e with
  | .sh (.int i), k1, e =>
    cases (show Dv F1 v (.int i) from k1)
    cases e
    exact ⟨i, rfl, k F1 H1 s1 c1 h1⟩⟩
def cutD {α : Type} (xs : List α) (lo hi : Option Int) : List α := (xs.drop (HT.sIx xs.length 0 lo)).take (HT.sIx xs.length xs.length hi - HT.sIx xs.length 0 lo)
def slD (d : D) (lo hi : Option Int) : Option R := match d with
  | .list ds => some (.fr (cutD ds lo hi))
  | .tuple ds => some (.sh (.tuple (cutD ds lo hi)))
  | .str z => if z.length ≤ lim then some (.sh (.str (cutS z lo hi))) else none
  | _ => none
def mSl (m : MR) (lo hi : MP) : MR := fun ρ => do
  let (r, ρ1) ← m ρ
  let (l, ρ2) ← lo ρ1
  let (h, ρ3) ← hi ρ2
  let d ← deref ρ3 r
  let k ← slD d l h
  some (k, ρ3)
theorem cut_dvs {F : Hp} {vs : List V} {ds : List D} (h : Dvs F vs ds) (lo hi : Option Int) : Dvs F (cutV vs lo hi) (cutD ds lo hi) := by
  unfold cutV cutD
  rw [h.len]
  exact (h.drop _).take _
theorem cut_whole {α : Type} {xs : List α} {lo hi : Option Int} (h : HT.sIx xs.length 0 lo = 0 ∧ HT.sIx xs.length xs.length hi = xs.length) : cutD xs lo hi = xs := by
  unfold cutD
  rw [h.1, h.2]
  simp
theorem me_slice {lo hi : Option Expr} {ml mh : MP} (ha : ME X a ma) (hl : MPt X lo ml) (hh : MPt X hi mh) : ME X (.Subscript a (.Slice lo hi none p2) pos) (mSl ma ml mh) :=
  ⟨(pe_slice (sl_list.or (sl_tupA.or sl_str)) ha.ok hl.ok hh.ok).imq fun σ H Q q => by
    obtain ⟨F, G, b, ρ, hr, r, ρ', e, k⟩ := q
    obtain ⟨⟨r1, ρ1⟩, e1, e⟩ := bind_some e
    obtain ⟨⟨l, ρ2⟩, e2, e⟩ := bind_some e
    obtain ⟨⟨h, ρ3⟩, e3, e⟩ := bind_some e
    obtain ⟨d, e4, e⟩ := bind_some e
    obtain ⟨k1, e5, e⟩ := bind_some e
    cases e
    refine ⟨F, G, b, ρ, hr, r1, ρ1, e1, fun F1 H1 v1 s1 c1 h1 k1' => ?_⟩
    refine ⟨F1, guard G H1 v1 r1, b, ρ1, h1.guarded k1', l, ρ2, e2, fun F2 H2 s2 c2 h2 => ?_⟩
    refine ⟨F2, _, b, ρ2, h2, h, _, e3, fun F3 H3 s3 c3 h3 => ?_⟩
    have ge := guard_ge k1'
    have kk := k1'.keep (s2.trans s3) (c2.trans c3) h3
    have h3' := h3.less ge h1.lg
    have cc := c1.trans ((c2.trans c3).less ge)
    have ss := s1.trans (s2.trans s3)
    have bd := kk.bd h3' e4
    have fin : ∀ F' H' v, Post F3 H3 r F' H' v → Q v H' := fun F' H' v P => k F' H' v (ss.trans P.ff) (cc.trans (P.cln h3'.gh)) (P.rp h3') (P.rs h3')
    match d, e5, bd with
    | .list ds, e5, bd =>
      cases e5
      obtain ⟨p, vs, rfl, a, x⟩ := bd.list h3'.fh
      exact .inl ⟨p, vs, rfl, .of a, fun p' hp => fin _ _ _ (post_fr h3'.fh hp (cut_dvs x l h))⟩
    | .tuple ds, e5, bd =>
      cases e5
      obtain ⟨p, vs, rfl, a, x⟩ := bd.tup
      refine .inr (.inl ⟨p, vs, rfl, .of (h3'.fh _ _ a), fun z => fin F3 H3 _ (post_sh h3'.fh ?_), fun _ p' hp => fin _ _ _ (post_tup h3'.fh hp (cut_dvs x l h))⟩)
      rw [x.len] at z
      rw [cut_whole z]
      exact .tup a x
    | .str z, e5, bd =>
      obtain ⟨hl, rfl⟩ := ite_some (show (if z.length ≤ lim then some (R.sh (.str (cutS z l h))) else none) = some r from e5)
      exact .inr (.inr ⟨z, bd.str, lim_le hl, fin F3 H3 _ (post_sh h3'.fh (.str _))⟩)⟩

/-! ### built-ins of one and two arguments -/
def OpC1 (r : List V → Hp → VK → Prop) (f : D → Option R) : Prop := ∀ F H v1 d1 k, Same F H → Bd F H v1 d1 → f d1 = some k → ∀ Q : VK, (∀ F' H' v, Post F H k F' H' v → Q v H') → r [v1] H Q
def OpC2 (r : List V → Hp → VK → Prop) (f : D → D → Option R) : Prop := ∀ F H v1 v2 d1 d2 k, Same F H → Bd F H v1 d1 → Bd F H v2 d2 → f d1 d2 = some k → ∀ Q : VK, (∀ F' H' v, Post F H k F' H' v → Q v H') → r [v1, v2] H Q
structure Call1 (X : Cx) (g : Value) (f : D → Option R) : Prop where
  ex : ∃ r, CallR X g r ∧ OpC1 r f
structure Call2 (X : Cx) (g : Value) (f : D → D → Option R) : Prop where
  ex : ∃ r, CallR X g r ∧ OpC2 r f
theorem read1 {r : List V → Hp → VK → Prop} {f : D → Option R} (o : OpC1 r f) (σ : L2.St) (H : Hp) (Q : VK) (q : tM (mUn f ma) σ H Q) : tCB r (tCons (tM ma) tNil) σ H Q :=
  tM_un (r := fun v H Q => r [v] H Q) (fun F H v1 d1 k s b e Q q => o F H v1 d1 k s b e Q q) σ H Q q
theorem read2 {r : List V → Hp → VK → Prop} {f : D → D → Option R} (o : OpC2 r f) (σ : L2.St) (H : Hp) (Q : VK) (q : tM (mBin f ma mb) σ H Q) : tCB r (tCons (tM ma) (tCons (tM mb) tNil)) σ H Q :=
  tM_bin (r := fun v w H Q => r [v, w] H Q) (fun F H v1 v2 d1 d2 k s b1 b2 e Q q => o F H v1 v2 d1 d2 k s b1 b2 e Q q) σ H Q q
theorem me_b1 {id : String} {f : D → Option R} (h : Call1 X (.builtin id) f) (hg : Gl X x) (hm : X.mg x = none) (hv : bootBuiltins x = some (.builtin id)) (ha : ME X a ma) (hn : x ≠ "__name__" := by decide) (hdb : (x == ("__debug__" : Str)) = false := by decide)
    (hs : starEach (a :: []) X.env = (false, eval a X.env) :: starEach [] X.env := by rfl) (hpl : (backTo pos (starEach [] X.env)).any (·.1) = false := by rfl) : ME X (.Call (.Name x p) [a] [] pos) (mUn f ma) := by
  obtain ⟨r, h1, h2⟩ := h.ex
  exact ⟨(pe_callB h1 hg hm hv (pa_cons ha.ok pa_nil hs) hn hdb hs hpl).imq (read1 h2)⟩
theorem me_t1 {id : String} {f : D → Option R} (h : Call1 X (.type id) f) (hg : Gl X x) (hm : X.mg x = none) (hv : bootBuiltins x = some (.type id)) (ha : ME X a ma) (hn : x ≠ "__name__" := by decide) (hdb : (x == ("__debug__" : Str)) = false := by decide)
    (hs : starEach (a :: []) X.env = (false, eval a X.env) :: starEach [] X.env := by rfl) (hpl : (backTo pos (starEach [] X.env)).any (·.1) = false := by rfl) : ME X (.Call (.Name x p) [a] [] pos) (mUn f ma) := by
  obtain ⟨r, h1, h2⟩ := h.ex
  exact ⟨(pe_callTy h1 hg hm hv (pa_cons ha.ok pa_nil hs) hn hdb hs hpl).imq (read1 h2)⟩
theorem me_b2 {id : String} {f : D → D → Option R} (h : Call2 X (.builtin id) f) (hg : Gl X x) (hm : X.mg x = none) (hv : bootBuiltins x = some (.builtin id)) (ha : ME X a ma) (hb : ME X b mb) (hn : x ≠ "__name__" := by decide) (hdb : (x == ("__debug__" : Str)) = false := by decide)
    (hs : starEach (a :: [b]) X.env = (false, eval a X.env) :: starEach [b] X.env := by rfl) (hs2 : starEach (b :: []) X.env = (false, eval b X.env) :: starEach [] X.env := by rfl) (hpl : (backTo pos (starEach [b] X.env)).any (·.1) = false := by rfl) : ME X (.Call (.Name x p) [a, b] [] pos) (mBin f ma mb) := by
  obtain ⟨r, h1, h2⟩ := h.ex
  exact ⟨(pe_callB h1 hg hm hv (pa_cons ha.ok (pa_cons hb.ok pa_nil hs2) hs) hn hdb hs hpl).imq (read2 h2)⟩

def lenD : D → Option R
  | .list ds => some (.sh (.int ds.length))
  | .tuple ds => some (.sh (.int ds.length))
  | .str z => if z.length ≤ lim then some (.sh (.int z.length)) else none
  | .dict [(.none, .list ds)] => some (.sh (.int ds.length))
  | _ => none
theorem c_len (hK : X.K = KK.K := by rfl) : Call1 X (.builtin "len") lenD := ⟨_, call_len_seq.or call_len_str, fun F H v1 d1 k s b e Q q => by
  match d1, e, b with
  | .list ds, e, b =>
    cases e
    obtain ⟨p, vs, rfl, a, x⟩ := b.list s
    exact .inl ⟨p, vs, rfl, .inl (.of a), by rw [x.len]; exact q F H _ (post_sh s (.int _))⟩
  | .tuple ds, e, b =>
    cases e
    obtain ⟨p, vs, rfl, a, x⟩ := b.tup
    exact .inl ⟨p, vs, rfl, .inr (.of (s _ _ a)), by rw [x.len]; exact q F H _ (post_sh s (.int _))⟩
  | .dict [(.none, .list ds)], e, b =>
    cases e
    obtain ⟨p, vs, rfl, a, x⟩ := Bd.frz b
    exact .inl ⟨p, vs, rfl, .inl (by rw [hK]; exact s.seq a), by rw [x.len]; exact q F H _ (post_sh s (.int _))⟩
  | .str z, e, b =>
    obtain ⟨hl, rfl⟩ := ite_some (show (if z.length ≤ lim then some (R.sh (.int z.length)) else none) = some k from e)
    exact .inr ⟨z, by rw [b.str], lim_le hl, q F H _ (post_sh s (.int _))⟩⟩
def absD : D → Option R
  | .int i => some (.sh (.int (if i < 0 then -i else i)))
  | _ => none
theorem c_abs : Call1 X (.builtin "abs") absD := ⟨_, call_abs, fun F H v1 d1 k s b e Q q => by
  match d1, e, b with
  | .int i, e, b =>
    cases e
    exact ⟨i, by rw [b.int], q F H _ (post_sh s (.int _))⟩⟩
def intD : D → Option R
  | .int i => some (.sh (.int i))
  | .bool k => some (.sh (.int (if k then 1 else 0)))
  | _ => none
theorem c_int : Call1 X (.type "int") intD := ⟨_, call_int1, fun F H v1 d1 k s b e Q q => by
  match d1, e, b with
  | .int i, e, b =>
    cases e
    exact .inl ⟨i, by rw [b.int], q F H _ (post_sh s (.int _))⟩
  | .bool i, e, b =>
    cases e
    exact .inr ⟨i, by rw [b.bl], q F H _ (post_sh s (.int _))⟩⟩
def max2D : D → D → Option R
  | .int i, .int j => some (.sh (.int (if j > i then j else i)))
  | _, _ => none
theorem c_max2 (hc : X.calm = true) : Call2 X (.builtin "max") max2D := ⟨_, call_max2 hc, fun F H v1 v2 d1 d2 k s b1 b2 e Q q => by
  match d1, d2, e, b1, b2 with
  | .int i, .int j, e, b1, b2 =>
    cases e
    exact ⟨i, j, by rw [b1.int, b2.int], q F H _ (post_sh s (.int _))⟩⟩
def min2D : D → D → Option R
  | .int i, .int j => some (.sh (.int (if j < i then j else i)))
  | _, _ => none
theorem c_min2 (hc : X.calm = true) : Call2 X (.builtin "min") min2D := ⟨_, call_min2 hc, fun F H v1 v2 d1 d2 k s b1 b2 e Q q => by
  match d1, d2, e, b1, b2 with
  | .int i, .int j, e, b1, b2 =>
    cases e
    exact ⟨i, j, by rw [b1.int, b2.int], q F H _ (post_sh s (.int _))⟩⟩
/-- the ints of a list of ints -/
def intsD : List D → Option (List Int)
  | [] => some []
  | .int i :: r => (intsD r).map (i :: ·)
  | _ => none
theorem intsD_eq : ∀ {ds : List D} {ns : List Int}, intsD ds = some ns → ds = ns.map .int
  | [], _, e => by cases e; rfl
  | .int i :: r, ns, e => by
    obtain ⟨ms, e1, rfl⟩ := map_some e
    rw [intsD_eq e1]
    rfl
theorem intsD_map : ∀ ns : List Int, intsD (ns.map .int) = some ns
  | [] => rfl
  | n :: r => by
    show (intsD (r.map .int)).map (n :: ·) = _
    rw [intsD_map r]
    rfl
def sumD : D → Option R
  | .list ds => (intsD ds).map fun ns => .sh (.int ns.sum)
  | _ => none
theorem c_sum (hc : X.calm = true) : Call1 X (.builtin "sum") sumD := ⟨_, cr_sum hc, fun F H v1 d1 k s b e Q q => by
  match d1, e, b with
  | .list ds, e, b =>
    obtain ⟨ns, e1, rfl⟩ := map_some (show (intsD ds).map (fun ns => R.sh (.int ns.sum)) = some k from e)
    obtain ⟨p, vs, rfl, a, x⟩ := b.list s
    rw [intsD_eq e1] at x
    exact ⟨p, ns, rfl, by rw [← x.ints]; exact .of a, q F H _ (post_sh s (.int _))⟩⟩
def blsD : List D → Option (List Bool)
  | [] => some []
  | .bool i :: r => (blsD r).map (i :: ·)
  | _ => none
theorem blsD_eq : ∀ {ds : List D} {ns : List Bool}, blsD ds = some ns → ds = ns.map .bool
  | [], _, e => by cases e; rfl
  | .bool i :: r, ns, e => by
    obtain ⟨ms, e1, rfl⟩ := map_some e
    rw [blsD_eq e1]
    rfl
theorem blsD_map : ∀ ns : List Bool, blsD (ns.map .bool) = some ns
  | [] => rfl
  | n :: r => by
    show (blsD (r.map .bool)).map (n :: ·) = _
    rw [blsD_map r]
    rfl
def anyD : D → Option R
  | .list ds => (blsD ds).map fun ns => .sh (.bool (ns.any id))
  | _ => none
def allD : D → Option R
  | .list ds => (blsD ds).map fun ns => .sh (.bool (ns.all id))
  | _ => none
theorem c_any (hc : X.calm = true) : Call1 X (.builtin "any") anyD := ⟨_, cr_any hc, fun F H v1 d1 k s b e Q q => by
  match d1, e, b with
  | .list ds, e, b =>
    obtain ⟨ns, e1, rfl⟩ := map_some (show (blsD ds).map (fun ns => R.sh (.bool (ns.any id))) = some k from e)
    obtain ⟨p, vs, rfl, a, x⟩ := b.list s
    rw [blsD_eq e1] at x
    exact ⟨p, ns, rfl, by rw [← x.bls]; exact .of a, q F H _ (post_sh s (.bl _))⟩⟩
theorem c_all (hc : X.calm = true) : Call1 X (.builtin "all") allD := ⟨_, cr_all hc, fun F H v1 d1 k s b e Q q => by
  match d1, e, b with
  | .list ds, e, b =>
    obtain ⟨ns, e1, rfl⟩ := map_some (show (blsD ds).map (fun ns => R.sh (.bool (ns.all id))) = some k from e)
    obtain ⟨p, vs, rfl, a, x⟩ := b.list s
    rw [blsD_eq e1] at x
    exact ⟨p, ns, rfl, by rw [← x.bls]; exact .of a, q F H _ (post_sh s (.bl _))⟩⟩
def listD : D → Option R
  | .list ds => some (.fr ds)
  | .tuple ds => some (.fr ds)
  | _ => none
theorem c_list : Call1 X (.type "list") listD := ⟨_, call_list_of, fun F H v1 d1 k s b e Q q => by
  match d1, e, b with
  | .list ds, e, b =>
    cases e
    obtain ⟨p, vs, rfl, a, x⟩ := b.list s
    exact ⟨p, vs, rfl, .inl (.of a), fun l hl => q _ _ _ (post_fr s hl x)⟩
  | .tuple ds, e, b =>
    cases e
    obtain ⟨p, vs, rfl, a, x⟩ := b.tup
    exact ⟨p, vs, rfl, .inr (.of (s _ _ a)), fun l hl => q _ _ _ (post_fr s hl x)⟩⟩
def tupleD : D → Option R
  | .list ds => some (.sh (.tuple ds))
  | .tuple ds => some (.sh (.tuple ds))
  | _ => none
theorem c_tuple : Call1 X (.type "tuple") tupleD := ⟨_, call_tuple_of, fun F H v1 d1 k s b e Q q => by
  match d1, e, b with
  | .list ds, e, b =>
    cases e
    obtain ⟨p, vs, rfl, a, x⟩ := b.list s
    exact ⟨p, vs, rfl, .inl ⟨.of a, fun l hl => q _ _ _ (post_tup s hl x)⟩⟩
  | .tuple ds, e, b =>
    cases e
    obtain ⟨p, vs, rfl, a, x⟩ := b.tup
    exact ⟨p, vs, rfl, .inr ⟨.of (s _ _ a), q F H _ (post_sh s (.tup a x))⟩⟩⟩
/-! the least, the greatest of alike data -/
def rMinG (K : Fr0) (f : D → List D → D) : List V → Hp → VK → Prop := fun vs H Q => ∃ (p : Addr) (its : List V) (x : D) (xs : List D), vs = [.ref p] ∧ SqL K H p its ∧ DpAll K H its (x :: xs) ∧ AlikeAll (x :: xs) ∧ PyData.depthAll (x :: xs) ≤ 60 ∧
  ∀ (i : Nat) (y : V), its[i]? = some y → (x :: xs)[i]? = some (f x xs) → Q y H
theorem depth_ok {A : Around} {n : Nat} (hu : A.units + 64 < cLine) (h : n ≤ 60) : A.units + 1 + n < cLine := by omega
theorem item_at {h : Heap} : ∀ {vs : List Value} {ds : List D} {as : List Addr} {i : Nat} {v : Value}, ReadsAll h vs ds as → vs[i]? = some v → ∃ d bs, ds[i]? = some d ∧ Reads h v d bs
  | _, _, _, i, v, .nil, e => by simp at e
  | _, _, _, 0, v, .cons r rs, e => by
    cases e
    exact ⟨_, _, rfl, r⟩
  | _, _, _, i + 1, v, .cons r rs, e => by
    obtain ⟨d, bs, a, b⟩ := item_at (i := i) (v := v) rs (by simpa using e)
    exact ⟨d, bs, by simpa using a, b⟩
theorem call_minG (hc : X.calm = true) (hu : X.A.units + 64 < cLine) : CallR X (.builtin "min") (rMinG X.K minD) := by
  intro pins s σ H vs us Q I r h
  obtain ⟨a, its, x, xs, rfl, hs, da, al, dep, q⟩ := h
  obtain ⟨vals, rv, hl, _⟩ := I.list hs
  obtain ⟨as, hr⟩ := Dp.readsAll I _ _ _ da rv
  rw [Vals.ref1 r]
  refine min_list_data (vs := vals.toArray) (I.ok.hd hc) hl.isList (by simpa using hr) al (depth_ok hu dep) fun i v h' tk bs hv hrd hk => ?_
  have hv' : vals[i]? = some v := by simpa using hv
  obtain ⟨d, cs, hd, rd⟩ := item_at hr hv'
  obtain ⟨e1, _⟩ := reads_det (fun b o e _ => hk b o e) rd hrd
  have hi : i < its.length := by
    have := rv.length
    have := (List.getElem?_eq_some_iff.mp hv').1
    omega
  obtain ⟨u, hu', ru⟩ := rv.get (List.getElem?_eq_getElem hi)
  rw [hv'] at hu'
  cases hu'
  exact ⟨its[i], H, I.kept hk, ru, q i _ (List.getElem?_eq_getElem hi) (by rw [hd, e1])⟩
theorem call_maxG (hc : X.calm = true) (hu : X.A.units + 64 < cLine) : CallR X (.builtin "max") (rMinG X.K maxD) := by
  intro pins s σ H vs us Q I r h
  obtain ⟨a, its, x, xs, rfl, hs, da, al, dep, q⟩ := h
  obtain ⟨vals, rv, hl, _⟩ := I.list hs
  obtain ⟨as, hr⟩ := Dp.readsAll I _ _ _ da rv
  rw [Vals.ref1 r]
  refine max_list_data (vs := vals.toArray) (I.ok.hd hc) hl.isList (by simpa using hr) al (depth_ok hu dep) fun i v h' tk bs hv hrd hk => ?_
  have hv' : vals[i]? = some v := by simpa using hv
  obtain ⟨d, cs, hd, rd⟩ := item_at hr hv'
  obtain ⟨e1, _⟩ := reads_det (fun b o e _ => hk b o e) rd hrd
  have hi : i < its.length := by
    have := rv.length
    have := (List.getElem?_eq_some_iff.mp hv').1
    omega
  obtain ⟨u, hu', ru⟩ := rv.get (List.getElem?_eq_getElem hi)
  rw [hv'] at hu'
  cases hu'
  exact ⟨its[i], H, I.kept hk, ru, q i _ (List.getElem?_eq_getElem hi) (by rw [hd, e1])⟩
def alikeB (ds : List D) : Bool := ds.all (fun x => ds.all fun y => alike x y) && ds.all fun x => !noneD x
theorem alikeB_ok {ds : List D} (h : alikeB ds = true) : AlikeAll ds := by
  unfold alikeB at h
  obtain ⟨h1, h2⟩ := Bool.and_eq_true_iff.mp h
  rw [List.all_eq_true] at h1 h2
  refine ⟨fun x hx y hy => List.all_eq_true.mp (h1 x hx) y hy, fun x hx z => ?_⟩
  have := h2 x hx
  rw [z] at this
  cases this
def bestOk (ds : List D) : Bool := plainDs ds && alikeB ds && decide (PyData.depthAll ds ≤ 60)
def minLD : D → Option R
  | .list (x :: xs) => if bestOk (x :: xs) = true then some (.sh (minD x xs)) else none
  | _ => none
def maxLD : D → Option R
  | .list (x :: xs) => if bestOk (x :: xs) = true then some (.sh (maxD x xs)) else none
  | _ => none
theorem o_best {K : Fr0} {f : D → List D → D} {g : D → Option R} (hg : ∀ d k, g d = some k → ∃ x xs, d = .list (x :: xs) ∧ bestOk (x :: xs) = true ∧ k = .sh (f x xs)) : OpC1 (rMinG K f) g := fun F H v1 d1 k s b e Q q => by
  obtain ⟨x, xs, rfl, hb, rfl⟩ := hg d1 k e
  obtain ⟨p, vs, rfl, a, dx⟩ := b.list s
  unfold bestOk at hb
  simp only [Bool.and_eq_true, decide_eq_true_eq] at hb
  obtain ⟨⟨h1, h2⟩, h3⟩ := hb
  refine ⟨p, vs, x, xs, rfl, .of a, (dx.mono s).pl h1, alikeB_ok h2, h3, fun i y hy hd => ?_⟩
  obtain ⟨v, ev, dv⟩ := dx.get hd
  rw [hy] at ev
  cases ev
  exact q F H y (post_sh s dv)
theorem c_min (hc : X.calm = true) (hu : X.A.units + 64 < cLine) : Call1 X (.builtin "min") minLD := ⟨_, call_minG hc hu, o_best fun d k e => by
  match d, e with
  | .list (x :: xs), e =>
    obtain ⟨h, rfl⟩ := ite_some (show (if bestOk (x :: xs) = true then some (R.sh (minD x xs)) else none) = some k from e)
    exact ⟨x, xs, rfl, h, rfl⟩⟩
theorem c_max (hc : X.calm = true) (hu : X.A.units + 64 < cLine) : Call1 X (.builtin "max") maxLD := ⟨_, call_maxG hc hu, o_best fun d k e => by
  match d, e with
  | .list (x :: xs), e =>
    obtain ⟨h, rfl⟩ := ite_some (show (if bestOk (x :: xs) = true then some (R.sh (maxD x xs)) else none) = some k from e)
    exact ⟨x, xs, rfl, h, rfl⟩⟩
end
end Mi
set_option Elab.async false
set_option linter.all false
set_option maxRecDepth 100000
/-! Core7: is, isinstance, repr, stores by an operator, texts joined, index, enumerate, zip, reversed. -/
namespace Mi
open PySem PySem.Spec PyProof.Rows L2
open PySem.W (alike alikeAll dataLt AlikeAll minD maxD)
variable [KK]
section
variable {X : Cx}
/-! ### is None, is True, is False -/
def isD : D → D → Option Bool
  | a, .none => some (noneD a)
  | .bool x, .bool y => some (x == y)
  | _, .bool _ => some false
  | _, _ => none
def noTy : V → Bool
  | .ty _ => false
  | _ => true
def rIsBo : R2 := fun x y H Q => ∃ k, y = .bl k ∧ noTy x = true ∧ Q (.bl (decide (x = .bl k))) H
theorem op_isBo : OpR X (compareOp .Is) rIsBo := by
  intro pins s σ H x y v u Q I rx ry h
  obtain ⟨k, rfl, hx, q⟩ := h
  cases (show u = Value.bool k from ry)
  have fin : ∀ b, b = decide (x = V.bl k) → EP X pins σ Q (.bool b) s := fun b e => by
    subst e
    exact ⟨.bl _, H, I, rfl, q⟩
  cases x with
  | non =>
    cases rx
    exact wpAny_is_plain rfl (fin _ rfl)
  | bl b =>
    cases (show v = Value.bool b from rx)
    refine is_bool (fin _ ?_)
    by_cases e : b = k
    · subst e; simp
    · rw [decide_eq_false (fun z => e (V.bl.inj z)), beq_eq_false_iff_ne.mpr e]
  | int i => obtain ⟨t, rfl⟩ := rx; exact wpAny_is_other rfl (fun z => nomatch z) (fin _ rfl)
  | str i => obtain ⟨t, rfl⟩ := rx; exact wpAny_is_other rfl (fun z => nomatch z) (fin _ rfl)
  | byt i => obtain ⟨t, rfl⟩ := rx; exact wpAny_is_other rfl (fun z => nomatch z) (fin _ rfl)
  | flt i => obtain ⟨t, rfl⟩ := rx; exact wpAny_is_other rfl (fun z => nomatch z) (fin _ rfl)
  | ref a => cases rx; exact wpAny_is_other rfl (fun z => nomatch z) (fin _ rfl)
  | ty n => cases hx
theorem isB_dec {F H : Hp} {v : V} {d : D} {k : Bool} (h : Bd F H v d) : noTy v = true ∧ ∀ b, isD d (.bool k) = some b → b = decide (v = .bl k) := by
  rcases h with h | ⟨p, vs, ds, rfl, _, _, rfl⟩
  · cases h with
    | non => exact ⟨rfl, fun b e => by cases e; rfl⟩
    | bl x =>
      refine ⟨rfl, fun b e => ?_⟩
      cases e
      by_cases z : x = k
      · subst z; simp
      · rw [decide_eq_false (fun w => z (V.bl.inj w)), beq_eq_false_iff_ne.mpr z]
    | int x => exact ⟨rfl, fun b e => by cases e; rfl⟩
    | str x => exact ⟨rfl, fun b e => by cases e; rfl⟩
    | lst _ _ => exact ⟨rfl, fun b e => by cases e; rfl⟩
    | tup _ _ => exact ⟨rfl, fun b e => by cases e; rfl⟩
    | frz _ _ => exact ⟨rfl, fun b e => by cases e; rfl⟩
  · exact ⟨rfl, fun b e => by cases e; rfl⟩
theorem cmp_isD : CmpOk X .Is isD := ⟨_, op_isN.or op_isBo, fun F H v1 v2 d1 d2 k s b1 b2 e Q q => by
  match d2, e, b2 with
  | .none, e, b2 =>
    have e' : some (noneD d1) = some k := by
      rw [← e]
      cases d1 <;> rfl
    cases e'
    exact .inl ⟨b2.non, by rw [isN_dec b1]; exact q⟩
  | .bool z, e, b2 =>
    obtain ⟨h1, h2⟩ := isB_dec (k := z) b1
    exact .inr ⟨z, b2.bl, h1, by rw [← h2 k e]; exact q⟩
  | .int _, e, _ => cases d1 <;> cases e
  | .str _, e, _ => cases d1 <;> cases e
  | .list _, e, _ => cases d1 <;> cases e
  | .tuple _, e, _ => cases d1 <;> cases e
  | .dict _, e, _ => cases d1 <;> cases e⟩

/-! ### isinstance(x, T), T a built-in type -/
def tyName : D → String
  | .none => "NoneType"
  | .bool _ => "bool"
  | .int _ => "int"
  | .str _ => "str"
  | .list _ => "list"
  | .tuple _ => "tuple"
  | .dict _ => "dict"
def isiD (T : String) (d : D) : Option Bool := if plainD d = true then kitB (tyName d) T else none
def mIsi (T : String) (m : MR) : MR := fun ρ => do
  let (r, ρ1) ← m ρ
  let d ← deref ρ1 r
  let k ← isiD T d
  some (.sh (.bool k), ρ1)
variable {e a b c : Expr} {pos p p2 p3 : Pos} {m ma mb mc : MR} {x y : Str} {t : MB}
theorem ty_of {K : Fr0} {F H : Hp} {v : V} {d : D} (s : Same F H) (h : Bd F H v d) (c : plainD d = true) : TyX K H v (.type (tyName d)) := by
  rcases h with h | ⟨p, vs, ds, rfl, a, _, rfl⟩
  · cases h with
    | non => exact .base .non
    | bl x => exact .base (.bl x)
    | int x => exact .base (.int x)
    | str x => exact .base (.str x)
    | lst a _ => exact .base (.lst (s _ _ a))
    | tup a _ => exact .base (.tup (s _ _ a))
    | frz _ _ => cases c
  · exact .base (.lst a)
theorem me_isi {T : String} (hg : Gl X "isinstance") (hm : X.mg "isinstance" = none) (hv : bootBuiltins "isinstance" = some (.builtin "isinstance")) (ha : ME X a ma) (hgT : Gl X x) (hmT : X.mg x = none) (hvT : bootBuiltins x = some (.type T))
    (hn : x ≠ "__name__" := by decide) (hdb : (x == ("__debug__" : Str)) = false := by decide)
    (hs : starEach (a :: [.Name x p2]) X.env = (false, eval a X.env) :: starEach [.Name x p2] X.env := by rfl) (hs2 : starEach (.Name x p2 :: []) X.env = (false, eval (.Name x p2) X.env) :: starEach [] X.env := by rfl) (hpl : (backTo pos (starEach [.Name x p2] X.env)).any (·.1) = false := by rfl) :
    ME X (.Call (.Name "isinstance" p) [a, .Name x p2] [] pos) (mIsi T ma) :=
  ⟨(pe_callB call_isi hg hm hv (pa_cons ha.ok (pa_cons (pe_bltn (v := .ty T) hgT hmT hvT rfl hn hdb) pa_nil hs2) hs) (by decide) (by decide) hs hpl).imq fun σ H Q q => by
    obtain ⟨F, G, b, ρ, hr, r, ρ', e, k⟩ := q
    obtain ⟨⟨r1, ρ1⟩, e1, e⟩ := bind_some e
    obtain ⟨d, e2, e⟩ := bind_some e
    obtain ⟨kb, e3, e⟩ := bind_some e
    cases e
    obtain ⟨hp, e3⟩ := ite_some' e3
    refine ⟨F, G, b, ρ, hr, r1, _, e1, fun F1 H1 v1 s1 c1 h1 k1 => ?_⟩
    exact ⟨v1, .ty T, _, _, kb, rfl, .ty T, ty_of h1.fh (k1.bd h1 e2) hp, kit_ty e3, k F1 H1 _ s1 c1 h1 (.bl _)⟩⟩

/-! ### repr -/
def reprD : D → Option R
  | .str x => if (reprText x).length ≤ lim then some (.sh (.str (reprText x))) else none
  | .int i => if i64 i = true then some (.sh (.str (toString i))) else none
  | _ => none
def rReprS : List V → Hp → VK → Prop := fun xs H Q => ∃ x : Str, xs = [.str x] ∧ (reprText x).length ≤ sizeLine ∧ Q (.str (reprText x)) H
theorem call_repr_str : CallR X (.builtin "repr") rReprS := by
  intro pins s σ H xs us Q I r h
  obtain ⟨i, rfl, hz, q⟩ := h
  obtain ⟨u, rfl, t, rfl⟩ := vals1 r
  exact PySem.P.repr_of_str ⟨.str _, H, I.tok _, ⟨_, rfl⟩, q⟩ hz
theorem log_small {i : Int} (h : i64 i = true) : i.natAbs.log2 < 1920 := by
  have h := i64_ok h
  have h2 : i.natAbs < 2 ^ 64 := by omega
  exact Nat.lt_trans (PySem.Flt.log2_lt_of (by decide : 0 < 64) h2) (by decide)
def rReprI : List V → Hp → VK → Prop := fun xs H Q => ∃ i : Int, xs = [.int i] ∧ i.natAbs.log2 < 1920 ∧ Q (.str (toString i)) H
theorem call_repr_i : CallR X (.builtin "repr") rReprI := by
  intro pins s σ H xs us Q I r h
  obtain ⟨i, rfl, hz, q⟩ := h
  obtain ⟨u, rfl, t, rfl⟩ := vals1 r
  exact PySem.P.repr_of_int hz ⟨.str _, H, I.tok _, ⟨_, rfl⟩, q⟩
theorem c_repr : Call1 X (.builtin "repr") reprD := ⟨_, call_repr_i.or call_repr_str, fun F H v1 d1 k s b e Q q => by
  match d1, e, b with
  | .int i, e, b =>
    obtain ⟨h, rfl⟩ := ite_some (show (if i64 i = true then some (R.sh (.str (toString i))) else none) = some k from e)
    exact .inl ⟨i, by rw [b.int], log_small h, q F H _ (post_sh s (.str _))⟩
  | .str i, e, b =>
    obtain ⟨h, rfl⟩ := ite_some (show (if (reprText i).length ≤ lim then some (R.sh (.str (reprText i))) else none) = some k from e)
    exact .inr ⟨i, by rw [b.str], lim_le h, q F H _ (post_sh s (.str _))⟩⟩

/-! ### name op= e -/
structure AugOk (X : Cx) (op : Operator) (f : D → D → Option R) : Prop where
  ex : ∃ r, PIp X op r ∧ Op2 r f
def sAug (i : Nat) (f : D → D → Option R) (m : MR) : MS' := fun ρ => do
  let (r0, ρ0) ← mVar i ρ
  match r0 with
  | .sh d0 => do
    let (r1, ρ1) ← m ρ0
    let d1 ← deref ρ1 r1
    let k ← f d0 d1
    let ρ2 ← asg ρ1 i k
    some (.nx, ρ2)
  | _ => none
theorem ms_aug {i : Nat} {op : Operator} {f : D → D → Option R} {pos' : Pos} (o : AugOk X op f) (hN : X.N.Nodup) (hi : X.N[i]? = some x) (hx : Loc X.env.scope x) (he : ME X e m) (hf : X.fn x = true ∨ X.env.scope.names.lookup x = some .local := by first | exact .inl rfl | exact .inr rfl | assumption) :
    MSt X (.AugAssign (.Name x pos') op e pos) (sAug i f m) := by
  obtain ⟨ti, h1, h2⟩ := o.ex
  refine ⟨(ps_aug hN hi hx he.ok h1 hf).imq fun D σ H q => ?_⟩
  obtain ⟨F, G, b, ρ, hr, o, ρ', e, k⟩ := q
  obtain ⟨⟨r0, ρ0⟩, e0, e⟩ := bind_some e
  match r0, e0, e with
  | .sh d0, e0, e =>
    obtain ⟨⟨r1, ρ1⟩, e1, e⟩ := bind_some e
    obtain ⟨d1, e2, e⟩ := bind_some e
    obtain ⟨z, e3, e⟩ := bind_some e
    obtain ⟨ρ2, e4, e⟩ := bind_some e
    cases e
    unfold mVar at e0
    cases q : ρ[i]? with
    | none => simp [q] at e0
    | some w =>
      have s := hr.slot i w q
      cases w with
      | no => simp [q] at e0
      | own _ => simp [q] at e0
      | io _ => simp [q] at e0
      | dct _ => simp [q] at e0
      | lent _ => simp [q] at e0
      | sh d =>
        simp only [q] at e0
        cases e0
        obtain ⟨v0, a0, dv0⟩ := s
        refine ⟨v0, a0, F, G, b, ρ, hr, r1, ρ1, e1, fun F1 H1 v1 s1 c1 g1 k1 => ?_⟩
        refine h2 F1 H1 v0 v1 d0 d1 z g1.fh (.inl (dv0.mono s1)) (k1.bd g1 e2) e3 _ fun F' H' v P => ?_
        obtain ⟨F2, s2, c2, r2⟩ := asg_ok (P.rp g1) (P.rs g1) e4
        exact k F2 H' _ (s1.trans (P.ff.trans s2)) (c1.trans ((P.cln g1.gh).trans c2)) r2
theorem pip_of {op : Operator} {r : R2} (h : OpR X (inplaceOp op) r) : PIp X op r := fun pins s σ H x y v u Q I rx ry q => h pins s σ H x y v u Q I rx ry q
def addIS : D → D → Option R
  | .int a, .int b => addI (.int a) (.int b)
  | .str a, .str b => addS (.str a) (.str b)
  | _, _ => none
theorem aug_add : AugOk X .Add addIS := ⟨_, pip_of (iop_add.or iop_add_str), Op2.or o_addI o_addS fun a b z e => by
  match a, b, e with
  | .int a, .int b, e => exact .inl e
  | .str a, .str b, e => exact .inr e⟩
theorem aug_sub : AugOk X .Sub subD := ⟨_, pip_of iop_sub, op2_I fun a b k e => by
  match a, b, e with
  | .int i, .int j, e => exact ⟨i, j, rfl, rfl, (Option.some.inj e).symm⟩⟩
theorem aug_mul : AugOk X .Mult mulI := ⟨_, pip_of iop_mul, o_mulI⟩

/-! ### texts joined; the place of an item -/
def strsD : List D → Option (List Str)
  | [] => some []
  | .str i :: r => (strsD r).map (i :: ·)
  | _ => none
theorem strsD_eq : ∀ {ds : List D} {ns : List Str}, strsD ds = some ns → ds = ns.map .str
  | [], _, e => by cases e; rfl
  | .str i :: r, ns, e => by
    obtain ⟨ms, e1, rfl⟩ := map_some e
    rw [strsD_eq e1]
    rfl
theorem strsD_map : ∀ ns : List Str, strsD (ns.map .str) = some ns
  | [] => rfl
  | n :: r => by
    show (strsD (r.map .str)).map (n :: ·) = _
    rw [strsD_map r]
    rfl
def joinD : D → D → Option R
  | .str a, .list ds => do
    let ys ← strsD ds
    if (ys.map (·.length)).sum + ys.length * a.length ≤ lim then some (.sh (.str (Txt.join a ys))) else none
  | .str a, .tuple ds => do
    let ys ← strsD ds
    if (ys.map (·.length)).sum + ys.length * a.length ≤ lim then some (.sh (.str (Txt.join a ys))) else none
  | _, _ => none
/-- o.m(e), o a text: the object first known to be a text -/
def mM1 (f : D → D → Option R) (mo m : MR) : MR := fun ρ => do
  let (r1, ρ1) ← mo ρ
  match r1 with
  | .sh (.str a) => do
    let (r2, ρ2) ← m ρ1
    let d2 ← deref ρ2 r2
    let k ← f (.str a) d2
    some (k, ρ2)
  | _ => none
theorem tM_m1 {r : V → List V → Hp → VK → Prop} {f : D → D → Option R} (o : Op2 (fun x y H Q => r x [y] H Q) f) (σ : L2.St) (H : Hp) (Q : VK) (q : tM (mM1 f ma mb) σ H Q) : tM1 r (tM ma) (tM mb) σ H Q := by
  obtain ⟨F, G, b, ρ, hr, r', ρ', e, k⟩ := q
  obtain ⟨⟨r1, ρ1⟩, e1, e⟩ := bind_some e
  match r1, e1, e with
  | .sh (.str a), e1, e =>
    obtain ⟨⟨r2, ρ2⟩, e2, e⟩ := bind_some e
    obtain ⟨d2, e4, e⟩ := bind_some e
    obtain ⟨z, e5, e⟩ := bind_some e
    cases e
    refine ⟨F, G, b, ρ, hr, _, ρ1, e1, fun F1 H1 v1 s1 c1 h1 k1 => ?_⟩
    cases (show Dv F1 v1 (.str a) from k1)
    refine ⟨⟨a, rfl⟩, F1, G, b, ρ1, h1, r2, ρ', e2, fun F2 H2 v2 s2 c2 h2 k2 => ?_⟩
    refine o F2 H2 _ v2 (.str a) d2 _ h2.fh (.inl (.str a)) (k2.bd h2 e4) e5 Q fun F' H' v P => ?_
    exact k F' H' v (s1.trans (s2.trans P.ff)) (c1.trans (c2.trans (P.cln h2.gh))) (P.rp h2) (P.rs h2)
theorem me_join {apos : Pos} (ho : ME X a ma) (he : ME X b mb) (hs : starEach [b] X.env = [(false, eval b X.env)] := by rfl) (hbase : attributeBase a "join" X.env (eval a X.env) = eval a X.env := by rfl) (hline : (apos.endLine == pos.line) = true := by rfl) :
    ME X (.Call (.Attribute a "join" apos) [b] [] pos) (mM1 joinD ma mb) := ⟨(pe_join ho.ok he.ok hs hbase hline).imq (tM_m1 fun F H v1 v2 d1 d2 k s b1 b2 e Q q => by
  match d1, d2, e, b1, b2 with
  | .str a, .list ds, e, b1, b2 =>
    obtain ⟨ys, e1, e2⟩ := bind_some (show (do let ys ← strsD ds; if (ys.map (·.length)).sum + ys.length * a.length ≤ lim then some (R.sh (.str (Txt.join a ys))) else none) = some k from e)
    obtain ⟨hl, rfl⟩ := ite_some e2
    obtain ⟨p, vs, rfl, h, x⟩ := b2.list s
    rw [strsD_eq e1] at x
    exact ⟨a, p, ys, b1.str, rfl, .inl (by rw [← x.strs]; exact .of h), lim_le' hl, q F H _ (post_sh s (.str _))⟩
  | .str a, .tuple ds, e, b1, b2 =>
    obtain ⟨ys, e1, e2⟩ := bind_some (show (do let ys ← strsD ds; if (ys.map (·.length)).sum + ys.length * a.length ≤ lim then some (R.sh (.str (Txt.join a ys))) else none) = some k from e)
    obtain ⟨hl, rfl⟩ := ite_some e2
    obtain ⟨p, vs, rfl, h, x⟩ := b2.tup
    rw [strsD_eq e1] at x
    exact ⟨a, p, ys, b1.str, rfl, .inr (by rw [← x.strs]; exact .of (s _ _ h)), lim_le' hl, q F H _ (post_sh s (.str _))⟩)⟩
where lim_le' {n : Nat} (h : n ≤ lim) : n ≤ 16777216 := Nat.le_trans h (by decide)
/-- xs.index(k), whole numbers, found -/
def idxI (k : Int) : List Int → Option Nat
  | [] => none
  | n :: r => if n = k then some 0 else (idxI k r).map (· + 1)
def idxS (k : Str) : List Str → Option Nat
  | [] => none
  | n :: r => if n = k then some 0 else (idxS k r).map (· + 1)
def indexD : D → D → Option R
  | .list ds, .int k => do
    let ns ← intsD ds
    let j ← idxI k ns
    some (.sh (.int (j : Nat)))
  | .list ds, .str k => do
    let ns ← strsD ds
    let j ← idxS k ns
    some (.sh (.int (j : Nat)))
  | _, _ => none
theorem idxI_ok {k : Int} : ∀ {ns : List Int} {j : Nat}, idxI k ns = some j → ns[j]? = some k ∧ ∀ m z, m < j → ns[m]? = some z → z ≠ k
  | n :: r, j, e => by
    unfold idxI at e
    by_cases h : n = k
    · rw [if_pos h] at e
      cases e
      exact ⟨by rw [h]; rfl, fun m z hm => absurd hm (Nat.not_lt_zero m)⟩
    · rw [if_neg h] at e
      obtain ⟨i, e1, rfl⟩ := map_some e
      obtain ⟨a1, a2⟩ := idxI_ok e1
      refine ⟨by simpa using a1, fun m z hm hz => ?_⟩
      cases m with
      | zero =>
        have : n = z := Option.some.inj hz
        rw [← this]
        exact h
      | succ m => exact a2 m z (by omega) (by simpa using hz)
theorem idxS_ok {k : Str} : ∀ {ns : List Str} {j : Nat}, idxS k ns = some j → ns[j]? = some k ∧ ∀ m z, m < j → ns[m]? = some z → z ≠ k
  | n :: r, j, e => by
    unfold idxS at e
    by_cases h : n = k
    · rw [if_pos h] at e
      cases e
      exact ⟨by rw [h]; rfl, fun m z hm => absurd hm (Nat.not_lt_zero m)⟩
    · rw [if_neg h] at e
      obtain ⟨i, e1, rfl⟩ := map_some e
      obtain ⟨a1, a2⟩ := idxS_ok e1
      refine ⟨by simpa using a1, fun m z hm hz => ?_⟩
      cases m with
      | zero =>
        have : n = z := Option.some.inj hz
        rw [← this]
        exact h
      | succ m => exact a2 m z (by omega) (by simpa using hz)
theorem all_flat_int (ns : List Int) : (ns.map V.int).all flatV = true := by
  rw [List.all_map]
  exact List.all_eq_true.mpr fun _ _ => rfl
theorem all_flat_str (ns : List Str) : (ns.map V.str).all flatV = true := by
  rw [List.all_map]
  exact List.all_eq_true.mpr fun _ _ => rfl
theorem eqv_int_ne {z k : Int} (h : z ≠ k) : eqV (.int z) (.int k) = false := beq_eq_false_iff_ne.mpr h
theorem eqv_str_ne {z k : Str} (h : z ≠ k) : eqV (.str z) (.str k) = false := beq_eq_false_iff_ne.mpr h
def mIndex (ma mb : MR) : MR := fun ρ => do
  let (r1, ρ1) ← ma ρ
  let d0 ← deref ρ1 r1
  match d0 with
  | .list _ => do
    let (r2, ρ2) ← mb ρ1
    let d1 ← deref ρ2 r1
    let d2 ← deref ρ2 r2
    let k ← indexD d1 d2
    some (k, ρ2)
  | _ => none
theorem me_index {apos cpos : Pos} (ho : ME X a ma) (he : ME X b mb) (hbase : attributeBase a "index" X.env (eval a X.env) = eval a X.env := by rfl)
    (hfew : ((backTo cpos (starEach (b :: []) X.env)).all (fun x => !x.1) && (backToKw cpos (keywordEach [] X.env)).all (fun x => x.1.isSome)
      && decide ((b :: ([] : List Expr)).length + ([] : List Keyword).length + (if ([] : List Keyword).isEmpty then 0 else 1) < 30)) = true := by rfl)
    (hline : (apos.endLine == cpos.line) = true := by rfl) (hs : starEach (b :: []) X.env = (false, eval b X.env) :: starEach [] X.env := by rfl) (hplain : (backTo cpos (starEach [] X.env)).any (·.1) = false := by rfl) :
    ME X (.Call (.Attribute a "index" apos) [b] [] cpos) (mIndex ma mb) :=
  ⟨(pe_bm PySem.F.plainAttrs_list PySem.F.slot_list_index PySem.F.type_list_index mt_index ho.ok (pa_cons he.ok pa_nil hs) hbase hfew hline hs hplain).imq fun σ H Q q => by
    obtain ⟨F, G, b', ρ, hr, r, ρ', e, k⟩ := q
    obtain ⟨⟨r1, ρ1⟩, e1, e⟩ := bind_some e
    obtain ⟨d0, e0, e⟩ := bind_some e
    refine ⟨F, G, b', ρ, hr, r1, ρ1, e1, fun F1 H1 v1 s1 c1 h1 k1 => ?_⟩
    have bd0 := k1.bd h1 e0
    match d0, bd0, e with
    | .list ds0, bd0, e =>
      obtain ⟨⟨r2, ρ2⟩, e2, e⟩ := bind_some e
      obtain ⟨d1, e3, e⟩ := bind_some e
      obtain ⟨d2, e4, e⟩ := bind_some e
      obtain ⟨z, e5, e⟩ := bind_some e
      cases e
      obtain ⟨p0, vs0, rfl, a0, _⟩ := bd0.list h1.fh
      refine ⟨.inl ⟨rfl, _, .of a0⟩, F1, guard G H1 _ r1, b', ρ1, h1.guarded k1, r2, _, e2, fun F2 H2 v2 s2 c2 h2 k2 => ?_⟩
      have ge := guard_ge k1
      have kk := k1.keep s2 c2 h2
      have h2' := h2.less ge h1.lg
      have kk2 := k2.less ge
      have bd1 := kk.bd h2' e3
      have bd2 := kk2.bd h2' e4
      have fin : ∀ F' H' v, Post F2 H2 r F' H' v → Q v H' := fun F' H' v P => k F' H' v (s1.trans (s2.trans P.ff)) (c1.trans ((c2.less ge).trans (P.cln h2'.gh))) (P.rp h2') (P.rs h2')
      match d1, d2, e5, bd1, bd2 with
      | .list ds, .int n, e5, bd1, bd2 =>
        obtain ⟨ns, e6, e7⟩ := bind_some (show (do let ns ← intsD ds; let j ← idxI n ns; some (R.sh (.int (j : Nat)))) = some r from e5)
        obtain ⟨j, e8, e9⟩ := bind_some e7
        cases e9
        obtain ⟨p1, vs1, q1, a1, x1⟩ := bd1.list h2'.fh
        cases q1
        rw [intsD_eq e6] at x1
        rw [x1.ints] at a1
        obtain ⟨o1, o2⟩ := idxI_ok e8
        refine ⟨p0, ns.map V.int, .int n, j, .int n, rfl, by rw [bd2.int], .of a1, rfl, all_flat_int ns, by rw [List.getElem?_map, o1]; rfl, beq_self_eq_true n, fun m z' hm hz => ?_, fin F2 H2 _ (post_sh h2'.fh (.int _))⟩
        rw [List.getElem?_map] at hz
        obtain ⟨w, hw, rfl⟩ := map_some hz
        exact eqv_int_ne (o2 m w hm hw)
      | .list ds, .str n, e5, bd1, bd2 =>
        obtain ⟨ns, e6, e7⟩ := bind_some (show (do let ns ← strsD ds; let j ← idxS n ns; some (R.sh (.int (j : Nat)))) = some r from e5)
        obtain ⟨j, e8, e9⟩ := bind_some e7
        cases e9
        obtain ⟨p1, vs1, q1, a1, x1⟩ := bd1.list h2'.fh
        cases q1
        rw [strsD_eq e6] at x1
        rw [x1.strs] at a1
        obtain ⟨o1, o2⟩ := idxS_ok e8
        refine ⟨p0, ns.map V.str, .str n, j, .str n, rfl, by rw [bd2.str], .of a1, rfl, all_flat_str ns, by rw [List.getElem?_map, o1]; rfl, beq_self_eq_true n, fun m z' hm hz => ?_, fin F2 H2 _ (post_sh h2'.fh (.int _))⟩
        rw [List.getElem?_map] at hz
        obtain ⟨w, hw, rfl⟩ := map_some hz
        exact eqv_str_ne (o2 m w hm hw)⟩

/-! ### enumerate, zip, reversed of lists -/
variable {tg : Expr} {elts : List Expr} {kk : Nat} {tpos : Pos} {ms : MA}
def enumL : Int → List D → List D
  | _, [] => []
  | i, d :: ds => .tuple [.int i, d] :: enumL (i + 1) ds
theorem enumL_len : ∀ (i : Int) (ds : List D), (enumL i ds).length = ds.length
  | _, [] => rfl
  | i, d :: ds => by
    unfold enumL
    rw [List.length_cons, List.length_cons, enumL_len (i + 1) ds]
theorem enumL_get : ∀ (i : Int) (ds : List D) (j : Nat) (d : D), ds[j]? = some d → (enumL i ds)[j]? = some (.tuple [.int (i + j), d])
  | i, [], j, d, h => by simp at h
  | i, a :: ds, 0, d, h => by
    cases h
    show some (PyData.tuple [.int i, a]) = _
    rw [show i + ((0 : Nat) : Int) = i by omega]
  | i, a :: ds, j + 1, d, h => by
    unfold enumL
    rw [List.getElem?_cons_succ, enumL_get (i + 1) ds j d (by simpa using h)]
    rw [show i + 1 + (j : Int) = i + ((j + 1 : Nat) : Int) by omega]
theorem dvs2 {F : Hp} {v w : V} {d e : D} (h : Dv F v d) (k : Dv F w e) : Dvs F [v, w] [d, e] := .cons h (.cons k .nil)
theorem wk_enum {K : Fr0} {F : Hp} {p : Addr} {vs : List V} {ds : List D} (h : F p = some (.lst vs)) (a : Dvs F vs ds) : Wk (Ite K p) F (enumL 0 ds) := by
  refine ⟨fun i H hi s => ?_, fun H s => ⟨vs, .of (s _ _ h), by rw [enumL_len, a.len]; exact Nat.le_refl _⟩, fun i F1 H x H' hi s1 s2 y => ?_⟩
  · rw [enumL_len] at hi
    have hv : i < vs.length := by rw [a.len]; exact hi
    exact ⟨vs, vs[i], .of (s _ _ h), List.getElem?_eq_getElem hv⟩
  · rw [enumL_len] at hi
    obtain ⟨T, w, rfl, hT, rfl, y⟩ := y
    obtain ⟨v, e1, dv⟩ := a.get (List.getElem?_eq_getElem hi)
    have e2 := y vs (.of (s2 _ _ (s1 _ _ h)))
    rw [e1] at e2
    cases e2
    have g := enumL_get 0 ds i _ (List.getElem?_eq_getElem hi)
    rw [show (0 : Int) + (i : Int) = (i : Int) by omega] at g
    exact ⟨_, _, g, post_tup s2 hT (dvs2 (.int _) (dv.mono s1))⟩
def mEnum (ms : MA) : MI := fun ρ => do
  let (ds, ρ1) ← ms ρ
  match ds with
  | [.list es] => some (enumL 0 es, ρ1)
  | _ => none
theorem mi_enum (hg : Gl X "enumerate") (hm : X.mg "enumerate" = none) (ha : MAs X [a] ms) (hs : starEach [a] X.env = [(false, eval a X.env)] := by rfl) : MIt X (.Tuple elts kk tpos) (.Call (.Name "enumerate" p) [a] [] pos) (mEnum ms) := ⟨(pi_enum hg hm ha.ok hs).imq fun σ H R q => by
  obtain ⟨F, G, b, ρ, hr, ds, ρ', e, k⟩ := q
  obtain ⟨⟨ds1, ρ1⟩, e1, e⟩ := bind_some e
  refine ⟨F, G, b, ρ, hr, ds1, ρ1, e1, fun F1 H1 vs s1 c1 h1 dvs => ?_⟩
  match ds1, dvs, e with
  | [.list es], .cons (.lst ha hx) .nil, e =>
    cases e
    exact ⟨_, _, rfl, .of (h1.fh _ _ ha), k F1 H1 _ s1 c1 h1 (wk_enum ha hx)⟩⟩
def zipL : List D → List D → List D
  | a :: as, b :: bs => .tuple [a, b] :: zipL as bs
  | _, _ => []
theorem zipL_len : ∀ as bs : List D, (zipL as bs).length = min as.length bs.length
  | [], bs => by unfold zipL; simp
  | _ :: _, [] => by unfold zipL; simp
  | a :: as, b :: bs => by
    unfold zipL
    rw [List.length_cons, List.length_cons, List.length_cons, zipL_len as bs]
    omega
theorem zipL_get : ∀ (as bs : List D) (j : Nat) (d e : D), as[j]? = some d → bs[j]? = some e → (zipL as bs)[j]? = some (.tuple [d, e])
  | [], bs, j, d, e, h, _ => by simp at h
  | _ :: _, [], j, d, e, _, h => by simp at h
  | a :: as, b :: bs, 0, d, e, h, k => by
    cases h
    cases k
    rfl
  | a :: as, b :: bs, j + 1, d, e, h, k => by
    unfold zipL
    rw [List.getElem?_cons_succ]
    exact zipL_get as bs j d e (by simpa using h) (by simpa using k)
theorem wk_zip {K : Fr0} {F : Hp} {p q : Addr} {vs us : List V} {ds es : List D} (h : F p = some (.lst vs)) (a : Dvs F vs ds) (h' : F q = some (.lst us)) (a' : Dvs F us es) : Wk (Itz K p q) F (zipL ds es) := by
  refine ⟨fun i H hi s => ?_, fun H s => ⟨vs, us, .of (s _ _ h), .of (s _ _ h'), by rw [zipL_len, a.len, a'.len]; omega⟩, fun i F1 H x H' hi s1 s2 y => ?_⟩
  · rw [zipL_len] at hi
    have hv : i < vs.length := by rw [a.len]; omega
    have hu : i < us.length := by rw [a'.len]; omega
    exact ⟨vs, us, vs[i], us[i], .of (s _ _ h), .of (s _ _ h'), List.getElem?_eq_getElem hv, List.getElem?_eq_getElem hu⟩
  · rw [zipL_len] at hi
    have hd : i < ds.length := by omega
    have he : i < es.length := by omega
    obtain ⟨T, w, z, rfl, hT, rfl, y, y'⟩ := y
    obtain ⟨v, e1, dv⟩ := a.get (List.getElem?_eq_getElem hd)
    obtain ⟨v', e1', dv'⟩ := a'.get (List.getElem?_eq_getElem he)
    have e2 := y vs (.of (s2 _ _ (s1 _ _ h)))
    rw [e1] at e2
    cases e2
    have e3 := y' us (.of (s2 _ _ (s1 _ _ h')))
    rw [e1'] at e3
    cases e3
    exact ⟨_, _, zipL_get ds es i _ _ (List.getElem?_eq_getElem hd) (List.getElem?_eq_getElem he), post_tup s2 hT (dvs2 (dv.mono s1) (dv'.mono s1))⟩
def mZip (ms : MA) : MI := fun ρ => do
  let (ds, ρ1) ← ms ρ
  match ds with
  | [.list as, .list bs] => some (zipL as bs, ρ1)
  | _ => none
theorem mi_zip (hg : Gl X "zip") (hm : X.mg "zip" = none) (ha : MAs X [a, b] ms) (hs : starEach [a, b] X.env = (false, eval a X.env) :: starEach [b] X.env := by rfl) (hpl : (backTo pos (starEach [b] X.env)).any (·.1) = false := by rfl) :
    MIt X (.Tuple elts kk tpos) (.Call (.Name "zip" p) [a, b] [] pos) (mZip ms) := ⟨(pi_zip hg hm ha.ok hs hpl).imq fun σ H R q => by
  obtain ⟨F, G, b, ρ, hr, ds, ρ', e, k⟩ := q
  obtain ⟨⟨ds1, ρ1⟩, e1, e⟩ := bind_some e
  refine ⟨F, G, b, ρ, hr, ds1, ρ1, e1, fun F1 H1 vs s1 c1 h1 dvs => ?_⟩
  match ds1, dvs, e with
  | [.list as, .list bs], .cons (.lst ha hx) (.cons (.lst hb hy) .nil), e =>
    cases e
    exact ⟨_, _, _, _, rfl, .of (h1.fh _ _ ha), .of (h1.fh _ _ hb), k F1 H1 _ s1 c1 h1 (wk_zip ha hx hb hy)⟩⟩
end
end Mi
set_option Elab.async false
set_option linter.all false
set_option maxRecDepth 100000
/-! Core8: what the printed texts lean on. -/
namespace Mi
open PySem PySem.Spec PyProof.Rows L2
variable [KK]
/-- the def of a name keeps a promise, up to a level -/
def Cl (P : Program) (w : World) (mg : Str → Option Value) (base : Heap) (x : Str) (k : Nat) (sp : Sp) : Prop :=
  ∃ (f : Addr) (fd : FuncData) (ps : List Str), FnOk P w KK.K mg base CX0 k f fd ps sp ∧ mg x = some (.ref f) ∧ PySem.W.keepIn KK.K (.ref f) = true ∧ Binds KK.K fd ps []
section
variable {X : Cx} {e : Expr} {pos p : Pos} {es : List Expr} {ms : MA} {k : Nat} {x y : Str} {py : Pos} {i : Nat}
theorem me_callC {φ : List D → Option R} (c : Cl X.prog X.w X.mg X.base x k (spN φ)) (hr : Room k X.A) (hg : Gl X x)
    (ha : MAs X (e :: es) ms) (hK : X.K = KK.K := by rfl) (hdb : (x == ("__debug__" : Str)) = false := by decide) (he : starEach (e :: es) X.env = (false, eval e X.env) :: starEach es X.env := by rfl) (hpl : (backTo pos (starEach es X.env)).any (·.1) = false := by rfl) :
    ME X (.Call (.Name x p) (e :: es) [] pos) (mCall φ ms) := by
  obtain ⟨f, fd, ps, F, hm, hk, hb⟩ := c
  rw [← hK] at F hk hb
  exact me_call F hr hg hm hk hb ha hdb he hpl
theorem me_call0 {φ : List D → Option R} (c : Cl X.prog X.w X.mg X.base x k (spN φ)) (hr : Room k X.A) (hg : Gl X x) (hK : X.K = KK.K := by rfl) (hdb : (x == ("__debug__" : Str)) = false := by decide) :
    ME X (.Call (.Name x p) [] [] pos) (mCall φ aNil) := by
  obtain ⟨f, fd, ps, F, hm, hk, hb⟩ := c
  rw [← hK] at F hk hb
  exact ⟨(pe_call0 (dvs := []) F hr hg hm hk hb .nil pass0 hdb).imq fun σ H Q q => by
    obtain ⟨F0, G, b, ρ, hr0, r, ρ', e, k⟩ := q
    obtain ⟨⟨ds, ρ1⟩, e1, e⟩ := bind_some e
    cases e1
    obtain ⟨r1, e2, e⟩ := bind_some e
    cases e
    exact ⟨F0, [], r, hr0.fh, .nil, e2, fun F' H' v P => k F' H' v P.ff (P.cln hr0.gh) (P.rp hr0) (P.rs hr0)⟩⟩
theorem me_callIOC {φ : List D → List D → Option (R × List D)} (c : Cl X.prog X.w X.mg X.base x k (spIO φ)) (hr : Room k X.A) (hg : Gl X x)
    (hy : PE X (.Name y py) (tVar i)) (ha : MAs X es ms) (hK : X.K = KK.K := by rfl) (hdb : (x == ("__debug__" : Str)) = false := by decide) (he : starEach (.Name y py :: es) X.env = (false, eval (.Name y py) X.env) :: starEach es X.env := by rfl) (hpl : (backTo pos (starEach es X.env)).any (·.1) = false := by rfl) :
    ME X (.Call (.Name x p) (.Name y py :: es) [] pos) (mCallIO φ i ms) := by
  obtain ⟨f, fd, ps, F, hm, hk, hb⟩ := c
  rw [← hK] at F hk hb
  exact me_callIO F hr hg hm hk hb hy ha hdb he hpl
end
theorem hu64 {k : Nat} {A : Around} (hr : Room k A) : A.units + 64 < cLine := by
  have := hr.un
  omega
theorem hu65 {k : Nat} {A : Around} (hr : Room k A) : A.units + 65 < cLine := by
  have := hr.un
  omega
def runN (n p : Nat) (m : MS') (ds : List D) : Option R := if ds.length = p then (m (startE n ds)).bind fun x => outR x.1 else none
def ioR (ρ : En) (r : R) : Option (R × List D) := match (ρ[(0 : Nat)]? : Option M) with
  | some (.io ws') => some (r, ws')
  | _ => none
def runIO (n p : Nat) (m : MS') (ws ds : List D) : Option (R × List D) := if ds.length + 1 = p then (m (startIO n ws ds)).bind fun x => (outR x.1).bind fun r => ioR x.2 r else none
theorem bind_some' {α β : Type} {o : Option α} {f : α → Option β} {z : β} (h : o.bind f = some z) : ∃ a, o = some a ∧ f a = some z := bind_some h
theorem runN_ok {n p : Nat} {m : MS'} {N ps : List Str} (hn : N.length = n) (hp : ps.length = p) : ∀ ds r, runN n p m ds = some r → ds.length = ps.length ∧ ∃ o ρ', m (startE N.length ds) = some (o, ρ') ∧ outR o = some r := fun ds r h => by
  subst hn hp
  obtain ⟨hl, h⟩ := ite_some' h
  obtain ⟨⟨o, ρ'⟩, e1, e2⟩ := bind_some' h
  exact ⟨hl, o, ρ', e1, e2⟩
theorem runIO_ok {n p : Nat} {m : MS'} {N ps : List Str} (hn : N.length = n) (hp : ps.length = p) : ∀ ws ds r ws', runIO n p m ws ds = some (r, ws') → ds.length + 1 = ps.length ∧ ∃ o ρ', m (startIO N.length ws ds) = some (o, ρ') ∧ outR o = some r ∧ ρ'[0]? = some (.io ws') := fun ws ds r ws' h => by
  subst hn hp
  obtain ⟨hl, h⟩ := ite_some' h
  obtain ⟨⟨o, ρ'⟩, e1, e2⟩ := bind_some' h
  obtain ⟨r', e3, e4⟩ := bind_some' e2
  refine ⟨hl, o, ρ', e1, ?_⟩
  have e4 : ioR ρ' r' = some (r, ws') := e4
  unfold ioR at e4
  cases q : ρ'[0]? with
  | none => simp [q] at e4
  | some mm =>
    cases mm with
    | io xs => simp only [q] at e4; cases e4; exact ⟨e3, rfl⟩
    | no => simp [q] at e4
    | sh _ => simp [q] at e4
    | own _ => simp [q] at e4
    | dct _ => simp [q] at e4
    | lent _ => simp [q] at e4
section
variable {P : Program} {w : World} {K : Fr0} {mg : Str → Option Value} {base : Heap} {f : Addr} {fd : FuncData} {ps : List Str} {k : Nat}
theorem none_ok {φ : List D → Option R} (h : ∀ ds, φ ds = none) : FnOk P w K mg base CX0 k f fd ps (spN φ) := by
  have no : ∀ vs H Q E, ¬ spN φ vs H Q E := fun vs H Q E q => by
    obtain ⟨_, ds, r, _, _, e, _⟩ := q
    rw [h ds] at e
    cases e
  exact ⟨fun vs H Q E q => absurd q (no vs H Q E), fun A outer s H args us vs Q E hr he hb hv q => absurd q (no vs H Q E)⟩
theorem none_okIO {φ : List D → List D → Option (R × List D)} (h : ∀ ws ds, φ ws ds = none) : FnOk P w K mg base CX0 k f fd ps (spIO φ) := by
  have no : ∀ vs H Q E, ¬ spIO φ vs H Q E := fun vs H Q E q => by
    obtain ⟨_, _, _, ws, _, ds, r, _, _, _, _, _, _, _, e, _⟩ := q
    rw [h ws ds] at e
    cases e
  exact ⟨fun vs H Q E q => absurd q (no vs H Q E), fun A outer s H args us vs Q E hr he hb hv q => absurd q (no vs H Q E)⟩
end
end Mi
namespace Mi
open PySem PySem.Spec PyProof.Rows L2
/-- the law's own promise, from its plain function -/
theorem law_sp (kk : KK) {φ : List D → Option R} {H : Hp} {a : Addr} {ns : List Int} {E : XK} (hS : SqL kk.K H a (ns.map V.int)) (h : φ [frzD (ns.map .int)] = some (.sh (.bool true))) : @spN kk φ [.ref a] H (fun v _ => v = .bl true) E :=
  ⟨H, [frzD (ns.map .int)], .sh (.bool true), .refl H, .cons (.frz hS (@Dvs.of_ints kk H ns)) .nil, h, fun F' H' v P => by
    have q := @Post.res kk _ _ _ _ _ _ P
    cases (show @Dv kk F' v (.bool true) from q)
    rfl⟩
end Mi
set_option Elab.async false
set_option linter.all false
set_option maxRecDepth 100000
/-! Ev: the plain functions evaluated by simp, one combinator at a time, on slots that are written out. -/
namespace Mi
open PySem PySem.Spec PyProof.Rows L2

def bnd {α β : Type} (o : Option α) (f : α → Option β) : Option β := o.bind f
@[simp] theorem bnd_some {α β : Type} (a : α) (f : α → Option β) : bnd (some a) f = f a := (rfl)
@[simp] theorem bnd_none {α β : Type} (f : α → Option β) : bnd none f = none := (rfl)
@[simp] theorem bnd_ite {α β : Type} (c : Prop) [Decidable c] (a b : Option α) (f : α → Option β) : bnd (if c then a else b) f = if c then bnd a f else bnd b f := by
  split <;> rfl
def derefM : Option M → Option D
  | some (.own ds) => some (.list ds)
  | some (.io ds) => some (.list ds)
  | some (.sh d) => some d
  | some (.lent ds) => some (.list ds)
  | _ => none
@[simp] theorem derefM_lent (ds : List D) : derefM (some (.lent ds)) = some (.list ds) := (rfl)
@[simp] theorem derefM_own (ds : List D) : derefM (some (.own ds)) = some (.list ds) := (rfl)
@[simp] theorem derefM_io (ds : List D) : derefM (some (.io ds)) = some (.list ds) := (rfl)
@[simp] theorem derefM_sh (d : D) : derefM (some (.sh d)) = some d := (rfl)
@[simp] theorem deref_sh (ρ : En) (d : D) : deref ρ (.sh d) = some d := (rfl)
@[simp] theorem deref_fr (ρ : En) (ds : List D) : deref ρ (.fr ds) = some (.list ds) := (rfl)
@[simp] theorem deref_bw (ρ : En) (i : Nat) : deref ρ (.bw i) = derefM ρ[i]? := by
  cases q : ρ[i]? with
  | none => simp [deref, q, derefM]
  | some m => cases m <;> simp [deref, q, derefM]
def contM : Option M → Option (List D)
  | some (.own ds) => some ds
  | some (.io ds) => some ds
  | _ => none
@[simp] theorem contM_own (ds : List D) : contM (some (.own ds)) = some ds := (rfl)
@[simp] theorem contM_io (ds : List D) : contM (some (.io ds)) = some ds := (rfl)
theorem contE_eq (ρ : En) (i : Nat) : contE ρ i = contM ρ[i]? := by
  unfold contE contM
  cases ρ[i]? with
  | none => rfl
  | some m => cases m <;> rfl
@[simp] theorem contE_c (e : M) (ρ : En) (i : Nat) : contE (e :: ρ) i = contM (e :: ρ)[i]? := contE_eq _ _
def putM : Option M → En → Nat → List D → En
  | some (.io _), ρ, i, ds => ρ.set i (.io ds)
  | _, ρ, i, ds => ρ.set i (.own ds)
@[simp] theorem putM_own (xs : List D) (ρ : En) (i : Nat) (ds : List D) : putM (some (.own xs)) ρ i ds = ρ.set i (.own ds) := (rfl)
@[simp] theorem putM_io (xs : List D) (ρ : En) (i : Nat) (ds : List D) : putM (some (.io xs)) ρ i ds = ρ.set i (.io ds) := (rfl)
@[simp] theorem putE_c (e : M) (ρ : En) (i : Nat) (ds : List D) : putE (e :: ρ) i ds = putM (e :: ρ)[i]? (e :: ρ) i ds := by
  unfold putE putM
  cases (e :: ρ)[i]? with
  | none => rfl
  | some m => cases m <;> rfl
def freeM : Option M → Bool
  | some (.io _) => false
  | some _ => true
  | none => false
@[simp] theorem freeM_no : freeM (some .no) = true := (rfl)
@[simp] theorem freeM_sh (d : D) : freeM (some (.sh d)) = true := (rfl)
@[simp] theorem freeM_own (d : List D) : freeM (some (.own d)) = true := (rfl)
@[simp] theorem freeM_lent (d : List D) : freeM (some (.lent d)) = true := (rfl)
@[simp] theorem freeM_dct (d : List (L2.Key × D)) : freeM (some (.dct d)) = true := (rfl)
@[simp] theorem free1_c (e : M) (ρ : En) (i : Nat) : free1 (e :: ρ) i = freeM (e :: ρ)[i]? := by
  unfold free1 freeM
  cases (e :: ρ)[i]? with
  | none => rfl
  | some m => cases m <;> rfl
def capM : Option M → En → Nat → Option (D × En)
  | some (.own ds), ρ, i => some (.list ds, ρ.set i (.sh (.list ds)))
  | some (.sh d), ρ, _ => some (d, ρ)
  | _, _, _ => none
@[simp] theorem capM_own (ds : List D) (ρ : En) (i : Nat) : capM (some (.own ds)) ρ i = some (.list ds, ρ.set i (.sh (.list ds))) := (rfl)
@[simp] theorem capM_sh (d : D) (ρ : En) (i : Nat) : capM (some (.sh d)) ρ i = some (d, ρ) := (rfl)
@[simp] theorem cap_sh (ρ : En) (d : D) : cap ρ (.sh d) = some (d, ρ) := (rfl)
@[simp] theorem cap_fr (ρ : En) (ds : List D) : cap ρ (.fr ds) = some (.list ds, ρ) := (rfl)
@[simp] theorem cap_bw (ρ : En) (i : Nat) : cap ρ (.bw i) = capM ρ[i]? ρ i := by
  cases q : ρ[i]? with
  | none => simp [cap, q, capM]
  | some m => cases m <;> simp [cap, q, capM]
@[simp] theorem asg_fr (ρ : En) (i : Nat) (ds : List D) : asg ρ i (.fr ds) = if free1 ρ i = true then some (ρ.set i (.own ds)) else none := (rfl)
@[simp] theorem asg_sh (ρ : En) (i : Nat) (d : D) : asg ρ i (.sh d) = if free1 ρ i = true then some (ρ.set i (.sh d)) else none := (rfl)
@[simp] theorem asg_bw (ρ : En) (i j : Nat) : asg ρ i (.bw j) = bnd (cap ρ (.bw j)) fun x => if free1 x.2 i = true then some (x.2.set i (.sh x.1)) else none := (rfl)
def retM : Option M → En → Nat → Option (R × En)
  | some (.own ds), ρ, i => some (.fr ds, ρ.set i .no)
  | some (.sh d), ρ, _ => some (.sh d, ρ)
  | _, _, _ => none
@[simp] theorem retM_own (ds : List D) (ρ : En) (i : Nat) : retM (some (.own ds)) ρ i = some (.fr ds, ρ.set i .no) := (rfl)
@[simp] theorem retM_sh (d : D) (ρ : En) (i : Nat) : retM (some (.sh d)) ρ i = some (.sh d, ρ) := (rfl)
@[simp] theorem retR_sh (ρ : En) (d : D) : retR ρ (.sh d) = some (.sh d, ρ) := (rfl)
@[simp] theorem retR_fr (ρ : En) (ds : List D) : retR ρ (.fr ds) = some (.fr ds, ρ) := (rfl)
@[simp] theorem retR_bw (ρ : En) (i : Nat) : retR ρ (.bw i) = retM ρ[i]? ρ i := by
  cases q : ρ[i]? with
  | none => simp [retR, q, retM]
  | some m => cases m <;> simp [retR, q, retM]
@[simp] theorem outR_nx : outR .nx = some (.sh .none) := (rfl)
@[simp] theorem outR_sh (d : D) : outR (.rt (.sh d)) = some (.sh d) := (rfl)
@[simp] theorem outR_fr (d : List D) : outR (.rt (.fr d)) = some (.fr d) := (rfl)
@[simp] theorem ioR_c (ws : List D) (ρ : En) (r : R) : ioR (.io ws :: ρ) r = some (r, ws) := (rfl)
/-! slots at a def's entry -/
@[simp] theorem startE_c (n : Nat) (d : D) (ds : List D) : startE (n + 1) (d :: ds) = .sh d :: startE n ds := by
  unfold startE
  rw [List.map_cons, List.length_cons, Nat.add_sub_add_right, List.cons_append]
@[simp] theorem startE_n (n : Nat) : startE (n + 1) [] = .no :: startE n [] := (rfl)
@[simp] theorem startE_0 : startE 0 [] = [] := (rfl)
@[simp] theorem startIO_c (n : Nat) (ws ds : List D) : startIO (n + 1) ws ds = .io ws :: startE n ds := (rfl)
theorem runN_eq {n p : Nat} {m : MS'} {ds : List D} (h : ds.length = p) : runN n p m ds = bnd (m (startE n ds)) fun x => outR x.1 := by
  unfold runN
  rw [if_pos h]
  rfl
theorem runIO_eq {n p : Nat} {m : MS'} {ws ds : List D} (h : ds.length + 1 = p) : runIO n p m ws ds = bnd (m (startIO n ws ds)) fun x => bnd (outR x.1) fun r => ioR x.2 r := by
  unfold runIO
  rw [if_pos h]
  rfl
/-! combinators -/
section
variable {f : D → D → Option R} {f1 : D → Option R} {g : D → D → Option Bool} {ma mb m mo : MR} {t u : MB} {e : M} {ρ : En} {ms : MA} {i : Nat} {d : D} {lo hi : MP}
def varM : Option M → Nat → En → Option (R × En)
  | some (.sh d), _, ρ => some (.sh d, ρ)
  | some (.own _), i, ρ => some (.bw i, ρ)
  | some (.io _), i, ρ => some (.bw i, ρ)
  | some (.lent _), i, ρ => some (.bw i, ρ)
  | _, _, _ => none
@[simp] theorem varM_lent (i : Nat) (d : List D) : varM (some (.lent d)) i ρ = some (.bw i, ρ) := (rfl)
@[simp] theorem varM_sh (i : Nat) (d : D) : varM (some (.sh d)) i ρ = some (.sh d, ρ) := (rfl)
@[simp] theorem varM_own (i : Nat) (d : List D) : varM (some (.own d)) i ρ = some (.bw i, ρ) := (rfl)
@[simp] theorem varM_io (i : Nat) (d : List D) : varM (some (.io d)) i ρ = some (.bw i, ρ) := (rfl)
@[simp] theorem mVar_c : mVar i (e :: ρ) = varM (e :: ρ)[i]? i (e :: ρ) := by
  unfold mVar varM
  cases (e :: ρ)[i]? with
  | none => rfl
  | some m => cases m <;> rfl
@[simp] theorem mC_c : mC d ρ = some (.sh d, ρ) := (rfl)
@[simp] theorem mBin_c : mBin f ma mb (e :: ρ) = bnd (ma (e :: ρ)) fun x => bnd (mb x.2) fun y => bnd (deref y.2 x.1) fun d1 => bnd (deref y.2 y.1) fun d2 => bnd (f d1 d2) fun k => some (k, y.2) := (rfl)
@[simp] theorem mUn_c : mUn f1 ma (e :: ρ) = bnd (ma (e :: ρ)) fun x => bnd (deref x.2 x.1) fun d1 => bnd (f1 d1) fun k => some (k, x.2) := (rfl)
@[simp] theorem mCmp_c : mCmp g ma mb (e :: ρ) = bnd (ma (e :: ρ)) fun x => bnd (mb x.2) fun y => bnd (deref y.2 x.1) fun d1 => bnd (deref y.2 y.1) fun d2 => bnd (g d1 d2) fun k => some (k, y.2) := (rfl)
@[simp] theorem mBV_c : mBV t (e :: ρ) = bnd (t (e :: ρ)) fun x => some (.sh (.bool x.1), x.2) := (rfl)
@[simp] theorem mTest_c : mTest m (e :: ρ) = bnd (m (e :: ρ)) fun x => bnd (deref x.2 x.1) fun d => bnd (truD d) fun k => some (k, x.2) := (rfl)
@[simp] theorem mAnd_c : mAnd t u (e :: ρ) = bnd (t (e :: ρ)) fun x => if x.1 = true then u x.2 else some (false, x.2) := (rfl)
@[simp] theorem mOr_c : mOr t u (e :: ρ) = bnd (t (e :: ρ)) fun x => if x.1 = true then some (true, x.2) else u x.2 := (rfl)
@[simp] theorem mNot_c : mNot t (e :: ρ) = bnd (t (e :: ρ)) fun x => some (!x.1, x.2) := (rfl)
@[simp] theorem mYes_c : mYes ρ = some (true, ρ) := (rfl)
def boolR : R → Option Bool
  | .sh (.bool b) => some b
  | _ => none
@[simp] theorem boolR_sh (b : Bool) : boolR (.sh (.bool b)) = some b := (rfl)
@[simp] theorem mAndV_c : mAndV ma mb (e :: ρ) = bnd (ma (e :: ρ)) fun x => bnd (boolR x.1) fun b => if b = true then mb x.2 else some (.sh (.bool false), x.2) := by
  show (ma (e :: ρ)).bind _ = (ma (e :: ρ)).bind _
  congr 1
  funext x
  obtain ⟨r, ρ1⟩ := x
  cases r with
  | sh d =>
    cases d with
    | bool b => cases b <;> rfl
    | _ => rfl
  | fr _ => rfl
  | bw _ => rfl
@[simp] theorem mOrV_c : mOrV ma mb (e :: ρ) = bnd (ma (e :: ρ)) fun x => bnd (boolR x.1) fun b => if b = true then some (.sh (.bool true), x.2) else mb x.2 := by
  show (ma (e :: ρ)).bind _ = (ma (e :: ρ)).bind _
  congr 1
  funext x
  obtain ⟨r, ρ1⟩ := x
  cases r with
  | sh d =>
    cases d with
    | bool b => cases b <;> rfl
    | _ => rfl
  | fr _ => rfl
  | bw _ => rfl
@[simp] theorem mNotV_c : mNotV ma (e :: ρ) = bnd (ma (e :: ρ)) fun x => bnd (boolR x.1) fun b => some (.sh (.bool (!b)), x.2) := by
  show (ma (e :: ρ)).bind _ = (ma (e :: ρ)).bind _
  congr 1
  funext x
  obtain ⟨r, ρ1⟩ := x
  cases r with
  | sh d =>
    cases d with
    | bool b => cases b <;> rfl
    | _ => rfl
  | fr _ => rfl
  | bw _ => rfl
@[simp] theorem mIf_c : mIf t ma mb (e :: ρ) = bnd (t (e :: ρ)) fun x => if x.1 = true then ma x.2 else mb x.2 := (rfl)
@[simp] theorem aNil_c : aNil ρ = some ([], ρ) := (rfl)
@[simp] theorem mCap_c : mCap m (e :: ρ) = bnd (m (e :: ρ)) fun x => cap x.2 x.1 := (rfl)
@[simp] theorem aCons_c : aCons m ms (e :: ρ) = bnd (mCap m (e :: ρ)) fun x => bnd (ms x.2) fun y => some (x.1 :: y.1, y.2) := (rfl)
@[simp] theorem mTup_c : mTup ms (e :: ρ) = bnd (ms (e :: ρ)) fun x => if x.1.length ≤ lim then some (.sh (.tuple x.1), x.2) else none := (rfl)
@[simp] theorem mLst_c : mLst ms (e :: ρ) = bnd (ms (e :: ρ)) fun x => if x.1.length ≤ lim then some (.fr x.1, x.2) else none := (rfl)
@[simp] theorem pNone_c : pNone ρ = some (none, ρ) := (rfl)
def intR : R → Option Int
  | .sh (.int i) => some i
  | _ => none
@[simp] theorem intR_sh (i : Int) : intR (.sh (.int i)) = some i := (rfl)
@[simp] theorem pSome_c : pSome m (e :: ρ) = bnd (m (e :: ρ)) fun x => bnd (intR x.1) fun i => some (some i, x.2) := by
  show (m (e :: ρ)).bind _ = (m (e :: ρ)).bind _
  congr 1
  funext x
  obtain ⟨r, ρ1⟩ := x
  cases r with
  | sh d => cases d <;> rfl
  | fr _ => rfl
  | bw _ => rfl
@[simp] theorem mSl_c : mSl m lo hi (e :: ρ) = bnd (m (e :: ρ)) fun x => bnd (lo x.2) fun l => bnd (hi l.2) fun h => bnd (deref h.2 x.1) fun d => bnd (slD d l.1 h.1) fun k => some (k, h.2) := (rfl)
variable {φ : List D → Option R} {φi : List D → List D → Option (R × List D)}
@[simp] theorem mCall_c : mCall φ ms (e :: ρ) = bnd (ms (e :: ρ)) fun x => bnd (φ x.1) fun r => some (r, x.2) := (rfl)
@[simp] theorem mCallIO_c : mCallIO φi i ms (e :: ρ) = bnd (contE (e :: ρ) i) fun _ => bnd (ms (e :: ρ)) fun x => bnd (contE x.2 i) fun ws => bnd (φi ws x.1) fun y => some (y.1, putE x.2 i y.2) := (rfl)
@[simp] theorem mAppend_c : mAppend i m (e :: ρ) = bnd (contE (e :: ρ) i) fun _ => bnd (mCap m (e :: ρ)) fun x => bnd (contE x.2 i) fun ds => if ds.length < lim then some (.sh .none, putE x.2 i (ds ++ [x.1])) else none := (rfl)
@[simp] theorem mPop_c : mPop i (e :: ρ) = bnd (contE (e :: ρ) i) fun ds => bnd ds[ds.length - 1]? fun d => some (.sh d, putE (e :: ρ) i ds.dropLast) := (rfl)
@[simp] theorem mPopAt_c : mPopAt i m (e :: ρ) = bnd (contE (e :: ρ) i) fun _ => bnd (m (e :: ρ)) fun x => bnd (intR x.1) fun z => bnd (contE x.2 i) fun ds => if i62 z = true then bnd (seqIndex? z ds.length) fun j => bnd ds[j]? fun d => some (.sh d, putE x.2 i (ds.eraseIdx j)) else none := by
  show (contE (e :: ρ) i).bind _ = (contE (e :: ρ) i).bind _
  congr 1
  funext _
  show (m (e :: ρ)).bind _ = (m (e :: ρ)).bind _
  congr 1
  funext x
  obtain ⟨r, ρ1⟩ := x
  cases r with
  | sh d => cases d <;> rfl
  | fr _ => rfl
  | bw _ => rfl
def listR : D → Option (List D)
  | .list ds => some ds
  | _ => none
@[simp] theorem listR_l (ds : List D) : listR (.list ds) = some ds := (rfl)
@[simp] theorem mExtend_c : mExtend i m (e :: ρ) = bnd (contE (e :: ρ) i) fun _ => bnd (m (e :: ρ)) fun x => bnd (deref x.2 x.1) fun d => bnd (listR d) fun es => bnd (contE x.2 i) fun ds => if ds.length + es.length ≤ lim then some (.sh .none, putE x.2 i (ds ++ es)) else none := by
  show (contE (e :: ρ) i).bind _ = (contE (e :: ρ) i).bind _
  congr 1
  funext _
  show (m (e :: ρ)).bind _ = (m (e :: ρ)).bind _
  congr 1
  funext x
  obtain ⟨r, ρ1⟩ := x
  show (deref ρ1 r).bind _ = (deref ρ1 r).bind _
  congr 1
  funext d
  cases d <;> rfl
@[simp] theorem mIsi_c {T : String} : mIsi T m (e :: ρ) = bnd (m (e :: ρ)) fun x => bnd (deref x.2 x.1) fun d => bnd (isiD T d) fun k => some (.sh (.bool k), x.2) := (rfl)
def strR : R → Option Str
  | .sh (.str a) => some a
  | _ => none
@[simp] theorem strR_s (a : Str) : strR (.sh (.str a)) = some a := (rfl)
@[simp] theorem mM1_c : mM1 f mo m (e :: ρ) = bnd (mo (e :: ρ)) fun x => bnd (strR x.1) fun a => bnd (m x.2) fun y => bnd (deref y.2 y.1) fun d => bnd (f (.str a) d) fun k => some (k, y.2) := by
  show (mo (e :: ρ)).bind _ = (mo (e :: ρ)).bind _
  congr 1
  funext x
  obtain ⟨r, ρ1⟩ := x
  cases r with
  | sh d => cases d <;> rfl
  | fr _ => rfl
  | bw _ => rfl
@[simp] theorem mIndex_c : mIndex ma mb (e :: ρ) = bnd (ma (e :: ρ)) fun x => bnd (deref x.2 x.1) fun d0 => bnd (listR d0) fun _ => bnd (mb x.2) fun y => bnd (deref y.2 x.1) fun d1 => bnd (deref y.2 y.1) fun d2 => bnd (indexD d1 d2) fun k => some (k, y.2) := by
  show (ma (e :: ρ)).bind _ = (ma (e :: ρ)).bind _
  congr 1
  funext x
  obtain ⟨r, ρ1⟩ := x
  show (deref ρ1 r).bind _ = (deref ρ1 r).bind _
  congr 1
  funext d
  cases d <;> rfl
/-! what is walked, targets -/
@[simp] theorem mIter_c : mIter m (e :: ρ) = bnd (mCap m (e :: ρ)) fun x => bnd (itemsD x.1) fun ds => some (ds, x.2) := (rfl)
@[simp] theorem itemsD_l (ds : List D) : itemsD (.list ds) = some ds := (rfl)
@[simp] theorem itemsD_t (ds : List D) : itemsD (.tuple ds) = some ds := (rfl)
@[simp] theorem itemsD_s (z : Str) : itemsD (.str z) = some (charsD z) := (rfl)
def range1 : List D → Option (List D)
  | [.int j] => if i62 j = true then some (rangeD 0 j) else none
  | _ => none
def range2 : List D → Option (List D)
  | [.int i, .int j] => if (i62 i && i62 j) = true then some (rangeD i j) else none
  | _ => none
@[simp] theorem range1_i (j : Int) : range1 [.int j] = if i62 j = true then some (rangeD 0 j) else none := (rfl)
@[simp] theorem range2_i (i j : Int) : range2 [.int i, .int j] = if (i62 i && i62 j) = true then some (rangeD i j) else none := (rfl)
theorem match1 {α : Type} {ρ1 : α} {ds : List D} : (match ds with
    | [.int j] => if i62 j = true then some (rangeD 0 j, ρ1) else none
    | _ => none) = bnd (range1 ds) fun xs => some (xs, ρ1) := by
  unfold range1
  split
  · split <;> rfl
  · rfl
theorem match2 {α : Type} {ρ1 : α} {ds : List D} : (match ds with
    | [.int i, .int j] => if (i62 i && i62 j) = true then some (rangeD i j, ρ1) else none
    | _ => none) = bnd (range2 ds) fun xs => some (xs, ρ1) := by
  unfold range2
  split
  · split <;> rfl
  · rfl
@[simp] theorem mRange1_c : mRange1 ms (e :: ρ) = bnd (ms (e :: ρ)) fun x => bnd (range1 x.1) fun ds => some (ds, x.2) := by
  show (ms (e :: ρ)).bind _ = (ms (e :: ρ)).bind _
  congr 1
  funext x
  exact match1
@[simp] theorem mRange2_c : mRange2 ms (e :: ρ) = bnd (ms (e :: ρ)) fun x => bnd (range2 x.1) fun ds => some (ds, x.2) := by
  show (ms (e :: ρ)).bind _ = (ms (e :: ρ)).bind _
  congr 1
  funext x
  exact match2
@[simp] theorem gNm_c : gNm i d (e :: ρ) = if free1 (e :: ρ) i = true then some ((e :: ρ).set i (.sh d)) else none := (rfl)
variable {gg : MG} {gs : MGs'} {n n1 n2 : MS'}
@[simp] theorem gTp_c (k : Nat) (ds : List D) : gTp k gs (.tuple ds) (e :: ρ) = if ds.length = k then gs ds (e :: ρ) else none := (rfl)
@[simp] theorem gNil_c : gNil' [] (e :: ρ) = some (e :: ρ) := (rfl)
@[simp] theorem gCons_c (r : List D) : gCons' gg gs (d :: r) (e :: ρ) = bnd (gg d (e :: ρ)) fun ρ1 => gs r ρ1 := (rfl)
/-! statements -/
@[simp] theorem sNil_c : sNil ρ = some (.nx, ρ) := (rfl)
@[simp] theorem sBrk_c : sBrk ρ = some (.bk, ρ) := (rfl)
@[simp] theorem sCont_c : sCont ρ = some (.ct, ρ) := (rfl)
def thenS (n2 : MS') : Out × En → Option (Out × En)
  | (.nx, ρ) => n2 ρ
  | x => some x
@[simp] theorem thenS_nx : thenS n2 (.nx, ρ) = n2 ρ := (rfl)
@[simp] theorem thenS_bk : thenS n2 (.bk, ρ) = some (.bk, ρ) := (rfl)
@[simp] theorem thenS_ct : thenS n2 (.ct, ρ) = some (.ct, ρ) := (rfl)
@[simp] theorem thenS_rt (r : R) : thenS n2 (.rt r, ρ) = some (.rt r, ρ) := (rfl)
@[simp] theorem sSeq_c : sSeq n1 n2 (e :: ρ) = bnd (n1 (e :: ρ)) (thenS n2) := by
  show (n1 (e :: ρ)).bind _ = (n1 (e :: ρ)).bind _
  congr 1
  funext x
  obtain ⟨o, ρ1⟩ := x
  cases o <;> rfl
@[simp] theorem sExpr_c : sExpr m (e :: ρ) = bnd (m (e :: ρ)) fun x => some (.nx, x.2) := (rfl)
@[simp] theorem sRet_c : sRet m (e :: ρ) = bnd (m (e :: ρ)) fun x => bnd (retR x.2 x.1) fun y => some (.rt y.1, y.2) := (rfl)
@[simp] theorem sRetN_c : sRetN ρ = some (.rt (.sh .none), ρ) := (rfl)
@[simp] theorem sIf_c : sIf t n1 n2 (e :: ρ) = bnd (t (e :: ρ)) fun x => if x.1 = true then n1 x.2 else n2 x.2 := (rfl)
@[simp] theorem sSet_c : sSet i m (e :: ρ) = bnd (m (e :: ρ)) fun x => bnd (asg x.2 i x.1) fun ρ2 => some (.nx, ρ2) := (rfl)
@[simp] theorem sAsg_c : sAsg gg m (e :: ρ) = bnd (mCap m (e :: ρ)) fun x => bnd (gg x.1 x.2) fun ρ2 => some (.nx, ρ2) := (rfl)
variable {it : MI}
@[simp] theorem sFor_c : sFor it gg n (e :: ρ) = bnd (it (e :: ρ)) fun x => forGo gg n x.1 x.2 := (rfl)
def dR : R → Option D
  | .sh d => some d
  | _ => none
@[simp] theorem dR_sh : dR (.sh d) = some d := (rfl)
@[simp] theorem sAug_c : sAug i f m (e :: ρ) = bnd (mVar i (e :: ρ)) fun x => bnd (dR x.1) fun d0 => bnd (m x.2) fun y => bnd (deref y.2 y.1) fun d1 => bnd (f d0 d1) fun k => bnd (asg y.2 i k) fun ρ2 => some (.nx, ρ2) := by
  show (mVar i (e :: ρ)).bind _ = (mVar i (e :: ρ)).bind _
  congr 1
  funext x
  obtain ⟨r, ρ1⟩ := x
  cases r <;> rfl
@[simp] theorem sPut_c {mi mv : MR} : sPut i mi mv (e :: ρ) = bnd (mCap mv (e :: ρ)) fun x => bnd (contE x.2 i) fun _ => bnd (mi x.2) fun y => bnd (intR y.1) fun z => bnd (contE y.2 i) fun ds => bnd (ixN ds.length z) fun j => some (.nx, putE y.2 i (ds.set j x.1)) := by
  show (mCap mv (e :: ρ)).bind _ = (mCap mv (e :: ρ)).bind _
  congr 1
  funext x
  obtain ⟨d, ρ1⟩ := x
  show (contE ρ1 i).bind _ = (contE ρ1 i).bind _
  congr 1
  funext _
  show (mi ρ1).bind _ = (mi ρ1).bind _
  congr 1
  funext y
  obtain ⟨r, ρ2⟩ := y
  cases r with
  | sh d => cases d <;> rfl
  | fr _ => rfl
  | bw _ => rfl
/-! loops -/
def forO (gg : MG) (n : MS') (ds : List D) : Out × En → Option (Out × En)
  | (.nx, ρ) => forGo gg n ds ρ
  | (.ct, ρ) => forGo gg n ds ρ
  | (.bk, ρ) => some (.nx, ρ)
  | (.rt r, ρ) => some (.rt r, ρ)
@[simp] theorem forO_nx (ds : List D) : forO gg n ds (.nx, ρ) = forGo gg n ds ρ := (rfl)
@[simp] theorem forO_ct (ds : List D) : forO gg n ds (.ct, ρ) = forGo gg n ds ρ := (rfl)
@[simp] theorem forO_bk (ds : List D) : forO gg n ds (.bk, ρ) = some (.nx, ρ) := (rfl)
@[simp] theorem forO_rt (ds : List D) (r : R) : forO gg n ds (.rt r, ρ) = some (.rt r, ρ) := (rfl)
@[simp] theorem forGo_nil : forGo gg n [] ρ = some (.nx, ρ) := (rfl)
@[simp] theorem forGo_cons (ds : List D) : forGo gg n (d :: ds) ρ = bnd (gg d ρ) fun ρ1 => bnd (n ρ1) (forO gg n ds) := by
  show (gg d ρ).bind _ = (gg d ρ).bind _
  congr 1
  funext ρ1
  show (n ρ1).bind _ = (n ρ1).bind _
  congr 1
  funext x
  obtain ⟨o, ρ2⟩ := x
  cases o <;> rfl
/-- a loop that goes through: an invariant over what is left and the slots -/
theorem for_inv {ds : List D} (I : List D → En → Prop) (h0 : I ds ρ) (hs : ∀ d r ρ, I (d :: r) ρ → ∃ ρ1 o ρ2, gg d ρ = some ρ1 ∧ n ρ1 = some (o, ρ2) ∧ (o = .nx ∨ o = .ct) ∧ I r ρ2) : ∃ ρ', forGo gg n ds ρ = some (.nx, ρ') ∧ I [] ρ' := by
  induction ds generalizing ρ with
  | nil => exact ⟨ρ, rfl, h0⟩
  | cons d r ih =>
    obtain ⟨ρ1, o, ρ2, e1, e2, ho, h⟩ := hs d r ρ h0
    obtain ⟨ρ', e, h'⟩ := ih h
    refine ⟨ρ', ?_, h'⟩
    rw [forGo_cons, e1, bnd_some, e2, bnd_some]
    rcases ho with rfl | rfl
    · rw [forO_nx, e]
    · rw [forO_ct, e]
/-- by a fold: what each turn makes of the slots -/
theorem for_fold {ds : List D} {α : Type} (S : α → En) (f : α → D → α) (hs : ∀ a d, d ∈ ds → ∃ ρ1, gg d (S a) = some ρ1 ∧ n ρ1 = some (.nx, S (f a d))) (a : α) : forGo gg n ds (S a) = some (.nx, S (ds.foldl f a)) := by
  induction ds generalizing a with
  | nil => rfl
  | cons d r ih =>
    obtain ⟨ρ1, e1, e2⟩ := hs a d List.mem_cons_self
    rw [forGo_cons, e1, bnd_some, e2, bnd_some, forO_nx, ih (fun a d h => hs a d (List.mem_cons_of_mem _ h))]
    rfl
def whO (t : MB) (n : MS') (f : Nat) : Out × En → Option (Out × En)
  | (.nx, ρ) => whGo t n f ρ
  | (.ct, ρ) => whGo t n f ρ
  | (.bk, ρ) => some (.nx, ρ)
  | (.rt r, ρ) => some (.rt r, ρ)
@[simp] theorem whO_nx (f : Nat) : whO t n f (.nx, ρ) = whGo t n f ρ := (rfl)
@[simp] theorem whO_ct (f : Nat) : whO t n f (.ct, ρ) = whGo t n f ρ := (rfl)
@[simp] theorem whO_bk (f : Nat) : whO t n f (.bk, ρ) = some (.nx, ρ) := (rfl)
@[simp] theorem whO_rt (f : Nat) (r : R) : whO t n f (.rt r, ρ) = some (.rt r, ρ) := (rfl)
theorem whGo_eq (f : Nat) : whGo t n (f + 1) ρ = bnd (t ρ) fun x => if x.1 = true then bnd (n x.2) (whO t n f) else some (.nx, x.2) := by
  show (t ρ).bind _ = (t ρ).bind _
  congr 1
  funext x
  obtain ⟨k, ρ1⟩ := x
  cases k with
  | false => rfl
  | true =>
    show (n ρ1).bind _ = (n ρ1).bind _
    congr 1
    funext y
    obtain ⟨o, ρ2⟩ := y
    cases o <;> rfl
@[simp] theorem sWhile_c (f : Nat) : sWhile f t n (e :: ρ) = whGo t n f (e :: ρ) := (rfl)
/-! comprehensions -/
/-- one turn: what is kept, the slots behind -/
def lcTurn (gg : MG) (t : MB) (el : MR) (vs : List Nat) (d : D) (ρ : En) : Option (Option D × En) :=
  bnd (gg d (wipeE ρ vs)) fun ρ1 => bnd (t ρ1) fun x => if x.1 = true then bnd (mCap el x.2) fun y => some (some y.1, backE ρ y.2 vs) else some (none, backE ρ x.2 vs)
theorem lcGo_cons {el : MR} {vs : List Nat} (ds acc : List D) : lcGo gg t el vs (d :: ds) ρ acc = bnd (lcTurn gg t el vs d ρ) fun x => match x.1 with
    | some y => if acc.length < lim then lcGo gg t el vs ds x.2 (acc ++ [y]) else none
    | none => lcGo gg t el vs ds x.2 acc := by
  unfold lcTurn
  show (gg d (wipeE ρ vs)).bind _ = ((gg d (wipeE ρ vs)).bind _).bind _
  rw [Option.bind_assoc]
  congr 1
  funext ρ1
  show (t ρ1).bind _ = ((t ρ1).bind _).bind _
  rw [Option.bind_assoc]
  congr 1
  funext x
  obtain ⟨k, ρ2⟩ := x
  cases k with
  | false => rfl
  | true =>
    show (mCap el ρ2).bind _ = ((mCap el ρ2).bind _).bind _
    rw [Option.bind_assoc]
    rfl
/-- a comprehension that changes nothing: what each item gives -/
theorem lc_pure {el : MR} {vs : List Nat} {ds : List D} (f : D → Option D) (hs : ∀ d ∈ ds, lcTurn gg t el vs d ρ = some (f d, ρ)) (acc : List D) (hl : acc.length + ds.length ≤ lim) : lcGo gg t el vs ds ρ acc = some (acc ++ ds.filterMap f, ρ) := by
  induction ds generalizing acc with
  | nil => simp [lcGo]
  | cons d r ih =>
    rw [List.length_cons] at hl
    rw [lcGo_cons, hs d List.mem_cons_self, bnd_some, List.filterMap_cons]
    cases q : f d with
    | none => exact ih (fun d h => hs d (List.mem_cons_of_mem _ h)) acc (by omega)
    | some y =>
      show (if acc.length < lim then _ else none) = _
      rw [if_pos (by omega), ih (fun d h => hs d (List.mem_cons_of_mem _ h)) (acc ++ [y]) (by rw [List.length_append, List.length_singleton]; omega), List.append_assoc]
      rfl
/-- one that may draw: an invariant of the slots, a fact of each item kept -/
theorem lc_inv {el : MR} {vs : List Nat} {ds : List D} (I : En → Prop) (Pt : D → Prop) (hs : ∀ d ∈ ds, ∀ ρ, I ρ → ∃ o ρ', lcTurn gg t el vs d ρ = some (o, ρ') ∧ I ρ' ∧ ∀ y, o = some y → Pt y) (h0 : I ρ) (acc : List D) (hl : acc.length + ds.length ≤ lim) :
    ∃ ys ρ', lcGo gg t el vs ds ρ acc = some (acc ++ ys, ρ') ∧ I ρ' ∧ (∀ y ∈ ys, Pt y) ∧ ys.length ≤ ds.length := by
  induction ds generalizing acc ρ with
  | nil => exact ⟨[], ρ, by simp [lcGo], h0, by simp, Nat.le_refl _⟩
  | cons d r ih =>
    rw [List.length_cons] at hl
    obtain ⟨o, ρ1, e, h1, hp⟩ := hs d List.mem_cons_self ρ h0
    rw [lcGo_cons, e, bnd_some]
    cases o with
    | none =>
      obtain ⟨ys, ρ', e', h', hy, hn⟩ := ih (fun d h => hs d (List.mem_cons_of_mem _ h)) h1 acc (by omega)
      exact ⟨ys, ρ', e', h', hy, by rw [List.length_cons]; omega⟩
    | some y =>
      obtain ⟨ys, ρ', e', h', hy, hn⟩ := ih (fun d h => hs d (List.mem_cons_of_mem _ h)) h1 (acc ++ [y]) (by rw [List.length_append, List.length_singleton]; omega)
      refine ⟨y :: ys, ρ', ?_, h', fun z hz => ?_, by rw [List.length_cons, List.length_cons]; omega⟩
      · show (if acc.length < lim then _ else none) = _
        rw [if_pos (by omega), e', List.append_assoc]
        rfl
      · rcases List.mem_cons.mp hz with rfl | hz
        · exact hp _ rfl
        · exact hy z hz
/-- .. that keeps every item -/
theorem lc_invA {el : MR} {vs : List Nat} {ds : List D} (I : En → Prop) (Pt : D → Prop) (hs : ∀ d ∈ ds, ∀ ρ, I ρ → ∃ y ρ', lcTurn gg t el vs d ρ = some (some y, ρ') ∧ I ρ' ∧ Pt y) (h0 : I ρ) (acc : List D) (hl : acc.length + ds.length ≤ lim) :
    ∃ ys ρ', lcGo gg t el vs ds ρ acc = some (acc ++ ys, ρ') ∧ I ρ' ∧ (∀ y ∈ ys, Pt y) ∧ ys.length = ds.length := by
  induction ds generalizing acc ρ with
  | nil => exact ⟨[], ρ, by simp [lcGo], h0, by simp, rfl⟩
  | cons d r ih =>
    rw [List.length_cons] at hl
    obtain ⟨y, ρ1, e, h1, hp⟩ := hs d List.mem_cons_self ρ h0
    rw [lcGo_cons, e, bnd_some]
    obtain ⟨ys, ρ', e', h', hy, hn⟩ := ih (fun d h => hs d (List.mem_cons_of_mem _ h)) h1 (acc ++ [y]) (by rw [List.length_append, List.length_singleton]; omega)
    refine ⟨y :: ys, ρ', ?_, h', fun z hz => ?_, by rw [List.length_cons, List.length_cons, hn]⟩
    · show (if acc.length < lim then _ else none) = _
      rw [if_pos (by omega), e', List.append_assoc]
      rfl
    · rcases List.mem_cons.mp hz with rfl | hz
      · exact hp
      · exact hy z hz
@[simp] theorem lcTurn_c {el : MR} {vs : List Nat} : lcTurn gg t el vs d (e :: ρ) = bnd (gg d (wipeE (e :: ρ) vs)) fun ρ1 => bnd (t ρ1) fun x => if x.1 = true then bnd (mCap el x.2) fun y => some (some y.1, backE (e :: ρ) y.2 vs) else some (none, backE (e :: ρ) x.2 vs) := (rfl)
@[simp] theorem mLc_c {el : MR} {vs : List Nat} : mLc it gg t el vs (e :: ρ) = bnd (it (e :: ρ)) fun x => if okW x.2 vs = true then bnd (lcGo gg t el vs x.1 x.2 []) fun y => some (.fr y.1, y.2) else none := (rfl)
@[simp] theorem wipeE_nil : wipeE ρ [] = ρ := (rfl)
@[simp] theorem wipeE_cons (v : Nat) (vs : List Nat) : wipeE ρ (v :: vs) = (wipeE ρ vs).set v .no := (rfl)
@[simp] theorem backE_nil (ρ1 : En) : backE ρ ρ1 [] = ρ1 := (rfl)
@[simp] theorem backE_cons (ρ1 : En) (v : Nat) (vs : List Nat) : backE ρ ρ1 (v :: vs) = (backE ρ ρ1 vs).set v (ρ.getD v .no) := (rfl)
def okM : Option M → Bool
  | some (.own _) => false
  | some (.io _) => false
  | some (.dct _) => false
  | some (.lent _) => false
  | _ => true
@[simp] theorem okM_no : okM (some .no) = true := (rfl)
@[simp] theorem okM_sh : okM (some (.sh d)) = true := (rfl)
@[simp] theorem okW_nil : okW ρ [] = true := (rfl)
@[simp] theorem okW_cons (v : Nat) (vs : List Nat) : okW ρ (v :: vs) = (okM ρ[v]? && okW ρ vs) := by
  unfold okW
  rw [List.all_cons]
  rfl
end
/-! ### operations on data -/
@[simp] theorem addD_i (a b : Int) : addD (.int a) (.int b) = some (.sh (.int (a + b))) := (rfl)
@[simp] theorem addD_s (a b : Str) : addD (.str a) (.str b) = if a.length + b.length ≤ lim then some (.sh (.str (a ++ b))) else none := (rfl)
@[simp] theorem addD_l (a b : List D) : addD (.list a) (.list b) = if a.length + b.length ≤ lim then some (.fr (a ++ b)) else none := (rfl)
@[simp] theorem addD_t (a b : List D) : addD (.tuple a) (.tuple b) = if a.length + b.length ≤ lim then some (.sh (.tuple (a ++ b))) else none := (rfl)
@[simp] theorem subD_i (a b : Int) : subD (.int a) (.int b) = some (.sh (.int (a - b))) := (rfl)
@[simp] theorem mulD_i (a b : Int) : mulD (.int a) (.int b) = if (i64 a || i64 b) = true then some (.sh (.int (a * b))) else none := (rfl)
@[simp] theorem mulD_l (a : List D) (k : Int) : mulD (.list a) (.int k) = if i62 k = true ∧ a.length * k.toNat ≤ lim then some (.fr (List.replicate k.toNat a).flatten) else none := (rfl)
@[simp] theorem divD_i (a b : Int) : divD (.int a) (.int b) = if 0 < b ∧ b < 2 ^ 64 then some (.sh (.int (a / b))) else none := (rfl)
@[simp] theorem modD_i (a b : Int) : modD (.int a) (.int b) = if 0 < b then some (.sh (.int (a % b))) else none := (rfl)
@[simp] theorem powD_i (a b : Int) : powD (.int a) (.int b) = if (i64 a = true ∧ 0 ≤ b ∧ b ≤ 1000) then some (.sh (.int (a ^ b.toNat))) else none := (rfl)
@[simp] theorem xorD_i (a b : Int) : xorD (.int a) (.int b) = some (.sh (.int (Builtin.bitXor a b))) := (rfl)
@[simp] theorem negD_i (a : Int) : negD (.int a) = some (.sh (.int (-a))) := (rfl)
@[simp] theorem eqD_i (a b : Int) : eqD (.int a) (.int b) = some (decide (a = b)) := (rfl)
@[simp] theorem eqD_s (a b : Str) : eqD (.str a) (.str b) = some (decide (a = b)) := (rfl)
@[simp] theorem neD_i (a b : Int) : neD (.int a) (.int b) = some (!decide (a = b)) := (rfl)
@[simp] theorem neD_s (a b : Str) : neD (.str a) (.str b) = some (!decide (a = b)) := (rfl)
@[simp] theorem ltD_i (a b : Int) : ltD (.int a) (.int b) = some (decide (a < b)) := (rfl)
@[simp] theorem gtD_i (a b : Int) : gtD (.int a) (.int b) = some (decide (b < a)) := (rfl)
@[simp] theorem leD_i (a b : Int) : leD (.int a) (.int b) = some (decide (a ≤ b)) := (rfl)
@[simp] theorem geD_i (a b : Int) : geD (.int a) (.int b) = some (decide (b ≤ a)) := (rfl)
@[simp] theorem isD_n (a : D) : isD a .none = some (noneD a) := by cases a <;> rfl
@[simp] theorem noneD_n : noneD .none = true := (rfl)
@[simp] theorem noneD_i (i : Int) : noneD (.int i) = false := (rfl)
@[simp] theorem noneD_s (i : Str) : noneD (.str i) = false := (rfl)
@[simp] theorem noneD_b (i : Bool) : noneD (.bool i) = false := (rfl)
@[simp] theorem noneD_l (i : List D) : noneD (.list i) = false := (rfl)
@[simp] theorem noneD_t (i : List D) : noneD (.tuple i) = false := (rfl)
@[simp] theorem ixD_l (a : List D) (i : Int) : ixD (.list a) (.int i) = (atI a i).map .sh := (rfl)
@[simp] theorem ixD_t (a : List D) (i : Int) : ixD (.tuple a) (.int i) = (atI a i).map .sh := (rfl)
@[simp] theorem ixD_s (z : Str) (i : Int) : ixD (.str z) (.int i) = if z.length ≤ lim then (atI z.cps.toList i).map fun c => .sh (.str ⟨#[c]⟩) else none := (rfl)
@[simp] theorem ixD_f (a : List D) (i : Int) : ixD (frzD a) (.int i) = (atI a i).map .sh := (rfl)
@[simp] theorem slD_l (a : List D) (l h : Option Int) : slD (.list a) l h = some (.fr (cutD a l h)) := (rfl)
@[simp] theorem slD_t (a : List D) (l h : Option Int) : slD (.tuple a) l h = some (.sh (.tuple (cutD a l h))) := (rfl)
@[simp] theorem slD_s (z : Str) (l h : Option Int) : slD (.str z) l h = if z.length ≤ lim then some (.sh (.str (cutS z l h))) else none := (rfl)
@[simp] theorem lenD_l (a : List D) : lenD (.list a) = some (.sh (.int a.length)) := (rfl)
@[simp] theorem lenD_t (a : List D) : lenD (.tuple a) = some (.sh (.int a.length)) := (rfl)
@[simp] theorem lenD_f (a : List D) : lenD (frzD a) = some (.sh (.int a.length)) := (rfl)
@[simp] theorem lenD_s (z : Str) : lenD (.str z) = if z.length ≤ lim then some (.sh (.int z.length)) else none := (rfl)
@[simp] theorem absD_i (i : Int) : absD (.int i) = some (.sh (.int (if i < 0 then -i else i))) := (rfl)
@[simp] theorem intD_i (i : Int) : intD (.int i) = some (.sh (.int i)) := (rfl)
@[simp] theorem intD_b (b : Bool) : intD (.bool b) = some (.sh (.int (if b then 1 else 0))) := (rfl)
@[simp] theorem max2D_i (i j : Int) : max2D (.int i) (.int j) = some (.sh (.int (if j > i then j else i))) := (rfl)
@[simp] theorem min2D_i (i j : Int) : min2D (.int i) (.int j) = some (.sh (.int (if j < i then j else i))) := (rfl)
theorem intsD_map' : ∀ ns : List Int, intsD (ns.map .int) = some ns
  | [] => rfl
  | n :: r => by
    show (intsD (r.map .int)).map (n :: ·) = _
    rw [intsD_map' r]
    rfl
theorem blsD_map' : ∀ ns : List Bool, blsD (ns.map .bool) = some ns
  | [] => rfl
  | n :: r => by
    show (blsD (r.map .bool)).map (n :: ·) = _
    rw [blsD_map' r]
    rfl
theorem strsD_map' : ∀ ns : List Str, strsD (ns.map .str) = some ns
  | [] => rfl
  | n :: r => by
    show (strsD (r.map .str)).map (n :: ·) = _
    rw [strsD_map' r]
    rfl
@[simp] theorem sumD_l (ns : List Int) : sumD (.list (ns.map .int)) = some (.sh (.int ns.sum)) := by
  show (intsD _).map _ = _
  rw [intsD_map']
  rfl
@[simp] theorem anyD_l (ns : List Bool) : anyD (.list (ns.map .bool)) = some (.sh (.bool (ns.any id))) := by
  show (blsD _).map _ = _
  rw [blsD_map']
  rfl
@[simp] theorem allD_l (ns : List Bool) : allD (.list (ns.map .bool)) = some (.sh (.bool (ns.all id))) := by
  show (blsD _).map _ = _
  rw [blsD_map']
  rfl
@[simp] theorem listD_l (ds : List D) : listD (.list ds) = some (.fr ds) := (rfl)
@[simp] theorem listD_t (ds : List D) : listD (.tuple ds) = some (.fr ds) := (rfl)
@[simp] theorem tupleD_l (ds : List D) : tupleD (.list ds) = some (.sh (.tuple ds)) := (rfl)
@[simp] theorem tupleD_t (ds : List D) : tupleD (.tuple ds) = some (.sh (.tuple ds)) := (rfl)
@[simp] theorem truD_b (b : Bool) : truD (.bool b) = some b := (rfl)
@[simp] theorem truD_i (i : Int) : truD (.int i) = some (i != 0) := (rfl)
@[simp] theorem truD_n : truD .none = some false := (rfl)
@[simp] theorem truD_l (ds : List D) : truD (.list ds) = some (!ds.isEmpty) := (rfl)
@[simp] theorem truD_t (ds : List D) : truD (.tuple ds) = some (!ds.isEmpty) := (rfl)
theorem i64_of {i : Int} (h1 : -(2 ^ 64) < i) (h2 : i < 2 ^ 64) : i64 i = true := by
  unfold i64
  rw [decide_eq_true h1, decide_eq_true h2]
  rfl
theorem i62_of {i : Int} (h1 : -(2 ^ 62) ≤ i) (h2 : i < 2 ^ 62) : i62 i = true := by
  unfold i62
  rw [decide_eq_true h1, decide_eq_true h2]
  rfl
theorem join_ok {a : Str} {ys : List Str} (h : (ys.map (·.length)).sum + ys.length * a.length ≤ lim) : joinD (.str a) (.list (ys.map .str)) = some (.sh (.str (Txt.join a ys))) := by
  show (strsD _).bind _ = _
  rw [strsD_map']
  show (if _ then _ else none) = _
  rw [if_pos h]
theorem atI_nat' {α : Type} (xs : List α) (n : Nat) : atI xs (n : Int) = xs[n]? := by
  unfold atI ixN
  rw [if_pos (by omega)]
  by_cases h : (n : Int) < xs.length
  · rw [if_pos h]
    simp
  · rw [if_neg h, List.getElem?_eq_none (by omega)]
    rfl
@[simp] theorem atI_0 {α : Type} (xs : List α) : atI xs 0 = xs[0]? := atI_nat' xs 0
@[simp] theorem atI_1 {α : Type} (xs : List α) : atI xs 1 = xs[1]? := atI_nat' xs 1
@[simp] theorem atI_2 {α : Type} (xs : List α) : atI xs 2 = xs[2]? := atI_nat' xs 2
@[simp] theorem atI_3 {α : Type} (xs : List α) : atI xs 3 = xs[3]? := atI_nat' xs 3
theorem atI_pos {α : Type} {xs : List α} {i : Int} (h : 0 ≤ i) : atI xs i = xs[i.toNat]? := by
  have := atI_nat' xs i.toNat
  rwa [Int.toNat_of_nonneg h] at this
@[simp] theorem atI_m1 {α : Type} (xs : List α) (x : α) : atI (xs ++ [x]) (-1) = some x := atI_last xs x
theorem atI_last? {α : Type} (xs : List α) : atI xs (-1) = xs.getLast? := by
  cases h : xs.getLast? with
  | none =>
    rw [List.getLast?_eq_none_iff] at h
    subst h
    rfl
  | some x =>
    rw [List.getLast?_eq_some_iff] at h
    obtain ⟨ys, rfl⟩ := h
    exact atI_last ys x
theorem ixN_nat' (n k : Nat) : ixN n (k : Int) = if k < n then some k else none := by
  unfold ixN
  rw [if_pos (by omega)]
  by_cases h : k < n
  · rw [if_pos (by omega), if_pos h]; simp
  · rw [if_neg (by omega), if_neg h]
@[simp] theorem ixN_0 (n : Nat) : ixN n 0 = if 0 < n then some 0 else none := ixN_nat' n 0
@[simp] theorem ixN_1 (n : Nat) : ixN n 1 = if 1 < n then some 1 else none := ixN_nat' n 1
@[simp] theorem ixN_2 (n : Nat) : ixN n 2 = if 2 < n then some 2 else none := ixN_nat' n 2
theorem i64_lit {i : Int} (h : (decide (-(2 ^ 64) < i) && decide (i < 2 ^ 64)) = true) : i64 i = true := h
/-- a slot that holds no list of its own -/
inductive Shy : M → Prop
  | no : Shy .no
  | sh (d : D) : Shy (.sh d)
theorem shy_free {m : M} (h : Shy m) : freeM (some m) = true := by cases h <;> rfl
theorem rangeL_mem {k : Int} : ∀ {lo : Int} {n : Nat}, k ∈ rangeL lo n → lo ≤ k ∧ k < lo + n
  | lo, 0, h => by simp [rangeL] at h
  | lo, n + 1, h => by
    unfold rangeL at h
    rcases List.mem_cons.mp h with rfl | h
    · omega
    · have := rangeL_mem (lo := lo + 1) h
      omega
theorem rangeD_mem {d : D} {lo hi : Int} (h : d ∈ rangeD lo hi) : ∃ k, d = .int k ∧ lo ≤ k ∧ k < hi := by
  unfold rangeD at h
  obtain ⟨k, hk, rfl⟩ := List.mem_map.mp h
  have := rangeL_mem hk
  exact ⟨k, rfl, by omega, by omega⟩
theorem rangeD_len (lo hi : Int) : (rangeD lo hi).length = (hi - lo).toNat := by
  unfold rangeD
  rw [List.length_map]
  induction (hi - lo).toNat generalizing lo with
  | zero => rfl
  | succ n ih => unfold rangeL; rw [List.length_cons, ih]
/-- a loop that goes through, by a count of its turns -/
theorem turns {S : Nat → En → Prop} {g : MG} {b : MS'} {ok : D → Prop} (L : Nat) (hs : ∀ n ρ d, ok d → S n ρ → n < L → ∃ ρ2, bnd (g d ρ) b = some (.nx, ρ2) ∧ S (n + 1) ρ2) {ds : List D} {n : Nat} {ρ : En} (hd : ∀ d ∈ ds, ok d) (h : S n ρ) (hl : n + ds.length ≤ L) : ∃ ρ', forGo g b ds ρ = some (.nx, ρ') ∧ S (n + ds.length) ρ' := by
  induction ds generalizing n ρ with
  | nil => exact ⟨ρ, rfl, h⟩
  | cons d r ih =>
    rw [List.length_cons] at hl
    obtain ⟨ρ2, e2, h2⟩ := hs n ρ d (hd d List.mem_cons_self) h (by omega)
    obtain ⟨ρ', e, h'⟩ := ih (fun d h => hd d (List.mem_cons_of_mem _ h)) h2 (by omega)
    refine ⟨ρ', ?_, by rw [List.length_cons]; rwa [show n + 1 + r.length = n + (r.length + 1) by omega] at h'⟩
    rw [forGo_cons]
    cases q : g d ρ with
    | none => rw [q] at e2; cases e2
    | some ρ1 =>
      rw [q, bnd_some] at e2
      rw [bnd_some, e2, bnd_some, forO_nx, e]
theorem kit_bool_str : kitB "bool" "str" = some false := by decide +kernel
@[simp] theorem isi_bool_str (b : Bool) : isiD "str" (.bool b) = some false := kit_bool_str
theorem kit_bool_int : kitB "bool" "int" = some true := by decide +kernel
@[simp] theorem isi_bool_int (b : Bool) : isiD "int" (.bool b) = some true := kit_bool_int
theorem kit_bool_bool : kitB "bool" "bool" = some true := by decide +kernel
@[simp] theorem isi_bool_bool (b : Bool) : isiD "bool" (.bool b) = some true := kit_bool_bool
theorem kit_bool_tuple : kitB "bool" "tuple" = some false := by decide +kernel
@[simp] theorem isi_bool_tuple (b : Bool) : isiD "tuple" (.bool b) = some false := kit_bool_tuple
theorem kit_bool_list : kitB "bool" "list" = some false := by decide +kernel
@[simp] theorem isi_bool_list (b : Bool) : isiD "list" (.bool b) = some false := kit_bool_list
theorem kit_int_str : kitB "int" "str" = some false := by decide +kernel
@[simp] theorem isi_int_str (i : Int) : isiD "str" (.int i) = some false := kit_int_str
theorem kit_int_int : kitB "int" "int" = some true := by decide +kernel
@[simp] theorem isi_int_int (i : Int) : isiD "int" (.int i) = some true := kit_int_int
theorem kit_int_bool : kitB "int" "bool" = some false := by decide +kernel
@[simp] theorem isi_int_bool (i : Int) : isiD "bool" (.int i) = some false := kit_int_bool
theorem kit_int_tuple : kitB "int" "tuple" = some false := by decide +kernel
@[simp] theorem isi_int_tuple (i : Int) : isiD "tuple" (.int i) = some false := kit_int_tuple
theorem kit_int_list : kitB "int" "list" = some false := by decide +kernel
@[simp] theorem isi_int_list (i : Int) : isiD "list" (.int i) = some false := kit_int_list
theorem kit_str_str : kitB "str" "str" = some true := by decide +kernel
@[simp] theorem isi_str_str (x : Str) : isiD "str" (.str x) = some true := kit_str_str
theorem kit_str_int : kitB "str" "int" = some false := by decide +kernel
@[simp] theorem isi_str_int (x : Str) : isiD "int" (.str x) = some false := kit_str_int
theorem kit_str_bool : kitB "str" "bool" = some false := by decide +kernel
@[simp] theorem isi_str_bool (x : Str) : isiD "bool" (.str x) = some false := kit_str_bool
theorem kit_str_tuple : kitB "str" "tuple" = some false := by decide +kernel
@[simp] theorem isi_str_tuple (x : Str) : isiD "tuple" (.str x) = some false := kit_str_tuple
theorem kit_str_list : kitB "str" "list" = some false := by decide +kernel
@[simp] theorem isi_str_list (x : Str) : isiD "list" (.str x) = some false := kit_str_list
theorem kit_list_str : kitB "list" "str" = some false := by decide +kernel
@[simp] theorem isi_list_str {ds : List D} (h : plainDs ds = true) : isiD "str" (.list ds) = some false := by
  unfold isiD
  rw [show plainD (.list ds) = plainDs ds from rfl, if_pos h]
  exact kit_list_str
theorem kit_list_int : kitB "list" "int" = some false := by decide +kernel
@[simp] theorem isi_list_int {ds : List D} (h : plainDs ds = true) : isiD "int" (.list ds) = some false := by
  unfold isiD
  rw [show plainD (.list ds) = plainDs ds from rfl, if_pos h]
  exact kit_list_int
theorem kit_list_bool : kitB "list" "bool" = some false := by decide +kernel
@[simp] theorem isi_list_bool {ds : List D} (h : plainDs ds = true) : isiD "bool" (.list ds) = some false := by
  unfold isiD
  rw [show plainD (.list ds) = plainDs ds from rfl, if_pos h]
  exact kit_list_bool
theorem kit_list_tuple : kitB "list" "tuple" = some false := by decide +kernel
@[simp] theorem isi_list_tuple {ds : List D} (h : plainDs ds = true) : isiD "tuple" (.list ds) = some false := by
  unfold isiD
  rw [show plainD (.list ds) = plainDs ds from rfl, if_pos h]
  exact kit_list_tuple
theorem kit_list_list : kitB "list" "list" = some true := by decide +kernel
@[simp] theorem isi_list_list {ds : List D} (h : plainDs ds = true) : isiD "list" (.list ds) = some true := by
  unfold isiD
  rw [show plainD (.list ds) = plainDs ds from rfl, if_pos h]
  exact kit_list_list
theorem kit_tuple_str : kitB "tuple" "str" = some false := by decide +kernel
@[simp] theorem isi_tuple_str {ds : List D} (h : plainDs ds = true) : isiD "str" (.tuple ds) = some false := by
  unfold isiD
  rw [show plainD (.tuple ds) = plainDs ds from rfl, if_pos h]
  exact kit_tuple_str
theorem kit_tuple_int : kitB "tuple" "int" = some false := by decide +kernel
@[simp] theorem isi_tuple_int {ds : List D} (h : plainDs ds = true) : isiD "int" (.tuple ds) = some false := by
  unfold isiD
  rw [show plainD (.tuple ds) = plainDs ds from rfl, if_pos h]
  exact kit_tuple_int
theorem kit_tuple_bool : kitB "tuple" "bool" = some false := by decide +kernel
@[simp] theorem isi_tuple_bool {ds : List D} (h : plainDs ds = true) : isiD "bool" (.tuple ds) = some false := by
  unfold isiD
  rw [show plainD (.tuple ds) = plainDs ds from rfl, if_pos h]
  exact kit_tuple_bool
theorem kit_tuple_tuple : kitB "tuple" "tuple" = some true := by decide +kernel
@[simp] theorem isi_tuple_tuple {ds : List D} (h : plainDs ds = true) : isiD "tuple" (.tuple ds) = some true := by
  unfold isiD
  rw [show plainD (.tuple ds) = plainDs ds from rfl, if_pos h]
  exact kit_tuple_tuple
theorem kit_tuple_list : kitB "tuple" "list" = some false := by decide +kernel
@[simp] theorem isi_tuple_list {ds : List D} (h : plainDs ds = true) : isiD "list" (.tuple ds) = some false := by
  unfold isiD
  rw [show plainD (.tuple ds) = plainDs ds from rfl, if_pos h]
  exact kit_tuple_list
@[simp] theorem isD_b (x y : Bool) : isD (.bool x) (.bool y) = some (x == y) := (rfl)
@[simp] theorem isD_i (x : Int) (y : Bool) : isD (.int x) (.bool y) = some false := (rfl)
@[simp] theorem isD_s (x : Str) (y : Bool) : isD (.str x) (.bool y) = some false := (rfl)
@[simp] theorem isD_l (x : List D) (y : Bool) : isD (.list x) (.bool y) = some false := (rfl)
@[simp] theorem isD_t (x : List D) (y : Bool) : isD (.tuple x) (.bool y) = some false := (rfl)
theorem reprD_i {i : Int} (h : i64 i = true) : reprD (.int i) = some (.sh (.str (toString i))) := by
  show (if i64 i = true then _ else none) = _
  rw [if_pos h]
theorem reprD_s {x : Str} (h : (reprText x).length ≤ lim) : reprD (.str x) = some (.sh (.str (reprText x))) := by
  show (if (reprText x).length ≤ lim then _ else none) = _
  rw [if_pos h]
end Mi
set_option Elab.async false
set_option linter.all false
set_option maxRecDepth 100000
/-! Lib: texts as lists of signs, sizes of repr, data that is compared, the least of data. -/
namespace Mi
open PySem PySem.Spec PyProof.Rows L2
open PySem.W (alike alikeAll dataLt AlikeAll minD maxD dataLt_ii minD_ints)

/-! ### texts as lists of signs -/
/-- the text of signs -/
def sS (l : List Nat) : Str := ⟨l.toArray⟩
theorem sS_of (x : Str) : sS x.cps.toList = x := rfl
@[simp] theorem sS_list (l : List Nat) : (sS l).cps.toList = l := (rfl)
@[simp] theorem sS_len (l : List Nat) : (sS l).length = l.length := by
  show l.toArray.size = _
  simp
@[simp] theorem sS_app (a b : List Nat) : sS a ++ sS b = sS (a ++ b) := by
  show (⟨a.toArray ++ b.toArray⟩ : Str) = ⟨(a ++ b).toArray⟩
  congr 1
  simp
@[simp] theorem sS_cut (l : List Nat) (lo hi : Option Int) : cutS (sS l) lo hi = sS (cutD l lo hi) := by
  unfold cutS cutD
  rw [sS_len, sS_list]
  rfl
theorem sS_inj {a b : List Nat} : sS a = sS b ↔ a = b := by
  constructor
  · intro h
    have := congrArg (fun s : Str => s.cps.toList) h
    simpa using this
  · rintro rfl; rfl
theorem cut_from {α : Type} (xs : List α) {i : Int} (h : 0 ≤ i) : cutD xs (some i) none = xs.drop i.toNat := by
  unfold cutD
  have e : HT.sIx xs.length 0 (some i) = min i.toNat xs.length := by
    show (if i < 0 then _ else min i.toNat xs.length) = _
    rw [if_neg (by omega)]
  rw [e, HT.sIx_none]
  by_cases hl : i.toNat ≤ xs.length
  · rw [Nat.min_eq_left hl, List.take_of_length_le (by rw [List.length_drop]; omega)]
  · rw [Nat.min_eq_right (by omega), List.drop_length, List.drop_eq_nil_of_le (by omega)]
    simp
theorem cut_to {α : Type} (xs : List α) {i : Int} (h : 0 ≤ i) : cutD xs none (some i) = xs.take i.toNat := by
  unfold cutD
  have e : HT.sIx xs.length xs.length (some i) = min i.toNat xs.length := by
    show (if i < 0 then _ else min i.toNat xs.length) = _
    rw [if_neg (by omega)]
  rw [e, HT.sIx_none]
  show (xs.drop 0).take _ = _
  rw [List.drop_zero, Nat.sub_zero]
  by_cases hl : i.toNat ≤ xs.length
  · rw [Nat.min_eq_left hl]
  · rw [Nat.min_eq_right (by omega), List.take_length, List.take_of_length_le (by omega)]
theorem cut_both {α : Type} (xs : List α) {i j : Int} (h : 0 ≤ i) (hj : 0 ≤ j) : cutD xs (some i) (some j) = (xs.take j.toNat).drop i.toNat := by
  unfold cutD
  have e : ∀ (d : Nat) (i : Int), 0 ≤ i → HT.sIx xs.length d (some i) = min i.toNat xs.length := fun d i h => by
    show (if i < 0 then _ else min i.toNat xs.length) = _
    rw [if_neg (by omega)]
  rw [e 0 i h, e _ j hj]
  apply List.ext_getElem?
  intro k
  rw [List.getElem?_take, List.getElem?_drop, List.getElem?_drop, List.getElem?_take]
  by_cases h1 : k < min j.toNat xs.length - min i.toNat xs.length
  · rw [if_pos h1, if_pos (by omega)]
    congr 1
    omega
  · rw [if_neg h1]
    by_cases h2 : i.toNat + k < j.toNat
    · rw [if_pos h2, List.getElem?_eq_none (by omega)]
    · rw [if_neg h2]
@[simp] theorem cut_all {α : Type} (xs : List α) : cutD xs none none = xs := by
  unfold cutD
  rw [HT.sIx_none, HT.sIx_none]
  simp
theorem sS_join (ls : List (List Nat)) : Txt.join (sS []) (ls.map sS) = sS ls.flatten := by
  rw [show Txt.join (sS []) (ls.map sS) = Str.join (sS []) (ls.map sS) from _root_.TL.join_eq _ _]
  induction ls with
  | nil => rfl
  | cons a r ih =>
    cases r with
    | nil => show sS a = sS [a].flatten; simp
    | cons b r =>
      show sS a ++ sS [] ++ Str.join (sS []) ((b :: r).map sS) = _
      rw [ih, sS_app, sS_app]
      simp
theorem join_empty : Str.ofString "" = sS [] := by decide +kernel

/-! ### the size of a text's repr -/
theorem digits_len (n : Nat) : ∀ k, n < 16 ^ (k + 1) → (Nat.toDigits 16 n).length ≤ k + 1 := fun k h => by
  exact (Nat.length_toDigits_le_iff (by decide) (by omega)).mpr h
theorem reprChar_len (q c : Nat) (h : c < 1114112) : (Builtin.Str.reprChar q c).length ≤ 10 := by
  unfold Builtin.Str.reprChar
  have d := digits_len c 7 (by omega)
  (repeat' split) <;> simp only [List.length_append, List.length_cons, List.length_nil, List.length_replicate, List.length_map] <;> omega
theorem repr_fold (q : Nat) : ∀ (l : List Nat) (acc : Array Nat), (∀ c ∈ l, c < 1114112) → (l.foldl (fun out c => out ++ (Builtin.Str.reprChar q c).toArray) acc).size ≤ acc.size + 10 * l.length
  | [], acc, _ => by simp
  | c :: r, acc, h => by
    have ih := repr_fold q r (acc ++ (Builtin.Str.reprChar q c).toArray) fun x hx => h x (List.mem_cons_of_mem _ hx)
    have hc := reprChar_len q c (h c List.mem_cons_self)
    rw [List.foldl_cons, List.length_cons]
    have e : (acc ++ (Builtin.Str.reprChar q c).toArray).size = acc.size + (Builtin.Str.reprChar q c).length := by simp
    rw [e] at ih
    omega
theorem repr_len (l : List Nat) (h : ∀ c ∈ l, c < 1114112) : (reprText (sS l)).length ≤ 2 + 10 * l.length := by
  unfold reprText
  show (Array.push _ _).size ≤ _
  rw [Array.size_push]
  have e : (sS l).cps.foldl (fun out c => out ++ (Builtin.Str.reprChar (reprQuote (sS l)) c).toArray) #[reprQuote (sS l)] = l.foldl (fun out c => out ++ (Builtin.Str.reprChar (reprQuote (sS l)) c).toArray) #[reprQuote (sS l)] := by
    rw [← Array.foldl_toList]
    rfl
  rw [e]
  have := repr_fold (reprQuote (sS l)) l #[reprQuote (sS l)] h
  have : (#[reprQuote (sS l)] : Array Nat).size = 1 := rfl
  omega

/-! ### data that is compared -/
theorem depth_le {k : Nat} : ∀ {ds : List D}, (∀ d ∈ ds, d.depth ≤ k) → PyData.depthAll ds ≤ k
  | [], _ => Nat.zero_le _
  | d :: ds, h => Nat.max_le.mpr ⟨h d List.mem_cons_self, depth_le fun x hx => h x (List.mem_cons_of_mem _ hx)⟩
theorem canLay_all : ∀ {ds : List D}, (∀ d ∈ ds, d.canLay0 = true) → PyData.canLayAll0 ds = true
  | [], _ => rfl
  | d :: ds, h => Bool.and_eq_true_iff.mpr ⟨h d List.mem_cons_self, canLay_all fun x hx => h x (List.mem_cons_of_mem _ hx)⟩
theorem plain_all : ∀ {ds : List D}, (∀ d ∈ ds, plainD d = true) → plainDs ds = true
  | [], _ => rfl
  | d :: ds, h => Bool.and_eq_true_iff.mpr ⟨h d List.mem_cons_self, plain_all fun x hx => h x (List.mem_cons_of_mem _ hx)⟩
theorem shaped_of {d : D} (h : d.canLay0 = true) (k : d.depth ≤ 64) : SeqAt.shaped d = true := Bool.and_eq_true_iff.mpr ⟨h, decide_eq_true k⟩
theorem shaped_ints (ns : List Int) : SeqAt.shaped (.list (ns.map .int)) = true :=
  shaped_of (canLay_all fun d hd => by obtain ⟨i, _, rfl⟩ := List.mem_map.mp hd; rfl) (by
    have : PyData.depthAll (ns.map PyData.int) ≤ 0 := depth_le (k := 0) fun d hd => by
      obtain ⟨i, _, rfl⟩ := List.mem_map.mp hd
      exact Nat.zero_le _
    show PyData.depthAll (ns.map PyData.int) + 1 ≤ 64
    omega)
theorem eqD_self {d : D} (h : SeqAt.shaped d = true) : eqD d d = some true := by
  unfold eqD
  split
  · simp_all
  · simp_all
  · rename_i h1 h2
    rw [if_pos ⟨h, h⟩, PySem.SeqAt.eqv_refl d (SeqAt.canLay_of_shaped h)]
theorem neD_self {d : D} (h : SeqAt.shaped d = true) : neD d d = some false := by
  unfold neD
  rw [eqD_self h]
  rfl
theorem plain_ints (ns : List Int) : plainDs (ns.map .int) = true := plain_all fun d hd => by
  obtain ⟨i, _, rfl⟩ := List.mem_map.mp hd
  rfl
/-- what may be compared for the least -/
theorem bestOk_of {ds : List D} (h1 : ∀ d ∈ ds, plainD d = true) (h2 : ∀ d ∈ ds, ∀ e ∈ ds, alike d e = true) (h3 : ∀ d ∈ ds, noneD d = false) (h4 : ∀ d ∈ ds, d.depth ≤ 60) : bestOk ds = true := by
  unfold bestOk alikeB
  rw [plain_all h1, decide_eq_true (depth_le h4)]
  have a : (ds.all fun x => ds.all fun y => alike x y) = true := List.all_eq_true.mpr fun x hx => List.all_eq_true.mpr fun y hy => h2 x hx y hy
  have b : (ds.all fun x => !noneD x) = true := List.all_eq_true.mpr fun x hx => by rw [h3 x hx]; rfl
  rw [a, b]
  rfl
theorem best_ints (ns : List Int) : bestOk (ns.map .int) = true := by
  have h : ∀ d ∈ ns.map PyData.int, ∃ i, d = .int i := fun d hd => by
    obtain ⟨i, _, rfl⟩ := List.mem_map.mp hd
    exact ⟨i, rfl⟩
  refine bestOk_of (fun d hd => ?_) (fun d hd e he => ?_) (fun d hd => ?_) (fun d hd => ?_)
  · obtain ⟨i, rfl⟩ := h d hd; rfl
  · obtain ⟨i, rfl⟩ := h d hd; obtain ⟨j, rfl⟩ := h e he; rfl
  · obtain ⟨i, rfl⟩ := h d hd; rfl
  · obtain ⟨i, rfl⟩ := h d hd; exact Nat.zero_le _
def pairD (p : Int × Int) : D := .tuple [.int p.1, .int p.2]
theorem best_pairs (ps : List (Int × Int)) : bestOk (ps.map pairD) = true := by
  have h : ∀ d ∈ ps.map pairD, ∃ i, d = pairD i := fun d hd => by
    obtain ⟨i, _, rfl⟩ := List.mem_map.mp hd
    exact ⟨i, rfl⟩
  refine bestOk_of (fun d hd => ?_) (fun d hd e he => ?_) (fun d hd => ?_) (fun d hd => ?_)
  · obtain ⟨i, rfl⟩ := h d hd; rfl
  · obtain ⟨i, rfl⟩ := h d hd; obtain ⟨j, rfl⟩ := h e he; rfl
  · obtain ⟨i, rfl⟩ := h d hd; rfl
  · obtain ⟨i, rfl⟩ := h d hd; exact (by decide : 1 ≤ 60)
theorem minLD_ints (n : Int) (ns : List Int) : minLD (.list (.int n :: ns.map .int)) = some (.sh (.int (ns.foldl min n))) := by
  show (if bestOk (.int n :: ns.map .int) = true then some (R.sh (minD (.int n) (ns.map .int))) else none) = _
  rw [if_pos (show bestOk (.int n :: ns.map .int) = true from best_ints (n :: ns)), minD_ints]
def ltP (p q : Int × Int) : Bool := decide (p.1 < q.1 ∨ (p.1 = q.1 ∧ p.2 < q.2))
def minP (p : Int × Int) (ps : List (Int × Int)) : Int × Int := ps.foldl (fun a y => if ltP y a then y else a) p
theorem minD_pairs (p : Int × Int) (ps : List (Int × Int)) : minD (pairD p) (ps.map pairD) = pairD (minP p ps) := by
  unfold minD minP
  induction ps generalizing p with
  | nil => rfl
  | cons q r ih =>
    rw [List.map_cons, List.foldl_cons, List.foldl_cons, ← ih]
    congr 1
    have e : dataLt (pairD q) (pairD p) = ltP q p := dataLt_ii q.1 q.2 p.1 p.2
    rw [e]
    split <;> rfl
theorem minLD_pairs (p : Int × Int) (ps : List (Int × Int)) : minLD (.list (pairD p :: ps.map pairD)) = some (.sh (pairD (minP p ps))) := by
  show (if bestOk (pairD p :: ps.map pairD) = true then some (R.sh (minD (pairD p) (ps.map pairD))) else none) = _
  rw [if_pos (show bestOk (pairD p :: ps.map pairD) = true from best_pairs (p :: ps)), minD_pairs]
end Mi
set_option Elab.async false
set_option linter.all false
set_option maxRecDepth 100000
/-! Core9: calls that only read, parallel stores, more methods, more subscripts. -/
namespace Mi
open PySem PySem.Spec PyProof.Rows L2
variable [KK]
section
variable {X : Cx} {e a b c tg : Expr} {pos p : Pos} {m ma mb mc : MR} {es : List Expr} {ms : MA} {k : Nat} {x y : Str} {t u : MB}

/-! ### arguments as they stand -/
abbrev ML := En → Option (List R × En)
def RsAll (F G H : Hp) (σ : L2.St) (ρ : En) : List V → List R → Prop
  | [], [] => True
  | v :: vs, r :: rs => RsOk F G H σ ρ v r ∧ RsAll F G H σ ρ vs rs
  | _, _ => False
def tML (m : ML) : TA := fun σ H Q => ∃ F G b ρ, Rp F G H b σ ρ ∧ ∃ rs ρ', m ρ = some (rs, ρ') ∧ ∀ F' H' vs, Same F F' → Cln F G F' → Rp F' G H' b σ ρ' → RsAll F' G H' σ ρ' vs rs → Q vs H'
structure MLs (X : Cx) (es : List Expr) (m : ML) : Prop where
  ok : PA X es (tML m)
def lNil : ML := fun ρ => some ([], ρ)
def lCons (m : MR) (ms : ML) : ML := fun ρ => do
  let (r, ρ1) ← m ρ
  let (rs, ρ2) ← ms ρ1
  some (r :: rs, ρ2)
theorem ml_nil : MLs X [] lNil := ⟨pa_nil.imq fun σ H Q q => by
  obtain ⟨F, G, b, ρ, hr, rs, ρ', e, k⟩ := q
  cases e
  exact k F H [] (.refl _) (.refl _ _) hr trivial⟩
theorem RsAll.less {F G G' H : Hp} {σ : L2.St} {ρ : En} (e : Same G G') : ∀ {vs : List V} {rs : List R}, RsAll F G' H σ ρ vs rs → RsAll F G H σ ρ vs rs
  | [], [], _ => trivial
  | v :: vs, r :: rs, h => ⟨h.1.less e, RsAll.less e h.2⟩
  | [], _ :: _, h => h
  | _ :: _, [], h => h
theorem ml_cons {ml : ML} (ha : ME X e m) (hr : MLs X es ml) (hs : starEach (e :: es) X.env = (false, eval e X.env) :: starEach es X.env := by rfl) : MLs X (e :: es) (lCons m ml) := ⟨(pa_cons ha.ok hr.ok hs).imq fun σ H Q q => by
  obtain ⟨F, G, b, ρ, hr, rs, ρ', e, k⟩ := q
  obtain ⟨⟨r1, ρ1⟩, e1, e⟩ := bind_some e
  obtain ⟨⟨rs2, ρ2⟩, e2, e⟩ := bind_some e
  cases e
  refine ⟨F, G, b, ρ, hr, r1, ρ1, e1, fun F1 H1 v1 s1 c1 h1 k1 => ?_⟩
  refine ⟨F1, guard G H1 v1 r1, b, ρ1, h1.guarded k1, rs2, _, e2, fun F2 H2 vs s2 c2 h2 k2 => ?_⟩
  have ge := guard_ge k1
  exact k F2 H2 (v1 :: vs) (s1.trans s2) (c1.trans (c2.less ge)) (h2.less ge h1.lg) ⟨k1.keep s2 c2 h2, k2.less ge⟩⟩
def derefs (ρ : En) : List R → Option (List D)
  | [] => some []
  | r :: rs => do
    let d ← deref ρ r
    let ds ← derefs ρ rs
    some (d :: ds)
theorem RsAll.dvs {F G H : Hp} {b : Fm} {σ : L2.St} {ρ : En} (h : Rp F G H b σ ρ) : ∀ {vs : List V} {rs : List R} {ds : List D}, RsAll F G H σ ρ vs rs → derefs ρ rs = some ds → Dvs H vs ds
  | [], [], ds, _, e => by
    cases e
    exact .nil
  | v :: vs, r :: rs, ds, k, e => by
    obtain ⟨d, e1, e⟩ := bind_some e
    obtain ⟨ds2, e2, e⟩ := bind_some e
    cases e
    exact .cons ((k.1.bd h e1).dv h.fh) (RsAll.dvs h k.2 e2)
  | [], _ :: _, _, k, _ => False.elim k
  | _ :: _, [], _, k, _ => False.elim k
def flD : D → Bool
  | .none => true
  | .bool _ => true
  | .int _ => true
  | .str _ => true
  | _ => false
theorem fl_dv {F F' : Hp} {v : V} {d : D} (h : Dv F v d) (f : flD d = true) : Dv F' v d := by
  cases h with
  | non => exact .non
  | bl b => exact .bl b
  | int i => exact .int i
  | str x => exact .str x
  | lst _ _ => cases f
  | tup _ _ => cases f
  | frz _ _ => cases f
def flatR : R → Option R
  | .sh d => if flD d = true then some (.sh d) else none
  | _ => none
/-- a call that only reads: what is handed in stays as it was; the answer is flat -/
def mCallL (φ : List D → Option R) (ms : ML) : MR := fun ρ => do
  let (rs, ρ1) ← ms ρ
  let ds ← derefs ρ1 rs
  let r ← φ ds
  let r ← flatR r
  some (r, ρ1)
theorem me_callLC {φ : List D → Option R} {ml : ML} (c : Cl X.prog X.w X.mg X.base x k (spN φ)) (hr : Room k X.A) (hg : Gl X x)
    (ha : MLs X (e :: es) ml) (hK : X.K = KK.K := by rfl) (hdb : (x == ("__debug__" : Str)) = false := by decide) (he : starEach (e :: es) X.env = (false, eval e X.env) :: starEach es X.env := by rfl) (hpl : (backTo pos (starEach es X.env)).any (·.1) = false := by rfl) :
    ME X (.Call (.Name x p) (e :: es) [] pos) (mCallL φ ml) := by
  obtain ⟨f, fd, ps, F, hm, hk, hb⟩ := c
  rw [← hK] at F hk hb
  exact ⟨(pe_call (dvs := []) F hr hg hm hk hb .nil pass0 ha.ok hdb he hpl).imq fun σ H Q q => by
    obtain ⟨F0, G, b, ρ, hr0, r, ρ', e, k⟩ := q
    obtain ⟨⟨rs, ρ1⟩, e1, e⟩ := bind_some e
    obtain ⟨ds, e2, e⟩ := bind_some e
    obtain ⟨r1, e3, e⟩ := bind_some e
    obtain ⟨r2, e4, e⟩ := bind_some e
    cases e
    refine ⟨F0, G, b, ρ, hr0, rs, _, e1, fun F1 H1 vs s1 c1 h1 k1 => ?_⟩
    refine (show spN φ (vs ++ []) H1 Q E0 from ?_)
    rw [List.append_nil]
    refine ⟨H1, ds, r1, .refl _, k1.dvs h1 e2, e3, fun F' H' v P => ?_⟩
    have hP := P.res
    match r1, e4, hP with
    | .sh d, e4, hP =>
      obtain ⟨fl, e5⟩ := ite_some (show (if flD d = true then some (R.sh d) else none) = some r from e4)
      subst e5
      have g : Rp F1 G H' b σ ρ' := h1.grow (.refl _) P.hh (h1.fh.trans P.hh) fun i q o z => by
        obtain ⟨_, _, f, _⟩ := h1.own_some o z
        exact f
      exact k F1 H' v s1 c1 g (show Dv F1 v d from fl_dv (show Dv F' v d from hP) fl)⟩

/-! ### x, y = a, b -/
def sPar (i j : Nat) (ms : MA) : MS' := fun ρ => do
  let (ds, ρ1) ← ms ρ
  match ds with
  | [d1, d2] => if free1 ρ1 i = true then (if free1 (ρ1.set i (.sh d1)) j = true then some (.nx, (ρ1.set i (.sh d1)).set j (.sh d2)) else none) else none
  | _ => none
theorem ms_par {i j : Nat} {z : Str} {px py pt pt2 : Pos} {kt k2} (hc : X.calm = true) (hN : X.N.Nodup) (hi : X.N[i]? = some x) (hj : X.N[j]? = some z) (hij : i ≠ j)
    (hx : X.env.scope.names.lookup x = some .local) (hy : X.env.scope.names.lookup z = some .local) (ha : MAs X [a, b] ms)
    (hw : swappedStores [.Tuple [.Name x px, .Name z py] kt pt] (.Tuple [a, b] k2 pt2) X.env = pure (some [x, z]) := by rfl)
    (hs : swapsWithSole [.Tuple [.Name x px, .Name z py] kt pt] (.Tuple [a, b] k2 pt2) pos.line X.env = pure false := by rfl) :
    MSt X (.Assign [.Tuple [.Name x px, .Name z py] kt pt] (.Tuple [a, b] k2 pt2) pos) (sPar i j ms) := ⟨(ps_par hc hN hi hj hij hx hy ha.ok hw hs).imq fun D σ H q => by
  obtain ⟨F, G, b, ρ, hr, o, ρ', e, k⟩ := q
  obtain ⟨⟨ds, ρ1⟩, e1, e⟩ := bind_some e
  refine ⟨F, G, b, ρ, hr, ds, ρ1, e1, fun F1 H1 vs s1 c1 h1 dvs => ?_⟩
  match ds, vs, dvs, e with
  | [d1, d2], [v1, v2], .cons dv1 (.cons dv2 .nil), e =>
    obtain ⟨f1, e⟩ := ite_some' (show (if free1 ρ1 i = true then (if free1 (ρ1.set i (.sh d1)) j = true then some (Out.nx, (ρ1.set i (.sh d1)).set j (.sh d2)) else none) else none) = some (o, ρ') from e)
    obtain ⟨f2, e⟩ := ite_some e
    cases e
    exact ⟨v1, v2, rfl, k F1 H1 _ s1 c1 ((h1.setSh (free1_lt f1) dv1).setSh (free1_lt f2) dv2)⟩⟩

/-! ### ranges with a step of one down or up -/
def stepD (lo c : Int) (n : Nat) : List D := (List.range n).map fun i => .int (lo + (i : Nat) * c)
def range3 : List D → Option (List D)
  | [.int i, .int j, .int c] => if (i62 i && i62 j) = true then (if c = -1 then some (stepD i (-1) (i - j).toNat) else if (0 < c ∧ c < 1000000 ∧ Builtin.Range.small i j c = true ∧ Builtin.Range.rangeSize i j c = ((Builtin.Range.rangeSize i j c).toNat : Int)) then some (stepD i c (Builtin.Range.rangeSize i j c).toNat) else none) else none
  | _ => none
def mRange3 (ms : MA) : MI := fun ρ => do
  let (ds, ρ1) ← ms ρ
  let es ← range3 ds
  some (es, ρ1)
theorem stepD_get (lo c : Int) (n i : Nat) (h : i < n) : (stepD lo c n)[i]? = some (.int (lo + (i : Nat) * c)) := by
  unfold stepD
  rw [List.getElem?_map, List.getElem?_range h]
  rfl
theorem wk_step {F : Hp} {lo c : Int} {n : Nat} : Wk (Itc lo c n) F (stepD lo c n) := by
  have el : (stepD lo c n).length = n := by unfold stepD; rw [List.length_map, List.length_range]
  refine ⟨fun i H hi s => by rw [el] at hi; exact hi, fun H s => by rw [el]; exact Nat.le_refl _, fun i F1 H x H' hi s1 s2 y => ?_⟩
  obtain ⟨rfl, rfl⟩ := y
  rw [el] at hi
  exact ⟨F1, _, stepD_get lo c n i hi, post_sh s2 (.int _)⟩
theorem mi_range3 (hg : Gl X "range") (hm : X.mg "range" = none) (ha : MAs X [a, b, c] ms)
    (hs : starEach [a, b, c] X.env = (false, eval a X.env) :: starEach [b, c] X.env := by rfl) (hs2 : (backTo pos (starEach [b, c] X.env)).any (·.1) = false := by rfl) : MIt X tg (.Call (.Name "range" p) [a, b, c] [] pos) (mRange3 ms) := ⟨(pi_range3 hg hm ha.ok hs hs2).imq fun σ H R q => by
  obtain ⟨F, G, b', ρ, hr, ds, ρ', e, k⟩ := q
  obtain ⟨⟨ds1, ρ1⟩, e1, e⟩ := bind_some e
  obtain ⟨es, e2, e⟩ := bind_some e
  cases e
  refine ⟨F, G, b', ρ, hr, ds1, _, e1, fun F1 H1 vs s1 c1 h1 dvs => ?_⟩
  match ds1, dvs, e2 with
  | [.int i, .int j, .int z], .cons (.int _) (.cons (.int _) (.cons (.int _) .nil)), e =>
    obtain ⟨hj, e⟩ := ite_some' (show (if (i62 i && i62 j) = true then (if z = -1 then some (stepD i (-1) (i - j).toNat) else if (0 < z ∧ z < 1000000 ∧ Builtin.Range.small i j z = true ∧ Builtin.Range.rangeSize i j z = ((Builtin.Range.rangeSize i j z).toNat : Int)) then some (stepD i z (Builtin.Range.rangeSize i j z).toNat) else none) else none) = some ds from e)
    have hj := Bool.and_eq_true_iff.mp hj
    have b1 := i62_ok hj.1
    have b2 := i62_ok hj.2
    by_cases hz : z = -1
    · subst hz
      rw [if_pos rfl] at e
      cases e
      exact ⟨i, j, -1, _, rfl, RgC.neg b1.1 b1.2 b2.1 b2.2, k F1 H1 _ s1 c1 h1 wk_step⟩
    · rw [if_neg hz] at e
      obtain ⟨⟨z0, z1, z2, z3⟩, e⟩ := ite_some e
      cases e
      exact ⟨i, j, z, _, rfl, ⟨by omega, by omega, z2, z3⟩, k F1 H1 _ s1 c1 h1 wk_step⟩⟩

/-! ### text * number -/
def timesS (a : Str) (n : Int) : Str := if n < 1 then Str.empty else if (n == 1 || a.length == 0) = true then a else ⟨(List.replicate n.toNat a.cps).foldl (· ++ ·) #[]⟩
def mulSD : D → D → Option R
  | .str a, .int n => if 0 ≤ n ∧ n ≤ 1000000 ∧ a.length * n.toNat ≤ lim then some (.sh (.str (timesS a n))) else none
  | _, _ => none
def rMulS : R2 := fun x y H Q => ∃ a n, x = .str a ∧ y = .int n ∧ 0 ≤ n ∧ n ≤ 1000000 ∧ a.length * n.toNat ≤ lim ∧ Q (.str (timesS a n)) H
theorem op_mulS : OpR X (binaryOp .Mult) rMulS := by
  intro pins s σ H x y v u Q I rx ry h
  obtain ⟨a, n, rfl, rfl, h0, h1, h2, q⟩ := h
  obtain ⟨t, rfl⟩ := rx
  obtain ⟨t', rfl⟩ := ry
  have htl : Builtin.Str.tooLong (a.length * n.toNat) = false := by
    unfold Builtin.Str.tooLong
    have := lim_le h2
    exact decide_eq_false (by omega)
  refine P.mul_str (by rw [decide_eq_false (by omega), decide_eq_false (by omega)]; rfl) (fun h1 h2' => ?_) (fun _ _ => htl) ?_
  · intro z
    have hp : 0 < n := by omega
    have e : n = (n.toNat : Int) := by omega
    have h3 : ((a.length : Int) * n) ≤ 1000000 := by
      have h2' : a.length * n.toNat ≤ 1000000 := h2
      have h3' := Int.ofNat_le.mpr h2'
      rw [Int.natCast_mul, ← e] at h3'
      exact h3'
    have h4 : ((2 : Int) ^ 63 - 1) / n < (a.length : Int) := z
    have h5 := Int.lt_mul_of_ediv_lt hp h4
    omega
  · have e : (if n < 1 then Made.str Str.empty else if (n == 1 || a.length == 0) = true then Made.val (.str a t) else Made.str ⟨(List.replicate n.toNat a.cps).foldl (· ++ ·) #[]⟩) = Made.str (timesS a n) ∨ ((timesS a n) = a ∧ (if n < 1 then Made.str Str.empty else if (n == 1 || a.length == 0) = true then Made.val (.str a t) else Made.str ⟨(List.replicate n.toNat a.cps).foldl (· ++ ·) #[]⟩) = Made.val (.str a t)) := by
      unfold timesS
      split
      · exact .inl rfl
      · split
        · exact .inr ⟨rfl, rfl⟩
        · exact .inl rfl
    rcases e with e | ⟨e1, e2⟩
    · rw [e]
      have hfit : (timesS a n).length ≤ sizeLine := by
        unfold timesS
        split
        · exact Nat.zero_le _
        · split
          · by_cases hn : n = 1
            · subst hn
              have : a.length * 1 ≤ lim := h2
              exact lim_le (by omega)
            · have h0' : a.length = 0 := by
                rename_i hh
                rcases Bool.or_eq_true_iff.mp hh with z | z
                · exact absurd (eq_of_beq z) hn
                · exact eq_of_beq z
              rw [h0']
              exact Nat.zero_le _
          · exact fits_reps htl
      exact ⟨hfit, ⟨.str (timesS a n), H, I.tok _, ⟨_, rfl⟩, q⟩⟩
    · rw [e2]
      rw [e1] at q
      exact ⟨.str a, H, I, ⟨_, rfl⟩, q⟩
theorem bin_mulS : BinOk X .Mult mulSD := ⟨_, op_mulS, fun F H v1 v2 d1 d2 k s b1 b2 e Q q => by
  match d1, d2, e, b1, b2 with
  | .str a, .int n, e, b1, b2 =>
    obtain ⟨⟨h0, h1, h2⟩, e⟩ := ite_some (show (if 0 ≤ n ∧ n ≤ 1000000 ∧ a.length * n.toNat ≤ lim then some (R.sh (.str (timesS a n))) else none) = some k from e)
    subst e
    exact ⟨a, n, b1.str, b2.int, h0, h1, h2, q F H _ (post_sh s (.str _))⟩⟩

/-! ### startswith from a place, the place of a text in a text -/
def mStarts3 (mo ma mb : MR) : MR := fun ρ => do
  let (r0, ρ0) ← mo ρ
  let (r1, ρ1) ← ma ρ0
  let (r2, ρ2) ← mb ρ1
  match r0, r1, r2 with
  | .sh (.str a), .sh (.str b), .sh (.int i) => some (.sh (.bool (Txt.startswith3 a b i)), ρ2)
  | _, _, _ => none
theorem me_starts3 {apos cpos : Pos} (ho : ME X a ma) (he : ME X b mb) (hf : ME X c mc) (hbase : attributeBase a "startswith" X.env (eval a X.env) = eval a X.env := by rfl)
    (hfew : ((backTo cpos (starEach (b :: [c]) X.env)).all (fun x => !x.1) && (backToKw cpos (keywordEach [] X.env)).all (fun x => x.1.isSome)
      && decide ((b :: ([c] : List Expr)).length + ([] : List Keyword).length + (if ([] : List Keyword).isEmpty then 0 else 1) < 30)) = true := by rfl)
    (hline : (apos.endLine == cpos.line) = true := by rfl) (hs : starEach (b :: [c]) X.env = (false, eval b X.env) :: starEach [c] X.env := by rfl) (hs2 : starEach [c] X.env = (false, eval c X.env) :: starEach [] X.env := by rfl) (hplain : (backTo cpos (starEach [c] X.env)).any (·.1) = false := by rfl) :
    ME X (.Call (.Attribute a "startswith" apos) [b, c] [] cpos) (mStarts3 ma mb mc) :=
  ⟨(pe_bm PySem.F.plainAttrs_str PySem.F.slot_str_startswith PySem.F.type_str_startswith mt_startswith3 ho.ok (pa_cons he.ok (pa_cons hf.ok pa_nil hs2) hs) hbase hfew hline hs hplain).imq fun σ H Q q => by
    obtain ⟨F, G, b', ρ, hr, r, ρ', e, k⟩ := q
    obtain ⟨⟨r0, ρ0⟩, e0, e⟩ := bind_some e
    obtain ⟨⟨r1, ρ1⟩, e1, e⟩ := bind_some e
    obtain ⟨⟨r2, ρ2⟩, e2, e⟩ := bind_some e
    match r0, r1, r2, e0, e1, e2, e with
    | .sh (.str a), .sh (.str b), .sh (.int i), e0, e1, e2, e =>
      cases e
      refine ⟨F, G, b', ρ, hr, _, ρ0, e0, fun F0 H0 v0 s0 c0 h0 k0 => ?_⟩
      cases (show Dv F0 v0 (.str a) from k0)
      refine ⟨rfl, F0, G, b', ρ0, h0, _, ρ1, e1, fun F1 H1 v1 s1 c1 h1 k1 => ?_⟩
      cases (show Dv F1 v1 (.str b) from k1)
      refine ⟨F1, G, b', ρ1, h1, _, _, e2, fun F2 H2 v2 s2 c2 h2 k2 => ?_⟩
      cases (show Dv F2 v2 (.int i) from k2)
      exact ⟨a, b, i, rfl, rfl, k F2 H2 _ (s0.trans (s1.trans s2)) (c0.trans (c1.trans c2)) h2 (.bl _)⟩⟩
def sindexD : D → D → Option R
  | .str a, .str b => match Builtin.Str.occurrences a b 0 a.length 1 with
    | i :: _ => some (.sh (.int (i : Nat)))
    | [] => none
  | _, _ => none
theorem me_sindex {apos : Pos} (ho : ME X a ma) (he : ME X b mb) (hs : starEach [b] X.env = [(false, eval b X.env)] := by rfl) (hbase : attributeBase a "index" X.env (eval a X.env) = eval a X.env := by rfl) (hline : (apos.endLine == pos.line) = true := by rfl) :
    ME X (.Call (.Attribute a "index" apos) [b] [] pos) (mM1 sindexD ma mb) := ⟨(pe_m1 PySem.F.slot_str_index PySem.F.type_str_index mt_sindex ho.ok he.ok hs hbase hline).imq (tM_m1 fun F H v1 v2 d1 d2 k s b1 b2 e Q q => by
  match d1, d2, e, b1, b2 with
  | .str a, .str b, e, b1, b2 =>
    cases z : Builtin.Str.occurrences a b 0 a.length 1 with
    | nil =>
      have e' : (match Builtin.Str.occurrences a b 0 a.length 1 with
        | i :: _ => some (R.sh (.int (i : Nat)))
        | [] => none) = some k := e
      rw [z] at e'
      cases e'
    | cons i r =>
      have e' : (match Builtin.Str.occurrences a b 0 a.length 1 with
        | i :: _ => some (R.sh (.int (i : Nat)))
        | [] => none) = some k := e
      rw [z] at e'
      cases e'
      exact ⟨a, b, i, r, b1.str, by rw [b2.str], z, q F H _ (post_sh s (.int _))⟩)⟩

/-! ### a dict of the module, texts for texts -/
def assocS : List (Str × Str) → Str → Option Str
  | [], _ => none
  | p :: r, z => if z = p.1 then some p.2 else assocS r z
theorem assoc_all {P : Str → Str → Prop} : ∀ {L : List (Str × Str)} {z x : Str}, (∀ p ∈ L, P p.1 p.2) → assocS L z = some x → P z x
  | [], _, _, _, e => by cases e
  | p :: r, z, x, h, e => by
    unfold assocS at e
    by_cases hz : z = p.1
    · rw [if_pos hz] at e
      cases e
      rw [hz]
      exact h p List.mem_cons_self
    · rw [if_neg hz] at e
      exact assoc_all (fun q hq => h q (List.mem_cons_of_mem _ hq)) e
def kdD (L : List (Str × Str)) : D → Option R
  | .str z => (assocS L z).map fun x => .sh (.str x)
  | _ => none
def KdAt (K : Fr0) (w : World) (mg : Str → Option Value) (x : Str) (L : List (Str × Str)) : Prop := ∃ d, mg x = some (.ref d) ∧ ∀ p ∈ L, KDct K w d p.1 (.str p.2)
theorem me_kd {L : List (Str × Str)} (hd : KdAt KK.K X.w X.mg x L) (hg : Gl X x) (hb : ME X b mb) (hs : PlainIx b) (hK : X.K = KK.K := by rfl) (hdb : (x == ("__debug__" : Str)) = false := by decide) : ME X (.Subscript (.Name x p) b pos) (mUn (kdD L) mb) := by
  obtain ⟨d, hm, hk⟩ := hd
  rw [← hK] at hk
  refine ⟨(pe_ix ix_kdict (pe_glob (v := .ref d) hg hm rfl hdb) hb.ok hs).imq fun σ H Q q => ?_⟩
  obtain ⟨F, G, b, ρ, hr, r', ρ', e, k⟩ := q
  obtain ⟨⟨r1, ρ1⟩, e1, e⟩ := bind_some e
  obtain ⟨d1, e3, e⟩ := bind_some e
  obtain ⟨z, e5, e⟩ := bind_some e
  cases e
  refine (show tM mb σ H (fun y H2 => rIxD X.K X.w (.ref d) y H2 Q) from ⟨F, G, b, ρ, hr, r1, _, e1, fun F1 H1 v1 s1 c1 h1 k1 => ?_⟩)
  have bd := k1.bd h1 e3
  match d1, bd, e5 with
  | .str y, bd, e5 =>
    obtain ⟨x, e6, e7⟩ := map_some (show (assocS L y).map (fun x => R.sh (.str x)) = some r' from e5)
    subst e7
    exact ⟨d, y, .str x, rfl, bd.str, assoc_all (P := fun z x => KDct X.K X.w d z (.str x)) hk e6, k F1 H1 _ s1 c1 h1 (.str x)⟩

/-! ### chains of two comparisons -/
def mChain (f g : D → D → Option Bool) (ma mb mc : MR) : MB := fun ρ => do
  let (r1, ρ1) ← ma ρ
  let (r2, ρ2) ← mb ρ1
  match r1, r2 with
  | .sh (.int i), .sh (.int j) => do
    let k ← f (.int i) (.int j)
    if k = true then (do
      let (r3, ρ3) ← mc ρ2
      let d3 ← deref ρ3 r3
      let k2 ← g (.int j) d3
      some (k2, ρ3))
    else some (false, ρ2)
  | _, _ => none
theorem chain_read {r r' : R2} {f g : D → D → Option Bool} (o : Op2B r f) (o' : Op2B r' g) {σ : L2.St} {H : Hp} {Q : VK} (q : tMB (mChain f g ma mb mc) σ H fun k H' => Q (.bl k) H') : tChain r r' (tM ma) (tM mb) (tM mc) σ H Q := by
  obtain ⟨F, G, b, ρ, hr, z, ρ', e, k⟩ := q
  obtain ⟨⟨r1, ρ1⟩, e1, e⟩ := bind_some e
  obtain ⟨⟨r2, ρ2⟩, e2, e⟩ := bind_some e
  match r1, r2, e1, e2, e with
  | .sh (.int i), .sh (.int j), e1, e2, e =>
    obtain ⟨kk, e3, e⟩ := bind_some e
    refine ⟨F, G, b, ρ, hr, _, ρ1, e1, fun F1 H1 v1 s1 c1 h1 k1 => ?_⟩
    refine ⟨F1, G, b, ρ1, h1, _, ρ2, e2, fun F2 H2 v2 s2 c2 h2 k2 => ?_⟩
    have k1' : Dv F2 v1 (.int i) := Dv.mono s2 k1
    refine o F2 H2 v1 v2 _ _ _ h2.fh (.inl k1') (.inl k2) e3 _ ⟨_, rfl, ?_⟩
    cases kk with
    | false =>
      cases e
      exact k F2 H2 (s1.trans s2) (c1.trans c2) h2
    | true =>
      obtain ⟨⟨r3, ρ3⟩, e4, e⟩ := bind_some e
      obtain ⟨d3, e5, e⟩ := bind_some e
      obtain ⟨k2', e6, e⟩ := bind_some e
      cases e
      refine ⟨F2, G, b, ρ2, h2, r3, _, e4, fun F3 H3 v3 s3 c3 h3 k3 => ?_⟩
      exact o' F3 H3 v2 v3 _ _ _ h3.fh (.inl (Dv.mono s3 k2)) (k3.bd h3 e5) e6 _ (k F3 H3 (s1.trans (s2.trans s3)) (c1.trans (c2.trans c3)) h3)
theorem me_chain {op op' : CmpOp} {f g : D → D → Option Bool} (o : CmpOk X op f) (o' : CmpOk X op' g) (ha : ME X a ma) (hb : ME X b mb) (hc : ME X c mc)
    (hm : lastMarks [op, op'] [b, c] = false := by with_unfolding_all rfl) : ME X (.Compare a [op, op'] [b, c] pos) (mBV (mChain f g ma mb mc)) := by
  obtain ⟨r, h1, h2⟩ := o.ex
  obtain ⟨r', h1', h2'⟩ := o'.ex
  refine ⟨(pe_chain h1 h1' ha.ok hb.ok hc.ok hm).imq fun σ H Q q => chain_read h2 h2' ?_⟩
  obtain ⟨F, G, b, ρ, hr, z, ρ', e, k⟩ := q
  obtain ⟨⟨kk, ρ1⟩, e1, e⟩ := bind_some e
  cases e
  exact ⟨F, G, b, ρ, hr, kk, _, e1, fun F1 H1 s1 c1 h1 => k F1 H1 _ s1 c1 h1 (.bl kk)⟩
theorem mt_chain {op op' : CmpOp} {f g : D → D → Option Bool} (o : CmpOk X op f) (o' : CmpOk X op' g) (ha : ME X a ma) (hb : ME X b mb) (hc : ME X c mc)
    (hm : lastMarks [op, op'] [b, c] = false := by with_unfolding_all rfl) : MT X (.Compare a [op, op'] [b, c] pos) (mChain f g ma mb mc) := by
  obtain ⟨r, h1, h2⟩ := o.ex
  obtain ⟨r', h1', h2'⟩ := o'.ex
  exact ⟨(pt_chain h1 h1' ha.ok hb.ok hc.ok hm).imq fun σ H Q q => chain_read h2 h2' (by
    obtain ⟨F, G, b, ρ, hr, z, ρ', e, k⟩ := q
    exact ⟨F, G, b, ρ, hr, z, _, e, fun F1 H1 s1 c1 h1 => ⟨_, rfl, k F1 H1 s1 c1 h1⟩⟩)⟩

/-! ### xs[::-1] -/
def revSl : D → Option R
  | .list ds => some (.fr ds.reverse)
  | _ => none
theorem me_revL {e : Expr} {k0 : Nat} {p1 p2 p3 : Pos} (he : ME X e m) (hK : X.K = KK.K := by rfl) : ME X (.Subscript e (.Slice none none (some (.UnaryOp .USub (.Constant (.int 1) k0 p1) p2)) p3) pos) (mUn revSl m) := ⟨(pe_revL he.ok).imq fun σ H Q q => by
  obtain ⟨F, G, b, ρ, hr, r', ρ', e, k⟩ := q
  obtain ⟨⟨r1, ρ1⟩, e1, e⟩ := bind_some e
  obtain ⟨d1, e3, e⟩ := bind_some e
  obtain ⟨z, e5, e⟩ := bind_some e
  cases e
  refine ⟨F, G, b, ρ, hr, r1, _, e1, fun F1 H1 v1 s1 c1 h1 k1 => ?_⟩
  have bd := k1.bd h1 e3
  match d1, bd, e5 with
  | .list ds, bd, e5 =>
    cases e5
    obtain ⟨p0, vs, rfl, a0, x0⟩ := bd.list h1.fh
    refine ⟨p0, vs, rfl, .of a0, fun q hq => ?_⟩
    have P : Post F1 H1 (.fr ds.reverse) F1 (upd H1 q (.lst vs.reverse)) (.ref q) := post_fr h1.fh hq x0.rev
    exact k F1 _ _ (s1.trans P.ff) (c1.trans (P.cln h1.gh)) (P.rp h1) (P.rs h1)⟩
end
end Mi
set_option Elab.async false
set_option linter.all false
set_option maxRecDepth 100000
/-! Core10: list(reversed(xs)), xs[i] += e. -/
namespace Mi
open PySem PySem.Spec PyProof.Rows L2
section
variable {prog : Program} {w : World} {A : Around} {E : Value → Shared → Prop} {s : Shared}
/-- the list that list(it) has begun, filled from a reversed list -/
theorem fill_rev {R : Result → Shared → Prop} {S it l : Addr} {items : Array Value} (hh : A.handled = none) (ri : s.heap.IsRevIter it l ((items.size : Int) - 1)) (li : s.heap.IsList l items) (hne : l ≠ it) (hSi : S ≠ it) (hSl : S ≠ l) (hn : items.size ≤ sizeLine)
    (hS : s.heap.get? S = some { cls := .type "list", data := .seq #[] })
    (go : ∀ h' tk acc c', (∀ b o, b ≠ it → b ≠ S → s.heap.get? b = some o → h'.get? b = some o) → h'.get? S = some { cls := .type "list", dict := none, data := .seq acc c', slots := #[] } → ItemsOf (fun i v => items[items.size - 1 - i]? = some v) acc items.size → R (.ok (.ret .none)) { s with heap := h', toks := tk }) :
    wpAny (model prog w) A.in1 (Builtin.«list.__init__» ⟨[.ref S, .ref it], []⟩)
      (fun fin s' => match fin with | .done f => R (.ok f) s' | .again c' => c'.quiet = true ∧ codeAny (model prog w) A c' R s') (fun e s' => R (.error e) s') s := by
  have W := (Walks.listRev (prog := prog) (w := w) (A := A.in1) hh it l hne items).toS
  have hSf : S ∉ [it, l] := by
    rw [List.mem_cons, List.mem_singleton]
    exact not_or.mpr ⟨hSi, hSl⟩
  have same : Builtin.List.listSameRef (.ref S) (.ref it) = false := by simp [Builtin.List.listSameRef, hSi]
  show wpAny _ A.in1 (Builtin.List.listItems (.ref S) >>= fun old => Builtin.List.listUpdate (.ref S) (fun _ => #[]) >>= fun _ => letGo old.toList.reverse >>= fun _ => Builtin.List.listExtendWith (.ref S) (.ref it) .none) _ _ s
  refine wpAny_bind ?_
  unfold Builtin.List.listItems
  refine wpAny_bind (wpAny_seqItems hS rfl (wpAny_pure (wpAny_bind ?_)))
  show wpAny _ A.in1 (updateSeq S (fun _ => #[])) _ _ s
  refine wpAny_updateSeq hS rfl (wpAny_bind (wpAny_letGo ?_))
  have away : ∀ b o, b ≠ S → s.heap.get? b = some o → (s.heap.update S (Obj.mapSeq fun _ => (#[] : Array Value))).get? b = some o :=
    fun b o hb e => (Heap.get?_update_other _ _ (Ne.symm hb)).trans e
  have hS2 := Heap.get?_update_self (Obj.mapSeq (fun _ => (#[] : Array Value))) hS rfl
  have ri2 : (s.heap.update S (Obj.mapSeq fun _ => (#[] : Array Value))).IsRevIter it l ((items.size : Int) - 1) := ri.at fun o e => away _ o (Ne.symm hSi) e
  have li2 : (s.heap.update S (Obj.mapSeq fun _ => (#[] : Array Value))).IsList l items := li.at fun o e => away _ o (Ne.symm hSl) e
  generalize s.heap.update S (Obj.mapSeq fun _ => (#[] : Array Value)) = h2 at away hS2 ri2 li2 ⊢
  have ty : ({ s with heap := h2 } : Shared).TypeIs (.ref it) "list_reverseiterator" := Heap.IsRevIter.typeIs (s := { s with heap := h2 }) ri2
  unfold Builtin.List.listExtendWith
  refine wpAny_bind (wpAny_typeOf ty ?_)
  rw [if_neg (by rw [same]; decide)]
  refine wpAny_bind (wpAny_pyIter_revIter (s := { s with heap := h2 }) ri2 (wpAny_bind (wpAny_holding ?_)))
  unfold Builtin.List.listLengthHint
  refine wpAny_bind (wpAny_specialOf ty RT.nolen_lri ?_)
  show wpAny _ A.in1 (specialOf (Value.ref it) (Str.ofString "__length_hint__") >>= _) _ _ _
  refine wpAny_bind (wpAny_specialOf ty RT.hint_lri ?_)
  generalize hid : ("list_reverseiterator.__length_hint__" : String) = nm
  wp_delta
  rw [show splitId nm = some ("list_reverseiterator", "__length_hint__") from by subst hid; decide +kernel]
  subst hid
  refine wpAny_bind (wpAny_isInstance (b := true) ty (by rw [isSubtype_type]; kernel_rfl) (wpAny_pure ?_))
  rw [if_neg (by decide)]
  have e0 : ((items.size : Nat) : Int) - 1 - ((0 : Nat) : Int) = (items.size : Int) - 1 := by omega
  refine wpAny_pure ⟨plainId_quiet PySem.F.plain_extend_loop _, codeAny_extend_loopS W hn S hSf _ items.size 0 _ _ _ rfl (Nat.zero_le _) ⟨Nat.zero_le _, by rw [e0]; exact ri2, li2⟩ hS2 (ItemsOf.nil _) fun s' acc c' mv hS' ok => ?_⟩
  rw [Moved.eq_with mv]
  refine go s'.heap s'.toks acc c' (fun b o h1 h2 e => mv.heap b o (fun m => ?_) (away b o h2 e)) hS' ok
  rcases List.mem_cons.mp m with z | z
  · exact h2 z
  · exact h1 (List.mem_singleton.mp z)
theorem call_listRev {it l : Addr} {items : Array Value} {Q : Value → Shared → Prop} (hh : A.handled = none) (ri : s.heap.IsRevIter it l ((items.size : Int) - 1)) (li : s.heap.IsList l items) (hne : l ≠ it) (hn : items.size ≤ sizeLine)
    (hQ : ∀ h' tk acc c', (∀ b o, b ≠ it → s.heap.get? b = some o → h'.get? b = some o) → h'.get? s.heap.objs.size = some { cls := .type "list", dict := none, data := .seq acc c', slots := #[] } → ItemsOf (fun i v => items[items.size - 1 - i]? = some v) acc items.size → Q (.ref s.heap.objs.size) { s with heap := h', toks := tk }) :
    wpAny (model prog w) A (call (.type "list") [.ref it]) Q E s := by
  obtain ⟨oi, hoi, _⟩ := id ri
  obtain ⟨ol, hol, _⟩ := id li
  have n1 : s.heap.objs.size ≠ it := Nat.ne_of_gt (Heap.lt_size hoi)
  have n2 : s.heap.objs.size ≠ l := Nat.ne_of_gt (Heap.lt_size hol)
  refine callType_codes (Q₁ := fun obj s₁ => obj = .ref s.heap.objs.size ∧ s₁ = { s with heap := s.heap.push { cls := .type "list", data := .seq #[] } }) PySem.F.called_list (PySem.F.typeCall_list_1 _) PySem.F.entry_list_init (code_list_new _ ⟨rfl, rfl⟩) fun obj s₁ h₁ => ?_
  obtain ⟨rfl, rfl⟩ := h₁
  have hS : (s.heap.push { cls := .type "list", data := .seq #[] }).get? s.heap.objs.size = some { cls := .type "list", data := .seq #[] } := Heap.get?_push_size _ rfl
  refine ⟨⟨_, hS, rfl⟩, PySem.F.args_list_init_2 _ _, fill_rev (A := A.in1) (s := { s with heap := s.heap.push { cls := .type "list", data := .seq #[] } }) hh (ri.at fun o e => Heap.get?_push_of_some _ e) (li.push _) hne n1 n2 hn hS fun h' tk acc c' k hS' ok => ?_⟩
  exact ⟨rfl, hQ h' tk acc c' (fun b o hb e => k b o hb (Nat.ne_of_lt (Heap.lt_size e)) (Heap.get?_push_of_some _ e)) hS' ok⟩
end
section
variable [KK] {X : Cx} {e a b c tg : Expr} {pos p p2 pos2 : Pos} {m ma mb mc : MR} {x y : Str} {te : TE}
def tLstRev (K : Fr0) (te : TE) : TE := fun σ H Q => te σ H fun v H1 => ∃ (a : Addr) (xs : List V), v = .ref a ∧ SqL K H1 a xs ∧ ∀ q, H1 q = none → Q (.ref q) (upd H1 q (.lst xs.reverse))
theorem pe_lstRev (hc : X.calm = true) (hg : Gl X "list") (hm : X.mg "list" = none) (hg2 : Gl X "reversed") (hm2 : X.mg "reversed" = none) (he : PE X e te)
    (hs : starEach [e] X.env = (false, eval e X.env) :: starEach [] X.env)
    (hs2 : starEach [.Call (.Name "reversed" p2) [e] [] pos2] X.env = (false, eval (.Call (.Name "reversed" p2) [e] [] pos2) X.env) :: starEach [] X.env) :
    PE X (.Call (.Name "list" p) [.Call (.Name "reversed" p2) [e] [] pos2] [] pos) (tLstRev X.K te) := by
  refine ⟨fun pins s σ H Q I h => ?_⟩
  refine Call_ (ld_blt I hg hm boot_list (PyProof.Rows.callWith_type1 (args_cons (Call_ (ld_blt I hg2 hm2 PyProof.Rows.boot_reversed (PyProof.Rows.callWith_type1 (args_cons (thn (he.run pins s σ H _ I h) fun u s1 ⟨v, H1, I1, r1, q1⟩ => args_nil ?_) hs) hs rfl))) hs2) hs2 rfl))
  obtain ⟨a, xs, rfl, hq, q⟩ := q1
  obtain rfl : u = Value.ref a := r1
  obtain ⟨its, rv, pl, hz⟩ := I1.list hq
  refine call_reversed_list pl.isList (args_nil ?_)
  obtain ⟨f0, f1, f2, f3, f4, f5⟩ := I1.fpOk (H' := H1) (b := s1.heap.objs.size) (Nat.le_refl _) (I1.hok.fresh (Nat.le_refl _))
  have I2 : Inv X pins σ H1 { s1 with heap := s1.heap.push (revObj a ((its.toArray.size : Int) - 1)) } := I1.kept (t' := s1.toks) fun b o e => Heap.get?_push_of_some _ e
  have li := pl.isList
  obtain ⟨ol, hol, _⟩ := id li
  have hne : a ≠ s1.heap.objs.size := Nat.ne_of_lt (Heap.lt_size hol)
  have hn : its.toArray.size ≤ sizeLine := by rw [List.size_toArray, ← rv.length]; exact hz
  refine call_listRev (s := { s1 with heap := s1.heap.push (revObj a ((its.toArray.size : Int) - 1)) }) (I1.ok.hd hc) ⟨_, Heap.get?_push_size _ rfl, rfl, rfl⟩ (li.push _) hne hn fun h' tk acc c' hk hS hi => ?_
  have fr : H1 (s1.heap.push (revObj a ((its.toArray.size : Int) - 1))).objs.size = none := I2.hok.fresh (Nat.le_refl _)
  refine ⟨.ref (s1.heap.push (revObj a ((its.toArray.size : Int) - 1))).objs.size, upd H1 (s1.heap.push (revObj a ((its.toArray.size : Int) - 1))).objs.size (.lst xs.reverse), ?_, rfl, q _ fr⟩
  refine I2.turnedNew (t' := tk) (ch := [s1.heap.objs.size]) (fun b o hb e => hk b o (fun z => hb (by rw [z]; exact List.mem_singleton_self _)) e) (fun b hb => ?_) (Nat.le_refl _) ?_
  · rw [List.mem_singleton.mp hb]
    exact ⟨f0, f1, f2, f3, f4, f5⟩
  · exact (show ObjOk X.prog X.w _ _ _ (.lst xs.reverse) from ⟨by rw [List.length_reverse]; exact hz, acc.toList, c', RT.vals_rev rv hi, by rw [Array.toArray_toList]; exact hS⟩)
def revLD : D → Option R
  | .list ds => some (.fr ds.reverse)
  | _ => none
theorem me_listRev (hc : X.calm = true) (hg : Gl X "list") (hm : X.mg "list" = none) (hg2 : Gl X "reversed") (hm2 : X.mg "reversed" = none) (he : ME X e m)
    (hs : starEach [e] X.env = (false, eval e X.env) :: starEach [] X.env := by rfl)
    (hs2 : starEach [.Call (.Name "reversed" p2) [e] [] pos2] X.env = (false, eval (.Call (.Name "reversed" p2) [e] [] pos2) X.env) :: starEach [] X.env := by rfl) :
    ME X (.Call (.Name "list" p) [.Call (.Name "reversed" p2) [e] [] pos2] [] pos) (mUn revLD m) := ⟨(pe_lstRev hc hg hm hg2 hm2 he.ok hs hs2).imq fun σ H Q q => by
  obtain ⟨F, G, b, ρ, hr, r', ρ', e, k⟩ := q
  obtain ⟨⟨r1, ρ1⟩, e1, e⟩ := bind_some e
  obtain ⟨d1, e3, e⟩ := bind_some e
  obtain ⟨z, e5, e⟩ := bind_some e
  cases e
  refine ⟨F, G, b, ρ, hr, r1, _, e1, fun F1 H1 v1 s1 c1 h1 k1 => ?_⟩
  have bd := k1.bd h1 e3
  match d1, bd, e5 with
  | .list ds, bd, e5 =>
    cases e5
    obtain ⟨p0, vs, rfl, a0, x0⟩ := bd.list h1.fh
    refine ⟨p0, vs, rfl, .of a0, fun q hq => ?_⟩
    have P : Post F1 H1 (.fr ds.reverse) F1 (upd H1 q (.lst vs.reverse)) (.ref q) := post_fr h1.fh hq x0.rev
    exact k F1 _ _ (s1.trans P.ff) (c1.trans (P.cln h1.gh)) (P.rp h1) (P.rs h1)⟩

/-! ### xs[i] op= e -/
theorem get_list : PGet X (rIxL X.K) := by
  intro pins s σ H x y v u Q I rx ry h
  obtain ⟨p, xs, i, z, rfl, rfl, hq, he, q⟩ := h
  cases rx
  obtain ⟨t, rfl⟩ := ry
  obtain ⟨its, r, pl, hz⟩ := I.list hq
  obtain ⟨j, h1, h2, h3, h4, h5⟩ := atI_get he
  obtain ⟨w, ew, rw'⟩ := r.get h2
  have hl := r.length
  have hn := line63
  have fin : EP X pins σ Q w s := ⟨z, H, I, rw', q⟩
  by_cases h0 : 0 ≤ i
  · have hj : i.toNat = j := by
      rw [seqIndex_of h0 h5] at h1
      exact Option.some.inj h1
    exact wpAny_getItem_list pl.isList h0 (by omega) (by rw [hj]; simpa using ew) fin
  · have hj : (i + (its.toArray.size : Int)).toNat = j := by
      rw [seqIndex_neg (by omega) h4] at h1
      rw [List.size_toArray, ← hl]
      exact Option.some.inj h1
    exact wpAny_getItem_list_neg pl.isList (by omega) (by rw [List.size_toArray] <;> omega) (by omega) (by rw [hj]; simpa using ew) fin
def sAugS (i : Nat) (f : D → D → Option R) (mi mv : MR) : MS' := fun ρ => do
  let _ ← contE ρ i
  let (r, ρ1) ← mi ρ
  match r with
  | .sh (.int z) => do
    let ds0 ← contE ρ1 i
    let d0 ← atI ds0 z
    let (rv, ρ2) ← mv ρ1
    let dv ← deref ρ2 rv
    let k ← f d0 dv
    match k with
    | .sh d => do
      let ds ← contE ρ2 i
      let j ← ixN ds.length z
      some (.nx, putE ρ2 i (ds.set j d))
    | _ => none
  | _ => none
theorem ms_augS {i : Nat} {ei : Expr} {mi mv : MR} {op : Operator} {f : D → D → Option R} {py tpos : Pos} (o : AugOk X op f) (hy : PE X (.Name y py) (tVar i)) (hi : ME X ei mi) (he : ME X e mv)
    (ha : ∀ ov iv new, augStore ei ov iv new = (do holding [new, ov, iv] (setItem ov iv new); release [new, ov, iv] []; pure .next) := by intros; rfl) (hK : X.K = KK.K := by rfl) :
    MSt X (.AugAssign (.Subscript (.Name y py) ei tpos) op e pos) (sAugS i f mi mv) := by
  obtain ⟨r0, hp, hf⟩ := o.ex
  refine ⟨(ps_augS hy hi.ok get_list he.ok hp set_list ha).imq fun D σ H q => ?_⟩
  obtain ⟨F, G, b, ρ, hr, o, ρ', e, k⟩ := q
  obtain ⟨w0, e0, e⟩ := bind_some e
  obtain ⟨⟨r, ρ1⟩, e1, e⟩ := bind_some e
  obtain ⟨_, p0, vs0, es0, a0, _⟩ := cont_ok hr e0
  refine ⟨.ref p0, es0, F, G, b, ρ, hr, r, ρ1, e1, fun F1 H1 v1 s1 c1 h1 k1 => ?_⟩
  match r, k1, e with
  | .sh (.int z), k1, e =>
    cases (show Dv F1 v1 (.int z) from k1)
    obtain ⟨ds0, e2, e⟩ := bind_some e
    obtain ⟨d0, e3, e⟩ := bind_some e
    obtain ⟨⟨rv, ρ2⟩, e4, e⟩ := bind_some e
    obtain ⟨dv, e5, e⟩ := bind_some e
    obtain ⟨k0, e6, e⟩ := bind_some e
    obtain ⟨_, p1, vs1, es1, a1, x1, f1, g1⟩ := cont_ok h1 e2
    rw [es0] at es1
    cases es1
    obtain ⟨v0, ev0, dv0⟩ := at_dvs x1 e3
    refine ⟨p0, vs1, z, v0, rfl, rfl, .of a1, ev0, F1, G, b, ρ1, h1, rv, ρ2, e4, fun F2 H2 v2 s2 c2 h2 k2 => ?_⟩
    refine hf F2 H2 v0 v2 d0 dv k0 h2.fh (.inl (dv0.mono s2)) (k2.bd h2 e5) e6 _ fun F3 H3 v3 P => ?_
    match k0, e, P with
    | .sh d, e, P =>
      obtain ⟨ds, e7, e⟩ := bind_some e
      obtain ⟨j, e8, e⟩ := bind_some e
      cases e
      have h3 := P.rp h2
      obtain ⟨o4, p4, vs4, es4, a4, x4, f4, g4⟩ := cont_ok h3 e7
      rw [es0] at es4
      cases es4
      refine ⟨p0, vs4, z, j, rfl, rfl, a4, by rw [x4.len]; exact e8, ?_⟩
      exact k F3 _ σ (s1.trans (s2.trans P.ff)) (c1.trans (c2.trans (P.cln h2.gh))) (h3.put1 o4 es0 (x4.set j (show Dv F3 v3 d from P.res)))
end
end Mi
set_option Elab.async false
set_option linter.all false
set_option maxRecDepth 100000
/-! Core11: set comprehensions by a kit of sets, sorted({..}). -/
namespace Mi
open PySem PySem.Spec PyProof.Rows L2
/-- what a kind of set must give: its states, the empty one, how an item is put in -/
structure SetKit (P : Program) (w : World) (κ : Type) where
  obj : Addr → κ → HO
  k0 : κ
  step : κ → Hp → V → κ → Prop
  fresh : ∀ (H : Hp) (h : Heap) (D : Addr), h.get? D = some { cls := .type "set", dict := none, data := .set #[] 0 (.fresh 0 0 (!w.params.followText "set-order")) } → ObjOk P w H h D (obj D k0)
  add : ∀ (X : Cx) (pins : List (Addr × Obj)) (σ : L2.St) (H : Hp) (s : Shared) (E : Value → Shared → Prop) (D : Addr) (k k' : κ) (y : V) (v : Value) (Q : Value → Shared → Prop), X.prog = P → X.w = w → Inv X pins σ H s → H D = some (obj D k) → RelV y v → step k H y k' →
    (∀ s', Inv X pins σ (upd H D (obj D k')) s' → Q .none s') → wpAny (model P w) X.A (call (.builtin "set.add") [.ref D, v]) Q E s
section
variable {X : Cx} {κ : Type}
/-- {elt for tg in iter if ..}: D the new set -/
def tScK (K : SetKit X.prog X.w κ) (wi : TI) (g : TG) (tt : TT) (te : TE) (vs : List Nat) : TE := fun σ H Q => wi σ H fun J H1 => ∀ D, H1 D = none → ∃ W : Nat → Nat → Hp → Prop, (∃ m, W 0 m (upd H1 D (K.obj D K.k0))) ∧ ∀ i m H2, W i m H2 →
  ((J.stop i H2 ∧ Q (.ref D) H2) ∨ (J.go i H2 ∧ ∃ Nx : Hp → Prop, (∀ H', Nx H' → ∃ m', m' < m ∧ W (i + 1) m' H') ∧
    ∀ x H', J.yld i H2 x H' → g x (wipe σ vs) H' fun σ2 H3 => wipe σ2 vs = wipe σ vs ∧ tt σ2 H3 fun b H4 => if b = true then te σ2 H4 fun y H5 => ∃ (k k' : κ), H5 D = some (K.obj D k) ∧ K.step k H5 y k' ∧ Nx (upd H5 D (K.obj D k')) else Nx H4))
theorem pe_scK (K : SetKit X.prog X.w κ) {elt tg iter : Expr} {ifs : List Expr} {scope : Scope} {own : List (PySem.Str × Nat)} {pos : Pos} {wi : TI} {g : TG} {tt : TT} {te : TE} (hc : X.calm = true) (hN : X.N.Nodup) (hi : PI X tg iter wi) (ok : BlkOk X.N X.env.scope scope own)
    (hg : ∀ (s : Shared) (H : Hp) (C : Addr) (cl : List (PySem.Str × Addr)) (fp : List Addr), PG (X.blk s H scope (compEnvC scope cl C X.env) fp) tg g)
    (ht : ∀ (s : Shared) (H : Hp) (C : Addr) (cl : List (PySem.Str × Addr)) (fp : List Addr), PTs (X.blk s H scope (compEnvC scope cl C X.env) fp) ifs tt)
    (he : ∀ (s : Shared) (H : Hp) (C : Addr) (cl : List (PySem.Str × Addr)) (fp : List Addr), PE (X.blk s H scope (compEnvC scope cl C X.env) fp) elt te) (hs : ∀ x, foldedSetIterable iter X.env x = pure x := by intro _; rfl) :
    PE X (.SetComp elt [⟨tg, iter, ifs, 0⟩] scope pos) (tScK K wi g tt te (own.map (·.2))) := by
  refine ⟨fun pins s σ H Q I h => ?_⟩
  rw [PpSet.eval_SetComp]
  have free : ∀ y ∈ scope.names, y.2 = .free → ∃ c, X.env.cells.lookup y.1 = some c := fun y hy e => (ok.free y hy e).elim (fun k => I.ok.has _ (.inl k)) (fun k => I.ok.has _ (.inr k))
  refine wpAny_comprehension_free (use := none) rfl hs (closure_ok free) ok.kind (fun y hy e => by rw [ok.uniq y hy, e]) (thn (hi.run pins s σ H _ I h) fun xv s1 w1 => thn w1 fun itv s2 w2 => ?_)
  obtain ⟨it, fp, tn, J, H2, rfl, I2, T, st2, f2, q⟩ := w2
  refine PpSet.newSet_ok (newEnv_comp ?_)
  generalize hD : s2.heap.objs.size = D
  obtain ⟨W, ⟨m0, w0⟩, turn⟩ := q D (I2.hok.fresh (Nat.le_of_eq hD))
  have at2 : ∀ b ∈ fp, b < s2.heap.objs.size := fun b hb => let ⟨o, e, _⟩ := T.obj _ _ st2 b hb; Heap.lt_size e
  -- the new set stands
  generalize hs3 : ({ s2 with heap := s2.heap.push { cls := .type "set", dict := none, data := .set #[] 0 (.fresh 0 0 (!X.w.params.followText "set-order")) } } : Shared) = s3
  have heap3 : s3.heap = s2.heap.push { cls := .type "set", dict := none, data := .set #[] 0 (.fresh 0 0 (!X.w.params.followText "set-order")) } := by subst hs3; rfl
  have I3 : Inv X pins σ (upd H2 D (K.obj D K.k0)) s3 := by
    subst hs3
    exact I2.laid (t' := s2.toks) (fun b o e => Heap.get?_push_of_some _ e) (Nat.le_of_eq hD) (K.fresh _ _ _ (by rw [← hD]; exact Heap.get?_push_size _ rfl))
  have fp3 : ∀ b ∈ fp, FpOk X pins (upd H2 D (K.obj D K.k0)) b ∧ b < s3.heap.objs.size := fun b hb => by
    have lt := at2 b hb
    have ne : b ≠ D := by rw [← hD]; exact Nat.ne_of_lt lt
    exact ⟨⟨by rw [upd_ne ne]; exact (f2 b hb).1, (f2 b hb).2⟩, by rw [heap3, Heap.size_push]; exact Nat.lt_succ_of_lt lt⟩
  have st3 : tn 0 s3.heap := T.keep _ _ _ st2 fun b _ o e => by rw [heap3]; exact Heap.get?_push_of_some _ e
  have I4 := block_start I3 ok hN fp3
  have pg := hg s3 (upd H2 D (K.obj D K.k0)) s3.heap.objs.size (cellsFrom (s3.heap.objs.size + 1) scope.names (cloFrom X.env.cells scope.names [])) fp
  have pt := ht s3 (upd H2 D (K.obj D K.k0)) s3.heap.objs.size (cellsFrom (s3.heap.objs.size + 1) scope.names (cloFrom X.env.cells scope.names [])) fp
  have pe := he s3 (upd H2 D (K.obj D K.k0)) s3.heap.objs.size (cellsFrom (s3.heap.objs.size + 1) scope.names (cloFrom X.env.cells scope.names [])) fp
  show codeAny (model X.prog X.w) X.A (.compStart (.SetComp elt [⟨tg, iter, ifs, 0⟩] scope pos) 0 (.ref it) (.ref D) (compEnvC scope (cellsFrom (s3.heap.objs.size + 1) scope.names (cloFrom X.env.cells scope.names [])) s3.heap.objs.size X.env)) (compPost (model X.prog X.w) X.A X.xe none _ (.ref D) s3.heap.objs.size) { s3 with heap := pushCells (s3.heap.push { cls := .type "dict", data := .dict #[] }) scope.names }
  have no3 : ∀ b ∈ fp, (upd H2 D (K.obj D K.k0)) b = none := fun b hb => (fp3 b hb).1.1
  generalize hce : compEnvC scope (cellsFrom (s3.heap.objs.size + 1) scope.names (cloFrom X.env.cells scope.names [])) s3.heap.objs.size X.env = ce at I4 pg pt pe ⊢
  have locC : ce.locals = s3.heap.objs.size := by rw [← hce]; rfl
  generalize hH3 : upd H2 D (K.obj D K.k0) = H3 at I3 I4 pg pt pe w0 no3 fp3
  generalize hs4 : ({ s3 with heap := pushCells (s3.heap.push { cls := .type "dict", data := .dict #[] }) scope.names } : Shared) = s4 at I4 ⊢
  have st4 : tn 0 s4.heap := T.keep _ _ _ st3 fun b _ o e => by subst hs4; exact pushCells_keeps _ _ _ _ (Heap.get?_push_of_some _ e)
  have okFp : ∀ {σ' : L2.St} {H' : Hp} {s' : Shared}, Inv (X.blk s3 H3 scope ce fp) [] σ' H' s' → (∀ b ∈ fp, H' b = none) → ∀ b ∈ fp, FpOk (X.blk s3 H3 scope ce fp) [] H' b := fun {σ' H' s'} I' no b hb =>
    ⟨no b hb, (I'.ok.exf b hb).1, I'.ok.exfs b hb, .inl hb, fun x c e => (I'.ok.exf b hb).2 x c e, fun p hp => absurd (show p ∈ ([] : List (Addr × Obj)) ++ [] from hp) (by simp)⟩
  refine PpSet.codeAny_compStart_set ?run (T.self X.A 0 _ _ _ st4 ?run)
  refine PpSet.compLoopS_any (fun n s' => ∃ i H', Inv (X.blk s3 H3 scope ce fp) [] (wipe σ (own.map (·.2))) H' s' ∧ tn i s'.heap ∧ (∀ b ∈ fp, H' b = none) ∧ W i n H') ?_ m0 ⟨0, H3, I4, st4, no3, w0⟩
  rintro n s5 ⟨i, H5, I5, st5, no5, w5⟩
  rcases turn i n H5 w5 with ⟨stop, fin⟩ | ⟨go, Nx, hNx, each⟩
  · -- the end: back in the def
    refine thnF (T.done (X.blk s3 H3 scope ce fp) rfl rfl rfl hc i [] s5 _ H5 (fun _ _ => False) I5 (okFp I5 no5) st5 stop) fun r s6 ⟨hr, I6⟩ => ?_
    subst hr
    have I7 : Inv X pins σ H5 s6 := I3.call' (ch := fp) I6.os I6.base I6.hok I6.bare fun b hb => let z := (fp3 b hb).1.2; ⟨z.2.2.1, z.1, z.2.2.2.1, z.2.2.2.2⟩
    have noC : H5 s3.heap.objs.size = none := by rw [← locC]; exact I6.free
    obtain ⟨m, hn, _⟩ := I6.loc
    have hn' : s6.heap.Ns s3.heap.objs.size m := by rw [← locC]; exact hn
    obtain ⟨f0, f1, f2', f3, f4, f5⟩ := I3.fpOk (Nat.le_refl _) noC
    exact ⟨m, hn', fun h'' sb => ⟨.ref D, H5, I7.turned (t' := s6.toks) (fun b o hb e => (sb.2 b hb).trans e) f0 f1 f3 f4 f5, rfl, fin⟩⟩
  · refine thnF (T.item (X.blk s3 H3 scope ce fp) rfl rfl rfl hc i [] s5 _ H5 (fun _ _ => False) I5 (okFp I5 no5) st5 go) fun r s6 ⟨u, hr, w6⟩ => ?_
    subst hr
    refine thnF w6 fun _ s7 ⟨x, H7, I7, r7, y7, st7, no7⟩ => ?_
    have I7' := I7.pinned (okFp I7 no7) (T.obj _ _ st7)
    refine thnF (pg.run _ s7 _ H7 x u _ I7' r7 (each x H7 y7)) fun _ s8 ⟨σ8, H8, I8, wp8, q8⟩ => ?_
    refine thnF (pt.run _ s8 σ8 H8 _ I8 q8) fun b s9 ⟨H9, I9, q9⟩ => ?_
    have back : ∀ {s' : Shared} {H' : Hp}, Inv (X.blk s3 H3 scope ce fp) ([] ++ pinsAt fp s7.heap) σ8 H' s' → Nx H' → ∃ m, m < n ∧ ∃ i H', Inv (X.blk s3 H3 scope ce fp) [] (wipe σ (own.map (·.2))) H' s' ∧ tn i s'.heap ∧ (∀ b ∈ fp, H' b = none) ∧ W i m H' := by
      intro s' H' I' nx
      obtain ⟨m', lt, w'⟩ := hNx H' nx
      have pin : ∀ b ∈ fp, ∀ o, s7.heap.get? b = some o → s'.heap.get? b = some o ∧ H' b = none := fun b hb o e => by
        have z := I'.pin (b, o) (List.mem_append_right _ (List.mem_append_right _ (mem_pinsAt hb e)))
        exact ⟨z.1, z.2.1⟩
      have len : (wipe σ (own.map (·.2))).length = σ8.length := by rw [← wp8, wipe_length]
      refine ⟨m', lt, i + 1, H', (I'.unpinned (pins := [])).weak len (fun j v e => by rw [← wp8] at e; exact (wipe_some e).1), T.keep _ _ _ st7 fun b hb o e => (pin b hb o e).1, fun b hb => ?_, w'⟩
      obtain ⟨o, e, _⟩ := T.obj _ _ st7 b hb
      exact (pin b hb o e).2
    cases b with
    | false =>
      simp only [Bool.false_eq_true, if_false] at q9 ⊢
      exact back I9 q9
    | true =>
      simp only [if_true] at q9 ⊢
      refine thnF (pe.run _ s9 σ8 H9 _ I9 q9) fun z s10 ⟨yv, H10, I10, r10, k, k', hD10, hst, nx⟩ => ?_
      exact K.add (X.blk s3 H3 scope ce fp) _ _ _ _ _ _ _ _ _ _ _ rfl rfl I10 hD10 r10 hst fun s11 I11 => back I11 nx
end
/-! ### sets of whole numbers -/
def intKit (P : Program) (w : World) : SetKit P w ((Int → Bool) × Nat) where
  obj := fun D k => SetO w D k.1 k.2
  k0 := (fun _ => false, 0)
  step := fun k _ y k' => ∃ i, y = .int i ∧ k.2 + 1 < scanBound ∧ k' = (fun j => k.1 j || decide (j = i), if k.1 i = true then k.2 else k.2 + 1)
  fresh := fun H h D e => setO_new ⟨_, #[], 0, _, e, ⟨rfl, rfl, rfl⟩, rfl, (fun e he => by simp at he), (by simp), (fun k => by simp), (by decide), (by rfl), rfl, List.Pairwise.nil, by
    show _ ∨ (!w.params.followText "set-order") = true
    cases w.params.followText "set-order" <;> simp⟩
  add := fun X pins σ H s E D k k' y v Q hp hw I hD r st go => by
    subst hp
    subst hw
    obtain ⟨i, rfl, room, rfl⟩ := st
    obtain ⟨t, rfl⟩ := r
    refine setR_add (setO_get I hD) room fun h' sb new => ?_
    obtain ⟨o, ho⟩ : ∃ o, h'.get? D = some o := let ⟨o, _, _, _, ho, _⟩ := new; ⟨o, ho⟩
    exact go _ (I.write (e := D) (t' := s.toks + 1) (by rw [hD]; trivial) (.inl rfl) (fun b u hb hu => (sb.2 b hb).trans hu) ⟨o, ho⟩ (setO_new new))
/-! ### sorted({whole numbers}) -/
def ddI (ns : List Int) : List Int := ns.foldl (fun a k => if k ∈ a then a else a ++ [k]) []
theorem ddI_snoc (ns : List Int) (k : Int) : ddI (ns ++ [k]) = if k ∈ ddI ns then ddI ns else ddI ns ++ [k] := by
  unfold ddI
  rw [List.foldl_append]
  rfl
def insI (k : Int) : List Int → List Int
  | [] => [k]
  | x :: r => if k ≤ x then k :: x :: r else x :: insI k r
def sortI : List Int → List Int
  | [] => []
  | x :: r => insI x (sortI r)
def isortI (ns : List Int) : List Int := sortI ns
theorem insI_mem {k z : Int} : ∀ {l : List Int}, z ∈ insI k l ↔ z = k ∨ z ∈ l
  | [] => by simp [insI]
  | x :: r => by
    unfold insI
    split
    · simp
    · rw [List.mem_cons, insI_mem, List.mem_cons]
      constructor
      · rintro (h | h | h)
        · exact .inr (.inl h)
        · exact .inl h
        · exact .inr (.inr h)
      · rintro (h | h | h)
        · exact .inr (.inl h)
        · exact .inl h
        · exact .inr (.inr h)
theorem sortI_mem {z : Int} : ∀ {l : List Int}, z ∈ sortI l ↔ z ∈ l
  | [] => Iff.rfl
  | x :: r => by
    unfold sortI
    rw [insI_mem, sortI_mem, List.mem_cons]
theorem insI_lt {k : Int} : ∀ {l : List Int}, l.Pairwise (· < ·) → k ∉ l → (insI k l).Pairwise (· < ·)
  | [], _, _ => List.pairwise_singleton _ _
  | x :: r, h, hk => by
    have h1 : k ≠ x := fun e => hk (by rw [e]; exact List.mem_cons_self)
    have h2 : k ∉ r := fun e => hk (List.mem_cons_of_mem _ e)
    obtain ⟨h3, h4⟩ := List.pairwise_cons.mp h
    unfold insI
    split
    · refine List.pairwise_cons.mpr ⟨fun z hz => ?_, h⟩
      rcases List.mem_cons.mp hz with rfl | hz
      · omega
      · have := h3 z hz; omega
    · refine List.pairwise_cons.mpr ⟨fun z hz => ?_, insI_lt h4 h2⟩
      rcases insI_mem.mp hz with rfl | hz
      · omega
      · exact h3 z hz
theorem sortI_lt : ∀ {l : List Int}, l.Nodup → (sortI l).Pairwise (· < ·)
  | [], _ => .nil
  | x :: r, h => by
    obtain ⟨h1, h2⟩ := List.nodup_cons.mp h
    exact insI_lt (sortI_lt h2) fun e => h1 (sortI_mem.mp e)
theorem ddI_ok : ∀ (ns : List Int), (ddI ns).Nodup ∧ ∀ k, k ∈ ddI ns ↔ k ∈ ns := by
  have key : ∀ (ns a : List Int), a.Nodup → (ns.foldl (fun a k => if k ∈ a then a else a ++ [k]) a).Nodup ∧ ∀ k, k ∈ ns.foldl (fun a k => if k ∈ a then a else a ++ [k]) a ↔ k ∈ a ∨ k ∈ ns := by
    intro ns
    induction ns with
    | nil => intro a h; exact ⟨h, fun k => by simp⟩
    | cons x r ih =>
      intro a h
      rw [List.foldl_cons]
      by_cases hx : x ∈ a
      · rw [if_pos hx]
        obtain ⟨i1, i2⟩ := ih a h
        refine ⟨i1, fun k => ?_⟩
        rw [i2, List.mem_cons]
        constructor
        · rintro (h | h)
          · exact .inl h
          · exact .inr (.inr h)
        · rintro (h | h | h)
          · exact .inl h
          · exact .inl (h ▸ hx)
          · exact .inr h
      · rw [if_neg hx]
        obtain ⟨i1, i2⟩ := ih (a ++ [x]) (List.nodup_append.mpr ⟨h, by simp, fun y hy z hz => by
          have : z = x := by simpa using hz
          rw [this]
          intro e
          exact hx (e ▸ hy)⟩)
        refine ⟨i1, fun k => ?_⟩
        rw [i2]
        simp [or_assoc]
  intro ns
  obtain ⟨h1, h2⟩ := key ns [] List.nodup_nil
  exact ⟨h1, fun k => by rw [show ddI ns = ns.foldl (fun a k => if k ∈ a then a else a ++ [k]) [] from rfl, h2]; simp⟩
/-- rising lists with the same members are the same -/
theorem rising_unique : ∀ {a b : List Int}, a.Pairwise (· < ·) → b.Pairwise (· < ·) → (∀ k, k ∈ a ↔ k ∈ b) → a = b
  | [], [], _, _, _ => rfl
  | [], y :: b, _, _, h => absurd ((h y).mpr List.mem_cons_self) (by simp)
  | x :: a, [], _, _, h => absurd ((h x).mp List.mem_cons_self) (by simp)
  | x :: a, y :: b, ha, hb, h => by
    obtain ⟨a1, a2⟩ := List.pairwise_cons.mp ha
    obtain ⟨b1, b2⟩ := List.pairwise_cons.mp hb
    have exy : x = y := by
      rcases List.mem_cons.mp ((h x).mp List.mem_cons_self) with e | e
      · exact e
      · rcases List.mem_cons.mp ((h y).mpr List.mem_cons_self) with e2 | e2
        · exact e2.symm
        · have := b1 x e
          have := a1 y e2
          omega
    subst exy
    rw [rising_unique a2 b2 fun k => ?_]
    constructor
    · intro hk
      rcases List.mem_cons.mp ((h k).mp (List.mem_cons_of_mem _ hk)) with e | e
      · have := a1 k hk; omega
      · exact e
    · intro hk
      rcases List.mem_cons.mp ((h k).mpr (List.mem_cons_of_mem _ hk)) with e | e
      · have := b1 k hk; omega
      · exact e
theorem lcGo_pre [KK] {g : MG} {t : MB} {el : MR} {vs : List Nat} : ∀ {ds : List D} {ρ ρ' : En} {acc accE : List D}, lcGo g t el vs ds ρ acc = some (accE, ρ') → ∃ tl, accE = acc ++ tl
  | [], ρ, ρ', acc, accE, e => by
    cases e
    exact ⟨[], by simp⟩
  | d :: ds, ρ, ρ', acc, accE, e => by
    obtain ⟨ρa, _, e⟩ := bind_some e
    obtain ⟨⟨kb, ρb⟩, _, e⟩ := bind_some e
    cases kb with
    | false => exact lcGo_pre (show lcGo g t el vs ds (backE ρ ρb vs) acc = some (accE, ρ') from e)
    | true =>
      obtain ⟨⟨y, ρc⟩, _, e⟩ := bind_some e
      obtain ⟨_, e⟩ := ite_some' e
      obtain ⟨tl, h⟩ := lcGo_pre e
      exact ⟨y :: tl, by rw [h, List.append_assoc]; rfl⟩
def setFin (acc : List D) : Option R := (intsD acc).bind fun ns => if ns.length ≤ 1000 ∧ (ddI ns).length < 64 then some (.fr ((sortI (ddI ns)).map .int)) else none
def mSortSet (it : MI) (g : MG) (t : MB) (el : MR) (vs : List Nat) : MR := fun ρ => do
  let (ds, ρ1) ← it ρ
  if okW ρ1 vs = true then do
    let (acc, ρ2) ← lcGo g t el vs ds ρ1 []
    let r ← setFin acc
    some (r, ρ2)
  else none
section
variable [KK] {X : Cx} {elt tg iter : Expr} {ifs : List Expr} {scope : Scope} {own : List (PySem.Str × Nat)} {pos p : Pos} {it : MI} {g : MG} {t : MB} {el : MR}
def kI (ns : List Int) : (Int → Bool) × Nat := (fun j => decide (j ∈ ddI ns), (ddI ns).length)
theorem kI_snoc (ns : List Int) (i : Int) : kI (ns ++ [i]) = (fun j => (kI ns).1 j || decide (j = i), if (kI ns).1 i = true then (kI ns).2 else (kI ns).2 + 1) := by
  unfold kI
  rw [ddI_snoc]
  by_cases h : i ∈ ddI ns
  · rw [if_pos h]
    refine Prod.ext (funext fun j => ?_) (by simp [h])
    by_cases hj : j = i
    · subst hj; simp [h]
    · simp [hj]
  · rw [if_neg h]
    refine Prod.ext (funext fun j => ?_) (by simp [h])
    simp
theorem ddI_le (ns : List Int) : (ddI ns).length ≤ ns.length := by
  have key : ∀ (ns a : List Int), (ns.foldl (fun a k => if k ∈ a then a else a ++ [k]) a).length ≤ a.length + ns.length := by
    intro ns
    induction ns with
    | nil => intro a; simp
    | cons x r ih =>
      intro a
      rw [List.foldl_cons, List.length_cons]
      have := ih (if x ∈ a then a else a ++ [x])
      split at this
      · rename_i h
        rw [if_pos h]
        omega
      · rename_i h
        rw [if_neg h]
        rw [List.length_append, List.length_singleton] at this
        omega
  have := key ns []
  rw [List.length_nil, Nat.zero_add] at this
  exact this
/-- sorted({elt for ..}), whole numbers: what the layer asks, from the reading by plain functions -/
theorem ss_read {K : Fr0} {P : Program} {w : World} {ws vs : List Nat} (hws : ∀ i ∈ ws, i ∈ vs) {σ : L2.St} {H : Hp} {Q : VK} (q : tM (mSortSet it g t el vs) σ H Q) :
    (fun σ H (Q : VK) => tMI it σ H fun J H1 => ∀ D, H1 D = none → ∃ W : Nat → Nat → Hp → Prop, (∃ m, W 0 m (upd H1 D ((intKit P w).obj D (intKit P w).k0))) ∧ ∀ i m H2, W i m H2 →
      ((J.stop i H2 ∧ Q (.ref D) H2) ∨ (J.go i H2 ∧ ∃ Nx : Hp → Prop, (∀ H', Nx H' → ∃ m', m' < m ∧ W (i + 1) m' H') ∧
        ∀ x H', J.yld i H2 x H' → tMG g ws x (wipe σ vs) H' fun σ2 H3 => wipe σ2 vs = wipe σ vs ∧ tMB t σ2 H3 fun b H4 => if b = true then tM el σ2 H4 fun y H5 => ∃ (k k' : (Int → Bool) × Nat), H5 D = some ((intKit P w).obj D k) ∧ (intKit P w).step k H5 y k' ∧ Nx (upd H5 D ((intKit P w).obj D k')) else Nx H4))) σ H
      (fun v H1 => rSortedSet w [v] H1 Q) := by
  obtain ⟨F, G, b, ρ, hr, r, ρ', e, k⟩ := q
  obtain ⟨⟨ds, ρ1⟩, e1, e⟩ := bind_some e
  obtain ⟨hok, e⟩ := ite_some' e
  obtain ⟨⟨accE, ρ2⟩, e2, e⟩ := bind_some e
  obtain ⟨rr, e3, e⟩ := bind_some e
  cases e
  obtain ⟨nsE, e4, e5⟩ := bind_some (show (do let ns ← intsD accE; if ns.length ≤ 1000 ∧ (ddI ns).length < 64 then some (R.fr ((sortI (ddI ns)).map .int)) else none) = some r from e3)
  obtain ⟨⟨small, few⟩, e6⟩ := ite_some e5
  subst e6
  have hAcc := intsD_eq e4
  refine ⟨F, G, b, ρ, hr, ds, ρ1, e1, fun F1 H1 J s1 c1 h1 wk Dl hD => ?_⟩
  have gD : G Dl = none := h1.gh.free hD
  have fD : F1 Dl = none := h1.fh.free hD
  refine ⟨fun i m Hc => i ≤ ds.length ∧ m = ds.length - i ∧ ∃ (F2 : Hp) (ρi : En) (ns : List Int), Same F1 F2 ∧ Cln F1 G F2 ∧ Rp F2 G Hc b σ ρi ∧ Hc Dl = some ((intKit P w).obj Dl (kI ns)) ∧ F2 Dl = none ∧ okW ρi vs = true ∧ lcGo g t el vs (ds.drop i) ρi (ns.map .int) = some (accE, ρ'),
    ⟨ds.length, Nat.zero_le _, rfl, F1, ρ1, [], .refl _, .refl _ _, ?_, ?_, fD, hok, e2⟩, ?_⟩
  · exact h1.grow (.refl _) (same_upd hD) (h1.fh.trans (same_upd hD)) fun i p o q => (h1.own_some o q).elim fun _ z => z.2.1
  · rw [upd_same]
    rfl
  rintro i m Hc ⟨hi, rfl, F2, ρi, ns, s2, c2, h2, aD, fD2, okI, eL⟩
  by_cases hlt : i < ds.length
  · have hdrop : ds.drop i = ds[i] :: ds.drop (i + 1) := List.drop_eq_getElem_cons hlt
    rw [hdrop] at eL
    obtain ⟨ρa, ea, eL⟩ := bind_some eL
    obtain ⟨⟨kb, ρb⟩, eb, eL⟩ := bind_some eL
    refine .inr ⟨wk.go i Hc hlt (s2.trans h2.fh), fun H' => ∃ (F5 : Hp) (ρ5 : En) (ns5 : List Int), Same F1 F5 ∧ Cln F1 G F5 ∧ Rp F5 G H' b σ ρ5 ∧ H' Dl = some ((intKit P w).obj Dl (kI ns5)) ∧ F5 Dl = none ∧ okW ρ5 vs = true ∧ lcGo g t el vs (ds.drop (i + 1)) ρ5 (ns5.map .int) = some (accE, ρ'),
      fun H' z => ⟨ds.length - (i + 1), by omega, by omega, rfl, z⟩, fun x H' y => ?_⟩
    obtain ⟨F3, d, ed, Pp⟩ := wk.yld i F2 Hc x H' hlt s2 h2.fh y
    have edd : ds[i] = d := by
      rw [List.getElem?_eq_getElem hlt] at ed
      exact Option.some.inj ed
    rw [← edd] at Pp
    -- a guard that also holds the set
    have gu : Same (upd G Dl ((intKit P w).obj Dl (kI ns))) H' := fun a o q => by
      by_cases z : a = Dl
      · subst z
        rw [upd_same] at q
        rw [← q]
        exact Pp.hh _ _ aD
      · rw [upd_ne z] at q
        exact Pp.hh _ _ (h2.gh _ _ q)
    have h3 : Rp F3 G H' b σ ρi := Pp.rp h2
    have c3 : Cln F2 G F3 := Pp.cln h2.gh
    have noD : ∀ j p, OwnAt ρi j → σ[j]? = some (some (.ref p)) → p ≠ Dl := fun j p o q z => by
      rcases h2.own_kind o q with ⟨vs0, a0⟩ | ⟨vs0, a0⟩
      · rw [z, aD] at a0
        cases a0
      · rw [z, aD] at a0
        cases a0
    have more : ∀ j p, OwnAt ρi j → σ[j]? = some (some (.ref p)) → (upd G Dl ((intKit P w).obj Dl (kI ns))) p = none := fun j p o q => by
      rw [upd_ne (noD j p o q)]
      exact (h3.own_some o q).elim fun _ z => z.2.2
    have h3g : Rp F3 (upd G Dl ((intKit P w).obj Dl (kI ns))) H' b (wipe σ vs) (wipeE ρi vs) := (h3.more gu (h3.lg.trans (same_upd gD)) more).wiped
    have fD3 : F3 Dl = none := by
      cases z : F3 Dl with
      | none => rfl
      | some o =>
        rcases Pp.new Dl (by rw [z]; exact fun x => nomatch x) with w | w
        · exact absurd fD2 w
        · rw [aD] at w; cases w
    refine ⟨F3, _, b, _, _, h3g, (show Dv F3 x ds[i] from Pp.res), ρa, ea, fun σ2 h4 w4 => ⟨(w4 vs hws).trans wipe_wipe, ?_⟩⟩
    have w4' := (w4 vs hws).trans wipe_wipe
    refine ⟨F3, _, b, ρa, h4, kb, ρb, eb, fun F5 H5 s5 c5 h5 => ?_⟩
    have lenb : ∀ {ρz : En} {Fz Hz : Hp}, Rp Fz (upd G Dl ((intKit P w).obj Dl (kI ns))) Hz b σ2 ρz → ρz.length = ρi.length := fun {ρz Fz Hz} hz => by
      have l2 := congrArg List.length w4'
      rw [wipe_length, wipe_length] at l2
      rw [hz.len, l2, h3.len]
    have fin : ∀ {ρz : En} {Fz Hz : Hp}, Same F3 Fz → Cln F3 (upd G Dl ((intKit P w).obj Dl (kI ns))) Fz → Rp Fz (upd G Dl ((intKit P w).obj Dl (kI ns))) Hz b σ2 ρz →
        Rp Fz G Hz b σ (backE ρi ρz vs) ∧ Hz Dl = some ((intKit P w).obj Dl (kI ns)) ∧ Fz Dl = none ∧ okW (backE ρi ρz vs) vs = true := fun {ρz Fz Hz} sz cz hz => by
      refine ⟨h3.backed sz (hz.less (same_upd gD) h3.lg) w4' okI, hz.gh _ _ upd_same, ?_, okW_back (lenb hz) okI⟩
      cases z : Fz Dl with
      | none => rfl
      | some o => exact absurd fD3 (cz Dl (by rw [upd_same]; exact fun x => nomatch x) (by rw [z]; exact fun x => nomatch x))
    cases kb with
    | false =>
      refine iteF ?_
      obtain ⟨f1, f2, f3, f5⟩ := fin s5 c5 h5
      exact ⟨F5, _, ns, s2.trans (Pp.ff.trans s5), c2.trans (c3.trans (c5.less (same_upd gD))), f1, f2, f3, f5, eL⟩
    | true =>
      refine iteT ?_
      obtain ⟨⟨y', ρ6⟩, e6, eL⟩ := bind_some eL
      obtain ⟨hlen, eL⟩ := ite_some' eL
      obtain ⟨⟨r6, ρ7⟩, e7, e6⟩ := bind_some e6
      -- the item is a number
      obtain ⟨tl, hpre⟩ := lcGo_pre eL
      have hy : ∃ z : Int, y' = .int z := by
        have hm : y' ∈ nsE.map PyData.int := by
          rw [← hAcc, hpre]
          exact List.mem_append_left _ (List.mem_append_right _ (List.mem_singleton_self _))
        obtain ⟨z, _, hz⟩ := List.mem_map.mp hm
        exact ⟨z, hz.symm⟩
      obtain ⟨z, rfl⟩ := hy
      have hn : ns.length + 1 ≤ nsE.length := by
        have h := congrArg List.length (hAcc.symm.trans hpre)
        rw [List.length_map, List.length_append, List.length_append, List.length_map, List.length_singleton] at h
        omega
      refine ⟨F5, _, b, ρb, h5, r6, ρ7, e7, fun F7 H7 v7 s7 c7 h7 k7 => ?_⟩
      obtain ⟨F8, s8, c8, h8, dv8⟩ := cap_ok h7 k7 e6
      cases (show Dv F8 v7 (.int z) from dv8)
      have cc := c5.trans (c7.trans c8)
      obtain ⟨f1, f2, f3, f5⟩ := fin (s5.trans (s7.trans s8)) cc h8
      have hle := ddI_le ns
      refine ⟨kI ns, kI (ns ++ [z]), f2, ⟨z, rfl, by show (ddI ns).length + 1 < 4096; omega, kI_snoc ns z⟩, F8, _, ns ++ [z], s2.trans (Pp.ff.trans (s5.trans (s7.trans s8))), c2.trans (c3.trans (cc.less (same_upd gD))), ?_, upd_same, f3, f5, by rw [List.map_append]; exact eL⟩
      have away : ∀ j p, OwnAt (backE ρi ρ6 vs) j → σ[j]? = some (some (.ref p)) → p ≠ Dl := fun j p o q zz => by
        rcases f1.own_kind o q with ⟨vs0, a0⟩ | ⟨vs0, a0⟩
        · rw [zz, f2] at a0
          cases a0
        · rw [zz, f2] at a0
          cases a0
      refine ⟨fun a o q => by rw [upd_ne (ne_of_none q f3)]; exact f1.fh _ _ q, fun a o q => by rw [upd_ne (ne_of_none q gD)]; exact f1.gh _ _ q, f1.len, fun j mm q => ?_, f1.ne, f1.lg⟩
      have sl := f1.slot j mm q
      cases mm with
      | no => trivial
      | sh d => exact sl
      | own ds1 =>
        obtain ⟨p1, vs1, a1, c1', x1⟩ := sl
        exact ⟨p1, vs1, a1, by rw [upd_ne (away j p1 (.inl ⟨ds1, q⟩) a1)]; exact c1', x1⟩
      | io ds1 =>
        obtain ⟨a1, vs1, c1', x1⟩ := sl
        exact ⟨a1, vs1, by rw [upd_ne (away j b.b (.inr (.inl ⟨ds1, q⟩)) a1)]; exact c1', x1⟩
      | dct ks1 =>
        obtain ⟨p1, vs1, a1, c1', x1⟩ := sl
        exact ⟨p1, vs1, a1, by rw [upd_ne (away j p1 (.inr (.inr ⟨ks1, q⟩)) a1)]; exact c1', x1⟩
      | lent ds1 => exact sl
  · have ei : i = ds.length := by omega
    subst ei
    rw [List.drop_length] at eL
    cases eL
    have hns : ns = nsE := by
      have h := hAcc
      clear e2 e3 e5
      have inj : ∀ {a b : List Int}, a.map PyData.int = b.map PyData.int → a = b := by
        intro a
        induction a with
        | nil => intro b hb; cases b with
          | nil => rfl
          | cons _ _ => cases hb
        | cons x r ih => intro b hb; cases b with
          | nil => cases hb
          | cons y s =>
            rw [List.map_cons, List.map_cons] at hb
            obtain ⟨h1, h2⟩ := List.cons.inj hb
            cases h1
            rw [ih h2]
      exact inj h
    subst hns
    refine .inl ⟨wk.stop Hc (s2.trans h2.fh), Dl, _, _, rfl, aD, few, fun ns' pq hs hm hl hp => ?_⟩
    have hd := ddI_ok ns
    have e9 : ns' = sortI (ddI ns) := rising_unique hs (sortI_lt hd.1) fun k => by
      rw [hm, sortI_mem]
      exact decide_eq_true_iff
    rw [e9]
    have Pf : Post F2 Hc (.fr ((sortI (ddI ns)).map .int)) F2 (upd Hc pq (.lst ((sortI (ddI ns)).map V.int))) (.ref pq) := post_fr h2.fh hp (Dvs.of_ints _)
    exact k F2 _ _ (s1.trans (s2.trans Pf.ff)) (c1.trans (c2.trans (Pf.cln h2.gh))) (Pf.rp h2) (Pf.rs h2)
theorem me_sortSet {ws : List Nat} {pos2 : Pos} (hc : X.calm = true) (hN : X.N.Nodup) (hi : MIt X tg iter it) (ok : BlkOk X.N X.env.scope scope own)
    (hg : ∀ (s : Shared) (H : Hp) (C : Addr) (cl : List (Str × Addr)) (fp : List Addr), MGt (X.blk s H scope (compEnvC scope cl C X.env) fp) tg g ws)
    (ht : ∀ (s : Shared) (H : Hp) (C : Addr) (cl : List (Str × Addr)) (fp : List Addr), MTs (X.blk s H scope (compEnvC scope cl C X.env) fp) ifs t)
    (he : ∀ (s : Shared) (H : Hp) (C : Addr) (cl : List (Str × Addr)) (fp : List Addr), ME (X.blk s H scope (compEnvC scope cl C X.env) fp) elt el)
    (gl : Gl X "sorted") (gm : X.mg "sorted" = none) (gv : bootBuiltins "sorted" = some (.builtin "sorted"))
    (hws : ∀ i ∈ ws, i ∈ own.map (·.2) := by decide) (hs : ∀ x, foldedSetIterable iter X.env x = pure x := by intro _; rfl)
    (hst : starEach [.SetComp elt [⟨tg, iter, ifs, 0⟩] scope pos] X.env = (false, eval (.SetComp elt [⟨tg, iter, ifs, 0⟩] scope pos) X.env) :: starEach [] X.env := by rfl)
    (hpl : (backTo pos2 (starEach [] X.env)).any (·.1) = false := by rfl) :
    ME X (.Call (.Name "sorted" p) [.SetComp elt [⟨tg, iter, ifs, 0⟩] scope pos] [] pos2) (mSortSet it g t el (own.map (·.2))) :=
  ⟨(pe_callB (cr_sortedSet hc) gl gm gv (pa_cons (pe_scK (intKit X.prog X.w) hc hN hi.ok ok (fun s H C cl fp => (hg s H C cl fp).ok) (fun s H C cl fp => (ht s H C cl fp).ok) (fun s H C cl fp => (he s H C cl fp).ok) hs) pa_nil hst) (by decide) (by decide) hst hpl).imq fun σ H Q q => ss_read (K := X.K) hws q⟩

/-! ### sorted of whole numbers -/
def sortLD : D → Option R
  | .list ds => (intsD ds).map fun ns => .fr ((isortI ns).map .int)
  | _ => none
end
end Mi
set_option Elab.async false
set_option linter.all false
set_option maxRecDepth 100000
/-! Core12: sorted of whole numbers, list.count, sum(range(n)), n * list. -/
namespace Mi
open PySem PySem.Spec PyProof.Rows L2
section
variable {prog : Program} {w : World} {A : Around} {E : Value → Shared → Prop} {s : Shared}
/-- the items of a tuple, collected -/
theorem collect_tup {t : Addr} {vs : List Value} {Q : List Value → Shared → Prop} (ht : IsTup s.heap t vs.toArray)
    (go : Q vs { s with heap := (s.heap.push (seqObj "list" #[] 0)).update s.heap.objs.size (Obj.mapSeq (· ++ vs.toArray)) }) (sz : vs.length ≤ sizeLine) : wpAny (model prog w) A (collect (.ref t)) Q E s := by
  obtain ⟨o, ho, hc, n, hd⟩ := id ht
  unfold collect
  refine wpAny_bind (wpAny_runValue (codeAny_builtin entry_proto_collect' ?_))
  show wpAny _ _ (newList [] >>= fun l' => again (.builtin "list.__iadd__" ⟨[l', .ref t], []⟩)) _ _ s
  refine wpAny_bind (wpAny_newList (wpAny_pure ⟨Code.quiet_builtin _ (by decide +kernel), codeAny_builtin entry_list_iadd' ?_⟩))
  show wpAny _ _ (Builtin.List.listExtendWith (.ref s.heap.objs.size) (.ref t) (.ref s.heap.objs.size)) _ _ { s with heap := s.heap.push (seqObj "list" #[] 0) }
  unfold Builtin.List.listExtendWith
  have old : (s.heap.push (seqObj "list" #[] 0)).get? t = some o := Heap.get?_push_of_some _ ho
  refine wpAny_bind (wpAny_typeOf (T := "tuple") ⟨o, old, hc⟩ ?_)
  rw [if_pos (by rw [show (Value.type "tuple" == Value.type "tuple") = true from rfl]; simp)]
  refine wpAny_bind (listItems_at old hd ?_)
  refine wpAny_bind (listItems_at (xs := #[]) (n := 0) (Heap.get?_push_size _ rfl) rfl ?_)
  rw [if_neg (by simp)]
  refine wpAny_bind (listUpdate_at (xs := #[]) (n := 0) (Heap.get?_push_size _ rfl) rfl (wpAny_pure ?_) (Nat.zero_le _) (by show (#[] ++ vs.toArray).size ≤ sizeLine + 1; simp only [Array.size_append, List.size_toArray, List.length_nil]; omega))
  refine wpAny_bind (wpAny_load (get?_update_seq (Heap.get?_push_size _ rfl) _) ?_)
  show wpAny _ _ (pure ((#[] : Array Value) ++ vs.toArray).toList) Q E _
  rw [show ((#[] : Array Value) ++ vs.toArray).toList = vs by simp]
  exact wpAny_pure go
end
section
variable [KK] {X : Cx} {e a b c : Expr} {pos p : Pos} {m ma mb : MR} {x : Str}
/-- sorted of a tuple of whole numbers -/
def rSortTI (K : Fr0) : List V → Hp → VK → Prop := fun vs H Q => ∃ (t : Addr) (ns : List Int), vs = [V.ref t] ∧ SqT K H t (ns.map V.int) ∧
  ∀ (ns' : List Int) (p : Addr), ns'.Perm ns → ns'.Pairwise (· ≤ ·) → H p = none → Q (.ref p) (upd H p (.lst (ns'.map V.int)))
theorem cr_sortTI : CallR X (.builtin "sorted") (rSortTI X.K) := by
  intro pins s σ H vs us Q I r h
  obtain ⟨t, ns, rfl, hs, q⟩ := h
  obtain ⟨its, rv, ht, hz⟩ := I.tuple hs
  rw [Vals.ref1 r]
  have hi := rv.ints
  have hz2 : its.length ≤ sizeLine := by rw [← rv.length]; exact hz
  refine Calls.call_function_entry kind_sorted plain_sorted entry_sorted (args_sorted1 _) ?_
  unfold Builtin.«sorted»
  refine wpAny_bind (m := checkCount "sorted" 1 1 _) (wpAny_pure (wpAny_bind (collect_tup ht (wpAny_bind (wpAny_newList ?_ hz2)) hz2)))
  have size1 : ((s.heap.push (seqObj "list" #[] 0)).update s.heap.objs.size (Obj.mapSeq (· ++ its.toArray))).objs.size = s.heap.objs.size + 1 := by rw [Heap.size_update, size_push']
  have there : (((s.heap.push (seqObj "list" #[] 0)).update s.heap.objs.size (Obj.mapSeq (· ++ its.toArray))).push (seqObj "list" its.toArray 0)).get? (s.heap.objs.size + 1) = some (seqObj "list" its.toArray 0) := by
    rw [← size1]
    exact Heap.get?_push_size _ rfl
  show wpAny _ _ _ _ _ { s with heap := ((s.heap.push (seqObj "list" #[] 0)).update s.heap.objs.size (Obj.mapSeq (· ++ its.toArray))).push (seqObj "list" its.toArray 0) }
  rw [size1]
  refine wpAny_bind (wpAny_holding (wpAny_call_entry slot_list_sort ⟨_, there, rfl⟩ entry_list_sort (SrtO.list_sort_ord SrtO.swo_int there hz2 (fun h2 => SrtO.ints_sortable hi h2) fun out h1 h2 => ⟨_, rfl, wpAny_pure ⟨_, rfl, ?_⟩⟩) (args_list_sort _)))
  obtain ⟨k1, k2, k3⟩ := SrtO.ints_out hi h1 h2
  obtain ⟨ep, he'⟩ := PyProof.Rows.sortedAll_at s.heap its out.toArray
  have hlen : ((out.map SrtO.iv).map V.int).length ≤ sizeLine := by
    rw [List.length_map, k2.length_eq]
    rw [List.length_map] at hz
    exact hz
  exact ⟨.ref _, upd H (s.heap.objs.size + 1) (.lst ((out.map SrtO.iv).map V.int)), I.laid (t' := s.toks) (fun _ _ => PyProof.Rows.sortedAll_old) (Nat.le_succ _) ⟨hlen, out, ep, vals_of_ints k1, he'⟩, rfl, q _ _ k2 k3 (I.hok.fresh (Nat.le_succ _))⟩
end
def insL (k : Int) : List Int → List Int
  | [] => [k]
  | x :: r => if k ≤ x then k :: x :: r else x :: insL k r
def srtL : List Int → List Int
  | [] => []
  | x :: r => insL x (srtL r)
theorem insL_perm (k : Int) : ∀ l : List Int, (insL k l).Perm (k :: l)
  | [] => .refl _
  | x :: r => by
    unfold insL
    split
    · exact .refl _
    · exact ((insL_perm k r).cons x).trans (.swap k x r)
theorem srtL_perm : ∀ l : List Int, (srtL l).Perm l
  | [] => .refl _
  | x :: r => (insL_perm x (srtL r)).trans ((srtL_perm r).cons x)
theorem insL_le {k : Int} : ∀ {l : List Int}, l.Pairwise (· ≤ ·) → (insL k l).Pairwise (· ≤ ·)
  | [], _ => List.pairwise_singleton _ _
  | x :: r, h => by
    obtain ⟨h3, h4⟩ := List.pairwise_cons.mp h
    unfold insL
    split
    · refine List.pairwise_cons.mpr ⟨fun z hz => ?_, h⟩
      rcases List.mem_cons.mp hz with rfl | hz
      · assumption
      · have := h3 z hz; omega
    · refine List.pairwise_cons.mpr ⟨fun z hz => ?_, insL_le h4⟩
      rcases List.mem_cons.mp ((insL_perm k r).mem_iff.mp hz) with rfl | hz
      · omega
      · exact h3 z hz
theorem srtL_le : ∀ l : List Int, (srtL l).Pairwise (· ≤ ·)
  | [] => .nil
  | x :: r => insL_le (srtL_le r)
theorem sorted_unique : ∀ {a b : List Int}, a.Pairwise (· ≤ ·) → b.Pairwise (· ≤ ·) → a.Perm b → a = b
  | [], b, _, _, h => (List.nil_perm.mp h).symm ▸ rfl
  | x :: a, [], _, _, h => absurd h.length_eq (by simp)
  | x :: a, y :: b, ha, hb, h => by
    obtain ⟨a1, a2⟩ := List.pairwise_cons.mp ha
    obtain ⟨b1, b2⟩ := List.pairwise_cons.mp hb
    have e1 : x ≤ y := by
      rcases List.mem_cons.mp (h.mem_iff.mpr List.mem_cons_self) with e | e
      · omega
      · exact a1 y e
    have e2 : y ≤ x := by
      rcases List.mem_cons.mp (h.mem_iff.mp List.mem_cons_self) with e | e
      · omega
      · exact b1 x e
    have : x = y := by omega
    subst this
    rw [sorted_unique a2 b2 ((List.perm_cons x).mp h)]
section
variable [KK] {X : Cx} {e a b c : Expr} {pos p : Pos} {m ma mb : MR} {x : Str}
def sortD : D → Option R
  | .list ds => (intsD ds).map fun ns => .fr ((srtL ns).map .int)
  | .tuple ds => (intsD ds).map fun ns => .fr ((srtL ns).map .int)
  | _ => none
theorem c_sorted (hK : X.K = KK.K := by rfl) : Call1 X (.builtin "sorted") sortD := ⟨_, cr_sortedI.or cr_sortTI, fun F H v1 d1 k s b e Q q => by
  match d1, e, b with
  | .list ds, e, b =>
    obtain ⟨ns, e1, rfl⟩ := map_some (show (intsD ds).map (fun ns => R.fr ((srtL ns).map .int)) = some k from e)
    obtain ⟨p0, vs, rfl, h, xx⟩ := b.list s
    rw [intsD_eq e1] at xx
    rw [xx.ints] at h
    refine .inl ⟨p0, ns, rfl, .of h, fun ns' l pm hs hl => ?_⟩
    rw [sorted_unique hs (srtL_le ns) (pm.trans (srtL_perm ns).symm)]
    exact q _ _ _ (post_fr s hl (Dvs.of_ints _))
  | .tuple ds, e, b =>
    obtain ⟨ns, e1, rfl⟩ := map_some (show (intsD ds).map (fun ns => R.fr ((srtL ns).map .int)) = some k from e)
    obtain ⟨p0, vs, rfl, h, xx⟩ := b.tup
    rw [intsD_eq e1] at xx
    rw [xx.ints] at h
    refine .inr ⟨p0, ns, rfl, .of (s _ _ h), fun ns' l pm hs hl => ?_⟩
    rw [sorted_unique hs (srtL_le ns) (pm.trans (srtL_perm ns).symm)]
    exact q _ _ _ (post_fr s hl (Dvs.of_ints _))⟩
/-! ### xs.count(k) -/
def countD : D → D → Option R
  | .list ds, .int n => (intsD ds).map fun ns => .sh (.int (ns.count n : Nat))
  | _, _ => none
def mCount (ma mb : MR) : MR := fun ρ => do
  let (r1, ρ1) ← ma ρ
  let d0 ← deref ρ1 r1
  match d0 with
  | .list _ => do
    let (r2, ρ2) ← mb ρ1
    let d1 ← deref ρ2 r1
    let d2 ← deref ρ2 r2
    let k ← countD d1 d2
    some (k, ρ2)
  | _ => none
theorem me_count {apos cpos : Pos} (ho : ME X a ma) (he : ME X b mb) (hbase : attributeBase a "count" X.env (eval a X.env) = eval a X.env := by rfl)
    (hfew : ((backTo cpos (starEach (b :: []) X.env)).all (fun x => !x.1) && (backToKw cpos (keywordEach [] X.env)).all (fun x => x.1.isSome)
      && decide ((b :: ([] : List Expr)).length + ([] : List Keyword).length + (if ([] : List Keyword).isEmpty then 0 else 1) < 30)) = true := by rfl)
    (hline : (apos.endLine == cpos.line) = true := by rfl) (hs : starEach (b :: []) X.env = (false, eval b X.env) :: starEach [] X.env := by rfl) (hplain : (backTo cpos (starEach [] X.env)).any (·.1) = false := by rfl) :
    ME X (.Call (.Attribute a "count" apos) [b] [] cpos) (mCount ma mb) :=
  ⟨(pe_bm PySem.F.plainAttrs_list PySem.F.slot_list_count PySem.F.type_list_count mt_lcount ho.ok (pa_cons he.ok pa_nil hs) hbase hfew hline hs hplain).imq fun σ H Q q => by
    obtain ⟨F, G, b', ρ, hr, r, ρ', e, k⟩ := q
    obtain ⟨⟨r1, ρ1⟩, e1, e⟩ := bind_some e
    obtain ⟨d0, e0, e⟩ := bind_some e
    refine ⟨F, G, b', ρ, hr, r1, ρ1, e1, fun F1 H1 v1 s1 c1 h1 k1 => ?_⟩
    have bd0 := k1.bd h1 e0
    match d0, bd0, e with
    | .list ds0, bd0, e =>
      obtain ⟨⟨r2, ρ2⟩, e2, e⟩ := bind_some e
      obtain ⟨d1, e3, e⟩ := bind_some e
      obtain ⟨d2, e4, e⟩ := bind_some e
      obtain ⟨z, e5, e⟩ := bind_some e
      cases e
      obtain ⟨p0, vs0, rfl, a0, _⟩ := bd0.list h1.fh
      refine ⟨.inl ⟨rfl, _, .of a0⟩, F1, guard G H1 _ r1, b', ρ1, h1.guarded k1, r2, _, e2, fun F2 H2 v2 s2 c2 h2 k2 => ?_⟩
      have ge := guard_ge k1
      have kk := k1.keep s2 c2 h2
      have h2' := h2.less ge h1.lg
      have bd1 := kk.bd h2' e3
      have bd2 := (k2.less ge).bd h2' e4
      match d1, d2, e5, bd1, bd2 with
      | .list ds, .int n, e5, bd1, bd2 =>
        obtain ⟨ns, e6, e7⟩ := map_some (show (intsD ds).map (fun ns => R.sh (.int (ns.count n : Nat))) = some r from e5)
        subst e7
        obtain ⟨p1, vs1, q1, a1, x1⟩ := bd1.list h2'.fh
        cases q1
        rw [intsD_eq e6] at x1
        rw [x1.ints] at a1
        exact ⟨p0, ns, n, rfl, by rw [bd2.int], .of a1, k F2 H2 _ (s1.trans s2) (c1.trans (c2.less ge)) h2' (.int _)⟩⟩

/-! ### sum(range(n)) -/
def sumTo (n : Int) : Int := (rangeL 0 n.toNat).sum
def sumRD : D → Option R
  | .int n => if 0 ≤ n ∧ n ≤ 1000000 then some (.sh (.int (sumTo n))) else none
  | _ => none
theorem preSum_range (n : Nat) : preSum (fun i => (0 : Int) + (i : Int) * 1) n = sumTo (n : Int) := by
  unfold sumTo
  rw [Int.toNat_natCast]
  have key : ∀ n : Nat, ∀ lo : Int, (rangeL lo (n + 1)).sum = (rangeL lo n).sum + (lo + n) := by
    intro n
    induction n with
    | zero => intro lo; show lo + 0 = 0 + (lo + 0); omega
    | succ n ih =>
      intro lo
      have e1 : rangeL lo (n + 2) = lo :: rangeL (lo + 1) (n + 1) := rfl
      have e2 : rangeL lo (n + 1) = lo :: rangeL (lo + 1) n := rfl
      rw [e1, List.sum_cons, ih (lo + 1), e2, List.sum_cons]
      omega
  induction n with
  | zero => rfl
  | succ n ih =>
    rw [key n 0, ← ih]
    show preSum _ n + (0 + (n : Int) * 1) = _
    omega
def tSumR (ta : TE) : TE := fun σ H Q => ta σ H fun x H1 => ∃ n : Int, x = .int n ∧ (0 : Int) = 0 ∧ 0 ≤ n ∧ n ≤ 1000000 ∧ Q (.int (sumTo n)) H1
theorem pe_sumRange {ta : TE} {p2 pos2 : Pos} (hc : X.calm = true) (hg : Gl X "sum") (hm : X.mg "sum" = none) (hv : bootBuiltins "sum" = some (.builtin "sum")) (hg2 : Gl X "range") (hm2 : X.mg "range" = none) (ha : PE X a ta)
    (hs : starEach [a] X.env = (false, eval a X.env) :: starEach [] X.env)
    (hs2 : starEach [.Call (.Name "range" p2) [a] [] pos2] X.env = (false, eval (.Call (.Name "range" p2) [a] [] pos2) X.env) :: starEach [] X.env) :
    PE X (.Call (.Name "sum" p) [.Call (.Name "range" p2) [a] [] pos2] [] pos) (tSumR ta) := by
  refine ⟨fun pins s σ H Q I h => ?_⟩
  refine wpAny_Call_Name_kw (ld_blt I hg hm hv ?_ (by decide) (by decide))
  refine PyProof.Rows.callWith_builtin1 (args_cons (thn (prg_1 hg2 hm2 ha hs pins s σ H (fun i j H1 => i = 0 ∧ 0 ≤ j ∧ j ≤ 1000000 ∧ Q (.int (sumTo j)) H1) I h) fun u s1 w1 => args_nil ?_) hs2) hs2 rfl
  obtain ⟨r, i, j, t, u', v, H1, rfl, hr, I1, rfl, j0, j1, q⟩ := w1
  have hsmall : Builtin.Range.small 0 j 1 = true := small_one (by decide) (by decide) (by omega) (by omega)
  have hsize : Builtin.Range.rangeSize 0 j 1 = ((j.toNat : Nat) : Int) := by rw [PyProof.Rows.rangeSize_nat, Int.sub_zero]
  obtain ⟨f0, f1, f2, f3, f4, f5⟩ := I1.fpOk (H' := H1) (b := s1.heap.objs.size) (Nat.le_refl _) (I1.hok.fresh (Nat.le_refl _))
  refine call_sum_walkAnyS (wpAny_pyIter_range hr hsmall ?_)
  rw [hsize]
  refine ⟨s1.heap.objs.size, _, _, _, j.toNat, _, _, fun i => (0 : Int) + (i : Int) * 1, rfl, (Walks.range (A := X.A.in1) (I1.ok.hd hc) s1.heap.objs.size 0 1 j.toNat).toS, ?_, fun b hb => ?_, fun i v hv => hv, fun s' t' mv => ?_⟩
  · have e0 : (0 : Int) + ((0 : Nat) : Int) * 1 = 0 := by omega
    have e1 : ((j.toNat : Nat) : Int) - ((0 : Nat) : Int) = ((j.toNat : Nat) : Int) := by omega
    show IsRangeIter _ _ ((0 : Int) + ((0 : Nat) : Int) * 1) (((j.toNat : Nat) : Int) - ((0 : Nat) : Int)) 1
    rw [e0, e1]
    exact Heap.get?_push_size _ rfl
  · rw [List.mem_singleton.mp hb, Heap.size_push]
    exact Nat.lt_succ_self _
  · rw [preSum_range, Int.toNat_of_nonneg j0]
    have mvh := mv.heap
    rw [Moved.eq_with mv]
    exact ⟨.int (sumTo j), H1, I1.turned (t' := s'.toks) (fun b o hb e => mvh b o (fun z => hb (List.mem_singleton.mp z)) (Heap.get?_push_of_some _ e)) f0 f1 f3 f4 f5, ⟨_, rfl⟩, q⟩
theorem me_sumRange1 {p2 pos2 : Pos} (hc : X.calm = true) (hg : Gl X "sum") (hm : X.mg "sum" = none) (hv : bootBuiltins "sum" = some (.builtin "sum")) (hg2 : Gl X "range") (hm2 : X.mg "range" = none) (ha : ME X a ma)
    (hs : starEach [a] X.env = (false, eval a X.env) :: starEach [] X.env := by rfl)
    (hs2 : starEach [.Call (.Name "range" p2) [a] [] pos2] X.env = (false, eval (.Call (.Name "range" p2) [a] [] pos2) X.env) :: starEach [] X.env := by rfl) :
    ME X (.Call (.Name "sum" p) [.Call (.Name "range" p2) [a] [] pos2] [] pos) (mUn sumRD ma) := ⟨(pe_sumRange hc hg hm hv hg2 hm2 ha.ok hs hs2).imq fun σ H Q q => by
  obtain ⟨F, G, b, ρ, hr, r', ρ', e, k⟩ := q
  obtain ⟨⟨r1, ρ1⟩, e1, e⟩ := bind_some e
  obtain ⟨d1, e3, e⟩ := bind_some e
  obtain ⟨z, e5, e⟩ := bind_some e
  cases e
  refine ⟨F, G, b, ρ, hr, r1, _, e1, fun F1 H1 v1 s1 c1 h1 k1 => ?_⟩
  have bd := k1.bd h1 e3
  match d1, bd, e5 with
  | .int n, bd, e5 =>
    obtain ⟨⟨n0, n1⟩, e6⟩ := ite_some (show (if 0 ≤ n ∧ n ≤ 1000000 then some (R.sh (.int (sumTo n))) else none) = some r' from e5)
    subst e6
    exact ⟨n, bd.int, rfl, n0, n1, k F1 H1 _ s1 c1 h1 (.int _)⟩⟩

/-! ### n * list -/
def rMulNL : R2 := fun x y H Q => ∃ (n : Int) (l : Addr) (xs : List V), x = .int n ∧ y = .ref l ∧ H l = some (.lst xs) ∧ -(2 ^ 62) ≤ n ∧ n < 2 ^ 62 ∧ xs.length * n.toNat ≤ lim ∧ ∀ p, H p = none → Q (.ref p) (upd H p (.lst (List.replicate n.toNat xs).flatten))
theorem vals_rep : ∀ (k : Nat) {xs : List V} {us : List Value}, Vals xs us → Vals (List.replicate k xs).flatten (List.replicate k us).flatten
  | 0, _, _, _ => .nil
  | k + 1, xs, us, r => by
    rw [List.replicate_succ, List.replicate_succ, List.flatten_cons, List.flatten_cons]
    exact r.append (vals_rep k r)
theorem op_mulNL : OpR X (binaryOp .Mult) rMulNL := by
  intro pins s σ H x y v u Q I rx ry h
  obtain ⟨n, l, xs, rfl, rfl, hH, h1, h2, hz, q⟩ := h
  obtain ⟨t, rfl⟩ := rx
  obtain rfl : u = Value.ref l := ry
  obtain ⟨z, its, k, r, ho⟩ := I.hok l _ hH
  have hlim : its.toArray.size * n.toNat ≤ 1000000 := by rw [List.size_toArray, ← r.length]; exact hz
  have a1 : ¬ (!Builtin.List.listFitsIndex n) = true := by
    simp [Builtin.List.listFitsIndex]
    omega
  have a2 : ¬ its.toArray.size * n.toNat > (2 ^ 63 - 1) / 8 := by
    have : (1000000 : Nat) ≤ (2 ^ 63 - 1) / 8 := by decide
    omega
  have a3 : ¬ Builtin.List.listTooLong (its.toArray.size * n.toNat) = true := by
    simp only [Builtin.List.listTooLong, sizeLine_eq, decide_eq_true_eq]
    omega
  have body : List.foldl (fun x1 x2 => x1 ++ x2) #[] (List.replicate (if its.toArray.isEmpty = true then 0 else n.toNat) its.toArray) = (List.replicate n.toNat its).flatten.toArray := by
    have f0 : ∀ (m : Nat) (acc : Array Value), List.foldl (fun x1 x2 => x1 ++ x2) acc (List.replicate m its.toArray) = acc ++ (List.replicate m its).flatten.toArray := by
      intro m
      induction m with
      | zero => intro acc; simp
      | succ m ih => intro acc; rw [List.replicate_succ, List.foldl_cons, ih, List.replicate_succ, List.flatten_cons]; simp
    rw [f0]
    cases its with
    | nil => simp
    | cons a r' => rw [if_neg (by simp)]; simp
  refine lm_binaryOp_repeat_right (T := "list") (U := "int") (by decide) (fun s' => typeIs_int s' n t) ⟨_, ho, rfl⟩ PySem.F.fills_int_mul noFill_list_mul PySem.F.slot_int_mul lm_noRepeat_int repeat_list PySem.F.slot_int_index.lookup ?_
  refine call_meets PySem.F.slot_int_mul (typeIs_int s n t) PySem.F.entry_int_mul (PySem.F.args_int_mul_2 _ _) (int___mul___int_list n t l its.toArray k) ⟨ho, rfl, ⟨_, ho, rfl⟩, ?_⟩
  refine call_meets PySem.F.slot_list_mul ⟨_, ho, rfl⟩ PySem.F.entry_list_mul (PySem.F.args_list_mul_2 _ _) (AutoListH.list___mul___list_int_3 l its.toArray k n t a1 a2 a3) ⟨ho, ?_⟩
  rw [body]
  exact ⟨.ref _, _, I.lnew (t' := s.toks) (vals_rep n.toNat r) (by rw [PyProof.Rows.lm_len_rep_flat, Nat.mul_comm]; exact lim_le hz), rfl, q _ I.fresh⟩
theorem rep_dvs {F : Hp} {vs : List V} {ds : List D} (h : Dvs F vs ds) : ∀ k : Nat, Dvs F (List.replicate k vs).flatten (List.replicate k ds).flatten
  | 0 => .nil
  | k + 1 => by
    rw [List.replicate_succ, List.replicate_succ, List.flatten_cons, List.flatten_cons]
    exact h.app (rep_dvs h k)
def mulNL : D → D → Option R
  | .int n, .list ds => if i62 n = true ∧ ds.length * n.toNat ≤ lim then some (.fr (List.replicate n.toNat ds).flatten) else none
  | _, _ => none
theorem bin_mulNL : BinOk X .Mult mulNL := ⟨_, op_mulNL, fun F H v1 v2 d1 d2 k s b1 b2 e Q q => by
  match d1, d2, e, b1, b2 with
  | .int n, .list ds, e, b1, b2 =>
    obtain ⟨⟨hn, hl⟩, e⟩ := ite_some (show (if i62 n = true ∧ ds.length * n.toNat ≤ lim then some (R.fr (List.replicate n.toNat ds).flatten) else none) = some k from e)
    subst e
    obtain ⟨p0, vs, rfl, h, xx⟩ := b2.list s
    have := i62_ok hn
    exact ⟨n, p0, vs, b1.int, rfl, h, this.1, this.2, by rw [xx.len]; exact hl, fun p hp => q _ _ _ (post_fr s hp (rep_dvs xx n.toNat))⟩⟩
/-! ### // and % by numbers below 0, too -/
def divND : D → D → Option R
  | .int a, .int b => if b ≠ 0 ∧ -1000000 ≤ b ∧ b ≤ 1000000 then some (.sh (.int (a.fdiv b))) else none
  | _, _ => none
def modND : D → D → Option R
  | .int a, .int b => if b ≠ 0 then some (.sh (.int (a.fmod b))) else none
  | _, _ => none
theorem bin_modN : BinOk X .Mod modND := ⟨_, op_modN, op2_C fun a b k e => by
  match a, b, e with
  | .int i, .int j, e =>
    obtain ⟨h, rfl⟩ := ite_some (show (if j ≠ 0 then some (R.sh (.int (i.fmod j))) else none) = some k from e)
    exact ⟨i, j, rfl, rfl, h, rfl⟩⟩
theorem bin_fdivN : BinOk X .FloorDiv divND := ⟨_, op_fdivN, op2_C fun a b k e => by
  match a, b, e with
  | .int i, .int j, e =>
    obtain ⟨⟨h, h1, h2⟩, rfl⟩ := ite_some (show (if j ≠ 0 ∧ -1000000 ≤ j ∧ j ≤ 1000000 then some (R.sh (.int (i.fdiv j))) else none) = some k from e)
    exact ⟨i, j, rfl, rfl, ⟨h, by omega⟩, rfl⟩⟩
end
end Mi
set_option Elab.async false
set_option linter.all false
set_option maxRecDepth 100000
/-! Ev9: equations for Core9, Core10. -/
namespace Mi
open PySem PySem.Spec PyProof.Rows L2
section
variable {ρ : En} {e : M} {ma mb mc m : MR} {ms : ML} {mas : MA} {i j : Nat} {d : D}
@[simp] theorem lNil_c : lNil ρ = some ([], ρ) := (rfl)
@[simp] theorem lCons_c : lCons m ms (e :: ρ) = bnd (m (e :: ρ)) fun x => bnd (ms x.2) fun y => some (x.1 :: y.1, y.2) := (rfl)
@[simp] theorem derefs_nil : derefs ρ [] = some [] := (rfl)
@[simp] theorem derefs_cons (r : R) (rs : List R) : derefs ρ (r :: rs) = bnd (deref ρ r) fun d => bnd (derefs ρ rs) fun ds => some (d :: ds) := (rfl)
@[simp] theorem flatR_b (b : Bool) : flatR (.sh (.bool b)) = some (.sh (.bool b)) := (rfl)
@[simp] theorem flatR_i (b : Int) : flatR (.sh (.int b)) = some (.sh (.int b)) := (rfl)
@[simp] theorem flatR_s (b : Str) : flatR (.sh (.str b)) = some (.sh (.str b)) := (rfl)
@[simp] theorem flatR_n : flatR (.sh .none) = some (.sh .none) := (rfl)
@[simp] theorem mCallL_c (φ : List D → Option R) : mCallL φ ms (e :: ρ) = bnd (ms (e :: ρ)) fun x => bnd (derefs x.2 x.1) fun ds => bnd (φ ds) fun r => bnd (flatR r) fun r => some (r, x.2) := (rfl)
def par2 (i j : Nat) : List D → En → Option En
  | [d1, d2], ρ => bnd (asg ρ i (.sh d1)) fun ρ1 => asg ρ1 j (.sh d2)
  | _, _ => none
@[simp] theorem par2_c (d1 d2 : D) : par2 i j [d1, d2] ρ = bnd (asg ρ i (.sh d1)) fun ρ1 => asg ρ1 j (.sh d2) := (rfl)
@[simp] theorem sPar_c : sPar i j mas (e :: ρ) = bnd (mas (e :: ρ)) fun x => bnd (par2 i j x.1 x.2) fun ρ2 => some (.nx, ρ2) := by
  show (mas (e :: ρ)).bind _ = (mas (e :: ρ)).bind _
  congr 1
  funext x
  obtain ⟨ds, ρ1⟩ := x
  match ds with
  | [] => rfl
  | [d1] => rfl
  | [d1, d2] =>
    show (if free1 ρ1 i = true then _ else _) = bnd (bnd (if free1 ρ1 i = true then _ else _) _) _
    by_cases h : free1 ρ1 i = true
    · rw [if_pos h, if_pos h]
      show (if free1 _ j = true then _ else _) = bnd (if free1 _ j = true then _ else _) _
      by_cases h2 : free1 (ρ1.set i (.sh d1)) j = true
      · rw [if_pos h2, if_pos h2]; rfl
      · rw [if_neg h2, if_neg h2]; rfl
    · rw [if_neg h, if_neg h]; rfl
  | _ :: _ :: _ :: _ => rfl
@[simp] theorem range3_down (a b : Int) : range3 [.int a, .int b, .int (-1)] = if (i62 a && i62 b) = true then some (stepD a (-1) (a - b).toNat) else none := by
  show (if _ then _ else _) = _
  rw [if_pos rfl]
@[simp] theorem mRange3_c : mRange3 mas (e :: ρ) = bnd (mas (e :: ρ)) fun x => bnd (range3 x.1) fun ds => some (ds, x.2) := (rfl)
@[simp] theorem mStarts3_c : mStarts3 ma mb mc (e :: ρ) = bnd (ma (e :: ρ)) fun x => bnd (mb x.2) fun y => bnd (mc y.2) fun z => bnd (strR x.1) fun a => bnd (strR y.1) fun b => bnd (intR z.1) fun i => some (.sh (.bool (Txt.startswith3 a b i)), z.2) := by
  show (ma (e :: ρ)).bind _ = (ma (e :: ρ)).bind _
  congr 1
  funext x
  show (mb x.2).bind _ = (mb x.2).bind _
  congr 1
  funext y
  show (mc y.2).bind _ = (mc y.2).bind _
  congr 1
  funext z
  obtain ⟨r0, ρ0⟩ := x
  obtain ⟨r1, ρ1⟩ := y
  obtain ⟨r2, ρ2⟩ := z
  dsimp only
  cases r0 with
  | sh d0 => cases d0 <;> cases r1 <;> first
    | rfl
    | (rename_i d1; cases d1 <;> cases r2 <;> first
      | rfl
      | (rename_i d2; cases d2 <;> rfl))
  | fr _ => rfl
  | bw _ => rfl
def chainD (f g : D → D → Option Bool) (mc : MR) : R → R → En → Option (Bool × En)
  | .sh (.int i), .sh (.int j), ρ2 => bnd (f (.int i) (.int j)) fun k => if k = true then bnd (mc ρ2) fun z => bnd (deref z.2 z.1) fun d3 => bnd (g (.int j) d3) fun k2 => some (k2, z.2) else some (false, ρ2)
  | _, _, _ => none
@[simp] theorem chainD_i (f g : D → D → Option Bool) (a b : Int) : chainD f g mc (.sh (.int a)) (.sh (.int b)) ρ = bnd (f (.int a) (.int b)) fun k => if k = true then bnd (mc ρ) fun z => bnd (deref z.2 z.1) fun d3 => bnd (g (.int b) d3) fun k2 => some (k2, z.2) else some (false, ρ) := (rfl)
@[simp] theorem mChain_c (f g : D → D → Option Bool) : mChain f g ma mb mc (e :: ρ) = bnd (ma (e :: ρ)) fun x => bnd (mb x.2) fun y => chainD f g mc x.1 y.1 y.2 := by
  show (ma (e :: ρ)).bind _ = (ma (e :: ρ)).bind _
  congr 1
  funext x
  show (mb x.2).bind _ = (mb x.2).bind _
  congr 1
  funext y
  obtain ⟨r0, ρ0⟩ := x
  obtain ⟨r1, ρ1⟩ := y
  dsimp only
  cases r0 with
  | sh d0 => cases d0 <;> cases r1 <;> first
    | rfl
    | (rename_i d1; cases d1 <;> rfl)
  | fr _ => rfl
  | bw _ => rfl
@[simp] theorem sAugS_c (f : D → D → Option R) : sAugS i f ma mb (e :: ρ) = bnd (contE (e :: ρ) i) fun _ => bnd (ma (e :: ρ)) fun x => bnd (intR x.1) fun z => bnd (contE x.2 i) fun ds0 => bnd (atI ds0 z) fun d0 => bnd (mb x.2) fun y => bnd (deref y.2 y.1) fun dv => bnd (f d0 dv) fun k => bnd (dR k) fun d => bnd (contE y.2 i) fun ds => bnd (ixN ds.length z) fun j => some (.nx, putE y.2 i (ds.set j d)) := by
  show (contE (e :: ρ) i).bind _ = (contE (e :: ρ) i).bind _
  congr 1
  funext _
  show (ma (e :: ρ)).bind _ = (ma (e :: ρ)).bind _
  congr 1
  funext x
  obtain ⟨r0, ρ0⟩ := x
  cases r0 with
  | sh d0 =>
    cases d0 with
    | int z =>
      show (contE ρ0 i).bind _ = (contE ρ0 i).bind _
      congr 1
      funext ds0
      show (atI ds0 z).bind _ = (atI ds0 z).bind _
      congr 1
      funext d0
      show (mb ρ0).bind _ = (mb ρ0).bind _
      congr 1
      funext y
      show (deref y.2 y.1).bind _ = (deref y.2 y.1).bind _
      congr 1
      funext dv
      show (f d0 dv).bind _ = (f d0 dv).bind _
      congr 1
      funext k
      cases k <;> rfl
    | _ => rfl
  | fr _ => rfl
  | bw _ => rfl
end
@[simp] theorem kdD_s (L : List (Str × Str)) (z : Str) : kdD L (.str z) = (assocS L z).map fun x => .sh (.str x) := (rfl)
@[simp] theorem revSl_l (ds : List D) : revSl (.list ds) = some (.fr ds.reverse) := (rfl)
@[simp] theorem revLD_l (ds : List D) : revLD (.list ds) = some (.fr ds.reverse) := (rfl)
@[simp] theorem mulSD_s (a : Str) (n : Int) : mulSD (.str a) (.int n) = if 0 ≤ n ∧ n ≤ 1000000 ∧ a.length * n.toNat ≤ lim then some (.sh (.str (timesS a n))) else none := (rfl)
theorem for_step {g : MG} {n : MS'} {d : D} {ds : List D} {ρ ρ1 : En} (e : bnd (g d ρ) n = some (.nx, ρ1)) : forGo g n (d :: ds) ρ = forGo g n ds ρ1 := by
  rw [forGo_cons]
  cases q : g d ρ with
  | none => rw [q] at e; cases e
  | some ρ2 =>
    rw [q, bnd_some] at e
    rw [bnd_some, e, bnd_some, forO_nx]
theorem for_stop {g : MG} {n : MS'} {d : D} {ds : List D} {ρ ρ1 : En} {r : R} (e : bnd (g d ρ) n = some (.rt r, ρ1)) : forGo g n (d :: ds) ρ = some (.rt r, ρ1) := by
  rw [forGo_cons]
  cases q : g d ρ with
  | none => rw [q] at e; cases e
  | some ρ2 =>
    rw [q, bnd_some] at e
    rw [bnd_some, e, bnd_some, forO_rt]
theorem rangeL_eq (lo : Int) (n : Nat) : rangeL lo n = (List.range n).map fun i : Nat => lo + (i : Int) := by
  induction n generalizing lo with
  | zero => rfl
  | succ n ih =>
    unfold rangeL
    rw [ih, List.range_succ_eq_map, List.map_cons, List.map_map]
    congr 1
    · omega
    · congr 1
      funext i
      show lo + 1 + (i : Int) = lo + ((i + 1 : Nat) : Int)
      omega
theorem rangeD_eq (lo hi : Int) : rangeD lo hi = (List.range (hi - lo).toNat).map fun i : Nat => .int (lo + (i : Int)) := by
  unfold rangeD
  rw [rangeL_eq, List.map_map]
  rfl
theorem rangeD_0 (n : Nat) : rangeD 0 (n : Int) = (List.range n).map fun i : Nat => .int (i : Int) := by
  rw [rangeD_eq]
  simp
theorem times_fold (l : List Nat) : ∀ (n : Nat) (acc : Array Nat), (List.replicate n l.toArray).foldl (· ++ ·) acc = acc ++ (List.replicate n l).flatten.toArray
  | 0, acc => by simp
  | n + 1, acc => by
    rw [List.replicate_succ, List.foldl_cons, times_fold l n, List.replicate_succ, List.flatten_cons]
    simp
theorem timesS_sS (l : List Nat) (n : Int) : timesS (sS l) n = sS (List.replicate n.toNat l).flatten := by
  unfold timesS
  split
  · have : n.toNat = 0 := by omega
    rw [this]
    rfl
  · split
    · rename_i h
      rcases Bool.or_eq_true_iff.mp h with h | h
      · have : n = 1 := eq_of_beq h
        subst this
        show sS l = sS (List.replicate 1 l).flatten
        simp
      · have hl : (sS l).length = 0 := eq_of_beq h
        rw [sS_len] at hl
        have : l = [] := List.eq_nil_of_length_eq_zero hl
        subst this
        congr 1
        rw [List.flatten_eq_nil_iff.mpr (fun x hx => List.eq_of_mem_replicate hx)]
    · show (⟨_⟩ : Str) = ⟨_⟩
      congr 1
      rw [show (sS l).cps = l.toArray from rfl, times_fold]
      simp
end Mi
set_option Elab.async false
set_option linter.all false
set_option maxRecDepth 100000
/-! Ev12: equations for Core11, Core12. -/
namespace Mi
open PySem PySem.Spec PyProof.Rows L2
section
variable {ρ : En} {e : M} {ma mb m : MR} {it : MI} {g : MG} {t : MB} {el : MR} {vs : List Nat}
@[simp] theorem mSortSet_c : mSortSet it g t el vs (e :: ρ) = bnd (it (e :: ρ)) fun x => if okW x.2 vs = true then bnd (lcGo g t el vs x.1 x.2 []) fun y => bnd (setFin y.1) fun r => some (r, y.2) else none := (rfl)
theorem intsD_m (ns : List Int) : intsD (ns.map .int) = some ns := intsD_map' ns
@[simp] theorem setFin_i (ns : List Int) : setFin (ns.map .int) = if ns.length ≤ 1000 ∧ (ddI ns).length < 64 then some (.fr ((sortI (ddI ns)).map .int)) else none := by
  unfold setFin
  rw [intsD_map']
  rfl
@[simp] theorem mCount_c : mCount ma mb (e :: ρ) = bnd (ma (e :: ρ)) fun x => bnd (deref x.2 x.1) fun d0 => bnd (listR d0) fun _ => bnd (mb x.2) fun y => bnd (deref y.2 x.1) fun d1 => bnd (deref y.2 y.1) fun d2 => bnd (countD d1 d2) fun k => some (k, y.2) := by
  show (ma (e :: ρ)).bind _ = (ma (e :: ρ)).bind _
  congr 1
  funext x
  obtain ⟨r, ρ1⟩ := x
  show (deref ρ1 r).bind _ = (deref ρ1 r).bind _
  congr 1
  funext d0
  cases d0 <;> rfl
end
@[simp] theorem countD_i (ns : List Int) (n : Int) : countD (.list (ns.map .int)) (.int n) = some (.sh (.int (ns.count n : Nat))) := by
  show (intsD _).map _ = _
  rw [intsD_map']
  rfl
@[simp] theorem modND_i (a b : Int) : modND (.int a) (.int b) = if b ≠ 0 then some (.sh (.int (a.fmod b))) else none := (rfl)
@[simp] theorem divND_i (a b : Int) : divND (.int a) (.int b) = if b ≠ 0 ∧ -1000000 ≤ b ∧ b ≤ 1000000 then some (.sh (.int (a.fdiv b))) else none := (rfl)
@[simp] theorem sumRD_i (n : Int) : sumRD (.int n) = if 0 ≤ n ∧ n ≤ 1000000 then some (.sh (.int (sumTo n))) else none := (rfl)
@[simp] theorem mulNL_i (n : Int) (ds : List D) : mulNL (.int n) (.list ds) = if i62 n = true ∧ ds.length * n.toNat ≤ lim then some (.fr (List.replicate n.toNat ds).flatten) else none := (rfl)
@[simp] theorem sortD_l (ns : List Int) : sortD (.list (ns.map .int)) = some (.fr ((srtL ns).map .int)) := by
  show (intsD _).map _ = _
  rw [intsD_map']
  rfl
@[simp] theorem sortD_t2 (a b : Int) : sortD (.tuple [.int a, .int b]) = some (.fr ((srtL [a, b]).map .int)) := (rfl)
@[simp] theorem mulI_i (a b : Int) : mulI (.int a) (.int b) = if (i64 a || i64 b) = true then some (.sh (.int (a * b))) else none := (rfl)
@[simp] theorem addIS_i (a b : Int) : addIS (.int a) (.int b) = some (.sh (.int (a + b))) := (rfl)
@[simp] theorem addIS_s (a b : Str) : addIS (.str a) (.str b) = if a.length + b.length ≤ lim then some (.sh (.str (a ++ b))) else none := (rfl)
end Mi
set_option Elab.async false
set_option linter.all false
set_option maxRecDepth 100000
/-! Core13: enumerate of lists, tuples, texts, from any count. -/
namespace Mi
open PySem PySem.Spec PyProof.Rows L2
/-- what is gone through: a list, a tuple, a text -/
inductive Sq where
  | l (a : Addr) | t (a : Addr) | s (x : Str)
def kgo (K : Fr0) : Sq → Nat → Hp → Prop
  | .l a, i, H => ∃ xs x, SqL K H a xs ∧ xs[i]? = some x
  | .t a, i, H => ∃ xs x, SqT K H a xs ∧ xs[i]? = some x
  | .s z, i, _ => i < z.cps.size
def kyl (K : Fr0) : Sq → Nat → Hp → V → Prop
  | .l a, i, H, x => ∀ xs, SqL K H a xs → xs[i]? = some x
  | .t a, i, H, x => ∀ xs, SqT K H a xs → xs[i]? = some x
  | .s z, i, _, x => ∃ c, z.cps[i]? = some c ∧ x = .str ⟨#[c]⟩
def kst (K : Fr0) : Sq → Nat → Hp → Prop
  | .l a, i, H => ∃ xs, SqL K H a xs ∧ xs.length ≤ i
  | .t a, i, H => ∃ xs, SqT K H a xs ∧ xs.length ≤ i
  | .s z, i, _ => z.cps.size ≤ i
def kit (it : Addr) : Sq → Nat → Heap → Prop
  | .l a, i, h => h.IsListIter it a i
  | .t a, i, h => h.IsTupleIter it a i
  | .s z, i, h => ∃ tk, h.IsStrIter it (strIterType z) z tk i
theorem kit_obj {it : Addr} {q : Sq} {i : Nat} {h : Heap} (k : kit it q i h) : ∃ o n vs, h.get? it = some o ∧ o.cls = .type n ∧ o.data = .fields vs ∧ n ≠ "enumerate" ∧ n ≠ "list" ∧ n ≠ "tuple" := by
  cases q with
  | l a =>
    obtain ⟨o, e, c, d⟩ := k
    exact ⟨o, _, _, e, c, d, by decide, by decide, by decide⟩
  | t a =>
    obtain ⟨o, e, c, d⟩ := k
    exact ⟨o, _, _, e, c, d, by decide, by decide, by decide⟩
  | s z =>
    obtain ⟨tk, o, e, c, d⟩ := k
    refine ⟨o, _, _, e, c, d, ?_, ?_, ?_⟩ <;> (unfold strIterType; split <;> decide)
theorem kit_keep {it : Addr} {q : Sq} {i : Nat} {h h' : Heap} (k : kit it q i h) (e : ∀ o, h.get? it = some o → h'.get? it = some o) : kit it q i h' := by
  cases q with
  | l a => obtain ⟨o, a, r⟩ := k; exact ⟨o, e o a, r⟩
  | t a => obtain ⟨o, a, r⟩ := k; exact ⟨o, e o a, r⟩
  | s z => obtain ⟨tk, o, a, r⟩ := k; exact ⟨tk, o, e o a, r⟩
theorem isList_cls {h : Heap} {a : Addr} {xs : Array Value} (k : h.IsList a xs) : ∃ o, h.get? a = some o ∧ o.cls = .type "list" := by
  obtain ⟨o, e, c, _⟩ := k
  exact ⟨o, e, c⟩
theorem isTuple_cls {h : Heap} {a : Addr} {xs : Array Value} (k : h.IsTuple a xs) : ∃ o, h.get? a = some o ∧ o.cls = .type "tuple" := by
  obtain ⟨o, e, c, _⟩ := k
  exact ⟨o, e, c⟩
theorem ne_cls {h : Heap} {a b : Addr} {n m : String} (x : ∃ o, h.get? a = some o ∧ o.cls = .type n) (y : ∃ o, h.get? b = some o ∧ o.cls = .type m) (ne : n ≠ m) : a ≠ b := by
  rintro rfl
  obtain ⟨o, e, c⟩ := x
  obtain ⟨o', e', c'⟩ := y
  rw [e] at e'
  cases e'
  rw [c] at c'
  injection c' with c'
  exact ne c'
/-- what an iterator draws, as it stands -/
theorem kdraws {X : Cx} {pins : List (Addr × Obj)} {σ : L2.St} {H : Hp} {s : Shared} {q : Sq} {it e : Addr} {i : Nat} (hc : X.calm = true) (I : Inv X pins σ H s) (k : kit it q i s.heap) (he : ∃ o, s.heap.get? e = some o ∧ o.cls = .type "enumerate") :
    (kgo X.K q i H → ∃ n Pd fpD St, Draws X.prog X.w X.A.in1 it fpD n Pd St ∧ i < n ∧ St i s.heap ∧ e ∉ fpD ∧ (∀ h, St (i + 1) h → kit it q (i + 1) h) ∧ ∀ v, Pd i v → ∃ x, RelV x v ∧ kyl X.K q i H x) ∧
    (kst X.K q i H → kgo X.K q i H ∨ ∃ n Pd fpD St, Draws X.prog X.w X.A.in1 it fpD n Pd St ∧ St n s.heap) := by
  obtain ⟨o, n, vs, eo, co, dd, n1, n2, n3⟩ := kit_obj k
  have hei : e ≠ it := ne_cls he ⟨o, eo, co⟩ (Ne.symm n1)
  cases q with
  | l a =>
    constructor
    · rintro ⟨xs, x, hq, hx⟩
      obtain ⟨its, rv, p, hz⟩ := I.list hq
      have pl := p.isList
      have hne : a ≠ it := ne_cls (isList_cls pl) ⟨o, eo, co⟩ (Ne.symm n2)
      have hae : e ≠ a := ne_cls he (isList_cls pl) (by decide)
      refine ⟨_, _, _, _, Draws.list (A := X.A.in1) (I.ok.hd hc) it a hne its.toArray, ?_, ⟨k, pl⟩, by simp [hei, hae], fun h st => st.1, fun v hv => ?_⟩
      · obtain ⟨u, hu, ru⟩ := rv.get hx
        have := (List.getElem?_eq_some_iff.mp hu).1
        simpa using this
      · have hv' : its[i]? = some v := by simpa using hv
        obtain ⟨u, hu, ru⟩ := rv.get hx
        rw [hu] at hv'
        cases hv'
        exact ⟨x, ru, fun ys hy => by rw [I.list_inj hy hq]; exact hx⟩
    · rintro ⟨xs, hq, hx⟩
      obtain ⟨its, rv, p, hz⟩ := I.list hq
      have pl := p.isList
      have hne : a ≠ it := ne_cls (isList_cls pl) ⟨o, eo, co⟩ (Ne.symm n2)
      right
      have hl := rv.length
      refine ⟨i, fun _ _ => False, [it, a], fun j h => j = i ∧ h.IsListIter it a i ∧ h.IsList a its.toArray, ⟨fun _ _ st => let ⟨o, ho, _⟩ := st.2.1; ⟨o, ho⟩, fun _ _ _ st hk => ⟨st.1, st.2.1.at fun o e => hk it (by simp) o e, st.2.2.at fun o e => hk a (by simp) o e⟩, fun j s Q E hj st hQ => by omega, fun s Q E st hE => wpAny_nextOf_list_end (I.ok.hd hc) st.2.1 st.2.2 (by simp; omega) hE⟩, rfl, k, pl⟩
  | t a =>
    constructor
    · rintro ⟨xs, x, hq, hx⟩
      obtain ⟨its, rv, p, hz⟩ := I.tuple hq
      have pl : s.heap.IsTuple a its.toArray := p
      have hne : a ≠ it := ne_cls (isTuple_cls pl) ⟨o, eo, co⟩ (Ne.symm n3)
      have hae : e ≠ a := ne_cls he (isTuple_cls pl) (by decide)
      refine ⟨_, _, _, _, Draws.tuple (A := X.A.in1) (I.ok.hd hc) it a hne its.toArray, ?_, ⟨k, pl⟩, by simp [hei, hae], fun h st => st.1, fun v hv => ?_⟩
      · obtain ⟨u, hu, ru⟩ := rv.get hx
        have := (List.getElem?_eq_some_iff.mp hu).1
        simpa using this
      · have hv' : its[i]? = some v := by simpa using hv
        obtain ⟨u, hu, ru⟩ := rv.get hx
        rw [hu] at hv'
        cases hv'
        exact ⟨x, ru, fun ys hy => by rw [I.tuple_inj hy hq]; exact hx⟩
    · rintro ⟨xs, hq, hx⟩
      obtain ⟨its, rv, p, hz⟩ := I.tuple hq
      have pl : s.heap.IsTuple a its.toArray := p
      right
      have hl := rv.length
      refine ⟨i, fun _ _ => False, [it, a], fun j h => j = i ∧ h.IsTupleIter it a i ∧ h.IsTuple a its.toArray, ⟨fun _ _ st => let ⟨o, ho, _⟩ := st.2.1; ⟨o, ho⟩, fun _ _ _ st hk => ⟨st.1, st.2.1.at fun o e => hk it (by simp) o e, st.2.2.at fun o e => hk a (by simp) o e⟩, fun j s Q E hj st hQ => by omega, fun s Q E st hE => wpAny_nextOf_tuple_end (I.ok.hd hc) st.2.1 st.2.2 (by simp; omega) hE⟩, rfl, k, pl⟩
  | s z =>
    obtain ⟨tk, k⟩ := k
    constructor
    · intro hi
      refine ⟨_, _, _, _, Draws.text (A := X.A.in1) (I.ok.hd hc) it z tk, hi, k, by simp [hei], fun h st => ⟨tk, st⟩, fun v hv => ?_⟩
      obtain ⟨c, u, hx, rfl⟩ := hv
      exact ⟨.str ⟨#[c]⟩, ⟨u, rfl⟩, c, hx, rfl⟩
    · intro hi
      by_cases h : i < z.cps.size
      · exact .inl h
      · right
        have D := Draws.text (A := X.A.in1) (prog := X.prog) (w := X.w) (I.ok.hd hc) it z tk
        have hx : z.cps[i]? = none := Array.getElem?_eq_none (by omega)
        refine ⟨i, fun _ _ => False, [it], fun j h => j = i ∧ h.IsStrIter it (strIterType z) z tk i, ⟨fun _ _ st => let ⟨o, ho, _⟩ := st.2; ⟨o, ho⟩, fun _ _ _ st hk => ⟨st.1, let ⟨o, ho, r⟩ := st.2; ⟨o, hk it (by simp) o ho, r⟩⟩, fun j s Q E hj st hQ => by omega, fun s Q E st hE => ?_⟩, rfl, k⟩
        have st2 := st.2
        unfold strIterType at st2
        split at st2
        · exact wpAny_nextOf_ascii_end (I.ok.hd hc) st2 hx hE
        · exact wpAny_nextOf_wide_end (I.ok.hd hc) st2 hx hE
def IteF (K : Fr0) (q : Sq) (k0 : Int) : It :=
  ⟨kgo K q, fun i H v H' => ∃ T x, v = .ref T ∧ H T = none ∧ H' = upd H T (.tup [.int (k0 + (i : Nat)), x]) ∧ kyl K q i H x, kst K q⟩
theorem turn_enumF {P : Program} {w : World} {K : Fr0} {elts : List Expr} {kk : Nat} {tpos : Pos} (q : Sq) (k0 : Int) (e it : Addr) :
    Turn P w K (.Tuple elts kk tpos) (IteF K q k0) [e, it] e (fun i h => (∃ old, IsEnum h e it (k0 + ((i : Nat) : Int)) old) ∧ kit it q i h ∧ e ≠ it) where
  mem := by simp
  obj := fun i h st b hb => by
    obtain ⟨⟨old, he⟩, hk, _⟩ := st
    obtain ⟨o, n, vs, ho, hc, hd, _⟩ := kit_obj hk
    have e' : b = e ∨ b = it := by simpa using hb
    rcases e' with z | z
    · rw [z]; exact ⟨_, he, fun v q => nomatch q⟩
    · rw [z]; exact ⟨o, ho, fun v q => by rw [hd] at q; cases q⟩
  keep := fun i h h' st k => let ⟨⟨old, he⟩, hi, hne⟩ := st; ⟨⟨old, k e (by simp) _ he⟩, kit_keep hi fun o q => k it (by simp) o q, hne⟩
  item := by
    intro X hP hw hK hc i pins s σ H E I hf st hg
    subst hP hw hK
    obtain ⟨⟨old, he⟩, hit, hne⟩ := st
    obtain ⟨n, Pd, fpD, St, D, hlt, hst, hef, hnx, hyl⟩ := (kdraws (e := e) hc I hit ⟨_, he, rfl⟩).1 hg
    have hel : e < s.heap.objs.size := Heap.lt_size he
    have hil : it < s.heap.objs.size := by obtain ⟨_, _, _, q, _⟩ := kit_obj hit; exact Heap.lt_size q
    refine wpAny_pyNext_enum_itemC D he hst hlt hne hef fun u h' tk hP ho hst' hT hsz hk => ?_
    obtain ⟨x, ru, hx⟩ := hyl u hP
    refine ⟨_, rfl, wpAny_letOwnedTupleGo_enum (s := { s with heap := h', toks := tk + 1 }) ho fun h'' he' sb => ?_⟩
    have hT2 : h''.get? s.heap.objs.size = some { cls := .type "tuple", data := .seq #[.int (k0 + (i : Nat)) tk, u] } := (sb.2 _ (Nat.ne_of_gt hel)).trans hT
    have new : ObjOk X.prog X.w (upd H s.heap.objs.size (.tup [.int (k0 + (i : Nat)), x])) h'' s.heap.objs.size (.tup [.int (k0 + (i : Nat)), x]) :=
      ⟨by show 2 ≤ sizeLine; decide, [.int (k0 + (i : Nat)) tk, u], .cons ⟨_, rfl⟩ (.cons ru .nil), ⟨_, hT2, rfl, _, rfl⟩⟩
    have I1 : Inv X pins σ (upd H s.heap.objs.size (.tup [.int (k0 + (i : Nat)), x])) { s with heap := h'', toks := tk + 1 } :=
      I.turnedNew (ch := [e, it]) (fun b ob hb q => (sb.2 b (fun z => hb (by simp [z]))).trans (hk b ob (fun z => hb (by simp [z])) (fun z => hb (by simp [z])) q)) hf (Nat.le_refl _) new
    refine ⟨.ref s.heap.objs.size, _, I1, rfl, ⟨_, x, rfl, I.hok.fresh (Nat.le_refl _), rfl, hx⟩, ⟨⟨u, ?_⟩, kit_keep (hnx _ hst') fun o q => (sb.2 it (Ne.symm hne)).trans q, hne⟩, fun b hb => ?_⟩
    · have e1 : k0 + ((i + 1 : Nat) : Int) = k0 + (i : Int) + 1 := by omega
      rw [e1]; exact he'
    · have hb' : b < s.heap.objs.size := by
        have e' : b = e ∨ b = it := by simpa using hb
        rcases e' with z | z
        · rw [z]; exact hel
        · rw [z]; exact hil
      rw [upd_ne (Nat.ne_of_lt hb')]
      exact (hf b hb).1
  done := by
    intro X hP hw hK hc i pins s σ H E I hf st hg
    subst hP hw hK
    obtain ⟨⟨old, he⟩, hit, hne⟩ := st
    obtain ⟨f0, f1, f2, f3, f4, f5⟩ := hf it (by simp)
    have nog : ¬ kgo X.K q i H := fun g => by
      cases q with
      | l a =>
        obtain ⟨xs, x, h1, h2⟩ := g
        obtain ⟨ys, h3, h4⟩ := hg
        rw [I.list_inj h1 h3] at h2
        have := (List.getElem?_eq_some_iff.mp h2).1
        omega
      | t a =>
        obtain ⟨xs, x, h1, h2⟩ := g
        obtain ⟨ys, h3, h4⟩ := hg
        rw [I.tuple_inj h1 h3] at h2
        have := (List.getElem?_eq_some_iff.mp h2).1
        omega
      | s z =>
        have h1 : i < z.cps.size := g
        have h2 : z.cps.size ≤ i := hg
        omega
    obtain ⟨n, Pd, fpD, St, D, hst⟩ := ((kdraws (e := e) hc I hit ⟨_, he, rfl⟩).2 hg).resolve_left nog
    exact wpAny_pyNext_enum_endD D he hst fun h' eb => ⟨rfl, I.turned (t' := s.toks) (fun b o hb q => eb b o hb q) f0 f1 f3 f4 f5⟩
  self := fun A i s Q E st h => let ⟨⟨_, he⟩, _⟩ := st; wpAny_pyIter_enum he h
/-- a value that can be gone through -/
def ksrc (K : Fr0) (H : Hp) (v : V) : Sq → Prop
  | .l a => v = .ref a ∧ ∃ xs, SqL K H a xs
  | .t a => v = .ref a ∧ ∃ xs, SqT K H a xs
  | .s z => v = .str z
def kobj (v : Value) : Sq → Obj
  | .l a => { cls := .type "list_iterator", data := .fields #[.ref a, .int 0 0] }
  | .t a => { cls := .type "tuple_iterator", data := .fields #[.ref a, .int 0 0] }
  | .s z => { cls := .type (strIterType z), data := .fields #[v, .int 0 0] }
theorem kbegins {X : Cx} {pins : List (Addr × Obj)} {σ : L2.St} {H : Hp} {s : Shared} {q : Sq} {v : V} {u : Value} (I : Inv X pins σ H s) (r : RelV v u) (k : ksrc X.K H v q) : ∃ B, Begins u (kobj u q) B ∧ B s.heap ∧ ∀ h it, h.get? it = some (kobj u q) → kit it q 0 h := by
  cases q with
  | l a =>
    obtain ⟨rfl, xs, hq⟩ := k
    obtain ⟨its, rv, p, hz⟩ := I.list hq
    cases r
    exact ⟨_, begins_list a its.toArray, p.isList, fun h it e => ⟨_, e, rfl, rfl⟩⟩
  | t a =>
    obtain ⟨rfl, xs, hq⟩ := k
    obtain ⟨its, rv, p, hz⟩ := I.tuple hq
    cases r
    exact ⟨_, begins_tuple a its.toArray, p, fun h it e => ⟨_, e, rfl, rfl⟩⟩
  | s z =>
    cases k
    obtain ⟨t, rfl⟩ := r
    exact ⟨_, begins_text z t, trivial, fun h it e => ⟨t, _, e, rfl, rfl⟩⟩
set_option maxHeartbeats 1000000 in
theorem meets_enumerate_newB1 {v : Value} {o : Obj} {H : Heap → Prop} (B : Begins v o H) :
    Meets (Builtin.«enumerate.__new__» ⟨[.type "enumerate", v], []⟩) (fun _ R s => H s.heap ∧
      R (.ok (.ret (.ref (s.heap.push o).objs.size))) { s with heap := (s.heap.push o).push { cls := .type "enumerate", data := .fields #[.none, .bool false, .ref s.heap.objs.size, rawInt 0, .none, .none] } }) :=
  .of_wp fun prog w A R s h => by
    obtain ⟨hp, g, d, tk, os⟩ := s; obtain ⟨h1, h⟩ := h
    have hsub := sub_enumerate
    have q1 : ∀ {A' : Around} {E : Value → Shared → Prop} {Q : Value → Shared → Prop}, Q (.ref hp.objs.size) ⟨hp.push o, g, d, tk, os⟩ → wpAny (model prog w) A' (pyIter v) Q E ⟨hp, g, d, tk, os⟩ :=
      fun q => B.iter prog w _ _ ⟨hp, g, d, tk, os⟩ _ h1 q
    wp_walk using q1
    refine wpAny_stack_any fun st => wpAny_pure ?_
    split
    · rename_i c _ _ _ _ _
      cases (c == Value.type "enumerate")
      · wp_walk using q1
        exact ⟨_, rfl, h⟩
      · wp_walk using q1
        exact ⟨_, rfl, h⟩
    · wp_walk using q1
      exact ⟨_, rfl, h⟩
section
variable {prog : Program} {w : World} {A : Around} {E : Value → Shared → Prop} {s : Shared}
theorem enum_begins1 {v : Value} {o : Obj} {H : Heap → Prop} {Q : Value → Shared → Prop} (B : Begins v o H) (h1 : H s.heap)
    (h : ∀ h', IsEnum h' (s.heap.objs.size + 1) s.heap.objs.size 0 .none → h'.get? s.heap.objs.size = some o → h'.objs.size = s.heap.objs.size + 2 →
      (∀ b o, s.heap.get? b = some o → h'.get? b = some o) → Q (.ref (s.heap.objs.size + 1)) { s with heap := h' }) :
    wpAny (model prog w) A (call (.type "enumerate") [v]) Q E s := by
  refine callType_new F.called_enumerate (by decide) (F.typeCall_enumerate_1 _) (F.newCall_enumerate_1 _) (fun obj => F.args_object_init_2 obj _) F.entry_enumerate_new
    (meets_enumerate_newB1 B) ⟨h1, ?_⟩
  have hz : (s.heap.push o).objs.size = s.heap.objs.size + 1 := Heap.size_push ..
  show _ ∧ _
  rw [hz]
  have he : IsEnum ((s.heap.push o).push { cls := .type "enumerate", data := .fields #[.none, .bool false, .ref s.heap.objs.size, rawInt 0, .none, .none] }) (s.heap.objs.size + 1) s.heap.objs.size 0 .none := by
    have := Heap.get?_push_size (s.heap.push o) (o := { cls := .type "enumerate", data := .fields #[.none, .bool false, .ref s.heap.objs.size, rawInt 0, .none, .none] }) rfl
    rw [hz] at this; exact this
  refine ⟨⟨_, he, rfl⟩, h _ he (Heap.get?_push_of_some _ (Heap.get?_push_size _ B.free)) (by rw [Heap.size_push, hz]) fun b o x => Heap.get?_push_of_some _ (Heap.get?_push_of_some _ x)⟩
end
section
variable [KK] {X : Cx} {e a b c tg : Expr} {pos p tpos : Pos} {elts : List Expr} {kk : Nat} {ms : MA}
def iEnumA (K : Fr0) (ta : TA) : TI := fun σ H R => ta σ H fun vs H1 => ∃ v q, vs = [v] ∧ ksrc K H1 v q ∧ R (IteF K q 0) H1
def iEnumB (K : Fr0) (ta : TA) : TI := fun σ H R => ta σ H fun vs H1 => ∃ v q k, vs = [v, .int k] ∧ (-(2 ^ 62) ≤ k ∧ k < 2 ^ 62) ∧ ksrc K H1 v q ∧ R (IteF K q k) H1
theorem enum_pie {pins : List (Addr × Obj)} {σ : L2.St} {H : Hp} {s : Shared} {q : Sq} {v : V} {u : Value} {k0 : Int} {R : It → Hp → Prop} {h' : Heap} (I : Inv X pins σ H s) (hit : ∀ h it, h.get? it = some (kobj u q) → kit it q 0 h)
    (he : IsEnum h' (s.heap.objs.size + 1) s.heap.objs.size k0 .none) (hi : h'.get? s.heap.objs.size = some (kobj u q)) (hk : ∀ b o, s.heap.get? b = some o → h'.get? b = some o) (r : R (IteF X.K q k0) H) :
    PIE X pins σ (.Tuple elts kk tpos) R (.ref (s.heap.objs.size + 1)) { s with heap := h' } := by
  have I2 : Inv X pins σ H { s with heap := h' } := I.kept (t' := s.toks) hk
  refine ⟨s.heap.objs.size + 1, [s.heap.objs.size + 1, s.heap.objs.size], _, _, H, rfl, I2, turn_enumF q k0 (s.heap.objs.size + 1) s.heap.objs.size, ⟨⟨.none, ?_⟩, hit _ _ hi, Nat.succ_ne_self _⟩, fun b hb => ?_, r⟩
  · have e0 : k0 + ((0 : Nat) : Int) = k0 := by omega
    show IsEnum h' _ _ (k0 + ((0 : Nat) : Int)) _
    rw [e0]
    exact he
  · have e' : b = s.heap.objs.size + 1 ∨ b = s.heap.objs.size := by simpa using hb
    have hle : s.heap.objs.size ≤ b := by
      rcases e' with z | z
      · rw [z]; exact Nat.le_add_right _ _
      · rw [z]; exact Nat.le_refl _
    exact I.fpOk hle (I.hok.fresh hle)
theorem pi_enumA {ta : TA} (hg : Gl X "enumerate") (hm : X.mg "enumerate" = none) (ha : PA X [e] ta) (hs : starEach [e] X.env = [(false, eval e X.env)] := by rfl) :
    PI X (.Tuple elts kk tpos) (.Call (.Name "enumerate" p) [e] [] pos) (iEnumA X.K ta) := by
  refine ⟨fun pins s σ H R I h => ?_⟩
  refine Call_ (ld_blt I hg hm boot_enumerate (PyProof.Rows.callWith_type1 (thn (ha.run pos pins s σ H _ I h) fun us s1 ⟨vs, H1, I1, r1, q1⟩ => ?_) hs rfl))
  obtain ⟨v, q, ex, hq, qq⟩ := q1
  subst ex
  cases r1 with
  | cons r rr =>
    cases rr
    obtain ⟨B, hB, b1, hit⟩ := kbegins I1 r hq
    exact enum_begins1 hB b1 fun h' he hi hsz hk => wpAny_pyIter_enum he (enum_pie (v := v) I1 hit he hi hk qq)
theorem pi_enumB {ta : TA} (hg : Gl X "enumerate") (hm : X.mg "enumerate" = none) (ha : PA X [a, b] ta) (hs : starEach [a, b] X.env = [(false, eval a X.env), (false, eval b X.env)] := by rfl) (hs2 : starEach [b] X.env = [(false, eval b X.env)] := by rfl) :
    PI X (.Tuple elts kk tpos) (.Call (.Name "enumerate" p) [a, b] [] pos) (iEnumB X.K ta) := by
  refine ⟨fun pins s σ H R I h => ?_⟩
  refine Call_ (ld_blt I hg hm boot_enumerate (PyProof.Rows.callWith_type1 (thn (ha.run pos pins s σ H _ I h) fun us s1 ⟨vs, H1, I1, r1, q1⟩ => ?_) (by rw [hs, hs2]) (by rw [hs2]; rfl)))
  obtain ⟨v, q, k, ex, hk62, hq, qq⟩ := q1
  subst ex
  cases r1 with
  | cons r rr =>
    cases rr with
    | cons r' rr =>
      cases rr
      obtain ⟨t, rfl⟩ := r'
      obtain ⟨B, hB, b1, hit⟩ := kbegins I1 r hq
      exact enum_begins hB b1 (by omega) (by omega) fun h' he hi hsz hk => wpAny_pyIter_enum he (enum_pie (v := v) I1 hit he hi hk qq)
/-- what the loop gets -/
theorem wk_enumF {K : Fr0} {F : Hp} {q : Sq} {k0 : Int} {ds : List D} (hgo : ∀ i H, i < ds.length → Same F H → kgo K q i H) (hst : ∀ H, Same F H → kst K q ds.length H)
    (hyl : ∀ i H x, i < ds.length → Same F H → kyl K q i H x → ∃ d, ds[i]? = some d ∧ Dv F x d) : Wk (IteF K q k0) F (enumL k0 ds) := by
  refine ⟨fun i H hi s => ?_, fun H s => ?_, fun i F1 H x H' hi s1 s2 y => ?_⟩
  · rw [enumL_len] at hi
    exact hgo i H hi s
  · rw [enumL_len]
    exact hst H s
  · rw [enumL_len] at hi
    obtain ⟨T, z, rfl, hT, rfl, y⟩ := y
    obtain ⟨d, e1, dv⟩ := hyl i H z hi (s1.trans s2) y
    exact ⟨_, _, enumL_get k0 ds i _ e1, post_tup s2 hT (dvs2 (.int _) (dv.mono s1))⟩
theorem src_of {K : Fr0} {F H : Hp} {v : V} {d : D} {ds : List D} (hF : Same F H) (dv : Dv F v d) (e : itemsD d = some ds) : ∃ q, ksrc K H v q ∧ ∀ k0, Wk (IteF K q k0) F (enumL k0 ds) := by
  cases d with
  | list xs =>
    cases e
    cases dv with
    | lst hx dvs =>
      refine ⟨.l _, ⟨rfl, _, .of (hF _ _ hx)⟩, fun k0 => wk_enumF (fun i H hi s => ?_) (fun H s => ⟨_, .of (s _ _ hx), by rw [dvs.len]; exact Nat.le_refl _⟩) fun i H x hi s y => ?_⟩
      · obtain ⟨w, hw, _⟩ := dvs.get (List.getElem?_eq_getElem hi)
        exact ⟨_, w, .of (s _ _ hx), hw⟩
      · obtain ⟨w, hw, dw⟩ := dvs.get (List.getElem?_eq_getElem hi)
        have := y _ (.of (s _ _ hx))
        rw [hw] at this
        cases this
        exact ⟨_, List.getElem?_eq_getElem hi, dw⟩
  | tuple xs =>
    cases e
    cases dv with
    | tup hx dvs =>
      refine ⟨.t _, ⟨rfl, _, .of (hF _ _ hx)⟩, fun k0 => wk_enumF (fun i H hi s => ?_) (fun H s => ⟨_, .of (s _ _ hx), by rw [dvs.len]; exact Nat.le_refl _⟩) fun i H x hi s y => ?_⟩
      · obtain ⟨w, hw, _⟩ := dvs.get (List.getElem?_eq_getElem hi)
        exact ⟨_, w, .of (s _ _ hx), hw⟩
      · obtain ⟨w, hw, dw⟩ := dvs.get (List.getElem?_eq_getElem hi)
        have := y _ (.of (s _ _ hx))
        rw [hw] at this
        cases this
        exact ⟨_, List.getElem?_eq_getElem hi, dw⟩
  | str z =>
    cases e
    cases dv
    refine ⟨.s z, rfl, fun k0 => wk_enumF (fun i H hi s => by rw [charsD_len] at hi; exact hi) (fun H s => by rw [charsD_len]; exact Nat.le_refl _) fun i H x hi s y => ?_⟩
    obtain ⟨c, hc, rfl⟩ := y
    refine ⟨.str ⟨#[c]⟩, ?_, .str _⟩
    unfold charsD
    rw [List.getElem?_map, Array.getElem?_toList, hc]
    rfl
  | none => cases e
  | bool _ => cases e
  | int _ => cases e
  | dict _ => cases e
def enumA : List D → Option (List D)
  | [d] => (itemsD d).map (enumL 0)
  | _ => none
def enumB : List D → Option (List D)
  | [d, .int k] => if i62 k = true then (itemsD d).map (enumL k) else none
  | _ => none
def mEnumA (ms : MA) : MI := fun ρ => do
  let (ds, ρ1) ← ms ρ
  let es ← enumA ds
  some (es, ρ1)
def mEnumB (ms : MA) : MI := fun ρ => do
  let (ds, ρ1) ← ms ρ
  let es ← enumB ds
  some (es, ρ1)
theorem mi_enumA (hg : Gl X "enumerate") (hm : X.mg "enumerate" = none) (ha : MAs X [a] ms) (hs : starEach [a] X.env = [(false, eval a X.env)] := by rfl) : MIt X (.Tuple elts kk tpos) (.Call (.Name "enumerate" p) [a] [] pos) (mEnumA ms) := ⟨(pi_enumA hg hm ha.ok hs).imq fun σ H R q => by
  obtain ⟨F, G, b, ρ, hr, ds, ρ', e, k⟩ := q
  obtain ⟨⟨ds1, ρ1⟩, e1, e⟩ := bind_some e
  obtain ⟨es, e2, e⟩ := bind_some e
  cases e
  refine ⟨F, G, b, ρ, hr, ds1, _, e1, fun F1 H1 vs s1 c1 h1 dvs => ?_⟩
  match ds1, dvs, e2 with
  | [d], .cons dv .nil, e2 =>
    obtain ⟨xs, e3, e4⟩ := map_some (show (itemsD d).map (enumL 0) = some ds from e2)
    subst e4
    obtain ⟨q, hq, wk⟩ := src_of (K := X.K) h1.fh dv e3
    exact ⟨_, q, rfl, hq, k F1 H1 _ s1 c1 h1 (wk 0)⟩⟩
theorem mi_enumB (hg : Gl X "enumerate") (hm : X.mg "enumerate" = none) (ha : MAs X [a, c] ms) (hs : starEach [a, c] X.env = [(false, eval a X.env), (false, eval c X.env)] := by rfl) (hs2 : starEach [c] X.env = [(false, eval c X.env)] := by rfl) :
    MIt X (.Tuple elts kk tpos) (.Call (.Name "enumerate" p) [a, c] [] pos) (mEnumB ms) := ⟨(pi_enumB hg hm ha.ok hs hs2).imq fun σ H R q => by
  obtain ⟨F, G, b, ρ, hr, ds, ρ', e, k⟩ := q
  obtain ⟨⟨ds1, ρ1⟩, e1, e⟩ := bind_some e
  obtain ⟨es, e2, e⟩ := bind_some e
  cases e
  refine ⟨F, G, b, ρ, hr, ds1, _, e1, fun F1 H1 vs s1 c1 h1 dvs => ?_⟩
  match ds1, dvs, e2 with
  | [d, .int n], .cons dv (.cons (.int _) .nil), e2 =>
    obtain ⟨hn, e2⟩ := ite_some' (show (if i62 n = true then (itemsD d).map (enumL n) else none) = some ds from e2)
    obtain ⟨xs, e3, e4⟩ := map_some e2
    subst e4
    obtain ⟨q, hq, wk⟩ := src_of (K := X.K) h1.fh dv e3
    have b62 := i62_ok hn
    exact ⟨_, q, n, rfl, b62, hq, k F1 H1 _ s1 c1 h1 (wk n)⟩⟩
/-! ### texts and tuples of texts of the module -/
theorem me_gstr {x : Str} {z : Str} (hd : ∃ u, X.mg x = some u ∧ RelV (.str z) u) (hg : Gl X x) (hdb : (x == ("__debug__" : Str)) = false := by decide) : ME X (.Name x p) (mC (.str z)) := by
  obtain ⟨u, hm, r⟩ := hd
  exact me_const (pe_glob hg hm r hdb) fun _ => .str _
/-- a tuple of texts of the module -/
def KtAt (K : Fr0) (mg : Str → Option Value) (x : Str) (L : List Str) : Prop := ∃ (a : Addr) (o : Obj) (its : Array Value) (n : Nat), mg x = some (.ref a) ∧ K.lookup a = some o ∧ o.cls = .type "tuple" ∧ o.dict = none ∧ o.data = .seq its n ∧ its.size ≤ sizeLine ∧ Vals (L.map V.str) its.toList
theorem KtAt.sq {K : Fr0} {mg : Str → Option Value} {x : Str} {L : List Str} (h : KtAt K mg x L) : ∃ a, mg x = some (.ref a) ∧ (∃ o, K.lookup a = some o ∧ o.cls = .type "tuple" ∧ o.dict = none) ∧ ∀ H, SqT K H a (L.map V.str) := by
  obtain ⟨a, o, its, n, e, h1, h2, h3, h4, h5, h6⟩ := h
  exact ⟨a, e, ⟨o, h1, h2, h3⟩, fun H => .inr ⟨o, its, n, h1, h2, h4, h5, h6⟩⟩
def ktD (L : List Str) : D → Option R
  | .int i => (atI L i).map fun z => .sh (.str z)
  | _ => none
theorem atI_map {α β : Type} (f : α → β) (xs : List α) (i : Int) : atI (xs.map f) i = (atI xs i).map f := by
  unfold atI
  rw [List.length_map]
  cases ixN xs.length i with
  | none => rfl
  | some j =>
    show (xs.map f)[j]? = (xs[j]?).map f
    rw [List.getElem?_map]
theorem me_kt {L : List Str} {x : Str} {m : MR} (hd : KtAt KK.K X.mg x L) (hg : Gl X x) (hb : ME X b m) (hs : PlainIx b) (hK : X.K = KK.K := by rfl) (hdb : (x == ("__debug__" : Str)) = false := by decide) : ME X (.Subscript (.Name x p) b pos) (mUn (ktD L) m) := by
  obtain ⟨d, hm, _, hk⟩ := hd.sq
  rw [← hK] at hk
  refine ⟨(pe_ix ix_tup (pe_glob (v := .ref d) hg hm rfl hdb) hb.ok hs).imq fun σ H Q q => ?_⟩
  obtain ⟨F, G, b', ρ, hr, r', ρ', e, k⟩ := q
  obtain ⟨⟨r1, ρ1⟩, e1, e⟩ := bind_some e
  obtain ⟨d1, e3, e⟩ := bind_some e
  obtain ⟨z, e5, e⟩ := bind_some e
  cases e
  refine (show tM m σ H (fun y H2 => rIxT X.K (.ref d) y H2 Q) from ⟨F, G, b', ρ, hr, r1, _, e1, fun F1 H1 v1 s1 c1 h1 k1 => ?_⟩)
  have bd := k1.bd h1 e3
  match d1, bd, e5 with
  | .int i, bd, e5 =>
    obtain ⟨y, e6, e7⟩ := map_some (show (atI L i).map (fun z => R.sh (.str z)) = some r' from e5)
    subst e7
    exact ⟨d, _, i, .str y, rfl, bd.int, hk _, by rw [atI_map, e6]; rfl, k F1 H1 _ s1 c1 h1 (.str y)⟩
def ktIdx (L : List Str) : D → Option R
  | .str z => (idxS z L).map fun j => .sh (.int (j : Nat))
  | _ => none
theorem me_ktIndex {L : List Str} {x : Str} {m : MR} {apos cpos : Pos} (hd : KtAt KK.K X.mg x L) (hg : Gl X x) (he : ME X b m) (hK : X.K = KK.K := by rfl) (hdb : (x == ("__debug__" : Str)) = false := by decide)
    (hbase : attributeBase (.Name x p) "index" X.env (eval (.Name x p) X.env) = eval (.Name x p) X.env := by rfl)
    (hfew : ((backTo cpos (starEach (b :: []) X.env)).all (fun x => !x.1) && (backToKw cpos (keywordEach [] X.env)).all (fun x => x.1.isSome)
      && decide ((b :: ([] : List Expr)).length + ([] : List Keyword).length + (if ([] : List Keyword).isEmpty then 0 else 1) < 30)) = true := by rfl)
    (hline : (apos.endLine == cpos.line) = true := by rfl) (hs : starEach (b :: []) X.env = (false, eval b X.env) :: starEach [] X.env := by rfl) (hplain : (backTo cpos (starEach [] X.env)).any (·.1) = false := by rfl) :
    ME X (.Call (.Attribute (.Name x p) "index" apos) [b] [] cpos) (mUn (ktIdx L) m) := by
  obtain ⟨d, hm, ⟨o, o1, o2, o3⟩, hk⟩ := hd.sq
  rw [← hK] at hk o1
  refine ⟨(pe_bm PySem.F.plainAttrs_tuple PySem.F.slot_tuple_index PySem.F.type_tuple_index mt_tup_index (pe_glob (v := .ref d) hg hm rfl hdb) (pa_cons he.ok pa_nil hs) hbase hfew hline hs hplain).imq fun σ H Q q => ?_⟩
  obtain ⟨F, G, b', ρ, hr, r', ρ', e, k⟩ := q
  obtain ⟨⟨r1, ρ1⟩, e1, e⟩ := bind_some e
  obtain ⟨d1, e3, e⟩ := bind_some e
  obtain ⟨z, e5, e⟩ := bind_some e
  cases e
  refine ⟨.inr (.inl ⟨rfl, o, o1, o2, o3⟩), F, G, b', ρ, hr, r1, _, e1, fun F1 H1 v1 s1 c1 h1 k1 => ?_⟩
  have bd := k1.bd h1 e3
  match d1, bd, e5 with
  | .str y, bd, e5 =>
    obtain ⟨j, e6, e7⟩ := map_some (show (idxS y L).map (fun j => R.sh (.int (j : Nat))) = some r' from e5)
    subst e7
    obtain ⟨o5, o6⟩ := idxS_ok e6
    exact ⟨d, L, y, j, rfl, by rw [bd.str], hk _, o5, fun m hm q => (o6 m y hm q) rfl, k F1 H1 _ s1 c1 h1 (.int _)⟩
theorem me_ktLen {L : List Str} {x ln : Str} {q : Pos} (hd : KtAt KK.K X.mg x L) (hg : Gl X x) (hg2 : Gl X ln) (hm2 : X.mg ln = none) (hv : bootBuiltins ln = some (.builtin "len")) (hK : X.K = KK.K := by rfl) (hdb : (x == ("__debug__" : Str)) = false := by decide) (hn : ln ≠ "__name__" := by decide) (hdb2 : (ln == ("__debug__" : Str)) = false := by decide)
    (hs : starEach ((.Name x q) :: []) X.env = (false, eval (.Name x q) X.env) :: starEach [] X.env := by rfl) (hpl : (backTo pos (starEach [] X.env)).any (·.1) = false := by rfl) : ME X (.Call (.Name ln p) [.Name x q] [] pos) (mC (.int (L.length : Nat))) := by
  obtain ⟨d, hm, _, hk⟩ := hd.sq
  rw [← hK] at hk
  refine ⟨(pe_callB call_len_seq hg2 hm2 hv (pa_cons (pe_glob (v := .ref d) hg hm rfl hdb) pa_nil hs) hn hdb2 hs hpl).imq fun σ H Q q => ?_⟩
  obtain ⟨F, G, b', ρ, hr, r', ρ', e, k⟩ := q
  cases e
  refine ⟨d, L.map V.str, rfl, .inr (hk _), ?_⟩
  rw [List.length_map]
  exact k F H _ (.refl _) (.refl _ _) hr (.int _)
end
end Mi
set_option Elab.async false
set_option linter.all false
set_option maxRecDepth 100000
/-! Ev13: equations for Core13. -/
namespace Mi
open PySem PySem.Spec PyProof.Rows L2
section
variable {ρ : En} {e : M} {ma mb m : MR} {it : MI} {g : MG} {t : MB} {el : MR} {vs : List Nat} {mas : MA}
@[simp] theorem mEnumA_c : mEnumA mas (e :: ρ) = bnd (mas (e :: ρ)) fun x => bnd (enumA x.1) fun ds => some (ds, x.2) := (rfl)
@[simp] theorem mEnumB_c : mEnumB mas (e :: ρ) = bnd (mas (e :: ρ)) fun x => bnd (enumB x.1) fun ds => some (ds, x.2) := (rfl)
end
@[simp] theorem enumA_1 (d : D) : enumA [d] = (itemsD d).map (enumL 0) := (rfl)
@[simp] theorem enumB_1 (d : D) (k : Int) : enumB [d, .int k] = if i62 k = true then (itemsD d).map (enumL k) else none := (rfl)
@[simp] theorem ktD_i (L : List Str) (i : Int) : ktD L (.int i) = (atI L i).map fun z => .sh (.str z) := (rfl)
@[simp] theorem ktIdx_s (L : List Str) (z : Str) : ktIdx L (.str z) = (idxS z L).map fun j => .sh (.int (j : Nat)) := (rfl)
end Mi
set_option Elab.async false
set_option linter.all false
set_option maxRecDepth 100000
/-! Core14: text.split, text.replace of written texts, a written dict's get, in of tuples and texts. -/
namespace Mi
open PySem PySem.Spec PyProof.Rows L2
section
variable [KK] {X : Cx} {e a b c o f tg : Expr} {pos p tpos apos : Pos} {ma mb m mo : MR} {ms : MA} {es : List Expr}
theorem hu1 {k : Nat} {A : Around} (hr : Room k A) : A.units + 1 < cLine := by
  have := hr.un
  omega
/-! ### text.split -/
def splitD : D → D → Option R
  | .str a, .str b => if b.length ≠ 0 ∧ a.length ≤ lim then some (.fr ((Txt.split a b).map .str)) else none
  | _, _ => none
theorem me_split (ho : ME X a ma) (he : ME X b mb) (hs : starEach [b] X.env = [(false, eval b X.env)] := by rfl) (hbase : attributeBase a "split" X.env (eval a X.env) = eval a X.env := by rfl) (hline : (apos.endLine == pos.line) = true := by rfl) :
    ME X (.Call (.Attribute a "split" apos) [b] [] pos) (mM1 splitD ma mb) := ⟨(pe_m1 PySem.F.slot_str_split PySem.F.type_str_split mt_split ho.ok he.ok hs hbase hline).imq (tM_m1 fun F H v1 v2 d1 d2 k s b1 b2 e Q q => by
  match d1, d2, e, b1, b2 with
  | .str a, .str b, e, b1, b2 =>
    obtain ⟨⟨h1, h2⟩, rfl⟩ := ite_some (show (if b.length ≠ 0 ∧ a.length ≤ lim then some (R.fr ((Txt.split a b).map .str)) else none) = some k from e)
    refine ⟨a, b, b1.str, by rw [b2.str], by simpa using h1, ?_, fun p hp => q _ _ _ (post_fr s hp (Dvs.of_strs _))⟩
    rw [sizeLine_eq]
    have : a.length ≤ 1000000 := h2
    omega)⟩
/-! ### in -/
def inTD : D → List D → Option Bool
  | .int i, ds => (intsD ds).map fun ns => ns.any fun n => decide (n = i)
  | .str x, ds => (strsD ds).map fun ns => ns.any fun n => decide (n = x)
  | _, _ => none
def inSD : D → Str → Option Bool
  | .str x, z => match x.cps.toList with
    | [c] => some (decide (c ∈ z.cps.toList))
    | _ => none
  | _, _ => none
def inGD (a : D) : D → Option Bool
  | .list ds => inD a (.list ds)
  | .tuple ds => inTD a ds
  | .str z => inSD a z
  | _ => none
theorem inV_ints (i : Int) (ns : List Int) : inV (.int i) (ns.map V.int) = ns.any fun n => decide (n = i) := by
  unfold inV
  rw [List.any_map]
  rfl
theorem inV_strs (x : Str) (ns : List Str) : inV (.str x) (ns.map V.str) = ns.any fun n => decide (n = x) := by
  unfold inV
  rw [List.any_map]
  congr 1
theorem in_tup {F H : Hp} {v1 v2 : V} {d1 : D} {ds : List D} {k : Bool} (s : Same F H) (b1 : Bd F H v1 d1) (b2 : Bd F H v2 (.tuple ds)) (e : inTD d1 ds = some k) (hK : X.K = KK.K) :
    ∃ p xs, v2 = .ref p ∧ (SqL X.K H p xs ∨ SqT X.K H p xs) ∧ flatV v1 = true ∧ xs.all flatV = true ∧ inV v1 xs = k := by
  obtain ⟨p, vs, rfl, h, x⟩ := b2.tup
  match d1, b1, e with
  | .int i, b1, e =>
    obtain ⟨ns, e1, e2⟩ := map_some (show (intsD ds).map (fun ns => ns.any fun n => decide (n = i)) = some k from e)
    rw [intsD_eq e1] at x
    have hv := b1.int
    subst hv
    refine ⟨p, vs, rfl, .inr (.of (s _ _ h)), rfl, ?_, ?_⟩
    · rw [x.ints]; exact all_flat_int ns
    · rw [x.ints, inV_ints]; exact e2
  | .str z, b1, e =>
    obtain ⟨ns, e1, e2⟩ := map_some (show (strsD ds).map (fun ns => ns.any fun n => decide (n = z)) = some k from e)
    rw [strsD_eq e1] at x
    have hv := b1.str
    subst hv
    refine ⟨p, vs, rfl, .inr (.of (s _ _ h)), rfl, ?_, ?_⟩
    · rw [x.strs]; exact all_flat_str ns
    · rw [x.strs, inV_strs]; exact e2
theorem in_sign {F H : Hp} {v1 : V} {d1 : D} {z : Str} {k : Bool} (b1 : Bd F H v1 d1) (e : inSD d1 z = some k) : ∃ c : Nat, v1 = .str ⟨#[c]⟩ ∧ decide (c ∈ z.cps.toList) = k := by
  match d1, b1, e with
  | .str x, b1, e =>
    have e' : (match x.cps.toList with
      | [c] => some (decide (c ∈ z.cps.toList))
      | _ => none) = some k := e
    cases q : x.cps.toList with
    | nil => rw [q] at e'; cases e'
    | cons c r =>
      cases r with
      | cons _ _ => rw [q] at e'; cases e'
      | nil =>
        rw [q] at e'
        refine ⟨c, ?_, Option.some.inj e'⟩
        rw [b1.str]
        congr 1
        obtain ⟨l⟩ := x
        congr 1
        exact Array.toList_inj.mp q
theorem cmp_inG (hu : X.A.units + 65 < cLine) (hK : X.K = KK.K := by rfl) : CmpOk X .In inGD := ⟨_, ((op_inD hu).or op_in_seq).or op_in_sign, fun F H v1 v2 d1 d2 k s b1 b2 e Q q => by
  match d2, e, b2 with
  | .list ds, e, b2 =>
    obtain ⟨⟨h1, h2⟩, rfl⟩ := ite_some (show (if SeqAt.shaped d1 = true ∧ SeqAt.shaped (.list ds) = true then some (ds.any fun z => PyData.eqv z d1) else none) = some k from e)
    exact .inl (.inl ⟨d1, ds, b1.dp s (plain_of_shaped h1), b2.dp s (plain_of_shaped h2), h1, h2, q⟩)
  | .tuple ds, e, b2 =>
    obtain ⟨p, xs, e1, e2, e3, e4, e5⟩ := in_tup (X := X) s b1 b2 e hK
    exact .inl (.inr ⟨p, xs, e1, e2, e3, e4, by rw [e5]; exact q⟩)
  | .str z, e, b2 =>
    obtain ⟨c, e1, e2⟩ := in_sign b1 e
    exact .inr ⟨c, z, e1, b2.str, by rw [e2]; exact q⟩⟩
theorem cmp_notinG (hu : X.A.units + 65 < cLine) (hK : X.K = KK.K := by rfl) : CmpOk X .NotIn (fun a b => (inGD a b).map (!·)) := ⟨_, ((op_notInD hu).or op_notIn_seq).or op_notIn_sign, fun F H v1 v2 d1 d2 k s b1 b2 e Q q => by
  obtain ⟨k', e0, rfl⟩ := map_some e
  clear e
  have e : inGD d1 d2 = some k' := e0
  clear e0
  match d2, e, b2 with
  | .list ds, e, b2 =>
    obtain ⟨⟨h1, h2⟩, rfl⟩ := ite_some (show (if SeqAt.shaped d1 = true ∧ SeqAt.shaped (.list ds) = true then some (ds.any fun z => PyData.eqv z d1) else none) = some k' from e)
    exact .inl (.inl ⟨d1, ds, b1.dp s (plain_of_shaped h1), b2.dp s (plain_of_shaped h2), h1, h2, q⟩)
  | .tuple ds, e, b2 =>
    obtain ⟨p, xs, e1, e2, e3, e4, e5⟩ := in_tup (X := X) s b1 b2 e hK
    exact .inl (.inr ⟨p, xs, e1, e2, e3, e4, by rw [e5]; exact q⟩)
  | .str z, e, b2 =>
    obtain ⟨c, e1, e2⟩ := in_sign b1 e
    exact .inr ⟨c, z, e1, b2.str, by rw [e2]; exact q⟩⟩
/-! ### text.replace of written texts: a token is out -/
structure MEt (X : Cx) (e : Expr) (m : MR) : Prop where
  ok : PET X e (tM m)
structure MAt (X : Cx) (es : List Expr) (m : MA) : Prop where
  ok : PAT X es (tMA m)
structure ME1 (X : Cx) (e : Expr) (m : MR) : Prop where
  ok : ∀ (pins : List (Addr × Obj)) (s : Shared) (σ : L2.St) (H : Hp) (Q : VK), Inv X pins σ H s → tM m σ H Q → wpAny (model X.prog X.w) X.A (eval e X.env) (fun u s1 => 1 ≤ s1.toks ∧ EP X pins σ Q u s1) X.xe s
theorem met_of (h : ME X e m) : MEt X e m := ⟨CwR.PET.of h.ok⟩
theorem mat_nil : MAt X [] aNil := ⟨fun pos pins s σ H Q _ I q => (ma_nil (X := X)).ok.run pos pins s σ H Q I q⟩
theorem tMA_cons {m : MR} {ms : MA} (σ : L2.St) (H : Hp) (Q : List V → Hp → Prop) (q : tMA (aCons m ms) σ H Q) : tCons (tM m) (tMA ms) σ H Q := by
  obtain ⟨F, G, b, ρ, h0, ds, ρ', e, k⟩ := q
  obtain ⟨⟨d, ρ1⟩, e1, e⟩ := bind_some e
  obtain ⟨⟨ds2, ρ2⟩, e2, e⟩ := bind_some e
  cases e
  obtain ⟨⟨r, ρ0⟩, e0, e1⟩ := bind_some e1
  refine ⟨F, G, b, ρ, h0, r, ρ0, e0, fun F1 H1 v1 s1 c1 h1 k1 => ?_⟩
  obtain ⟨F2, s2, c2, h2, dv⟩ := cap_ok h1 k1 e1
  exact ⟨F2, G, b, ρ1, h2, ds2, ρ', e2, fun F3 H3 vs s3 c3 h3 dvs => k F3 H3 _ (s1.trans (s2.trans s3)) (c1.trans (c2.trans c3)) h3 (.cons (dv.mono s3) dvs)⟩
theorem mat_cons (ha : MEt X e m) (hr : MAt X es ms) (hs : starEach (e :: es) X.env = (false, eval e X.env) :: starEach es X.env := by rfl) : MAt X (e :: es) (aCons m ms) :=
  ⟨fun pos pins s σ H Q h0 I q => pat_cons ha.ok hr.ok hs pos pins s σ H Q h0 I (tMA_cons σ H Q q)⟩
/-- the first item gives out a token -/
theorem ma_consT (ha : ME1 X e m) (hr : MAt X es ms) (hs : starEach (e :: es) X.env = (false, eval e X.env) :: starEach es X.env := by rfl) : MAs X (e :: es) (aCons m ms) := by
  refine ⟨⟨fun pos pins s σ H Q I q => ?_⟩⟩
  have q1 := tMA_cons σ H Q q
  rw [hs]
  show wpAny _ _ (spliced ((false, eval e X.env) :: backTo pos (starEach es X.env))) _ _ s
  refine Calls.spliced_cons (thn (ha.ok pins s σ H _ I q1) fun v s1 q2 => ?_)
  obtain ⟨hk, x, H1, I1, r1, q1⟩ := q2
  exact thn (hr.ok pos pins s1 σ H1 _ hk I1 q1) fun us s2 ⟨xs, H2, I2, r2, q2⟩ => ⟨x :: xs, H2, I2, .cons r1 r2, q2⟩
theorem me1_const {x : Str} {j : Nat} {p : Pos} : ME1 X (.Constant (.str x) j p) (mC (.str x)) := ⟨fun pins s σ H Q I q => by
  obtain ⟨F, G, b', ρ, hr, rr, ρ', e, k⟩ := q
  cases e
  exact Calls.Constant_str ⟨Nat.succ_le_succ (Nat.zero_le _), .str x, H, I.tok _, ⟨s.toks, rfl⟩, k F H (.str x) (.refl _) (.refl _ _) hr (.str x)⟩⟩
theorem me1_l {op : Operator} {g : D → D → Option R} (ob : BinOk X op g) (ha : ME1 X a ma) (hb : ME X b mb) : ME1 X (.BinOp a op b pos) (mBin g ma mb) := by
  obtain ⟨r, h1, h2⟩ := ob.ex
  refine ⟨fun pins s σ H Q I q => ?_⟩
  have q1 : tM ma σ H fun x H1 => tM mb σ H1 fun y H2 => r x y H2 Q := tM_bin h2 σ H Q q
  refine wpAny_BinOp (thn (ha.ok pins s σ H _ I q1) fun v s1 z => ?_)
  obtain ⟨hk, x, H1, I1, rx, q2⟩ := z
  refine wpAny_mono (PySem.wpAny_toks (hb.ok.run pins s1 σ H1 _ I1 q2)) (fun u s2 z => ?_) fun _ _ z => z.2
  obtain ⟨hk2, y, H2, I2, ry, q3⟩ := z
  refine wpAny_mono (PySem.wpAny_toks (h1 pins s2 σ H2 x y v u Q I2 rx ry q3)) (fun v s3 z => ?_) fun _ _ z => z.2
  exact ⟨by have := z.1; omega, z.2⟩
theorem me1_r {op : Operator} {g : D → D → Option R} (ob : BinOk X op g) (ha : ME X a ma) (hb : ME1 X b mb) : ME1 X (.BinOp a op b pos) (mBin g ma mb) := by
  obtain ⟨r, h1, h2⟩ := ob.ex
  refine ⟨fun pins s σ H Q I q => ?_⟩
  have q1 : tM ma σ H fun x H1 => tM mb σ H1 fun y H2 => r x y H2 Q := tM_bin h2 σ H Q q
  refine wpAny_BinOp (thn (ha.ok.run pins s σ H _ I q1) fun v s1 z => ?_)
  obtain ⟨x, H1, I1, rx, q2⟩ := z
  refine thn (hb.ok pins s1 σ H1 _ I1 q2) fun u s2 z => ?_
  obtain ⟨hk2, y, H2, I2, ry, q3⟩ := z
  refine wpAny_mono (PySem.wpAny_toks (h1 pins s2 σ H2 x y v u Q I2 rx ry q3)) (fun v s3 z => ?_) fun _ _ z => z.2
  exact ⟨by have := z.1; omega, z.2⟩
def replD (y z : Str) : D → Option R
  | .str x => if x.length + (x.length + 1) * z.length ≤ 1000000 then some (.sh (.str (Txt.replace x y z))) else none
  | _ => none
theorem met_repl {y z : Str} {j k : Nat} {c0 c1 : Pos} (ho : ME X o mo) (hyz : (y == z) = false := by decide)
    (hst : starEach [.Constant (.str y) j c0, .Constant (.str z) k c1] X.env = [(false, eval (.Constant (.str y) j c0) X.env), (false, eval (.Constant (.str z) k c1) X.env)] := by rfl)
    (hbase : attributeBase o "replace" X.env (eval o X.env) = eval o X.env := by rfl) (hline : (apos.endLine == pos.line) = true := by rfl) :
    MEt X (.Call (.Attribute o "replace" apos) [.Constant (.str y) j c0, .Constant (.str z) k c1] [] pos) (mUn (replD y z) mo) := ⟨fun pins s σ H Q h0 I q => by
  refine CwR.pet_replC ho.ok hyz hst hbase hline pins s σ H Q h0 I ?_
  obtain ⟨F, G, b, ρ, hr, r', ρ', e, k⟩ := q
  obtain ⟨⟨r1, ρ1⟩, e1, e⟩ := bind_some e
  obtain ⟨d1, e3, e⟩ := bind_some e
  obtain ⟨w, e5, e⟩ := bind_some e
  cases e
  refine ⟨F, G, b, ρ, hr, r1, _, e1, fun F1 H1 v1 s1 c1 h1 k1 => ?_⟩
  have bd := k1.bd h1 e3
  match d1, bd, e5 with
  | .str x, bd, e5 =>
    obtain ⟨hl, e6⟩ := ite_some (show (if x.length + (x.length + 1) * z.length ≤ 1000000 then some (R.sh (.str (Txt.replace x y z))) else none) = some r' from e5)
    subst e6
    exact ⟨x, bd.str, by omega, k F1 H1 _ s1 c1 h1 (.str _)⟩⟩
/-! ### a written dict of two texts: get -/
def litD (a x b y z : Str) : D → Option R
  | .str s => some (.sh (.str (if s = a then x else if s = b then y else z)))
  | _ => none
theorem me_lit2 {a x b y z : Str} {j1 j2 j3 j4 j5 : Nat} {p1 p2 p3 p4 p5 dp cpos : Pos} (hu : X.A.units + 1 < cLine) (he : ME X e m) (hab : a ≠ b := by decide)
    (m2 : M2 X (.Dict [some (.Constant (.str a) j1 p1), some (.Constant (.str b) j2 p2)] [.Constant (.str x) j3 p3, .Constant (.str y) j4 p4] dp) "get" apos e (.Constant (.str z) j5 p5) cpos := by exact ⟨rfl, rfl, rfl, rfl⟩) :
    ME X (.Call (.Attribute (.Dict [some (.Constant (.str a) j1 p1), some (.Constant (.str b) j2 p2)] [.Constant (.str x) j3 p3, .Constant (.str y) j4 p4] dp) "get" apos) [e, .Constant (.str z) j5 p5] [] cpos) (mUn (litD a x b y z) m) :=
  ⟨(pe_dget2 hu (pe_disp (pps_cons pe_str pe_str (pps_cons pe_str pe_str pps_nil)) (by rfl) (by rfl) (fun z => by cases z) (by simp)) he.ok pe_str m2).imq fun σ H Q q => by
    obtain ⟨F, G, b', ρ, hr, r', ρ', e, k⟩ := q
    obtain ⟨⟨r1, ρ1⟩, e1, e⟩ := bind_some e
    obtain ⟨d1, e3, e⟩ := bind_some e
    obtain ⟨w, e5, e⟩ := bind_some e
    cases e
    intro p hp
    have hm : mergeK [] [((.inr a : Key), V.str x), (.inr b, V.str y)] = [(.inr a, V.str x), (.inr b, V.str y)] := by
      have : ¬ (Sum.inr a : Key) = .inr b := fun z => hab (Sum.inr.inj z)
      simp [mergeK, putK, this]
    refine ⟨upd_same, [(.inr a, .str x), (.inr b, .str y)], rfl, by simp, p, rfl, .inl ⟨_, .inl upd_same⟩, ?_⟩
    rw [hm]
    obtain ⟨H0, hH0⟩ : ∃ H0, H0 = upd (upd H p (.dK [])) p (.dK [((.inr a : Key), V.str x), (.inr b, V.str y)]) := ⟨_, rfl⟩
    have at0 : H0 p = some (.dK [((.inr a : Key), V.str x), (.inr b, V.str y)]) := by rw [hH0]; exact upd_same
    have sHH : Same H H0 := fun q o e => by
      rw [hH0, upd_ne (ne_of_none e hp), upd_ne (ne_of_none e hp)]
      exact e
    rw [← hH0]
    have fp : F p = none := hr.fh.free hp
    have gp : G p = none := hr.gh.free hp
    have hr0 : Rp F G H0 b' σ ρ := hr.grow (.refl _) sHH (hr.fh.trans sHH) fun i q o eq => (hr.own_some o eq).elim fun _ h => h.2.1
    have gg : Same G (upd G p (.dK [((.inr a : Key), V.str x), (.inr b, V.str y)])) := fun q o e => by
      rw [upd_ne (ne_of_none e gp)]
      exact e
    have hr1 : Rp F (upd G p (.dK [((.inr a : Key), V.str x), (.inr b, V.str y)])) H0 b' σ ρ := hr0.more (fun q o e => by
      by_cases hq : q = p
      · subst hq
        rw [upd_same] at e
        rw [at0, e]
      · rw [upd_ne hq] at e
        exact hr0.gh _ _ e) (hr0.lg.trans gg) fun i q o eq => by
        obtain ⟨vs, h1, h2, h3⟩ := hr.own_some o eq
        have : q ≠ p := ne_of_none h1 hp
        rw [upd_ne this]
        exact h3
    refine ⟨F, _, b', ρ, hr1, r1, _, e1, fun F1 H1 v1 s1 c1 h1 k1 => ?_⟩
    have bd := k1.bd h1 e3
    have at1 : H1 p = some (.dK [((.inr a : Key), V.str x), (.inr b, V.str y)]) := h1.gh _ _ upd_same
    match d1, bd, e5 with
    | .str s, bd, e5 =>
      cases e5
      have hv := bd.str
      subst hv
      refine ⟨valV [((.inr a : Key), V.str x), (.inr b, V.str y)] (.inr s), DGet.k (k := .inr s) at1, ?_⟩
      have hval : (valV [((.inr a : Key), V.str x), (.inr b, V.str y)] (.inr s)).getD (V.str z) = V.str (if s = a then x else if s = b then y else z) := by
        by_cases h : s = a
        · subst h
          rw [if_pos rfl, valV_pos rfl]
          rfl
        · rw [if_neg h]
          by_cases h2 : s = b
          · subst h2
            have : ¬ (Sum.inr a : Key) = .inr s := fun z => hab (Sum.inr.inj z)
            simp [valV, List.find?_cons, this]
          · have n1 : ¬ (Sum.inr a : Key) = .inr s := fun z => h (Sum.inr.inj z).symm
            have n2 : ¬ (Sum.inr b : Key) = .inr s := fun z => h2 (Sum.inr.inj z).symm
            simp [valV, List.find?_cons, n1, n2, h2]
      rw [hval]
      exact k F1 H1 _ s1 (c1.less gg) (h1.less gg hr0.lg) (.str _)⟩
end
end Mi
set_option Elab.async false
set_option linter.all false
set_option maxRecDepth 100000
/-! Ev14: equations for Core14. -/
namespace Mi
open PySem PySem.Spec PyProof.Rows L2
@[simp] theorem splitD_s (a b : Str) : splitD (.str a) (.str b) = if b.length ≠ 0 ∧ a.length ≤ lim then some (.fr ((Txt.split a b).map .str)) else none := (rfl)
@[simp] theorem inGD_l (a : D) (ds : List D) : inGD a (.list ds) = inD a (.list ds) := (rfl)
@[simp] theorem inGD_t (a : D) (ds : List D) : inGD a (.tuple ds) = inTD a ds := (rfl)
@[simp] theorem inGD_s (a : D) (z : Str) : inGD a (.str z) = inSD a z := (rfl)
@[simp] theorem replD_s (x y z : Str) : replD y z (.str x) = if x.length + (x.length + 1) * z.length ≤ 1000000 then some (.sh (.str (Txt.replace x y z))) else none := (rfl)
@[simp] theorem litD_s (a x b y z s : Str) : litD a x b y z (.str s) = some (.sh (.str (if s = a then x else if s = b then y else z))) := (rfl)
end Mi
set_option Elab.async false
set_option linter.all false
set_option maxRecDepth 100000
/-! Core15: texts split and texts replaced, by lists of signs. -/
namespace Law
open PySem PySem.Spec PyProof.Rows L2 Mi
theorem split_sS {a b : List Nat} (hb : b ≠ []) (hk : b.all (· < 256) = true) : Txt.split (sS a) (sS b) = (TL.spl b 0 [] a).map sS := SX.split_S hb hk
theorem replS_any {y z : List Nat} {P : Nat → Prop} (hz : ∀ c ∈ z, P c) : ∀ (l : List Nat) (s : Nat), (∀ c ∈ l, P c) → (∀ c ∈ PySem.StrLaws.replS y z s l, P c) ∧ (PySem.StrLaws.replS y z s l).length ≤ l.length * (z.length + 1)
  | [], s, _ => by
    have : PySem.StrLaws.replS y z s [] = [] := by cases s <;> rfl
    rw [this]
    exact ⟨fun c h => (by cases h), by simp⟩
  | c :: r, s + 1, h => by
    have ih := replS_any (y := y) hz r s fun x hx => h x (List.mem_cons_of_mem _ hx)
    refine ⟨ih.1, Nat.le_trans ih.2 ?_⟩
    rw [List.length_cons]
    exact Nat.mul_le_mul_right _ (Nat.le_succ _)
  | c :: r, 0, h => by
    have hr := fun x hx => h x (List.mem_cons_of_mem _ hx)
    show (∀ x ∈ (if (c :: r).take y.length = y then z ++ PySem.StrLaws.replS y z (y.length - 1) r else c :: PySem.StrLaws.replS y z 0 r), P x) ∧ (if (c :: r).take y.length = y then z ++ PySem.StrLaws.replS y z (y.length - 1) r else c :: PySem.StrLaws.replS y z 0 r).length ≤ _
    rw [List.length_cons, Nat.succ_mul]
    by_cases q : (c :: r).take y.length = y
    · rw [if_pos q]
      have ih := replS_any (y := y) hz r (y.length - 1) hr
      refine ⟨fun x hx => ?_, ?_⟩
      · rcases List.mem_append.mp hx with hx | hx
        · exact hz x hx
        · exact ih.1 x hx
      · rw [List.length_append]
        have := ih.2
        omega
    · rw [if_neg q]
      have ih := replS_any (y := y) hz r 0 hr
      refine ⟨fun x hx => ?_, ?_⟩
      · rcases List.mem_cons.mp hx with rfl | hx
        · exact h _ List.mem_cons_self
        · exact ih.1 x hx
      · rw [List.length_cons]
        have := ih.2
        omega
theorem repl_ok {x y z : List Nat} {P : Nat → Prop} (hy : 1 ≤ y.length) (hx : ∀ c ∈ x, P c) (hz : ∀ c ∈ z, P c) : ∃ l, Txt.replace (sS x) (sS y) (sS z) = sS l ∧ (∀ c ∈ l, P c) ∧ l.length ≤ x.length * (z.length + 1) := by
  have e := PySem.StrLaws.replace_list (x := sS x) (y := sS y) (z := sS z) (by simpa using hy)
  rw [sS_list, sS_list, sS_list] at e
  have h := replS_any (y := y) hz x 0 hx
  refine ⟨PySem.StrLaws.replL y z x, ?_, h.1, h.2⟩
  rw [← e]
  exact (sS_of _).symm
end Law
set_option Elab.async false
set_option linter.all false
set_option maxRecDepth 100000
/-! Core16: a dict in a slot (keys whole numbers and texts): {}, d[k], d[k] = v, k in d, d.get(k, x). -/
namespace Mi
open PySem PySem.Spec PyProof.Rows L2
abbrev Ky := L2.Key
def keyD : D → Option Ky
  | .int i => some (.inl i)
  | .str x => some (.inr x)
  | _ => none
def valD (ks : List (Ky × D)) (k : Ky) : Option D := (ks.find? fun p => decide (p.1 = k)).map (·.2)
def putD (ks : List (Ky × D)) (k : Ky) (d : D) : List (Ky × D) := if (ks.any fun p => decide (p.1 = k)) = true then ks.map (fun p => if p.1 = k then (p.1, d) else p) else ks ++ [(k, d)]
def dctM : Option M → Option (List (Ky × D))
  | some (.dct ks) => some ks
  | _ => none
def dctE (ρ : En) (i : Nat) : Option (List (Ky × D)) := dctM ρ[i]?
section
variable [KK]
theorem DvK.len {F : Hp} : ∀ {xs : List (Ky × V)} {ks : List (Ky × D)}, DvK F xs ks → xs.length = ks.length := fun h => Paired.length h
theorem DvK.val {F : Hp} {k : Ky} : ∀ {xs : List (Ky × V)} {ks : List (Ky × D)}, DvK F xs ks → (valD ks k = none → valV xs k = none) ∧ (∀ d, valD ks k = some d → ∃ v, valV xs k = some v ∧ Dv F v d)
  | _, _, .nil => ⟨fun _ => rfl, fun d e => by cases e⟩
  | p :: xs, q :: ks, .cons r t => by
    have ih := DvK.val (k := k) t
    by_cases h : p.1 = k
    · have hq : q.1 = k := r.1.symm.trans h
      have e1 : valD (q :: ks) k = some q.2 := by simp [valD, List.find?_cons, hq]
      rw [e1, valV_pos h]
      exact ⟨fun e => (by cases e), fun d e => (by cases e; exact ⟨p.2, rfl, r.2⟩)⟩
    · have hq : ¬ q.1 = k := fun z => h (r.1.trans z)
      have e1 : valD (q :: ks) k = valD ks k := by simp [valD, List.find?_cons, hq]
      rw [e1, valV_neg h]
      exact ih
theorem DvK.any {F : Hp} {k : Ky} : ∀ {xs : List (Ky × V)} {ks : List (Ky × D)}, DvK F xs ks → (xs.any fun p => decide (p.1 = k)) = (ks.any fun p => decide (p.1 = k))
  | _, _, .nil => rfl
  | p :: xs, q :: ks, .cons r t => by rw [List.any_cons, List.any_cons, DvK.any t, r.1]
theorem DvK.map {F : Hp} {k : Ky} {v : V} {d : D} (dv : Dv F v d) : ∀ {xs : List (Ky × V)} {ks : List (Ky × D)}, DvK F xs ks → DvK F (xs.map fun p => if p.1 = k then (p.1, v) else p) (ks.map fun p => if p.1 = k then (p.1, d) else p)
  | _, _, .nil => .nil
  | p :: xs, q :: ks, .cons r t => by
    refine .cons ?_ (DvK.map dv t)
    show (if p.1 = k then (p.1, v) else p).1 = (if q.1 = k then (q.1, d) else q).1 ∧ Dv F (if p.1 = k then (p.1, v) else p).2 (if q.1 = k then (q.1, d) else q).2
    by_cases h : q.1 = k
    · rw [if_pos h, if_pos (r.1.trans h)]; exact ⟨r.1, dv⟩
    · rw [if_neg h, if_neg (fun z => h (r.1.symm.trans z))]; exact r
theorem DvK.snoc {F : Hp} {k : Ky} {v : V} {d : D} (dv : Dv F v d) : ∀ {xs : List (Ky × V)} {ks : List (Ky × D)}, DvK F xs ks → DvK F (xs ++ [(k, v)]) (ks ++ [(k, d)])
  | _, _, .nil => .cons ⟨rfl, dv⟩ .nil
  | _, _, .cons r t => .cons r (DvK.snoc dv t)
theorem DvK.put {F : Hp} {k : Ky} {v : V} {d : D} {xs : List (Ky × V)} {ks : List (Ky × D)} (h : DvK F xs ks) (dv : Dv F v d) : DvK F (putK xs k v) (putD ks k d) := by
  unfold putK putD
  rw [h.any]
  by_cases c : (ks.any fun p => decide (p.1 = k)) = true
  · rw [if_pos c, if_pos c]; exact h.map dv
  · rw [if_neg c, if_neg c]; exact h.snoc dv
theorem keyD_ok {F : Hp} {v : V} {d : D} {k : Ky} (dv : Dv F v d) (e : keyD d = some k) : v = kV k := by
  match d, e with
  | .int i, e => cases e; cases dv; rfl
  | .str x, e => cases e; cases dv; rfl
section
variable {F F' G H H' : Hp} {b : Fm} {σ : L2.St} {ρ : En} {i : Nat} {ks : List (Ky × D)}
theorem dct_ok (h : Rp F G H b σ ρ) (e : dctE ρ i = some ks) : OwnAt ρ i ∧ ∃ p vs, σ[i]? = some (some (.ref p)) ∧ H p = some (.dK vs) ∧ DvK F vs ks ∧ F p = none ∧ G p = none := by
  unfold dctE at e
  cases q : ρ[i]? with
  | none => rw [q] at e; cases e
  | some m =>
    rw [q] at e
    have s := h.slot i m q
    cases m with
    | no => cases e
    | sh d => cases e
    | own ds => cases e
    | io ds => cases e
    | lent ds => cases e
    | dct xs =>
      cases e
      exact ⟨.inr (.inr ⟨_, q⟩), s⟩
theorem dct_lt (e : dctE ρ i = some ks) : i < ρ.length := by
  unfold dctE at e
  by_cases h : i < ρ.length
  · exact h
  · rw [List.getElem?_eq_none (by omega)] at e
    cases e
/-- slot i's dict changes; all else stands -/
theorem Rp.putKV {p : Addr} {vs' : List (Ky × V)} {ks' : List (Ky × D)} (h : Rp F G H b σ ρ) (e : dctE ρ i = some ks) (es : σ[i]? = some (some (.ref p))) (x : DvK F vs' ks') : Rp F G (upd H p (.dK vs')) b σ (ρ.set i (.dct ks')) := by
  have hi := dct_lt e
  obtain ⟨o, p0, vs, es0, hp, _, fp, gp⟩ := dct_ok h e
  rw [es] at es0
  cases es0
  have oo : ∀ j, OwnAt (ρ.set i (.dct ks')) j → OwnAt ρ j := fun j oj => by
    rcases own_set2 oj with ⟨a, _⟩ | ⟨_, z⟩
    · rw [a]; exact o
    · exact z
  refine ⟨fun a u q => ?_, fun a u q => ?_, by rw [List.length_set]; exact h.len, fun j m q => ?_, fun j k q oj ok => h.ne j k q (oo j oj) (oo k ok), h.lg⟩
  · rw [upd_ne (ne_of_none q fp)]
    exact h.fh _ _ q
  · rw [upd_ne (ne_of_none q gp)]
    exact h.gh _ _ q
  · rcases get_set q with ⟨rfl, rfl⟩ | ⟨hj, q⟩
    · exact ⟨p, vs', es, upd_same, x, fp, gp⟩
    · have s := h.slot j m q
      have np : ∀ q', OwnAt ρ j → σ[j]? = some (some (.ref q')) → q' ≠ p := fun q' oj ej z => hj (h.ne j i p oj o (z ▸ ej) es)
      cases m with
      | no => trivial
      | sh d => exact s
      | own xs =>
        obtain ⟨q', vs, a, c, r⟩ := s
        exact ⟨q', vs, a, by rw [upd_ne (np q' (.inl ⟨_, q⟩) a)]; exact c, r⟩
      | io xs =>
        obtain ⟨a, vs, c, r⟩ := s
        exact ⟨a, vs, by rw [upd_ne (np b.b (.inr (.inl ⟨_, q⟩)) a)]; exact c, r⟩
      | dct xs =>
        obtain ⟨q', vs, a, c, r⟩ := s
        exact ⟨q', vs, a, by rw [upd_ne (np q' (.inr (.inr ⟨_, q⟩)) a)]; exact c, r⟩
      | lent xs => exact s
end
section
variable {X : Cx} {e ei value f : Expr} {y x : Str} {py pos apos cpos pos' : Pos} {i : Nat} {m mi mv mf : MR}
/-- {} -/
def sDNew (i : Nat) : MS' := fun ρ => if free1 ρ i = true then some (.nx, ρ.set i (.dct [])) else none
theorem ms_dnew (hN : X.N.Nodup) (hi : X.N[i]? = some x) (hx : Loc X.env.scope x) (hs : swapsWith (.Dict [] [] py) (some (.Name x pos')) pos.line X.env = pure false := by rfl) (hf : X.fn x = true ∨ X.env.scope.names.lookup x = some .local := by first | exact .inl rfl | exact .inr rfl | assumption) :
    MSt X (.Assign [.Name x pos'] (.Dict [] [] py) pos) (sDNew i) := ⟨(ps_set hN hi hx pe_dnewK hs hf).imq fun D σ H q => by
  obtain ⟨F, G, b, ρ, hr, o, ρ', e, k⟩ := q
  obtain ⟨hfr, e⟩ := ite_some e
  cases e
  intro p hp
  have hl := free1_lt hfr
  have h2 : Rp F G (upd H p (.dK [])) b σ ρ := hr.grow (.refl _) (same_upd hp) (hr.fh.trans (same_upd hp)) fun j q oj ej => (hr.own_some oj ej).elim fun _ z => z.2.1
  refine k F _ _ (.refl _) (.refl _ _) (h2.setDct hl upd_same .nil (hr.fh.free hp) (hr.gh.free hp) fun j oj ej => ?_)
  obtain ⟨u, a, _, _⟩ := hr.own_some oj ej
  rw [hp] at a
  cases a⟩
/-- d[k] -/
def mDGet (i : Nat) (mi : MR) : MR := fun ρ => do
  let _ ← dctE ρ i
  let (r, ρ1) ← mi ρ
  match r with
  | .sh d => do
    let k ← keyD d
    let ks ← dctE ρ1 i
    let z ← valD ks k
    some (.sh z, ρ1)
  | _ => none
theorem me_dget (hu : X.A.units + 1 < cLine) (hy : PE X (.Name y py) (tVar i)) (hi : ME X ei mi) (hs : NoSl ei := by intro _ _; rfl) : ME X (.Subscript (.Name y py) ei pos) (mDGet i mi) := ⟨(pe_dget hu hy hi.ok hs).imq fun σ H Q q => by
  obtain ⟨F, G, b, ρ, hr, r', ρ', e, k⟩ := q
  obtain ⟨w0, e0, e⟩ := bind_some e
  obtain ⟨⟨r, ρ1⟩, e1, e⟩ := bind_some e
  obtain ⟨_, p0, vs0, es0, a0, _⟩ := dct_ok hr e0
  refine ⟨.ref p0, es0, F, G, b, ρ, hr, r, ρ1, e1, fun F1 H1 v1 s1 c1 h1 k1 => ?_⟩
  match r, k1, e with
  | .sh d, k1, e =>
    obtain ⟨ky, e2, e⟩ := bind_some e
    obtain ⟨ks, e3, e⟩ := bind_some e
    obtain ⟨z, e4, e⟩ := bind_some e
    cases e
    obtain ⟨_, p1, vs, es1, a1, x1, _⟩ := dct_ok h1 e3
    rw [es0] at es1
    cases es1
    have hk := keyD_ok (show Dv F1 v1 d from k1) e2
    subst hk
    obtain ⟨v, ev, dv⟩ := (x1.val (k := ky)).2 z e4
    exact ⟨p0, v, rfl, by rw [← ev]; exact DGet.k a1, k F1 H1 v s1 c1 h1 dv⟩⟩
/-- k in d -/
def mDIn (neg : Bool) (i : Nat) (mi : MR) : MB := fun ρ => do
  let (r, ρ1) ← mi ρ
  match r with
  | .sh d => do
    let k ← keyD d
    let ks ← dctE ρ1 i
    some (xor neg (valD ks k).isSome, ρ1)
  | _ => none
theorem din_read {neg : Bool} {σ : L2.St} {H : Hp} {Q : Bool → Hp → Prop} (q : tMB (mDIn neg i mi) σ H Q) : tM mi σ H fun yv H1 => tVar i σ H1 fun xv H2 => ∃ a o, xv = .ref a ∧ DGet H2 a yv o ∧ Q (xor neg o.isSome) H2 := by
  obtain ⟨F, G, b, ρ, hr, r', ρ', e, k⟩ := q
  obtain ⟨⟨r, ρ1⟩, e1, e⟩ := bind_some e
  refine ⟨F, G, b, ρ, hr, r, ρ1, e1, fun F1 H1 v1 s1 c1 h1 k1 => ?_⟩
  match r, k1, e with
  | .sh d, k1, e =>
    obtain ⟨ky, e2, e⟩ := bind_some e
    obtain ⟨ks, e3, e⟩ := bind_some e
    cases e
    obtain ⟨_, p1, vs, es1, a1, x1, _⟩ := dct_ok h1 e3
    have hk := keyD_ok (show Dv F1 v1 d from k1) e2
    subst hk
    refine ⟨.ref p1, es1, p1, valV vs ky, rfl, DGet.k a1, ?_⟩
    have hiso : (valV vs ky).isSome = (valD ks ky).isSome := by
      cases q : valD ks ky with
      | none => rw [(x1.val (k := ky)).1 q]; rfl
      | some z =>
        obtain ⟨v, ev, _⟩ := (x1.val (k := ky)).2 z q
        rw [ev]; rfl
    rw [hiso]
    exact k F1 H1 s1 c1 h1
theorem mt_din (hu : X.A.units + 1 < cLine) (hy : PE X (.Name y py) (tVar i)) (hi : ME X ei mi) (hm : behindInMarks .In (.Name y py) = false := by with_unfolding_all rfl) : MT X (.Compare ei [.In] [.Name y py] pos) (mDIn false i mi) := ⟨(pt_cmp (pc_din hu hi.ok hy) hm).imq fun σ H Q q => by
  obtain ⟨F, G, b, ρ, hr, z⟩ := din_read q
  refine ⟨F, G, b, ρ, hr, ?_⟩
  obtain ⟨r, ρ1, e, z⟩ := z
  refine ⟨r, ρ1, e, fun F1 H1 v1 s1 c1 h1 k1 => ?_⟩
  obtain ⟨xv, ex, a, o, e1, g, w⟩ := z F1 H1 v1 s1 c1 h1 k1
  exact ⟨xv, ex, a, o, e1, g, _, rfl, by rw [Bool.false_xor] at w; exact w⟩⟩
theorem mt_dnotin (hu : X.A.units + 1 < cLine) (hy : PE X (.Name y py) (tVar i)) (hi : ME X ei mi) (hm : behindInMarks .NotIn (.Name y py) = false := by with_unfolding_all rfl) : MT X (.Compare ei [.NotIn] [.Name y py] pos) (mDIn true i mi) := ⟨(pt_cmp (pc_dnotin hu hi.ok hy) hm).imq fun σ H Q q => by
  obtain ⟨F, G, b, ρ, hr, z⟩ := din_read q
  refine ⟨F, G, b, ρ, hr, ?_⟩
  obtain ⟨r, ρ1, e, z⟩ := z
  refine ⟨r, ρ1, e, fun F1 H1 v1 s1 c1 h1 k1 => ?_⟩
  obtain ⟨xv, ex, a, o, e1, g, w⟩ := z F1 H1 v1 s1 c1 h1 k1
  exact ⟨xv, ex, a, o, e1, g, _, rfl, by rw [Bool.true_xor] at w; exact w⟩⟩
/-- d[k] = v -/
def sDPut (i : Nat) (mi mv : MR) : MS' := fun ρ => do
  let (d, ρ1) ← mCap mv ρ
  let _ ← dctE ρ1 i
  let (r, ρ2) ← mi ρ1
  match r with
  | .sh kd => do
    let k ← keyD kd
    let ks ← dctE ρ2 i
    if ks.length < lim then some (.nx, ρ2.set i (.dct (putD ks k d))) else none
  | _ => none
theorem ms_dput (hu : X.A.units + 1 < cLine) (hy : PE X (.Name y py) (tVar i)) (hi : ME X ei mi) (hv : ME X value mv) (hs : swapsWith value (some (.Subscript (.Name y py) ei pos')) pos.line X.env = pure false := by rfl) :
    MSt X (.Assign [.Subscript (.Name y py) ei pos'] value pos) (sDPut i mi mv) := ⟨(ps_dput hu hy hi.ok hv.ok hs).imq fun D σ H q => by
  obtain ⟨F, G, b, ρ, hr, o, ρ', e, k⟩ := q
  obtain ⟨⟨d, ρ1⟩, e1, e⟩ := bind_some e
  obtain ⟨w0, e0, e⟩ := bind_some e
  obtain ⟨⟨r, ρ2⟩, e2, e⟩ := bind_some e
  obtain ⟨⟨rv, ρ0⟩, e3, e1⟩ := bind_some e1
  refine ⟨F, G, b, ρ, hr, rv, ρ0, e3, fun F1 H1 v1 s1 c1 h1 k1 => ?_⟩
  obtain ⟨F2, s2, c2, h2, dv⟩ := cap_ok h1 k1 e1
  obtain ⟨_, p0, vs0, es0, a0, _⟩ := dct_ok h2 e0
  refine ⟨.ref p0, es0, F2, G, b, ρ1, h2, r, ρ2, e2, fun F3 H3 v3 s3 c3 h3 k3 => ?_⟩
  match r, k3, e with
  | .sh kd, k3, e =>
    obtain ⟨ky, e4, e⟩ := bind_some e
    obtain ⟨ks, e5, e⟩ := bind_some e
    obtain ⟨hl, e⟩ := ite_some e
    cases e
    obtain ⟨_, p1, vs, es1, a1, x1, f1, g1⟩ := dct_ok h3 e5
    rw [es0] at es1
    cases es1
    have hk := keyD_ok (show Dv F3 v3 kd from k3) e4
    subst hk
    refine ⟨p0, _, rfl, DPut.k a1 (by rw [x1.len]; exact lim_lt hl), ?_⟩
    exact k F3 _ σ (s1.trans (s2.trans s3)) (c1.trans (c2.trans c3)) (h3.putKV e5 es0 (x1.put (dv.mono s3)))⟩
/-- d.get(k, x) -/
def mDGetD (i : Nat) (mi mf : MR) : MR := fun ρ => do
  let _ ← dctE ρ i
  let (r, ρ1) ← mi ρ
  let (rf, ρ2) ← mf ρ1
  match r, rf with
  | .sh d, .sh x => do
    let k ← keyD d
    let ks ← dctE ρ2 i
    some (.sh ((valD ks k).getD x), ρ2)
  | _, _ => none
theorem me_dgetd (hu : X.A.units + 1 < cLine) (hy : PE X (.Name y py) (tVar i)) (hi : ME X ei mi) (hf : ME X f mf) (m2 : M2 X (.Name y py) "get" apos ei f cpos := by exact ⟨rfl, rfl, rfl, rfl⟩) :
    ME X (.Call (.Attribute (.Name y py) "get" apos) [ei, f] [] cpos) (mDGetD i mi mf) := ⟨(pe_dget2 hu hy hi.ok hf.ok m2).imq fun σ H Q q => by
  obtain ⟨F, G, b, ρ, hr, r', ρ', e, k⟩ := q
  obtain ⟨w0, e0, e⟩ := bind_some e
  obtain ⟨⟨r, ρ1⟩, e1, e⟩ := bind_some e
  obtain ⟨⟨rf, ρ2⟩, e2, e⟩ := bind_some e
  obtain ⟨_, p0, vs0, es0, a0, _⟩ := dct_ok hr e0
  refine ⟨.ref p0, es0, p0, rfl, .inl ⟨_, .inl a0⟩, F, G, b, ρ, hr, r, ρ1, e1, fun F1 H1 v1 s1 c1 h1 k1 => ⟨F1, G, b, ρ1, h1, rf, ρ2, e2, fun F2 H2 v2 s2 c2 h2 k2 => ?_⟩⟩
  match r, rf, k1, k2, e with
  | .sh d, .sh z, k1, k2, e =>
    obtain ⟨ky, e4, e⟩ := bind_some e
    obtain ⟨ks, e5, e⟩ := bind_some e
    cases e
    obtain ⟨_, p1, vs, es1, a1, x1, _⟩ := dct_ok h2 e5
    rw [es0] at es1
    cases es1
    have hk := keyD_ok (show Dv F1 v1 d from k1) e4
    subst hk
    refine ⟨valV vs ky, DGet.k a1, ?_⟩
    refine k F2 H2 _ (s1.trans s2) (c1.trans c2) h2 ?_
    cases q : valD ks ky with
    | none => rw [(x1.val (k := ky)).1 q]; exact k2
    | some z' =>
      obtain ⟨v, ev, dv⟩ := (x1.val (k := ky)).2 z' q
      rw [ev]
      exact dv⟩
end
end
end Mi
set_option Elab.async false
set_option linter.all false
set_option maxRecDepth 100000
/-! Ev16: equations for Core16. -/
namespace Mi
open PySem PySem.Spec PyProof.Rows L2
def shR : R → Option D
  | .sh d => some d
  | _ => none
@[simp] theorem shR_sh (d : D) : shR (.sh d) = some d := (rfl)
@[simp] theorem dctE_c (e : M) (ρ : En) (i : Nat) : dctE (e :: ρ) i = dctM (e :: ρ)[i]? := (rfl)
@[simp] theorem dctM_dct (ks : List (Ky × D)) : dctM (some (.dct ks)) = some ks := (rfl)
@[simp] theorem keyD_i (i : Int) : keyD (.int i) = some (.inl i) := (rfl)
@[simp] theorem keyD_s (x : Str) : keyD (.str x) = some (.inr x) := (rfl)
section
variable {e : M} {ρ : En} {i : Nat} {mi mv mf : MR}
@[simp] theorem sDNew_c : sDNew i (e :: ρ) = if free1 (e :: ρ) i = true then some (.nx, (e :: ρ).set i (.dct [])) else none := (rfl)
@[simp] theorem mDGet_c : mDGet i mi (e :: ρ) = bnd (dctE (e :: ρ) i) fun _ => bnd (mi (e :: ρ)) fun x => bnd (shR x.1) fun d => bnd (keyD d) fun k => bnd (dctE x.2 i) fun ks => bnd (valD ks k) fun z => some (.sh z, x.2) := by
  unfold mDGet
  cases dctE (e :: ρ) i with
  | none => rfl
  | some w =>
    cases h : mi (e :: ρ) with
    | none => rfl
    | some x =>
      obtain ⟨r, ρ1⟩ := x
      cases r <;> rfl
@[simp] theorem mDIn_c (neg : Bool) : mDIn neg i mi (e :: ρ) = bnd (mi (e :: ρ)) fun x => bnd (shR x.1) fun d => bnd (keyD d) fun k => bnd (dctE x.2 i) fun ks => some (xor neg (valD ks k).isSome, x.2) := by
  unfold mDIn
  cases h : mi (e :: ρ) with
  | none => rfl
  | some x =>
    obtain ⟨r, ρ1⟩ := x
    cases r <;> rfl
@[simp] theorem sDPut_c : sDPut i mi mv (e :: ρ) = bnd (mCap mv (e :: ρ)) fun v => bnd (dctE v.2 i) fun _ => bnd (mi v.2) fun x => bnd (shR x.1) fun d => bnd (keyD d) fun k => bnd (dctE x.2 i) fun ks => if ks.length < lim then some (.nx, x.2.set i (.dct (putD ks k v.1))) else none := by
  unfold sDPut
  cases h : mCap mv (e :: ρ) with
  | none => rfl
  | some v =>
    obtain ⟨d, ρ1⟩ := v
    show (dctE ρ1 i).bind _ = bnd (dctE ρ1 i) _
    cases dctE ρ1 i with
    | none => rfl
    | some w =>
      show (mi ρ1).bind _ = bnd (mi ρ1) _
      cases mi ρ1 with
      | none => rfl
      | some x =>
        obtain ⟨r, ρ2⟩ := x
        cases r <;> rfl
@[simp] theorem mDGetD_c : mDGetD i mi mf (e :: ρ) = bnd (dctE (e :: ρ) i) fun _ => bnd (mi (e :: ρ)) fun x => bnd (mf x.2) fun y => bnd (shR x.1) fun d => bnd (shR y.1) fun z => bnd (keyD d) fun k => bnd (dctE y.2 i) fun ks => some (.sh ((valD ks k).getD z), y.2) := by
  unfold mDGetD
  cases dctE (e :: ρ) i with
  | none => rfl
  | some w =>
    cases h : mi (e :: ρ) with
    | none => rfl
    | some x =>
      obtain ⟨r, ρ1⟩ := x
      show (mf ρ1).bind _ = bnd (mf ρ1) _
      cases mf ρ1 with
      | none => rfl
      | some y =>
        obtain ⟨r2, ρ2⟩ := y
        cases r <;> cases r2 <;> rfl
end
end Mi
set_option Elab.async false
set_option linter.all false
set_option maxRecDepth 100000
/-! Core17: xs[::-1] of a list or a tuple. -/
namespace HT
open PySem PySem.Spec PyProof.Rows L2
section
variable {prog : Program} {w : World} {A : Around} {E : Value → Shared → Prop} {s : Shared}
theorem sliceApplied_rev {sl : Addr} {vl vu vs : Value} {n : Nat} {Q : Int × Int × Nat → Shared → Prop} (hs : s.heap.IsSliceOf sl vl vu vs) (pl : IsPart vl none) (pu : IsPart vu none) (ps : IsPart vs (some (-1)))
    (h : Q ((n : Int) - 1, -1, n) s) : wpAny (model prog w) A (Builtin.Slice.sliceApplied (.ref sl) (pure (n : Int))) Q E s := by
  obtain ⟨os, hos, hcs, hds⟩ := id hs
  unfold Builtin.Slice.sliceApplied Builtin.Slice.sliceFields
  refine wpAny_bind (wpAny_bind (wpAny_field hos hds (x := vl) rfl (wpAny_bind (wpAny_field hos hds (x := vu) rfl (wpAny_bind (wpAny_field hos hds (x := vs) rfl (wpAny_pure ?_)))))))
  refine wpAny_bind (slicePart_ ps ?_)
  show wpAny _ _ (if ((-1 : Int) == 0) = true then _ else _) _ _ s
  rw [if_neg (by decide)]
  refine wpAny_bind (slicePart_ pl (wpAny_bind (slicePart_ pu (wpAny_bind (wpAny_pure ?_)))))
  show wpAny _ _ (pure ((n : Int) - 1, (-1 : Int), Builtin.Slice.slicePlaces ((n : Int) - 1) (-1) (-1))) _ _ s
  have e : Builtin.Slice.slicePlaces ((n : Int) - 1) (-1) (-1) = n := by
    unfold Builtin.Slice.slicePlaces
    have h1 : ¬ ((-1 : Int) > 0) := by decide
    rw [if_neg h1]
    by_cases h2 : (n : Int) - 1 > -1
    · rw [if_pos h2, show (- -1 : Int) = 1 by decide, Int.ediv_one]
      omega
    · rw [if_neg h2]
      omega
  rw [e]
  exact wpAny_pure h
theorem fm_congr {α β : Type} {f g : α → Option β} : ∀ {l : List α}, (∀ x ∈ l, f x = g x) → l.filterMap f = l.filterMap g
  | [], _ => rfl
  | x :: r, h => by
    rw [List.filterMap_cons, List.filterMap_cons, h x List.mem_cons_self, fm_congr fun y hy => h y (List.mem_cons_of_mem _ hy)]
theorem pick_rev (xs : Array Value) : ((List.range xs.size).filterMap fun (k : Nat) => xs[(((xs.size : Int) - 1) + (k : Int) * (-1)).toNat]?).toArray = xs.toList.reverse.toArray := by
  congr 1
  apply List.ext_getElem?
  intro i
  have key : ((List.range xs.size).filterMap fun (k : Nat) => xs[(((xs.size : Int) - 1) + (k : Int) * (-1)).toNat]?) = (List.range xs.size).filterMap fun k => xs.toList.reverse[k]? := by
    apply fm_congr
    intro k hk
    have hk' := List.mem_range.mp hk
    rw [List.getElem?_reverse (by simpa using hk'), show (((xs.size : Int) - 1) + (k : Int) * (-1)).toNat = xs.size - 1 - k by omega]
    simp
  rw [key]
  have h2 : (List.range xs.toList.reverse.length).filterMap (fun k => xs.toList.reverse[k]?) = xs.toList.reverse := by
    generalize xs.toList.reverse = l
    induction l with
    | nil => rfl
    | cons x r ih =>
      rw [List.length_cons, List.range_succ_eq_map, List.filterMap_cons]
      show x :: _ = x :: r
      rw [List.filterMap_map]
      congr 1
  rw [List.length_reverse, Array.length_toList] at h2
  rw [h2]
theorem getItem_tuple_rev {t sl : Addr} {items : Array Value} {vl vu vs : Value} {Q : Value → Shared → Prop} (ht : IsTup s.heap t items) (hs : s.heap.IsSliceOf sl vl vu vs) (pl : IsPart vl none) (pu : IsPart vu none) (ps : IsPart vs (some (-1)))
    (h : Q (.ref s.heap.objs.size) { s with heap := s.heap.push { cls := .type "tuple", data := .seq items.toList.reverse.toArray } })
    (hsz : items.size ≤ sizeLine) : wpAny (model prog w) A (getItem (.ref t) (.ref sl)) Q E s := by
  have htake : sizeOk (.seq items.toList.reverse.toArray) := by
    show items.toList.reverse.toArray.size ≤ sizeLine
    rw [List.size_toArray, List.length_reverse, Array.length_toList]
    omega
  obtain ⟨os, hos, hcs, hds⟩ := id hs
  have hTs : s.TypeIs (.ref sl) "slice" := ⟨os, hos, hcs⟩
  unfold getItem
  try with_reducible refine wpAny_holding ?_
  first | refine wpAny_bind (wpAny_pure ?_) | skip
  refine wpAny_bind (wpAny_sequenceKey ht.typeIs (by decide) ?_)
  refine wpAny_bind (wpAny_callSpecial?_slot (name := Str.ofString "__getitem__") ht.typeIs PyProof.Rows.slot_tuple_getitem
    (wpAny_call_entry PyProof.Rows.slot_tuple_getitem ht.typeIs PySem.F.entry_tuple_getitem ?_ (PySem.F.args_tuple_getitem_2 _ _)))
  show wpAny _ _ (Builtin.Tuple.tupleItemsOf (.ref t) >>= _) _ _ s
  refine wpAny_bind (tupleItemsOf_ ht ?_)
  refine wpAny_bind (wpAny_typeOf hTs ?_)
  rw [if_pos (by decide)]
  refine wpAny_bind (sliceApplied_rev hs pl pu ps ?_)
  have hno : ¬ ((((items.size : Int) - 1) == 0 && (-1 : Int) == 1 && items.size == items.size) = true) := by
    intro q
    rw [Bool.and_eq_true, Bool.and_eq_true] at q
    exact absurd q.1.2 (by decide)
  show wpAny _ _ (if (((items.size : Int) - 1) == 0 && (-1 : Int) == 1 && items.size == items.size) = true then _ else _) _ _ s
  rw [if_neg hno, pick_rev]
  first
    | exact wpAny_bind (m := Builtin.Tuple.tupleExact _) (wpAny_newObj_type (wpAny_pure ⟨_, rfl, wpAny_pure h⟩) htake)
    | exact wpAny_bind (m := Builtin.Tuple.tupleExact _) (wpAny_newObj_type (wpAny_bind (wpAny_pure (wpAny_pure ⟨_, rfl, wpAny_pure h⟩))) htake)
    | exact wpAny_bind (wpAny_bind (m := Builtin.Tuple.tupleExact _) (wpAny_newObj_type (wpAny_pure (wpAny_pure ⟨_, rfl, wpAny_pure h⟩)) htake))
    | exact wpAny_bind (wpAny_bind (m := Builtin.Tuple.tupleExact _) (wpAny_newObj_type (wpAny_pure ⟨_, rfl, wpAny_pure h⟩) htake))
end
end HT
namespace L2
open PySem PySem.Spec PyProof.Rows
section
variable {X : Cx}
def tRevA (K : PySem.W.Frag) (te : TE) : TE := fun σ H Q => te σ H fun x H1 => ∃ a xs, x = .ref a ∧ ((SqL K H1 a xs ∧ ∀ p, H1 p = none → Q (.ref p) (upd H1 p (.lst xs.reverse))) ∨ (SqT K H1 a xs ∧ ∀ p, H1 p = none → Q (.ref p) (upd H1 p (.tup xs.reverse))))
theorem pe_revA {e : Expr} {te : TE} {k : Nat} {p1 p2 p3 pos : Pos} (he : PE X e te) : PE X (.Subscript e (.Slice none none (some (.UnaryOp .USub (.Constant (.int 1) k p1) p2)) p3) pos) (tRevA X.K te) := by
  refine ⟨fun pins s σ H Q I h => ?_⟩
  refine Subscript_ (thn (he.run pins s σ H _ I h) fun v s1 ⟨x, H1, I1, r1, q1⟩ => ?_)
  obtain ⟨a, xs, ex, hq⟩ := q1
  subst ex
  cases r1
  have hst : PO X (some (.UnaryOp .USub (.Constant (.int 1) k p1) p2)) (tPart (tUn (rU fun i => .int (-i)) (tC (.int 1)))) := po_some (pe_un un_neg pe_int)
  refine wpAny_Slice (thn (po_none.run pins s1 σ H1 (fun o H2 => o = none ∧ H2 = H1) I1 ⟨rfl, rfl⟩) fun vl s2 ⟨l, H2, I2, pl, el, e2⟩ => ?_)
  subst el e2
  refine thn (po_none.run pins s2 σ H2 (fun o H3 => o = none ∧ H3 = H2) I2 ⟨rfl, rfl⟩) fun vu s3 ⟨u, H3, I3, pu, eu, e3⟩ => ?_
  subst eu e3
  refine thn (hst.run pins s3 σ H3 (fun o H4 => o = some (-1) ∧ H4 = H3) I3 ⟨1, rfl, -1, rfl, rfl, rfl⟩) fun vs s4 ⟨o, H4, I4, ps, eo, e4⟩ => ?_
  subst eo e4
  have I5 : Inv X pins σ H4 { s4 with heap := s4.heap.push { cls := .type "slice", data := .fields #[vl, vu, vs] } } := I4.kept (t' := s4.toks) fun b ob q => Heap.get?_push_of_some _ q
  show wpAny (model X.prog X.w) X.A (subscriptTail e (.Slice none none (some (.UnaryOp .USub (.Constant (.int 1) k p1) p2)) p3) (.ref a) (.ref s4.heap.objs.size)) (EP X pins σ Q) X.xe { s4 with heap := s4.heap.push { cls := .type "slice", data := .fields #[vl, vu, vs] } }
  rcases hq with ⟨hx, q⟩ | ⟨hx, q⟩
  · obtain ⟨its, r, ht, hz⟩ := I5.list hx
    have hlen := r.length
    refine tail_any (ops := [.ref a, .ref s4.heap.objs.size]) ht.isList.typeIs (PySem.slot_list_getitem.lookup) ?_ (by with_unfolding_all rfl)
    refine wpAny_getItem_list_slice ht.isList (Heap.IsSliceOf.new _ vl vu vs) pl pu ps (by decide) ?_ (by rw [List.size_toArray]; omega)
    rw [PySem.W.krv_pick]
    refine ⟨.ref _, _, I5.laid (t' := s4.toks) (o := .lst xs.reverse) (fun b ob q => Heap.get?_push_of_some _ q) (Nat.le_refl _) ?_, rfl, q _ (I5.hok.fresh (Nat.le_refl _))⟩
    exact ⟨by rw [List.length_reverse]; exact hz, _, 0, r.reverse, Heap.get?_push_size _ rfl⟩
  · obtain ⟨its, r, ht, hz⟩ := I5.tuple hx
    have hlen := r.length
    refine tail_any (ops := [.ref a, .ref s4.heap.objs.size]) ht.typeIs (PyProof.Rows.slot_tuple_getitem.lookup) ?_ (by with_unfolding_all rfl)
    refine HT.getItem_tuple_rev ht (Heap.IsSliceOf.new _ vl vu vs) pl pu ps ?_ (by rw [List.size_toArray]; omega)
    refine ⟨.ref _, _, I5.laid (t' := s4.toks) (o := .tup xs.reverse) (fun b ob q => Heap.get?_push_of_some _ q) (Nat.le_refl _) ?_, rfl, q _ (I5.hok.fresh (Nat.le_refl _))⟩
    exact ⟨by rw [List.length_reverse]; exact hz, _, r.reverse, IsTup.new _ _⟩
end
end L2
namespace Mi
open PySem PySem.Spec PyProof.Rows L2
section
variable [KK] {X : Cx} {e : Expr} {pos : Pos} {m : MR}
def revAD : D → Option R
  | .list ds => some (.fr ds.reverse)
  | .tuple ds => some (.sh (.tuple ds.reverse))
  | _ => none
theorem me_revA {k0 : Nat} {p1 p2 p3 : Pos} (he : ME X e m) (hK : X.K = KK.K := by rfl) : ME X (.Subscript e (.Slice none none (some (.UnaryOp .USub (.Constant (.int 1) k0 p1) p2)) p3) pos) (mUn revAD m) := ⟨(pe_revA he.ok).imq fun σ H Q q => by
  obtain ⟨F, G, b, ρ, hr, r', ρ', e, k⟩ := q
  obtain ⟨⟨r1, ρ1⟩, e1, e⟩ := bind_some e
  obtain ⟨d1, e3, e⟩ := bind_some e
  obtain ⟨z, e5, e⟩ := bind_some e
  cases e
  refine ⟨F, G, b, ρ, hr, r1, _, e1, fun F1 H1 v1 s1 c1 h1 k1 => ?_⟩
  have bd := k1.bd h1 e3
  match d1, bd, e5 with
  | .list ds, bd, e5 =>
    cases e5
    obtain ⟨p0, vs, rfl, a0, x0⟩ := bd.list h1.fh
    refine ⟨p0, vs, rfl, .inl ⟨.of a0, fun q hq => ?_⟩⟩
    have P : Post F1 H1 (.fr ds.reverse) F1 (upd H1 q (.lst vs.reverse)) (.ref q) := post_fr h1.fh hq x0.rev
    exact k F1 _ _ (s1.trans P.ff) (c1.trans (P.cln h1.gh)) (P.rp h1) (P.rs h1)
  | .tuple ds, bd, e5 =>
    cases e5
    obtain ⟨p0, vs, rfl, a0, x0⟩ := bd.tup
    refine ⟨p0, vs, rfl, .inr ⟨.of (h1.fh _ _ a0), fun q hq => ?_⟩⟩
    have P := post_tup h1.fh hq x0.rev
    exact k _ _ _ (s1.trans P.ff) (c1.trans (P.cln h1.gh)) (P.rp h1) (P.rs h1)⟩
end
@[simp] theorem revAD_l (ds : List D) : revAD (.list ds) = some (.fr ds.reverse) := (rfl)
@[simp] theorem revAD_t (ds : List D) : revAD (.tuple ds) = some (.sh (.tuple ds.reverse)) := (rfl)
end Mi
set_option Elab.async false
set_option linter.all false
set_option maxRecDepth 100000
/-! Core18: for x in reversed(xs). -/
namespace Mi
open PySem PySem.Spec PyProof.Rows L2
section
variable [KK] {X : Cx} {tg e : Expr} {pos p : Pos} {m : MR}
def seqOf : D → Option (List D)
  | .list ds => some ds
  | .tuple ds => some ds
  | _ => none
def mIterR (m : MR) : MI := fun ρ => do
  let (d, ρ1) ← mCap m ρ
  let ds ← seqOf d
  some (ds.reverse, ρ1)
theorem rev_at {α : Type} {xs : List α} {i : Nat} (h : i < xs.length) : xs.reverse[i]? = xs[xs.length - 1 - i]? := List.getElem?_reverse h
theorem wk_revL {F : Hp} {a : Addr} {xs : List V} {ds : List D} (hx : F a = some (.lst xs)) (dvs : Dvs F xs ds) : Wk (Itv KK.K a xs.length) F ds.reverse := by
  have hl := dvs.len
  refine ⟨fun i H hi s => ?_, fun H s => ?_, fun i F1 H x H' hi s1 s2 y => ?_⟩
  · rw [List.length_reverse] at hi
    exact ⟨by omega, xs, xs[xs.length - 1 - i], .of (s _ _ hx), List.getElem?_eq_getElem (by omega)⟩
  · show xs.length ≤ ds.reverse.length
    rw [List.length_reverse]; omega
  · rw [List.length_reverse] at hi
    obtain ⟨rfl, y⟩ := y
    have hy := y xs (.of (s2 _ _ (s1 _ _ hx)))
    have hd : ds[ds.length - 1 - i]? = some ds[ds.length - 1 - i] := List.getElem?_eq_getElem (by omega)
    obtain ⟨v, hv, dv⟩ := dvs.get hd
    rw [← hl, hy] at hv
    cases hv
    exact ⟨F1, _, by rw [rev_at hi]; exact hd, post_sh s2 (dv.mono s1)⟩
theorem wk_revT {F : Hp} {a : Addr} {xs : List V} {ds : List D} (hx : F a = some (.tup xs)) (dvs : Dvs F xs ds) : Wk (RT.ItvT KK.K a xs.length) F ds.reverse := by
  have hl := dvs.len
  refine ⟨fun i H hi s => ?_, fun H s => ?_, fun i F1 H x H' hi s1 s2 y => ?_⟩
  · rw [List.length_reverse] at hi
    exact ⟨by omega, xs, xs[xs.length - 1 - i], .of (s _ _ hx), List.getElem?_eq_getElem (by omega)⟩
  · show xs.length ≤ ds.reverse.length
    rw [List.length_reverse]; omega
  · rw [List.length_reverse] at hi
    obtain ⟨rfl, y⟩ := y
    have hy := y xs (.of (s2 _ _ (s1 _ _ hx)))
    have hd : ds[ds.length - 1 - i]? = some ds[ds.length - 1 - i] := List.getElem?_eq_getElem (by omega)
    obtain ⟨v, hv, dv⟩ := dvs.get hd
    rw [← hl, hy] at hv
    cases hv
    exact ⟨F1, _, by rw [rev_at hi]; exact hd, post_sh s2 (dv.mono s1)⟩
theorem mi_rev (hg : Gl X "reversed") (hm : X.mg "reversed" = none) (ha : ME X e m) (hs : starEach [e] X.env = (false, eval e X.env) :: starEach [] X.env := by rfl) (hK : X.K = KK.K := by rfl) : MIt X tg (.Call (.Name "reversed" p) [e] [] pos) (mIterR m) := ⟨(RT.pi_revA (tg := tg) hg hm ha.ok hs).imq fun σ H R q => by
  obtain ⟨F, G, b, ρ, hr, ds, ρ', e, k⟩ := q
  obtain ⟨⟨d, ρ1⟩, e1, e⟩ := bind_some e
  obtain ⟨ds1, e2, e⟩ := bind_some e
  cases e
  obtain ⟨⟨r, ρ0⟩, e0, e1⟩ := bind_some e1
  refine ⟨F, G, b, ρ, hr, r, ρ0, e0, fun F1 H1 v1 s1 c1 h1 k1 => ?_⟩
  obtain ⟨F2, s2, c2, h2, dv⟩ := cap_ok h1 k1 e1
  rw [hK]
  match d, e2, dv with
  | .list xs, e2, .lst hx dvs =>
    cases e2
    exact ⟨_, _, rfl, .inl ⟨.of (h2.fh _ _ hx), k F2 H1 _ (s1.trans s2) (c1.trans c2) h2 (wk_revL hx dvs)⟩⟩
  | .tuple xs, e2, .tup hx dvs =>
    cases e2
    exact ⟨_, _, rfl, .inr ⟨.of (h2.fh _ _ hx), k F2 H1 _ (s1.trans s2) (c1.trans c2) h2 (wk_revT hx dvs)⟩⟩⟩
end
section
variable {m : MR} {e : M} {ρ : En}
@[simp] theorem mIterR_c : mIterR m (e :: ρ) = bnd (mCap m (e :: ρ)) fun x => bnd (seqOf x.1) fun ds => some (ds.reverse, x.2) := (rfl)
@[simp] theorem seqOf_l (ds : List D) : seqOf (.list ds) = some ds := (rfl)
@[simp] theorem seqOf_t (ds : List D) : seqOf (.tuple ds) = some ds := (rfl)
end
end Mi
set_option Elab.async false
set_option linter.all false
set_option maxRecDepth 100000
/-! Core19: comprehensions with two fors. -/
namespace Mi
open PySem PySem.Spec PyProof.Rows L2
theorem own_back [KK] {ρ ρ3 : En} {vs : List Nat} {i : Nat} (ok : okW ρ vs = true) (o : OwnAt (backE ρ ρ3 vs) i) : OwnAt ρ3 i ∧ i ∉ vs := by
  have key : ∀ m, (backE ρ ρ3 vs)[i]? = some m → (∃ ds, m = .own ds) ∨ (∃ ds, m = .io ds) ∨ (∃ ds, m = .dct ds) → i ∉ vs ∧ ρ3[i]? = some m := fun m e hm => by
    rcases backE_get e with ⟨a, z⟩ | z
    · have q := List.all_eq_true.mp ok i a
      rw [List.getD_eq_getElem?_getD] at z
      cases y : ρ[i]? with
      | none =>
        rw [y] at z
        rcases hm with ⟨_, h⟩ | ⟨_, h⟩ | ⟨_, h⟩ <;> (rw [h] at z; cases z)
      | some w =>
        rw [y] at z q
        have z : m = w := z
        subst z
        rcases hm with ⟨_, h⟩ | ⟨_, h⟩ | ⟨_, h⟩ <;> (subst h; cases q)
    · exact z
  rcases o with ⟨ds, e⟩ | ⟨ds, e⟩ | ⟨ds, e⟩
  · obtain ⟨a, b⟩ := key _ e (.inl ⟨ds, rfl⟩)
    exact ⟨.inl ⟨ds, b⟩, a⟩
  · obtain ⟨a, b⟩ := key _ e (.inr (.inl ⟨ds, rfl⟩))
    exact ⟨.inr (.inl ⟨ds, b⟩), a⟩
  · obtain ⟨a, b⟩ := key _ e (.inr (.inr ⟨ds, rfl⟩))
    exact ⟨.inr (.inr ⟨ds, b⟩), a⟩
theorem wipe_eq_out [KK] {σ σ2 : L2.St} {vs : List Nat} {i : Nat} (w : wipe σ2 vs = wipe σ vs) (h : i ∉ vs) : σ[i]? = σ2[i]? := by rw [← wipe_ne (σ := σ2) h, w, wipe_ne h]
section
variable [KK] {X : Cx} {elt tg iter tg1 iter1 : Expr} {ifs ifs1 : List Expr} {scope : Scope} {own : List (Str × Nat)} {pos : Pos} {it it1 : MI} {g g1 : MG} {t t1 : MB} {el : MR}
/-- a comprehension's loop, from any list that grows on -/
theorem lc_loop {ws vs : List Nat} (hws : ∀ i ∈ ws, i ∈ vs) {σ : L2.St} {F1 G H1 : Hp} {b : Fm} {Dl : Addr} {ρ1 ρ' : En} {J : It} {ds acc0 accE : List D} {vacc0 : List V} {Nx : Hp → Prop} (h1 : Rp F1 G H1 b σ ρ1) (wk : Wk J F1 ds) (gD : G Dl = none) (fD : F1 Dl = none) (aD0 : H1 Dl = some (.lst vacc0)) (xD0 : Dvs F1 vacc0 acc0)
    (nD0 : ∀ j, OwnAt ρ1 j → σ[j]? ≠ some (some (.ref Dl))) (hok : okW ρ1 vs = true) (e2 : lcGo g t el vs ds ρ1 acc0 = some (accE, ρ'))
    (K : ∀ F2 Hc vacc, Same F1 F2 → Cln F1 G F2 → Rp F2 G Hc b σ ρ' → Hc Dl = some (.lst vacc) → Dvs F2 vacc accE → F2 Dl = none → (∀ j, OwnAt ρ' j → σ[j]? ≠ some (some (.ref Dl))) → okW ρ' vs = true → Nx Hc) :
    ∃ W1 : Nat → Nat → Hp → Prop, (∃ m, W1 0 m H1) ∧ ∀ i m H, W1 i m H → (J.stop i H ∧ Nx H) ∨ (J.go i H ∧ ∃ Nx1 : Hp → Prop, (∀ H', Nx1 H' → ∃ m', m' < m ∧ W1 (i + 1) m' H') ∧ ∀ x H', J.yld i H x H' → (tMG g ws) x (wipe σ vs) H' fun σ2 H2 => wipe σ2 vs = wipe σ vs ∧ (tMB t) σ2 H2 fun b H3 =>
      if b = true then (tM el) σ2 H3 fun y H4 => ∃ acc, H4 Dl = some (.lst acc) ∧ acc.length < sizeLine ∧ Nx1 (upd H4 Dl (.lst (acc ++ [y]))) else Nx1 H3) := by
  refine ⟨fun i m Hc => i ≤ ds.length ∧ m = ds.length - i ∧ ∃ F2 ρi acc vacc, Same F1 F2 ∧ Cln F1 G F2 ∧ Rp F2 G Hc b σ ρi ∧ Hc Dl = some (.lst vacc) ∧ Dvs F2 vacc acc ∧ F2 Dl = none ∧
      (∀ j, OwnAt ρi j → σ[j]? ≠ some (some (.ref Dl))) ∧ okW ρi vs = true ∧ lcGo g t el vs (ds.drop i) ρi acc = some (accE, ρ'), ⟨ds.length, Nat.zero_le _, rfl, F1, ρ1, acc0, vacc0, .refl _, .refl _ _, h1, aD0, xD0, fD, nD0, hok, e2⟩, ?_⟩
  rintro i m Hc ⟨hi, rfl, F2, ρi, acc, vacc, s2, c2, h2, aD, xD, fD2, nD, okI, eL⟩
  by_cases hlt : i < ds.length
  · have hdrop : ds.drop i = ds[i] :: ds.drop (i + 1) := List.drop_eq_getElem_cons hlt
    rw [hdrop] at eL
    obtain ⟨ρa, ea, eL⟩ := bind_some eL
    obtain ⟨⟨kb, ρb⟩, eb, eL⟩ := bind_some eL
    refine .inr ⟨wk.go i Hc hlt (s2.trans h2.fh), fun H' => ∃ F5 ρ5 acc5 vacc5, Same F1 F5 ∧ Cln F1 G F5 ∧ Rp F5 G H' b σ ρ5 ∧ H' Dl = some (.lst vacc5) ∧ Dvs F5 vacc5 acc5 ∧ F5 Dl = none ∧
      (∀ j, OwnAt ρ5 j → σ[j]? ≠ some (some (.ref Dl))) ∧ okW ρ5 vs = true ∧ lcGo g t el vs (ds.drop (i + 1)) ρ5 acc5 = some (accE, ρ'), fun H' ⟨F5, ρ5, a5, v5, r5⟩ => ⟨ds.length - (i + 1), by omega, by omega, rfl, F5, ρ5, a5, v5, r5⟩, fun x H' y => ?_⟩
    obtain ⟨F3, d, ed, P⟩ := wk.yld i F2 Hc x H' hlt s2 h2.fh y
    have edd : d = ds[i] := by
      rw [List.getElem?_eq_getElem hlt] at ed
      exact (Option.some.inj ed).symm
    subst edd
    -- the guard: G and the list that grows
    have gu : Same (upd G Dl (.lst vacc)) H' := fun a o q => by
      by_cases z : a = Dl
      · subst z
        rw [upd_same] at q
        rw [P.hh _ _ aD, q]
      · rw [upd_ne z] at q
        exact P.hh _ _ (h2.gh _ _ q)
    have h3 : Rp F3 G H' b σ ρi := P.rp h2
    have c3 : Cln F2 G F3 := P.cln h2.gh
    have h3g : Rp F3 (upd G Dl (.lst vacc)) H' b (wipe σ vs) (wipeE ρi vs) := by
      refine (h3.more gu (h3.lg.trans (same_upd gD)) fun j p o q => ?_).wiped
      have : p ≠ Dl := fun z => nD j o (by rw [← z]; exact q)
      rw [upd_ne this]
      exact (h3.own_some o q).elim fun _ z => z.2.2
    have fD3 : F3 Dl = none := by
      cases z : F3 Dl with
      | none => rfl
      | some o =>
        rcases P.new Dl (by rw [z]; exact fun x => nomatch x) with w | w
        · exact absurd fD2 w
        · rw [aD] at w; cases w
    have dv : Dv F3 x ds[i] := P.res
    refine ⟨F3, _, b, _, _, h3g, dv, ρa, ea, fun σ2 h4 w4 => ⟨(w4 vs hws).trans wipe_wipe, ?_⟩⟩
    have w4' := (w4 vs hws).trans wipe_wipe
    refine ⟨F3, _, b, ρa, h4, kb, ρb, eb, fun F5 H5 s5 c5 h5 => ?_⟩
    have lenb : ∀ {ρz : En} {Fz Hz : Hp}, Rp Fz (upd G Dl (.lst vacc)) Hz b σ2 ρz → ρz.length = ρi.length := fun {ρz Fz Hz} hz => by
      have l1 := hz.len
      have l2 := congrArg List.length w4'
      rw [wipe_length, wipe_length] at l2
      rw [l1, l2, h3.len]
    have fin : ∀ {ρz : En} {Fz Hz : Hp}, Same F3 Fz → Cln F3 (upd G Dl (.lst vacc)) Fz → Rp Fz (upd G Dl (.lst vacc)) Hz b σ2 ρz →
        Rp Fz G Hz b σ (backE ρi ρz vs) ∧ Hz Dl = some (.lst vacc) ∧ Fz Dl = none ∧ (∀ j, OwnAt (backE ρi ρz vs) j → σ[j]? ≠ some (some (.ref Dl))) ∧ okW (backE ρi ρz vs) vs = true := fun {ρz Fz Hz} sz cz hz => by
      have hb := h3.backed sz (hz.less (same_upd gD) h3.lg) w4' okI
      have hb2 : Rp Fz (upd G Dl (.lst vacc)) Hz b σ (backE ρi ρz vs) := (h3.more gu (h3.lg.trans (same_upd gD)) fun j p o q => by
        have : p ≠ Dl := fun z => nD j o (by rw [← z]; exact q)
        rw [upd_ne this]
        exact (h3.own_some o q).elim fun _ z => z.2.2).backed sz hz w4' okI
      refine ⟨hb, hz.gh _ _ upd_same, ?_, fun j o q => ?_, okW_back (lenb hz) okI⟩
      · cases z : Fz Dl with
        | none => rfl
        | some o => exact absurd fD3 (cz Dl (by rw [upd_same]; exact fun x => nomatch x) (by rw [z]; exact fun x => nomatch x))
      · obtain ⟨_, _, _, z⟩ := hb2.own_some o q
        rw [upd_same] at z
        cases z
    cases kb with
    | false =>
      have eL : lcGo g t el vs (ds.drop (i + 1)) (backE ρi ρb vs) acc = some (accE, ρ') := eL
      refine iteF ?_
      obtain ⟨f1, f2, f3, f4, f5⟩ := fin s5 c5 h5
      exact ⟨F5, _, acc, vacc, s2.trans (P.ff.trans s5), c2.trans (c3.trans (c5.less (same_upd gD))), f1, f2, xD.mono (P.ff.trans s5), f3, f4, f5, eL⟩
    | true =>
      refine iteT ?_
      obtain ⟨⟨y', ρ6⟩, e6, eL⟩ := bind_some eL
      obtain ⟨hlen, eL⟩ := ite_some' eL
      obtain ⟨⟨r6, ρ7⟩, e7, e6⟩ := bind_some e6
      refine ⟨F5, _, b, ρb, h5, r6, ρ7, e7, fun F7 H7 v7 s7 c7 h7 k7 => ?_⟩
      obtain ⟨F8, s8, c8, h8, dv8⟩ := cap_ok h7 k7 e6
      have cc := c5.trans (c7.trans c8)
      obtain ⟨f1, f2, f3, f4, f5⟩ := fin (s5.trans (s7.trans s8)) cc h8
      have x8 : Dvs F8 vacc acc := xD.mono (P.ff.trans (s5.trans (s7.trans s8)))
      refine ⟨vacc, f2, by rw [xD.len]; exact lim_lt hlen, F8, _, acc ++ [y'], vacc ++ [v7], s2.trans (P.ff.trans (s5.trans (s7.trans s8))), c2.trans (c3.trans (cc.less (same_upd gD))), ?_, upd_same, x8.snoc dv8, f3, f4, f5, eL⟩
      -- the grown list: nobody else looks at it
      refine ⟨fun a o q => ?_, fun a o q => ?_, f1.len, fun j mm q => ?_, f1.ne, f1.lg⟩
      · rw [upd_ne (ne_of_none q f3)]
        exact f1.fh _ _ q
      · rw [upd_ne (ne_of_none q gD)]
        exact f1.gh _ _ q
      · have sl := f1.slot j mm q
        cases mm with
        | no => trivial
        | sh d => exact sl
        | own ds1 =>
          obtain ⟨p1, vs1, a1, c1', x1⟩ := sl
          exact ⟨p1, vs1, a1, by rw [upd_ne (fun z => f4 j (.inl ⟨ds1, q⟩) (by rw [← z]; exact a1))]; exact c1', x1⟩
        | io ds1 =>
          obtain ⟨a1, vs1, c1', x1⟩ := sl
          exact ⟨a1, vs1, by rw [upd_ne (fun z => f4 j (.inr (.inl ⟨ds1, q⟩)) (by rw [← z]; exact a1))]; exact c1', x1⟩
        | dct ks1 =>
          obtain ⟨p1, vs1, a1, c1', x1⟩ := sl
          exact ⟨p1, vs1, a1, by rw [upd_ne (fun z => f4 j (.inr (.inr ⟨ks1, q⟩)) (by rw [← z]; exact a1))]; exact c1', x1⟩
        | lent ds1 => exact sl
  · have ei : i = ds.length := by omega
    subst ei
    rw [List.drop_length] at eL
    cases eL
    exact .inl ⟨wk.stop Hc (s2.trans h2.fh), K F2 Hc vacc s2 c2 h2 aD xD fD2 nD okI⟩
/-- the outer loop: for each the inner one -/
def lcGo2 (g : MG) (t : MB) (it1 : MI) (g1 : MG) (t1 : MB) (el : MR) (vs vs1 : List Nat) : List D → En → List D → Option (List D × En)
  | [], ρ, acc => some (acc, ρ)
  | d :: ds, ρ, acc => do
    let ρ1 ← g d (wipeE ρ vs)
    let (k, ρ2) ← t ρ1
    if k = true then do
      let (ds1, ρ3) ← it1 ρ2
      if okW ρ3 vs1 = true then do
        let (acc1, ρ4) ← lcGo g1 t1 el vs1 ds1 ρ3 acc
        lcGo2 g t it1 g1 t1 el vs vs1 ds (backE ρ ρ4 vs) acc1
      else none
    else lcGo2 g t it1 g1 t1 el vs vs1 ds (backE ρ ρ2 vs) acc
def mLc2 (it : MI) (g : MG) (t : MB) (it1 : MI) (g1 : MG) (t1 : MB) (el : MR) (vs vs1 : List Nat) : MR := fun ρ => do
  let (ds, ρ1) ← it ρ
  if okW ρ1 vs = true then do
    let (acc, ρ2) ← lcGo2 g t it1 g1 t1 el vs vs1 ds ρ1 []
    some (.fr acc, ρ2)
  else none
theorem lc2_read {ws ws1 vs vs1 : List Nat} (hws : ∀ i ∈ ws, i ∈ vs) (hws1 : ∀ i ∈ ws1, i ∈ vs1) (hv1 : ∀ i ∈ vs1, i ∈ vs) {σ : L2.St} {H : Hp} {Q : VK} (q : tM (mLc2 it g t it1 g1 t1 el vs vs1) σ H Q) : tLc2 (tMI it) (tMG g ws) (tMB t) (tMI it1) (tMG g1 ws1) (tMB t1) (tM el) vs vs1 σ H Q := by
  obtain ⟨F, G, b, ρ, hr, r, ρ', e, k⟩ := q
  obtain ⟨⟨ds, ρ1⟩, e1, e⟩ := bind_some e
  obtain ⟨hok, e⟩ := ite_some' e
  obtain ⟨⟨accE, ρ2⟩, e2, e⟩ := bind_some e
  cases e
  refine ⟨F, G, b, ρ, hr, ds, ρ1, e1, fun F1 H1 J s1 c1 h1 wk Dl hD => ?_⟩
  have gD : G Dl = none := h1.gh.free hD
  have fD : F1 Dl = none := h1.fh.free hD
  refine ⟨fun i m Hc => i ≤ ds.length ∧ m = ds.length - i ∧ ∃ F2 ρi acc vacc, Same F1 F2 ∧ Cln F1 G F2 ∧ Rp F2 G Hc b σ ρi ∧ Hc Dl = some (.lst vacc) ∧ Dvs F2 vacc acc ∧ F2 Dl = none ∧
      (∀ j, OwnAt ρi j → σ[j]? ≠ some (some (.ref Dl))) ∧ okW ρi vs = true ∧ lcGo2 g t it1 g1 t1 el vs vs1 (ds.drop i) ρi acc = some (accE, ρ'), ⟨ds.length, Nat.zero_le _, rfl, F1, ρ1, [], [], .refl _, .refl _ _, ?_, upd_same, .nil, fD, ?_, hok, e2⟩, ?_⟩
  · exact h1.grow (.refl _) (same_upd hD) (h1.fh.trans (same_upd hD)) fun i p o q => (h1.own_some o q).elim fun _ z => z.2.1
  · intro j o q
    obtain ⟨_, z, _, _⟩ := h1.own_some o q
    rw [hD] at z
    cases z
  rintro i m Hc ⟨hi, rfl, F2, ρi, acc, vacc, s2, c2, h2, aD, xD, fD2, nD, okI, eL⟩
  by_cases hlt : i < ds.length
  · have hdrop : ds.drop i = ds[i] :: ds.drop (i + 1) := List.drop_eq_getElem_cons hlt
    rw [hdrop] at eL
    obtain ⟨ρa, ea, eL⟩ := bind_some eL
    obtain ⟨⟨kb, ρb⟩, eb, eL⟩ := bind_some eL
    refine .inr ⟨wk.go i Hc hlt (s2.trans h2.fh), fun H' => ∃ F5 ρ5 acc5 vacc5, Same F1 F5 ∧ Cln F1 G F5 ∧ Rp F5 G H' b σ ρ5 ∧ H' Dl = some (.lst vacc5) ∧ Dvs F5 vacc5 acc5 ∧ F5 Dl = none ∧
      (∀ j, OwnAt ρ5 j → σ[j]? ≠ some (some (.ref Dl))) ∧ okW ρ5 vs = true ∧ lcGo2 g t it1 g1 t1 el vs vs1 (ds.drop (i + 1)) ρ5 acc5 = some (accE, ρ'), fun H' ⟨F5, ρ5, a5, v5, r5⟩ => ⟨ds.length - (i + 1), by omega, by omega, rfl, F5, ρ5, a5, v5, r5⟩, fun x H' y => ?_⟩
    obtain ⟨F3, d, ed, P⟩ := wk.yld i F2 Hc x H' hlt s2 h2.fh y
    have edd : d = ds[i] := by
      rw [List.getElem?_eq_getElem hlt] at ed
      exact (Option.some.inj ed).symm
    subst edd
    -- the guard: G and the list that grows
    have gu : Same (upd G Dl (.lst vacc)) H' := fun a o q => by
      by_cases z : a = Dl
      · subst z
        rw [upd_same] at q
        rw [P.hh _ _ aD, q]
      · rw [upd_ne z] at q
        exact P.hh _ _ (h2.gh _ _ q)
    have h3 : Rp F3 G H' b σ ρi := P.rp h2
    have c3 : Cln F2 G F3 := P.cln h2.gh
    have h3g : Rp F3 (upd G Dl (.lst vacc)) H' b (wipe σ vs) (wipeE ρi vs) := by
      refine (h3.more gu (h3.lg.trans (same_upd gD)) fun j p o q => ?_).wiped
      have : p ≠ Dl := fun z => nD j o (by rw [← z]; exact q)
      rw [upd_ne this]
      exact (h3.own_some o q).elim fun _ z => z.2.2
    have fD3 : F3 Dl = none := by
      cases z : F3 Dl with
      | none => rfl
      | some o =>
        rcases P.new Dl (by rw [z]; exact fun x => nomatch x) with w | w
        · exact absurd fD2 w
        · rw [aD] at w; cases w
    have dv : Dv F3 x ds[i] := P.res
    refine ⟨F3, _, b, _, _, h3g, dv, ρa, ea, fun σ2 h4 w4 => ⟨(w4 vs hws).trans wipe_wipe, ?_⟩⟩
    have w4' := (w4 vs hws).trans wipe_wipe
    refine ⟨F3, _, b, ρa, h4, kb, ρb, eb, fun F5 H5 s5 c5 h5 => ?_⟩
    have lenb : ∀ {ρz : En} {Fz Hz : Hp}, Rp Fz (upd G Dl (.lst vacc)) Hz b σ2 ρz → ρz.length = ρi.length := fun {ρz Fz Hz} hz => by
      have l1 := hz.len
      have l2 := congrArg List.length w4'
      rw [wipe_length, wipe_length] at l2
      rw [l1, l2, h3.len]
    have fin : ∀ {ρz : En} {Fz Hz : Hp}, Same F3 Fz → Cln F3 (upd G Dl (.lst vacc)) Fz → Rp Fz (upd G Dl (.lst vacc)) Hz b σ2 ρz →
        Rp Fz G Hz b σ (backE ρi ρz vs) ∧ Hz Dl = some (.lst vacc) ∧ Fz Dl = none ∧ (∀ j, OwnAt (backE ρi ρz vs) j → σ[j]? ≠ some (some (.ref Dl))) ∧ okW (backE ρi ρz vs) vs = true := fun {ρz Fz Hz} sz cz hz => by
      have hb := h3.backed sz (hz.less (same_upd gD) h3.lg) w4' okI
      have hb2 : Rp Fz (upd G Dl (.lst vacc)) Hz b σ (backE ρi ρz vs) := (h3.more gu (h3.lg.trans (same_upd gD)) fun j p o q => by
        have : p ≠ Dl := fun z => nD j o (by rw [← z]; exact q)
        rw [upd_ne this]
        exact (h3.own_some o q).elim fun _ z => z.2.2).backed sz hz w4' okI
      refine ⟨hb, hz.gh _ _ upd_same, ?_, fun j o q => ?_, okW_back (lenb hz) okI⟩
      · cases z : Fz Dl with
        | none => rfl
        | some o => exact absurd fD3 (cz Dl (by rw [upd_same]; exact fun x => nomatch x) (by rw [z]; exact fun x => nomatch x))
      · obtain ⟨_, _, _, z⟩ := hb2.own_some o q
        rw [upd_same] at z
        cases z
    cases kb with
    | false =>
      have eL : lcGo2 g t it1 g1 t1 el vs vs1 (ds.drop (i + 1)) (backE ρi ρb vs) acc = some (accE, ρ') := eL
      refine iteF ?_
      obtain ⟨f1, f2, f3, f4, f5⟩ := fin s5 c5 h5
      exact ⟨F5, _, acc, vacc, s2.trans (P.ff.trans s5), c2.trans (c3.trans (c5.less (same_upd gD))), f1, f2, xD.mono (P.ff.trans s5), f3, f4, f5, eL⟩
    | true =>
      refine iteT ?_
      obtain ⟨⟨ds1, ρc⟩, e6, eL⟩ := bind_some eL
      obtain ⟨hok1, eL⟩ := ite_some' eL
      obtain ⟨⟨acc1, ρd⟩, e7, eL⟩ := bind_some eL
      refine ⟨F5, _, b, ρb, h5, ds1, ρc, e6, fun F6 H6 J1 s6 c6 h6 wk1 => ?_⟩
      have fD6 : F6 Dl = none := by
        cases z : F6 Dl with
        | none => rfl
        | some o => exact absurd fD3 ((c5.trans c6) Dl (by rw [upd_same]; exact fun x => nomatch x) (by rw [z]; exact fun x => nomatch x))
      have nD6 : ∀ j, OwnAt ρc j → σ2[j]? ≠ some (some (.ref Dl)) := fun j o q => by
        obtain ⟨_, _, _, z⟩ := h6.own_some o q
        rw [upd_same] at z
        cases z
      have x6 : Dvs F6 vacc acc := xD.mono (P.ff.trans (s5.trans s6))
      refine lc_loop (g := g1) (t := t1) (el := el) hws1 (h6.less (same_upd gD) h3.lg) wk1 gD fD6 (h6.gh _ _ upd_same) x6 nD6 hok1 e7 fun F7 H7 vacc1 s7 c7 h7 a7 x7 f7 n7 o7 => ?_
      have sz := s5.trans (s6.trans s7)
      have hb := h3.backed sz h7 w4' okI
      have lz : ρd.length = ρi.length := by
        have l1 := h7.len
        have l2 := congrArg List.length w4'
        rw [wipe_length, wipe_length] at l2
        rw [l1, l2, h3.len]
      refine ⟨F7, _, acc1, vacc1, s2.trans (P.ff.trans sz), c2.trans (c3.trans (((c5.trans c6).less (same_upd gD)).trans c7)), hb, a7, x7, f7, fun j o q => ?_, okW_back lz okI, eL⟩
      obtain ⟨oj, nj⟩ := own_back okI o
      rw [wipe_eq_out w4' nj] at q
      exact n7 j oj q
  · have ei : i = ds.length := by omega
    subst ei
    rw [List.drop_length] at eL
    cases eL
    refine .inl ⟨wk.stop Hc (s2.trans h2.fh), k F2 Hc (.ref Dl) (s1.trans s2) (c1.trans c2) h2 ⟨Dl, vacc, rfl, aD, xD, fD2, gD, nD⟩⟩
theorem me_lc2 {ws ws1 vs1 : List Nat} (hc : X.calm = true) (hN : X.N.Nodup) (hi : MIt X tg iter it) (ok : BlkOk X.N X.env.scope scope own)
    (hg : ∀ (s : Shared) (H : Hp) (C : Addr) (cl : List (Str × Addr)) (fp : List Addr), MGt (X.blk s H scope (compEnvC scope cl C X.env) fp) tg g ws)
    (ht : ∀ (s : Shared) (H : Hp) (C : Addr) (cl : List (Str × Addr)) (fp : List Addr), MTs (X.blk s H scope (compEnvC scope cl C X.env) fp) ifs t)
    (hi1 : ∀ (s : Shared) (H : Hp) (C : Addr) (cl : List (Str × Addr)) (fp : List Addr), MIt (X.blk s H scope (compEnvC scope cl C X.env) fp) tg1 iter1 it1)
    (hg1 : ∀ (s : Shared) (H : Hp) (C : Addr) (cl : List (Str × Addr)) (fp : List Addr), MGt (X.blk s H scope (compEnvC scope cl C X.env) fp) tg1 g1 ws1)
    (ht1 : ∀ (s : Shared) (H : Hp) (C : Addr) (cl : List (Str × Addr)) (fp : List Addr), MTs (X.blk s H scope (compEnvC scope cl C X.env) fp) ifs1 t1)
    (he : ∀ (s : Shared) (H : Hp) (C : Addr) (cl : List (Str × Addr)) (fp : List Addr), ME (X.blk s H scope (compEnvC scope cl C X.env) fp) elt el)
    (hws : ∀ i ∈ ws, i ∈ own.map (·.2) := by decide) (hws1 : ∀ i ∈ ws1, i ∈ vs1 := by decide) (hv : ∀ i ∈ vs1, i ∈ own.map (·.2) := by decide) (hs : ∀ x, foldedSetIterable iter X.env x = pure x := by intro _; rfl) (hs1 : ∀ env x, foldedSetIterable iter1 env x = pure x := by intro _ _; rfl) :
    ME X (.ListComp elt [⟨tg, iter, ifs, 0⟩, ⟨tg1, iter1, ifs1, 0⟩] scope pos) (mLc2 it g t it1 g1 t1 el (own.map (·.2)) vs1) :=
  ⟨(pe_lc2 hc hN hi.ok ok hv (fun s H C cl fp => (hg s H C cl fp).ok) (fun s H C cl fp => (ht s H C cl fp).ok) (fun s H C cl fp => (hi1 s H C cl fp).ok) (fun s H C cl fp => (hg1 s H C cl fp).ok) (fun s H C cl fp => (ht1 s H C cl fp).ok) (fun s H C cl fp => (he s H C cl fp).ok) hs hs1).imq fun σ H Q q => lc2_read hws hws1 hv q⟩
theorem ms_setLc2 {i : Nat} {y : Str} {py spos : Pos} {ws ws1 vs1 : List Nat} (hc : X.calm = true) (hN : X.N.Nodup) (hy : X.N[i]? = some y) (hyl : X.env.scope.names.lookup y = some .local)
    (hsw : swapsWith (.ListComp elt [⟨tg, iter, ifs, 0⟩, ⟨tg1, iter1, ifs1, 0⟩] scope pos) (some (.Name y py)) spos.line X.env = pure true) (hi : MIt X tg iter it) (ok : BlkOk X.N X.env.scope scope own)
    (hg : ∀ (s : Shared) (H : Hp) (C : Addr) (cl : List (Str × Addr)) (fp : List Addr), MGt (X.blk s H scope (compEnvC scope cl C X.env) fp) tg g ws)
    (ht : ∀ (s : Shared) (H : Hp) (C : Addr) (cl : List (Str × Addr)) (fp : List Addr), MTs (X.blk s H scope (compEnvC scope cl C X.env) fp) ifs t)
    (hi1 : ∀ (s : Shared) (H : Hp) (C : Addr) (cl : List (Str × Addr)) (fp : List Addr), MIt (X.blk s H scope (compEnvC scope cl C X.env) fp) tg1 iter1 it1)
    (hg1 : ∀ (s : Shared) (H : Hp) (C : Addr) (cl : List (Str × Addr)) (fp : List Addr), MGt (X.blk s H scope (compEnvC scope cl C X.env) fp) tg1 g1 ws1)
    (ht1 : ∀ (s : Shared) (H : Hp) (C : Addr) (cl : List (Str × Addr)) (fp : List Addr), MTs (X.blk s H scope (compEnvC scope cl C X.env) fp) ifs1 t1)
    (he : ∀ (s : Shared) (H : Hp) (C : Addr) (cl : List (Str × Addr)) (fp : List Addr), ME (X.blk s H scope (compEnvC scope cl C X.env) fp) elt el)
    (hws : ∀ i ∈ ws, i ∈ own.map (·.2) := by decide) (hws1 : ∀ i ∈ ws1, i ∈ vs1 := by decide) (hv : ∀ i ∈ vs1, i ∈ own.map (·.2) := by decide) (hs : ∀ x, foldedSetIterable iter X.env x = pure x := by intro _; rfl) (hs1 : ∀ env x, foldedSetIterable iter1 env x = pure x := by intro _ _; rfl) :
    MSt X (.Assign [.Name y py] (.ListComp elt [⟨tg, iter, ifs, 0⟩, ⟨tg1, iter1, ifs1, 0⟩] scope pos) spos) (sSet i (mLc2 it g t it1 g1 t1 el (own.map (·.2)) vs1)) :=
  ⟨(ps_setLc2 hc hN hy hyl hsw hi.ok ok hv (fun s H C cl fp => (hg s H C cl fp).ok) (fun s H C cl fp => (ht s H C cl fp).ok) (fun s H C cl fp => (hi1 s H C cl fp).ok) (fun s H C cl fp => (hg1 s H C cl fp).ok) (fun s H C cl fp => (ht1 s H C cl fp).ok) (fun s H C cl fp => (he s H C cl fp).ok) hs hs1).imq fun D σ H q => by
    have h : tM (mLc2 it g t it1 g1 t1 el (own.map (·.2)) vs1) σ H (fun x H1 => gName i x σ H1 D.nx) := asg_read q
    exact lc2_read hws hws1 hv h⟩
end
end Mi
set_option Elab.async false
set_option linter.all false
set_option maxRecDepth 100000
/-! ZipN: zip of any number of lists and tuples, walked by one name. -/
namespace ZN
open PySem
open PySem.Sem (wp)
/-- a for over a list inside a builtin, turn by turn -/
theorem forIn_ok {M : Model} {A : Around} {E : Value → Shared → Prop} {α β : Type} {f : α → β → Sem (ForInStep β)} (I : List α → β → Shared → Prop) (Qd : β → Shared → Prop)
    (hs : ∀ x r b s, I (x :: r) b s → wpAny M A (f x b) (fun st s' => match st with | .yield b' => I r b' s' | .done b' => Qd b' s') E s) :
    ∀ (l : List α) (b : β) (s : Shared), I l b s → wpAny M A (forIn l b f) (fun b s' => I [] b s' ∨ Qd b s') E s
  | [], b, s, h => by
    rw [List.forIn_nil]
    exact wpAny_pure (.inl h)
  | x :: r, b, s, h => by
    rw [List.forIn_cons]
    refine wpAny_bind (wpAny_mono (hs x r b s h) (fun st s' h' => ?_) fun _ _ x => x)
    cases st with
    | done b' => exact wpAny_pure (.inr h')
    | yield b' => exact forIn_ok I Qd hs r b' s' h'
inductive Src where
  | l (a : Addr) | t (a : Addr)
def Src.ad : Src → Addr
  | .l a => a
  | .t a => a
def Src.has (h : Heap) (items : Array Value) : Src → Prop
  | .l a => h.IsList a items
  | .t a => h.IsTuple a items
def Src.it (h : Heap) (i : Addr) (k : Nat) : Src → Prop
  | .l a => h.IsListIter i a k
  | .t a => h.IsTupleIter i a k
section
variable {prog : Program} {w : World} {A : Around} {E : Value → Shared → Prop} {s : Shared} {h h' : Heap} {items : Array Value} {i : Addr} {k : Nat} {q : Src}
theorem Src.has.at (x : q.has h items) (e : ∀ o, h.get? q.ad = some o → h'.get? q.ad = some o) : q.has h' items := by
  cases q with
  | l a => exact Heap.IsList.at x e
  | t a => exact Heap.IsTuple.at x e
theorem Src.it.at (x : q.it h i k) (e : ∀ o, h.get? i = some o → h'.get? i = some o) : q.it h' i k := by
  cases q with
  | l a => exact Heap.IsListIter.at x e
  | t a => exact Heap.IsTupleIter.at x e
theorem Src.it.obj (x : q.it h i k) : ∃ o n vs, h.get? i = some o ∧ o.cls = .type n ∧ o.data = .fields vs ∧ n ≠ "zip" ∧ n ≠ "tuple" ∧ n ≠ "list" := by
  cases q with
  | l a => obtain ⟨o, e, c, d⟩ := x; exact ⟨o, _, _, e, c, d, by decide, by decide, by decide⟩
  | t a => obtain ⟨o, e, c, d⟩ := x; exact ⟨o, _, _, e, c, d, by decide, by decide, by decide⟩
theorem src_item {x : Value} {Q : Value → Shared → Prop} (hit : q.it s.heap i k) (hl : q.has s.heap items) (hx : items[k]? = some x)
    (hQ : ∀ h', q.it h' i (k + 1) → Heap.SameBut i s.heap h' → Q x { s with heap := h' }) : wpAny (model prog w) A (Builtin.SmallTypes.nextOf (.ref i)) Q E s := by
  cases q with
  | l a => exact wpAny_nextOf_list_item hit hl hx hQ
  | t a => exact wpAny_nextOf_tuple_item hit hl hx hQ
theorem src_end {Q : Value → Shared → Prop} (hh : A.handled = none) (hit : q.it s.heap i k) (hl : q.has s.heap items) (hx : items[k]? = none)
    (hE : ∀ h' e, Heap.ExtBut i s.heap h' → (∃ o, h'.get? e = some o ∧ o.cls = .type "StopIteration") → E (.ref e) { s with heap := h' }) : wpAny (model prog w) A (Builtin.SmallTypes.nextOf (.ref i)) Q E s := by
  cases q with
  | l a => exact wpAny_nextOf_list_end hh hit hl hx hE
  | t a => exact wpAny_nextOf_tuple_end hh hit hl hx hE
end
abbrev IsZipN (h : Heap) (z TI TO : Addr) (f0 f1 : Value) : Prop :=
  h.get? z = some { cls := .type "zip", dict := none, data := .fields #[f0, f1, .bool false, .ref TI, .ref TO], slots := #[] }
abbrev IsTupN (h : Heap) (T : Addr) (vs : List Value) : Prop := h.get? T = some { cls := .type "tuple", data := .seq vs.toArray }
structure Row where
  i : Addr
  q : Src
  items : Array Value
structure Apart (z TI TO : Addr) (rows : List Row) : Prop where
  TIz : TI ≠ z
  TOz : TO ≠ z
  TITO : TI ≠ TO
  iz : ∀ r ∈ rows, r.i ≠ z
  iTI : ∀ r ∈ rows, r.i ≠ TI
  iTO : ∀ r ∈ rows, r.i ≠ TO
  az : ∀ r ∈ rows, r.q.ad ≠ z
  aTO : ∀ r ∈ rows, r.q.ad ≠ TO
  ai : ∀ r ∈ rows, ∀ r' ∈ rows, r.q.ad ≠ r'.i
  nd : (rows.map (·.i)).Nodup
section
variable {prog : Program} {w : World} {A : Around} {E : Value → Shared → Prop} {s : Shared} {z TI TO : Addr} {f0 f1 : Value} {rows : List Row} {k : Nat}
theorem alive_ok {a : Addr} {Q : Option Obj → Shared → Prop} (h : Q (s.heap.get? a) s) : wpAny (model prog w) A (loadIfAlive a) Q E s := fun _ _ _ => h
theorem free_ok {Q : Bool → Shared → Prop} (hz : IsZipN s.heap z TI TO f0 f1) (h0 : f0 = .none ∨ ∃ T : Addr, f0 = rawInt T)
    (hT : Q true s) (hF : ∀ h' f1', IsZipN h' z TI TO f0 f1' → Heap.SameBut z s.heap h' → Q false { s with heap := h' }) : wpAny (model prog w) A (Builtin.SmallTypes.ownedTupleIsFree (.ref z)) Q E s := by
  unfold Builtin.SmallTypes.ownedTupleIsFree
  refine wpAny_bind (wpAny_field hz rfl (x := f0) rfl ?_)
  rcases h0 with rfl | ⟨T, rfl⟩
  · exact wpAny_pure hT
  · show wpAny _ _ (loadIfAlive ((T : Int).toNat) >>= _) _ _ _
    rw [Int.toNat_natCast]
    refine wpAny_bind (alive_ok ?_)
    cases s.heap.get? T with
    | none => exact wpAny_pure hT
    | some o =>
      show wpAny _ _ (field (.ref z) 1 >>= _) _ _ _
      refine wpAny_bind (wpAny_field hz rfl (x := f1) rfl ?_)
      by_cases hf : (f1 != Value.bool true) = true
      · rw [if_pos hf]
        refine wpAny_bind (wpAny_setField_rec hz (by simp) fun h₃ he₃ hs₃ => ?_)
        exact wpAny_pure (hF h₃ _ he₃ hs₃)
      · rw [if_neg hf]
        refine wpAny_pure ?_
        exact hF s.heap f1 hz (Heap.SameBut.refl _ _)
/-- what stands of a row at its turn -/
def Row.at (k : Nat) (h : Heap) (r : Row) : Prop := r.q.it h r.i k ∧ r.q.has h r.items
theorem upd_tup {T : Addr} {vs : List Value} {x : Value} {j : Nat} {Q : Unit → Shared → Prop} (hT : IsTupN s.heap T vs) (hl : vs.length ≤ 1000) (h : ∀ h', IsTupN h' T (vs.set j x) → Heap.SameBut T s.heap h' → Q () { s with heap := h' }) :
    wpAny (model prog w) A (updateSeq T (·.setIfInBounds j x)) Q E s := by
  refine wpAny_updateSeq hT rfl (h _ ?_ (Heap.SameBut.update ..)) (by rw [List.size_toArray]; show _ ≤ 16777216; omega) (by rw [Array.size_setIfInBounds, List.size_toArray]; show _ ≤ 16777216 + 1; omega)
  show (s.heap.update T _).get? T = _
  rw [Heap.get?_update_self _ hT rfl]
  simp [Obj.mapSeq]
theorem set_mid {done olds : List Value} {x o : Value} : (done ++ o :: olds).set done.length x = (done ++ [x]) ++ olds := by
  rw [List.set_append_right _ _ (Nat.le_refl _), Nat.sub_self, List.append_assoc]
  rfl
theorem Row.at.but {c : Addr} {h h' : Heap} {r : Row} {k : Nat} (x : r.at k h) (sb : ∀ b o, b ≠ c → h.get? b = some o → h'.get? b = some o) (hi : r.i ≠ c) (ha : r.q.ad ≠ c) : r.at k h' := ⟨Src.it.at x.1 fun o e => sb _ o hi e, Src.has.at x.2 fun o e => sb _ o ha e⟩
theorem nd_mid {done rest : List Row} {r0 : Row} (h : ((done ++ r0 :: rest).map (·.i)).Nodup) : (∀ r ∈ done, r.i ≠ r0.i) ∧ ∀ r ∈ rest, r.i ≠ r0.i := by
  rw [List.map_append, List.map_cons, List.nodup_append] at h
  obtain ⟨_, h2, h3⟩ := h
  refine ⟨fun r hr => h3 _ (List.mem_map.mpr ⟨r, hr, rfl⟩) _ List.mem_cons_self, fun r hr e => ?_⟩
  rw [List.nodup_cons] at h2
  exact h2.1 (by rw [← e]; exact List.mem_map.mpr ⟨r, hr, rfl⟩)
theorem next_item {x : Row → Value} {Q : Value → Shared → Prop} (D : Apart z TI TO rows) (hne : rows ≠ []) (hl : rows.length ≤ 1000) (hz : IsZipN s.heap z TI TO f0 f1) (h0 : f0 = .none ∨ ∃ T : Addr, f0 = rawInt T)
    (hTI : IsTupN s.heap TI (rows.map fun r => .ref r.i)) (hTO : ∃ vs, vs.length = rows.length ∧ IsTupN s.heap TO vs) (hr : ∀ r ∈ rows, r.at k s.heap ∧ r.items[k]? = some (x r))
    (hQ : ∀ h' g0 g1, (g0 = .none ∨ ∃ T : Addr, g0 = rawInt T) → IsZipN h' z TI TO g0 g1 → IsTupN h' TI (rows.map fun r => .ref r.i) → (∃ vs, vs.length = rows.length ∧ IsTupN h' TO vs) → (∀ r ∈ rows, r.at (k + 1) h') → IsTupN h' s.heap.objs.size (rows.map x) →
      h'.objs.size = s.heap.objs.size + 1 → (∀ c o, c ≠ z → c ≠ TO → (∀ r ∈ rows, c ≠ r.i) → s.heap.get? c = some o → h'.get? c = some o) → Q (.ref s.heap.objs.size) { s with heap := h' }) :
    wpAny (model prog w) A (Builtin.«zip.__next__» ⟨[.ref z], []⟩) (fun fin s' => ∃ v, fin = .done (.ret v) ∧ Q v s') E s := by
  show wpAny _ _ (field (.ref z) 2 >>= _) _ _ _
  refine wpAny_bind (wpAny_field hz rfl (x := .bool false) rfl ?_)
  show wpAny _ _ (field (.ref z) 3 >>= _) _ _ _
  refine wpAny_bind (wpAny_field hz rfl (x := .ref TI) rfl ?_)
  refine wpAny_bind (wpAny_seqItems hTI rfl ?_)
  have emp : (rows.map fun r => Value.ref r.i).toArray.isEmpty = false := by
    cases rows with
    | nil => exact absurd rfl hne
    | cons r l => rfl
  simp only [emp, Bool.false_eq_true, if_false]
  refine wpAny_bind (free_ok hz h0 ?_ fun h1 g1 hz1 sb1 => ?_)
  · simp only [if_true]
    refine wpAny_bind (wpAny_rule ?_)
    refine wpAny_bind (wpAny_field hz rfl (x := .ref TO) rfl ?_)
    refine wpAny_bind (wpAny_setField_rec hz (by simp) fun h₁ hz₁ hs₁ => ?_)
    replace hz₁ : IsZipN h₁ z TI TO .ellipsis f1 := hz₁
    refine wpAny_bind (wpAny_mono (forIn_ok (fun l b s' => b = (none, ()) ∧ ∃ done rest, rows = done ++ rest ∧ l = (rest.map fun r => Value.ref r.i).zipIdx done.length ∧ ∃ h' : Heap, s' = { s with heap := h' } ∧ h'.objs.size = s.heap.objs.size ∧ IsZipN h' z TI TO .ellipsis f1 ∧
        (∃ olds, olds.length = rest.length ∧ IsTupN h' TO (done.map x ++ olds)) ∧ (∀ r ∈ done, r.at (k + 1) h') ∧ (∀ r ∈ rest, r.at k h') ∧ ∀ c o, c ≠ z → c ≠ TO → (∀ r ∈ rows, c ≠ r.i) → s.heap.get? c = some o → h'.get? c = some o) (fun _ _ => False) ?_ _ _ _ ?_) (fun b s' hb => ?_) fun _ _ x => x)
    · rintro ⟨v, j⟩ l b s' ⟨rfl, done, rest, er, el, h', rfl, hsz, hz', ⟨olds, ol, hTO'⟩, hd, hrest, hk⟩
      cases rest with
      | nil => cases el
      | cons r0 rest =>
        rw [List.map_cons, List.zipIdx_cons] at el
        injection el with el1 el2
        cases el1
        subst el2
        have hm : ∀ r, r ∈ done ∨ r = r0 ∨ r ∈ rest → r ∈ rows := fun r h => by
          rw [er]
          rcases h with h | rfl | h
          · exact List.mem_append_left _ h
          · exact List.mem_append_right _ List.mem_cons_self
          · exact List.mem_append_right _ (List.mem_cons_of_mem _ h)
        obtain ⟨nd1, nd2⟩ := nd_mid (er ▸ D.nd)
        have m0 := hm r0 (.inr (.inl rfl))
        have a0 := hrest r0 List.mem_cons_self
        refine wpAny_bind (wpAny_onRaise ?_)
        show wpAny _ _ (Builtin.SmallTypes.nextOf (.ref r0.i) >>= _) _ _ _
        refine wpAny_bind (src_item a0.1 a0.2 (hr r0 m0).2 fun h2 it2 sb2 => wpAny_pure ?_)
        have hTO2 : IsTupN h2 TO (done.map x ++ olds) := sb2.extBut _ _ (D.iTO r0 m0).symm hTO'
        refine wpAny_bind (wpAny_seqItems hTO2 rfl ?_)
        have e0 : (olds.length : Nat) = rest.length + 1 := by rw [ol, List.length_cons]
        have elen : done.length + (rest.length + 1) = rows.length := by rw [er, List.length_append, List.length_cons]
        refine wpAny_bind (upd_tup hTO2 (by rw [List.length_append, List.length_map]; omega) fun h3 hTO3 sb3 => ?_)
        refine wpAny_bind (wpAny_letGo (wpAny_pure ?_))
        have kk : ∀ b o, b ≠ r0.i → b ≠ TO → h'.get? b = some o → h3.get? b = some o := fun b o b1 b2 e => sb3.extBut b o b2 (sb2.extBut b o b1 e)
        refine ⟨rfl, done ++ [r0], rest, by rw [er, List.append_assoc]; rfl, by rw [List.length_append]; rfl, h3, rfl, ?_, kk _ _ (D.iz r0 m0).symm D.TOz.symm hz', ?_, fun r h => ?_, fun r h => ?_, fun c o c1 c2 c3 e => kk c o (c3 r0 m0) c2 (hk c o c1 c2 c3 e)⟩
        · rw [sb3.1, sb2.1]; exact hsz
        · cases olds with
          | nil => cases e0
          | cons o olds =>
            refine ⟨olds, by rw [List.length_cons] at e0; omega, ?_⟩
            have : (done.map x ++ o :: olds).set done.length (x r0) = (done ++ [r0]).map x ++ olds := by
              have := set_mid (done := done.map x) (olds := olds) (x := x r0) (o := o)
              rw [List.length_map] at this
              rw [this, List.map_append]
              rfl
            rw [← this]
            exact hTO3
        · rcases List.mem_append.mp h with h | h
          · have mr := hm r (.inl h)
            exact ((hd r h).but (c := r0.i) (fun b o hb e => sb2.extBut b o hb e) (nd1 r h) (D.ai r mr r0 m0)).but (c := TO) (fun b o hb e => sb3.extBut b o hb e) (D.iTO r mr) (D.aTO r mr)
          · rw [List.mem_singleton] at h
            subst h
            exact (show r.at (k + 1) h2 from ⟨it2, Src.has.at a0.2 fun o e => sb2.extBut _ o (D.ai r m0 r m0) e⟩).but (c := TO) (fun b o hb e => sb3.extBut b o hb e) (D.iTO r m0) (D.aTO r m0)
        · have mr := hm r (.inr (.inr h))
          exact ((hrest r (List.mem_cons_of_mem _ h)).but (c := r0.i) (fun b o hb e => sb2.extBut b o hb e) (nd2 r h) (D.ai r mr r0 m0)).but (c := TO) (fun b o hb e => sb3.extBut b o hb e) (D.iTO r mr) (D.aTO r mr)
    · obtain ⟨vs, hvl, hvs⟩ := hTO
      refine ⟨rfl, [], rows, rfl, rfl, h₁, rfl, hs₁.1, hz₁, ⟨vs, hvl, hs₁.extBut _ _ D.TOz hvs⟩, fun r h => (by cases h), fun r h => (hr r h).1.but (fun b o hb e => hs₁.extBut b o hb e) (D.iz r h) (D.az r h), fun c o c1 _ _ e => hs₁.extBut c o c1 e⟩
    · rcases hb with ⟨rfl, done, rest, er, el, h5, rfl, hsz, hz₅, ⟨olds, ol, hTO₅⟩, hd, _, hk⟩ | hb
      · have e0 : rest = [] := by
          cases rest with
          | nil => rfl
          | cons r l => rw [List.map_cons, List.zipIdx_cons] at el; cases el
        subst e0
        have e1 : olds = [] := List.eq_nil_of_length_eq_zero ol
        subst e1
        rw [List.append_nil] at er hTO₅
        subst er
        refine wpAny_bind (wpAny_seqItems hTO₅ rfl ?_)
        refine wpAny_bind (wpAny_newTuple ?_ (by show _ ≤ 16777216; rw [List.length_map]; omega))
        have hzlt : z < h5.objs.size := Heap.lt_size hz₅
        refine wpAny_bind ?_
        show wpAny _ _ (Builtin.SmallTypes.ownedTupleHandOut (.ref z) (.ref h5.objs.size)) _ _ _
        unfold Builtin.SmallTypes.ownedTupleHandOut
        have hz₆ : IsZipN (h5.push { cls := .type "tuple", data := .seq (rows.map x).toArray }) z TI TO .ellipsis f1 := Heap.get?_push_of_some _ hz₅
        refine wpAny_bind (wpAny_setField_rec hz₆ (by simp) fun h₇ hz₇ hs₇ => ?_)
        replace hz₇ : IsZipN h₇ z TI TO (rawInt h5.objs.size) f1 := hz₇
        refine wpAny_setField_rec hz₇ (by simp) fun h₈ hz₈ hs₈ => ?_
        replace hz₈ : IsZipN h₈ z TI TO (rawInt h5.objs.size) (.bool false) := hz₈
        have up : ∀ c o, c ≠ z → h5.get? c = some o → h₈.get? c = some o := fun c o c1 e => hs₈.extBut _ _ c1 (hs₇.extBut _ _ c1 (Heap.get?_push_of_some _ e))
        have hT₈ : IsTupN h₈ h5.objs.size (rows.map x) := hs₈.extBut _ _ (Nat.ne_of_gt hzlt) (hs₇.extBut _ _ (Nat.ne_of_gt hzlt) (Heap.get?_push_size _ rfl))
        have hz8 : h₈.objs.size = h5.objs.size + 1 := by rw [hs₈.1, hs₇.1, Heap.size_push]
        rw [hsz] at hz₈ hT₈ hz8
        refine wpAny_pure ⟨_, rfl, ?_⟩
        show Q (.ref h5.objs.size) _
        rw [hsz]
        have kf : ∀ c o, c ≠ z → c ≠ TO → (∀ r ∈ rows, c ≠ r.i) → s.heap.get? c = some o → h₈.get? c = some o := fun c o c1 c2 c3 e => up c o c1 (hk c o c1 c2 c3 e)
        exact hQ h₈ _ _ (.inr ⟨_, rfl⟩) hz₈ (kf _ _ D.TIz D.TITO (fun r h => (D.iTI r h).symm) hTI) ⟨_, List.length_map .., up _ _ D.TOz hTO₅⟩ (fun r h => (hd r h).but (c := z) up (D.iz r h) (D.az r h)) hT₈ hz8 kf
      · exact False.elim hb
  · simp only [Bool.false_eq_true, if_false]
    rw [← Array.forIn_toList]
    refine wpAny_bind (wpAny_mono (forIn_ok (fun l b s' => ∃ done rest, rows = done ++ rest ∧ l = (rest.map fun r => Value.ref r.i) ∧ b = (none, (done.map x).toArray) ∧ ∃ h' : Heap, s' = { s with heap := h' } ∧ h'.objs.size = s.heap.objs.size ∧ IsZipN h' z TI TO f0 g1 ∧
        (∀ r ∈ done, r.at (k + 1) h') ∧ (∀ r ∈ rest, r.at k h') ∧ ∀ c o, c ≠ z → (∀ r ∈ rows, c ≠ r.i) → s.heap.get? c = some o → h'.get? c = some o) (fun _ _ => False) ?_ _ _ _ ?_) (fun b s' hb => ?_) fun _ _ x => x)
    · rintro v l b s' ⟨done, rest, er, el, rfl, h', rfl, hsz, hz', hd, hrest, hk⟩
      cases rest with
      | nil => cases el
      | cons r0 rest =>
        rw [List.map_cons] at el
        injection el with el1 el2
        subst el1
        subst el2
        have hm : ∀ r, r ∈ done ∨ r = r0 ∨ r ∈ rest → r ∈ rows := fun r h => by
          rw [er]
          rcases h with h | rfl | h
          · exact List.mem_append_left _ h
          · exact List.mem_append_right _ List.mem_cons_self
          · exact List.mem_append_right _ (List.mem_cons_of_mem _ h)
        obtain ⟨nd1, nd2⟩ := nd_mid (er ▸ D.nd)
        have m0 := hm r0 (.inr (.inl rfl))
        have a0 := hrest r0 List.mem_cons_self
        refine wpAny_bind (wpAny_holding ?_)
        show wpAny _ _ (Builtin.SmallTypes.nextOf (.ref r0.i) >>= _) _ _ _
        refine wpAny_bind (src_item a0.1 a0.2 (hr r0 m0).2 fun h2 it2 sb2 => wpAny_pure (wpAny_pure ?_))
        refine ⟨done ++ [r0], rest, by rw [er, List.append_assoc]; rfl, rfl, by rw [List.map_append]; simp, h2, rfl, ?_, sb2.extBut _ _ (D.iz r0 m0).symm hz', fun r h => ?_, fun r h => ?_, fun c o c1 c3 e => sb2.extBut c o (c3 r0 m0) (hk c o c1 c3 e)⟩
        · rw [sb2.1]; exact hsz
        · rcases List.mem_append.mp h with h | h
          · have mr := hm r (.inl h)
            exact (hd r h).but (c := r0.i) (fun b o hb e => sb2.extBut b o hb e) (nd1 r h) (D.ai r mr r0 m0)
          · rw [List.mem_singleton] at h
            subst h
            exact ⟨it2, Src.has.at a0.2 fun o e => sb2.extBut _ o (D.ai r m0 r m0) e⟩
        · have mr := hm r (.inr (.inr h))
          exact (hrest r (List.mem_cons_of_mem _ h)).but (c := r0.i) (fun b o hb e => sb2.extBut b o hb e) (nd2 r h) (D.ai r mr r0 m0)
    · exact ⟨[], rows, rfl, rfl, rfl, h1, rfl, sb1.1, hz1, fun r h => (by cases h), fun r h => (hr r h).1.but (fun b o hb e => sb1.extBut b o hb e) (D.iz r h) (D.az r h), fun c o c1 _ e => sb1.extBut c o c1 e⟩
    · rcases hb with ⟨done, rest, er, el, rfl, h5, rfl, hsz, hz₅, hd, _, hk⟩ | hb
      · have e0 : rest = [] := by
          cases rest with
          | nil => rfl
          | cons r l => cases el
        subst e0
        rw [List.append_nil] at er
        subst er
        refine wpAny_bind (wpAny_newTuple ?_ (by show _ ≤ 16777216; rw [List.length_map]; omega))
        obtain ⟨vs, hvl, hvs⟩ := hTO
        have up : ∀ c o, h5.get? c = some o → (h5.push { cls := .type "tuple", data := .seq (rows.map x).toArray }).get? c = some o := fun c o e => Heap.get?_push_of_some _ e
        have kf : ∀ c o, c ≠ z → c ≠ TO → (∀ r ∈ rows, c ≠ r.i) → s.heap.get? c = some o → (h5.push { cls := .type "tuple", data := .seq (rows.map x).toArray }).get? c = some o := fun c o c1 c2 c3 e => up c o (hk c o c1 c3 e)
        refine wpAny_pure ⟨_, rfl, ?_⟩
        show Q (.ref h5.objs.size) _
        have hT : IsTupN (h5.push { cls := .type "tuple", data := .seq (rows.map x).toArray }) h5.objs.size (rows.map x) := Heap.get?_push_size _ rfl
        rw [hsz] at hT ⊢
        exact hQ _ _ _ h0 (up _ _ hz₅) (kf _ _ D.TIz D.TITO (fun r h => (D.iTI r h).symm) hTI) ⟨vs, hvl, up _ _ (hk _ _ D.TOz (fun r h => (D.iTO r h).symm) hvs)⟩ (fun r h => (hd r h).but (c := h5.objs.size + 1) (fun b o _ e => up b o e) (fun e => by
          obtain ⟨o, _, _, e1, _⟩ := (hd r h).1.obj
          have h : h5.objs.size + 1 < h5.objs.size := e ▸ Heap.lt_size e1
          exact absurd h (by omega)) (fun e => by
          have : ∃ o, h5.get? r.q.ad = some o := by
            have := (hd r h).2
            cases q : r.q with
            | l a => rw [q] at this; obtain ⟨o, e1, _⟩ := this; exact ⟨o, e1⟩
            | t a => rw [q] at this; obtain ⟨o, e1, _⟩ := this; exact ⟨o, e1⟩
          obtain ⟨o, e1⟩ := this
          have h : h5.objs.size + 1 < h5.objs.size := e ▸ Heap.lt_size e1
          exact absurd h (by omega))) hT (by rw [Heap.size_push, hsz]) kf
      · exact False.elim hb
theorem next_end {r0 : Row} {rest : List Row} {Q : Fin → Shared → Prop} (hh : A.handled = none) (D : Apart z TI TO (r0 :: rest)) (hz : IsZipN s.heap z TI TO f0 f1) (h0 : f0 = .none ∨ ∃ T : Addr, f0 = rawInt T)
    (hTI : IsTupN s.heap TI ((r0 :: rest).map fun r => .ref r.i)) (hr : r0.at k s.heap) (hx : r0.items[k]? = none)
    (hE : ∀ h' e, (∀ c o, c ≠ z → c ≠ r0.i → s.heap.get? c = some o → h'.get? c = some o) → (∃ o, h'.get? e = some o ∧ o.cls = .type "StopIteration") → E (.ref e) { s with heap := h' }) :
    wpAny (model prog w) A (Builtin.«zip.__next__» ⟨[.ref z], []⟩) Q E s := by
  have m0 : r0 ∈ r0 :: rest := List.mem_cons_self
  show wpAny _ _ (field (.ref z) 2 >>= _) _ _ _
  refine wpAny_bind (wpAny_field hz rfl (x := .bool false) rfl ?_)
  show wpAny _ _ (field (.ref z) 3 >>= _) _ _ _
  refine wpAny_bind (wpAny_field hz rfl (x := .ref TI) rfl ?_)
  refine wpAny_bind (wpAny_seqItems hTI rfl ?_)
  have emp : ((r0 :: rest).map fun r => Value.ref r.i).toArray.isEmpty = false := rfl
  simp only [emp, Bool.false_eq_true, if_false]
  refine wpAny_bind (free_ok hz h0 ?_ fun h1 g1 hz1 sb1 => ?_)
  · simp only [if_true]
    refine wpAny_bind (wpAny_rule ?_)
    refine wpAny_bind (wpAny_field hz rfl (x := .ref TO) rfl ?_)
    refine wpAny_bind (wpAny_setField_rec hz (by simp) fun h₁ hz₁ hs₁ => ?_)
    replace hz₁ : IsZipN h₁ z TI TO .ellipsis f1 := hz₁
    have a1 : r0.at k h₁ := hr.but (fun b o hb e => hs₁.extBut b o hb e) (D.iz r0 m0) (D.az r0 m0)
    refine wpAny_bind ?_
    simp only [List.map_cons, List.zipIdx_cons, List.forIn_cons]
    refine wpAny_bind (wpAny_bind (wpAny_onRaise ?_))
    show wpAny _ _ (Builtin.SmallTypes.nextOf (.ref r0.i) >>= _) _ _ _
    refine wpAny_bind (src_end hh a1.1 a1.2 hx fun h₂ e hs₂ he => ?_)
    obtain ⟨oe, hoe, hce⟩ := he
    have hz₂ : IsZipN h₂ z TI TO .ellipsis f1 := hs₂ _ _ (D.iz r0 m0).symm hz₁
    have hez : e ≠ z := fun x => by subst x; rw [hz₂] at hoe; cases hoe; simp at hce
    exact wpAny_setField_rec hz₂ (by simp) fun h₃ _ hs₃ => hE h₃ e (fun c o c1 c3 x => hs₃.extBut _ _ c1 (hs₂ _ _ c3 (hs₁.extBut _ _ c1 x))) ⟨oe, hs₃.extBut _ _ hez hoe, hce⟩
  · simp only [Bool.false_eq_true, if_false]
    rw [← Array.forIn_toList]
    have a1 : r0.at k h1 := hr.but (fun b o hb e => sb1.extBut b o hb e) (D.iz r0 m0) (D.az r0 m0)
    refine wpAny_bind ?_
    simp only [List.map_cons, List.forIn_cons]
    refine wpAny_bind (wpAny_bind (wpAny_holding ?_))
    show wpAny _ _ (Builtin.SmallTypes.nextOf (.ref r0.i) >>= _) _ _ _
    refine wpAny_bind (src_end hh a1.1 a1.2 hx fun h₂ e hs₂ he => ?_)
    exact hE h₂ e (fun c o c1 c3 x => hs₂ _ _ c3 (sb1.extBut _ _ c1 x)) he
theorem pyNext_item {x : Row → Value} {Q : Option Value → Shared → Prop} (D : Apart z TI TO rows) (hne : rows ≠ []) (hl : rows.length ≤ 1000) (hz : IsZipN s.heap z TI TO f0 f1) (h0 : f0 = .none ∨ ∃ T : Addr, f0 = rawInt T)
    (hTI : IsTupN s.heap TI (rows.map fun r => .ref r.i)) (hTO : ∃ vs, vs.length = rows.length ∧ IsTupN s.heap TO vs) (hr : ∀ r ∈ rows, r.at k s.heap ∧ r.items[k]? = some (x r))
    (hQ : ∀ h' g0 g1, (g0 = .none ∨ ∃ T : Addr, g0 = rawInt T) → IsZipN h' z TI TO g0 g1 → IsTupN h' TI (rows.map fun r => .ref r.i) → (∃ vs, vs.length = rows.length ∧ IsTupN h' TO vs) → (∀ r ∈ rows, r.at (k + 1) h') → IsTupN h' s.heap.objs.size (rows.map x) →
      h'.objs.size = s.heap.objs.size + 1 → (∀ c o, c ≠ z → c ≠ TO → (∀ r ∈ rows, c ≠ r.i) → s.heap.get? c = some o → h'.get? c = some o) → Q (some (.ref s.heap.objs.size)) { s with heap := h' }) :
    wpAny (model prog w) A (pyNext (.ref z)) Q E s := by
  have hT : s.TypeIs (.ref z) "zip" := ⟨_, hz, rfl⟩
  unfold pyNext
  exact wpAny_bind (wpAny_attempt (wpAny_callSpecial?_slot (name := Str.ofString "__next__") hT F.slot_zip_next
    (wpAny_call_entry F.slot_zip_next hT F.entry_zip_next
      (next_item D hne hl hz h0 hTI hTO hr fun h' g0 g1 a1 a2 a3 a4 a5 a6 a7 a8 => wpAny_pure (hQ h' g0 g1 a1 a2 a3 a4 a5 a6 a7 a8)) (F.args_zip_next_1 _))))
theorem pyNext_end {r0 : Row} {rest : List Row} {Q : Option Value → Shared → Prop} (hh : A.handled = none) (D : Apart z TI TO (r0 :: rest)) (hz : IsZipN s.heap z TI TO f0 f1) (h0 : f0 = .none ∨ ∃ T : Addr, f0 = rawInt T)
    (hTI : IsTupN s.heap TI ((r0 :: rest).map fun r => .ref r.i)) (hr : r0.at k s.heap) (hx : r0.items[k]? = none)
    (hQ : ∀ h', (∀ c o, c ≠ z → c ≠ r0.i → s.heap.get? c = some o → h'.get? c = some o) → Q none { s with heap := h' }) : wpAny (model prog w) A (pyNext (.ref z)) Q E s := by
  have hT : s.TypeIs (.ref z) "zip" := ⟨_, hz, rfl⟩
  unfold pyNext
  refine wpAny_bind (wpAny_attempt (wpAny_callSpecial?_slot (name := Str.ofString "__next__") hT F.slot_zip_next
    (wpAny_call_entry F.slot_zip_next hT F.entry_zip_next (next_end hh D hz h0 hTI hr hx fun h' e hk he => ?_) (F.args_zip_next_1 _))))
  obtain ⟨o, ho, hc⟩ := he
  refine wpAny_bind (wpAny_isInstance (T := "StopIteration") (b := true) ⟨o, ho, hc⟩ isSubtype_stop ?_)
  exact wpAny_pure (hQ _ hk)
theorem pyIter_self {Q : Value → Shared → Prop} (hz : IsZipN s.heap z TI TO f0 f1) (h : Q (.ref z) s) : wpAny (model prog w) A (pyIter (.ref z)) Q E s := by
  have hT : s.TypeIs (.ref z) "zip" := ⟨_, hz, rfl⟩
  refine wpAny_pyIter_slot hT F.slot_zip_iter (wpAny_call_entry F.slot_zip_iter hT F.entry_zip_iter ?_ (F.args_zip_iter_1 _))
  show wpAny _ _ (ret (.ref z)) _ _ s
  exact wpAny_pure ⟨_, rfl, "zip", _, hT, F.slot_zip_next.lookup, h⟩
end
end ZN
set_option Elab.async false
set_option linter.all false
set_option maxRecDepth 100000
namespace ZN
open PySem
open PySem.Sem (wp)
def Src.val (q : Src) : Value := .ref q.ad
def mkRows : Nat → List (Src × Array Value) → List Row
  | _, [] => []
  | n, (q, its) :: r => ⟨n, q, its⟩ :: mkRows (n + 1) r
theorem mkRows_app : ∀ (n : Nat) (a b : List (Src × Array Value)), mkRows n (a ++ b) = mkRows n a ++ mkRows (n + a.length) b
  | n, [], b => by rw [List.nil_append, List.length_nil, Nat.add_zero]; rfl
  | n, (q, its) :: a, b => by
    rw [List.cons_append]
    show _ :: mkRows (n + 1) (a ++ b) = _ :: mkRows (n + 1) a ++ _
    rw [mkRows_app (n + 1) a b, List.length_cons, show n + 1 + a.length = n + (a.length + 1) by omega]
    rfl
theorem mkRows_len : ∀ (n : Nat) (a : List (Src × Array Value)), (mkRows n a).length = a.length
  | n, [] => rfl
  | n, (q, its) :: a => by show (mkRows (n + 1) a).length + 1 = _; rw [mkRows_len]; rfl
section
variable {prog : Program} {w : World} {A : Around} {E : Value → Shared → Prop} {s : Shared}
theorem src_iter {q : Src} {items : Array Value} {Q : Value → Shared → Prop} (hl : q.has s.heap items) (hQ : ∀ h', q.it h' s.heap.objs.size 0 → h'.objs.size = s.heap.objs.size + 1 → (∀ c o, s.heap.get? c = some o → h'.get? c = some o) → Q (.ref s.heap.objs.size) { s with heap := h' }) :
    wpAny (model prog w) A (pyIter q.val) Q E s := by
  cases q with
  | l a => exact wpAny_pyIter_list hl (hQ _ ⟨_, Heap.get?_push_size _ rfl, rfl, rfl⟩ (Heap.size_push ..) fun c o e => Heap.get?_push_of_some _ e)
  | t a => exact wpAny_pyIter_tuple hl (hQ _ ⟨_, Heap.get?_push_size _ rfl, rfl, rfl⟩ (Heap.size_push ..) fun c o e => Heap.get?_push_of_some _ e)
theorem row_mono {h h' : Heap} {r : Row} {k : Nat} (x : r.at k h) (e : ∀ c o, h.get? c = some o → h'.get? c = some o) : r.at k h' := ⟨x.1.at fun o z => e _ o z, x.2.at fun o z => e _ o z⟩
theorem iterAll_ok {srcs : List (Src × Array Value)} {Q : List Value → Shared → Prop} (hs : ∀ p ∈ srcs, p.1.has s.heap p.2)
    (hQ : ∀ h', h'.objs.size = s.heap.objs.size + srcs.length → (∀ r ∈ mkRows s.heap.objs.size srcs, r.at 0 h') → (∀ c o, s.heap.get? c = some o → h'.get? c = some o) → Q ((mkRows s.heap.objs.size srcs).map fun r => .ref r.i) { s with heap := h' }) :
    wpAny (model prog w) A (Builtin.SmallTypes.iterAll (srcs.map fun p => p.1.val)) Q E s := by
  unfold Builtin.SmallTypes.iterAll
  refine wpAny_bind (wpAny_mono (forIn_ok (fun l b s' => ∃ done rest, srcs = done ++ rest ∧ l = (rest.map fun p => p.1.val) ∧ b = ((mkRows s.heap.objs.size done).map fun r => Value.ref r.i).toArray ∧ ∃ h' : Heap, s' = { s with heap := h' } ∧ h'.objs.size = s.heap.objs.size + done.length ∧
      (∀ r ∈ mkRows s.heap.objs.size done, r.at 0 h') ∧ ∀ c o, s.heap.get? c = some o → h'.get? c = some o) (fun _ _ => False) ?_ _ _ _ ?_) (fun b s' hb => ?_) fun _ _ x => x)
  · rintro v l b s' ⟨done, rest, er, el, rfl, h', rfl, hsz, hd, hk⟩
    cases rest with
    | nil => cases el
    | cons p rest =>
      rw [List.map_cons] at el
      injection el with el1 el2
      subst el1
      subst el2
      have mp : p ∈ srcs := by rw [er]; exact List.mem_append_right _ List.mem_cons_self
      refine wpAny_bind (wpAny_holding (src_iter (s := { s with heap := h' }) (items := p.2) ((hs p mp).at fun o e => hk _ o e) fun h2 it2 sz2 k2 => wpAny_pure ?_))
      have it2 : p.1.it h2 h'.objs.size 0 := it2
      have sz2 : h2.objs.size = h'.objs.size + 1 := sz2
      have k2 : ∀ c o, h'.get? c = some o → h2.get? c = some o := k2
      have eapp : mkRows s.heap.objs.size (done ++ [p]) = mkRows s.heap.objs.size done ++ [⟨h'.objs.size, p.1, p.2⟩] := by rw [mkRows_app, hsz]; rfl
      refine ⟨done ++ [p], rest, by rw [er, List.append_assoc]; rfl, rfl, ?_, h2, rfl, by rw [sz2, hsz, List.length_append]; rfl, fun r h => ?_, fun c o e => k2 c o (hk c o e)⟩
      · rw [eapp, List.map_append]
        simp
      · rw [eapp] at h
        rcases List.mem_append.mp h with h | h
        · exact row_mono (hd r h) k2
        · rw [List.mem_singleton] at h
          subst h
          exact ⟨it2, (hs p mp).at fun o e => k2 _ o (hk _ o e)⟩
  · exact ⟨[], srcs, rfl, rfl, rfl, s.heap, rfl, rfl, fun r h => (by cases h), fun _ _ e => e⟩
  · rcases hb with ⟨done, rest, er, el, rfl, h5, rfl, hsz, hd, hk⟩ | hb
    · have e0 : rest = [] := by
        cases rest with
        | nil => rfl
        | cons r l => cases el
      subst e0
      rw [List.append_nil] at er
      subst er
      exact wpAny_pure (hQ h5 hsz hd hk)
    · exact False.elim hb
end
theorem newClass_zip {prog : Program} {w : World} {A : Around} {E : Value → Shared → Prop} {s : Shared} {vs : List Value} {Q : Value × List Value → Shared → Prop} (h : Q (.type "zip", vs) s) : wpAny (model prog w) A (Builtin.SmallTypes.newClass "zip" ⟨.type "zip" :: vs, []⟩) Q E s := by
  have hsub := sub_zip
  unfold Builtin.SmallTypes.newClass
  wp_walk
  exact h
theorem new_ok (srcs : List (Src × Array Value)) (hl : srcs.length ≤ 1000) :
    Meets (Builtin.«zip.__new__» ⟨.type "zip" :: srcs.map (fun p => p.1.val), []⟩) (fun _ R s => (∀ p ∈ srcs, p.1.has s.heap p.2) ∧
      ∀ h', IsZipN h' (s.heap.objs.size + srcs.length + 2) (s.heap.objs.size + srcs.length) (s.heap.objs.size + srcs.length + 1) .none (.bool false) → IsTupN h' (s.heap.objs.size + srcs.length) ((mkRows s.heap.objs.size srcs).map fun r => .ref r.i) →
        IsTupN h' (s.heap.objs.size + srcs.length + 1) (srcs.map fun _ => .none) → (∀ r ∈ mkRows s.heap.objs.size srcs, r.at 0 h') → (∀ c o, s.heap.get? c = some o → h'.get? c = some o) →
        R (.ok (.ret (.ref (s.heap.objs.size + srcs.length + 2)))) { s with heap := h' }) :=
  .of_wp fun prog w A R s h => by
    obtain ⟨hs, h⟩ := h
    unfold Builtin.«zip.__new__»
    refine wpAny_bind (newClass_zip ?_)
    simp only [List.length_nil, Nat.not_lt_zero, gt_iff_lt, if_false]
    refine wpAny_bind (iterAll_ok hs fun h1 z1 r1 k1 => ?_)
    refine wpAny_bind (wpAny_newTuple ?_ (by show _ ≤ 16777216; rw [List.length_map, mkRows_len]; omega))
    refine wpAny_bind (wpAny_newTuple ?_ (by show _ ≤ 16777216; rw [List.length_map, List.length_map, mkRows_len]; omega))
    unfold Builtin.SmallTypes.newRecord
    generalize hT : ((mkRows s.heap.objs.size srcs).map fun r => Value.ref r.i) = ts
    generalize ho1 : ({ cls := .type "tuple", data := .seq ts.toArray } : Obj) = o1
    generalize ho2 : ({ cls := .type "tuple", data := .seq (ts.map fun x => Value.none).toArray } : Obj) = o2
    have e1 : (h1.push o1).objs.size = s.heap.objs.size + srcs.length + 1 := by rw [Heap.size_push, z1]
    have e2 : ((h1.push o1).push o2).objs.size = s.heap.objs.size + srcs.length + 2 := by rw [Heap.size_push, e1]
    refine wpAny_bind (wpAny_newObj_type ?_ (show 5 ≤ 16777216 + 2 by decide))
    refine wpAny_pure ⟨_, rfl, ?_⟩
    show R (.ok (.ret (.ref ((h1.push o1).push o2).objs.size))) { s with heap := ((h1.push o1).push o2).push { cls := .type "zip", data := .fields (Builtin.SmallTypes.ownedTupleFields ++ [Value.bool false, .ref h1.objs.size, .ref (h1.push o1).objs.size]).toArray } }
    generalize ho3 : ({ cls := .type "zip", data := .fields (Builtin.SmallTypes.ownedTupleFields ++ [Value.bool false, .ref h1.objs.size, .ref (h1.push o1).objs.size]).toArray } : Obj) = o3
    have g3 : (((h1.push o1).push o2).push o3).get? ((h1.push o1).push o2).objs.size = some o3 := Heap.get?_push_size _ (by rw [← ho3]; rfl)
    have g2 : (((h1.push o1).push o2).push o3).get? (h1.push o1).objs.size = some o2 := Heap.get?_push_of_some _ (Heap.get?_push_size _ (by rw [← ho2]; rfl))
    have g1 : (((h1.push o1).push o2).push o3).get? h1.objs.size = some o1 := Heap.get?_push_of_some _ (Heap.get?_push_of_some _ (Heap.get?_push_size _ (by rw [← ho1]; rfl)))
    have up : ∀ c x, h1.get? c = some x → (((h1.push o1).push o2).push o3).get? c = some x := fun c x e => Heap.get?_push_of_some _ (Heap.get?_push_of_some _ (Heap.get?_push_of_some _ e))
    rw [e2] at g3 ⊢
    rw [e1] at g2 ho3
    rw [z1] at g1 ho3
    refine h _ (g3.trans (congrArg some ho3.symm)) (g1.trans (by rw [← ho1, hT])) ?_ (fun r hr => row_mono (r1 r hr) up) fun c o e => up c o (k1 c o e)
    refine g2.trans ?_
    rw [← ho2, ← hT, List.map_map]
    have : (mkRows s.heap.objs.size srcs).map ((fun x => Value.none) ∘ fun r => Value.ref r.i) = srcs.map fun _ => .none := by
      apply List.ext_getElem
      · rw [List.length_map, List.length_map, mkRows_len]
      · intro i _ _
        rw [List.getElem_map, List.getElem_map]
        rfl
    rw [this]
end ZN
set_option Elab.async false
set_option linter.all false
set_option maxRecDepth 100000
namespace ZN
open PySem
structure ZArgs (vs : List Value) : Prop where
  tc : checkTypeCall "zip" ⟨vs, []⟩ = pure ()
  nc : checkBuiltinCall "zip.__new__" ⟨.type "zip" :: vs, []⟩ = pure ()
  oi : ∀ obj, argsOk "object.__init__" ⟨obj :: vs, []⟩
theorem zargs_gen (vs : List Value) (h : vs ≠ []) (hl : vs.length ≤ 6) : ZArgs vs := by
  match vs, h, hl with
  | [], h, _ => exact absurd rfl h
  | [a], _, _ => exact ⟨by kernel_rfl, by kernel_rfl, fun obj => by
    unfold argsOk; rw [signature?_of (id := "object.__init__") (n := ['_', '_', 't', 'i', 'n', 'i', '_', '_']) (o := ['t', 'c', 'e', 'j', 'b', 'o']) (by kernel_rfl) PySem.F.owner_object]; kernel_rfl⟩
  | [a, b], _, _ => exact ⟨by kernel_rfl, by kernel_rfl, fun obj => by
    unfold argsOk; rw [signature?_of (id := "object.__init__") (n := ['_', '_', 't', 'i', 'n', 'i', '_', '_']) (o := ['t', 'c', 'e', 'j', 'b', 'o']) (by kernel_rfl) PySem.F.owner_object]; kernel_rfl⟩
  | [a, b, c], _, _ => exact ⟨by kernel_rfl, by kernel_rfl, fun obj => by
    unfold argsOk; rw [signature?_of (id := "object.__init__") (n := ['_', '_', 't', 'i', 'n', 'i', '_', '_']) (o := ['t', 'c', 'e', 'j', 'b', 'o']) (by kernel_rfl) PySem.F.owner_object]; kernel_rfl⟩
  | [a, b, c, d], _, _ => exact ⟨by kernel_rfl, by kernel_rfl, fun obj => by
    unfold argsOk; rw [signature?_of (id := "object.__init__") (n := ['_', '_', 't', 'i', 'n', 'i', '_', '_']) (o := ['t', 'c', 'e', 'j', 'b', 'o']) (by kernel_rfl) PySem.F.owner_object]; kernel_rfl⟩
  | [a, b, c, d, e], _, _ => exact ⟨by kernel_rfl, by kernel_rfl, fun obj => by
    unfold argsOk; rw [signature?_of (id := "object.__init__") (n := ['_', '_', 't', 'i', 'n', 'i', '_', '_']) (o := ['t', 'c', 'e', 'j', 'b', 'o']) (by kernel_rfl) PySem.F.owner_object]; kernel_rfl⟩
  | [a, b, c, d, e, f], _, _ => exact ⟨by kernel_rfl, by kernel_rfl, fun obj => by
    unfold argsOk; rw [signature?_of (id := "object.__init__") (n := ['_', '_', 't', 'i', 'n', 'i', '_', '_']) (o := ['t', 'c', 'e', 'j', 'b', 'o']) (by kernel_rfl) PySem.F.owner_object]; kernel_rfl⟩
  | _ :: _ :: _ :: _ :: _ :: _ :: _ :: _, _, h => simp at h
section
variable {prog : Program} {w : World} {A : Around} {E : Value → Shared → Prop} {s : Shared}
theorem call_zipN (srcs : List (Src × Array Value)) {Q : Value → Shared → Prop} (hne : srcs ≠ []) (hl : srcs.length ≤ 6) (hs : ∀ p ∈ srcs, p.1.has s.heap p.2)
    (h : ∀ h', IsZipN h' (s.heap.objs.size + srcs.length + 2) (s.heap.objs.size + srcs.length) (s.heap.objs.size + srcs.length + 1) .none (.bool false) → IsTupN h' (s.heap.objs.size + srcs.length) ((mkRows s.heap.objs.size srcs).map fun r => .ref r.i) →
        IsTupN h' (s.heap.objs.size + srcs.length + 1) (srcs.map fun _ => .none) → (∀ r ∈ mkRows s.heap.objs.size srcs, r.at 0 h') → (∀ c o, s.heap.get? c = some o → h'.get? c = some o) → Q (.ref (s.heap.objs.size + srcs.length + 2)) { s with heap := h' }) :
    wpAny (model prog w) A (call (.type "zip") (srcs.map fun p => p.1.val)) Q E s := by
  obtain ⟨t1, t2, t3⟩ := zargs_gen (srcs.map fun p => p.1.val) (by simpa using hne) (by rw [List.length_map]; exact hl)
  refine callType_new F.called_zip (by decide) t1 t2 t3 F.entry_zip_new (new_ok srcs (by omega)) ⟨hs, fun h' a1 a2 a3 a4 a5 => ?_⟩
  exact ⟨⟨_, a1, rfl⟩, h h' a1 a2 a3 a4 a5⟩
end
end ZN
set_option Elab.async false
set_option linter.all false
set_option maxRecDepth 100000
/-! Core20: zip of lists and tuples walked by one name; zip(*xs). -/
namespace Mi
open PySem PySem.Spec PyProof.Rows L2
open ZN (Src Apart IsZipN IsTupN)
def sqOf : Src → Sq
  | .l a => .l a
  | .t a => .t a
theorem _root_.ZN.Apart.map {z TI TO : Addr} {rows : List ZN.Row} (D : Apart z TI TO rows) (f : ZN.Row → ZN.Row) (hi : ∀ r, (f r).i = r.i) (hq : ∀ r, (f r).q = r.q) : Apart z TI TO (rows.map f) := by
  have k : ∀ {P : ZN.Row → Prop}, (∀ r ∈ rows, P (f r)) → ∀ r ∈ rows.map f, P r := fun h r hr => by
    obtain ⟨r0, h0, rfl⟩ := List.mem_map.mp hr
    exact h r0 h0
  refine ⟨D.TIz, D.TOz, D.TITO, k fun r h => by rw [hi]; exact D.iz r h, k fun r h => by rw [hi]; exact D.iTI r h, k fun r h => by rw [hi]; exact D.iTO r h, k fun r h => by rw [hq]; exact D.az r h, k fun r h => by rw [hq]; exact D.aTO r h,
    k fun r h => k fun r' h' => by rw [hq, hi]; exact D.ai r h r' h', ?_⟩
  rw [List.map_map]
  have : (fun r => ZN.Row.i r) ∘ f = fun r => r.i := funext fun r => hi r
  rw [show ((fun x => ZN.Row.i x) ∘ f) = _ from this]
  exact D.nd
def ItzN (K : Fr0) (qs : List Src) : It :=
  ⟨fun i H => ∀ q ∈ qs, kgo K (sqOf q) i H,
    fun i H v H' => ∃ T vs, v = .ref T ∧ H T = none ∧ H' = upd H T (.tup vs) ∧ Paired (fun q x => kyl K (sqOf q) i H x) qs vs,
    fun i H => ∃ q0 r, qs = q0 :: r ∧ kst K (sqOf q0) i H⟩
def znAt (z TI TO : Addr) (rows : List ZN.Row) (i : Nat) (h : Heap) : Prop := ∃ g0 g1, (g0 = .none ∨ ∃ T : Addr, g0 = rawInt T) ∧ IsZipN h z TI TO g0 g1 ∧ IsTupN h TI (rows.map fun r => .ref r.i) ∧ (∃ vs, vs.length = rows.length ∧ IsTupN h TO vs) ∧ ∀ r ∈ rows, r.q.it h r.i i
theorem src_has {X : Cx} {pins : List (Addr × Obj)} {σ : L2.St} {H : Hp} {s : Shared} {q : Src} {i : Nat} (I : Inv X pins σ H s) (g : kgo X.K (sqOf q) i H) : ∃ p : Array Value × V, q.has s.heap p.1 ∧ (∃ u, p.1[i]? = some u ∧ RelV p.2 u) ∧ kyl X.K (sqOf q) i H p.2 := by
  cases q with
  | l a =>
    obtain ⟨xs, x, hq, hx⟩ := g
    obtain ⟨its, rv, p, _⟩ := I.list hq
    obtain ⟨u, hu, ru⟩ := rv.get hx
    exact ⟨(its.toArray, x), p.isList, ⟨u, by simpa using hu, ru⟩, fun l hl => by rw [I.list_inj hl hq]; exact hx⟩
  | t a =>
    obtain ⟨xs, x, hq, hx⟩ := g
    obtain ⟨its, rv, p, _⟩ := I.tuple hq
    obtain ⟨u, hu, ru⟩ := rv.get hx
    exact ⟨(its.toArray, x), p, ⟨u, by simpa using hu, ru⟩, fun l hl => by rw [I.tuple_inj hl hq]; exact hx⟩
theorem src_stop {X : Cx} {pins : List (Addr × Obj)} {σ : L2.St} {H : Hp} {s : Shared} {q : Src} {i : Nat} (I : Inv X pins σ H s) (g : kst X.K (sqOf q) i H) : ∃ its : Array Value, q.has s.heap its ∧ its[i]? = none := by
  cases q with
  | l a =>
    obtain ⟨xs, hq, hx⟩ := g
    obtain ⟨its, rv, p, _⟩ := I.list hq
    have := rv.length
    exact ⟨its.toArray, p.isList, by simp; omega⟩
  | t a =>
    obtain ⟨xs, hq, hx⟩ := g
    obtain ⟨its, rv, p, _⟩ := I.tuple hq
    have := rv.length
    exact ⟨its.toArray, p, by simp; omega⟩
theorem vals_map {α : Type} {g : α → V} {h : α → Value} : ∀ {l : List α}, (∀ r ∈ l, RelV (g r) (h r)) → Vals (l.map g) (l.map h)
  | [], _ => .nil
  | r :: l, k => .cons (k r List.mem_cons_self) (vals_map fun x hx => k x (List.mem_cons_of_mem _ hx))
theorem paired_map {α β γ : Type} {P : β → γ → Prop} {g : α → β} {h : α → γ} : ∀ {l : List α}, (∀ r ∈ l, P (g r) (h r)) → Paired P (l.map g) (l.map h)
  | [], _ => .nil
  | r :: l, k => .cons (k r List.mem_cons_self) (paired_map fun x hx => k x (List.mem_cons_of_mem _ hx))
theorem turn_zipN {P : Program} {w : World} {K : Fr0} {x : Str} {tpos : Pos} {z TI TO : Addr} {rows : List ZN.Row} (D : Apart z TI TO rows) (hne : rows ≠ []) (hl : rows.length ≤ 1000) :
    Turn P w K (.Name x tpos) (ItzN K (rows.map (·.q))) (z :: TI :: TO :: rows.map (·.i)) z (znAt z TI TO rows) where
  mem := List.mem_cons_self
  obj := fun i h ⟨g0, g1, _, hz, hTI, ⟨vs, _, hTO⟩, hr⟩ c hc => by
    rcases List.mem_cons.mp hc with rfl | hc
    · exact ⟨_, hz, fun v q => nomatch q⟩
    rcases List.mem_cons.mp hc with rfl | hc
    · exact ⟨_, hTI, fun v q => nomatch q⟩
    rcases List.mem_cons.mp hc with rfl | hc
    · exact ⟨_, hTO, fun v q => nomatch q⟩
    obtain ⟨r, h1, rfl⟩ := List.mem_map.mp hc
    obtain ⟨o, n, vs, e, _, d, _⟩ := (hr r h1).obj
    exact ⟨o, e, fun v q => by rw [d] at q; cases q⟩
  keep := fun i h h' ⟨g0, g1, h0, hz, hTI, ⟨vs, hv, hTO⟩, hr⟩ k => 
    ⟨g0, g1, h0, k z List.mem_cons_self _ hz, k TI (by simp) _ hTI, ⟨vs, hv, k TO (by simp) _ hTO⟩, fun r h1 => (hr r h1).at fun o e => k r.i (List.mem_cons_of_mem _ (List.mem_cons_of_mem _ (List.mem_cons_of_mem _ (List.mem_map.mpr ⟨r, h1, rfl⟩)))) o e⟩
  item := by
    intro X hP hw hK hc i pins s σ H E I hf st hg
    subst hP hw hK
    obtain ⟨g0, g1, h0, hz, hTI, ⟨vs, hv, hTO⟩, hr⟩ := st
    have ch : ∀ r ∈ rows, ∃ p : Array Value × V, r.q.has s.heap p.1 ∧ (∃ u, p.1[i]? = some u ∧ RelV p.2 u) ∧ kyl X.K (sqOf r.q) i H p.2 := fun r h1 => src_has I (hg r.q (List.mem_map.mpr ⟨r, h1, rfl⟩))
    obtain ⟨f, hfr⟩ : ∃ f : ZN.Row → Array Value × V, ∀ r ∈ rows, r.q.has s.heap (f r).1 ∧ (∃ u, (f r).1[i]? = some u ∧ RelV (f r).2 u) ∧ kyl X.K (sqOf r.q) i H (f r).2 := by
      classical
      exact ⟨fun r => if h : r ∈ rows then Classical.choose (ch r h) else (#[], .non), fun r h1 => by
        simp only [dif_pos h1]
        exact Classical.choose_spec (ch r h1)⟩
    let g : ZN.Row → ZN.Row := fun r => ⟨r.i, r.q, (f r).1⟩
    have D' : Apart z TI TO (rows.map g) := D.map g (fun _ => rfl) fun _ => rfl
    have eTI : ((rows.map g).map fun r => Value.ref r.i) = rows.map fun r => Value.ref r.i := by rw [List.map_map]; rfl
    have el : (rows.map g).length = rows.length := List.length_map ..
    refine ZN.pyNext_item (k := i) (x := fun r : ZN.Row => r.items[i]?.getD .none) D' (by simpa using hne) (by rw [el]; exact hl) hz h0 (by rw [eTI]; exact hTI) ⟨vs, by rw [el]; exact hv, hTO⟩ (fun r h1 => ?_) fun h' k0 k1 hk0 hz' hTI' hTO' hr' hT hsz hk => ?_
    · obtain ⟨r0, h2, rfl⟩ := List.mem_map.mp h1
      obtain ⟨a1, ⟨u, a2, a3⟩, a4⟩ := hfr r0 h2
      refine ⟨⟨hr r0 h2, a1⟩, ?_⟩
      show (f r0).1[i]? = some ((f r0).1[i]?.getD .none)
      rw [a2]
      rfl
    · refine ⟨_, rfl, ?_⟩
      have ev : (rows.map g).map (fun r => r.items[i]?.getD .none) = rows.map fun r => (f r).1[i]?.getD .none := by rw [List.map_map]; rfl
      rw [ev] at hT
      rw [eTI] at hTI'
      have rel : Vals (rows.map fun r => (f r).2) (rows.map fun r => (f r).1[i]?.getD .none) := vals_map fun r h2 => by
        obtain ⟨a1, ⟨u, a2, a3⟩, a4⟩ := hfr r h2
        rw [a2]
        exact a3
      have new : ObjOk X.prog X.w (upd H s.heap.objs.size (.tup (rows.map fun r => (f r).2))) h' s.heap.objs.size (.tup (rows.map fun r => (f r).2)) :=
        ⟨by show _ ≤ 16777216; rw [List.length_map]; omega, _, rel, ⟨_, hT, rfl, _, rfl⟩⟩
      have I1 : Inv X pins σ (upd H s.heap.objs.size (.tup (rows.map fun r => (f r).2))) { s with heap := h' } :=
        I.turnedNew (t' := s.toks) (ch := z :: TI :: TO :: rows.map (·.i)) (fun c o hb q => hk c o (fun q' => hb (by simp [q'])) (fun q' => hb (by simp [q'])) (fun r h1 q' => hb (by
          obtain ⟨r0, h2, rfl⟩ := List.mem_map.mp h1
          rw [q']
          exact List.mem_cons_of_mem _ (List.mem_cons_of_mem _ (List.mem_cons_of_mem _ (List.mem_map.mpr ⟨r0, h2, rfl⟩))))) q) hf (Nat.le_refl _) new
      refine wpAny_pure ⟨.ref s.heap.objs.size, _, I1, rfl, ⟨_, _, rfl, I.hok.fresh (Nat.le_refl _), rfl, paired_map fun r h2 => (hfr r h2).2.2⟩, ⟨k0, k1, hk0, hz', hTI', ?_, fun r h1 => (hr' (g r) (List.mem_map.mpr ⟨r, h1, rfl⟩)).1⟩, fun c hcm => ?_⟩
      · obtain ⟨vs', h1, h2⟩ := hTO'
        exact ⟨vs', by rw [h1, el], h2⟩
      · have hlt : c < s.heap.objs.size := by
          rcases List.mem_cons.mp hcm with rfl | hc
          · exact Heap.lt_size hz
          rcases List.mem_cons.mp hc with rfl | hc
          · exact Heap.lt_size hTI
          rcases List.mem_cons.mp hc with rfl | hc
          · exact Heap.lt_size hTO
          obtain ⟨r, h1, rfl⟩ := List.mem_map.mp hc
          obtain ⟨o, _, _, e, _⟩ := (hr r h1).obj
          exact Heap.lt_size e
        rw [upd_ne (Nat.ne_of_lt hlt)]
        exact (hf c hcm).1
  done := by
    intro X hP hw hK hc i pins s σ H E I hf st hg
    subst hP hw hK
    obtain ⟨g0, g1, h0, hz, hTI, ⟨vs, hv, hTO⟩, hr⟩ := st
    obtain ⟨q0, rq, eq, stp⟩ := hg
    cases rows with
    | nil => exact absurd rfl hne
    | cons r0 rest =>
      rw [List.map_cons] at eq
      injection eq with eq1 eq2
      subst eq1
      obtain ⟨its, hh, hx⟩ := src_stop I stp
      have D' : Apart z TI TO ((r0 :: rest).map fun r => ⟨r.i, r.q, its⟩) := D.map (fun r => ⟨r.i, r.q, its⟩) (fun _ => rfl) fun _ => rfl
      rw [List.map_cons] at D'
      refine ZN.pyNext_end (k := i) (r0 := ⟨r0.i, r0.q, its⟩) (I.ok.hd hc) D' hz h0 (by
        rw [List.map_cons, List.map_map]
        exact hTI) ⟨hr r0 List.mem_cons_self, hh⟩ hx fun h' hk => ⟨rfl, I.turnedL (t' := s.toks) (ch := z :: TI :: TO :: (r0 :: rest).map (·.i)) (fun c o hb q => hk c o (fun q' => hb (by simp [q'])) (fun q' => hb (by simp [q'])) q) hf⟩
  self := fun A i s Q E ⟨g0, g1, h0, hz, _⟩ h => ZN.pyIter_self hz h
end Mi
set_option Elab.async false
set_option linter.all false
set_option maxRecDepth 100000
/-! Core21: zip walked by one name: the walk itself. -/
namespace Mi
open PySem PySem.Spec PyProof.Rows L2
open ZN (Src Apart IsZipN IsTupN mkRows)
theorem mkRows_i : ∀ (n : Nat) (l : List (Src × Array Value)), (mkRows n l).map (·.i) = List.range' n l.length
  | n, [] => rfl
  | n, (q, its) :: r => by
    show n :: (mkRows (n + 1) r).map (·.i) = _
    rw [mkRows_i (n + 1) r, List.length_cons, List.range'_succ]
theorem mkRows_q : ∀ (n : Nat) (l : List (Src × Array Value)), (mkRows n l).map (·.q) = l.map (·.1)
  | n, [] => rfl
  | n, (q, its) :: r => by
    show q :: (mkRows (n + 1) r).map (·.q) = q :: _
    rw [mkRows_q (n + 1) r]
def srcH (K : Fr0) (H : Hp) : Src → Prop
  | .l a => ∃ xs, SqL K H a xs
  | .t a => ∃ xs, SqT K H a xs
theorem srcs_of {X : Cx} {pins : List (Addr × Obj)} {σ : L2.St} {H : Hp} {s : Shared} (I : Inv X pins σ H s) : ∀ {vs : List V} {qs : List Src} {us : List Value}, Paired (fun v q => v = V.ref q.ad ∧ srcH X.K H q) vs qs → Vals vs us →
    ∃ srcs : List (Src × Array Value), srcs.map (·.1) = qs ∧ us = srcs.map (fun p => p.1.val) ∧ ∀ p ∈ srcs, p.1.has s.heap p.2
  | _, _, _, .nil, .nil => ⟨[], rfl, rfl, fun p h => (by cases h)⟩
  | _, _, _, .cons (b := q) ⟨e, hq⟩ t, .cons r rs => by
    obtain ⟨srcs, e1, e2, e3⟩ := srcs_of I t rs
    subst e
    cases r
    have : ∃ its, q.has s.heap its := by
      cases q with
      | l a =>
        obtain ⟨xs, hq⟩ := hq
        obtain ⟨its, rv, p, _⟩ := I.list hq
        exact ⟨its.toArray, p.isList⟩
      | t a =>
        obtain ⟨xs, hq⟩ := hq
        obtain ⟨its, rv, p, _⟩ := I.tuple hq
        exact ⟨its.toArray, p⟩
    obtain ⟨its, hi⟩ := this
    refine ⟨(q, its) :: srcs, by rw [List.map_cons, e1], by rw [List.map_cons, e2]; rfl, fun p hp => ?_⟩
    rcases List.mem_cons.mp hp with rfl | hp
    · exact hi
    · exact e3 p hp
theorem has_lt {h : Heap} {q : Src} {its : Array Value} (x : q.has h its) : q.ad < h.objs.size := by
  cases q with
  | l a => obtain ⟨o, e, _⟩ := x; exact Heap.lt_size e
  | t a => obtain ⟨o, e, _⟩ := x; exact Heap.lt_size e
theorem apart_new {h : Heap} {srcs : List (Src × Array Value)} (hs : ∀ p ∈ srcs, p.1.has h p.2) : Apart (h.objs.size + srcs.length + 2) (h.objs.size + srcs.length) (h.objs.size + srcs.length + 1) (mkRows h.objs.size srcs) := by
  have hi : ∀ r ∈ mkRows h.objs.size srcs, h.objs.size ≤ r.i ∧ r.i < h.objs.size + srcs.length := fun r hr => by
    have := List.mem_map_of_mem (f := fun r : ZN.Row => r.i) hr
    rw [mkRows_i] at this
    exact List.mem_range'_1.mp this
  have ha : ∀ r ∈ mkRows h.objs.size srcs, r.q.ad < h.objs.size := fun r hr => by
    have := List.mem_map_of_mem (f := fun r : ZN.Row => r.q) hr
    rw [mkRows_q] at this
    obtain ⟨p, hp, e⟩ := List.mem_map.mp this
    rw [← e]
    exact has_lt (hs p hp)
  have ne : ∀ {a b : Nat}, a < b → a ≠ b := fun h => Nat.ne_of_lt h
  have hi2 : ∀ r ∈ mkRows h.objs.size srcs, ∀ k, r.i < h.objs.size + srcs.length + k := fun r hr k => Nat.lt_of_lt_of_le (hi r hr).2 (Nat.le_add_right _ _)
  have ha2 : ∀ r ∈ mkRows h.objs.size srcs, ∀ k, r.q.ad < h.objs.size + srcs.length + k := fun r hr k => Nat.lt_of_lt_of_le (ha r hr) (by omega)
  refine ⟨ne (by omega), ne (by omega), ne (by omega), fun r hr => ne (hi2 r hr 2), fun r hr => ne (hi r hr).2, fun r hr => ne (hi2 r hr 1), fun r hr => ne (ha2 r hr 2), fun r hr => ne (ha2 r hr 1), fun r hr r' hr' => ne (Nat.lt_of_lt_of_le (ha r hr) (hi r' hr').1), ?_⟩
  rw [mkRows_i]
  exact List.nodup_range'
theorem zip_pie {X : Cx} {pins : List (Addr × Obj)} {σ : L2.St} {H : Hp} {s : Shared} {x : Str} {tpos : Pos} {R : It → Hp → Prop} {srcs : List (Src × Array Value)} (I : Inv X pins σ H s) (hne : srcs ≠ []) (hl : srcs.length ≤ 6) (hs : ∀ p ∈ srcs, p.1.has s.heap p.2) (q : R (ItzN X.K (srcs.map (·.1))) H) :
    wpAny (model X.prog X.w) X.A (call (.type "zip") (srcs.map fun p => p.1.val)) (fun v s1 => wpAny (model X.prog X.w) X.A (pyIter v) (PIE X pins σ (.Name x tpos) R) X.xe s1) X.xe s := by
  refine ZN.call_zipN srcs hne hl hs fun h' hz hTI hTO hr hk => ?_
  have I2 : Inv X pins σ H { s with heap := h' } := I.kept (t' := s.toks) hk
  have D := apart_new hs
  refine ZN.pyIter_self hz ⟨_, _, _, _, H, rfl, I2, turn_zipN D (fun e => hne (by
    have := congrArg List.length e
    rw [ZN.mkRows_len] at this
    exact List.eq_nil_of_length_eq_zero this)) (by rw [ZN.mkRows_len]; omega), ⟨_, _, .inl rfl, hz, hTI, ⟨_, by rw [ZN.mkRows_len, List.length_map], hTO⟩, fun r h => (hr r h).1⟩, fun c hc => ?_, by rw [mkRows_q]; exact q⟩
  have hle : s.heap.objs.size ≤ c := by
    rcases List.mem_cons.mp hc with rfl | hc
    · exact Nat.le_trans (Nat.le_add_right _ srcs.length) (Nat.le_add_right _ 2)
    rcases List.mem_cons.mp hc with rfl | hc
    · exact Nat.le_add_right _ _
    rcases List.mem_cons.mp hc with rfl | hc
    · exact Nat.le_trans (Nat.le_add_right _ srcs.length) (Nat.le_add_right _ 1)
    rw [mkRows_i] at hc
    exact (List.mem_range'_1.mp hc).1
  exact I.fpOk hle (I.hok.fresh hle)
section
variable {X : Cx} {e e2 : Expr} {p pos tpos sp : Pos} {x : Str}
def iZipN (K : Fr0) (ta : TA) : TI := fun σ H R => ta σ H fun vs H1 => ∃ qs, Paired (fun v q => v = V.ref q.ad ∧ srcH K H1 q) vs qs ∧ qs ≠ [] ∧ qs.length ≤ 6 ∧ R (ItzN K qs) H1
theorem pi_zipN {ta : TA} (hg : Gl X "zip") (hm : X.mg "zip" = none) (ha : PA X [e, e2] ta)
    (hs : starEach [e, e2] X.env = (false, eval e X.env) :: starEach [e2] X.env := by rfl) (hpl : (backTo pos (starEach [e2] X.env)).any (·.1) = false := by rfl) :
    PI X (.Name x tpos) (.Call (.Name "zip" p) [e, e2] [] pos) (iZipN X.K ta) := by
  refine ⟨fun pins s σ H R I h => ?_⟩
  refine Call_ (ld_blt I hg hm PyProof.Rows.boot_zip (PyProof.Rows.callWith_type1 (thn (ha.run pos pins s σ H _ I h) fun us s1 ⟨vs, H1, I1, r1, q1⟩ => ?_) hs hpl))
  obtain ⟨qs, pq, h1, h2, q⟩ := q1
  obtain ⟨srcs, e1, e2, e3⟩ := srcs_of I1 pq r1
  subst e1
  subst e2
  exact zip_pie I1 (fun z => h1 (by rw [z]; rfl)) (by rw [List.length_map] at h2; exact h2) e3 q
def iZipS (K : Fr0) (te : TE) : TI := fun σ H R => te σ H fun v H1 => ∃ a vs qs, v = .ref a ∧ SqL K H1 a vs ∧ Paired (fun v q => v = V.ref q.ad ∧ srcH K H1 q) vs qs ∧ qs ≠ [] ∧ qs.length ≤ 6 ∧ R (ItzN K qs) H1
theorem pi_zipS {te : TE} (hg : Gl X "zip") (hm : X.mg "zip" = none) (he : PE X e te) (hs : starEach [.Starred e sp] X.env = [(true, eval e X.env)] := by rfl) :
    PI X (.Name x tpos) (.Call (.Name "zip" p) [.Starred e sp] [] pos) (iZipS X.K te) := by
  refine ⟨fun pins s σ H R I h => ?_⟩
  refine Call_ (ld_blt I hg hm PyProof.Rows.boot_zip ?_)
  rw [hs]
  refine PySem.W.ks_call (P := fun _ => True) rfl (fun h _ => ⟨.machine, .inr (.inl rfl), fun A Q E s _ q => wpAny_pure q⟩) (PySem.W.ks_lone (thn (he.run pins s σ H _ I h) fun u s1 ⟨v, H1, I1, r1, a, vs, qs, ev, hq, pq, h1, h2, q⟩ => ?_))
  subst ev
  cases r1
  obtain ⟨its, rv, pl, hz⟩ := I1.list hq
  obtain ⟨o, n, ho, hc, hd, hdt⟩ := pl
  have hT' : s1.TypeIs (.ref a) "list" := ⟨o, ho, hc⟩
  unfold PySem.W.StarOf notIterableAtAll
  refine wpAny_bind (wpAny_specialOf hT' PySem.F.slot_list_iter.lookup (wpAny_pure ⟨rfl, ?_⟩))
  refine wpAny_collect_seq a (.inl rfl) ho hc hdt (fun h' hk => ⟨trivial, ?_⟩) (by rw [List.size_toArray, ← rv.length]; exact hz)
  have I2 : Inv X pins σ H1 { s1 with heap := h' } := I1.kept (t' := s1.toks) hk
  obtain ⟨srcs, e1, e2, e3⟩ := srcs_of I2 pq rv
  subst e1
  subst e2
  exact zip_pie I2 (fun z => h1 (by rw [z]; rfl)) (by rw [List.length_map] at h2; exact h2) e3 q
end

/-! ### by plain data -/
def seqsD : List D → Option (List (List D))
  | [] => some []
  | d :: ds => do
    let r ← seqOf d
    let rs ← seqsD ds
    some (r :: rs)
def colsD : List (List D) → Option (List D)
  | [] => none
  | r0 :: rs => if (r0 :: rs).length ≤ 6 ∧ (rs.all fun r => decide (r.length = r0.length)) = true then some ((List.range r0.length).map fun i => .tuple ((r0 :: rs).map fun r => r.getD i .none)) else none
section
variable [KK]
def SrcD (F : Hp) : Src → List D → Prop
  | .l a, row => ∃ xs, F a = some (.lst xs) ∧ Dvs F xs row
  | .t a, row => ∃ xs, F a = some (.tup xs) ∧ Dvs F xs row
theorem srcs_D {F : Hp} : ∀ {vs : List V} {ds : List D} {rows : List (List D)}, Dvs F vs ds → seqsD ds = some rows → ∃ qs, Paired (fun v q => v = V.ref (Src.ad q)) vs qs ∧ Paired (SrcD F) qs rows
  | _, _, _, .nil, e => by
    cases e
    exact ⟨[], .nil, .nil⟩
  | _, _, _, .cons (d := d) h a, e => by
    obtain ⟨r, e1, e⟩ := bind_some e
    obtain ⟨rs, e2, e⟩ := bind_some e
    cases e
    obtain ⟨qs, p1, p2⟩ := srcs_D a e2
    match d, h, e1 with
    | .list xs, .lst hx dx, e1 =>
      cases e1
      exact ⟨.l _ :: qs, .cons rfl p1, .cons ⟨_, hx, dx⟩ p2⟩
    | .tuple xs, .tup hx dx, e1 =>
      cases e1
      exact ⟨.t _ :: qs, .cons rfl p1, .cons ⟨_, hx, dx⟩ p2⟩
theorem SrcD.go {F H : Hp} {q : Src} {row : List D} {i : Nat} (h : SrcD F q row) (s : Same F H) (hi : i < row.length) : kgo KK.K (sqOf q) i H := by
  cases q with
  | l a =>
    obtain ⟨xs, hx, dx⟩ := h
    have : i < xs.length := by rw [dx.len]; exact hi
    exact ⟨xs, xs[i], .of (s _ _ hx), List.getElem?_eq_getElem this⟩
  | t a =>
    obtain ⟨xs, hx, dx⟩ := h
    have : i < xs.length := by rw [dx.len]; exact hi
    exact ⟨xs, xs[i], .of (s _ _ hx), List.getElem?_eq_getElem this⟩
theorem SrcD.stop {F H : Hp} {q : Src} {row : List D} (h : SrcD F q row) (s : Same F H) : kst KK.K (sqOf q) row.length H := by
  cases q with
  | l a =>
    obtain ⟨xs, hx, dx⟩ := h
    exact ⟨xs, .of (s _ _ hx), by rw [dx.len]; exact Nat.le_refl _⟩
  | t a =>
    obtain ⟨xs, hx, dx⟩ := h
    exact ⟨xs, .of (s _ _ hx), by rw [dx.len]; exact Nat.le_refl _⟩
theorem SrcD.yld {F F1 H : Hp} {q : Src} {row : List D} {i : Nat} {x : V} (h : SrcD F q row) (s1 : Same F F1) (s : Same F1 H) (hi : i < row.length) (y : kyl KK.K (sqOf q) i H x) : Dv F1 x (row.getD i .none) := by
  rw [List.getD_eq_getElem?_getD, List.getElem?_eq_getElem hi]
  cases q with
  | l a =>
    obtain ⟨xs, hx, dx⟩ := h
    obtain ⟨v, e, dv⟩ := dx.get (List.getElem?_eq_getElem hi)
    have := y xs (.of (s _ _ (s1 _ _ hx)))
    rw [e] at this
    cases this
    exact dv.mono s1
  | t a =>
    obtain ⟨xs, hx, dx⟩ := h
    obtain ⟨v, e, dv⟩ := dx.get (List.getElem?_eq_getElem hi)
    have := y xs (.of (s _ _ (s1 _ _ hx)))
    rw [e] at this
    cases this
    exact dv.mono s1
theorem yld_all {F F1 H : Hp} {i : Nat} (s1 : Same F F1) (s : Same F1 H) : ∀ {qs : List Src} {rows : List (List D)} {vs : List V}, Paired (SrcD F) qs rows → Paired (fun q x => kyl KK.K (sqOf q) i H x) qs vs → (∀ r ∈ rows, i < r.length) → Dvs F1 vs (rows.map fun r => r.getD i .none)
  | _, _, _, .nil, .nil, _ => .nil
  | _, _, _, .cons h t, .cons y u, hl => .cons (h.yld s1 s (hl _ List.mem_cons_self) y) (yld_all s1 s t u fun r hr => hl r (List.mem_cons_of_mem _ hr))
theorem paired_mem {α β : Type} {P : α → β → Prop} : ∀ {as : List α} {bs : List β}, Paired P as bs → ∀ a ∈ as, ∃ b ∈ bs, P a b
  | _, _, .nil, a, h => nomatch h
  | _, _, .cons p t, a, h => by
    rcases List.mem_cons.mp h with rfl | h
    · exact ⟨_, List.mem_cons_self, p⟩
    · obtain ⟨b, hb, z⟩ := paired_mem t a h
      exact ⟨b, List.mem_cons_of_mem _ hb, z⟩
theorem wk_zipN {F : Hp} {qs : List Src} {rows : List (List D)} {cs : List D} (p : Paired (SrcD F) qs rows) (e : colsD rows = some cs) : Wk (ItzN KK.K qs) F cs := by
  cases p with
  | nil => cases e
  | @cons q r0 qs rs h t =>
    obtain ⟨⟨h6, hall⟩, rfl⟩ := ite_some (show (if (r0 :: rs).length ≤ 6 ∧ (rs.all fun r => decide (r.length = r0.length)) = true then some ((List.range r0.length).map fun i => PyData.tuple ((r0 :: rs).map fun r => r.getD i .none)) else none) = some cs from e)
    have hl : ∀ r ∈ r0 :: rs, r.length = r0.length := fun r hr => by
      rcases List.mem_cons.mp hr with rfl | hr
      · rfl
      · exact of_decide_eq_true (List.all_eq_true.mp hall r hr)
    refine ⟨fun i H hi s q' hq => ?_, fun H s => ⟨q, qs, rfl, ?_⟩, fun i F1 H x H' hi s1 s2 y => ?_⟩
    · rw [List.length_map, List.length_range] at hi
      obtain ⟨row, hr, sd⟩ := paired_mem (Paired.cons h t) q' hq
      exact sd.go s (by rw [hl row hr]; exact hi)
    · rw [List.length_map, List.length_range]
      exact h.stop s
    · rw [List.length_map, List.length_range] at hi
      obtain ⟨T, vs, rfl, hT, rfl, py⟩ := y
      have dvs := yld_all s1 s2 (Paired.cons h t) py fun r hr => by rw [hl r hr]; exact hi
      refine ⟨_, _, ?_, post_tup s2 hT dvs⟩
      rw [List.getElem?_map, List.getElem?_range hi]
      rfl
theorem paired_and {F H : Hp} (s : Same F H) : ∀ {vs : List V} {qs : List Src} {rows : List (List D)}, Paired (fun v q => v = V.ref (Src.ad q)) vs qs → Paired (SrcD F) qs rows → Paired (fun v q => v = V.ref q.ad ∧ srcH KK.K H q) vs qs
  | _, _, _, .nil, .nil => .nil
  | _, _, _, .cons (b := q) e t, .cons h u => .cons ⟨e, by
      cases q with
      | l a => obtain ⟨xs, hx, _⟩ := h; exact ⟨xs, .of (s _ _ hx)⟩
      | t a => obtain ⟨xs, hx, _⟩ := h; exact ⟨xs, .of (s _ _ hx)⟩⟩ (paired_and s t u)
theorem cols_len {rows : List (List D)} {cs : List D} (e : colsD rows = some cs) : rows ≠ [] ∧ rows.length ≤ 6 := by
  cases rows with
  | nil => cases e
  | cons r0 rs => exact ⟨(fun z => nomatch z), (ite_some (show (if (r0 :: rs).length ≤ 6 ∧ (rs.all fun r => decide (r.length = r0.length)) = true then some ((List.range r0.length).map fun i => PyData.tuple ((r0 :: rs).map fun r => r.getD i .none)) else none) = some cs from e)).1.1⟩
variable {X : Cx} {e e2 : Expr} {p pos tpos sp : Pos} {x : Str} {m : MR} {ms : MA}
def mZipN (ms : MA) : MI := fun ρ => do
  let (ds, ρ1) ← ms ρ
  let rows ← seqsD ds
  let cs ← colsD rows
  some (cs, ρ1)
theorem mi_zipN (hg : Gl X "zip") (hm : X.mg "zip" = none) (ha : MAs X [e, e2] ms)
    (hs : starEach [e, e2] X.env = (false, eval e X.env) :: starEach [e2] X.env := by rfl) (hpl : (backTo pos (starEach [e2] X.env)).any (·.1) = false := by rfl) (hK : X.K = KK.K := by rfl) : MIt X (.Name x tpos) (.Call (.Name "zip" p) [e, e2] [] pos) (mZipN ms) := ⟨(pi_zipN hg hm ha.ok hs hpl).imq fun σ H R q => by
  obtain ⟨F, G, b, ρ, hr, ds, ρ', e, k⟩ := q
  obtain ⟨⟨ds1, ρ1⟩, e1, e⟩ := bind_some e
  obtain ⟨rows, e2, e⟩ := bind_some e
  obtain ⟨cs, e3, e⟩ := bind_some e
  cases e
  refine ⟨F, G, b, ρ, hr, ds1, _, e1, fun F1 H1 vs s1 c1 h1 dvs => ?_⟩
  obtain ⟨qs, p1, p2⟩ := srcs_D dvs e2
  obtain ⟨n1, n2⟩ := cols_len e3
  rw [hK]
  exact ⟨qs, paired_and h1.fh p1 p2, fun z => n1 (by
    have := p2.length
    rw [z] at this
    exact List.eq_nil_of_length_eq_zero this.symm), by rw [p2.length]; exact n2, k F1 H1 _ s1 c1 h1 (wk_zipN p2 e3)⟩⟩
def mZipS (m : MR) : MI := fun ρ => do
  let (d, ρ1) ← mCap m ρ
  match d with
  | .list ds => do
    let rows ← seqsD ds
    let cs ← colsD rows
    some (cs, ρ1)
  | _ => none
theorem mi_zipS (hg : Gl X "zip") (hm : X.mg "zip" = none) (he : ME X e m) (hs : starEach [.Starred e sp] X.env = [(true, eval e X.env)] := by rfl) (hK : X.K = KK.K := by rfl) : MIt X (.Name x tpos) (.Call (.Name "zip" p) [.Starred e sp] [] pos) (mZipS m) := ⟨(pi_zipS hg hm he.ok hs).imq fun σ H R q => by
  obtain ⟨F, G, b, ρ, hr, ds, ρ', e, k⟩ := q
  obtain ⟨⟨d, ρ1⟩, e1, e⟩ := bind_some e
  obtain ⟨⟨r, ρ0⟩, e0, e1⟩ := bind_some e1
  refine ⟨F, G, b, ρ, hr, r, ρ0, e0, fun F1 H1 v1 s1 c1 h1 k1 => ?_⟩
  obtain ⟨F2, s2, c2, h2, dv⟩ := cap_ok h1 k1 e1
  match d, dv, e with
  | .list xs, .lst hx dx, e =>
    obtain ⟨rows, e2, e⟩ := bind_some e
    obtain ⟨cs, e3, e⟩ := bind_some e
    cases e
    obtain ⟨qs, p1, p2⟩ := srcs_D dx e2
    obtain ⟨n1, n2⟩ := cols_len e3
    rw [hK]
    exact ⟨_, _, qs, rfl, .of (h2.fh _ _ hx), paired_and h2.fh p1 p2, fun z => n1 (by
      have := p2.length
      rw [z] at this
      exact List.eq_nil_of_length_eq_zero this.symm), by rw [p2.length]; exact n2, k F2 H1 _ (s1.trans s2) (c1.trans c2) h2 (wk_zipN p2 e3)⟩⟩
end
end Mi
set_option Elab.async false
set_option linter.all false
set_option maxRecDepth 100000
/-! Core22: zip of tuples; in, not in over tuples of data; sorted of alike data of any length. -/
namespace Mi
open PySem PySem.Spec PyProof.Rows L2
open PySem.W (alike alikeAll dataLt AlikeAll AllAlike Sortable EachIs dataLe)
section
variable [KK] {X : Cx} {a b e : Expr} {p pos tpos : Pos} {elts : List Expr} {kk : Nat} {m ma mb : MR} {ms : MA}
theorem wk_zipT {K : Fr0} {F : Hp} {p q : Addr} {vs us : List V} {ds es : List D} (h : F p = some (.tup vs)) (a : Dvs F vs ds) (h' : F q = some (.tup us)) (a' : Dvs F us es) : Wk (RZ.ItzT K p q) F (zipL ds es) := by
  refine ⟨fun i H hi s => ?_, fun H s => ⟨vs, us, .of (s _ _ h), .of (s _ _ h'), by rw [zipL_len, a.len, a'.len]; omega⟩, fun i F1 H x H' hi s1 s2 y => ?_⟩
  · rw [zipL_len] at hi
    have hv : i < vs.length := by rw [a.len]; omega
    have hu : i < us.length := by rw [a'.len]; omega
    exact ⟨vs, us, vs[i], us[i], .of (s _ _ h), .of (s _ _ h'), List.getElem?_eq_getElem hv, List.getElem?_eq_getElem hu⟩
  · rw [zipL_len] at hi
    have hd : i < ds.length := by omega
    have he : i < es.length := by omega
    obtain ⟨T, w, z, rfl, hT, rfl, y, y'⟩ := y
    obtain ⟨v, e1, dv⟩ := a.get (List.getElem?_eq_getElem hd)
    obtain ⟨v', e1', dv'⟩ := a'.get (List.getElem?_eq_getElem he)
    have e2 := y vs (.of (s2 _ _ (s1 _ _ h)))
    rw [e1] at e2
    cases e2
    have e3 := y' us (.of (s2 _ _ (s1 _ _ h')))
    rw [e1'] at e3
    cases e3
    exact ⟨_, _, zipL_get ds es i _ _ (List.getElem?_eq_getElem hd) (List.getElem?_eq_getElem he), post_tup s2 hT (dvs2 (dv.mono s1) (dv'.mono s1))⟩
def zip2D : List D → Option (List D)
  | [.list as, .list bs] => some (zipL as bs)
  | [.tuple as, .tuple bs] => some (zipL as bs)
  | _ => none
def mZipA (ms : MA) : MI := fun ρ => do
  let (ds, ρ1) ← ms ρ
  let zs ← zip2D ds
  some (zs, ρ1)
theorem mi_zipA (hg : Gl X "zip") (hm : X.mg "zip" = none) (ha : MAs X [a, b] ms) (hs : starEach [a, b] X.env = (false, eval a X.env) :: starEach [b] X.env := by rfl) (hpl : (backTo pos (starEach [b] X.env)).any (·.1) = false := by rfl) :
    MIt X (.Tuple elts kk tpos) (.Call (.Name "zip" p) [a, b] [] pos) (mZipA ms) := ⟨(RZ.pi_zipA hg hm ha.ok hs hpl).imq fun σ H R q => by
  obtain ⟨F, G, b, ρ, hr, ds, ρ', e, k⟩ := q
  obtain ⟨⟨ds1, ρ1⟩, e1, e⟩ := bind_some e
  obtain ⟨zs, e2, e⟩ := bind_some e
  cases e
  refine ⟨F, G, b, ρ, hr, ds1, _, e1, fun F1 H1 vs s1 c1 h1 dvs => ?_⟩
  match ds1, dvs, e2 with
  | [.list as, .list bs], .cons (.lst ha hx) (.cons (.lst hb hy) .nil), e2 =>
    cases e2
    exact ⟨_, _, _, _, rfl, .inl ⟨.of (h1.fh _ _ ha), .of (h1.fh _ _ hb), k F1 H1 _ s1 c1 h1 (wk_zip ha hx hb hy)⟩⟩
  | [.tuple as, .tuple bs], .cons (.tup ha hx) (.cons (.tup hb hy) .nil), e2 =>
    cases e2
    exact ⟨_, _, _, _, rfl, .inr ⟨.of (h1.fh _ _ ha), .of (h1.fh _ _ hb), k F1 H1 _ s1 c1 h1 (wk_zipT ha hx hb hy)⟩⟩⟩
/-! ### in -/
def rInT (K : Fr0) (neg : Bool) : R2 := fun x y H Q => ∃ d ds, Dp K H x d ∧ Dp K H y (.tuple ds) ∧ SeqAt.shaped d = true ∧ SeqAt.shaped (.tuple ds) = true ∧ Q (.bl (neg != (ds.any fun z => PyData.eqv z d))) H
theorem room_t {A : Around} {d : D} {ds : List D} (sd : SeqAt.shaped d = true) (hu : A.units + 65 < cLine) : A.units + 1 + min (PyData.depthAll ds) d.depth < cLine := by
  have h := (Bool.and_eq_true_iff.mp sd).2
  have := of_decide_eq_true h
  have h2 : min (PyData.depthAll ds) d.depth ≤ 64 := Nat.le_trans (Nat.min_le_right _ _) this
  omega
theorem op_inT (hu : X.A.units + 65 < cLine) : OpR X (compareOp .In) (rInT X.K false) := by
  intro pins s σ H x y v u Q I rx ry h
  obtain ⟨d, ds, hd, he, sd, se, q⟩ := h
  obtain ⟨as, r1⟩ := Dp.reads I d x v hd rx
  obtain ⟨bs, r2⟩ := Dp.reads I (.tuple ds) y u he ry
  rw [Bool.false_bne] at q
  exact SeqAt.in_tuple_reads r2 r1 (SeqAt.canLay_of_shaped se) (SeqAt.canLay_of_shaped sd) (room_t sd hu) ⟨.bl _, H, I, rfl, q⟩
theorem op_notInT (hu : X.A.units + 65 < cLine) : OpR X (compareOp .NotIn) (rInT X.K true) := by
  intro pins s σ H x y v u Q I rx ry h
  obtain ⟨d, ds, hd, he, sd, se, q⟩ := h
  obtain ⟨as, r1⟩ := Dp.reads I d x v hd rx
  obtain ⟨bs, r2⟩ := Dp.reads I (.tuple ds) y u he ry
  rw [Bool.true_bne] at q
  exact SeqAt.notIn_tuple_reads r2 r1 (SeqAt.canLay_of_shaped se) (SeqAt.canLay_of_shaped sd) (room_t sd hu) ⟨.bl _, H, I, rfl, q⟩
def anyD' (a : D) (ds : List D) : Option Bool := if SeqAt.shaped a = true ∧ SeqAt.shaped (.list ds) = true then some (ds.any fun z => PyData.eqv z a) else none
def inXD (a : D) : D → Option Bool
  | .list ds => anyD' a ds
  | .tuple ds => anyD' a ds
  | .str z => inSD a z
  | _ => none
theorem cmp_inX (hu : X.A.units + 65 < cLine) (hK : X.K = KK.K := by rfl) : CmpOk X .In inXD := ⟨_, ((op_inD hu).or (op_inT hu)).or op_in_sign, fun F H v1 v2 d1 d2 k s b1 b2 e Q q => by
  match d2, e, b2 with
  | .list ds, e, b2 =>
    obtain ⟨⟨h1, h2⟩, rfl⟩ := ite_some (show (if SeqAt.shaped d1 = true ∧ SeqAt.shaped (.list ds) = true then some (ds.any fun z => PyData.eqv z d1) else none) = some k from e)
    exact .inl (.inl ⟨d1, ds, b1.dp s (plain_of_shaped h1), b2.dp s (plain_of_shaped h2), h1, h2, q⟩)
  | .tuple ds, e, b2 =>
    obtain ⟨⟨h1, h2⟩, rfl⟩ := ite_some (show (if SeqAt.shaped d1 = true ∧ SeqAt.shaped (.list ds) = true then some (ds.any fun z => PyData.eqv z d1) else none) = some k from e)
    have h2' : SeqAt.shaped (.tuple ds) = true := h2
    exact .inl (.inr ⟨d1, ds, b1.dp s (plain_of_shaped h1), b2.dp s (plain_of_shaped h2'), h1, h2', by rw [Bool.false_bne]; exact q⟩)
  | .str z, e, b2 =>
    obtain ⟨c, e1, e2⟩ := in_sign b1 e
    exact .inr ⟨c, z, e1, b2.str, by rw [e2]; exact q⟩⟩
theorem cmp_notinX (hu : X.A.units + 65 < cLine) (hK : X.K = KK.K := by rfl) : CmpOk X .NotIn (fun a b => (inXD a b).map (!·)) := ⟨_, ((op_notInD hu).or (op_notInT hu)).or op_notIn_sign, fun F H v1 v2 d1 d2 k s b1 b2 e Q q => by
  obtain ⟨k', e0, rfl⟩ := map_some e
  clear e
  have e : inXD d1 d2 = some k' := e0
  clear e0
  match d2, e, b2 with
  | .list ds, e, b2 =>
    obtain ⟨⟨h1, h2⟩, rfl⟩ := ite_some (show (if SeqAt.shaped d1 = true ∧ SeqAt.shaped (.list ds) = true then some (ds.any fun z => PyData.eqv z d1) else none) = some k' from e)
    exact .inl (.inl ⟨d1, ds, b1.dp s (plain_of_shaped h1), b2.dp s (plain_of_shaped h2), h1, h2, q⟩)
  | .tuple ds, e, b2 =>
    obtain ⟨⟨h1, h2⟩, rfl⟩ := ite_some (show (if SeqAt.shaped d1 = true ∧ SeqAt.shaped (.list ds) = true then some (ds.any fun z => PyData.eqv z d1) else none) = some k' from e)
    have h2' : SeqAt.shaped (.tuple ds) = true := h2
    exact .inl (.inr ⟨d1, ds, b1.dp s (plain_of_shaped h1), b2.dp s (plain_of_shaped h2'), h1, h2', by rw [Bool.true_bne]; exact q⟩)
  | .str z, e, b2 =>
    obtain ⟨c, e1, e2⟩ := in_sign b1 e
    exact .inr ⟨c, z, e1, b2.str, by rw [e2]; exact q⟩⟩
/-! ### sorted -/
def rSortG (K : Fr0) : List V → Hp → VK → Prop := fun vs H Q => ∃ (T : V → D → Prop) (p : Addr) (its : List V) (ds : List D), vs = [.ref p] ∧ SqL K H p its ∧ DpAll K H its ds ∧ Paired T its ds ∧ AllAlike ds ∧ Sortable ds ∧ (∀ d ∈ ds, d.depth ≤ 60) ∧
  ∀ (ys : List V) q, H q = none → Paired T ys (ds.mergeSort (dataLe false id)) → Q (.ref q) (upd H q (.lst ys))
theorem each_of {h : Heap} {T : V → D → Prop} : ∀ {its : List V} {us : List Value} {ds : List D} {as : List Addr}, Vals its us → Paired T its ds → ReadsAll h us ds as → EachIs (fun v d => ∃ x, RelV x v ∧ T x d) us ds ∧ EachIs (fun v d => ∃ as, Reads h v (id d) as) us ds
  | _, _, _, _, .nil, .nil, .nil => ⟨.nil, .nil⟩
  | _, _, _, _, .cons r rs, .cons t ts, .cons z zs => by
    obtain ⟨e1, e2⟩ := each_of rs ts zs
    exact ⟨.cons ⟨_, r, t⟩ e1, .cons ⟨_, z⟩ e2⟩
theorem of_each {T : V → D → Prop} : ∀ {us : List Value} {ds : List D}, EachIs (fun v d => ∃ x, RelV x v ∧ T x d) us ds → ∃ ys, Vals ys us ∧ Paired T ys ds
  | _, _, .nil => ⟨[], .nil, .nil⟩
  | _, _, .cons ⟨x, r, t⟩ e => by
    obtain ⟨ys, h1, h2⟩ := of_each e
    exact ⟨x :: ys, .cons r h1, .cons t h2⟩
theorem cr_sortG (hu : X.A.units + 64 < cLine) : CallR X (.builtin "sorted") (rSortG X.K) := by
  intro pins s σ H vs us Q I r h
  obtain ⟨T, a, its, ds, rfl, hs, hd, ht, hal, hk, dep, q⟩ := h
  obtain ⟨vals, rv, hl, hz⟩ := I.list hs
  obtain ⟨u, rfl, ru⟩ := vals1 r
  obtain rfl : u = Value.ref a := ru
  obtain ⟨as, hr⟩ := Dp.readsAll I _ _ _ hd rv
  obtain ⟨e1, e2⟩ := each_of rv ht hr
  have hlen : ds.length ≤ sizeLine := by rw [← ht.length]; exact hz
  refine PySem.W.sorted_data hl.isList e1 e2 (by rw [List.map_id]; exact hal) (by rw [List.map_id]; exact hk) hlen (fun d hdm => ?_) fun out ho eo => ?_
  · have := dep d hdm
    show X.A.units + 2 + d.depth < cLine
    omega
  · obtain ⟨ys, v1, p1⟩ := of_each eo
    obtain ⟨n, hn⟩ := sortedAll_at s.heap vals out.toArray
    have hn' : (sortedAll s.heap vals out.toArray).get? (s.heap.objs.size + 1) = some (seqObj "list" out.toArray n) := hn
    refine ⟨.ref (s.heap.objs.size + 1), upd H (s.heap.objs.size + 1) (.lst ys), I.laid (t' := s.toks) (fun b o e => sortedAll_old e) (Nat.le_succ _) ⟨?_, out, n, v1, hn'⟩, rfl, q ys _ (I.hok.fresh (Nat.le_succ _)) p1⟩
    have := v1.length
    show ys.length ≤ sizeLine
    omega
def tupB : D → Bool
  | .tuple (_ :: _) => true
  | _ => false
def othB : D → Bool
  | .tuple _ => false
  | .none => false
  | _ => true
def sortOk (ds : List D) : Bool := plainDs ds && (ds.all fun x => ds.all fun y => alike x y) && (ds.all tupB || ds.all othB) && ds.all fun d => decide (d.depth ≤ 60)
def sortGD : D → Option R
  | .list ds => if sortOk ds = true then some (.fr (ds.mergeSort (dataLe false id))) else none
  | _ => none
theorem paired_dvs {F : Hp} : ∀ {vs : List V} {ds : List D}, Dvs F vs ds → Paired (Dv F) vs ds
  | _, _, .nil => .nil
  | _, _, .cons h t => .cons h (paired_dvs t)
theorem dvs_paired {F : Hp} : ∀ {vs : List V} {ds : List D}, Paired (Dv F) vs ds → Dvs F vs ds
  | _, _, .nil => .nil
  | _, _, .cons h t => .cons h (dvs_paired t)
theorem c_sortG (hu : X.A.units + 64 < cLine) (hK : X.K = KK.K := by rfl) : Call1 X (.builtin "sorted") sortGD := ⟨_, cr_sortG hu, fun F H v1 d1 k s b e Q q => by
  match d1, e, b with
  | .list ds, e, b =>
    obtain ⟨ok, rfl⟩ := ite_some (show (if sortOk ds = true then some (R.fr (ds.mergeSort (dataLe false id))) else none) = some k from e)
    obtain ⟨p, vs, rfl, h, x⟩ := b.list s
    unfold sortOk at ok
    simp only [Bool.and_eq_true] at ok
    obtain ⟨⟨⟨o1, o2⟩, o3⟩, o4⟩ := ok
    refine ⟨Dv F, p, vs, ds, rfl, .of h, (x.mono s).pl o1, paired_dvs x, fun d hd d' hd' => List.all_eq_true.mp (List.all_eq_true.mp o2 d hd) d' hd', ?_, fun d hd => of_decide_eq_true (List.all_eq_true.mp o4 d hd), fun ys l hl hp => q _ _ _ (post_fr s hl (dvs_paired hp))⟩
    rcases Bool.or_eq_true_iff.mp o3 with o | o
    · refine .inl fun d hd => ?_
      have := List.all_eq_true.mp o d hd
      match d, this with
      | .tuple (x :: r), _ => exact ⟨x, r, rfl⟩
    · refine .inr fun d hd => ?_
      have := List.all_eq_true.mp o d hd
      match d, this with
      | .bool _, _ => exact ⟨(fun z => nomatch z), fun xs z => nomatch z⟩
      | .int _, _ => exact ⟨(fun z => nomatch z), fun xs z => nomatch z⟩
      | .str _, _ => exact ⟨(fun z => nomatch z), fun xs z => nomatch z⟩
      | .list _, _ => exact ⟨(fun z => nomatch z), fun xs z => nomatch z⟩
      | .dict _, _ => exact ⟨(fun z => nomatch z), fun xs z => nomatch z⟩⟩
end
end Mi
set_option Elab.async false
set_option linter.all false
set_option maxRecDepth 100000
/-! Ev22: equations for Core18 .. Core22. -/
namespace Mi
open PySem PySem.Spec PyProof.Rows L2
section
variable {ρ : En} {e : M} {ma mb m : MR} {it it1 : MI} {g g1 : MG} {t t1 : MB} {el : MR} {vs vs1 : List Nat} {mas : MA}
@[simp] theorem mLc2_c : mLc2 it g t it1 g1 t1 el vs vs1 (e :: ρ) = bnd (it (e :: ρ)) fun x => if okW x.2 vs = true then bnd (lcGo2 g t it1 g1 t1 el vs vs1 x.1 x.2 []) fun y => some (.fr y.1, y.2) else none := (rfl)
@[simp] theorem mZipA_c : mZipA mas (e :: ρ) = bnd (mas (e :: ρ)) fun x => bnd (zip2D x.1) fun ds => some (ds, x.2) := (rfl)
@[simp] theorem zip2D_l (as bs : List D) : zip2D [.list as, .list bs] = some (zipL as bs) := (rfl)
@[simp] theorem zip2D_t (as bs : List D) : zip2D [.tuple as, .tuple bs] = some (zipL as bs) := (rfl)
@[simp] theorem mZipN_c : mZipN mas (e :: ρ) = bnd (mas (e :: ρ)) fun x => bnd (seqsD x.1) fun rows => bnd (colsD rows) fun cs => some (cs, x.2) := (rfl)
def starD : D → Option (List D)
  | .list ds => bnd (seqsD ds) colsD
  | _ => none
@[simp] theorem starD_l (ds : List D) : starD (.list ds) = bnd (seqsD ds) colsD := (rfl)
@[simp] theorem mZipS_c : mZipS m (e :: ρ) = bnd (mCap m (e :: ρ)) fun x => bnd (starD x.1) fun cs => some (cs, x.2) := by
  show (mCap m (e :: ρ)).bind _ = (mCap m (e :: ρ)).bind _
  congr 1
  funext x
  obtain ⟨d, ρ1⟩ := x
  cases d with
  | list ds =>
    show (seqsD ds).bind _ = bnd (bnd (seqsD ds) colsD) _
    cases seqsD ds with
    | none => rfl
    | some rows => rfl
  | _ => rfl
theorem seqsD_tuples : ∀ rows : List (List D), seqsD (rows.map .tuple) = some rows
  | [] => rfl
  | r :: rows => by
    show bnd (some r) (fun r => bnd (seqsD (rows.map .tuple)) fun rs => some (r :: rs)) = _
    rw [seqsD_tuples rows]
    rfl
theorem seqsD_lists : ∀ rows : List (List D), seqsD (rows.map .list) = some rows
  | [] => rfl
  | r :: rows => by
    show bnd (some r) (fun r => bnd (seqsD (rows.map .list)) fun rs => some (r :: rs)) = _
    rw [seqsD_lists rows]
    rfl
theorem colsD_eq {r0 : List D} {rs : List (List D)} (h6 : rs.length ≤ 5) (h : ∀ r ∈ rs, r.length = r0.length) : colsD (r0 :: rs) = some ((List.range r0.length).map fun i => .tuple ((r0 :: rs).map fun r => r.getD i .none)) := by
  show (if _ then _ else _) = _
  rw [if_pos ⟨by rw [List.length_cons]; omega, List.all_eq_true.mpr fun r hr => decide_eq_true (h r hr)⟩]
/-- a comprehension with two fors, over images -/
theorem lc2_pure {α : Type} {f : α → D} {h : α → List D} : ∀ (xs : List α) (acc : List D), (∀ x ∈ xs, ∀ acc : List D, acc.length ≤ 100000 → ∃ ρ2 ds1 ρ3 ρ4, bnd (g (f x) (wipeE ρ vs)) t = some (true, ρ2) ∧ it1 ρ2 = some (ds1, ρ3) ∧ okW ρ3 vs1 = true ∧ lcGo g1 t1 el vs1 ds1 ρ3 acc = some (acc ++ h x, ρ4) ∧ backE ρ ρ4 vs = ρ) →
    acc.length + ((xs.map h).flatten).length ≤ 100000 → lcGo2 g t it1 g1 t1 el vs vs1 (xs.map f) ρ acc = some (acc ++ (xs.map h).flatten, ρ)
  | [], acc, _, _ => by simp [lcGo2]
  | x :: r, acc, hs, hl => by
    obtain ⟨ρ2, ds1, ρ3, ρ4, e1, e2, e3, e4, e5⟩ := hs x List.mem_cons_self acc (by omega)
    rw [List.map_cons, List.map_cons, List.flatten_cons]
    rw [List.map_cons, List.flatten_cons, List.length_append] at hl
    show bnd (g (f x) (wipeE ρ vs)) (fun ρ1 => bnd (t ρ1) fun y => if y.1 = true then bnd (it1 y.2) (fun z => if okW z.2 vs1 = true then bnd (lcGo g1 t1 el vs1 z.1 z.2 acc) (fun w => lcGo2 g t it1 g1 t1 el vs vs1 (r.map f) (backE ρ w.2 vs) w.1) else none) else lcGo2 g t it1 g1 t1 el vs vs1 (r.map f) (backE ρ y.2 vs) acc) = _
    cases q : g (f x) (wipeE ρ vs) with
    | none => rw [q] at e1; cases e1
    | some ρ1 =>
      rw [q, bnd_some] at e1
      rw [bnd_some, e1, bnd_some, if_pos rfl, e2, bnd_some, if_pos e3, e4, bnd_some, e5]
      rw [lc2_pure r (acc ++ h x) (fun y hy => hs y (List.mem_cons_of_mem _ hy)) (by rw [List.length_append]; omega), List.append_assoc]
end
/-! in, sorted -/
@[simp] theorem inXD_l (a : D) (ds : List D) : inXD a (.list ds) = anyD' a ds := (rfl)
@[simp] theorem inXD_t (a : D) (ds : List D) : inXD a (.tuple ds) = anyD' a ds := (rfl)
theorem anyD'_of {a : D} {ds : List D} (h : SeqAt.shaped a = true) (h2 : SeqAt.shaped (.list ds) = true) : anyD' a ds = some (ds.any fun z => PyData.eqv z a) := if_pos ⟨h, h2⟩
theorem eqv_ints : ∀ (xs ys : List Int), PyData.eqv (.tuple (xs.map .int)) (.tuple (ys.map .int)) = decide (xs = ys)
  | [], [] => rfl
  | [], y :: ys => rfl
  | x :: xs, [] => rfl
  | x :: xs, y :: ys => by
    have ih := eqv_ints xs ys
    have e : PyData.eqv (.tuple ((x :: xs).map .int)) (.tuple ((y :: ys).map .int)) = (decide (x = y) && PyData.eqv (.tuple (xs.map .int)) (.tuple (ys.map .int))) := by
      simp only [PyData.eqv, PyData.eqvAll, List.map_cons]
      rw [show (x == y) = decide (x = y) from rfl]
    rw [e, ih]
    by_cases h : x = y <;> simp [h]
end Mi
set_option Elab.async false
set_option linter.all false
set_option maxRecDepth 100000
/-! Core23: defs that change the list that is their first argument and only read the others; lists that are lent. -/
namespace Mi
open PySem PySem.Spec PyProof.Rows L2
variable [KK]
/-- what is handed in: data, or a list that is lent -/
inductive Ag where
  | d (x : D) | l (ds : List D)
def agM : Ag → M
  | .d x => .sh x
  | .l ds => .lent ds
inductive AgsOk (F L : Hp) : List V → List Ag → Prop
  | nil : AgsOk F L [] []
  | d {v : V} {x : D} {vs : List V} {as : List Ag} : Dv F v x → AgsOk F L vs as → AgsOk F L (v :: vs) (.d x :: as)
  | l {p : Addr} {us : List V} {ds : List D} {vs : List V} {as : List Ag} : L p = some (.lst us) → Dvs F us ds → AgsOk F L vs as → AgsOk F L (.ref p :: vs) (.l ds :: as)
theorem AgsOk.len {F L : Hp} : ∀ {vs : List V} {as : List Ag}, AgsOk F L vs as → vs.length = as.length
  | _, _, .nil => rfl
  | _, _, .d _ a => by rw [List.length_cons, List.length_cons, a.len]
  | _, _, .l _ _ a => by rw [List.length_cons, List.length_cons, a.len]
theorem AgsOk.get {F L : Hp} : ∀ {vs : List V} {as : List Ag} {i : Nat} {a : Ag}, AgsOk F L vs as → as[i]? = some a → (∃ x v, a = .d x ∧ vs[i]? = some v ∧ Dv F v x) ∨ ∃ ds p us, a = .l ds ∧ vs[i]? = some (.ref p) ∧ L p = some (.lst us) ∧ Dvs F us ds
  | _, _, i, _, .nil, e => by simp at e
  | _, _, 0, a, .d h t, e => by
    cases e
    exact .inl ⟨_, _, rfl, rfl, h⟩
  | _, _, 0, a, .l h h' t, e => by
    cases e
    exact .inr ⟨_, _, _, rfl, rfl, h, h'⟩
  | _, _, i + 1, a, .d h t, e => by
    have := AgsOk.get (i := i) (a := a) t (by simpa using e)
    simpa using this
  | _, _, i + 1, a, .l h h' t, e => by
    have := AgsOk.get (i := i) (a := a) t (by simpa using e)
    simpa using this
def spIOL (φ : List D → List Ag → Option (R × List D)) : Sp := fun vs H Q _ => ∃ F L b bs ws vs' as r ws', vs = .ref b :: vs' ∧ Same F H ∧ Same L H ∧ L b = none ∧ H b = some (.lst bs) ∧ F b = none ∧ Dvs F bs ws ∧ AgsOk F L vs' as ∧ φ ws as = some (r, ws') ∧
  ∀ F' H' v bs', PostIO F H b r F' H' v → H' b = some (.lst bs') → Dvs F' bs' ws' → F' b = none → Q v H'
def startA (n : Nat) (as : List Ag) : En := as.map agM ++ List.replicate (n - as.length) M.no
def startIOL (n : Nat) (ws : List D) (as : List Ag) : En := .io ws :: startA (n - 1) as
theorem startA_len {n : Nat} {as : List Ag} (h : as.length ≤ n) : (startA n as).length = n := by
  unfold startA
  rw [List.length_append, List.length_map, List.length_replicate]
  omega
theorem startA_get {n i : Nat} {as : List Ag} {m : M} (h : (startA n as)[i]? = some m) : m = .no ∨ ∃ a, m = agM a ∧ as[i]? = some a := by
  unfold startA at h
  rw [List.getElem?_append] at h
  split at h
  · rw [List.getElem?_map] at h
    cases q : as[i]? with
    | none => rw [q] at h; cases h
    | some d =>
      rw [q] at h
      exact .inr ⟨d, (Option.some.inj h).symm, rfl⟩
  · rw [List.getElem?_replicate] at h
    split at h
    · exact .inl (Option.some.inj h).symm
    · cases h
theorem agM_own {a : Ag} : ¬ ((∃ ds, agM a = .own ds) ∨ (∃ ds, agM a = .io ds) ∨ ∃ ks, agM a = .dct ks) := by
  cases a <;> rintro (⟨_, h⟩ | ⟨_, h⟩ | ⟨_, h⟩) <;> cases h
section
variable {P : Program} {w : World} {K : Fr0} {mg : Str → Option Value} {base : Heap}
theorem fn_mkIOL {x qual : Str} {st : Stmt} {f : Addr} {fd : FuncData} {N ps : List Str} {k : Nat} {φ : List D → List Ag → Option (R × List D)} {m : MS'} (F : Fun K x qual st f fd) (S : FnScope N ps (defScope st))
    (hb : ∀ (cdv : Value) (A : Around) (outer : List Env) (s : Shared) (H : Hp) (E : XK), Room k (A.deeper (envOfC qual (defScope st) s.heap.objs.size f cdv)) →
      MSs (cxOf CX0 P w K mg base N qual (defScope st) f cdv A outer s H E).nox (defBody st) m)
    (hφ : ∀ ws as r ws', φ ws as = some (r, ws') → as.length + 1 = ps.length ∧ ∃ o ρ', m (startIOL N.length ws as) = some (o, ρ') ∧ outR o = some r ∧ ρ'[0]? = some (.io ws')) : FnOk P w K mg base CX0 (k + 1) f fd ps (spIOL φ) := by
  refine F.ok S (fun vs H Q E h => ?_) (fun cdv A outer s H vs Q E hr h => ?_)
  · obtain ⟨F0, L, b, bs, ws, vs', as, r, ws', rfl, _, _, _, _, _, _, a, e, _⟩ := h
    rw [List.length_cons, a.len, (hφ ws as r ws' e).1]
  · obtain ⟨F0, L, b, bs, ws, vs', as, r, ws', rfl, s0, sL, Lb, hb0, fb, aw, a, e, q⟩ := h
    obtain ⟨hl, o, ρ', em, eo, e0⟩ := hφ ws as r ws' e
    have hpN : ps.length ≤ N.length := by
      have := congrArg List.length S.pre
      rw [List.length_take] at this
      omega
    have hN1 : 1 ≤ N.length := by omega
    have sLd : Same L (dele H b) := fun x o z => by
      by_cases hx : x = b
      · rw [hx, Lb] at z; cases z
      · rw [dele_ne hx]; exact sL _ _ z
    have noOwn : ∀ i, ¬ OwnAt (startA (N.length - 1) as) i := fun i o => by
      have key : ∀ m, (startA (N.length - 1) as)[i]? = some m → ((∃ ds, m = .own ds) ∨ (∃ ds, m = .io ds) ∨ ∃ ks, m = .dct ks) → False := fun m e h => by
        rcases startA_get e with rfl | ⟨a, rfl, _⟩
        · rcases h with ⟨_, h⟩ | ⟨_, h⟩ | ⟨_, h⟩ <;> cases h
        · exact agM_own h
      rcases o with ⟨x, e⟩ | ⟨x, e⟩ | ⟨x, e⟩
      · exact key _ e (.inl ⟨x, rfl⟩)
      · exact key _ e (.inr (.inl ⟨x, rfl⟩))
      · exact key _ e (.inr (.inr ⟨x, rfl⟩))
    have rp : Rp F0 (dele H b) H ⟨b, L⟩ (start N (.ref b :: vs')) (startIOL N.length ws as) := by
      rw [start_cons hN1]
      unfold startIOL
      have lv : (start (N.drop 1) vs').length = N.length - 1 := by
        rw [startV_len (by rw [a.len, List.length_drop]; omega), List.length_drop]
      refine ⟨s0, fun x o z => ?_, by rw [List.length_cons, List.length_cons, startA_len (by omega), lv], fun i mm z => ?_, fun i j p oi oj _ _ => ?_, sLd⟩
      · by_cases hx : x = b
        · rw [hx, dele_same] at z; cases z
        · rw [dele_ne hx] at z; exact z
      · cases i with
        | zero =>
          have z' : M.io ws = mm := Option.some.inj z
          subst z'
          exact ⟨rfl, bs, hb0, aw, fb, dele_same⟩
        | succ i =>
          have z' : (startA (N.length - 1) as)[i]? = some mm := by simpa using z
          rcases startA_get z' with rfl | ⟨ag, rfl, e1⟩
          · trivial
          · rcases a.get e1 with ⟨x, v, rfl, e2, dv⟩ | ⟨ds, p, us, rfl, e2, e3, dvs⟩
            · exact ⟨v, by simpa using startV_get (N := N.drop 1) e2, dv⟩
            · exact ⟨p, us, by simpa using startV_get (N := N.drop 1) e2, e3, dvs⟩
      · have z : ∀ k, OwnAt (.io ws :: startA (N.length - 1) as) k → k = 0 := fun k ok => by
          cases k with
          | zero => rfl
          | succ k =>
            rcases ok with ⟨x, e⟩ | ⟨x, e⟩ | ⟨x, e⟩
            · exact absurd (.inl ⟨x, by simpa using e⟩) (noOwn k)
            · exact absurd (.inr (.inl ⟨x, by simpa using e⟩)) (noOwn k)
            · exact absurd (.inr (.inr ⟨x, by simpa using e⟩)) (noOwn k)
        rw [z i oi, z j oj]
    refine ⟨_, (hb cdv A outer s H E hr).ok, F0, dele H b, ⟨b, L⟩, _, rp, o, ρ', em, fun F' H' σ' s1 c1 h1 => ?_⟩
    have sl : SlotOk F' (dele H b) H' ⟨b, L⟩ σ' 0 (.io ws') := h1.slot 0 _ e0
    obtain ⟨sb, bs', hb', xb, fb', _⟩ := sl
    have fin : ∀ v r', RsOk F' (dele H b) H' σ' ρ' v r' → (∀ i, r' ≠ .bw i) → r' = r → Q v H' := fun v r' kk hr' er => by
      subst er
      refine q F' H' v bs' ⟨s1, fun a' o' ha' z => h1.gh _ _ (by rw [dele_ne ha']; exact z), h1.fh, fun a' fa => ?_, ?_⟩ hb' xb fb'
      · cases z : H a' with
        | none => exact .inr rfl
        | some o' =>
          by_cases hab : a' = b
          · rw [hab] at fa
            exact absurd fb' fa
          · exact .inl (c1 a' (by rw [dele_ne hab, z]; exact fun y => nomatch y) fa)
      · cases r' with
        | sh d => exact kk
        | bw i => exact absurd rfl (hr' i)
        | fr ds' =>
          obtain ⟨p, vs1, rfl, a1, x1, f1, g1, n1⟩ := kk
          have hpb : p ≠ b := fun z => n1 0 (.inr (.inl ⟨ws', e0⟩)) (by rw [z]; exact sb)
          rw [dele_ne hpb] at g1
          exact ⟨p, vs1, rfl, g1, a1, x1, f1⟩
    cases o with
    | nx =>
      cases eo
      exact fin .non (.sh .none) .non (fun _ z => nomatch z) rfl
    | bk => cases eo
    | ct => cases eo
    | rt r' =>
      cases r' with
      | sh d =>
        cases eo
        exact fun v k => fin v _ k (fun _ z => nomatch z) rfl
      | fr ds' =>
        cases eo
        exact fun v k => fin v _ k (fun _ z => nomatch z) rfl
      | bw i => cases eo
end
/-- an argument as it is handed in: slot i's own list must not be lent besides -/
def agR (i : Nat) (ρ : En) : R → Option Ag
  | .sh d => some (.d d)
  | .fr ds => some (.l ds)
  | .bw j => if j = i then none else match ρ[j]? with
    | some (.own ds) => some (.l ds)
    | some (.lent ds) => some (.l ds)
    | some (.sh d) => some (.d d)
    | _ => none
def agsR (i : Nat) (ρ : En) : List R → Option (List Ag)
  | [] => some []
  | r :: rs => do
    let a ← agR i ρ r
    let as ← agsR i ρ rs
    some (a :: as)
/-- all lists that stand, but one -/
def lists (H : Hp) (b : Addr) : Hp := fun a => if a = b then none else match H a with
  | some (.lst vs) => some (.lst vs)
  | _ => none
theorem lists_same {H : Hp} {b : Addr} : Same (lists H b) H := fun a o e => by
  unfold lists at e
  split at e
  · cases e
  · split at e
    · rename_i q
      rw [q]; exact e
    · cases e
theorem lists_b {H : Hp} {b : Addr} : lists H b b = none := if_pos rfl
theorem lists_at {H : Hp} {a b : Addr} {vs : List V} (h : a ≠ b) (e : H a = some (.lst vs)) : lists H b a = some (.lst vs) := by
  unfold lists
  rw [if_neg h, e]
theorem ag_ok {F G H : Hp} {fm : Fm} {σ : L2.St} {ρ : En} {v : V} {r : R} {i : Nat} {a : Ag} {b : Addr} (h : Rp F G H fm σ ρ) (k : RsOk F G H σ ρ v r) (o : OwnAt ρ i) (es : σ[i]? = some (some (.ref b))) (e : agR i ρ r = some a) :
    (∃ x, a = .d x ∧ Dv F v x) ∨ ∃ ds p us, a = .l ds ∧ v = .ref p ∧ lists H b p = some (.lst us) ∧ Dvs F us ds := by
  cases r with
  | sh d =>
    cases e
    exact .inl ⟨d, rfl, k⟩
  | fr ds =>
    cases e
    obtain ⟨p, vs, rfl, h1, x1, f1, g1, n1⟩ := k
    exact .inr ⟨ds, p, vs, rfl, rfl, lists_at (fun z => n1 i o (by rw [z]; exact es)) h1, x1⟩
  | bw j =>
    have k' : σ[j]? = some (some v) := k
    have e : (if j = i then none else match ρ[j]? with
      | some (.own ds) => some (.l ds)
      | some (.lent ds) => some (.l ds)
      | some (.sh d) => some (.d d)
      | _ => none) = some a := e
    by_cases hj : j = i
    · rw [if_pos hj] at e; cases e
    rw [if_neg hj] at e
    cases q : ρ[j]? with
    | none => rw [q] at e; cases e
    | some m =>
      rw [q] at e
      have s := h.slot j m q
      cases m with
      | no => cases e
      | io _ => cases e
      | dct _ => cases e
      | sh d =>
        cases e
        obtain ⟨v', a1, c1⟩ := s
        rw [k'] at a1
        cases a1
        exact .inl ⟨d, rfl, c1⟩
      | own ds =>
        cases e
        obtain ⟨p, vs, a1, c1, x1, f1, g1⟩ := s
        rw [k'] at a1
        cases a1
        exact .inr ⟨ds, p, vs, rfl, rfl, lists_at (fun z => hj (h.ne j i p (.inl ⟨ds, q⟩) o k' (by rw [z]; exact es))) c1, x1⟩
      | lent ds =>
        cases e
        obtain ⟨p, vs, a1, c1, x1⟩ := s
        rw [k'] at a1
        cases a1
        refine .inr ⟨ds, p, vs, rfl, rfl, lists_at (fun z => ?_) (h.gh _ _ (h.lg _ _ c1)), x1⟩
        obtain ⟨_, _, _, g⟩ := h.own_some o es
        have := h.lg _ _ c1
        rw [z, g] at this
        cases this
theorem ags_ok {F G H : Hp} {fm : Fm} {σ : L2.St} {ρ : En} {i : Nat} {b : Addr} (h : Rp F G H fm σ ρ) (o : OwnAt ρ i) (es : σ[i]? = some (some (.ref b))) : ∀ {vs : List V} {rs : List R} {as : List Ag}, RsAll F G H σ ρ vs rs → agsR i ρ rs = some as → AgsOk F (lists H b) vs as
  | [], [], as, _, e => by
    cases e
    exact .nil
  | v :: vs, r :: rs, as, k, e => by
    obtain ⟨a, e1, e⟩ := bind_some e
    obtain ⟨as2, e2, e⟩ := bind_some e
    cases e
    have t := ags_ok h o es k.2 e2
    rcases ag_ok h k.1 o es e1 with ⟨x, rfl, dv⟩ | ⟨ds, p, us, rfl, rfl, l1, x1⟩
    · exact .d dv t
    · exact .l l1 x1 t
  | [], _ :: _, _, k, _ => False.elim k
  | _ :: _, [], _, k, _ => False.elim k
section
variable {X : Cx} {pos p : Pos} {es : List Expr} {k : Nat} {x y : Str} {py : Pos} {i : Nat}
def mCallIOL (φ : List D → List Ag → Option (R × List D)) (i : Nat) (ml : ML) : MR := fun ρ => do
  let _ ← contE ρ i
  let (rs, ρ1) ← ml ρ
  let ws ← contE ρ1 i
  let as ← agsR i ρ1 rs
  let (r, ws') ← φ ws as
  some (r, putE ρ1 i ws')
theorem me_callIOLC {φ : List D → List Ag → Option (R × List D)} {ml : ML} (c : Cl X.prog X.w X.mg X.base x k (spIOL φ)) (hr : Room k X.A) (hg : Gl X x)
    (hy : PE X (.Name y py) (tVar i)) (ha : MLs X es ml) (hK : X.K = KK.K := by rfl) (hdb : (x == ("__debug__" : Str)) = false := by decide) (he : starEach (.Name y py :: es) X.env = (false, eval (.Name y py) X.env) :: starEach es X.env := by rfl) (hpl : (backTo pos (starEach es X.env)).any (·.1) = false := by rfl) :
    ME X (.Call (.Name x p) (.Name y py :: es) [] pos) (mCallIOL φ i ml) := by
  obtain ⟨f, fd, ps, F, hm, hk, hb⟩ := c
  rw [← hK] at F hk hb
  exact ⟨(pe_call (dvs := []) F hr hg hm hk hb .nil pass0 (pa_cons hy ha.ok he) hdb he hpl).imq fun σ H Q q => by
    obtain ⟨F0, G, b, ρ, hr0, r, ρ', e, k⟩ := q
    obtain ⟨w0, e0, e⟩ := bind_some e
    obtain ⟨⟨rs, ρ1⟩, e1, e⟩ := bind_some e
    obtain ⟨ws, e2, e⟩ := bind_some e
    obtain ⟨as, e4, e⟩ := bind_some e
    obtain ⟨⟨r1, ws'⟩, e3, e⟩ := bind_some e
    cases e
    obtain ⟨_, p0, vs0, es0, _⟩ := cont_ok hr0 e0
    refine ⟨.ref p0, es0, F0, G, b, ρ, hr0, rs, _, e1, fun F1 H1 vs s1 c1 h1 k1 => ?_⟩
    refine (show spIOL φ ((.ref p0 :: vs) ++ []) H1 Q E0 from ?_)
    rw [List.append_nil]
    obtain ⟨o1, p1, bs, es1, hb1, xb, fb, gb⟩ := cont_ok h1 e2
    have : p1 = p0 := by
      rw [es0] at es1
      cases es1
      rfl
    subst this
    refine ⟨F1, lists H1 p1, p1, bs, ws, vs, as, r, ws', rfl, h1.fh, lists_same, lists_b, hb1, fb, xb, ags_ok h1 o1 es0 k1 e4, e3, fun F' H' v bs' P hb' x' f' => ?_⟩
    have fo : ∀ j q, OwnAt ρ1 j → σ[j]? = some (some (.ref q)) → F' q = none := fun j q oj ej => by
      obtain ⟨_, a1, f1, _⟩ := h1.own_some oj ej
      cases z : F' q with
      | none => rfl
      | some u =>
        rcases P.new q (by rw [z]; exact fun y => nomatch y) with w | w
        · exact absurd f1 w
        · rw [a1] at w; cases w
    have rp' : Rp F' G H' b σ (putE ρ1 i ws') := by
      refine h1.putC o1 es0 P.ff P.fh (fun a o q => P.hh a o (fun z => ?_) (h1.gh _ _ q)) (fun a o ha q _ => P.hh a o ha q) hb' x' f' fo
      rw [z, gb] at q
      cases q
    refine k F' H' v (s1.trans P.ff) (c1.trans fun a ga fa => ?_) rp' ?_
    · rcases P.new a fa with w | w
      · exact w
      · exact absurd (h1.gh.free w) ga
    · have q := P.res
      cases r with
      | sh d => exact q
      | bw j => exact False.elim q
      | fr xs =>
        obtain ⟨p2, vs2, rfl, n2, a2, x2, f2⟩ := q
        refine ⟨p2, vs2, rfl, a2, x2, f2, h1.gh.free n2, fun j oj ej => ?_⟩
        have oj1 : OwnAt ρ1 j := by
          rcases oj with ⟨xs, e⟩ | ⟨xs, e⟩ | ⟨xs, e⟩
          · rcases putE_get e with ⟨a, _⟩ | ⟨_, z⟩
            · rw [a]; exact o1
            · exact .inl ⟨xs, z⟩
          · rcases putE_get e with ⟨a, _⟩ | ⟨_, z⟩
            · rw [a]; exact o1
            · exact .inr (.inl ⟨xs, z⟩)
          · rcases putE_get e with ⟨a, _⟩ | ⟨_, z⟩
            · rw [a]; exact o1
            · exact .inr (.inr ⟨xs, z⟩)
        obtain ⟨_, a3, _, _⟩ := h1.own_some oj1 ej
        rw [n2] at a3
        cases a3⟩
end
def runIOL (n p : Nat) (m : MS') (ws : List D) (as : List Ag) : Option (R × List D) := if as.length + 1 = p then (m (startIOL n ws as)).bind fun x => (outR x.1).bind fun r => ioR x.2 r else none
theorem runIOL_ok {n p : Nat} {m : MS'} {N ps : List Str} (hn : N.length = n) (hp : ps.length = p) : ∀ ws as r ws', runIOL n p m ws as = some (r, ws') → as.length + 1 = ps.length ∧ ∃ o ρ', m (startIOL N.length ws as) = some (o, ρ') ∧ outR o = some r ∧ ρ'[0]? = some (.io ws') := by
  intro ws as r ws' e
  subst hn hp
  obtain ⟨hl, e0⟩ := ite_some' (show (if as.length + 1 = ps.length then (m (startIOL N.length ws as)).bind fun x => (outR x.1).bind fun r => ioR x.2 r else none) = some (r, ws') from e)
  obtain ⟨⟨o, ρ'⟩, e1, e⟩ := bind_some' e0
  obtain ⟨r', e3, e4⟩ := bind_some' e
  refine ⟨hl, o, ρ', e1, ?_⟩
  have e4 : ioR ρ' r' = some (r, ws') := e4
  unfold ioR at e4
  cases q : ρ'[0]? with
  | none => simp [q] at e4
  | some mm =>
    cases mm with
    | io xs => simp only [q] at e4; cases e4; exact ⟨e3, rfl⟩
    | no => simp [q] at e4
    | sh _ => simp [q] at e4
    | own _ => simp [q] at e4
    | dct _ => simp [q] at e4
    | lent _ => simp [q] at e4
end Mi
set_option Elab.async false
set_option linter.all false
set_option maxRecDepth 100000
/-! Ev23: equations for Core23. -/
namespace Mi
open PySem PySem.Spec PyProof.Rows L2
def agM' (i j : Nat) : Option M → Option Ag
  | some (.own ds) => if j = i then none else some (.l ds)
  | some (.lent ds) => if j = i then none else some (.l ds)
  | some (.sh d) => if j = i then none else some (.d d)
  | _ => none
@[simp] theorem agM'_own (i j : Nat) (ds : List D) : agM' i j (some (.own ds)) = if j = i then none else some (.l ds) := (rfl)
@[simp] theorem agM'_lent (i j : Nat) (ds : List D) : agM' i j (some (.lent ds)) = if j = i then none else some (.l ds) := (rfl)
@[simp] theorem agM'_sh (i j : Nat) (d : D) : agM' i j (some (.sh d)) = if j = i then none else some (.d d) := (rfl)
@[simp] theorem agR_sh (i : Nat) (ρ : En) (d : D) : agR i ρ (.sh d) = some (.d d) := (rfl)
@[simp] theorem agR_fr (i : Nat) (ρ : En) (ds : List D) : agR i ρ (.fr ds) = some (.l ds) := (rfl)
@[simp] theorem agR_bw (i j : Nat) (ρ : En) : agR i ρ (.bw j) = agM' i j ρ[j]? := by
  show (if j = i then none else _) = _
  by_cases h : j = i
  · rw [if_pos h]
    unfold agM'
    cases ρ[j]? with
    | none => rfl
    | some m => cases m <;> simp [h]
  · rw [if_neg h]
    unfold agM'
    cases ρ[j]? with
    | none => rfl
    | some m => cases m <;> simp [h]
@[simp] theorem agsR_nil (i : Nat) (ρ : En) : agsR i ρ [] = some [] := (rfl)
@[simp] theorem agsR_cons (i : Nat) (ρ : En) (r : R) (rs : List R) : agsR i ρ (r :: rs) = bnd (agR i ρ r) fun a => bnd (agsR i ρ rs) fun as => some (a :: as) := (rfl)
@[simp] theorem mCallIOL_c {φ : List D → List Ag → Option (R × List D)} {i : Nat} {ml : ML} {e : M} {ρ : En} : mCallIOL φ i ml (e :: ρ) = bnd (contE (e :: ρ) i) fun _ => bnd (ml (e :: ρ)) fun x => bnd (contE x.2 i) fun ws => bnd (agsR i x.2 x.1) fun as => bnd (φ ws as) fun y => some (y.1, putE x.2 i y.2) := (rfl)
@[simp] theorem startA_n (n : Nat) : startA (n + 1) [] = .no :: startA n [] := (rfl)
@[simp] theorem startA_0 : startA 0 [] = [] := (rfl)
@[simp] theorem startA_d (n : Nat) (d : D) (as : List Ag) : startA (n + 1) (.d d :: as) = .sh d :: startA n as := by
  unfold startA
  rw [List.map_cons, List.length_cons, Nat.add_sub_add_right, List.cons_append]
  rfl
@[simp] theorem startA_l (n : Nat) (d : List D) (as : List Ag) : startA (n + 1) (.l d :: as) = .lent d :: startA n as := by
  unfold startA
  rw [List.map_cons, List.length_cons, Nat.add_sub_add_right, List.cons_append]
  rfl
@[simp] theorem startIOL_c (n : Nat) (ws : List D) (as : List Ag) : startIOL (n + 1) ws as = .io ws :: startA n as := (rfl)
theorem runIOL_eq {n p : Nat} {m : MS'} {ws : List D} {as : List Ag} (h : as.length + 1 = p) : runIOL n p m ws as = bnd (m (startIOL n ws as)) fun x => bnd (outR x.1) fun r => bnd (ioR x.2 r) some := by
  unfold runIOL
  rw [if_pos h]
  show Option.bind _ _ = Option.bind _ _
  congr 1
  funext x
  show Option.bind _ _ = Option.bind _ _
  congr 1
  funext r
  show _ = Option.bind _ _
  cases ioR x.2 r <;> rfl
end Mi
set_option Elab.async false
set_option linter.all false
set_option maxRecDepth 100000
/-! Core24: sum of a tuple of whole numbers. -/
namespace Mi
open PySem PySem.Spec PyProof.Rows L2 PyProof.V
section
variable [KK] {X : Cx}
def rSumT (K : Fr0) : List V → Hp → VK → Prop := fun vs H Q => ∃ (t : Addr) (ns : List Int), vs = [V.ref t] ∧ SqT K H t (ns.map V.int) ∧ Q (.int ns.sum) H
theorem cr_sumT (hc : X.calm = true) : CallR X (.builtin "sum") (rSumT X.K) := by
  intro pins s σ H vs us Q I r h
  obtain ⟨t, ns, rfl, hs, q⟩ := h
  obtain ⟨its, rv, ht, hz⟩ := I.tuple hs
  rw [Vals.ref1 r]
  have hi := rv.ints
  obtain ⟨xs, hx⟩ := hi.allInts.items
  have hn : numsOf its.toArray.toList = ns := hi.numsOf
  have ht' : s.heap.IsTuple t its.toArray := ht
  rw [hx] at hn ht'
  rw [nums_intItems] at hn
  refine PySem.W.ktm_sumG (I.ok.hd hc) ht' fun h' tk t' hk => ?_
  refine ⟨.int _, H, I.kept hk, ⟨_, rfl⟩, ?_⟩
  rw [preSum_eq, List.take_of_length_le (by simp), hn]
  exact q
def sumXD : D → Option R
  | .list ds => (intsD ds).map fun ns => .sh (.int ns.sum)
  | .tuple ds => (intsD ds).map fun ns => .sh (.int ns.sum)
  | _ => none
theorem c_sumX (hc : X.calm = true) (hK : X.K = KK.K := by rfl) : Call1 X (.builtin "sum") sumXD := ⟨_, (cr_sum hc).or (cr_sumT hc), fun F H v1 d1 k s b e Q q => by
  match d1, e, b with
  | .list ds, e, b =>
    obtain ⟨ns, e1, rfl⟩ := map_some (show (intsD ds).map (fun ns => R.sh (.int ns.sum)) = some k from e)
    obtain ⟨p, vs, rfl, a, x⟩ := b.list s
    rw [intsD_eq e1] at x
    exact .inl ⟨p, ns, rfl, by rw [← x.ints]; exact .of a, q F H _ (post_sh s (.int _))⟩
  | .tuple ds, e, b =>
    obtain ⟨ns, e1, rfl⟩ := map_some (show (intsD ds).map (fun ns => R.sh (.int ns.sum)) = some k from e)
    obtain ⟨p0, vs, rfl, h, xx⟩ := b.tup
    rw [intsD_eq e1] at xx
    rw [xx.ints] at h
    exact .inr ⟨p0, ns, rfl, .of (s _ _ h), q F H _ (post_sh s (.int _))⟩⟩
/-- is not, against None, True, False -/
def rNotBo : R2 := fun x y H Q => ∃ k, y = .bl k ∧ noTy x = true ∧ Q (.bl (!decide (x = .bl k))) H
theorem op_notBo : OpR X (compareOp .IsNot) rNotBo := by
  intro pins s σ H x y v u Q I rx ry h
  obtain ⟨k, rfl, hx, q⟩ := h
  cases (show u = Value.bool k from ry)
  have fin : ∀ b, b = !decide (x = V.bl k) → EP X pins σ Q (.bool b) s := fun b e => by
    subst e
    exact ⟨.bl _, H, I, rfl, q⟩
  cases x with
  | non =>
    cases rx
    exact wpAny_isNot_plain rfl (fin _ rfl)
  | bl b =>
    cases (show v = Value.bool b from rx)
    refine wpAny_isNot_plain (by cases b <;> cases k <;> rfl) (fin _ ?_)
    cases b <;> cases k <;> rfl
  | int i => obtain ⟨t, rfl⟩ := rx; exact wpAny_isNot_other rfl (fun z => nomatch z) (fin _ rfl)
  | str i => obtain ⟨t, rfl⟩ := rx; exact wpAny_isNot_other rfl (fun z => nomatch z) (fin _ rfl)
  | byt i => obtain ⟨t, rfl⟩ := rx; exact wpAny_isNot_other rfl (fun z => nomatch z) (fin _ rfl)
  | flt i => obtain ⟨t, rfl⟩ := rx; exact wpAny_isNot_other rfl (fun z => nomatch z) (fin _ rfl)
  | ref a => cases rx; exact wpAny_isNot_other rfl (fun z => nomatch z) (fin _ rfl)
  | ty n => cases hx
theorem cmp_isnotD : CmpOk X .IsNot (fun a b => (isD a b).map (!·)) := ⟨_, op_notN.or op_notBo, fun F H v1 v2 d1 d2 k s b1 b2 e Q q => by
  match d2, e, b2 with
  | .none, e, b2 =>
    have e' : some (!noneD d1) = some k := by
      rw [← e]
      cases d1 <;> rfl
    cases e'
    exact .inl ⟨b2.non, by rw [isN_dec b1]; exact q⟩
  | .bool z, e, b2 =>
    obtain ⟨h1, h2⟩ := isB_dec (k := z) b1
    obtain ⟨b, e1, e2⟩ := map_some (show (isD d1 (.bool z)).map (!·) = some k from e)
    subst e2
    exact .inr ⟨z, b2.bl, h1, by rw [← h2 b e1]; exact q⟩
  | .int _, e, _ => cases d1 <;> cases e
  | .str _, e, _ => cases d1 <;> cases e
  | .list _, e, _ => cases d1 <;> cases e
  | .tuple _, e, _ => cases d1 <;> cases e
  | .dict _, e, _ => cases d1 <;> cases e⟩
end
end Mi
set_option Elab.async false
set_option linter.all false
set_option maxRecDepth 100000
/-! Ev24: equations for Core24. -/
namespace Mi
open PySem PySem.Spec PyProof.Rows L2
@[simp] theorem sumXD_t (ns : List Int) : sumXD (.tuple (ns.map .int)) = some (.sh (.int ns.sum)) := by
  show (intsD _).map _ = _
  rw [intsD_map']
  rfl
@[simp] theorem sumXD_l (ns : List Int) : sumXD (.list (ns.map .int)) = some (.sh (.int ns.sum)) := by
  show (intsD _).map _ = _
  rw [intsD_map']
  rfl
end Mi
/-! each def by a plain function of its slots (printed by gen.py) -/
namespace Law
open PySem PySem.Spec PyProof.Rows L2 Mi
set_option maxRecDepth 100000
def l_opens_1 : MR := (mBV (mCmp inXD (mVar 2) (mVar 3)))
-- opens: slots 0 key 1 lock 2 depth 3 pins
def m_opens : MS' := (sSeq (sRet (mAndV (mBV (mCmp eqD (mUn lenD (mVar 0)) (mUn lenD (mVar 1)))) (mUn allD (mLc (mZipA (aCons (mVar 0) (aCons (mVar 1) aNil))) (gTp 2 (gCons' (gNm 2) (gCons' (gNm 3) gNil'))) mYes l_opens_1 [2, 3]))))
  sNil)
def phi_opens : List D → Option R := runN 4 2 m_opens
def l_lock_for_1 : MR := (mVar 2)
def l_lock_for_2 : MR := (mUn tupleD (mSortSet (mIter (mVar 1)) (gNm 2) mYes l_lock_for_1 [2]))
-- lock_for: slots 0 keys 1 column 2 depth
def m_lock_for : MS' := (sSeq (sRet (mUn tupleD (mLc (mZipS (mVar 0)) (gNm 1) mYes l_lock_for_2 [1])))
  sNil)
def phi_lock_for : List D → Option R := runN 3 1 m_lock_for
def t_strange_keys_1 : MB := (mTest (mCall phi_opens (aCons (mVar 4) (aCons (mVar 2) aNil))))
def l_strange_keys_1 : MR := (mVar 3)
def l_strange_keys_2 : MR := (mLc (mEnumA (aCons (mVar 0) aNil)) (gTp 2 (gCons' (gNm 3) (gCons' (gNm 4) gNil'))) t_strange_keys_1 l_strange_keys_1 [3, 4])
-- strange_keys: slots 0 keys 1 locks 2 lock 3 place 4 key
def m_strange_keys : MS' := (sSeq (sRet (mLc (mIter (mVar 1)) (gNm 2) mYes l_strange_keys_2 [2]))
  sNil)
def phi_strange_keys : List D → Option R := runN 5 2 m_strange_keys
def l_is_plan_1 : MR := (mUn tupleD (mVar 3))
-- is_plan: slots 0 keys 1 wanted 2 locks 3 row
def m_is_plan : MS' := (sSeq (sRet (mBV (mCmp eqD (mLc (mIter (mCall phi_strange_keys (aCons (mVar 0) (aCons (mVar 2) aNil)))) (gNm 3) mYes l_is_plan_1 [3]) (mUn listD (mVar 1)))))
  sNil)
def phi_is_plan : List D → Option R := runN 4 3 m_is_plan
def b_first_stranger_1 : MS' := (sSeq (sIf (mAnd (mCmp (fun a b => (inXD a b).map (!·)) (mVar 5) (mVar 3)) (mTest (mCall phi_opens (aCons (mVar 6) (aCons (mVar 4) aNil)))))
  (sSeq (sRet (mTup (aCons (mVar 2) (aCons (mVar 5) aNil))))
  sNil)
  sNil)
  sNil)
def l_first_stranger_1 : MR := (mBin ixD (mVar 0) (mVar 5))
def b_first_stranger_2 : MS' := (sSeq (sSet 4 (mCall phi_lock_for (aCons (mLc (mIter (mVar 3)) (gNm 5) mYes l_first_stranger_1 [5]) aNil)))
  (sSeq (sFor (mEnumA (aCons (mVar 0) aNil)) (gTp 2 (gCons' (gNm 5) (gCons' (gNm 6) gNil'))) b_first_stranger_1)
  sNil))
-- first_stranger: slots 0 keys 1 wanted 2 place 3 some 4 lock 5 far 6 key
def m_first_stranger : MS' := (sSeq (sFor (mEnumA (aCons (mVar 1) aNil)) (gTp 2 (gCons' (gNm 2) (gCons' (gNm 3) gNil'))) b_first_stranger_2)
  (sSeq (sRet (mC .none))
  sNil))
def phi_first_stranger : List D → Option R := runN 7 2 m_first_stranger
-- can_plan: slots 0 keys 1 wanted
def m_can_plan : MS' := (sSeq (sRet (mBV (mCmp isD (mCall phi_first_stranger (aCons (mVar 0) (aCons (mVar 1) aNil))) (mC .none))))
  sNil)
def phi_can_plan : List D → Option R := runN 2 2 m_can_plan
def t_free_key_1 : MB := (mCmp neD (mVar 8) (mVar 9))
def l_free_key_1 : MR := (mC (.int 1))
def l_free_key_2 : MR := (mBV (mCmp gtD (mUn lenD (mLc (mZipA (aCons (mVar 5) (aCons (mVar 7) aNil))) (gTp 2 (gCons' (gNm 8) (gCons' (gNm 9) gNil'))) t_free_key_1 l_free_key_1 [8, 9])) (mC (.int 1))))
def b_free_key_1 : MS' := (sSeq (sIf (mTest (mUn allD (mLc (mIter (mVar 0)) (gNm 7) mYes l_free_key_2 [7])))
  (sSeq (sRet (mVar 5))
  sNil)
  sNil)
  sNil)
def j_free_key_1 : MI := (mRange1 (aCons (mVar 1) aNil))
def l_free_key_3 : MR := (mBin addD (mVar 5) (mTup (aCons (mVar 6) aNil)))
def b_free_key_2 : MS' := (sSeq (sSet 3 (mLc2 (mIter (mVar 3)) (gNm 5) mYes j_free_key_1 (gNm 6) mYes l_free_key_3 [5, 6] [6]))
  sNil)
-- free_key: slots 0 keys 1 depths 2 pins 3 rows 4 pin 5 row 6 depth 7 key 8 one 9 other
def m_free_key : MS' := (sSeq (sSet 2 (mUn lenD (mBin ixD (mVar 0) (mC (.int 0)))))
  (sSeq (sSet 3 (mLst (aCons (mTup aNil) aNil)))
  (sSeq (sFor (mRange1 (aCons (mVar 2) aNil)) (gNm 4) b_free_key_2)
  (sSeq (sFor (mIter (mVar 3)) (gNm 5) b_free_key_1)
  (sSeq (sRet (mC .none))
  sNil)))))
def phi_free_key : List D → Option R := runN 10 2 m_free_key
def b_most_keys_1 : MS' := (sSeq (sAug 2 mulI (mVar 1))
  sNil)
-- most_keys: slots 0 pins 1 depths 2 found 3 pin
def m_most_keys : MS' := (sSeq (sSet 2 (mC (.int 1)))
  (sSeq (sFor (mRange1 (aCons (mBin max2D (mC (.int 0)) (mBin subD (mVar 0) (mC (.int 1)))) aNil)) (gNm 3) b_most_keys_1)
  (sSeq (sRet (mVar 2))
  sNil)))
def phi_most_keys : List D → Option R := runN 4 2 m_most_keys
def t_sum_keys_1 : MB := (mCmp eqD (mBin modD (mUn sumXD (mVar 4)) (mVar 1)) (mC (.int 0)))
def l_sum_keys_1 : MR := (mVar 4)
def j_sum_keys_1 : MI := (mRange1 (aCons (mVar 1) aNil))
def l_sum_keys_2 : MR := (mBin addD (mVar 4) (mTup (aCons (mVar 5) aNil)))
def b_sum_keys_1 : MS' := (sSeq (sSet 2 (mLc2 (mIter (mVar 2)) (gNm 4) mYes j_sum_keys_1 (gNm 5) mYes l_sum_keys_2 [4, 5] [5]))
  sNil)
-- sum_keys: slots 0 pins 1 depths 2 rows 3 pin 4 row 5 depth
def m_sum_keys : MS' := (sSeq (sSet 2 (mLst (aCons (mTup aNil) aNil)))
  (sSeq (sFor (mRange1 (aCons (mVar 0) aNil)) (gNm 3) b_sum_keys_1)
  (sSeq (sRet (mLc (mIter (mVar 2)) (gNm 4) t_sum_keys_1 l_sum_keys_1 [4]))
  sNil)))
def phi_sum_keys : List D → Option R := runN 6 2 m_sum_keys
-- _law_cell: slots 0 script 1 k
def m_law_cell : MS' := (sSeq (sIf (mCmp ltD (mVar 1) (mUn lenD (mVar 0)))
  (sSeq (sRet (mBin ixD (mVar 0) (mVar 1)))
  sNil)
  sNil)
  (sSeq (sRet (mC (.int 0)))
  sNil))
def phi_law_cell : List D → Option R := runN 2 2 m_law_cell
def b_law_digits_1 : MS' := (sSeq (sIf (mCmp gtD (mVar 5) (mC (.int 0)))
  (sSeq (sExpr (mAppend 3 (mBin modD (mUn intD (mVar 5)) (mC (.int 1000)))))
  (sSeq (sSet 5 (mBin divD (mVar 5) (mC (.int 1000))))
  sNil))
  sNil)
  sNil)
def b_law_digits_2 : MS' := (sSeq (sSet 7 (mBin modD (mUn intD (mBin addD (mBin addD (mBin mulD (mVar 7) (mC (.int 16807))) (mBin mulD (mC (.int 7)) (mVar 6))) (mC (.int 1)))) (mC (.int 2147483647))))
  (sSeq (sExpr (mAppend 3 (mBin modD (mUn intD (mBin divD (mVar 7) (mC (.int 997)))) (mC (.int 1000)))))
  sNil))
def b_law_digits_3 : MS' := (sSeq (sSet 5 (mCall phi_law_cell (aCons (mVar 0) (aCons (mVar 4) aNil))))
  (sSeq (sIf (mCmp ltD (mVar 5) (mC (.int 0)))
  (sSeq (sSet 5 (mBin subD (mC (.int 1)) (mBin mulD (mC (.int 2)) (mVar 5))))
  sNil)
  sNil)
  (sSeq (sIf (mCmp geD (mVar 5) (mBin powD (mC (.int 10)) (mC (.int 18))))
  (sSeq (sFor (mRange1 (aCons (mC (.int 60)) aNil)) (gNm 6) b_law_digits_1)
  sNil)
  (sSeq (sSet 7 (mBin modD (mUn intD (mBin addD (mBin addD (mBin mulD (mVar 5) (mC (.int 48271))) (mBin mulD (mVar 4) (mC (.int 69621)))) (mC (.int 11)))) (mC (.int 2147483647))))
  (sSeq (sFor (mRange1 (aCons (mC (.int 12)) aNil)) (gNm 6) b_law_digits_2)
  sNil)))
  sNil)))
-- _law_digits: slots 0 script 1 first 2 last 3 digits 4 k 5 cell 6 turn 7 seed
def m_law_digits : MS' := (sSeq (sSet 3 (mLst aNil))
  (sSeq (sFor (mRange2 (aCons (mVar 1) (aCons (mVar 2) aNil))) (gNm 4) b_law_digits_3)
  (sSeq (sRet (mVar 3))
  sNil)))
def phi_law_digits : List D → Option R := runN 8 3 m_law_digits
-- _law_draw: slots 0 box 1 many
def m_law_draw : MS' := (sSeq (sPut 0 (mC (.int 1)) (mBin addD (mBin ixD (mVar 0) (mC (.int 1))) (mC (.int 1))))
  (sSeq (sIf (mCmp gtD (mBin ixD (mVar 0) (mC (.int 1))) (mUn lenD (mBin ixD (mVar 0) (mC (.int 0)))))
  (sSeq (sRet (mBin modD (mUn intD (mBin addD (mBin mulD (mBin ixD (mVar 0) (mC (.int 1))) (mC (.int 7))) (mC (.int 3)))) (mVar 1)))
  sNil)
  sNil)
  (sSeq (sRet (mBin modD (mUn intD (mBin ixD (mBin ixD (mVar 0) (mC (.int 0))) (mBin subD (mBin ixD (mVar 0) (mC (.int 1))) (mC (.int 1))))) (mVar 1)))
  sNil)))
def phi_law_draw : List D → List D → Option (R × List D) := runIO 2 2 m_law_draw
-- _law_pick: slots 0 box 1 row
def m_law_pick : MS' := (sSeq (sRet (mBin ixD (mVar 1) (mBin modD (mUn intD (mCallIO phi_law_draw 0 (aCons (mC (.int 1000)) aNil))) (mUn lenD (mVar 1)))))
  sNil)
def phi_law_pick : List D → List D → Option (R × List D) := runIO 2 2 m_law_pick
def phiL_law_pick : List D → List Ag → Option (R × List D) := runIOL 2 2 m_law_pick
def b_law_same_1 (φ : List D → Option R) : MS' := (sSeq (sIf (mNot (mTest (mCallL φ (lCons (mBin ixD (mVar 0) (mVar 2)) (lCons (mBin ixD (mVar 1) (mVar 2)) lNil)))))
  (sSeq (sRet (mC (.bool false)))
  sNil)
  sNil)
  sNil)
-- _law_same: slots 0 told 1 due 2 k
def m_law_same (φ : List D → Option R) : MS' := (sSeq (sIf (mCmp isD (mVar 1) (mC .none))
  (sSeq (sRet (mBV (mCmp isD (mVar 0) (mC .none))))
  sNil)
  sNil)
  (sSeq (sIf (mCmp isD (mVar 1) (mC (.bool true)))
  (sSeq (sRet (mBV (mCmp isD (mVar 0) (mC (.bool true)))))
  sNil)
  sNil)
  (sSeq (sIf (mCmp isD (mVar 1) (mC (.bool false)))
  (sSeq (sRet (mBV (mCmp isD (mVar 0) (mC (.bool false)))))
  sNil)
  sNil)
  (sSeq (sIf (mTest (mIsi "str" (mVar 1)))
  (sSeq (sRet (mAndV (mIsi "str" (mVar 0)) (mBV (mCmp eqD (mUn reprD (mVar 0)) (mUn reprD (mVar 1))))))
  sNil)
  sNil)
  (sSeq (sIf (mTest (mIsi "int" (mVar 1)))
  (sSeq (sRet (mAndV (mIsi "int" (mVar 0)) (mAndV (mNotV (mIsi "bool" (mVar 0))) (mBV (mCmp eqD (mUn reprD (mVar 0)) (mUn reprD (mVar 1)))))))
  sNil)
  sNil)
  (sSeq (sIf (mOr (mAnd (mTest (mIsi "tuple" (mVar 1))) (mNot (mTest (mIsi "tuple" (mVar 0))))) (mAnd (mTest (mIsi "list" (mVar 1))) (mNot (mTest (mIsi "list" (mVar 0))))))
  (sSeq (sRet (mC (.bool false)))
  sNil)
  sNil)
  (sSeq (sIf (mCmp neD (mUn lenD (mVar 0)) (mUn lenD (mVar 1)))
  (sSeq (sRet (mC (.bool false)))
  sNil)
  sNil)
  (sSeq (sFor (mRange1 (aCons (mUn lenD (mVar 1)) aNil)) (gNm 2) (b_law_same_1 φ))
  (sSeq (sRet (mC (.bool true)))
  sNil)))))))))
def phi_law_same : Nat → List D → Option R
  | 0, _ => none
  | n + 1, ds => runN 3 2 (m_law_same (phi_law_same n)) ds
def b_law_mixed_1 : MS' := (sSeq (sExpr (mAppend 3 (mPopAt 2 (mCallIO phi_law_draw 0 (aCons (mUn lenD (mVar 2)) aNil)))))
  sNil)
-- _law_mixed: slots 0 box 1 row 2 left 3 found 4 k
def m_law_mixed : MS' := (sSeq (sSet 2 (mUn listD (mVar 1)))
  (sSeq (sSet 3 (mLst aNil))
  (sSeq (sFor (mRange1 (aCons (mUn lenD (mVar 1)) aNil)) (gNm 4) b_law_mixed_1)
  (sSeq (sRet (mVar 3))
  sNil))))
def phi_law_mixed : List D → List D → Option (R × List D) := runIO 5 2 m_law_mixed
def l_law_all_1 : MR := (mBin addD (mVar 5) (mTup (aCons (mVar 6) aNil)))
def b_law_all_1 : MS' := (sSeq (sSet 4 (mBin addD (mVar 4) (mLc (mRange1 (aCons (mVar 1) aNil)) (gNm 6) mYes l_law_all_1 [6])))
  sNil)
def b_law_all_2 : MS' := (sSeq (sSet 4 (mLst aNil))
  (sSeq (sFor (mIter (mVar 2)) (gNm 5) b_law_all_1)
  (sSeq (sSet 2 (mVar 4))
  sNil)))
-- _law_all: slots 0 pins 1 depths 2 rows 3 pin 4 longer 5 row 6 depth
def m_law_all : MS' := (sSeq (sSet 2 (mLst (aCons (mTup aNil) aNil)))
  (sSeq (sFor (mRange1 (aCons (mVar 0) aNil)) (gNm 3) b_law_all_2)
  (sSeq (sRet (mVar 2))
  sNil)))
def phi_law_all : List D → Option R := runN 7 2 m_law_all
def t_law_fits_1 : MB := (mCmp (fun a b => (inXD a b).map (!·)) (mBin ixD (mVar 0) (mVar 2)) (mBin ixD (mVar 1) (mVar 2)))
def l_law_fits_1 : MR := (mVar 2)
-- _law_fits: slots 0 key 1 lock 2 pin
def m_law_fits : MS' := (sSeq (sRet (mBV (mCmp eqD (mLc (mRange1 (aCons (mUn lenD (mVar 0)) aNil)) (gNm 2) t_law_fits_1 l_law_fits_1 [2]) (mLst aNil))))
  sNil)
def phi_law_fits : List D → Option R := runN 3 2 m_law_fits
def l_law_key_1 : MR := (mCallIO phi_law_draw 0 (aCons (mVar 2) aNil))
-- _law_key: slots 0 box 1 pins 2 depths 3 pin
def m_law_key : MS' := (sSeq (sRet (mUn tupleD (mLc (mRange1 (aCons (mVar 1) aNil)) (gNm 3) mYes l_law_key_1 [3])))
  sNil)
def phi_law_key : List D → List D → Option (R × List D) := runIO 4 3 m_law_key
def t_law_least_1 : MB := (mCmp eqD (mBin ixD (mVar 5) (mVar 3)) (mVar 4))
def l_law_least_1 : MR := (mVar 5)
def t_law_least_2 : MB := (mCmp neD (mLc (mIter (mVar 0)) (gNm 5) t_law_least_1 l_law_least_1 [5]) (mLst aNil))
def l_law_least_2 : MR := (mVar 4)
def b_law_least_1 : MS' := (sSeq (sExpr (mAppend 2 (mUn tupleD (mLc (mRange1 (aCons (mC (.int 4)) aNil)) (gNm 4) t_law_least_2 l_law_least_2 [4]))))
  sNil)
-- _law_least: slots 0 rows 1 pins 2 found 3 pin 4 depth 5 row
def m_law_least : MS' := (sSeq (sSet 2 (mLst aNil))
  (sSeq (sFor (mRange1 (aCons (mVar 1) aNil)) (gNm 3) b_law_least_1)
  (sSeq (sRet (mUn tupleD (mVar 2)))
  sNil)))
def phi_law_least : List D → Option R := runN 6 2 m_law_least
def t_law_let_in_1 : MB := (mTest (mCall phi_law_fits (aCons (mBin ixD (mVar 0) (mVar 2)) (aCons (mVar 1) aNil))))
def l_law_let_in_1 : MR := (mVar 2)
-- _law_let_in: slots 0 rows 1 lock 2 k
def m_law_let_in : MS' := (sSeq (sRet (mUn tupleD (mLc (mRange1 (aCons (mUn lenD (mVar 0)) aNil)) (gNm 2) t_law_let_in_1 l_law_let_in_1 [2])))
  sNil)
def phi_law_let_in : List D → Option R := runN 3 2 m_law_let_in
def l_law_wanted_1 : MR := (mBin ixD (mVar 1) (mVar 7))
def t_law_wanted_1 : MB := (mCmp eqD (mCallIO phi_law_draw 0 (aCons (mC (.int 3)) aNil)) (mC (.int 0)))
def l_law_wanted_2 : MR := (mVar 7)
def b_law_wanted_1 : MS' := (sSeq (sSet 5 (mLc (mRange1 (aCons (mUn lenD (mVar 1)) aNil)) (gNm 7) t_law_wanted_1 l_law_wanted_2 [7]))
  (sSeq (sIf (mCmp eqD (mVar 5) (mLst aNil))
  (sSeq (sSet 5 (mLst (aCons (mCallIO phi_law_draw 0 (aCons (mUn lenD (mVar 1)) aNil)) aNil)))
  sNil)
  sNil)
  (sSeq (sSet 6 (mUn tupleD (mVar 5)))
  (sSeq (sIf (mCmp gtD (mCallIO phi_law_draw 0 (aCons (mC (.int 3)) aNil)) (mC (.int 0)))
  (sSeq (sSet 6 (mCall phi_law_let_in (aCons (mVar 1) (aCons (mCall phi_law_least (aCons (mLc (mIter (mVar 5)) (gNm 7) mYes l_law_wanted_1 [7]) (aCons (mVar 2) aNil))) aNil))))
  sNil)
  sNil)
  (sSeq (sExpr (mAppend 3 (mVar 6)))
  sNil)))))
-- _law_wanted: slots 0 box 1 rows 2 pins 3 found 4 turn 5 some 6 lot 7 k
def m_law_wanted : MS' := (sSeq (sSet 3 (mLst aNil))
  (sSeq (sFor (mRange1 (aCons (mBin addD (mC (.int 1)) (mCallIO phi_law_draw 0 (aCons (mC (.int 4)) aNil))) aNil)) (gNm 4) b_law_wanted_1)
  (sSeq (sRet (mVar 3))
  sNil)))
def phi_law_wanted : List D → List D → Option (R × List D) := runIO 8 3 m_law_wanted
def b_law_stranger_1 : MS' := (sSeq (sIf (mCmp (fun a b => (inXD a b).map (!·)) (mVar 5) (mBin ixD (mVar 1) (mVar 3)))
  (sSeq (sRet (mTup (aCons (mVar 3) (aCons (mVar 5) aNil))))
  sNil)
  sNil)
  sNil)
def l_law_stranger_1 : MR := (mBin ixD (mVar 0) (mVar 6))
def b_law_stranger_2 : MS' := (sSeq (sSet 4 (mCall phi_law_least (aCons (mLc (mIter (mBin ixD (mVar 1) (mVar 3))) (gNm 6) mYes l_law_stranger_1 [6]) (aCons (mVar 2) aNil))))
  (sSeq (sFor (mIter (mCall phi_law_let_in (aCons (mVar 0) (aCons (mVar 4) aNil)))) (gNm 5) b_law_stranger_1)
  sNil))
-- _law_stranger: slots 0 rows 1 wanted 2 pins 3 place 4 lock 5 far 6 k
def m_law_stranger : MS' := (sSeq (sFor (mRange1 (aCons (mUn lenD (mVar 1)) aNil)) (gNm 3) b_law_stranger_2)
  (sSeq (sRet (mC .none))
  sNil))
def phi_law_stranger : List D → Option R := runN 7 3 m_law_stranger
-- _law_bent: slots 0 box 1 locks 2 pins 3 depths 4 at 5 pin 6 lock 7 depth 8 more 9 found
def m_law_bent : MS' := (sSeq (sSet 4 (mCallIO phi_law_draw 0 (aCons (mUn lenD (mVar 1)) aNil)))
  (sSeq (sSet 5 (mCallIO phi_law_draw 0 (aCons (mVar 2) aNil)))
  (sSeq (sSet 6 (mBin ixD (mVar 1) (mVar 4)))
  (sSeq (sSet 7 (mCallIO phi_law_draw 0 (aCons (mVar 3) aNil)))
  (sSeq (sSet 8 (mUn tupleD (mUn sortD (mBin addD (mBin ixD (mVar 6) (mVar 5)) (mIf (mCmp (fun a b => (inXD a b).map (!·)) (mVar 7) (mBin ixD (mVar 6) (mVar 5))) (mTup (aCons (mVar 7) aNil)) (mTup aNil))))))
  (sSeq (sSet 9 (mLst (aCons (mBin addD (mBin addD (mSl (mVar 1) pNone (pSome (mVar 4))) (mLst (aCons (mBin addD (mBin addD (mSl (mVar 6) pNone (pSome (mVar 5))) (mTup (aCons (mVar 8) aNil))) (mSl (mVar 6) (pSome (mBin addD (mVar 5) (mC (.int 1)))) pNone)) aNil))) (mSl (mVar 1) (pSome (mBin addD (mVar 4) (mC (.int 1)))) pNone)) aNil)))
  (sSeq (sIf (mCmp gtD (mUn lenD (mBin ixD (mVar 6) (mVar 5))) (mC (.int 1)))
  (sSeq (sExpr (mAppend 9 (mBin addD (mBin addD (mSl (mVar 1) pNone (pSome (mVar 4))) (mLst (aCons (mBin addD (mBin addD (mSl (mVar 6) pNone (pSome (mVar 5))) (mTup (aCons (mSl (mBin ixD (mVar 6) (mVar 5)) pNone (pSome (mUn negD (mC (.int 1))))) aNil))) (mSl (mVar 6) (pSome (mBin addD (mVar 5) (mC (.int 1)))) pNone)) aNil))) (mSl (mVar 1) (pSome (mBin addD (mVar 4) (mC (.int 1)))) pNone))))
  sNil)
  sNil)
  (sSeq (sExpr (mAppend 9 (mBin addD (mBin addD (mSl (mVar 1) pNone (pSome (mVar 4))) (mLst (aCons (mBin addD (mBin addD (mSl (mVar 6) pNone (pSome (mVar 5))) (mTup (aCons (mTup (aCons (mVar 7) aNil)) aNil))) (mSl (mVar 6) (pSome (mBin addD (mVar 5) (mC (.int 1)))) pNone)) aNil))) (mSl (mVar 1) (pSome (mBin addD (mVar 4) (mC (.int 1)))) pNone))))
  (sSeq (sExpr (mAppend 9 (mBin addD (mSl (mVar 1) (pSome (mC (.int 1))) pNone) (mSl (mVar 1) pNone (pSome (mC (.int 1)))))))
  (sSeq (sIf (mCmp gtD (mUn lenD (mVar 1)) (mC (.int 1)))
  (sSeq (sExpr (mAppend 9 (mSl (mVar 1) pNone (pSome (mUn negD (mC (.int 1)))))))
  sNil)
  sNil)
  (sSeq (sExpr (mAppend 9 (mBin addD (mVar 1) (mSl (mVar 1) pNone (pSome (mC (.int 1)))))))
  (sSeq (sRet (mVar 9))
  sNil))))))))))))
def phi_law_bent : List D → List D → Option (R × List D) := runIO 10 4 m_law_bent
def l_law_planned_1 : MR := (mUn listD (mVar 15))
def l_law_planned_2 : MR := (mCall phi_law_let_in (aCons (mVar 1) (aCons (mVar 14) aNil)))
def b_law_planned_1 : MS' := (sSeq (sSet 10 (mLc (mIter (mVar 9)) (gNm 14) mYes l_law_planned_2 [14]))
  (sSeq (sSet 11 (mUn listD (mVar 9)))
  (sSeq (sIf (mOr (mNot (mTest (mCallL (phi_law_same 12) (lCons (mCall phi_is_plan (aCons (mVar 5) (aCons (mVar 6) (aCons (mVar 11) aNil)))) (lCons (mBV (mCmp eqD (mVar 10) (mVar 4))) lNil))))) (mCmp neD (mVar 11) (mVar 9)))
  (sSeq (sRet (mC (.bool false)))
  sNil)
  sNil)
  (sSeq (sSet 12 (mCall phi_strange_keys (aCons (mVar 5) (aCons (mVar 11) aNil))))
  (sSeq (sIf (mNot (mTest (mCallL (phi_law_same 12) (lCons (mVar 12) (lCons (mLc (mIter (mVar 10)) (gNm 15) mYes l_law_planned_1 [15]) lNil)))))
  (sSeq (sRet (mC (.bool false)))
  sNil)
  sNil)
  sNil)))))
def l_law_planned_3 : MR := (mBin ixD (mVar 1) (mVar 13))
def l_law_planned_4 : MR := (mCall phi_law_least (aCons (mLc (mIter (mVar 9)) (gNm 13) mYes l_law_planned_3 [13]) (aCons (mVar 2) aNil)))
-- _law_planned: slots 0 box 1 rows 2 pins 3 depths 4 wanted 5 handed 6 others 7 stranger 8 locks 9 some 10 let_in 11 given_locks 12 told 13 k 14 lock 15 row
def m_law_planned : MS' := (sSeq (sSet 4 (mCallIO phi_law_wanted 0 (aCons (mVar 1) (aCons (mVar 2) aNil))))
  (sSeq (sPar 5 6 (aCons (mUn listD (mVar 1)) (aCons (mUn listD (mVar 4)) aNil)))
  (sSeq (sSet 7 (mCall phi_law_stranger (aCons (mVar 1) (aCons (mVar 4) (aCons (mVar 2) aNil)))))
  (sSeq (sIf (mOr (mNot (mTest (mCallL (phi_law_same 12) (lCons (mCall phi_first_stranger (aCons (mVar 5) (aCons (mVar 6) aNil))) (lCons (mVar 7) lNil))))) (mNot (mTest (mCallL (phi_law_same 12) (lCons (mCall phi_can_plan (aCons (mVar 5) (aCons (mVar 6) aNil))) (lCons (mBV (mCmp isD (mVar 7) (mC .none))) lNil))))))
  (sSeq (sRet (mC (.bool false)))
  sNil)
  sNil)
  (sSeq (sSet 8 (mLc (mIter (mVar 4)) (gNm 9) mYes l_law_planned_4 [9]))
  (sSeq (sFor (mIter (mBin addD (mLst (aCons (mVar 8) aNil)) (mCallIO phi_law_bent 0 (aCons (mVar 8) (aCons (mVar 2) (aCons (mVar 3) aNil)))))) (gNm 9) b_law_planned_1)
  (sSeq (sRet (mAndV (mBV (mCmp eqD (mVar 5) (mVar 1))) (mBV (mCmp eqD (mVar 6) (mVar 4)))))
  sNil)))))))
def phi_law_planned : List D → List D → Option (R × List D) := runIO 16 4 m_law_planned
def t_law_apart_1 : MB := (mCmp neD (mBin ixD (mVar 0) (mVar 2)) (mBin ixD (mVar 1) (mVar 2)))
def l_law_apart_1 : MR := (mVar 2)
-- _law_apart: slots 0 one 1 other 2 pin
def m_law_apart : MS' := (sSeq (sRet (mBV (mCmp gtD (mUn lenD (mLc (mRange1 (aCons (mUn lenD (mVar 0)) aNil)) (gNm 2) t_law_apart_1 l_law_apart_1 [2])) (mC (.int 1)))))
  sNil)
def phi_law_apart : List D → Option R := runN 3 2 m_law_apart
def t_law_1 : MB := (mNot (mTest (mCall phi_law_apart (aCons (mVar 16) (aCons (mVar 17) aNil)))))
def l_law_1 : MR := (mVar 17)
def t_law_2 : MB := (mCmp eqD (mLc (mIter (mVar 13)) (gNm 17) t_law_1 l_law_1 [17]) (mLst aNil))
def l_law_2 : MR := (mVar 16)
def b_law_1 : MS' := (sSeq (sSet 14 (mLc (mIter (mVar 7)) (gNm 16) t_law_2 l_law_2 [16]))
  (sSeq (sSet 15 (mUn listD (mVar 13)))
  (sSeq (sIf (mOr (mNot (mTest (mCallL (phi_law_same 12) (lCons (mCall phi_free_key (aCons (mVar 15) (aCons (mVar 4) aNil))) (lCons (mIf (mCmp neD (mVar 14) (mLst aNil)) (mBin ixD (mVar 14) (mC (.int 0))) (mC .none)) lNil))))) (mCmp neD (mVar 15) (mVar 13)))
  (sSeq (sRet (mC (.bool false)))
  sNil)
  sNil)
  sNil)))
def l_law_3 : MR := (mBin addD (mBin addD (mSl (mVar 16) pNone (pSome (mVar 10))) (mTup (aCons (mBin modD (mUn intD (mBin addD (mBin ixD (mVar 16) (mVar 10)) (mVar 11))) (mVar 4)) aNil))) (mSl (mVar 16) (pSome (mBin addD (mVar 10) (mC (.int 1)))) pNone))
def t_law_3 : MB := (mCmp eqD (mBin modD (mUn intD (mUn sumXD (mVar 16))) (mVar 4)) (mC (.int 0)))
def l_law_4 : MR := (mVar 16)
def b_law_2 : MS' := (sSeq (sExpr (mAppend 5 (mIf (mOr (mCmp eqD (mVar 5) (mLst aNil)) (mCmp gtD (mCallIO phi_law_draw 1 (aCons (mC (.int 5)) aNil)) (mC (.int 0)))) (mCallIO phi_law_key 1 (aCons (mVar 3) (aCons (mVar 4) aNil))) (mCallIOL phiL_law_pick 1 (lCons (mVar 5) lNil)))))
  sNil)
def b_law_3 : MS' := (sSeq (sSet 3 (mCallIOL phiL_law_pick 1 (lCons (mLst (aCons (mC (.int 3)) (aCons (mC (.int 4)) (aCons (mC (.int 2)) (aCons (mC (.int 3)) (aCons (mC (.int 1)) aNil)))))) lNil)))
  (sSeq (sSet 4 (mIf (mCmp ltD (mVar 3) (mC (.int 4))) (mCallIOL phiL_law_pick 1 (lCons (mLst (aCons (mC (.int 3)) (aCons (mC (.int 2)) (aCons (mC (.int 4)) aNil)))) lNil)) (mCallIOL phiL_law_pick 1 (lCons (mLst (aCons (mC (.int 2)) (aCons (mC (.int 2)) (aCons (mC (.int 3)) aNil)))) lNil))))
  (sSeq (sSet 5 (mLst aNil))
  (sSeq (sFor (mRange1 (aCons (mCallIOL phiL_law_pick 1 (lCons (mLst (aCons (mC (.int 5)) (aCons (mC (.int 6)) (aCons (mC (.int 4)) (aCons (mC (.int 3)) (aCons (mC (.int 2)) (aCons (mC (.int 1)) aNil))))))) lNil)) aNil)) (gNm 6) b_law_2)
  (sSeq (sIf (mNot (mTest (mCallIO phi_law_planned 1 (aCons (mVar 5) (aCons (mVar 3) (aCons (mVar 4) aNil))))))
  (sSeq (sRet (mC (.bool false)))
  sNil)
  sNil)
  (sSeq (sSet 7 (mCall phi_law_all (aCons (mVar 3) (aCons (mVar 4) aNil))))
  (sSeq (sSet 8 (mLc (mIter (mVar 7)) (gNm 16) t_law_3 l_law_4 [16]))
  (sSeq (sSet 9 (mCall phi_sum_keys (aCons (mVar 3) (aCons (mVar 4) aNil))))
  (sSeq (sIf (mOr (mNot (mTest (mCallL (phi_law_same 12) (lCons (mVar 9) (lCons (mVar 8) lNil))))) (mNot (mTest (mCallL (phi_law_same 12) (lCons (mCall phi_most_keys (aCons (mVar 3) (aCons (mVar 4) aNil))) (lCons (mUn lenD (mVar 8)) lNil))))))
  (sSeq (sRet (mC (.bool false)))
  sNil)
  sNil)
  (sSeq (sExpr (mAppend 9 (mTup aNil)))
  (sSeq (sAsg (gTp 2 (gCons' (gNm 10) (gCons' (gNm 11) gNil'))) (mTup (aCons (mCallIO phi_law_draw 1 (aCons (mVar 3) aNil)) (aCons (mCallIO phi_law_draw 1 (aCons (mVar 4) aNil)) aNil))))
  (sSeq (sSet 12 (mLc (mIter (mSl (mCallIO phi_law_mixed 1 (aCons (mVar 8) aNil)) pNone (pSome (mC (.int 6))))) (gNm 16) mYes l_law_3 [16]))
  (sSeq (sFor (mIter (mIf (mCmp eqD (mVar 2) (mC (.int 0))) (mLst (aCons (mVar 5) (aCons (mVar 12) aNil))) (mLst (aCons (mBin addD (mSl (mVar 12) pNone (pSome (mC (.int 2)))) (mSl (mVar 5) pNone (pSome (mC (.int 1))))) (aCons (mSl (mVar 12) pNone (pSome (mC (.int 1)))) aNil))))) (gNm 13) b_law_1)
  sNil)))))))))))))
-- law: slots 0 script 1 box 2 turn 3 pins 4 depths 5 rows 6 k 7 every 8 alike 9 told 10 pin 11 on 12 near 13 some 14 free 15 handed 16 key 17 far
def m_law : MS' := (sSeq (sSet 1 (mLst (aCons (mCall phi_law_digits (aCons (mVar 0) (aCons (mC (.int 0)) (aCons (mC (.int 16)) aNil)))) (aCons (mC (.int 0)) aNil))))
  (sSeq (sFor (mRange1 (aCons (mC (.int 2)) aNil)) (gNm 2) b_law_3)
  (sSeq (sIf (mOr (mNot (mTest (mCallL (phi_law_same 12) (lCons (mCall phi_most_keys (aCons (mC (.int 0)) (aCons (mC (.int 3)) aNil))) (lCons (mC (.int 1)) lNil))))) (mOr (mNot (mTest (mCallL (phi_law_same 12) (lCons (mCall phi_sum_keys (aCons (mC (.int 2)) (aCons (mC (.int 3)) aNil))) (lCons (mLst (aCons (mTup (aCons (mC (.int 0)) (aCons (mC (.int 0)) aNil))) (aCons (mTup (aCons (mC (.int 1)) (aCons (mC (.int 2)) aNil))) (aCons (mTup (aCons (mC (.int 2)) (aCons (mC (.int 1)) aNil))) aNil)))) lNil))))) (mCmp (fun a b => (isD a b).map (!·)) (mCall phi_free_key (aCons (mLst (aCons (mTup (aCons (mC (.int 0)) aNil)) aNil)) (aCons (mC (.int 4)) aNil))) (mC .none))))
  (sSeq (sRet (mC (.bool false)))
  sNil)
  sNil)
  (sSeq (sIf (mOr (mNot (mTest (mCallL (phi_law_same 12) (lCons (mCall phi_first_stranger (aCons (mLst (aCons (mTup (aCons (mC (.int 0)) (aCons (mC (.int 0)) aNil))) (aCons (mTup (aCons (mC (.int 1)) (aCons (mC (.int 1)) aNil))) (aCons (mTup (aCons (mC (.int 0)) (aCons (mC (.int 1)) aNil))) aNil)))) (aCons (mLst (aCons (mTup (aCons (mC (.int 0)) (aCons (mC (.int 1)) aNil))) aNil)) aNil))) (lCons (mTup (aCons (mC (.int 0)) (aCons (mC (.int 2)) aNil))) lNil))))) (mCmp (fun a b => (isD a b).map (!·)) (mCall phi_can_plan (aCons (mLst (aCons (mTup (aCons (mC (.int 0)) (aCons (mC (.int 0)) aNil))) (aCons (mTup (aCons (mC (.int 1)) (aCons (mC (.int 1)) aNil))) (aCons (mTup (aCons (mC (.int 0)) (aCons (mC (.int 1)) aNil))) aNil)))) (aCons (mLst (aCons (mTup (aCons (mC (.int 0)) (aCons (mC (.int 1)) aNil))) aNil)) aNil))) (mC (.bool false))))
  (sSeq (sRet (mC (.bool false)))
  sNil)
  sNil)
  (sSeq (sRet (mAndV (mCallL (phi_law_same 12) (lCons (mCall phi_free_key (aCons (mLst (aCons (mTup (aCons (mC (.int 0)) (aCons (mC (.int 0)) (aCons (mC (.int 0)) aNil)))) (aCons (mTup (aCons (mC (.int 0)) (aCons (mC (.int 1)) (aCons (mC (.int 1)) aNil)))) aNil))) (aCons (mC (.int 2)) aNil))) (lCons (mTup (aCons (mC (.int 1)) (aCons (mC (.int 0)) (aCons (mC (.int 1)) aNil)))) lNil))) (mBV (mCmp isD (mCall phi_can_plan (aCons (mLst (aCons (mTup (aCons (mC (.int 0)) (aCons (mC (.int 0)) aNil))) (aCons (mTup (aCons (mC (.int 1)) (aCons (mC (.int 1)) aNil))) aNil))) (aCons (mLst (aCons (mTup (aCons (mC (.int 1)) aNil)) (aCons (mTup (aCons (mC (.int 0)) (aCons (mC (.int 1)) aNil))) aNil))) aNil))) (mC (.bool true))))))
  sNil)))))
def phi_law : List D → Option R := runN 18 1 m_law
end Law
/-! what the law's own helpers give: cells, digits, draws, picks -/
namespace Law
open PySem PySem.Spec PyProof.Rows L2 Mi
set_option maxRecDepth 100000
set_option maxHeartbeats 1000000
def BoxOk (ws : List D) : Prop := ∃ (ds : List Int) (k : Int), ws = [.list (ds.map .int), .int k] ∧ 0 ≤ k
theorem draw_ok {ws : List D} {many : Int} (b : BoxOk ws) (h : 0 < many) : ∃ r ws', phi_law_draw ws [.int many] = some (.sh (.int r), ws') ∧ BoxOk ws' ∧ 0 ≤ r ∧ r < many := by
  obtain ⟨ds, k, rfl, hk⟩ := b
  unfold phi_law_draw
  rw [runIO_eq (by rfl)]
  unfold m_law_draw
  simp [h]
  by_cases hl : (ds.length : Int) < k + 1
  · simp [hl, i64]
    exact ⟨_, _, ⟨rfl, rfl⟩, ⟨ds, k + 1, rfl, by omega⟩, Int.emod_nonneg _ (by omega), Int.emod_lt_of_pos _ h⟩
  · have hkl : k.toNat < ds.length := by omega
    simp [hl, atI_pos hk, hkl, h]
    exact ⟨_, _, ⟨rfl, rfl⟩, ⟨ds, k + 1, rfl, by omega⟩, Int.emod_nonneg _ (by omega), Int.emod_lt_of_pos _ h⟩
theorem mem_atI {α : Type} {xs : List α} {i : Int} (h0 : 0 ≤ i) (h : i < xs.length) : ∃ x, atI xs i = some x ∧ x ∈ xs := by
  rw [atI_pos h0]
  have hl : i.toNat < xs.length := by omega
  exact ⟨xs[i.toNat], List.getElem?_eq_getElem hl, List.getElem_mem hl⟩
theorem pick_ok {ws row : List D} (b : BoxOk ws) (h : row ≠ []) : ∃ d ws', phi_law_pick ws [.list row] = some (.sh d, ws') ∧ BoxOk ws' ∧ d ∈ row := by
  obtain ⟨r, ws1, e1, b1, h0, h1⟩ := draw_ok (many := 1000) b (by decide)
  have hl : 0 < (row.length : Int) := by
    cases row with
    | nil => exact absurd rfl h
    | cons x r => rw [List.length_cons]; omega
  obtain ⟨x, e2, m2⟩ := mem_atI (Int.emod_nonneg r (by omega)) (Int.emod_lt_of_pos r hl)
  unfold phi_law_pick
  rw [runIO_eq (by rfl)]
  unfold m_law_pick
  have hn : 0 < row.length := by omega
  simp [e1, hn, e2]
  exact ⟨_, _, ⟨rfl, rfl⟩, b1, m2⟩
theorem picks_ok {ws : List D} {z : Str} (b : BoxOk ws) (h : z.cps.toList ≠ []) (hz : z.length ≤ lim) : ∃ c ws', phi_law_pick ws [.str z] = some (.sh (.str ⟨#[c]⟩), ws') ∧ BoxOk ws' ∧ c ∈ z.cps.toList := by
  obtain ⟨r, ws1, e1, b1, h0, h1⟩ := draw_ok (many := 1000) b (by decide)
  have hzl : z.length = z.cps.toList.length := Array.length_toList.symm
  have hl : 0 < (z.length : Int) := by
    rw [hzl]
    cases q : z.cps.toList with
    | nil => exact absurd q h
    | cons x r => rw [List.length_cons]; omega
  obtain ⟨x, e2, m2⟩ := mem_atI (xs := z.cps.toList) (i := r % (z.length : Int)) (Int.emod_nonneg r (by omega)) (by rw [← hzl]; exact Int.emod_lt_of_pos r hl)
  unfold phi_law_pick
  rw [runIO_eq (by rfl)]
  unfold m_law_pick
  have hn : 0 < z.length := by omega
  simp [e1, hn, hz, e2]
  exact ⟨_, _, ⟨rfl, rfl⟩, b1, by simpa using m2⟩
theorem cell_ok (ns : List Int) {k : Int} (hk : 0 ≤ k) : ∃ z, phi_law_cell [frzD (ns.map .int), .int k] = some (.sh (.int z)) := by
  unfold phi_law_cell
  rw [runN_eq (by rfl)]
  unfold m_law_cell
  by_cases hl : k < ns.length
  · have hkl : k.toNat < ns.length := by omega
    simp [hl, atI_pos hk, hkl]
  · simp [hl]
end Law
/-! the digits -/
namespace Law
open PySem PySem.Spec PyProof.Rows L2 Mi
set_option maxRecDepth 100000
set_option maxHeartbeats 1000000
/-- the digits as they stand: no more than n of them -/
def Dig (n : Nat) (ρ : En) : Prop := ∃ (m0 m1 m2 : M) (k c : Int) (m6 m7 : M) (ds : List Int), ρ = [m0, m1, m2, .own (ds.map .int), .sh (.int k), .sh (.int c), m6, m7] ∧ ds.length ≤ n ∧ (∃ s : List Int, m0 = .sh (frzD (s.map .int))) ∧ Shy m6 ∧ Shy m7
theorem dig1 (n : Nat) (ρ : En) (d : D) (h : Dig n ρ) (hn : n < lim) : ∃ ρ2, bnd (gNm 6 d ρ) b_law_digits_1 = some (.nx, ρ2) ∧ Dig (n + 1) ρ2 := by
  obtain ⟨m0, m1, m2, k, c, m6, m7, ds, rfl, hl, hs, y6, y7⟩ := h
  have h2 : ds.length < lim := by omega
  unfold b_law_digits_1
  by_cases hc : 0 < c
  · simp [shy_free y6, hc, h2]
    exact ⟨_, _, _, _, _, _, _, ds ++ [c % 1000], by rw [List.map_append]; rfl, by rw [List.length_append, List.length_singleton]; omega, hs, .sh _, y7⟩
  · simp [shy_free y6, hc]
    exact ⟨_, _, _, _, _, _, _, ds, rfl, by omega, hs, .sh _, y7⟩
def Dig7 (n : Nat) (ρ : En) : Prop := Dig n ρ ∧ ∃ z : Int, ρ[7]? = some (.sh (.int z))
theorem dig2 (n : Nat) (ρ : En) (d : D) (hd : ∃ t, d = .int t) (h : Dig7 n ρ) (hn : n < lim) : ∃ ρ2, bnd (gNm 6 d ρ) b_law_digits_2 = some (.nx, ρ2) ∧ Dig7 (n + 1) ρ2 := by
  obtain ⟨t, rfl⟩ := hd
  obtain ⟨⟨m0, m1, m2, k, c, m6, m7, ds, rfl, hl, hs, y6, y7⟩, z, hz⟩ := h
  have hz : m7 = .sh (.int z) := by simpa using hz
  subst hz
  have h2 : ds.length < lim := by omega
  unfold b_law_digits_2
  simp [shy_free y6, h2, i64]
  exact ⟨⟨_, _, _, _, _, _, _, ds ++ [(z * 16807 + 7 * t + 1) % 2147483647 / 997 % 1000], by rw [List.map_append]; rfl, by rw [List.length_append, List.length_singleton]; omega, hs, .sh _, .sh _⟩, _, rfl⟩
def Dig0 (n : Nat) (ρ : En) : Prop := ∃ (m0 m1 m2 m4 m5 m6 m7 : M) (ds : List Int), ρ = [m0, m1, m2, .own (ds.map .int), m4, m5, m6, m7] ∧ ds.length ≤ n * 60 ∧ (∃ s : List Int, m0 = .sh (frzD (s.map .int))) ∧ Shy m4 ∧ Shy m5 ∧ Shy m6 ∧ Shy m7
theorem dig3 (n : Nat) (ρ : En) (d : D) (hd : ∃ k, d = .int k ∧ 0 ≤ k) (h : Dig0 n ρ) (hn : n < 1000) : ∃ ρ2, bnd (gNm 4 d ρ) b_law_digits_3 = some (.nx, ρ2) ∧ Dig0 (n + 1) ρ2 := by
  obtain ⟨k, rfl, hk⟩ := hd
  obtain ⟨m0, m1, m2, m4, m5, m6, m7, ds, rfl, hl, ⟨s, rfl⟩, y4, y5, y6, y7⟩ := h
  obtain ⟨z, ez⟩ := cell_ok s hk
  -- the loops, at any cell
  have big : ∀ c : Int, ∃ ρ', forGo (gNm 6) b_law_digits_1 (rangeD 0 60) [.sh (frzD (s.map .int)), m1, m2, .own (ds.map .int), .sh (.int k), .sh (.int c), m6, m7] = some (.nx, ρ') ∧ Dig0 (n + 1) ρ' := fun c => by
    obtain ⟨ρ', e, m0, q1, q2, k', c', q6, q7, xs, rfl, hx, hs, w6, w7⟩ := turns (S := Dig) (ok := fun _ => True) lim (fun n ρ d _ h hn => dig1 n ρ d h hn) (n := n * 60) (ρ := [.sh (frzD (s.map .int)), m1, m2, .own (ds.map .int), .sh (.int k), .sh (.int c), m6, m7]) (ds := rangeD 0 60) (fun _ _ => trivial)
      ⟨_, _, _, _, _, _, _, ds, rfl, hl, ⟨s, rfl⟩, y6, y7⟩ (by rw [rangeD_len]; show _ ≤ 1000000; simp; omega)
    exact ⟨_, e, _, _, _, _, _, _, _, xs, rfl, by rw [rangeD_len] at hx; simp at hx; omega, hs, .sh _, .sh _, w6, w7⟩
  have few : ∀ c z : Int, ∃ ρ', forGo (gNm 6) b_law_digits_2 (rangeD 0 12) [.sh (frzD (s.map .int)), m1, m2, .own (ds.map .int), .sh (.int k), .sh (.int c), m6, .sh (.int z)] = some (.nx, ρ') ∧ Dig0 (n + 1) ρ' := fun c z => by
    obtain ⟨ρ', e, ⟨m0, q1, q2, k', c', q6, q7, xs, rfl, hx, hs, w6, w7⟩, _⟩ := turns (S := Dig7) (ok := fun d => ∃ t, d = .int t) lim dig2 (n := n * 60) (ρ := [.sh (frzD (s.map .int)), m1, m2, .own (ds.map .int), .sh (.int k), .sh (.int c), m6, .sh (.int z)]) (ds := rangeD 0 12) (fun d hd => (rangeD_mem hd).elim fun t h => ⟨t, h.1⟩)
      ⟨⟨_, _, _, _, _, _, _, ds, rfl, hl, ⟨s, rfl⟩, y6, .sh _⟩, z, rfl⟩ (by rw [rangeD_len]; show _ ≤ 1000000; simp; omega)
    exact ⟨_, e, _, _, _, _, _, _, _, xs, rfl, by rw [rangeD_len] at hx; simp at hx; omega, hs, .sh _, .sh _, w6, w7⟩
  unfold b_law_digits_3
  by_cases hz : z < 0
  · by_cases hc : (1000000000000000000 : Int) ≤ 1 - 2 * z
    · obtain ⟨ρ', e, h⟩ := big (1 - 2 * z)
      simp [shy_free y4, shy_free y5, ez, hz, hc, e, i64, i62]
      exact h
    · obtain ⟨ρ', e, h⟩ := few (1 - 2 * z) (((1 - 2 * z) * 48271 + k * 69621 + 11) % 2147483647)
      simp [shy_free y4, shy_free y5, shy_free y7, ez, hz, hc, e, i64, i62]
      exact h
  · by_cases hc : (1000000000000000000 : Int) ≤ z
    · obtain ⟨ρ', e, h⟩ := big z
      simp [shy_free y4, shy_free y5, ez, hz, hc, e, i64, i62]
      exact h
    · obtain ⟨ρ', e, h⟩ := few z ((z * 48271 + k * 69621 + 11) % 2147483647)
      simp [shy_free y4, shy_free y5, shy_free y7, ez, hz, hc, e, i64, i62]
      exact h
theorem digits_ok (ns : List Int) {b : Int} (hb : 0 ≤ b) (h1 : b ≤ 100) : ∃ ds : List Int, phi_law_digits [frzD (ns.map .int), .int 0, .int b] = some (.fr (ds.map .int)) := by
  obtain ⟨ρ', e, m0, m1, m2, m4, m5, m6, m7, ds, rfl, _⟩ := turns (S := Dig0) (ok := fun d => ∃ k, d = .int k ∧ 0 ≤ k) 1000 dig3 (n := 0) (ρ := [.sh (frzD (ns.map .int)), .sh (.int 0), .sh (.int b), .own [], .no, .no, .no, .no]) (ds := rangeD 0 b) (fun d hd => (rangeD_mem hd).elim fun t h => ⟨t, h.1, h.2.1⟩)
      ⟨_, _, _, _, _, _, _, [], rfl, Nat.zero_le _, ⟨ns, rfl⟩, .no, .no, .no, .no⟩ (by rw [rangeD_len]; omega)
  have z2 : i62 b = true := i62_of (by omega) (by omega)
  have z0 : i62 0 = true := by decide
  refine ⟨ds, ?_⟩
  unfold phi_law_digits
  rw [runN_eq (by rfl)]
  unfold m_law_digits
  simp [z0, z2, e]
/-- a box as the law makes it -/
theorem box_ok (ds : List Int) : BoxOk [.list (ds.map .int), .int 0] := ⟨ds, 0, rfl, Int.le_refl 0⟩
end Law
/-! two alike things are the same -/
namespace Law
open PySem PySem.Spec PyProof.Rows L2 Mi
set_option maxRecDepth 100000
set_option maxHeartbeats 1000000
/-- data that the law may ask for, no deeper than n -/
def okD : Nat → D → Prop
  | _, .none => True
  | _, .bool _ => True
  | _, .int i => i64 i = true
  | _, .str x => (reprText x).length ≤ lim
  | 0, _ => False
  | n + 1, .list ds => ds.length ≤ lim ∧ plainDs ds = true ∧ ∀ d ∈ ds, okD n d
  | n + 1, .tuple ds => ds.length ≤ lim ∧ plainDs ds = true ∧ ∀ d ∈ ds, okD n d
  | _, .dict _ => False
theorem same_loop {φ : List D → Option R} {d : D} {get : Int → Option D} (hg : ∀ k, ixD d (.int k) = (get k).map .sh) : ∀ (ks : List D) (m : M), Shy m → (∀ k ∈ ks, ∃ z e, k = .int z ∧ get z = some e ∧ φ [e, e] = some (.sh (.bool true))) →
    ∃ m', forGo (gNm 2) (b_law_same_1 φ) ks [.sh d, .sh d, m] = some (.nx, [.sh d, .sh d, m'])
  | [], m, _, _ => ⟨_, rfl⟩
  | k :: ks, m, hm, h => by
    obtain ⟨z, e, rfl, he, hφ⟩ := h k List.mem_cons_self
    obtain ⟨ρ', e'⟩ := same_loop hg ks (.sh (.int z)) (.sh _) fun k hk => h k (List.mem_cons_of_mem _ hk)
    refine ⟨ρ', ?_⟩
    rw [forGo_cons]
    unfold b_law_same_1
    simp [shy_free hm, hg, he, hφ]
    exact e'
theorem same_ok : ∀ (n : Nat) (d : D), okD n d → phi_law_same (n + 1) [d, d] = some (.sh (.bool true)) := by
  intro n
  induction n with
  | zero =>
    intro d h
    unfold phi_law_same
    rw [runN_eq (by rfl)]
    unfold m_law_same
    cases d with
    | none => simp
    | bool b => cases b <;> simp
    | int i => simp [reprD_i h]
    | str x => simp [reprD_s h]
    | list ds => exact False.elim h
    | tuple ds => exact False.elim h
    | dict ds => exact False.elim h
  | succ n ih =>
    intro d h
    unfold phi_law_same
    rw [runN_eq (by rfl)]
    unfold m_law_same
    cases d with
    | none => simp
    | bool b => cases b <;> simp
    | int i => simp [reprD_i h]
    | str x => simp [reprD_s h]
    | list ds =>
      obtain ⟨hl, hp, hd⟩ := h
      have hl' : ds.length ≤ 1000000 := hl
      have z : i62 (ds.length : Int) = true := i62_of (by omega) (by omega)
      obtain ⟨ρ', e⟩ := same_loop (φ := phi_law_same (n + 1)) (d := .list ds) (get := fun k => atI ds k) (fun k => rfl) (rangeD 0 ds.length) .no .no fun k hk => by
        obtain ⟨k, rfl, h0, h1⟩ := rangeD_mem hk
        obtain ⟨x, e, hx⟩ := mem_atI h0 h1
        exact ⟨k, x, rfl, e, ih x (hd x hx)⟩
      simp [hp, z, e]
    | tuple ds =>
      obtain ⟨hl, hp, hd⟩ := h
      have hl' : ds.length ≤ 1000000 := hl
      have z : i62 (ds.length : Int) = true := i62_of (by omega) (by omega)
      obtain ⟨ρ', e⟩ := same_loop (φ := phi_law_same (n + 1)) (d := .tuple ds) (get := fun k => atI ds k) (fun k => rfl) (rangeD 0 ds.length) .no .no fun k hk => by
        obtain ⟨k, rfl, h0, h1⟩ := rangeD_mem hk
        obtain ⟨x, e, hx⟩ := mem_atI h0 h1
        exact ⟨k, x, rfl, e, ih x (hd x hx)⟩
      simp [hp, z, e]
    | dict ds => exact False.elim h
end Law
/-! mixing keeps what is there -/
namespace Law
open PySem PySem.Spec PyProof.Rows L2 Mi
set_option maxRecDepth 100000
set_option maxHeartbeats 1000000
theorem era_perm {α : Type} : ∀ (l : List α) (i : Nat) (h : i < l.length), (l[i] :: l.eraseIdx i).Perm l
  | x :: r, 0, _ => List.Perm.refl _
  | x :: r, i + 1, h => by
    have ih := era_perm r i (by simpa using h)
    exact (List.Perm.swap x _ _).trans (ih.cons x)
theorem pop_at {ds : List D} {r : Int} (h0 : 0 ≤ r) (h1 : r < ds.length) : ∃ d, seqIndex? r ds.length = some r.toNat ∧ ds[r.toNat]? = some d ∧ (d :: ds.eraseIdx r.toNat).Perm ds := by
  have hl : r.toNat < ds.length := by omega
  refine ⟨ds[r.toNat], ?_, List.getElem?_eq_getElem hl, ?_⟩
  · rw [seqIndex_of h0 (by omega)]
  · exact era_perm ds r.toNat hl
theorem mix_turn {ws row left found : List D} {m4 : M} (d : D) (b : BoxOk ws) (hl : left ≠ []) (hn : left.length ≤ 900) (hf : found.length ≤ 900) (h4 : Shy m4) :
    ∃ ws' x left', bnd (gNm 4 d [.io ws, .sh (.list row), .own left, .own found, m4]) b_law_mixed_1 = some (.nx, [.io ws', .sh (.list row), .own left', .own (found ++ [x]), .sh d]) ∧ BoxOk ws' ∧ (x :: left').Perm left ∧ left'.length + 1 = left.length := by
  have hp : 0 < (left.length : Int) := by
    cases left with
    | nil => exact absurd rfl hl
    | cons x r => rw [List.length_cons]; omega
  obtain ⟨r, w1, e1, b1, h0, h1⟩ := draw_ok b hp
  obtain ⟨x, e2, e3, pm⟩ := pop_at h0 h1
  have z : i62 r = true := i62_of (by omega) (by omega)
  have zf : found.length < lim := by show _ < 1000000; omega
  refine ⟨w1, x, left.eraseIdx r.toNat, ?_, b1, pm, by rw [List.length_eraseIdx_of_lt (by omega)]; omega⟩
  unfold b_law_mixed_1
  simp [shy_free h4, e1, e2, e3, z, zf]
theorem mixed_ok {ws row : List D} (b : BoxOk ws) (hr : row.length ≤ 900) : ∃ ys ws', phi_law_mixed ws [.list row] = some (.fr ys, ws') ∧ BoxOk ws' ∧ ys.Perm row := by
  have loop : ∀ (ds : List D) (ws left found : List D) (m4 : M), ds.length = left.length → left.length + found.length ≤ 900 → BoxOk ws → (found ++ left).Perm row → Shy m4 →
      ∃ ws' found' m4', forGo (gNm 4) b_law_mixed_1 ds [.io ws, .sh (.list row), .own left, .own found, m4] = some (.nx, [.io ws', .sh (.list row), .own [], .own found', m4']) ∧ BoxOk ws' ∧ found'.Perm row := by
    intro ds
    induction ds with
    | nil =>
      intro ws left found m4 h1 h2 b p h4
      have : left = [] := List.eq_nil_of_length_eq_zero (by simpa using h1.symm)
      subst this
      exact ⟨ws, found, m4, rfl, b, by simpa using p⟩
    | cons d r ih =>
      intro ws left found m4 h1 h2 b p h4
      rw [List.length_cons] at h1
      have hne : left ≠ [] := fun e => by rw [e] at h1; simp at h1
      obtain ⟨w1, x, left', e1, b1, pm, hl'⟩ := mix_turn (row := row) (found := found) d b hne (by omega) (by omega) h4
      obtain ⟨w2, found', m4', e2, b2, p2⟩ := ih w1 left' (found ++ [x]) (.sh d) (by omega) (by rw [List.length_append, List.length_singleton]; omega) b1 (by
        rw [List.append_assoc]
        exact (List.Perm.append_left found pm).trans p) (.sh _)
      exact ⟨w2, found', m4', by rw [for_step e1, e2], b2, p2⟩
  obtain ⟨w2, found', m4', e, b2, p2⟩ := loop (rangeD 0 (row.length : Int)) ws row [] .no (by rw [rangeD_len]; omega) (by simp; omega) b (by simp) .no
  refine ⟨found', w2, ?_, b2, p2⟩
  have z : i62 (row.length : Int) = true := i62_of (by omega) (by omega)
  have z0 : (0 : Nat) ≤ lim := Nat.zero_le _
  unfold phi_law_mixed
  rw [runIO_eq (by rfl)]
  unfold m_law_mixed
  simp [z, e]
end Law
/-! loops that check -/
namespace Law
open PySem PySem.Spec PyProof.Rows L2 Mi
set_option maxRecDepth 100000
set_option maxHeartbeats 1000000
theorem loops {S : En → Prop} {g : MG} {b : MS'} {ok : D → Prop} (hs : ∀ ρ d, ok d → S ρ → ∃ ρ2, bnd (g d ρ) b = some (.nx, ρ2) ∧ S ρ2) : ∀ {ds : List D} {ρ : En}, (∀ d ∈ ds, ok d) → S ρ → ∃ ρ', forGo g b ds ρ = some (.nx, ρ') ∧ S ρ'
  | [], ρ, _, h => ⟨ρ, rfl, h⟩
  | d :: r, ρ, hd, h => by
    obtain ⟨ρ2, e2, h2⟩ := hs ρ d (hd d List.mem_cons_self) h
    obtain ⟨ρ', e, h'⟩ := loops hs (fun d h => hd d (List.mem_cons_of_mem _ h)) h2
    exact ⟨ρ', by rw [for_step e2, e], h'⟩
theorem rturns {S : Nat → En → Prop} {g : MG} {b : MS'} {N : Nat} (hs : ∀ n ρ, n < N → S n ρ → ∃ ρ2, bnd (g (.int n) ρ) b = some (.nx, ρ2) ∧ S (n + 1) ρ2) {ρ : En} (h : S 0 ρ) : ∃ ρ', forGo g b (rangeD 0 N) ρ = some (.nx, ρ') ∧ S N ρ' := by
  have key : ∀ (c k : Nat) (ρ : En), k + c = N → S k ρ → ∃ ρ', forGo g b ((List.range' k c).map fun i : Nat => .int (i : Int)) ρ = some (.nx, ρ') ∧ S N ρ' := by
    intro c
    induction c with
    | zero => intro k ρ hk h; exact ⟨ρ, rfl, by rw [← hk]; exact h⟩
    | succ c ih =>
      intro k ρ hk h
      obtain ⟨ρ2, e2, h2⟩ := hs k ρ (by omega) h
      obtain ⟨ρ', e, h'⟩ := ih (k + 1) ρ2 (by omega) h2
      exact ⟨ρ', by rw [List.range'_succ, List.map_cons, for_step e2, e], h'⟩
  rw [rangeD_0, List.range_eq_range']
  exact key N 0 ρ (by omega) h
/-- over whole numbers from 0 on, told as such -/
theorem iturns {S : Nat → En → Prop} {g : MG} {b : MS'} {m : Int} (hm : 0 ≤ m) (hs : ∀ (n : Nat) ρ, (n : Int) < m → S n ρ → ∃ ρ2, bnd (g (.int n) ρ) b = some (.nx, ρ2) ∧ S (n + 1) ρ2) {ρ : En} (h : S 0 ρ) : ∃ ρ', forGo g b (rangeD 0 m) ρ = some (.nx, ρ') ∧ S m.toNat ρ' := by
  have e : m = (m.toNat : Int) := by omega
  rw [e]
  exact rturns (fun n ρ hn h => hs n ρ (by omega) h) h
theorem shaped_nil : SeqAt.shaped (.list []) = true := rfl
theorem eqD_lists {a b : List D} (ha : SeqAt.shaped (.list a) = true) (hb : SeqAt.shaped (.list b) = true) : eqD (.list a) (.list b) = some (PyData.eqv (.list a) (.list b)) := by
  show (if _ then _ else _) = _
  rw [if_pos ⟨ha, hb⟩]
theorem neD_cons {x : D} {xs : List D} (h : SeqAt.shaped (.list (x :: xs)) = true) : neD (.list (x :: xs)) (.list []) = some true := by
  unfold neD
  rw [eqD_lists h shaped_nil]
  rfl
theorem neD_nil : neD (.list []) (.list []) = some false := by
  unfold neD
  rw [eqD_lists shaped_nil shaped_nil]
  rfl
theorem eqD_cons {x : D} {xs : List D} (h : SeqAt.shaped (.list (x :: xs)) = true) : eqD (.list (x :: xs)) (.list []) = some false := by
  rw [eqD_lists h shaped_nil]
  rfl
theorem eqD_nil : eqD (.list []) (.list []) = some true := by
  rw [eqD_lists shaped_nil shaped_nil]
  rfl
theorem same_none : phi_law_same 12 [.none, .none] = some (.sh (.bool true)) := same_ok 11 .none trivial
theorem same_int {i : Int} (h : i64 i = true) : phi_law_same 12 [.int i, .int i] = some (.sh (.bool true)) := same_ok 11 (.int i) h
theorem same_pair {i j : Int} (h : i64 i = true) (h2 : i64 j = true) : phi_law_same 12 [.tuple [.int i, .int j], .tuple [.int i, .int j]] = some (.sh (.bool true)) := same_ok 11 (.tuple [.int i, .int j]) ⟨by show 2 ≤ 1000000; omega, rfl, fun d hd => by
  rcases List.mem_cons.mp hd with rfl | hd
  · exact h
  · rcases List.mem_cons.mp hd with rfl | hd
    · exact h2
    · cases hd⟩
end Law
/-! whole numbers kept, ranges -/
namespace Law
open PySem PySem.Spec PyProof.Rows L2 Mi
set_option maxRecDepth 100000
set_option maxHeartbeats 1000000
theorem shaped_i (i : Int) : SeqAt.shaped (.int i) = true := shaped_of rfl (Nat.zero_le _)
theorem inD_ints (a : Int) (ns : List Int) : inD (.int a) (.list (ns.map .int)) = some (decide (a ∈ ns)) := by
  show (if SeqAt.shaped (.int a) = true ∧ SeqAt.shaped (.list (ns.map .int)) = true then some ((ns.map PyData.int).any fun z => PyData.eqv z (.int a)) else none) = _
  rw [if_pos ⟨shaped_i a, shaped_ints ns⟩]
  congr 1
  induction ns with
  | nil => rfl
  | cons n r ih =>
    rw [List.map_cons, List.any_cons, ih]
    by_cases h : a = n
    · subst h
      simp [PyData.eqv]
    · have : ¬ n = a := fun e => h e.symm
      simp [PyData.eqv, h, this]
def rng (m : Int) : List Int := rangeL 0 m.toNat
theorem rangeD_rng {m : Int} : rangeD 0 m = (rng m).map .int := by
  unfold rangeD rng
  rw [Int.sub_zero]
theorem fm_filter {α : Type} {f : α → D} {p : α → Bool} {g : D → Option D} (h : ∀ x, g (f x) = if p x = true then some (f x) else none) : ∀ xs : List α, (xs.map f).filterMap g = (xs.filter p).map f
  | [] => rfl
  | x :: r => by
    rw [List.map_cons, List.filterMap_cons, h x, List.filter_cons, fm_filter h r]
    by_cases hp : p x = true
    · rw [if_pos hp, if_pos hp]; rfl
    · rw [if_neg hp, if_neg hp]
/-- a comprehension that keeps the numbers by a test -/
def keepD (p : Int → Bool) : D → Option D
  | .int i => if p i = true then some (.int i) else none
  | _ => none
theorem keep_ints {g : MG} {t : MB} {el : MR} {vs : List Nat} {ρ : En} {ns : List Int} (p : Int → Bool) (hl : ns.length ≤ 1000) (hs : ∀ i ∈ ns, lcTurn g t el vs (.int i) ρ = some (if p i = true then some (.int i) else none, ρ)) :
    lcGo g t el vs (ns.map .int) ρ [] = some ((ns.filter p).map .int, ρ) := by
  have e := lc_pure (gg := g) (t := t) (el := el) (vs := vs) (ds := ns.map .int) (ρ := ρ) (keepD p) (fun d hd => by
    obtain ⟨i, hi, rfl⟩ := List.mem_map.mp hd
    exact hs i hi) [] (by rw [List.length_map]; show _ ≤ 1000000; simp; omega)
  rw [e, List.nil_append, fm_filter (f := PyData.int) (p := p) (fun x => rfl)]
theorem rng_len {m : Int} : (rng m).length = m.toNat := by
  unfold rng
  rw [rangeL_eq, List.length_map, List.length_range]
theorem same_ints {ns : List Int} (hl : ns.length ≤ 900) (h : ∀ i ∈ ns, -1000000000 ≤ i ∧ i ≤ 1000000000) : phi_law_same 12 [.list (ns.map .int), .list (ns.map .int)] = some (.sh (.bool true)) := same_ok 11 _ ⟨by
  rw [List.length_map]
  show _ ≤ 1000000
  omega, plain_ints ns, fun d hd => by
  obtain ⟨i, hi, rfl⟩ := List.mem_map.mp hd
  have := h i hi
  exact i64_of (by omega) (by omega)⟩
theorem rng_mem {m i : Int} (h : i ∈ rng m) : 0 ≤ i ∧ i < m := by
  unfold rng at h
  have := rangeL_mem h
  omega
theorem mem_rng {m i : Int} (h0 : 0 ≤ i) (h1 : i < m) : i ∈ rng m := by
  unfold rng
  rw [rangeL_eq]
  exact List.mem_map.mpr ⟨i.toNat, List.mem_range.mpr (by omega), by omega⟩
theorem rng_lt (m : Int) : (rng m).Pairwise (· < ·) := by
  unfold rng
  rw [rangeL_eq, List.pairwise_map]
  exact List.pairwise_lt_range.imp fun h => by omega
end Law
/-! bounds, comprehensions over images, loops over images -/
namespace Law
open PySem PySem.Spec PyProof.Rows L2 Mi
set_option maxRecDepth 100000
set_option maxHeartbeats 1000000
theorem lim_of {n : Nat} (h : n ≤ 1000) : n ≤ lim := by show _ ≤ 1000000; omega
theorem lim_lt' {n : Nat} (h : n ≤ 1000) : n < lim := by show _ < 1000000; omega
theorem shy_ok {m : M} (h : Shy m) : okM (some m) = true := by cases h <;> rfl
/-- a comprehension with a test, over images -/
theorem lc_fm {α : Type} {g : MG} {t : MB} {el : MR} {vs : List Nat} {ρ : En} {f : α → D} {h : α → Option D} {xs : List α} (hl : xs.length ≤ 100000) (hs : ∀ x ∈ xs, lcTurn g t el vs (f x) ρ = some (h x, ρ)) : lcGo g t el vs (xs.map f) ρ [] = some (xs.filterMap h, ρ) := by
  have key : ∀ (xs : List α) (acc : List D), acc.length + xs.length ≤ 100000 → (∀ x ∈ xs, lcTurn g t el vs (f x) ρ = some (h x, ρ)) → lcGo g t el vs (xs.map f) ρ acc = some (acc ++ xs.filterMap h, ρ) := by
    intro xs
    induction xs with
    | nil => intro acc _ _; simp [lcGo]
    | cons x r ih =>
      intro acc hl hs
      rw [List.length_cons] at hl
      rw [List.map_cons, lcGo_cons, hs x List.mem_cons_self, bnd_some, List.filterMap_cons]
      have hr := fun y hy => hs y (List.mem_cons_of_mem _ hy)
      cases q : h x with
      | none => 
        show lcGo g t el vs (r.map f) ρ acc = _
        rw [ih acc (by omega) hr]
      | some y =>
        show (if acc.length < lim then _ else none) = _
        rw [if_pos (show acc.length < 1000000 by omega), ih (acc ++ [y]) (by rw [List.length_append, List.length_singleton]; omega) hr, List.append_assoc]
        rfl
  have := key xs [] (by simpa using hl) hs
  rwa [List.nil_append] at this
theorem fm_map {α β : Type} (h : α → β) : ∀ xs : List α, xs.filterMap (fun x => some (h x)) = xs.map h
  | [] => rfl
  | x :: r => by rw [List.filterMap_cons, List.map_cons, fm_map h r]
theorem lc_map {α : Type} {g : MG} {t : MB} {el : MR} {vs : List Nat} {ρ : En} {f h : α → D} {xs : List α} (hl : xs.length ≤ 100000) (hs : ∀ x ∈ xs, lcTurn g t el vs (f x) ρ = some (some (h x), ρ)) : lcGo g t el vs (xs.map f) ρ [] = some (xs.map h, ρ) := by
  rw [lc_fm (h := fun x => some (h x)) hl hs, fm_map]
theorem nturns {S : Nat → En → Prop} {g : MG} {b : MS'} {N : Nat} {f : Nat → D} (hs : ∀ n ρ, n < N → S n ρ → ∃ ρ2, bnd (g (f n) ρ) b = some (.nx, ρ2) ∧ S (n + 1) ρ2) {ρ : En} (h : S 0 ρ) : ∃ ρ', forGo g b ((List.range N).map f) ρ = some (.nx, ρ') ∧ S N ρ' := by
  have key : ∀ (c k : Nat) (ρ : En), k + c = N → S k ρ → ∃ ρ', forGo g b ((List.range' k c).map f) ρ = some (.nx, ρ') ∧ S N ρ' := by
    intro c
    induction c with
    | zero => intro k ρ hk h; exact ⟨ρ, rfl, by rw [← hk]; exact h⟩
    | succ c ih =>
      intro k ρ hk h
      obtain ⟨ρ2, e2, h2⟩ := hs k ρ (by omega) h
      obtain ⟨ρ', e, h'⟩ := ih (k + 1) ρ2 (by omega) h2
      exact ⟨ρ', by rw [List.range'_succ, List.map_cons, for_step e2, e], h'⟩
  rw [List.range_eq_range']
  exact key N 0 ρ (by omega) h
/-- a loop over images of a list's items -/
theorem mturns {α : Type} {S : List α → En → Prop} {g : MG} {b : MS'} {f : α → D} (M : Nat) : ∀ {xs : List α} {done : List α} {ρ : En}, done.length + xs.length ≤ M → (∀ done x ρ, x ∈ xs → done.length < M → S done ρ → ∃ ρ2, bnd (g (f x) ρ) b = some (.nx, ρ2) ∧ S (done ++ [x]) ρ2) → S done ρ → ∃ ρ', forGo g b (xs.map f) ρ = some (.nx, ρ') ∧ S (done ++ xs) ρ'
  | [], done, ρ, _, _, h => ⟨ρ, rfl, by rw [List.append_nil]; exact h⟩
  | x :: r, done, ρ, hM, hs, h => by
    rw [List.length_cons] at hM
    obtain ⟨ρ2, e2, h2⟩ := hs done x ρ List.mem_cons_self (by omega) h
    obtain ⟨ρ', e, h'⟩ := mturns M (xs := r) (done := done ++ [x]) (by rw [List.length_append, List.length_singleton]; omega) (fun d y ρ hy hd h => hs d y ρ (List.mem_cons_of_mem _ hy) hd h) h2
    refine ⟨ρ', by rw [List.map_cons, for_step e2, e], ?_⟩
    rw [List.append_assoc] at h'
    exact h'
/-- a loop that may end: an answer, or on -/
theorem for_ret {g : MG} {b : MS'} {d : D} {r : List D} {ρ ρ' : En} {o : Out} (e : bnd (g d ρ) b = some (o, ρ')) : forGo g b (d :: r) ρ = bnd (some (o, ρ')) (forO g b r) := by
  rw [forGo_cons]
  cases q : g d ρ with
  | none => rw [q] at e; cases e
  | some ρ1 =>
    rw [q, bnd_some] at e
    rw [bnd_some, e]
end Law
/-! k62: keys and locks as lists of whole numbers -/
namespace Law
open PySem PySem.Spec PyProof.Rows L2 Mi
open PySem.W (dataLt dataLe dataLt_tuple dataLt_ints)
set_option maxRecDepth 100000
set_option maxHeartbeats 1000000
def keyD (k : List Int) : D := .tuple (k.map .int)
def lockD (L : List (List Int)) : D := .tuple (L.map keyD)
theorem dataLt_key (a b : List Int) : dataLt (keyD a) (keyD b) = decide (a < b) := by
  unfold keyD
  rw [dataLt_tuple]
  exact dataLt_ints a b
theorem lt_app {c d : List Int} : ∀ {a b : List Int}, a < b → a.length = b.length → a ++ c < b ++ d
  | [], [], h, _ => absurd h (List.lt_irrefl [])
  | x :: a, y :: b, h, hl => by
    rw [List.cons_append, List.cons_append, List.cons_lt_cons_iff]
    rcases List.cons_lt_cons_iff.mp h with h | ⟨e, h⟩
    · exact .inl h
    · exact .inr ⟨e, lt_app h (by simpa using hl)⟩
/-! all keys: rows grown pin by pin -/
def ext (rows : List (List Int)) (p : List Int) : List (List Int) := (rows.map fun row => p.map fun d => row ++ [d]).flatten
def prod (L : List (List Int)) : List (List Int) := L.foldl ext [[]]
def all2 : List (Int → Bool) → List Int → Bool
  | [], [] => true
  | p :: ps, k :: ks => p k && all2 ps ks
  | _, _ => false
theorem ext_cons (r : List Int) (rows : List (List Int)) (p : List Int) : ext (r :: rows) p = (p.map fun d => r ++ [d]) ++ ext rows p := by
  unfold ext
  rw [List.map_cons, List.flatten_cons]
theorem mem_ext {r : List Int} {rows : List (List Int)} {p : List Int} : r ∈ ext rows p ↔ ∃ row ∈ rows, ∃ d ∈ p, r = row ++ [d] := by
  unfold ext
  simp only [List.mem_flatten, List.mem_map]
  constructor
  · rintro ⟨l, ⟨row, h1, rfl⟩, h2⟩
    obtain ⟨d, hd, rfl⟩ := List.mem_map.mp h2
    exact ⟨row, h1, d, hd, rfl⟩
  · rintro ⟨row, h1, d, hd, rfl⟩
    exact ⟨_, ⟨row, h1, rfl⟩, List.mem_map.mpr ⟨d, hd, rfl⟩⟩
theorem ext_len {n : Nat} {rows : List (List Int)} {p : List Int} (h : ∀ r ∈ rows, r.length = n) : ∀ r ∈ ext rows p, r.length = n + 1 := fun r hr => by
  obtain ⟨row, h1, d, hd, rfl⟩ := mem_ext.mp hr
  rw [List.length_append, h row h1]
  rfl
theorem all2_snoc {d : Int} {p : Int → Bool} : ∀ {ps : List (Int → Bool)} {row : List Int}, row.length = ps.length → all2 (ps ++ [p]) (row ++ [d]) = (all2 ps row && p d)
  | [], [], _ => by simp [all2]
  | q :: ps, x :: row, h => by
    rw [List.cons_append, List.cons_append]
    show (q x && all2 (ps ++ [p]) (row ++ [d])) = (q x && all2 ps row && p d)
    rw [all2_snoc (by simpa using h), Bool.and_assoc]
theorem ext_filter {ps : List (Int → Bool)} {p : Int → Bool} {q : List Int} : ∀ {rows : List (List Int)}, (∀ r ∈ rows, r.length = ps.length) → (ext rows q).filter (all2 (ps ++ [p])) = ext (rows.filter (all2 ps)) (q.filter p)
  | [], _ => rfl
  | r :: rows, h => by
    have hr := h r List.mem_cons_self
    rw [ext_cons, List.filter_append, ext_filter (fun z hz => h z (List.mem_cons_of_mem _ hz)), List.filter_cons]
    have e : (q.map fun d => r ++ [d]).filter (all2 (ps ++ [p])) = if all2 ps r = true then (q.filter p).map fun d => r ++ [d] else [] := by
      rw [List.filter_map]
      by_cases ha : all2 ps r = true
      · rw [if_pos ha]
        congr 1
        apply List.filter_congr
        intro d _
        show all2 (ps ++ [p]) (r ++ [d]) = p d
        rw [all2_snoc hr, ha, Bool.true_and]
      · rw [if_neg ha, List.map_eq_nil_iff, List.filter_eq_nil_iff]
        intro d _
        show ¬ all2 (ps ++ [p]) (r ++ [d]) = true
        rw [all2_snoc hr, Bool.eq_false_iff.mpr ha, Bool.false_and]
        exact Bool.false_ne_true
    rw [e]
    by_cases ha : all2 ps r = true
    · rw [if_pos ha, if_pos ha, ext_cons]
    · rw [if_neg ha, if_neg ha, List.nil_append]
theorem prod_filter : ∀ (L : List (List Int × (Int → Bool))) (rows : List (List Int)) (ps : List (Int → Bool)), (∀ r ∈ rows, r.length = ps.length) →
    ((L.map (·.1)).foldl ext rows).filter (all2 (ps ++ L.map (·.2))) = (L.map fun q => q.1.filter q.2).foldl ext (rows.filter (all2 ps))
  | [], rows, ps, _ => by simp
  | q :: L, rows, ps, h => by
    have ih := prod_filter L (ext rows q.1) (ps ++ [q.2]) (fun r hr => by rw [List.length_append]; exact ext_len h r hr)
    rw [List.append_assoc] at ih
    rw [List.map_cons, List.map_cons, List.map_cons, List.foldl_cons, List.foldl_cons, ← ext_filter h]
    exact ih
theorem foldl_len : ∀ {L : List (List Int)} {rows : List (List Int)} {n : Nat}, (∀ r ∈ rows, r.length = n) → ∀ r ∈ L.foldl ext rows, r.length = n + L.length
  | [], rows, n, h, r, hr => h r hr
  | p :: L, rows, n, h, r, hr => by
    have := foldl_len (L := L) (ext_len (p := p) h) r hr
    rw [this, List.length_cons]
    omega
theorem prod_len {L : List (List Int)} {r : List Int} (h : r ∈ prod L) : r.length = L.length := by
  have := foldl_len (L := L) (rows := [[]]) (n := 0) (fun r hr => by
    rw [List.mem_singleton] at hr
    rw [hr]; rfl) r h
  omega
theorem ext_lt {n : Nat} {rows : List (List Int)} {p : List Int} (h : ∀ r ∈ rows, r.length = n) (h1 : rows.Pairwise (· < ·)) (h2 : p.Pairwise (· < ·)) : (ext rows p).Pairwise (· < ·) := by
  unfold ext
  rw [List.pairwise_flatten]
  refine ⟨fun l hl => ?_, ?_⟩
  · obtain ⟨row, _, rfl⟩ := List.mem_map.mp hl
    rw [List.pairwise_map]
    exact h2.imp fun hxy => List.append_left_lt (List.cons_lt_cons_iff.mpr (.inl hxy))
  · rw [List.pairwise_map]
    refine List.Pairwise.imp_of_mem (fun {a b} ha hb hab => ?_) h1
    intro x hx y hy
    obtain ⟨d, _, rfl⟩ := List.mem_map.mp hx
    obtain ⟨e, _, rfl⟩ := List.mem_map.mp hy
    exact lt_app hab (by rw [h a ha, h b hb])
theorem foldl_lt : ∀ {L : List (List Int)} {rows : List (List Int)} {n : Nat}, (∀ p ∈ L, p.Pairwise (· < ·)) → (∀ r ∈ rows, r.length = n) → rows.Pairwise (· < ·) → (L.foldl ext rows).Pairwise (· < ·)
  | [], rows, n, _, _, h => h
  | p :: L, rows, n, hL, h, h1 => foldl_lt (L := L) (n := n + 1) (fun q hq => hL q (List.mem_cons_of_mem _ hq)) (ext_len h) (ext_lt h h1 (hL p List.mem_cons_self))
theorem prod_lt {L : List (List Int)} (h : ∀ p ∈ L, p.Pairwise (· < ·)) : (prod L).Pairwise (· < ·) :=
  foldl_lt (n := 0) h (fun r hr => by rw [List.mem_singleton] at hr; rw [hr]; rfl) (List.pairwise_singleton _ _)
theorem sort_keys {ks : List (List Int)} (h : ks.Pairwise (· < ·)) : (ks.map keyD).mergeSort (dataLe false id) = ks.map keyD := by
  apply List.mergeSort_of_pairwise
  rw [List.pairwise_map]
  refine h.imp fun {a b} hab => ?_
  show (!dataLt (keyD b) (keyD a)) = true
  rw [dataLt_key]
  have : ¬ b < a := fun z => List.lt_irrefl a (List.lt_trans hab z)
  rw [decide_eq_false this]
  rfl
theorem sortOk_keys {ks : List (List Int)} (n : Nat) (h : ∀ k ∈ ks, k.length = n + 1) : sortOk (ks.map keyD) = true := by
  unfold sortOk
  have pl : plainDs (ks.map keyD) = true := plain_all fun d hd => by
    obtain ⟨k, _, rfl⟩ := List.mem_map.mp hd
    exact plain_ints k
  have al : ∀ (a b : List Int), PySem.W.alike (keyD a) (keyD b) = true := fun a b => by
    show PySem.W.alikeAll _ _ = true
    exact PySem.W.alike_ints a b
  have dp : ∀ k : List Int, (keyD k).depth ≤ 60 := fun k => by
    have : PyData.depthAll (k.map PyData.int) ≤ 0 := depth_le (k := 0) fun d hd => by
      obtain ⟨i, _, rfl⟩ := List.mem_map.mp hd
      exact Nat.zero_le _
    show PyData.depthAll (k.map PyData.int) + 1 ≤ 60
    omega
  simp only [Bool.and_eq_true, Bool.or_eq_true, List.all_eq_true]
  refine ⟨⟨⟨pl, fun x hx y hy => ?_⟩, .inl fun d hd => ?_⟩, fun d hd => ?_⟩
  · obtain ⟨a, _, rfl⟩ := List.mem_map.mp hx
    obtain ⟨b, _, rfl⟩ := List.mem_map.mp hy
    exact al a b
  · obtain ⟨k, hk, rfl⟩ := List.mem_map.mp hd
    have := h k hk
    cases k with
    | nil => simp at this
    | cons x r => rfl
  · obtain ⟨k, hk, rfl⟩ := List.mem_map.mp hd
    exact decide_eq_true (dp k)
end Law
/-! k62: locks, what they have in common -/
namespace Law
open PySem PySem.Spec PyProof.Rows L2 Mi
set_option maxRecDepth 100000
set_option maxHeartbeats 1000000
structure LkOk (n : Nat) (m : Int) (L : List (List Int)) : Prop where
  len : L.length = n
  up : ∀ p ∈ L, p.Pairwise (· < ·)
  rg : ∀ p ∈ L, ∀ d ∈ p, 0 ≤ d ∧ d < m
def fits (k : List Int) (L : List (List Int)) : Bool := all2 (L.map fun p d => decide (d ∈ p)) k
def every (n : Nat) (m : Int) : List (List Int) := prod (List.replicate n (rng m))
theorem rng_filter {m : Int} {p : List Int} (h : p.Pairwise (· < ·)) (h2 : ∀ d ∈ p, 0 ≤ d ∧ d < m) : ((rng m).filter fun d => decide (d ∈ p)) = p := by
  refine rising_unique ((rng_lt m).filter _) h fun d => ?_
  rw [List.mem_filter]
  constructor
  · rintro ⟨_, h⟩
    exact of_decide_eq_true h
  · intro hd
    have := h2 d hd
    exact ⟨mem_rng this.1 this.2, decide_eq_true hd⟩
theorem fit_prod {n : Nat} {m : Int} {L : List (List Int)} (h : LkOk n m L) : ((every n m).filter fun k => fits k L) = prod L := by
  have e := prod_filter (L.map fun p => (rng m, fun d => decide (d ∈ p))) [[]] [] (fun r hr => by
    rw [List.mem_singleton] at hr
    rw [hr]; rfl)
  rw [List.map_map, List.map_map, List.map_map] at e
  have e1 : L.map ((fun q : List Int × (Int → Bool) => q.1) ∘ fun p => (rng m, fun d => decide (d ∈ p))) = List.replicate n (rng m) := by
    rw [← h.len, List.eq_replicate_iff]
    refine ⟨List.length_map .., fun b hb => ?_⟩
    obtain ⟨p, _, rfl⟩ := List.mem_map.mp hb
    rfl
  have e2 : L.map ((fun q : List Int × (Int → Bool) => q.1.filter q.2) ∘ fun p => (rng m, fun d => decide (d ∈ p))) = L := by
    have : ∀ p ∈ L, ((fun q : List Int × (Int → Bool) => q.1.filter q.2) ∘ fun p => (rng m, fun d => decide (d ∈ p))) p = p := fun p hp => rng_filter (h.up p hp) (h.rg p hp)
    exact (List.map_congr_left this).trans (List.map_id _)
  rw [e1, e2, List.nil_append] at e
  exact e
def both (L M : List (List Int)) : List (List Int) := (L.zip M).map fun q => q.1.filter fun d => decide (d ∈ q.2)
theorem both_ok {n : Nat} {m : Int} {L M : List (List Int)} (h : LkOk n m L) (h' : LkOk n m M) : LkOk n m (both L M) := by
  refine ⟨by unfold both; rw [List.length_map, List.length_zip, h.len, h'.len]; omega, fun p hp => ?_, fun p hp d hd => ?_⟩
  · obtain ⟨q, hq, rfl⟩ := List.mem_map.mp hp
    exact (h.up q.1 (List.of_mem_zip hq).1).filter _
  · obtain ⟨q, hq, rfl⟩ := List.mem_map.mp hp
    exact h.rg q.1 (List.of_mem_zip hq).1 d (List.mem_filter.mp hd).1
theorem fits_both : ∀ {L M : List (List Int)} {k : List Int}, L.length = M.length → fits k (both L M) = (fits k L && fits k M)
  | [], [], [], _ => rfl
  | [], [], _ :: _, _ => rfl
  | p :: L, q :: M, [], _ => rfl
  | p :: L, q :: M, x :: k, h => by
    have ih := fits_both (L := L) (M := M) (k := k) (by simpa using h)
    show (decide (x ∈ p.filter fun d => decide (d ∈ q)) && fits k (both L M)) = ((decide (x ∈ p) && fits k L) && (decide (x ∈ q) && fits k M))
    rw [ih]
    by_cases h1 : x ∈ p <;> by_cases h2 : x ∈ q <;> cases fits k L <;> cases fits k M <;> simp [h1, h2]
theorem foldl_ok {n : Nat} {m : Int} : ∀ {Ls : List (List (List Int))} {L : List (List Int)}, LkOk n m L → (∀ M ∈ Ls, LkOk n m M) → LkOk n m (Ls.foldl both L)
  | [], _, h, _ => h
  | M :: Ls, L, h, h' => foldl_ok (Ls := Ls) (L := both L M) (both_ok h (h' M List.mem_cons_self)) fun N hN => h' N (List.mem_cons_of_mem _ hN)
theorem fits_foldl {n : Nat} {m : Int} {k : List Int} : ∀ {Ls : List (List (List Int))} {L : List (List Int)}, LkOk n m L → (∀ M ∈ Ls, LkOk n m M) → fits k (Ls.foldl both L) = (fits k L && Ls.all (fits k))
  | [], L, _, _ => by simp
  | M :: Ls, L, h, h' => by
    have hM := h' M List.mem_cons_self
    rw [List.foldl_cons, fits_foldl (both_ok h hM) fun N hN => h' N (List.mem_cons_of_mem _ hN), fits_both (by rw [h.len, hM.len]), List.all_cons, Bool.and_assoc]
theorem all_prod {n : Nat} {m : Int} {Ls : List (List (List Int))} {L : List (List Int)} (h : LkOk n m L) (h' : ∀ M ∈ Ls, LkOk n m M) : ((every n m).filter fun k => (L :: Ls).all (fits k)) = prod (Ls.foldl both L) := by
  rw [← fit_prod (foldl_ok h h')]
  apply List.filter_congr
  intro k _
  rw [fits_foldl h h', List.all_cons]
theorem ext_nil (rows : List (List Int)) : ext rows [] = [] := by
  induction rows with
  | nil => rfl
  | cons r rows ih => rw [ext_cons, ih]; rfl
theorem foldl_nil : ∀ L : List (List Int), L.foldl ext [] = []
  | [] => rfl
  | p :: L => foldl_nil L
theorem foldl_empty : ∀ {L : List (List Int)} {rows : List (List Int)}, [] ∈ L → L.foldl ext rows = []
  | p :: L, rows, h => by
    rw [List.foldl_cons]
    rcases List.mem_cons.mp h with h | h
    · rw [← h, ext_nil, foldl_nil]
    · exact foldl_empty h
theorem foldl_ne : ∀ {L : List (List Int)} {rows : List (List Int)}, [] ∉ L → rows ≠ [] → L.foldl ext rows ≠ []
  | [], rows, _, h => h
  | p :: L, rows, h, hr => by
    rw [List.foldl_cons]
    refine foldl_ne (fun z => h (List.mem_cons_of_mem _ z)) ?_
    cases rows with
    | nil => exact absurd rfl hr
    | cons r rows =>
      cases p with
      | nil => exact absurd List.mem_cons_self h
      | cons d p => rw [ext_cons]; simp
theorem prod_empty {L : List (List Int)} : prod L = [] ↔ [] ∈ L := by
  constructor
  · intro h
    by_cases q : [] ∈ L
    · exact q
    · exact absurd h (foldl_ne q (by simp))
  · exact foldl_empty
/-! pins -/
def pin (L : List (List Int)) (i : Nat) : List Int := L.getD i []
theorem pin_mem {L : List (List Int)} {i : Nat} (h : i < L.length) : pin L i ∈ L := by
  unfold pin
  rw [List.getD_eq_getElem?_getD, List.getElem?_eq_getElem h]
  exact List.getElem_mem h
theorem pin_both {L M : List (List Int)} {i : Nat} (h : L.length = M.length) (hi : i < L.length) : pin (both L M) i = (pin L i).filter fun d => decide (d ∈ pin M i) := by
  have hM : i < M.length := by omega
  have hz : (L.zip M)[i]? = some (L[i], M[i]) := List.getElem?_zip_eq_some.mpr ⟨List.getElem?_eq_getElem hi, List.getElem?_eq_getElem hM⟩
  unfold pin both
  rw [List.getD_eq_getElem?_getD, List.getD_eq_getElem?_getD, List.getD_eq_getElem?_getD, List.getElem?_map, hz, List.getElem?_eq_getElem hi, List.getElem?_eq_getElem hM]
  rfl
theorem pin_foldl {n : Nat} {m : Int} {i : Nat} (hi : i < n) : ∀ {Ls : List (List (List Int))} {L : List (List Int)}, LkOk n m L → (∀ M ∈ Ls, LkOk n m M) → pin (Ls.foldl both L) i = (pin L i).filter fun d => Ls.all fun M => decide (d ∈ pin M i)
  | [], L, _, _ => (List.filter_eq_self.mpr fun _ _ => rfl).symm
  | M :: Ls, L, h, h' => by
    have hM := h' M List.mem_cons_self
    rw [List.foldl_cons, pin_foldl hi (both_ok h hM) fun N hN => h' N (List.mem_cons_of_mem _ hN), pin_both (by rw [h.len, hM.len]) (by rw [h.len]; exact hi), List.filter_filter]
    apply List.filter_congr
    intro d _
    rw [List.all_cons, Bool.and_comm]
theorem empty_pin {n : Nat} {m : Int} {L : List (List Int)} (h : LkOk n m L) : [] ∈ L ↔ ∃ i, i < n ∧ pin L i = [] := by
  constructor
  · intro hm
    obtain ⟨i, hi, e⟩ := List.mem_iff_getElem.mp hm
    refine ⟨i, by rw [← h.len]; exact hi, ?_⟩
    unfold pin
    rw [List.getD_eq_getElem?_getD, List.getElem?_eq_getElem hi, e]
    rfl
  · rintro ⟨i, hi, e⟩
    rw [← e]
    exact pin_mem (by rw [h.len]; exact hi)
/-- the depths that all have -/
def com (Ls : List (List (List Int))) (i : Nat) : List Int := (rng 4).filter fun d => Ls.all fun L => decide (d ∈ pin L i)
theorem com_eq {n : Nat} {m : Int} {i : Nat} (hm : m ≤ 4) (hi : i < n) {Ls : List (List (List Int))} {L : List (List Int)} (h : LkOk n m L) (h' : ∀ M ∈ Ls, LkOk n m M) : com (L :: Ls) i = pin (Ls.foldl both L) i := by
  rw [pin_foldl hi h h']
  unfold com
  have hp := pin_mem (L := L) (i := i) (by rw [h.len]; exact hi)
  refine rising_unique ((rng_lt 4).filter _) ((h.up _ hp).filter _) fun d => ?_
  rw [List.mem_filter, List.mem_filter, List.all_cons, Bool.and_eq_true, decide_eq_true_eq]
  constructor
  · rintro ⟨_, h1, h2⟩
    exact ⟨h1, h2⟩
  · rintro ⟨h1, h2⟩
    have := h.rg _ hp d h1
    exact ⟨mem_rng this.1 (by omega), h1, h2⟩
/-- by its pins -/
theorem by_pins (L : List (List Int)) : (List.range L.length).map (pin L) = L := by
  apply List.ext_getElem
  · rw [List.length_map, List.length_range]
  · intro i h1 h2
    rw [List.getElem_map, List.getElem_range]
    unfold pin
    rw [List.getD_eq_getElem?_getD, List.getElem?_eq_getElem h2]
    rfl
/-! the first of all -/
def fE {α β : Type} (E : List α → α → Option β) : List α → List α → Option β
  | _, [] => none
  | done, x :: r => match E done x with
    | some v => some v
    | none => fE E (done ++ [x]) r
theorem fE_some {α β : Type} {E : List α → α → Option β} {done r : List α} {x : α} {v : β} (q : E done x = some v) : fE E done (x :: r) = some v := by
  unfold fE
  rw [q]
theorem fE_next {α β : Type} {E : List α → α → Option β} {done r : List α} {x : α} (q : E done x = none) : fE E done (x :: r) = fE E (done ++ [x]) r := by
  rw [fE, q]
theorem fE_none {α β : Type} {E : List α → α → Option β} : ∀ {done xs : List α}, fE E done xs = none ↔ ∀ (a b : List α) (x : α), xs = a ++ x :: b → E (done ++ a) x = none
  | done, [] => by
    refine ⟨fun _ a b x h => ?_, fun _ => rfl⟩
    cases a <;> cases h
  | done, y :: r => by
    show (match E done y with
      | some v => some v
      | none => fE E (done ++ [y]) r) = none ↔ _
    cases q : E done y with
    | some v =>
      refine ⟨fun h => (by cases h), fun h => ?_⟩
      have := h [] r y rfl
      rw [List.append_nil, q] at this
      cases this
    | none =>
      show fE E (done ++ [y]) r = none ↔ _
      rw [fE_none (done := done ++ [y]) (xs := r)]
      constructor
      · intro h a b x e
        cases a with
        | nil =>
          injection e with e1 e2
          subst e1
          rw [List.append_nil]
          exact q
        | cons z a =>
          injection e with e1 e2
          subst e1
          have := h a b x e2
          rwa [List.append_assoc] at this
      · intro h a b x e
        have := h (y :: a) b x (by rw [e]; rfl)
        rw [List.append_assoc]
        exact this
theorem fE_congr {α β : Type} {E E' : List α → α → Option β} : ∀ {done xs : List α}, (∀ (a b : List α) (x : α), xs = a ++ x :: b → E (done ++ a) x = E' (done ++ a) x) → fE E done xs = fE E' done xs
  | done, [], _ => rfl
  | done, y :: r, h => by
    have h0 := h [] r y rfl
    rw [List.append_nil] at h0
    show (match E done y with
      | some v => some v
      | none => fE E (done ++ [y]) r) = match E' done y with
      | some v => some v
      | none => fE E' (done ++ [y]) r
    rw [h0, fE_congr (E := E) (E' := E') (done := done ++ [y]) (xs := r) fun a b x e => by
      have := h (y :: a) b x (by rw [e]; rfl)
      rw [List.append_assoc]
      exact this]
/-- a loop that may answer -/
theorem for_first {α : Type} {g : MG} {b : MS'} {f : α → D} {S : List α → En → Prop} {E : List α → α → Option R} : ∀ {xs done : List α} {ρ : En}, S done ρ →
    (∀ (a c : List α) (x : α) (ρ : En), xs = a ++ x :: c → S (done ++ a) ρ → ∃ o ρ2, bnd (g (f x) ρ) b = some (o, ρ2) ∧ match E (done ++ a) x with
      | some r => o = .rt r
      | none => o = .nx ∧ S (done ++ a ++ [x]) ρ2) →
    ∃ ρ', match fE E done xs with
      | some r => forGo g b (xs.map f) ρ = some (.rt r, ρ')
      | none => forGo g b (xs.map f) ρ = some (.nx, ρ') ∧ S (done ++ xs) ρ'
  | [], done, ρ, h, _ => ⟨ρ, rfl, by rw [List.append_nil]; exact h⟩
  | x :: r, done, ρ, h, hs => by
    obtain ⟨o, ρ2, e, k⟩ := hs [] r x ρ rfl (by rw [List.append_nil]; exact h)
    rw [List.append_nil] at k
    rw [List.map_cons]
    cases q : E done x with
    | some v =>
      rw [q] at k
      have k : o = .rt v := k
      subst k
      rw [fE_some q]
      refine ⟨ρ2, ?_⟩
      show forGo g b (f x :: r.map f) ρ = some (.rt v, ρ2)
      rw [for_ret e]
      rfl
    | none =>
      rw [q] at k
      obtain ⟨rfl, k⟩ := k
      have ih := for_first (xs := r) (done := done ++ [x]) (ρ := ρ2) (E := E) (S := S) (f := f) (g := g) (b := b) k fun a c y ρ3 e3 s3 => by
        have := hs (x :: a) c y ρ3 (by rw [e3]; rfl) (by rw [List.append_assoc] at s3; exact s3)
        rw [List.append_assoc]
        exact this
      obtain ⟨ρ', ih⟩ := ih
      refine ⟨ρ', ?_⟩
      have st : forGo g b (f x :: r.map f) ρ = forGo g b (r.map f) ρ2 := for_step e
      rw [fE_next q, st]
      rw [List.append_assoc] at ih
      exact ih
end Law
/-! comprehensions over images that go on from any list; those that draw and keep items -/
namespace Law
open PySem PySem.Spec PyProof.Rows L2 Mi
set_option maxRecDepth 100000
set_option maxHeartbeats 1000000
theorem lc_fmA {α : Type} {g : MG} {t : MB} {el : MR} {vs : List Nat} {ρ : En} {f : α → D} {h : α → Option D} : ∀ (xs : List α) (acc : List D), acc.length + xs.length ≤ 900000 → (∀ x ∈ xs, lcTurn g t el vs (f x) ρ = some (h x, ρ)) → lcGo g t el vs (xs.map f) ρ acc = some (acc ++ xs.filterMap h, ρ)
  | [], acc, _, _ => by simp [lcGo]
  | x :: r, acc, hl, hs => by
    rw [List.length_cons] at hl
    rw [List.map_cons, lcGo_cons, hs x List.mem_cons_self, bnd_some, List.filterMap_cons]
    have hr := fun y hy => hs y (List.mem_cons_of_mem _ hy)
    cases q : h x with
    | none =>
      show lcGo g t el vs (r.map f) ρ acc = _
      rw [lc_fmA r acc (by omega) hr]
    | some y =>
      show (if acc.length < lim then _ else none) = _
      rw [if_pos (show acc.length < 1000000 by omega), lc_fmA r (acc ++ [y]) (by rw [List.length_append, List.length_singleton]; omega) hr, List.append_assoc]
      rfl
theorem lc_mapA {α : Type} {g : MG} {t : MB} {el : MR} {vs : List Nat} {ρ : En} {f h : α → D} (xs : List α) (acc : List D) (hl : acc.length + xs.length ≤ 900000) (hs : ∀ x ∈ xs, lcTurn g t el vs (f x) ρ = some (some (h x), ρ)) : lcGo g t el vs (xs.map f) ρ acc = some (acc ++ xs.map h, ρ) := by
  rw [lc_fmA (h := fun x => some (h x)) xs acc hl hs, fm_map]
/-- one that may draw: it keeps some items, those that it must -/
theorem lc_sub {α : Type} {g : MG} {t : MB} {el : MR} {vs : List Nat} {f h : α → D} (I : En → Prop) (must : α → Prop) : ∀ (xs : List α) (ρ : En) (acc : List D), acc.length + xs.length ≤ 900000 → I ρ →
    (∀ x ∈ xs, ∀ ρ, I ρ → ∃ o ρ', lcTurn g t el vs (f x) ρ = some (o, ρ') ∧ I ρ' ∧ (o = some (h x) ∨ (o = none ∧ ¬ must x))) →
    ∃ (ys : List α) (ρ' : En), lcGo g t el vs (xs.map f) ρ acc = some (acc ++ ys.map h, ρ') ∧ I ρ' ∧ ys.Sublist xs ∧ ∀ x ∈ xs, must x → x ∈ ys
  | [], ρ, acc, _, hI, _ => ⟨[], ρ, by simp [lcGo], hI, List.Sublist.refl _, fun x hx => by cases hx⟩
  | x :: r, ρ, acc, hl, hI, hs => by
    rw [List.length_cons] at hl
    obtain ⟨o, ρ1, e1, I1, ho⟩ := hs x List.mem_cons_self ρ hI
    have hr := fun y hy => hs y (List.mem_cons_of_mem _ hy)
    rw [List.map_cons, lcGo_cons, e1, bnd_some]
    rcases ho with rfl | ⟨rfl, hm⟩
    · obtain ⟨ys, ρ', e2, I2, s2, m2⟩ := lc_sub I must r ρ1 (acc ++ [h x]) (by rw [List.length_append, List.length_singleton]; omega) I1 hr
      refine ⟨x :: ys, ρ', ?_, I2, s2.cons₂ x, fun y hy hm => ?_⟩
      · show (if acc.length < lim then _ else none) = _
        rw [if_pos (show acc.length < 1000000 by omega), e2, List.append_assoc]
        rfl
      · rcases List.mem_cons.mp hy with rfl | hy
        · exact List.mem_cons_self
        · exact List.mem_cons_of_mem _ (m2 y hy hm)
    · obtain ⟨ys, ρ', e2, I2, s2, m2⟩ := lc_sub I must r ρ1 acc (by omega) I1 hr
      refine ⟨ys, ρ', e2, I2, s2.cons x, fun y hy hm' => ?_⟩
      rcases List.mem_cons.mp hy with rfl | hy
      · exact absurd hm' hm
      · exact m2 y hy hm'
end Law
/-! k62: what the program's functions give -/
namespace Law
open PySem PySem.Spec PyProof.Rows L2 Mi
set_option maxRecDepth 100000
set_option maxHeartbeats 2000000
theorem anyD'_int (d : Int) (p : List Int) : anyD' (.int d) (p.map .int) = some (decide (d ∈ p)) := inD_ints d p
theorem inX_key (d : Int) (p : List Int) : inXD (.int d) (keyD p) = some (decide (d ∈ p)) := inD_ints d p
@[simp] theorem lenD_key (k : List Int) : lenD (keyD k) = some (.sh (.int k.length)) := by
  show some (R.sh (.int ((k.map PyData.int).length : Nat))) = _
  rw [List.length_map]
@[simp] theorem lenD_lock (L : List (List Int)) : lenD (lockD L) = some (.sh (.int L.length)) := by
  show some (R.sh (.int ((L.map keyD).length : Nat))) = _
  rw [List.length_map]
@[simp] theorem itemsD_key (k : List Int) : itemsD (keyD k) = some (k.map .int) := (rfl)
@[simp] theorem itemsD_lock (L : List (List Int)) : itemsD (lockD L) = some (L.map keyD) := (rfl)
theorem ixD_key (k : List Int) (i : Int) : ixD (keyD k) (.int i) = (atI (k.map .int) i).map .sh := rfl
theorem ixD_lock (L : List (List Int)) (i : Int) : ixD (lockD L) (.int i) = (atI (L.map keyD) i).map .sh := rfl
@[simp] theorem zip2D_kl (k : List Int) (L : List (List Int)) : zip2D [keyD k, lockD L] = some (zipL (k.map .int) (L.map keyD)) := (rfl)
@[simp] theorem zip2D_kk (k k' : List Int) : zip2D [keyD k, keyD k'] = some (zipL (k.map .int) (k'.map .int)) := (rfl)
@[simp] theorem zip2D_ll (k L : List (List Int)) : zip2D [lockD k, lockD L] = some (zipL (k.map keyD) (L.map keyD)) := (rfl)
theorem tupleD_key (k : List Int) : tupleD (.list (k.map .int)) = some (.sh (keyD k)) := rfl
theorem tupleD_lock (k : List (List Int)) : tupleD (.list (k.map keyD)) = some (.sh (lockD k)) := rfl
theorem zipL_map {α β : Type} (f : α → D) (g : β → D) : ∀ (as : List α) (bs : List β), zipL (as.map f) (bs.map g) = (as.zip bs).map fun q => .tuple [f q.1, g q.2]
  | [], _ => rfl
  | _ :: _, [] => rfl
  | a :: as, b :: bs => by
    rw [List.map_cons, List.map_cons, List.zip_cons_cons, List.map_cons, ← zipL_map f g as bs]
    rfl
theorem fits_zip : ∀ {k : List Int} {L : List (List Int)}, k.length = L.length → fits k L = ((k.zip L).map fun q => decide (q.1 ∈ q.2)).all id
  | [], [], _ => rfl
  | x :: k, p :: L, h => by
    rw [List.zip_cons_cons, List.map_cons, List.all_cons, ← fits_zip (by simpa using h)]
    rfl
theorem opens_ok {k : List Int} {L : List (List Int)} (h : k.length = L.length) (hl : k.length ≤ 100) : phi_opens [keyD k, lockD L] = some (.sh (.bool (fits k L))) := by
  obtain ⟨bs, hbs⟩ : ∃ bs, bs = ((k.zip L).map fun q => decide (q.1 ∈ q.2)) := ⟨_, rfl⟩
  have e : lcGo (gTp 2 (gCons' (gNm 2) (gCons' (gNm 3) gNil'))) mYes l_opens_1 [2, 3] (zipL (k.map .int) (L.map keyD)) [.sh (keyD k), .sh (lockD L), .no, .no] [] = some (bs.map .bool, [.sh (keyD k), .sh (lockD L), .no, .no]) := by
    rw [zipL_map, hbs, List.map_map, lc_map (h := fun q => .bool (decide (q.1 ∈ q.2))) (by rw [List.length_zip]; omega) fun q _ => by
      unfold l_opens_1
      simp [inX_key]]
    rfl
  unfold phi_opens
  rw [runN_eq (by rfl)]
  unfold m_opens
  rw [fits_zip h, ← hbs]
  simp [h, e]
theorem ext_length (rows : List (List Int)) (p : List Int) : (ext rows p).length = rows.length * p.length := by
  induction rows with
  | nil => simp [ext]
  | cons r rows ih => rw [ext_cons, List.length_append, List.length_map, ih, List.length_cons, Nat.add_mul]; omega
theorem sub_rng {m : Int} {p : List Int} (hp : p.Pairwise (· < ·)) (hr : ∀ d ∈ p, 0 ≤ d ∧ d < m) : p.length ≤ m.toNat := by
  rw [← rng_filter hp hr, ← rng_len]
  exact List.length_filter_le _ _
end Law

/-! k62: what two locks have in common, the master key -/
namespace Law
open PySem PySem.Spec PyProof.Rows L2 Mi
set_option maxRecDepth 100000
set_option maxHeartbeats 2000000
theorem fE_of_some {α β : Type} {E : List α → α → Option β} {v : β} : ∀ {xs done : List α}, fE E done xs = some v → ∃ a b x, xs = a ++ x :: b ∧ E (done ++ a) x = some v
  | [], done, h => by cases h
  | y :: r, done, h => by
    cases q : E done y with
    | some w =>
      rw [fE_some q] at h
      cases h
      exact ⟨[], r, y, rfl, by rw [List.append_nil]; exact q⟩
    | none =>
      rw [fE_next q] at h
      obtain ⟨a, b, x, e1, e2⟩ := fE_of_some h
      exact ⟨y :: a, b, x, by rw [e1]; rfl, by rw [List.append_assoc] at e2; exact e2⟩
end Law

/-! k62: clashes, cuts, the lock for keys -/
namespace Law
open PySem PySem.Spec PyProof.Rows L2 Mi
set_option maxRecDepth 100000
set_option maxHeartbeats 2000000
theorem range_split {n : Nat} {a c : List Nat} {x : Nat} (e : List.range n = a ++ x :: c) : a = List.range x ∧ x < n := by
  have hl := congrArg List.length e
  rw [List.length_range, List.length_append, List.length_cons] at hl
  have hx : (List.range n)[a.length]? = some x := by rw [e, List.getElem?_append_right (Nat.le_refl _), Nat.sub_self]; rfl
  rw [List.getElem?_range (by omega)] at hx
  have hx : a.length = x := Option.some.inj hx
  refine ⟨?_, by omega⟩
  have ht := congrArg (List.take a.length) e
  rw [List.take_left', hx] at ht
  · rw [← ht]
    apply List.ext_getElem?
    intro i
    rw [List.getElem?_take]
    by_cases hi : i < x
    · rw [if_pos hi, List.getElem?_range (by omega), List.getElem?_range hi]
    · rw [if_neg hi, List.getElem?_eq_none (by rw [List.length_range]; omega)]
  · rfl
theorem enum_at {α : Type} (f : α → D) (dflt : α) : ∀ (xs : List α) (n : Nat), enumL (n : Int) (xs.map f) = (List.range' n xs.length).map fun a : Nat => .tuple [.int (a : Int), f (xs.getD (a - n) dflt)]
  | [], _ => rfl
  | x :: xs, n => by
    rw [List.map_cons, List.length_cons, List.range'_succ, List.map_cons]
    show PyData.tuple [.int n, f x] :: enumL ((n : Int) + 1) (xs.map f) = _
    have e : ((n : Int) + 1) = ((n + 1 : Nat) : Int) := by omega
    rw [e, enum_at f dflt xs (n + 1)]
    congr 1
    · rw [Nat.sub_self]; rfl
    · apply List.map_congr_left
      intro a ha
      have ha := List.mem_range'_1.mp ha
      have : a - n = (a - (n + 1)) + 1 := by omega
      rw [this]
      rfl
theorem ix_pin {L : List (List Int)} {i : Nat} (h : i < L.length) : ixD (lockD L) (.int (i : Int)) = some (.sh (keyD (pin L i))) := by
  rw [ixD_lock, atI_nat', List.getElem?_map, List.getElem?_eq_getElem h]
  unfold pin
  rw [List.getD_eq_getElem?_getD, List.getElem?_eq_getElem h]
  rfl
end Law

/-! k62: cuts, the lock for keys; the law's reading of the same -/
namespace Law
open PySem PySem.Spec PyProof.Rows L2 Mi
open PySem.W (dataLe)
set_option maxRecDepth 100000
set_option maxHeartbeats 2000000
theorem all2_iff {α : Type} {P : α → Int → Bool} {z : α} : ∀ {as : List α} {g : List Int}, as.length = g.length → (all2 (as.map P) g = true ↔ ∀ i, i < as.length → P (as.getD i z) (g.getD i 0) = true)
  | [], [], _ => by simp [all2]
  | a :: as, x :: g, h => by
    show (P a x && all2 (as.map P) g) = true ↔ _
    rw [Bool.and_eq_true, all2_iff (z := z) (by simpa using h)]
    constructor
    · rintro ⟨h1, h2⟩ i hi
      cases i with
      | zero => exact h1
      | succ i => exact h2 i (by simpa using hi)
    · intro h
      exact ⟨h 0 (by simp), fun i hi => h (i + 1) (by simpa using hi)⟩
theorem bad_iff {α : Type} {P : α → Int → Bool} {z : α} {as : List α} {g : List Int} (h : as.length = g.length) : decide (((List.range as.length).filter fun i => !P (as.getD i z) (g.getD i 0)) = []) = all2 (as.map P) g := by
  rw [Bool.eq_iff_iff, decide_eq_true_eq, all2_iff (z := z) h, List.filter_eq_nil_iff]
  constructor
  · intro k i hi
    have := k i (List.mem_range.mpr hi)
    simpa using this
  · intro k i hi
    have := k i (List.mem_range.mp hi)
    simp only [this]
    decide
theorem rangeD_nats (n : Nat) : rangeD 0 (n : Int) = (List.range n).map fun i : Nat => .int (i : Int) := by
  rw [← rangeD_0]
theorem keep_nats {g : MG} {t : MB} {el : MR} {vs : List Nat} {ρ : En} {n : Nat} (p : Nat → Bool) (hl : n ≤ 1000) (hs : ∀ i, i < n → lcTurn g t el vs (.int (i : Int)) ρ = some (if p i = true then some (.int (i : Int)) else none, ρ)) :
    lcGo g t el vs (rangeD 0 (n : Int)) ρ [] = some (((List.range n).filter p).map fun i : Nat => .int (i : Int), ρ) := by
  rw [rangeD_nats, lc_fm (h := fun i : Nat => if p i = true then some (.int (i : Int)) else none) (by rw [List.length_range]; omega) fun i hi => hs i (List.mem_range.mp hi)]
  congr 2
  induction List.range n with
  | nil => rfl
  | cons x r ih =>
    rw [List.filterMap_cons, List.filter_cons]
    by_cases h : p x = true
    · rw [if_pos h, if_pos h, List.map_cons, ih]
    · rw [if_neg h, if_neg h, ih]
theorem natsNil (xs : List Nat) : eqD (.list (xs.map fun i : Nat => .int (i : Int))) (.list []) = some (decide (xs = [])) := by
  cases xs with
  | nil => exact eqD_nil
  | cons x r =>
    have := shaped_ints (((x :: r).map fun i : Nat => (i : Int)))
    rw [List.map_map] at this
    have this : SeqAt.shaped (.list (.int (x : Int) :: r.map fun i : Nat => .int (i : Int))) = true := this
    rw [List.map_cons, eqD_cons this]
    rfl
theorem ix_key {k : List Int} {i : Nat} (h : i < k.length) : ixD (keyD k) (.int (i : Int)) = some (.sh (.int (k.getD i 0))) := by
  rw [ixD_key, atI_nat', List.getElem?_map, List.getElem?_eq_getElem h, List.getD_eq_getElem?_getD, List.getElem?_eq_getElem h]
  rfl
theorem fits_law {k : List Int} {L : List (List Int)} (h : k.length = L.length) (hl : k.length ≤ 100) : phi_law_fits [keyD k, lockD L] = some (.sh (.bool (fits k L))) := by
  have e : lcGo (gNm 2) t_law_fits_1 l_law_fits_1 [2] (rangeD 0 (k.length : Int)) [.sh (keyD k), .sh (lockD L), .no] [] = some (((List.range k.length).filter fun i => !decide (k.getD i 0 ∈ pin L i)).map fun i : Nat => .int (i : Int), [.sh (keyD k), .sh (lockD L), .no]) :=
    keep_nats _ (by omega) fun i hi => by
      have e1 := ix_key hi
      have e2 := ix_pin (L := L) (i := i) (by omega)
      unfold t_law_fits_1 l_law_fits_1
      generalize k.getD i 0 = x at *
      generalize pin L i = p at *
      by_cases hd : x ∈ p <;> simp [e1, e2, inX_key, hd]
  have e2 := bad_iff (P := fun (p : List Int) d => decide (d ∈ p)) (z := []) (as := L) (g := k) h.symm
  have e3 := natsNil ((List.range k.length).filter fun i => !decide (k.getD i 0 ∈ pin L i))
  have z : i62 (k.length : Int) = true := i62_of (by omega) (by omega)
  have e4 : decide (((List.range k.length).filter fun i => !decide (k.getD i 0 ∈ pin L i)) = []) = fits k L := by
    unfold fits
    rw [← e2, h]
    rfl
  rw [e4] at e3
  generalize ((List.range k.length).filter fun i => !decide (k.getD i 0 ∈ pin L i)).map (fun i : Nat => PyData.int (i : Int)) = ds at e e3
  unfold phi_law_fits
  rw [runN_eq (by rfl)]
  unfold m_law_fits
  simp [z, e, e3]
/-! cuts -/
end Law

/-! k62: the lock for keys; what the law reckons -/
namespace Law
open PySem PySem.Spec PyProof.Rows L2 Mi
open PySem.W (dataLe)
set_option maxRecDepth 100000
set_option maxHeartbeats 2000000
theorem keep_by {α : Type} {g : MG} {t : MB} {el : MR} {vs : List Nat} {ρ : En} {f : α → D} {xs : List α} (p : α → Bool) (hl : xs.length ≤ 1000) (hs : ∀ x ∈ xs, lcTurn g t el vs (f x) ρ = some (if p x = true then some (f x) else none, ρ)) :
    lcGo g t el vs (xs.map f) ρ [] = some ((xs.filter p).map f, ρ) := by
  rw [lc_fm (h := fun x => if p x = true then some (f x) else none) (by omega) hs]
  congr 2
  clear hs hl
  induction xs with
  | nil => rfl
  | cons x r ih =>
    rw [List.filterMap_cons, List.filter_cons]
    by_cases h : p x = true
    · rw [if_pos h, if_pos h, List.map_cons, ih]
    · rw [if_neg h, if_neg h, ih]
theorem shaped_list {α : Type} {f : α → D} {xs : List α} (h : ∀ x, (f x).canLay0 = true ∧ (f x).depth ≤ 20) : SeqAt.shaped (.list (xs.map f)) = true :=
  shaped_of (canLay_all fun d hd => by
    obtain ⟨p, _, rfl⟩ := List.mem_map.mp hd
    exact (h p).1) (by
    have : PyData.depthAll (xs.map f) ≤ 20 := depth_le fun d hd => by
      obtain ⟨p, _, rfl⟩ := List.mem_map.mp hd
      exact (h p).2
    show PyData.depthAll (xs.map f) + 1 ≤ 64
    omega)
theorem lay_key (k : List Int) : (keyD k).canLay0 = true ∧ (keyD k).depth ≤ 1 := ⟨canLay_all fun d hd => by
  obtain ⟨p, _, rfl⟩ := List.mem_map.mp hd
  rfl, by
  have : PyData.depthAll (k.map PyData.int) ≤ 0 := depth_le (k := 0) fun d hd => by
    obtain ⟨i, _, rfl⟩ := List.mem_map.mp hd
    exact Nat.zero_le _
  show PyData.depthAll (k.map PyData.int) + 1 ≤ 1
  omega⟩
theorem lay_lock (L : List (List Int)) : (lockD L).canLay0 = true ∧ (lockD L).depth ≤ 2 := ⟨canLay_all fun d hd => by
  obtain ⟨p, _, rfl⟩ := List.mem_map.mp hd
  exact (lay_key p).1, by
  have : PyData.depthAll (L.map keyD) ≤ 1 := depth_le (k := 1) fun d hd => by
    obtain ⟨i, _, rfl⟩ := List.mem_map.mp hd
    exact (lay_key i).2
  show PyData.depthAll (L.map keyD) + 1 ≤ 2
  omega⟩
theorem lay_key' (k : List Int) : (keyD k).canLay0 = true ∧ (keyD k).depth ≤ 20 := ⟨(lay_key k).1, by have := (lay_key k).2; omega⟩
theorem lay_lock' (k : List (List Int)) : (lockD k).canLay0 = true ∧ (lockD k).depth ≤ 20 := ⟨(lay_lock k).1, by have := (lay_lock k).2; omega⟩
theorem isNil {α : Type} {f : α → D} (h : ∀ x, (f x).canLay0 = true ∧ (f x).depth ≤ 20) (xs : List α) : eqD (.list (xs.map f)) (.list []) = some (decide (xs = [])) := by
  cases xs with
  | nil => exact eqD_nil
  | cons x r =>
    have := shaped_list (xs := x :: r) h
    rw [List.map_cons] at this ⊢
    rw [eqD_cons this]
    rfl
theorem notNil {α : Type} {f : α → D} (h : ∀ x, (f x).canLay0 = true ∧ (f x).depth ≤ 20) (xs : List α) : neD (.list (xs.map f)) (.list []) = some (decide (xs ≠ [])) := by
  cases xs with
  | nil => exact neD_nil
  | cons x r =>
    have := shaped_list (xs := x :: r) h
    rw [List.map_cons] at this ⊢
    rw [neD_cons this]
    rfl
def colI (ks : List (List Int)) (i : Nat) : List Int := ks.map fun k => k.getD i 0
def leastP (ks : List (List Int)) (i : Nat) : List Int := (rng 4).filter fun d => decide (d ∈ colI ks i)
def leastL (n : Nat) (ks : List (List Int)) : List (List Int) := (List.range n).map (leastP ks)
theorem sort_col {c : List Int} (h : ∀ d ∈ c, 0 ≤ d ∧ d < 4) : sortI (ddI c) = (rng 4).filter fun d => decide (d ∈ c) := by
  have hd := ddI_ok c
  refine rising_unique (sortI_lt hd.1) ((rng_lt 4).filter _) fun d => ?_
  rw [sortI_mem, hd.2, List.mem_filter, decide_eq_true_eq]
  constructor
  · intro h1
    have := h d h1
    exact ⟨mem_rng this.1 this.2, h1⟩
  · exact fun h1 => h1.2
theorem dd_len : ∀ (ns acc : List Int), (ns.foldl (fun a k => if k ∈ a then a else a ++ [k]) acc).length ≤ acc.length + ns.length
  | [], acc => by simp
  | k :: ns, acc => by
    rw [List.foldl_cons, List.length_cons]
    have := dd_len ns (if k ∈ acc then acc else acc ++ [k])
    have h : (if k ∈ acc then acc else acc ++ [k]).length ≤ acc.length + 1 := by
      split
      · omega
      · rw [List.length_append, List.length_singleton]; omega
    omega
theorem key_at (k : List Int) (i : Nat) (h : i < k.length) : (k.map PyData.int).getD i .none = .int (k.getD i 0) := by
  rw [List.getD_eq_getElem?_getD, List.getD_eq_getElem?_getD, List.getElem?_map, List.getElem?_eq_getElem h]
  rfl
theorem lock_for_ok {n : Nat} {k0 : List Int} {ks : List (List Int)} (hl : ks.length ≤ 5) (hn : n ≤ 10) (h : ∀ k ∈ k0 :: ks, k.length = n ∧ ∀ d ∈ k, 0 ≤ d ∧ d < 4) : phi_lock_for [.list ((k0 :: ks).map keyD)] = some (.sh (lockD (leastL n (k0 :: ks)))) := by
  have h0 := (h k0 List.mem_cons_self).1
  have ec : starD (.list ((k0 :: ks).map keyD)) = some ((List.range n).map fun i => keyD (colI (k0 :: ks) i)) := by
    have e1 : (k0 :: ks).map keyD = ((k0 :: ks).map fun k => k.map PyData.int).map .tuple := by
      rw [List.map_map]; rfl
    rw [starD_l, e1, seqsD_tuples, bnd_some, List.map_cons, colsD_eq (by rw [List.length_map]; exact hl) (fun r hr => by
      obtain ⟨k, hk, rfl⟩ := List.mem_map.mp hr
      rw [List.length_map, List.length_map, h0, (h k (List.mem_cons_of_mem _ hk)).1]), List.length_map, h0]
    congr 1
    apply List.map_congr_left
    intro i hi
    have hi := List.mem_range.mp hi
    rw [← List.map_cons (f := fun k : List Int => k.map PyData.int), List.map_map]
    unfold keyD colI
    rw [List.map_map]
    congr 1
    apply List.map_congr_left
    intro k hk
    exact key_at k i (by rw [(h k hk).1]; exact hi)
  have hc : ∀ i, i < n → ∀ d ∈ colI (k0 :: ks) i, 0 ≤ d ∧ d < 4 := fun i hi d hd => by
    obtain ⟨k, hk, rfl⟩ := List.mem_map.mp hd
    have hkl := h k hk
    rw [List.getD_eq_getElem?_getD, List.getElem?_eq_getElem (by rw [hkl.1]; exact hi)]
    exact hkl.2 _ (List.getElem_mem _)
  generalize hD : (PyData.list ((k0 :: ks).map keyD)) = l at ec
  have e : lcGo (gNm 1) mYes l_lock_for_2 [1] ((List.range n).map fun i => keyD (colI (k0 :: ks) i)) [.sh l, .no, .no] [] = some ((leastL n (k0 :: ks)).map keyD, [.sh l, .no, .no]) := by
    rw [lc_map (h := fun i => keyD (leastP (k0 :: ks) i)) (by rw [List.length_range]; omega) fun i hi => by
      have hi := List.mem_range.mp hi
      have hci := hc i hi
      have hcl : (colI (k0 :: ks) i).length ≤ 6 := by unfold colI; rw [List.length_map, List.length_cons]; omega
      have es := sort_col hci
      unfold leastP
      rw [← es]
      generalize colI (k0 :: ks) i = c at *
      have ei : lcGo (gNm 2) mYes l_lock_for_1 [2] (c.map .int) [.sh l, .sh (keyD c), .no] [] = some (c.map .int, [.sh l, .sh (keyD c), .no]) :=
        lc_map (h := fun d : Int => .int d) (by omega) fun d _ => by
          unfold l_lock_for_1
          simp
      have hdl : (ddI c).length ≤ 0 + c.length := dd_len c []
      have z : c.length ≤ 1000 ∧ (ddI c).length < 64 := ⟨by omega, by omega⟩
      unfold l_lock_for_2
      simp [-tupleD_l, ei, tupleD_key, z.1, z.2]]
    unfold leastL
    rw [List.map_map]
    rfl
  unfold phi_lock_for
  rw [runN_eq (by rfl)]
  unfold m_lock_for
  simp [-tupleD_l, ec, e, tupleD_lock]
/-! the law's least -/
theorem least_turn {n : Nat} {ks : List (List Int)} (h : ∀ k ∈ ks, k.length = n) (hl : ks.length ≤ 10) {i : Nat} (hi : i < n) {m1 m3 : M} {done : List D} (hd : done.length ≤ 10) (h3 : Shy m3) :
    bnd (gNm 3 (.int (i : Int)) [.sh (.list (ks.map keyD)), m1, .own done, m3, .no, .no]) b_law_least_1 = some (.nx, [.sh (.list (ks.map keyD)), m1, .own (done ++ [keyD (leastP ks i)]), .sh (.int (i : Int)), .no, .no]) := by
  have e : lcGo (gNm 4) t_law_least_2 l_law_least_2 [4] (rangeD 0 4) [.sh (.list (ks.map keyD)), m1, .own done, .sh (.int (i : Int)), .no, .no] [] = some ((leastP ks i).map .int, [.sh (.list (ks.map keyD)), m1, .own done, .sh (.int (i : Int)), .no, .no]) := by
    rw [rangeD_rng]
    refine keep_ints (fun d => decide (d ∈ colI ks i)) (by rw [rng_len]; decide) fun d _ => ?_
    have ei : lcGo (gNm 5) t_law_least_1 l_law_least_1 [5] (ks.map keyD) [.sh (.list (ks.map keyD)), m1, .own done, .sh (.int (i : Int)), .sh (.int d), .no] [] = some ((ks.filter fun k => decide (k.getD i 0 = d)).map keyD, [.sh (.list (ks.map keyD)), m1, .own done, .sh (.int (i : Int)), .sh (.int d), .no]) :=
      keep_by _ (by omega) fun k hk => by
        have ek := ix_key (k := k) (i := i) (by rw [h k hk]; exact hi)
        generalize hD : PyData.list (ks.map keyD) = l
        unfold t_law_least_1 l_law_least_1
        generalize k.getD i 0 = x at *
        by_cases hx : x = d <;> simp [ek, hx]
    have em : (ks.filter fun k => decide (k.getD i 0 = d)) ≠ [] ↔ d ∈ colI ks i := by
      rw [Ne, List.filter_eq_nil_iff]
      unfold colI
      rw [List.mem_map]
      constructor
      · intro hx
        apply Classical.byContradiction
        intro hy
        exact hx fun k hk hz => hy ⟨k, hk, of_decide_eq_true hz⟩
      · rintro ⟨k, hk, e⟩ hz
        exact hz k hk (decide_eq_true e)
    have en : neD (.list ((ks.filter fun k => decide (k.getD i 0 = d)).map keyD)) (.list []) = some (decide (d ∈ colI ks i)) := by
      rw [notNil lay_key', decide_eq_decide.mpr em]
    clear em
    generalize (ks.filter fun k => decide (k.getD i 0 = d)).map keyD = xs at *
    have eit : itemsD (.list (ks.map keyD)) = some (ks.map keyD) := rfl
    generalize hks : ks.map keyD = kd at *
    unfold t_law_least_2 l_law_least_2
    by_cases hx : d ∈ colI ks i
    · rw [decide_eq_true hx] at en ⊢
      simp [ei, en]
    · rw [decide_eq_false hx] at en ⊢
      simp [ei, en]
  have z4 : i62 4 = true := by decide
  have zl : done.length < lim := lim_lt' (by omega)
  unfold b_law_least_1
  simp [-tupleD_l, shy_free h3, z4, e, tupleD_key, zl]
theorem law_least_ok {n : Nat} {ks : List (List Int)} (h : ∀ k ∈ ks, k.length = n) (hl : ks.length ≤ 10) (hn : n ≤ 10) : phi_law_least [.list (ks.map keyD), .int (n : Int)] = some (.sh (lockD (leastL n ks))) := by
  obtain ⟨ρ', e, m3, h3, rfl⟩ := nturns (N := n) (f := fun i : Nat => PyData.int (i : Int)) (g := gNm 3) (b := b_law_least_1) (S := fun i ρ => ∃ m3, Shy m3 ∧ ρ = [.sh (.list (ks.map keyD)), .sh (.int (n : Int)), .own (((List.range i).map (leastP ks)).map keyD), m3, .no, .no])
    (fun i ρ hi ⟨m3, h3, hρ⟩ => by
      subst hρ
      refine ⟨_, least_turn h hl hi (by rw [List.length_map, List.length_map, List.length_range]; omega) h3, .sh (.int (i : Int)), .sh _, ?_⟩
      rw [List.range_succ, List.map_append, List.map_append]
      rfl) (ρ := [.sh (.list (ks.map keyD)), .sh (.int (n : Int)), .own [], .no, .no, .no]) ⟨.no, .no, rfl⟩
  rw [← rangeD_nats] at e
  have z : i62 (n : Int) = true := i62_of (by omega) (by omega)
  have et := tupleD_lock (leastL n ks)
  unfold leastL at et ⊢
  generalize ((List.range n).map (leastP ks)).map keyD = xs at *
  generalize ks.map keyD = kd at *
  unfold phi_law_least
  rw [runN_eq (by rfl)]
  unfold m_law_least
  simp [-tupleD_l, z, e, et]
/-! all keys -/
theorem law_all_in {m0 m2 m3 : M} {m : Int} (h0 : 0 ≤ m) (hm : m ≤ 10) : ∀ {rows acc : List (List Int)} {m5 : M}, Shy m5 → acc.length + rows.length * 10 ≤ 10000 → (∀ r ∈ rows, r.length ≤ 10) →
    ∃ m5', Shy m5' ∧ forGo (gNm 5) b_law_all_1 (rows.map keyD) [m0, .sh (.int m), m2, m3, .own (acc.map keyD), m5, .no] = some (.nx, [m0, .sh (.int m), m2, m3, .own ((acc ++ ext rows (rng m)).map keyD), m5', .no])
  | [], acc, m5, h5, _, _ => ⟨m5, h5, by rw [show ext [] (rng m) = [] from rfl, List.append_nil]; rfl⟩
  | r :: rows, acc, m5, h5, hb, hr => by
    rw [List.length_cons] at hb
    have hrl := hr r List.mem_cons_self
    have hl : (rng m).length ≤ 10 := by rw [rng_len]; omega
    obtain ⟨m5', k5, e⟩ := law_all_in (m0 := m0) (m2 := m2) (m3 := m3) h0 hm (rows := rows) (acc := acc ++ (rng m).map fun d => r ++ [d]) (m5 := .sh (keyD r)) (.sh _) (by rw [List.length_append, List.length_map]; omega) fun x hx => hr x (List.mem_cons_of_mem _ hx)
    have ei : lcGo (gNm 6) mYes l_law_all_1 [6] (rangeD 0 m) [m0, .sh (.int m), m2, m3, .own (acc.map keyD), .sh (keyD r), .no] [] = some (((rng m).map fun d => r ++ [d]).map keyD, [m0, .sh (.int m), m2, m3, .own (acc.map keyD), .sh (keyD r), .no]) := by
      rw [rangeD_rng, List.map_map]
      refine lc_map (h := fun d => keyD (r ++ [d])) (by omega) fun d _ => ?_
      have hz : r.length + 1 ≤ lim := lim_of (by omega)
      have h1 : 1 ≤ lim := lim_of (by omega)
      have ea : addD (keyD r) (.tuple [.int d]) = some (.sh (keyD (r ++ [d]))) := by
        show (if (r.map PyData.int).length + 1 ≤ lim then some (R.sh (.tuple (r.map PyData.int ++ [.int d]))) else none) = _
        rw [List.length_map, if_pos hz]
        unfold keyD
        rw [List.map_append]
        rfl
      unfold l_law_all_1
      simp [ea, h1]
    refine ⟨m5', k5, ?_⟩
    have z : i62 m = true := i62_of (by omega) (by omega)
    have st : bnd (gNm 5 (keyD r) [m0, .sh (.int m), m2, m3, .own (acc.map keyD), m5, .no]) b_law_all_1 = some (.nx, [m0, .sh (.int m), m2, m3, .own ((acc ++ (rng m).map fun d => r ++ [d]).map keyD), .sh (keyD r), .no]) := by
      have zl : (acc.map keyD).length + (((rng m).map fun d => r ++ [d]).map keyD).length ≤ lim := by
        rw [List.length_map, List.length_map, List.length_map]
        show _ ≤ 1000000
        omega
      rw [List.map_append]
      generalize ((rng m).map fun d => r ++ [d]).map keyD = bs at *
      generalize acc.map keyD = as at *
      unfold b_law_all_1
      simp [shy_free h5, z, ei, zl]
    rw [List.map_cons, for_step st, e, ext_cons, List.append_assoc]
theorem every_succ (n : Nat) (m : Int) : every (n + 1) m = ext (every n m) (rng m) := by
  unfold every prod
  rw [List.replicate_succ', List.foldl_append]
  rfl
theorem every_len {n : Nat} {m : Int} {k : List Int} (h : k ∈ every n m) : k.length = n := by
  have := prod_len h
  rwa [List.length_replicate] at this
theorem every_size (n : Nat) (m : Int) : (every n m).length = m.toNat ^ n := by
  induction n with
  | zero => rfl
  | succ n ih => rw [every_succ, ext_length, ih, rng_len, Nat.pow_succ]
theorem law_all_ok {n : Nat} {m : Int} (h0 : 0 ≤ m) (hm : m ≤ 4) (hn : n ≤ 3) : phi_law_all [.int ((n + 1 : Nat) : Int), .int m] = some (.sh (.list ((every (n + 1) m).map keyD))) := by
  obtain ⟨ρ', e, m0', m2, m3, m4, m5, hρ, h2, h3, h4, h5⟩ := nturns (N := n + 1) (f := fun i : Nat => PyData.int (i : Int)) (g := gNm 3) (b := b_law_all_2) (S := fun i ρ => ∃ m0 m2 m3 m4 m5, ρ = [m0, .sh (.int m), m2, m3, m4, m5, .no] ∧ (m2 = .sh (.list ((every i m).map keyD)) ∨ (m2 = .own ((every i m).map keyD) ∧ i = 0)) ∧ Shy m3 ∧ Shy m4 ∧ Shy m5)
    (fun i ρ hi ⟨m0, m2, m3, m4, m5, hρ, h2, h3, h4, h5⟩ => by
      subst hρ
      have hs : (every i m).length ≤ 256 := by
        rw [every_size]
        have a : m.toNat ^ i ≤ 4 ^ i := Nat.pow_le_pow_left (by omega) i
        have b : 4 ^ i ≤ 4 ^ 4 := Nat.pow_le_pow_right (by omega) (by omega)
        omega
      obtain ⟨m5', k5, ei⟩ := law_all_in (m0 := m0) (m2 := .sh (.list ((every i m).map keyD))) (m3 := .sh (.int (i : Int))) h0 (show m ≤ 10 by omega) (rows := every i m) (acc := []) (m5 := m5) h5 (by rw [List.length_nil]; omega) fun r hr => by rw [every_len hr]; omega
      rw [List.nil_append, ← every_succ] at ei
      have ei : forGo (gNm 5) b_law_all_1 ((every i m).map keyD) [m0, .sh (.int m), .sh (.list ((every i m).map keyD)), .sh (.int (i : Int)), .own [], m5, .no] = some (.nx, [m0, .sh (.int m), .sh (.list ((every i m).map keyD)), .sh (.int (i : Int)), .own ((every (i + 1) m).map keyD), m5', .no]) := ei
      have eit : itemsD (.list ((every i m).map keyD)) = some ((every i m).map keyD) := rfl
      refine ⟨[m0, .sh (.int m), .sh (.list ((every (i + 1) m).map keyD)), .sh (.int (i : Int)), .sh (.list ((every (i + 1) m).map keyD)), m5', .no], ?_, _, _, _, _, _, rfl, .inl rfl, .sh _, .sh _, k5⟩
      unfold b_law_all_2
      generalize (every (i + 1) m).map keyD = B at *
      rcases h2 with rfl | ⟨rfl, hi0⟩
      · generalize (every i m).map keyD = A at *
        simp [shy_free h3, shy_free h4, ei]
      · generalize (every i m).map keyD = A at *
        simp [shy_free h3, shy_free h4, ei])
    (ρ := [.sh (.int ((n + 1 : Nat) : Int)), .sh (.int m), .own [.tuple []], .no, .no, .no, .no]) ⟨_, _, _, _, _, rfl, .inr ⟨rfl, rfl⟩, .no, .no, .no⟩
  subst hρ
  rcases h2 with rfl | ⟨_, h⟩
  · rw [← rangeD_nats] at e
    have z : i62 ((n + 1 : Nat) : Int) = true := i62_of (by omega) (by omega)
    have z0 : 0 ≤ lim := Nat.zero_le _
    have z1 : 1 ≤ lim := lim_of (by omega)
    generalize (every (n + 1) m).map keyD = B at *
    generalize ((n + 1 : Nat) : Int) = nn at *
    unfold phi_law_all
    rw [runN_eq (by rfl)]
    unfold m_law_all
    simp [z, e, z0, z1]
  · cases h
end Law
/-! k62: what is drawn: keys, locks -/
namespace Law
open PySem PySem.Spec PyProof.Rows L2 Mi
set_option maxRecDepth 100000
set_option maxHeartbeats 2000000
theorem lc_draw {β : Type} {g : MG} {t : MB} {el : MR} {vs : List Nat} (f : β → D) (Q : β → Prop) (I : En → Prop) : ∀ (ds : List D) (ρ : En) (acc : List D), acc.length + ds.length ≤ 900000 → I ρ →
    (∀ d ∈ ds, ∀ ρ, I ρ → ∃ y ρ', lcTurn g t el vs d ρ = some (some (f y), ρ') ∧ I ρ' ∧ Q y) →
    ∃ (ys : List β) (ρ' : En), lcGo g t el vs ds ρ acc = some (acc ++ ys.map f, ρ') ∧ I ρ' ∧ ys.length = ds.length ∧ ∀ y ∈ ys, Q y
  | [], ρ, acc, _, hI, _ => ⟨[], ρ, by simp [lcGo], hI, rfl, fun x hx => by cases hx⟩
  | d :: r, ρ, acc, hl, hI, hs => by
    rw [List.length_cons] at hl
    obtain ⟨y, ρ1, e1, I1, q1⟩ := hs d List.mem_cons_self ρ hI
    obtain ⟨ys, ρ', e2, I2, l2, q2⟩ := lc_draw f Q I r ρ1 (acc ++ [f y]) (by rw [List.length_append, List.length_singleton]; omega) I1 fun z hz => hs z (List.mem_cons_of_mem _ hz)
    refine ⟨y :: ys, ρ', ?_, I2, by rw [List.length_cons, List.length_cons, l2], fun z hz => ?_⟩
    · rw [lcGo_cons, e1, bnd_some]
      show (if acc.length < lim then _ else none) = _
      rw [if_pos (show acc.length < 1000000 by omega), e2, List.append_assoc]
      rfl
    · rcases List.mem_cons.mp hz with rfl | hz
      · exact q1
      · exact q2 z hz
/-- a comprehension that keeps items, the slots as they may be -/
theorem keep_in {α : Type} {g : MG} {t : MB} {el : MR} {vs : List Nat} {f : α → D} (I : En → Prop) (p : α → Bool) : ∀ (xs : List α) (ρ : En) (acc : List D), acc.length + xs.length ≤ 900000 → I ρ →
    (∀ x ∈ xs, ∀ ρ, I ρ → ∃ ρ', lcTurn g t el vs (f x) ρ = some (if p x = true then some (f x) else none, ρ') ∧ I ρ') →
    ∃ ρ', lcGo g t el vs (xs.map f) ρ acc = some (acc ++ (xs.filter p).map f, ρ') ∧ I ρ'
  | [], ρ, acc, _, hI, _ => ⟨ρ, by simp [lcGo], hI⟩
  | x :: r, ρ, acc, hl, hI, hs => by
    rw [List.length_cons] at hl
    obtain ⟨ρ1, e1, I1⟩ := hs x List.mem_cons_self ρ hI
    have hr := fun y hy => hs y (List.mem_cons_of_mem _ hy)
    rw [List.map_cons, lcGo_cons, e1, bnd_some, List.filter_cons]
    by_cases h : p x = true
    · obtain ⟨ρ', e2, I2⟩ := keep_in I p r ρ1 (acc ++ [f x]) (by rw [List.length_append, List.length_singleton]; omega) I1 hr
      refine ⟨ρ', ?_, I2⟩
      simp only [if_pos h]
      show (if acc.length < lim then _ else none) = _
      rw [if_pos (show acc.length < 1000000 by omega), e2, List.append_assoc]
      rfl
    · obtain ⟨ρ', e2, I2⟩ := keep_in I p r ρ1 acc (by omega) I1 hr
      refine ⟨ρ', ?_, I2⟩
      simp only [if_neg h]
      exact e2
theorem law_key_ok {ws : List D} {n : Nat} {m : Int} (b : BoxOk ws) (hm : 0 < m) (hn : n ≤ 10) : ∃ k ws', phi_law_key ws [.int (n : Int), .int m] = some (.sh (keyD k), ws') ∧ BoxOk ws' ∧ k.length = n ∧ ∀ d ∈ k, 0 ≤ d ∧ d < m := by
  obtain ⟨k, ρ', e, ⟨ws', hρ, b'⟩, hl, hq⟩ := lc_draw (g := gNm 3) (t := mYes) (el := l_law_key_1) (vs := [3]) PyData.int (fun d => 0 ≤ d ∧ d < m) (fun ρ => ∃ ws, ρ = [.io ws, .sh (.int (n : Int)), .sh (.int m), .no] ∧ BoxOk ws) (rangeD 0 (n : Int)) [.io ws, .sh (.int (n : Int)), .sh (.int m), .no] [] (by rw [rangeD_len]; simp; omega) ⟨ws, rfl, b⟩
    fun d hd ρ ⟨w, hρ, bw⟩ => by
      subst hρ
      obtain ⟨r, w2, e, b2, r0, r1⟩ := draw_ok bw hm
      refine ⟨r, [.io w2, .sh (.int (n : Int)), .sh (.int m), .no], ?_, ⟨w2, rfl, b2⟩, r0, r1⟩
      unfold l_law_key_1
      simp [e]
  subst hρ
  rw [rangeD_len] at hl
  have z : i62 (n : Int) = true := i62_of (by omega) (by omega)
  refine ⟨k, ws', ?_, b', by simpa using hl, hq⟩
  rw [List.nil_append] at e
  unfold phi_law_key
  rw [runIO_eq (by rfl)]
  unfold m_law_key
  simp [-tupleD_l, z, e, tupleD_key]
theorem pick_ints {ws : List D} {row : List Int} (b : BoxOk ws) (h : row ≠ []) : ∃ x ws', phi_law_pick ws [.list (row.map .int)] = some (.sh (.int x), ws') ∧ BoxOk ws' ∧ x ∈ row := by
  obtain ⟨d, ws', e, b', m⟩ := pick_ok (row := row.map PyData.int) b (by simpa using h)
  obtain ⟨x, hx, rfl⟩ := List.mem_map.mp m
  exact ⟨x, ws', e, b', hx⟩
/-! pins grown so that a key opens -/
end Law

/-! k62: the law about some locks -/
namespace Law
open PySem PySem.Spec PyProof.Rows L2 Mi
set_option maxRecDepth 100000
set_option maxHeartbeats 4000000
theorem same_key {k : List Int} (hl : k.length ≤ 900) (h : ∀ d ∈ k, 0 ≤ d ∧ d < 10000) : phi_law_same 12 [keyD k, keyD k] = some (.sh (.bool true)) := same_ok 11 _ ⟨by
  rw [List.length_map]
  show _ ≤ 1000000
  omega, plain_ints k, fun d hd => by
  obtain ⟨i, hi, rfl⟩ := List.mem_map.mp hd
  have := h i hi
  exact i64_of (by omega) (by omega)⟩
theorem ok_key {n : Nat} {k : List Int} (hl : k.length ≤ 900) (h : ∀ d ∈ k, 0 ≤ d ∧ d < 10000) : okD (n + 1) (keyD k) := ⟨by
  rw [List.length_map]
  show _ ≤ 1000000
  omega, plain_ints k, fun d hd => by
  obtain ⟨i, hi, rfl⟩ := List.mem_map.mp hd
  have := h i hi
  cases n <;> exact i64_of (by omega) (by omega)⟩
theorem plain_keys (ks : List (List Int)) : plainDs (ks.map keyD) = true := plain_all fun d hd => by
  obtain ⟨k, _, rfl⟩ := List.mem_map.mp hd
  exact plain_ints k
theorem same_keys {ks : List (List Int)} (hl : ks.length ≤ 900) (h : ∀ k ∈ ks, k.length ≤ 900 ∧ ∀ d ∈ k, 0 ≤ d ∧ d < 10000) : phi_law_same 12 [.list (ks.map keyD), .list (ks.map keyD)] = some (.sh (.bool true)) := same_ok 11 _ ⟨by
  rw [List.length_map]
  show _ ≤ 1000000
  omega, plain_keys ks, fun d hd => by
  obtain ⟨k, hk, rfl⟩ := List.mem_map.mp hd
  exact ok_key (h k hk).1 (h k hk).2⟩
theorem same_lock {n : Nat} {m : Int} {L : List (List Int)} (h : LkOk n m L) (hn : n ≤ 100) (hm : m ≤ 4) : phi_law_same 12 [lockD L, lockD L] = some (.sh (.bool true)) := same_ok 11 _ ⟨by
  rw [List.length_map, h.len]
  show _ ≤ 1000000
  omega, plain_keys L, fun d hd => by
  obtain ⟨k, hk, rfl⟩ := List.mem_map.mp hd
  have := sub_rng (h.up k hk) (h.rg k hk)
  exact ok_key (by omega) fun d hd => by have := h.rg k hk d hd; omega⟩
theorem inX_lock (k : List Int) (L : List (List Int)) : inXD (keyD k) (lockD L) = some (decide (k ∈ L)) := by
  show anyD' (keyD k) (L.map keyD) = _
  rw [anyD'_of (shaped_of (lay_key k).1 (by have := (lay_key k).2; omega)) (shaped_list lay_key')]
  congr 1
  induction L with
  | nil => rfl
  | cons p L ih =>
    rw [List.map_cons, List.any_cons, ih]
    unfold keyD
    rw [eqv_ints, Bool.eq_iff_iff, Bool.or_eq_true, decide_eq_true_eq, decide_eq_true_eq, decide_eq_true_eq, List.mem_cons, eq_comm]
theorem prod_at {m : Int} : ∀ {L : List (List Int)} {rows : List (List Int)}, (∀ p ∈ L, ∀ d ∈ p, 0 ≤ d ∧ d < m) → (∀ r ∈ rows, ∀ d ∈ r, 0 ≤ d ∧ d < m) → ∀ k ∈ L.foldl ext rows, ∀ d ∈ k, 0 ≤ d ∧ d < m
  | [], rows, _, h, k, hk => h k hk
  | p :: L, rows, hL, h, k, hk => by
    refine prod_at (L := L) (rows := ext rows p) (fun q hq => hL q (List.mem_cons_of_mem _ hq)) (fun r hr d hd => ?_) k hk
    obtain ⟨row, h1, x, hx, rfl⟩ := mem_ext.mp hr
    rcases List.mem_append.mp hd with hd | hd
    · exact h row h1 d hd
    · rw [List.mem_singleton] at hd
      subst hd
      exact hL p List.mem_cons_self d hx
theorem prod_rg {n : Nat} {m : Int} {L : List (List Int)} (h : LkOk n m L) {k : List Int} (hk : k ∈ prod L) : k.length = n ∧ ∀ d ∈ k, 0 ≤ d ∧ d < m :=
  ⟨by rw [prod_len hk, h.len], prod_at h.rg (fun r hr d hd => by rw [List.mem_singleton] at hr; subst hr; cases hd) k hk⟩
end Law

/-! k62: the law about some locks, whole -/
namespace Law
open PySem PySem.Spec PyProof.Rows L2 Mi
set_option maxRecDepth 100000
set_option maxHeartbeats 4000000
theorem sortD_key (p : List Int) : sortD (keyD p) = some (.fr ((srtL p).map .int)) := by
  show (intsD _).map _ = _
  rw [intsD_map']
  rfl
theorem addD_keys {p q : List Int} (h : p.length + q.length ≤ 1000) : addD (keyD p) (keyD q) = some (.sh (keyD (p ++ q))) := by
  show (if (p.map PyData.int).length + (q.map PyData.int).length ≤ lim then some (R.sh (.tuple (p.map PyData.int ++ q.map .int))) else none) = _
  rw [List.length_map, List.length_map, if_pos (lim_of h)]
  unfold keyD
  rw [List.map_append]
end Law

/-! k62: a turn of the law, step by step -/
namespace Law
open PySem PySem.Spec PyProof.Rows L2 Mi
set_option maxRecDepth 100000
set_option maxHeartbeats 4000000
/-- a key with one depth exchanged -/
def setK (k : List Int) (p : Nat) (d : Int) : List Int := k.take p ++ [d] ++ k.drop (p + 1)
theorem setK_ok {n : Nat} {m : Int} {k : List Int} {p : Nat} {d : Int} (hk : k.length = n ∧ ∀ d ∈ k, 0 ≤ d ∧ d < m) (hp : p < n) (hd : 0 ≤ d ∧ d < m) : (setK k p d).length = n ∧ ∀ x ∈ setK k p d, 0 ≤ x ∧ x < m := by
  unfold setK
  refine ⟨?_, fun x hx => ?_⟩
  · rw [List.length_append, List.length_append, List.length_take, List.length_drop, List.length_singleton, hk.1]
    omega
  · rcases List.mem_append.mp hx with hx | hx
    · rcases List.mem_append.mp hx with hx | hx
      · exact hk.2 x (List.mem_of_mem_take hx)
      · rw [List.mem_singleton] at hx; subst hx; exact hd
    · exact hk.2 x (List.mem_of_mem_drop hx)
theorem take_key (k : List Int) (p : Nat) : slD (keyD k) none (some (p : Int)) = some (.sh (keyD (k.take p))) := by
  show some (R.sh (.tuple (cutD (k.map .int) none (some (p : Int))))) = _
  rw [cut_to _ (by omega)]
  unfold keyD
  rw [List.map_take]
  rfl
theorem drop_key (k : List Int) (p : Nat) : slD (keyD k) (some ((p : Int) + 1)) none = some (.sh (keyD (k.drop (p + 1)))) := by
  show some (R.sh (.tuple (cutD (k.map .int) (some ((p : Int) + 1)) none))) = _
  rw [cut_from _ (by omega)]
  unfold keyD
  rw [List.map_drop]
  rfl
theorem mem_ext_all {m : Int} : ∀ {n : Nat} {k : List Int}, k ∈ every n m ↔ k.length = n ∧ ∀ d ∈ k, 0 ≤ d ∧ d < m
  | 0, k => by
    show k ∈ [[]] ↔ _
    rw [List.mem_singleton, List.length_eq_zero_iff]
    constructor
    · intro h
      exact ⟨h, fun d hd => by rw [h] at hd; cases hd⟩
    · exact fun h => h.1
  | n + 1, k => by
    rw [every_succ, mem_ext]
    constructor
    · rintro ⟨row, h1, d, hd, rfl⟩
      have := mem_ext_all.mp h1
      refine ⟨by rw [List.length_append, this.1]; rfl, fun x hx => ?_⟩
      rcases List.mem_append.mp hx with hx | hx
      · exact this.2 x hx
      · rw [List.mem_singleton] at hx; subst hx; exact rng_mem hd
    · rintro ⟨h1, h2⟩
      have hne : k ≠ [] := fun z => by rw [z] at h1; cases h1
      refine ⟨k.dropLast, mem_ext_all.mpr ⟨by rw [List.length_dropLast, h1]; rfl, fun d hd => h2 d (List.dropLast_subset _ hd)⟩, k.getLast hne, ?_, (List.dropLast_concat_getLast hne).symm⟩
      have := h2 _ (List.getLast_mem hne)
      exact mem_rng this.1 this.2
theorem inX_keys (k : List Int) (P : List (List Int)) : inXD (keyD k) (.list (P.map keyD)) = some (decide (k ∈ P)) := inX_lock k P
theorem same_bool (b : Bool) : phi_law_same 12 [.bool b, .bool b] = some (.sh (.bool true)) := same_ok 11 (.bool b) trivial
section
variable {fz : D} {n : Nat} {m : Int} {L : List (List Int)}
end
end Law

/-! k63: which keys are let in, strangers -/
namespace Law
open PySem PySem.Spec PyProof.Rows L2 Mi
set_option maxRecDepth 100000
set_option maxHeartbeats 2000000
def ky (ks : List (List Int)) (i : Nat) : List Int := ks.getD i []
def intN (i : Nat) : D := .int (i : Int)
def tupN (xs : List Nat) : D := .tuple (xs.map intN)
def lstN (xs : List Nat) : D := .list (xs.map intN)
def letIn (ks : List (List Int)) (L : List (List Int)) : List Nat := (List.range ks.length).filter fun i => fits (ky ks i) L
theorem ky_mem {ks : List (List Int)} {i : Nat} (h : i < ks.length) : ky ks i ∈ ks := by
  unfold ky
  rw [List.getD_eq_getElem?_getD, List.getElem?_eq_getElem h]
  exact List.getElem_mem h
theorem ix_ks {ks : List (List Int)} {i : Nat} (h : i < ks.length) : ixD (.list (ks.map keyD)) (.int (i : Int)) = some (.sh (keyD (ky ks i))) := by
  rw [ixD_l, atI_nat', List.getElem?_map, List.getElem?_eq_getElem h]
  unfold ky
  rw [List.getD_eq_getElem?_getD, List.getElem?_eq_getElem h]
  rfl
theorem ix_tups {W : List (List Nat)} {i : Nat} (h : i < W.length) : ixD (.list (W.map tupN)) (.int (i : Int)) = some (.sh (tupN (W.getD i []))) := by
  rw [ixD_l, atI_nat', List.getElem?_map, List.getElem?_eq_getElem h, List.getD_eq_getElem?_getD, List.getElem?_eq_getElem h]
  rfl
theorem enum_ks (ks : List (List Int)) : enumL 0 (ks.map keyD) = (List.range ks.length).map fun a : Nat => .tuple [.int (a : Int), keyD (ky ks a)] := by
  have := enum_at keyD [] ks 0
  rw [List.range_eq_range']
  exact this
theorem enum_tups (W : List (List Nat)) : enumL 0 (W.map tupN) = (List.range W.length).map fun a : Nat => .tuple [.int (a : Int), tupN (W.getD a [])] := by
  have := enum_at tupN [] W 0
  rw [List.range_eq_range']
  exact this
theorem len_list {α : Type} (f : α → D) (xs : List α) : lenD (.list (xs.map f)) = some (.sh (.int (xs.length : Int))) := by
  show some (R.sh (.int ((xs.map f).length : Nat))) = _
  rw [List.length_map]
theorem tupleD_nats (xs : List Nat) : tupleD (.list (xs.map intN)) = some (.sh (tupN xs)) := rfl
theorem listD_nats (xs : List Nat) : listD (tupN xs) = some (.fr (xs.map intN)) := rfl
theorem inX_nats (i : Nat) (xs : List Nat) : inXD (.int (i : Int)) (tupN xs) = some (decide (i ∈ xs)) := by
  have := inX_key (i : Int) (xs.map fun j : Nat => (j : Int))
  unfold keyD at this
  rw [List.map_map] at this
  rw [show tupN xs = .tuple (xs.map (PyData.int ∘ fun j : Nat => (j : Int))) from rfl, this]
  congr 1
  rw [Bool.eq_iff_iff, decide_eq_true_eq, decide_eq_true_eq, List.mem_map]
  constructor
  · rintro ⟨j, hj, e⟩
    have : j = i := by omega
    exact this ▸ hj
  · exact fun h => ⟨i, h, rfl⟩
/-- a comprehension that keeps what passes, and gives of each something -/
theorem keep_map {α : Type} {g : MG} {t : MB} {el : MR} {vs : List Nat} {ρ : En} {f h : α → D} {xs : List α} (p : α → Bool) (hl : xs.length ≤ 1000) (hs : ∀ x ∈ xs, lcTurn g t el vs (f x) ρ = some (if p x = true then some (h x) else none, ρ)) :
    lcGo g t el vs (xs.map f) ρ [] = some ((xs.filter p).map h, ρ) := by
  rw [lc_fm (h := fun x => if p x = true then some (h x) else none) (by omega) hs]
  congr 2
  clear hs hl
  induction xs with
  | nil => rfl
  | cons x r ih =>
    rw [List.filterMap_cons, List.filter_cons]
    by_cases h : p x = true
    · rw [if_pos h, if_pos h, List.map_cons, ih]
    · rw [if_neg h, if_neg h, ih]
theorem let_in_ok {n : Nat} {ks L : List (List Int)} (h : ∀ k ∈ ks, k.length = n) (hL : L.length = n) (hn : n ≤ 10) (hl : ks.length ≤ 100) : phi_law_let_in [.list (ks.map keyD), lockD L] = some (.sh (tupN (letIn ks L))) := by
  have e : lcGo (gNm 2) t_law_let_in_1 l_law_let_in_1 [2] (rangeD 0 (ks.length : Int)) [.sh (.list (ks.map keyD)), .sh (lockD L), .no] [] = some ((letIn ks L).map intN, [.sh (.list (ks.map keyD)), .sh (lockD L), .no]) :=
    keep_nats _ (by omega) fun i hi => by
      have e1 := ix_ks hi
      have hk := h _ (ky_mem hi)
      have e2 := fits_law (k := ky ks i) (L := L) (by rw [hk, hL]) (by omega)
      generalize ks.map keyD = kd at *
      generalize lockD L = ld at *
      generalize hq : fits (ky ks i) L = q at *
      generalize keyD (ky ks i) = kk at *
      unfold t_law_let_in_1 l_law_let_in_1
      cases q with
      | true => simp [e1, e2]
      | false => simp [e1, e2]
  have el := len_list keyD ks
  have z : i62 (ks.length : Int) = true := i62_of (by omega) (by omega)
  have et := tupleD_nats (letIn ks L)
  generalize (letIn ks L).map intN = xs at *
  generalize ks.map keyD = kd at *
  generalize lockD L = ld at *
  unfold phi_law_let_in
  rw [runN_eq (by rfl)]
  unfold m_law_let_in
  simp [-tupleD_l, -lenD_l, el, z, e, et]
theorem strange_ok {n : Nat} {ks : List (List Int)} {Ls : List (List (List Int))} (h : ∀ k ∈ ks, k.length = n) (hL : ∀ L ∈ Ls, L.length = n) (hn : n ≤ 10) (hl : ks.length ≤ 100) (hl2 : Ls.length ≤ 100) : phi_strange_keys [.list (ks.map keyD), .list (Ls.map lockD)] = some (.fr (Ls.map fun L => lstN (letIn ks L))) := by
  have e : lcGo (gNm 2) mYes l_strange_keys_2 [2] (Ls.map lockD) [.sh (.list (ks.map keyD)), .sh (.list (Ls.map lockD)), .no, .no, .no] [] = some (Ls.map fun L => lstN (letIn ks L), [.sh (.list (ks.map keyD)), .sh (.list (Ls.map lockD)), .no, .no, .no]) := by
    refine lc_map (h := fun L => lstN (letIn ks L)) (by omega) fun L hLm => ?_
    have ei : lcGo (gTp 2 (gCons' (gNm 3) (gCons' (gNm 4) gNil'))) t_strange_keys_1 l_strange_keys_1 [3, 4] (enumL 0 (ks.map keyD)) [.sh (.list (ks.map keyD)), .sh (.list (Ls.map lockD)), .sh (lockD L), .no, .no] [] = some ((letIn ks L).map intN, [.sh (.list (ks.map keyD)), .sh (.list (Ls.map lockD)), .sh (lockD L), .no, .no]) := by
      rw [enum_ks]
      refine keep_map (h := intN) (fun i => fits (ky ks i) L) (by rw [List.length_range]; omega) fun i hi => ?_
      have hi := List.mem_range.mp hi
      have hk := h _ (ky_mem hi)
      have e2 := opens_ok (k := ky ks i) (L := L) (by rw [hk, hL L hLm]) (by omega)
      unfold intN
      generalize ks.map keyD = kd at *
      generalize Ls.map lockD = lsd at *
      generalize lockD L = ld at *
      generalize hq : fits (ky ks i) L = q at *
      generalize keyD (ky ks i) = kk at *
      unfold t_strange_keys_1 l_strange_keys_1
      cases q with
      | true => simp [e2]
      | false => simp [e2]
    unfold lstN
    have ie : enumA [.list (ks.map keyD)] = some (enumL 0 (ks.map keyD)) := by rw [enumA_1]; rfl
    generalize (letIn ks L).map intN = xs at *
    generalize Ls.map lockD = lsd at *
    generalize lockD L = ld at *
    generalize hkd : ks.map keyD = kd at *
    unfold l_strange_keys_2
    simp [ei, ie]
  generalize Ls.map (fun L => lstN (letIn ks L)) = xs at *
  generalize Ls.map lockD = lsd at *
  generalize hkd : ks.map keyD = kd at *
  unfold phi_strange_keys
  rw [runN_eq (by rfl)]
  unfold m_strange_keys
  simp [e]
theorem lay_tupN (xs : List Nat) : (tupN xs).canLay0 = true ∧ (tupN xs).depth ≤ 20 := by
  have := lay_key' (xs.map fun j : Nat => (j : Int))
  unfold keyD at this
  rw [List.map_map] at this
  exact this
theorem eq_some {α β : Type} {f : α → D} {g : β → D} (h : ∀ x, (f x).canLay0 = true ∧ (f x).depth ≤ 20) (h' : ∀ x, (g x).canLay0 = true ∧ (g x).depth ≤ 20) (xs : List α) (ys : List β) : ∃ b, eqD (.list (xs.map f)) (.list (ys.map g)) = some b :=
  ⟨_, eqD_lists (shaped_list h) (shaped_list h')⟩
theorem is_plan_ok {n : Nat} {ks : List (List Int)} {Ls : List (List (List Int))} {W : List D} {b : Bool} (h : ∀ k ∈ ks, k.length = n) (hL : ∀ L ∈ Ls, L.length = n) (hn : n ≤ 10) (hl : ks.length ≤ 100) (hl2 : Ls.length ≤ 100) (he : eqD (.list (Ls.map fun L => tupN (letIn ks L))) (.list W) = some b) :
    phi_is_plan [.list (ks.map keyD), .list W, .list (Ls.map lockD)] = some (.sh (.bool b)) := by
  have e1 := strange_ok h hL hn hl hl2
  have e : lcGo (gNm 3) mYes l_is_plan_1 [3] (Ls.map fun L => lstN (letIn ks L)) [.sh (.list (ks.map keyD)), .sh (.list W), .sh (.list (Ls.map lockD)), .no] [] = some (Ls.map fun L => tupN (letIn ks L), [.sh (.list (ks.map keyD)), .sh (.list W), .sh (.list (Ls.map lockD)), .no]) := by
    refine lc_map (h := fun L => tupN (letIn ks L)) (by omega) fun L _ => ?_
    have et := tupleD_nats (letIn ks L)
    unfold lstN
    generalize (letIn ks L).map intN = xs at *
    generalize ks.map keyD = kd at *
    generalize Ls.map lockD = lsd at *
    unfold l_is_plan_1
    simp [-tupleD_l, et]
  generalize Ls.map (fun L => lstN (letIn ks L)) = xs at *
  generalize Ls.map (fun L => tupN (letIn ks L)) = ys at *
  generalize ks.map keyD = kd at *
  generalize Ls.map lockD = lsd at *
  unfold phi_is_plan
  rw [runN_eq (by rfl)]
  unfold m_is_plan
  simp [e1, e, he]
/-! the first stranger -/
theorem fE_find {α β : Type} {p : α → Bool} {v : α → β} : ∀ {xs done : List α}, fE (fun _ x => if p x = true then some (v x) else none) done xs = (xs.find? p).map v
  | [], done => rfl
  | x :: r, done => by
    rw [List.find?_cons]
    cases q : p x with
    | true =>
      rw [fE_some (v := v x) (by rw [q]; rfl)]
      rfl
    | false =>
      rw [fE_next (by rw [q]; rfl), fE_find]
def lockOf (ks : List (List Int)) (n : Nat) (some' : List Nat) : List (List Int) := leastL n (some'.map (ky ks))
def strP (ks : List (List Int)) (n : Nat) (W : List (List Nat)) (p : Nat) : Option R := ((List.range ks.length).find? fun far => !decide (far ∈ W.getD p []) && fits (ky ks far) (lockOf ks n (W.getD p []))).map fun far : Nat => R.sh (.tuple [.int (p : Int), .int (far : Int)])
def strO (ks : List (List Int)) (n : Nat) (W : List (List Nat)) : Option R := fE (fun _ p => strP ks n W p) [] (List.range W.length)
def strR (ks : List (List Int)) (n : Nat) (W : List (List Nat)) : R := (strO ks n W).getD (.sh .none)
structure WOk (ks : List (List Int)) (n : Nat) (W : List (List Nat)) : Prop where
  row : ∀ k ∈ ks, k.length = n ∧ ∀ d ∈ k, 0 ≤ d ∧ d < 4
  ne : ∀ s ∈ W, s ≠ []
  len : ∀ s ∈ W, s.length ≤ 6
  rg : ∀ s ∈ W, ∀ i ∈ s, i < ks.length
  ks10 : ks.length ≤ 10
  n4 : n ≤ 4
  W10 : W.length ≤ 10
theorem WOk.at {ks : List (List Int)} {n : Nat} {W : List (List Nat)} (h : WOk ks n W) {p : Nat} (hp : p < W.length) : W.getD p [] ∈ W := by
  rw [List.getD_eq_getElem?_getD, List.getElem?_eq_getElem hp]
  exact List.getElem_mem hp
theorem lock_of_ok {ks : List (List Int)} {n : Nat} {s : List Nat} (row : ∀ k ∈ ks, k.length = n ∧ ∀ d ∈ k, 0 ≤ d ∧ d < 4) (hn : n ≤ 10) (hne : s ≠ []) (hl : s.length ≤ 6) (rg : ∀ i ∈ s, i < ks.length) :
    phi_lock_for [.list ((s.map (ky ks)).map keyD)] = some (.sh (lockD (lockOf ks n s))) ∧ phi_law_least [.list ((s.map (ky ks)).map keyD), .int (n : Int)] = some (.sh (lockD (lockOf ks n s))) := by
  have hk : ∀ k ∈ s.map (ky ks), k.length = n ∧ ∀ d ∈ k, 0 ≤ d ∧ d < 4 := fun k hk => by
    obtain ⟨i, hi, rfl⟩ := List.mem_map.mp hk
    exact row _ (ky_mem (rg i hi))
  refine ⟨?_, law_least_ok (fun k h => (hk k h).1) (by rw [List.length_map]; omega) hn⟩
  cases s with
  | nil => exact absurd rfl hne
  | cons i s =>
    rw [List.length_cons] at hl
    exact lock_for_ok (n := n) (k0 := ky ks i) (ks := s.map (ky ks)) (by rw [List.length_map]; omega) hn hk
theorem leastL_len (n : Nat) (ks : List (List Int)) : (leastL n ks).length = n := by
  unfold leastL
  rw [List.length_map, List.length_range]
theorem rt_getD {o : Option R} (h : ∀ v, o = some v → ∃ d, v = .sh d) : ∃ d, o.getD (.sh .none) = .sh d := by
  cases o with
  | none => exact ⟨_, rfl⟩
  | some v => exact h v rfl
theorem strP_sh {ks : List (List Int)} {n : Nat} {W : List (List Nat)} {p : Nat} {v : R} (h : strP ks n W p = some v) : ∃ far : Nat, far < ks.length ∧ v = .sh (.tuple [.int (p : Int), .int (far : Int)]) := by
  unfold strP at h
  cases q : (List.range ks.length).find? fun far => !decide (far ∈ W.getD p []) && fits (ky ks far) (lockOf ks n (W.getD p [])) with
  | none => rw [q] at h; cases h
  | some far =>
    rw [q] at h
    cases h
    exact ⟨far, List.mem_range.mp (List.mem_of_find?_eq_some q), rfl⟩
theorem strO_sh {ks : List (List Int)} {n : Nat} {W : List (List Nat)} {v : R} (h : strO ks n W = some v) : ∃ p far : Nat, p < W.length ∧ far < ks.length ∧ v = .sh (.tuple [.int (p : Int), .int (far : Int)]) := by
  unfold strO at h
  obtain ⟨a, b, p, e, e2⟩ := fE_of_some h
  obtain ⟨far, h1, h2⟩ := strP_sh e2
  exact ⟨p, far, (range_split e).2, h1, h2⟩
theorem first_stranger_ok {ks : List (List Int)} {n : Nat} {W : List (List Nat)} (h : WOk ks n W) : phi_first_stranger [.list (ks.map keyD), .list (W.map tupN)] = some (strR ks n W) := by
  have hn := h.n4
  have hks := h.ks10
  obtain ⟨ρ', outer⟩ := for_first (g := gTp 2 (gCons' (gNm 2) (gCons' (gNm 3) gNil'))) (b := b_first_stranger_2) (f := fun p : Nat => PyData.tuple [.int (p : Int), tupN (W.getD p [])]) (xs := List.range W.length) (done := []) (ρ := [.sh (.list (ks.map keyD)), .sh (.list (W.map tupN)), .no, .no, .no, .no, .no]) (E := fun _ p => strP ks n W p)
    (S := fun _ ρ => ∃ m2 m3 m4 m5 m6, ρ = [.sh (.list (ks.map keyD)), .sh (.list (W.map tupN)), m2, m3, m4, m5, m6] ∧ Shy m2 ∧ Shy m3 ∧ Shy m4 ∧ Shy m5 ∧ Shy m6) ⟨_, _, _, _, _, rfl, .no, .no, .no, .no, .no⟩ fun a c p ρ e ⟨m2, m3, m4, m5, m6, hρ, h2, h3, h4, h5, h6⟩ => by
      subst hρ
      have hp := (range_split e).2
      have hs := h.at hp
      obtain ⟨s, hsd⟩ : ∃ s, s = W.getD p [] := ⟨_, rfl⟩
      have hE : strP ks n W p = ((List.range ks.length).find? fun far => !decide (far ∈ s) && fits (ky ks far) (lockOf ks n s)).map fun far : Nat => R.sh (.tuple [.int (p : Int), .int (far : Int)]) := by unfold strP; rw [hsd]
      rw [hE, ← fE_find (done := [])]
      rw [← hsd] at hs
      rw [← hsd]
      have e1 := (lock_of_ok (n := n) h.row (by omega) (h.ne s hs) (h.len s hs) (h.rg s hs)).1
      have lc : ∀ m2 m4 : M, lcGo (gNm 5) mYes l_first_stranger_1 [5] (s.map intN) [.sh (.list (ks.map keyD)), .sh (.list (W.map tupN)), m2, .sh (tupN s), m4, m5, m6] [] = some ((s.map (ky ks)).map keyD, [.sh (.list (ks.map keyD)), .sh (.list (W.map tupN)), m2, .sh (tupN s), m4, m5, m6]) := fun m2 m4 => by
        rw [List.map_map]
        refine lc_map (h := fun i => keyD (ky ks i)) (by have := h.len s hs; omega) fun i hi => ?_
        have ei := ix_ks (h.rg s hs i hi)
        generalize ks.map keyD = kd at *
        generalize W.map tupN = wd at *
        generalize tupN s = sd at *
        generalize keyD (ky ks i) = kk at *
        unfold l_first_stranger_1 intN
        simp [shy_ok h5, ei]
      obtain ⟨ρ', inner⟩ := for_first (g := gTp 2 (gCons' (gNm 5) (gCons' (gNm 6) gNil'))) (b := b_first_stranger_1) (f := fun far : Nat => PyData.tuple [.int (far : Int), keyD (ky ks far)]) (xs := List.range ks.length) (done := []) (ρ := [.sh (.list (ks.map keyD)), .sh (.list (W.map tupN)), .sh (.int (p : Int)), .sh (tupN s), .sh (lockD (lockOf ks n s)), m5, m6])
        (E := fun _ far => if (!decide (far ∈ s) && fits (ky ks far) (lockOf ks n s)) = true then some (.sh (.tuple [.int (p : Int), .int (far : Int)])) else none)
        (S := fun _ ρ => ∃ m5 m6, ρ = [.sh (.list (ks.map keyD)), .sh (.list (W.map tupN)), .sh (.int (p : Int)), .sh (tupN s), .sh (lockD (lockOf ks n s)), m5, m6] ∧ Shy m5 ∧ Shy m6) ⟨_, _, rfl, h5, h6⟩ fun a c far ρ e ⟨m5, m6, hρ, h5, h6⟩ => by
          subst hρ
          have hf := (range_split e).2
          have hk := (h.row _ (ky_mem hf)).1
          have e2 := inX_nats far s
          have e3 := opens_ok (k := ky ks far) (L := lockOf ks n s) (by unfold lockOf; rw [hk, leastL_len]) (by omega)
          have z2 : 2 ≤ lim := lim_of (by omega)
          generalize fits (ky ks far) (lockOf ks n s) = q at *
          generalize keyD (ky ks far) = kk at *
          generalize lockD (lockOf ks n s) = ll at *
          generalize ks.map keyD = kd at *
          generalize W.map tupN = wd at *
          generalize tupN s = sd at *
          unfold b_first_stranger_1
          by_cases hm : far ∈ s
          · rw [decide_eq_true hm] at e2 ⊢
            exact ⟨.nx, [.sh (.list kd), .sh (.list wd), .sh (.int (p : Int)), .sh sd, .sh ll, .sh (.int (far : Int)), .sh kk], by simp [shy_free h5, shy_free h6, e2], rfl, _, _, rfl, .sh _, .sh _⟩
          · rw [decide_eq_false hm] at e2 ⊢
            cases q with
            | true => exact ⟨.rt (.sh (.tuple [.int (p : Int), .int (far : Int)])), [.sh (.list kd), .sh (.list wd), .sh (.int (p : Int)), .sh sd, .sh ll, .sh (.int (far : Int)), .sh kk], by simp [shy_free h5, shy_free h6, e2, e3, z2], rfl⟩
            | false => exact ⟨.nx, [.sh (.list kd), .sh (.list wd), .sh (.int (p : Int)), .sh sd, .sh ll, .sh (.int (far : Int)), .sh kk], by simp [shy_free h5, shy_free h6, e2, e3], rfl, _, _, rfl, .sh _, .sh _⟩
      rw [← enum_ks] at inner
      have ie : enumA [.list (ks.map keyD)] = some (enumL 0 (ks.map keyD)) := by rw [enumA_1]; rfl
      have it : itemsD (tupN s) = some (s.map intN) := rfl
      have lc := lc (.sh (.int (p : Int))) m4
      unfold b_first_stranger_2
      cases q : fE (fun _ far => if (!decide (far ∈ s) && fits (ky ks far) (lockOf ks n s)) = true then some (R.sh (.tuple [.int (p : Int), .int (far : Int)])) else none) [] (List.range ks.length) with
      | some v =>
        rw [q] at inner
        dsimp only at inner
        generalize (s.map (ky ks)).map keyD = skd at *
        generalize s.map intN = sn at *
        generalize lockD (lockOf ks n s) = ll at *
        generalize tupN s = sd at *
        generalize W.map tupN = wd at *
        generalize hkd : ks.map keyD = kd at *
        exact ⟨.rt v, ρ', by simp [shy_free h2, shy_free h3, shy_free h4, shy_ok h5, it, lc, e1, ie, inner], rfl⟩
      | none =>
        rw [q] at inner
        obtain ⟨inner, n5, n6, hρ, g5, g6⟩ := inner
        subst hρ
        refine ⟨.nx, [.sh (.list (ks.map keyD)), .sh (.list (W.map tupN)), .sh (.int (p : Int)), .sh (tupN s), .sh (lockD (lockOf ks n s)), n5, n6], ?_, rfl, _, _, _, _, _, rfl, .sh _, .sh _, .sh _, g5, g6⟩
        generalize (s.map (ky ks)).map keyD = skd at *
        generalize s.map intN = sn at *
        generalize lockD (lockOf ks n s) = ll at *
        generalize tupN s = sd at *
        generalize W.map tupN = wd at *
        generalize hkd : ks.map keyD = kd at *
        simp [shy_free h2, shy_free h3, shy_free h4, shy_ok h5, it, lc, e1, ie, inner]
  rw [← enum_tups] at outer
  have ie : enumA [.list (W.map tupN)] = some (enumL 0 (W.map tupN)) := by rw [enumA_1]; rfl
  unfold phi_first_stranger
  rw [runN_eq (by rfl)]
  unfold m_first_stranger strR strO
  cases q : fE (fun _ p => strP ks n W p) [] (List.range W.length) with
  | some v =>
    rw [q] at outer
    dsimp only at outer
    obtain ⟨p, far, _, _, rfl⟩ := strO_sh (v := v) q
    generalize W.map tupN = wd at *
    generalize hkd : ks.map keyD = kd at *
    simp [ie, outer]
  | none =>
    rw [q] at outer
    obtain ⟨outer, m2, m3, m4, m5, m6, hρ, _⟩ := outer
    subst hρ
    generalize W.map tupN = wd at *
    generalize hkd : ks.map keyD = kd at *
    simp [ie, outer]
end Law
/-! k63: the law's strangers, wanted lots -/
namespace Law
open PySem PySem.Spec PyProof.Rows L2 Mi
set_option maxRecDepth 100000
set_option maxHeartbeats 2000000
theorem find_filter {α : Type} {p q : α → Bool} : ∀ xs : List α, (xs.filter p).find? q = xs.find? fun x => q x && p x
  | [] => rfl
  | x :: r => by
    rw [List.filter_cons, List.find?_cons]
    cases hp : p x with
    | true =>
      rw [if_pos rfl, List.find?_cons, Bool.and_true, find_filter r]
    | false =>
      rw [if_neg (by decide), Bool.and_false, find_filter r]
theorem law_stranger_ok {ks : List (List Int)} {n : Nat} {W : List (List Nat)} (h : WOk ks n W) : phi_law_stranger [.list (ks.map keyD), .list (W.map tupN), .int (n : Int)] = some (strR ks n W) := by
  have hn := h.n4
  have hks := h.ks10
  have hW := h.W10
  obtain ⟨ρ', outer⟩ := for_first (g := gNm 3) (b := b_law_stranger_2) (f := fun p : Nat => PyData.int (p : Int)) (xs := List.range W.length) (done := []) (ρ := [.sh (.list (ks.map keyD)), .sh (.list (W.map tupN)), .sh (.int (n : Int)), .no, .no, .no, .no]) (E := fun _ p => strP ks n W p)
    (S := fun _ ρ => ∃ m3 m4 m5 m6, ρ = [.sh (.list (ks.map keyD)), .sh (.list (W.map tupN)), .sh (.int (n : Int)), m3, m4, m5, m6] ∧ Shy m3 ∧ Shy m4 ∧ Shy m5 ∧ Shy m6) ⟨_, _, _, _, rfl, .no, .no, .no, .no⟩ fun a c p ρ e ⟨m3, m4, m5, m6, hρ, h3, h4, h5, h6⟩ => by
      subst hρ
      have hp := (range_split e).2
      have hs := h.at hp
      have ew := ix_tups hp
      obtain ⟨s, hsd⟩ : ∃ s, s = W.getD p [] := ⟨_, rfl⟩
      have hE : strP ks n W p = ((letIn ks (lockOf ks n s)).find? fun far => !decide (far ∈ s)).map fun far : Nat => R.sh (.tuple [.int (p : Int), .int (far : Int)]) := by
        unfold letIn
        rw [find_filter]
        unfold strP
        rw [hsd]
      rw [hE, ← fE_find (done := [])]
      rw [← hsd] at hs ew
      have e1 := (lock_of_ok (n := n) h.row (by omega) (h.ne s hs) (h.len s hs) (h.rg s hs)).2
      have e2 := let_in_ok (n := n) (ks := ks) (L := lockOf ks n s) (fun k hk => (h.row k hk).1) (by unfold lockOf; rw [leastL_len]) (by omega) (by omega)
      have lc : ∀ m4 : M, lcGo (gNm 6) mYes l_law_stranger_1 [6] (s.map intN) [.sh (.list (ks.map keyD)), .sh (.list (W.map tupN)), .sh (.int (n : Int)), .sh (.int (p : Int)), m4, m5, m6] [] = some ((s.map (ky ks)).map keyD, [.sh (.list (ks.map keyD)), .sh (.list (W.map tupN)), .sh (.int (n : Int)), .sh (.int (p : Int)), m4, m5, m6]) := fun m4 => by
        rw [List.map_map]
        refine lc_map (h := fun i => keyD (ky ks i)) (by have := h.len s hs; omega) fun i hi => ?_
        have ei := ix_ks (h.rg s hs i hi)
        generalize ks.map keyD = kd at *
        generalize W.map tupN = wd at *
        generalize keyD (ky ks i) = kk at *
        unfold l_law_stranger_1 intN
        simp [shy_ok h6, ei]
      obtain ⟨ρ', inner⟩ := for_first (g := gNm 5) (b := b_law_stranger_1) (f := intN) (xs := letIn ks (lockOf ks n s)) (done := []) (ρ := [.sh (.list (ks.map keyD)), .sh (.list (W.map tupN)), .sh (.int (n : Int)), .sh (.int (p : Int)), .sh (lockD (lockOf ks n s)), m5, m6])
        (E := fun _ far => if (!decide (far ∈ s)) = true then some (R.sh (.tuple [.int (p : Int), .int (far : Int)])) else none)
        (S := fun _ ρ => ∃ m5, ρ = [.sh (.list (ks.map keyD)), .sh (.list (W.map tupN)), .sh (.int (n : Int)), .sh (.int (p : Int)), .sh (lockD (lockOf ks n s)), m5, m6] ∧ Shy m5) ⟨_, rfl, h5⟩ fun a c far ρ e ⟨m5, hρ, h5⟩ => by
          subst hρ
          have e3 := inX_nats far s
          have z2 : 2 ≤ lim := lim_of (by omega)
          generalize lockD (lockOf ks n s) = ll at *
          generalize ks.map keyD = kd at *
          generalize W.map tupN = wd at *
          generalize tupN s = sd at *
          unfold b_law_stranger_1 intN
          by_cases hm : far ∈ s
          · rw [decide_eq_true hm] at e3 ⊢
            exact ⟨.nx, [.sh (.list kd), .sh (.list wd), .sh (.int (n : Int)), .sh (.int (p : Int)), .sh ll, .sh (.int (far : Int)), m6], by simp [shy_free h5, ew, e3], rfl, _, rfl, .sh _⟩
          · rw [decide_eq_false hm] at e3 ⊢
            exact ⟨.rt (.sh (.tuple [.int (p : Int), .int (far : Int)])), [.sh (.list kd), .sh (.list wd), .sh (.int (n : Int)), .sh (.int (p : Int)), .sh ll, .sh (.int (far : Int)), m6], by simp [shy_free h5, ew, e3, z2], rfl⟩
      have it : itemsD (tupN s) = some (s.map intN) := rfl
      have it2 : itemsD (tupN (letIn ks (lockOf ks n s))) = some ((letIn ks (lockOf ks n s)).map intN) := rfl
      have lc := lc m4
      unfold b_law_stranger_2
      cases q : fE (fun _ far => if (!decide (far ∈ s)) = true then some (R.sh (.tuple [.int (p : Int), .int (far : Int)])) else none) [] (letIn ks (lockOf ks n s)) with
      | some v =>
        rw [q] at inner
        dsimp only at inner
        generalize (s.map (ky ks)).map keyD = skd at *
        generalize s.map intN = sn at *
        generalize (letIn ks (lockOf ks n s)).map intN = lin at *
        generalize tupN (letIn ks (lockOf ks n s)) = ltn at *
        generalize lockD (lockOf ks n s) = ll at *
        generalize tupN s = sd at *
        generalize W.map tupN = wd at *
        generalize hkd : ks.map keyD = kd at *
        exact ⟨.rt v, ρ', by simp [shy_free h3, shy_free h4, shy_ok h6, ew, it, lc, e1, e2, it2, inner], rfl⟩
      | none =>
        rw [q] at inner
        obtain ⟨inner, n5, hρ, g5⟩ := inner
        subst hρ
        refine ⟨.nx, [.sh (.list (ks.map keyD)), .sh (.list (W.map tupN)), .sh (.int (n : Int)), .sh (.int (p : Int)), .sh (lockD (lockOf ks n s)), n5, m6], ?_, rfl, _, _, _, _, rfl, .sh _, .sh _, g5, h6⟩
        generalize (s.map (ky ks)).map keyD = skd at *
        generalize s.map intN = sn at *
        generalize (letIn ks (lockOf ks n s)).map intN = lin at *
        generalize tupN (letIn ks (lockOf ks n s)) = ltn at *
        generalize lockD (lockOf ks n s) = ll at *
        generalize tupN s = sd at *
        generalize W.map tupN = wd at *
        generalize hkd : ks.map keyD = kd at *
        simp [shy_free h3, shy_free h4, shy_ok h6, ew, it, lc, e1, e2, it2, inner]
  rw [← rangeD_nats] at outer
  have el := len_list tupN W
  have z : i62 (W.length : Int) = true := i62_of (by omega) (by omega)
  unfold phi_law_stranger
  rw [runN_eq (by rfl)]
  unfold m_law_stranger strR strO
  cases q : fE (fun _ p => strP ks n W p) [] (List.range W.length) with
  | some v =>
    rw [q] at outer
    dsimp only at outer
    obtain ⟨p, far, _, _, rfl⟩ := strO_sh (v := v) q
    generalize W.map tupN = wd at *
    generalize hkd : ks.map keyD = kd at *
    simp [-lenD_l, el, z, outer]
  | none =>
    rw [q] at outer
    obtain ⟨outer, m3, m4, m5, m6, hρ, _⟩ := outer
    subst hρ
    generalize W.map tupN = wd at *
    generalize hkd : ks.map keyD = kd at *
    simp [-lenD_l, el, z, outer]
/-- what is told of strangers, as data -/
def strD (ks : List (List Int)) (n : Nat) (W : List (List Nat)) : D := match strO ks n W with
  | some (.sh d) => d
  | _ => .none
theorem strR_D (ks : List (List Int)) (n : Nat) (W : List (List Nat)) : strR ks n W = .sh (strD ks n W) ∧ (strD ks n W = .none ∨ ∃ p far : Nat, p < W.length ∧ far < ks.length ∧ strD ks n W = .tuple [.int (p : Int), .int (far : Int)]) := by
  unfold strR strD
  cases q : strO ks n W with
  | none => exact ⟨rfl, .inl rfl⟩
  | some v =>
    obtain ⟨p, far, h1, h2, rfl⟩ := strO_sh q
    exact ⟨rfl, .inr ⟨p, far, h1, h2, rfl⟩⟩
theorem can_plan_ok {ks : List (List Int)} {n : Nat} {W : List (List Nat)} (h : WOk ks n W) : phi_can_plan [.list (ks.map keyD), .list (W.map tupN)] = some (.sh (.bool (noneD (strD ks n W)))) := by
  have e := first_stranger_ok h
  rw [(strR_D ks n W).1] at e
  generalize W.map tupN = wd at *
  generalize ks.map keyD = kd at *
  generalize strD ks n W = sd at *
  unfold phi_can_plan
  rw [runN_eq (by rfl)]
  unfold m_can_plan
  simp [e]
/-! wanted lots -/
theorem fits_least {ks : List (List Int)} {n : Nat} {s : List Nat} {i : Nat} (row : ∀ k ∈ ks, k.length = n ∧ ∀ d ∈ k, 0 ≤ d ∧ d < 4) (hi : i ∈ s) (hk : i < ks.length) : fits (ky ks i) (lockOf ks n s) = true := by
  have hr := row _ (ky_mem hk)
  unfold fits
  rw [all2_iff (z := []) (by unfold lockOf; rw [leastL_len, hr.1])]
  intro p hp
  unfold lockOf at hp ⊢
  rw [leastL_len] at hp
  have e : (leastL n (s.map (ky ks))).getD p [] = leastP (s.map (ky ks)) p := by
    unfold leastL
    rw [List.getD_eq_getElem?_getD, List.getElem?_map, List.getElem?_range hp]
    rfl
  rw [e, decide_eq_true_eq]
  unfold leastP
  rw [List.mem_filter, decide_eq_true_eq]
  have hm : (ky ks i).getD p 0 ∈ ky ks i := by
    rw [List.getD_eq_getElem?_getD, List.getElem?_eq_getElem (by rw [hr.1]; exact hp)]
    exact List.getElem_mem _
  have := hr.2 _ hm
  refine ⟨mem_rng this.1 this.2, ?_⟩
  unfold colI
  exact List.mem_map.mpr ⟨ky ks i, List.mem_map.mpr ⟨i, hi, rfl⟩, rfl⟩
def SOk (ks : List (List Int)) (s : List Nat) : Prop := s ≠ [] ∧ s.length ≤ 6 ∧ ∀ i ∈ s, i < ks.length
theorem letIn_ok {ks : List (List Int)} {n : Nat} {s : List Nat} (row : ∀ k ∈ ks, k.length = n ∧ ∀ d ∈ k, 0 ≤ d ∧ d < 4) (hl : ks.length ≤ 6) (h : SOk ks s) : SOk ks (letIn ks (lockOf ks n s)) := by
  refine ⟨fun z => ?_, ?_, fun i hi => List.mem_range.mp (List.mem_filter.mp hi).1⟩
  · obtain ⟨i, hi⟩ := List.exists_mem_of_ne_nil _ h.1
    have : i ∈ letIn ks (lockOf ks n s) := List.mem_filter.mpr ⟨List.mem_range.mpr (h.2.2 i hi), fits_least row hi (h.2.2 i hi)⟩
    rw [z] at this
    cases this
  · have := List.length_filter_le (fun i => fits (ky ks i) (lockOf ks n s)) (List.range ks.length)
    rw [List.length_range] at this
    unfold letIn
    omega
def w3 : MS' := (sSeq (sSet 6 (mUn tupleD (mVar 5)))
  (sSeq (sIf (mCmp gtD (mCallIO phi_law_draw 0 (aCons (mC (.int 3)) aNil)) (mC (.int 0)))
  (sSeq (sSet 6 (mCall phi_law_let_in (aCons (mVar 1) (aCons (mCall phi_law_least (aCons (mLc (mIter (mVar 5)) (gNm 7) mYes l_law_wanted_1 [7]) (aCons (mVar 2) aNil))) aNil))))
  sNil)
  sNil)
  (sSeq (sExpr (mAppend 3 (mVar 6)))
  sNil)))
theorem b_law_wanted_eq : b_law_wanted_1 = (sSeq (sSet 5 (mLc (mRange1 (aCons (mUn lenD (mVar 1)) aNil)) (gNm 7) t_law_wanted_1 l_law_wanted_2 [7]))
  (sSeq (sIf (mCmp eqD (mVar 5) (mLst aNil))
  (sSeq (sSet 5 (mLst (aCons (mCallIO phi_law_draw 0 (aCons (mUn lenD (mVar 1)) aNil)) aNil)))
  sNil)
  sNil)
  w3)) := rfl
theorem wanted_turn {ws : List D} {ks : List (List Int)} {n : Nat} {W : List (List Nat)} {m4 m5 m6 : M} {t : D} (b : BoxOk ws) (row : ∀ k ∈ ks, k.length = n ∧ ∀ d ∈ k, 0 ≤ d ∧ d < 4) (hk0 : 0 < ks.length) (hl : ks.length ≤ 6) (hn : n ≤ 4) (hW : W.length ≤ 10) (h4 : Shy m4) (h5 : freeM (some m5) = true) (h6 : Shy m6) :
    ∃ ws' s m5', bnd (gNm 4 t [.io ws, .sh (.list (ks.map keyD)), .sh (.int (n : Int)), .own (W.map tupN), m4, m5, m6, .no]) b_law_wanted_1 = some (.nx, [.io ws', .sh (.list (ks.map keyD)), .sh (.int (n : Int)), .own ((W ++ [s]).map tupN), .sh t, m5', .sh (tupN s), .no]) ∧ BoxOk ws' ∧ SOk ks s ∧ freeM (some m5') = true := by
  obtain ⟨s0, ρ', e1, ⟨w1, hρ, b1⟩, hsub, _⟩ := lc_sub (α := Nat) (g := gNm 7) (t := t_law_wanted_1) (el := l_law_wanted_2) (vs := [7]) (f := intN) (h := intN) (fun ρ => ∃ w, ρ = [.io w, .sh (.list (ks.map keyD)), .sh (.int (n : Int)), .own (W.map tupN), .sh t, m5, m6, .no] ∧ BoxOk w) (fun _ => False) (List.range ks.length) [.io ws, .sh (.list (ks.map keyD)), .sh (.int (n : Int)), .own (W.map tupN), .sh t, m5, m6, .no] [] (by rw [List.length_range]; simp; omega) ⟨ws, rfl, b⟩
    fun i hi ρ ⟨w, hρ, bw⟩ => by
      subst hρ
      obtain ⟨r, w2, e, b2, r0, r1⟩ := draw_ok (many := 3) bw (by decide)
      generalize ks.map keyD = kd at *
      generalize W.map tupN = wd at *
      unfold t_law_wanted_1 l_law_wanted_2 intN
      by_cases hr : r = 0
      · subst hr
        exact ⟨some (.int (i : Int)), [.io w2, .sh (.list kd), .sh (.int (n : Int)), .own wd, .sh t, m5, m6, .no], by simp [e], ⟨w2, rfl, b2⟩, .inl rfl⟩
      · exact ⟨none, [.io w2, .sh (.list kd), .sh (.int (n : Int)), .own wd, .sh t, m5, m6, .no], by simp [e, hr], ⟨w2, rfl, b2⟩, .inr ⟨rfl, fun z => z⟩⟩
  subst hρ
  rw [List.nil_append, show (List.range ks.length).map intN = rangeD 0 (ks.length : Int) from (rangeD_nats _).symm] at e1
  have hs0l : s0.length ≤ 6 := by have := hsub.length_le; rw [List.length_range] at this; omega
  have hs0 : ∀ i ∈ s0, i < ks.length := fun i hi => List.mem_range.mp (hsub.subset hi)
  have en := natsNil s0
  have en : eqD (.list (s0.map intN)) (.list []) = some (decide (s0 = [])) := en
  have el := len_list keyD ks
  have z : i62 (ks.length : Int) = true := i62_of (by omega) (by omega)
  have zl : (W.map tupN).length < lim := by rw [List.length_map]; exact lim_lt' (by omega)
  have z1 : 1 ≤ lim := lim_of (by omega)
  -- behind the first part: a lot s
  have rest : ∀ (s : List Nat) (w : List D), SOk ks s → BoxOk w → ∃ w' s' m5', w3 [.io w, .sh (.list (ks.map keyD)), .sh (.int (n : Int)), .own (W.map tupN), .sh t, .own (s.map intN), m6, .no] = some (.nx, [.io w', .sh (.list (ks.map keyD)), .sh (.int (n : Int)), .own ((W ++ [s']).map tupN), .sh t, m5', .sh (tupN s'), .no]) ∧ BoxOk w' ∧ SOk ks s' ∧ freeM (some m5') = true := fun s w hs bw => by
    obtain ⟨r, w2, e2, b2, r0, r1⟩ := draw_ok (many := 3) bw (by decide)
    have et := tupleD_nats s
    by_cases hr : 0 < r
    · have e3 := (lock_of_ok (n := n) row (by omega) hs.1 hs.2.1 hs.2.2).2
      have e4 := let_in_ok (n := n) (ks := ks) (L := lockOf ks n s) (fun k hk => (row k hk).1) (by unfold lockOf; rw [leastL_len]) (by omega) (by omega)
      have lc : lcGo (gNm 7) mYes l_law_wanted_1 [7] (s.map intN) [.io w2, .sh (.list (ks.map keyD)), .sh (.int (n : Int)), .own (W.map tupN), .sh t, .sh (.list (s.map intN)), .sh (tupN s), .no] [] = some ((s.map (ky ks)).map keyD, [.io w2, .sh (.list (ks.map keyD)), .sh (.int (n : Int)), .own (W.map tupN), .sh t, .sh (.list (s.map intN)), .sh (tupN s), .no]) := by
        rw [List.map_map]
        refine lc_map (h := fun i => keyD (ky ks i)) (by have := hs.2.1; omega) fun i hi => ?_
        have ei := ix_ks (hs.2.2 i hi)
        generalize ks.map keyD = kd at *
        generalize W.map tupN = wd at *
        generalize s.map intN = sn at *
        generalize tupN s = sd at *
        generalize keyD (ky ks i) = kk at *
        unfold l_law_wanted_1 intN
        simp [ei]
      refine ⟨w2, letIn ks (lockOf ks n s), .sh (.list (s.map intN)), ?_, b2, letIn_ok row hl hs, rfl⟩
      unfold w3
      rw [List.map_append, List.map_cons, List.map_nil]
      generalize (s.map (ky ks)).map keyD = skd at *
      generalize tupN (letIn ks (lockOf ks n s)) = ltn at *
      generalize lockD (lockOf ks n s) = ll at *
      generalize ks.map keyD = kd at *
      generalize W.map tupN = wd at *
      generalize s.map intN = sn at *
      generalize tupN s = sd at *
      simp [-tupleD_l, shy_free h6, et, e2, hr, lc, e3, e4, zl]
    · refine ⟨w2, s, .own (s.map intN), ?_, b2, hs, rfl⟩
      unfold w3
      rw [List.map_append, List.map_cons, List.map_nil]
      generalize ks.map keyD = kd at *
      generalize W.map tupN = wd at *
      generalize s.map intN = sn at *
      generalize tupN s = sd at *
      simp [-tupleD_l, shy_free h6, et, e2, hr, zl]
  by_cases hz : s0 = []
  · obtain ⟨r, w2, e2, b2, r0, r1⟩ := draw_ok (many := (ks.length : Int)) b1 (by omega)
    obtain ⟨q, rfl⟩ : ∃ q : Nat, r = (q : Int) := ⟨r.toNat, by omega⟩
    obtain ⟨w', s', m5', e3, b3, hs', h5'⟩ := rest [q] w2 ⟨by simp, by simp, fun i hi => by rw [List.mem_singleton] at hi; subst hi; omega⟩ b2
    refine ⟨w', s', m5', ?_, b3, hs', h5'⟩
    rw [show ([q].map intN) = [.int (q : Int)] from rfl] at e3
    rw [decide_eq_true hz] at en
    generalize ks.map keyD = kd at *
    generalize (W ++ [s']).map tupN = wd' at *
    generalize W.map tupN = wd at *
    generalize s0.map intN = sn at *
    generalize tupN s' = sd at *
    rw [b_law_wanted_eq]
    simp [-lenD_l, shy_free h4, h5, el, z, e1, en, e2, e3, z1]
  · obtain ⟨w', s', m5', e3, b3, hs', h5'⟩ := rest s0 w1 ⟨hz, hs0l, hs0⟩ b1
    refine ⟨w', s', m5', ?_, b3, hs', h5'⟩
    rw [decide_eq_false hz] at en
    generalize ks.map keyD = kd at *
    generalize (W ++ [s']).map tupN = wd' at *
    generalize W.map tupN = wd at *
    generalize s0.map intN = sn at *
    generalize tupN s' = sd at *
    rw [b_law_wanted_eq]
    simp [-lenD_l, shy_free h4, h5, el, z, e1, en, e3, z1]
theorem wanted_ok {ws : List D} {ks : List (List Int)} {n : Nat} (b : BoxOk ws) (row : ∀ k ∈ ks, k.length = n ∧ ∀ d ∈ k, 0 ≤ d ∧ d < 4) (hk0 : 0 < ks.length) (hl : ks.length ≤ 6) (hn : n ≤ 4) :
    ∃ W ws', phi_law_wanted ws [.list (ks.map keyD), .int (n : Int)] = some (.fr (W.map tupN), ws') ∧ BoxOk ws' ∧ WOk ks n W ∧ W.length ≤ 4 ∧ 0 < W.length := by
  obtain ⟨r, w1, e1, b1, r0, r1⟩ := draw_ok (many := 4) b (by decide)
  obtain ⟨N, hN⟩ : ∃ N : Nat, (N : Int) = 1 + r := ⟨(1 + r).toNat, by omega⟩
  obtain ⟨ρ', e2, w2, W, m4, m5, m6, hρ, b2, hWl, hW, h4, h5, h6⟩ := rturns (N := N) (g := gNm 4) (b := b_law_wanted_1) (S := fun j ρ => ∃ w W m4 m5 m6, ρ = [.io w, .sh (.list (ks.map keyD)), .sh (.int (n : Int)), .own (W.map tupN), m4, m5, m6, .no] ∧ BoxOk w ∧ W.length = j ∧ (∀ s ∈ W, SOk ks s) ∧ Shy m4 ∧ freeM (some m5) = true ∧ Shy m6)
    (fun j ρ hj ⟨w, W, m4, m5, m6, hρ, bw, hWl, hW, h4, h5, h6⟩ => by
      subst hρ
      obtain ⟨w', s, m5', e, b', hs, h5'⟩ := wanted_turn (t := .int (j : Int)) bw row hk0 hl hn (show W.length ≤ 10 by omega) h4 h5 h6
      refine ⟨_, e, w', W ++ [s], _, m5', _, rfl, b', by rw [List.length_append, hWl]; rfl, fun x hx => ?_, .sh _, h5', .sh _⟩
      rcases List.mem_append.mp hx with hx | hx
      · exact hW x hx
      · rw [List.mem_singleton] at hx; subst hx; exact hs)
    (ρ := [.io w1, .sh (.list (ks.map keyD)), .sh (.int (n : Int)), .own [], .no, .no, .no, .no]) ⟨w1, [], _, _, _, rfl, b1, rfl, (fun s h => by cases h), .no, rfl, .no⟩
  subst hρ
  rw [hN] at e2
  refine ⟨W, w2, ?_, b2, ⟨row, fun s hs => (hW s hs).1, fun s hs => (hW s hs).2.1, fun s hs => (hW s hs).2.2, by omega, hn, by omega⟩, by omega, by omega⟩
  have z : i62 (1 + r) = true := i62_of (by omega) (by omega)
  generalize ks.map keyD = kd at *
  generalize W.map tupN = wd at *
  unfold phi_law_wanted
  rw [runIO_eq (by rfl)]
  unfold m_law_wanted
  simp [e1, e2, z]
end Law
/-! k63: plans near a plan, plans asked -/
namespace Law
open PySem PySem.Spec PyProof.Rows L2 Mi
set_option maxRecDepth 100000
set_option maxHeartbeats 4000000
theorem cutD_map {α β : Type} (f : α → β) (xs : List α) (lo hi : Option Int) : cutD (xs.map f) lo hi = (cutD xs lo hi).map f := by
  unfold Mi.cutD
  rw [List.map_take, List.map_drop, List.length_map]
def setG {α : Type} (xs : List α) (p : Nat) (x : α) : List α := xs.take p ++ [x] ++ xs.drop (p + 1)
theorem setG_len {α : Type} {xs : List α} {p : Nat} {x : α} (h : p < xs.length) : (setG xs p x).length = xs.length := by
  unfold setG
  rw [List.length_append, List.length_append, List.length_take, List.length_drop, List.length_singleton]
  omega
theorem setG_mem {α : Type} {xs : List α} {p : Nat} {x y : α} (h : y ∈ setG xs p x) : y ∈ xs ∨ y = x := by
  unfold setG at h
  rcases List.mem_append.mp h with h | h
  · rcases List.mem_append.mp h with h | h
    · exact .inl (List.mem_of_mem_take h)
    · exact .inr (List.mem_singleton.mp h)
  · exact .inl (List.mem_of_mem_drop h)
theorem sl_list {α : Type} (f : α → D) (xs : List α) (lo hi : Option Int) : slD (.list (xs.map f)) lo hi = some (.fr ((cutD xs lo hi).map f)) := by
  rw [← cutD_map]; rfl
theorem sl_tup {α : Type} (f : α → D) (xs : List α) (lo hi : Option Int) : slD (.tuple (xs.map f)) lo hi = some (.sh (.tuple ((cutD xs lo hi).map f))) := by
  rw [← cutD_map]; rfl
theorem add_list {α : Type} {f : α → D} {xs ys : List α} (h : xs.length + ys.length ≤ 1000) : addD (.list (xs.map f)) (.list (ys.map f)) = some (.fr ((xs ++ ys).map f)) := by
  rw [addD_l, List.length_map, List.length_map, if_pos (lim_of h), List.map_append]
theorem add_tup {α : Type} {f : α → D} {xs ys : List α} (h : xs.length + ys.length ≤ 1000) : addD (.tuple (xs.map f)) (.tuple (ys.map f)) = some (.sh (.tuple ((xs ++ ys).map f))) := by
  show (if _ then _ else _) = _
  rw [List.length_map, List.length_map, if_pos (lim_of h), List.map_append]
theorem cutD_len {α : Type} (xs : List α) (lo hi : Option Int) : (cutD xs lo hi).length ≤ xs.length := by
  unfold Mi.cutD
  rw [List.length_take, List.length_drop]
  omega
theorem cutD_mem {α : Type} {xs : List α} {lo hi : Option Int} {x : α} (h : x ∈ cutD xs lo hi) : x ∈ xs := List.mem_of_mem_drop (List.mem_of_mem_take h)
def plD (P : List (List (List Int))) : D := .list (P.map lockD)
def PlOk (n : Nat) (P : List (List (List Int))) : Prop := P.length ≤ 20 ∧ ∀ L ∈ P, L.length = n
def moreR : MR := (mUn tupleD (mUn sortD (mBin addD (mBin ixD (mVar 6) (mVar 5)) (mIf (mCmp (fun a b => (inXD a b).map (!·)) (mVar 7) (mBin ixD (mVar 6) (mVar 5))) (mTup (aCons (mVar 7) aNil)) (mTup aNil)))))
theorem m_law_bent_eq : m_law_bent = (sSeq (sSet 4 (mCallIO phi_law_draw 0 (aCons (mUn lenD (mVar 1)) aNil)))
  (sSeq (sSet 5 (mCallIO phi_law_draw 0 (aCons (mVar 2) aNil)))
  (sSeq (sSet 6 (mBin ixD (mVar 1) (mVar 4)))
  (sSeq (sSet 7 (mCallIO phi_law_draw 0 (aCons (mVar 3) aNil)))
  (sSeq (sSet 8 moreR)
  (sSeq (sSet 9 (mLst (aCons (mBin addD (mBin addD (mSl (mVar 1) pNone (pSome (mVar 4))) (mLst (aCons (mBin addD (mBin addD (mSl (mVar 6) pNone (pSome (mVar 5))) (mTup (aCons (mVar 8) aNil))) (mSl (mVar 6) (pSome (mBin addD (mVar 5) (mC (.int 1)))) pNone)) aNil))) (mSl (mVar 1) (pSome (mBin addD (mVar 4) (mC (.int 1)))) pNone)) aNil)))
  (sSeq (sIf (mCmp gtD (mUn lenD (mBin ixD (mVar 6) (mVar 5))) (mC (.int 1)))
  (sSeq (sExpr (mAppend 9 (mBin addD (mBin addD (mSl (mVar 1) pNone (pSome (mVar 4))) (mLst (aCons (mBin addD (mBin addD (mSl (mVar 6) pNone (pSome (mVar 5))) (mTup (aCons (mSl (mBin ixD (mVar 6) (mVar 5)) pNone (pSome (mUn negD (mC (.int 1))))) aNil))) (mSl (mVar 6) (pSome (mBin addD (mVar 5) (mC (.int 1)))) pNone)) aNil))) (mSl (mVar 1) (pSome (mBin addD (mVar 4) (mC (.int 1)))) pNone))))
  sNil)
  sNil)
  (sSeq (sExpr (mAppend 9 (mBin addD (mBin addD (mSl (mVar 1) pNone (pSome (mVar 4))) (mLst (aCons (mBin addD (mBin addD (mSl (mVar 6) pNone (pSome (mVar 5))) (mTup (aCons (mTup (aCons (mVar 7) aNil)) aNil))) (mSl (mVar 6) (pSome (mBin addD (mVar 5) (mC (.int 1)))) pNone)) aNil))) (mSl (mVar 1) (pSome (mBin addD (mVar 4) (mC (.int 1)))) pNone))))
  (sSeq (sExpr (mAppend 9 (mBin addD (mSl (mVar 1) (pSome (mC (.int 1))) pNone) (mSl (mVar 1) pNone (pSome (mC (.int 1)))))))
  (sSeq (sIf (mCmp gtD (mUn lenD (mVar 1)) (mC (.int 1)))
  (sSeq (sExpr (mAppend 9 (mSl (mVar 1) pNone (pSome (mUn negD (mC (.int 1)))))))
  sNil)
  sNil)
  (sSeq (sExpr (mAppend 9 (mBin addD (mVar 1) (mSl (mVar 1) pNone (pSome (mC (.int 1)))))))
  (sSeq (sRet (mVar 9))
  sNil)))))))))))) := rfl
theorem bent_ok {ws : List D} {n : Nat} {m : Int} {Ls : List (List (List Int))} (b : BoxOk ws) (hL : ∀ L ∈ Ls, LkOk n 4 L) (hne : Ls ≠ []) (hl : Ls.length ≤ 6) (hn0 : 0 < n) (hn : n ≤ 4) (hm0 : 0 < m) :
    ∃ (Ps : List (List (List (List Int)))) (ws' : List D), phi_law_bent ws [.list (Ls.map lockD), .int (n : Int), .int m] = some (.fr (Ps.map plD), ws') ∧ BoxOk ws' ∧ (∀ P ∈ Ps, PlOk n P) ∧ Ps.length ≤ 6 := by
  have hl0 : 0 < Ls.length := by
    cases Ls with
    | nil => exact absurd rfl hne
    | cons _ _ => simp
  obtain ⟨a', w1, e1, b1, a0, a1⟩ := draw_ok (many := (Ls.length : Int)) b (by omega)
  obtain ⟨a, rfl⟩ : ∃ a : Nat, a' = (a : Int) := ⟨a'.toNat, by omega⟩
  obtain ⟨p', w2, e2, b2, p0, p1⟩ := draw_ok (many := (n : Int)) b1 (by omega)
  obtain ⟨p, rfl⟩ : ∃ p : Nat, p' = (p : Int) := ⟨p'.toNat, by omega⟩
  obtain ⟨y, w3, e3, b3, y0, y1⟩ := draw_ok (many := m) b2 hm0
  have ha : a < Ls.length := by omega
  obtain ⟨L, hLa, hLm⟩ : ∃ L, Ls[a]? = some L ∧ L ∈ Ls := ⟨Ls[a], List.getElem?_eq_getElem ha, List.getElem_mem ha⟩
  have hLk := hL L hLm
  have eL : ixD (.list (Ls.map lockD)) (.int (a : Int)) = some (.sh (lockD L)) := by
    rw [ixD_l, atI_nat', List.getElem?_map, hLa]; rfl
  have hp : p < L.length := by rw [hLk.len]; omega
  have ep := ix_pin (L := L) (i := p) hp
  have hpm := pin_mem hp
  have hpl := sub_rng (hLk.up _ hpm) (hLk.rg _ hpm)
  have ell := len_list lockD Ls
  have elp := lenD_key (pin L p)
  -- the lock with another pin, the plan with another lock
  have s1 := sl_tup keyD L none (some (p : Int))
  rw [cut_to _ (by omega)] at s1
  have s2 := sl_tup keyD L (some ((p : Int) + 1)) none
  rw [cut_from _ (by omega)] at s2
  have t1 := sl_list lockD Ls none (some (a : Int))
  rw [cut_to _ (by omega)] at t1
  have t2 := sl_list lockD Ls (some ((a : Int) + 1)) none
  rw [cut_from _ (by omega)] at t2
  have i1 : ((p : Int) + 1).toNat = p + 1 := by omega
  have i2 : ((a : Int) + 1).toNat = a + 1 := by omega
  have i3 : ((p : Int)).toNat = p := by omega
  have i4 : ((a : Int)).toNat = a := by omega
  rw [i1] at s2
  rw [i2] at t2
  rw [i3] at s1
  rw [i4] at t1
  have hLl := hLk.len
  have q1 : ∀ x : List Int, addD (.tuple ((L.take p).map keyD)) (.tuple [keyD x]) = some (.sh (.tuple ((L.take p ++ [x]).map keyD))) := fun x => add_tup (f := keyD) (ys := [x]) (by rw [List.length_take, List.length_singleton]; omega)
  have q2 : ∀ x : List Int, addD (.tuple ((L.take p ++ [x]).map keyD)) (.tuple ((L.drop (p + 1)).map keyD)) = some (.sh (lockD (setG L p x))) := fun x => add_tup (f := keyD) (by rw [List.length_append, List.length_take, List.length_singleton, List.length_drop]; omega)
  have q3 : ∀ x : List (List Int), addD (.list ((Ls.take a).map lockD)) (.list [lockD x]) = some (.fr ((Ls.take a ++ [x]).map lockD)) := fun x => add_list (f := lockD) (ys := [x]) (by rw [List.length_take, List.length_singleton]; omega)
  have q4 : ∀ x : List (List Int), addD (.list ((Ls.take a ++ [x]).map lockD)) (.list ((Ls.drop (a + 1)).map lockD)) = some (.fr ((setG Ls a x).map lockD)) := fun x => add_list (f := lockD) (by rw [List.length_append, List.length_take, List.length_singleton, List.length_drop]; omega)
  have hset : ∀ x : List Int, PlOk n (setG Ls a (setG L p x)) := fun x => ⟨by rw [setG_len ha]; omega, fun M hM => by
    rcases setG_mem hM with hM | rfl
    · exact (hL M hM).len
    · rw [setG_len hp, hLl]⟩
  -- the others
  have d1 := sl_list lockD Ls (some 1) none
  have d2 := sl_list lockD Ls none (some 1)
  have d4 := sl_list lockD Ls none (some (-1))
  have c1 := cutD_len Ls (some 1) none
  have c2 := cutD_len Ls none (some 1)
  have c4 := cutD_len Ls none (some (-1))
  have d3 : addD (.list ((cutD Ls (some 1) none).map lockD)) (.list ((cutD Ls none (some 1)).map lockD)) = some (.fr ((cutD Ls (some 1) none ++ cutD Ls none (some 1)).map lockD)) := add_list (by omega)
  have d6 : addD (.list (Ls.map lockD)) (.list ((cutD Ls none (some 1)).map lockD)) = some (.fr ((Ls ++ cutD Ls none (some 1)).map lockD)) := add_list (by omega)
  have o3 : PlOk n (cutD Ls (some 1) none ++ cutD Ls none (some 1)) := ⟨by rw [List.length_append]; omega, fun M hM => by
    rcases List.mem_append.mp hM with hM | hM <;> exact (hL M (cutD_mem hM)).len⟩
  have o4 : PlOk n (cutD Ls none (some (-1))) := ⟨by omega, fun M hM => (hL M (cutD_mem hM)).len⟩
  have o6 : PlOk n (Ls ++ cutD Ls none (some 1)) := ⟨by rw [List.length_append]; omega, fun M hM => by
    rcases List.mem_append.mp hM with hM | hM
    · exact (hL M hM).len
    · exact (hL M (cutD_mem hM)).len⟩
  have s5 := sl_tup PyData.int (pin L p) none (some (-1))
  have s5 : slD (keyD (pin L p)) none (some (-1)) = some (.sh (keyD (cutD (pin L p) none (some (-1))))) := s5
  -- the pin with a depth more
  obtain ⟨q, hq⟩ : ∃ q, moreR [.io w3, .sh (.list (Ls.map lockD)), .sh (.int (n : Int)), .sh (.int m), .sh (.int (a : Int)), .sh (.int (p : Int)), .sh (lockD L), .sh (.int y), .no, .no] = some (.sh (keyD q), [.io w3, .sh (.list (Ls.map lockD)), .sh (.int (n : Int)), .sh (.int m), .sh (.int (a : Int)), .sh (.int (p : Int)), .sh (lockD L), .sh (.int y), .no, .no]) := by
    have g3 := inX_key y (pin L p)
    have g4 := addD_keys (p := pin L p) (q := []) (by rw [List.length_nil]; omega)
    have g4 : addD (keyD (pin L p)) (.tuple []) = some (.sh (keyD (pin L p ++ []))) := g4
    have g5 := addD_keys (p := pin L p) (q := [y]) (by rw [List.length_singleton]; omega)
    have g5 : addD (keyD (pin L p)) (.tuple [.int y]) = some (.sh (keyD (pin L p ++ [y]))) := g5
    have r4 := sortD_key (pin L p ++ [])
    have r5 := sortD_key (pin L p ++ [y])
    have u4 := tupleD_key (srtL (pin L p ++ []))
    have u5 := tupleD_key (srtL (pin L p ++ [y]))
    have z1 : 1 ≤ lim := lim_of (by omega)
    have z0 : 0 ≤ lim := Nat.zero_le _
    generalize pin L p = pp at *
    generalize Ls.map lockD = ld at *
    generalize lockD L = ll at *
    by_cases hy : y ∈ pp
    · rw [decide_eq_true hy] at g3
      refine ⟨srtL (pp ++ []), ?_⟩
      generalize (srtL (pp ++ [])).map PyData.int = x0 at *
      generalize keyD (pp ++ []) = x1 at *
      generalize keyD pp = x2 at *
      unfold moreR
      simp [-tupleD_l, -List.append_nil, ep, g3, g4, r4, u4, z0]
    · rw [decide_eq_false hy] at g3
      refine ⟨srtL (pp ++ [y]), ?_⟩
      generalize (srtL (pp ++ [y])).map PyData.int = x0 at *
      generalize keyD (pp ++ [y]) = x1 at *
      generalize keyD pp = x2 at *
      unfold moreR
      simp [-tupleD_l, ep, g3, g5, r5, u5, z1]
  have z1 : 1 ≤ lim := lim_of (by omega)
  have z1' : 1 < lim := lim_lt' (by omega)
  have z2 : 2 < lim := lim_lt' (by omega)
  have z3 : 3 < lim := lim_lt' (by omega)
  have z4 : 4 < lim := lim_lt' (by omega)
  have z5 : 5 < lim := lim_lt' (by omega)
  have k1 := hset q
  have k2 := hset (cutD (pin L p) none (some (-1)))
  have k3 := hset [y]
  have q1q := q1 q
  have q2q := q2 q
  have q3q := q3 (setG L p q)
  have q4q := q4 (setG L p q)
  have q1c := q1 (cutD (pin L p) none (some (-1)))
  have q2c := q2 (cutD (pin L p) none (some (-1)))
  have q3c := q3 (setG L p (cutD (pin L p) none (some (-1))))
  have q4c := q4 (setG L p (cutD (pin L p) none (some (-1))))
  have q1y := q1 [y]
  have q2y := q2 [y]
  have q3y := q3 (setG L p [y])
  have q4y := q4 (setG L p [y])
  rw [show keyD [y] = .tuple [.int y] from rfl] at q1y
  have s1 : slD (lockD L) none (some (p : Int)) = some (.sh (.tuple ((L.take p).map keyD))) := s1
  have s2 : slD (lockD L) (some ((p : Int) + 1)) none = some (.sh (.tuple ((L.drop (p + 1)).map keyD))) := s2
  clear q1 q2 q3 q4 hset
  have fin : ∀ (Ps : List (List (List (List Int)))) (x : D), phi_law_bent ws [.list (Ls.map lockD), .int (n : Int), .int m] = some (.fr (Ps.map plD), w3) → (∀ P ∈ Ps, PlOk n P) → Ps.length ≤ 6 → ∃ (Ps : List (List (List (List Int)))) (ws' : List D), phi_law_bent ws [.list (Ls.map lockD), .int (n : Int), .int m] = some (.fr (Ps.map plD), ws') ∧ BoxOk ws' ∧ (∀ P ∈ Ps, PlOk n P) ∧ Ps.length ≤ 6 := fun Ps _ h1 h2 h3 => ⟨Ps, w3, h1, b3, h2, h3⟩
  by_cases hc1 : 1 < ((pin L p).length : Int) <;> by_cases hc2 : 1 < (Ls.length : Int)
  · refine fin [setG Ls a (setG L p q), setG Ls a (setG L p (cutD (pin L p) none (some (-1)))), setG Ls a (setG L p [y]), cutD Ls (some 1) none ++ cutD Ls none (some 1), cutD Ls none (some (-1)), Ls ++ cutD Ls none (some 1)] .none ?_ (fun P hP => by
      simp only [List.mem_cons, List.not_mem_nil, or_false] at hP
      rcases hP with rfl | rfl | rfl | rfl | rfl | rfl <;> assumption) (by simp)
    clear fin k1 k2 k3 o3 o4 o6 c1 c2 c4
    rw [List.map_cons, List.map_cons, List.map_cons, List.map_cons, List.map_cons, List.map_cons, List.map_nil]
    unfold plD
    generalize (Ls ++ cutD Ls none (some 1)).map lockD = v6 at *
    generalize (cutD Ls none (some (-1))).map lockD = v5 at *
    generalize (cutD Ls (some 1) none ++ cutD Ls none (some 1)).map lockD = v4 at *
    generalize (cutD Ls (some 1) none).map lockD = v4a at *
    generalize (cutD Ls none (some 1)).map lockD = v4b at *
    generalize (setG Ls a (setG L p [y])).map lockD = v3 at *
    generalize (setG Ls a (setG L p (cutD (pin L p) none (some (-1))))).map lockD = v2 at *
    generalize (setG Ls a (setG L p q)).map lockD = v1 at *
    generalize lockD (setG L p q) = x1 at *
    generalize lockD (setG L p [y]) = x3 at *
    generalize lockD (setG L p (cutD (pin L p) none (some (-1)))) = x2 at *
    generalize (Ls.take a ++ [setG L p q]).map lockD = y1' at *
    generalize (Ls.take a ++ [setG L p [y]]).map lockD = y3' at *
    generalize (Ls.take a ++ [setG L p (cutD (pin L p) none (some (-1)))]).map lockD = y2' at *
    generalize (Ls.take a).map lockD = y4' at *
    generalize (Ls.drop (a + 1)).map lockD = y5' at *
    generalize (L.take p ++ [q]).map keyD = w1' at *
    generalize (L.take p ++ [[y]]).map keyD = w3' at *
    generalize (L.take p ++ [cutD (pin L p) none (some (-1))]).map keyD = w2' at *
    generalize (L.take p).map keyD = w4' at *
    generalize (L.drop (p + 1)).map keyD = w5' at *
    generalize keyD (cutD (pin L p) none (some (-1))) = w6' at *
    generalize keyD (pin L p) = w7' at *
    generalize keyD q = w8' at *
    generalize Ls.map lockD = ld at *
    generalize lockD L = ll at *
    unfold phi_law_bent
    rw [runIO_eq (by rfl), m_law_bent_eq]
    simp [-addD_l, -slD_l, -tupleD_l, -lenD_l, e1, e2, e3, eL, ep, hq, ell, elp, s1, s2, s5, t1, t2, q1q, q2q, q3q, q4q, q1c, q2c, q3c, q4c, q1y, q2y, q3y, q4y, d1, d2, d3, d4, d6, hc1, hc2, z1, z1', z2, z3, z4, z5]
  · refine fin [setG Ls a (setG L p q), setG Ls a (setG L p (cutD (pin L p) none (some (-1)))), setG Ls a (setG L p [y]), cutD Ls (some 1) none ++ cutD Ls none (some 1), Ls ++ cutD Ls none (some 1)] .none ?_ (fun P hP => by
      simp only [List.mem_cons, List.not_mem_nil, or_false] at hP
      rcases hP with rfl | rfl | rfl | rfl | rfl <;> assumption) (by simp)
    clear fin k1 k2 k3 o3 o4 o6 c1 c2 c4
    rw [List.map_cons, List.map_cons, List.map_cons, List.map_cons, List.map_cons, List.map_nil]
    unfold plD
    generalize (Ls ++ cutD Ls none (some 1)).map lockD = v6 at *
    generalize (cutD Ls none (some (-1))).map lockD = v5 at *
    generalize (cutD Ls (some 1) none ++ cutD Ls none (some 1)).map lockD = v4 at *
    generalize (cutD Ls (some 1) none).map lockD = v4a at *
    generalize (cutD Ls none (some 1)).map lockD = v4b at *
    generalize (setG Ls a (setG L p [y])).map lockD = v3 at *
    generalize (setG Ls a (setG L p (cutD (pin L p) none (some (-1))))).map lockD = v2 at *
    generalize (setG Ls a (setG L p q)).map lockD = v1 at *
    generalize lockD (setG L p q) = x1 at *
    generalize lockD (setG L p [y]) = x3 at *
    generalize lockD (setG L p (cutD (pin L p) none (some (-1)))) = x2 at *
    generalize (Ls.take a ++ [setG L p q]).map lockD = y1' at *
    generalize (Ls.take a ++ [setG L p [y]]).map lockD = y3' at *
    generalize (Ls.take a ++ [setG L p (cutD (pin L p) none (some (-1)))]).map lockD = y2' at *
    generalize (Ls.take a).map lockD = y4' at *
    generalize (Ls.drop (a + 1)).map lockD = y5' at *
    generalize (L.take p ++ [q]).map keyD = w1' at *
    generalize (L.take p ++ [[y]]).map keyD = w3' at *
    generalize (L.take p ++ [cutD (pin L p) none (some (-1))]).map keyD = w2' at *
    generalize (L.take p).map keyD = w4' at *
    generalize (L.drop (p + 1)).map keyD = w5' at *
    generalize keyD (cutD (pin L p) none (some (-1))) = w6' at *
    generalize keyD (pin L p) = w7' at *
    generalize keyD q = w8' at *
    generalize Ls.map lockD = ld at *
    generalize lockD L = ll at *
    unfold phi_law_bent
    rw [runIO_eq (by rfl), m_law_bent_eq]
    simp [-addD_l, -slD_l, -tupleD_l, -lenD_l, e1, e2, e3, eL, ep, hq, ell, elp, s1, s2, s5, t1, t2, q1q, q2q, q3q, q4q, q1c, q2c, q3c, q4c, q1y, q2y, q3y, q4y, d1, d2, d3, d4, d6, hc1, hc2, z1, z1', z2, z3, z4, z5]
  · refine fin [setG Ls a (setG L p q), setG Ls a (setG L p [y]), cutD Ls (some 1) none ++ cutD Ls none (some 1), cutD Ls none (some (-1)), Ls ++ cutD Ls none (some 1)] .none ?_ (fun P hP => by
      simp only [List.mem_cons, List.not_mem_nil, or_false] at hP
      rcases hP with rfl | rfl | rfl | rfl | rfl <;> assumption) (by simp)
    clear fin k1 k2 k3 o3 o4 o6 c1 c2 c4
    rw [List.map_cons, List.map_cons, List.map_cons, List.map_cons, List.map_cons, List.map_nil]
    unfold plD
    generalize (Ls ++ cutD Ls none (some 1)).map lockD = v6 at *
    generalize (cutD Ls none (some (-1))).map lockD = v5 at *
    generalize (cutD Ls (some 1) none ++ cutD Ls none (some 1)).map lockD = v4 at *
    generalize (cutD Ls (some 1) none).map lockD = v4a at *
    generalize (cutD Ls none (some 1)).map lockD = v4b at *
    generalize (setG Ls a (setG L p [y])).map lockD = v3 at *
    generalize (setG Ls a (setG L p (cutD (pin L p) none (some (-1))))).map lockD = v2 at *
    generalize (setG Ls a (setG L p q)).map lockD = v1 at *
    generalize lockD (setG L p q) = x1 at *
    generalize lockD (setG L p [y]) = x3 at *
    generalize lockD (setG L p (cutD (pin L p) none (some (-1)))) = x2 at *
    generalize (Ls.take a ++ [setG L p q]).map lockD = y1' at *
    generalize (Ls.take a ++ [setG L p [y]]).map lockD = y3' at *
    generalize (Ls.take a ++ [setG L p (cutD (pin L p) none (some (-1)))]).map lockD = y2' at *
    generalize (Ls.take a).map lockD = y4' at *
    generalize (Ls.drop (a + 1)).map lockD = y5' at *
    generalize (L.take p ++ [q]).map keyD = w1' at *
    generalize (L.take p ++ [[y]]).map keyD = w3' at *
    generalize (L.take p ++ [cutD (pin L p) none (some (-1))]).map keyD = w2' at *
    generalize (L.take p).map keyD = w4' at *
    generalize (L.drop (p + 1)).map keyD = w5' at *
    generalize keyD (cutD (pin L p) none (some (-1))) = w6' at *
    generalize keyD (pin L p) = w7' at *
    generalize keyD q = w8' at *
    generalize Ls.map lockD = ld at *
    generalize lockD L = ll at *
    unfold phi_law_bent
    rw [runIO_eq (by rfl), m_law_bent_eq]
    simp [-addD_l, -slD_l, -tupleD_l, -lenD_l, e1, e2, e3, eL, ep, hq, ell, elp, s1, s2, s5, t1, t2, q1q, q2q, q3q, q4q, q1c, q2c, q3c, q4c, q1y, q2y, q3y, q4y, d1, d2, d3, d4, d6, hc1, hc2, z1, z1', z2, z3, z4, z5]
  · refine fin [setG Ls a (setG L p q), setG Ls a (setG L p [y]), cutD Ls (some 1) none ++ cutD Ls none (some 1), Ls ++ cutD Ls none (some 1)] .none ?_ (fun P hP => by
      simp only [List.mem_cons, List.not_mem_nil, or_false] at hP
      rcases hP with rfl | rfl | rfl | rfl <;> assumption) (by simp)
    clear fin k1 k2 k3 o3 o4 o6 c1 c2 c4
    rw [List.map_cons, List.map_cons, List.map_cons, List.map_cons, List.map_nil]
    unfold plD
    generalize (Ls ++ cutD Ls none (some 1)).map lockD = v6 at *
    generalize (cutD Ls none (some (-1))).map lockD = v5 at *
    generalize (cutD Ls (some 1) none ++ cutD Ls none (some 1)).map lockD = v4 at *
    generalize (cutD Ls (some 1) none).map lockD = v4a at *
    generalize (cutD Ls none (some 1)).map lockD = v4b at *
    generalize (setG Ls a (setG L p [y])).map lockD = v3 at *
    generalize (setG Ls a (setG L p (cutD (pin L p) none (some (-1))))).map lockD = v2 at *
    generalize (setG Ls a (setG L p q)).map lockD = v1 at *
    generalize lockD (setG L p q) = x1 at *
    generalize lockD (setG L p [y]) = x3 at *
    generalize lockD (setG L p (cutD (pin L p) none (some (-1)))) = x2 at *
    generalize (Ls.take a ++ [setG L p q]).map lockD = y1' at *
    generalize (Ls.take a ++ [setG L p [y]]).map lockD = y3' at *
    generalize (Ls.take a ++ [setG L p (cutD (pin L p) none (some (-1)))]).map lockD = y2' at *
    generalize (Ls.take a).map lockD = y4' at *
    generalize (Ls.drop (a + 1)).map lockD = y5' at *
    generalize (L.take p ++ [q]).map keyD = w1' at *
    generalize (L.take p ++ [[y]]).map keyD = w3' at *
    generalize (L.take p ++ [cutD (pin L p) none (some (-1))]).map keyD = w2' at *
    generalize (L.take p).map keyD = w4' at *
    generalize (L.drop (p + 1)).map keyD = w5' at *
    generalize keyD (cutD (pin L p) none (some (-1))) = w6' at *
    generalize keyD (pin L p) = w7' at *
    generalize keyD q = w8' at *
    generalize Ls.map lockD = ld at *
    generalize lockD L = ll at *
    unfold phi_law_bent
    rw [runIO_eq (by rfl), m_law_bent_eq]
    simp [-addD_l, -slD_l, -tupleD_l, -lenD_l, e1, e2, e3, eL, ep, hq, ell, elp, s1, s2, s5, t1, t2, q1q, q2q, q3q, q4q, q1c, q2c, q3c, q4c, q1y, q2y, q3y, q4y, d1, d2, d3, d4, d6, hc1, hc2, z1, z1', z2, z3, z4, z5]
end Law
/-! k63: plans asked, whole -/
namespace Law
open PySem PySem.Spec PyProof.Rows L2 Mi
set_option maxRecDepth 100000
set_option maxHeartbeats 4000000
theorem ok_nats {j : Nat} {xs : List Nat} (hl : xs.length ≤ 900) (h : ∀ i ∈ xs, i ≤ 10000) : okD (j + 1) (lstN xs) := ⟨by
  rw [List.length_map]
  show _ ≤ 1000000
  omega, plain_all fun d hd => by
  obtain ⟨i, _, rfl⟩ := List.mem_map.mp hd
  rfl, fun d hd => by
  obtain ⟨i, hi, rfl⟩ := List.mem_map.mp hd
  have := h i hi
  cases j <;> exact i64_of (by omega) (by omega)⟩
theorem letIn_lt {ks L : List (List Int)} {i : Nat} (h : i ∈ letIn ks L) : i < ks.length := List.mem_range.mp (List.mem_filter.mp h).1
theorem letIn_len (ks L : List (List Int)) : (letIn ks L).length ≤ ks.length := by
  have := List.length_filter_le (fun i => fits (ky ks i) L) (List.range ks.length)
  rw [List.length_range] at this
  exact this
theorem same_told {ks : List (List Int)} {P : List (List (List Int))} (hk : ks.length ≤ 100) (hP : P.length ≤ 100) : phi_law_same 12 [.list (P.map fun L => lstN (letIn ks L)), .list (P.map fun L => lstN (letIn ks L))] = some (.sh (.bool true)) := same_ok 11 _ ⟨by
  rw [List.length_map]
  show _ ≤ 1000000
  omega, plain_all fun d hd => by
  obtain ⟨L, _, rfl⟩ := List.mem_map.mp hd
  exact plain_all fun d hd => by
    obtain ⟨i, _, rfl⟩ := List.mem_map.mp hd
    rfl, fun d hd => by
  obtain ⟨L, _, rfl⟩ := List.mem_map.mp hd
  have h1 := letIn_len ks L
  exact ok_nats (by omega) fun i hi => by have := letIn_lt hi; omega⟩
section
variable {ks : List (List Int)} {n : Nat} {m : Int} {W : List (List Nat)} {sd : D}
theorem plan_turn {w : List D} {P : List (List (List Int))} {m8 m9 m10 m11 m12 : M} (h : WOk ks n W) (hP : PlOk n P) (h9 : Shy m9) (h10 : freeM (some m10) = true) (h11 : freeM (some m11) = true) (h12 : freeM (some m12) = true) :
    ∃ m9' m10' m11' m12', bnd (gNm 9 (plD P) [.io w, .sh (.list (ks.map keyD)), .sh (.int (n : Int)), .sh (.int m), .sh (.list (W.map tupN)), .sh (.list (ks.map keyD)), .sh (.list (W.map tupN)), .sh sd, m8, m9, m10, m11, m12, .no, .no, .no]) b_law_planned_1 = some (.nx, [.io w, .sh (.list (ks.map keyD)), .sh (.int (n : Int)), .sh (.int m), .sh (.list (W.map tupN)), .sh (.list (ks.map keyD)), .sh (.list (W.map tupN)), .sh sd, m8, m9', m10', m11', m12', .no, .no, .no]) ∧ Shy m9' ∧ freeM (some m10') = true ∧ freeM (some m11') = true ∧ freeM (some m12') = true := by
  have hks := h.ks10
  have hn := h.n4
  have hrow := fun k hk => (h.row k hk).1
  have hPl := hP.1
  obtain ⟨bq, he⟩ := eq_some (f := fun L => tupN (letIn ks L)) (g := tupN) (fun L => lay_tupN (letIn ks L)) lay_tupN P W
  have e1 := is_plan_ok (n := n) (ks := ks) (Ls := P) (W := W.map tupN) (b := bq) hrow hP.2 (by omega) (by omega) (by omega) he
  have e2 := strange_ok (n := n) (ks := ks) (Ls := P) hrow hP.2 (by omega) (by omega) (by omega)
  have e3 := same_told (ks := ks) (P := P) (by omega) (by omega)
  have e4 := same_bool bq
  have e5 : neD (.list (P.map lockD)) (.list (P.map lockD)) = some false := neD_self (shaped_list lay_lock')
  have e6 : ∀ (m10 : M), lcGo (gNm 14) mYes l_law_planned_2 [14] (P.map lockD) [.io w, .sh (.list (ks.map keyD)), .sh (.int (n : Int)), .sh (.int m), .sh (.list (W.map tupN)), .sh (.list (ks.map keyD)), .sh (.list (W.map tupN)), .sh sd, m8, .sh (.list (P.map lockD)), m10, m11, m12, .no, .no, .no] [] = some (P.map fun L => tupN (letIn ks L), [.io w, .sh (.list (ks.map keyD)), .sh (.int (n : Int)), .sh (.int m), .sh (.list (W.map tupN)), .sh (.list (ks.map keyD)), .sh (.list (W.map tupN)), .sh sd, m8, .sh (.list (P.map lockD)), m10, m11, m12, .no, .no, .no]) := fun m10 =>
    lc_map (h := fun L => tupN (letIn ks L)) (by omega) fun L hL => by
      have ei := let_in_ok (n := n) (ks := ks) (L := L) hrow (hP.2 L hL) (by omega) (by omega)
      generalize tupN (letIn ks L) = tl at *
      generalize lockD L = ll at *
      generalize ks.map keyD = kd at *
      generalize W.map tupN = wd at *
      generalize P.map lockD = pd at *
      unfold l_law_planned_2
      simp [ei]
  have e7 : ∀ (m12 : M), lcGo (gNm 15) mYes l_law_planned_1 [15] (P.map fun L => tupN (letIn ks L)) [.io w, .sh (.list (ks.map keyD)), .sh (.int (n : Int)), .sh (.int m), .sh (.list (W.map tupN)), .sh (.list (ks.map keyD)), .sh (.list (W.map tupN)), .sh sd, m8, .sh (.list (P.map lockD)), .sh (.list (P.map fun L => tupN (letIn ks L))), .sh (.list (P.map lockD)), m12, .no, .no, .no] [] = some (P.map fun L => lstN (letIn ks L), [.io w, .sh (.list (ks.map keyD)), .sh (.int (n : Int)), .sh (.int m), .sh (.list (W.map tupN)), .sh (.list (ks.map keyD)), .sh (.list (W.map tupN)), .sh sd, m8, .sh (.list (P.map lockD)), .sh (.list (P.map fun L => tupN (letIn ks L))), .sh (.list (P.map lockD)), m12, .no, .no, .no]) := fun m12 =>
    lc_map (h := fun L => lstN (letIn ks L)) (by omega) fun L hL => by
      have ei := listD_nats (letIn ks L)
      unfold lstN
      generalize tupN (letIn ks L) = tl at *
      generalize (letIn ks L).map intN = tl2 at *
      generalize P.map (fun L => tupN (letIn ks L)) = pt at *
      generalize ks.map keyD = kd at *
      generalize W.map tupN = wd at *
      generalize P.map lockD = pd at *
      unfold l_law_planned_1
      simp [ei]
  refine ⟨.sh (.list (P.map lockD)), .sh (.list (P.map fun L => tupN (letIn ks L))), .sh (.list (P.map lockD)), .own (P.map fun L => lstN (letIn ks L)), ?_, .sh _, rfl, rfl, rfl⟩
  unfold plD
  generalize P.map (fun L => lstN (letIn ks L)) = pl at *
  generalize P.map (fun L => tupN (letIn ks L)) = pt at *
  generalize ks.map keyD = kd at *
  generalize W.map tupN = wd at *
  generalize P.map lockD = pd at *
  unfold b_law_planned_1
  simp [shy_free h9, h10, h11, h12, he, e1, e2, e3, e4, e5, e6, e7]
end
theorem least_ok {n : Nat} {ks : List (List Int)} : LkOk n 4 (leastL n ks) := by
  unfold leastL
  refine ⟨by rw [List.length_map, List.length_range], fun p hp => ?_, fun p hp d hd => ?_⟩
  · obtain ⟨i, _, rfl⟩ := List.mem_map.mp hp
    exact (rng_lt 4).filter _
  · obtain ⟨i, _, rfl⟩ := List.mem_map.mp hp
    exact rng_mem (List.mem_filter.mp hd).1
theorem planned_ok {ws : List D} {ks : List (List Int)} {n : Nat} {m : Int} (b : BoxOk ws) (row : ∀ k ∈ ks, k.length = n ∧ ∀ d ∈ k, 0 ≤ d ∧ d < 4) (hk0 : 0 < ks.length) (hl : ks.length ≤ 6) (hn0 : 0 < n) (hn : n ≤ 4) (hm0 : 0 < m) :
    ∃ ws', phi_law_planned ws [.list (ks.map keyD), .int (n : Int), .int m] = some (.sh (.bool true), ws') ∧ BoxOk ws' := by
  obtain ⟨W, w1, e1, b1, hW, hWl, hW0⟩ := wanted_ok b row hk0 hl hn
  have e2 := law_stranger_ok hW
  have e3 := first_stranger_ok hW
  have e4 := can_plan_ok hW
  obtain ⟨hs1, hs2⟩ := strR_D ks n W
  rw [hs1] at e2 e3
  have s1 : phi_law_same 12 [strD ks n W, strD ks n W] = some (.sh (.bool true)) := by
    rcases hs2 with h | ⟨p, far, h1, h2, h⟩
    · rw [h]; exact same_none
    · rw [h]; exact same_pair (i64_of (by omega) (by omega)) (i64_of (by omega) (by omega))
  have s2 := same_bool (noneD (strD ks n W))
  have hLs : ∀ L ∈ W.map (lockOf ks n), LkOk n 4 L := fun L hL => by
    obtain ⟨s, _, rfl⟩ := List.mem_map.mp hL
    exact least_ok
  obtain ⟨Ps, w2, e5, b2, hPs, hPl⟩ := bent_ok (m := m) (Ls := W.map (lockOf ks n)) b1 hLs (by
    intro z
    rw [List.map_eq_nil_iff] at z
    rw [z] at hW0
    exact absurd hW0 (by decide)) (by rw [List.length_map]; omega) hn0 hn hm0
  have hP0 : PlOk n (W.map (lockOf ks n)) := ⟨by rw [List.length_map]; omega, fun L hL => (hLs L hL).len⟩
  generalize strD ks n W = sd at *
  have e6 : lcGo (gNm 9) mYes l_law_planned_4 [9] (W.map tupN) [.io w1, .sh (.list (ks.map keyD)), .sh (.int (n : Int)), .sh (.int m), .sh (.list (W.map tupN)), .sh (.list (ks.map keyD)), .sh (.list (W.map tupN)), .sh sd, .no, .no, .no, .no, .no, .no, .no, .no] [] = some ((W.map (lockOf ks n)).map lockD, [.io w1, .sh (.list (ks.map keyD)), .sh (.int (n : Int)), .sh (.int m), .sh (.list (W.map tupN)), .sh (.list (ks.map keyD)), .sh (.list (W.map tupN)), .sh sd, .no, .no, .no, .no, .no, .no, .no, .no]) := by
    rw [List.map_map]
    refine lc_map (h := fun s => lockD (lockOf ks n s)) (by omega) fun s hs => ?_
    have e7 := (lock_of_ok (n := n) hW.row (by omega) (hW.ne s hs) (hW.len s hs) (hW.rg s hs)).2
    have lc : lcGo (gNm 13) mYes l_law_planned_3 [13] (s.map intN) [.io w1, .sh (.list (ks.map keyD)), .sh (.int (n : Int)), .sh (.int m), .sh (.list (W.map tupN)), .sh (.list (ks.map keyD)), .sh (.list (W.map tupN)), .sh sd, .no, .sh (tupN s), .no, .no, .no, .no, .no, .no] [] = some ((s.map (ky ks)).map keyD, [.io w1, .sh (.list (ks.map keyD)), .sh (.int (n : Int)), .sh (.int m), .sh (.list (W.map tupN)), .sh (.list (ks.map keyD)), .sh (.list (W.map tupN)), .sh sd, .no, .sh (tupN s), .no, .no, .no, .no, .no, .no]) := by
      rw [List.map_map]
      refine lc_map (h := fun i => keyD (ky ks i)) (by have := hW.len s hs; omega) fun i hi => ?_
      have ei := ix_ks (hW.rg s hs i hi)
      generalize tupN s = ts at *
      generalize ks.map keyD = kd at *
      generalize W.map tupN = wd at *
      generalize keyD (ky ks i) = kk at *
      unfold l_law_planned_3 intN
      simp [ei]
    have it : itemsD (tupN s) = some (s.map intN) := rfl
    generalize (s.map (ky ks)).map keyD = sk at *
    generalize s.map intN = sn at *
    generalize tupN s = ts at *
    generalize ks.map keyD = kd at *
    generalize W.map tupN = wd at *
    generalize lockD (lockOf ks n s) = ll at *
    unfold l_law_planned_4
    simp [it, lc, e7]
  obtain ⟨ρ', e8, m9', m10', m11', m12', hρ, g9, g10, g11, g12⟩ := loops (S := fun ρ => ∃ m9 m10 m11 m12, ρ = [.io w2, .sh (.list (ks.map keyD)), .sh (.int (n : Int)), .sh (.int m), .sh (.list (W.map tupN)), .sh (.list (ks.map keyD)), .sh (.list (W.map tupN)), .sh sd, .sh (.list ((W.map (lockOf ks n)).map lockD)), m9, m10, m11, m12, .no, .no, .no] ∧ Shy m9 ∧ freeM (some m10) = true ∧ freeM (some m11) = true ∧ freeM (some m12) = true) (g := gNm 9) (b := b_law_planned_1) (ok := fun d => ∃ P, d = plD P ∧ PlOk n P) (fun ρ d ⟨P, hd, hP⟩ ⟨m9, m10, m11, m12, hρ, h9, h10, h11, h12⟩ => by
      subst hρ hd
      obtain ⟨m9', m10', m11', m12', e, g9, g10, g11, g12⟩ := plan_turn (w := w2) (m := m) (sd := sd) (m8 := .sh (.list ((W.map (lockOf ks n)).map lockD))) hW hP h9 h10 h11 h12
      exact ⟨_, e, _, _, _, _, rfl, g9, g10, g11, g12⟩) (ds := plD (W.map (lockOf ks n)) :: Ps.map plD) (ρ := [.io w2, .sh (.list (ks.map keyD)), .sh (.int (n : Int)), .sh (.int m), .sh (.list (W.map tupN)), .sh (.list (ks.map keyD)), .sh (.list (W.map tupN)), .sh sd, .sh (.list ((W.map (lockOf ks n)).map lockD)), .no, .no, .no, .no, .no, .no, .no]) (fun d hd => by
      rcases List.mem_cons.mp hd with rfl | hd
      · exact ⟨_, rfl, hP0⟩
      · obtain ⟨P, hP, rfl⟩ := List.mem_map.mp hd
        exact ⟨P, rfl, hPs P hP⟩) ⟨.no, .no, .no, .no, rfl, .no, rfl, rfl, rfl⟩
  subst hρ
  have f1 : eqD (.list (ks.map keyD)) (.list (ks.map keyD)) = some true := eqD_self (shaped_list lay_key')
  have f2 : eqD (.list (W.map tupN)) (.list (W.map tupN)) = some true := eqD_self (shaped_list lay_tupN)
  have f3 : addD (.list [plD (W.map (lockOf ks n))]) (.list (Ps.map plD)) = some (.fr (plD (W.map (lockOf ks n)) :: Ps.map plD)) := by
    rw [addD_l, List.length_map, if_pos (by rw [List.length_singleton]; exact lim_of (by omega))]
    rfl
  refine ⟨w2, ?_, b2⟩
  have z1 : 1 ≤ lim := lim_of (by omega)
  unfold plD at e8 f3
  rw [show (fun P : List (List (List Int)) => PyData.list (P.map lockD)) = plD from rfl] at e8 f3
  generalize Ps.map plD = pd at *
  generalize (W.map (lockOf ks n)).map lockD = ld at *
  generalize ks.map keyD = kd at *
  generalize W.map tupN = wd at *
  unfold phi_law_planned
  rw [runIO_eq (by rfl)]
  unfold m_law_planned
  simp [-addD_l, -forGo_cons, e1, e2, e3, e4, s1, s2, e6, e5, e8, f1, f2, f3, z1]
end Law
/-! k63: keys by their sums, keys two pins apart -/
namespace Law
open PySem PySem.Spec PyProof.Rows L2 Mi
set_option maxRecDepth 100000
set_option maxHeartbeats 2000000
theorem add1_key {r : List Int} {d : Int} (h : r.length ≤ 100) : addD (keyD r) (.tuple [.int d]) = some (.sh (keyD (r ++ [d]))) := addD_keys (q := [d]) (by rw [List.length_singleton]; omega)
theorem grow_rows {m : Int} {rows : List (List Int)} (hr : ∀ r ∈ rows, r.length ≤ 10) (hb : (ext rows (rng m)).length ≤ 1000) :
    ((rows.map fun row : List Int => (rng m).map fun d => keyD (row ++ [d])).flatten) = (ext rows (rng m)).map keyD := by
  unfold ext
  rw [List.map_flatten, List.map_map]
  congr 1
  apply List.map_congr_left
  intro r _
  simp
theorem sum_turn {m0 m3 : M} {m t : Int} {rows : List (List Int)} (h0 : 0 ≤ m) (hm : m ≤ 10) (hr : ∀ r ∈ rows, r.length ≤ 10) (hb : (ext rows (rng m)).length ≤ 1000) (h3 : Shy m3) :
    bnd (gNm 3 (.int t) [m0, .sh (.int m), .own (rows.map keyD), m3, .no, .no]) b_sum_keys_1 = some (.nx, [m0, .sh (.int m), .own ((ext rows (rng m)).map keyD), .sh (.int t), .no, .no]) := by
  have z : i62 m = true := i62_of (by omega) (by omega)
  have e : lcGo2 (gNm 4) mYes j_sum_keys_1 (gNm 5) mYes l_sum_keys_2 [4, 5] [5] (rows.map keyD) [m0, .sh (.int m), .sh (.list (rows.map keyD)), .sh (.int t), .no, .no] [] = some ((ext rows (rng m)).map keyD, [m0, .sh (.int m), .sh (.list (rows.map keyD)), .sh (.int t), .no, .no]) := by
    rw [lc2_pure (h := fun row : List Int => (rng m).map fun d => keyD (row ++ [d])) rows [] (fun row hrow acc hacc => ?_) (by
      rw [grow_rows hr hb, List.length_map]
      show 0 + _ ≤ _
      omega), grow_rows hr hb, List.nil_append]
    have hr1 := hr row hrow
    have hl : (rng m).length ≤ 10 := by rw [rng_len]; omega
    refine ⟨[m0, .sh (.int m), .sh (.list (rows.map keyD)), .sh (.int t), .sh (keyD row), .no], rangeD 0 m, [m0, .sh (.int m), .sh (.list (rows.map keyD)), .sh (.int t), .sh (keyD row), .no], [m0, .sh (.int m), .sh (.list (rows.map keyD)), .sh (.int t), .sh (keyD row), .no], by simp, by unfold j_sum_keys_1; simp [z], by simp, ?_, by simp⟩
    rw [rangeD_rng]
    refine lc_mapA (h := fun d => keyD (row ++ [d])) (rng m) acc (by omega) fun d hd => ?_
    have ea := add1_key (r := row) (d := d) (by omega)
    have h1 : 1 ≤ lim := lim_of (by omega)
    generalize rows.map keyD = rd
    unfold l_sum_keys_2
    simp [ea, h1]
  unfold b_sum_keys_1
  generalize (ext rows (rng m)).map keyD = xd at *
  generalize hrd : rows.map keyD = rd at *
  simp [shy_free h3, e]
theorem every_256 {n : Nat} {m : Int} (hn : n ≤ 4) (h0 : 0 ≤ m) (hm : m ≤ 4) : (every n m).length ≤ 256 := by
  rw [every_size]
  have a : m.toNat ^ n ≤ 4 ^ n := Nat.pow_le_pow_left (by omega) _
  have b : 4 ^ n ≤ 4 ^ 4 := Nat.pow_le_pow_right (by omega) (by omega)
  omega
def sumK (m : Int) (k : List Int) : Bool := decide (k.sum % m = 0)
def sums (n : Nat) (m : Int) : List (List Int) := (every n m).filter (sumK m)
theorem sum_keys_ok {n : Nat} {m : Int} (hn : n ≤ 4) (h0 : 0 < m) (hm : m ≤ 4) : phi_sum_keys [.int (n : Int), .int m] = some (.fr ((sums n m).map keyD)) := by
  obtain ⟨ρ', e, m3, hρ, h3⟩ := rturns (N := n) (g := gNm 3) (b := b_sum_keys_1) (S := fun j ρ => ∃ m3, ρ = [.sh (.int (n : Int)), .sh (.int m), .own ((every j m).map keyD), m3, .no, .no] ∧ Shy m3)
    (fun j ρ hj ⟨m3, hρ, h3⟩ => by
      subst hρ
      have hb := every_256 (n := j + 1) (m := m) (by omega) (by omega) hm
      rw [every_succ] at hb
      have := sum_turn (m0 := .sh (.int (n : Int))) (t := (j : Int)) (rows := every j m) (m := m) (by omega) (by omega) (fun r hr => by rw [every_len hr]; omega) (by omega) h3
      refine ⟨_, this, .sh (.int (j : Int)), ?_, .sh _⟩
      rw [every_succ])
    (ρ := [.sh (.int (n : Int)), .sh (.int m), .own [.tuple []], .no, .no, .no]) ⟨.no, rfl, .no⟩
  subst hρ
  have hm0 : m ≠ 0 := by omega
  have e2 : lcGo (gNm 4) t_sum_keys_1 l_sum_keys_1 [4] ((every n m).map keyD) [.sh (.int (n : Int)), .sh (.int m), .sh (.list ((every n m).map keyD)), m3, .no, .no] [] = some ((sums n m).map keyD, [.sh (.int (n : Int)), .sh (.int m), .sh (.list ((every n m).map keyD)), m3, .no, .no]) := by
    refine keep_by (sumK m) (by have := every_256 (n := n) (m := m) hn (by omega) hm; omega) fun k _ => ?_
    have es : sumXD (keyD k) = some (.sh (.int k.sum)) := sumXD_t k
    generalize (every n m).map keyD = ev at *
    generalize keyD k = kk at *
    unfold t_sum_keys_1 l_sum_keys_1 sumK
    by_cases hz : k.sum % m = 0
    · simp [es, hm0, h0, hz]
    · simp [es, hm0, h0, hz]
  have z : i62 (n : Int) = true := i62_of (by omega) (by omega)
  have z0 : 0 ≤ lim := Nat.zero_le _
  have z1 : 1 ≤ lim := lim_of (by omega)
  generalize (every n m).map keyD = ev at *
  generalize (sums n m).map keyD = sv at *
  unfold phi_sum_keys
  rw [runN_eq (by rfl)]
  unfold m_sum_keys
  simp [z, z0, z1, e, e2]
/-- how many have a sum -/
theorem one_depth {m r S : Int} (hm : 0 < m) (h0 : 0 ≤ r) (h1 : r < m) : ((rng m).filter fun d => decide ((S + d) % m = r)) = [(r - S) % m] := by
  refine rising_unique ((rng_lt m).filter _) (List.pairwise_singleton _ _) fun d => ?_
  rw [List.mem_filter, List.mem_singleton, decide_eq_true_eq]
  constructor
  · rintro ⟨a, b⟩
    have := rng_mem a
    have e : (r - S) % m = d % m := by
      rw [← b]
      have : (S + d) % m - S = d + (-( (S + d) / m)) * m := by
        have := Int.emod_add_mul_ediv (S + d) m
        rw [Int.neg_mul, Int.mul_comm]
        omega
      rw [this, Int.add_mul_emod_self_right]
    rw [e, Int.emod_eq_of_lt this.1 this.2]
  · rintro rfl
    refine ⟨mem_rng (Int.emod_nonneg _ (by omega)) (Int.emod_lt_of_pos _ hm), ?_⟩
    rw [Int.add_emod, Int.emod_emod, ← Int.add_emod]
    rw [show S + (r - S) = r by omega]
    exact Int.emod_eq_of_lt h0 h1
theorem count_ext {m r : Int} (hm : 0 < m) (h0 : 0 ≤ r) (h1 : r < m) : ∀ rows : List (List Int), ((ext rows (rng m)).filter fun k => decide (k.sum % m = r)).length = rows.length
  | [] => rfl
  | row :: rows => by
    rw [ext_cons, List.filter_append, List.length_append, count_ext hm h0 h1 rows, List.filter_map, List.length_map, List.length_cons]
    have : ((rng m).filter ((fun k : List Int => decide (k.sum % m = r)) ∘ fun d => row ++ [d])) = (rng m).filter fun d => decide ((row.sum + d) % m = r) := by
      apply List.filter_congr
      intro d _
      show decide ((row ++ [d]).sum % m = r) = _
      rw [List.sum_append]
      simp
    rw [this, one_depth hm h0 h1]
    simp
    omega
theorem sums_len {n : Nat} {m : Int} (hm : 0 < m) : (sums (n + 1) m).length = m.toNat ^ n := by
  unfold sums sumK
  rw [every_succ, count_ext hm (Int.le_refl 0) hm, every_size]
theorem most_ok {n : Nat} {m : Int} (hn : n ≤ 5) (h0 : 0 ≤ m) (hm : m ≤ 4) : phi_most_keys [.int (n : Int), .int m] = some (.sh (.int ((m.toNat ^ (n - 1) : Nat) : Int))) := by
  have hm' : m = (m.toNat : Int) := by omega
  generalize m.toNat = M' at hm' ⊢
  subst hm'
  obtain ⟨ρ', e, m3, hρ, h3⟩ := rturns (N := n - 1) (g := gNm 3) (b := b_most_keys_1) (S := fun j ρ => ∃ m3, ρ = [.sh (.int (n : Int)), .sh (.int (M' : Int)), .sh (.int ((M' ^ j : Nat) : Int)), m3] ∧ Shy m3)
    (fun j ρ hj ⟨m3, hρ, h3⟩ => by
      subst hρ
      have a : M' ^ j ≤ 4 ^ j := Nat.pow_le_pow_left (by omega) _
      have b : 4 ^ j ≤ 4 ^ 4 := Nat.pow_le_pow_right (by omega) (by omega)
      have z : i64 ((M' ^ j : Nat) : Int) = true := i64_of (by omega) (by omega)
      refine ⟨[.sh (.int (n : Int)), .sh (.int (M' : Int)), .sh (.int ((M' ^ (j + 1) : Nat) : Int)), .sh (.int (j : Int))], ?_, _, rfl, .sh _⟩
      rw [show ((M' ^ (j + 1) : Nat) : Int) = ((M' ^ j : Nat) : Int) * (M' : Int) by rw [Nat.pow_succ]; exact Int.natCast_mul _ _]
      generalize ((M' ^ j : Nat) : Int) = pw at *
      unfold b_most_keys_1
      simp [shy_free h3, z])
    (ρ := [.sh (.int (n : Int)), .sh (.int (M' : Int)), .sh (.int 1), .no]) ⟨.no, rfl, .no⟩
  subst hρ
  have em : max2D (.int 0) (.int ((n : Int) - 1)) = some (.sh (.int ((n - 1 : Nat) : Int))) := by
    rw [max2D_i]
    congr 3
    split <;> omega
  have z : i62 ((n - 1 : Nat) : Int) = true := i62_of (by omega) (by omega)
  generalize ((M' ^ (n - 1) : Nat) : Int) = pw at *
  unfold phi_most_keys
  rw [runN_eq (by rfl)]
  unfold m_most_keys
  simp [-max2D_i, em, z, e]
/-! apart -/
def difs (k g : List Int) : Nat := ((k.zip g).filter fun q => decide (q.1 ≠ q.2)).length
def apart (k g : List Int) : Bool := decide (1 < difs k g)
theorem zip_range : ∀ {k g : List Int}, k.length = g.length → k.zip g = (List.range k.length).map fun i => (k.getD i 0, g.getD i 0) := fun {k g} h => by
  apply List.ext_getElem?
  intro i
  by_cases hi : i < k.length
  · have hg : i < g.length := by omega
    have hz : (k.zip g)[i]? = some (k[i], g[i]) := List.getElem?_zip_eq_some.mpr ⟨List.getElem?_eq_getElem hi, List.getElem?_eq_getElem hg⟩
    rw [List.getElem?_map, List.getElem?_range hi, hz, Option.map_some, List.getD_eq_getElem?_getD, List.getD_eq_getElem?_getD, List.getElem?_eq_getElem hi, List.getElem?_eq_getElem hg]
    rfl
  · rw [List.getElem?_eq_none (by rw [List.length_zip]; omega), List.getElem?_eq_none (by rw [List.length_map, List.length_range]; omega)]
theorem difs_range {k g : List Int} (h : k.length = g.length) : difs k g = ((List.range k.length).filter fun i => decide (k.getD i 0 ≠ g.getD i 0)).length := by
  unfold difs
  rw [zip_range h, List.filter_map, List.length_map]
  rfl
theorem law_apart_ok {k g : List Int} (h : k.length = g.length) (hl : k.length ≤ 100) : phi_law_apart [keyD k, keyD g] = some (.sh (.bool (apart k g))) := by
  have e : lcGo (gNm 2) t_law_apart_1 l_law_apart_1 [2] (rangeD 0 (k.length : Int)) [.sh (keyD k), .sh (keyD g), .no] [] = some (((List.range k.length).filter fun i => decide (k.getD i 0 ≠ g.getD i 0)).map fun i : Nat => .int (i : Int), [.sh (keyD k), .sh (keyD g), .no]) :=
    keep_nats _ (by omega) fun i hi => by
      have e1 := ix_key (k := k) (i := i) hi
      have e2 := ix_key (k := g) (i := i) (by omega)
      have e3 : neD (.int (k.getD i 0)) (.int (g.getD i 0)) = some (decide (k.getD i 0 ≠ g.getD i 0)) := by
        show (eqD _ _).map _ = _
        rw [eqD_i]
        by_cases hq : k.getD i 0 = g.getD i 0
        · rw [decide_eq_true hq, decide_eq_false (by omega)]; rfl
        · rw [decide_eq_false hq, decide_eq_true hq]; rfl
      generalize k.getD i 0 = x at *
      generalize g.getD i 0 = y at *
      generalize keyD k = kd at *
      generalize keyD g = gd at *
      unfold t_law_apart_1 l_law_apart_1
      by_cases hd : x = y
      · rw [decide_eq_false (by omega)] at e3 ⊢
        simp [e1, e2, e3]
      · rw [decide_eq_true hd] at e3 ⊢
        simp [e1, e2, e3]
  have el := len_list (fun i : Nat => PyData.int (i : Int)) ((List.range k.length).filter fun i => decide (k.getD i 0 ≠ g.getD i 0))
  rw [← difs_range h] at el
  have z : i62 (k.length : Int) = true := i62_of (by omega) (by omega)
  have elk := lenD_key k
  generalize ((List.range k.length).filter fun i => decide (k.getD i 0 ≠ g.getD i 0)).map (fun i : Nat => PyData.int (i : Int)) = xs at *
  generalize keyD k = kd at *
  generalize keyD g = gd at *
  unfold phi_law_apart apart
  rw [runN_eq (by rfl)]
  unfold m_law_apart
  have hc : decide (1 < (difs k g : Int)) = decide (1 < difs k g) := by
    rw [decide_eq_decide]; omega
  simp [-lenD_l, elk, z, e, el]
  try omega
/-! the free key -/
def freeR (n : Nat) (m : Int) (gs : List (List Int)) : Option (List Int) := (every n m).find? fun row => gs.all fun g => apart row g
theorem free_rows {m0 m4 : M} {n2 : M} {m t : Int} {rows : List (List Int)} (h0 : 0 ≤ m) (hm : m ≤ 10) (hr : ∀ r ∈ rows, r.length ≤ 10) (hb : (ext rows (rng m)).length ≤ 1000) (h4 : Shy m4) :
    bnd (gNm 4 (.int t) [m0, .sh (.int m), n2, .own (rows.map keyD), m4, .no, .no, .no, .no, .no]) b_free_key_2 = some (.nx, [m0, .sh (.int m), n2, .own ((ext rows (rng m)).map keyD), .sh (.int t), .no, .no, .no, .no, .no]) := by
  have z : i62 m = true := i62_of (by omega) (by omega)
  have e : lcGo2 (gNm 5) mYes j_free_key_1 (gNm 6) mYes l_free_key_3 [5, 6] [6] (rows.map keyD) [m0, .sh (.int m), n2, .sh (.list (rows.map keyD)), .sh (.int t), .no, .no, .no, .no, .no] [] = some ((ext rows (rng m)).map keyD, [m0, .sh (.int m), n2, .sh (.list (rows.map keyD)), .sh (.int t), .no, .no, .no, .no, .no]) := by
    rw [lc2_pure (h := fun row : List Int => (rng m).map fun d => keyD (row ++ [d])) rows [] (fun row hrow acc hacc => ?_) (by
      rw [grow_rows hr hb, List.length_map]
      show 0 + _ ≤ _
      omega), grow_rows hr hb, List.nil_append]
    have hr1 := hr row hrow
    have hl : (rng m).length ≤ 10 := by rw [rng_len]; omega
    refine ⟨[m0, .sh (.int m), n2, .sh (.list (rows.map keyD)), .sh (.int t), .sh (keyD row), .no, .no, .no, .no], rangeD 0 m, [m0, .sh (.int m), n2, .sh (.list (rows.map keyD)), .sh (.int t), .sh (keyD row), .no, .no, .no, .no], [m0, .sh (.int m), n2, .sh (.list (rows.map keyD)), .sh (.int t), .sh (keyD row), .no, .no, .no, .no], by simp, by unfold j_free_key_1; simp [z], by simp, ?_, by simp⟩
    rw [rangeD_rng]
    refine lc_mapA (h := fun d => keyD (row ++ [d])) (rng m) acc (by omega) fun d hd => ?_
    have ea := add1_key (r := row) (d := d) (by omega)
    have h1 : 1 ≤ lim := lim_of (by omega)
    generalize rows.map keyD = rd
    unfold l_free_key_3
    simp [ea, h1]
  unfold b_free_key_2
  generalize (ext rows (rng m)).map keyD = xd at *
  generalize hrd : rows.map keyD = rd at *
  simp [shy_free h4, e]
theorem free_key_ok {n : Nat} {m : Int} {g0 : List Int} {gs : List (List Int)} (hn : n ≤ 4) (h0 : 0 < m) (hm : m ≤ 4) (hg : ∀ g ∈ g0 :: gs, g.length = n) (hgl : gs.length ≤ 20) :
    phi_free_key [.list ((g0 :: gs).map keyD), .int m] = some (.sh (match freeR n m (g0 :: gs) with | some k => keyD k | none => .none)) := by
  obtain ⟨G, hG⟩ : ∃ G, G = g0 :: gs := ⟨_, rfl⟩
  have e0 : ixD (.list ((g0 :: gs).map keyD)) (.int 0) = some (.sh (keyD g0)) := by rw [ixD_l, atI_0]; rfl
  have el := lenD_key g0
  rw [hg g0 List.mem_cons_self] at el
  have hGl : G.length ≤ 21 := by rw [hG, List.length_cons]; omega
  rw [← hG] at e0 hg ⊢
  obtain ⟨ρ', e, m4, hρ, h4⟩ := rturns (N := n) (g := gNm 4) (b := b_free_key_2) (S := fun j ρ => ∃ m4, ρ = [.sh (.list (G.map keyD)), .sh (.int m), .sh (.int (n : Int)), .own ((every j m).map keyD), m4, .no, .no, .no, .no, .no] ∧ Shy m4)
    (fun j ρ hj ⟨m4, hρ, h4⟩ => by
      subst hρ
      have hb := every_256 (n := j + 1) (m := m) (by omega) (by omega) hm
      rw [every_succ] at hb
      have := free_rows (m0 := .sh (.list (G.map keyD))) (n2 := .sh (.int (n : Int))) (t := (j : Int)) (rows := every j m) (m := m) (by omega) (by omega) (fun r hr => by rw [every_len hr]; omega) (by omega) h4
      refine ⟨_, this, .sh (.int (j : Int)), ?_, .sh _⟩
      rw [every_succ])
    (ρ := [.sh (.list (G.map keyD)), .sh (.int m), .sh (.int (n : Int)), .own [.tuple []], .no, .no, .no, .no, .no, .no]) ⟨.no, rfl, .no⟩
  subst hρ
  obtain ⟨ρ2, lp⟩ := for_first (g := gNm 5) (b := b_free_key_1) (f := keyD) (xs := every n m) (done := []) (ρ := [.sh (.list (G.map keyD)), .sh (.int m), .sh (.int (n : Int)), .sh (.list ((every n m).map keyD)), m4, .no, .no, .no, .no, .no])
    (E := fun _ row => if (G.all fun g => apart row g) = true then some (R.sh (keyD row)) else none)
    (S := fun _ ρ => ∃ m5, ρ = [.sh (.list (G.map keyD)), .sh (.int m), .sh (.int (n : Int)), .sh (.list ((every n m).map keyD)), m4, m5, .no, .no, .no, .no] ∧ Shy m5) ⟨.no, rfl, .no⟩ fun a c row ρ e ⟨m5, hρ, h5⟩ => by
      subst hρ
      have hrow : row.length = n := every_len (m := m) (by rw [e]; exact List.mem_append_right _ List.mem_cons_self)
      obtain ⟨bs, hbs⟩ : ∃ bs, bs = G.map fun g => apart row g := ⟨_, rfl⟩
      have ei : lcGo (gNm 7) mYes l_free_key_2 [7] (G.map keyD) [.sh (.list (G.map keyD)), .sh (.int m), .sh (.int (n : Int)), .sh (.list ((every n m).map keyD)), m4, .sh (keyD row), .no, .no, .no, .no] [] = some (bs.map .bool, [.sh (.list (G.map keyD)), .sh (.int m), .sh (.int (n : Int)), .sh (.list ((every n m).map keyD)), m4, .sh (keyD row), .no, .no, .no, .no]) := by
        rw [hbs, List.map_map]
        refine lc_map (h := fun g => .bool (apart row g)) (by omega) fun g hgm => ?_
        have ez : lcGo (gTp 2 (gCons' (gNm 8) (gCons' (gNm 9) gNil'))) t_free_key_1 l_free_key_1 [8, 9] (zipL (row.map .int) (g.map .int)) [.sh (.list (G.map keyD)), .sh (.int m), .sh (.int (n : Int)), .sh (.list ((every n m).map keyD)), m4, .sh (keyD row), .no, .sh (keyD g), .no, .no] [] = some (((row.zip g).filter fun q => decide (q.1 ≠ q.2)).map fun _ => .int 1, [.sh (.list (G.map keyD)), .sh (.int m), .sh (.int (n : Int)), .sh (.list ((every n m).map keyD)), m4, .sh (keyD row), .no, .sh (keyD g), .no, .no]) := by
          rw [zipL_map]
          refine keep_map (h := fun _ => PyData.int 1) (fun q : Int × Int => decide (q.1 ≠ q.2)) (by rw [List.length_zip]; omega) fun q _ => ?_
          obtain ⟨x, y⟩ := q
          have e3 : neD (.int x) (.int y) = some (decide (x ≠ y)) := by
            show (eqD _ _).map _ = _
            rw [eqD_i]
            by_cases hq : x = y
            · rw [decide_eq_true hq, decide_eq_false (by omega)]; rfl
            · rw [decide_eq_false hq, decide_eq_true hq]; rfl
          generalize G.map keyD = Gd at *
          generalize (every n m).map keyD = ev at *
          generalize keyD row = rd at *
          generalize keyD g = gd at *
          unfold t_free_key_1 l_free_key_1
          dsimp only
          by_cases hd : x = y
          · rw [decide_eq_false (by omega)] at e3 ⊢
            simp [e3]
          · rw [decide_eq_true hd] at e3 ⊢
            simp [e3]
        have elz : lenD (.list (((row.zip g).filter fun q => decide (q.1 ≠ q.2)).map fun _ => .int 1)) = some (.sh (.int (difs row g : Int))) := len_list (fun _ : Int × Int => PyData.int 1) _
        have ezz := zip2D_kk row g
        have hc : decide (1 < (difs row g : Int)) = apart row g := by
          unfold apart
          rw [decide_eq_decide]; omega
        generalize ((row.zip g).filter fun q => decide (q.1 ≠ q.2)).map (fun _ => PyData.int 1) = zs at *
        generalize zipL (row.map .int) (g.map .int) = zl at *
        generalize G.map keyD = Gd at *
        generalize (every n m).map keyD = ev at *
        generalize keyD row = rd at *
        generalize keyD g = gd at *
        generalize apart row g = ap at *
        generalize (difs row g : Int) = df at *
        unfold l_free_key_2
        simp [-lenD_l, ezz, ez, elz, ← hc]
      have ea : (G.all fun g => apart row g) = bs.all id := by rw [hbs, List.all_map]; rfl
      rw [ea]
      generalize hGd : G.map keyD = Gd at *
      generalize (every n m).map keyD = ev at *
      generalize keyD row = rd at *
      unfold b_free_key_1
      cases q : bs.all id with
      | true => exact ⟨.rt (.sh rd), [.sh (.list Gd), .sh (.int m), .sh (.int (n : Int)), .sh (.list ev), m4, .sh rd, .no, .no, .no, .no], by simp [shy_free h5, ei, q], rfl⟩
      | false => exact ⟨.nx, [.sh (.list Gd), .sh (.int m), .sh (.int (n : Int)), .sh (.list ev), m4, .sh rd, .no, .no, .no, .no], by simp [shy_free h5, ei, q], rfl, _, rfl, .sh _⟩
  rw [fE_find] at lp
  have z : i62 (n : Int) = true := i62_of (by omega) (by omega)
  have z0 : 0 ≤ lim := Nat.zero_le _
  have z1 : 1 ≤ lim := lim_of (by omega)
  unfold phi_free_key freeR
  rw [runN_eq (by rfl)]
  unfold m_free_key
  cases q : (every n m).find? fun row => G.all fun g => apart row g with
  | some k =>
    rw [q] at lp
    have lp : forGo (gNm 5) b_free_key_1 ((every n m).map keyD) [.sh (.list (G.map keyD)), .sh (.int m), .sh (.int (n : Int)), .sh (.list ((every n m).map keyD)), m4, .no, .no, .no, .no, .no] = some (.rt (.sh (keyD k)), ρ2) := lp
    show _ = some (R.sh (keyD k))
    generalize G.map keyD = Gd at *
    generalize (every n m).map keyD = ev at *
    generalize keyD k = kk at *
    generalize keyD g0 = gg at *
    simp [-lenD_l, e0, el, z, z0, z1, e, lp]
  | none =>
    rw [q] at lp
    obtain ⟨lp, m5, hρ, h5⟩ := lp
    subst hρ
    show _ = some (R.sh .none)
    generalize G.map keyD = Gd at *
    generalize (every n m).map keyD = ev at *
    generalize keyD g0 = gg at *
    simp [-lenD_l, e0, el, z, z0, z1, e, lp]
end Law
/-! k63: the turns -/
namespace Law
open PySem PySem.Spec PyProof.Rows L2 Mi
set_option maxRecDepth 100000
set_option maxHeartbeats 4000000
def v3 : MS' := (sSeq (sAsg (gTp 2 (gCons' (gNm 10) (gCons' (gNm 11) gNil'))) (mTup (aCons (mCallIO phi_law_draw 1 (aCons (mVar 3) aNil)) (aCons (mCallIO phi_law_draw 1 (aCons (mVar 4) aNil)) aNil))))
  (sSeq (sSet 12 (mLc (mIter (mSl (mCallIO phi_law_mixed 1 (aCons (mVar 8) aNil)) pNone (pSome (mC (.int 6))))) (gNm 16) mYes l_law_3 [16]))
  (sSeq (sFor (mIter (mIf (mCmp eqD (mVar 2) (mC (.int 0))) (mLst (aCons (mVar 5) (aCons (mVar 12) aNil))) (mLst (aCons (mBin addD (mSl (mVar 12) pNone (pSome (mC (.int 2)))) (mSl (mVar 5) pNone (pSome (mC (.int 1))))) (aCons (mSl (mVar 12) pNone (pSome (mC (.int 1)))) aNil))))) (gNm 13) b_law_1)
  sNil)))
def v2 : MS' := (sSeq (sSet 7 (mCall phi_law_all (aCons (mVar 3) (aCons (mVar 4) aNil))))
  (sSeq (sSet 8 (mLc (mIter (mVar 7)) (gNm 16) t_law_3 l_law_4 [16]))
  (sSeq (sSet 9 (mCall phi_sum_keys (aCons (mVar 3) (aCons (mVar 4) aNil))))
  (sSeq (sIf (mOr (mNot (mTest (mCallL (phi_law_same 12) (lCons (mVar 9) (lCons (mVar 8) lNil))))) (mNot (mTest (mCallL (phi_law_same 12) (lCons (mCall phi_most_keys (aCons (mVar 3) (aCons (mVar 4) aNil))) (lCons (mUn lenD (mVar 8)) lNil))))))
  (sSeq (sRet (mC (.bool false)))
  sNil)
  sNil)
  (sSeq (sExpr (mAppend 9 (mTup aNil)))
  v3)))))
def v1 : MS' := (sSeq (sFor (mRange1 (aCons (mCallIOL phiL_law_pick 1 (lCons (mLst (aCons (mC (.int 5)) (aCons (mC (.int 6)) (aCons (mC (.int 4)) (aCons (mC (.int 3)) (aCons (mC (.int 2)) (aCons (mC (.int 1)) aNil))))))) lNil)) aNil)) (gNm 6) b_law_2)
  (sSeq (sIf (mNot (mTest (mCallIO phi_law_planned 1 (aCons (mVar 5) (aCons (mVar 3) (aCons (mVar 4) aNil))))))
  (sSeq (sRet (mC (.bool false)))
  sNil)
  sNil)
  v2))
theorem b_law_3_eq : b_law_3 = (sSeq (sSet 3 (mCallIOL phiL_law_pick 1 (lCons (mLst (aCons (mC (.int 3)) (aCons (mC (.int 4)) (aCons (mC (.int 2)) (aCons (mC (.int 3)) (aCons (mC (.int 1)) aNil)))))) lNil)))
  (sSeq (sSet 4 (mIf (mCmp ltD (mVar 3) (mC (.int 4))) (mCallIOL phiL_law_pick 1 (lCons (mLst (aCons (mC (.int 3)) (aCons (mC (.int 2)) (aCons (mC (.int 4)) aNil)))) lNil)) (mCallIOL phiL_law_pick 1 (lCons (mLst (aCons (mC (.int 2)) (aCons (mC (.int 2)) (aCons (mC (.int 3)) aNil)))) lNil))))
  (sSeq (sSet 5 (mLst aNil))
  v1))) := rfl
def x2 : MS' := (sSeq (sIf (mOr (mNot (mTest (mCallL (phi_law_same 12) (lCons (mCall phi_first_stranger (aCons (mLst (aCons (mTup (aCons (mC (.int 0)) (aCons (mC (.int 0)) aNil))) (aCons (mTup (aCons (mC (.int 1)) (aCons (mC (.int 1)) aNil))) (aCons (mTup (aCons (mC (.int 0)) (aCons (mC (.int 1)) aNil))) aNil)))) (aCons (mLst (aCons (mTup (aCons (mC (.int 0)) (aCons (mC (.int 1)) aNil))) aNil)) aNil))) (lCons (mTup (aCons (mC (.int 0)) (aCons (mC (.int 2)) aNil))) lNil))))) (mCmp (fun a b => (isD a b).map (!·)) (mCall phi_can_plan (aCons (mLst (aCons (mTup (aCons (mC (.int 0)) (aCons (mC (.int 0)) aNil))) (aCons (mTup (aCons (mC (.int 1)) (aCons (mC (.int 1)) aNil))) (aCons (mTup (aCons (mC (.int 0)) (aCons (mC (.int 1)) aNil))) aNil)))) (aCons (mLst (aCons (mTup (aCons (mC (.int 0)) (aCons (mC (.int 1)) aNil))) aNil)) aNil))) (mC (.bool false))))
  (sSeq (sRet (mC (.bool false)))
  sNil)
  sNil)
  (sSeq (sRet (mAndV (mCallL (phi_law_same 12) (lCons (mCall phi_free_key (aCons (mLst (aCons (mTup (aCons (mC (.int 0)) (aCons (mC (.int 0)) (aCons (mC (.int 0)) aNil)))) (aCons (mTup (aCons (mC (.int 0)) (aCons (mC (.int 1)) (aCons (mC (.int 1)) aNil)))) aNil))) (aCons (mC (.int 2)) aNil))) (lCons (mTup (aCons (mC (.int 1)) (aCons (mC (.int 0)) (aCons (mC (.int 1)) aNil)))) lNil))) (mBV (mCmp isD (mCall phi_can_plan (aCons (mLst (aCons (mTup (aCons (mC (.int 0)) (aCons (mC (.int 0)) aNil))) (aCons (mTup (aCons (mC (.int 1)) (aCons (mC (.int 1)) aNil))) aNil))) (aCons (mLst (aCons (mTup (aCons (mC (.int 1)) aNil)) (aCons (mTup (aCons (mC (.int 0)) (aCons (mC (.int 1)) aNil))) aNil))) aNil))) (mC (.bool true))))))
  sNil))
def x1 : MS' := (sSeq (sIf (mOr (mNot (mTest (mCallL (phi_law_same 12) (lCons (mCall phi_most_keys (aCons (mC (.int 0)) (aCons (mC (.int 3)) aNil))) (lCons (mC (.int 1)) lNil))))) (mOr (mNot (mTest (mCallL (phi_law_same 12) (lCons (mCall phi_sum_keys (aCons (mC (.int 2)) (aCons (mC (.int 3)) aNil))) (lCons (mLst (aCons (mTup (aCons (mC (.int 0)) (aCons (mC (.int 0)) aNil))) (aCons (mTup (aCons (mC (.int 1)) (aCons (mC (.int 2)) aNil))) (aCons (mTup (aCons (mC (.int 2)) (aCons (mC (.int 1)) aNil))) aNil)))) lNil))))) (mCmp (fun a b => (isD a b).map (!·)) (mCall phi_free_key (aCons (mLst (aCons (mTup (aCons (mC (.int 0)) aNil)) aNil)) (aCons (mC (.int 4)) aNil))) (mC .none))))
  (sSeq (sRet (mC (.bool false)))
  sNil)
  sNil)
  x2)
theorem m_law_eq : m_law = (sSeq (sSet 1 (mLst (aCons (mCall phi_law_digits (aCons (mVar 0) (aCons (mC (.int 0)) (aCons (mC (.int 16)) aNil)))) (aCons (mC (.int 0)) aNil))))
  (sSeq (sFor (mRange1 (aCons (mC (.int 2)) aNil)) (gNm 2) b_law_3)
  x1)) := rfl

theorem pickL_ok {ws row : List D} (b : BoxOk ws) (h : row ≠ []) : ∃ d ws', phiL_law_pick ws [.l row] = some (.sh d, ws') ∧ BoxOk ws' ∧ d ∈ row := by
  obtain ⟨r, ws1, e1, b1, h0, h1⟩ := draw_ok (many := 1000) b (by decide)
  have hl : 0 < (row.length : Int) := by
    cases row with
    | nil => exact absurd rfl h
    | cons x r => rw [List.length_cons]; omega
  obtain ⟨x, e2, m2⟩ := mem_atI (Int.emod_nonneg r (by omega)) (Int.emod_lt_of_pos r hl)
  have hn : 0 < row.length := by omega
  refine ⟨x, ws1, ?_, b1, m2⟩
  unfold phiL_law_pick
  rw [runIOL_eq (by rfl)]
  unfold m_law_pick
  simp [e1, hn, e2]
theorem pickL_ints {ws : List D} {row : List Int} (b : BoxOk ws) (h : row ≠ []) : ∃ x ws', phiL_law_pick ws [.l (row.map .int)] = some (.sh (.int x), ws') ∧ BoxOk ws' ∧ x ∈ row := by
  obtain ⟨d, ws', e, b', m⟩ := pickL_ok (row := row.map PyData.int) b (by simpa using h)
  obtain ⟨x, hx, rfl⟩ := List.mem_map.mp m
  exact ⟨x, ws', e, b', hx⟩
def KOk (n : Nat) (m : Int) (k : List Int) : Prop := k.length = n ∧ ∀ d ∈ k, 0 ≤ d ∧ d < m
section
variable {fz : D} {n : Nat} {m : Int}
theorem row_turn {w : List D} {R : List (List Int)} {m2 m6 m7 m8 m9 m10 m11 m12 m13 m14 m15 : M} {t : Int} (b : BoxOk w) (hn : n ≤ 4) (hm0 : 0 < m) (hR : ∀ k ∈ R, KOk n m k) (hl : R.length ≤ 10) (h6 : Shy m6) :
    ∃ w' k, bnd (gNm 6 (.int t) [.sh fz, .own w, m2, .sh (.int (n : Int)), .sh (.int m), .own (R.map keyD), m6, m7, m8, m9, m10, m11, m12, m13, m14, m15, .no, .no]) b_law_2 = some (.nx, [.sh fz, .own w', m2, .sh (.int (n : Int)), .sh (.int m), .own ((R ++ [k]).map keyD), .sh (.int t), m7, m8, m9, m10, m11, m12, m13, m14, m15, .no, .no]) ∧ BoxOk w' ∧ KOk n m k := by
  have en := isNil lay_key' R
  have zl : (R.map keyD).length < lim := by rw [List.length_map]; exact lim_lt' (by omega)
  by_cases hz : R = []
  · obtain ⟨k, w1, e1, b1, hk⟩ := law_key_ok (n := n) b hm0 (by omega)
    rw [decide_eq_true hz] at en
    refine ⟨w1, k, ?_, b1, hk⟩
    rw [List.map_append, List.map_cons, List.map_nil]
    generalize R.map keyD = rd at *
    generalize keyD k = kd at *
    unfold b_law_2
    simp [shy_free h6, en, e1, zl]
  · rw [decide_eq_false hz] at en
    obtain ⟨r, w1, e1, b1, r0, r1⟩ := draw_ok (many := 5) b (by decide)
    by_cases hr : 0 < r
    · obtain ⟨k, w2, e2, b2, hk⟩ := law_key_ok (n := n) b1 hm0 (by omega)
      refine ⟨w2, k, ?_, b2, hk⟩
      rw [List.map_append, List.map_cons, List.map_nil]
      generalize R.map keyD = rd at *
      generalize keyD k = kd at *
      unfold b_law_2
      simp [shy_free h6, en, e1, hr, e2, zl]
    · obtain ⟨d, w2, e2, b2, hd⟩ := pickL_ok (row := R.map keyD) b1 (by simpa using hz)
      obtain ⟨k, hk, rfl⟩ := List.mem_map.mp hd
      refine ⟨w2, k, ?_, b2, hR k hk⟩
      rw [List.map_append, List.map_cons, List.map_nil]
      generalize R.map keyD = rd at *
      generalize keyD k = kd at *
      unfold b_law_2
      simp [shy_free h6, en, e1, hr, e2, zl]
theorem free_head {ss : List (List Int)} : ((every n m).filter fun k => ss.all fun g => apart k g).head? = freeR n m ss := by
  unfold freeR
  rw [List.head?_filter]
theorem free_turn {w : List D} {ss : List (List Int)} {m2 m5 m6 m8 m9 m10 m11 m12 m13 m14 m15 : M} (hn : n ≤ 4) (hm0 : 0 < m) (hm : m ≤ 4) (hne : ss ≠ []) (hss : ∀ k ∈ ss, k.length = n) (hl : ss.length ≤ 20) (h13 : Shy m13) (h14 : freeM (some m14) = true) (h15 : freeM (some m15) = true) :
    ∃ m13' m14' m15', bnd (gNm 13 (.list (ss.map keyD)) [.sh fz, .own w, m2, .sh (.int (n : Int)), .sh (.int m), m5, m6, .sh (.list ((every n m).map keyD)), m8, m9, m10, m11, m12, m13, m14, m15, .no, .no]) b_law_1 = some (.nx, [.sh fz, .own w, m2, .sh (.int (n : Int)), .sh (.int m), m5, m6, .sh (.list ((every n m).map keyD)), m8, m9, m10, m11, m12, m13', m14', m15', .no, .no]) ∧ Shy m13' ∧ freeM (some m14') = true ∧ freeM (some m15') = true := by
  have hev := every_256 (n := n) (m := m) hn (by omega) hm
  have e1 : lcGo (gNm 16) t_law_2 l_law_2 [16] ((every n m).map keyD) [.sh fz, .own w, m2, .sh (.int (n : Int)), .sh (.int m), m5, m6, .sh (.list ((every n m).map keyD)), m8, m9, m10, m11, m12, .sh (.list (ss.map keyD)), m14, m15, .no, .no] [] = some (((every n m).filter fun k => ss.all fun g => apart k g).map keyD, [.sh fz, .own w, m2, .sh (.int (n : Int)), .sh (.int m), m5, m6, .sh (.list ((every n m).map keyD)), m8, m9, m10, m11, m12, .sh (.list (ss.map keyD)), m14, m15, .no, .no]) := by
    refine keep_by _ (by omega) fun k hk => ?_
    have hkl := every_len hk
    have ei : lcGo (gNm 17) t_law_1 l_law_1 [17] (ss.map keyD) [.sh fz, .own w, m2, .sh (.int (n : Int)), .sh (.int m), m5, m6, .sh (.list ((every n m).map keyD)), m8, m9, m10, m11, m12, .sh (.list (ss.map keyD)), m14, m15, .sh (keyD k), .no] [] = some ((ss.filter fun g => !apart k g).map keyD, [.sh fz, .own w, m2, .sh (.int (n : Int)), .sh (.int m), m5, m6, .sh (.list ((every n m).map keyD)), m8, m9, m10, m11, m12, .sh (.list (ss.map keyD)), m14, m15, .sh (keyD k), .no]) := by
      refine keep_by _ (by omega) fun g hg => ?_
      have ea := law_apart_ok (k := k) (g := g) (by rw [hkl, hss g hg]) (by omega)
      generalize ss.map keyD = sd at *
      generalize (every n m).map keyD = ev at *
      generalize keyD k = kd at *
      generalize keyD g = gd at *
      generalize apart k g = q at *
      unfold t_law_1 l_law_1
      cases q with
      | true => simp [ea]
      | false => simp [ea]
    have en : eqD (.list ((ss.filter fun g => !apart k g).map keyD)) (.list []) = some (ss.all fun g => apart k g) := by
      rw [isNil lay_key']
      congr 1
      rw [Bool.eq_iff_iff, decide_eq_true_eq, List.filter_eq_nil_iff, List.all_eq_true]
      constructor
      · intro k L hL
        have := k L hL
        simpa using this
      · intro k L hL
        simp only [k L hL]
        decide
    generalize (ss.filter fun g => !apart k g).map keyD = fd at *
    generalize ss.map keyD = sd at *
    generalize (every n m).map keyD = ev at *
    generalize keyD k = kd at *
    generalize (ss.all fun g => apart k g) = q at *
    unfold t_law_2 l_law_2
    cases q with
    | true => simp [ei, en]
    | false => simp [ei, en]
  obtain ⟨Fs, hFs⟩ : ∃ Fs, Fs = (every n m).filter fun k => ss.all fun g => apart k g := ⟨_, rfl⟩
  have hhead : Fs.head? = freeR n m ss := by rw [hFs]; exact free_head
  rw [← hFs] at e1
  have hFm : ∀ k ∈ Fs, KOk n m k := fun k hk => by
    rw [hFs] at hk
    exact mem_ext_all.mp (List.mem_filter.mp hk).1
  obtain ⟨g0, gs, hgs⟩ : ∃ g0 gs, ss = g0 :: gs := by
    cases ss with
    | nil => exact absurd rfl hne
    | cons g0 gs => exact ⟨g0, gs, rfl⟩
  have e2 := free_key_ok (n := n) (m := m) (g0 := g0) (gs := gs) hn hm0 hm (by rw [← hgs]; exact hss) (by rw [hgs, List.length_cons] at hl; omega)
  rw [← hgs, ← hhead] at e2
  have e3 : neD (.list (ss.map keyD)) (.list (ss.map keyD)) = some false := neD_self (shaped_list lay_key')
  have e4 := notNil lay_key' Fs
  refine ⟨.sh (.list (ss.map keyD)), .own (Fs.map keyD), .sh (.list (ss.map keyD)), ?_, .sh _, rfl, rfl⟩
  cases Fs with
  | nil =>
    have e4 : neD (.list []) (.list []) = some false := e4
    have e2 : phi_free_key [.list (ss.map keyD), .int m] = some (.sh .none) := e2
    have e5 := same_none
    rw [List.map_nil] at e1 ⊢
    generalize ss.map keyD = sd at *
    generalize (every n m).map keyD = ev at *
    unfold b_law_1
    simp [shy_free h13, h14, h15, e1, e2, e3, e4, e5]
  | cons k r =>
    have e4 : neD (.list ((k :: r).map keyD)) (.list []) = some true := e4
    have e2 : phi_free_key [.list (ss.map keyD), .int m] = some (.sh (keyD k)) := e2
    have hk := hFm k List.mem_cons_self
    have e5 := same_key (k := k) (by have := hk.1; omega) fun d hd => by have := hk.2 d hd; omega
    have e6 : ixD (.list ((k :: r).map keyD)) (.int 0) = some (.sh (keyD k)) := by rw [ixD_l, atI_0]; rfl
    generalize (k :: r).map keyD = Fd at *
    generalize ss.map keyD = sd at *
    generalize (every n m).map keyD = ev at *
    generalize keyD k = kd at *
    unfold b_law_1
    simp [shy_free h13, h14, h15, e1, e2, e3, e4, e5, e6]
theorem keys_back {A : List (List Int)} : ∀ {ys : List D}, (∀ y ∈ ys, ∃ k ∈ A, y = keyD k) → ∃ K : List (List Int), ys = K.map keyD ∧ ∀ k ∈ K, k ∈ A
  | [], _ => ⟨[], rfl, fun k h => by cases h⟩
  | y :: ys, h => by
    obtain ⟨k, hk, rfl⟩ := h y List.mem_cons_self
    obtain ⟨K, rfl, hK⟩ := keys_back fun z hz => h z (List.mem_cons_of_mem _ hz)
    exact ⟨k :: K, rfl, fun x hx => by
      rcases List.mem_cons.mp hx with rfl | hx
      · exact hk
      · exact hK x hx⟩
theorem v3_ok {w : List D} {R A : List (List Int)} {m6 m8 m9 m10 m11 m12 m13 m14 m15 : M} {t : Int} (b : BoxOk w) (hn0 : 0 < n) (hn : n ≤ 4) (hm0 : 0 < m) (hm : m ≤ 4) (hR : ∀ k ∈ R, KOk n m k) (hR0 : R ≠ []) (hRl : R.length ≤ 6) (hA : ∀ k ∈ A, KOk n m k) (hA0 : A ≠ []) (hAl : A.length ≤ 300) (h8 : m8 = .own (A.map keyD)) (h10 : Shy m10) (h11 : Shy m11) (h12 : freeM (some m12) = true) (h13 : Shy m13) (h14 : freeM (some m14) = true) (h15 : freeM (some m15) = true) :
    ∃ w' m8' m10' m11' m12' m13' m14' m15', v3 [.sh fz, .own w, .sh (.int t), .sh (.int (n : Int)), .sh (.int m), .sh (.list (R.map keyD)), m6, .sh (.list ((every n m).map keyD)), m8, m9, m10, m11, m12, m13, m14, m15, .no, .no] = some (.nx, [.sh fz, .own w', .sh (.int t), .sh (.int (n : Int)), .sh (.int m), .sh (.list (R.map keyD)), m6, .sh (.list ((every n m).map keyD)), m8', m9, m10', m11', m12', m13', m14', m15', .no, .no]) ∧ BoxOk w' ∧ freeM (some m8') = true ∧ Shy m10' ∧ Shy m11' ∧ freeM (some m12') = true ∧ Shy m13' ∧ freeM (some m14') = true ∧ freeM (some m15') = true := by
  subst h8
  obtain ⟨p', w1, e1, b1, p0, p1⟩ := draw_ok (many := (n : Int)) b (by omega)
  obtain ⟨p, rfl⟩ : ∃ p : Nat, p' = (p : Int) := ⟨p'.toNat, by omega⟩
  obtain ⟨on, w2, e2, b2, o0, o1⟩ := draw_ok (many := m) b1 hm0
  obtain ⟨ys, w3, e3, b3, hp⟩ := mixed_ok (row := A.map keyD) b2 (by rw [List.length_map]; omega)
  obtain ⟨K, rfl, hK⟩ := keys_back (A := A) (ys := ys) fun y hy => by
    obtain ⟨k, hk, rfl⟩ := List.mem_map.mp (hp.mem_iff.mp hy)
    exact ⟨k, hk, rfl⟩
  have hKl : K.length = A.length := by
    have := hp.length_eq
    rwa [List.length_map, List.length_map] at this
  have hK0 : K ≠ [] := fun z => by
    rw [z] at hKl
    exact hA0 (List.length_eq_zero_iff.mp hKl.symm)
  have e4 := sl_list keyD K none (some 6)
  rw [cut_to _ (by decide)] at e4
  obtain ⟨C, hC⟩ : ∃ C, C = K.take (Int.toNat 6) := ⟨_, rfl⟩
  rw [← hC] at e4
  have hCm : ∀ k ∈ C, KOk n m k := fun k hk => hA k (hK k (List.mem_of_mem_take (hC ▸ hk)))
  have hCl : C.length ≤ 6 := by rw [hC, List.length_take]; exact Nat.min_le_left _ _
  have hC0 : C ≠ [] := fun z => by
    rw [hC, List.take_eq_nil_iff] at z
    rcases z with z | z
    · exact absurd z (by decide)
    · exact hK0 z
  obtain ⟨N, hN⟩ : ∃ N, N = C.map fun k => setK k p ((k.getD p 0 + on) % m) := ⟨_, rfl⟩
  have hNm : ∀ k ∈ N, KOk n m k := fun k hk => by
    rw [hN] at hk
    obtain ⟨c, hc, rfl⟩ := List.mem_map.mp hk
    exact setK_ok (hCm c hc) (by omega) ⟨Int.emod_nonneg _ (by omega), Int.emod_lt_of_pos _ hm0⟩
  have hNl : N.length ≤ 6 := by rw [hN, List.length_map]; exact hCl
  have hN0 : N ≠ [] := by rw [hN]; simpa using hC0
  have e5 : lcGo (gNm 16) mYes l_law_3 [16] (C.map keyD) [.sh fz, .own w3, .sh (.int t), .sh (.int (n : Int)), .sh (.int m), .sh (.list (R.map keyD)), m6, .sh (.list ((every n m).map keyD)), .sh (.list (A.map keyD)), m9, .sh (.int (p : Int)), .sh (.int on), m12, m13, m14, m15, .no, .no] [] = some (N.map keyD, [.sh fz, .own w3, .sh (.int t), .sh (.int (n : Int)), .sh (.int m), .sh (.list (R.map keyD)), m6, .sh (.list ((every n m).map keyD)), .sh (.list (A.map keyD)), m9, .sh (.int (p : Int)), .sh (.int on), m12, m13, m14, m15, .no, .no]) := by
    rw [hN, List.map_map]
    refine lc_map (h := fun k => keyD (setK k p ((k.getD p 0 + on) % m))) (by omega) fun k hk => ?_
    have hkl := (hCm k hk).1
    have f1 := take_key k p
    have f2 := drop_key k p
    have f3 := ix_key (k := k) (i := p) (by omega)
    have f4 := add1_key (r := k.take p) (d := (k.getD p 0 + on) % m) (by rw [List.length_take]; omega)
    have f5 : addD (keyD (k.take p ++ [(k.getD p 0 + on) % m])) (keyD (k.drop (p + 1))) = some (.sh (keyD (setK k p ((k.getD p 0 + on) % m)))) := addD_keys (by rw [List.length_append, List.length_take, List.length_drop, List.length_singleton]; omega)
    have z1 : 1 ≤ lim := lim_of (by omega)
    generalize hv : keyD (setK k p ((k.getD p 0 + on) % m)) = k0 at *
    generalize keyD (k.take p ++ [(k.getD p 0 + on) % m]) = k1 at *
    generalize k.getD p 0 = x at *
    generalize keyD (k.take p) = k2 at *
    generalize keyD (k.drop (p + 1)) = k3 at *
    generalize keyD k = kd at *
    generalize (every n m).map keyD = ev at *
    generalize R.map keyD = rd at *
    generalize A.map keyD = ad at *
    unfold l_law_3
    simp [f1, f2, f3, f4, f5, z1, hm0]
  have lp : ∀ (m12 : M) (L : List D), (∀ d ∈ L, ∃ ss : List (List Int), d = .list (ss.map keyD) ∧ ss ≠ [] ∧ ss.length ≤ 20 ∧ ∀ k ∈ ss, k.length = n) → ∃ m13' m14' m15', forGo (gNm 13) b_law_1 L [.sh fz, .own w3, .sh (.int t), .sh (.int (n : Int)), .sh (.int m), .sh (.list (R.map keyD)), m6, .sh (.list ((every n m).map keyD)), .sh (.list (A.map keyD)), m9, .sh (.int (p : Int)), .sh (.int on), m12, m13, m14, m15, .no, .no] = some (.nx, [.sh fz, .own w3, .sh (.int t), .sh (.int (n : Int)), .sh (.int m), .sh (.list (R.map keyD)), m6, .sh (.list ((every n m).map keyD)), .sh (.list (A.map keyD)), m9, .sh (.int (p : Int)), .sh (.int on), m12, m13', m14', m15', .no, .no]) ∧ Shy m13' ∧ freeM (some m14') = true ∧ freeM (some m15') = true := fun m12 L hL => by
    obtain ⟨ρ', e, m13', m14', m15', hρ, g13, g14, g15⟩ := loops (S := fun ρ => ∃ m13 m14 m15, ρ = [.sh fz, .own w3, .sh (.int t), .sh (.int (n : Int)), .sh (.int m), .sh (.list (R.map keyD)), m6, .sh (.list ((every n m).map keyD)), .sh (.list (A.map keyD)), m9, .sh (.int (p : Int)), .sh (.int on), m12, m13, m14, m15, .no, .no] ∧ Shy m13 ∧ freeM (some m14) = true ∧ freeM (some m15) = true) (g := gNm 13) (b := b_law_1) (ok := fun d => ∃ ss : List (List Int), d = .list (ss.map keyD) ∧ ss ≠ [] ∧ ss.length ≤ 20 ∧ ∀ k ∈ ss, k.length = n) (fun ρ d ⟨ss, hd, s1, s2, s3⟩ ⟨m13, m14, m15, hρ, h13, h14, h15⟩ => by
      subst hρ hd
      obtain ⟨m13', m14', m15', e, g⟩ := free_turn (fz := fz) (w := w3) (m2 := .sh (.int t)) (m5 := .sh (.list (R.map keyD))) (m6 := m6) (m8 := .sh (.list (A.map keyD))) (m9 := m9) (m10 := .sh (.int (p : Int))) (m11 := .sh (.int on)) (m12 := m12) hn hm0 hm s1 s3 s2 h13 h14 h15
      exact ⟨_, e, _, _, _, rfl, g⟩) (ds := L) (ρ := [.sh fz, .own w3, .sh (.int t), .sh (.int (n : Int)), .sh (.int m), .sh (.list (R.map keyD)), m6, .sh (.list ((every n m).map keyD)), .sh (.list (A.map keyD)), m9, .sh (.int (p : Int)), .sh (.int on), m12, m13, m14, m15, .no, .no]) hL ⟨m13, m14, m15, rfl, h13, h14, h15⟩
    subst hρ
    exact ⟨m13', m14', m15', e, g13, g14, g15⟩
  have z1 : 1 ≤ lim := lim_of (by omega)
  have z2 : 2 ≤ lim := lim_of (by omega)
  by_cases ht : t = 0
  · subst ht
    obtain ⟨m13', m14', m15', e6, g13, g14, g15⟩ := lp (.sh (.list (N.map keyD))) [.list (R.map keyD), .list (N.map keyD)] fun d hd => by
      have hd : d = .list (R.map keyD) ∨ d = .list (N.map keyD) := by simpa using hd
      rcases hd with rfl | rfl
      · exact ⟨R, rfl, hR0, by omega, fun k hk => (hR k hk).1⟩
      · exact ⟨N, rfl, hN0, by omega, fun k hk => (hNm k hk).1⟩
    refine ⟨w3, .sh (.list (A.map keyD)), .sh (.int (p : Int)), .sh (.int on), .sh (.list (N.map keyD)), m13', m14', m15', ?_, b3, rfl, .sh _, .sh _, rfl, g13, g14, g15⟩
    clear lp
    generalize C.map keyD = cd at *
    generalize K.map keyD = kd at *
    generalize N.map keyD = nd at *
    generalize (every n m).map keyD = ev at *
    generalize R.map keyD = rd at *
    generalize A.map keyD = ad at *
    unfold v3
    simp [-forGo_cons, -slD_l, shy_free h10, shy_free h11, h12, e1, e2, e3, e4, e5, e6, z1, z2]
  · have s1 := sl_list keyD N none (some 2)
    have s2 := sl_list keyD R none (some 1)
    have s3 := sl_list keyD N none (some 1)
    rw [cut_to _ (by decide)] at s1 s2 s3
    have l1 : (N.take (Int.toNat 2)).length ≤ 2 := by rw [List.length_take]; exact Nat.min_le_left _ _
    have l2 : (R.take (Int.toNat 1)).length ≤ 1 := by rw [List.length_take]; exact Nat.min_le_left _ _
    have l3 : (N.take (Int.toNat 1)).length ≤ 1 := by rw [List.length_take]; exact Nat.min_le_left _ _
    have s4 : addD (.list ((N.take (Int.toNat 2)).map keyD)) (.list ((R.take (Int.toNat 1)).map keyD)) = some (.fr ((N.take (Int.toNat 2) ++ R.take (Int.toNat 1)).map keyD)) := add_list (by omega)
    obtain ⟨m13', m14', m15', e6, g13, g14, g15⟩ := lp (.own (N.map keyD)) [.list ((N.take (Int.toNat 2) ++ R.take (Int.toNat 1)).map keyD), .list ((N.take (Int.toNat 1)).map keyD)] fun d hd => by
      have hd : d = .list ((N.take (Int.toNat 2) ++ R.take (Int.toNat 1)).map keyD) ∨ d = .list ((N.take (Int.toNat 1)).map keyD) := by simpa using hd
      rcases hd with rfl | rfl
      · refine ⟨_, rfl, fun z => ?_, by rw [List.length_append]; omega, fun k hk => ?_⟩
        · rw [List.append_eq_nil_iff, List.take_eq_nil_iff] at z
          rcases z.1 with z | z
          · exact absurd z (by decide)
          · exact hN0 z
        · rcases List.mem_append.mp hk with hk | hk
          · exact (hNm k (List.mem_of_mem_take hk)).1
          · exact (hR k (List.mem_of_mem_take hk)).1
      · refine ⟨_, rfl, fun z => ?_, by omega, fun k hk => (hNm k (List.mem_of_mem_take hk)).1⟩
        rw [List.take_eq_nil_iff] at z
        rcases z with z | z
        · exact absurd z (by decide)
        · exact hN0 z
    refine ⟨w3, .sh (.list (A.map keyD)), .sh (.int (p : Int)), .sh (.int on), .own (N.map keyD), m13', m14', m15', ?_, b3, rfl, .sh _, .sh _, rfl, g13, g14, g15⟩
    clear lp
    generalize (N.take (Int.toNat 2) ++ R.take (Int.toNat 1)).map keyD = n1 at *
    generalize (N.take (Int.toNat 2)).map keyD = n2 at *
    generalize (R.take (Int.toNat 1)).map keyD = n3 at *
    generalize (N.take (Int.toNat 1)).map keyD = n4 at *
    generalize C.map keyD = cd at *
    generalize K.map keyD = kd at *
    generalize N.map keyD = nd at *
    generalize (every n m).map keyD = ev at *
    generalize R.map keyD = rd at *
    generalize A.map keyD = ad at *
    unfold v3
    simp [-forGo_cons, -slD_l, -addD_l, shy_free h10, shy_free h11, h12, e1, e2, e3, e4, e5, e6, s1, s2, s3, s4, ht, z1, z2]
end
end Law
/-! k63: the law -/
namespace Law
open PySem PySem.Spec PyProof.Rows L2 Mi
set_option maxRecDepth 100000
set_option maxHeartbeats 4000000
section
variable {fz : D} {n' : Nat} {m : Int}
theorem v2_ok {w : List D} {R : List (List Int)} {m6 m7 m8 m9 m10 m11 m12 m13 m14 m15 : M} {t : Int} (b : BoxOk w) (hn : n' ≤ 3) (hm0 : 0 < m) (hm : m ≤ 4) (hR : ∀ k ∈ R, KOk (n' + 1) m k) (hR0 : R ≠ []) (hRl : R.length ≤ 6) (h7 : freeM (some m7) = true) (h8 : freeM (some m8) = true) (h9 : freeM (some m9) = true) (h10 : Shy m10) (h11 : Shy m11) (h12 : freeM (some m12) = true) (h13 : Shy m13) (h14 : freeM (some m14) = true) (h15 : freeM (some m15) = true) :
    ∃ w' m7' m8' m9' m10' m11' m12' m13' m14' m15', v2 [.sh fz, .own w, .sh (.int t), .sh (.int ((n' + 1 : Nat) : Int)), .sh (.int m), .sh (.list (R.map keyD)), m6, m7, m8, m9, m10, m11, m12, m13, m14, m15, .no, .no] = some (.nx, [.sh fz, .own w', .sh (.int t), .sh (.int ((n' + 1 : Nat) : Int)), .sh (.int m), .sh (.list (R.map keyD)), m6, m7', m8', m9', m10', m11', m12', m13', m14', m15', .no, .no]) ∧ BoxOk w' ∧ freeM (some m7') = true ∧ freeM (some m8') = true ∧ freeM (some m9') = true ∧ Shy m10' ∧ Shy m11' ∧ freeM (some m12') = true ∧ Shy m13' ∧ freeM (some m14') = true ∧ freeM (some m15') = true := by
  have hA : ∀ k ∈ sums (n' + 1) m, KOk (n' + 1) m k := fun k hk => mem_ext_all.mp (List.mem_filter.mp hk).1
  have hsl := sums_len (n := n') hm0
  have hpos : 1 ≤ m.toNat ^ n' := Nat.one_le_pow _ _ (by omega)
  have hup : m.toNat ^ n' ≤ 64 := by
    have a : m.toNat ^ n' ≤ 4 ^ n' := Nat.pow_le_pow_left (by omega) _
    have b : 4 ^ n' ≤ 4 ^ 3 := Nat.pow_le_pow_right (by omega) hn
    omega
  obtain ⟨w', m8', m10', m11', m12', m13', m14', m15', e7, b', g8, g10, g11, g12, g13, g14, g15⟩ := v3_ok (fz := fz) (n := n' + 1) (m := m) (R := R) (A := sums (n' + 1) m) (m6 := m6) (m8 := .own ((sums (n' + 1) m).map keyD)) (m9 := .own ((sums (n' + 1) m).map keyD ++ [.tuple []])) (t := t) b (by omega) (by omega) hm0 hm hR hR0 hRl hA (fun z => by rw [z] at hsl; simp at hsl; omega) (by omega) rfl h10 h11 h12 h13 h14 h15
  have e1 := law_all_ok (n := n') (m := m) (by omega) hm hn
  have hev := every_256 (n := n' + 1) (m := m) (by omega) (by omega) hm
  have e2 : lcGo (gNm 16) t_law_3 l_law_4 [16] ((every (n' + 1) m).map keyD) [.sh fz, .own w, .sh (.int t), .sh (.int ((n' + 1 : Nat) : Int)), .sh (.int m), .sh (.list (R.map keyD)), m6, .sh (.list ((every (n' + 1) m).map keyD)), m8, m9, m10, m11, m12, m13, m14, m15, .no, .no] [] = some ((sums (n' + 1) m).map keyD, [.sh fz, .own w, .sh (.int t), .sh (.int ((n' + 1 : Nat) : Int)), .sh (.int m), .sh (.list (R.map keyD)), m6, .sh (.list ((every (n' + 1) m).map keyD)), m8, m9, m10, m11, m12, m13, m14, m15, .no, .no]) := by
    refine keep_by (sumK m) (by omega) fun k _ => ?_
    have es : sumXD (keyD k) = some (.sh (.int k.sum)) := sumXD_t k
    generalize (every (n' + 1) m).map keyD = ev at *
    generalize R.map keyD = rd at *
    generalize keyD k = kk at *
    unfold t_law_3 l_law_4 sumK
    by_cases hz : k.sum % m = 0
    · simp [es, hm0, hz]
    · simp [es, hm0, hz]
  have e3 := sum_keys_ok (n := n' + 1) (m := m) (by omega) hm0 hm
  have e4 := same_keys (ks := sums (n' + 1) m) (by omega) fun k hk => ⟨by have := (hA k hk).1; omega, fun d hd => by have := (hA k hk).2 d hd; omega⟩
  have e5 := most_ok (n := n' + 1) (m := m) (by omega) (by omega) hm
  rw [show n' + 1 - 1 = n' from rfl] at e5
  have el := len_list keyD (sums (n' + 1) m)
  rw [hsl] at el
  have e6 : phi_law_same 12 [.int ((m.toNat ^ n' : Nat) : Int), .int ((m.toNat ^ n' : Nat) : Int)] = some (.sh (.bool true)) := same_int (i64_of (by omega) (by omega))
  have z0 : 0 ≤ lim := Nat.zero_le _
  have zl : ((sums (n' + 1) m).map keyD).length < lim := by rw [List.length_map]; exact lim_lt' (by omega)
  refine ⟨w', .sh (.list ((every (n' + 1) m).map keyD)), m8', .own ((sums (n' + 1) m).map keyD ++ [.tuple []]), m10', m11', m12', m13', m14', m15', ?_, b', freeM_sh _, g8, freeM_own _, g10, g11, g12, g13, g14, g15⟩
  · generalize ((m.toNat ^ n' : Nat) : Int) = pw at *
    generalize (every (n' + 1) m).map keyD = ev at *
    generalize (sums (n' + 1) m).map keyD = sd at *
    generalize R.map keyD = rd at *
    generalize ((n' + 1 : Nat) : Int) = nn at *
    unfold v2
    simp [-lenD_l, h7, h8, h9, e1, e2, e3, e4, e5, el, e6, z0, zl, e7]
theorem v1_ok {w : List D} {m6 m7 m8 m9 m10 m11 m12 m13 m14 m15 : M} {t : Int} (b : BoxOk w) (hn : n' ≤ 3) (hm0 : 0 < m) (hm : m ≤ 4) (h6 : Shy m6) (h7 : freeM (some m7) = true) (h8 : freeM (some m8) = true) (h9 : freeM (some m9) = true) (h10 : Shy m10) (h11 : Shy m11) (h12 : freeM (some m12) = true) (h13 : Shy m13) (h14 : freeM (some m14) = true) (h15 : freeM (some m15) = true) :
    ∃ w' m5' m6' m7' m8' m9' m10' m11' m12' m13' m14' m15', v1 [.sh fz, .own w, .sh (.int t), .sh (.int ((n' + 1 : Nat) : Int)), .sh (.int m), .own [], m6, m7, m8, m9, m10, m11, m12, m13, m14, m15, .no, .no] = some (.nx, [.sh fz, .own w', .sh (.int t), .sh (.int ((n' + 1 : Nat) : Int)), .sh (.int m), m5', m6', m7', m8', m9', m10', m11', m12', m13', m14', m15', .no, .no]) ∧ BoxOk w' ∧ freeM (some m5') = true ∧ Shy m6' ∧ freeM (some m7') = true ∧ freeM (some m8') = true ∧ freeM (some m9') = true ∧ Shy m10' ∧ Shy m11' ∧ freeM (some m12') = true ∧ Shy m13' ∧ freeM (some m14') = true ∧ freeM (some m15') = true := by
  obtain ⟨c, w1, e1, b1, hc⟩ := pickL_ints (row := [5, 6, 4, 3, 2, 1]) b (by simp)
  have e1 : phiL_law_pick w [.l [.int 5, .int 6, .int 4, .int 3, .int 2, .int 1]] = some (.sh (.int c), w1) := e1
  have hc : c = 5 ∨ c = 6 ∨ c = 4 ∨ c = 3 ∨ c = 2 ∨ c = 1 := by simpa using hc
  obtain ⟨N, rfl⟩ : ∃ N : Nat, c = (N : Int) := ⟨c.toNat, by omega⟩
  obtain ⟨ρ', e2, w2, R, m6', hρ, b2, hRl, hR, h6'⟩ := rturns (N := N) (g := gNm 6) (b := b_law_2) (S := fun j ρ => ∃ w R m6, ρ = [.sh fz, .own w, .sh (.int t), .sh (.int ((n' + 1 : Nat) : Int)), .sh (.int m), .own (R.map keyD), m6, m7, m8, m9, m10, m11, m12, m13, m14, m15, .no, .no] ∧ BoxOk w ∧ R.length = j ∧ (∀ k ∈ R, KOk (n' + 1) m k) ∧ Shy m6)
    (fun j ρ hj ⟨w, R, m6, hρ, bw, hl, hR, h6⟩ => by
      subst hρ
      obtain ⟨w', k, e, b', hk⟩ := row_turn (fz := fz) (n := n' + 1) (m2 := .sh (.int t)) (m7 := m7) (m8 := m8) (m9 := m9) (m10 := m10) (m11 := m11) (m12 := m12) (m13 := m13) (m14 := m14) (m15 := m15) (t := (j : Int)) bw (by omega) hm0 hR (by omega) h6
      refine ⟨_, e, w', R ++ [k], _, rfl, b', by rw [List.length_append, hl]; rfl, fun x hx => ?_, .sh _⟩
      rcases List.mem_append.mp hx with hx | hx
      · exact hR x hx
      · rw [List.mem_singleton] at hx; subst hx; exact hk)
    (ρ := [.sh fz, .own w1, .sh (.int t), .sh (.int ((n' + 1 : Nat) : Int)), .sh (.int m), .own [], m6, m7, m8, m9, m10, m11, m12, m13, m14, m15, .no, .no]) ⟨w1, [], m6, rfl, b1, rfl, (fun k h => by cases h), h6⟩
  subst hρ
  have hR0 : R ≠ [] := fun z => by rw [z] at hRl; simp at hRl; omega
  obtain ⟨w3, e3, b3⟩ := planned_ok (ks := R) (n := n' + 1) (m := m) b2 (fun k hk => ⟨(hR k hk).1, fun d hd => by have := (hR k hk).2 d hd; omega⟩) (by omega) (by omega) (by omega) (by omega) hm0
  obtain ⟨w4, m7', m8', m9', m10', m11', m12', m13', m14', m15', e4, b4, g7, g8, g9, g10, g11, g12, g13, g14, g15⟩ := v2_ok (fz := fz) (n' := n') (m := m) (R := R) (m6 := m6') (m7 := m7) (m8 := m8) (m9 := m9) (t := t) b3 hn hm0 hm hR hR0 (by omega) h7 h8 h9 h10 h11 h12 h13 h14 h15
  refine ⟨w4, .sh (.list (R.map keyD)), m6', m7', m8', m9', m10', m11', m12', m13', m14', m15', ?_, b4, rfl, h6', g7, g8, g9, g10, g11, g12, g13, g14, g15⟩
  have z : i62 (N : Int) = true := i62_of (by omega) (by omega)
  have z6 : 6 ≤ lim := lim_of (by omega)
  generalize R.map keyD = rd at *
  generalize ((n' + 1 : Nat) : Int) = nn at *
  unfold v1
  simp [-forGo_cons, e1, z, e2, e3, e4, z6]
end
section
variable {fz : D}
theorem turn3_ok {w : List D} {m2 m3 m4 m5 m6 m7 m8 m9 m10 m11 m12 m13 m14 m15 : M} {t : Int} (b : BoxOk w) (h2 : Shy m2) (h3 : Shy m3) (h4 : Shy m4) (h5 : freeM (some m5) = true) (h6 : Shy m6) (h7 : freeM (some m7) = true) (h8 : freeM (some m8) = true) (h9 : freeM (some m9) = true) (h10 : Shy m10) (h11 : Shy m11) (h12 : freeM (some m12) = true) (h13 : Shy m13) (h14 : freeM (some m14) = true) (h15 : freeM (some m15) = true) :
    ∃ w' m3' m4' m5' m6' m7' m8' m9' m10' m11' m12' m13' m14' m15', bnd (gNm 2 (.int t) [.sh fz, .own w, m2, m3, m4, m5, m6, m7, m8, m9, m10, m11, m12, m13, m14, m15, .no, .no]) b_law_3 = some (.nx, [.sh fz, .own w', .sh (.int t), m3', m4', m5', m6', m7', m8', m9', m10', m11', m12', m13', m14', m15', .no, .no]) ∧ BoxOk w' ∧ Shy m3' ∧ Shy m4' ∧ freeM (some m5') = true ∧ Shy m6' ∧ freeM (some m7') = true ∧ freeM (some m8') = true ∧ freeM (some m9') = true ∧ Shy m10' ∧ Shy m11' ∧ freeM (some m12') = true ∧ Shy m13' ∧ freeM (some m14') = true ∧ freeM (some m15') = true := by
  obtain ⟨p, w1, e1, b1, hp⟩ := pickL_ints (row := [3, 4, 2, 3, 1]) b (by simp)
  have e1 : phiL_law_pick w [.l [.int 3, .int 4, .int 2, .int 3, .int 1]] = some (.sh (.int p), w1) := e1
  have hp : p = 3 ∨ p = 4 ∨ p = 2 ∨ p = 3 ∨ p = 1 := by simpa using hp
  obtain ⟨n', rfl⟩ : ∃ n' : Nat, p = ((n' + 1 : Nat) : Int) := ⟨(p - 1).toNat, by omega⟩
  have z3 : 3 ≤ lim := lim_of (by omega)
  have z5 : 5 ≤ lim := lim_of (by omega)
  have z0 : 0 ≤ lim := Nat.zero_le _
  by_cases hlt : ((n' + 1 : Nat) : Int) < 4
  · obtain ⟨m, w2, e2, b2, hm⟩ := pickL_ints (row := [3, 2, 4]) b1 (by simp)
    have e2 : phiL_law_pick w1 [.l [.int 3, .int 2, .int 4]] = some (.sh (.int m), w2) := e2
    have hm : m = 3 ∨ m = 2 ∨ m = 4 := by simpa using hm
    obtain ⟨w3, m5', m6', m7', m8', m9', m10', m11', m12', m13', m14', m15', e3, b3, g5, g6, g7, g8, g9, g10, g11, g12, g13, g14, g15⟩ := v1_ok (fz := fz) (n' := n') (m := m) (t := t) b2 (by omega) (by omega) (by omega) h6 h7 h8 h9 h10 h11 h12 h13 h14 h15
    refine ⟨w3, .sh (.int ((n' + 1 : Nat) : Int)), .sh (.int m), m5', m6', m7', m8', m9', m10', m11', m12', m13', m14', m15', ?_, b3, .sh _, .sh _, g5, g6, g7, g8, g9, g10, g11, g12, g13, g14, g15⟩
    generalize ((n' + 1 : Nat) : Int) = nn at *
    rw [b_law_3_eq]
    simp [shy_free h2, shy_free h3, shy_free h4, h5, e1, e2, e3, hlt, z3, z5, z0]
  · obtain ⟨m, w2, e2, b2, hm⟩ := pickL_ints (row := [2, 2, 3]) b1 (by simp)
    have e2 : phiL_law_pick w1 [.l [.int 2, .int 2, .int 3]] = some (.sh (.int m), w2) := e2
    have hm : m = 2 ∨ m = 2 ∨ m = 3 := by simpa using hm
    obtain ⟨w3, m5', m6', m7', m8', m9', m10', m11', m12', m13', m14', m15', e3, b3, g5, g6, g7, g8, g9, g10, g11, g12, g13, g14, g15⟩ := v1_ok (fz := fz) (n' := n') (m := m) (t := t) b2 (by omega) (by omega) (by omega) h6 h7 h8 h9 h10 h11 h12 h13 h14 h15
    refine ⟨w3, .sh (.int ((n' + 1 : Nat) : Int)), .sh (.int m), m5', m6', m7', m8', m9', m10', m11', m12', m13', m14', m15', ?_, b3, .sh _, .sh _, g5, g6, g7, g8, g9, g10, g11, g12, g13, g14, g15⟩
    generalize ((n' + 1 : Nat) : Int) = nn at *
    rw [b_law_3_eq]
    simp [shy_free h2, shy_free h3, shy_free h4, h5, e1, e2, e3, hlt, z3, z5, z0]
end
/-! what is told by hand -/
theorem c_most : phi_most_keys [.int 0, .int 3] = some (.sh (.int 1)) := most_ok (n := 0) (m := 3) (by decide) (by decide) (by decide)
theorem c_sums : phi_sum_keys [.int 2, .int 3] = some (.fr [.tuple [.int 0, .int 0], .tuple [.int 1, .int 2], .tuple [.int 2, .int 1]]) := by
  have e := sum_keys_ok (n := 2) (m := 3) (by decide) (by decide) (by decide)
  rw [show sums 2 3 = [[0, 0], [1, 2], [2, 1]] by decide] at e
  exact e
theorem c_free1 : phi_free_key [.list [.tuple [.int 0]], .int 4] = some (.sh .none) := by
  have e := free_key_ok (n := 1) (m := 4) (g0 := [0]) (gs := []) (by decide) (by decide) (by decide) (by simp) (by decide)
  rw [show freeR 1 4 [[0]] = none by decide] at e
  exact e
theorem c_free3 : phi_free_key [.list [.tuple [.int 0, .int 0, .int 0], .tuple [.int 0, .int 1, .int 1]], .int 2] = some (.sh (.tuple [.int 1, .int 0, .int 1])) := by
  have e := free_key_ok (n := 3) (m := 2) (g0 := [0, 0, 0]) (gs := [[0, 1, 1]]) (by decide) (by decide) (by decide) (by simp) (by decide)
  rw [show freeR 3 2 [[0, 0, 0], [0, 1, 1]] = some [1, 0, 1] by decide] at e
  exact e
theorem cW1 : WOk [[0, 0], [1, 1], [0, 1]] 2 [[0, 1]] := ⟨by decide, by decide, by decide, by decide, by decide, by decide, by decide⟩
theorem cW2 : WOk [[0, 0], [1, 1]] 2 [[1], [0, 1]] := ⟨by decide, by decide, by decide, by decide, by decide, by decide, by decide⟩
theorem c_str : phi_first_stranger [.list [.tuple [.int 0, .int 0], .tuple [.int 1, .int 1], .tuple [.int 0, .int 1]], .list [.tuple [.int 0, .int 1]]] = some (.sh (.tuple [.int 0, .int 2])) := by
  have e := first_stranger_ok cW1
  exact e
theorem c_can1 : phi_can_plan [.list [.tuple [.int 0, .int 0], .tuple [.int 1, .int 1], .tuple [.int 0, .int 1]], .list [.tuple [.int 0, .int 1]]] = some (.sh (.bool false)) := by
  have e := can_plan_ok cW1
  exact e
theorem c_can2 : phi_can_plan [.list [.tuple [.int 0, .int 0], .tuple [.int 1, .int 1]], .list [.tuple [.int 1], .tuple [.int 0, .int 1]]] = some (.sh (.bool true)) := by
  have e := can_plan_ok cW2
  exact e
theorem x2_ok (e : M) (ρ : En) : x2 (e :: ρ) = some (.rt (.sh (.bool true)), e :: ρ) := by
  have s1 : phi_law_same 12 [.tuple [.int 0, .int 2], .tuple [.int 0, .int 2]] = some (.sh (.bool true)) := same_pair (by decide) (by decide)
  have s2 : phi_law_same 12 [.tuple [.int 1, .int 0, .int 1], .tuple [.int 1, .int 0, .int 1]] = some (.sh (.bool true)) := same_key (k := [1, 0, 1]) (by decide) (by decide)
  have z0 : 0 ≤ lim := Nat.zero_le _
  have z1 : 1 ≤ lim := lim_of (by decide)
  have z2 : 2 ≤ lim := lim_of (by decide)
  have z3 : 3 ≤ lim := lim_of (by decide)
  unfold x2
  simp [c_str, c_can1, c_can2, c_free3, s1, s2, z0, z1, z2, z3]
theorem x1_ok (e : M) (ρ : En) : x1 (e :: ρ) = some (.rt (.sh (.bool true)), e :: ρ) := by
  have s1 : phi_law_same 12 [.int 1, .int 1] = some (.sh (.bool true)) := same_int (by decide)
  have s2 : phi_law_same 12 [.list [.tuple [.int 0, .int 0], .tuple [.int 1, .int 2], .tuple [.int 2, .int 1]], .list [.tuple [.int 0, .int 0], .tuple [.int 1, .int 2], .tuple [.int 2, .int 1]]] = some (.sh (.bool true)) := same_keys (ks := [[0, 0], [1, 2], [2, 1]]) (by decide) (by decide)
  have z0 : 0 ≤ lim := Nat.zero_le _
  have z1 : 1 ≤ lim := lim_of (by decide)
  have z2 : 2 ≤ lim := lim_of (by decide)
  have z3 : 3 ≤ lim := lim_of (by decide)
  unfold x1
  simp [x2_ok, c_most, c_sums, c_free1, s1, s2, z0, z1, z2, z3]
theorem main (ns : List Int) (hn : ns.length ≤ 63) : phi_law [frzD (ns.map .int)] = some (.sh (.bool true)) := by
  obtain ⟨ds, e1⟩ := digits_ok ns (b := 16) (by decide) (by decide)
  generalize frzD (ns.map PyData.int) = fz at *
  obtain ⟨ρ2, e2, w2, m2, m3, m4, m5, m6, m7, m8, m9, m10, m11, m12, m13, m14, m15, hρ, _⟩ := rturns (N := 2) (g := gNm 2) (b := b_law_3) (S := fun j ρ => ∃ w m2 m3 m4 m5 m6 m7 m8 m9 m10 m11 m12 m13 m14 m15, ρ = [.sh fz, .own w, m2, m3, m4, m5, m6, m7, m8, m9, m10, m11, m12, m13, m14, m15, .no, .no] ∧ BoxOk w ∧ Shy m2 ∧ Shy m3 ∧ Shy m4 ∧ freeM (some m5) = true ∧ Shy m6 ∧ freeM (some m7) = true ∧ freeM (some m8) = true ∧ freeM (some m9) = true ∧ Shy m10 ∧ Shy m11 ∧ freeM (some m12) = true ∧ Shy m13 ∧ freeM (some m14) = true ∧ freeM (some m15) = true)
    (fun j ρ hj ⟨w, m2, m3, m4, m5, m6, m7, m8, m9, m10, m11, m12, m13, m14, m15, hρ, bw, h2, h3, h4, h5, h6, h7, h8, h9, h10, h11, h12, h13, h14, h15⟩ => by
      subst hρ
      obtain ⟨w', m3', m4', m5', m6', m7', m8', m9', m10', m11', m12', m13', m14', m15', e, b', g⟩ := turn3_ok (fz := fz) (t := (j : Int)) bw h2 h3 h4 h5 h6 h7 h8 h9 h10 h11 h12 h13 h14 h15
      exact ⟨_, e, w', .sh (.int (j : Int)), m3', m4', m5', m6', m7', m8', m9', m10', m11', m12', m13', m14', m15', rfl, b', .sh _, g⟩)
    (ρ := [.sh fz, .own [.list (ds.map .int), .int 0], .no, .no, .no, .no, .no, .no, .no, .no, .no, .no, .no, .no, .no, .no, .no, .no]) ⟨_, .no, .no, .no, .no, .no, .no, .no, .no, .no, .no, .no, .no, .no, .no, rfl, box_ok ds, .no, .no, .no, rfl, .no, rfl, rfl, rfl, .no, .no, rfl, .no, rfl, rfl⟩
  subst hρ
  have e2 : forGo (gNm 2) b_law_3 (rangeD 0 2) _ = _ := e2
  have z0 : 0 ≤ lim := Nat.zero_le _
  have z2 : 2 ≤ lim := lim_of (by decide)
  have z : i62 2 = true := by decide
  generalize ds.map PyData.int = dd at *
  unfold phi_law
  rw [runN_eq (by rfl), m_law_eq]
  simp [-forGo_cons, x1_ok, e1, e2, z0, z2, z]
end Law
/-! the walk: each def keeps its plain function (printed by gen.py) -/
namespace Law
open PySem PySem.Spec PyProof.Rows L2 Mi
set_option maxRecDepth 100000
set_option maxHeartbeats 4000000
def topS (i : Nat) : Stmt := PySem.Challenge.pw_postlands_k63_whole_plans_of_keys.main.body.getD i (.Pass ⟨0, 0, 0, 0⟩)
abbrev s_opens : Stmt := topS 1
theorem sc_opens : FnScope ["key", "lock", "depth", "pins"] ["key", "lock"] (defScope s_opens) := ⟨rfl, rfl, rfl, by decide +kernel, rfl, by decide +kernel, by decide +kernel⟩
abbrev s_lock_for : Stmt := topS 2
theorem sc_lock_for : FnScope ["keys", "column", "depth"] ["keys"] (defScope s_lock_for) := ⟨rfl, rfl, rfl, by decide +kernel, rfl, by decide +kernel, by decide +kernel⟩
abbrev s_strange_keys : Stmt := topS 3
theorem sc_strange_keys : FnScope ["keys", "locks", "lock", "place", "key"] ["keys", "locks"] (defScope s_strange_keys) := ⟨rfl, rfl, rfl, by decide +kernel, rfl, by decide +kernel, by decide +kernel⟩
abbrev s_is_plan : Stmt := topS 4
theorem sc_is_plan : FnScope ["keys", "wanted", "locks", "row"] ["keys", "wanted", "locks"] (defScope s_is_plan) := ⟨rfl, rfl, rfl, by decide +kernel, rfl, by decide +kernel, by decide +kernel⟩
abbrev s_first_stranger : Stmt := topS 6
theorem sc_first_stranger : FnScope ["keys", "wanted", "place", "some", "lock", "far", "key"] ["keys", "wanted"] (defScope s_first_stranger) := ⟨rfl, rfl, rfl, by decide +kernel, rfl, by decide +kernel, by decide +kernel⟩
abbrev s_can_plan : Stmt := topS 5
theorem sc_can_plan : FnScope ["keys", "wanted"] ["keys", "wanted"] (defScope s_can_plan) := ⟨rfl, rfl, rfl, by decide +kernel, rfl, by decide +kernel, by decide +kernel⟩
abbrev s_free_key : Stmt := topS 7
theorem sc_free_key : FnScope ["keys", "depths", "pins", "rows", "pin", "row", "depth", "key", "one", "other"] ["keys", "depths"] (defScope s_free_key) := ⟨rfl, rfl, rfl, by decide +kernel, rfl, by decide +kernel, by decide +kernel⟩
abbrev s_most_keys : Stmt := topS 8
theorem sc_most_keys : FnScope ["pins", "depths", "found", "pin"] ["pins", "depths"] (defScope s_most_keys) := ⟨rfl, rfl, rfl, by decide +kernel, rfl, by decide +kernel, by decide +kernel⟩
abbrev s_sum_keys : Stmt := topS 9
theorem sc_sum_keys : FnScope ["pins", "depths", "rows", "pin", "row", "depth"] ["pins", "depths"] (defScope s_sum_keys) := ⟨rfl, rfl, rfl, by decide +kernel, rfl, by decide +kernel, by decide +kernel⟩
abbrev s_law_cell : Stmt := topS 11
theorem sc_law_cell : FnScope ["script", "k"] ["script", "k"] (defScope s_law_cell) := ⟨rfl, rfl, rfl, by decide +kernel, rfl, by decide +kernel, by decide +kernel⟩
abbrev s_law_digits : Stmt := topS 12
theorem sc_law_digits : FnScope ["script", "first", "last", "digits", "k", "cell", "turn", "seed"] ["script", "first", "last"] (defScope s_law_digits) := ⟨rfl, rfl, rfl, by decide +kernel, rfl, by decide +kernel, by decide +kernel⟩
abbrev s_law_draw : Stmt := topS 13
theorem sc_law_draw : FnScope ["box", "many"] ["box", "many"] (defScope s_law_draw) := ⟨rfl, rfl, rfl, by decide +kernel, rfl, by decide +kernel, by decide +kernel⟩
abbrev s_law_pick : Stmt := topS 14
theorem sc_law_pick : FnScope ["box", "row"] ["box", "row"] (defScope s_law_pick) := ⟨rfl, rfl, rfl, by decide +kernel, rfl, by decide +kernel, by decide +kernel⟩
abbrev s_law_same : Stmt := topS 15
theorem sc_law_same : FnScope ["told", "due", "k"] ["told", "due"] (defScope s_law_same) := ⟨rfl, rfl, rfl, by decide +kernel, rfl, by decide +kernel, by decide +kernel⟩
abbrev s_law_mixed : Stmt := topS 16
theorem sc_law_mixed : FnScope ["box", "row", "left", "found", "k"] ["box", "row"] (defScope s_law_mixed) := ⟨rfl, rfl, rfl, by decide +kernel, rfl, by decide +kernel, by decide +kernel⟩
abbrev s_law_all : Stmt := topS 17
theorem sc_law_all : FnScope ["pins", "depths", "rows", "pin", "longer", "row", "depth"] ["pins", "depths"] (defScope s_law_all) := ⟨rfl, rfl, rfl, by decide +kernel, rfl, by decide +kernel, by decide +kernel⟩
abbrev s_law_fits : Stmt := topS 18
theorem sc_law_fits : FnScope ["key", "lock", "pin"] ["key", "lock"] (defScope s_law_fits) := ⟨rfl, rfl, rfl, by decide +kernel, rfl, by decide +kernel, by decide +kernel⟩
abbrev s_law_key : Stmt := topS 19
theorem sc_law_key : FnScope ["box", "pins", "depths", "pin"] ["box", "pins", "depths"] (defScope s_law_key) := ⟨rfl, rfl, rfl, by decide +kernel, rfl, by decide +kernel, by decide +kernel⟩
abbrev s_law_least : Stmt := topS 20
theorem sc_law_least : FnScope ["rows", "pins", "found", "pin", "depth", "row"] ["rows", "pins"] (defScope s_law_least) := ⟨rfl, rfl, rfl, by decide +kernel, rfl, by decide +kernel, by decide +kernel⟩
abbrev s_law_let_in : Stmt := topS 21
theorem sc_law_let_in : FnScope ["rows", "lock", "k"] ["rows", "lock"] (defScope s_law_let_in) := ⟨rfl, rfl, rfl, by decide +kernel, rfl, by decide +kernel, by decide +kernel⟩
abbrev s_law_wanted : Stmt := topS 22
theorem sc_law_wanted : FnScope ["box", "rows", "pins", "found", "turn", "some", "lot", "k"] ["box", "rows", "pins"] (defScope s_law_wanted) := ⟨rfl, rfl, rfl, by decide +kernel, rfl, by decide +kernel, by decide +kernel⟩
abbrev s_law_stranger : Stmt := topS 23
theorem sc_law_stranger : FnScope ["rows", "wanted", "pins", "place", "lock", "far", "k"] ["rows", "wanted", "pins"] (defScope s_law_stranger) := ⟨rfl, rfl, rfl, by decide +kernel, rfl, by decide +kernel, by decide +kernel⟩
abbrev s_law_bent : Stmt := topS 24
theorem sc_law_bent : FnScope ["box", "locks", "pins", "depths", "at", "pin", "lock", "depth", "more", "found"] ["box", "locks", "pins", "depths"] (defScope s_law_bent) := ⟨rfl, rfl, rfl, by decide +kernel, rfl, by decide +kernel, by decide +kernel⟩
abbrev s_law_planned : Stmt := topS 25
theorem sc_law_planned : FnScope ["box", "rows", "pins", "depths", "wanted", "handed", "others", "stranger", "locks", "some", "let_in", "given_locks", "told", "k", "lock", "row"] ["box", "rows", "pins", "depths"] (defScope s_law_planned) := ⟨rfl, rfl, rfl, by decide +kernel, rfl, by decide +kernel, by decide +kernel⟩
abbrev s_law_apart : Stmt := topS 26
theorem sc_law_apart : FnScope ["one", "other", "pin"] ["one", "other"] (defScope s_law_apart) := ⟨rfl, rfl, rfl, by decide +kernel, rfl, by decide +kernel, by decide +kernel⟩
abbrev s_law : Stmt := topS 27
theorem sc_law : FnScope ["script", "box", "turn", "pins", "depths", "rows", "k", "every", "alike", "told", "pin", "on", "near", "some", "free", "handed", "key", "far"] ["script"] (defScope s_law) := ⟨rfl, rfl, rfl, by decide +kernel, rfl, by decide +kernel, by decide +kernel⟩
structure Txt [KK] (w : World) (mg : Str → Option Value) : Prop where
  z_all : mg "all" = none
  z_bool : mg "bool" = none
  z_enumerate : mg "enumerate" = none
  z_int : mg "int" = none
  z_isinstance : mg "isinstance" = none
  z_len : mg "len" = none
  z_list : mg "list" = none
  z_max : mg "max" = none
  z_range : mg "range" = none
  z_repr : mg "repr" = none
  z_sorted : mg "sorted" = none
  z_str : mg "str" = none
  z_sum : mg "sum" = none
  z_tuple : mg "tuple" = none
  z_zip : mg "zip" = none
section
variable [KK] {P : Program} {w : World} {mg : Str → Option Value} {base : Heap} {f : Addr} {fd : FuncData}
theorem ok_opens (T : Txt w mg) (F : Fun KK.K "opens" "opens" s_opens f fd) (mgf : mg "opens" = some (.ref f))   : Cl P w mg base "opens" 1 (spN phi_opens) :=
  ⟨f, fd, ["key", "lock"], fn_mk F sc_opens (fun cdv A outer s H E hr => (mss_cons (ms_ret (me_and (me_cmp (cmp_eq (hu64 hr)) (me_b1 c_len (by rfl) (T.z_len) (by decide +kernel) (me_var (pv 0))) (me_b1 c_len (by rfl) (T.z_len) (by decide +kernel) (me_var (pv 1))) (by rfl)) (me_one (me_b1 (c_all rfl) (by rfl) (T.z_all) (by decide +kernel) (me_lc (own := [("depth", 2), ("pins", 3)]) rfl sc_opens.nd (mi_zipA (by rfl) (T.z_zip) (ma_cons (me_var (pv 0)) (ma_cons (me_var (pv 1)) ma_nil))) (blkOk_by (N := ["key", "lock", "depth", "pins"]) (sc := (defScope s_opens)) (by decide +kernel)) (fun _ _ _ _ _ => (mg_tup rfl (mgs_cons (mg_name (pg_name (i := 2) sc_opens.nd rfl (.inl rfl))) (mgs_cons (mg_name (pg_name (i := 3) sc_opens.nd rfl (.inl rfl))) mgs_nil)))) (fun _ _ _ _ _ => mts_nil) (fun _ _ _ _ _ => (me_cmp (cmp_inX (hu65 hr)) (me_var (pv 2)) (me_var (pv 3)) (by rfl))))))))
  mss_nil)) (runN_ok rfl rfl), mgf, F.kp, F.binds (ps := ["key", "lock"]) fun _ _ _ _ _ _ us hl => match us, hl with | [_, _], _ => rfl⟩
theorem ok_lock_for (T : Txt w mg) (F : Fun KK.K "lock_for" "lock_for" s_lock_for f fd) (mgf : mg "lock_for" = some (.ref f))   : Cl P w mg base "lock_for" 1 (spN phi_lock_for) :=
  ⟨f, fd, ["keys"], fn_mk F sc_lock_for (fun cdv A outer s H E hr => (mss_cons (ms_ret (me_t1 c_tuple (by rfl) (T.z_tuple) (by decide +kernel) (me_lc (own := [("column", 1)]) rfl sc_lock_for.nd (mi_zipS (by rfl) (T.z_zip) (me_var (pv 0))) (blkOk_by (N := ["keys", "column", "depth"]) (sc := (defScope s_lock_for)) (by decide +kernel)) (fun _ _ _ _ _ => (mg_name (pg_name (i := 1) sc_lock_for.nd rfl (.inl rfl)))) (fun _ _ _ _ _ => mts_nil) (fun _ _ _ _ _ => (me_t1 c_tuple (by rfl) (T.z_tuple) (by decide +kernel) (me_sortSet (own := [("depth", 2)]) rfl sc_lock_for.nd (mi_of (me_var (pv 1))) (blkOk_by (N := ["keys", "column", "depth"]) (sc := (relS _ (defScope s_lock_for))) (by decide +kernel)) (fun _ _ _ _ _ => (mg_name (pg_name (i := 2) sc_lock_for.nd rfl (.inl rfl)))) (fun _ _ _ _ _ => mts_nil) (fun _ _ _ _ _ => (me_var (pv 2))) (by rfl) (T.z_sorted) (by decide +kernel)))))))
  mss_nil)) (runN_ok rfl rfl), mgf, F.kp, F.binds (ps := ["keys"]) fun _ _ _ _ _ _ us hl => match us, hl with | [_], _ => rfl⟩
theorem ok_strange_keys (T : Txt w mg) (F : Fun KK.K "strange_keys" "strange_keys" s_strange_keys f fd) (mgf : mg "strange_keys" = some (.ref f))  (c_opens : Cl P w mg base "opens" 1 (spN phi_opens)) : Cl P w mg base "strange_keys" 2 (spN phi_strange_keys) :=
  ⟨f, fd, ["keys", "locks"], fn_mk F sc_strange_keys (fun cdv A outer s H E hr => (mss_cons (ms_ret (me_lc (own := [("lock", 2)]) rfl sc_strange_keys.nd (mi_of (me_var (pv 1))) (blkOk_by (N := ["keys", "locks", "lock", "place", "key"]) (sc := (defScope s_strange_keys)) (by decide +kernel)) (fun _ _ _ _ _ => (mg_name (pg_name (i := 2) sc_strange_keys.nd rfl (.inr rfl)))) (fun _ _ _ _ _ => mts_nil) (fun _ _ _ _ _ => (me_lc (own := [("place", 3), ("key", 4)]) rfl sc_strange_keys.nd (mi_enumA (by rfl) (T.z_enumerate) (ma_cons (me_var (pv 0)) ma_nil)) (blkOk_by (N := ["keys", "locks", "lock", "place", "key"]) (sc := (relS _ (defScope s_strange_keys))) (by decide +kernel)) (fun _ _ _ _ _ => (mg_tup rfl (mgs_cons (mg_name (pg_name (i := 3) sc_strange_keys.nd rfl (.inl rfl))) (mgs_cons (mg_name (pg_name (i := 4) sc_strange_keys.nd rfl (.inl rfl))) mgs_nil)))) (fun _ _ _ _ _ => (mts_one (mt_val (me_callC c_opens (hr.mono (by decide)) (by rfl) (ma_cons (me_var (pv 4)) (ma_cons (me_var (pv 2)) ma_nil))) (fun _ => rfl)))) (fun _ _ _ _ _ => (me_var (pv 3)))))))
  mss_nil)) (runN_ok rfl rfl), mgf, F.kp, F.binds (ps := ["keys", "locks"]) fun _ _ _ _ _ _ us hl => match us, hl with | [_, _], _ => rfl⟩
theorem ok_is_plan (T : Txt w mg) (F : Fun KK.K "is_plan" "is_plan" s_is_plan f fd) (mgf : mg "is_plan" = some (.ref f))  (c_strange_keys : Cl P w mg base "strange_keys" 2 (spN phi_strange_keys)) : Cl P w mg base "is_plan" 3 (spN phi_is_plan) :=
  ⟨f, fd, ["keys", "wanted", "locks"], fn_mk F sc_is_plan (fun cdv A outer s H E hr => (mss_cons (ms_ret (me_cmp (cmp_eq (hu64 hr)) (me_lc (own := [("row", 3)]) rfl sc_is_plan.nd (mi_of (me_callC c_strange_keys (hr.mono (by decide)) (by rfl) (ma_cons (me_var (pv 0)) (ma_cons (me_var (pv 2)) ma_nil)))) (blkOk_by (N := ["keys", "wanted", "locks", "row"]) (sc := (defScope s_is_plan)) (by decide +kernel)) (fun _ _ _ _ _ => (mg_name (pg_name (i := 3) sc_is_plan.nd rfl (.inl rfl)))) (fun _ _ _ _ _ => mts_nil) (fun _ _ _ _ _ => (me_t1 c_tuple (by rfl) (T.z_tuple) (by decide +kernel) (me_var (pv 3))))) (me_t1 c_list (by rfl) (T.z_list) (by decide +kernel) (me_var (pv 1))) (by rfl)))
  mss_nil)) (runN_ok rfl rfl), mgf, F.kp, F.binds (ps := ["keys", "wanted", "locks"]) fun _ _ _ _ _ _ us hl => match us, hl with | [_, _, _], _ => rfl⟩
theorem ok_first_stranger (T : Txt w mg) (F : Fun KK.K "first_stranger" "first_stranger" s_first_stranger f fd) (mgf : mg "first_stranger" = some (.ref f))  (c_lock_for : Cl P w mg base "lock_for" 1 (spN phi_lock_for)) (c_opens : Cl P w mg base "opens" 1 (spN phi_opens)) : Cl P w mg base "first_stranger" 2 (spN phi_first_stranger) :=
  ⟨f, fd, ["keys", "wanted"], fn_mk F sc_first_stranger (fun cdv A outer s H E hr => (mss_cons (ms_for PassesOwn.never rfl (mi_enumA (by rfl) (T.z_enumerate) (ma_cons (me_var (pv 1)) ma_nil)) (mg_tup rfl (mgs_cons (mg_name (pg_name (i := 2) sc_first_stranger.nd rfl (.inl rfl))) (mgs_cons (mg_name (pg_name (i := 3) sc_first_stranger.nd rfl (.inl rfl))) mgs_nil)))
  (mss_cons (ms_set (i := 4) sc_first_stranger.nd rfl (.inl rfl) (me_callC c_lock_for (hr.mono (by decide)) (by rfl) (ma_cons (me_lc (own := [("far", 5)]) rfl sc_first_stranger.nd (mi_of (me_var (pv 3))) (blkOk_by (N := ["keys", "wanted", "place", "some", "lock", "far", "key"]) (sc := (defScope s_first_stranger)) (by decide +kernel)) (fun _ _ _ _ _ => (mg_name (pg_name (i := 5) sc_first_stranger.nd rfl (.inl rfl)))) (fun _ _ _ _ _ => mts_nil) (fun _ _ _ _ _ => (me_ix (me_var (pv 0)) (me_var (pv 5)) (fun _ _ => rfl)))) ma_nil)))
  (mss_cons (ms_for PassesOwn.never rfl (mi_enumA (by rfl) (T.z_enumerate) (ma_cons (me_var (pv 0)) ma_nil)) (mg_tup rfl (mgs_cons (mg_name (pg_name (i := 5) sc_first_stranger.nd rfl (.inl rfl))) (mgs_cons (mg_name (pg_name (i := 6) sc_first_stranger.nd rfl (.inl rfl))) mgs_nil)))
  (mss_cons (ms_if (MW.mt (mw_and (mt_cmp (cmp_notinX (hu65 hr)) (me_var (pv 5)) (me_var (pv 3)) (by rfl)) (mw_and1 (mt_val (me_callC c_opens (hr.mono (by decide)) (by rfl) (ma_cons (me_var (pv 6)) (ma_cons (me_var (pv 4)) ma_nil))) (fun _ => rfl)))))
  (mss_cons (ms_ret (me_tup (ma_cons (me_var (pv 2)) (ma_cons (me_var (pv 5)) ma_nil))))
  mss_nil)
  mss_nil)
  mss_nil))
  mss_nil)))
  (mss_cons (ms_ret me_non)
  mss_nil))) (runN_ok rfl rfl), mgf, F.kp, F.binds (ps := ["keys", "wanted"]) fun _ _ _ _ _ _ us hl => match us, hl with | [_, _], _ => rfl⟩
theorem ok_can_plan (T : Txt w mg) (F : Fun KK.K "can_plan" "can_plan" s_can_plan f fd) (mgf : mg "can_plan" = some (.ref f))  (c_first_stranger : Cl P w mg base "first_stranger" 2 (spN phi_first_stranger)) : Cl P w mg base "can_plan" 3 (spN phi_can_plan) :=
  ⟨f, fd, ["keys", "wanted"], fn_mk F sc_can_plan (fun cdv A outer s H E hr => (mss_cons (ms_ret (me_cmp cmp_isD (me_callC c_first_stranger (hr.mono (by decide)) (by rfl) (ma_cons (me_var (pv 0)) (ma_cons (me_var (pv 1)) ma_nil))) me_non (by rfl)))
  mss_nil)) (runN_ok rfl rfl), mgf, F.kp, F.binds (ps := ["keys", "wanted"]) fun _ _ _ _ _ _ us hl => match us, hl with | [_, _], _ => rfl⟩
theorem ok_free_key (T : Txt w mg) (F : Fun KK.K "free_key" "free_key" s_free_key f fd) (mgf : mg "free_key" = some (.ref f))   : Cl P w mg base "free_key" 1 (spN phi_free_key) :=
  ⟨f, fd, ["keys", "depths"], fn_mk F sc_free_key (fun cdv A outer s H E hr => (mss_cons (ms_set (i := 2) sc_free_key.nd rfl (.inl rfl) (me_b1 c_len (by rfl) (T.z_len) (by decide +kernel) (me_ix (me_var (pv 0)) me_int (fun _ _ => rfl))))
  (mss_cons (ms_set (i := 3) sc_free_key.nd rfl (.inl rfl) (me_lst (ma_cons (me_tup ma_nil) ma_nil)))
  (mss_cons (ms_for PassesOwn.never rfl (mi_range1 (by rfl) (T.z_range) (ma_cons (me_var (pv 2)) ma_nil)) (mg_name (pg_name (i := 4) sc_free_key.nd rfl (.inl rfl)))
  (mss_cons (ms_setLc2 (i := 3) (own := [("row", 5), ("depth", 6)]) (vs1 := [6]) rfl sc_free_key.nd rfl rfl (sw_true rfl rfl rfl (by decide +kernel)) (mi_of (me_var (pv 3))) (blkOk_by (N := ["keys", "depths", "pins", "rows", "pin", "row", "depth", "key", "one", "other"]) (sc := (defScope s_free_key)) (by decide +kernel)) (fun _ _ _ _ _ => (mg_name (pg_name (i := 5) sc_free_key.nd rfl (.inl rfl)))) (fun _ _ _ _ _ => mts_nil) (fun _ _ _ _ _ => (mi_range1 (by rfl) (T.z_range) (ma_cons (me_var (pv 1)) ma_nil))) (fun _ _ _ _ _ => (mg_name (pg_name (i := 6) sc_free_key.nd rfl (.inl rfl)))) (fun _ _ _ _ _ => mts_nil) (fun _ _ _ _ _ => (me_bin bin_add (me_var (pv 5)) (me_tup (ma_cons (me_var (pv 6)) ma_nil)))))
  mss_nil))
  (mss_cons (ms_for PassesOwn.never rfl (mi_of (me_var (pv 3))) (mg_name (pg_name (i := 5) sc_free_key.nd rfl (.inr rfl)))
  (mss_cons (ms_if (mt_val (me_b1 (c_all rfl) (by rfl) (T.z_all) (by decide +kernel) (me_lc (own := [("key", 7)]) rfl sc_free_key.nd (mi_of (me_var (pv 0))) (blkOk_by (N := ["keys", "depths", "pins", "rows", "pin", "row", "depth", "key", "one", "other"]) (sc := (defScope s_free_key)) (by decide +kernel)) (fun _ _ _ _ _ => (mg_name (pg_name (i := 7) sc_free_key.nd rfl (.inl rfl)))) (fun _ _ _ _ _ => mts_nil) (fun _ _ _ _ _ => (me_cmp (cmp_gt (hu64 hr)) (me_b1 c_len (by rfl) (T.z_len) (by decide +kernel) (me_lc (own := [("one", 8), ("other", 9)]) rfl sc_free_key.nd (mi_zipA (by rfl) (T.z_zip) (ma_cons (me_var (pv 5)) (ma_cons (me_var (pv 7)) ma_nil))) (blkOk_by (N := ["keys", "depths", "pins", "rows", "pin", "row", "depth", "key", "one", "other"]) (sc := (relS _ (defScope s_free_key))) (by decide +kernel)) (fun _ _ _ _ _ => (mg_tup rfl (mgs_cons (mg_name (pg_name (i := 8) sc_free_key.nd rfl (.inl rfl))) (mgs_cons (mg_name (pg_name (i := 9) sc_free_key.nd rfl (.inl rfl))) mgs_nil)))) (fun _ _ _ _ _ => (mts_one (mt_cmp (cmp_ne (hu64 hr)) (me_var (pv 8)) (me_var (pv 9)) (by rfl)))) (fun _ _ _ _ _ => me_int))) me_int (by rfl))))) (fun _ => rfl))
  (mss_cons (ms_ret (me_var (pv 5)))
  mss_nil)
  mss_nil)
  mss_nil))
  (mss_cons (ms_ret me_non)
  mss_nil)))))) (runN_ok rfl rfl), mgf, F.kp, F.binds (ps := ["keys", "depths"]) fun _ _ _ _ _ _ us hl => match us, hl with | [_, _], _ => rfl⟩
theorem ok_most_keys (T : Txt w mg) (F : Fun KK.K "most_keys" "most_keys" s_most_keys f fd) (mgf : mg "most_keys" = some (.ref f))   : Cl P w mg base "most_keys" 1 (spN phi_most_keys) :=
  ⟨f, fd, ["pins", "depths"], fn_mk F sc_most_keys (fun cdv A outer s H E hr => (mss_cons (ms_set (i := 2) sc_most_keys.nd rfl (.inl rfl) me_int)
  (mss_cons (ms_for PassesOwn.never rfl (mi_range1 (by rfl) (T.z_range) (ma_cons (me_b2 (c_max2 rfl) (by rfl) (T.z_max) (by decide +kernel) me_int (me_bin bin_sub (me_var (pv 0)) me_int)) ma_nil)) (mg_name (pg_name (i := 3) sc_most_keys.nd rfl (.inl rfl)))
  (mss_cons (ms_aug (i := 2) aug_mul sc_most_keys.nd rfl (.inl rfl) (me_var (pv 1)))
  mss_nil))
  (mss_cons (ms_ret (me_var (pv 2)))
  mss_nil)))) (runN_ok rfl rfl), mgf, F.kp, F.binds (ps := ["pins", "depths"]) fun _ _ _ _ _ _ us hl => match us, hl with | [_, _], _ => rfl⟩
theorem ok_sum_keys (T : Txt w mg) (F : Fun KK.K "sum_keys" "sum_keys" s_sum_keys f fd) (mgf : mg "sum_keys" = some (.ref f))   : Cl P w mg base "sum_keys" 1 (spN phi_sum_keys) :=
  ⟨f, fd, ["pins", "depths"], fn_mk F sc_sum_keys (fun cdv A outer s H E hr => (mss_cons (ms_set (i := 2) sc_sum_keys.nd rfl (.inl rfl) (me_lst (ma_cons (me_tup ma_nil) ma_nil)))
  (mss_cons (ms_for PassesOwn.never rfl (mi_range1 (by rfl) (T.z_range) (ma_cons (me_var (pv 0)) ma_nil)) (mg_name (pg_name (i := 3) sc_sum_keys.nd rfl (.inl rfl)))
  (mss_cons (ms_setLc2 (i := 2) (own := [("row", 4), ("depth", 5)]) (vs1 := [5]) rfl sc_sum_keys.nd rfl rfl (sw_true rfl rfl rfl (by decide +kernel)) (mi_of (me_var (pv 2))) (blkOk_by (N := ["pins", "depths", "rows", "pin", "row", "depth"]) (sc := (defScope s_sum_keys)) (by decide +kernel)) (fun _ _ _ _ _ => (mg_name (pg_name (i := 4) sc_sum_keys.nd rfl (.inl rfl)))) (fun _ _ _ _ _ => mts_nil) (fun _ _ _ _ _ => (mi_range1 (by rfl) (T.z_range) (ma_cons (me_var (pv 1)) ma_nil))) (fun _ _ _ _ _ => (mg_name (pg_name (i := 5) sc_sum_keys.nd rfl (.inl rfl)))) (fun _ _ _ _ _ => mts_nil) (fun _ _ _ _ _ => (me_bin bin_add (me_var (pv 4)) (me_tup (ma_cons (me_var (pv 5)) ma_nil)))))
  mss_nil))
  (mss_cons (ms_ret (me_lc (own := [("row", 4)]) rfl sc_sum_keys.nd (mi_of (me_var (pv 2))) (blkOk_by (N := ["pins", "depths", "rows", "pin", "row", "depth"]) (sc := (defScope s_sum_keys)) (by decide +kernel)) (fun _ _ _ _ _ => (mg_name (pg_name (i := 4) sc_sum_keys.nd rfl (.inl rfl)))) (fun _ _ _ _ _ => (mts_one (mt_cmp (cmp_eq (hu64 hr)) (me_bin bin_mod (me_b1 (c_sumX rfl) (by rfl) (T.z_sum) (by decide +kernel) (me_var (pv 4))) (me_var (pv 1))) me_int (by rfl)))) (fun _ _ _ _ _ => (me_var (pv 4)))))
  mss_nil)))) (runN_ok rfl rfl), mgf, F.kp, F.binds (ps := ["pins", "depths"]) fun _ _ _ _ _ _ us hl => match us, hl with | [_, _], _ => rfl⟩
theorem ok_law_cell (T : Txt w mg) (F : Fun KK.K "_law_cell" "_law_cell" s_law_cell f fd) (mgf : mg "_law_cell" = some (.ref f))   : Cl P w mg base "_law_cell" 1 (spN phi_law_cell) :=
  ⟨f, fd, ["script", "k"], fn_mk F sc_law_cell (fun cdv A outer s H E hr => (mss_cons (ms_if (mt_cmp (cmp_lt (hu64 hr)) (me_var (pv 1)) (me_b1 c_len (by rfl) (T.z_len) (by decide +kernel) (me_var (pv 0))) (by rfl))
  (mss_cons (ms_ret (me_ix (me_var (pv 0)) (me_var (pv 1)) (fun _ _ => rfl)))
  mss_nil)
  mss_nil)
  (mss_cons (ms_ret me_int)
  mss_nil))) (runN_ok rfl rfl), mgf, F.kp, F.binds (ps := ["script", "k"]) fun _ _ _ _ _ _ us hl => match us, hl with | [_, _], _ => rfl⟩
theorem ok_law_digits (T : Txt w mg) (F : Fun KK.K "_law_digits" "_law_digits" s_law_digits f fd) (mgf : mg "_law_digits" = some (.ref f))  (c_law_cell : Cl P w mg base "_law_cell" 1 (spN phi_law_cell)) : Cl P w mg base "_law_digits" 2 (spN phi_law_digits) :=
  ⟨f, fd, ["script", "first", "last"], fn_mk F sc_law_digits (fun cdv A outer s H E hr => (mss_cons (ms_set (i := 3) sc_law_digits.nd rfl (.inl rfl) (me_lst ma_nil))
  (mss_cons (ms_for PassesOwn.never rfl (mi_range2 (by rfl) (T.z_range) (ma_cons (me_var (pv 1)) (ma_cons (me_var (pv 2)) ma_nil))) (mg_name (pg_name (i := 4) sc_law_digits.nd rfl (.inl rfl)))
  (mss_cons (ms_set (i := 5) sc_law_digits.nd rfl (.inl rfl) (me_callC c_law_cell (hr.mono (by decide)) (by rfl) (ma_cons (me_var (pv 0)) (ma_cons (me_var (pv 4)) ma_nil))))
  (mss_cons (ms_if (mt_cmp (cmp_lt (hu64 hr)) (me_var (pv 5)) me_int (by rfl))
  (mss_cons (ms_set (i := 5) sc_law_digits.nd rfl (.inl rfl) (me_bin bin_sub me_int (me_bin bin_mul me_int (me_var (pv 5)))))
  mss_nil)
  mss_nil)
  (mss_cons (ms_if (mt_cmp (cmp_ge (hu64 hr)) (me_var (pv 5)) (me_bin bin_pow me_int me_int) (by rfl))
  (mss_cons (ms_for PassesOwn.never rfl (mi_range1 (by rfl) (T.z_range) (ma_cons me_int ma_nil)) (mg_name (pg_name (i := 6) sc_law_digits.nd rfl (.inl rfl)))
  (mss_cons (ms_if (mt_cmp (cmp_gt (hu64 hr)) (me_var (pv 5)) me_int (by rfl))
  (mss_cons (ms_expr (me_append (pv 3) (me_bin bin_mod (me_t1 c_int (by rfl) (T.z_int) (by decide +kernel) (me_var (pv 5))) me_int)))
  (mss_cons (ms_set (i := 5) sc_law_digits.nd rfl (.inl rfl) (me_bin bin_fdiv (me_var (pv 5)) me_int))
  mss_nil))
  mss_nil)
  mss_nil))
  mss_nil)
  (mss_cons (ms_set (i := 7) sc_law_digits.nd rfl (.inl rfl) (me_bin bin_mod (me_t1 c_int (by rfl) (T.z_int) (by decide +kernel) (me_bin bin_add (me_bin bin_add (me_bin bin_mul (me_var (pv 5)) me_int) (me_bin bin_mul (me_var (pv 4)) me_int)) me_int)) me_int))
  (mss_cons (ms_for PassesOwn.never rfl (mi_range1 (by rfl) (T.z_range) (ma_cons me_int ma_nil)) (mg_name (pg_name (i := 6) sc_law_digits.nd rfl (.inl rfl)))
  (mss_cons (ms_set (i := 7) sc_law_digits.nd rfl (.inl rfl) (me_bin bin_mod (me_t1 c_int (by rfl) (T.z_int) (by decide +kernel) (me_bin bin_add (me_bin bin_add (me_bin bin_mul (me_var (pv 7)) me_int) (me_bin bin_mul me_int (me_var (pv 6)))) me_int)) me_int))
  (mss_cons (ms_expr (me_append (pv 3) (me_bin bin_mod (me_t1 c_int (by rfl) (T.z_int) (by decide +kernel) (me_bin bin_fdiv (me_var (pv 7)) me_int)) me_int)))
  mss_nil)))
  mss_nil)))
  mss_nil))))
  (mss_cons (ms_ret (me_var (pv 3)))
  mss_nil)))) (runN_ok rfl rfl), mgf, F.kp, F.binds (ps := ["script", "first", "last"]) fun _ _ _ _ _ _ us hl => match us, hl with | [_, _, _], _ => rfl⟩
theorem ok_law_draw (T : Txt w mg) (F : Fun KK.K "_law_draw" "_law_draw" s_law_draw f fd) (mgf : mg "_law_draw" = some (.ref f))   : Cl P w mg base "_law_draw" 1 (spIO phi_law_draw) :=
  ⟨f, fd, ["box", "many"], fn_mkIO F sc_law_draw (fun cdv A outer s H E hr => (mss_cons (ms_put (pv 0) me_int (me_bin bin_add (me_ix (me_var (pv 0)) me_int (fun _ _ => rfl)) me_int))
  (mss_cons (ms_if (mt_cmp (cmp_gt (hu64 hr)) (me_ix (me_var (pv 0)) me_int (fun _ _ => rfl)) (me_b1 c_len (by rfl) (T.z_len) (by decide +kernel) (me_ix (me_var (pv 0)) me_int (fun _ _ => rfl))) (by rfl))
  (mss_cons (ms_ret (me_bin bin_mod (me_t1 c_int (by rfl) (T.z_int) (by decide +kernel) (me_bin bin_add (me_bin bin_mul (me_ix (me_var (pv 0)) me_int (fun _ _ => rfl)) me_int) me_int)) (me_var (pv 1))))
  mss_nil)
  mss_nil)
  (mss_cons (ms_ret (me_bin bin_mod (me_t1 c_int (by rfl) (T.z_int) (by decide +kernel) (me_ix (me_ix (me_var (pv 0)) me_int (fun _ _ => rfl)) (me_bin bin_sub (me_ix (me_var (pv 0)) me_int (fun _ _ => rfl)) me_int) (fun _ _ => rfl))) (me_var (pv 1))))
  mss_nil)))) (runIO_ok rfl rfl), mgf, F.kp, F.binds (ps := ["box", "many"]) fun _ _ _ _ _ _ us hl => match us, hl with | [_, _], _ => rfl⟩
theorem ok_law_pick (T : Txt w mg) (F : Fun KK.K "_law_pick" "_law_pick" s_law_pick f fd) (mgf : mg "_law_pick" = some (.ref f))  (c_law_draw : Cl P w mg base "_law_draw" 1 (spIO phi_law_draw)) : Cl P w mg base "_law_pick" 2 (spIO phi_law_pick) :=
  ⟨f, fd, ["box", "row"], fn_mkIO F sc_law_pick (fun cdv A outer s H E hr => (mss_cons (ms_ret (me_ix (me_var (pv 1)) (me_bin bin_mod (me_t1 c_int (by rfl) (T.z_int) (by decide +kernel) (me_callIOC c_law_draw (hr.mono (by decide)) (by rfl) (pv 0) (ma_cons me_int ma_nil))) (me_b1 c_len (by rfl) (T.z_len) (by decide +kernel) (me_var (pv 1)))) (fun _ _ => rfl)))
  mss_nil)) (runIO_ok rfl rfl), mgf, F.kp, F.binds (ps := ["box", "row"]) fun _ _ _ _ _ _ us hl => match us, hl with | [_, _], _ => rfl⟩
theorem okL_law_pick (T : Txt w mg) (F : Fun KK.K "_law_pick" "_law_pick" s_law_pick f fd) (mgf : mg "_law_pick" = some (.ref f))  (c_law_draw : Cl P w mg base "_law_draw" 1 (spIO phi_law_draw)) : Cl P w mg base "_law_pick" 2 (spIOL phiL_law_pick) :=
  ⟨f, fd, ["box", "row"], fn_mkIOL F sc_law_pick (fun cdv A outer s H E hr => (mss_cons (ms_ret (me_ix (me_var (pv 1)) (me_bin bin_mod (me_t1 c_int (by rfl) (T.z_int) (by decide +kernel) (me_callIOC c_law_draw (hr.mono (by decide)) (by rfl) (pv 0) (ma_cons me_int ma_nil))) (me_b1 c_len (by rfl) (T.z_len) (by decide +kernel) (me_var (pv 1)))) (fun _ _ => rfl)))
  mss_nil)) (runIOL_ok rfl rfl), mgf, F.kp, F.binds (ps := ["box", "row"]) fun _ _ _ _ _ _ us hl => match us, hl with | [_, _], _ => rfl⟩
theorem ok_law_same (T : Txt w mg) (F : Fun KK.K "_law_same" "_law_same" s_law_same f fd) (mgf : mg "_law_same" = some (.ref f))   : ∀ n, Cl P w mg base "_law_same" (n + 0) (spN (phi_law_same n))
  | 0 => ⟨f, fd, ["told", "due"], none_ok (fun _ => rfl), mgf, F.kp, F.binds (ps := ["told", "due"]) fun _ _ _ _ _ _ us hl => match us, hl with | [_, _], _ => rfl⟩
  | n + 1 => by
    have c_law_same := ok_law_same T F mgf  n
    exact ⟨f, fd, ["told", "due"], (fn_mk (k := n + 0) F sc_law_same (fun cdv A outer s H E hr => (mss_cons (ms_if (mt_cmp cmp_isD (me_var (pv 1)) me_non (by rfl))
  (mss_cons (ms_ret (me_cmp cmp_isD (me_var (pv 0)) me_non (by rfl)))
  mss_nil)
  mss_nil)
  (mss_cons (ms_if (mt_cmp cmp_isD (me_var (pv 1)) me_bl (by rfl))
  (mss_cons (ms_ret (me_cmp cmp_isD (me_var (pv 0)) me_bl (by rfl)))
  mss_nil)
  mss_nil)
  (mss_cons (ms_if (mt_cmp cmp_isD (me_var (pv 1)) me_bl (by rfl))
  (mss_cons (ms_ret (me_cmp cmp_isD (me_var (pv 0)) me_bl (by rfl)))
  mss_nil)
  mss_nil)
  (mss_cons (ms_if (mt_val (me_isi (by rfl) (T.z_isinstance) (by decide +kernel) (me_var (pv 1)) (by rfl) (T.z_str) (by decide +kernel)) (fun _ => rfl))
  (mss_cons (ms_ret (me_and (me_isi (by rfl) (T.z_isinstance) (by decide +kernel) (me_var (pv 0)) (by rfl) (T.z_str) (by decide +kernel)) (me_one (me_cmp (cmp_eq (hu64 hr)) (me_b1 c_repr (by rfl) (T.z_repr) (by decide +kernel) (me_var (pv 0))) (me_b1 c_repr (by rfl) (T.z_repr) (by decide +kernel) (me_var (pv 1))) (by rfl)))))
  mss_nil)
  mss_nil)
  (mss_cons (ms_if (mt_val (me_isi (by rfl) (T.z_isinstance) (by decide +kernel) (me_var (pv 1)) (by rfl) (T.z_int) (by decide +kernel)) (fun _ => rfl))
  (mss_cons (ms_ret (me_and (me_isi (by rfl) (T.z_isinstance) (by decide +kernel) (me_var (pv 0)) (by rfl) (T.z_int) (by decide +kernel)) (me_and (me_not (me_isi (by rfl) (T.z_isinstance) (by decide +kernel) (me_var (pv 0)) (by rfl) (T.z_bool) (by decide +kernel))) (me_one (me_cmp (cmp_eq (hu64 hr)) (me_b1 c_repr (by rfl) (T.z_repr) (by decide +kernel) (me_var (pv 0))) (me_b1 c_repr (by rfl) (T.z_repr) (by decide +kernel) (me_var (pv 1))) (by rfl))))))
  mss_nil)
  mss_nil)
  (mss_cons (ms_if (MW.mt (mw_or (MW.mt (mw_and (mt_val (me_isi (by rfl) (T.z_isinstance) (by decide +kernel) (me_var (pv 1)) (by rfl) (T.z_tuple) (by decide +kernel)) (fun _ => rfl)) (mw_and1 (mt_not (mt_val (me_isi (by rfl) (T.z_isinstance) (by decide +kernel) (me_var (pv 0)) (by rfl) (T.z_tuple) (by decide +kernel)) (fun _ => rfl)))))) (mw_or1 (MW.mt (mw_and (mt_val (me_isi (by rfl) (T.z_isinstance) (by decide +kernel) (me_var (pv 1)) (by rfl) (T.z_list) (by decide +kernel)) (fun _ => rfl)) (mw_and1 (mt_not (mt_val (me_isi (by rfl) (T.z_isinstance) (by decide +kernel) (me_var (pv 0)) (by rfl) (T.z_list) (by decide +kernel)) (fun _ => rfl)))))))))
  (mss_cons (ms_ret me_bl)
  mss_nil)
  mss_nil)
  (mss_cons (ms_if (mt_cmp (cmp_ne (hu64 hr)) (me_b1 c_len (by rfl) (T.z_len) (by decide +kernel) (me_var (pv 0))) (me_b1 c_len (by rfl) (T.z_len) (by decide +kernel) (me_var (pv 1))) (by rfl))
  (mss_cons (ms_ret me_bl)
  mss_nil)
  mss_nil)
  (mss_cons (ms_for PassesOwn.never rfl (mi_range1 (by rfl) (T.z_range) (ma_cons (me_b1 c_len (by rfl) (T.z_len) (by decide +kernel) (me_var (pv 1))) ma_nil)) (mg_name (pg_name (i := 2) sc_law_same.nd rfl (.inl rfl)))
  (mss_cons (ms_if (mt_not (mt_val (me_callLC c_law_same (hr.mono (by omega)) (by rfl) (ml_cons (me_ix (me_var (pv 0)) (me_var (pv 2)) (fun _ _ => rfl)) (ml_cons (me_ix (me_var (pv 1)) (me_var (pv 2)) (fun _ _ => rfl)) ml_nil))) (fun _ => rfl)))
  (mss_cons (ms_ret me_bl)
  mss_nil)
  mss_nil)
  mss_nil))
  (mss_cons (ms_ret me_bl)
  mss_nil)))))))))) (runN_ok rfl rfl)).mono (by omega), mgf, F.kp, F.binds (ps := ["told", "due"]) fun _ _ _ _ _ _ us hl => match us, hl with | [_, _], _ => rfl⟩
theorem ok_law_mixed (T : Txt w mg) (F : Fun KK.K "_law_mixed" "_law_mixed" s_law_mixed f fd) (mgf : mg "_law_mixed" = some (.ref f))  (c_law_draw : Cl P w mg base "_law_draw" 1 (spIO phi_law_draw)) : Cl P w mg base "_law_mixed" 2 (spIO phi_law_mixed) :=
  ⟨f, fd, ["box", "row"], fn_mkIO F sc_law_mixed (fun cdv A outer s H E hr => (mss_cons (ms_set (i := 2) sc_law_mixed.nd rfl (.inl rfl) (me_t1 c_list (by rfl) (T.z_list) (by decide +kernel) (me_var (pv 1))))
  (mss_cons (ms_set (i := 3) sc_law_mixed.nd rfl (.inl rfl) (me_lst ma_nil))
  (mss_cons (ms_for PassesOwn.never rfl (mi_range1 (by rfl) (T.z_range) (ma_cons (me_b1 c_len (by rfl) (T.z_len) (by decide +kernel) (me_var (pv 1))) ma_nil)) (mg_name (pg_name (i := 4) sc_law_mixed.nd rfl (.inl rfl)))
  (mss_cons (ms_expr (me_append (pv 3) (me_popAt (pv 2) (me_callIOC c_law_draw (hr.mono (by decide)) (by rfl) (pv 0) (ma_cons (me_b1 c_len (by rfl) (T.z_len) (by decide +kernel) (me_var (pv 2))) ma_nil)))))
  mss_nil))
  (mss_cons (ms_ret (me_var (pv 3)))
  mss_nil))))) (runIO_ok rfl rfl), mgf, F.kp, F.binds (ps := ["box", "row"]) fun _ _ _ _ _ _ us hl => match us, hl with | [_, _], _ => rfl⟩
theorem ok_law_all (T : Txt w mg) (F : Fun KK.K "_law_all" "_law_all" s_law_all f fd) (mgf : mg "_law_all" = some (.ref f))   : Cl P w mg base "_law_all" 1 (spN phi_law_all) :=
  ⟨f, fd, ["pins", "depths"], fn_mk F sc_law_all (fun cdv A outer s H E hr => (mss_cons (ms_set (i := 2) sc_law_all.nd rfl (.inl rfl) (me_lst (ma_cons (me_tup ma_nil) ma_nil)))
  (mss_cons (ms_for PassesOwn.never rfl (mi_range1 (by rfl) (T.z_range) (ma_cons (me_var (pv 0)) ma_nil)) (mg_name (pg_name (i := 3) sc_law_all.nd rfl (.inl rfl)))
  (mss_cons (ms_set (i := 4) sc_law_all.nd rfl (.inl rfl) (me_lst ma_nil))
  (mss_cons (ms_for PassesOwn.never rfl (mi_of (me_var (pv 2))) (mg_name (pg_name (i := 5) sc_law_all.nd rfl (.inr rfl)))
  (mss_cons (ms_set (i := 4) sc_law_all.nd rfl (.inl rfl) (me_bin bin_add (me_var (pv 4)) (me_lc (own := [("depth", 6)]) rfl sc_law_all.nd (mi_range1 (by rfl) (T.z_range) (ma_cons (me_var (pv 1)) ma_nil)) (blkOk_by (N := ["pins", "depths", "rows", "pin", "longer", "row", "depth"]) (sc := (defScope s_law_all)) (by decide +kernel)) (fun _ _ _ _ _ => (mg_name (pg_name (i := 6) sc_law_all.nd rfl (.inl rfl)))) (fun _ _ _ _ _ => mts_nil) (fun _ _ _ _ _ => (me_bin bin_add (me_var (pv 5)) (me_tup (ma_cons (me_var (pv 6)) ma_nil)))))))
  mss_nil))
  (mss_cons (ms_set (i := 2) sc_law_all.nd rfl (.inl rfl) (me_var (pv 4)))
  mss_nil))))
  (mss_cons (ms_ret (me_var (pv 2)))
  mss_nil)))) (runN_ok rfl rfl), mgf, F.kp, F.binds (ps := ["pins", "depths"]) fun _ _ _ _ _ _ us hl => match us, hl with | [_, _], _ => rfl⟩
theorem ok_law_fits (T : Txt w mg) (F : Fun KK.K "_law_fits" "_law_fits" s_law_fits f fd) (mgf : mg "_law_fits" = some (.ref f))   : Cl P w mg base "_law_fits" 1 (spN phi_law_fits) :=
  ⟨f, fd, ["key", "lock"], fn_mk F sc_law_fits (fun cdv A outer s H E hr => (mss_cons (ms_ret (me_cmp (cmp_eq (hu64 hr)) (me_lc (own := [("pin", 2)]) rfl sc_law_fits.nd (mi_range1 (by rfl) (T.z_range) (ma_cons (me_b1 c_len (by rfl) (T.z_len) (by decide +kernel) (me_var (pv 0))) ma_nil)) (blkOk_by (N := ["key", "lock", "pin"]) (sc := (defScope s_law_fits)) (by decide +kernel)) (fun _ _ _ _ _ => (mg_name (pg_name (i := 2) sc_law_fits.nd rfl (.inl rfl)))) (fun _ _ _ _ _ => (mts_one (mt_cmp (cmp_notinX (hu65 hr)) (me_ix (me_var (pv 0)) (me_var (pv 2)) (fun _ _ => rfl)) (me_ix (me_var (pv 1)) (me_var (pv 2)) (fun _ _ => rfl)) (by rfl)))) (fun _ _ _ _ _ => (me_var (pv 2)))) (me_lst ma_nil) (by rfl)))
  mss_nil)) (runN_ok rfl rfl), mgf, F.kp, F.binds (ps := ["key", "lock"]) fun _ _ _ _ _ _ us hl => match us, hl with | [_, _], _ => rfl⟩
theorem ok_law_key (T : Txt w mg) (F : Fun KK.K "_law_key" "_law_key" s_law_key f fd) (mgf : mg "_law_key" = some (.ref f))  (c_law_draw : Cl P w mg base "_law_draw" 1 (spIO phi_law_draw)) : Cl P w mg base "_law_key" 2 (spIO phi_law_key) :=
  ⟨f, fd, ["box", "pins", "depths"], fn_mkIO F sc_law_key (fun cdv A outer s H E hr => (mss_cons (ms_ret (me_t1 c_tuple (by rfl) (T.z_tuple) (by decide +kernel) (me_lc (own := [("pin", 3)]) rfl sc_law_key.nd (mi_range1 (by rfl) (T.z_range) (ma_cons (me_var (pv 1)) ma_nil)) (blkOk_by (N := ["box", "pins", "depths", "pin"]) (sc := (defScope s_law_key)) (by decide +kernel)) (fun _ _ _ _ _ => (mg_name (pg_name (i := 3) sc_law_key.nd rfl (.inl rfl)))) (fun _ _ _ _ _ => mts_nil) (fun _ _ _ _ _ => (me_callIOC c_law_draw (hr.mono (by decide)) (by rfl) (pv 0) (ma_cons (me_var (pv 2)) ma_nil))))))
  mss_nil)) (runIO_ok rfl rfl), mgf, F.kp, F.binds (ps := ["box", "pins", "depths"]) fun _ _ _ _ _ _ us hl => match us, hl with | [_, _, _], _ => rfl⟩
theorem ok_law_least (T : Txt w mg) (F : Fun KK.K "_law_least" "_law_least" s_law_least f fd) (mgf : mg "_law_least" = some (.ref f))   : Cl P w mg base "_law_least" 1 (spN phi_law_least) :=
  ⟨f, fd, ["rows", "pins"], fn_mk F sc_law_least (fun cdv A outer s H E hr => (mss_cons (ms_set (i := 2) sc_law_least.nd rfl (.inl rfl) (me_lst ma_nil))
  (mss_cons (ms_for PassesOwn.never rfl (mi_range1 (by rfl) (T.z_range) (ma_cons (me_var (pv 1)) ma_nil)) (mg_name (pg_name (i := 3) sc_law_least.nd rfl (.inr rfl)))
  (mss_cons (ms_expr (me_append (pv 2) (me_t1 c_tuple (by rfl) (T.z_tuple) (by decide +kernel) (me_lc (own := [("depth", 4)]) rfl sc_law_least.nd (mi_range1 (by rfl) (T.z_range) (ma_cons me_int ma_nil)) (blkOk_by (N := ["rows", "pins", "found", "pin", "depth", "row"]) (sc := (defScope s_law_least)) (by decide +kernel)) (fun _ _ _ _ _ => (mg_name (pg_name (i := 4) sc_law_least.nd rfl (.inr rfl)))) (fun _ _ _ _ _ => (mts_one (mt_cmp (cmp_ne (hu64 hr)) (me_lc (own := [("row", 5)]) rfl sc_law_least.nd (mi_of (me_var (pv 0))) (blkOk_by (N := ["rows", "pins", "found", "pin", "depth", "row"]) (sc := (relS _ (defScope s_law_least))) (by decide +kernel)) (fun _ _ _ _ _ => (mg_name (pg_name (i := 5) sc_law_least.nd rfl (.inl rfl)))) (fun _ _ _ _ _ => (mts_one (mt_cmp (cmp_eq (hu64 hr)) (me_ix (me_var (pv 5)) (me_var (pv 3)) (fun _ _ => rfl)) (me_var (pv 4)) (by rfl)))) (fun _ _ _ _ _ => (me_var (pv 5)))) (me_lst ma_nil) (by rfl)))) (fun _ _ _ _ _ => (me_var (pv 4)))))))
  mss_nil))
  (mss_cons (ms_ret (me_t1 c_tuple (by rfl) (T.z_tuple) (by decide +kernel) (me_var (pv 2))))
  mss_nil)))) (runN_ok rfl rfl), mgf, F.kp, F.binds (ps := ["rows", "pins"]) fun _ _ _ _ _ _ us hl => match us, hl with | [_, _], _ => rfl⟩
theorem ok_law_let_in (T : Txt w mg) (F : Fun KK.K "_law_let_in" "_law_let_in" s_law_let_in f fd) (mgf : mg "_law_let_in" = some (.ref f))  (c_law_fits : Cl P w mg base "_law_fits" 1 (spN phi_law_fits)) : Cl P w mg base "_law_let_in" 2 (spN phi_law_let_in) :=
  ⟨f, fd, ["rows", "lock"], fn_mk F sc_law_let_in (fun cdv A outer s H E hr => (mss_cons (ms_ret (me_t1 c_tuple (by rfl) (T.z_tuple) (by decide +kernel) (me_lc (own := [("k", 2)]) rfl sc_law_let_in.nd (mi_range1 (by rfl) (T.z_range) (ma_cons (me_b1 c_len (by rfl) (T.z_len) (by decide +kernel) (me_var (pv 0))) ma_nil)) (blkOk_by (N := ["rows", "lock", "k"]) (sc := (defScope s_law_let_in)) (by decide +kernel)) (fun _ _ _ _ _ => (mg_name (pg_name (i := 2) sc_law_let_in.nd rfl (.inl rfl)))) (fun _ _ _ _ _ => (mts_one (mt_val (me_callC c_law_fits (hr.mono (by decide)) (by rfl) (ma_cons (me_ix (me_var (pv 0)) (me_var (pv 2)) (fun _ _ => rfl)) (ma_cons (me_var (pv 1)) ma_nil))) (fun _ => rfl)))) (fun _ _ _ _ _ => (me_var (pv 2))))))
  mss_nil)) (runN_ok rfl rfl), mgf, F.kp, F.binds (ps := ["rows", "lock"]) fun _ _ _ _ _ _ us hl => match us, hl with | [_, _], _ => rfl⟩
theorem ok_law_wanted (T : Txt w mg) (F : Fun KK.K "_law_wanted" "_law_wanted" s_law_wanted f fd) (mgf : mg "_law_wanted" = some (.ref f))  (c_law_draw : Cl P w mg base "_law_draw" 1 (spIO phi_law_draw)) (c_law_let_in : Cl P w mg base "_law_let_in" 2 (spN phi_law_let_in)) (c_law_least : Cl P w mg base "_law_least" 1 (spN phi_law_least)) : Cl P w mg base "_law_wanted" 3 (spIO phi_law_wanted) :=
  ⟨f, fd, ["box", "rows", "pins"], fn_mkIO F sc_law_wanted (fun cdv A outer s H E hr => (mss_cons (ms_set (i := 3) sc_law_wanted.nd rfl (.inl rfl) (me_lst ma_nil))
  (mss_cons (ms_for PassesOwn.never rfl (mi_range1 (by rfl) (T.z_range) (ma_cons (me_bin bin_add me_int (me_callIOC c_law_draw (hr.mono (by decide)) (by rfl) (pv 0) (ma_cons me_int ma_nil))) ma_nil)) (mg_name (pg_name (i := 4) sc_law_wanted.nd rfl (.inl rfl)))
  (mss_cons (ms_setLc (i := 5) (own := [("k", 7)]) rfl sc_law_wanted.nd rfl rfl (sw_true rfl rfl rfl (by decide +kernel)) (mi_range1 (by rfl) (T.z_range) (ma_cons (me_b1 c_len (by rfl) (T.z_len) (by decide +kernel) (me_var (pv 1))) ma_nil)) (blkOk_by (N := ["box", "rows", "pins", "found", "turn", "some", "lot", "k"]) (sc := (defScope s_law_wanted)) (by decide +kernel)) (fun _ _ _ _ _ => (mg_name (pg_name (i := 7) sc_law_wanted.nd rfl (.inl rfl)))) (fun _ _ _ _ _ => (mts_one (mt_cmp (cmp_eq (hu64 hr)) (me_callIOC c_law_draw (hr.mono (by decide)) (by rfl) (pv 0) (ma_cons me_int ma_nil)) me_int (by rfl)))) (fun _ _ _ _ _ => (me_var (pv 7))))
  (mss_cons (ms_if (mt_cmp (cmp_eq (hu64 hr)) (me_var (pv 5)) (me_lst ma_nil) (by rfl))
  (mss_cons (ms_set (i := 5) sc_law_wanted.nd rfl (.inl rfl) (me_lst (ma_cons (me_callIOC c_law_draw (hr.mono (by decide)) (by rfl) (pv 0) (ma_cons (me_b1 c_len (by rfl) (T.z_len) (by decide +kernel) (me_var (pv 1))) ma_nil)) ma_nil)))
  mss_nil)
  mss_nil)
  (mss_cons (ms_set (i := 6) sc_law_wanted.nd rfl (.inl rfl) (me_t1 c_tuple (by rfl) (T.z_tuple) (by decide +kernel) (me_var (pv 5))))
  (mss_cons (ms_if (mt_cmp (cmp_gt (hu64 hr)) (me_callIOC c_law_draw (hr.mono (by decide)) (by rfl) (pv 0) (ma_cons me_int ma_nil)) me_int (by rfl))
  (mss_cons (ms_set (i := 6) sc_law_wanted.nd rfl (.inl rfl) (me_callC c_law_let_in (hr.mono (by decide)) (by rfl) (ma_cons (me_var (pv 1)) (ma_cons (me_callC c_law_least (hr.mono (by decide)) (by rfl) (ma_cons (me_lc (own := [("k", 7)]) rfl sc_law_wanted.nd (mi_of (me_var (pv 5))) (blkOk_by (N := ["box", "rows", "pins", "found", "turn", "some", "lot", "k"]) (sc := (defScope s_law_wanted)) (by decide +kernel)) (fun _ _ _ _ _ => (mg_name (pg_name (i := 7) sc_law_wanted.nd rfl (.inl rfl)))) (fun _ _ _ _ _ => mts_nil) (fun _ _ _ _ _ => (me_ix (me_var (pv 1)) (me_var (pv 7)) (fun _ _ => rfl)))) (ma_cons (me_var (pv 2)) ma_nil))) ma_nil))))
  mss_nil)
  mss_nil)
  (mss_cons (ms_expr (me_append (pv 3) (me_var (pv 6))))
  mss_nil))))))
  (mss_cons (ms_ret (me_var (pv 3)))
  mss_nil)))) (runIO_ok rfl rfl), mgf, F.kp, F.binds (ps := ["box", "rows", "pins"]) fun _ _ _ _ _ _ us hl => match us, hl with | [_, _, _], _ => rfl⟩
theorem ok_law_stranger (T : Txt w mg) (F : Fun KK.K "_law_stranger" "_law_stranger" s_law_stranger f fd) (mgf : mg "_law_stranger" = some (.ref f))  (c_law_least : Cl P w mg base "_law_least" 1 (spN phi_law_least)) (c_law_let_in : Cl P w mg base "_law_let_in" 2 (spN phi_law_let_in)) : Cl P w mg base "_law_stranger" 3 (spN phi_law_stranger) :=
  ⟨f, fd, ["rows", "wanted", "pins"], fn_mk F sc_law_stranger (fun cdv A outer s H E hr => (mss_cons (ms_for PassesOwn.never rfl (mi_range1 (by rfl) (T.z_range) (ma_cons (me_b1 c_len (by rfl) (T.z_len) (by decide +kernel) (me_var (pv 1))) ma_nil)) (mg_name (pg_name (i := 3) sc_law_stranger.nd rfl (.inl rfl)))
  (mss_cons (ms_set (i := 4) sc_law_stranger.nd rfl (.inl rfl) (me_callC c_law_least (hr.mono (by decide)) (by rfl) (ma_cons (me_lc (own := [("k", 6)]) rfl sc_law_stranger.nd (mi_of (me_ix (me_var (pv 1)) (me_var (pv 3)) (fun _ _ => rfl))) (blkOk_by (N := ["rows", "wanted", "pins", "place", "lock", "far", "k"]) (sc := (defScope s_law_stranger)) (by decide +kernel)) (fun _ _ _ _ _ => (mg_name (pg_name (i := 6) sc_law_stranger.nd rfl (.inl rfl)))) (fun _ _ _ _ _ => mts_nil) (fun _ _ _ _ _ => (me_ix (me_var (pv 0)) (me_var (pv 6)) (fun _ _ => rfl)))) (ma_cons (me_var (pv 2)) ma_nil))))
  (mss_cons (ms_for PassesOwn.never rfl (mi_of (me_callC c_law_let_in (hr.mono (by decide)) (by rfl) (ma_cons (me_var (pv 0)) (ma_cons (me_var (pv 4)) ma_nil)))) (mg_name (pg_name (i := 5) sc_law_stranger.nd rfl (.inl rfl)))
  (mss_cons (ms_if (mt_cmp (cmp_notinX (hu65 hr)) (me_var (pv 5)) (me_ix (me_var (pv 1)) (me_var (pv 3)) (fun _ _ => rfl)) (by rfl))
  (mss_cons (ms_ret (me_tup (ma_cons (me_var (pv 3)) (ma_cons (me_var (pv 5)) ma_nil))))
  mss_nil)
  mss_nil)
  mss_nil))
  mss_nil)))
  (mss_cons (ms_ret me_non)
  mss_nil))) (runN_ok rfl rfl), mgf, F.kp, F.binds (ps := ["rows", "wanted", "pins"]) fun _ _ _ _ _ _ us hl => match us, hl with | [_, _, _], _ => rfl⟩
theorem ok_law_bent (T : Txt w mg) (F : Fun KK.K "_law_bent" "_law_bent" s_law_bent f fd) (mgf : mg "_law_bent" = some (.ref f))  (c_law_draw : Cl P w mg base "_law_draw" 1 (spIO phi_law_draw)) : Cl P w mg base "_law_bent" 2 (spIO phi_law_bent) :=
  ⟨f, fd, ["box", "locks", "pins", "depths"], fn_mkIO F sc_law_bent (fun cdv A outer s H E hr => (mss_cons (ms_set (i := 4) sc_law_bent.nd rfl (.inl rfl) (me_callIOC c_law_draw (hr.mono (by decide)) (by rfl) (pv 0) (ma_cons (me_b1 c_len (by rfl) (T.z_len) (by decide +kernel) (me_var (pv 1))) ma_nil)))
  (mss_cons (ms_set (i := 5) sc_law_bent.nd rfl (.inl rfl) (me_callIOC c_law_draw (hr.mono (by decide)) (by rfl) (pv 0) (ma_cons (me_var (pv 2)) ma_nil)))
  (mss_cons (ms_set (i := 6) sc_law_bent.nd rfl (.inl rfl) (me_ix (me_var (pv 1)) (me_var (pv 4)) (fun _ _ => rfl)))
  (mss_cons (ms_set (i := 7) sc_law_bent.nd rfl (.inl rfl) (me_callIOC c_law_draw (hr.mono (by decide)) (by rfl) (pv 0) (ma_cons (me_var (pv 3)) ma_nil)))
  (mss_cons (ms_set (i := 8) sc_law_bent.nd rfl (.inl rfl) (me_t1 c_tuple (by rfl) (T.z_tuple) (by decide +kernel) (me_b1 c_sorted (by rfl) (T.z_sorted) (by decide +kernel) (me_bin bin_add (me_ix (me_var (pv 6)) (me_var (pv 5)) (fun _ _ => rfl)) (me_if (mt_cmp (cmp_notinX (hu65 hr)) (me_var (pv 7)) (me_ix (me_var (pv 6)) (me_var (pv 5)) (fun _ _ => rfl)) (by rfl)) (me_tup (ma_cons (me_var (pv 7)) ma_nil)) (me_tup ma_nil))))))
  (mss_cons (ms_set (i := 9) sc_law_bent.nd rfl (.inl rfl) (me_lst (ma_cons (me_bin bin_add (me_bin bin_add (me_slice (me_var (pv 1)) mp_none (mp_some (me_var (pv 4)))) (me_lst (ma_cons (me_bin bin_add (me_bin bin_add (me_slice (me_var (pv 6)) mp_none (mp_some (me_var (pv 5)))) (me_tup (ma_cons (me_var (pv 8)) ma_nil))) (me_slice (me_var (pv 6)) (mp_some (me_bin bin_add (me_var (pv 5)) me_int)) mp_none)) ma_nil))) (me_slice (me_var (pv 1)) (mp_some (me_bin bin_add (me_var (pv 4)) me_int)) mp_none)) ma_nil)))
  (mss_cons (ms_if (mt_cmp (cmp_gt (hu64 hr)) (me_b1 c_len (by rfl) (T.z_len) (by decide +kernel) (me_ix (me_var (pv 6)) (me_var (pv 5)) (fun _ _ => rfl))) me_int (by rfl))
  (mss_cons (ms_expr (me_append (pv 9) (me_bin bin_add (me_bin bin_add (me_slice (me_var (pv 1)) mp_none (mp_some (me_var (pv 4)))) (me_lst (ma_cons (me_bin bin_add (me_bin bin_add (me_slice (me_var (pv 6)) mp_none (mp_some (me_var (pv 5)))) (me_tup (ma_cons (me_slice (me_ix (me_var (pv 6)) (me_var (pv 5)) (fun _ _ => rfl)) mp_none (mp_some (me_un un_negD me_int))) ma_nil))) (me_slice (me_var (pv 6)) (mp_some (me_bin bin_add (me_var (pv 5)) me_int)) mp_none)) ma_nil))) (me_slice (me_var (pv 1)) (mp_some (me_bin bin_add (me_var (pv 4)) me_int)) mp_none))))
  mss_nil)
  mss_nil)
  (mss_cons (ms_expr (me_append (pv 9) (me_bin bin_add (me_bin bin_add (me_slice (me_var (pv 1)) mp_none (mp_some (me_var (pv 4)))) (me_lst (ma_cons (me_bin bin_add (me_bin bin_add (me_slice (me_var (pv 6)) mp_none (mp_some (me_var (pv 5)))) (me_tup (ma_cons (me_tup (ma_cons (me_var (pv 7)) ma_nil)) ma_nil))) (me_slice (me_var (pv 6)) (mp_some (me_bin bin_add (me_var (pv 5)) me_int)) mp_none)) ma_nil))) (me_slice (me_var (pv 1)) (mp_some (me_bin bin_add (me_var (pv 4)) me_int)) mp_none))))
  (mss_cons (ms_expr (me_append (pv 9) (me_bin bin_add (me_slice (me_var (pv 1)) (mp_some me_int) mp_none) (me_slice (me_var (pv 1)) mp_none (mp_some me_int)))))
  (mss_cons (ms_if (mt_cmp (cmp_gt (hu64 hr)) (me_b1 c_len (by rfl) (T.z_len) (by decide +kernel) (me_var (pv 1))) me_int (by rfl))
  (mss_cons (ms_expr (me_append (pv 9) (me_slice (me_var (pv 1)) mp_none (mp_some (me_un un_negD me_int)))))
  mss_nil)
  mss_nil)
  (mss_cons (ms_expr (me_append (pv 9) (me_bin bin_add (me_var (pv 1)) (me_slice (me_var (pv 1)) mp_none (mp_some me_int)))))
  (mss_cons (ms_ret (me_var (pv 9)))
  mss_nil))))))))))))) (runIO_ok rfl rfl), mgf, F.kp, F.binds (ps := ["box", "locks", "pins", "depths"]) fun _ _ _ _ _ _ us hl => match us, hl with | [_, _, _, _], _ => rfl⟩
theorem ok_law_planned (T : Txt w mg) (F : Fun KK.K "_law_planned" "_law_planned" s_law_planned f fd) (mgf : mg "_law_planned" = some (.ref f))  (c_law_wanted : Cl P w mg base "_law_wanted" 3 (spIO phi_law_wanted)) (c_law_stranger : Cl P w mg base "_law_stranger" 3 (spN phi_law_stranger)) (c_law_least : Cl P w mg base "_law_least" 1 (spN phi_law_least)) (c_law_bent : Cl P w mg base "_law_bent" 2 (spIO phi_law_bent)) (c_strange_keys : Cl P w mg base "strange_keys" 2 (spN phi_strange_keys)) (c_law_same : Cl P w mg base "_law_same" 12 (spN (phi_law_same 12))) (c_law_let_in : Cl P w mg base "_law_let_in" 2 (spN phi_law_let_in)) (c_first_stranger : Cl P w mg base "first_stranger" 2 (spN phi_first_stranger)) (c_can_plan : Cl P w mg base "can_plan" 3 (spN phi_can_plan)) (c_is_plan : Cl P w mg base "is_plan" 3 (spN phi_is_plan)) : Cl P w mg base "_law_planned" 13 (spIO phi_law_planned) :=
  ⟨f, fd, ["box", "rows", "pins", "depths"], fn_mkIO F sc_law_planned (fun cdv A outer s H E hr => (mss_cons (ms_set (i := 4) sc_law_planned.nd rfl (.inl rfl) (me_callIOC c_law_wanted (hr.mono (by decide)) (by rfl) (pv 0) (ma_cons (me_var (pv 1)) (ma_cons (me_var (pv 2)) ma_nil))))
  (mss_cons (ms_par (i := 5) (j := 6) rfl sc_law_planned.nd rfl rfl (by decide) rfl rfl (ma_cons (me_t1 c_list (by rfl) (T.z_list) (by decide +kernel) (me_var (pv 1))) (ma_cons (me_t1 c_list (by rfl) (T.z_list) (by decide +kernel) (me_var (pv 4))) ma_nil)))
  (mss_cons (ms_set (i := 7) sc_law_planned.nd rfl (.inl rfl) (me_callC c_law_stranger (hr.mono (by decide)) (by rfl) (ma_cons (me_var (pv 1)) (ma_cons (me_var (pv 4)) (ma_cons (me_var (pv 2)) ma_nil)))))
  (mss_cons (ms_if (MW.mt (mw_or (mt_not (mt_val (me_callLC c_law_same (hr.mono (by decide)) (by rfl) (ml_cons (me_callC c_first_stranger (hr.mono (by decide)) (by rfl) (ma_cons (me_var (pv 5)) (ma_cons (me_var (pv 6)) ma_nil))) (ml_cons (me_var (pv 7)) ml_nil))) (fun _ => rfl))) (mw_or1 (mt_not (mt_val (me_callLC c_law_same (hr.mono (by decide)) (by rfl) (ml_cons (me_callC c_can_plan (hr.mono (by decide)) (by rfl) (ma_cons (me_var (pv 5)) (ma_cons (me_var (pv 6)) ma_nil))) (ml_cons (me_cmp cmp_isD (me_var (pv 7)) me_non (by rfl)) ml_nil))) (fun _ => rfl))))))
  (mss_cons (ms_ret me_bl)
  mss_nil)
  mss_nil)
  (mss_cons (ms_setLc (i := 8) (own := [("some", 9)]) rfl sc_law_planned.nd rfl rfl (sw_true rfl rfl rfl (by decide +kernel)) (mi_of (me_var (pv 4))) (blkOk_by (N := ["box", "rows", "pins", "depths", "wanted", "handed", "others", "stranger", "locks", "some", "let_in", "given_locks", "told", "k", "lock", "row"]) (sc := (defScope s_law_planned)) (by decide +kernel)) (fun _ _ _ _ _ => (mg_name (pg_name (i := 9) sc_law_planned.nd rfl (.inl rfl)))) (fun _ _ _ _ _ => mts_nil) (fun _ _ _ _ _ => (me_callC c_law_least (hr.mono (by decide)) (by rfl) (ma_cons (me_lc (own := [("k", 13)]) rfl sc_law_planned.nd (mi_of (me_var (pv 9))) (blkOk_by (N := ["box", "rows", "pins", "depths", "wanted", "handed", "others", "stranger", "locks", "some", "let_in", "given_locks", "told", "k", "lock", "row"]) (sc := (relS _ (defScope s_law_planned))) (by decide +kernel)) (fun _ _ _ _ _ => (mg_name (pg_name (i := 13) sc_law_planned.nd rfl (.inl rfl)))) (fun _ _ _ _ _ => mts_nil) (fun _ _ _ _ _ => (me_ix (me_var (pv 1)) (me_var (pv 13)) (fun _ _ => rfl)))) (ma_cons (me_var (pv 2)) ma_nil)))))
  (mss_cons (ms_for PassesOwn.never rfl (mi_of (me_bin bin_add (me_lst (ma_cons (me_var (pv 8)) ma_nil)) (me_callIOC c_law_bent (hr.mono (by decide)) (by rfl) (pv 0) (ma_cons (me_var (pv 8)) (ma_cons (me_var (pv 2)) (ma_cons (me_var (pv 3)) ma_nil)))))) (mg_name (pg_name (i := 9) sc_law_planned.nd rfl (.inl rfl)))
  (mss_cons (ms_setLc (i := 10) (own := [("lock", 14)]) rfl sc_law_planned.nd rfl rfl (sw_true rfl rfl rfl (by decide +kernel)) (mi_of (me_var (pv 9))) (blkOk_by (N := ["box", "rows", "pins", "depths", "wanted", "handed", "others", "stranger", "locks", "some", "let_in", "given_locks", "told", "k", "lock", "row"]) (sc := (defScope s_law_planned)) (by decide +kernel)) (fun _ _ _ _ _ => (mg_name (pg_name (i := 14) sc_law_planned.nd rfl (.inl rfl)))) (fun _ _ _ _ _ => mts_nil) (fun _ _ _ _ _ => (me_callC c_law_let_in (hr.mono (by decide)) (by rfl) (ma_cons (me_var (pv 1)) (ma_cons (me_var (pv 14)) ma_nil)))))
  (mss_cons (ms_set (i := 11) sc_law_planned.nd rfl (.inl rfl) (me_t1 c_list (by rfl) (T.z_list) (by decide +kernel) (me_var (pv 9))))
  (mss_cons (ms_if (MW.mt (mw_or (mt_not (mt_val (me_callLC c_law_same (hr.mono (by decide)) (by rfl) (ml_cons (me_callC c_is_plan (hr.mono (by decide)) (by rfl) (ma_cons (me_var (pv 5)) (ma_cons (me_var (pv 6)) (ma_cons (me_var (pv 11)) ma_nil)))) (ml_cons (me_cmp (cmp_eq (hu64 hr)) (me_var (pv 10)) (me_var (pv 4)) (by rfl)) ml_nil))) (fun _ => rfl))) (mw_or1 (mt_cmp (cmp_ne (hu64 hr)) (me_var (pv 11)) (me_var (pv 9)) (by rfl)))))
  (mss_cons (ms_ret me_bl)
  mss_nil)
  mss_nil)
  (mss_cons (ms_set (i := 12) sc_law_planned.nd rfl (.inl rfl) (me_callC c_strange_keys (hr.mono (by decide)) (by rfl) (ma_cons (me_var (pv 5)) (ma_cons (me_var (pv 11)) ma_nil))))
  (mss_cons (ms_if (mt_not (mt_val (me_callLC c_law_same (hr.mono (by decide)) (by rfl) (ml_cons (me_var (pv 12)) (ml_cons (me_lc (own := [("row", 15)]) rfl sc_law_planned.nd (mi_of (me_var (pv 10))) (blkOk_by (N := ["box", "rows", "pins", "depths", "wanted", "handed", "others", "stranger", "locks", "some", "let_in", "given_locks", "told", "k", "lock", "row"]) (sc := (defScope s_law_planned)) (by decide +kernel)) (fun _ _ _ _ _ => (mg_name (pg_name (i := 15) sc_law_planned.nd rfl (.inl rfl)))) (fun _ _ _ _ _ => mts_nil) (fun _ _ _ _ _ => (me_t1 c_list (by rfl) (T.z_list) (by decide +kernel) (me_var (pv 15))))) ml_nil))) (fun _ => rfl)))
  (mss_cons (ms_ret me_bl)
  mss_nil)
  mss_nil)
  mss_nil))))))
  (mss_cons (ms_ret (me_and (me_cmp (cmp_eq (hu64 hr)) (me_var (pv 5)) (me_var (pv 1)) (by rfl)) (me_one (me_cmp (cmp_eq (hu64 hr)) (me_var (pv 6)) (me_var (pv 4)) (by rfl)))))
  mss_nil)))))))) (runIO_ok rfl rfl), mgf, F.kp, F.binds (ps := ["box", "rows", "pins", "depths"]) fun _ _ _ _ _ _ us hl => match us, hl with | [_, _, _, _], _ => rfl⟩
theorem ok_law_apart (T : Txt w mg) (F : Fun KK.K "_law_apart" "_law_apart" s_law_apart f fd) (mgf : mg "_law_apart" = some (.ref f))   : Cl P w mg base "_law_apart" 1 (spN phi_law_apart) :=
  ⟨f, fd, ["one", "other"], fn_mk F sc_law_apart (fun cdv A outer s H E hr => (mss_cons (ms_ret (me_cmp (cmp_gt (hu64 hr)) (me_b1 c_len (by rfl) (T.z_len) (by decide +kernel) (me_lc (own := [("pin", 2)]) rfl sc_law_apart.nd (mi_range1 (by rfl) (T.z_range) (ma_cons (me_b1 c_len (by rfl) (T.z_len) (by decide +kernel) (me_var (pv 0))) ma_nil)) (blkOk_by (N := ["one", "other", "pin"]) (sc := (defScope s_law_apart)) (by decide +kernel)) (fun _ _ _ _ _ => (mg_name (pg_name (i := 2) sc_law_apart.nd rfl (.inl rfl)))) (fun _ _ _ _ _ => (mts_one (mt_cmp (cmp_ne (hu64 hr)) (me_ix (me_var (pv 0)) (me_var (pv 2)) (fun _ _ => rfl)) (me_ix (me_var (pv 1)) (me_var (pv 2)) (fun _ _ => rfl)) (by rfl)))) (fun _ _ _ _ _ => (me_var (pv 2))))) me_int (by rfl)))
  mss_nil)) (runN_ok rfl rfl), mgf, F.kp, F.binds (ps := ["one", "other"]) fun _ _ _ _ _ _ us hl => match us, hl with | [_, _], _ => rfl⟩
theorem ok_law (T : Txt w mg) (F : Fun KK.K "law" "law" s_law f fd) (cL_law_pick : Cl P w mg base "_law_pick" 2 (spIOL phiL_law_pick)) (c_law_digits : Cl P w mg base "_law_digits" 2 (spN phi_law_digits)) (c_law_pick : Cl P w mg base "_law_pick" 2 (spIO phi_law_pick)) (c_law_all : Cl P w mg base "_law_all" 1 (spN phi_law_all)) (c_sum_keys : Cl P w mg base "sum_keys" 1 (spN phi_sum_keys)) (c_law_same : Cl P w mg base "_law_same" 12 (spN (phi_law_same 12))) (c_law_planned : Cl P w mg base "_law_planned" 13 (spIO phi_law_planned)) (c_law_draw : Cl P w mg base "_law_draw" 1 (spIO phi_law_draw)) (c_free_key : Cl P w mg base "free_key" 1 (spN phi_free_key)) (c_can_plan : Cl P w mg base "can_plan" 3 (spN phi_can_plan)) (c_most_keys : Cl P w mg base "most_keys" 1 (spN phi_most_keys)) (c_first_stranger : Cl P w mg base "first_stranger" 2 (spN phi_first_stranger)) (c_law_key : Cl P w mg base "_law_key" 2 (spIO phi_law_key)) (c_law_mixed : Cl P w mg base "_law_mixed" 2 (spIO phi_law_mixed)) (c_law_apart : Cl P w mg base "_law_apart" 1 (spN phi_law_apart)) : FnOk P w KK.K mg base CX0 14 f fd ["script"] (spN phi_law) :=
  fn_mk F sc_law (fun cdv A outer s H E hr => (mss_cons (ms_set (i := 1) sc_law.nd rfl (.inl rfl) (me_lst (ma_cons (me_callC c_law_digits (hr.mono (by decide)) (by rfl) (ma_cons (me_var (pv 0)) (ma_cons me_int (ma_cons me_int ma_nil)))) (ma_cons me_int ma_nil))))
  (mss_cons (ms_for PassesOwn.never rfl (mi_range1 (by rfl) (T.z_range) (ma_cons me_int ma_nil)) (mg_name (pg_name (i := 2) sc_law.nd rfl (.inl rfl)))
  (mss_cons (ms_set (i := 3) sc_law.nd rfl (.inl rfl) (me_callIOLC cL_law_pick (hr.mono (by decide)) (by rfl) (pv 1) (ml_cons (me_lst (ma_cons me_int (ma_cons me_int (ma_cons me_int (ma_cons me_int (ma_cons me_int ma_nil)))))) ml_nil)))
  (mss_cons (ms_set (i := 4) sc_law.nd rfl (.inr rfl) (me_if (mt_cmp (cmp_lt (hu64 hr)) (me_var (pv 3)) me_int (by rfl)) (me_callIOLC cL_law_pick (hr.mono (by decide)) (by rfl) (pv 1) (ml_cons (me_lst (ma_cons me_int (ma_cons me_int (ma_cons me_int ma_nil)))) ml_nil)) (me_callIOLC cL_law_pick (hr.mono (by decide)) (by rfl) (pv 1) (ml_cons (me_lst (ma_cons me_int (ma_cons me_int (ma_cons me_int ma_nil)))) ml_nil))))
  (mss_cons (ms_set (i := 5) sc_law.nd rfl (.inl rfl) (me_lst ma_nil))
  (mss_cons (ms_for PassesOwn.never rfl (mi_range1 (by rfl) (T.z_range) (ma_cons (me_callIOLC cL_law_pick (hr.mono (by decide)) (by rfl) (pv 1) (ml_cons (me_lst (ma_cons me_int (ma_cons me_int (ma_cons me_int (ma_cons me_int (ma_cons me_int (ma_cons me_int ma_nil))))))) ml_nil)) ma_nil)) (mg_name (pg_name (i := 6) sc_law.nd rfl (.inl rfl)))
  (mss_cons (ms_expr (me_append (pv 5) (me_if (MW.mt (mw_or (mt_cmp (cmp_eq (hu64 hr)) (me_var (pv 5)) (me_lst ma_nil) (by rfl)) (mw_or1 (mt_cmp (cmp_gt (hu64 hr)) (me_callIOC c_law_draw (hr.mono (by decide)) (by rfl) (pv 1) (ma_cons me_int ma_nil)) me_int (by rfl))))) (me_callIOC c_law_key (hr.mono (by decide)) (by rfl) (pv 1) (ma_cons (me_var (pv 3)) (ma_cons (me_var (pv 4)) ma_nil))) (me_callIOLC cL_law_pick (hr.mono (by decide)) (by rfl) (pv 1) (ml_cons (me_var (pv 5)) ml_nil)))))
  mss_nil))
  (mss_cons (ms_if (mt_not (mt_val (me_callIOC c_law_planned (hr.mono (by decide)) (by rfl) (pv 1) (ma_cons (me_var (pv 5)) (ma_cons (me_var (pv 3)) (ma_cons (me_var (pv 4)) ma_nil)))) (fun _ => rfl)))
  (mss_cons (ms_ret me_bl)
  mss_nil)
  mss_nil)
  (mss_cons (ms_set (i := 7) sc_law.nd rfl (.inl rfl) (me_callC c_law_all (hr.mono (by decide)) (by rfl) (ma_cons (me_var (pv 3)) (ma_cons (me_var (pv 4)) ma_nil))))
  (mss_cons (ms_setLc (i := 8) (own := [("key", 16)]) rfl sc_law.nd rfl rfl (sw_true rfl rfl rfl (by decide +kernel)) (mi_of (me_var (pv 7))) (blkOk_by (N := ["script", "box", "turn", "pins", "depths", "rows", "k", "every", "alike", "told", "pin", "on", "near", "some", "free", "handed", "key", "far"]) (sc := (defScope s_law)) (by decide +kernel)) (fun _ _ _ _ _ => (mg_name (pg_name (i := 16) sc_law.nd rfl (.inl rfl)))) (fun _ _ _ _ _ => (mts_one (mt_cmp (cmp_eq (hu64 hr)) (me_bin bin_mod (me_t1 c_int (by rfl) (T.z_int) (by decide +kernel) (me_b1 (c_sumX rfl) (by rfl) (T.z_sum) (by decide +kernel) (me_var (pv 16)))) (me_var (pv 4))) me_int (by rfl)))) (fun _ _ _ _ _ => (me_var (pv 16))))
  (mss_cons (ms_set (i := 9) sc_law.nd rfl (.inl rfl) (me_callC c_sum_keys (hr.mono (by decide)) (by rfl) (ma_cons (me_var (pv 3)) (ma_cons (me_var (pv 4)) ma_nil))))
  (mss_cons (ms_if (MW.mt (mw_or (mt_not (mt_val (me_callLC c_law_same (hr.mono (by decide)) (by rfl) (ml_cons (me_var (pv 9)) (ml_cons (me_var (pv 8)) ml_nil))) (fun _ => rfl))) (mw_or1 (mt_not (mt_val (me_callLC c_law_same (hr.mono (by decide)) (by rfl) (ml_cons (me_callC c_most_keys (hr.mono (by decide)) (by rfl) (ma_cons (me_var (pv 3)) (ma_cons (me_var (pv 4)) ma_nil))) (ml_cons (me_b1 c_len (by rfl) (T.z_len) (by decide +kernel) (me_var (pv 8))) ml_nil))) (fun _ => rfl))))))
  (mss_cons (ms_ret me_bl)
  mss_nil)
  mss_nil)
  (mss_cons (ms_expr (me_append (pv 9) (me_tup ma_nil)))
  (mss_cons (ms_asg (me_tup (ma_cons (me_callIOC c_law_draw (hr.mono (by decide)) (by rfl) (pv 1) (ma_cons (me_var (pv 3)) ma_nil)) (ma_cons (me_callIOC c_law_draw (hr.mono (by decide)) (by rfl) (pv 1) (ma_cons (me_var (pv 4)) ma_nil)) ma_nil))) (mg_tup rfl (mgs_cons (mg_name (pg_name (i := 10) sc_law.nd rfl (.inr rfl))) (mgs_cons (mg_name (pg_name (i := 11) sc_law.nd rfl (.inr rfl))) mgs_nil))))
  (mss_cons (ms_setLc (i := 12) (own := [("key", 16)]) rfl sc_law.nd rfl rfl (sw_true rfl rfl rfl (by decide +kernel)) (mi_of (me_slice (me_callIOC c_law_mixed (hr.mono (by decide)) (by rfl) (pv 1) (ma_cons (me_var (pv 8)) ma_nil)) mp_none (mp_some me_int))) (blkOk_by (N := ["script", "box", "turn", "pins", "depths", "rows", "k", "every", "alike", "told", "pin", "on", "near", "some", "free", "handed", "key", "far"]) (sc := (defScope s_law)) (by decide +kernel)) (fun _ _ _ _ _ => (mg_name (pg_name (i := 16) sc_law.nd rfl (.inl rfl)))) (fun _ _ _ _ _ => mts_nil) (fun _ _ _ _ _ => (me_bin bin_add (me_bin bin_add (me_slice (me_var (pv 16)) mp_none (mp_some (me_var (pv 10)))) (me_tup (ma_cons (me_bin bin_mod (me_t1 c_int (by rfl) (T.z_int) (by decide +kernel) (me_bin bin_add (me_ix (me_var (pv 16)) (me_var (pv 10)) (fun _ _ => rfl)) (me_var (pv 11)))) (me_var (pv 4))) ma_nil))) (me_slice (me_var (pv 16)) (mp_some (me_bin bin_add (me_var (pv 10)) me_int)) mp_none))))
  (mss_cons (ms_for PassesOwn.never rfl (mi_of (me_if (mt_cmp (cmp_eq (hu64 hr)) (me_var (pv 2)) me_int (by rfl)) (me_lst (ma_cons (me_var (pv 5)) (ma_cons (me_var (pv 12)) ma_nil))) (me_lst (ma_cons (me_bin bin_add (me_slice (me_var (pv 12)) mp_none (mp_some me_int)) (me_slice (me_var (pv 5)) mp_none (mp_some me_int))) (ma_cons (me_slice (me_var (pv 12)) mp_none (mp_some me_int)) ma_nil))))) (mg_name (pg_name (i := 13) sc_law.nd rfl (.inr rfl)))
  (mss_cons (ms_setLc (i := 14) (own := [("key", 16)]) rfl sc_law.nd rfl rfl (sw_true rfl rfl rfl (by decide +kernel)) (mi_of (me_var (pv 7))) (blkOk_by (N := ["script", "box", "turn", "pins", "depths", "rows", "k", "every", "alike", "told", "pin", "on", "near", "some", "free", "handed", "key", "far"]) (sc := (defScope s_law)) (by decide +kernel)) (fun _ _ _ _ _ => (mg_name (pg_name (i := 16) sc_law.nd rfl (.inr rfl)))) (fun _ _ _ _ _ => (mts_one (mt_cmp (cmp_eq (hu64 hr)) (me_lc (own := [("far", 17)]) rfl sc_law.nd (mi_of (me_var (pv 13))) (blkOk_by (N := ["script", "box", "turn", "pins", "depths", "rows", "k", "every", "alike", "told", "pin", "on", "near", "some", "free", "handed", "key", "far"]) (sc := (relS _ (defScope s_law))) (by decide +kernel)) (fun _ _ _ _ _ => (mg_name (pg_name (i := 17) sc_law.nd rfl (.inl rfl)))) (fun _ _ _ _ _ => (mts_one (mt_not (mt_val (me_callC c_law_apart (hr.mono (by decide)) (by rfl) (ma_cons (me_var (pv 16)) (ma_cons (me_var (pv 17)) ma_nil))) (fun _ => rfl))))) (fun _ _ _ _ _ => (me_var (pv 17)))) (me_lst ma_nil) (by rfl)))) (fun _ _ _ _ _ => (me_var (pv 16))))
  (mss_cons (ms_set (i := 15) sc_law.nd rfl (.inl rfl) (me_t1 c_list (by rfl) (T.z_list) (by decide +kernel) (me_var (pv 13))))
  (mss_cons (ms_if (MW.mt (mw_or (mt_not (mt_val (me_callLC c_law_same (hr.mono (by decide)) (by rfl) (ml_cons (me_callC c_free_key (hr.mono (by decide)) (by rfl) (ma_cons (me_var (pv 15)) (ma_cons (me_var (pv 4)) ma_nil))) (ml_cons (me_if (mt_cmp (cmp_ne (hu64 hr)) (me_var (pv 14)) (me_lst ma_nil) (by rfl)) (me_ix (me_var (pv 14)) me_int (fun _ _ => rfl)) me_non) ml_nil))) (fun _ => rfl))) (mw_or1 (mt_cmp (cmp_ne (hu64 hr)) (me_var (pv 15)) (me_var (pv 13)) (by rfl)))))
  (mss_cons (ms_ret me_bl)
  mss_nil)
  mss_nil)
  mss_nil))))
  mss_nil))))))))))))))
  (mss_cons (ms_if (MW.mt (mw_or (mt_not (mt_val (me_callLC c_law_same (hr.mono (by decide)) (by rfl) (ml_cons (me_callC c_most_keys (hr.mono (by decide)) (by rfl) (ma_cons me_int (ma_cons me_int ma_nil))) (ml_cons me_int ml_nil))) (fun _ => rfl))) (mw_or (mt_not (mt_val (me_callLC c_law_same (hr.mono (by decide)) (by rfl) (ml_cons (me_callC c_sum_keys (hr.mono (by decide)) (by rfl) (ma_cons me_int (ma_cons me_int ma_nil))) (ml_cons (me_lst (ma_cons (me_tup (ma_cons me_int (ma_cons me_int ma_nil))) (ma_cons (me_tup (ma_cons me_int (ma_cons me_int ma_nil))) (ma_cons (me_tup (ma_cons me_int (ma_cons me_int ma_nil))) ma_nil)))) ml_nil))) (fun _ => rfl))) (mw_or1 (mt_cmp cmp_isnotD (me_callC c_free_key (hr.mono (by decide)) (by rfl) (ma_cons (me_lst (ma_cons (me_tup (ma_cons me_int ma_nil)) ma_nil)) (ma_cons me_int ma_nil))) me_non (by rfl))))))
  (mss_cons (ms_ret me_bl)
  mss_nil)
  mss_nil)
  (mss_cons (ms_if (MW.mt (mw_or (mt_not (mt_val (me_callLC c_law_same (hr.mono (by decide)) (by rfl) (ml_cons (me_callC c_first_stranger (hr.mono (by decide)) (by rfl) (ma_cons (me_lst (ma_cons (me_tup (ma_cons me_int (ma_cons me_int ma_nil))) (ma_cons (me_tup (ma_cons me_int (ma_cons me_int ma_nil))) (ma_cons (me_tup (ma_cons me_int (ma_cons me_int ma_nil))) ma_nil)))) (ma_cons (me_lst (ma_cons (me_tup (ma_cons me_int (ma_cons me_int ma_nil))) ma_nil)) ma_nil))) (ml_cons (me_tup (ma_cons me_int (ma_cons me_int ma_nil))) ml_nil))) (fun _ => rfl))) (mw_or1 (mt_cmp cmp_isnotD (me_callC c_can_plan (hr.mono (by decide)) (by rfl) (ma_cons (me_lst (ma_cons (me_tup (ma_cons me_int (ma_cons me_int ma_nil))) (ma_cons (me_tup (ma_cons me_int (ma_cons me_int ma_nil))) (ma_cons (me_tup (ma_cons me_int (ma_cons me_int ma_nil))) ma_nil)))) (ma_cons (me_lst (ma_cons (me_tup (ma_cons me_int (ma_cons me_int ma_nil))) ma_nil)) ma_nil))) me_bl (by rfl)))))
  (mss_cons (ms_ret me_bl)
  mss_nil)
  mss_nil)
  (mss_cons (ms_ret (me_and (me_callLC c_law_same (hr.mono (by decide)) (by rfl) (ml_cons (me_callC c_free_key (hr.mono (by decide)) (by rfl) (ma_cons (me_lst (ma_cons (me_tup (ma_cons me_int (ma_cons me_int (ma_cons me_int ma_nil)))) (ma_cons (me_tup (ma_cons me_int (ma_cons me_int (ma_cons me_int ma_nil)))) ma_nil))) (ma_cons me_int ma_nil))) (ml_cons (me_tup (ma_cons me_int (ma_cons me_int (ma_cons me_int ma_nil)))) ml_nil))) (me_one (me_cmp cmp_isD (me_callC c_can_plan (hr.mono (by decide)) (by rfl) (ma_cons (me_lst (ma_cons (me_tup (ma_cons me_int (ma_cons me_int ma_nil))) (ma_cons (me_tup (ma_cons me_int (ma_cons me_int ma_nil))) ma_nil))) (ma_cons (me_lst (ma_cons (me_tup (ma_cons me_int ma_nil)) (ma_cons (me_tup (ma_cons me_int (ma_cons me_int ma_nil))) ma_nil))) ma_nil))) me_bl (by rfl)))))
  mss_nil)))))) (runN_ok rfl rfl)
end
theorem all_mk {l : PySem.W.OpenLaw} {w : World} {K : PySem.W.Frag} {h : Heap} {mg : Str → Option Value} {fa f1 f2 f3 f4 f5 f6 f7 f8 f9 f10 f11 f12 f13 f14 f15 f16 f17 f18 f19 f20 f21 f22 f23 f24 f25 f26 : Addr} (X : K.In h) (G : h.Ns mainGlobals mg) (hfa : mg "law" = some (.ref fa))
    {od1 an1 od2 an2 od3 an3 od4 an4 od5 an5 od6 an6 od7 an7 od8 an8 od9 an9 od10 an10 od11 an11 od12 an12 od13 an13 od14 an14 od15 an15 od16 an16 od17 an17 od18 an18 od19 an19 od20 an20 od21 an21 od22 an22 od23 an23 od24 an24 od25 an25 od26 an26 : Option Addr} {sl1 sl2 sl3 sl4 sl5 sl6 sl7 sl8 sl9 sl10 sl11 sl12 sl13 sl14 sl15 sl16 sl17 sl18 sl19 sl20 sl21 sl22 sl23 sl24 sl25 sl26 : Array (Option Value)} {oc1 kV1 dc1 pm1 cd1 ct1 oc2 kV2 dc2 pm2 cd2 ct2 oc3 kV3 dc3 pm3 cd3 ct3 oc4 kV4 dc4 pm4 cd4 ct4 oc5 kV5 dc5 pm5 cd5 ct5 oc6 kV6 dc6 pm6 cd6 ct6 oc7 kV7 dc7 pm7 cd7 ct7 oc8 kV8 dc8 pm8 cd8 ct8 oc9 kV9 dc9 pm9 cd9 ct9 oc10 kV10 dc10 pm10 cd10 ct10 oc11 kV11 dc11 pm11 cd11 ct11 oc12 kV12 dc12 pm12 cd12 ct12 oc13 kV13 dc13 pm13 cd13 ct13 oc14 kV14 dc14 pm14 cd14 ct14 oc15 kV15 dc15 pm15 cd15 ct15 oc16 kV16 dc16 pm16 cd16 ct16 oc17 kV17 dc17 pm17 cd17 ct17 oc18 kV18 dc18 pm18 cd18 ct18 oc19 kV19 dc19 pm19 cd19 ct19 oc20 kV20 dc20 pm20 cd20 ct20 oc21 kV21 dc21 pm21 cd21 ct21 oc22 kV22 dc22 pm22 cd22 ct22 oc23 kV23 dc23 pm23 cd23 ct23 oc24 kV24 dc24 pm24 cd24 ct24 oc25 kV25 dc25 pm25 cd25 ct25 oc26 kV26 dc26 pm26 cd26 ct26 : Value}
    (a1 : PySem.W.nsIn K mainGlobals "opens" = some (some (.ref f1))) (l1 : K.lookup f1 = some ⟨oc1, od1, .func (PySem.W.fnOf "opens" "opens" (defArgs s_opens) (defBody s_opens) (defScope s_opens) .none kV1 dc1 pm1 an1 cd1 ct1), sl1⟩) (c1 : PySem.W.codeIn K cd1 "opens" = true) (k1 : PySem.W.keepIn K (.ref f1) = true)
    (a2 : PySem.W.nsIn K mainGlobals "lock_for" = some (some (.ref f2))) (l2 : K.lookup f2 = some ⟨oc2, od2, .func (PySem.W.fnOf "lock_for" "lock_for" (defArgs s_lock_for) (defBody s_lock_for) (defScope s_lock_for) .none kV2 dc2 pm2 an2 cd2 ct2), sl2⟩) (c2 : PySem.W.codeIn K cd2 "lock_for" = true) (k2 : PySem.W.keepIn K (.ref f2) = true)
    (a3 : PySem.W.nsIn K mainGlobals "strange_keys" = some (some (.ref f3))) (l3 : K.lookup f3 = some ⟨oc3, od3, .func (PySem.W.fnOf "strange_keys" "strange_keys" (defArgs s_strange_keys) (defBody s_strange_keys) (defScope s_strange_keys) .none kV3 dc3 pm3 an3 cd3 ct3), sl3⟩) (c3 : PySem.W.codeIn K cd3 "strange_keys" = true) (k3 : PySem.W.keepIn K (.ref f3) = true)
    (a4 : PySem.W.nsIn K mainGlobals "is_plan" = some (some (.ref f4))) (l4 : K.lookup f4 = some ⟨oc4, od4, .func (PySem.W.fnOf "is_plan" "is_plan" (defArgs s_is_plan) (defBody s_is_plan) (defScope s_is_plan) .none kV4 dc4 pm4 an4 cd4 ct4), sl4⟩) (c4 : PySem.W.codeIn K cd4 "is_plan" = true) (k4 : PySem.W.keepIn K (.ref f4) = true)
    (a5 : PySem.W.nsIn K mainGlobals "first_stranger" = some (some (.ref f5))) (l5 : K.lookup f5 = some ⟨oc5, od5, .func (PySem.W.fnOf "first_stranger" "first_stranger" (defArgs s_first_stranger) (defBody s_first_stranger) (defScope s_first_stranger) .none kV5 dc5 pm5 an5 cd5 ct5), sl5⟩) (c5 : PySem.W.codeIn K cd5 "first_stranger" = true) (k5 : PySem.W.keepIn K (.ref f5) = true)
    (a6 : PySem.W.nsIn K mainGlobals "can_plan" = some (some (.ref f6))) (l6 : K.lookup f6 = some ⟨oc6, od6, .func (PySem.W.fnOf "can_plan" "can_plan" (defArgs s_can_plan) (defBody s_can_plan) (defScope s_can_plan) .none kV6 dc6 pm6 an6 cd6 ct6), sl6⟩) (c6 : PySem.W.codeIn K cd6 "can_plan" = true) (k6 : PySem.W.keepIn K (.ref f6) = true)
    (a7 : PySem.W.nsIn K mainGlobals "free_key" = some (some (.ref f7))) (l7 : K.lookup f7 = some ⟨oc7, od7, .func (PySem.W.fnOf "free_key" "free_key" (defArgs s_free_key) (defBody s_free_key) (defScope s_free_key) .none kV7 dc7 pm7 an7 cd7 ct7), sl7⟩) (c7 : PySem.W.codeIn K cd7 "free_key" = true) (k7 : PySem.W.keepIn K (.ref f7) = true)
    (a8 : PySem.W.nsIn K mainGlobals "most_keys" = some (some (.ref f8))) (l8 : K.lookup f8 = some ⟨oc8, od8, .func (PySem.W.fnOf "most_keys" "most_keys" (defArgs s_most_keys) (defBody s_most_keys) (defScope s_most_keys) .none kV8 dc8 pm8 an8 cd8 ct8), sl8⟩) (c8 : PySem.W.codeIn K cd8 "most_keys" = true) (k8 : PySem.W.keepIn K (.ref f8) = true)
    (a9 : PySem.W.nsIn K mainGlobals "sum_keys" = some (some (.ref f9))) (l9 : K.lookup f9 = some ⟨oc9, od9, .func (PySem.W.fnOf "sum_keys" "sum_keys" (defArgs s_sum_keys) (defBody s_sum_keys) (defScope s_sum_keys) .none kV9 dc9 pm9 an9 cd9 ct9), sl9⟩) (c9 : PySem.W.codeIn K cd9 "sum_keys" = true) (k9 : PySem.W.keepIn K (.ref f9) = true)
    (a10 : PySem.W.nsIn K mainGlobals "_law_cell" = some (some (.ref f10))) (l10 : K.lookup f10 = some ⟨oc10, od10, .func (PySem.W.fnOf "_law_cell" "_law_cell" (defArgs s_law_cell) (defBody s_law_cell) (defScope s_law_cell) .none kV10 dc10 pm10 an10 cd10 ct10), sl10⟩) (c10 : PySem.W.codeIn K cd10 "_law_cell" = true) (k10 : PySem.W.keepIn K (.ref f10) = true)
    (a11 : PySem.W.nsIn K mainGlobals "_law_digits" = some (some (.ref f11))) (l11 : K.lookup f11 = some ⟨oc11, od11, .func (PySem.W.fnOf "_law_digits" "_law_digits" (defArgs s_law_digits) (defBody s_law_digits) (defScope s_law_digits) .none kV11 dc11 pm11 an11 cd11 ct11), sl11⟩) (c11 : PySem.W.codeIn K cd11 "_law_digits" = true) (k11 : PySem.W.keepIn K (.ref f11) = true)
    (a12 : PySem.W.nsIn K mainGlobals "_law_draw" = some (some (.ref f12))) (l12 : K.lookup f12 = some ⟨oc12, od12, .func (PySem.W.fnOf "_law_draw" "_law_draw" (defArgs s_law_draw) (defBody s_law_draw) (defScope s_law_draw) .none kV12 dc12 pm12 an12 cd12 ct12), sl12⟩) (c12 : PySem.W.codeIn K cd12 "_law_draw" = true) (k12 : PySem.W.keepIn K (.ref f12) = true)
    (a13 : PySem.W.nsIn K mainGlobals "_law_pick" = some (some (.ref f13))) (l13 : K.lookup f13 = some ⟨oc13, od13, .func (PySem.W.fnOf "_law_pick" "_law_pick" (defArgs s_law_pick) (defBody s_law_pick) (defScope s_law_pick) .none kV13 dc13 pm13 an13 cd13 ct13), sl13⟩) (c13 : PySem.W.codeIn K cd13 "_law_pick" = true) (k13 : PySem.W.keepIn K (.ref f13) = true)
    (a14 : PySem.W.nsIn K mainGlobals "_law_same" = some (some (.ref f14))) (l14 : K.lookup f14 = some ⟨oc14, od14, .func (PySem.W.fnOf "_law_same" "_law_same" (defArgs s_law_same) (defBody s_law_same) (defScope s_law_same) .none kV14 dc14 pm14 an14 cd14 ct14), sl14⟩) (c14 : PySem.W.codeIn K cd14 "_law_same" = true) (k14 : PySem.W.keepIn K (.ref f14) = true)
    (a15 : PySem.W.nsIn K mainGlobals "_law_mixed" = some (some (.ref f15))) (l15 : K.lookup f15 = some ⟨oc15, od15, .func (PySem.W.fnOf "_law_mixed" "_law_mixed" (defArgs s_law_mixed) (defBody s_law_mixed) (defScope s_law_mixed) .none kV15 dc15 pm15 an15 cd15 ct15), sl15⟩) (c15 : PySem.W.codeIn K cd15 "_law_mixed" = true) (k15 : PySem.W.keepIn K (.ref f15) = true)
    (a16 : PySem.W.nsIn K mainGlobals "_law_all" = some (some (.ref f16))) (l16 : K.lookup f16 = some ⟨oc16, od16, .func (PySem.W.fnOf "_law_all" "_law_all" (defArgs s_law_all) (defBody s_law_all) (defScope s_law_all) .none kV16 dc16 pm16 an16 cd16 ct16), sl16⟩) (c16 : PySem.W.codeIn K cd16 "_law_all" = true) (k16 : PySem.W.keepIn K (.ref f16) = true)
    (a17 : PySem.W.nsIn K mainGlobals "_law_fits" = some (some (.ref f17))) (l17 : K.lookup f17 = some ⟨oc17, od17, .func (PySem.W.fnOf "_law_fits" "_law_fits" (defArgs s_law_fits) (defBody s_law_fits) (defScope s_law_fits) .none kV17 dc17 pm17 an17 cd17 ct17), sl17⟩) (c17 : PySem.W.codeIn K cd17 "_law_fits" = true) (k17 : PySem.W.keepIn K (.ref f17) = true)
    (a18 : PySem.W.nsIn K mainGlobals "_law_key" = some (some (.ref f18))) (l18 : K.lookup f18 = some ⟨oc18, od18, .func (PySem.W.fnOf "_law_key" "_law_key" (defArgs s_law_key) (defBody s_law_key) (defScope s_law_key) .none kV18 dc18 pm18 an18 cd18 ct18), sl18⟩) (c18 : PySem.W.codeIn K cd18 "_law_key" = true) (k18 : PySem.W.keepIn K (.ref f18) = true)
    (a19 : PySem.W.nsIn K mainGlobals "_law_least" = some (some (.ref f19))) (l19 : K.lookup f19 = some ⟨oc19, od19, .func (PySem.W.fnOf "_law_least" "_law_least" (defArgs s_law_least) (defBody s_law_least) (defScope s_law_least) .none kV19 dc19 pm19 an19 cd19 ct19), sl19⟩) (c19 : PySem.W.codeIn K cd19 "_law_least" = true) (k19 : PySem.W.keepIn K (.ref f19) = true)
    (a20 : PySem.W.nsIn K mainGlobals "_law_let_in" = some (some (.ref f20))) (l20 : K.lookup f20 = some ⟨oc20, od20, .func (PySem.W.fnOf "_law_let_in" "_law_let_in" (defArgs s_law_let_in) (defBody s_law_let_in) (defScope s_law_let_in) .none kV20 dc20 pm20 an20 cd20 ct20), sl20⟩) (c20 : PySem.W.codeIn K cd20 "_law_let_in" = true) (k20 : PySem.W.keepIn K (.ref f20) = true)
    (a21 : PySem.W.nsIn K mainGlobals "_law_wanted" = some (some (.ref f21))) (l21 : K.lookup f21 = some ⟨oc21, od21, .func (PySem.W.fnOf "_law_wanted" "_law_wanted" (defArgs s_law_wanted) (defBody s_law_wanted) (defScope s_law_wanted) .none kV21 dc21 pm21 an21 cd21 ct21), sl21⟩) (c21 : PySem.W.codeIn K cd21 "_law_wanted" = true) (k21 : PySem.W.keepIn K (.ref f21) = true)
    (a22 : PySem.W.nsIn K mainGlobals "_law_stranger" = some (some (.ref f22))) (l22 : K.lookup f22 = some ⟨oc22, od22, .func (PySem.W.fnOf "_law_stranger" "_law_stranger" (defArgs s_law_stranger) (defBody s_law_stranger) (defScope s_law_stranger) .none kV22 dc22 pm22 an22 cd22 ct22), sl22⟩) (c22 : PySem.W.codeIn K cd22 "_law_stranger" = true) (k22 : PySem.W.keepIn K (.ref f22) = true)
    (a23 : PySem.W.nsIn K mainGlobals "_law_bent" = some (some (.ref f23))) (l23 : K.lookup f23 = some ⟨oc23, od23, .func (PySem.W.fnOf "_law_bent" "_law_bent" (defArgs s_law_bent) (defBody s_law_bent) (defScope s_law_bent) .none kV23 dc23 pm23 an23 cd23 ct23), sl23⟩) (c23 : PySem.W.codeIn K cd23 "_law_bent" = true) (k23 : PySem.W.keepIn K (.ref f23) = true)
    (a24 : PySem.W.nsIn K mainGlobals "_law_planned" = some (some (.ref f24))) (l24 : K.lookup f24 = some ⟨oc24, od24, .func (PySem.W.fnOf "_law_planned" "_law_planned" (defArgs s_law_planned) (defBody s_law_planned) (defScope s_law_planned) .none kV24 dc24 pm24 an24 cd24 ct24), sl24⟩) (c24 : PySem.W.codeIn K cd24 "_law_planned" = true) (k24 : PySem.W.keepIn K (.ref f24) = true)
    (a25 : PySem.W.nsIn K mainGlobals "_law_apart" = some (some (.ref f25))) (l25 : K.lookup f25 = some ⟨oc25, od25, .func (PySem.W.fnOf "_law_apart" "_law_apart" (defArgs s_law_apart) (defBody s_law_apart) (defScope s_law_apart) .none kV25 dc25 pm25 an25 cd25 ct25), sl25⟩) (c25 : PySem.W.codeIn K cd25 "_law_apart" = true) (k25 : PySem.W.keepIn K (.ref f25) = true)
    (a26 : PySem.W.nsIn K mainGlobals "law" = some (some (.ref f26))) (l26 : K.lookup f26 = some ⟨oc26, od26, .func (PySem.W.fnOf "law" "law" (defArgs s_law) (defBody s_law) (defScope s_law) .none kV26 dc26 pm26 an26 cd26 ct26), sl26⟩) (c26 : PySem.W.codeIn K cd26 "law" = true) (k26 : PySem.W.keepIn K (.ref f26) = true)
    (z_all : PySem.W.nsIn K mainGlobals "all" = some none)
    (z_bool : PySem.W.nsIn K mainGlobals "bool" = some none)
    (z_enumerate : PySem.W.nsIn K mainGlobals "enumerate" = some none)
    (z_int : PySem.W.nsIn K mainGlobals "int" = some none)
    (z_isinstance : PySem.W.nsIn K mainGlobals "isinstance" = some none)
    (z_len : PySem.W.nsIn K mainGlobals "len" = some none)
    (z_list : PySem.W.nsIn K mainGlobals "list" = some none)
    (z_max : PySem.W.nsIn K mainGlobals "max" = some none)
    (z_range : PySem.W.nsIn K mainGlobals "range" = some none)
    (z_repr : PySem.W.nsIn K mainGlobals "repr" = some none)
    (z_sorted : PySem.W.nsIn K mainGlobals "sorted" = some none)
    (z_str : PySem.W.nsIn K mainGlobals "str" = some none)
    (z_sum : PySem.W.nsIn K mainGlobals "sum" = some none)
    (z_tuple : PySem.W.nsIn K mainGlobals "tuple" = some none)
    (z_zip : PySem.W.nsIn K mainGlobals "zip" = some none)
    : ∃ fd : FuncData, (∀ (s : Shared) (v : Value), BindsTo s fd ⟨[v], []⟩ [("script", v)]) ∧ ∀ base : Heap, K.In base → base.Ns mainGlobals mg → FnOk l.prog w K mg base CX0 14 fa fd ["script"] (@spN ⟨K⟩ phi_law) := by
  have e := hfa.symm.trans (PySem.W.mg_of X G a26)
  cases e
  letI : KK := ⟨K⟩
  have T : Txt w mg := ⟨PySem.W.mg_none_of X G z_all, PySem.W.mg_none_of X G z_bool, PySem.W.mg_none_of X G z_enumerate, PySem.W.mg_none_of X G z_int, PySem.W.mg_none_of X G z_isinstance, PySem.W.mg_none_of X G z_len, PySem.W.mg_none_of X G z_list, PySem.W.mg_none_of X G z_max, PySem.W.mg_none_of X G z_range, PySem.W.mg_none_of X G z_repr, PySem.W.mg_none_of X G z_sorted, PySem.W.mg_none_of X G z_str, PySem.W.mg_none_of X G z_sum, PySem.W.mg_none_of X G z_tuple, PySem.W.mg_none_of X G z_zip⟩
  exact ⟨PySem.W.fnOf "law" "law" (defArgs s_law) (defBody s_law) (defScope s_law) .none kV26 dc26 pm26 an26 cd26 ct26, fun s v => .of_eq rfl, fun base _ _ => by
    have F_opens : Fun KK.K "opens" "opens" s_opens f1 _ := fun_mk (st := s_opens) l1 c1 k1
    have c_opens := ok_opens (P := l.prog) (w := w) (base := base) T F_opens (PySem.W.mg_of X G a1) 
    have F_lock_for : Fun KK.K "lock_for" "lock_for" s_lock_for f2 _ := fun_mk (st := s_lock_for) l2 c2 k2
    have c_lock_for := ok_lock_for (P := l.prog) (w := w) (base := base) T F_lock_for (PySem.W.mg_of X G a2) 
    have F_strange_keys : Fun KK.K "strange_keys" "strange_keys" s_strange_keys f3 _ := fun_mk (st := s_strange_keys) l3 c3 k3
    have c_strange_keys := ok_strange_keys (P := l.prog) (w := w) (base := base) T F_strange_keys (PySem.W.mg_of X G a3) c_opens
    have F_is_plan : Fun KK.K "is_plan" "is_plan" s_is_plan f4 _ := fun_mk (st := s_is_plan) l4 c4 k4
    have c_is_plan := ok_is_plan (P := l.prog) (w := w) (base := base) T F_is_plan (PySem.W.mg_of X G a4) c_strange_keys
    have F_first_stranger : Fun KK.K "first_stranger" "first_stranger" s_first_stranger f5 _ := fun_mk (st := s_first_stranger) l5 c5 k5
    have c_first_stranger := ok_first_stranger (P := l.prog) (w := w) (base := base) T F_first_stranger (PySem.W.mg_of X G a5) c_lock_for c_opens
    have F_can_plan : Fun KK.K "can_plan" "can_plan" s_can_plan f6 _ := fun_mk (st := s_can_plan) l6 c6 k6
    have c_can_plan := ok_can_plan (P := l.prog) (w := w) (base := base) T F_can_plan (PySem.W.mg_of X G a6) c_first_stranger
    have F_free_key : Fun KK.K "free_key" "free_key" s_free_key f7 _ := fun_mk (st := s_free_key) l7 c7 k7
    have c_free_key := ok_free_key (P := l.prog) (w := w) (base := base) T F_free_key (PySem.W.mg_of X G a7) 
    have F_most_keys : Fun KK.K "most_keys" "most_keys" s_most_keys f8 _ := fun_mk (st := s_most_keys) l8 c8 k8
    have c_most_keys := ok_most_keys (P := l.prog) (w := w) (base := base) T F_most_keys (PySem.W.mg_of X G a8) 
    have F_sum_keys : Fun KK.K "sum_keys" "sum_keys" s_sum_keys f9 _ := fun_mk (st := s_sum_keys) l9 c9 k9
    have c_sum_keys := ok_sum_keys (P := l.prog) (w := w) (base := base) T F_sum_keys (PySem.W.mg_of X G a9) 
    have F_law_cell : Fun KK.K "_law_cell" "_law_cell" s_law_cell f10 _ := fun_mk (st := s_law_cell) l10 c10 k10
    have c_law_cell := ok_law_cell (P := l.prog) (w := w) (base := base) T F_law_cell (PySem.W.mg_of X G a10) 
    have F_law_digits : Fun KK.K "_law_digits" "_law_digits" s_law_digits f11 _ := fun_mk (st := s_law_digits) l11 c11 k11
    have c_law_digits := ok_law_digits (P := l.prog) (w := w) (base := base) T F_law_digits (PySem.W.mg_of X G a11) c_law_cell
    have F_law_draw : Fun KK.K "_law_draw" "_law_draw" s_law_draw f12 _ := fun_mk (st := s_law_draw) l12 c12 k12
    have c_law_draw := ok_law_draw (P := l.prog) (w := w) (base := base) T F_law_draw (PySem.W.mg_of X G a12) 
    have F_law_pick : Fun KK.K "_law_pick" "_law_pick" s_law_pick f13 _ := fun_mk (st := s_law_pick) l13 c13 k13
    have c_law_pick := ok_law_pick (P := l.prog) (w := w) (base := base) T F_law_pick (PySem.W.mg_of X G a13) c_law_draw
    have cL_law_pick := okL_law_pick (P := l.prog) (w := w) (base := base) T F_law_pick (PySem.W.mg_of X G a13) c_law_draw
    have F_law_same : Fun KK.K "_law_same" "_law_same" s_law_same f14 _ := fun_mk (st := s_law_same) l14 c14 k14
    have c_law_same := ok_law_same (P := l.prog) (w := w) (base := base) T F_law_same (PySem.W.mg_of X G a14)  12
    have F_law_mixed : Fun KK.K "_law_mixed" "_law_mixed" s_law_mixed f15 _ := fun_mk (st := s_law_mixed) l15 c15 k15
    have c_law_mixed := ok_law_mixed (P := l.prog) (w := w) (base := base) T F_law_mixed (PySem.W.mg_of X G a15) c_law_draw
    have F_law_all : Fun KK.K "_law_all" "_law_all" s_law_all f16 _ := fun_mk (st := s_law_all) l16 c16 k16
    have c_law_all := ok_law_all (P := l.prog) (w := w) (base := base) T F_law_all (PySem.W.mg_of X G a16) 
    have F_law_fits : Fun KK.K "_law_fits" "_law_fits" s_law_fits f17 _ := fun_mk (st := s_law_fits) l17 c17 k17
    have c_law_fits := ok_law_fits (P := l.prog) (w := w) (base := base) T F_law_fits (PySem.W.mg_of X G a17) 
    have F_law_key : Fun KK.K "_law_key" "_law_key" s_law_key f18 _ := fun_mk (st := s_law_key) l18 c18 k18
    have c_law_key := ok_law_key (P := l.prog) (w := w) (base := base) T F_law_key (PySem.W.mg_of X G a18) c_law_draw
    have F_law_least : Fun KK.K "_law_least" "_law_least" s_law_least f19 _ := fun_mk (st := s_law_least) l19 c19 k19
    have c_law_least := ok_law_least (P := l.prog) (w := w) (base := base) T F_law_least (PySem.W.mg_of X G a19) 
    have F_law_let_in : Fun KK.K "_law_let_in" "_law_let_in" s_law_let_in f20 _ := fun_mk (st := s_law_let_in) l20 c20 k20
    have c_law_let_in := ok_law_let_in (P := l.prog) (w := w) (base := base) T F_law_let_in (PySem.W.mg_of X G a20) c_law_fits
    have F_law_wanted : Fun KK.K "_law_wanted" "_law_wanted" s_law_wanted f21 _ := fun_mk (st := s_law_wanted) l21 c21 k21
    have c_law_wanted := ok_law_wanted (P := l.prog) (w := w) (base := base) T F_law_wanted (PySem.W.mg_of X G a21) c_law_draw c_law_let_in c_law_least
    have F_law_stranger : Fun KK.K "_law_stranger" "_law_stranger" s_law_stranger f22 _ := fun_mk (st := s_law_stranger) l22 c22 k22
    have c_law_stranger := ok_law_stranger (P := l.prog) (w := w) (base := base) T F_law_stranger (PySem.W.mg_of X G a22) c_law_least c_law_let_in
    have F_law_bent : Fun KK.K "_law_bent" "_law_bent" s_law_bent f23 _ := fun_mk (st := s_law_bent) l23 c23 k23
    have c_law_bent := ok_law_bent (P := l.prog) (w := w) (base := base) T F_law_bent (PySem.W.mg_of X G a23) c_law_draw
    have F_law_planned : Fun KK.K "_law_planned" "_law_planned" s_law_planned f24 _ := fun_mk (st := s_law_planned) l24 c24 k24
    have c_law_planned := ok_law_planned (P := l.prog) (w := w) (base := base) T F_law_planned (PySem.W.mg_of X G a24) c_law_wanted c_law_stranger c_law_least c_law_bent c_strange_keys c_law_same c_law_let_in c_first_stranger c_can_plan c_is_plan
    have F_law_apart : Fun KK.K "_law_apart" "_law_apart" s_law_apart f25 _ := fun_mk (st := s_law_apart) l25 c25 k25
    have c_law_apart := ok_law_apart (P := l.prog) (w := w) (base := base) T F_law_apart (PySem.W.mg_of X G a25) 
    have F_law : Fun KK.K "law" "law" s_law fa _ := fun_mk (st := s_law) l26 c26 k26
    exact ok_law (P := l.prog) (w := w) (base := base) T F_law cL_law_pick c_law_digits c_law_pick c_law_all c_sum_keys c_law_same c_law_planned c_law_draw c_free_key c_can_plan c_most_keys c_first_stranger c_law_key c_law_mixed c_law_apart⟩
end Law
open PySem PySem.W PyProof.Rows in
set_option maxRecDepth 100000 in
set_option maxHeartbeats 0 in
theorem PySem.Challenge.cw_postlands_k63_whole_plans_of_keys_holds : PySem.Challenge.rw_postlands_k63_whole_plans_of_keys.Holds := by
  w_on; o_law; k_head; (case hw => w_witness2)
  k_fill
  refine L2.walk_of (l := PySem.Challenge.rw_postlands_k63_whole_plans_of_keys) (n := 63) (k := 14) (x := "script") (CX := fun _ => L2.CX0) (sp := fun w => @Mi.spN ⟨_⟩ Law.phi_law) rfl (by decide) rfl ⟨rfl, by decide, by decide⟩ (fun w h Y => PySem.W.kIn_of Y) ?F (fun w H a ns hl _ hS => Mi.law_sp ⟨_⟩ hS (Law.main ns hl)) (fun _ _ _ _ _ h => h)
  case F =>
    intro w mg fa h KX G hmg
    refine' Law.all_mk KX G hmg ?a1 ?l1 ?c1 ?k1 ?a2 ?l2 ?c2 ?k2 ?a3 ?l3 ?c3 ?k3 ?a4 ?l4 ?c4 ?k4 ?a5 ?l5 ?c5 ?k5 ?a6 ?l6 ?c6 ?k6 ?a7 ?l7 ?c7 ?k7 ?a8 ?l8 ?c8 ?k8 ?a9 ?l9 ?c9 ?k9 ?a10 ?l10 ?c10 ?k10 ?a11 ?l11 ?c11 ?k11 ?a12 ?l12 ?c12 ?k12 ?a13 ?l13 ?c13 ?k13 ?a14 ?l14 ?c14 ?k14 ?a15 ?l15 ?c15 ?k15 ?a16 ?l16 ?c16 ?k16 ?a17 ?l17 ?c17 ?k17 ?a18 ?l18 ?c18 ?k18 ?a19 ?l19 ?c19 ?k19 ?a20 ?l20 ?c20 ?k20 ?a21 ?l21 ?c21 ?k21 ?a22 ?l22 ?c22 ?k22 ?a23 ?l23 ?c23 ?k23 ?a24 ?l24 ?c24 ?k24 ?a25 ?l25 ?c25 ?k25 ?a26 ?l26 ?c26 ?k26 ?z_all ?z_bool ?z_enumerate ?z_int ?z_isinstance ?z_len ?z_list ?z_max ?z_range ?z_repr ?z_sorted ?z_str ?z_sum ?z_tuple ?z_zip
    (case a1 => k_is); (case l1 => k_is); (case c1 => k_is); (case k1 => k_is); (case a2 => k_is); (case l2 => k_is); (case c2 => k_is); (case k2 => k_is); (case a3 => k_is); (case l3 => k_is); (case c3 => k_is); (case k3 => k_is); (case a4 => k_is); (case l4 => k_is); (case c4 => k_is); (case k4 => k_is); (case a5 => k_is); (case l5 => k_is); (case c5 => k_is); (case k5 => k_is); (case a6 => k_is); (case l6 => k_is); (case c6 => k_is); (case k6 => k_is); (case a7 => k_is); (case l7 => k_is); (case c7 => k_is); (case k7 => k_is); (case a8 => k_is); (case l8 => k_is); (case c8 => k_is); (case k8 => k_is); (case a9 => k_is); (case l9 => k_is); (case c9 => k_is); (case k9 => k_is); (case a10 => k_is); (case l10 => k_is); (case c10 => k_is); (case k10 => k_is); (case a11 => k_is); (case l11 => k_is); (case c11 => k_is); (case k11 => k_is); (case a12 => k_is); (case l12 => k_is); (case c12 => k_is); (case k12 => k_is); (case a13 => k_is); (case l13 => k_is); (case c13 => k_is); (case k13 => k_is); (case a14 => k_is); (case l14 => k_is); (case c14 => k_is); (case k14 => k_is); (case a15 => k_is); (case l15 => k_is); (case c15 => k_is); (case k15 => k_is); (case a16 => k_is); (case l16 => k_is); (case c16 => k_is); (case k16 => k_is); (case a17 => k_is); (case l17 => k_is); (case c17 => k_is); (case k17 => k_is); (case a18 => k_is); (case l18 => k_is); (case c18 => k_is); (case k18 => k_is); (case a19 => k_is); (case l19 => k_is); (case c19 => k_is); (case k19 => k_is); (case a20 => k_is); (case l20 => k_is); (case c20 => k_is); (case k20 => k_is); (case a21 => k_is); (case l21 => k_is); (case c21 => k_is); (case k21 => k_is); (case a22 => k_is); (case l22 => k_is); (case c22 => k_is); (case k22 => k_is); (case a23 => k_is); (case l23 => k_is); (case c23 => k_is); (case k23 => k_is); (case a24 => k_is); (case l24 => k_is); (case c24 => k_is); (case k24 => k_is); (case a25 => k_is); (case l25 => k_is); (case c25 => k_is); (case k25 => k_is); (case a26 => k_is); (case l26 => k_is); (case c26 => k_is); (case k26 => k_is); (case z_all => k_is); (case z_bool => k_is); (case z_enumerate => k_is); (case z_int => k_is); (case z_isinstance => k_is); (case z_len => k_is); (case z_list => k_is); (case z_max => k_is); (case z_range => k_is); (case z_repr => k_is); (case z_sorted => k_is); (case z_str => k_is); (case z_sum => k_is); (case z_tuple => k_is); (case z_zip => k_is)
