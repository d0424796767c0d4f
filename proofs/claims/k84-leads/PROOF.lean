import PyProof.Rows.All
import Wide.All
import OpenK.AllK
import Wide.FinOn
import HandS.ForMost
import HandS.Wide
import HandS.Gcd
import HandS.IsInst
import HandS.TupLe
import HandS.TupAny
import HandS.NoneIn
import HandS.Style
import HandS.Deep
import HandS.Defaults
import HandS.HeadEnd
import HandS.HeadHook2
import HandS.Head2
import KE.SortData
import KE.DataCmp
import PyProof.Rows.InDataRows
import KE.GoesEnum
import KE.GoesMore
import KE.GoesZip
import HandS.Comp
import HandS.Iter
import HandS.List
import KE.KMathG
import Flt.RightSqrt
import HandS.Codes
import PyProof.Fits
import KE.KStateDown
import HandS.Words
import HandS.WordsExc
import HandS.HeadHook1
import HandS.Head3
import HandS.TupSets
import HandS.SetFor
import HandS.Conv
import HandS.Star
import KE.KRevSl
import PySem.Challenge.RW_linesruled_k84_whole_leads_as_swings
section
set_option Elab.async false
set_option linter.all false
set_option maxRecDepth 100000
set_option maxHeartbeats 4000000
/-! Se0: values without a heap, and how they stand in one. -/
namespace Se
open PySem PySem.Spec PyProof.Rows L2
abbrev D := PyData
abbrev Cs := List Int
abbrev M (α : Type) := Cs → Option (α × Cs)
inductive Slot where
  | no | sh (d : D) | ow (d : D) | cup
abbrev Ev := List Slot
inductive Arg where
  | dat (d : D) | cup
abbrev CF := Nat → List Arg → M D
abbrev SE := CF → Ev → M D
inductive Flow where
  | next (e : Ev) | ret (d : D)
abbrev SS := CF → Ev → M Flow
def M.ret {α : Type} (a : α) : M α := fun cs => some (a, cs)
def M.bnd {α β : Type} (m : M α) (f : α → M β) : M β := fun cs => match m cs with
  | some (a, c) => f a c
  | none => none
def M.of {α : Type} (o : Option α) : M α := fun cs => match o with
  | some a => some (a, cs)
  | none => none
theorem bnd_some {α β : Type} {m : M α} {f : α → M β} {cs : Cs} {r : β × Cs} (h : M.bnd m f cs = some r) : ∃ a c, m cs = some (a, c) ∧ f a c = some r := by
  unfold M.bnd at h
  split at h
  · rename_i a c e
    exact ⟨a, c, e, h⟩
  · cases h
theorem of_some {α : Type} {o : Option α} {cs : Cs} {r : α × Cs} (h : M.of o cs = some r) : ∃ a, o = some a ∧ r = (a, cs) := by
  unfold M.of at h
  split at h
  · rename_i a
    exact ⟨a, rfl, (Option.some.inj h).symm⟩
  · cases h
theorem ret_some {α : Type} {a : α} {cs : Cs} {r : α × Cs} (h : M.ret a cs = some r) : r = (a, cs) := (Option.some.inj h).symm

/-! ### heaps -/
def ZOk (H : Hp) (Z : List Addr) : Prop := ∀ a ∈ Z, Mut (H a)
def Later (H : Hp) (Z : List Addr) (H' : Hp) (Z' : List Addr) : Prop := (∀ a o, H a = some o → a ∉ Z → H' a = some o) ∧ ∀ a ∈ Z', a ∈ Z ∨ H a = none
def Keep (c : Addr) (H H' : Hp) : Prop := ∀ a o, H a = some o → a ≠ c → H' a = some o
def Cell (H : Hp) (c : Addr) (cs : Cs) : Prop := H c = some (.lst (cs.map V.int))
theorem Keep.refl {c : Addr} {H : Hp} : Keep c H H := fun _ _ h _ => h
theorem Keep.trans {c : Addr} {H H1 H2 : Hp} (a : Keep c H H1) (b : Keep c H1 H2) : Keep c H H2 := fun x o h n => b x o (a x o h n) n
theorem Keep.later {c : Addr} {H H' : Hp} {Z : List Addr} (k : Keep c H H') (h : c ∈ Z) : Later H Z H' Z :=
  ⟨fun a o e n => k a o e fun q => n (q ▸ h), fun a h => .inl h⟩
theorem Keep.upd {c : Addr} {H : Hp} {p : Addr} {o : HO} (h : H p = none) : Keep c H (upd H p o) := fun a u e _ => by
  rw [upd_ne (ne_of_none e h)]
  exact e
theorem Later.trans {H H1 H2 : Hp} {Z Z1 Z2 : List Addr} (a : Later H Z H1 Z1) (b : Later H1 Z1 H2 Z2) : Later H Z H2 Z2 := by
  refine ⟨fun x o h n => b.1 x o (a.1 x o h n) fun q => ?_, fun x q => ?_⟩
  · rcases a.2 x q with r | r
    · exact n r
    · rw [r] at h; cases h
  · rcases b.2 x q with r | r
    · exact a.2 x r
    · by_cases hx : x ∈ Z
      · exact .inl hx
      · refine .inr ?_
        cases e : H x with
        | none => rfl
        | some o => rw [a.1 x o e hx] at r; cases r
theorem Later.refl {H : Hp} {Z : List Addr} : Later H Z H Z := ⟨fun _ _ h _ => h, fun _ h => .inl h⟩
theorem ZOk.keep {c : Addr} {H H' : Hp} {Z : List Addr} {cs : Cs} (z : ZOk H Z) (k : Keep c H H') (hc : Cell H' c cs) : ZOk H' Z := fun a ha => by
  by_cases e : a = c
  · rw [e, hc]; trivial
  · have m := z a ha
    cases q : H a with
    | none => rw [q] at m; exact m.elim
    | some o => rw [k a o q e]; rw [q] at m; exact m

/-! ### values -/
theorem nz {H : Hp} {Z : List Addr} {a : Addr} {o : HO} (z : ZOk H Z) (h : H a = some o) (n : ¬ Mut (some o)) : a ∉ Z := fun q => n (by have m := z a q; rw [h] at m; exact m)
theorem SqT.later {K : PySem.W.Frag} {H H' : Hp} {Z Z' : List Addr} {a : Addr} {xs : List V} (z : ZOk H Z) (l : Later H Z H' Z') (h : SqT K H a xs) : SqT K H' a xs := by
  rcases h with (h | ⟨o, h⟩) | h
  · exact .inl (.inl (l.1 a _ h (nz z h fun q => q)))
  · exact .inl (.inr ⟨o, l.1 a _ h (nz z h fun q => q)⟩)
  · exact .inr h
mutual
inductive Dv (K : PySem.W.Frag) (H : Hp) (Z : List Addr) : V → D → Prop
  | non : Dv K H Z .non .none
  | bl (b : Bool) : Dv K H Z (.bl b) (.bool b)
  | int (i : Int) : Dv K H Z (.int i) (.int i)
  | str (x : Str) : Dv K H Z (.str x) (.str x)
  | lst {a : Addr} {xs : List V} {ds : List D} : H a = some (.lst xs) → a ∉ Z → DvA K H Z xs ds → Dv K H Z (.ref a) (.list ds)
  | tup {a : Addr} {xs : List V} {ds : List D} : SqT K H a xs → DvA K H Z xs ds → Dv K H Z (.ref a) (.tuple ds)
inductive DvA (K : PySem.W.Frag) (H : Hp) (Z : List Addr) : List V → List D → Prop
  | nil : DvA K H Z [] []
  | cons {v : V} {vs : List V} {d : D} {ds : List D} : Dv K H Z v d → DvA K H Z vs ds → DvA K H Z (v :: vs) (d :: ds)
end
section
variable {K : PySem.W.Frag} {H H' : Hp} {Z Z' : List Addr}
mutual
theorem Dv.later (z : ZOk H Z) (l : Later H Z H' Z') : ∀ (d : D) (v : V), Dv K H Z v d → Dv K H' Z' v d
  | .none, _, h => by cases h; exact .non
  | .bool b, _, h => by cases h; exact .bl b
  | .int i, _, h => by cases h; exact .int i
  | .str x, _, h => by cases h; exact .str x
  | .list ds, _, h => by
    cases h with
    | @lst a _ _ hs hn ha =>
      refine .lst (l.1 a _ hs hn) (fun q => ?_) (DvA.later z l ds _ ha)
      rcases l.2 a q with r | r
      · exact hn r
      · rw [r] at hs; cases hs
  | .tuple ds, _, h => by
    cases h with
    | tup hs ha => exact .tup (SqT.later z l hs) (DvA.later z l ds _ ha)
  | .dict _, _, h => by cases h
theorem DvA.later (z : ZOk H Z) (l : Later H Z H' Z') : ∀ (ds : List D) (vs : List V), DvA K H Z vs ds → DvA K H' Z' vs ds
  | [], _, h => by cases h; exact .nil
  | d :: ds, _, h => by
    cases h with
    | cons h1 h2 => exact .cons (Dv.later z l d _ h1) (DvA.later z l ds _ h2)
end
mutual
theorem Dv.dp : ∀ (d : D) (v : V), Dv K H Z v d → Dp K H v d
  | .none, _, h => by cases h; exact .non
  | .bool b, _, h => by cases h; exact .bl b
  | .int i, _, h => by cases h; exact .int i
  | .str x, _, h => by cases h; exact .str x
  | .list ds, _, h => by
    cases h with
    | lst hs hn ha => exact .lst (.inl (.inl hs)) (DvA.dp ds _ ha)
  | .tuple ds, _, h => by
    cases h with
    | tup hs ha => exact .tup hs (DvA.dp ds _ ha)
  | .dict _, _, h => by cases h
theorem DvA.dp : ∀ (ds : List D) (vs : List V), DvA K H Z vs ds → DpAll K H vs ds
  | [], _, h => by cases h; exact .nil
  | d :: ds, _, h => by
    cases h with
    | cons h1 h2 => exact .cons (Dv.dp d _ h1) (DvA.dp ds _ h2)
end
theorem DvA.length : ∀ {ds : List D} {vs : List V}, DvA K H Z vs ds → vs.length = ds.length
  | [], _, h => by cases h; rfl
  | d :: ds, _, h => by
    cases h with
    | cons h1 h2 => rw [List.length_cons, List.length_cons, h2.length]
theorem DvA.get : ∀ {ds : List D} {vs : List V} {i : Nat} {d : D}, DvA K H Z vs ds → ds[i]? = some d → ∃ v, vs[i]? = some v ∧ Dv K H Z v d
  | [], _, _, _, h, e => by simp at e
  | d :: ds, _, i, d', h, e => by
    cases h with
    | @cons v vs _ _ h1 h2 =>
      cases i with
      | zero =>
        simp at e
        subst e
        exact ⟨v, by simp, h1⟩
      | succ i =>
        obtain ⟨w, e2, r⟩ := h2.get (i := i) (d := d') (by simpa using e)
        exact ⟨w, by simpa using e2, r⟩
theorem DvA.append : ∀ {ds es : List D} {vs us : List V}, DvA K H Z vs ds → DvA K H Z us es → DvA K H Z (vs ++ us) (ds ++ es)
  | [], _, _, _, h, k => by cases h; exact k
  | d :: ds, _, _, _, h, k => by
    cases h with
    | cons h1 h2 => exact .cons h1 (h2.append k)
theorem DvA.take : ∀ {ds : List D} {vs : List V} (n : Nat), DvA K H Z vs ds → DvA K H Z (vs.take n) (ds.take n)
  | [], _, n, h => by cases h; simp; exact .nil
  | d :: ds, _, n, h => by
    cases h with
    | cons h1 h2 =>
      cases n with
      | zero => exact .nil
      | succ n => exact .cons h1 (h2.take n)
theorem DvA.drop : ∀ {ds : List D} {vs : List V} (n : Nat), DvA K H Z vs ds → DvA K H Z (vs.drop n) (ds.drop n)
  | [], _, n, h => by cases h; simp; exact .nil
  | d :: ds, _, n, h => by
    cases h with
    | cons h1 h2 =>
      cases n with
      | zero => exact .cons h1 h2
      | succ n => exact h2.drop n
theorem DvA.set : ∀ {ds : List D} {vs : List V} {v : V} {d : D} (n : Nat), DvA K H Z vs ds → Dv K H Z v d → DvA K H Z (vs.set n v) (ds.set n d)
  | [], _, _, _, n, h, k => by cases h; exact .nil
  | d :: ds, _, _, _, n, h, k => by
    cases h with
    | cons h1 h2 =>
      cases n with
      | zero => exact .cons k h2
      | succ n => exact .cons h1 (h2.set n k)
theorem DvA.reverse : ∀ {ds : List D} {vs : List V}, DvA K H Z vs ds → DvA K H Z vs.reverse ds.reverse
  | [], _, h => by cases h; exact .nil
  | d :: ds, _, h => by
    cases h with
    | cons h1 h2 =>
      rw [List.reverse_cons, List.reverse_cons]
      exact h2.reverse.append (.cons h1 .nil)
theorem DvA.ints : ∀ {ds : List D} {vs : List V} {ns : List Int}, DvA K H Z vs ds → ds = ns.map .int → vs = ns.map V.int
  | [], _, ns, h, e => by
    cases h
    cases ns with
    | nil => rfl
    | cons n ns => cases e
  | d :: ds, _, ns, h, e => by
    cases h with
    | cons h1 h2 =>
      cases ns with
      | nil => cases e
      | cons n ns =>
        have e1 : d = .int n := by injection e
        have e2 : ds = ns.map .int := by injection e
        subst e1
        cases h1
        rw [h2.ints e2]
        rfl
theorem DvA.of_ints (ns : List Int) : DvA K H Z (ns.map V.int) (ns.map PyData.int) := by
  induction ns with
  | nil => exact .nil
  | cons n ns ih => exact .cons (.int n) ih

/-! ### owned lists -/
def Ow (K : PySem.W.Frag) (H : Hp) (Z : List Addr) (a : Addr) (d : D) : Prop := ∃ xs ds, d = .list ds ∧ H a = some (.lst xs) ∧ DvA K H Z xs ds
/-- a value that is looked at -/
def DvP (K : PySem.W.Frag) (H : Hp) (Z : List Addr) (c : Addr) (v : V) (d : D) : Prop := Dv K H Z v d ∨ ∃ a, v = .ref a ∧ a ∈ Z ∧ a ≠ c ∧ Ow K H Z a d
theorem Ow.keep {c a : Addr} {d : D} {cs : Cs} (z : ZOk H Z) (k : Keep c H H') (hcz : c ∈ Z) (n : a ≠ c) (h : Ow K H Z a d) : Ow K H' Z a d := by
  obtain ⟨xs, ds, e, h1, h2⟩ := h
  exact ⟨xs, ds, e, k a _ h1 n, DvA.later z (k.later hcz) _ _ h2⟩
/-- the items of a list that is looked at -/
theorem DvP.list {c : Addr} {v : V} {ds : List D} (h : DvP K H Z c v (.list ds)) : ∃ a xs, v = .ref a ∧ H a = some (.lst xs) ∧ DvA K H Z xs ds := by
  rcases h with h | ⟨a, e, _, _, xs, ds', e2, h1, h2⟩
  · cases h with
    | lst hs hn ha => exact ⟨_, _, rfl, hs, ha⟩
  · cases e2
    exact ⟨a, xs, e, h1, h2⟩
theorem DvP.tuple {c : Addr} {v : V} {ds : List D} (h : DvP K H Z c v (.tuple ds)) : ∃ a xs, v = .ref a ∧ SqT K H a xs ∧ DvA K H Z xs ds := by
  rcases h with h | ⟨a, e, _, _, xs, ds', e2, h1, h2⟩
  · cases h with
    | tup hs ha => exact ⟨_, _, rfl, hs, ha⟩
  · cases e2
theorem DvP.int {c : Addr} {v : V} {i : Int} (h : DvP K H Z c v (.int i)) : v = .int i := by
  rcases h with h | ⟨a, e, _, _, xs, ds', e2, h1, h2⟩
  · cases h; rfl
  · cases e2
theorem DvP.bool {c : Addr} {v : V} {b : Bool} (h : DvP K H Z c v (.bool b)) : v = .bl b := by
  rcases h with h | ⟨a, e, _, _, xs, ds', e2, h1, h2⟩
  · cases h; rfl
  · cases e2
theorem DvP.dp {c : Addr} {v : V} {d : D} (h : DvP K H Z c v d) : Dp K H v d := by
  rcases h with h | ⟨a, e, _, _, xs, ds, e2, h1, h2⟩
  · exact Dv.dp d v h
  · subst e e2
    exact .lst (.inl (.inl h1)) (DvA.dp ds xs h2)
end
/-! ### slots -/
def RSlot (K : PySem.W.Frag) (H : Hp) (Z : List Addr) (c : Addr) (o : Option V) : Slot → Prop
  | .no => True
  | .sh d => ∃ v, o = some v ∧ Dv K H Z v d
  | .ow d => ∃ a, o = some (.ref a) ∧ a ∈ Z ∧ a ≠ c ∧ Ow K H Z a d
  | .cup => o = some (.ref c)
structure REnv (K : PySem.W.Frag) (H : Hp) (Z : List Addr) (c : Addr) (σ : L2.St) (env : Ev) : Prop where
  len : σ.length = env.length
  at_ : ∀ (i : Nat) (o : Option V) (s : Slot), σ[i]? = some o → env[i]? = some s → RSlot K H Z c o s
def RArg (K : PySem.W.Frag) (H : Hp) (Z : List Addr) (c : Addr) (v : V) : Arg → Prop
  | .dat d => Dv K H Z v d
  | .cup => v = .ref c
/-- where an expression begins -/
structure Pre (K : PySem.W.Frag) (c : Addr) (H : Hp) (Z : List Addr) (σ : L2.St) (env : Ev) (cs : Cs) : Prop where
  z : ZOk H Z
  cz : c ∈ Z
  cell : Cell H c cs
  env : REnv K H Z c σ env
section
variable {K : PySem.W.Frag} {H H' : Hp} {Z : List Addr} {c : Addr} {σ : L2.St} {env : Ev} {cs cs' : Cs} {v : V} {d : D}
theorem Pre.dv (p : Pre K c H Z σ env cs) (k : Keep c H H') (h : Dv K H Z v d) : Dv K H' Z v d := Dv.later p.z (k.later p.cz) d v h
theorem Pre.dva {vs : List V} {ds : List D} (p : Pre K c H Z σ env cs) (k : Keep c H H') (h : DvA K H Z vs ds) : DvA K H' Z vs ds := DvA.later p.z (k.later p.cz) ds vs h
theorem RSlot.keep {o : Option V} {s : Slot} (z : ZOk H Z) (cz : c ∈ Z) (k : Keep c H H') (h : RSlot K H Z c o s) : RSlot K H' Z c o s := by
  cases s with
  | no => trivial
  | sh d =>
    obtain ⟨v, e, r⟩ := h
    exact ⟨v, e, Dv.later z (k.later cz) d v r⟩
  | ow d =>
    obtain ⟨a, e, ha, n, r⟩ := h
    exact ⟨a, e, ha, n, r.keep (cs := []) z k cz n⟩
  | cup => exact h
theorem REnv.keep (z : ZOk H Z) (cz : c ∈ Z) (k : Keep c H H') (h : REnv K H Z c σ env) : REnv K H' Z c σ env :=
  ⟨h.len, fun i o s e1 e2 => (h.at_ i o s e1 e2).keep z cz k⟩
theorem Pre.step (p : Pre K c H Z σ env cs) (k : Keep c H H') (hc : Cell H' c cs') : Pre K c H' Z σ env cs' :=
  ⟨p.z.keep k hc, p.cz, hc, p.env.keep p.z p.cz k⟩
theorem Pre.dvp (p : Pre K c H Z σ env cs) (k : Keep c H H') (h : DvP K H Z c v d) : DvP K H' Z c v d := by
  rcases h with h | ⟨a, e, ha, n, h⟩
  · exact .inl (p.dv k h)
  · exact .inr ⟨a, e, ha, n, h.keep (cs := []) p.z k p.cz n⟩
end
end Se
end
section
set_option Elab.async false
set_option linter.all false
set_option maxRecDepth 100000
set_option maxHeartbeats 4000000
namespace Se
open PySem PySem.Spec PyProof.Rows L2
/-! ### lifted readings -/
abbrev Rel (β : Type) := Hp → List Addr → V → β → Prop
def lf {β : Type} (R : Rel β) (K : PySem.W.Frag) (c : Addr) (f : Ev → M β) : TE := fun σ H Q => ∃ Z env cs d cs', Pre K c H Z σ env cs ∧ f env cs = some (d, cs') ∧ ∀ v H', Keep c H H' → Cell H' c cs' → R H' Z v d → Q v H'
abbrev le (K : PySem.W.Frag) (c : Addr) (f : Ev → M D) : TE := lf (fun H Z => Dv K H Z) K c f
abbrev lp (K : PySem.W.Frag) (c : Addr) (f : Ev → M D) : TE := lf (fun H Z => DvP K H Z c) K c f
section
variable {X : Cx}
theorem pe_imp {e : Expr} {t u : TE} (h : PE X e t) (i : ∀ σ H Q, u σ H Q → t σ H Q) : PE X e u := ⟨fun pins s σ H Q I q => h.run pins s σ H Q I (i σ H Q q)⟩
theorem pt_imp {e : Expr} {t u : TT} (h : PT X e t) (i : ∀ σ H Q, u σ H Q → t σ H Q) : PT X e u := ⟨fun pins s σ H Q I q => h.run pins s σ H Q I (i σ H Q q)⟩
theorem pw_imp {e : Expr} {t u : TT} (h : PW X e t) (i : ∀ σ H Q, u σ H Q → t σ H Q) : PW X e u := ⟨fun wh pins s σ H Q I q => h.run wh pins s σ H Q I (i σ H Q q)⟩
theorem pa_imp {es : List Expr} {t u : TA} (h : PA X es t) (i : ∀ σ H Q, u σ H Q → t σ H Q) : PA X es u := ⟨fun pos pins s σ H Q I q => h.run pos pins s σ H Q I (i σ H Q q)⟩
theorem ps_imp {st : Stmt} {t u : TS} (h : PS X st t) (i : ∀ D σ H, u D σ H → t D σ H) : PS X st u := ⟨fun pins s σ H D I q => h.run pins s σ H D I (i D σ H q)⟩
theorem pss_imp {st : List Stmt} {t u : TS} (h : PSs X st t) (i : ∀ D σ H, u D σ H → t D σ H) : PSs X st u := ⟨fun pins s σ H D I q => h.run pins s σ H D I (i D σ H q)⟩
variable {c : Addr} {e a b : Expr} {pos : Pos} {cf : CF} {f fa fb : SE}
theorem PE.pk (h : PE X e (le X.K c (f cf))) : PE X e (lp X.K c (f cf)) := pe_imp h fun σ H Q ⟨Z, env, cs, d, cs', p, e, q⟩ => ⟨Z, env, cs, d, cs', p, e, fun v H' k ce r => q v H' k ce (.inl r)⟩

/-! ### names, constants -/
def mVar (i : Nat) : SE := fun _ env cs => match env[i]? with
  | some (.sh d) => some (d, cs)
  | _ => none
def mPk (i : Nat) : SE := fun _ env cs => match env[i]? with
  | some (.sh d) => some (d, cs)
  | some (.ow d) => some (d, cs)
  | _ => none
def mLit (d : D) : SE := fun _ _ cs => some (d, cs)
theorem lt_of_some {α : Type} {l : List α} {i : Nat} {x : α} (h : l[i]? = some x) : i < l.length := (List.getElem?_eq_some_iff.mp h).1
theorem REnv.get {K : PySem.W.Frag} {H : Hp} {Z : List Addr} {c : Addr} {σ : L2.St} {env : Ev} {i : Nat} {s : Slot} (h : REnv K H Z c σ env) (e : env[i]? = some s) : ∃ o, σ[i]? = some o ∧ RSlot K H Z c o s := by
  have l := lt_of_some e
  rw [← h.len] at l
  exact ⟨σ[i], List.getElem?_eq_getElem l, h.at_ i _ s (List.getElem?_eq_getElem l) e⟩
theorem e_var {i : Nat} {x : Str} (hN : X.N[i]? = some x) (hv : Vis X.env.scope x) (hd : (x == ("__debug__" : Str)) = false) (hcd : (x == ("__classdict__" : Str)) = false) : PE X (.Name x pos) (le X.K c (mVar i cf)) :=
  pe_imp (pe_var hN hv hd hcd) fun σ H Q ⟨Z, env, cs, d, cs', p, e, q⟩ => by
    unfold mVar at e
    split at e
    · rename_i d' e1
      cases e
      obtain ⟨o, e2, v, rfl, r⟩ := p.env.get e1
      exact ⟨v, e2, q v H .refl p.cell r⟩
    · cases e
theorem e_pk {i : Nat} {x : Str} (hN : X.N[i]? = some x) (hv : Vis X.env.scope x) (hd : (x == ("__debug__" : Str)) = false) (hcd : (x == ("__classdict__" : Str)) = false) : PE X (.Name x pos) (lp X.K c (mPk i cf)) :=
  pe_imp (pe_var hN hv hd hcd) fun σ H Q ⟨Z, env, cs, d, cs', p, e, q⟩ => by
    unfold mPk at e
    split at e
    · rename_i d' e1
      cases e
      obtain ⟨o, e2, v, rfl, r⟩ := p.env.get e1
      exact ⟨v, e2, q v H .refl p.cell (.inl r)⟩
    · rename_i d' e1
      cases e
      obtain ⟨o, e2, a, rfl, ha, n, r⟩ := p.env.get e1
      exact ⟨.ref a, e2, q _ H .refl p.cell (.inr ⟨a, rfl, ha, n, r⟩)⟩
    · cases e
/-- a cell -/
def mCupOk (i : Nat) (env : Ev) : Bool := match env[i]? with
  | some .cup => true
  | _ => false
theorem lit_of {d : D} {v : V} (h : PE X e (tC v)) (r : ∀ H Z, Dv X.K H Z v d) : PE X e (le X.K c (mLit d cf)) :=
  pe_imp h fun σ H Q ⟨Z, env, cs, d', cs', p, e, q⟩ => by
    cases e
    exact q v H .refl p.cell (r H Z)
theorem e_int {i : Int} {j : Nat} : PE X (.Constant (.int i) j pos) (le X.K c (mLit (.int i) cf)) := lit_of pe_int fun _ _ => .int i
theorem e_bl {i : Bool} {j : Nat} : PE X (.Constant (.bool i) j pos) (le X.K c (mLit (.bool i) cf)) := lit_of pe_bl fun _ _ => .bl i
theorem e_non {j : Nat} : PE X (.Constant .none j pos) (le X.K c (mLit .none cf)) := lit_of pe_non fun _ _ => .non
theorem e_str {x : Str} {j : Nat} : PE X (.Constant (.str x) j pos) (le X.K c (mLit (.str x) cf)) := lit_of pe_str fun _ _ => .str x
theorem e_glob {x : Str} {v : V} {u : Value} {d : D} (hg : Gl X x) (hm : X.mg x = some u) (r : RelV v u) (hd : (x == ("__debug__" : Str)) = false) (rd : ∀ H Z, Dv X.K H Z v d) : PE X (.Name x pos) (le X.K c (mLit d cf)) :=
  lit_of (pe_glob hg hm r hd) rd

/-! ### operators -/
/-- what an operation by values is: g -/
def rD (K : PySem.W.Frag) (c : Addr) (g : D → D → Option D) : R2 := fun x y H Q => ∃ Z d e z, ZOk H Z ∧ c ∈ Z ∧ DvP K H Z c x d ∧ DvP K H Z c y e ∧ g d e = some z ∧ ∀ v H', Keep c H H' → H' c = H c → Dv K H' Z v z → Q v H'
def mBin (g : D → D → Option D) (fa fb : SE) : SE := fun cf env => M.bnd (fa cf env) fun x => M.bnd (fb cf env) fun y => M.of (g x y)
theorem op2 {r : R2} {g : D → D → Option D} (hr : ∀ x y H Q, rD X.K c g x y H Q → r x y H Q) {σ : L2.St} {H : Hp} {Q : VK} (h : le X.K c (mBin g fa fb cf) σ H Q) : tOp r (lp X.K c (fa cf)) (lp X.K c (fb cf)) σ H Q := by
  obtain ⟨Z, env, cs, z, cs', p, e, q⟩ := h
  obtain ⟨x, c1, e1, e⟩ := bnd_some e
  obtain ⟨y, c2, e2, e⟩ := bnd_some e
  obtain ⟨z', ez, e3⟩ := of_some e
  cases e3
  refine ⟨Z, env, cs, x, c1, p, e1, fun v H1 k1 ce1 r1 => ?_⟩
  have p1 := p.step k1 ce1
  refine ⟨Z, env, c1, y, cs', p1, e2, fun u H2 k2 ce2 r2 => ?_⟩
  have p2 := p1.step k2 ce2
  refine hr v u H2 Q ⟨Z, x, y, z, p2.z, p2.cz, p1.dvp k2 r1, r2, ez, fun w H3 k3 e3 r3 => ?_⟩
  exact q w H3 ((k1.trans k2).trans k3) (e3.trans p2.cell) r3
theorem e_bin {op : Operator} {g : D → D → Option D} (ho : OpR X (binaryOp op) (rD X.K c g)) (ha : PE X a (lp X.K c (fa cf))) (hb : PE X b (lp X.K c (fb cf))) : PE X (.BinOp a op b pos) (le X.K c (mBin g fa fb cf)) :=
  pe_imp (pe_op ho ha hb) fun σ H Q h => op2 (fun _ _ _ _ q => q) h
theorem e_cmp {op : CmpOp} {g : D → D → Option D} (ho : OpR X (compareOp op) (rD X.K c g)) (ha : PE X a (lp X.K c (fa cf))) (hb : PE X b (lp X.K c (fb cf))) (hm : behindInMarks op b = false) : PE X (.Compare a [op] [b] pos) (le X.K c (mBin g fa fb cf)) :=
  pe_imp (pe_cmpR ho ha hb hm) fun σ H Q h => op2 (fun _ _ _ _ q => q) h
/-! a test: the value must be a truth value -/
def lt (K : PySem.W.Frag) (c : Addr) (f : Ev → M D) : TT := fun σ H Q => ∃ Z env cs k cs', Pre K c H Z σ env cs ∧ f env cs = some (.bool k, cs') ∧ ∀ H', Keep c H H' → Cell H' c cs' → Q k H'
theorem tst {t : TE} {f : Ev → M D} (i : ∀ σ H Q, le X.K c f σ H Q → t σ H Q) {σ : L2.St} {H : Hp} {Q : Bool → Hp → Prop} (h : lt X.K c f σ H Q) : tB t σ H Q := by
  obtain ⟨Z, env, cs, k, cs', p, e, q⟩ := h
  refine i _ _ _ ⟨Z, env, cs, _, cs', p, e, fun v H' kp ce r => ?_⟩
  cases r
  exact ⟨k, rfl, q H' kp ce⟩
theorem t_val (h : PE X e (le X.K c (f cf))) (he : ∀ whole, isTrue e X.env whole = (do let v ← whole; standAt e.pos; holding [v] (truthy v))) : PT X e (lt X.K c (f cf)) :=
  pt_imp (pt_val h he) fun σ H Q q => tst (fun _ _ _ z => z) q
theorem t_cmp {op : CmpOp} {g : D → D → Option D} (ho : OpR X (compareOp op) (rD X.K c g)) (ha : PE X a (lp X.K c (fa cf))) (hb : PE X b (lp X.K c (fb cf))) (hm : behindInMarks op b = false) : PT X (.Compare a [op] [b] pos) (lt X.K c (mBin g fa fb cf)) :=
  pt_imp (pt_cmpR ho ha hb hm) fun σ H Q q => tst (fun _ _ _ h => op2 (fun _ _ _ _ q => q) h) q
/-! chains -/
def mChain (g g' : D → D → Option D) (fa fb fc : SE) : SE := fun cf env => M.bnd (fa cf env) fun x => M.bnd (fb cf env) fun y => M.bnd (M.of (g x y)) fun z => match z with
  | .bool true => M.bnd (fc cf env) fun w => M.of (g' y w)
  | .bool false => M.ret (.bool false)
  | _ => M.of none
end
end Se
end
section
set_option Elab.async false
set_option linter.all false
set_option maxRecDepth 100000
set_option maxHeartbeats 4000000
namespace Se
open PySem PySem.Spec PyProof.Rows L2
section
variable {X : Cx} {c : Addr} {e a b d : Expr} {es rest : List Expr} {pos : Pos} {cf : CF} {f fa fb fc : SE}
/-! ### chains -/
theorem e_chain {op op' : CmpOp} {g g' : D → D → Option D} (ho : OpR X (compareOp op) (rD X.K c g)) (ho' : OpR X (compareOp op') (rD X.K c g')) (ha : PE X a (lp X.K c (fa cf))) (hb : PE X b (lp X.K c (fb cf))) (hc : PE X d (lp X.K c (fc cf)))
    (hm : lastMarks [op, op'] [b, d] = false) : PE X (.Compare a [op, op'] [b, d] pos) (le X.K c (mChain g g' fa fb fc cf)) ∧ PT X (.Compare a [op, op'] [b, d] pos) (lt X.K c (mChain g g' fa fb fc cf)) := by
  have key : ∀ σ H Q, le X.K c (mChain g g' fa fb fc cf) σ H Q → tChain (rD X.K c g) (rD X.K c g') (lp X.K c (fa cf)) (lp X.K c (fb cf)) (lp X.K c (fc cf)) σ H Q := by
    rintro σ H Q ⟨Z, env, cs, z, cs', p, e, q⟩
    obtain ⟨x, c1, e1, e⟩ := bnd_some e
    obtain ⟨y, c2, e2, e⟩ := bnd_some e
    obtain ⟨z1, c3, e3, e⟩ := bnd_some e
    obtain ⟨z2, ez, e4⟩ := of_some e3
    cases e4
    refine ⟨Z, env, cs, x, c1, p, e1, fun v H1 k1 ce1 r1 => ?_⟩
    have p1 := p.step k1 ce1
    refine ⟨Z, env, c1, y, c2, p1, e2, fun u H2 k2 ce2 r2 => ?_⟩
    have p2 := p1.step k2 ce2
    refine ⟨Z, x, y, z1, p2.z, p2.cz, p1.dvp k2 r1, r2, ez, fun w H3 k3 ec3 r3 => ?_⟩
    have p3 : Pre X.K c H3 Z σ env c2 := p2.step k3 (ec3.trans p2.cell)
    cases z1 with
    | bool k =>
      cases r3
      refine ⟨k, rfl, ?_⟩
      cases k with
      | true =>
        rw [if_pos rfl]
        obtain ⟨w', c4, e5, e⟩ := bnd_some e
        obtain ⟨z3, ez3, e6⟩ := of_some e
        cases e6
        refine ⟨Z, env, c2, w', cs', p3, e5, fun v4 H4 k4 ce4 r4 => ?_⟩
        have p4 := p3.step k4 ce4
        refine ⟨Z, y, w', z, p4.z, p4.cz, p3.dvp k4 (p2.dvp k3 r2), r4, ez3, fun v5 H5 k5 ec5 r5 => ?_⟩
        exact q v5 H5 ((((k1.trans k2).trans k3).trans k4).trans k5) (ec5.trans p4.cell) r5
      | false =>
        rw [if_neg Bool.false_ne_true]
        cases ret_some e
        exact q _ H3 ((k1.trans k2).trans k3) p3.cell (.bl false)
    | _ => cases e
  exact ⟨pe_imp (pe_chain ho ho' ha hb hc hm) key, pt_imp (pt_chain ho ho' ha hb hc hm) fun σ H Q q => tst key q⟩

/-! ### and, or, not, if .. else -/
def mAnd (fa fb : SE) : SE := fun cf env => M.bnd (fa cf env) fun x => match x with
  | .bool true => fb cf env
  | .bool false => M.ret (.bool false)
  | _ => M.of none
def mOr (fa fb : SE) : SE := fun cf env => M.bnd (fa cf env) fun x => match x with
  | .bool true => M.ret (.bool true)
  | .bool false => fb cf env
  | _ => M.of none
def mNot (fa : SE) : SE := fun cf env => M.bnd (fa cf env) fun x => match x with
  | .bool k => M.ret (.bool !k)
  | _ => M.of none
def mIf (fc fa fb : SE) : SE := fun cf env => M.bnd (fc cf env) fun x => match x with
  | .bool true => fa cf env
  | .bool false => fb cf env
  | _ => M.of none
theorem bnd_bool {β : Type} {m : M D} {k : Bool → M β} {g : D → M β} {cs : Cs} {r : β × Cs} (hg : ∀ x, g x = match x with | .bool b => k b | _ => M.of none) (h : M.bnd m g cs = some r) : ∃ b c', m cs = some (.bool b, c') ∧ k b c' = some r := by
  obtain ⟨x, c', e, h⟩ := bnd_some h
  rw [hg] at h
  cases x with
  | bool b => exact ⟨b, c', e, h⟩
  | _ => cases h
theorem and_some {cf : CF} {env : Ev} {cs : Cs} {r : D × Cs} (h : mAnd fa fb cf env cs = some r) : ∃ k c1, fa cf env cs = some (.bool k, c1) ∧ (if k = true then fb cf env c1 = some r else r = (.bool false, c1)) := by
  obtain ⟨x, c1, e1, h⟩ := bnd_some h
  cases x with
  | bool k =>
    refine ⟨k, c1, e1, ?_⟩
    cases k with
    | true => exact h
    | false => exact ret_some h
  | _ => cases h
theorem or_some {cf : CF} {env : Ev} {cs : Cs} {r : D × Cs} (h : mOr fa fb cf env cs = some r) : ∃ k c1, fa cf env cs = some (.bool k, c1) ∧ (if k = true then r = (.bool true, c1) else fb cf env c1 = some r) := by
  obtain ⟨x, c1, e1, h⟩ := bnd_some h
  cases x with
  | bool k =>
    refine ⟨k, c1, e1, ?_⟩
    cases k with
    | true => exact ret_some h
    | false => exact h
  | _ => cases h
theorem not_some {cf : CF} {env : Ev} {cs : Cs} {r : D × Cs} (h : mNot fa cf env cs = some r) : ∃ k c1, fa cf env cs = some (.bool k, c1) ∧ r = (.bool !k, c1) := by
  obtain ⟨x, c1, e1, h⟩ := bnd_some h
  cases x with
  | bool k => exact ⟨k, c1, e1, ret_some h⟩
  | _ => cases h
theorem if_some {cf : CF} {env : Ev} {cs : Cs} {r : D × Cs} (h : mIf fc fa fb cf env cs = some r) : ∃ k c1, fc cf env cs = some (.bool k, c1) ∧ (if k = true then fa cf env c1 = some r else fb cf env c1 = some r) := by
  obtain ⟨x, c1, e1, h⟩ := bnd_some h
  cases x with
  | bool k =>
    refine ⟨k, c1, e1, ?_⟩
    cases k with
    | true => exact h
    | false => exact h
  | _ => cases h
theorem e_and (ha : PE X a (le X.K c (fa cf))) (hb : PE X (.BoolOp .And (b :: rest) pos) (le X.K c (fb cf))) : PE X (.BoolOp .And (a :: b :: rest) pos) (le X.K c (mAnd fa fb cf)) :=
  pe_imp (pe_and ha hb) fun σ H Q ⟨Z, env, cs, z, cs', p, e, q⟩ => by
    obtain ⟨k, c1, e1, e⟩ := and_some e
    refine ⟨Z, env, cs, _, c1, p, e1, fun v H1 k1 ce1 r1 => ?_⟩
    cases r1
    refine ⟨k, rfl, ?_⟩
    cases k with
    | true => exact ⟨Z, env, c1, z, cs', p.step k1 ce1, e, fun v H2 k2 ce2 r2 => q v H2 (k1.trans k2) ce2 r2⟩
    | false => cases e; exact q _ H1 k1 ce1 (.bl false)
theorem e_or (ha : PE X a (le X.K c (fa cf))) (hb : PE X (.BoolOp .Or (b :: rest) pos) (le X.K c (fb cf))) : PE X (.BoolOp .Or (a :: b :: rest) pos) (le X.K c (mOr fa fb cf)) :=
  pe_imp (pe_or ha hb) fun σ H Q ⟨Z, env, cs, z, cs', p, e, q⟩ => by
    obtain ⟨k, c1, e1, e⟩ := or_some e
    refine ⟨Z, env, cs, _, c1, p, e1, fun v H1 k1 ce1 r1 => ?_⟩
    cases r1
    refine ⟨k, rfl, ?_⟩
    cases k with
    | true => cases e; exact q _ H1 k1 ce1 (.bl true)
    | false => exact ⟨Z, env, c1, z, cs', p.step k1 ce1, e, fun v H2 k2 ce2 r2 => q v H2 (k1.trans k2) ce2 r2⟩
theorem e_not (ha : PE X a (le X.K c (fa cf))) : PE X (.UnaryOp .Not a pos) (le X.K c (mNot fa cf)) :=
  pe_imp (pe_not ha) fun σ H Q ⟨Z, env, cs, z, cs', p, e, q⟩ => by
    obtain ⟨k, c1, e1, e⟩ := not_some e
    cases e
    refine ⟨Z, env, cs, _, _, p, e1, fun v H1 k1 ce1 r1 => ?_⟩
    cases r1
    exact ⟨k, rfl, q _ H1 k1 ce1 (.bl _)⟩
theorem e_if (hc : PT X d (lt X.K c (fc cf))) (ha : PE X a (le X.K c (fa cf))) (hb : PE X b (le X.K c (fb cf))) : PE X (.IfExp d a b pos) (le X.K c (mIf fc fa fb cf)) :=
  pe_imp (pe_ifExp hc ha hb) fun σ H Q ⟨Z, env, cs, z, cs', p, e, q⟩ => by
    obtain ⟨k, c1, e1, e⟩ := if_some e
    refine ⟨Z, env, cs, k, c1, p, e1, fun H1 k1 ce1 => ?_⟩
    cases k with
    | true => exact ⟨Z, env, c1, z, cs', p.step k1 ce1, e, fun v H2 k2 ce2 r2 => q v H2 (k1.trans k2) ce2 r2⟩
    | false => exact ⟨Z, env, c1, z, cs', p.step k1 ce1, e, fun v H2 k2 ce2 r2 => q v H2 (k1.trans k2) ce2 r2⟩
theorem t_and (ha : PT X a (lt X.K c (fa cf))) (hb : PW X (.BoolOp .And (b :: rest) pos) (lt X.K c (fb cf))) : PW X (.BoolOp .And (a :: b :: rest) pos) (lt X.K c (mAnd fa fb cf)) :=
  pw_imp (pw_and ha hb) fun σ H Q ⟨Z, env, cs, z, cs', p, e, q⟩ => by
    obtain ⟨k, c1, e1, e⟩ := and_some e
    refine ⟨Z, env, cs, k, c1, p, e1, fun H1 k1 ce1 => ?_⟩
    cases k with
    | true => exact ⟨Z, env, c1, z, cs', p.step k1 ce1, e, fun H2 k2 ce2 => q H2 (k1.trans k2) ce2⟩
    | false => cases e; exact q H1 k1 ce1
theorem t_or (ha : PT X a (lt X.K c (fa cf))) (hb : PW X (.BoolOp .Or (b :: rest) pos) (lt X.K c (fb cf))) : PW X (.BoolOp .Or (a :: b :: rest) pos) (lt X.K c (mOr fa fb cf)) :=
  pw_imp (pw_or ha hb) fun σ H Q ⟨Z, env, cs, z, cs', p, e, q⟩ => by
    obtain ⟨k, c1, e1, e⟩ := or_some e
    refine ⟨Z, env, cs, k, c1, p, e1, fun H1 k1 ce1 => ?_⟩
    cases k with
    | true => cases e; exact q H1 k1 ce1
    | false => exact ⟨Z, env, c1, z, cs', p.step k1 ce1, e, fun H2 k2 ce2 => q H2 (k1.trans k2) ce2⟩
theorem t_not (ha : PT X a (lt X.K c (fa cf))) : PT X (.UnaryOp .Not a pos) (lt X.K c (mNot fa cf)) :=
  pt_imp (pt_not ha) fun σ H Q ⟨Z, env, cs, z, cs', p, e, q⟩ => by
    obtain ⟨k, c1, e1, e⟩ := not_some e
    cases e
    exact ⟨Z, env, cs, k, _, p, e1, fun H1 k1 ce1 => q H1 k1 ce1⟩

/-! ### argument lists, displays -/
def lA {β : Type} (R : Rel β) (K : PySem.W.Frag) (c : Addr) (f : Ev → M (List β)) : TA := fun σ H Q => ∃ Z env cs ds cs', Pre K c H Z σ env cs ∧ f env cs = some (ds, cs') ∧ ∀ vs H', Keep c H H' → Cell H' c cs' → Paired (R H' Z) vs ds → Q vs H'
abbrev SA (β : Type) := CF → Ev → M (List β)
def mNil {β : Type} : SA β := fun _ _ => M.ret []
def mCons {β : Type} (fa : CF → Ev → M β) (fr : SA β) : SA β := fun cf env => M.bnd (fa cf env) fun x => M.bnd (fr cf env) fun xs => M.ret (x :: xs)
/-- what is known of a value stays -/
def Stays {β : Type} (R : Rel β) (K : PySem.W.Frag) (c : Addr) : Prop := ∀ (H H' : Hp) (Z : List Addr) (v : V) (b : β), ZOk H Z → c ∈ Z → Keep c H H' → R H Z v b → R H' Z v b
theorem stays_dv {K : PySem.W.Frag} {c : Addr} : Stays (fun H Z => Dv K H Z) K c := fun H H' Z v b z cz k r => Dv.later z (k.later cz) b v r
theorem stays_dvp {K : PySem.W.Frag} {c : Addr} : Stays (fun H Z => DvP K H Z c) K c := fun H H' Z v b z cz k r => by
  rcases r with h | ⟨a, e, ha, n, h⟩
  · exact .inl (Dv.later z (k.later cz) b v h)
  · exact .inr ⟨a, e, ha, n, h.keep (cs := []) z k cz n⟩
theorem stays_arg {K : PySem.W.Frag} {c : Addr} : Stays (fun H Z => RArg K H Z c) K c := fun H H' Z v b z cz k r => by
  cases b with
  | dat d => exact Dv.later z (k.later cz) d v r
  | cup => exact r
theorem a_nil {β : Type} {R : Rel β} : PA X [] (lA R X.K c ((mNil : SA β) cf)) := pa_imp pa_nil fun σ H Q ⟨Z, env, cs, ds, cs', p, e, q⟩ => by
  cases ret_some e
  exact q [] H .refl p.cell .nil
theorem a_cons {β : Type} {R : Rel β} {fa : CF → Ev → M β} {fr : SA β} (st : Stays R X.K c) (ha : PE X e (lf R X.K c (fa cf))) (hr : PA X es (lA R X.K c (fr cf))) (hs : starEach (e :: es) X.env = (false, eval e X.env) :: starEach es X.env) :
    PA X (e :: es) (lA R X.K c (mCons fa fr cf)) := pa_imp (pa_cons ha hr hs) fun σ H Q ⟨Z, env, cs, ds, cs', p, e, q⟩ => by
  obtain ⟨x, c1, e1, e⟩ := bnd_some e
  obtain ⟨xs, c2, e2, e⟩ := bnd_some e
  cases ret_some e
  refine ⟨Z, env, cs, x, c1, p, e1, fun v H1 k1 ce1 r1 => ?_⟩
  have p1 := p.step k1 ce1
  exact ⟨Z, env, c1, xs, _, p1, e2, fun vs H2 k2 ce2 r2 => q (v :: vs) H2 (k1.trans k2) ce2 (.cons (st _ _ _ _ _ p1.z p1.cz k2 r1) r2)⟩
theorem paired_dva {K : PySem.W.Frag} {H : Hp} {Z : List Addr} : ∀ {vs : List V} {ds : List D}, Paired (Dv K H Z) vs ds → DvA K H Z vs ds
  | _, _, .nil => .nil
  | _, _, .cons r t => .cons r (paired_dva t)
/-- data and the cup -/
def aDat (fa : SE) : CF → Ev → M Arg := fun cf env => M.bnd (fa cf env) fun x => M.ret (.dat x)
def aCup (i : Nat) : CF → Ev → M Arg := fun _ env cs => match env[i]? with
  | some .cup => some (.cup, cs)
  | _ => none
theorem e_adat (h : PE X e (le X.K c (fa cf))) : PE X e (lf (fun H Z => RArg X.K H Z c) X.K c (aDat fa cf)) := pe_imp h fun σ H Q ⟨Z, env, cs, z, cs', p, e, q⟩ => by
  obtain ⟨x, c1, e1, e⟩ := bnd_some e
  cases ret_some e
  exact ⟨Z, env, cs, x, _, p, e1, fun v H1 k1 ce1 r1 => q v H1 k1 ce1 r1⟩
theorem e_acup {i : Nat} {x : Str} (hN : X.N[i]? = some x) (hv : Vis X.env.scope x) (hd : (x == ("__debug__" : Str)) = false) (hcd : (x == ("__classdict__" : Str)) = false) : PE X (.Name x pos) (lf (fun H Z => RArg X.K H Z c) X.K c (aCup i cf)) :=
  pe_imp (pe_var hN hv hd hcd) fun σ H Q ⟨Z, env, cs, z, cs', p, e, q⟩ => by
    unfold aCup at e
    split at e
    · rename_i e1
      cases e
      obtain ⟨o, e2, r⟩ := p.env.get e1
      have r' : o = some (.ref c) := r
      subst r'
      exact ⟨.ref c, e2, q _ H .refl p.cell rfl⟩
    · cases e
def mTup (fs : SA D) : SE := fun cf env => M.bnd (fs cf env) fun ds => M.ret (.tuple ds)
def mLst (fs : SA D) : SE := fun cf env => M.bnd (fs cf env) fun ds => M.ret (.list ds)
def Short (fs : Ev → M (List D)) : Prop := ∀ env cs ds cs', fs env cs = some (ds, cs') → ds.length ≤ sizeLine
theorem upd_cell {H : Hp} {c p : Addr} {o : HO} {cs : Cs} (hc : Cell H c cs) (hp : H p = none) : (upd H p o) c = H c := upd_ne (ne_of_none hc hp)
theorem fresh_z {H : Hp} {Z : List Addr} {p : Addr} (z : ZOk H Z) (hp : H p = none) : p ∉ Z := fun q => by
  have m := z p q
  rw [hp] at m
  exact m
theorem e_tup {fs : SA D} {k : Nat} (h : PA X es (lA (fun H Z => Dv X.K H Z) X.K c (fs cf))) (hs : Short (fs cf)) : PE X (.Tuple es k pos) (le X.K c (mTup fs cf)) := pe_imp (pe_tup h) fun σ H Q ⟨Z, env, cs, z, cs', p, e, q⟩ => by
  obtain ⟨ds, c1, e1, e⟩ := bnd_some e
  cases ret_some e
  refine ⟨Z, env, cs, ds, _, p, e1, fun vs H1 k1 ce1 r1 => ⟨?_, fun t ht => ?_⟩⟩
  · rw [(paired_dva r1).length]
    exact hs _ _ _ _ e1
  · have kt : Keep c H1 (upd H1 t (.tup vs)) := .upd ht
    have p1 := p.step k1 ce1
    exact q _ _ (k1.trans kt) ((upd_cell ce1 ht).trans ce1) (.tup (SqT.of upd_same) (p1.dva kt (paired_dva r1)))
theorem e_lst {fs : SA D} (h : PA X es (lA (fun H Z => Dv X.K H Z) X.K c (fs cf))) (hs : Short (fs cf)) : PE X (.List es pos) (le X.K c (mLst fs cf)) := pe_imp (pe_lst h) fun σ H Q ⟨Z, env, cs, z, cs', p, e, q⟩ => by
  obtain ⟨ds, c1, e1, e⟩ := bnd_some e
  cases ret_some e
  refine ⟨Z, env, cs, ds, _, p, e1, fun vs H1 k1 ce1 r1 => ⟨?_, fun t ht => ?_⟩⟩
  · rw [(paired_dva r1).length]
    exact hs _ _ _ _ e1
  · have kt : Keep c H1 (upd H1 t (.lst vs)) := .upd ht
    have p1 := p.step k1 ce1
    exact q _ _ (k1.trans kt) ((upd_cell ce1 ht).trans ce1) (.lst upd_same (fresh_z p1.z ht) (p1.dva kt (paired_dva r1)))

/-! ### calls -/
/-- a def's promise: it does what run does -/
def spD (K : PySem.W.Frag) (run : List Arg → M D) : Sp := fun vs H Q _ => ∃ Z c cs args d cs', ZOk H Z ∧ c ∈ Z ∧ Cell H c cs ∧ Paired (RArg K H Z c) vs args ∧ run args cs = some (d, cs') ∧ ∀ v H', Keep c H H' → Cell H' c cs' → Dv K H' Z v d → Q v H'
def mCall (i : Nat) (fs : SA Arg) : SE := fun cf env => M.bnd (fs cf env) fun as => cf i as
theorem call_pre {i : Nat} {fs : SA Arg} {σ : L2.St} {H : Hp} {Q : VK} (h : le X.K c (mCall i fs cf) σ H Q) : tCall (spD X.K (cf i)) [] E0 (lA (fun H Z => RArg X.K H Z c) X.K c (fs cf)) σ H Q := by
  obtain ⟨Z, env, cs, z, cs', p, e, q⟩ := h
  obtain ⟨as, c1, e1, e⟩ := bnd_some e
  refine ⟨Z, env, cs, as, c1, p, e1, fun vs H1 k1 ce1 r1 => ?_⟩
  have p1 := p.step k1 ce1
  show spD X.K (cf i) (vs ++ []) H1 Q E0
  rw [List.append_nil]
  exact ⟨Z, c, c1, as, z, cs', p1.z, p1.cz, ce1, r1, e, fun v H' k ce r => q v H' (k1.trans k) ce r⟩
theorem e_call {i k : Nat} {fs : SA Arg} {x : Str} {p : Pos} {fAd : Addr} {fd : FuncData} {ps : List Str} (F : FnOk X.prog X.w X.K X.mg X.base CX0 k fAd fd ps (spD X.K (cf i))) (hr : Room k X.A) (hg : Gl X x) (hm : X.mg x = some (.ref fAd)) (hk : PySem.W.keepIn X.K (.ref fAd) = true) (hb : Binds X.K fd ps [])
    (ha : PA X (e :: es) (lA (fun H Z => RArg X.K H Z c) X.K c (fs cf))) (hdb : (x == ("__debug__" : Str)) = false) (he : starEach (e :: es) X.env = (false, eval e X.env) :: starEach es X.env) (hpl : (backTo pos (starEach es X.env)).any (·.1) = false) :
    PE X (.Call (.Name x p) (e :: es) [] pos) (le X.K c (mCall i fs cf)) :=
  pe_imp (pe_call F hr hg hm hk hb .nil pass0 ha hdb he hpl) fun _ _ _ h => call_pre h
theorem e_call0 {i k : Nat} {x : Str} {p : Pos} {fAd : Addr} {fd : FuncData} {ps : List Str} (F : FnOk X.prog X.w X.K X.mg X.base CX0 k fAd fd ps (spD X.K (cf i))) (hr : Room k X.A) (hg : Gl X x) (hm : X.mg x = some (.ref fAd)) (hk : PySem.W.keepIn X.K (.ref fAd) = true) (hb : Binds X.K fd ps [])
    (hdb : (x == ("__debug__" : Str)) = false) : PE X (.Call (.Name x p) [] [] pos) (le X.K c (mCall i mNil cf)) :=
  pe_imp (pe_call0 F hr hg hm hk hb .nil pass0 hdb) fun σ H Q h => by
    obtain ⟨Z, env, cs, z, cs', p, e, q⟩ := h
    obtain ⟨as, c1, e1, e⟩ := bnd_some e
    cases ret_some e1
    exact ⟨Z, c, _, [], z, cs', p.z, p.cz, p.cell, .nil, e, q⟩
/-- what a built-in's call is, by values -/
def rA (K : PySem.W.Frag) (c : Addr) (g : List D → Option D) : List V → Hp → VK → Prop := fun vs H Q => ∃ Z ds z, ZOk H Z ∧ c ∈ Z ∧ Paired (DvP K H Z c) vs ds ∧ g ds = some z ∧ ∀ v H', Keep c H H' → H' c = H c → Dv K H' Z v z → Q v H'
def mBI (g : List D → Option D) (fs : SA D) : SE := fun cf env => M.bnd (fs cf env) fun ds => M.of (g ds)
theorem bi_pre {g : List D → Option D} {fs : SA D} {σ : L2.St} {H : Hp} {Q : VK} (h : le X.K c (mBI g fs cf) σ H Q) : tCB (rA X.K c g) (lA (fun H Z => DvP X.K H Z c) X.K c (fs cf)) σ H Q := by
  obtain ⟨Z, env, cs, z, cs', p, e, q⟩ := h
  obtain ⟨ds, c1, e1, e⟩ := bnd_some e
  obtain ⟨z', ez, e2⟩ := of_some e
  cases e2
  refine ⟨Z, env, cs, ds, _, p, e1, fun vs H1 k1 ce1 r1 => ?_⟩
  have p1 := p.step k1 ce1
  exact ⟨Z, ds, z, p1.z, p1.cz, r1, ez, fun v H' k ec r => q v H' (k1.trans k) (ec.trans ce1) r⟩
theorem e_callB {g : List D → Option D} {fs : SA D} {x : Str} {p : Pos} {id : String} (hc : CallR X (.builtin id) (rA X.K c g)) (hg : Gl X x) (hm : X.mg x = none) (hv : bootBuiltins x = some (.builtin id)) (ha : PA X (e :: es) (lA (fun H Z => DvP X.K H Z c) X.K c (fs cf))) (hn : x ≠ "__name__") (hdb : (x == ("__debug__" : Str)) = false)
    (he : starEach (e :: es) X.env = (false, eval e X.env) :: starEach es X.env) (hpl : (backTo pos (starEach es X.env)).any (·.1) = false) : PE X (.Call (.Name x p) (e :: es) [] pos) (le X.K c (mBI g fs cf)) :=
  pe_imp (pe_callB hc hg hm hv ha hn hdb he hpl) fun _ _ _ h => bi_pre h
theorem e_callTy {g : List D → Option D} {fs : SA D} {x : Str} {p : Pos} {T : String} (hc : CallR X (.type T) (rA X.K c g)) (hg : Gl X x) (hm : X.mg x = none) (hv : bootBuiltins x = some (.type T)) (ha : PA X (e :: es) (lA (fun H Z => DvP X.K H Z c) X.K c (fs cf))) (hn : x ≠ "__name__") (hdb : (x == ("__debug__" : Str)) = false)
    (he : starEach (e :: es) X.env = (false, eval e X.env) :: starEach es X.env) (hpl : (backTo pos (starEach es X.env)).any (·.1) = false) : PE X (.Call (.Name x p) (e :: es) [] pos) (le X.K c (mBI g fs cf)) :=
  pe_imp (pe_callTy hc hg hm hv ha hn hdb he hpl) fun _ _ _ h => bi_pre h
theorem e_callBf {g : List D → Option D} {fs : SA D} {x : Str} {p : Pos} {id : String} (hc : CallR X (.builtin id) (rA X.K c g)) (hg : Gl X x) (hm : X.mg x = some (.builtin id)) (ha : PA X (e :: es) (lA (fun H Z => DvP X.K H Z c) X.K c (fs cf))) (hdb : (x == ("__debug__" : Str)) = false)
    (he : starEach (e :: es) X.env = (false, eval e X.env) :: starEach es X.env) (hpl : (backTo pos (starEach es X.env)).any (·.1) = false) : PE X (.Call (.Name x p) (e :: es) [] pos) (le X.K c (mBI g fs cf)) :=
  pe_imp (pe_callBfun hc hg hm ha hdb he hpl) fun _ _ _ h => bi_pre h

/-! ### subscripts -/
theorem ixR_imp {r r' : R2} (h : IxR X r) (i : ∀ x y H Q, r' x y H Q → r x y H Q) : IxR X r' := fun value slice pins s σ H x y v u Q I rx ry q hs => h value slice pins s σ H x y v u Q I rx ry (i _ _ _ _ q) hs
theorem e_ix {g : D → D → Option D} (hr : IxR X (rD X.K c g)) (ha : PE X a (lp X.K c (fa cf))) (hb : PE X b (lp X.K c (fb cf))) (hs : PlainIx b) : PE X (.Subscript a b pos) (le X.K c (mBin g fa fb cf)) :=
  pe_imp (pe_ix hr ha hb hs) fun σ H Q h => op2 (fun _ _ _ _ q => q) h
end
end Se
end
section
set_option Elab.async false
set_option linter.all false
set_option maxRecDepth 100000
set_option maxHeartbeats 4000000
namespace Se
open PySem PySem.Spec PyProof.Rows L2
/-! ### operations on data -/
def asInts : List D → Option (List Int)
  | [] => some []
  | .int i :: r => match asInts r with
    | some ns => some (i :: ns)
    | none => none
  | _ :: _ => none
theorem asInts_eq : ∀ {ds : List D} {ns : List Int}, asInts ds = some ns → ds = ns.map .int
  | [], ns, h => by cases h; rfl
  | d :: r, ns, h => by
    unfold asInts at h
    split at h
    · rename_i e; cases e
    · rename_i i r' e
      cases e
      split at h
      · rename_i ms e2
        cases h
        rw [asInts_eq e2]
        rfl
      · cases h
    · cases h
def asBools : List D → Option (List Bool)
  | [] => some []
  | .bool i :: r => match asBools r with
    | some ns => some (i :: ns)
    | none => none
  | _ :: _ => none
theorem asBools_eq : ∀ {ds : List D} {ns : List Bool}, asBools ds = some ns → ds = ns.map .bool
  | [], ns, h => by cases h; rfl
  | d :: r, ns, h => by
    unfold asBools at h
    split at h
    · rename_i e; cases e
    · rename_i i r' e
      cases e
      split at h
      · rename_i ms e2
        cases h
        rw [asBools_eq e2]
        rfl
      · cases h
    · cases h
def line : Nat := 16777216
theorem line_eq : sizeLine = line := by decide
def gAdd : D → D → Option D
  | .int i, .int j => some (.int (i + j))
  | .tuple xs, .tuple ys => if xs.length + ys.length ≤ line then some (.tuple (xs ++ ys)) else none
  | .list xs, .list ys => if xs.length + ys.length ≤ line then some (.list (xs ++ ys)) else none
  | _, _ => none
def gSub : D → D → Option D
  | .int i, .int j => some (.int (i - j))
  | _, _ => none
def gMul : D → D → Option D
  | .int i, .int j => if i.natAbs.log2 + j.natAbs.log2 < 1000000 then some (.int (i * j)) else none
  | .list xs, .int k => if k < 1000000 ∧ -1000000 < k ∧ xs.length * k.toNat ≤ line then some (.list (List.replicate k.toNat xs).flatten) else none
  | _, _ => none
def gDiv : D → D → Option D
  | .int i, .int j => if j ≠ 0 ∧ j.natAbs.log2 < 9000 then some (.int (i.fdiv j)) else none
  | _, _ => none
def gMod : D → D → Option D
  | .int i, .int j => if j ≠ 0 then some (.int (i.fmod j)) else none
  | _, _ => none
def gPow : D → D → Option D
  | .int i, .int j => if 0 ≤ j ∧ j ≤ 1000000 ∧ i.natAbs < 18446744073709551616 then some (.int (i ^ j.toNat)) else none
  | _, _ => none
def shp (d : D) : Bool := SeqAt.shaped d
def gEq (d e : D) : Option D := match d, e with
  | .int i, .int j => some (.bool (decide (i = j)))
  | _, _ => if shp d = true ∧ shp e = true then some (.bool (PyData.eqv d e)) else none
def gNe (d e : D) : Option D := match d, e with
  | .int i, .int j => some (.bool (!decide (i = j)))
  | _, _ => if shp d = true ∧ shp e = true then some (.bool (!PyData.eqv d e)) else none
def cmpOk (d e : D) : Bool := shp d && PySem.W.alike d e && (match d with | .none => false | _ => true)
def gLt (d e : D) : Option D := match d, e with
  | .int i, .int j => some (.bool (decide (i < j)))
  | _, _ => if cmpOk d e = true then some (.bool (PySem.W.dataLt d e)) else none
def gGt (d e : D) : Option D := match d, e with
  | .int i, .int j => some (.bool (decide (j < i)))
  | _, _ => if cmpOk d e = true then some (.bool (PySem.W.dataLt e d)) else none
def gLe (d e : D) : Option D := match d, e with
  | .int i, .int j => some (.bool (decide (i ≤ j)))
  | _, _ => if cmpOk d e = true then some (.bool (!PySem.W.dataLt e d)) else none
def gGe (d e : D) : Option D := match d, e with
  | .int i, .int j => some (.bool (decide (j ≤ i)))
  | _, _ => if cmpOk d e = true then some (.bool (!PySem.W.dataLt d e)) else none
def gIn (d e : D) : Option D := match e with
  | .list ys => if shp d = true ∧ shp (.list ys) = true then some (.bool (ys.any fun y => PyData.eqv y d)) else none
  | .tuple ys => if shp d = true ∧ shp (.tuple ys) = true then some (.bool (ys.any fun y => PyData.eqv y d)) else none
  | _ => none
def gNotIn (d e : D) : Option D := match e with
  | .list ys => if shp d = true ∧ shp (.list ys) = true then some (.bool (!ys.any fun y => PyData.eqv y d)) else none
  | .tuple ys => if shp d = true ∧ shp (.tuple ys) = true then some (.bool (!ys.any fun y => PyData.eqv y d)) else none
  | _ => none
def isNon : D → Bool
  | .none => true
  | _ => false
def gIs (d e : D) : Option D := match e with
  | .none => some (.bool (isNon d))
  | .bool b => match d with
    | .bool a => some (.bool (decide (a = b)))
    | _ => none
  | _ => none
def gIsNot (d e : D) : Option D := match e with
  | .none => some (.bool (!isNon d))
  | .bool b => match d with
    | .bool a => some (.bool (!decide (a = b)))
    | _ => none
  | _ => none
def gIx : D → D → Option D
  | .list xs, .int i => atI xs i
  | .tuple xs, .int i => atI xs i
  | _, _ => none
section
variable {X : Cx} {c : Addr}
theorem opR_imp {f : Value → Value → Sem Value} {r r' : R2} (h : OpR X f r) (i : ∀ x y H Q, r' x y H Q → r x y H Q) : OpR X f r' := fun pins s σ H x y v u Q I rx ry q => h pins s σ H x y v u Q I rx ry (i _ _ _ _ q)
theorem opR_or {f : Value → Value → Sem Value} {r r' : R2} (h : OpR X f r) (h' : OpR X f r') : OpR X f (fun x y H Q => r x y H Q ∨ r' x y H Q) := fun pins s σ H x y v u Q I rx ry q => by
  rcases q with q | q
  · exact h pins s σ H x y v u Q I rx ry q
  · exact h' pins s σ H x y v u Q I rx ry q
/-- a fresh tuple, a fresh list -/
theorem fresh_tup {K : PySem.W.Frag} {H : Hp} {Z : List Addr} {xs : List V} {ds : List D} {Q : VK} (z : ZOk H Z) (cz : c ∈ Z) (r : DvA K H Z xs ds) (q : ∀ v H', Keep c H H' → H' c = H c → Dv K H' Z v (.tuple ds) → Q v H') : ∀ p, H p = none → Q (.ref p) (upd H p (.tup xs)) := fun p hp => by
  have kp : Keep c H (upd H p (.tup xs)) := .upd hp
  have hc : (upd H p (.tup xs)) c = H c := upd_ne fun e => by
    have m := z c cz
    rw [e, hp] at m
    exact m
  exact q _ _ kp hc (.tup (SqT.of upd_same) (DvA.later z (kp.later cz) _ _ r))
theorem fresh_lst {K : PySem.W.Frag} {H : Hp} {Z : List Addr} {xs : List V} {ds : List D} {Q : VK} (z : ZOk H Z) (cz : c ∈ Z) (r : DvA K H Z xs ds) (q : ∀ v H', Keep c H H' → H' c = H c → Dv K H' Z v (.list ds) → Q v H') : ∀ p, H p = none → Q (.ref p) (upd H p (.lst xs)) := fun p hp => by
  have kp : Keep c H (upd H p (.lst xs)) := .upd hp
  have hc : (upd H p (.lst xs)) c = H c := upd_ne fun e => by
    have m := z c cz
    rw [e, hp] at m
    exact m
  exact q _ _ kp hc (.lst upd_same (fresh_z z hp) (DvA.later z (kp.later cz) _ _ r))
theorem o_add : OpR X (binaryOp .Add) (rD X.K c gAdd) := opR_imp (opR_or op_add (opR_or op_catA op_cat)) fun x y H Q ⟨Z, d, e, z, zo, cz, rx, ry, g, q⟩ => by
  unfold gAdd at g
  split at g
  · cases g
    rw [rx.int, ry.int]
    exact .inl ⟨_, _, rfl, rfl, q _ H .refl rfl (.int _)⟩
  · rename_i xs ys
    split at g
    · rename_i hl
      cases g
      obtain ⟨a, us, rfl, ha, ra⟩ := rx.tuple
      obtain ⟨b, ws, rfl, hb, rb⟩ := ry.tuple
      refine .inr (.inl ⟨a, b, us, ws, rfl, rfl, ha, hb, by rw [ra.length, rb.length, line_eq]; exact hl, fun e => ?_, fun _ e => ?_, fun _ _ => fresh_tup zo cz (ra.append rb) q⟩)
      · subst e
        have e2 : xs = [] := by
          have := ra.length
          exact List.eq_nil_of_length_eq_zero this.symm
        subst e2
        exact q _ H .refl rfl (.tup hb rb)
      · subst e
        have e2 : ys = [] := by
          have := rb.length
          exact List.eq_nil_of_length_eq_zero this.symm
        subst e2
        rw [List.append_nil] at q
        exact q _ H .refl rfl (.tup ha ra)
    · cases g
  · rename_i xs ys
    split at g
    · rename_i hl
      cases g
      obtain ⟨a, us, rfl, ha, ra⟩ := rx.list
      obtain ⟨b, ws, rfl, hb, rb⟩ := ry.list
      exact .inr (.inr ⟨a, b, us, ws, rfl, rfl, ha, hb, by rw [ra.length, rb.length, line_eq]; exact hl, fresh_lst zo cz (ra.append rb) q⟩)
    · cases g
  · cases g
theorem o_sub : OpR X (binaryOp .Sub) (rD X.K c gSub) := opR_imp op_sub fun x y H Q ⟨Z, d, e, z, zo, cz, rx, ry, g, q⟩ => by
  unfold gSub at g
  split at g
  · cases g
    rw [rx.int, ry.int]
    exact ⟨_, _, rfl, rfl, q _ H .refl rfl (.int _)⟩
  · cases g
theorem dva_rep {K : PySem.W.Frag} {H : Hp} {Z : List Addr} {xs : List V} {ds : List D} (r : DvA K H Z xs ds) : ∀ n : Nat, DvA K H Z (List.replicate n xs).flatten (List.replicate n ds).flatten
  | 0 => .nil
  | n + 1 => by
    rw [List.replicate_succ, List.replicate_succ, List.flatten_cons, List.flatten_cons]
    exact r.append (dva_rep r n)
theorem o_mul : OpR X (binaryOp .Mult) (rD X.K c gMul) := opR_imp (opR_or op_mulW op_rep) fun x y H Q ⟨Z, d, e, z, zo, cz, rx, ry, g, q⟩ => by
  unfold gMul at g
  split at g
  · split at g
    · rename_i hl
      cases g
      rw [rx.int, ry.int]
      exact .inl ⟨_, _, rfl, rfl, hl, q _ H .refl rfl (.int _)⟩
    · cases g
  · split at g
    · rename_i hl
      cases g
      obtain ⟨a, us, rfl, ha, ra⟩ := rx.list
      rw [ry.int]
      exact .inr ⟨a, _, us, rfl, rfl, ha, by omega, by omega, by rw [ra.length, line_eq]; exact hl.2.2, fresh_lst zo cz (dva_rep ra _) q⟩
    · cases g
  · cases g
theorem op_fdivA : OpR X (binaryOp .FloorDiv) (rI (fun _ j => j ≠ 0 ∧ j.natAbs.log2 < 9000) fun i j => .int (i.fdiv j)) := opI fun _ _ _ _ _ _ _ hc q => floordiv_int hc.1 q (.inl (PyProof.noPylong_of_log2 hc.2))
theorem o_div : OpR X (binaryOp .FloorDiv) (rD X.K c gDiv) := opR_imp op_fdivA fun x y H Q ⟨Z, d, e, z, zo, cz, rx, ry, g, q⟩ => by
  unfold gDiv at g
  split at g
  · split at g
    · rename_i hl
      cases g
      rw [rx.int, ry.int]
      exact ⟨_, _, rfl, rfl, hl, q _ H .refl rfl (.int _)⟩
    · cases g
  · cases g
theorem o_mod : OpR X (binaryOp .Mod) (rD X.K c gMod) := opR_imp op_modN fun x y H Q ⟨Z, d, e, z, zo, cz, rx, ry, g, q⟩ => by
  unfold gMod at g
  split at g
  · split at g
    · rename_i hl
      cases g
      rw [rx.int, ry.int]
      exact ⟨_, _, rfl, rfl, hl, q _ H .refl rfl (.int _)⟩
    · cases g
  · cases g
theorem o_pow : OpR X (binaryOp .Pow) (rD X.K c gPow) := opR_imp op_pow fun x y H Q ⟨Z, d, e, z, zo, cz, rx, ry, g, q⟩ => by
  unfold gPow at g
  split at g
  · split at g
    · rename_i hl
      cases g
      rw [rx.int, ry.int]
      exact ⟨_, _, rfl, rfl, hl, q _ H .refl rfl (.int _)⟩
    · cases g
  · cases g
theorem o_eq (hu : X.A.units + 64 < cLine) : OpR X (compareOp .Eq) (rD X.K c gEq) := opR_imp (opR_or op_eq (op_eqD hu)) fun x y H Q ⟨Z, d, e, z, zo, cz, rx, ry, g, q⟩ => by
  unfold gEq at g
  split at g
  · rename_i i j
    cases g
    rw [rx.int, ry.int]
    refine .inl ⟨rfl, ?_⟩
    have e : decide (V.int i = V.int j) = decide (i = j) := by
      by_cases h : i = j
      · rw [h]; simp
      · rw [decide_eq_false h, decide_eq_false fun z => h (V.int.inj z)]
    rw [e]
    exact q _ H .refl rfl (.bl _)
  · split at g
    · rename_i hl
      cases g
      exact .inr ⟨d, e, rx.dp, ry.dp, hl.1, hl.2, q _ H .refl rfl (.bl _)⟩
    · cases g
theorem o_ne (hu : X.A.units + 64 < cLine) : OpR X (compareOp .NotEq) (rD X.K c gNe) := opR_imp (opR_or op_ne (op_neD hu)) fun x y H Q ⟨Z, d, e, z, zo, cz, rx, ry, g, q⟩ => by
  unfold gNe at g
  split at g
  · rename_i i j
    cases g
    rw [rx.int, ry.int]
    refine .inl ⟨rfl, ?_⟩
    have e : decide (V.int i = V.int j) = decide (i = j) := by
      by_cases h : i = j
      · rw [h]; simp
      · rw [decide_eq_false h, decide_eq_false fun z => h (V.int.inj z)]
    rw [e]
    exact q _ H .refl rfl (.bl _)
  · split at g
    · rename_i hl
      cases g
      exact .inr ⟨d, e, rx.dp, ry.dp, hl.1, hl.2, q _ H .refl rfl (.bl _)⟩
    · cases g
/-- an order of data, by the library's rule -/
def rOrd (K : PySem.W.Frag) (k : D → D → Bool) : R2 := fun x y H Q => ∃ d e, Dp K H x d ∧ Dp K H y e ∧ cmpOk d e = true ∧ Q (.bl (k d e)) H
theorem cmp_ok {d e : D} (h : cmpOk d e = true) : PySem.W.alike d e = true ∧ d ≠ .none ∧ d.depth ≤ 64 := by
  unfold cmpOk at h
  rw [Bool.and_eq_true, Bool.and_eq_true] at h
  obtain ⟨⟨h1, h2⟩, h3⟩ := h
  refine ⟨h2, fun e => ?_, SeqAt.depth_of_shaped h1⟩
  subst e
  cases h3
theorem op_ltD (hu : X.A.units + 64 < cLine) : OpR X (compareOp .Lt) (rOrd X.K fun d e => PySem.W.dataLt d e) := by
  intro pins s σ H x y v u Q I rx ry h
  obtain ⟨d, e, hd, he, ok, q⟩ := h
  obtain ⟨as, r1⟩ := Dp.reads I d x v hd rx
  obtain ⟨bs, r2⟩ := Dp.reads I e y u he ry
  obtain ⟨h1, h2, h3⟩ := cmp_ok ok
  exact PySem.W.lt_data r1 r2 h1 h2 (by omega) ⟨.bl _, H, I, rfl, q⟩
theorem op_gtD (hu : X.A.units + 64 < cLine) : OpR X (compareOp .Gt) (rOrd X.K fun d e => PySem.W.dataLt e d) := by
  intro pins s σ H x y v u Q I rx ry h
  obtain ⟨d, e, hd, he, ok, q⟩ := h
  obtain ⟨as, r1⟩ := Dp.reads I d x v hd rx
  obtain ⟨bs, r2⟩ := Dp.reads I e y u he ry
  obtain ⟨h1, h2, h3⟩ := cmp_ok ok
  exact PySem.W.gt_data r1 r2 h1 h2 (by omega) ⟨.bl _, H, I, rfl, q⟩
theorem op_leD (hu : X.A.units + 64 < cLine) : OpR X (compareOp .LtE) (rOrd X.K fun d e => !PySem.W.dataLt e d) := by
  intro pins s σ H x y v u Q I rx ry h
  obtain ⟨d, e, hd, he, ok, q⟩ := h
  obtain ⟨as, r1⟩ := Dp.reads I d x v hd rx
  obtain ⟨bs, r2⟩ := Dp.reads I e y u he ry
  obtain ⟨h1, h2, h3⟩ := cmp_ok ok
  exact PySem.W.le_data r1 r2 h1 h2 (by omega) ⟨.bl _, H, I, rfl, q⟩
theorem op_geD (hu : X.A.units + 64 < cLine) : OpR X (compareOp .GtE) (rOrd X.K fun d e => !PySem.W.dataLt d e) := by
  intro pins s σ H x y v u Q I rx ry h
  obtain ⟨d, e, hd, he, ok, q⟩ := h
  obtain ⟨as, r1⟩ := Dp.reads I d x v hd rx
  obtain ⟨bs, r2⟩ := Dp.reads I e y u he ry
  obtain ⟨h1, h2, h3⟩ := cmp_ok ok
  exact PySem.W.ge_data r1 r2 h1 h2 (by omega) ⟨.bl _, H, I, rfl, q⟩
theorem o_lt (hu : X.A.units + 64 < cLine) : OpR X (compareOp .Lt) (rD X.K c gLt) := opR_imp (opR_or op_lt (op_ltD hu)) fun x y H Q ⟨Z, d, e, z, zo, cz, rx, ry, g, q⟩ => by
  unfold gLt at g
  split at g
  · cases g
    rw [rx.int, ry.int]
    exact .inl ⟨_, _, rfl, rfl, q _ H .refl rfl (.bl _)⟩
  · split at g
    · rename_i hl
      cases g
      exact .inr ⟨d, e, rx.dp, ry.dp, hl, q _ H .refl rfl (.bl _)⟩
    · cases g
theorem o_gt (hu : X.A.units + 64 < cLine) : OpR X (compareOp .Gt) (rD X.K c gGt) := opR_imp (opR_or op_gt (op_gtD hu)) fun x y H Q ⟨Z, d, e, z, zo, cz, rx, ry, g, q⟩ => by
  unfold gGt at g
  split at g
  · cases g
    rw [rx.int, ry.int]
    exact .inl ⟨_, _, rfl, rfl, q _ H .refl rfl (.bl _)⟩
  · split at g
    · rename_i hl
      cases g
      exact .inr ⟨d, e, rx.dp, ry.dp, hl, q _ H .refl rfl (.bl _)⟩
    · cases g
theorem o_le (hu : X.A.units + 64 < cLine) : OpR X (compareOp .LtE) (rD X.K c gLe) := opR_imp (opR_or op_le (op_leD hu)) fun x y H Q ⟨Z, d, e, z, zo, cz, rx, ry, g, q⟩ => by
  unfold gLe at g
  split at g
  · cases g
    rw [rx.int, ry.int]
    exact .inl ⟨_, _, rfl, rfl, q _ H .refl rfl (.bl _)⟩
  · split at g
    · rename_i hl
      cases g
      exact .inr ⟨d, e, rx.dp, ry.dp, hl, q _ H .refl rfl (.bl _)⟩
    · cases g
theorem o_ge (hu : X.A.units + 64 < cLine) : OpR X (compareOp .GtE) (rD X.K c gGe) := opR_imp (opR_or op_ge (op_geD hu)) fun x y H Q ⟨Z, d, e, z, zo, cz, rx, ry, g, q⟩ => by
  unfold gGe at g
  split at g
  · cases g
    rw [rx.int, ry.int]
    exact .inl ⟨_, _, rfl, rfl, q _ H .refl rfl (.bl _)⟩
  · split at g
    · rename_i hl
      cases g
      exact .inr ⟨d, e, rx.dp, ry.dp, hl, q _ H .refl rfl (.bl _)⟩
    · cases g
theorem in_list_at {pins : List (Addr × Obj)} {s : Shared} {σ : L2.St} {H : Hp} {x y : V} {v u : Value} {d : D} {ys : List D} {Q : Value → Shared → Prop} (hu : X.A.units + 66 < cLine) (I : Inv X pins σ H s) (rx : RelV x v) (ry : RelV y u) (hd : Dp X.K H x d) (he : Dp X.K H y (.list ys)) (s1 : shp d = true) (s2 : shp (.list ys) = true)
    (q : Q (.bool (ys.any fun y => PyData.eqv y d)) s) : wpAny (model X.prog X.w) X.A (compareOp .In v u) Q X.xe s := by
  obtain ⟨as, r1⟩ := Dp.reads I d x v hd rx
  obtain ⟨bs, r2⟩ := Dp.reads I _ y u he ry
  exact SeqAt.in_list_reads r2 r1 (SeqAt.canLay_of_shaped s2) (SeqAt.canLay_of_shaped s1) (room_in_shaped s1 (by omega)) q
theorem o_in (hu : X.A.units + 66 < cLine) : OpR X (compareOp .In) (rD X.K c gIn) := by
  intro pins s σ H x y v u Q I rx ry h
  obtain ⟨Z, d, e, z, zo, cz, px, py, g, q⟩ := h
  obtain ⟨as, r1⟩ := Dp.reads I d x v px.dp rx
  unfold gIn at g
  split at g
  · split at g
    · rename_i hl
      cases g
      obtain ⟨bs, r2⟩ := Dp.reads I _ y u py.dp ry
      exact SeqAt.in_list_reads r2 r1 (SeqAt.canLay_of_shaped hl.2) (SeqAt.canLay_of_shaped hl.1) (room_in_shaped hl.1 (by omega)) ⟨.bl _, H, I, rfl, q _ H .refl rfl (.bl _)⟩
    · cases g
  · split at g
    · rename_i hl
      cases g
      obtain ⟨bs, r2⟩ := Dp.reads I _ y u py.dp ry
      exact SeqAt.in_tuple_reads r2 r1 (SeqAt.canLay_of_shaped hl.2) (SeqAt.canLay_of_shaped hl.1) (room_in_shaped hl.1 (by omega)) ⟨.bl _, H, I, rfl, q _ H .refl rfl (.bl _)⟩
    · cases g
  · cases g
theorem o_notIn (hu : X.A.units + 66 < cLine) : OpR X (compareOp .NotIn) (rD X.K c gNotIn) := by
  intro pins s σ H x y v u Q I rx ry h
  obtain ⟨Z, d, e, z, zo, cz, px, py, g, q⟩ := h
  obtain ⟨as, r1⟩ := Dp.reads I d x v px.dp rx
  unfold gNotIn at g
  split at g
  · split at g
    · rename_i hl
      cases g
      obtain ⟨bs, r2⟩ := Dp.reads I _ y u py.dp ry
      exact SeqAt.notIn_list_reads r2 r1 (SeqAt.canLay_of_shaped hl.2) (SeqAt.canLay_of_shaped hl.1) (room_in_shaped hl.1 (by omega)) ⟨.bl _, H, I, rfl, q _ H .refl rfl (.bl _)⟩
    · cases g
  · split at g
    · rename_i hl
      cases g
      obtain ⟨bs, r2⟩ := Dp.reads I _ y u py.dp ry
      exact SeqAt.notIn_tuple_reads r2 r1 (SeqAt.canLay_of_shaped hl.2) (SeqAt.canLay_of_shaped hl.1) (room_in_shaped hl.1 (by omega)) ⟨.bl _, H, I, rfl, q _ H .refl rfl (.bl _)⟩
    · cases g
  · cases g
theorem DvP.none {K : PySem.W.Frag} {H : Hp} {Z : List Addr} {v : V} (h : DvP K H Z c v .none) : v = .non := by
  rcases h with h | ⟨a, e, _, _, xs, ds', e2, h1, h2⟩
  · cases h; rfl
  · cases e2
theorem DvP.isNon {K : PySem.W.Frag} {H : Hp} {Z : List Addr} {v : V} {d : D} (h : DvP K H Z c v d) : decide (v = .non) = Se.isNon d := by
  rcases h with h | ⟨a, e, _, _, xs, ds', e2, h1, h2⟩
  · cases h <;> rfl
  · subst e e2; rfl
theorem o_is : OpR X (compareOp .Is) (rD X.K c gIs) := opR_imp (opR_or op_isN op_is_bl) fun x y H Q ⟨Z, d, e, z, zo, cz, rx, ry, g, q⟩ => by
  unfold gIs at g
  split at g
  · cases g
    refine .inl ⟨ry.none, ?_⟩
    rw [rx.isNon]
    exact q _ H .refl rfl (.bl _)
  · split at g
    · cases g
      exact .inr ⟨_, _, rx.bool, ry.bool, q _ H .refl rfl (.bl _)⟩
    · cases g
  · cases g
theorem o_isNot : OpR X (compareOp .IsNot) (rD X.K c gIsNot) := opR_imp (opR_or op_notN op_isnot_bl) fun x y H Q ⟨Z, d, e, z, zo, cz, rx, ry, g, q⟩ => by
  unfold gIsNot at g
  split at g
  · cases g
    refine .inl ⟨ry.none, ?_⟩
    rw [rx.isNon]
    exact q _ H .refl rfl (.bl _)
  · split at g
    · cases g
      exact .inr ⟨_, _, rx.bool, ry.bool, q _ H .refl rfl (.bl _)⟩
    · cases g
  · cases g
theorem dva_atI {K : PySem.W.Frag} {H : Hp} {Z : List Addr} {xs : List V} {ds : List D} {i : Int} {d : D} (r : DvA K H Z xs ds) (h : atI ds i = some d) : ∃ v, atI xs i = some v ∧ Dv K H Z v d := by
  unfold atI at h ⊢
  rw [r.length]
  cases e : ixN ds.length i with
  | none => rw [e] at h; cases h
  | some j =>
    rw [e] at h
    exact r.get h
theorem o_ix : IxR X (rD X.K c gIx) := ixR_imp (ix_list.or ix_tup) fun x y H Q ⟨Z, d, e, z, zo, cz, rx, ry, g, q⟩ => by
  unfold gIx at g
  split at g
  · obtain ⟨a, us, rfl, ha, ra⟩ := rx.list
    rw [ry.int]
    obtain ⟨w, hw, rw'⟩ := dva_atI ra g
    exact .inl ⟨a, us, _, w, rfl, rfl, .inl (.inl ha), hw, q _ H .refl rfl rw'⟩
  · obtain ⟨a, us, rfl, ha, ra⟩ := rx.tuple
    rw [ry.int]
    obtain ⟨w, hw, rw'⟩ := dva_atI ra g
    exact .inr ⟨a, us, _, w, rfl, rfl, ha, hw, q _ H .refl rfl rw'⟩
  · cases g
/-! unary minus -/
def mNeg (fa : SE) : SE := fun cf env => M.bnd (fa cf env) fun x => match x with
  | .int i => M.ret (.int (-i))
  | _ => M.of none
theorem e_neg {a : Expr} {pos : Pos} {cf : CF} {fa : SE} (ha : PE X a (le X.K c (fa cf))) : PE X (.UnaryOp .USub a pos) (le X.K c (mNeg fa cf)) := pe_imp (pe_un un_neg ha) fun σ H Q ⟨Z, env, cs, z, cs', p, e, q⟩ => by
  obtain ⟨x, c1, e1, e⟩ := bnd_some e
  cases x with
  | int i =>
    cases ret_some e
    refine ⟨Z, env, cs, _, _, p, e1, fun v H1 k1 ce1 r1 => ?_⟩
    cases r1
    exact ⟨i, rfl, q _ H1 k1 ce1 (.int _)⟩
  | _ => cases e
end
end Se
end
section
set_option Elab.async false
set_option linter.all false
set_option maxRecDepth 100000
set_option maxHeartbeats 4000000
namespace Se
open PySem PySem.Spec PyProof.Rows L2
/-! ### a list (k) or a tuple as the source of an iterator -/
def SqS (K : PySem.W.Frag) (H : Hp) (k : Bool) (a : Addr) (xs : List V) : Prop := if k = true then SqL K H a xs else SqT K H a xs
def ItS (h : Heap) (k : Bool) (it a : Addr) (i : Nat) : Prop := if k = true then h.IsListIter it a i else h.IsTupleIter it a i
def IsS (h : Heap) (k : Bool) (a : Addr) (us : Array Value) : Prop := if k = true then h.IsList a us else h.IsTuple a us
def obS (k : Bool) (a : Addr) : Obj := if k = true then { cls := .type "list_iterator", data := .fields #[.ref a, .int 0 0] } else { cls := .type "tuple_iterator", data := .fields #[.ref a, .int 0 0] }
section
variable {X : Cx} {pins : List (Addr × Obj)} {σ : L2.St} {H : Hp} {s : Shared} {k : Bool} {a it : Addr} {xs ys : List V}
theorem Inv.seqS (I : Inv X pins σ H s) (h : SqS X.K H k a xs) : ∃ us : List Value, Vals xs us ∧ IsS s.heap k a us.toArray ∧ a < s.heap.objs.size := by
  cases k with
  | true =>
    obtain ⟨us, r, p, _⟩ := Inv.list I h
    exact ⟨us, r, p.isList, p.lt⟩
  | false =>
    obtain ⟨us, r, p, _⟩ := Inv.tuple I h
    exact ⟨us, r, p, p.lt⟩
theorem Inv.injS (I : Inv X pins σ H s) (h : SqS X.K H k a xs) (h' : SqS X.K H k a ys) : xs = ys := by
  cases k with
  | true => exact Inv.list_inj I h h'
  | false => exact Inv.tuple_inj I h h'
theorem ItS.at {h h' : Heap} {i : Nat} (x : ItS h k it a i) (q : ∀ o, h.get? it = some o → h'.get? it = some o) : ItS h' k it a i := by
  cases k with
  | true => exact Heap.IsListIter.at x q
  | false => exact Heap.IsTupleIter.at x q
theorem ItS.get {h : Heap} {i : Nat} (x : ItS h k it a i) : ∃ o, h.get? it = some o ∧ ∀ v, o.data ≠ .cell v := by
  cases k with
  | true =>
    obtain ⟨o, e, c, d⟩ := x
    exact ⟨o, e, fun v z => by rw [d] at z; cases z⟩
  | false =>
    obtain ⟨o, e, c, d⟩ := x
    exact ⟨o, e, fun v z => by rw [d] at z; cases z⟩
theorem drawsS {P : Program} {w : World} {A : Around} (hh : A.handled = none) (ne : a ≠ it) (us : Array Value) :
    Draws P w A it [it, a] us.size (fun i v => us[i]? = some v) (fun i h => ItS h k it a i ∧ IsS h k a us) := by
  cases k with
  | true => exact Draws.list hh it a ne us
  | false => exact Draws.tuple hh it a ne us
theorem beginsS (us : Array Value) : Begins (.ref a) (obS k a) fun h => IsS h k a us := by
  cases k with
  | true => exact begins_list a us
  | false => exact begins_tuple a us
theorem obS_it {h : Heap} (e : h.get? it = some (obS k a)) : ItS h k it a 0 := by
  cases k with
  | true => exact ⟨_, e, rfl, rfl⟩
  | false => exact ⟨_, e, rfl, rfl⟩
end
/-! ### enumerate(x) -/
set_option maxHeartbeats 1000000 in
theorem meets_enum1 {v : Value} {ob : Obj} {G : Heap → Prop} (B : Begins v ob G) :
    Meets (Builtin.«enumerate.__new__» ⟨[.type "enumerate", v], []⟩) (fun _ R s => G s.heap ∧ R (.ok (.ret (.ref (s.heap.push ob).objs.size))) { s with heap := (s.heap.push ob).push { cls := .type "enumerate", data := .fields #[.none, .bool false, .ref s.heap.objs.size, rawInt 0, .none, .none] } }) :=
  .of_wp fun prog w A R sh hh => by
    obtain ⟨hp, gs, dr, tk, os⟩ := sh
    obtain ⟨hG, hR⟩ := hh
    have su := sub_enumerate
    have begun : ∀ {A' : Around} {E' : Value → Shared → Prop} {Q' : Value → Shared → Prop}, Q' (.ref hp.objs.size) ⟨hp.push ob, gs, dr, tk, os⟩ → wpAny (model prog w) A' (pyIter v) Q' E' ⟨hp, gs, dr, tk, os⟩ :=
      fun z => B.iter prog w _ _ ⟨hp, gs, dr, tk, os⟩ _ hG z
    wp_walk using begun
    refine wpAny_stack_any fun st => wpAny_pure ?_
    split
    · rename_i cl _ _ _ _ _
      cases (cl == Value.type "enumerate") <;> (wp_walk using begun; exact ⟨_, rfl, hR⟩)
    · (wp_walk using begun; exact ⟨_, rfl, hR⟩)
theorem enum_begins1 {P : Program} {w : World} {A : Around} {E : Value → Shared → Prop} {s : Shared} {v : Value} {ob : Obj} {G : Heap → Prop} {Q : Value → Shared → Prop} (B : Begins v ob G) (hG : G s.heap)
    (h : ∀ h', IsEnum h' (s.heap.objs.size + 1) s.heap.objs.size 0 .none → h'.get? s.heap.objs.size = some ob → (∀ b o, s.heap.get? b = some o → h'.get? b = some o) → Q (.ref (s.heap.objs.size + 1)) { s with heap := h' }) :
    wpAny (model P w) A (call (.type "enumerate") [v]) Q E s := by
  refine callType_new F.called_enumerate (by decide) (F.typeCall_enumerate_1 _) (F.newCall_enumerate_1 _) (fun obj => F.args_object_init_2 obj _) F.entry_enumerate_new (meets_enum1 B) ⟨hG, ?_⟩
  have sz : (s.heap.push ob).objs.size = s.heap.objs.size + 1 := Heap.size_push ..
  show _ ∧ _
  rw [sz]
  have en : IsEnum ((s.heap.push ob).push { cls := .type "enumerate", data := .fields #[.none, .bool false, .ref s.heap.objs.size, rawInt 0, .none, .none] }) (s.heap.objs.size + 1) s.heap.objs.size 0 .none := by
    have z := Heap.get?_push_size (s.heap.push ob) (o := { cls := .type "enumerate", data := .fields #[.none, .bool false, .ref s.heap.objs.size, rawInt 0, .none, .none] }) rfl
    rw [sz] at z
    exact z
  exact ⟨⟨_, en, rfl⟩, h _ en (Heap.get?_push_of_some _ (Heap.get?_push_size _ B.free)) fun b o x => Heap.get?_push_of_some _ (Heap.get?_push_of_some _ x)⟩
/-- each item in a new pair with its number; it stops at the very end -/
def IteS (K : PySem.W.Frag) (k : Bool) (a : Addr) : It :=
  ⟨fun i H => ∃ (xs : List V) (x : V), SqS K H k a xs ∧ xs[i]? = some x, fun i H v H' => ∃ T x, v = .ref T ∧ H T = none ∧ H' = upd H T (.tup [.int (i : Nat), x]) ∧ ∀ xs, SqS K H k a xs → xs[i]? = some x, fun i H => ∃ xs : List V, SqS K H k a xs ∧ xs.length = i⟩
theorem turn_enumS {P : Program} {w : World} {K : PySem.W.Frag} {elts : List Expr} {kk : Nat} {tpos : Pos} (k : Bool) (a e it : Addr) (nai : a ≠ it) (nae : a ≠ e) :
    Turn P w K (.Tuple elts kk tpos) (IteS K k a) [e, it] e (fun i h => (∃ old, IsEnum h e it ((0 : Int) + ((i : Nat) : Int)) old) ∧ ItS h k it a i ∧ e ≠ it) where
  mem := by simp
  obj := fun i h st b hb => by
    obtain ⟨⟨old, he⟩, hi, _⟩ := st
    rcases List.mem_cons.mp hb with z | z
    · rw [z]; exact ⟨_, he, fun v q => nomatch q⟩
    · rw [List.mem_singleton.mp z]; exact hi.get
  keep := fun i h h' st q => let ⟨⟨old, he⟩, hi, ne⟩ := st; ⟨⟨old, q e (by simp) _ he⟩, hi.at fun o z => q it (by simp) o z, ne⟩
  item := by
    intro X hP hw hK hc i pins s σ H E I hf st hg
    subst hP hw hK
    obtain ⟨⟨old, he⟩, hit, hne⟩ := st
    obtain ⟨xs, x, hq, hx⟩ := hg
    obtain ⟨us, rv, p, la⟩ := Inv.seqS I hq
    obtain ⟨u, hu, ru⟩ := rv.get hx
    have el : e < s.heap.objs.size := Heap.lt_size he
    have il : it < s.heap.objs.size := by obtain ⟨_, q, _⟩ := hit.get; exact Heap.lt_size q
    have lt : i < us.toArray.size := by
      rw [List.size_toArray, ← rv.length]
      exact (List.getElem?_eq_some_iff.mp hx).1
    have hef : e ∉ [it, a] := fun z => by
      rcases List.mem_cons.mp z with z | z
      · exact hne z
      · exact nae (List.mem_singleton.mp z).symm
    refine wpAny_pyNext_enum_itemC (drawsS (k := k) (A := X.A.in1) (I.ok.hd hc) nai us.toArray) he ⟨hit, p⟩ lt hne hef fun y h' tk hy ho hst hT hsz hkp => ?_
    have ey : y = u := by
      have z : us.toArray[i]? = some u := by simpa using hu
      exact Option.some.inj (hy.symm.trans z)
    subst ey
    refine ⟨_, rfl, wpAny_letOwnedTupleGo_enum (s := { s with heap := h', toks := tk + 1 }) ho fun h'' he' sb => ?_⟩
    have hT2 : h''.get? s.heap.objs.size = some { cls := .type "tuple", data := .seq #[.int (0 + (i : Int)) tk, y] } := (sb.2 _ (Nat.ne_of_gt el)).trans hT
    have new : ObjOk X.prog X.w (upd H s.heap.objs.size (.tup [.int (i : Nat), x])) h'' s.heap.objs.size (.tup [.int (i : Nat), x]) :=
      ⟨by show 2 ≤ sizeLine; decide, [.int (0 + (i : Int)) tk, y], .cons ⟨tk, by rw [Int.zero_add]⟩ (.cons ru .nil), ⟨_, hT2, rfl, _, rfl⟩⟩
    have I1 : Inv X pins σ (upd H s.heap.objs.size (.tup [.int (i : Nat), x])) { s with heap := h'', toks := tk + 1 } :=
      I.turnedNew (ch := [e, it]) (fun b ob hb q => (sb.2 b fun z => hb (by simp [z])).trans (hkp b ob (fun z => hb (by simp [z])) (fun z => hb (by simp [z])) q)) hf (Nat.le_refl _) new
    refine ⟨.ref s.heap.objs.size, _, I1, rfl, ⟨_, x, rfl, I.hok.fresh (Nat.le_refl _), rfl, fun zs hz => by rw [Inv.injS I hz hq]; exact hx⟩, ⟨⟨y, ?_⟩, hst.1.at fun o q => (sb.2 it (Ne.symm hne)).trans q, hne⟩, fun b hb => ?_⟩
    · have e1 : (0 : Int) + ((i + 1 : Nat) : Int) = 0 + (i : Int) + 1 := by omega
      rw [e1]
      exact he'
    · have lb : b < s.heap.objs.size := by
        rcases List.mem_cons.mp hb with z | z
        · rw [z]; exact el
        · rw [List.mem_singleton.mp z]; exact il
      rw [upd_ne (Nat.ne_of_lt lb)]
      exact (hf b hb).1
  done := by
    intro X hP hw hK hc i pins s σ H E I hf st hg
    subst hP hw hK
    obtain ⟨⟨old, he⟩, hit, hne⟩ := st
    obtain ⟨xs, hq, hx⟩ := hg
    obtain ⟨us, rv, p, la⟩ := Inv.seqS I hq
    have ei : us.toArray.size = i := by rw [List.size_toArray, ← rv.length]; exact hx
    subst ei
    exact wpAny_pyNext_enum_endD (drawsS (k := k) (A := X.A.in1) (I.ok.hd hc) nai us.toArray) he ⟨hit, p⟩ fun h' eb => ⟨rfl, I.turnedL (t' := s.toks) (ch := [e, it]) (fun b o hb q => eb b o (fun z => hb (by simp [z])) q) hf⟩
  self := fun A i s Q E st h => let ⟨⟨_, he⟩, _⟩ := st; wpAny_pyIter_enum he h
def iEnumS (K : PySem.W.Frag) (k : Bool) (ta : TA) : TI := fun σ H R => ta σ H fun vs H1 => ∃ a xs, vs = [.ref a] ∧ SqS K H1 k a xs ∧ R (IteS K k a) H1
theorem pi_enumS {X : Cx} {e : Expr} {ta : TA} {p pos tpos : Pos} {elts : List Expr} {kk : Nat} (k : Bool) (hg : Gl X "enumerate") (hm : X.mg "enumerate" = none) (ha : PA X [e] ta) (hs : starEach [e] X.env = [(false, eval e X.env)]) :
    PI X (.Tuple elts kk tpos) (.Call (.Name "enumerate" p) [e] [] pos) (iEnumS X.K k ta) := by
  refine ⟨fun pins s σ H R I h => ?_⟩
  refine Call_ (ld_blt I hg hm boot_enumerate (PyProof.Rows.callWith_type1 (thn (ha.run pos pins s σ H _ I h) fun us s1 ⟨vs, H1, I1, r1, q1⟩ => ?_) hs rfl))
  obtain ⟨a, xs, ex, hq, q⟩ := q1
  subst ex
  cases r1 with
  | cons r rr =>
    cases rr
    cases r
    obtain ⟨its, rv, hS, la⟩ := Inv.seqS I1 hq
    refine enum_begins1 (beginsS (k := k) its.toArray) hS fun h' he hit hk => wpAny_pyIter_enum he ?_
    have I2 : Inv X pins σ H1 { s1 with heap := h' } := I1.kept (t' := s1.toks) hk
    refine ⟨s1.heap.objs.size + 1, [s1.heap.objs.size + 1, s1.heap.objs.size], _, _, H1, rfl, I2, turn_enumS k a (s1.heap.objs.size + 1) s1.heap.objs.size (Nat.ne_of_lt la) (Nat.ne_of_lt (Nat.lt_succ_of_lt la)), ⟨⟨.none, he⟩, obS_it hit, Nat.succ_ne_self _⟩, fun b hb => ?_, q⟩
    have le : s1.heap.objs.size ≤ b := by
      rcases List.mem_cons.mp hb with z | z
      · rw [z]; exact Nat.le_succ _
      · rw [List.mem_singleton.mp z]; exact Nat.le_refl _
    exact I1.fpOk le (I1.hok.fresh le)
/-! ### zip -/
theorem ltne {a N : Nat} (k : Nat) (h : a < N) : a ≠ N + k := by omega
def Itz2 (K : PySem.W.Frag) (k j : Bool) (a b : Addr) : It :=
  ⟨fun i H => ∃ (xs ys : List V) (x y : V), SqS K H k a xs ∧ SqS K H j b ys ∧ xs[i]? = some x ∧ ys[i]? = some y,
    fun i H v H' => ∃ T x y, v = .ref T ∧ H T = none ∧ H' = upd H T (.tup [x, y]) ∧ (∀ vs, SqS K H k a vs → vs[i]? = some x) ∧ (∀ vs, SqS K H j b vs → vs[i]? = some y),
    fun i H => ∃ xs ys : List V, SqS K H k a xs ∧ SqS K H j b ys ∧ i ≤ xs.length ∧ i ≤ ys.length ∧ (i = xs.length ∨ i = ys.length)⟩
theorem turn_zip2S {P : Program} {w : World} {K : PySem.W.Frag} {elts : List Expr} {kk : Nat} {tpos : Pos} (k j : Bool) {a b zz TI TO i1 i2 : Addr} (S : ZipSep2 zz TI TO i1 i2 [i1, a] [i2, b]) (n1 : a ≠ i1) (n2 : b ≠ i2) :
    Turn P w K (.Tuple elts kk tpos) (Itz2 K k j a b) [zz, TI, TO, i1, i2] zz (fun i h => IsZip h zz TI TO .none ∧ IsTupOf2 h TI (.ref i1) (.ref i2) ∧ (∃ x y, IsTupOf2 h TO x y) ∧ ItS h k i1 a i ∧ ItS h j i2 b i) where
  mem := by simp
  obj := fun i h st d hd => by
    obtain ⟨hz, hTI, ⟨q0, q1, hTO⟩, h1, h2⟩ := st
    have q : d = zz ∨ d = TI ∨ d = TO ∨ d = i1 ∨ d = i2 := by simpa using hd
    rcases q with q | q | q | q | q
    · subst q; exact ⟨_, hz, fun v q => nomatch q⟩
    · subst q; exact ⟨_, hTI, fun v q => nomatch q⟩
    · subst q; exact ⟨_, hTO, fun v q => nomatch q⟩
    · subst q; exact h1.get
    · subst q; exact h2.get
  keep := fun i h h' st q => by
    obtain ⟨hz, hTI, ⟨q0, q1, hTO⟩, h1, h2⟩ := st
    exact ⟨q zz (by simp) _ hz, q TI (by simp) _ hTI, ⟨q0, q1, q TO (by simp) _ hTO⟩, h1.at fun o e => q i1 (by simp) o e, h2.at fun o e => q i2 (by simp) o e⟩
  item := by
    intro X hP hw hK hc i pins s σ H E I hf st hg
    subst hP hw hK
    obtain ⟨hz, hTI, ⟨q0, q1, hTO⟩, h1, h2⟩ := st
    obtain ⟨xs, ys, x, y, g1, g2, e1, e2⟩ := hg
    obtain ⟨u1, rv1, p1, la1⟩ := Inv.seqS I g1
    obtain ⟨w1, hw1, rw1⟩ := rv1.get e1
    have l1 : i < u1.toArray.size := by
      rw [List.size_toArray, ← rv1.length]
      exact (List.getElem?_eq_some_iff.mp e1).1
    obtain ⟨u2, rv2, p2, la2⟩ := Inv.seqS I g2
    obtain ⟨w2, hw2, rw2⟩ := rv2.get e2
    have l2 : i < u2.toArray.size := by
      rw [List.size_toArray, ← rv2.length]
      exact (List.getElem?_eq_some_iff.mp e2).1
    have zl : zz < s.heap.objs.size := Heap.lt_size hz
    have Tl : TI < s.heap.objs.size := Heap.lt_size hTI
    have Ol : TO < s.heap.objs.size := Heap.lt_size hTO
    have il1 : i1 < s.heap.objs.size := by obtain ⟨_, q, _⟩ := h1.get; exact Heap.lt_size q
    have il2 : i2 < s.heap.objs.size := by obtain ⟨_, q, _⟩ := h2.get; exact Heap.lt_size q
    refine wpAny_pyNext_zipD2_item S (drawsS (k := k) (A := X.A.in1) (I.ok.hd hc) n1 u1.toArray) (drawsS (k := j) (A := X.A.in1) (I.ok.hd hc) n2 u2.toArray) hz hTI hTO ⟨h1, p1⟩ ⟨h2, p2⟩ l1 l2 fun y1 y2 h' tk hy1 hy2 hZ hO ss1 ss2 hT hsz hkp => ?_
    have ey1 : y1 = w1 := by
      have z : u1.toArray[i]? = some w1 := by simpa using hw1
      exact Option.some.inj (hy1.symm.trans z)
    subst ey1
    have ey2 : y2 = w2 := by
      have z : u2.toArray[i]? = some w2 := by simpa using hw2
      exact Option.some.inj (hy2.symm.trans z)
    subst ey2
    refine ⟨_, rfl, wpAny_letOwnedTupleGo_zip (s := { s with heap := h', toks := tk }) hZ fun h'' hZ' sb => ?_⟩
    have hT2 : h''.get? s.heap.objs.size = some { cls := .type "tuple", data := .seq #[y1, y2] } := (sb.2 _ (Nat.ne_of_gt zl)).trans hT
    have new : ObjOk X.prog X.w (upd H s.heap.objs.size (.tup [x, y])) h'' s.heap.objs.size (.tup [x, y]) :=
      ⟨by show 2 ≤ sizeLine; decide, [y1, y2], (.cons rw1 (.cons rw2 .nil)), ⟨_, hT2, rfl, _, rfl⟩⟩
    have up : ∀ b o, b ∉ [zz, TI, TO, i1, i2] → s.heap.get? b = some o → h''.get? b = some o := fun b o hb q => (sb.2 b fun z => hb (by simp [z])).trans (hkp b o (fun z => hb (by simp [z])) (fun z => hb (by simp [z])) (fun z => hb (by simp [z])) (fun z => hb (by simp [z])) q)
    have I1 : Inv X pins σ (upd H s.heap.objs.size (.tup [x, y])) { s with heap := h'', toks := tk } :=
      I.turnedNew up hf (Nat.le_refl _) new
    refine ⟨.ref s.heap.objs.size, _, I1, rfl, ⟨_, x, y, rfl, I.hok.fresh (Nat.le_refl _), rfl, fun vs hv => by rw [Inv.injS I hv g1]; exact e1, fun vs hv => by rw [Inv.injS I hv g2]; exact e2⟩, ⟨hZ', ?_, ⟨_, _, (sb.2 TO S.TOz).trans hO⟩, ss1.1.at fun o q => (sb.2 i1 ?_).trans q, ss2.1.at fun o q => (sb.2 i2 ?_).trans q⟩, fun b hb => ?_⟩
    · exact (sb.2 TI S.TIz).trans (hkp TI _ S.TIz S.TITO S.TIi1 S.TIi2 hTI)
    · exact fun e => S.zf1 (by rw [← e]; simp)
    · exact fun e => S.zf2 (by rw [← e]; simp)
    · have lb : b < s.heap.objs.size := by
        have q : b = zz ∨ b = TI ∨ b = TO ∨ b = i1 ∨ b = i2 := by simpa using hb
        rcases q with q | q | q | q | q
        · rw [q]; exact zl
        · rw [q]; exact Tl
        · rw [q]; exact Ol
        · rw [q]; exact il1
        · rw [q]; exact il2
      rw [upd_ne (Nat.ne_of_lt lb)]
      exact (hf b hb).1
  done := by
    intro X hP hw hK hc i pins s σ H E I hf st hg
    subst hP hw hK
    obtain ⟨hz, hTI, ⟨q0, q1, hTO⟩, h1, h2⟩ := st
    obtain ⟨xs, ys, g1, g2, e1, e2, ee⟩ := hg
    obtain ⟨u1, rv1, p1, la1⟩ := Inv.seqS I g1
    have ez1 : u1.toArray.size = xs.length := by rw [List.size_toArray, ← rv1.length]
    obtain ⟨u2, rv2, p2, la2⟩ := Inv.seqS I g2
    have ez2 : u2.toArray.size = ys.length := by rw [List.size_toArray, ← rv2.length]
    exact wpAny_pyNext_zipD2_end S (drawsS (k := k) (A := X.A.in1) (I.ok.hd hc) n1 u1.toArray) (drawsS (k := j) (A := X.A.in1) (I.ok.hd hc) n2 u2.toArray) hz hTI hTO ⟨h1, p1⟩ ⟨h2, p2⟩ (by rw [ez1]; exact e1) (by rw [ez2]; exact e2) (by rw [ez1, ez2]; exact ee) fun h' tk eb => ⟨rfl, I.turnedL (t' := tk) (ch := [zz, TI, TO, i1, i2]) (fun b o hb q => eb b o (fun z => hb (by simp [z])) (fun z => hb (by simp [z])) (fun z => hb (by simp [z])) (fun z => hb (by simp [z])) q) hf⟩
  self := fun A i s Q E st h => wpAny_pyIter_zip st.1 h
def iZip2 (K : PySem.W.Frag) (k j : Bool) (ta : TA) : TI := fun σ H R => ta σ H fun vs H1 => ∃ a b xs ys, vs = [.ref a, .ref b] ∧ SqS K H1 k a xs ∧ SqS K H1 j b ys ∧ R (Itz2 K k j a b) H1
theorem pi_zip2S {X : Cx} {ex1 ex2 : Expr} {ta : TA} {p pos tpos : Pos} {elts : List Expr} {kk : Nat} (k j : Bool) (hg : Gl X "zip") (hm : X.mg "zip" = none) (ha : PA X [ex1, ex2] ta) (hs : starEach [ex1, ex2] X.env = (false, eval ex1 X.env) :: starEach [ex2] X.env) (hpl : (backTo pos (starEach [ex2] X.env)).any (·.1) = false) :
    PI X (.Tuple elts kk tpos) (.Call (.Name "zip" p) [ex1, ex2] [] pos) (iZip2 X.K k j ta) := by
  refine ⟨fun pins s σ H R I h => ?_⟩
  refine Call_ (ld_blt I hg hm boot_zip (PyProof.Rows.callWith_type1 (thn (ha.run pos pins s σ H _ I h) fun us s1 ⟨vs, H1, I1, r1, q1⟩ => ?_) hs hpl))
  obtain ⟨a, b, xs, ys, ex, g1, g2, q⟩ := q1
  subst ex
  obtain ⟨v1, v2, rfl, t1, t2⟩ : ∃ v1 v2, us = [v1, v2] ∧ RelV (.ref a) v1 ∧ RelV (.ref b) v2 := by
    cases r1 with
    | cons t1 rr0 =>
      cases rr0 with
      | cons t2 rr1 =>
        cases rr1
        exact ⟨_, _, rfl, t1, t2⟩
  cases t1
  cases t2
  obtain ⟨ws1, rv1, hS1, la1⟩ := Inv.seqS I1 g1
  obtain ⟨ws2, rv2, hS2, la2⟩ := Inv.seqS I1 g2
  refine zip_begins2 (beginsS (k := k) ws1.toArray) (beginsS (k := j) ws2.toArray) hS1 hS2 fun h' hZ hTI hTO gg1 gg2 hsz hk => wpAny_pyIter_zip hZ ?_
  have I2 : Inv X pins σ H1 { s1 with heap := h' } := I1.kept (t' := s1.toks) hk
  refine ⟨s1.heap.objs.size + 4, [s1.heap.objs.size + 4, s1.heap.objs.size + 2, s1.heap.objs.size + 3, s1.heap.objs.size, s1.heap.objs.size + 1], _, _, H1, rfl, I2, turn_zip2S k j (zip_sep2 (fun b hb => by rw [List.mem_singleton.mp hb]; exact la1) (fun b hb => by rw [List.mem_singleton.mp hb]; exact la2)) (ltne 0 la1) (ltne 1 la2), ⟨hZ, hTI, ⟨_, _, hTO⟩, obS_it gg1, obS_it gg2⟩, fun b hb => ?_, q⟩
  have le : s1.heap.objs.size ≤ b := by
    have q : b = s1.heap.objs.size + 4 ∨ b = s1.heap.objs.size + 2 ∨ b = s1.heap.objs.size + 3 ∨ b = s1.heap.objs.size ∨ b = s1.heap.objs.size + 1 := by simpa using hb
    rcases q with q | q | q | q | q
    · rw [q]; exact Nat.le_add_right _ 4
    · rw [q]; exact Nat.le_add_right _ 2
    · rw [q]; exact Nat.le_add_right _ 3
    · rw [q]; exact Nat.le_add_right _ 0
    · rw [q]; exact Nat.le_add_right _ 1
  exact I1.fpOk le (I1.hok.fresh le)
def Itz3 (K : PySem.W.Frag) (k j m : Bool) (a b d : Addr) : It :=
  ⟨fun i H => ∃ (xs ys zs : List V) (x y z : V), SqS K H k a xs ∧ SqS K H j b ys ∧ SqS K H m d zs ∧ xs[i]? = some x ∧ ys[i]? = some y ∧ zs[i]? = some z,
    fun i H v H' => ∃ T x y z, v = .ref T ∧ H T = none ∧ H' = upd H T (.tup [x, y, z]) ∧ (∀ vs, SqS K H k a vs → vs[i]? = some x) ∧ (∀ vs, SqS K H j b vs → vs[i]? = some y) ∧ (∀ vs, SqS K H m d vs → vs[i]? = some z),
    fun i H => ∃ xs ys zs : List V, SqS K H k a xs ∧ SqS K H j b ys ∧ SqS K H m d zs ∧ i ≤ xs.length ∧ i ≤ ys.length ∧ i ≤ zs.length ∧ (i = xs.length ∨ i = ys.length ∨ i = zs.length)⟩
theorem turn_zip3S {P : Program} {w : World} {K : PySem.W.Frag} {elts : List Expr} {kk : Nat} {tpos : Pos} (k j m : Bool) {a b d zz TI TO i1 i2 i3 : Addr} (S : ZipSep3 zz TI TO i1 i2 i3 [i1, a] [i2, b] [i3, d]) (n1 : a ≠ i1) (n2 : b ≠ i2) (n3 : d ≠ i3) :
    Turn P w K (.Tuple elts kk tpos) (Itz3 K k j m a b d) [zz, TI, TO, i1, i2, i3] zz (fun i h => IsZip h zz TI TO .none ∧ IsTupOf3 h TI (.ref i1) (.ref i2) (.ref i3) ∧ (∃ x y z, IsTupOf3 h TO x y z) ∧ ItS h k i1 a i ∧ ItS h j i2 b i ∧ ItS h m i3 d i) where
  mem := by simp
  obj := fun i h st d hd => by
    obtain ⟨hz, hTI, ⟨q0, q1, q2, hTO⟩, h1, h2, h3⟩ := st
    have q : d = zz ∨ d = TI ∨ d = TO ∨ d = i1 ∨ d = i2 ∨ d = i3 := by simpa using hd
    rcases q with q | q | q | q | q | q
    · subst q; exact ⟨_, hz, fun v q => nomatch q⟩
    · subst q; exact ⟨_, hTI, fun v q => nomatch q⟩
    · subst q; exact ⟨_, hTO, fun v q => nomatch q⟩
    · subst q; exact h1.get
    · subst q; exact h2.get
    · subst q; exact h3.get
  keep := fun i h h' st q => by
    obtain ⟨hz, hTI, ⟨q0, q1, q2, hTO⟩, h1, h2, h3⟩ := st
    exact ⟨q zz (by simp) _ hz, q TI (by simp) _ hTI, ⟨q0, q1, q2, q TO (by simp) _ hTO⟩, h1.at fun o e => q i1 (by simp) o e, h2.at fun o e => q i2 (by simp) o e, h3.at fun o e => q i3 (by simp) o e⟩
  item := by
    intro X hP hw hK hc i pins s σ H E I hf st hg
    subst hP hw hK
    obtain ⟨hz, hTI, ⟨q0, q1, q2, hTO⟩, h1, h2, h3⟩ := st
    obtain ⟨xs, ys, zs, x, y, z, g1, g2, g3, e1, e2, e3⟩ := hg
    obtain ⟨u1, rv1, p1, la1⟩ := Inv.seqS I g1
    obtain ⟨w1, hw1, rw1⟩ := rv1.get e1
    have l1 : i < u1.toArray.size := by
      rw [List.size_toArray, ← rv1.length]
      exact (List.getElem?_eq_some_iff.mp e1).1
    obtain ⟨u2, rv2, p2, la2⟩ := Inv.seqS I g2
    obtain ⟨w2, hw2, rw2⟩ := rv2.get e2
    have l2 : i < u2.toArray.size := by
      rw [List.size_toArray, ← rv2.length]
      exact (List.getElem?_eq_some_iff.mp e2).1
    obtain ⟨u3, rv3, p3, la3⟩ := Inv.seqS I g3
    obtain ⟨w3, hw3, rw3⟩ := rv3.get e3
    have l3 : i < u3.toArray.size := by
      rw [List.size_toArray, ← rv3.length]
      exact (List.getElem?_eq_some_iff.mp e3).1
    have zl : zz < s.heap.objs.size := Heap.lt_size hz
    have Tl : TI < s.heap.objs.size := Heap.lt_size hTI
    have Ol : TO < s.heap.objs.size := Heap.lt_size hTO
    have il1 : i1 < s.heap.objs.size := by obtain ⟨_, q, _⟩ := h1.get; exact Heap.lt_size q
    have il2 : i2 < s.heap.objs.size := by obtain ⟨_, q, _⟩ := h2.get; exact Heap.lt_size q
    have il3 : i3 < s.heap.objs.size := by obtain ⟨_, q, _⟩ := h3.get; exact Heap.lt_size q
    refine wpAny_pyNext_zipD3_item S (drawsS (k := k) (A := X.A.in1) (I.ok.hd hc) n1 u1.toArray) (drawsS (k := j) (A := X.A.in1) (I.ok.hd hc) n2 u2.toArray) (drawsS (k := m) (A := X.A.in1) (I.ok.hd hc) n3 u3.toArray) hz hTI hTO ⟨h1, p1⟩ ⟨h2, p2⟩ ⟨h3, p3⟩ l1 l2 l3 fun y1 y2 y3 h' tk hy1 hy2 hy3 hZ hO ss1 ss2 ss3 hT hsz hkp => ?_
    have ey1 : y1 = w1 := by
      have z : u1.toArray[i]? = some w1 := by simpa using hw1
      exact Option.some.inj (hy1.symm.trans z)
    subst ey1
    have ey2 : y2 = w2 := by
      have z : u2.toArray[i]? = some w2 := by simpa using hw2
      exact Option.some.inj (hy2.symm.trans z)
    subst ey2
    have ey3 : y3 = w3 := by
      have z : u3.toArray[i]? = some w3 := by simpa using hw3
      exact Option.some.inj (hy3.symm.trans z)
    subst ey3
    refine ⟨_, rfl, wpAny_letOwnedTupleGo_zip (s := { s with heap := h', toks := tk }) hZ fun h'' hZ' sb => ?_⟩
    have hT2 : h''.get? s.heap.objs.size = some { cls := .type "tuple", data := .seq #[y1, y2, y3] } := (sb.2 _ (Nat.ne_of_gt zl)).trans hT
    have new : ObjOk X.prog X.w (upd H s.heap.objs.size (.tup [x, y, z])) h'' s.heap.objs.size (.tup [x, y, z]) :=
      ⟨by show 3 ≤ sizeLine; decide, [y1, y2, y3], (.cons rw1 (.cons rw2 (.cons rw3 .nil))), ⟨_, hT2, rfl, _, rfl⟩⟩
    have up : ∀ b o, b ∉ [zz, TI, TO, i1, i2, i3] → s.heap.get? b = some o → h''.get? b = some o := fun b o hb q => (sb.2 b fun z => hb (by simp [z])).trans (hkp b o (fun z => hb (by simp [z])) (fun z => hb (by simp [z])) (fun z => hb (by simp [z])) (fun z => hb (by simp [z])) (fun z => hb (by simp [z])) q)
    have I1 : Inv X pins σ (upd H s.heap.objs.size (.tup [x, y, z])) { s with heap := h'', toks := tk } :=
      I.turnedNew up hf (Nat.le_refl _) new
    refine ⟨.ref s.heap.objs.size, _, I1, rfl, ⟨_, x, y, z, rfl, I.hok.fresh (Nat.le_refl _), rfl, fun vs hv => by rw [Inv.injS I hv g1]; exact e1, fun vs hv => by rw [Inv.injS I hv g2]; exact e2, fun vs hv => by rw [Inv.injS I hv g3]; exact e3⟩, ⟨hZ', ?_, ⟨_, _, _, (sb.2 TO S.TOz).trans hO⟩, ss1.1.at fun o q => (sb.2 i1 ?_).trans q, ss2.1.at fun o q => (sb.2 i2 ?_).trans q, ss3.1.at fun o q => (sb.2 i3 ?_).trans q⟩, fun b hb => ?_⟩
    · exact (sb.2 TI S.TIz).trans (hkp TI _ S.TIz S.TITO S.TIi1 S.TIi2 S.TIi3 hTI)
    · exact fun e => S.zf1 (by rw [← e]; simp)
    · exact fun e => S.zf2 (by rw [← e]; simp)
    · exact fun e => S.zf3 (by rw [← e]; simp)
    · have lb : b < s.heap.objs.size := by
        have q : b = zz ∨ b = TI ∨ b = TO ∨ b = i1 ∨ b = i2 ∨ b = i3 := by simpa using hb
        rcases q with q | q | q | q | q | q
        · rw [q]; exact zl
        · rw [q]; exact Tl
        · rw [q]; exact Ol
        · rw [q]; exact il1
        · rw [q]; exact il2
        · rw [q]; exact il3
      rw [upd_ne (Nat.ne_of_lt lb)]
      exact (hf b hb).1
  done := by
    intro X hP hw hK hc i pins s σ H E I hf st hg
    subst hP hw hK
    obtain ⟨hz, hTI, ⟨q0, q1, q2, hTO⟩, h1, h2, h3⟩ := st
    obtain ⟨xs, ys, zs, g1, g2, g3, e1, e2, e3, ee⟩ := hg
    obtain ⟨u1, rv1, p1, la1⟩ := Inv.seqS I g1
    have ez1 : u1.toArray.size = xs.length := by rw [List.size_toArray, ← rv1.length]
    obtain ⟨u2, rv2, p2, la2⟩ := Inv.seqS I g2
    have ez2 : u2.toArray.size = ys.length := by rw [List.size_toArray, ← rv2.length]
    obtain ⟨u3, rv3, p3, la3⟩ := Inv.seqS I g3
    have ez3 : u3.toArray.size = zs.length := by rw [List.size_toArray, ← rv3.length]
    exact wpAny_pyNext_zipD3_end S (drawsS (k := k) (A := X.A.in1) (I.ok.hd hc) n1 u1.toArray) (drawsS (k := j) (A := X.A.in1) (I.ok.hd hc) n2 u2.toArray) (drawsS (k := m) (A := X.A.in1) (I.ok.hd hc) n3 u3.toArray) hz hTI hTO ⟨h1, p1⟩ ⟨h2, p2⟩ ⟨h3, p3⟩ (by rw [ez1]; exact e1) (by rw [ez2]; exact e2) (by rw [ez3]; exact e3) (by rw [ez1, ez2, ez3]; exact ee) fun h' tk eb => ⟨rfl, I.turnedL (t' := tk) (ch := [zz, TI, TO, i1, i2, i3]) (fun b o hb q => eb b o (fun z => hb (by simp [z])) (fun z => hb (by simp [z])) (fun z => hb (by simp [z])) (fun z => hb (by simp [z])) (fun z => hb (by simp [z])) q) hf⟩
  self := fun A i s Q E st h => wpAny_pyIter_zip st.1 h
def iZip3 (K : PySem.W.Frag) (k j m : Bool) (ta : TA) : TI := fun σ H R => ta σ H fun vs H1 => ∃ a b d xs ys zs, vs = [.ref a, .ref b, .ref d] ∧ SqS K H1 k a xs ∧ SqS K H1 j b ys ∧ SqS K H1 m d zs ∧ R (Itz3 K k j m a b d) H1
theorem pi_zip3S {X : Cx} {ex1 ex2 ex3 : Expr} {ta : TA} {p pos tpos : Pos} {elts : List Expr} {kk : Nat} (k j m : Bool) (hg : Gl X "zip") (hm : X.mg "zip" = none) (ha : PA X [ex1, ex2, ex3] ta) (hs : starEach [ex1, ex2, ex3] X.env = (false, eval ex1 X.env) :: starEach [ex2, ex3] X.env) (hpl : (backTo pos (starEach [ex2, ex3] X.env)).any (·.1) = false) :
    PI X (.Tuple elts kk tpos) (.Call (.Name "zip" p) [ex1, ex2, ex3] [] pos) (iZip3 X.K k j m ta) := by
  refine ⟨fun pins s σ H R I h => ?_⟩
  refine Call_ (ld_blt I hg hm boot_zip (PyProof.Rows.callWith_type1 (thn (ha.run pos pins s σ H _ I h) fun us s1 ⟨vs, H1, I1, r1, q1⟩ => ?_) hs hpl))
  obtain ⟨a, b, d, xs, ys, zs, ex, g1, g2, g3, q⟩ := q1
  subst ex
  obtain ⟨v1, v2, v3, rfl, t1, t2, t3⟩ : ∃ v1 v2 v3, us = [v1, v2, v3] ∧ RelV (.ref a) v1 ∧ RelV (.ref b) v2 ∧ RelV (.ref d) v3 := by
    cases r1 with
    | cons t1 rr0 =>
      cases rr0 with
      | cons t2 rr1 =>
        cases rr1 with
        | cons t3 rr2 =>
          cases rr2
          exact ⟨_, _, _, rfl, t1, t2, t3⟩
  cases t1
  cases t2
  cases t3
  obtain ⟨ws1, rv1, hS1, la1⟩ := Inv.seqS I1 g1
  obtain ⟨ws2, rv2, hS2, la2⟩ := Inv.seqS I1 g2
  obtain ⟨ws3, rv3, hS3, la3⟩ := Inv.seqS I1 g3
  refine zip_begins3 (beginsS (k := k) ws1.toArray) (beginsS (k := j) ws2.toArray) (beginsS (k := m) ws3.toArray) hS1 hS2 hS3 fun h' hZ hTI hTO gg1 gg2 gg3 hsz hk => wpAny_pyIter_zip hZ ?_
  have I2 : Inv X pins σ H1 { s1 with heap := h' } := I1.kept (t' := s1.toks) hk
  refine ⟨s1.heap.objs.size + 5, [s1.heap.objs.size + 5, s1.heap.objs.size + 3, s1.heap.objs.size + 4, s1.heap.objs.size, s1.heap.objs.size + 1, s1.heap.objs.size + 2], _, _, H1, rfl, I2, turn_zip3S k j m (zip_sep3 (fun b hb => by rw [List.mem_singleton.mp hb]; exact la1) (fun b hb => by rw [List.mem_singleton.mp hb]; exact la2) (fun b hb => by rw [List.mem_singleton.mp hb]; exact la3)) (ltne 0 la1) (ltne 1 la2) (ltne 2 la3), ⟨hZ, hTI, ⟨_, _, _, hTO⟩, obS_it gg1, obS_it gg2, obS_it gg3⟩, fun b hb => ?_, q⟩
  have le : s1.heap.objs.size ≤ b := by
    have q : b = s1.heap.objs.size + 5 ∨ b = s1.heap.objs.size + 3 ∨ b = s1.heap.objs.size + 4 ∨ b = s1.heap.objs.size ∨ b = s1.heap.objs.size + 1 ∨ b = s1.heap.objs.size + 2 := by simpa using hb
    rcases q with q | q | q | q | q | q
    · rw [q]; exact Nat.le_add_right _ 5
    · rw [q]; exact Nat.le_add_right _ 3
    · rw [q]; exact Nat.le_add_right _ 4
    · rw [q]; exact Nat.le_add_right _ 0
    · rw [q]; exact Nat.le_add_right _ 1
    · rw [q]; exact Nat.le_add_right _ 2
  exact I1.fpOk le (I1.hok.fresh le)
end Se
end
section
set_option Elab.async false
set_option linter.all false
set_option maxRecDepth 100000
set_option maxHeartbeats 4000000
namespace Se
open PySem PySem.Spec PyProof.Rows L2
/-! ### walks -/
abbrev HRel := Hp → List Addr → Prop
def Wk (K : PySem.W.Frag) (c : Addr) (rel : HRel) (J : It) (ds : List D) : Prop := ∀ H Z, rel H Z → ZOk H Z → c ∈ Z →
  (∀ i d, ds[i]? = some d → J.go i H ∧ ∀ x H', J.yld i H x H' → Keep c H H' ∧ H' c = H c ∧ Dv K H' Z x d) ∧ J.stop ds.length H
def rK (c : Addr) (H1 : Hp) (Z1 : List Addr) : HRel := fun H Z => Keep c H1 H ∧ ∀ a ∈ Z, a ∈ Z1 ∨ H1 a = none
def rL (H1 : Hp) (Z1 : List Addr) : HRel := fun H Z => Later H1 Z1 H Z
def lI (K : PySem.W.Frag) (c : Addr) (rl : Hp → List Addr → HRel) (f : Ev → M (List D)) : TI := fun σ H R => ∃ Z env cs ds cs', Pre K c H Z σ env cs ∧ f env cs = some (ds, cs') ∧ ∀ J H1, Keep c H H1 → Cell H1 c cs' → Wk K c (rl H1 Z) J ds → R J H1
abbrev SI := CF → Ev → M (List D)
theorem rK.later {c : Addr} {H1 H : Hp} {Z1 Z : List Addr} (r : rK c H1 Z1 H Z) (h : c ∈ Z1) : Later H1 Z1 H Z := ⟨fun a o e n => r.1 a o e fun q => n (q ▸ h), r.2⟩
/-- a source that stays -/
def Sr (K : PySem.W.Frag) (c : Addr) (rel : HRel) (k : Bool) (a : Addr) (xs : List V) (ds : List D) : Prop := ∀ H Z, rel H Z → ZOk H Z → c ∈ Z → SqS K H k a xs ∧ DvA K H Z xs ds
def sq : D → Option (Bool × List D)
  | .list ds => some (true, ds)
  | .tuple ds => some (false, ds)
  | _ => none
structure Lk (K : PySem.W.Frag) (c : Addr) (R : Rel D) (rl : Hp → List Addr → HRel) : Prop where
  st : Stays R K c
  src : ∀ (H1 : Hp) (Z1 : List Addr) (v : V) (d : D) (k : Bool) (ds : List D), ZOk H1 Z1 → c ∈ Z1 → R H1 Z1 v d → sq d = some (k, ds) → ∃ a xs, v = .ref a ∧ SqS K H1 k a xs ∧ Sr K c (rl H1 Z1) k a xs ds
theorem sqT_later {K : PySem.W.Frag} {H H' : Hp} {Z Z' : List Addr} {a : Addr} {xs : List V} (z : ZOk H Z) (l : Later H Z H' Z') (h : SqT K H a xs) : SqT K H' a xs := SqT.later z l h
theorem lkL {K : PySem.W.Frag} {c : Addr} : Lk K c (fun H Z => Dv K H Z) rL where
  st := stays_dv
  src := fun H1 Z1 v d k ds z cz r e => by
    cases d with
    | list es =>
      cases e
      cases r with
      | @lst a xs _ hs hn ha => exact ⟨a, xs, rfl, .inl (.inl hs), fun H Z l z' cz' => ⟨.inl (.inl (l.1 a _ hs hn)), DvA.later z l ds xs ha⟩⟩
    | tuple es =>
      cases e
      cases r with
      | @tup a xs _ hs ha => exact ⟨a, xs, rfl, hs, fun H Z l z' cz' => ⟨sqT_later z l hs, DvA.later z l ds xs ha⟩⟩
    | _ => cases e
theorem lkK {K : PySem.W.Frag} {c : Addr} : Lk K c (fun H Z => DvP K H Z c) (rK c) where
  st := stays_dvp
  src := fun H1 Z1 v d k ds z cz r e => by
    rcases r with r | ⟨a, rfl, ha, n, xs, es, e2, h1, h2⟩
    · cases d with
      | list es =>
        cases e
        cases r with
        | @lst a xs _ hs hn ha => exact ⟨a, xs, rfl, .inl (.inl hs), fun H Z l z' cz' => ⟨.inl (.inl ((l.later cz).1 a _ hs hn)), DvA.later z (l.later cz) ds xs ha⟩⟩
      | tuple es =>
        cases e
        cases r with
        | @tup a xs _ hs ha => exact ⟨a, xs, rfl, hs, fun H Z l z' cz' => ⟨sqT_later z (l.later cz) hs, DvA.later z (l.later cz) ds xs ha⟩⟩
      | _ => cases e
    · subst e2
      cases e
      exact ⟨a, xs, rfl, .inl (.inl h1), fun H Z l z' cz' => ⟨.inl (.inl (l.1 a _ h1 n)), DvA.later z (l.later cz) ds xs h2⟩⟩
theorem upd_c {H : Hp} {Z : List Addr} {c p : Addr} {o : HO} (z : ZOk H Z) (cz : c ∈ Z) (hp : H p = none) : (upd H p o) c = H c := upd_ne fun e => by
  have m := z c cz
  rw [e, hp] at m
  exact m
theorem wk_seq {K : PySem.W.Frag} {c : Addr} {rel : HRel} {k : Bool} {a : Addr} {xs : List V} {ds : List D} (s : Sr K c rel k a xs ds) : Wk K c rel (if k = true then Itl K a else Itt K a) ds := fun H Z r z cz => by
  obtain ⟨h1, h2⟩ := s H Z r z cz
  cases k with
  | true =>
    refine ⟨fun i d e => ?_, xs, h1, Nat.le_of_eq h2.length⟩
    obtain ⟨v, e1, rv⟩ := h2.get e
    refine ⟨⟨xs, v, h1, e1⟩, fun x H' y => ?_⟩
    obtain ⟨rfl, y⟩ := y
    have e2 := y xs h1
    rw [e1] at e2
    cases e2
    exact ⟨.refl, rfl, rv⟩
  | false =>
    refine ⟨fun i d e => ?_, xs, h1, Nat.le_of_eq h2.length⟩
    obtain ⟨v, e1, rv⟩ := h2.get e
    refine ⟨⟨xs, v, h1, e1⟩, fun x H' y => ?_⟩
    obtain ⟨rfl, y⟩ := y
    have e2 := y xs h1
    rw [e1] at e2
    cases e2
    exact ⟨.refl, rfl, rv⟩
def enumD : Nat → List D → List D
  | _, [] => []
  | n, d :: ds => .tuple [.int n, d] :: enumD (n + 1) ds
theorem enumD_get : ∀ {ds : List D} {n i : Nat} {d : D}, (enumD n ds)[i]? = some d → ∃ e, ds[i]? = some e ∧ d = .tuple [.int ((n + i : Nat) : Int), e]
  | [], n, i, d, h => by simp [enumD] at h
  | e :: ds, n, 0, d, h => by
    simp [enumD] at h
    exact ⟨e, by simp, h.symm⟩
  | e :: ds, n, i + 1, d, h => by
    have h' : (enumD (n + 1) ds)[i]? = some d := by simpa [enumD] using h
    obtain ⟨e', h1, h2⟩ := enumD_get h'
    refine ⟨e', by simpa using h1, ?_⟩
    rw [h2]
    have : n + 1 + i = n + (i + 1) := by omega
    rw [this]
theorem enumD_len : ∀ {ds : List D} {n : Nat}, (enumD n ds).length = ds.length
  | [], n => rfl
  | d :: ds, n => by simp [enumD, enumD_len]
theorem wk_enum {K : PySem.W.Frag} {c : Addr} {rel : HRel} {k : Bool} {a : Addr} {xs : List V} {ds : List D} (s : Sr K c rel k a xs ds) : Wk K c rel (IteS K k a) (enumD 0 ds) := fun H Z r z cz => by
  obtain ⟨h1, h2⟩ := s H Z r z cz
  refine ⟨fun i d e => ?_, xs, h1, by rw [enumD_len]; exact h2.length⟩
  obtain ⟨e', e1, rfl⟩ := enumD_get e
  obtain ⟨v, e2, rv⟩ := h2.get e1
  refine ⟨⟨xs, v, h1, e2⟩, fun x H' y => ?_⟩
  obtain ⟨T, y, rfl, hT, rfl, hy⟩ := y
  have e3 := hy xs h1
  rw [e2] at e3
  cases e3
  have kp : Keep c H (upd H T (.tup [.int (i : Nat), v])) := .upd hT
  refine ⟨kp, upd_c z cz hT, .tup (SqT.of upd_same) (.cons ?_ (.cons (Dv.later z (kp.later cz) _ _ rv) .nil))⟩
  rw [Nat.zero_add]
  exact .int _
def zipD : List D → List D → List D
  | d :: ds, e :: es => .tuple [d, e] :: zipD ds es
  | _, _ => []
def zipD3 : List D → List D → List D → List D
  | d :: ds, e :: es, f :: fs => .tuple [d, e, f] :: zipD3 ds es fs
  | _, _, _ => []
theorem zipD_get : ∀ {ds es : List D} {i : Nat} {d : D}, (zipD ds es)[i]? = some d → ∃ x y, ds[i]? = some x ∧ es[i]? = some y ∧ d = .tuple [x, y]
  | [], _, i, d, h => by simp [zipD] at h
  | _ :: _, [], i, d, h => by simp [zipD] at h
  | x :: ds, y :: es, 0, d, h => by
    simp [zipD] at h
    exact ⟨x, y, by simp, by simp, h.symm⟩
  | x :: ds, y :: es, i + 1, d, h => by
    have h' : (zipD ds es)[i]? = some d := by simpa [zipD] using h
    obtain ⟨a, b, h1, h2, h3⟩ := zipD_get h'
    exact ⟨a, b, by simpa using h1, by simpa using h2, h3⟩
theorem zipD_len : ∀ {ds es : List D}, (zipD ds es).length ≤ ds.length ∧ (zipD ds es).length ≤ es.length ∧ ((zipD ds es).length = ds.length ∨ (zipD ds es).length = es.length)
  | [], es => ⟨by simp [zipD], by simp [zipD], .inl rfl⟩
  | d :: ds, [] => ⟨by simp [zipD], by simp [zipD], .inr rfl⟩
  | d :: ds, e :: es => by
    obtain ⟨h1, h2, h3⟩ := zipD_len (ds := ds) (es := es)
    refine ⟨by simp [zipD, h1], by simp [zipD, h2], ?_⟩
    simpa [zipD] using h3
theorem zipD3_get : ∀ {ds es fs : List D} {i : Nat} {d : D}, (zipD3 ds es fs)[i]? = some d → ∃ x y z, ds[i]? = some x ∧ es[i]? = some y ∧ fs[i]? = some z ∧ d = .tuple [x, y, z]
  | [], _, _, i, d, h => by simp [zipD3] at h
  | _ :: _, [], _, i, d, h => by simp [zipD3] at h
  | _ :: _, _ :: _, [], i, d, h => by simp [zipD3] at h
  | x :: ds, y :: es, z :: fs, 0, d, h => by
    simp [zipD3] at h
    exact ⟨x, y, z, by simp, by simp, by simp, h.symm⟩
  | x :: ds, y :: es, z :: fs, i + 1, d, h => by
    have h' : (zipD3 ds es fs)[i]? = some d := by simpa [zipD3] using h
    obtain ⟨a, b, c, h1, h2, h3, h4⟩ := zipD3_get h'
    exact ⟨a, b, c, by simpa using h1, by simpa using h2, by simpa using h3, h4⟩
theorem zipD3_len : ∀ {ds es fs : List D}, (zipD3 ds es fs).length ≤ ds.length ∧ (zipD3 ds es fs).length ≤ es.length ∧ (zipD3 ds es fs).length ≤ fs.length ∧ ((zipD3 ds es fs).length = ds.length ∨ (zipD3 ds es fs).length = es.length ∨ (zipD3 ds es fs).length = fs.length)
  | [], es, fs => ⟨by simp [zipD3], by simp [zipD3], by simp [zipD3], .inl rfl⟩
  | d :: ds, [], fs => ⟨by simp [zipD3], by simp [zipD3], by simp [zipD3], .inr (.inl rfl)⟩
  | d :: ds, e :: es, [] => ⟨by simp [zipD3], by simp [zipD3], by simp [zipD3], .inr (.inr rfl)⟩
  | d :: ds, e :: es, f :: fs => by
    obtain ⟨h1, h2, h3, h4⟩ := zipD3_len (ds := ds) (es := es) (fs := fs)
    refine ⟨by simp [zipD3, h1], by simp [zipD3, h2], by simp [zipD3, h3], ?_⟩
    simpa [zipD3] using h4
theorem wk_zip2 {K : PySem.W.Frag} {c : Addr} {rel : HRel} {k j : Bool} {a b : Addr} {xs ys : List V} {ds es : List D} (s : Sr K c rel k a xs ds) (t : Sr K c rel j b ys es) : Wk K c rel (Itz2 K k j a b) (zipD ds es) := fun H Z r z cz => by
  obtain ⟨h1, h2⟩ := s H Z r z cz
  obtain ⟨g1, g2⟩ := t H Z r z cz
  have l1 := h2.length
  have l2 := g2.length
  obtain ⟨z1, z2, z3⟩ := zipD_len (ds := ds) (es := es)
  refine ⟨fun i d e => ?_, xs, ys, h1, g1, by omega, by omega, by omega⟩
  obtain ⟨d1, d2, e1, e2, rfl⟩ := zipD_get e
  obtain ⟨v, e3, rv⟩ := h2.get e1
  obtain ⟨u, e4, ru⟩ := g2.get e2
  refine ⟨⟨xs, ys, v, u, h1, g1, e3, e4⟩, fun x H' y => ?_⟩
  obtain ⟨T, y1, y2, rfl, hT, rfl, hy, hy2⟩ := y
  have e5 := hy xs h1
  rw [e3] at e5
  cases e5
  have e6 := hy2 ys g1
  rw [e4] at e6
  cases e6
  have kp : Keep c H (upd H T (.tup [v, u])) := .upd hT
  exact ⟨kp, upd_c z cz hT, .tup (SqT.of upd_same) (.cons (Dv.later z (kp.later cz) _ _ rv) (.cons (Dv.later z (kp.later cz) _ _ ru) .nil))⟩
theorem wk_zip3 {K : PySem.W.Frag} {c : Addr} {rel : HRel} {k j m : Bool} {a b d : Addr} {xs ys zs : List V} {ds es fs : List D} (s : Sr K c rel k a xs ds) (t : Sr K c rel j b ys es) (u : Sr K c rel m d zs fs) : Wk K c rel (Itz3 K k j m a b d) (zipD3 ds es fs) := fun H Z r z cz => by
  obtain ⟨h1, h2⟩ := s H Z r z cz
  obtain ⟨g1, g2⟩ := t H Z r z cz
  obtain ⟨f1, f2⟩ := u H Z r z cz
  have l1 := h2.length
  have l2 := g2.length
  have l3 := f2.length
  obtain ⟨z1, z2, z3, z4⟩ := zipD3_len (ds := ds) (es := es) (fs := fs)
  refine ⟨fun i d e => ?_, xs, ys, zs, h1, g1, f1, by omega, by omega, by omega, by omega⟩
  obtain ⟨d1, d2, d3, e1, e2, e2', rfl⟩ := zipD3_get e
  obtain ⟨v, e3, rv⟩ := h2.get e1
  obtain ⟨u, e4, ru⟩ := g2.get e2
  obtain ⟨w, e4', rw'⟩ := f2.get e2'
  refine ⟨⟨xs, ys, zs, v, u, w, h1, g1, f1, e3, e4, e4'⟩, fun x H' y => ?_⟩
  obtain ⟨T, y1, y2, y3, rfl, hT, rfl, hy, hy2, hy3⟩ := y
  have e5 := hy xs h1
  rw [e3] at e5
  cases e5
  have e6 := hy2 ys g1
  rw [e4] at e6
  cases e6
  have e7 := hy3 zs f1
  rw [e4'] at e7
  cases e7
  have kp : Keep c H (upd H T (.tup [v, u, w])) := .upd hT
  exact ⟨kp, upd_c z cz hT, .tup (SqT.of upd_same) (.cons (Dv.later z (kp.later cz) _ _ rv) (.cons (Dv.later z (kp.later cz) _ _ ru) (.cons (Dv.later z (kp.later cz) _ _ rw') .nil)))⟩
def rngD : Int → Nat → List D
  | _, 0 => []
  | lo, n + 1 => .int lo :: rngD (lo + 1) n
theorem rngD_get : ∀ {n : Nat} {lo : Int} {i : Nat} {d : D}, (rngD lo n)[i]? = some d → i < n ∧ d = .int (lo + i)
  | 0, lo, i, d, h => by simp [rngD] at h
  | n + 1, lo, 0, d, h => by
    simp [rngD] at h
    exact ⟨Nat.succ_pos _, by rw [← h]; simp⟩
  | n + 1, lo, i + 1, d, h => by
    have h' : (rngD (lo + 1) n)[i]? = some d := by simpa [rngD] using h
    obtain ⟨h1, h2⟩ := rngD_get h'
    refine ⟨Nat.succ_lt_succ h1, ?_⟩
    rw [h2]
    congr 1
    omega
theorem rngD_len : ∀ {n : Nat} {lo : Int}, (rngD lo n).length = n
  | 0, lo => rfl
  | n + 1, lo => by simp [rngD, rngD_len]
theorem wk_rng {K : PySem.W.Frag} {c : Addr} {rel : HRel} {lo : Int} {n : Nat} : Wk K c rel (Itr lo n) (rngD lo n) := fun H Z r z cz => by
  refine ⟨fun i d e => ?_, by rw [rngD_len]; exact Nat.le_refl n⟩
  obtain ⟨h1, rfl⟩ := rngD_get e
  refine ⟨h1, fun x H' y => ?_⟩
  obtain ⟨rfl, rfl⟩ := y
  exact ⟨.refl, rfl, .int _⟩
/-! ### iterables -/
section
variable {X : Cx} {c : Addr} {cf : CF} {rl : Hp → List Addr → HRel} {R : Rel D} {tg : Expr}
theorem pi_imp {e : Expr} {t u : TI} (h : PI X tg e t) (i : ∀ σ H R, u σ H R → t σ H R) : PI X tg e u := ⟨fun pins s σ H R I q => h.run pins s σ H R I (i σ H R q)⟩
theorem pi_any {ι : Type} {e : Expr} {t : ι → TI} (h : ∀ i, PI X tg e (t i)) : PI X tg e (fun σ H R => ∃ i, t i σ H R) := ⟨fun pins s σ H R I ⟨i, q⟩ => (h i).run pins s σ H R I q⟩
def sqL (d : D) : Option (List D) := match sq d with
  | some (_, ds) => some ds
  | none => none
theorem sqL_some {d : D} {ds : List D} (h : sqL d = some ds) : ∃ k, sq d = some (k, ds) := by
  unfold sqL at h
  split at h
  · rename_i k es e
    cases h
    exact ⟨k, e⟩
  · cases h
def mSeq (f : SE) : SI := fun cf env => M.bnd (f cf env) fun d => M.of (sqL d)
theorem i_seq {e : Expr} {f : SE} (L : Lk X.K c R rl) (he : PE X e (lf R X.K c (f cf))) : PI X tg e (lI X.K c rl (mSeq f cf)) := by
  refine pi_imp (pi_any (ι := Bool) (t := fun k => if k = true then iList X.K (lf R X.K c (f cf)) else iTup X.K (lf R X.K c (f cf))) fun k => ?_) fun σ H T h => ?_
  · cases k with
    | true => exact pi_list he
    | false => exact pi_tup he
  · obtain ⟨Z, env, cs, ds, cs', p, e, q⟩ := h
    obtain ⟨d, c1, e1, e⟩ := bnd_some e
    obtain ⟨es, e2, e3⟩ := of_some e
    cases e3
    obtain ⟨k, e4⟩ := sqL_some e2
    refine ⟨k, ?_⟩
    cases k with
    | true =>
      refine ⟨Z, env, cs, d, _, p, e1, fun v H1 k1 ce1 r1 => ?_⟩
      have p1 := p.step k1 ce1
      obtain ⟨a, xs, rfl, h1, h2⟩ := L.src H1 Z v d true ds p1.z p1.cz r1 e4
      exact ⟨a, rfl, ⟨xs, h1⟩, q (Itl X.K a) H1 k1 ce1 (wk_seq h2)⟩
    | false =>
      refine ⟨Z, env, cs, d, _, p, e1, fun v H1 k1 ce1 r1 => ?_⟩
      have p1 := p.step k1 ce1
      obtain ⟨a, xs, rfl, h1, h2⟩ := L.src H1 Z v d false ds p1.z p1.cz r1 e4
      exact ⟨a, rfl, ⟨xs, h1⟩, q (Itt X.K a) H1 k1 ce1 (wk_seq h2)⟩
theorem paired1 {β : Type} {P : V → β → Prop} {vs : List V} {b : β} (h : Paired P vs [b]) : ∃ v, vs = [v] ∧ P v b := by
  cases h with
  | cons r t => cases t; exact ⟨_, rfl, r⟩
theorem paired2 {β : Type} {P : V → β → Prop} {vs : List V} {b c : β} (h : Paired P vs [b, c]) : ∃ v u, vs = [v, u] ∧ P v b ∧ P u c := by
  cases h with
  | cons r t =>
    obtain ⟨u, rfl, r2⟩ := paired1 t
    exact ⟨_, u, rfl, r, r2⟩
theorem paired3 {β : Type} {P : V → β → Prop} {vs : List V} {b c d : β} (h : Paired P vs [b, c, d]) : ∃ v u w, vs = [v, u, w] ∧ P v b ∧ P u c ∧ P w d := by
  cases h with
  | cons r t =>
    obtain ⟨u, w, rfl, r2, r3⟩ := paired2 t
    exact ⟨_, u, w, rfl, r, r2, r3⟩
def enumL (ds : List D) : Option (List D) := match ds with
  | [d] => match sqL d with
    | some es => some (enumD 0 es)
    | none => none
  | _ => none
def zipL (ds : List D) : Option (List D) := match ds with
  | [d, e] => match sqL d, sqL e with
    | some xs, some ys => some (zipD xs ys)
    | _, _ => none
  | [d, e, f] => match sqL d, sqL e, sqL f with
    | some xs, some ys, some zs => some (zipD3 xs ys zs)
    | _, _, _ => none
  | _ => none
def rngOk (i : Int) : Bool := decide (-4611686018427387904 ≤ i) && decide (i < 4611686018427387904)
theorem rngOk_iff {i : Int} (h : rngOk i = true) : -(2 ^ 62) ≤ i ∧ i < 2 ^ 62 := by
  unfold rngOk at h
  rw [Bool.and_eq_true, decide_eq_true_iff, decide_eq_true_iff] at h
  omega
def rngL (ds : List D) : Option (List D) := match ds with
  | [.int j] => if rngOk j = true then some (rngD 0 j.toNat) else none
  | [.int i, .int j] => if rngOk i = true ∧ rngOk j = true then some (rngD i (j - i).toNat) else none
  | _ => none
def mIter (g : List D → Option (List D)) (fs : SA D) : SI := fun cf env => M.bnd (fs cf env) fun ds => M.of (g ds)
theorem iter_some {g : List D → Option (List D)} {fs : SA D} {env : Ev} {cs : Cs} {r : List D × Cs} (h : mIter g fs cf env cs = some r) : ∃ ds c1 es, fs cf env cs = some (ds, c1) ∧ g ds = some es ∧ r = (es, c1) := by
  obtain ⟨ds, c1, e1, e⟩ := bnd_some h
  obtain ⟨es, e2, e3⟩ := of_some e
  exact ⟨ds, c1, es, e1, e2, e3⟩
theorem i_enum {e : Expr} {fs : SA D} {p pos tpos : Pos} {elts : List Expr} {kk : Nat} (L : Lk X.K c R rl) (hg : Gl X "enumerate") (hm : X.mg "enumerate" = none) (ha : PA X [e] (lA R X.K c (fs cf))) (hs : starEach [e] X.env = [(false, eval e X.env)]) :
    PI X (.Tuple elts kk tpos) (.Call (.Name "enumerate" p) [e] [] pos) (lI X.K c rl (mIter enumL fs cf)) := by
  refine pi_imp (pi_any fun k => pi_enumS k hg hm ha hs) fun σ H T h => ?_
  obtain ⟨Z, env, cs, ds, cs', pr, e, q⟩ := h
  obtain ⟨es, c1, fs', e1, e2, e3⟩ := iter_some e
  cases e3
  unfold enumL at e2
  split at e2
  · rename_i d
    split at e2
    · rename_i xs ex
      cases e2
      obtain ⟨k, e4⟩ := sqL_some ex
      refine ⟨k, Z, env, cs, [d], _, pr, e1, fun vs H1 k1 ce1 r1 => ?_⟩
      have p1 := pr.step k1 ce1
      obtain ⟨v, rfl, r2⟩ := paired1 r1
      obtain ⟨a, ys, rfl, h1, h2⟩ := L.src H1 Z v d k xs p1.z p1.cz r2 e4
      exact ⟨a, ys, rfl, h1, q _ H1 k1 ce1 (wk_enum h2)⟩
    · cases e2
  · cases e2
theorem i_zip2 {e1 e2 : Expr} {fs : SA D} {p pos tpos : Pos} {elts : List Expr} {kk : Nat} (L : Lk X.K c R rl) (hg : Gl X "zip") (hm : X.mg "zip" = none) (ha : PA X [e1, e2] (lA R X.K c (fs cf))) (hl : ∀ env cs ds cs', fs cf env cs = some (ds, cs') → ds.length = 2) (hs : starEach [e1, e2] X.env = (false, eval e1 X.env) :: starEach [e2] X.env) (hpl : (backTo pos (starEach [e2] X.env)).any (·.1) = false) :
    PI X (.Tuple elts kk tpos) (.Call (.Name "zip" p) [e1, e2] [] pos) (lI X.K c rl (mIter zipL fs cf)) := by
  refine pi_imp (pi_any (ι := Bool × Bool) fun k => pi_zip2S k.1 k.2 hg hm ha hs hpl) fun σ H T h => ?_
  obtain ⟨Z, env, cs, ds, cs', pr, e, q⟩ := h
  obtain ⟨es, c1, fs', e1, e2, e3⟩ := iter_some e
  cases e3
  have hl' := hl _ _ _ _ e1
  unfold zipL at e2
  split at e2
  · rename_i d1 d2
    split at e2
    · rename_i xs ys ex ey
      cases e2
      obtain ⟨k, e4⟩ := sqL_some ex
      obtain ⟨j, e5⟩ := sqL_some ey
      refine ⟨(k, j), Z, env, cs, [d1, d2], _, pr, e1, fun vs H1 k1 ce1 r1 => ?_⟩
      have p1 := pr.step k1 ce1
      obtain ⟨v, u, rfl, r2, r3⟩ := paired2 r1
      obtain ⟨a, ys, rfl, h1, h2⟩ := L.src H1 Z v d1 k xs p1.z p1.cz r2 e4
      obtain ⟨b, zs, rfl, h3, h4⟩ := L.src H1 Z u d2 j _ p1.z p1.cz r3 e5
      exact ⟨a, b, ys, zs, rfl, h1, h3, q _ H1 k1 ce1 (wk_zip2 h2 h4)⟩
    · cases e2
  · simp at hl'
  · cases e2
theorem i_zip3 {e1 e2 e3 : Expr} {fs : SA D} {p pos tpos : Pos} {elts : List Expr} {kk : Nat} (L : Lk X.K c R rl) (hg : Gl X "zip") (hm : X.mg "zip" = none) (ha : PA X [e1, e2, e3] (lA R X.K c (fs cf))) (hl : ∀ env cs ds cs', fs cf env cs = some (ds, cs') → ds.length = 3) (hs : starEach [e1, e2, e3] X.env = (false, eval e1 X.env) :: starEach [e2, e3] X.env) (hpl : (backTo pos (starEach [e2, e3] X.env)).any (·.1) = false) :
    PI X (.Tuple elts kk tpos) (.Call (.Name "zip" p) [e1, e2, e3] [] pos) (lI X.K c rl (mIter zipL fs cf)) := by
  refine pi_imp (pi_any (ι := Bool × Bool × Bool) fun k => pi_zip3S k.1 k.2.1 k.2.2 hg hm ha hs hpl) fun σ H T h => ?_
  obtain ⟨Z, env, cs, ds, cs', pr, e, q⟩ := h
  obtain ⟨es, c1, fs', e1, e2, e3⟩ := iter_some e
  cases e3
  have hl' := hl _ _ _ _ e1
  unfold zipL at e2
  split at e2
  · simp at hl'
  · rename_i d1 d2 d3
    split at e2
    · rename_i xs ys zs ex ey ez
      cases e2
      obtain ⟨k, e4⟩ := sqL_some ex
      obtain ⟨j, e5⟩ := sqL_some ey
      obtain ⟨m, e6⟩ := sqL_some ez
      refine ⟨(k, j, m), Z, env, cs, [d1, d2, d3], _, pr, e1, fun vs H1 k1 ce1 r1 => ?_⟩
      have p1 := pr.step k1 ce1
      obtain ⟨v, u, w, rfl, r2, r3, r4⟩ := paired3 r1
      obtain ⟨a, ys, rfl, h1, h2⟩ := L.src H1 Z v d1 k xs p1.z p1.cz r2 e4
      obtain ⟨b, zs, rfl, h3, h4⟩ := L.src H1 Z u d2 j _ p1.z p1.cz r3 e5
      obtain ⟨b', zs', rfl, h5, h6⟩ := L.src H1 Z w d3 m _ p1.z p1.cz r4 e6
      exact ⟨a, b, b', ys, zs, zs', rfl, h1, h3, h5, q _ H1 k1 ce1 (wk_zip3 h2 h4 h6)⟩
    · cases e2
  · cases e2
theorem i_rng1 {a : Expr} {fs : SA D} {p pos : Pos} (hg : Gl X "range") (hm : X.mg "range" = none) (ha : PA X [a] (lA (fun H Z => DvP X.K H Z c) X.K c (fs cf))) (hl : ∀ env cs ds cs', fs cf env cs = some (ds, cs') → ds.length = 1) (hs : starEach [a] X.env = [(false, eval a X.env)]) : PI X tg (.Call (.Name "range" p) [a] [] pos) (lI X.K c rl (mIter rngL fs cf)) := by
  refine pi_imp (pi_range1 hg hm ha hs) fun σ H T h => ?_
  obtain ⟨Z, env, cs, ds, cs', pr, e, q⟩ := h
  obtain ⟨es, c1, fs', e1, e2, e3⟩ := iter_some e
  cases e3
  have hl' := hl _ _ _ _ e1
  unfold rngL at e2
  split at e2
  · rename_i j
    split at e2
    · rename_i hj
      cases e2
      refine ⟨Z, env, cs, _, _, pr, e1, fun vs H1 k1 ce1 r1 => ?_⟩
      obtain ⟨v, rfl, r2⟩ := paired1 r1
      rw [r2.int]
      exact ⟨j, rfl, (rngOk_iff hj).1, (rngOk_iff hj).2, q _ H1 k1 ce1 wk_rng⟩
    · cases e2
  · simp at hl'
  · cases e2
theorem i_rng2 {a b : Expr} {fs : SA D} {p pos : Pos} (hg : Gl X "range") (hm : X.mg "range" = none) (ha : PA X [a, b] (lA (fun H Z => DvP X.K H Z c) X.K c (fs cf))) (hl : ∀ env cs ds cs', fs cf env cs = some (ds, cs') → ds.length = 2) (hs : starEach [a, b] X.env = [(false, eval a X.env), (false, eval b X.env)]) (hs2 : starEach [b] X.env = [(false, eval b X.env)]) : PI X tg (.Call (.Name "range" p) [a, b] [] pos) (lI X.K c rl (mIter rngL fs cf)) := by
  refine pi_imp (pi_range2 hg hm ha hs hs2) fun σ H T h => ?_
  obtain ⟨Z, env, cs, ds, cs', pr, e, q⟩ := h
  obtain ⟨es, c1, fs', e1, e2, e3⟩ := iter_some e
  cases e3
  have hl' := hl _ _ _ _ e1
  unfold rngL at e2
  split at e2
  · simp at hl'
  · rename_i i j
    split at e2
    · rename_i hj
      cases e2
      refine ⟨Z, env, cs, _, _, pr, e1, fun vs H1 k1 ce1 r1 => ?_⟩
      obtain ⟨v, u, rfl, r2, r3⟩ := paired2 r1
      rw [r2.int, r3.int]
      obtain ⟨h1, h2⟩ := rngOk_iff hj.1
      obtain ⟨h3, h4⟩ := rngOk_iff hj.2
      exact ⟨i, j, rfl, ⟨h1, h2, h3, h4⟩, q _ H1 k1 ce1 wk_rng⟩
    · cases e2
  · cases e2
end
end Se
end
section
set_option Elab.async false
set_option linter.all false
set_option maxRecDepth 100000
set_option maxHeartbeats 4000000
namespace Se
open PySem PySem.Spec PyProof.Rows L2
/-! ### what is owned -/
structure Own (H0 : Hp) (σ : L2.St) (env : Ev) : Prop where
  new : ∀ (i : Nat) (a : Addr) (d : D), env[i]? = some (.ow d) → σ[i]? = some (some (.ref a)) → H0 a = none
  sep : ∀ (i j : Nat) (a : Addr) (d e : D), env[i]? = some (.ow d) → env[j]? = some (.ow e) → σ[i]? = some (some (.ref a)) → σ[j]? = some (some (.ref a)) → i = j
theorem set_get {α : Type} {l : List α} {i j : Nat} {x y : α} (h : (l.set i x)[j]? = some y) : (i = j ∧ y = x) ∨ (i ≠ j ∧ l[j]? = some y) := by
  by_cases e : i = j
  · subst e
    rw [List.getElem?_set_self' ] at h
    cases q : l[i]? with
    | none => rw [q] at h; cases h
    | some z => rw [q] at h; exact .inl ⟨rfl, (Option.some.inj h).symm⟩
  · rw [List.getElem?_set_ne e] at h
    exact .inr ⟨e, h⟩
def isOw : Slot → Bool
  | .ow _ => true
  | _ => false
theorem Own.set {H0 : Hp} {σ : L2.St} {env : Ev} {i : Nat} {o : Option V} {s : Slot} (h : Own H0 σ env) (hs : isOw s = false) : Own H0 (σ.set i o) (env.set i s) := by
  have key : ∀ {j : Nat} {d : D}, (env.set i s)[j]? = some (.ow d) → i ≠ j ∧ env[j]? = some (.ow d) := fun {j d} e => by
    rcases set_get e with ⟨_, e2⟩ | r
    · subst e2; cases hs
    · exact r
  refine ⟨fun j a d e1 e2 => ?_, fun j k a d e e1 e2 e3 e4 => ?_⟩
  · obtain ⟨n, e1⟩ := key e1
    rw [List.getElem?_set_ne n] at e2
    exact h.new j a d e1 e2
  · obtain ⟨n, e1⟩ := key e1
    obtain ⟨m, e2⟩ := key e2
    rw [List.getElem?_set_ne n] at e3
    rw [List.getElem?_set_ne m] at e4
    exact h.sep j k a d e e1 e2 e3 e4
/-- a fresh list taken -/
theorem Own.take {K : PySem.W.Frag} {H0 H : Hp} {Z : List Addr} {c : Addr} {σ : L2.St} {env : Ev} {i : Nat} {a : Addr} {d : D} (h : Own H0 σ env) (r : REnv K H Z c σ env) (hn : H0 a = none) (hz : a ∉ Z) : Own H0 (σ.set i (some (.ref a))) (env.set i (.ow d)) := by
  have key : ∀ {j : Nat} {d' : D}, i ≠ j → (env.set i (.ow d))[j]? = some (.ow d') → env[j]? = some (.ow d') := fun {j d'} n e => by
    rw [List.getElem?_set_ne n] at e
    exact e
  have no : ∀ {j : Nat} {d' : D}, env[j]? = some (.ow d') → σ[j]? = some (some (.ref a)) → False := fun {j d'} e1 e2 => by
    obtain ⟨b, e, hb, _⟩ := r.at_ j _ _ e2 e1
    cases e
    exact hz hb
  refine ⟨fun j b d' e1 e2 => ?_, fun j k b d' e e1 e2 e3 e4 => ?_⟩
  · by_cases n : i = j
    · subst n
      rcases set_get e2 with ⟨_, e3⟩ | ⟨m, _⟩
      · cases e3; exact hn
      · exact absurd rfl m
    · rw [List.getElem?_set_ne n] at e2
      exact h.new j b d' (key n e1) e2
  · by_cases n : i = j
    · subst n
      rcases set_get e3 with ⟨_, e5⟩ | ⟨m, _⟩
      · cases e5
        by_cases n : i = k
        · exact n
        · rw [List.getElem?_set_ne n] at e4
          exact (no (key n e2) e4).elim
      · exact absurd rfl m
    · by_cases m : i = k
      · subst m
        rcases set_get e4 with ⟨_, e5⟩ | ⟨m, _⟩
        · cases e5
          rw [List.getElem?_set_ne n] at e3
          exact (no (key n e1) e3).elim
        · exact absurd rfl m
      · rw [List.getElem?_set_ne n] at e3
        rw [List.getElem?_set_ne m] at e4
        exact h.sep j k b d' e (key n e1) (key m e2) e3 e4
theorem REnv.set {K : PySem.W.Frag} {H : Hp} {Z : List Addr} {c : Addr} {σ : L2.St} {env : Ev} {i : Nat} {o : Option V} {s : Slot} (h : REnv K H Z c σ env) (r : RSlot K H Z c o s) : REnv K H Z c (σ.set i o) (env.set i s) := by
  refine ⟨by rw [List.length_set, List.length_set]; exact h.len, fun j p t e1 e2 => ?_⟩
  rcases set_get e1 with ⟨n, e3⟩ | ⟨n, e1⟩
  · subst n
    rcases set_get e2 with ⟨_, e4⟩ | ⟨n, _⟩
    · subst e3 e4; exact r
    · exact absurd rfl n
  · rw [List.getElem?_set_ne n] at e2
    exact h.at_ j p t e1 e2
/-- the heap grows, and what is owned with it -/
theorem RSlot.grow {K : PySem.W.Frag} {H H' : Hp} {Z Z' : List Addr} {c : Addr} {o : Option V} {s : Slot} (z : ZOk H Z) (cz : c ∈ Z) (k : Keep c H H') (hn : ∀ a ∈ Z', a ∈ Z ∨ H a = none) (sub : ∀ a ∈ Z, a ∈ Z') (h : RSlot K H Z c o s) : RSlot K H' Z' c o s := by
  have l : Later H Z H' Z' := ⟨fun a o e n => k a o e fun q => n (q ▸ cz), hn⟩
  cases s with
  | no => trivial
  | sh d =>
    obtain ⟨v, e, r⟩ := h
    exact ⟨v, e, Dv.later z l d v r⟩
  | ow d =>
    obtain ⟨a, e, ha, n, xs, ds, e2, h1, h2⟩ := h
    exact ⟨a, e, sub a ha, n, xs, ds, e2, k a _ h1 n, DvA.later z l _ _ h2⟩
  | cup => exact h
theorem REnv.grow {K : PySem.W.Frag} {H H' : Hp} {Z Z' : List Addr} {c : Addr} {σ : L2.St} {env : Ev} (z : ZOk H Z) (cz : c ∈ Z) (k : Keep c H H') (hn : ∀ a ∈ Z', a ∈ Z ∨ H a = none) (sub : ∀ a ∈ Z, a ∈ Z') (h : REnv K H Z c σ env) : REnv K H' Z' c σ env :=
  ⟨h.len, fun i o s e1 e2 => (h.at_ i o s e1 e2).grow z cz k hn sub⟩
/-! ### targets -/
abbrev TgF := D → Ev → Option Ev
abbrev TgFs := List D → Ev → Option Ev
def lG (K : PySem.W.Frag) (c : Addr) (is : List Nat) (m : TgF) : TG := fun v σ H Q => ∃ Z env d env', REnv K H Z c σ env ∧ Dv K H Z v d ∧ m d env = some env' ∧ ∀ σ', REnv K H Z c σ' env' → (∀ H0, Own H0 σ env → Own H0 σ' env') → (∀ vs, (∀ i ∈ is, i ∈ vs) → wipe σ' vs = wipe σ vs) → Q σ' H
def lGs (K : PySem.W.Frag) (c : Addr) (is : List Nat) (m : TgFs) : TGs := fun v σ H Q => ∃ Z env d env', REnv K H Z c σ env ∧ DvA K H Z v d ∧ m d env = some env' ∧ ∀ σ', REnv K H Z c σ' env' → (∀ H0, Own H0 σ env → Own H0 σ' env') → (∀ vs, (∀ i ∈ is, i ∈ vs) → wipe σ' vs = wipe σ vs) → Q σ' H
theorem pg_imp {X : Cx} {e : Expr} {t u : TG} (h : PG X e t) (i : ∀ v σ H Q, u v σ H Q → t v σ H Q) : PG X e u := ⟨fun pins s σ H v u Q I r q => h.run pins s σ H v u Q I r (i v σ H Q q)⟩
theorem pgs_imp {X : Cx} {e : List Expr} {t u : TGs} (h : PGs X e t) (i : ∀ v σ H Q, u v σ H Q → t v σ H Q) : PGs X e u := ⟨fun pins s σ H v u Q I r q => h.run pins s σ H v u Q I r (i v σ H Q q)⟩
theorem wipe_set {σ : L2.St} {o : Option V} : ∀ {vs : List Nat} {i : Nat}, i ∈ vs → wipe (σ.set i o) vs = wipe σ vs := by
  have key : ∀ {vs : List Nat} {i : Nat}, wipe (σ.set i o) vs = wipe σ vs ∨ wipe (σ.set i o) vs = (wipe σ vs).set i o := fun {vs i} => by
    induction vs with
    | nil => exact .inr rfl
    | cons v vs ih =>
      unfold wipe
      rcases ih with ih | ih
      · rw [ih]; exact .inl rfl
      · rw [ih]
        by_cases e : i = v
        · subst e; rw [List.set_set]; exact .inl rfl
        · rw [List.set_comm _ _ e]; exact .inr rfl
  intro vs i h
  induction vs with
  | nil => cases h
  | cons v vs ih =>
    unfold wipe
    by_cases e : i = v
    · subst e
      rcases key (vs := vs) (i := i) with k | k
      · rw [k]
      · rw [k, List.set_set]
    · rw [ih ((List.mem_cons.mp h).resolve_left e)]
def gNm (i : Nat) : TgF := fun d env => some (env.set i (.sh d))
def gNl : TgFs := fun ds env => match ds with
  | [] => some env
  | _ => none
def gCs (t : TgF) (u : TgFs) : TgFs := fun ds env => match ds with
  | d :: r => match t d env with
    | some e => u r e
    | none => none
  | [] => none
def gTp (t : TgFs) : TgF := fun d env => match d with
  | .tuple ds => t ds env
  | .list ds => t ds env
  | _ => none
section
variable {X : Cx} {c : Addr} {pos : Pos}
theorem g_nm {i : Nat} {x : Str} (hN : X.N.Nodup) (hi : X.N[i]? = some x) (hx : Loc X.env.scope x) (hf : X.fn x = true ∨ X.env.scope.names.lookup x = some .local) : PG X (.Name x pos) (lG X.K c [i] (gNm i)) :=
  pg_imp (pg_name hN hi hx hf) fun v σ H Q ⟨Z, env, d, env', re, rv, e, q⟩ => by
    cases e
    exact q _ (re.set ⟨v, rfl, rv⟩) (fun H0 o => o.set rfl) fun vs h => wipe_set (h i (by simp))
theorem g_nl : PGs X [] (lGs X.K c [] gNl) := pgs_imp pgs_nil fun v σ H Q ⟨Z, env, d, env', re, rv, e, q⟩ => by
  cases rv with
  | nil =>
    cases e
    exact ⟨rfl, q σ re (fun _ o => o) fun _ _ => rfl⟩
  | cons _ _ => cases e
theorem g_cs {e : Expr} {es : List Expr} {is js : List Nat} {t : TgF} {u : TgFs} (h1 : PG X e (lG X.K c is t)) (h2 : PGs X es (lGs X.K c js u)) (hs : (assignEach (e :: es) X.env).map (·.2) = assign e X.env :: (assignEach es X.env).map (·.2)) : PGs X (e :: es) (lGs X.K c (is ++ js) (gCs t u)) :=
  pgs_imp (pgs_cons h1 h2 hs) fun v σ H Q ⟨Z, env, d, env', re, rv, e, q⟩ => by
    cases rv with
    | nil => cases e
    | @cons v vs d ds r1 r2 =>
      unfold gCs at e
      split at e
      · rename_i d' r' ee
        cases ee
        split at e
        · rename_i e1 h
          refine ⟨v, vs, rfl, Z, env, d, e1, re, r1, h, fun σ1 re1 o1 w1 => ⟨Z, e1, ds, env', re1, r2, e, fun σ2 re2 o2 w2 => ?_⟩⟩
          exact q σ2 re2 (fun H0 o => o2 H0 (o1 H0 o)) fun vs h => (w2 vs fun i hi => h i (List.mem_append_right _ hi)).trans (w1 vs fun i hi => h i (List.mem_append_left _ hi))
        · cases e
      · cases e
theorem g_tp {es : List Expr} {k : Nat} {is : List Nat} {t : TgFs} {n : Nat} (hc : X.calm = true) (h : PGs X es (lGs X.K c is t)) (ht : ∀ ds env env', t ds env = some env' → ds.length = n)
    (hn : (assignEach es X.env).length = n) (hst : (assignEach es X.env).findIdx? (·.1) = none) : PG X (.Tuple es k pos) (lG X.K c is (gTp t)) :=
  pg_imp (t := fun v σ H Q => gTup X.K n (lGs X.K c is t) v σ H Q ∨ gUnl X.K n (lGs X.K c is t) v σ H Q) ⟨fun pins s σ H v u Q I r hw => by
    rcases hw with hw | hw
    · exact (pg_tup hc h hn hst).run pins s σ H v u Q I r hw
    · exact (pg_unl hc h hn hst).run pins s σ H v u Q I r hw⟩ fun v σ H Q ⟨Z, env, d, env', re, rv, e, q⟩ => by
    cases d with
    | tuple ds =>
      cases rv with
      | @tup a xs _ hq ha => exact .inl ⟨a, xs, rfl, hq, by rw [ha.length]; exact ht _ _ _ e, Z, env, ds, env', re, ha, e, q⟩
    | list ds =>
      cases rv with
      | @lst a xs _ hq nz ha => exact .inr ⟨a, xs, rfl, .inl (.inl hq), by rw [ha.length]; exact ht _ _ _ e, Z, env, ds, env', re, ha, e, q⟩
    | _ => cases e
end
theorem gCs_len {t : TgF} {u : TgFs} {n : Nat} (h : ∀ ds env env', u ds env = some env' → ds.length = n) : ∀ ds env env', gCs t u ds env = some env' → ds.length = n + 1 := fun ds env env' e => by
  unfold gCs at e
  split at e
  · rename_i d r
    split at e
    · rw [List.length_cons, h _ _ _ e]
    · cases e
  · cases e
theorem gNl_len : ∀ ds env env', gNl ds env = some env' → ds.length = 0 := fun ds env env' e => by
  cases ds with
  | nil => rfl
  | cons _ _ => cases e
/-! ### comprehensions -/
def stepL (f : D → M (Option D)) : List D → M (List D)
  | [] => M.ret []
  | d :: ds => M.bnd (f d) fun o => M.bnd (stepL f ds) fun r => M.ret (match o with
    | some x => x :: r
    | none => r)
def wipeE (env : Ev) : List Nat → Ev
  | [] => env
  | v :: vs => (wipeE env vs).set v .no
theorem renv_wipe {K : PySem.W.Frag} {H : Hp} {Z : List Addr} {c : Addr} {σ : L2.St} {env : Ev} (h : REnv K H Z c σ env) : ∀ vs : List Nat, REnv K H Z c (wipe σ vs) (wipeE env vs)
  | [] => h
  | v :: vs => (renv_wipe h vs).set trivial
def lcTurn (cf : CF) (e0 : Ev) (m : TgF) (ft fe : SE) : D → M (Option D) := fun d => match m d e0 with
  | some env' => M.bnd (ft cf env') fun b => match b with
    | .bool true => M.bnd (fe cf env') fun x => M.ret (some x)
    | .bool false => M.ret none
    | _ => M.of none
  | none => M.of none
def lcB (cf : CF) (env' : Ev) (ft fe : SE) : M (Option D) := M.bnd (ft cf env') fun b => match b with
    | .bool true => M.bnd (fe cf env') fun x => M.ret (some x)
    | .bool false => M.ret none
    | _ => M.of none
theorem lcTurn_some {cf : CF} {e0 : Ev} {m : TgF} {ft fe : SE} {d : D} {cs : Cs} {r : Option D × Cs} (h : lcTurn cf e0 m ft fe d cs = some r) : ∃ env', m d e0 = some env' ∧ lcB cf env' ft fe cs = some r := by
  unfold lcTurn at h
  cases e : m d e0 with
  | none => rw [e] at h; cases h
  | some env' => rw [e] at h; exact ⟨env', rfl, h⟩
def mLc (vs : List Nat) (fi : SI) (m : TgF) (ft fe : SE) : SE := fun cf env => M.bnd (fi cf env) fun ds => if ds.length ≤ line then M.bnd (stepL (lcTurn cf (wipeE env vs) m ft fe) ds) fun r => M.ret (.list r) else M.of none
theorem lt_yes {X : Cx} {c : Addr} {cf : CF} {σ : L2.St} {H : Hp} {Q : Bool → Hp → Prop} (h : lt X.K c (mLit (.bool true) cf) σ H Q) : tYes σ H Q := by
  obtain ⟨Z, env, cs, k, cs', p, e, q⟩ := h
  cases e
  exact q H .refl p.cell
theorem pts_imp {X : Cx} {e : List Expr} {t u : TT} (h : PTs X e t) (i : ∀ σ H Q, u σ H Q → t σ H Q) : PTs X e u := ⟨fun pins s σ H Q I q => h.run pins s σ H Q I (i σ H Q q)⟩
theorem tl_nil {X : Cx} {c : Addr} {cf : CF} : PTs X [] (lt X.K c (mLit (.bool true) cf)) := pts_imp pts_nil fun σ H Q h => lt_yes (X := X) h
section
variable {X : Cx} {c : Addr} {cf : CF}
theorem wipe_none {σ : L2.St} : ∀ {vs : List Nat} {w : Nat}, w ∈ vs → (wipe σ vs).set w none = wipe σ vs
  | [], w, h => by cases h
  | v :: vs, w, h => by
    unfold wipe
    by_cases e : w = v
    · subst e; rw [List.set_set]
    · rw [List.set_comm _ _ (Ne.symm e), wipe_none ((List.mem_cons.mp h).resolve_left e)]
theorem wipe_wipe {σ : L2.St} {vs : List Nat} : ∀ {ws : List Nat}, (∀ w ∈ ws, w ∈ vs) → wipe (wipe σ vs) ws = wipe σ vs
  | [], _ => rfl
  | w :: ws, h => by
    have ih := wipe_wipe (σ := σ) (vs := vs) (ws := ws) fun x hx => h x (List.mem_cons_of_mem _ hx)
    show (wipe (wipe σ vs) ws).set w none = _
    rw [ih, wipe_none (h w List.mem_cons_self)]
theorem lc_pre {K : PySem.W.Frag} {vs is : List Nat} {fi : SI} {m : TgF} {ft fe : SE} {σ : L2.St} {H : Hp} {Q : VK} (hv : ∀ i ∈ is, i ∈ vs)
    (h : ∃ Z env cs d cs', Pre K c H Z σ env cs ∧ mLc vs fi m ft fe cf env cs = some (d, cs') ∧ ∀ v H', Keep c H H' → Cell H' c cs' → Dv K H' Z v d → (∃ a, v = .ref a ∧ H a = none ∧ Ow K H' (a :: Z) a d) → Q v H') : tLc (lI K c (rK c) (fi cf)) (lG K c is m) (lt K c (ft cf)) (le K c (fe cf)) vs σ H Q := by
  obtain ⟨Z, env, cs, d, cs', p, e, q⟩ := h
  obtain ⟨ds, c1, e1, e⟩ := bnd_some e
  refine ⟨Z, env, cs, ds, c1, p, e1, fun J H1 k1 ce1 wk => fun Dd hD => ?_⟩
  split at e
  · rename_i hlen
    obtain ⟨r, c2, e2, e⟩ := bnd_some e
    cases ret_some e
    have p1 := p.step k1 ce1
    have kD : Keep c H1 (upd H1 Dd (.lst [])) := .upd hD
    have nDc : Dd ≠ c := fun q => by rw [q, ce1] at hD; cases hD
    refine ⟨fun i mm H' => mm = ds.length - i ∧ i ≤ ds.length ∧ ∃ csi acc xs rest, Keep c H1 H' ∧ Cell H' c csi ∧ H' Dd = some (.lst xs) ∧ DvA K H' (Dd :: Z) xs acc ∧ xs.length ≤ i ∧ stepL (lcTurn cf (wipeE env vs) m ft fe) (ds.drop i) csi = some (rest, cs') ∧ acc ++ rest = r, ?_, ?_⟩
    · exact ⟨ds.length, by simp, Nat.zero_le _, c1, [], [], r, kD, (upd_cell ce1 hD).trans ce1, upd_same, .nil, Nat.le_refl _, by simpa using e2, rfl⟩
    rintro i mm H' ⟨rfl, hi, csi, acc, xs, rest, kp, ce, hDd, hacc, hxs, hst, hr⟩
    have z' : ZOk H' (Dd :: Z) := fun a ha => by
      rcases List.mem_cons.mp ha with q | q
      · rw [q, hDd]; trivial
      · exact (p1.z.keep kp ce) a q
    have w := wk H' (Dd :: Z) ⟨kp, fun a ha => by
      rcases List.mem_cons.mp ha with q | q
      · rw [q]; exact .inr hD
      · exact .inl q⟩ z' (List.mem_cons_of_mem _ p.cz)
    by_cases hlt : i < ds.length
    · obtain ⟨d, hd⟩ : ∃ d, ds[i]? = some d := ⟨ds[i], List.getElem?_eq_getElem hlt⟩
      obtain ⟨go, yl⟩ := w.1 i d hd
      have hdrop : ds.drop i = d :: ds.drop (i + 1) := by
        rw [List.drop_eq_getElem_cons hlt]
        rw [List.getElem?_eq_getElem hlt] at hd
        rw [Option.some.inj hd]
      rw [hdrop] at hst
      obtain ⟨o, c3, e3, hst⟩ := bnd_some hst
      obtain ⟨r2, c4, e4, hst⟩ := bnd_some hst
      have e5 := ret_some hst
      refine .inr ⟨go, fun H' => ∃ csi acc xs rest, Keep c H1 H' ∧ Cell H' c csi ∧ H' Dd = some (.lst xs) ∧ DvA K H' (Dd :: Z) xs acc ∧ xs.length ≤ i + 1 ∧ stepL (lcTurn cf (wipeE env vs) m ft fe) (ds.drop (i + 1)) csi = some (rest, cs') ∧ acc ++ rest = r, fun H' h => ⟨ds.length - (i + 1), by omega, rfl, hlt, h⟩, fun x H'' y => ?_⟩
      obtain ⟨k2, ec2, rx⟩ := yl x H'' y
      have ce2 : Cell H'' c csi := ec2.trans ce
      have z2 : ZOk H'' (Dd :: Z) := z'.keep k2 ce2
      have nH : H Dd = none := by
        cases q : H Dd with
        | none => rfl
        | some o => rw [k1 Dd o q nDc] at hD; cases hD
      have re0 : REnv K H'' (Dd :: Z) c σ env := p.env.grow p.z p.cz (k1.trans (kp.trans k2)) (fun a ha => by
        rcases List.mem_cons.mp ha with q | q
        · rw [q]; exact .inr nH
        · exact .inl q) fun a ha => List.mem_cons_of_mem _ ha
      obtain ⟨env', hm, e3⟩ := lcTurn_some e3
      · refine ⟨Dd :: Z, wipeE env vs, d, env', renv_wipe re0 vs, rx, hm, fun σ2 re2 o2 w2 => ⟨?_, ?_⟩⟩
        · rw [w2 vs hv]
          exact wipe_wipe fun w hw => hw
        obtain ⟨b, c5, e6, e3⟩ := bnd_some e3
        have p2 : Pre K c H'' (Dd :: Z) σ2 env' csi := ⟨z2, List.mem_cons_of_mem _ p.cz, ce2, re2⟩
        cases b with
        | bool k =>
          refine ⟨Dd :: Z, env', csi, k, c5, p2, e6, fun H3 k3 ce3 => ?_⟩
          have p3 := p2.step k3 ce3
          have hD3 : H3 Dd = some (.lst xs) := k3 Dd _ (k2 Dd _ hDd nDc) nDc
          cases k with
          | true =>
            refine (if_pos rfl : (if true = true then _ else _) = _).mpr ?_
            obtain ⟨x', c6, e7, e3⟩ := bnd_some e3
            have e8 := ret_some e3
            cases e8
            refine ⟨Dd :: Z, env', c5, x', c3, p3, e7, fun y H4 k4 ce4 ry => ?_⟩
            have p4 := p3.step k4 ce4
            have hD4 : H4 Dd = some (.lst xs) := k4 Dd _ hD3 nDc
            have lq : line < sizeLine + 1 := by rw [line_eq]; exact Nat.lt_succ_self _
            refine ⟨xs, hD4, by omega, c3, acc ++ [x'], xs ++ [y], r2, fun a o q n => ?_, (upd_ne (Ne.symm nDc)).trans ce4, upd_same, ?_, ?_, ?_, ?_⟩
            · have na : a ≠ Dd := fun z => by rw [z] at q; rw [q] at hD; cases hD
              rw [upd_ne na]
              exact (kp.trans (k2.trans (k3.trans k4))) a o q n
            · have l : Later H4 (Dd :: Z) (upd H4 Dd (.lst (xs ++ [y]))) (Dd :: Z) := ⟨fun a o q n => by
                rw [upd_ne fun z => n (by rw [z]; exact List.mem_cons_self)]
                exact q, fun a h => .inl h⟩
              exact DvA.later p4.z l _ _ ((DvA.later z' ((k2.trans (k3.trans k4)).later (List.mem_cons_of_mem _ p.cz)) _ _ hacc).append (.cons ry .nil))
            · rw [List.length_append]
              exact Nat.succ_le_succ hxs
            · cases e5; exact e4
            · cases e5
              rw [← hr, List.append_assoc]
              rfl
          | false =>
            refine (if_neg Bool.false_ne_true : (if false = true then _ else _) = _).mpr ?_
            have e8 := ret_some e3
            cases e8
            cases e5
            exact ⟨c3, acc, xs, r2, kp.trans (k2.trans k3), ce3, hD3, DvA.later z' ((k2.trans k3).later (List.mem_cons_of_mem _ p.cz)) _ _ hacc, Nat.le_succ_of_le hxs, e4, hr⟩
        | _ => cases e3
    · have ei : i = ds.length := by omega
      subst ei
      refine .inl ⟨w.2, ?_⟩
      rw [List.drop_length] at hst
      have e5 := ret_some hst
      cases e5
      rw [List.append_nil] at hr
      subst hr
      refine q _ H' (k1.trans kp) ce (.lst hDd (fresh_z p1.z hD) ?_) ⟨Dd, rfl, ?_, xs, acc, rfl, hDd, hacc⟩
      · exact DvA.later z' ⟨fun a o q n => q, fun a ha => .inl (List.mem_cons_of_mem _ ha)⟩ _ _ hacc
      · cases q : H Dd with
        | none => rfl
        | some o => rw [k1 Dd o q nDc] at hD; cases hD
  · cases e
end
end Se
end
section
set_option Elab.async false
set_option linter.all false
set_option maxRecDepth 100000
set_option maxHeartbeats 4000000
namespace Se
open PySem PySem.Spec PyProof.Rows L2
section
variable {X : Cx} {c : Addr} {cf : CF}
theorem e_lc {elt tg iter : Expr} {ifs : List Expr} {scope : Scope} {own : List (Str × Nat)} {pos : Pos} {fi : SI} {is : List Nat} {m : TgF} {ft fe : SE} (hc : X.calm = true) (hN : X.N.Nodup) (hi : PI X tg iter (lI X.K c (rK c) (fi cf))) (ok : BlkOk X.N X.env.scope scope own) (hv : ∀ i ∈ is, i ∈ own.map (·.2))
    (hg : ∀ (s : Shared) (H : Hp) (C : Addr) (cl : List (Str × Addr)) (fp : List Addr), PG (X.blk s H scope (compEnvC scope cl C X.env) fp) tg (lG X.K c is m)) (ht : ∀ (s : Shared) (H : Hp) (C : Addr) (cl : List (Str × Addr)) (fp : List Addr), PTs (X.blk s H scope (compEnvC scope cl C X.env) fp) ifs (lt X.K c (ft cf)))
    (he : ∀ (s : Shared) (H : Hp) (C : Addr) (cl : List (Str × Addr)) (fp : List Addr), PE (X.blk s H scope (compEnvC scope cl C X.env) fp) elt (le X.K c (fe cf))) (hs : ∀ x, foldedSetIterable iter X.env x = pure x) :
    PE X (.ListComp elt [⟨tg, iter, ifs, 0⟩] scope pos) (le X.K c (mLc (own.map (·.2)) fi m ft fe cf)) :=
  pe_imp (pe_lc hc hN hi ok hg ht he hs) fun σ H Q ⟨Z, env, cs, d, cs', p, e, q⟩ => lc_pre hv ⟨Z, env, cs, d, cs', p, e, fun v H' k ce r _ => q v H' k ce r⟩
theorem tl_one {X : Cx} {e : Expr} {ft : SE} (h : PT X e (lt X.K c (ft cf))) : PTs X [e] (lt X.K c (ft cf)) := pts_one h
end
/-! ### statements -/
structure Sta (K : PySem.W.Frag) (c : Addr) (H0 : Hp) (Z0 : List Addr) (H : Hp) (Z : List Addr) (σ : L2.St) (env : Ev) (cs : Cs) : Prop where
  pre : Pre K c H Z σ env cs
  keep : Keep c H0 H
  sub : ∀ a ∈ Z0, a ∈ Z
  own : Own H0 σ env
def lS (K : PySem.W.Frag) (c : Addr) (H0 : Hp) (Z0 : List Addr) (f : Ev → M Flow) : TS := fun D σ H => ∃ Z env cs fl cs', Sta K c H0 Z0 H Z σ env cs ∧ f env cs = some (fl, cs') ∧
  (∀ e, fl = .next e → ∀ σ' H' Z', Sta K c H0 Z0 H' Z' σ' e cs' → Later H Z H' Z' → D.nx σ' H') ∧ (∀ d, fl = .ret d → ∀ v H', Keep c H0 H' → Cell H' c cs' → Dv K H' Z0 v d → D.rt v H')
def sSeq (a b : SS) : SS := fun cf env => M.bnd (a cf env) fun fl => match fl with
  | .next e => b cf e
  | .ret d => M.ret (.ret d)
def sNil : SS := fun _ env => M.ret (.next env)
def sNever : SS := fun _ _ => M.of none
def sRet (f : SE) : SS := fun cf env => M.bnd (f cf env) fun d => M.ret (.ret d)
def sDrop (f : SE) : SS := fun cf env => M.bnd (f cf env) fun _ => M.ret (.next env)
def sIf (ft : SE) (a b : SS) : SS := fun cf env => M.bnd (ft cf env) fun x => match x with
  | .bool true => a cf env
  | .bool false => b cf env
  | _ => M.of none
def forL (turn : D → Ev → M Flow) : List D → Ev → M Flow
  | [], e => M.ret (.next e)
  | d :: ds, e => M.bnd (turn d e) fun fl => match fl with
    | .next e' => forL turn ds e'
    | .ret x => M.ret (.ret x)
def forT (m : TgF) (a : SS) (cf : CF) : D → Ev → M Flow := fun d e => match m d e with
  | some e' => a cf e'
  | none => M.of none
def sFor (fi : SI) (m : TgF) (a : SS) : SS := fun cf env => M.bnd (fi cf env) fun ds => forL (forT m a cf) ds env
def whL (ft : Ev → M D) (a : Ev → M Flow) : Nat → Ev → M Flow
  | 0, _ => M.of none
  | n + 1, e => M.bnd (ft e) fun x => match x with
    | .bool true => M.bnd (a e) fun fl => match fl with
      | .next e' => whL ft a n e'
      | .ret d => M.ret (.ret d)
    | .bool false => M.ret (.next e)
    | _ => M.of none
def sWhile (n : Nat) (ft : SE) (a : SS) : SS := fun cf env => whL (ft cf) (a cf) n env
/-- owned lists shared -/
def shOf (is : List Nat) (env : Ev) : Ev := match is with
  | [] => env
  | i :: r => shOf r (match env[i]? with
    | some (.ow d) => env.set i (.sh d)
    | _ => env)
def sSh (is : List Nat) (a : SS) : SS := fun cf env => a cf (shOf is env)
section
variable {X : Cx} {c : Addr} {cf : CF} {H0 : Hp} {Z0 : List Addr} {st : Stmt} {rest body : List Stmt} {a b : SS} {f ft : SE} {e : Expr} {pos : Pos}
theorem Sta.keepE {K : PySem.W.Frag} {H H' : Hp} {Z : List Addr} {σ : L2.St} {env : Ev} {cs cs' : Cs} (s : Sta K c H0 Z0 H Z σ env cs) (k : Keep c H H') (ce : Cell H' c cs') : Sta K c H0 Z0 H' Z σ env cs' :=
  ⟨s.pre.step k ce, s.keep.trans k, s.sub, s.own⟩
theorem p_nil : PSs X [] (lS X.K c H0 Z0 (sNil cf)) := pss_imp pss_nil fun D σ H ⟨Z, env, cs, fl, cs', s, e, n, r⟩ => by
  cases ret_some e
  exact n env rfl σ H Z s .refl
theorem p_cons (h1 : PS X st (lS X.K c H0 Z0 (a cf))) (h2 : PSs X rest (lS X.K c H0 Z0 (b cf))) : PSs X (st :: rest) (lS X.K c H0 Z0 (sSeq a b cf)) := pss_imp (pss_cons h1 h2) fun D σ H ⟨Z, env, cs, fl, cs', s, e, n, r⟩ => by
  obtain ⟨f1, c1, e1, e⟩ := bnd_some e
  refine ⟨Z, env, cs, f1, c1, s, e1, fun e2 ee σ' H' Z' s' l => ?_, fun d ed v H' k ce rv => ?_⟩
  · subst ee
    exact ⟨Z', e2, c1, fl, cs', s', e, fun e3 h3 σ2 H2 Z2 s2 l2 => n e3 h3 σ2 H2 Z2 s2 (l.trans l2), r⟩
  · subst ed
    cases ret_some e
    exact r d rfl v H' k ce rv
theorem p_one (h1 : PS X st (lS X.K c H0 Z0 (a cf))) : PSs X [st] (lS X.K c H0 Z0 (a cf)) := pss_one h1
theorem p_never : PS X st (lS X.K c H0 Z0 (sNever cf)) := ps_imp ps_never fun D σ H ⟨Z, env, cs, fl, cs', s, e, n, r⟩ => by cases e
theorem p_ret (h : PE X e (le X.K c (f cf))) : PS X (.Return (some e) pos) (lS X.K c H0 Z0 (sRet f cf)) := ps_imp (ps_ret h) fun D σ H ⟨Z, env, cs, fl, cs', s, e, n, r⟩ => by
  obtain ⟨d, c1, e1, e⟩ := bnd_some e
  cases ret_some e
  refine ⟨Z, env, cs, d, _, s.pre, e1, fun v H' k ce rv => r d rfl v H' (s.keep.trans k) ce ?_⟩
  exact Dv.later (s.pre.z.keep k ce) ⟨fun a o h _ => h, fun a h => .inl (s.sub a h)⟩ d v rv
def sRetN : SS := fun _ _ => M.ret (.ret .none)
theorem p_retN : PS X (.Return none pos) (lS X.K c H0 Z0 (sRetN cf)) := ps_imp ps_retN fun D σ H ⟨Z, env, cs, fl, cs', s, e, n, r⟩ => by
  cases ret_some e
  exact r .none rfl _ H s.keep s.pre.cell .non
theorem p_drop (h : PE X e (le X.K c (f cf))) (hs : swapsWith e none pos.line X.env = pure false) : PS X (.Expr e pos) (lS X.K c H0 Z0 (sDrop f cf)) := ps_imp (ps_expr h hs) fun D σ H ⟨Z, env, cs, fl, cs', s, e, n, r⟩ => by
  obtain ⟨d, c1, e1, e⟩ := bnd_some e
  cases ret_some e
  exact ⟨Z, env, cs, d, _, s.pre, e1, fun v H' k ce rv => n env rfl σ H' Z (s.keepE k ce) (k.later s.pre.cz)⟩
theorem p_if (ht : PT X e (lt X.K c (ft cf))) (ha : PSs X body (lS X.K c H0 Z0 (a cf))) (hb : PSs X rest (lS X.K c H0 Z0 (b cf))) : PS X (.If e body rest pos) (lS X.K c H0 Z0 (sIf ft a b cf)) := ps_imp (ps_if ht ha hb) fun D σ H ⟨Z, env, cs, fl, cs', s, e, n, r⟩ => by
  obtain ⟨k, c1, e1, e⟩ := bnd_bool (k := fun k => if k = true then a cf env else b cf env) (fun x => by cases x with
    | bool k => cases k <;> rfl
    | _ => rfl) e
  refine ⟨Z, env, cs, k, c1, s.pre, e1, fun H1 k1 ce1 => ?_⟩
  have s1 := s.keepE k1 ce1
  have fin : ∀ g : Ev → M Flow, g env c1 = some (fl, cs') → lS X.K c H0 Z0 g D σ H1 := fun g eg => ⟨Z, env, c1, fl, cs', s1, eg, fun e2 h2 σ2 H2 Z2 s2 l2 => n e2 h2 σ2 H2 Z2 s2 ((k1.later s.pre.cz).trans l2), r⟩
  cases k with
  | true => exact fin _ e
  | false => exact fin _ e
theorem Sta.share {K : PySem.W.Frag} {H : Hp} {Z : List Addr} {σ : L2.St} {env : Ev} {cs : Cs} (z0 : ZOk H0 Z0) (s : Sta K c H0 Z0 H Z σ env cs) {i : Nat} {d : D} (hi : env[i]? = some (.ow d)) : ∃ Z', Sta K c H0 Z0 H Z' σ (env.set i (.sh d)) cs ∧ (∀ b ∈ Z', b ∈ Z) := by
  obtain ⟨o, e1, aa, rfl, ha, n, hl⟩ := s.pre.env.get hi
  have hi2 : (Z.filter fun b => decide (b ≠ aa)) = (Z.filter fun b => decide (b ≠ aa)) := rfl
  have mem : ∀ {x : Addr}, x ∈ (Z.filter fun b => decide (b ≠ aa)) ↔ x ∈ Z ∧ x ≠ aa := fun {x} => by simp [List.mem_filter]
  have l : Later H Z H (Z.filter fun b => decide (b ≠ aa)) := ⟨fun x o h _ => h, fun x h => .inl (mem.mp h).1⟩
  have h0 := s.own.new i aa d hi e1
  obtain ⟨xs, ds, e2, h1, h2⟩ := hl
  have rs : ∀ {j : Nat} {o : Option V} {t : Slot}, i ≠ j → σ[j]? = some o → env[j]? = some t → RSlot K H Z c o t → RSlot K H (Z.filter fun b => decide (b ≠ aa)) c o t := fun {j o t} nij ej et r => by
    cases t with
    | no => trivial
    | sh d' =>
      obtain ⟨v, e, r⟩ := r
      exact ⟨v, e, Dv.later s.pre.z l d' v r⟩
    | ow d' =>
      obtain ⟨b, e, hb, nb, ys, es, e3, g1, g2⟩ := r
      refine ⟨b, e, mem.mpr ⟨hb, fun z => ?_⟩, nb, ys, es, e3, g1, DvA.later s.pre.z l _ _ g2⟩
      subst z
      subst e
      exact nij (s.own.sep i j b d d' hi et e1 ej)
    | cup => exact r
  refine ⟨Z.filter fun b => decide (b ≠ aa), ⟨⟨fun b hb => s.pre.z b (mem.mp hb).1, mem.mpr ⟨s.pre.cz, fun z => n z.symm⟩, s.pre.cell, ⟨by rw [List.length_set]; exact s.pre.env.len, fun j o t e3 e4 => ?_⟩⟩, s.keep, fun x hx => mem.mpr ⟨s.sub x hx, fun z => ?_⟩, ?_⟩, fun b hb => (mem.mp hb).1⟩
  · rcases set_get e4 with ⟨nn, e5⟩ | ⟨nn, e5⟩
    · subst nn e5
      rw [e1] at e3
      cases e3
      subst e2
      exact ⟨.ref aa, rfl, .lst h1 (fun q => (mem.mp q).2 rfl) (DvA.later s.pre.z l _ _ h2)⟩
    · exact rs nn e3 e5 (s.pre.env.at_ j o t e3 e5)
  · have m := z0 x hx
    rw [z, h0] at m
    exact m
  · have q := s.own.set (i := i) (o := σ[i]'(lt_of_some e1)) (s := .sh d) rfl
    have e : σ.set i (σ[i]'(lt_of_some e1)) = σ := List.set_getElem_self _
    rw [e] at q
    exact q
theorem shares {K : PySem.W.Frag} (z0 : ZOk H0 Z0) {H : Hp} {σ : L2.St} {cs : Cs} : ∀ (is : List Nat) {Z : List Addr} {env : Ev}, Sta K c H0 Z0 H Z σ env cs → ∃ Z', Sta K c H0 Z0 H Z' σ (shOf is env) cs ∧ ∀ b ∈ Z', b ∈ Z
  | [], Z, env, s => ⟨Z, s, fun _ h => h⟩
  | i :: r, Z, env, s => by
    unfold shOf
    split
    · rename_i d e
      obtain ⟨Z1, s1, h1⟩ := s.share z0 e
      obtain ⟨Z2, s2, h2⟩ := shares z0 r s1
      exact ⟨Z2, s2, fun b hb => h1 b (h2 b hb)⟩
    · exact shares z0 r s
theorem sh_pre {K : PySem.W.Frag} {is : List Nat} (z0 : ZOk H0 Z0) {D : Ends} {σ : L2.St} {H : Hp} (h : lS K c H0 Z0 (sSh is a cf) D σ H) : lS K c H0 Z0 (a cf) D σ H := by
  obtain ⟨Z, env, cs, fl, cs', s, e, n, r⟩ := h
  obtain ⟨Z1, s1, h1⟩ := shares z0 is s
  refine ⟨Z1, _, cs, fl, cs', s1, e, fun e2 h2 σ2 H2 Z2 s2 l2 => n e2 h2 σ2 H2 Z2 s2 ⟨fun x o q nq => l2.1 x o q fun z => nq (h1 x z), fun x q => ?_⟩, r⟩
  rcases l2.2 x q with q | q
  · exact .inl (h1 x q)
  · exact .inr q
theorem p_sh {is : List Nat} (z0 : ZOk H0 Z0) (h : PS X st (lS X.K c H0 Z0 (a cf))) : PS X st (lS X.K c H0 Z0 (sSh is a cf)) := ps_imp h fun D σ H q => sh_pre z0 q
theorem p_for {tg iter : Expr} {fi : SI} {is : List Nat} {m : TgF} (hp : PassesOwn (model X.prog X.w) X.A X.env X.xe) (hc : X.calm = true) (hi : PI X tg iter (lI X.K c rL (fi cf))) (hg : PG X tg (lG X.K c is m)) (hb : PSs X body (lS X.K c H0 Z0 (a cf)))
    (hs : ∀ x, foldedSetIterable iter X.env x = pure x) : PS X (.For tg iter body [] pos) (lS X.K c H0 Z0 (sFor fi m a cf)) := ps_imp (ps_for hp hc hi hg hb hs) fun D σ H ⟨Z, env, cs, fl, cs', s, e, n, r⟩ => by
  obtain ⟨ds, c1, e1, e⟩ := bnd_some e
  refine ⟨Z, env, cs, ds, c1, s.pre, e1, fun J H1 k1 ce1 wk => ?_⟩
  have s1 := s.keepE k1 ce1
  refine ⟨fun i mm σ' H' => mm = ds.length - i ∧ i ≤ ds.length ∧ ∃ Z' e2 csi, Sta X.K c H0 Z0 H' Z' σ' e2 csi ∧ Later H1 Z H' Z' ∧ forL (forT m a cf) (ds.drop i) e2 csi = some (fl, cs'), ⟨ds.length, by simp, Nat.zero_le _, Z, env, c1, s1, .refl, by simpa using e⟩, ?_⟩
  rintro i mm σ' H' ⟨rfl, hi', Z', e2, csi, s2, l2, hf⟩
  have w := wk H' Z' l2 s2.pre.z s2.pre.cz
  by_cases hlt : i < ds.length
  · obtain ⟨d, hd⟩ : ∃ d, ds[i]? = some d := ⟨ds[i], List.getElem?_eq_getElem hlt⟩
    obtain ⟨go, yl⟩ := w.1 i d hd
    have hdrop : ds.drop i = d :: ds.drop (i + 1) := by
      rw [List.drop_eq_getElem_cons hlt]
      rw [List.getElem?_eq_getElem hlt] at hd
      rw [Option.some.inj hd]
    rw [hdrop] at hf
    obtain ⟨f1, c2, e3, hf⟩ := bnd_some hf
    obtain ⟨e4, hm, e3⟩ : ∃ e4, m d e2 = some e4 ∧ a cf e4 csi = some (f1, c2) := by
      unfold forT at e3
      cases q : m d e2 with
      | none => rw [q] at e3; cases e3
      | some e4 => rw [q] at e3; exact ⟨e4, rfl, e3⟩
    refine .inr ⟨go, fun σ3 H3 => ∃ Z3 e5 csi, Sta X.K c H0 Z0 H3 Z3 σ3 e5 csi ∧ Later H1 Z H3 Z3 ∧ forL (forT m a cf) (ds.drop (i + 1)) e5 csi = some (fl, cs'), fun σ3 H3 h => ⟨ds.length - (i + 1), by omega, rfl, hlt, h⟩, fun x H3 y => ?_⟩
    obtain ⟨k3, ec3, rx⟩ := yl x H3 y
    have s3 := s2.keepE k3 (ec3.trans s2.pre.cell)
    refine ⟨Z', e2, d, e4, s3.pre.env, rx, hm, fun σ4 re4 o4 _ => ?_⟩
    have s4 : Sta X.K c H0 Z0 H3 Z' σ4 e4 csi := ⟨⟨s3.pre.z, s3.pre.cz, s3.pre.cell, re4⟩, s3.keep, s3.sub, o4 H0 s3.own⟩
    refine ⟨Z', e4, csi, f1, c2, s4, e3, fun e5 h5 σ5 H5 Z5 s5 l5 => ?_, fun d5 h5 v5 H5 k5 ce5 r5 => ?_⟩
    · subst h5
      exact ⟨Z5, e5, c2, s5, l2.trans ((k3.later s2.pre.cz).trans l5), hf⟩
    · subst h5
      cases ret_some hf
      exact r d5 rfl v5 H5 k5 ce5 r5
  · have ei : i = ds.length := by omega
    subst ei
    rw [List.drop_length] at hf
    cases ret_some hf
    exact .inl ⟨w.2, n e2 rfl σ' H' Z' s2 ((k1.later s.pre.cz).trans l2)⟩
theorem p_while {n : Nat} (hp : PassesOwn (model X.prog X.w) X.A X.env X.xe) (ht : PT X e (lt X.K c (ft cf))) (hb : PSs X body (lS X.K c H0 Z0 (a cf))) : PS X (.While e body [] pos) (lS X.K c H0 Z0 (sWhile n ft a cf)) := ps_imp (ps_while hp ht hb) fun D σ H ⟨Z, env, cs, fl, cs', s, e, nx, r⟩ => by
  refine ⟨fun mm σ' H' => ∃ Z' e2 csi, Sta X.K c H0 Z0 H' Z' σ' e2 csi ∧ Later H Z H' Z' ∧ whL (ft cf) (a cf) mm e2 csi = some (fl, cs'), ⟨n, Z, env, cs, s, .refl, e⟩, ?_⟩
  rintro mm σ' H' ⟨Z', e2, csi, s2, l2, hw⟩
  cases mm with
  | zero => cases hw
  | succ mm =>
    obtain ⟨k, c1, e1, hw⟩ := bnd_bool (k := fun k => if k = true then M.bnd (a cf e2) (fun fl => match fl with
      | .next e' => whL (ft cf) (a cf) mm e'
      | .ret d => M.ret (.ret d)) else M.ret (.next e2)) (fun x => by cases x with
        | bool k => cases k <;> rfl
        | _ => rfl) hw
    refine ⟨Z', e2, csi, k, c1, s2.pre, e1, fun H1 k1 ce1 => ?_⟩
    have s3 := s2.keepE k1 ce1
    cases k with
    | true =>
      refine (if_pos rfl : (if true = true then _ else _) = _).mpr ?_
      obtain ⟨f1, c2, e3, hw⟩ := bnd_some hw
      refine ⟨fun σ3 H3 => ∃ Z3 e5 csi, Sta X.K c H0 Z0 H3 Z3 σ3 e5 csi ∧ Later H Z H3 Z3 ∧ whL (ft cf) (a cf) mm e5 csi = some (fl, cs'), fun σ3 H3 h => ⟨mm, Nat.lt_succ_self _, h⟩, ?_⟩
      refine ⟨Z', e2, c1, f1, c2, s3, e3, fun e5 h5 σ5 H5 Z5 s5 l5 => ?_, fun d5 h5 v5 H5 k5 ce5 r5 => ?_⟩
      · subst h5
        exact ⟨Z5, e5, c2, s5, l2.trans ((k1.later s2.pre.cz).trans l5), hw⟩
      · subst h5
        cases ret_some hw
        exact r d5 rfl v5 H5 k5 ce5 r5
    | false =>
      refine (if_neg Bool.false_ne_true : (if false = true then _ else _) = _).mpr ?_
      cases ret_some hw
      exact nx e2 rfl σ' H1 Z' s3 (l2.trans (k1.later s2.pre.cz))
end
end Se
end
section
set_option Elab.async false
set_option linter.all false
set_option maxRecDepth 100000
set_option maxHeartbeats 4000000
namespace Se
open PySem PySem.Spec PyProof.Rows L2
/-- what a name is to get -/
def RNew (K : PySem.W.Frag) (H H' : Hp) (Z : List Addr) (v : V) : Slot → Prop
  | .sh d => Dv K H' Z v d
  | .ow d => ∃ a, v = .ref a ∧ H a = none ∧ Ow K H' (a :: Z) a d
  | _ => False
def lW (K : PySem.W.Frag) (c : Addr) (f : Ev → M Slot) : TE := fun σ H Q => ∃ Z env cs s cs', Pre K c H Z σ env cs ∧ f env cs = some (s, cs') ∧ ∀ v H', Keep c H H' → Cell H' c cs' → RNew K H H' Z v s → Q v H'
abbrev SW := CF → Ev → M Slot
def mSh (f : SE) : SW := fun cf env => M.bnd (f cf env) fun d => M.ret (.sh d)
def mOw (f : SE) : SW := fun cf env => M.bnd (f cf env) fun d => M.ret (.ow d)
def sSet (i : Nat) (f : SW) : SS := fun cf env => M.bnd (f cf env) fun s => M.ret (.next (env.set i s))
def sPar2 (i j : Nat) (f g : SW) : SS := fun cf env => M.bnd (f cf env) fun s => M.bnd (g cf env) fun t => M.ret (.next ((env.set i s).set j t))
def sPar3 (i j l : Nat) (f g h : SW) : SS := fun cf env => M.bnd (f cf env) fun s => M.bnd (g cf env) fun t => M.bnd (h cf env) fun u => M.ret (.next (((env.set i s).set j t).set l u))
def sAsg (f : SE) (m : TgF) : SS := fun cf env => M.bnd (f cf env) fun d => M.bnd (M.of (m d env)) fun e => M.ret (.next e)
def owL (i : Nat) (env : Ev) : Option (List D) := match env[i]? with
  | some (.ow (.list ds)) => some ds
  | _ => none
theorem owL_some {i : Nat} {env : Ev} {ds : List D} (h : owL i env = some ds) : env[i]? = some (.ow (.list ds)) := by
  unfold owL at h
  split at h
  · rename_i e; cases h; exact e
  · cases h
def appL (i : Nat) (d : D) (env : Ev) : Option Ev := match owL i env with
  | some ds => if ds.length < line then some (env.set i (.ow (.list (ds ++ [d])))) else none
  | none => none
def stoL (i : Nat) (d k : D) (env : Ev) : Option Ev := match owL i env, k with
  | some ds, .int n => (match ixN ds.length n with
    | some j => some (env.set i (.ow (.list (ds.set j d))))
    | none => none)
  | _, _ => none
def isCup (i : Nat) (env : Ev) : Bool := match env[i]? with
  | some .cup => true
  | _ => false
def cupL (i : Nat) (env : Ev) (d k : D) (cs : Cs) : Option Cs := match isCup i env, d, k with
  | true, .int x, .int n => (match ixN cs.length n with
    | some j => some (cs.set j x)
    | none => none)
  | _, _, _ => none
def cupG (i : Nat) (env : Ev) (k : D) (cs : Cs) : Option D := match isCup i env, k with
  | true, .int n => (match atI cs n with
    | some x => some (.int x)
    | none => none)
  | _, _ => none
theorem isCup_iff {i : Nat} {env : Ev} (h : isCup i env = true) : env[i]? = some .cup := by
  unfold isCup at h
  split at h
  · assumption
  · cases h
theorem appL_some {i : Nat} {d : D} {env e : Ev} (h : appL i d env = some e) : ∃ ds, owL i env = some ds ∧ ds.length < line ∧ e = env.set i (.ow (.list (ds ++ [d]))) := by
  unfold appL at h
  split at h
  · rename_i ds ho
    split at h
    · rename_i hl
      exact ⟨ds, ho, hl, (Option.some.inj h).symm⟩
    · cases h
  · cases h
theorem stoL_some {i : Nat} {d k : D} {env e : Ev} (h : stoL i d k env = some e) : ∃ ds n j, owL i env = some ds ∧ k = .int n ∧ ixN ds.length n = some j ∧ e = env.set i (.ow (.list (ds.set j d))) := by
  unfold stoL at h
  split at h
  · rename_i ds n ho
    split at h
    · rename_i j hj
      exact ⟨ds, n, j, ho, rfl, hj, (Option.some.inj h).symm⟩
    · cases h
  · cases h
theorem cupL_some {i : Nat} {d k : D} {env : Ev} {cs cs' : Cs} (h : cupL i env d k cs = some cs') : ∃ x n j, env[i]? = some .cup ∧ d = .int x ∧ k = .int n ∧ ixN cs.length n = some j ∧ cs' = cs.set j x := by
  unfold cupL at h
  split at h
  · rename_i x n ho
    split at h
    · rename_i j hj
      exact ⟨x, n, j, isCup_iff ho, rfl, rfl, hj, (Option.some.inj h).symm⟩
    · cases h
  · cases h
theorem cupG_some {i : Nat} {d k : D} {env : Ev} {cs : Cs} (h : cupG i env k cs = some d) : ∃ x n, env[i]? = some .cup ∧ k = .int n ∧ atI cs n = some x ∧ d = .int x := by
  unfold cupG at h
  split at h
  · rename_i n ho
    split at h
    · rename_i x hx
      exact ⟨x, n, isCup_iff ho, rfl, hx, (Option.some.inj h).symm⟩
    · cases h
  · cases h
def sApp (i : Nat) (f : SE) : SS := fun cf env => M.bnd (f cf env) fun d => M.bnd (M.of (appL i d env)) fun e => M.ret (.next e)
def sSto (i : Nat) (fi f : SE) : SS := fun cf env => M.bnd (f cf env) fun d => M.bnd (fi cf env) fun k => M.bnd (M.of (stoL i d k env)) fun e => M.ret (.next e)
def onCup {α : Type} (g : Cs → Option (α × Cs)) : M α := g
def sCup (i : Nat) (fi f : SE) : SS := fun cf env => M.bnd (f cf env) fun d => M.bnd (fi cf env) fun k => M.bnd (fun cs => match cupL i env d k cs with
  | some cs' => some ((), cs')
  | none => none) fun _ => M.ret (.next env)
def mCup (i : Nat) (fi : SE) : SE := fun cf env => M.bnd (fi cf env) fun k => fun cs => match cupG i env k cs with
  | some d => some (d, cs)
  | none => none
section
variable {X : Cx} {c : Addr} {cf : CF} {H0 : Hp} {Z0 : List Addr}
theorem rnew_c {K : PySem.W.Frag} {H H' : Hp} {Z : List Addr} {σ : L2.St} {env : Ev} {cs : Cs} (p : Pre K c H Z σ env cs) {a : Addr} (h : H a = none) : a ≠ c := fun e => by
  have q := p.cell
  unfold Cell at q
  rw [← e, h] at q
  cases q
/-- a name gets its value -/
theorem Sta.put {K : PySem.W.Frag} {H H' : Hp} {Z : List Addr} {σ : L2.St} {env : Ev} {cs cs' : Cs} {i : Nat} {v : V} {t : Slot} (s : Sta K c H0 Z0 H Z σ env cs) (k : Keep c H H') (ce : Cell H' c cs') (r : RNew K H H' Z v t) :
    ∃ Z', Sta K c H0 Z0 H' Z' (σ.set i (some v)) (env.set i t) cs' ∧ Later H Z H' Z' ∧ (∀ b ∈ Z, b ∈ Z') ∧ ∀ σ2 env2, REnv K H Z c σ2 env2 → Pre K c H' Z' σ2 env2 cs' := by
  cases t with
  | no => exact r.elim
  | cup => exact r.elim
  | sh d =>
    refine ⟨Z, ⟨⟨s.pre.z.keep k ce, s.pre.cz, ce, (s.pre.env.keep s.pre.z s.pre.cz k).set ⟨v, rfl, r⟩⟩, s.keep.trans k, s.sub, s.own.set rfl⟩, k.later s.pre.cz, fun _ h => h, fun σ2 env2 re => ⟨s.pre.z.keep k ce, s.pre.cz, ce, re.keep s.pre.z s.pre.cz k⟩⟩
  | ow d =>
    obtain ⟨a, rfl, ha, xs, ds, e, h1, h2⟩ := r
    have nac : a ≠ c := rnew_c (H' := H') s.pre ha
    have h0 : H0 a = none := by
      cases q : H0 a with
      | none => rfl
      | some o => rw [s.keep a o q nac] at ha; cases ha
    have z' : ZOk H' (a :: Z) := fun b hb => by
      rcases List.mem_cons.mp hb with q | q
      · rw [q, h1]; trivial
      · exact (s.pre.z.keep k ce) b q
    have hn : ∀ b ∈ a :: Z, b ∈ Z ∨ H b = none := fun b hb => by
      rcases List.mem_cons.mp hb with q | q
      · rw [q]; exact .inr ha
      · exact .inl q
    have gr : ∀ {σ2 : L2.St} {env2 : Ev}, REnv K H Z c σ2 env2 → REnv K H' (a :: Z) c σ2 env2 := fun re => re.grow s.pre.z s.pre.cz k hn fun b hb => List.mem_cons_of_mem _ hb
    exact ⟨a :: Z, ⟨⟨z', List.mem_cons_of_mem _ s.pre.cz, ce, (gr s.pre.env).set ⟨a, rfl, List.mem_cons_self, nac, xs, ds, e, h1, h2⟩⟩, s.keep.trans k, fun b hb => List.mem_cons_of_mem _ (s.sub b hb), s.own.take s.pre.env h0 (fresh_z s.pre.z ha)⟩,
      ⟨fun b o q n => k b o q fun z => n (z ▸ s.pre.cz), hn⟩, fun b hb => List.mem_cons_of_mem _ hb, fun σ2 env2 re => ⟨z', List.mem_cons_of_mem _ s.pre.cz, ce, gr re⟩⟩
theorem w_sh {e : Expr} {f : SE} (h : PE X e (le X.K c (f cf))) : PE X e (lW X.K c (mSh f cf)) := pe_imp h fun σ H Q ⟨Z, env, cs, t, cs', p, e, q⟩ => by
  obtain ⟨d, c1, e1, e⟩ := bnd_some e
  cases ret_some e
  exact ⟨Z, env, cs, d, _, p, e1, fun v H' k ce r => q v H' k ce r⟩
theorem w_lst {es : List Expr} {pos : Pos} {fs : SA D} (h : PA X es (lA (fun H Z => Dv X.K H Z) X.K c (fs cf))) (hs : Short (fs cf)) : PE X (.List es pos) (lW X.K c (mOw (mLst fs) cf)) := pe_imp (pe_lst h) fun σ H Q ⟨Z, env, cs, z, cs', p, e, q⟩ => by
  obtain ⟨d, c0, e0, e⟩ := bnd_some e
  obtain ⟨ds, c1, e1, e0⟩ := bnd_some e0
  cases ret_some e0
  cases ret_some e
  refine ⟨Z, env, cs, ds, _, p, e1, fun vs H1 k1 ce1 r1 => ⟨?_, fun t ht => ?_⟩⟩
  · rw [(paired_dva r1).length]
    exact hs _ _ _ _ e1
  · have kt : Keep c H1 (upd H1 t (.lst vs)) := .upd ht
    have p1 := p.step k1 ce1
    have ntc := rnew_c (H' := H1) p1 ht
    refine q _ _ (k1.trans kt) ((upd_cell ce1 ht).trans ce1) ⟨t, rfl, ?_, vs, ds, rfl, upd_same, DvA.later p1.z ⟨fun a o q n => kt a o q fun z => n (z ▸ p1.cz), fun a ha => ?_⟩ _ _ (paired_dva r1)⟩
    · cases q : H t with
      | none => rfl
      | some o => rw [k1 t o q ntc] at ht; cases ht
    · rcases List.mem_cons.mp ha with q | q
      · rw [q]; exact .inr ht
      · exact .inl q
theorem p_set {e : Expr} {f : SW} {i : Nat} {x : Str} {pos pos' : Pos} (hN : X.N.Nodup) (hi : X.N[i]? = some x) (hx : Loc X.env.scope x) (he : PE X e (lW X.K c (f cf))) (hs : swapsWith e (some (.Name x pos')) pos.line X.env = pure false) (hf : X.fn x = true ∨ X.env.scope.names.lookup x = some .local) :
    PS X (.Assign [.Name x pos'] e pos) (lS X.K c H0 Z0 (sSet i f cf)) := ps_imp (ps_set hN hi hx he hs hf) fun D σ H ⟨Z, env, cs, fl, cs', s, e, n, r⟩ => by
  obtain ⟨t, c1, e1, e⟩ := bnd_some e
  cases ret_some e
  refine ⟨Z, env, cs, t, _, s.pre, e1, fun v H' k ce rv => ?_⟩
  obtain ⟨Z', s', l, _, _⟩ := s.put (i := i) k ce rv
  exact n _ rfl _ H' Z' s' l
/-- the same for a list comprehension on the name's own line -/
theorem p_setLc {i : Nat} {y : Str} {py : Pos} {elt tg iter : Expr} {ifs : List Expr} {scope : Scope} {own : List (Str × Nat)} {pos spos : Pos} {fi : SI} {is : List Nat} {m : TgF} {ft fe : SE} (hc : X.calm = true) (hN : X.N.Nodup) (hy : X.N[i]? = some y) (hyl : X.env.scope.names.lookup y = some .local)
    (hsw : swapsWith (.ListComp elt [⟨tg, iter, ifs, 0⟩] scope pos) (some (.Name y py)) spos.line X.env = pure true) (hi : PI X tg iter (lI X.K c (rK c) (fi cf))) (ok : BlkOk X.N X.env.scope scope own) (hv : ∀ i ∈ is, i ∈ own.map (·.2))
    (hg : ∀ (s : Shared) (H : Hp) (C : Addr) (cl : List (Str × Addr)) (fp : List Addr), PG (X.blk s H scope (compEnvC scope cl C X.env) fp) tg (lG X.K c is m)) (ht : ∀ (s : Shared) (H : Hp) (C : Addr) (cl : List (Str × Addr)) (fp : List Addr), PTs (X.blk s H scope (compEnvC scope cl C X.env) fp) ifs (lt X.K c (ft cf)))
    (he : ∀ (s : Shared) (H : Hp) (C : Addr) (cl : List (Str × Addr)) (fp : List Addr), PE (X.blk s H scope (compEnvC scope cl C X.env) fp) elt (le X.K c (fe cf))) (hs : ∀ x, foldedSetIterable iter X.env x = pure x) :
    PS X (.Assign [.Name y py] (.ListComp elt [⟨tg, iter, ifs, 0⟩] scope pos) spos) (lS X.K c H0 Z0 (sSet i (mSh (mLc (own.map (·.2)) fi m ft fe)) cf)) :=
  ps_imp (ps_setLc hc hN hy hyl hsw hi ok hg ht he hs) fun D σ H ⟨Z, env, cs, fl, cs', s, e, n, r⟩ => by
    obtain ⟨t, c1, e1, e⟩ := bnd_some e
    obtain ⟨d, c2, e2, e1⟩ := bnd_some e1
    cases ret_some e1
    cases ret_some e
    refine lc_pre hv ⟨Z, env, cs, d, _, s.pre, e2, fun v H' k ce rv _ => ?_⟩
    obtain ⟨Z', s', l, _, _⟩ := s.put (t := .sh d) (i := i) k ce rv
    exact n _ rfl _ H' Z' s' l
theorem w_lc {elt tg iter : Expr} {ifs : List Expr} {scope : Scope} {own : List (Str × Nat)} {pos : Pos} {fi : SI} {is : List Nat} {m : TgF} {ft fe : SE} (hc : X.calm = true) (hN : X.N.Nodup) (hi : PI X tg iter (lI X.K c (rK c) (fi cf))) (ok : BlkOk X.N X.env.scope scope own) (hv : ∀ i ∈ is, i ∈ own.map (·.2))
    (hg : ∀ (s : Shared) (H : Hp) (C : Addr) (cl : List (Str × Addr)) (fp : List Addr), PG (X.blk s H scope (compEnvC scope cl C X.env) fp) tg (lG X.K c is m)) (ht : ∀ (s : Shared) (H : Hp) (C : Addr) (cl : List (Str × Addr)) (fp : List Addr), PTs (X.blk s H scope (compEnvC scope cl C X.env) fp) ifs (lt X.K c (ft cf)))
    (he : ∀ (s : Shared) (H : Hp) (C : Addr) (cl : List (Str × Addr)) (fp : List Addr), PE (X.blk s H scope (compEnvC scope cl C X.env) fp) elt (le X.K c (fe cf))) (hs : ∀ x, foldedSetIterable iter X.env x = pure x) :
    PE X (.ListComp elt [⟨tg, iter, ifs, 0⟩] scope pos) (lW X.K c (mOw (mLc (own.map (·.2)) fi m ft fe) cf)) := pe_imp (pe_lc hc hN hi ok hg ht he hs) fun σ H Q ⟨Z, env, cs, t, cs', p, e, q⟩ => by
  obtain ⟨d, c1, e1, e⟩ := bnd_some e
  cases ret_some e
  exact lc_pre hv ⟨Z, env, cs, d, _, p, e1, fun v H' k ce _ ro => q v H' k ce ro⟩
theorem p_setLcO {i : Nat} {y : Str} {py : Pos} {elt tg iter : Expr} {ifs : List Expr} {scope : Scope} {own : List (Str × Nat)} {pos spos : Pos} {fi : SI} {is : List Nat} {m : TgF} {ft fe : SE} (hc : X.calm = true) (hN : X.N.Nodup) (hy : X.N[i]? = some y) (hyl : X.env.scope.names.lookup y = some .local)
    (hsw : swapsWith (.ListComp elt [⟨tg, iter, ifs, 0⟩] scope pos) (some (.Name y py)) spos.line X.env = pure true) (hi : PI X tg iter (lI X.K c (rK c) (fi cf))) (ok : BlkOk X.N X.env.scope scope own) (hv : ∀ i ∈ is, i ∈ own.map (·.2))
    (hg : ∀ (s : Shared) (H : Hp) (C : Addr) (cl : List (Str × Addr)) (fp : List Addr), PG (X.blk s H scope (compEnvC scope cl C X.env) fp) tg (lG X.K c is m)) (ht : ∀ (s : Shared) (H : Hp) (C : Addr) (cl : List (Str × Addr)) (fp : List Addr), PTs (X.blk s H scope (compEnvC scope cl C X.env) fp) ifs (lt X.K c (ft cf)))
    (he : ∀ (s : Shared) (H : Hp) (C : Addr) (cl : List (Str × Addr)) (fp : List Addr), PE (X.blk s H scope (compEnvC scope cl C X.env) fp) elt (le X.K c (fe cf))) (hs : ∀ x, foldedSetIterable iter X.env x = pure x) :
    PS X (.Assign [.Name y py] (.ListComp elt [⟨tg, iter, ifs, 0⟩] scope pos) spos) (lS X.K c H0 Z0 (sSet i (mOw (mLc (own.map (·.2)) fi m ft fe)) cf)) :=
  ps_imp (ps_setLc hc hN hy hyl hsw hi ok hg ht he hs) fun D σ H ⟨Z, env, cs, fl, cs', s, e, n, r⟩ => by
    obtain ⟨t, c1, e1, e⟩ := bnd_some e
    obtain ⟨d, c2, e2, e1⟩ := bnd_some e1
    cases ret_some e1
    cases ret_some e
    refine lc_pre hv ⟨Z, env, cs, d, _, s.pre, e2, fun v H' k ce _ ro => ?_⟩
    obtain ⟨Z', s', l, _, _⟩ := s.put (t := .ow d) (i := i) k ce ro
    exact n _ rfl _ H' Z' s' l
theorem p_asg {tg e : Expr} {f : SE} {is : List Nat} {m : TgF} {pos : Pos} (he : PE X e (le X.K c (f cf))) (hg : PG X tg (lG X.K c is m)) (hs : swapsWithSole [tg] e pos.line X.env = pure false) (hw : swappedStores [tg] e X.env = pure none)
    (h1 : (assignEach [tg] X.env).map (·.2) = [assign tg X.env]) : PS X (.Assign [tg] e pos) (lS X.K c H0 Z0 (sAsg f m cf)) := ps_imp (ps_asg he hg hs hw h1) fun D σ H ⟨Z, env, cs, fl, cs', s, e, n, r⟩ => by
  obtain ⟨d, c1, e1, e⟩ := bnd_some e
  obtain ⟨e2, c2, e3, e⟩ := bnd_some e
  obtain ⟨e4, hm, e5⟩ := of_some e3
  cases e5
  cases ret_some e
  refine ⟨Z, env, cs, d, _, s.pre, e1, fun v H' k ce rv => ?_⟩
  have s1 := s.keepE k ce
  exact ⟨Z, env, d, e2, s1.pre.env, rv, hm, fun σ' re' o' _ => n _ rfl σ' H' Z ⟨⟨s1.pre.z, s1.pre.cz, s1.pre.cell, re'⟩, s1.keep, s1.sub, o' H0 s1.own⟩ (k.later s.pre.cz)⟩
theorem p_par2 {i j : Nat} {x y : Str} {a b : Expr} {f g : SW} {px py pt : Pos} {kt k2 : Nat} {pt2 pos : Pos} (hc : X.calm = true) (hN : X.N.Nodup) (hi : X.N[i]? = some x) (hj : X.N[j]? = some y) (hij : i ≠ j)
    (hx : X.env.scope.names.lookup x = some .local) (hy : X.env.scope.names.lookup y = some .local) (ha : PE X a (lW X.K c (f cf))) (hb : PE X b (lW X.K c (g cf)))
    (hw : swappedStores [.Tuple [.Name x px, .Name y py] kt pt] (.Tuple [a, b] k2 pt2) X.env = pure (some [x, y]))
    (hs : swapsWithSole [.Tuple [.Name x px, .Name y py] kt pt] (.Tuple [a, b] k2 pt2) pos.line X.env = pure false) (h1 : starEach [a, b] X.env = (false, eval a X.env) :: starEach [b] X.env) (h2 : starEach [b] X.env = (false, eval b X.env) :: starEach [] X.env) :
    PS X (.Assign [.Tuple [.Name x px, .Name y py] kt pt] (.Tuple [a, b] k2 pt2) pos) (lS X.K c H0 Z0 (sPar2 i j f g cf)) :=
  ps_imp (ps_par hc hN hi hj hij hx hy (pa_cons ha (pa_cons hb pa_nil h2) h1) hw hs) fun D σ H ⟨Z, env, cs, fl, cs', s, e, n, r⟩ => by
    obtain ⟨t, c1, e1, e⟩ := bnd_some e
    obtain ⟨u, c2, e2, e⟩ := bnd_some e
    cases ret_some e
    refine ⟨Z, env, cs, t, c1, s.pre, e1, fun v H1 k1 ce1 r1 => ?_⟩
    obtain ⟨Z1, s1, l1, _, p1⟩ := s.put (i := i) k1 ce1 r1
    refine ⟨Z1, env, c1, u, _, p1 σ env s.pre.env, e2, fun w H2 k2 ce2 r2 => ?_⟩
    obtain ⟨Z2, s2, l2, _, _⟩ := s1.put (i := j) k2 ce2 r2
    exact ⟨v, w, rfl, n _ rfl _ H2 Z2 s2 (l1.trans l2)⟩
theorem p_par3 {i j l : Nat} {x y z : Str} {a b d : Expr} {f g h : SW} {px py pz pt : Pos} {kt k2 : Nat} {pt2 pos : Pos} (hc : X.calm = true) (hN : X.N.Nodup) (hi : X.N[i]? = some x) (hj : X.N[j]? = some y) (hl : X.N[l]? = some z) (hij : i ≠ j) (hil : i ≠ l) (hjl : j ≠ l)
    (hx : X.env.scope.names.lookup x = some .local) (hy : X.env.scope.names.lookup y = some .local) (hz : X.env.scope.names.lookup z = some .local) (ha : PE X a (lW X.K c (f cf))) (hb : PE X b (lW X.K c (g cf))) (hd : PE X d (lW X.K c (h cf)))
    (hw : swappedStores [.Tuple [.Name x px, .Name y py, .Name z pz] kt pt] (.Tuple [a, b, d] k2 pt2) X.env = pure (some [x, y, z]))
    (hs : swapsWithSole [.Tuple [.Name x px, .Name y py, .Name z pz] kt pt] (.Tuple [a, b, d] k2 pt2) pos.line X.env = pure false) (h1 : starEach [a, b, d] X.env = (false, eval a X.env) :: starEach [b, d] X.env) (h2 : starEach [b, d] X.env = (false, eval b X.env) :: starEach [d] X.env) (h3 : starEach [d] X.env = (false, eval d X.env) :: starEach [] X.env) :
    PS X (.Assign [.Tuple [.Name x px, .Name y py, .Name z pz] kt pt] (.Tuple [a, b, d] k2 pt2) pos) (lS X.K c H0 Z0 (sPar3 i j l f g h cf)) :=
  ps_imp (ps_par3 hc hN hi hj hl hij hil hjl hx hy hz (pa_cons ha (pa_cons hb (pa_cons hd pa_nil h3) h2) h1) hw hs) fun D σ H ⟨Z, env, cs, fl, cs', s, e, n, r⟩ => by
    obtain ⟨t, c1, e1, e⟩ := bnd_some e
    obtain ⟨u, c2, e2, e⟩ := bnd_some e
    obtain ⟨u3, c3, e3, e⟩ := bnd_some e
    cases ret_some e
    refine ⟨Z, env, cs, t, c1, s.pre, e1, fun v H1 k1 ce1 r1 => ?_⟩
    obtain ⟨Z1, s1, l1, sb1, p1⟩ := s.put (i := i) k1 ce1 r1
    refine ⟨Z1, env, c1, u, _, p1 σ env s.pre.env, e2, fun w H2 k2 ce2 r2 => ?_⟩
    obtain ⟨Z2, s2, l2, _, p2⟩ := s1.put (i := j) k2 ce2 r2
    refine ⟨Z2, env, c2, u3, _, p2 σ env (p1 σ env s.pre.env).env, e3, fun y H3 k3 ce3 r3 => ?_⟩
    obtain ⟨Z3, s3, l3, _, _⟩ := s2.put (i := l) k3 ce3 r3
    exact ⟨v, w, y, rfl, n _ rfl _ H3 Z3 s3 (l1.trans (l2.trans l3))⟩
/-- an owned list gets new contents -/
theorem Sta.mut {K : PySem.W.Frag} {H : Hp} {Z : List Addr} {σ : L2.St} {env : Ev} {cs : Cs} {i : Nat} {a : Addr} {d : D} {xs : List V} {ds : List D} (s : Sta K c H0 Z0 H Z σ env cs) (hi : env[i]? = some (.ow d)) (ha : σ[i]? = some (some (.ref a))) (r : DvA K H Z xs ds) :
    Sta K c H0 Z0 (upd H a (.lst xs)) Z σ (env.set i (.ow (.list ds))) cs ∧ Later H Z (upd H a (.lst xs)) Z := by
  obtain ⟨a', e, haz, nac, ys, es, e2, h1, h2⟩ := s.pre.env.at_ i _ _ ha hi
  cases e
  have l : Later H Z (upd H a (.lst xs)) Z := ⟨fun b o q n => by
    rw [upd_ne fun z => n (by rw [z]; exact haz)]
    exact q, fun b h => .inl h⟩
  have h0 := s.own.new i a d hi ha
  refine ⟨⟨⟨fun b hb => ?_, s.pre.cz, (upd_ne (Ne.symm nac)).trans s.pre.cell, ⟨by rw [List.length_set]; exact s.pre.env.len, fun j o t e3 e4 => ?_⟩⟩, fun b o q n => ?_, s.sub, ⟨fun j b d' e3 e4 => ?_, fun j k b d' d'' e3 e4 e5 e6 => ?_⟩⟩, l⟩
  · by_cases q : b = a
    · rw [q, upd_same]; trivial
    · rw [upd_ne q]; exact s.pre.z b hb
  · rcases set_get e4 with ⟨nn, e5⟩ | ⟨nn, e5⟩
    · subst nn e5
      rw [ha] at e3
      cases e3
      exact ⟨a, rfl, haz, nac, xs, ds, rfl, upd_same, DvA.later s.pre.z l _ _ r⟩
    · have q := s.pre.env.at_ j o t e3 e5
      cases t with
      | no => trivial
      | sh d' =>
        obtain ⟨v, e, q⟩ := q
        exact ⟨v, e, Dv.later s.pre.z l d' v q⟩
      | ow d' =>
        obtain ⟨b, e, hb, nb, zs, fs, e6, g1, g2⟩ := q
        refine ⟨b, e, hb, nb, zs, fs, e6, ?_, DvA.later s.pre.z l _ _ g2⟩
        rw [upd_ne fun z => ?_]
        · exact g1
        · subst z
          subst e
          exact nn (s.own.sep i j b d d' hi e5 ha e3)
      | cup => exact q
  · have na : b ≠ a := fun z => by rw [z, h0] at q; cases q
    rw [upd_ne na]
    exact s.keep b o q n
  · rcases set_get e3 with ⟨nn, e5⟩ | ⟨nn, e5⟩
    · subst nn
      exact s.own.new i b d hi e4
    · exact s.own.new j b d' e5 e4
  · have hj : ∃ g, env[j]? = some (.ow g) := by
      rcases set_get e3 with ⟨nn, _⟩ | ⟨_, e7⟩
      · subst nn; exact ⟨d, hi⟩
      · exact ⟨d', e7⟩
    have hk : ∃ g, env[k]? = some (.ow g) := by
      rcases set_get e4 with ⟨nn, _⟩ | ⟨_, e7⟩
      · subst nn; exact ⟨d, hi⟩
      · exact ⟨d'', e7⟩
    obtain ⟨g1, hj⟩ := hj
    obtain ⟨g2, hk⟩ := hk
    exact s.own.sep j k b g1 g2 hj hk e5 e6
theorem Sta.cup {K : PySem.W.Frag} {H : Hp} {Z : List Addr} {σ : L2.St} {env : Ev} {cs cs' : Cs} (s : Sta K c H0 Z0 H Z σ env cs) : Sta K c H0 Z0 (upd H c (.lst (cs'.map V.int))) Z σ env cs' ∧ Later H Z (upd H c (.lst (cs'.map V.int))) Z := by
  have k : Keep c H (upd H c (.lst (cs'.map V.int))) := fun b o q n => by
    rw [upd_ne n]
    exact q
  exact ⟨s.keepE k upd_same, k.later s.pre.cz⟩
theorem owned_at {K : PySem.W.Frag} {H : Hp} {Z : List Addr} {σ : L2.St} {env : Ev} {cs : Cs} {i : Nat} {ds : List D} (p : Pre K c H Z σ env cs) (h : owL i env = some ds) : env[i]? = some (.ow (.list ds)) ∧ ∃ a xs, σ[i]? = some (some (.ref a)) ∧ a ≠ c ∧ H a = some (.lst xs) ∧ DvA K H Z xs ds := by
  have h := owL_some h
  obtain ⟨o, e1, a, rfl, ha, n, xs, es, e2, h1, h2⟩ := p.env.get h
  cases e2
  exact ⟨h, a, xs, e1, n, h1, h2⟩
theorem p_app {e : Expr} {f : SE} {i : Nat} {x : Str} {pos apos cpos npos : Pos} (hN : X.N[i]? = some x) (hv : Vis X.env.scope x) (hd : (x == ("__debug__" : Str)) = false) (hcd : (x == ("__classdict__" : Str)) = false) (he : PE X e (le X.K c (f cf)))
    (h1 : starEach [e] X.env = (false, eval e X.env) :: starEach [] X.env) (hbase : attributeBase (.Name x npos) "append" X.env (eval (.Name x npos) X.env) = eval (.Name x npos) X.env)
    (hfew : ((backTo cpos (starEach [e] X.env)).all (fun x => !x.1) && (backToKw cpos (keywordEach [] X.env)).all (fun x => x.1.isSome)
      && decide ([e].length + ([] : List Keyword).length + (if ([] : List Keyword).isEmpty then 0 else 1) < 30)) = true)
    (hline : (apos.endLine == cpos.line) = true) (hplain : (backTo cpos (starEach [] X.env)).any (·.1) = false) (hs : swapsWith (.Call (.Attribute (.Name x npos) "append" apos) [e] [] cpos) none pos.line X.env = pure false) :
    PS X (.Expr (.Call (.Attribute (.Name x npos) "append" apos) [e] [] cpos) pos) (lS X.K c H0 Z0 (sApp i f cf)) :=
  ps_imp (ps_expr (pe_bm PySem.F.plainAttrs_list PySem.F.slot_list_append PySem.F.type_list_append mt_append (pe_var hN hv hd hcd) (pa_cons he pa_nil h1) hbase hfew hline h1 hplain) hs) fun D σ H ⟨Z, env, cs, fl, cs', s, e, n, r⟩ => by
    obtain ⟨d, c1, e1, e⟩ := bnd_some e
    obtain ⟨e2, c2, e3, e⟩ := bnd_some e
    obtain ⟨e4, hm, e5⟩ := of_some e3
    cases e5
    cases ret_some e
    obtain ⟨ds, ho, hl, rfl⟩ := appL_some hm
    obtain ⟨hi, a, xs, ha, nac, hA, hD⟩ := owned_at s.pre ho
    refine ⟨.ref a, ha, .inl ⟨rfl, xs, .inl (.inl hA)⟩, Z, env, cs, d, _, s.pre, e1, fun v H' k ce rv => ?_⟩
    have s1 := s.keepE k ce
    have hA' := k a _ hA nac
    have hD' := s.pre.dva k hD
    obtain ⟨s2, l2⟩ := s1.mut hi ha (hD'.append (.cons rv .nil))
    exact ⟨a, xs, v, rfl, rfl, hA', by rw [hD.length, line_eq]; exact hl, n _ rfl σ _ Z s2 ((k.later s.pre.cz).trans l2)⟩
theorem p_sto {ei e : Expr} {f fi : SE} {i : Nat} {x : Str} {pos npos tpos : Pos} (hN : X.N[i]? = some x) (hv : Vis X.env.scope x) (hd : (x == ("__debug__" : Str)) = false) (hcd : (x == ("__classdict__" : Str)) = false) (hi : PE X ei (le X.K c (fi cf))) (he : PE X e (le X.K c (f cf)))
    (ha : ∀ v, assign (.Subscript (.Name x npos) ei tpos) X.env v = (do
      let ov ← holding [v] (eval (.Name x npos) X.env)
      let iv ← holding [v, ov] (eval ei X.env)
      standAt tpos
      holding [v, ov, iv] (setItem ov iv v)
      release [v, ov, iv] []))
    (hs : swapsWithSole [.Subscript (.Name x npos) ei tpos] e pos.line X.env = pure false) (hw : swappedStores [.Subscript (.Name x npos) ei tpos] e X.env = pure none)
    (h1 : (assignEach [.Subscript (.Name x npos) ei tpos] X.env).map (·.2) = [assign (.Subscript (.Name x npos) ei tpos) X.env]) :
    PS X (.Assign [.Subscript (.Name x npos) ei tpos] e pos) (lS X.K c H0 Z0 (sSto i fi f cf)) :=
  ps_imp (ps_asg he (pg_sub (pe_var hN hv hd hcd) hi set_list ha) hs hw h1) fun D σ H ⟨Z, env, cs, fl, cs', s, e, n, r⟩ => by
    obtain ⟨d, c1, e1, e⟩ := bnd_some e
    obtain ⟨k, c2, e2, e⟩ := bnd_some e
    obtain ⟨e3, c3, e4, e⟩ := bnd_some e
    obtain ⟨e5, hm, e6⟩ := of_some e4
    cases e6
    cases ret_some e
    obtain ⟨ds, m, j, ho, rfl, hj, rfl⟩ := stoL_some hm
    refine ⟨Z, env, cs, d, c1, s.pre, e1, fun v H1 k1 ce1 rv => ?_⟩
    have s1 := s.keepE k1 ce1
    obtain ⟨hi, a, xs, ha, nac, hA, hD⟩ := owned_at s1.pre ho
    refine ⟨.ref a, ha, Z, env, c1, _, _, s1.pre, e2, fun u H2 k2 ce2 ru => ?_⟩
    have s2 := s1.keepE k2 ce2
    cases ru
    obtain ⟨s3, l3⟩ := s2.mut hi ha ((s1.pre.dva k2 hD).set j (s1.pre.dv k2 rv))
    exact ⟨a, xs, m, j, rfl, rfl, k2 a _ hA nac, by rw [hD.length]; exact hj, n _ rfl σ _ Z s3 ((k1.later s.pre.cz).trans ((k2.later s1.pre.cz).trans l3))⟩
theorem p_cup {ei e : Expr} {f fi : SE} {i : Nat} {x : Str} {pos npos tpos : Pos} (hN : X.N[i]? = some x) (hv : Vis X.env.scope x) (hd : (x == ("__debug__" : Str)) = false) (hcd : (x == ("__classdict__" : Str)) = false) (hi : PE X ei (le X.K c (fi cf))) (he : PE X e (le X.K c (f cf)))
    (ha : ∀ v, assign (.Subscript (.Name x npos) ei tpos) X.env v = (do
      let ov ← holding [v] (eval (.Name x npos) X.env)
      let iv ← holding [v, ov] (eval ei X.env)
      standAt tpos
      holding [v, ov, iv] (setItem ov iv v)
      release [v, ov, iv] []))
    (hs : swapsWithSole [.Subscript (.Name x npos) ei tpos] e pos.line X.env = pure false) (hw : swappedStores [.Subscript (.Name x npos) ei tpos] e X.env = pure none)
    (h1 : (assignEach [.Subscript (.Name x npos) ei tpos] X.env).map (·.2) = [assign (.Subscript (.Name x npos) ei tpos) X.env]) :
    PS X (.Assign [.Subscript (.Name x npos) ei tpos] e pos) (lS X.K c H0 Z0 (sCup i fi f cf)) :=
  ps_imp (ps_asg he (pg_sub (pe_var hN hv hd hcd) hi set_list ha) hs hw h1) fun D σ H ⟨Z, env, cs, fl, cs', s, e, n, r⟩ => by
    obtain ⟨d, c1, e1, e⟩ := bnd_some e
    obtain ⟨k, c2, e2, e⟩ := bnd_some e
    obtain ⟨u0, c3, e4, e⟩ := bnd_some e
    cases ret_some e
    obtain ⟨cs3, hm, e6⟩ : ∃ cs3, cupL i env d k c2 = some cs3 ∧ cs' = cs3 := by
      cases q : cupL i env d k c2 with
      | none => rw [q] at e4; cases e4
      | some cs3 => rw [q] at e4; cases e4; exact ⟨_, rfl, rfl⟩
    subst e6
    obtain ⟨y, m, j, ho, rfl, rfl, hj, rfl⟩ := cupL_some hm
    refine ⟨Z, env, cs, _, c1, s.pre, e1, fun v H1 k1 ce1 rv => ?_⟩
    have s1 := s.keepE k1 ce1
    obtain ⟨o, ec, rc⟩ := s1.pre.env.get ho
    have rc' : o = some (.ref c) := rc
    subst rc'
    refine ⟨.ref c, ec, Z, env, c1, _, _, s1.pre, e2, fun u H2 k2 ce2 ru => ?_⟩
    have s2 := s1.keepE k2 ce2
    cases ru
    cases rv
    obtain ⟨s3, l3⟩ := s2.cup (cs' := c2.set j y)
    refine ⟨c, c2.map V.int, m, j, rfl, rfl, ce2, by rw [List.length_map]; exact hj, ?_⟩
    have em : (c2.map V.int).set j (.int y) = (c2.set j y).map V.int := (List.map_set).symm
    rw [em]
    exact n _ rfl σ _ Z s3 ((k1.later s.pre.cz).trans ((k2.later s1.pre.cz).trans l3))
theorem e_cup {ei : Expr} {fi : SE} {i : Nat} {x : Str} {pos npos : Pos} (hN : X.N[i]? = some x) (hv : Vis X.env.scope x) (hd : (x == ("__debug__" : Str)) = false) (hcd : (x == ("__classdict__" : Str)) = false) (hi : PE X ei (le X.K c (fi cf))) (hs : PlainIx ei) : PE X (.Subscript (.Name x npos) ei pos) (le X.K c (mCup i fi cf)) :=
  pe_imp (pe_ix ix_list (pe_var hN hv hd hcd) hi hs) fun σ H Q ⟨Z, env, cs, z, cs', p, e, q⟩ => by
    obtain ⟨k, c2, e2, e⟩ := bnd_some e
    obtain ⟨d, hm, e6⟩ : ∃ d, cupG i env k c2 = some d ∧ (z, cs') = (d, c2) := by
      cases q : cupG i env k c2 with
      | none => rw [q] at e; cases e
      | some d => rw [q] at e; cases e; exact ⟨_, rfl, rfl⟩
    cases e6
    obtain ⟨y, m, ho, rfl, hy, rfl⟩ := cupG_some hm
    obtain ⟨o, ec, rc⟩ := p.env.get ho
    have rc' : o = some (.ref c) := rc
    subst rc'
    refine ⟨.ref c, ec, Z, env, cs, _, _, p, e2, fun u H2 k2 ce2 ru => ?_⟩
    cases ru
    refine ⟨c, _, m, .int y, rfl, rfl, .inl (.inl ce2), ?_, q _ H2 k2 ce2 (.int y)⟩
    unfold atI at hy ⊢
    rw [List.length_map]
    cases q : ixN cs'.length m with
    | none => rw [q] at hy; cases hy
    | some j =>
      rw [q] at hy
      show (List.map V.int _)[j]? = _
      rw [List.getElem?_map]
      have hy' : cs'[j]? = some y := hy
      rw [hy']
      rfl
end
end Se
end
section
set_option Elab.async false
set_option linter.all false
set_option maxRecDepth 100000
set_option maxHeartbeats 4000000
namespace Se
open PySem PySem.Spec PyProof.Rows L2
/-! ### built-ins by values -/
def gLen (ds : List D) : Option D := match ds with
  | [d] => match sqL d with
    | some xs => some (.int xs.length)
    | none => none
  | _ => none
def gAbs (ds : List D) : Option D := match ds with
  | [.int i] => some (.int (if i < 0 then -i else i))
  | _ => none
def gInt (ds : List D) : Option D := match ds with
  | [.int i] => some (.int i)
  | [.bool b] => some (.int (if b then 1 else 0))
  | _ => none
def maxL : List Int → Int
  | [] => 0
  | [x] => x
  | x :: y :: r => if maxL (y :: r) > x then maxL (y :: r) else x
def minL : List Int → Int
  | [] => 0
  | [x] => x
  | x :: y :: r => if minL (y :: r) < x then minL (y :: r) else x
theorem maxL_mem : ∀ {ns : List Int}, ns ≠ [] → maxL ns ∈ ns ∧ ∀ y ∈ ns, y ≤ maxL ns
  | [], h => absurd rfl h
  | [x], _ => ⟨by simp [maxL], by simp [maxL]⟩
  | x :: y :: r, _ => by
    obtain ⟨h1, h2⟩ := maxL_mem (ns := y :: r) (by simp)
    unfold maxL
    split
    · rename_i h
      refine ⟨List.mem_cons_of_mem _ h1, fun z hz => ?_⟩
      rcases List.mem_cons.mp hz with q | q
      · omega
      · exact h2 z q
    · rename_i h
      refine ⟨List.mem_cons_self, fun z hz => ?_⟩
      rcases List.mem_cons.mp hz with q | q
      · omega
      · have := h2 z q; omega
theorem minL_mem : ∀ {ns : List Int}, ns ≠ [] → minL ns ∈ ns ∧ ∀ y ∈ ns, minL ns ≤ y
  | [], h => absurd rfl h
  | [x], _ => ⟨by simp [minL], by simp [minL]⟩
  | x :: y :: r, _ => by
    obtain ⟨h1, h2⟩ := minL_mem (ns := y :: r) (by simp)
    unfold minL
    split
    · rename_i h
      refine ⟨List.mem_cons_of_mem _ h1, fun z hz => ?_⟩
      rcases List.mem_cons.mp hz with q | q
      · omega
      · exact h2 z q
    · rename_i h
      refine ⟨List.mem_cons_self, fun z hz => ?_⟩
      rcases List.mem_cons.mp hz with q | q
      · omega
      · have := h2 z q; omega
def gMax (ds : List D) : Option D := match ds with
  | [.int i, .int j] => some (.int (if j > i then j else i))
  | [.list es] => match asInts es with
    | some (n :: ns) => some (.int (maxL (n :: ns)))
    | _ => none
  | _ => none
def gMin (ds : List D) : Option D := match ds with
  | [.int i, .int j] => some (.int (if j < i then j else i))
  | [.list es] => match asInts es with
    | some (n :: ns) => some (.int (minL (n :: ns)))
    | _ => none
  | _ => none
def gSum (ds : List D) : Option D := match ds with
  | [.list es] => match asInts es with
    | some ns => some (.int ns.sum)
    | _ => none
  | _ => none
def gAll (ds : List D) : Option D := match ds with
  | [.list es] => match asBools es with
    | some bs => some (.bool (bs.all id))
    | _ => none
  | _ => none
def gAny (ds : List D) : Option D := match ds with
  | [.list es] => match asBools es with
    | some bs => some (.bool (bs.any id))
    | _ => none
  | [.tuple es] => match asInts es with
    | some ns => some (.bool (ns.any fun n => n != 0))
    | _ => none
  | _ => none
def gTuple (ds : List D) : Option D := match ds with
  | [d] => match sqL d with
    | some xs => some (.tuple xs)
    | none => none
  | _ => none
def gList (ds : List D) : Option D := match ds with
  | [d] => match sqL d with
    | some xs => some (.list xs)
    | none => none
  | _ => none
def gGcd (ds : List D) : Option D := match ds with
  | [.int a, .int b] => some (.int ((Nat.gcd a.natAbs b.natAbs : Nat) : Int))
  | _ => none
/-- Newton's steps, checked at the end -/
def isqGo : Nat → Nat → Nat → Nat
  | 0, _, x => x
  | f + 1, n, x => if (x + n / x) / 2 < x then isqGo f n ((x + n / x) / 2) else x
def isq (n : Nat) : Nat := if n < 2 then n else isqGo 200 n (2 ^ (n.log2 / 2 + 1))
def gIsqrt (ds : List D) : Option D := match ds with
  | [.int a] => if 0 ≤ a ∧ a < 18446744073709551616 ∧ isq a.toNat * isq a.toNat ≤ a.toNat ∧ a.toNat < (isq a.toNat + 1) * (isq a.toNat + 1) then some (.int (isq a.toNat)) else none
  | _ => none
section
variable {X : Cx} {c : Addr}
theorem callR_imp {f : Value} {r r' : List V → Hp → VK → Prop} (h : CallR X f r) (i : ∀ x H Q, r' x H Q → r x H Q) : CallR X f r' := fun pins s σ H xs us Q I rx q => h pins s σ H xs us Q I rx (i _ _ _ q)
theorem dvp_seq {K : PySem.W.Frag} {H : Hp} {Z : List Addr} {v : V} {d : D} {xs : List D} (r : DvP K H Z c v d) (h : sqL d = some xs) : ∃ a ys, v = .ref a ∧ (SqL K H a ys ∨ SqT K H a ys) ∧ DvA K H Z ys xs := by
  cases d with
  | list ds =>
    cases h
    obtain ⟨a, ys, e, h1, h2⟩ := r.list
    exact ⟨a, ys, e, .inl (.inl (.inl h1)), h2⟩
  | tuple ds =>
    cases h
    obtain ⟨a, ys, e, h1, h2⟩ := r.tuple
    exact ⟨a, ys, e, .inr h1, h2⟩
  | _ => cases h
theorem b_len : CallR X (.builtin "len") (rA X.K c gLen) := callR_imp call_len_seq fun vs H Q ⟨Z, ds, z, zo, cz, r, g, q⟩ => by
  unfold gLen at g
  split at g
  · split at g
    · rename_i xs e
      cases g
      obtain ⟨v, rfl, rr⟩ := paired1 r
      obtain ⟨a, ys, rfl, h1, h2⟩ := dvp_seq rr e
      refine ⟨a, ys, rfl, h1, ?_⟩
      rw [h2.length]
      exact q _ H .refl rfl (.int _)
    · cases g
  · cases g
theorem b_abs : CallR X (.builtin "abs") (rA X.K c gAbs) := callR_imp call_abs fun vs H Q ⟨Z, ds, z, zo, cz, r, g, q⟩ => by
  unfold gAbs at g
  split at g
  · cases g
    obtain ⟨v, rfl, rr⟩ := paired1 r
    rw [rr.int]
    exact ⟨_, rfl, q _ H .refl rfl (.int _)⟩
  · cases g
theorem b_int : CallR X (.type "int") (rA X.K c gInt) := callR_imp call_int1 fun vs H Q ⟨Z, ds, z, zo, cz, r, g, q⟩ => by
  unfold gInt at g
  split at g
  · cases g
    obtain ⟨v, rfl, rr⟩ := paired1 r
    rw [rr.int]
    exact .inl ⟨_, rfl, q _ H .refl rfl (.int _)⟩
  · cases g
    obtain ⟨v, rfl, rr⟩ := paired1 r
    rw [rr.bool]
    exact .inr ⟨_, rfl, q _ H .refl rfl (.int _)⟩
  · cases g
theorem dvp_ints {K : PySem.W.Frag} {H : Hp} {Z : List Addr} {v : V} {es : List D} {ns : List Int} (r : DvP K H Z c v (.list es)) (h : asInts es = some ns) : ∃ a, v = .ref a ∧ SqL K H a (ns.map V.int) := by
  obtain ⟨a, ys, e, h1, h2⟩ := r.list
  rw [h2.ints (asInts_eq h)] at h1
  exact ⟨a, e, .inl (.inl h1)⟩
theorem DvA.bools {K : PySem.W.Frag} {H : Hp} {Z : List Addr} : ∀ {bs : List Bool} {vs : List V}, DvA K H Z vs (bs.map PyData.bool) → vs = bs.map V.bl
  | [], _, h => by cases h; rfl
  | b :: bs, _, h => by
    cases h with
    | cons h1 h2 =>
      cases h1
      rw [h2.bools]
      rfl
theorem dvp_bools {K : PySem.W.Frag} {H : Hp} {Z : List Addr} {v : V} {es : List D} {ns : List Bool} (r : DvP K H Z c v (.list es)) (h : asBools es = some ns) : ∃ a, v = .ref a ∧ SqL K H a (ns.map V.bl) := by
  obtain ⟨a, ys, e, h1, h2⟩ := r.list
  rw [asBools_eq h] at h2
  rw [h2.bools] at h1
  exact ⟨a, e, .inl (.inl h1)⟩
theorem b_max (hc : X.calm = true) : CallR X (.builtin "max") (rA X.K c gMax) := callR_imp (CallR.or (call_max2 hc) (cr_max hc)) fun vs H Q ⟨Z, ds, z, zo, cz, r, g, q⟩ => by
  unfold gMax at g
  split at g
  · cases g
    obtain ⟨v, u, rfl, r1, r2⟩ := paired2 r
    rw [r1.int, r2.int]
    exact .inl ⟨_, _, rfl, q _ H .refl rfl (.int _)⟩
  · split at g
    · rename_i n ns e
      cases g
      obtain ⟨v, rfl, rr⟩ := paired1 r
      obtain ⟨a, rfl, h1⟩ := dvp_ints rr e
      refine .inr ⟨a, n :: ns, rfl, h1, by simp, fun m hm hy => ?_⟩
      obtain ⟨m1, m2⟩ := maxL_mem (ns := n :: ns) (by simp)
      have e : m = maxL (n :: ns) := by
        have := m2 m hm
        have := hy _ m1
        omega
      rw [e]
      exact q _ H .refl rfl (.int _)
    · cases g
  · cases g
theorem b_min (hc : X.calm = true) : CallR X (.builtin "min") (rA X.K c gMin) := callR_imp (CallR.or (call_min2 hc) (cr_min hc)) fun vs H Q ⟨Z, ds, z, zo, cz, r, g, q⟩ => by
  unfold gMin at g
  split at g
  · cases g
    obtain ⟨v, u, rfl, r1, r2⟩ := paired2 r
    rw [r1.int, r2.int]
    exact .inl ⟨_, _, rfl, q _ H .refl rfl (.int _)⟩
  · split at g
    · rename_i n ns e
      cases g
      obtain ⟨v, rfl, rr⟩ := paired1 r
      obtain ⟨a, rfl, h1⟩ := dvp_ints rr e
      refine .inr ⟨a, n :: ns, rfl, h1, by simp, fun m hm hy => ?_⟩
      obtain ⟨m1, m2⟩ := minL_mem (ns := n :: ns) (by simp)
      have e : m = minL (n :: ns) := by
        have := m2 m hm
        have := hy _ m1
        omega
      rw [e]
      exact q _ H .refl rfl (.int _)
    · cases g
  · cases g
theorem b_sum (hc : X.calm = true) : CallR X (.builtin "sum") (rA X.K c gSum) := callR_imp (cr_sum hc) fun vs H Q ⟨Z, ds, z, zo, cz, r, g, q⟩ => by
  unfold gSum at g
  split at g
  · split at g
    · rename_i ns e
      cases g
      obtain ⟨v, rfl, rr⟩ := paired1 r
      obtain ⟨a, rfl, h1⟩ := dvp_ints rr e
      exact ⟨a, ns, rfl, h1, q _ H .refl rfl (.int _)⟩
    · cases g
  · cases g
theorem b_all (hc : X.calm = true) : CallR X (.builtin "all") (rA X.K c gAll) := callR_imp (cr_all hc) fun vs H Q ⟨Z, ds, z, zo, cz, r, g, q⟩ => by
  unfold gAll at g
  split at g
  · split at g
    · rename_i ns e
      cases g
      obtain ⟨v, rfl, rr⟩ := paired1 r
      obtain ⟨a, rfl, h1⟩ := dvp_bools rr e
      exact ⟨a, ns, rfl, h1, q _ H .refl rfl (.bl _)⟩
    · cases g
  · cases g
theorem b_gcd : CallR X (.builtin "math.gcd") (rA X.K c gGcd) := callR_imp cr_gcd fun vs H Q ⟨Z, ds, z, zo, cz, r, g, q⟩ => by
  unfold gGcd at g
  split at g
  · cases g
    obtain ⟨v, u, rfl, r1, r2⟩ := paired2 r
    rw [r1.int, r2.int]
    exact ⟨_, _, rfl, q _ H .refl rfl (.int _)⟩
  · cases g
theorem b_tuple : CallR X (.type "tuple") (rA X.K c gTuple) := callR_imp call_tuple_of fun vs H Q ⟨Z, ds, z, zo, cz, r, g, q⟩ => by
  unfold gTuple at g
  split at g
  · rename_i d
    split at g
    · rename_i xs e
      cases g
      obtain ⟨v, rfl, rr⟩ := paired1 r
      cases d with
      | list ds =>
        cases e
        obtain ⟨a, ys, rfl, h1, h2⟩ := rr.list
        exact ⟨a, ys, rfl, .inl ⟨.inl (.inl h1), fresh_tup zo cz h2 q⟩⟩
      | tuple ds =>
        cases e
        obtain ⟨a, ys, rfl, h1, h2⟩ := rr.tuple
        exact ⟨a, ys, rfl, .inr ⟨h1, q _ H .refl rfl (.tup h1 h2)⟩⟩
      | _ => cases e
    · cases g
  · cases g
theorem b_list : CallR X (.type "list") (rA X.K c gList) := callR_imp call_list_of fun vs H Q ⟨Z, ds, z, zo, cz, r, g, q⟩ => by
  unfold gList at g
  split at g
  · split at g
    · rename_i xs e
      cases g
      obtain ⟨v, rfl, rr⟩ := paired1 r
      obtain ⟨a, ys, rfl, h1, h2⟩ := dvp_seq rr e
      exact ⟨a, ys, rfl, h1, fresh_lst zo cz h2 q⟩
    · cases g
  · cases g
theorem isq_uniq {n a b : Nat} (h1 : a * a ≤ n) (h2 : n < (a + 1) * (a + 1)) (h3 : b * b ≤ n) (h4 : n < (b + 1) * (b + 1)) : a = b := by
  rcases Nat.lt_trichotomy a b with h | h | h
  · have : (a + 1) * (a + 1) ≤ b * b := Nat.mul_le_mul h h
    omega
  · exact h
  · have : (b + 1) * (b + 1) ≤ a * a := Nat.mul_le_mul h h
    omega
end
end Se
end
section
set_option Elab.async false
set_option linter.all false
set_option maxRecDepth 100000
set_option maxHeartbeats 4000000
namespace Se
open PySem PySem.Spec PyProof.Rows L2
section
variable {X : Cx} {c : Addr} {cf : CF}
/-! ### isqrt -/
theorem cr_isqrt : CallR X (.builtin "math.isqrt") (fun vs H Q => ∃ a : Int, vs = [.int a] ∧ 0 ≤ a ∧ a < 2 ^ 64 ∧ Q (.int ((Float64.isqrt a.toNat : Nat) : Int)) H) := by
  intro pins s σ H vs us Q I r h
  obtain ⟨a, rfl, h0, h1, q⟩ := h
  obtain ⟨u, rfl, t, rfl⟩ := vals1 r
  exact PySem.W.mg_isqrt h0 h1 ⟨.int _, H, I.tok _, ⟨_, rfl⟩, q⟩
theorem b_isqrt : CallR X (.builtin "math.isqrt") (rA X.K c gIsqrt) := callR_imp cr_isqrt fun vs H Q ⟨Z, ds, z, zo, cz, r, g, q⟩ => by
  unfold gIsqrt at g
  split at g
  · split at g
    · rename_i a h
      cases g
      obtain ⟨v, rfl, rr⟩ := paired1 r
      rw [rr.int]
      obtain ⟨h1, h2⟩ := Float64.isqrt_spec a.toNat
      have e : Float64.isqrt a.toNat = isq a.toNat := isq_uniq h1 h2 h.2.2.1 h.2.2.2
      refine ⟨a, rfl, h.1, h.2.1, ?_⟩
      rw [e]
      exact q _ H .refl rfl (.int _)
    · cases g
  · cases g
/-! ### any -/
theorem truth_intsS {prog : Program} {w : World} {A : Around} {ns : List Int} {its : List Value} (e : IntsAre its ns) :
    TruthOf prog w A (fun i v => its.toArray[i]? = some v) (fun i => ns.getD i 0 != 0) := fun i v s Q E hv hq => by
  have hv' : its[i]? = some v := by simpa using hv
  have key : ∀ {its : List Value} {ns : List Int} {i : Nat}, IntsAre its ns → its[i]? = some v → ∃ t, v = .int (ns.getD i 0) t := fun {its ns i} h => by
    induction h generalizing i with
    | nil => intro q; simp at q
    | cons n t h ih =>
      intro q
      cases i with
      | zero =>
        simp at q
        exact ⟨t, by rw [← q]; rfl⟩
      | succ i =>
        obtain ⟨t', e⟩ := ih (i := i) (by simpa using q)
        exact ⟨t', by simpa using e⟩
  obtain ⟨t, rfl⟩ := key e hv'
  exact truthy_int hq
theorem any_rangeI : ∀ ns : List Int, (List.range ns.length).any (fun i => ns.getD i 0 != 0) = ns.any fun n => n != 0
  | [] => rfl
  | b :: bs => by
    rw [List.length_cons, List.range_succ_eq_map, List.any_cons, List.any_map, List.any_cons, ← any_rangeI bs]
    all_goals rfl
theorem cr_anyT (hc : X.calm = true) : CallR X (.builtin "any") (fun vs H Q => ∃ (a : Addr) (ns : List Int), vs = [V.ref a] ∧ SqT X.K H a (ns.map V.int) ∧ Q (.bl (ns.any fun n => n != 0)) H) := by
  intro pins s σ H vs us Q I r h
  obtain ⟨a, ns, rfl, hs, q⟩ := h
  obtain ⟨its, rv, hl, _⟩ := I.tuple hs
  rw [Vals.ref1 r]
  have hi := rv.ints
  have hlt : a < s.heap.objs.size := hl.lt
  refine call_any_walk (wpAny_pyIter_tuple hl ?_)
  refine ⟨_, _, _, _, _, _, _, rfl, Walks.tuple (A := X.A.in1) (I.ok.hd hc) _ a (Nat.ne_of_lt hlt) its.toArray, ⟨⟨_, Heap.get?_push_size _ rfl, rfl, rfl⟩, hl.push _⟩, truth_intsS hi, fun h' tk hk => ?_⟩
  refine ⟨.bl _, H, I.kept fun b o eo => hk b o (fun hmem => ?_) (Heap.get?_push_of_some _ eo), ?_, q⟩
  · rcases List.mem_cons.mp hmem with e1 | hmem
    · exact absurd (e1 ▸ Heap.lt_size eo) (Nat.lt_irrefl _)
    · cases hmem
  · show Value.bool _ = Value.bool _
    rw [← any_rangeI, List.size_toArray, hi.length]
theorem b_any (hc : X.calm = true) : CallR X (.builtin "any") (rA X.K c gAny) := callR_imp (CallR.or (cr_any hc) (cr_anyT hc)) fun vs H Q ⟨Z, ds, z, zo, cz, r, g, q⟩ => by
  unfold gAny at g
  split at g
  · split at g
    · rename_i ns e
      cases g
      obtain ⟨v, rfl, rr⟩ := paired1 r
      obtain ⟨a, rfl, h1⟩ := dvp_bools rr e
      exact .inl ⟨a, ns, rfl, h1, q _ H .refl rfl (.bl _)⟩
    · cases g
  · split at g
    · rename_i ns e
      cases g
      obtain ⟨v, rfl, rr⟩ := paired1 r
      obtain ⟨a, ys, rfl, h1, h2⟩ := rr.tuple
      rw [h2.ints (asInts_eq e)] at h1
      exact .inr ⟨a, ns, rfl, h1, q _ H .refl rfl (.bl _)⟩
    · cases g
  · cases g
/-! ### isinstance -/
def tyN : D → String
  | .none => "NoneType"
  | .bool _ => "bool"
  | .int _ => "int"
  | .str _ => "str"
  | .list _ => "list"
  | .tuple _ => "tuple"
  | .dict _ => "dict"
def mIsi (k : D → Bool) (f : SE) : SE := fun cf env => M.bnd (f cf env) fun d => M.ret (.bool (k d))
def kInt : D → Bool
  | .int _ => true
  | .bool _ => true
  | _ => false
def kBool : D → Bool
  | .bool _ => true
  | _ => false
def kTuple : D → Bool
  | .tuple _ => true
  | _ => false
def kList : D → Bool
  | .list _ => true
  | _ => false
def kStr : D → Bool
  | .str _ => true
  | _ => false
theorem dv_ty {K : PySem.W.Frag} {H : Hp} {Z : List Addr} {v : V} {d : D} (r : DvP K H Z c v d) : TyX K H v (.type (tyN d)) := by
  cases d with
  | none =>
    rcases r with r | ⟨a, rfl, _, _, xs, ds, e, _⟩
    · cases r; exact .base .non
    · cases e
  | bool b => rw [r.bool]; exact .base (.bl b)
  | int i => rw [r.int]; exact .base (.int i)
  | str x =>
    rcases r with r | ⟨a, rfl, _, _, xs, ds, e, _⟩
    · cases r; exact .base (.str x)
    · cases e
  | list ds =>
    obtain ⟨a, xs, rfl, h, _⟩ := r.list
    exact .base (.lst h)
  | tuple ds =>
    obtain ⟨a, xs, rfl, h, _⟩ := r.tuple
    rcases h with (h | ⟨o, h⟩) | ⟨o, its, n, h, hc, _⟩
    · exact .base (.tup h)
    · exact .fTuple h
    · exact .kTuple h hc
  | dict kv =>
    rcases r with r | ⟨a, rfl, _, _, xs, ds, e, _⟩
    · cases r
    · cases e
theorem e_isi {e : Expr} {f : SE} {T : String} {x : Str} {k : D → Bool} {p tp pos : Pos} (hk : ∀ d, kitB (tyN d) T = some (k d)) (hg : Gl X "isinstance") (hm : X.mg "isinstance" = none) (he : PE X e (lp X.K c (f cf))) (gx : Gl X x) (mx : X.mg x = none) (hv : bootBuiltins x = some (.type T)) (hn : x ≠ "__name__") (hd : (x == ("__debug__" : Str)) = false)
    (h1 : starEach [e, .Name x tp] X.env = (false, eval e X.env) :: starEach [.Name x tp] X.env) (h2 : starEach [.Name x tp] X.env = (false, eval (.Name x tp) X.env) :: starEach [] X.env) (hpl : (backTo pos (starEach [.Name x tp] X.env)).any (·.1) = false) :
    PE X (.Call (.Name "isinstance" p) [e, .Name x tp] [] pos) (le X.K c (mIsi k f cf)) :=
  pe_imp (pe_callB call_isi hg hm boot_isinstance (pa_cons he (pa_cons (pe_bltn (v := .ty T) gx mx hv rfl hn hd) pa_nil h2) h1) (by decide) (by decide) h1 hpl) fun σ H Q ⟨Z, env, cs, z, cs', p, e, q⟩ => by
    obtain ⟨d, c1, e1, e⟩ := bnd_some e
    cases ret_some e
    refine ⟨Z, env, cs, d, _, p, e1, fun v H1 k1 ce1 r1 => ?_⟩
    exact ⟨v, .ty T, .type (tyN d), .type T, k d, rfl, .ty T, dv_ty r1, kit_ty (hk d), q _ H1 k1 ce1 (.bl _)⟩
theorem k_int : ∀ d, kitB (tyN d) "int" = some (kInt d)
  | .none => (by decide +kernel : kitB "NoneType" "int" = some false)
  | .bool _ => (by decide +kernel : kitB "bool" "int" = some true)
  | .int _ => (by decide +kernel : kitB "int" "int" = some true)
  | .str _ => (by decide +kernel : kitB "str" "int" = some false)
  | .list _ => (by decide +kernel : kitB "list" "int" = some false)
  | .tuple _ => (by decide +kernel : kitB "tuple" "int" = some false)
  | .dict _ => (by decide +kernel : kitB "dict" "int" = some false)
theorem k_bool : ∀ d, kitB (tyN d) "bool" = some (kBool d)
  | .none => (by decide +kernel : kitB "NoneType" "bool" = some false)
  | .bool _ => (by decide +kernel : kitB "bool" "bool" = some true)
  | .int _ => (by decide +kernel : kitB "int" "bool" = some false)
  | .str _ => (by decide +kernel : kitB "str" "bool" = some false)
  | .list _ => (by decide +kernel : kitB "list" "bool" = some false)
  | .tuple _ => (by decide +kernel : kitB "tuple" "bool" = some false)
  | .dict _ => (by decide +kernel : kitB "dict" "bool" = some false)
theorem k_tuple : ∀ d, kitB (tyN d) "tuple" = some (kTuple d)
  | .none => (by decide +kernel : kitB "NoneType" "tuple" = some false)
  | .bool _ => (by decide +kernel : kitB "bool" "tuple" = some false)
  | .int _ => (by decide +kernel : kitB "int" "tuple" = some false)
  | .str _ => (by decide +kernel : kitB "str" "tuple" = some false)
  | .list _ => (by decide +kernel : kitB "list" "tuple" = some false)
  | .tuple _ => (by decide +kernel : kitB "tuple" "tuple" = some true)
  | .dict _ => (by decide +kernel : kitB "dict" "tuple" = some false)
theorem k_list : ∀ d, kitB (tyN d) "list" = some (kList d)
  | .none => (by decide +kernel : kitB "NoneType" "list" = some false)
  | .bool _ => (by decide +kernel : kitB "bool" "list" = some false)
  | .int _ => (by decide +kernel : kitB "int" "list" = some false)
  | .str _ => (by decide +kernel : kitB "str" "list" = some false)
  | .list _ => (by decide +kernel : kitB "list" "list" = some true)
  | .tuple _ => (by decide +kernel : kitB "tuple" "list" = some false)
  | .dict _ => (by decide +kernel : kitB "dict" "list" = some false)
theorem k_str : ∀ d, kitB (tyN d) "str" = some (kStr d)
  | .none => (by decide +kernel : kitB "NoneType" "str" = some false)
  | .bool _ => (by decide +kernel : kitB "bool" "str" = some false)
  | .int _ => (by decide +kernel : kitB "int" "str" = some false)
  | .str _ => (by decide +kernel : kitB "str" "str" = some true)
  | .list _ => (by decide +kernel : kitB "list" "str" = some false)
  | .tuple _ => (by decide +kernel : kitB "tuple" "str" = some false)
  | .dict _ => (by decide +kernel : kitB "dict" "str" = some false)
/-! ### slices -/
def cutD (xs : List D) (lo hi : Option Int) : List D := (xs.drop (HT.sIx xs.length 0 lo)).take (HT.sIx xs.length xs.length hi - HT.sIx xs.length 0 lo)
def gCut (d : D) (lo hi : Option Int) : Option D := match d with
  | .list xs => some (.list (cutD xs lo hi))
  | .tuple xs => some (.tuple (cutD xs lo hi))
  | _ => none
def mNo : CF → Ev → M (Option Int) := fun _ _ => M.ret none
def intO (d : D) : Option (Option Int) := match d with
  | .int i => some (some i)
  | _ => none
def mYes (f : SE) : CF → Ev → M (Option Int) := fun cf env => M.bnd (f cf env) fun d => M.of (intO d)
def mCut (f : SE) (lo hi : CF → Ev → M (Option Int)) : SE := fun cf env => M.bnd (f cf env) fun d => M.bnd (lo cf env) fun l => M.bnd (hi cf env) fun h => M.of (gCut d l h)
def lO (K : PySem.W.Frag) (c : Addr) (f : Ev → M (Option Int)) : TO := fun σ H Q => ∃ Z env cs o cs', Pre K c H Z σ env cs ∧ f env cs = some (o, cs') ∧ ∀ H', Keep c H H' → Cell H' c cs' → Q o H'
theorem po_imp {e : Option Expr} {t u : TO} (h : PO X e t) (i : ∀ σ H Q, u σ H Q → t σ H Q) : PO X e u := ⟨fun pins s σ H Q I q => h.run pins s σ H Q I (i σ H Q q)⟩
theorem o_no : PO X none (lO X.K c (mNo cf)) := po_imp po_none fun σ H Q ⟨Z, env, cs, o, cs', p, e, q⟩ => by
  cases ret_some e
  exact q H .refl p.cell
theorem o_yes {e : Expr} {f : SE} (h : PE X e (le X.K c (f cf))) : PO X (some e) (lO X.K c (mYes f cf)) := po_imp (po_some h) fun σ H Q ⟨Z, env, cs, o, cs', p, e, q⟩ => by
  obtain ⟨d, c1, e1, e⟩ := bnd_some e
  obtain ⟨o', e2, e3⟩ := of_some e
  cases e3
  refine ⟨Z, env, cs, d, _, p, e1, fun v H1 k1 ce1 r1 => ?_⟩
  unfold intO at e2
  split at e2
  · cases e2
    cases r1
    exact ⟨_, rfl, q H1 k1 ce1⟩
  · cases e2
theorem cut_dva {K : PySem.W.Frag} {H : Hp} {Z : List Addr} {vs : List V} {ds : List D} (r : DvA K H Z vs ds) (lo hi : Option Int) : DvA K H Z (cutV vs lo hi) (cutD ds lo hi) := by
  unfold cutV cutD
  rw [r.length]
  exact (r.drop _).take _
theorem cut_all {ys : List V} {xs : List D} {l h : Option Int} (e : ys.length = xs.length) (w1 : HT.sIx ys.length 0 l = 0) (w2 : HT.sIx ys.length ys.length h = ys.length) : cutD xs l h = xs := by
  unfold cutD
  rw [← e, w1, w2]
  simp
  exact List.take_of_length_le (Nat.le_of_eq e.symm)
theorem e_cut {e : Expr} {lo hi : Option Expr} {f : SE} {fl fh : CF → Ev → M (Option Int)} {pos p2 : Pos} (he : PE X e (lp X.K c (f cf))) (hl : PO X lo (lO X.K c (fl cf))) (hh : PO X hi (lO X.K c (fh cf))) : PE X (.Subscript e (.Slice lo hi none p2) pos) (le X.K c (mCut f fl fh cf)) :=
  pe_imp (pe_slice (SlR.or sl_list sl_tupA) he hl hh) fun σ H Q ⟨Z, env, cs, z, cs', p, e, q⟩ => by
    obtain ⟨d, c1, e1, e⟩ := bnd_some e
    obtain ⟨l, c2, e2, e⟩ := bnd_some e
    obtain ⟨h, c3, e3, e⟩ := bnd_some e
    obtain ⟨z', e4, e5⟩ := of_some e
    cases e5
    refine ⟨Z, env, cs, d, c1, p, e1, fun v H1 k1 ce1 r1 => ?_⟩
    have p1 := p.step k1 ce1
    refine ⟨Z, env, c1, l, c2, p1, e2, fun H2 k2 ce2 => ?_⟩
    have p2 := p1.step k2 ce2
    refine ⟨Z, env, c2, h, _, p2, e3, fun H3 k3 ce3 => ?_⟩
    have p3 := p2.step k3 ce3
    have r3 := p1.dvp (k2.trans k3) r1
    have q' : ∀ v H', Keep c H3 H' → H' c = H3 c → Dv X.K H' Z v z → Q v H' := fun v H' k ec r => q v H' (k1.trans (k2.trans (k3.trans k))) (ec.trans ce3) r
    unfold gCut at e4
    split at e4
    · rename_i xs
      cases e4
      obtain ⟨a, ys, rfl, g1, g2⟩ := r3.list
      exact .inl ⟨a, ys, rfl, .inl (.inl g1), fresh_lst p3.z p3.cz (cut_dva g2 l h) q'⟩
    · rename_i xs
      cases e4
      obtain ⟨a, ys, rfl, g1, g2⟩ := r3.tuple
      refine .inr ⟨a, ys, rfl, g1, fun ⟨w1, w2⟩ => ?_, fun _ => fresh_tup p3.z p3.cz (cut_dva g2 l h) q'⟩
      refine q' _ H3 .refl rfl (.tup g1 ?_)
      rw [cut_all g2.length w1 w2]
      exact g2
    · cases e4
end
end Se
end
section
set_option Elab.async false
set_option linter.all false
set_option maxRecDepth 100000
set_option maxHeartbeats 4000000
namespace Se
open PySem PySem.Spec PyProof.Rows L2
/-! ### compact forms -/
def nmC (N : List Str) (sc : Scope) (i : Nat) (x : Str) : Bool := decide (N[i]? = some x) && (match sc.names.lookup x with
  | some .local => true
  | some .cell => true
  | some .free => true
  | _ => false) && !(x == ("__debug__" : Str)) && !(x == ("__classdict__" : Str))
theorem nmC_ok {N : List Str} {sc : Scope} {i : Nat} {x : Str} (h : nmC N sc i x = true) : N[i]? = some x ∧ Vis sc x ∧ (x == ("__debug__" : Str)) = false ∧ (x == ("__classdict__" : Str)) = false := by
  unfold nmC at h
  rw [Bool.and_eq_true, Bool.and_eq_true, Bool.and_eq_true, decide_eq_true_iff, Bool.not_eq_true', Bool.not_eq_true'] at h
  obtain ⟨⟨⟨h1, h2⟩, h3⟩, h4⟩ := h
  refine ⟨h1, ?_, h3, h4⟩
  split at h2
  · rename_i e; exact .inl e
  · rename_i e; exact .inr (.inl e)
  · rename_i e; exact .inr (.inr e)
  · cases h2
section
variable {X : Cx} {c : Addr} {cf : CF} {x : Str} {i : Nat} {pos : Pos} {H0 : Hp} {Z0 : List Addr}
theorem v_ (h : nmC X.N X.env.scope i x = true) : PE X (.Name x pos) (le X.K c (mVar i cf)) := let ⟨a, b, d, e⟩ := nmC_ok h; e_var a b d e
theorem l_ (h : nmC X.N X.env.scope i x = true) : PE X (.Name x pos) (lp X.K c (mPk i cf)) := let ⟨a, b, d, e⟩ := nmC_ok h; e_pk a b d e
theorem u_ (h : nmC X.N X.env.scope i x = true) : PE X (.Name x pos) (lf (fun H Z => RArg X.K H Z c) X.K c (aCup i cf)) := let ⟨a, b, d, e⟩ := nmC_ok h; e_acup a b d e
/-- a def's promise, with where it stands -/
def Cal (P : Program) (w : World) (K : PySem.W.Frag) (mg : Str → Option Value) (base : Heap) (m : Nat) (x : Str) (ps : List Str) (run : List Arg → M D) : Prop :=
  ∃ f fd, FnOk P w K mg base CX0 m f fd ps (spD K run) ∧ mg x = some (.ref f) ∧ PySem.W.keepIn K (.ref f) = true ∧ Binds K fd ps []
theorem c_ {m j : Nat} {ps : List Str} {fs : SA Arg} {e : Expr} {es : List Expr} {p : Pos} (C : Cal X.prog X.w X.K X.mg X.base m x ps (cf j)) (hr : Room m X.A) (ha : PA X (e :: es) (lA (fun H Z => RArg X.K H Z c) X.K c (fs cf))) (hg : Gl X x) (hdb : (x == ("__debug__" : Str)) = false)
    (he : starEach (e :: es) X.env = (false, eval e X.env) :: starEach es X.env) (hpl : (backTo pos (starEach es X.env)).any (·.1) = false) : PE X (.Call (.Name x p) (e :: es) [] pos) (le X.K c (mCall j fs cf)) :=
  let ⟨_, _, F, hm, hk, hb⟩ := C
  e_call F hr hg hm hk hb ha hdb he hpl
theorem c0_ {m j : Nat} {ps : List Str} {p : Pos} (C : Cal X.prog X.w X.K X.mg X.base m x ps (cf j)) (hr : Room m X.A) (hg : Gl X x) (hdb : (x == ("__debug__" : Str)) = false) : PE X (.Call (.Name x p) [] [] pos) (le X.K c (mCall j mNil cf)) :=
  let ⟨_, _, F, hm, hk, hb⟩ := C
  e_call0 F hr hg hm hk hb hdb
theorem one_ {op : BoolOp} {a : Expr} {f : SE} (h : PE X a (le X.K c (f cf))) : PE X (.BoolOp op [a] pos) (le X.K c (f cf)) := pe_one h
theorem ta1_ {a : Expr} {f : SE} (h : PT X a (lt X.K c (f cf))) : PW X (.BoolOp .And [a] pos) (lt X.K c (f cf)) := pw_and1 h
theorem to1_ {a : Expr} {f : SE} (h : PT X a (lt X.K c (f cf))) : PW X (.BoolOp .Or [a] pos) (lt X.K c (f cf)) := pw_or1 h
theorem short_ {fs : SA D} {n : Nat} (h : ∀ env cs ds cs', fs cf env cs = some (ds, cs') → ds.length = n) (hn : n ≤ 1000) : Short (fs cf) := fun env cs ds cs' e => by
  rw [h env cs ds cs' e, line_eq]
  show n ≤ 16777216
  omega
theorem len0_ {β : Type} : ∀ env cs ds cs', (mNil : SA β) cf env cs = some (ds, cs') → ds.length = 0 := fun env cs ds cs' e => by
  cases ret_some e
  rfl
theorem lenS_ {β : Type} {fa : CF → Ev → M β} {fr : SA β} {n : Nat} (h : ∀ env cs ds cs', fr cf env cs = some (ds, cs') → ds.length = n) : ∀ env cs ds cs', mCons fa fr cf env cs = some (ds, cs') → ds.length = n + 1 := fun env cs ds cs' e => by
  obtain ⟨x, c1, e1, e⟩ := bnd_some e
  obtain ⟨xs, c2, e2, e⟩ := bnd_some e
  cases ret_some e
  rw [List.length_cons, h _ _ _ _ e2]
end
theorem bt_len : bootBuiltins "len" = some (.builtin "len") := by decide +kernel
theorem bt_abs : bootBuiltins "abs" = some (.builtin "abs") := by decide +kernel
theorem bt_int : bootBuiltins "int" = some (.type "int") := by decide +kernel
theorem bt_tuple : bootBuiltins "tuple" = some (.type "tuple") := by decide +kernel
theorem bt_list : bootBuiltins "list" = some (.type "list") := by decide +kernel
theorem bt_max : bootBuiltins "max" = some (.builtin "max") := by decide +kernel
theorem bt_min : bootBuiltins "min" = some (.builtin "min") := by decide +kernel
theorem bt_sum : bootBuiltins "sum" = some (.builtin "sum") := by decide +kernel
theorem bt_all : bootBuiltins "all" = some (.builtin "all") := by decide +kernel
theorem bt_any : bootBuiltins "any" = some (.builtin "any") := by decide +kernel
theorem bt_sorted : bootBuiltins "sorted" = some (.builtin "sorted") := by decide +kernel
theorem bt_isinstance : bootBuiltins "isinstance" = some (.builtin "isinstance") := by decide +kernel
theorem bt_range : bootBuiltins "range" = some (.type "range") := by decide +kernel
theorem bt_zip : bootBuiltins "zip" = some (.type "zip") := by decide +kernel
theorem bt_enumerate : bootBuiltins "enumerate" = some (.type "enumerate") := by decide +kernel
theorem bt_bool : bootBuiltins "bool" = some (.type "bool") := by decide +kernel
theorem bt_str : bootBuiltins "str" = some (.type "str") := by decide +kernel
theorem bt_dict : bootBuiltins "dict" = some (.type "dict") := by decide +kernel
theorem bt_set : bootBuiltins "set" = some (.type "set") := by decide +kernel
section
variable {X : Cx} {c : Addr} {cf : CF} {x : Str} {i : Nat} {pos : Pos} {H0 : Hp} {Z0 : List Addr}
theorem k_ {n : Int} (h : ∃ t, X.mg x = some (.int n t)) (hg : Gl X x) (hd : (x == ("__debug__" : Str)) = false) : PE X (.Name x pos) (le X.K c (mLit (.int n) cf)) :=
  let ⟨t, h⟩ := h
  e_glob (v := .int n) hg h ⟨t, rfl⟩ hd fun _ _ => .int n
theorem kt_ {d : D} (h : ∃ a, X.mg x = some (.ref a) ∧ ∀ H Z, Dv X.K H Z (.ref a) d) (hg : Gl X x) (hd : (x == ("__debug__" : Str)) = false) : PE X (.Name x pos) (le X.K c (mLit d cf)) :=
  let ⟨a, h, r⟩ := h
  e_glob (v := .ref a) hg h rfl hd r
end
section
variable {X : Cx} {c : Addr} {cf : CF} {x : Str} {i : Nat} {pos apos cpos npos tpos : Pos} {H0 : Hp} {Z0 : List Addr}
theorem cup_ {ei : Expr} {fi : SE} (h : nmC X.N X.env.scope i x = true) (hi : PE X ei (le X.K c (fi cf))) (hs : PlainIx ei) : PE X (.Subscript (.Name x npos) ei pos) (le X.K c (mCup i fi cf)) := let ⟨a, b, d, e⟩ := nmC_ok h; e_cup a b d e hi hs
theorem app_ {e : Expr} {f : SE} (h : nmC X.N X.env.scope i x = true) (he : PE X e (le X.K c (f cf)))
    (h1 : starEach [e] X.env = (false, eval e X.env) :: starEach [] X.env) (hbase : attributeBase (.Name x npos) "append" X.env (eval (.Name x npos) X.env) = eval (.Name x npos) X.env)
    (hfew : ((backTo cpos (starEach [e] X.env)).all (fun x => !x.1) && (backToKw cpos (keywordEach [] X.env)).all (fun x => x.1.isSome)
      && decide ([e].length + ([] : List Keyword).length + (if ([] : List Keyword).isEmpty then 0 else 1) < 30)) = true)
    (hline : (apos.endLine == cpos.line) = true) (hplain : (backTo cpos (starEach [] X.env)).any (·.1) = false) (hs : swapsWith (.Call (.Attribute (.Name x npos) "append" apos) [e] [] cpos) none pos.line X.env = pure false) :
    PS X (.Expr (.Call (.Attribute (.Name x npos) "append" apos) [e] [] cpos) pos) (lS X.K c H0 Z0 (sApp i f cf)) := let ⟨a, b, d, e⟩ := nmC_ok h; p_app a b d e he h1 hbase hfew hline hplain hs
theorem sto_ {ei e : Expr} {f fi : SE} (h : nmC X.N X.env.scope i x = true) (hi : PE X ei (le X.K c (fi cf))) (he : PE X e (le X.K c (f cf)))
    (ha : ∀ v, assign (.Subscript (.Name x npos) ei tpos) X.env v = (do
      let ov ← holding [v] (eval (.Name x npos) X.env)
      let iv ← holding [v, ov] (eval ei X.env)
      standAt tpos
      holding [v, ov, iv] (setItem ov iv v)
      release [v, ov, iv] []))
    (hs : swapsWithSole [.Subscript (.Name x npos) ei tpos] e pos.line X.env = pure false) (hw : swappedStores [.Subscript (.Name x npos) ei tpos] e X.env = pure none)
    (h1 : (assignEach [.Subscript (.Name x npos) ei tpos] X.env).map (·.2) = [assign (.Subscript (.Name x npos) ei tpos) X.env]) :
    PS X (.Assign [.Subscript (.Name x npos) ei tpos] e pos) (lS X.K c H0 Z0 (sSto i fi f cf)) := let ⟨a, b, d, e⟩ := nmC_ok h; p_sto a b d e hi he ha hs hw h1
theorem cupst_ {ei e : Expr} {f fi : SE} (h : nmC X.N X.env.scope i x = true) (hi : PE X ei (le X.K c (fi cf))) (he : PE X e (le X.K c (f cf)))
    (ha : ∀ v, assign (.Subscript (.Name x npos) ei tpos) X.env v = (do
      let ov ← holding [v] (eval (.Name x npos) X.env)
      let iv ← holding [v, ov] (eval ei X.env)
      standAt tpos
      holding [v, ov, iv] (setItem ov iv v)
      release [v, ov, iv] []))
    (hs : swapsWithSole [.Subscript (.Name x npos) ei tpos] e pos.line X.env = pure false) (hw : swappedStores [.Subscript (.Name x npos) ei tpos] e X.env = pure none)
    (h1 : (assignEach [.Subscript (.Name x npos) ei tpos] X.env).map (·.2) = [assign (.Subscript (.Name x npos) ei tpos) X.env]) :
    PS X (.Assign [.Subscript (.Name x npos) ei tpos] e pos) (lS X.K c H0 Z0 (sCup i fi f cf)) := let ⟨a, b, d, e⟩ := nmC_ok h; p_cup a b d e hi he ha hs hw h1
end
theorem room66 {m : Nat} {A : Around} (r : Room m A) : A.units + 66 < cLine := by have := r.un; omega
section
variable {X : Cx} {c : Addr} {cf : CF} {pos : Pos}
theorem che_ {op op' : CmpOp} {g g' : D → D → Option D} {a b d : Expr} {fa fb fc : SE} (ho : OpR X (compareOp op) (rD X.K c g)) (ho' : OpR X (compareOp op') (rD X.K c g')) (ha : PE X a (lp X.K c (fa cf))) (hb : PE X b (lp X.K c (fb cf))) (hc : PE X d (lp X.K c (fc cf)))
    (hm : lastMarks [op, op'] [b, d] = false) : PE X (.Compare a [op, op'] [b, d] pos) (le X.K c (mChain g g' fa fb fc cf)) := (e_chain ho ho' ha hb hc hm).1
theorem cht_ {op op' : CmpOp} {g g' : D → D → Option D} {a b d : Expr} {fa fb fc : SE} (ho : OpR X (compareOp op) (rD X.K c g)) (ho' : OpR X (compareOp op') (rD X.K c g')) (ha : PE X a (lp X.K c (fa cf))) (hb : PE X b (lp X.K c (fb cf))) (hc : PE X d (lp X.K c (fc cf)))
    (hm : lastMarks [op, op'] [b, d] = false) : PT X (.Compare a [op, op'] [b, d] pos) (lt X.K c (mChain g g' fa fb fc cf)) := (e_chain ho ho' ha hb hc hm).2
end
end Se
end
section
set_option Elab.async false
set_option linter.all false
set_option maxRecDepth 100000
set_option maxHeartbeats 4000000
namespace Se
open PySem PySem.Spec PyProof.Rows L2
/-! ### a def -/
def slotOf : Arg → Slot
  | .dat d => .sh d
  | .cup => .cup
def envOf (n : Nat) (args : List Arg) : Ev := args.map slotOf ++ List.replicate (n - args.length) .no
def endOf (r : Option (Flow × Cs)) : Option (D × Cs) := match r with
  | some (.next _, c) => some (.none, c)
  | some (.ret d, c) => some (d, c)
  | none => none
def runB (F : SS) (n p : Nat) (cf : CF) (args : List Arg) : M D := fun cs => if args.length = p then endOf (F cf (envOf n args) cs) else none
section
variable {P : Program} {w : World} {K : PySem.W.Frag} {mg : Str → Option Value} {base : Heap}
theorem paired_len {β : Type} {R : V → β → Prop} : ∀ {vs : List V} {bs : List β}, Paired R vs bs → vs.length = bs.length
  | _, _, .nil => rfl
  | _, _, .cons _ t => by rw [List.length_cons, List.length_cons, paired_len t]
theorem paired_at {β : Type} {R : V → β → Prop} : ∀ {vs : List V} {bs : List β} {i : Nat} {v : V} {b : β}, Paired R vs bs → vs[i]? = some v → bs[i]? = some b → R v b
  | _, _, i, v, b, .nil, h, _ => by simp at h
  | _, _, 0, v, b, .cons r _, h, g => by
    simp at h g
    rw [← h, ← g]
    exact r
  | _, _, i + 1, v, b, .cons _ t, h, g => paired_at t (by simpa using h) (by simpa using g)
theorem env_start {H : Hp} {Z : List Addr} {c : Addr} {N : List Str} {vs : List V} {args : List Arg} (r : Paired (RArg K H Z c) vs args) : REnv K H Z c (L2.start N vs) (envOf N.length args) := by
  have hl := paired_len r
  refine ⟨?_, fun i o s e1 e2 => ?_⟩
  · unfold L2.start envOf
    rw [List.length_append, List.length_append, List.length_map, List.length_map, List.length_replicate, List.length_replicate, hl]
  · unfold L2.start at e1
    unfold envOf at e2
    by_cases h : i < args.length
    · rw [List.getElem?_append_left (by rw [List.length_map, hl]; exact h), List.getElem?_map] at e1
      rw [List.getElem?_append_left (by rw [List.length_map]; exact h), List.getElem?_map] at e2
      obtain ⟨v, hv, rfl⟩ := Option.map_eq_some_iff.mp e1
      obtain ⟨a, ha, rfl⟩ := Option.map_eq_some_iff.mp e2
      have q := paired_at r hv ha
      cases a with
      | dat d => exact ⟨v, rfl, q⟩
      | cup =>
        have q' : v = .ref c := q
        rw [q']
        rfl
    · rw [List.getElem?_append_right (by rw [List.length_map]; omega), List.getElem?_replicate] at e2
      split at e2
      · cases e2
        trivial
      · cases e2
theorem own_start {H0 : Hp} {σ : L2.St} {n : Nat} {args : List Arg} : Own H0 σ (envOf n args) := by
  have no : ∀ {i : Nat} {d : D}, (envOf n args)[i]? = some (.ow d) → False := fun {i d} e => by
    unfold envOf at e
    have m := List.mem_of_getElem? e
    rcases List.mem_append.mp m with m | m
    · obtain ⟨a, _, q⟩ := List.mem_map.mp m
      cases a <;> cases q
    · have := (List.mem_replicate.mp m).2
      cases this
  exact ⟨fun i a d e _ => (no e).elim, fun i j a d e e1 _ _ _ => (no e1).elim⟩
theorem fn_ok {N ps : List Str} {x qual : Str} {params : Arguments} {body : List Stmt} {scope : Scope} {f : Addr} {fd : FuncData} {m : Nat} {Fi : SS} {cf : CF} (F : FunD K x qual params body scope [] [] f fd) (S : FnScope N ps scope)
    (hP : ∀ (cdv : Value) (A : Around) (outer : List Env) (s : Shared) (H : Hp) (E : XK) (c : Addr) (H0 : Hp) (Z0 : List Addr), Room m (A.deeper (envOfC qual scope s.heap.objs.size f cdv)) → ZOk H0 Z0 → PSs (cxOf CX0 P w K mg base N qual scope f cdv A outer s H E).nox body (lS K c H0 Z0 (Fi cf))) :
    FnOk P w K mg base CX0 (m + 1) f fd ps (spD K (runB Fi N.length ps.length cf)) := by
  refine F.ok S (fun vs H Q E h => ?_) (fun cdv A outer s H vs Q E hr h => ?_)
  · obtain ⟨Z, c, cs, args, d, cs', z, cz, ce, r, e, q⟩ := h
    rw [paired_len r]
    unfold runB at e
    split at e
    · assumption
    · cases e
  · obtain ⟨Z, c, cs, args, d, cs', z, cz, ce, r, e, q⟩ := h
    refine ⟨lS K c H Z (Fi cf), PSs.nox (hP cdv A outer s H E c H Z hr z), ?_⟩
    unfold runB at e
    split at e
    · unfold endOf at e
      have st : Sta K c H Z H Z (L2.start N vs) (envOf N.length args) cs := ⟨⟨z, cz, ce, env_start r⟩, .refl, fun _ h => h, own_start⟩
      split at e
      · rename_i e2 c2 hf
        cases e
        exact ⟨Z, _, cs, _, _, st, hf, fun e3 _ σ' H' Z' s' _ => q _ H' s'.keep s'.pre.cell .non, fun d hd => by cases hd⟩
      · rename_i d2 c2 hf
        cases e
        refine ⟨Z, _, cs, _, _, st, hf, ?_, ?_⟩
        · intro e3 he
          cases he
        intro d hd v H' k ce' rv
        cases hd
        exact q v H' k ce' rv
      · cases e
    · cases e
end
/-! ### the cup's maker -/
theorem op_mul64 {X : Cx} : OpR X (binaryOp .Mult) (rI (fun _ j => Builtin.Int.intBits j ≤ 64) fun i j => .int (i * j)) := opI fun _ _ _ _ _ _ _ hc q => mul_int q (PySem.IntMulOk.of_right hc)
def cellOf (ns : List Int) : Int := let x := (ns ++ [0]).headD 0; if x < 0 then -x else x
def cupOf (ns : List Int) : Cs := [if cellOf ns ≥ 1000000000000000000 then (cellOf ns).fdiv 181 else 0, (cellOf ns * 439 + 6529).fmod 99991 + 283]
def spCup (K : PySem.W.Frag) : Sp := fun vs H Q _ => ∃ (a : Addr) (ns : List Int), vs = [.ref a] ∧ SqL K H a (ns.map V.int) ∧ ns.length < 1000 ∧ ∀ (l : Addr) (H' : Hp), (∀ b o, H b = some o → H' b = some o) → H' l = some (.lst ((cupOf ns).map V.int)) → H l = none → Q (.ref l) H'
/-- the law's own body: the cup first, then the rest over it -/
def spLaw (K : PySem.W.Frag) : Sp := fun vs H Q _ => ∃ (a : Addr) (ns : List Int), vs = [.ref a] ∧ SqL K H a (ns.map V.int) ∧ ns.length < 1000 ∧ ∀ H', Q (.bl true) H'
def lL (K : PySem.W.Frag) (f : Ev → M Flow) : TS := fun D σ H => ∃ (c : Addr) (H0 : Hp) (Z0 : List Addr), ZOk H0 Z0 ∧ lS K c H0 Z0 f D σ H
theorem p_law {X : Cx} {sts : List Stmt} {f : Ev → M Flow} (h : ∀ (c : Addr) (H0 : Hp) (Z0 : List Addr), ZOk H0 Z0 → PSs X sts (lS X.K c H0 Z0 f)) : PSs X sts (lL X.K f) :=
  ⟨fun pins s σ H D I ⟨c, H0, Z0, z, q⟩ => (h c H0 Z0 z).run pins s σ H D I q⟩
/-- the slots behind the cup's statement: i the cup's -/
def envL (n i : Nat) : Ev := (List.replicate n Slot.no).set i .cup
theorem law_enters {K : PySem.W.Frag} {f : Ev → M Flow} {n i : Nat} {σ : L2.St} {H' : Hp} {l : Addr} {cs : Cs} {D : Ends} {cs' : Cs} (hn : σ.length = n) (hi : i < n) (hl : H' l = some (.lst (cs.map V.int))) (he : f (envL n i) cs = some (.ret (.bool true), cs')) (q : ∀ H', D.rt (.bl true) H') :
    lL K f D (σ.set i (some (.ref l))) H' := by
  have z : ZOk H' [l] := fun a ha => by
    rw [List.mem_singleton.mp ha, hl]
    trivial
  refine ⟨l, H', [l], z, [l], envL n i, cs, _, cs', ⟨⟨z, by simp, hl, ⟨?_, fun j o s e1 e2 => ?_⟩⟩, .refl, fun _ h => h, ?_⟩, he, ?_, ?_⟩
  · unfold envL
    rw [List.length_set, List.length_set, List.length_replicate, hn]
  · unfold envL at e2
    rcases set_get e2 with ⟨rfl, rfl⟩ | ⟨nn, e3⟩
    · rw [List.getElem?_set_self (by rw [hn]; exact hi)] at e1
      exact (Option.some.inj e1).symm
    · rw [List.getElem?_replicate] at e3
      split at e3
      · cases e3; trivial
      · cases e3
  · have no : ∀ {j : Nat} {d : PyData}, (envL n i)[j]? = some (.ow d) → False := fun {j d} e => by
      unfold envL at e
      rcases set_get e with ⟨_, e3⟩ | ⟨_, e3⟩
      · cases e3
      · rw [List.getElem?_replicate] at e3
        split at e3
        · cases e3
        · cases e3
    exact ⟨fun i a d e _ => (no e).elim, fun i j a d e e1 _ _ _ => (no e1).elim⟩
  · intro e2 he2
    cases he2
  · intro d hd v H2 k ce rv
    cases hd
    cases rv
    exact q H2
end Se
end
section
set_option Elab.async false
set_option linter.all false
set_option maxRecDepth 100000
set_option maxHeartbeats 4000000
namespace Se
open PySem PySem.Spec PyProof.Rows L2
/-! ### a constant in the written part -/
mutual
def cstB (K : PySem.W.Frag) : PyData → Value → Bool
  | .none, u => (match u with | .none => true | _ => false)
  | .bool b, u => (match u with | .bool c => b == c | _ => false)
  | .int i, u => (match u with | .int j _ => decide (i = j) | _ => false)
  | .str x, u => (match u with | .str y _ => decide (x = y) | _ => false)
  | .tuple ds, u => (match u with
    | .ref a => (match K.lookup a with
      | some ⟨.type t, _, .seq its _, _⟩ => decide (t = "tuple") && (decide (its.size ≤ sizeLine) && cstA K ds its.toList)
      | _ => false)
    | _ => false)
  | .list _, _ => false
  | .dict _, _ => false
def cstA (K : PySem.W.Frag) : List PyData → List Value → Bool
  | [], us => (match us with | [] => true | _ => false)
  | d :: ds, us => (match us with | u :: r => cstB K d u && cstA K ds r | [] => false)
end
mutual
theorem cstB_ok {K : PySem.W.Frag} : ∀ (d : PyData) (u : Value), cstB K d u = true → ∃ v, RelV v u ∧ ∀ H Z, Dv K H Z v d
  | .none, u, h => by
    unfold cstB at h
    split at h
    · exact ⟨.non, rfl, fun _ _ => .non⟩
    · cases h
  | .bool b, u, h => by
    unfold cstB at h
    split at h
    · rename_i c
      rw [eq_of_beq h]
      exact ⟨.bl c, rfl, fun _ _ => .bl c⟩
    · cases h
  | .int i, u, h => by
    unfold cstB at h
    split at h
    · rename_i j t
      rw [of_decide_eq_true h]
      exact ⟨.int j, ⟨t, rfl⟩, fun _ _ => .int j⟩
    · cases h
  | .str x, u, h => by
    unfold cstB at h
    split at h
    · rename_i y t
      rw [of_decide_eq_true h]
      exact ⟨.str y, ⟨t, rfl⟩, fun _ _ => .str y⟩
    · cases h
  | .tuple ds, u, h => by
    unfold cstB at h
    split at h
    · rename_i a
      split at h
      · rename_i t dd its n sl e
        rw [Bool.and_eq_true, Bool.and_eq_true] at h
        obtain ⟨h1, h2, h3⟩ := h
        obtain ⟨vs, r, q⟩ := cstA_ok ds its.toList h3
        exact ⟨.ref a, rfl, fun H Z => .tup (.inr ⟨_, its, n, e, congrArg Value.type (of_decide_eq_true h1), rfl, of_decide_eq_true h2, r⟩) (q H Z)⟩
      · cases h
    · cases h
  | .list _, u, h => by
    unfold cstB at h
    cases h
  | .dict _, u, h => by
    unfold cstB at h
    cases h
theorem cstA_ok {K : PySem.W.Frag} : ∀ (ds : List PyData) (us : List Value), cstA K ds us = true → ∃ vs, Vals vs us ∧ ∀ H Z, DvA K H Z vs ds
  | [], us, h => by
    unfold cstA at h
    split at h
    · exact ⟨[], .nil, fun _ _ => .nil⟩
    · cases h
  | d :: ds, us, h => by
    unfold cstA at h
    split at h
    · rename_i u r
      rw [Bool.and_eq_true] at h
      obtain ⟨v, r1, q1⟩ := cstB_ok d u h.1
      obtain ⟨vs, r2, q2⟩ := cstA_ok ds r h.2
      exact ⟨v :: vs, .cons r1 r2, fun H Z => .cons (q1 H Z) (q2 H Z)⟩
    · cases h
end
def cstG (K : PySem.W.Frag) (x : Str) (d : PyData) : Bool := match PySem.W.nsIn K mainGlobals x with
  | some (some u) => cstB K d u
  | _ => false
def bltG (K : PySem.W.Frag) (x : Str) (id : String) : Bool := match PySem.W.nsIn K mainGlobals x with
  | some (some (.builtin i)) => decide (i = id)
  | _ => false
theorem cstG_ok {K : PySem.W.Frag} {h : Heap} {mg : Str → Option Value} (X : K.In h) (G : h.Ns mainGlobals mg) {x : Str} {ds : List PyData} (c : cstG K x (.tuple ds) = true) : ∃ a, mg x = some (.ref a) ∧ ∀ H Z, Dv K H Z (.ref a) (.tuple ds) := by
  unfold cstG at c
  split at c
  · rename_i u e
    obtain ⟨v, r, q⟩ := cstB_ok _ u c
    cases q (fun _ => none) [] with
    | @tup a xs _ h1 h2 =>
      cases r
      exact ⟨a, PySem.W.mg_of X G e, q⟩
  · cases c
theorem bltG_ok {K : PySem.W.Frag} {h : Heap} {mg : Str → Option Value} (X : K.In h) (G : h.Ns mainGlobals mg) {x : Str} {id : String} (c : bltG K x id = true) : mg x = some (.builtin id) := by
  unfold bltG at c
  split at c
  · rename_i i e
    rw [PySem.W.mg_of X G e, of_decide_eq_true c]
  · cases c
/-! ### the hook -/
abbrev AlX : Type := He.AlD × Bool
def obsX (n : Nat) (fa : List He.Fa) (fn : List He.DefD) (ex : PySem.W.Frag → Bool) (g : Addr → Option Obj) : AlX := (He.obsD fa fn (He.frG g (He.asD g n)), ex (He.frG g (He.asD g n)))
def hookX (n : Nat) (fa : List He.Fa) (fn : List He.DefD) (ex : PySem.W.Frag → Bool) : PySem.W.Hook where
  α := AlX
  obs := fun s => obsX n fa fn ex s.heap.get?
  val := fun _ => (He.valD fn, true)
  says := fun _ h => ∃ K : PySem.W.Frag, K.In h ∧ He.SaysD fa fn K ∧ ex K = true
  of := fun _ _ e => ⟨_, He.frG_in, congrArg (fun z : AlX => z.1) e, congrArg (fun z : AlX => z.2) e⟩
  keeps := fun _ _ _ ⟨K, hK, c⟩ k => ⟨K, PySem.W.Frag.In.keeps hK k, c⟩
theorem obsX_eq {n : Nat} {fa : List He.Fa} {fn : List He.DefD} {ex : PySem.W.Frag → Bool} {g : Addr → Option Obj} {s : Shared} (h : ∀ a, g a = s.heap.get? a) : obsX n fa fn ex g = (hookX n fa fn ex).obs s := by
  have e : g = s.heap.get? := funext h
  rw [e] <;> rfl
/-! ### a def behind the head -/
structure Dfn (K : PySem.W.Frag) (mg : Str → Option Value) (x nm : Str) (st : Stmt) : Prop where
  ex : ∃ f fd, FunD K nm nm (defArgs st) (defBody st) (defScope st) [] [] f fd ∧ mg x = some (.ref f)
theorem fn_no {P : Program} {w : World} {K : PySem.W.Frag} {mg : Str → Option Value} {base : Heap} {N ps : List Str} {x qual : Str} {params : Arguments} {body : List Stmt} {scope : Scope} {f : Addr} {fd : FuncData} {run : List Arg → M PyData} (F : FunD K x qual params body scope [] [] f fd) (S : FnScope N ps scope) (h : ∀ args cs, run args cs = none) :
    FnOk P w K mg base CX0 1 f fd ps (spD K run) := by
  refine F.ok S (fun vs H Q E q => ?_) (fun cdv A outer s H vs Q E hr q => ?_)
  · obtain ⟨Z, c, cs, args, d, cs', z, cz, ce, r, e, q⟩ := q
    rw [h] at e
    cases e
  · obtain ⟨Z, c, cs, args, d, cs', z, cz, ce, r, e, q⟩ := q
    rw [h] at e
    cases e
def tCup (K : PySem.W.Frag) : TS := tSeq (tAsg (tCB (fun xs H Q => ∃ i, xs = [V.int i] ∧ Q (V.int (if i < 0 then -i else i)) H) (tCons (tOp (rIxL K) (tOp rCat (tCB (fun xs H_1 Q => ∃ p ys, xs = [V.ref p] ∧ (SqL K H_1 p ys ∨ SqT K H_1 p ys) ∧ ∀ (l : Addr), H_1 l = none → Q (V.ref l) (upd H_1 l (HO.lst ys))) (tCons (tVar 0) tNil)) (tLst (tCons (tC (V.int 0)) tNil))) (tC (V.int 0))) tNil)) (gName 1))
  (tRet (tLst (tCons (tIf (tTest (tOp (rI0 fun i j => V.bl (decide (j ≤ i))) (tVar 1) (tOp (rI CPow fun i j => V.int (i ^ j.toNat)) (tC (V.int 10)) (tC (V.int 18))))) (tOp (rI (fun x j => j ≠ 0 ∧ j.natAbs.log2 < 9000) fun i j => V.int (i.fdiv j)) (tVar 1) (tC (V.int 181))) (tC (V.int 0)))
    (tCons (tOp (rI0 fun i j => V.int (i + j)) (tOp (rI (fun x j => j ≠ 0) fun i j => V.int (i.fmod j)) (tCB (fun xs H Q => (∃ i, xs = [V.int i] ∧ Q (V.int i) H) ∨ ∃ k, xs = [V.bl k] ∧ Q (V.int (if k = true then 1 else 0)) H) (tCons (tOp (rI0 fun i j => V.int (i + j)) (tOp (rI (fun x j => Builtin.Int.intBits j ≤ 64) fun i j => V.int (i * j)) (tVar 1) (tC (V.int 439))) (tC (V.int 6529))) tNil)) (tC (V.int 99991))) (tC (V.int 283))) tNil))))
theorem head_at (ns : List Int) : atI (ns.map V.int ++ [V.int 0]) 0 = some (V.int ((ns ++ [0]).headD 0)) := by
  cases ns with
  | nil => rfl
  | cons n ns =>
    unfold atI ixN
    have h : (0 : Int) < (((n :: ns).map V.int ++ [V.int 0]).length : Nat) := by simp only [List.length_append, List.length_cons, List.length_nil]; omega
    rw [if_pos (Int.le_refl 0), if_pos h]
    rfl
theorem cup_pure {K : PySem.W.Frag} (vs : List V) (H : Hp) (Q : VK) (E : XK) (h : spCup K vs H Q E) : tCup K { nx := fun _ H' => Q .non H', rt := Q } (L2.start ["script", "cell"] vs) H := by
  obtain ⟨a, ns, rfl, hS, hn, q⟩ := h
  have hs : sizeLine = 16777216 := by decide
  refine ⟨.ref a, rfl, a, ns.map V.int, rfl, .inl hS, fun l1 h1 => ?_⟩
  refine ⟨by show 1 ≤ sizeLine; rw [hs]; decide, fun l2 h2 => ?_⟩
  have n21 : l2 ≠ l1 := fun e => by rw [e, upd_same] at h2; cases h2
  refine ⟨l1, l2, _, _, rfl, rfl, (upd_ne (Ne.symm n21)).trans upd_same, upd_same, by rw [List.length_map, hs]; show ns.length + 1 ≤ 16777216; omega, fun l3 h3 => ?_⟩
  refine ⟨l3, _, 0, _, rfl, rfl, .inl (.inl upd_same), head_at ns, ?_⟩
  refine ⟨_, rfl, ?_⟩
  have hg : Later H [] (upd (upd (upd H l1 (.lst (ns.map V.int))) l2 (.lst [V.int 0])) l3 (.lst (ns.map V.int ++ [V.int 0]))) [] := ⟨fun b o e _ => by
    have n1 : b ≠ l1 := fun z => by rw [z, h1] at e; cases e
    have e1 : upd H l1 (.lst (ns.map V.int)) b = some o := (upd_ne n1).trans e
    have n2 : b ≠ l2 := fun z => by rw [z, h2] at e1; cases e1
    have e2 : upd (upd H l1 (.lst (ns.map V.int))) l2 (.lst [V.int 0]) b = some o := (upd_ne n2).trans e1
    have n3 : b ≠ l3 := fun z => by rw [z, h3] at e2; cases e2
    exact (upd_ne n3).trans e2, fun _ h => by cases h⟩
  generalize upd (upd (upd H l1 (.lst (ns.map V.int))) l2 (.lst [V.int 0])) l3 (.lst (ns.map V.int ++ [V.int 0])) = H3 at hg
  have key : ∀ x : Int, x = cellOf ns → tRet (tLst (tCons (tIf (tTest (tOp (rI0 fun i j => V.bl (decide (j ≤ i))) (tVar 1) (tOp (rI CPow fun i j => V.int (i ^ j.toNat)) (tC (V.int 10)) (tC (V.int 18))))) (tOp (rI (fun x j => j ≠ 0 ∧ j.natAbs.log2 < 9000) fun i j => V.int (i.fdiv j)) (tVar 1) (tC (V.int 181))) (tC (V.int 0)))
    (tCons (tOp (rI0 fun i j => V.int (i + j)) (tOp (rI (fun x j => j ≠ 0) fun i j => V.int (i.fmod j)) (tCB (fun xs H Q => (∃ i, xs = [V.int i] ∧ Q (V.int i) H) ∨ ∃ k, xs = [V.bl k] ∧ Q (V.int (if k = true then 1 else 0)) H) (tCons (tOp (rI0 fun i j => V.int (i + j)) (tOp (rI (fun x j => Builtin.Int.intBits j ≤ 64) fun i j => V.int (i * j)) (tVar 1) (tC (V.int 439))) (tC (V.int 6529))) tNil)) (tC (V.int 99991))) (tC (V.int 283))) tNil))) { nx := fun _ H' => Q .non H', rt := Q } [some (.ref a), some (.int x)] H3 := fun x hx => by
    refine ⟨_, rfl, _, _, rfl, rfl, ⟨by decide, by decide, by decide⟩, _, _, rfl, rfl, _, rfl, ?_⟩
    have go : ∀ y : Int, y = (if x ≥ 1000000000000000000 then x.fdiv 181 else 0) → tCons (tOp (rI0 fun i j => V.int (i + j)) (tOp (rI (fun x j => j ≠ 0) fun i j => V.int (i.fmod j)) (tCB (fun xs H Q => (∃ i, xs = [V.int i] ∧ Q (V.int i) H) ∨ ∃ k, xs = [V.bl k] ∧ Q (V.int (if k = true then 1 else 0)) H) (tCons (tOp (rI0 fun i j => V.int (i + j)) (tOp (rI (fun x j => Builtin.Int.intBits j ≤ 64) fun i j => V.int (i * j)) (tVar 1) (tC (V.int 439))) (tC (V.int 6529))) tNil)) (tC (V.int 99991))) (tC (V.int 283))) tNil [some (.ref a), some (.int x)] H3 fun xs H2 => (V.int y :: xs).length ≤ sizeLine ∧ ∀ p, H2 p = none → Q (.ref p) (upd H2 p (.lst (V.int y :: xs))) := fun y hy => by
      refine ⟨_, rfl, _, _, rfl, rfl, (by show Builtin.Int.intBits 439 ≤ 64; decide), _, _, rfl, rfl, .inl ⟨_, rfl, _, _, rfl, rfl, (by show (99991 : Int) ≠ 0; decide), _, _, rfl, rfl, by show 2 ≤ sizeLine; rw [hs]; decide, fun p hp => ?_⟩⟩
      refine q p _ (fun b o e => (upd_ne fun z => ?_).trans (hg.1 b o e (by simp))) ?_ ?_
      · have := hg.1 b o e (by simp)
        rw [z, hp] at this
        cases this
      · rw [upd_same, hx, hy, hx]
        rfl
      · cases e : H p with
        | none => rfl
        | some o => rw [hg.1 p o e (by simp)] at hp; cases hp
    by_cases hb : (1000000000000000000 : Int) ≤ x
    · have e : decide ((10 : Int) ^ (18 : Int).toNat ≤ x) = true := decide_eq_true (by show (10 : Int) ^ 18 ≤ x; omega)
      rw [e]
      exact ⟨_, rfl, _, _, rfl, rfl, (by show (181 : Int) ≠ 0 ∧ (181 : Int).natAbs.log2 < 9000; decide), go _ (if_pos hb).symm⟩
    · have e : decide ((10 : Int) ^ (18 : Int).toNat ≤ x) = false := decide_eq_false (by show ¬ (10 : Int) ^ 18 ≤ x; omega)
      rw [e]
      exact go _ (if_neg hb).symm
  exact key _ rfl
end Se
end
section
set_option Elab.async false
set_option linter.all false
set_option maxRecDepth 100000
set_option maxHeartbeats 4000000
namespace Se
open PySem PySem.Spec PyProof.Rows L2
/-! ### sorted(a list) -/
def ins (d : PyData) : List PyData → List PyData
  | [] => [d]
  | e :: es => if PySem.W.dataLt e d = true then e :: ins d es else d :: e :: es
def isort : List PyData → List PyData
  | [] => []
  | d :: ds => ins d (isort ds)
def leD (a b : PyData) : Bool := !PySem.W.dataLt b a
theorem leD_eq : PySem.W.dataLe false (fun d : PyData => d) = leD := PySem.W.dataLe_eq false _
theorem leD_total (a b : PyData) : (leD a b || leD b a) = true := by
  unfold leD
  cases h : PySem.W.dataLt b a with
  | false => rfl
  | true =>
    cases g : PySem.W.dataLt a b with
    | false => rfl
    | true =>
      have q := (listOrd itemOrd).trans _ _ _ h g
      rw [(listOrd itemOrd).irrefl] at q
      cases q
theorem leD_trans (a b c : PyData) (h : leD a b = true) (g : leD b c = true) : leD a c = true := by
  unfold leD at h g ⊢
  cases e : PySem.W.dataLt c a with
  | false => rfl
  | true =>
    rcases (listOrd itemOrd).negTrans _ (PySem.W.keyToks b) _ e with q | q
    · have q' : PySem.W.dataLt c b = true := q
      rw [q'] at g
      cases g
    · have q' : PySem.W.dataLt b a = true := q
      rw [q'] at h
      cases h
theorem ins_mid (d : PyData) : ∀ (l m : List PyData), (∀ e ∈ l, PySem.W.dataLt e d = true) → (∀ e, m.head? = some e → PySem.W.dataLt e d = false) → ins d (l ++ m) = l ++ d :: m
  | [], [], _, _ => rfl
  | [], e :: m, _, h => by
    show ins d (e :: m) = d :: e :: m
    unfold ins
    rw [if_neg (by rw [h e rfl]; decide)]
  | x :: l, m, h, g => by
    show ins d (x :: (l ++ m)) = x :: (l ++ d :: m)
    unfold ins
    rw [if_pos (h x List.mem_cons_self), ins_mid d l m (fun e he => h e (List.mem_cons_of_mem _ he)) g]
theorem isort_eq : ∀ ds : List PyData, isort ds = ds.mergeSort leD
  | [] => by simp [isort]
  | d :: ds => by
    obtain ⟨l, m, h1, h2, h3⟩ := List.mergeSort_cons leD_trans leD_total d ds
    have hs := List.pairwise_mergeSort leD_trans leD_total (d :: ds)
    rw [h1] at hs
    have hs2 := (List.pairwise_append.mp hs).2.1
    show ins d (isort ds) = _
    rw [isort_eq ds, h2, h1]
    refine ins_mid d l m (fun e he => ?_) (fun e he => ?_)
    · have q := h3 e he
      unfold leD at q
      simpa using q
    · have hm : e ∈ m := List.mem_of_mem_head? he
      have q := (List.pairwise_cons.mp hs2).1 e hm
      unfold leD at q
      simpa using q
def rSrt (K : PySem.W.Frag) : List V → Hp → VK → Prop := fun vs H Q => ∃ (a : Addr) (bs : List (V × PyData)), vs = [.ref a] ∧ SqL K H a (bs.map (·.1)) ∧ (∀ b ∈ bs, Dp K H b.1 b.2) ∧ PySem.W.AllAlike (bs.map (·.2)) ∧ PySem.W.Sortable (bs.map (·.2)) ∧ (∀ b ∈ bs, b.2.depth ≤ 64) ∧
  ∀ p, H p = none → Q (.ref p) (upd H p (.lst ((bs.mergeSort (PySem.W.dataLe false (·.2))).map (·.1))))
section
variable {X : Cx} {c : Addr}
theorem each_vals : ∀ {bs : List (V × PyData)} {us : List Value}, Vals (bs.map (·.1)) us → PySem.W.EachIs (fun u b => RelV b.1 u) us bs
  | [], us, h => by
    rw [List.map_nil] at h
    cases h
    exact .nil
  | b :: bs, us, h => by
    rw [List.map_cons] at h
    cases h with
    | cons r t => exact .cons r (each_vals t)
theorem vals_each : ∀ {bs : List (V × PyData)} {us : List Value}, PySem.W.EachIs (fun u b => RelV b.1 u) us bs → Vals (bs.map (·.1)) us
  | [], us, h => by
    cases h
    exact .nil
  | b :: bs, us, h => by
    cases h with
    | cons r t => exact .cons r (vals_each t)
theorem each_reads {pins : List (Addr × Obj)} {σ : L2.St} {H : Hp} {s : Shared} (I : L2.Inv X pins σ H s) : ∀ {bs : List (V × PyData)} {us : List Value}, PySem.W.EachIs (fun u b => RelV b.1 u) us bs → (∀ b ∈ bs, Dp X.K H b.1 b.2) → PySem.W.EachIs (fun u (b : V × PyData) => ∃ as, Reads s.heap u b.2 as) us bs
  | [], us, h, _ => by
    cases h
    exact .nil
  | b :: bs, us, h, g => by
    cases h with
    | cons r t =>
      obtain ⟨as, q⟩ := Dp.reads I b.2 b.1 _ (g b List.mem_cons_self) r
      exact .cons ⟨as, q⟩ (each_reads I t fun x hx => g x (List.mem_cons_of_mem _ hx))
theorem cr_srt (hu : X.A.units + 66 < cLine) : CallR X (.builtin "sorted") (rSrt X.K) := by
  intro pins s σ H vs us Q I r h
  obtain ⟨a, bs, rfl, hs, hd, ha, hk, hde, q⟩ := h
  obtain ⟨its, rv, hl, hz⟩ := I.list hs
  rw [Vals.ref1 r]
  have e := each_vals rv
  have hz' : bs.length ≤ sizeLine := by rw [List.length_map] at hz; exact hz
  refine PySem.W.sorted_data hl.isList e (each_reads I e hd) ha hk hz' (fun b hb => by have := hde b hb; omega) fun out ho eo => ?_
  obtain ⟨ep, he'⟩ := PyProof.Rows.sortedAll_at s.heap its out.toArray
  have hlen : ((bs.mergeSort (PySem.W.dataLe false (·.2))).map (·.1)).length ≤ sizeLine := by rw [List.length_map, List.length_mergeSort]; exact hz'
  exact ⟨.ref _, upd H (s.heap.objs.size + 1) (.lst ((bs.mergeSort (PySem.W.dataLe false (·.2))).map (·.1))), I.laid (t' := s.toks) (fun _ _ => PyProof.Rows.sortedAll_old) (Nat.le_succ _) ⟨hlen, out, ep, vals_each eo, he'⟩, rfl, q _ (I.hok.fresh (Nat.le_succ _))⟩
end
def tup1 : PyData → Bool
  | .tuple (_ :: _) => true
  | _ => false
def notTup : PyData → Bool
  | .none => false
  | .tuple _ => false
  | _ => true
def sortOk (es : List PyData) : Bool := es.all (fun d => es.all fun e => PySem.W.alike d e) && (es.all tup1 || es.all notTup) && es.all fun d => decide (d.depth ≤ 64)
def gSorted (ds : List PyData) : Option PyData := match ds with
  | [.list es] => if sortOk es = true then some (.list (isort es)) else none
  | _ => none
theorem zip_dva {K : PySem.W.Frag} {H : Hp} {Z : List Addr} : ∀ {xs : List V} {es : List PyData}, DvA K H Z xs es → (xs.zip es).map (·.1) = xs ∧ (xs.zip es).map (·.2) = es ∧ ∀ b ∈ xs.zip es, Dv K H Z b.1 b.2
  | _, [], h => by
    cases h
    exact ⟨rfl, rfl, fun b hb => by cases hb⟩
  | _, e :: es, h => by
    cases h with
    | cons r t =>
      obtain ⟨h1, h2, h3⟩ := zip_dva t
      refine ⟨by rw [List.zip_cons_cons, List.map_cons, h1], by rw [List.zip_cons_cons, List.map_cons, h2], fun b hb => ?_⟩
      rw [List.zip_cons_cons] at hb
      rcases List.mem_cons.mp hb with q | q
      · rw [q]; exact r
      · exact h3 b q
theorem dva_pairs {K : PySem.W.Frag} {H : Hp} {Z : List Addr} : ∀ {bs : List (V × PyData)}, (∀ b ∈ bs, Dv K H Z b.1 b.2) → DvA K H Z (bs.map (·.1)) (bs.map (·.2))
  | [], _ => .nil
  | b :: bs, h => .cons (h b List.mem_cons_self) (dva_pairs fun x hx => h x (List.mem_cons_of_mem _ hx))
theorem b_sorted {X : Cx} {c : Addr} (hu : X.A.units + 66 < cLine) : CallR X (.builtin "sorted") (rA X.K c gSorted) := callR_imp (cr_srt hu) fun vs H Q ⟨Z, ds, z, zo, cz, r, g, q⟩ => by
  unfold gSorted at g
  split at g
  · rename_i es
    split at g
    · rename_i ok
      cases g
      obtain ⟨v, rfl, rr⟩ := paired1 r
      obtain ⟨a, xs, rfl, h1, h2⟩ := rr.list
      obtain ⟨z1, z2, z3⟩ := zip_dva h2
      unfold sortOk at ok
      rw [Bool.and_eq_true, Bool.and_eq_true, Bool.or_eq_true] at ok
      obtain ⟨⟨o1, o2⟩, o3⟩ := ok
      have mem2 : ∀ b ∈ xs.zip es, b.2 ∈ es := fun b hb => by rw [← z2]; exact List.mem_map_of_mem hb
      refine ⟨a, xs.zip es, rfl, .inl (.inl (by rw [z1]; exact h1)), fun b hb => Dv.dp _ _ (z3 b hb), ?_, ?_, fun b hb => of_decide_eq_true (List.all_eq_true.mp o3 _ (mem2 b hb)), fun p hp => ?_⟩
      · rw [z2]
        exact fun d hd e he => List.all_eq_true.mp (List.all_eq_true.mp o1 d hd) e he
      · rw [z2]
        rcases o2 with o2 | o2
        · refine .inl fun d hd => ?_
          have q := List.all_eq_true.mp o2 d hd
          unfold tup1 at q
          split at q
          · exact ⟨_, _, rfl⟩
          · cases q
        · refine .inr fun d hd => ?_
          have q := List.all_eq_true.mp o2 d hd
          unfold notTup at q
          split at q
          · cases q
          · cases q
          · rename_i n1 n2
            exact ⟨n1, fun ys e => n2 ys e⟩
      · have hm : ((xs.zip es).mergeSort (PySem.W.dataLe false (·.2))).map (·.2) = isort es := by
          rw [isort_eq, ← leD_eq]
          have q := List.map_mergeSort (r := PySem.W.dataLe false (fun b : V × PyData => b.2)) (s := PySem.W.dataLe false (fun d : PyData => d)) (f := fun b : V × PyData => b.2) (l := xs.zip es) fun a _ b _ => rfl
          rw [q, z2]
        have hd : DvA X.K H Z (((xs.zip es).mergeSort (PySem.W.dataLe false (·.2))).map (·.1)) (isort es) := by
          rw [← hm]
          exact dva_pairs fun b hb => z3 b ((List.mergeSort_perm _ _).mem_iff.mp hb)
        exact fresh_lst zo cz hd q p hp
    · cases g
  · cases g
end Se
end
section
set_option Elab.async false
set_option linter.all false
set_option maxRecDepth 100000
set_option maxHeartbeats 4000000
namespace Se
open PySem PySem.Spec PyProof.Rows L2
/-! ### more owned lists -/
section
variable {X : Cx} {c : Addr} {cf : CF} {pos p : Pos} {a b e : Expr} {fa fb : SE}
theorem new_ow {K : PySem.W.Frag} {H H1 : Hp} {Z : List Addr} {σ : L2.St} {env : Ev} {cs cs1 : Cs} {t : Addr} {xs : List V} {ds : List PyData} (pr : Pre K c H Z σ env cs) (k : Keep c H H1) (ce : Cell H1 c cs1) (ht : H1 t = none) (r : DvA K H1 Z xs ds) :
    Keep c H (upd H1 t (.lst xs)) ∧ Cell (upd H1 t (.lst xs)) c cs1 ∧ RNew K H (upd H1 t (.lst xs)) Z (.ref t) (.ow (.list ds)) := by
  have p1 := pr.step k ce
  have kt : Keep c H1 (upd H1 t (.lst xs)) := .upd ht
  have ntc := rnew_c (H' := H1) p1 ht
  refine ⟨k.trans kt, (upd_cell ce ht).trans ce, t, rfl, ?_, xs, ds, rfl, upd_same, DvA.later p1.z ⟨fun a o q n => kt a o q fun z => n (z ▸ p1.cz), fun a ha => ?_⟩ _ _ r⟩
  · cases q : H t with
    | none => rfl
    | some o => rw [k t o q ntc] at ht; cases ht
  · rcases List.mem_cons.mp ha with q | q
    · rw [q]; exact .inr ht
    · exact .inl q
theorem w_list {fs : SA PyData} (hg : Gl X "list") (hm : X.mg "list" = none) (ha : PA X [e] (lA (fun H Z => DvP X.K H Z c) X.K c (fs cf))) (he : starEach [e] X.env = (false, eval e X.env) :: starEach [] X.env) (hpl : (backTo pos (starEach [] X.env)).any (·.1) = false) :
    PE X (.Call (.Name "list" p) [e] [] pos) (lW X.K c (mOw (mBI gList fs) cf)) := pe_imp (pe_callTy call_list_of hg hm bt_list ha (by decide) (by decide) he hpl) fun σ H Q ⟨Z, env, cs, t, cs', pr, e, q⟩ => by
  obtain ⟨d, c1, e1, e⟩ := bnd_some e
  obtain ⟨ds, c2, e2, e1⟩ := bnd_some e1
  obtain ⟨z, ez, e3⟩ := of_some e1
  cases e3
  cases ret_some e
  refine ⟨Z, env, cs, ds, _, pr, e2, fun vs H1 k1 ce1 r1 => ?_⟩
  unfold gList at ez
  split at ez
  · split at ez
    · rename_i xs ex
      cases ez
      obtain ⟨v, rfl, rr⟩ := paired1 r1
      obtain ⟨l, ys, rfl, h1, h2⟩ := dvp_seq rr ex
      refine ⟨l, ys, rfl, h1, fun t ht => ?_⟩
      obtain ⟨q1, q2, q3⟩ := new_ow pr k1 ce1 ht h2
      exact q _ _ q1 q2 q3
    · cases ez
  · cases ez
def gCat : PyData → PyData → Option PyData
  | .list xs, .list ys => if xs.length + ys.length ≤ line then some (.list (xs ++ ys)) else none
  | _, _ => none
theorem w_cat (ha : PE X a (lp X.K c (fa cf))) (hb : PE X b (lp X.K c (fb cf))) : PE X (.BinOp a .Add b pos) (lW X.K c (mOw (mBin gCat fa fb) cf)) := pe_imp (pe_op op_cat ha hb) fun σ H Q ⟨Z, env, cs, t, cs', pr, e, q⟩ => by
  obtain ⟨d, c1, e1, e⟩ := bnd_some e
  obtain ⟨x, c2, e2, e1⟩ := bnd_some e1
  obtain ⟨y, c3, e3, e1⟩ := bnd_some e1
  obtain ⟨z, ez, e4⟩ := of_some e1
  cases e4
  cases ret_some e
  refine ⟨Z, env, cs, x, c2, pr, e2, fun v H1 k1 ce1 r1 => ?_⟩
  have p1 := pr.step k1 ce1
  refine ⟨Z, env, c2, y, _, p1, e3, fun u H2 k2 ce2 r2 => ?_⟩
  have r1' := p1.dvp k2 r1
  unfold gCat at ez
  split at ez
  · split at ez
    · rename_i xs ys hl
      cases ez
      obtain ⟨l, us, rfl, h1, h2⟩ := r1'.list
      obtain ⟨m, ws, rfl, h3, h4⟩ := r2.list
      refine ⟨l, m, us, ws, rfl, rfl, h1, h3, by rw [h2.length, h4.length, line_eq]; exact hl, fun t ht => ?_⟩
      obtain ⟨q1, q2, q3⟩ := new_ow pr (k1.trans k2) ce2 ht (h2.append h4)
      exact q _ _ q1 q2 q3
    · cases ez
  · cases ez
end
end Se
end
section
set_option Elab.async false
set_option linter.all false
set_option maxRecDepth 100000
set_option maxHeartbeats 4000000
namespace Se
open PySem PySem.Spec PyProof.Rows L2
/-! ### two fors -/
def noOw1 : Slot → Slot
  | .ow _ => .no
  | s => s
def noOw (env : Ev) : Ev := env.map noOw1
theorem renv_noOw {K : PySem.W.Frag} {H : Hp} {Z : List Addr} {c : Addr} {σ : L2.St} {env : Ev} (h : REnv K H Z c σ env) : REnv K H Z c σ (noOw env) := by
  refine ⟨by unfold noOw; rw [List.length_map]; exact h.len, fun i o s e1 e2 => ?_⟩
  unfold noOw at e2
  rw [List.getElem?_map] at e2
  obtain ⟨t, et, rfl⟩ := Option.map_eq_some_iff.mp e2
  have q := h.at_ i o t e1 et
  cases t with
  | ow d => trivial
  | no => trivial
  | sh d => exact q
  | cup => exact q
theorem noOw_not {env : Ev} {i : Nat} {d : PyData} : (noOw env)[i]? ≠ some (.ow d) := fun e => by
  unfold noOw at e
  rw [List.getElem?_map] at e
  obtain ⟨t, et, q⟩ := Option.map_eq_some_iff.mp e
  cases t <;> cases q
theorem renv_later {K : PySem.W.Frag} {H H' : Hp} {Z Z' : List Addr} {c : Addr} {σ : L2.St} {env : Ev} (z : ZOk H Z) (l : Later H Z H' Z') (no : ∀ (i : Nat) (d : PyData), env[i]? ≠ some (Slot.ow d)) (h : REnv K H Z c σ env) : REnv K H' Z' c σ env :=
  ⟨h.len, fun i o s e1 e2 => by
    have q := h.at_ i o s e1 e2
    cases s with
    | no => trivial
    | sh d =>
      obtain ⟨v, e, r⟩ := q
      exact ⟨v, e, Dv.later z l d v r⟩
    | ow d => exact (no i d e2).elim
    | cup => exact q⟩
def stepM (f : PyData → M (List PyData)) : List PyData → M (List PyData)
  | [] => M.ret []
  | d :: ds => M.bnd (f d) fun o => M.bnd (stepM f ds) fun r => M.ret (o ++ r)
def lcIn (cf : CF) (e1 : Ev) (vs1 : List Nat) (ft : SE) (fi1 : SI) (m1 : TgF) (ft1 fe : SE) : M (List PyData) := M.bnd (ft cf e1) fun b => match b with
  | .bool true => M.bnd (fi1 cf e1) fun ds => stepL (lcTurn cf (noOw (wipeE e1 vs1)) m1 ft1 fe) ds
  | .bool false => M.ret []
  | _ => M.of none
def lcOut (cf : CF) (e0 : Ev) (m : TgF) (vs1 : List Nat) (ft : SE) (fi1 : SI) (m1 : TgF) (ft1 fe : SE) : PyData → M (List PyData) := fun d => match m d e0 with
  | some e1 => lcIn cf e1 vs1 ft fi1 m1 ft1 fe
  | none => M.of none
theorem lcOut_some {cf : CF} {e0 : Ev} {m : TgF} {vs1 : List Nat} {ft : SE} {fi1 : SI} {m1 : TgF} {ft1 fe : SE} {d : PyData} {cs : Cs} {r : List PyData × Cs} (h : lcOut cf e0 m vs1 ft fi1 m1 ft1 fe d cs = some r) : ∃ e1, m d e0 = some e1 ∧ lcIn cf e1 vs1 ft fi1 m1 ft1 fe cs = some r := by
  unfold lcOut at h
  cases e : m d e0 with
  | none => rw [e] at h; cases h
  | some e1 => rw [e] at h; exact ⟨e1, rfl, h⟩
def mLc2 (vs vs1 : List Nat) (fi : SI) (m : TgF) (ft : SE) (fi1 : SI) (m1 : TgF) (ft1 fe : SE) : SE := fun cf env => M.bnd (fi cf env) fun ds => M.bnd (stepM (lcOut cf (wipeE env vs) m vs1 ft fi1 m1 ft1 fe) ds) fun r => if r.length ≤ line then M.ret (.list r) else M.of none
section
variable {X : Cx} {c : Addr} {cf : CF}
theorem lc2_pre {K : PySem.W.Frag} {vs vs1 is is1 : List Nat} {fi fi1 : SI} {m m1 : TgF} {ft ft1 fe : SE} {σ : L2.St} {H : Hp} {Q : VK} (hv : ∀ i ∈ is, i ∈ vs) (hv1 : ∀ i ∈ is1, i ∈ vs1)
    (h : ∃ Z env cs d cs', Pre K c H Z σ env cs ∧ mLc2 vs vs1 fi m ft fi1 m1 ft1 fe cf env cs = some (d, cs') ∧ ∀ v H', Keep c H H' → Cell H' c cs' → Dv K H' Z v d → (∃ a, v = .ref a ∧ H a = none ∧ Ow K H' (a :: Z) a d) → Q v H') :
    tLc2 (lI K c (rK c) (fi cf)) (lG K c is m) (lt K c (ft cf)) (lI K c rL (fi1 cf)) (lG K c is1 m1) (lt K c (ft1 cf)) (le K c (fe cf)) vs vs1 σ H Q := by
  obtain ⟨Z, env, cs, d, cs', p, e, q⟩ := h
  obtain ⟨ds, c1, e1, e⟩ := bnd_some e
  refine ⟨Z, env, cs, ds, c1, p, e1, fun J H1 k1 ce1 wk => fun Dd hD => ?_⟩
  obtain ⟨r, c2, e2, e⟩ := bnd_some e
  split at e
  · rename_i hlen
    cases ret_some e
    have p1 := p.step k1 ce1
    have kD : Keep c H1 (upd H1 Dd (.lst [])) := .upd hD
    have nDc : Dd ≠ c := fun q => by rw [q, ce1] at hD; cases hD
    have nH : H Dd = none := by
      cases q : H Dd with
      | none => rfl
      | some o => rw [k1 Dd o q nDc] at hD; cases hD
    have grow : ∀ {H' : Hp} {csi : Cs} {xs : List V}, Keep c H1 H' → Cell H' c csi → H' Dd = some (.lst xs) → ZOk H' (Dd :: Z) := fun {H' csi xs} kp ce hDd a ha => by
      rcases List.mem_cons.mp ha with q | q
      · rw [q, hDd]; trivial
      · exact (p1.z.keep kp ce) a q
    have rkk : ∀ {H' : Hp}, Keep c H1 H' → rK c H1 Z H' (Dd :: Z) := fun {H'} kp => ⟨kp, fun a ha => by
      rcases List.mem_cons.mp ha with q | q
      · rw [q]; exact .inr hD
      · exact .inl q⟩
    refine ⟨fun i mm H' => mm = ds.length - i ∧ i ≤ ds.length ∧ ∃ csi acc xs rest, Keep c H1 H' ∧ Cell H' c csi ∧ H' Dd = some (.lst xs) ∧ DvA K H' (Dd :: Z) xs acc ∧ stepM (lcOut cf (wipeE env vs) m vs1 ft fi1 m1 ft1 fe) (ds.drop i) csi = some (rest, cs') ∧ acc ++ rest = r, ?_, ?_⟩
    · exact ⟨ds.length, by simp, Nat.zero_le _, c1, [], [], r, kD, (upd_cell ce1 hD).trans ce1, upd_same, .nil, by simpa using e2, rfl⟩
    rintro i mm H' ⟨rfl, hi, csi, acc, xs, rest, kp, ce, hDd, hacc, hst, hr⟩
    have z' := grow kp ce hDd
    have w := wk H' (Dd :: Z) (rkk kp) z' (List.mem_cons_of_mem _ p.cz)
    by_cases hlt : i < ds.length
    · obtain ⟨d, hd⟩ : ∃ d, ds[i]? = some d := ⟨ds[i], List.getElem?_eq_getElem hlt⟩
      obtain ⟨go, yl⟩ := w.1 i d hd
      have hdrop : ds.drop i = d :: ds.drop (i + 1) := by
        rw [List.drop_eq_getElem_cons hlt]
        rw [List.getElem?_eq_getElem hlt] at hd
        rw [Option.some.inj hd]
      rw [hdrop] at hst
      obtain ⟨o, c3, e3, hst⟩ := bnd_some hst
      obtain ⟨r2, c4, e4, hst⟩ := bnd_some hst
      have e5 := ret_some hst
      refine .inr ⟨go, fun H' => ∃ csi acc xs rest, Keep c H1 H' ∧ Cell H' c csi ∧ H' Dd = some (.lst xs) ∧ DvA K H' (Dd :: Z) xs acc ∧ stepM (lcOut cf (wipeE env vs) m vs1 ft fi1 m1 ft1 fe) (ds.drop (i + 1)) csi = some (rest, cs') ∧ acc ++ rest = r, fun H' h => ⟨ds.length - (i + 1), by omega, rfl, hlt, h⟩, fun x H'' y => ?_⟩
      obtain ⟨k2, ec2, rx⟩ := yl x H'' y
      have ce2 : Cell H'' c csi := ec2.trans ce
      have z2 : ZOk H'' (Dd :: Z) := z'.keep k2 ce2
      have re0 : REnv K H'' (Dd :: Z) c σ env := p.env.grow p.z p.cz (k1.trans (kp.trans k2)) (fun a ha => by
        rcases List.mem_cons.mp ha with q | q
        · rw [q]; exact .inr nH
        · exact .inl q) fun a ha => List.mem_cons_of_mem _ ha
      obtain ⟨env', hm, e3⟩ := lcOut_some e3
      refine ⟨Dd :: Z, wipeE env vs, d, env', renv_wipe re0 vs, rx, hm, fun σ2 re2 o2 w2 => ⟨?_, ?_⟩⟩
      · rw [w2 vs hv]
        exact wipe_wipe fun w hw => hw
      obtain ⟨b, c5, e6, e3⟩ := bnd_some e3
      have p2 : Pre K c H'' (Dd :: Z) σ2 env' csi := ⟨z2, List.mem_cons_of_mem _ p.cz, ce2, re2⟩
      cases b with
      | bool k =>
        refine ⟨Dd :: Z, env', csi, k, c5, p2, e6, fun H3 k3 ce3 => ?_⟩
        have p3 := p2.step k3 ce3
        have hD3 : H3 Dd = some (.lst xs) := k3 Dd _ (k2 Dd _ hDd nDc) nDc
        have hacc3 : DvA K H3 (Dd :: Z) xs acc := DvA.later z' ((k2.trans k3).later (List.mem_cons_of_mem _ p.cz)) _ _ hacc
        cases k with
        | true =>
          refine (if_pos rfl : (if true = true then _ else _) = _).mpr ?_
          obtain ⟨ds1, c6, e7, e3⟩ := bnd_some e3
          refine ⟨Dd :: Z, env', c5, ds1, c6, p3, e7, fun J1 H4 k4 ce4 wk1 => ?_⟩
          have p4 := p3.step k4 ce4
          have hD4 : H4 Dd = some (.lst xs) := k4 Dd _ hD3 nDc
          have rn4 : REnv K H4 (Dd :: Z) c (wipe σ2 vs1) (noOw (wipeE env' vs1)) := renv_noOw (renv_wipe p4.env vs1)
          have nD4 : ∀ {b : Addr}, H4 b = none → b ≠ Dd := fun {b} q z => by rw [z, hD4] at q; cases q
          refine ⟨fun j mm Hj => mm = ds1.length - j ∧ j ≤ ds1.length ∧ ∃ csj acc xs restj, Keep c H1 Hj ∧ Later H4 (Dd :: Z) Hj (Dd :: Z) ∧ Cell Hj c csj ∧ Hj Dd = some (.lst xs) ∧ DvA K Hj (Dd :: Z) xs acc ∧ stepL (lcTurn cf (noOw (wipeE env' vs1)) m1 ft1 fe) (ds1.drop j) csj = some (restj, c3) ∧ acc ++ (restj ++ r2) = r, ?_, ?_⟩
          · cases e5
            exact ⟨ds1.length, by simp, Nat.zero_le _, c6, acc, xs, o, kp.trans (k2.trans (k3.trans k4)), .refl, ce4, hD4, DvA.later p3.z (k4.later p3.cz) _ _ hacc3, by simpa using e3, hr⟩
          rintro j mm Hj ⟨rfl, hj, csj, acc, xs, restj, kpj, lj, cej, hDj, haccj, hsj, hrj⟩
          have zj := grow kpj cej hDj
          have wj := wk1 Hj (Dd :: Z) lj zj (List.mem_cons_of_mem _ p.cz)
          by_cases hltj : j < ds1.length
          · obtain ⟨dj, hdj⟩ : ∃ dj, ds1[j]? = some dj := ⟨ds1[j], List.getElem?_eq_getElem hltj⟩
            obtain ⟨goj, ylj⟩ := wj.1 j dj hdj
            have hdropj : ds1.drop j = dj :: ds1.drop (j + 1) := by
              rw [List.drop_eq_getElem_cons hltj]
              rw [List.getElem?_eq_getElem hltj] at hdj
              rw [Option.some.inj hdj]
            rw [hdropj] at hsj
            obtain ⟨oj, c7, ej, hsj⟩ := bnd_some hsj
            obtain ⟨rj, c8, fj, hsj⟩ := bnd_some hsj
            have gj := ret_some hsj
            refine .inr ⟨goj, fun Hk => ∃ csj acc xs restj, Keep c H1 Hk ∧ Later H4 (Dd :: Z) Hk (Dd :: Z) ∧ Cell Hk c csj ∧ Hk Dd = some (.lst xs) ∧ DvA K Hk (Dd :: Z) xs acc ∧ stepL (lcTurn cf (noOw (wipeE env' vs1)) m1 ft1 fe) (ds1.drop (j + 1)) csj = some (restj, c3) ∧ acc ++ (restj ++ r2) = r, fun Hk h => ⟨ds1.length - (j + 1), by omega, rfl, hltj, h⟩, fun xj Hy yj => ?_⟩
            obtain ⟨ky, ecy, rxj⟩ := ylj xj Hy yj
            have cey : Cell Hy c csj := ecy.trans cej
            have zy : ZOk Hy (Dd :: Z) := zj.keep ky cey
            have ly : Later H4 (Dd :: Z) Hy (Dd :: Z) := lj.trans (ky.later (List.mem_cons_of_mem _ p.cz))
            have rny : REnv K Hy (Dd :: Z) c (wipe σ2 vs1) (noOw (wipeE env' vs1)) := renv_later p4.z ly (fun i d => noOw_not) rn4
            obtain ⟨envj, hmj, ej⟩ := lcTurn_some ej
            refine ⟨Dd :: Z, noOw (wipeE env' vs1), dj, envj, rny, rxj, hmj, fun σ3 re3 o3 w3 => ⟨?_, ?_⟩⟩
            · rw [w3 vs1 hv1]
              exact wipe_wipe fun w hw => hw
            obtain ⟨bj, c9, e9, ej⟩ := bnd_some ej
            have p5 : Pre K c Hy (Dd :: Z) σ3 envj csj := ⟨zy, List.mem_cons_of_mem _ p.cz, cey, re3⟩
            cases bj with
            | bool kj =>
              refine ⟨Dd :: Z, envj, csj, kj, c9, p5, e9, fun H6 k6 ce6 => ?_⟩
              have p6 := p5.step k6 ce6
              have hDy : Hy Dd = some (.lst xs) := ky Dd _ hDj nDc
              have hD6 : H6 Dd = some (.lst xs) := k6 Dd _ hDy nDc
              cases kj with
              | true =>
                refine (if_pos rfl : (if true = true then _ else _) = _).mpr ?_
                obtain ⟨x', c10, e10, ej⟩ := bnd_some ej
                have e11 := ret_some ej
                cases e11
                refine ⟨Dd :: Z, envj, c9, x', c7, p6, e10, fun yv H7 k7 ce7 ry => ?_⟩
                have p7 := p6.step k7 ce7
                have hD7 : H7 Dd = some (.lst xs) := k7 Dd _ hD6 nDc
                have lq : line < sizeLine + 1 := by rw [line_eq]; exact Nat.lt_succ_self _
                have hlx : xs.length = acc.length := haccj.length
                have hl2 : acc.length < line := by
                  have q := congrArg List.length hrj
                  cases gj
                  simp only [List.length_append, List.length_cons] at q
                  omega
                have lD : Later H7 (Dd :: Z) (upd H7 Dd (.lst (xs ++ [yv]))) (Dd :: Z) := ⟨fun a o q n => by
                  rw [upd_ne fun z => n (by rw [z]; exact List.mem_cons_self)]
                  exact q, fun a h => .inl h⟩
                refine ⟨xs, hD7, by omega, c7, acc ++ [x'], xs ++ [yv], rj, fun a o q n => ?_, ?_, (upd_ne (Ne.symm nDc)).trans ce7, upd_same, ?_, ?_, ?_⟩
                · have na : a ≠ Dd := fun z => by rw [z] at q; rw [q] at hD; cases hD
                  rw [upd_ne na]
                  exact (kpj.trans (ky.trans (k6.trans k7))) a o q n
                · exact ly.trans (((k6.trans k7).later (List.mem_cons_of_mem _ p.cz)).trans lD)
                · exact DvA.later p7.z lD _ _ ((DvA.later zj ((ky.trans (k6.trans k7)).later (List.mem_cons_of_mem _ p.cz)) _ _ haccj).append (.cons ry .nil))
                · cases gj; exact fj
                · cases gj
                  rw [← hrj, List.append_assoc]
                  rfl
              | false =>
                refine (if_neg Bool.false_ne_true : (if false = true then _ else _) = _).mpr ?_
                have e11 := ret_some ej
                cases e11
                cases gj
                exact ⟨c7, acc, xs, rj, kpj.trans (ky.trans k6), ly.trans (k6.later (List.mem_cons_of_mem _ p.cz)), ce6, hD6, DvA.later zj ((ky.trans k6).later (List.mem_cons_of_mem _ p.cz)) _ _ haccj, fj, hrj⟩
            | _ => cases ej
          · have ejl : j = ds1.length := by omega
            subst ejl
            rw [List.drop_length] at hsj
            have gj := ret_some hsj
            cases gj
            cases e5
            refine .inl ⟨wj.2, c3, acc, xs, r2, kpj, cej, hDj, haccj, e4, by simpa using hrj⟩
        | false =>
          refine (if_neg Bool.false_ne_true : (if false = true then _ else _) = _).mpr ?_
          have e8 := ret_some e3
          cases e8
          cases e5
          exact ⟨c3, acc, xs, r2, kp.trans (k2.trans k3), ce3, hD3, hacc3, e4, by simpa using hr⟩
      | _ => cases e3
    · have ei : i = ds.length := by omega
      subst ei
      refine .inl ⟨w.2, ?_⟩
      rw [List.drop_length] at hst
      have e5 := ret_some hst
      cases e5
      rw [List.append_nil] at hr
      subst hr
      refine q _ H' (k1.trans kp) ce (.lst hDd (fresh_z p1.z hD) ?_) ⟨Dd, rfl, nH, xs, acc, rfl, hDd, hacc⟩
      exact DvA.later z' ⟨fun a o q n => q, fun a ha => .inl (List.mem_cons_of_mem _ ha)⟩ _ _ hacc
  · cases e
variable {elt tg iter tg1 iter1 : Expr} {ifs ifs1 : List Expr} {scope : Scope} {own : List (Str × Nat)} {vs1 : List Nat} {pos spos : Pos} {fi fi1 : SI} {is is1 : List Nat} {m m1 : TgF} {ft ft1 fe : SE} {H0 : Hp} {Z0 : List Addr}
theorem e_lc2 (hv1 : ∀ i ∈ vs1, i ∈ own.map (·.2)) (hc : X.calm = true) (hN : X.N.Nodup) (hi : PI X tg iter (lI X.K c (rK c) (fi cf))) (ok : BlkOk X.N X.env.scope scope own) (hv : ∀ i ∈ is, i ∈ own.map (·.2)) (hw : ∀ i ∈ is1, i ∈ vs1)
    (hg : ∀ (s : Shared) (H : Hp) (C : Addr) (cl : List (Str × Addr)) (fp : List Addr), PG (X.blk s H scope (compEnvC scope cl C X.env) fp) tg (lG X.K c is m)) (ht : ∀ (s : Shared) (H : Hp) (C : Addr) (cl : List (Str × Addr)) (fp : List Addr), PTs (X.blk s H scope (compEnvC scope cl C X.env) fp) ifs (lt X.K c (ft cf)))
    (hi1 : ∀ (s : Shared) (H : Hp) (C : Addr) (cl : List (Str × Addr)) (fp : List Addr), PI (X.blk s H scope (compEnvC scope cl C X.env) fp) tg1 iter1 (lI X.K c rL (fi1 cf)))
    (hg1 : ∀ (s : Shared) (H : Hp) (C : Addr) (cl : List (Str × Addr)) (fp : List Addr), PG (X.blk s H scope (compEnvC scope cl C X.env) fp) tg1 (lG X.K c is1 m1)) (ht1 : ∀ (s : Shared) (H : Hp) (C : Addr) (cl : List (Str × Addr)) (fp : List Addr), PTs (X.blk s H scope (compEnvC scope cl C X.env) fp) ifs1 (lt X.K c (ft1 cf)))
    (he : ∀ (s : Shared) (H : Hp) (C : Addr) (cl : List (Str × Addr)) (fp : List Addr), PE (X.blk s H scope (compEnvC scope cl C X.env) fp) elt (le X.K c (fe cf))) (hs : ∀ x, foldedSetIterable iter X.env x = pure x) (hs1 : ∀ env x, foldedSetIterable iter1 env x = pure x) :
    PE X (.ListComp elt [⟨tg, iter, ifs, 0⟩, ⟨tg1, iter1, ifs1, 0⟩] scope pos) (le X.K c (mLc2 (own.map (·.2)) vs1 fi m ft fi1 m1 ft1 fe cf)) :=
  pe_imp (pe_lc2 hc hN hi ok hv1 hg ht hi1 hg1 ht1 he hs hs1) fun σ H Q ⟨Z, env, cs, d, cs', p, e, q⟩ => lc2_pre hv hw ⟨Z, env, cs, d, cs', p, e, fun v H' k ce r _ => q v H' k ce r⟩
theorem w_lc2 (hv1 : ∀ i ∈ vs1, i ∈ own.map (·.2)) (hc : X.calm = true) (hN : X.N.Nodup) (hi : PI X tg iter (lI X.K c (rK c) (fi cf))) (ok : BlkOk X.N X.env.scope scope own) (hv : ∀ i ∈ is, i ∈ own.map (·.2)) (hw : ∀ i ∈ is1, i ∈ vs1)
    (hg : ∀ (s : Shared) (H : Hp) (C : Addr) (cl : List (Str × Addr)) (fp : List Addr), PG (X.blk s H scope (compEnvC scope cl C X.env) fp) tg (lG X.K c is m)) (ht : ∀ (s : Shared) (H : Hp) (C : Addr) (cl : List (Str × Addr)) (fp : List Addr), PTs (X.blk s H scope (compEnvC scope cl C X.env) fp) ifs (lt X.K c (ft cf)))
    (hi1 : ∀ (s : Shared) (H : Hp) (C : Addr) (cl : List (Str × Addr)) (fp : List Addr), PI (X.blk s H scope (compEnvC scope cl C X.env) fp) tg1 iter1 (lI X.K c rL (fi1 cf)))
    (hg1 : ∀ (s : Shared) (H : Hp) (C : Addr) (cl : List (Str × Addr)) (fp : List Addr), PG (X.blk s H scope (compEnvC scope cl C X.env) fp) tg1 (lG X.K c is1 m1)) (ht1 : ∀ (s : Shared) (H : Hp) (C : Addr) (cl : List (Str × Addr)) (fp : List Addr), PTs (X.blk s H scope (compEnvC scope cl C X.env) fp) ifs1 (lt X.K c (ft1 cf)))
    (he : ∀ (s : Shared) (H : Hp) (C : Addr) (cl : List (Str × Addr)) (fp : List Addr), PE (X.blk s H scope (compEnvC scope cl C X.env) fp) elt (le X.K c (fe cf))) (hs : ∀ x, foldedSetIterable iter X.env x = pure x) (hs1 : ∀ env x, foldedSetIterable iter1 env x = pure x) :
    PE X (.ListComp elt [⟨tg, iter, ifs, 0⟩, ⟨tg1, iter1, ifs1, 0⟩] scope pos) (lW X.K c (mOw (mLc2 (own.map (·.2)) vs1 fi m ft fi1 m1 ft1 fe) cf)) := pe_imp (pe_lc2 hc hN hi ok hv1 hg ht hi1 hg1 ht1 he hs hs1) fun σ H Q ⟨Z, env, cs, t, cs', p, e, q⟩ => by
  obtain ⟨d, c1, e1, e⟩ := bnd_some e
  cases ret_some e
  exact lc2_pre hv hw ⟨Z, env, cs, d, _, p, e1, fun v H' k ce _ ro => q v H' k ce ro⟩
theorem p_setLc2 {i : Nat} {y : Str} {py : Pos} (hv1 : ∀ i ∈ vs1, i ∈ own.map (·.2)) (hc : X.calm = true) (hN : X.N.Nodup) (hy : X.N[i]? = some y) (hyl : X.env.scope.names.lookup y = some .local)
    (hsw : swapsWith (.ListComp elt [⟨tg, iter, ifs, 0⟩, ⟨tg1, iter1, ifs1, 0⟩] scope pos) (some (.Name y py)) spos.line X.env = pure true) (hi : PI X tg iter (lI X.K c (rK c) (fi cf))) (ok : BlkOk X.N X.env.scope scope own) (hv : ∀ i ∈ is, i ∈ own.map (·.2)) (hw : ∀ i ∈ is1, i ∈ vs1)
    (hg : ∀ (s : Shared) (H : Hp) (C : Addr) (cl : List (Str × Addr)) (fp : List Addr), PG (X.blk s H scope (compEnvC scope cl C X.env) fp) tg (lG X.K c is m)) (ht : ∀ (s : Shared) (H : Hp) (C : Addr) (cl : List (Str × Addr)) (fp : List Addr), PTs (X.blk s H scope (compEnvC scope cl C X.env) fp) ifs (lt X.K c (ft cf)))
    (hi1 : ∀ (s : Shared) (H : Hp) (C : Addr) (cl : List (Str × Addr)) (fp : List Addr), PI (X.blk s H scope (compEnvC scope cl C X.env) fp) tg1 iter1 (lI X.K c rL (fi1 cf)))
    (hg1 : ∀ (s : Shared) (H : Hp) (C : Addr) (cl : List (Str × Addr)) (fp : List Addr), PG (X.blk s H scope (compEnvC scope cl C X.env) fp) tg1 (lG X.K c is1 m1)) (ht1 : ∀ (s : Shared) (H : Hp) (C : Addr) (cl : List (Str × Addr)) (fp : List Addr), PTs (X.blk s H scope (compEnvC scope cl C X.env) fp) ifs1 (lt X.K c (ft1 cf)))
    (he : ∀ (s : Shared) (H : Hp) (C : Addr) (cl : List (Str × Addr)) (fp : List Addr), PE (X.blk s H scope (compEnvC scope cl C X.env) fp) elt (le X.K c (fe cf))) (hs : ∀ x, foldedSetIterable iter X.env x = pure x) (hs1 : ∀ env x, foldedSetIterable iter1 env x = pure x) :
    PS X (.Assign [.Name y py] (.ListComp elt [⟨tg, iter, ifs, 0⟩, ⟨tg1, iter1, ifs1, 0⟩] scope pos) spos) (lS X.K c H0 Z0 (sSet i (mSh (mLc2 (own.map (·.2)) vs1 fi m ft fi1 m1 ft1 fe)) cf)) :=
  ps_imp (ps_setLc2 hc hN hy hyl hsw hi ok hv1 hg ht hi1 hg1 ht1 he hs hs1) fun D σ H ⟨Z, env, cs, fl, cs', s, e, n, r⟩ => by
    obtain ⟨t, c1, e1, e⟩ := bnd_some e
    obtain ⟨d, c2, e2, e1⟩ := bnd_some e1
    cases ret_some e1
    cases ret_some e
    refine lc2_pre hv hw ⟨Z, env, cs, d, _, s.pre, e2, fun v H' k ce rv _ => ?_⟩
    obtain ⟨Z', s', l, _, _⟩ := s.put (t := .sh d) (i := i) k ce rv
    exact n _ rfl _ H' Z' s' l
end
end Se
end
section
set_option Elab.async false
set_option linter.all false
set_option maxRecDepth 100000
set_option maxHeartbeats 4000000
/-! sets of tuples of whole numbers: set(a tuple), len, sorted with signs -/
namespace SeS
open PySem PySem.Spec PyProof.Rows L2
section
variable {P : Program} {w : World} {A : Around} {E : Value → Shared → Prop} {s : Shared}
abbrev nob (w : World) : Obj := { cls := .type "set", dict := none, data := .set #[] 0 (.fresh 0 0 (!w.params.followText "set-order")) }
theorem none_above {h : Heap} {b : Addr} (hb : h.objs.size ≤ b) : h.get? b = none := by
  cases q : h.get? b with
  | none => rfl
  | some o => exact absurd (Nat.lt_of_lt_of_le (Heap.lt_size q) hb) (Nat.lt_irrefl _)
/-- set(t), t a tuple of tuples of whole numbers -/
theorem call_set_of_tuple {l : Addr} {items : Array Value} (ks : List (Addr × List Int)) {Q : Value → Shared → Prop} (hh : A.handled = none) (hl : s.heap.IsTuple l items) (hit : items.toList = ks.map fun p => Value.ref p.1)
    (hk : ∀ p ∈ ks, L2.IsT P w s.heap p.2 p.1) (hfew : ks.length < 64) (hu : A.units + 3 < cLine)
    (h : ∀ (h' : Heap) (tk : Nat) L es ep t, SetTR P w h' s.heap.objs.size L es ep t → Got ks ks.length L → (∀ b o, s.heap.get? b = some o → h'.get? b = some o) → Q (.ref s.heap.objs.size) { s with heap := h', toks := tk }) :
    wpAny (model P w) A (call (.type "set") [.ref l]) Q E s := by
  have hisz : items.size = ks.length := by rw [← Array.length_toList, hit, List.length_map]
  obtain ⟨c, tl, hmro⟩ := F.called_set.mro
  obtain ⟨made, sub, nt, cc⟩ := And.intro F.called_set.made (And.intro F.called_set.sub (And.intro F.called_set.notType F.called_set.canCreate))
  have tc := F.typeCall_set_1 (.ref l)
  refine wpAny_call (codeAny_of_tree ?_)
  show wpAny _ _ (callAny (.type "set") _) _ _ _
  refine wpAny_pure ⟨Code.quiet_builtin _ (by decide +kernel), codeAny_builtin F.entry_type_call ?_⟩
  rw [Around.under_plain (weight_type_call_type "set" [.ref l] []) rfl]
  repeat (any_goals (first | assumption | wp_step))
  refine codeAny_mono (code_set_led1 (.ref l) (E := E) (Q₁ := fun obj s₁ => obj = .ref s.heap.objs.size ∧ s₁ = { s with heap := s.heap.push (nob w) }) ⟨rfl, rfl⟩) fun r s₁ hr => ?_
  cases r with
  | error e => exact hr
  | ok fl =>
    cases fl with
    | ret obj =>
      obtain ⟨rfl, rfl⟩ := hr
      have hS : (s.heap.push (nob w)).get? s.heap.objs.size = some (nob w) := Heap.get?_push_size _ rfl
      have hT : Shared.TypeIs { s with heap := s.heap.push (nob w) } (.ref s.heap.objs.size) "set" := ⟨_, hS, rfl⟩
      have li := F.called_set.init.lookup
      have bi := F.called_set.init.bind (.ref s.heap.objs.size)
      repeat (any_goals (first | assumption | wp_step))
      refine codeAny_mono (codeAny_call_builtin (R := wants (fun r s₂ => r = .none ∧ ∃ h' tk L es ep t, s₂ = { s with heap := h', toks := tk } ∧ SetTR P w h' s.heap.objs.size L es ep t ∧ Got ks ks.length L ∧
          (∀ b o, s.heap.get? b = some o → h'.get? b = some o)) E) F.called_set.init.plain F.entry_set_init (check_set_init_1 hT ?_)) fun r₂ s₂ hr₂ => ?_
      · obtain ⟨ol, hol, hcl, nl, hdl⟩ := hl
        obtain ⟨ocls, odict, odata, oslots⟩ := ol
        simp only at hcl hdl
        subst hcl
        subst hdl
        have hlS : l < s.heap.objs.size := Heap.lt_size hol
        have hol' : (s.heap.push (nob w)).get? l = some { cls := .type "tuple", dict := odict, data := .seq items nl, slots := oslots } := Heap.get?_push_of_some _ hol
        have s1 := F.sub_tuple_set
        have s2 := F.sub_tuple_frozenset
        have nd : (Value.type "tuple" == Value.type "dict") = false := by decide
        have hl1 : (s.heap.push (nob w)).IsTuple l items := ⟨_, hol', rfl, nl, rfl⟩
        unfold Builtin.«set.__init__» noKeywords Builtin.Frozenset.updateFrom
        generalize ePI : pyIter = PI
        wp_walk
        subst ePI
        refine wpAny_pyIter_tuple hl1 (wpAny_bind (wpAny_runValue ?_))
        have hz : (s.heap.push (nob w)).objs.size = s.heap.objs.size + 1 := Heap.size_push ..
        have hneI : l ≠ (s.heap.push (nob w)).objs.size := by rw [hz]; exact Nat.ne_of_lt (Nat.lt_succ_of_lt hlS)
        have hSf : s.heap.objs.size ∉ [(s.heap.push (nob w)).objs.size, l] := by
          rw [hz]
          simp only [List.mem_cons, List.not_mem_nil, or_false, not_or]
          exact ⟨Nat.ne_of_lt (Nat.lt_succ_self _), Nat.ne_of_gt hlS⟩
        have hval : ∀ (i : Nat) (v : Value), items[i]? = some v → ∃ p, ks[i]? = some p ∧ v = .ref p.1 := fun i v hv => by
          rw [← Array.getElem?_toList, hit, List.getElem?_map] at hv
          obtain ⟨p, hp, e⟩ := Option.map_eq_some_iff.mp hv
          exact ⟨p, hp, e.symm⟩
        refine set_update_tups ((Walks.tuple (by simp [hh]) _ l hneI items).toS) s.heap.objs.size hSf ks hisz hfew hval s.heap hk (none_above (Nat.le_refl _)) (fun b hb => none_above (by
            rw [List.mem_singleton.mp hb, hz]
            exact Nat.le_succ _)) hu (items.size - 0) 0 _ (by omega) (Nat.zero_le _)
          ⟨⟨_, Heap.get?_push_size _ rfl, rfl, rfl⟩, (hl1.push _)⟩ (fun b o e => Heap.get?_push_of_some _ (Heap.get?_push_of_some _ e)) ?hS0 ?hR
        case hS0 => exact ⟨[], #[], 0, _, setTR_fresh (Heap.get?_push_of_some _ hS), Got.zero ks⟩
        case hR =>
          intro s' L es ep t hm hS' g' hkp
          obtain ⟨h', g2, d', tk', os'⟩ := s'
          obtain ⟨e1, e2, e3⟩ : g2 = s.gens ∧ d' = s.drawn ∧ os' = s.os := ⟨hm.gens, hm.drawn, hm.os⟩
          subst e1 e2 e3
          rw [hisz] at g'
          show wpAny _ _ _ _ _ _
          refine wpAny_pure ?_
          show wpAny _ _ (ret Value.none) _ _ _
          exact wpAny_pure ⟨rfl, h', tk', L, es, ep, t, rfl, hS', g', hkp⟩
      · cases r₂ with
        | error e => exact hr₂
        | ok fl₂ =>
          cases fl₂ with
          | ret r =>
            obtain ⟨rfl, h', tk, L, es, ep, t, rfl, hS', g', hk'⟩ := hr₂
            repeat (any_goals (first | assumption | wp_step))
            exact h _ _ _ _ _ _ hS' g' hk'
          | _ => exact hr₂.elim
    | _ => exact hr.elim
end
end SeS
end
section
set_option Elab.async false
set_option linter.all false
set_option maxRecDepth 100000
set_option maxHeartbeats 4000000
namespace SeS
open PySem PySem.Spec PyProof.Rows L2
abbrev rowD (r : List Int) : PyData := .tuple (r.map .int)
theorem reads_ints {h : Heap} : ∀ {k : List Int} {vs : List Value}, IntsAre vs k → ReadsAll h vs (k.map PyData.int) []
  | _, _, .nil => .nil
  | _, _, .cons k t r => .cons (as := []) (.int k t) (reads_ints r)
theorem reads_row {P : Program} {w : World} {h : Heap} {k : List Int} {b : Addr} (x : L2.IsT P w h k b) : Reads h (.ref b) (rowD k) [] := by
  obtain ⟨o, items, n, ho, hc, hd, hi⟩ := x
  exact .tuple ho hc hd (reads_ints (ints_of_items hi))
theorem alike_ints : ∀ (xs ys : List Int), PySem.W.alikeAll (xs.map PyData.int) (ys.map PyData.int) = true
  | [], _ => by simp [PySem.W.alikeAll]
  | x :: xs, [] => by simp [PySem.W.alikeAll]
  | x :: xs, y :: ys => by simp [PySem.W.alikeAll, PySem.W.alike, alike_ints xs ys]
theorem alike_rows (xs ys : List Int) : PySem.W.alike (rowD xs) (rowD ys) = true := by
  simpa [PySem.W.alike] using alike_ints xs ys
theorem depth_ints : ∀ xs : List Int, PyData.depthAll (xs.map PyData.int) = 0
  | [] => by simp [PyData.depthAll]
  | x :: xs => by simp [PyData.depthAll, PyData.depth, depth_ints xs]
theorem depth_row (xs : List Int) : (rowD xs).depth ≤ 1 := by
  simp [PyData.depth, depth_ints xs]
theorem rowD_inj {a b : List Int} (h : rowD a = rowD b) : a = b := by
  have h2 : a.map PyData.int = b.map PyData.int := by injection h
  exact (List.map_inj_right fun x y e => by injection e).mp h2
theorem lt_row (xs ys : List Int) : PySem.W.dataLt (rowD xs) (rowD ys) = decide (xs < ys) := by
  rw [PySem.W.dataLt_tuple]
  exact PySem.W.dataLt_ints xs ys
theorem row_anti {xs ys : List Int} (h1 : Se.leD (rowD xs) (rowD ys) = true) (h2 : Se.leD (rowD ys) (rowD xs) = true) : xs = ys := by
  unfold Se.leD at h1 h2
  rw [lt_row] at h1 h2
  simp only [Bool.not_eq_true', decide_eq_false_iff_not] at h1 h2
  exact List.le_antisymm h1 h2
/-- the rows, each once -/
def nub : List (List Int) → List (List Int)
  | [] => []
  | r :: rs => if rs.contains r then nub rs else r :: nub rs
theorem mem_nub {x : List Int} : ∀ {rs : List (List Int)}, x ∈ nub rs ↔ x ∈ rs
  | [] => Iff.rfl
  | r :: rs => by
    unfold nub
    split
    · rename_i h
      rw [mem_nub (rs := rs), List.mem_cons]
      have h' : r ∈ rs := by simpa using h
      exact ⟨.inr, fun q => q.elim (fun e => e ▸ h') id⟩
    · rw [List.mem_cons, List.mem_cons, mem_nub (rs := rs)]
theorem nodup_nub : ∀ rs : List (List Int), (nub rs).Nodup
  | [] => .nil
  | r :: rs => by
    unfold nub
    split
    · exact nodup_nub rs
    · rename_i h
      have h' : r ∉ rs := by simpa using h
      exact List.nodup_cons.mpr ⟨fun q => h' (mem_nub.mp q), nodup_nub rs⟩
/-- one set of rows, one sorted list -/
theorem isort_rows {a b : List (List Int)} (h : a.Perm b) : Se.isort (a.map rowD) = Se.isort (b.map rowD) := by
  rw [Se.isort_eq, Se.isort_eq]
  refine List.Perm.eq_of_pairwise (le := fun x y => Se.leD x y = true) (fun x y hx hy h1 h2 => ?_) (List.pairwise_mergeSort Se.leD_trans Se.leD_total _) (List.pairwise_mergeSort Se.leD_trans Se.leD_total _)
    ((List.mergeSort_perm _ _).trans ((h.map rowD).trans (List.mergeSort_perm _ _).symm))
  obtain ⟨r, _, rfl⟩ := List.mem_map.mp ((List.mergeSort_perm _ _).mem_iff.mp hx)
  obtain ⟨t, _, rfl⟩ := List.mem_map.mp ((List.mergeSort_perm _ _).mem_iff.mp hy)
  rw [row_anti h1 h2]
/-! ### sorted(a set of rows), len of it -/
section
variable {P : Program} {w : World} {A : Around} {E : Value → Shared → Prop} {s : Shared}
theorem refs_of {L : List (Addr × List Int)} : ∀ (vs : List Value), (∀ v ∈ vs, v ∈ L.map fun q => Value.ref q.1) → ∃ M : List (Addr × List Int), vs = M.map (fun q => Value.ref q.1) ∧ ∀ q ∈ M, q ∈ L
  | [], _ => ⟨[], rfl, fun _ h => by cases h⟩
  | v :: vs, h => by
    obtain ⟨q, hq, e⟩ := List.mem_map.mp (h v List.mem_cons_self)
    obtain ⟨M, e2, h2⟩ := refs_of vs fun u hu => h u (List.mem_cons_of_mem _ hu)
    exact ⟨q :: M, by rw [List.map_cons, ← e2, e], fun x hx => (List.mem_cons.mp hx).elim (fun z => z ▸ hq) (h2 x)⟩
theorem perm_of_refs {L M : List (Addr × List Int)} (nd : (L.map (·.2)).Nodup) (one : ∀ q ∈ L, ∀ r ∈ L, q.1 = r.1 → q = r) (hs : ∀ q ∈ M, q ∈ L) (pm : (M.map fun q => Value.ref q.1).Perm (L.map fun q => Value.ref q.1)) : M.Perm L := by
  have nL : L.Nodup := nodup_of_map nd
  have nref : (L.map fun q => Value.ref q.1).Nodup := by
    refine List.pairwise_map.mpr (List.Pairwise.imp_of_mem (fun {q r} hq hr hne e => ?_) nL)
    injection e with e
    exact hne (one q hq r hr e)
  refine (List.perm_ext_iff_of_nodup (nodup_of_map (pm.nodup_iff.mpr nref)) nL).mpr fun q => ⟨hs q, fun hq => ?_⟩
  obtain ⟨r, hr, e⟩ := List.mem_map.mp (pm.mem_iff.mpr (List.mem_map.mpr ⟨q, hq, rfl⟩))
  injection e with e
  rw [← one r (hs r hr) q hq e]
  exact hr
theorem each_refs {h : Heap} : ∀ {M : List (Addr × List Int)}, (∀ q ∈ M, L2.IsT P w h q.2 q.1) → PySem.W.EachIs (fun v (q : Addr × List Int) => v = Value.ref q.1) (M.map fun q => Value.ref q.1) M ∧ ∀ a : Addr, PySem.W.EachIs (fun v (q : Addr × List Int) => ∃ as, Reads h v (rowD q.2) as ∧ a ∉ as) (M.map fun q => Value.ref q.1) M
  | [], _ => ⟨.nil, fun _ => .nil⟩
  | q :: M, h => by
    obtain ⟨h1, h2⟩ := each_refs fun x hx => h x (List.mem_cons_of_mem _ hx)
    exact ⟨.cons rfl h1, fun a => .cons ⟨[], reads_row (h q List.mem_cons_self), by simp⟩ (h2 a)⟩
theorem each_out : ∀ {M : List (Addr × List Int)} {out : List Value}, PySem.W.EachIs (fun v (q : Addr × List Int) => v = Value.ref q.1) out M → out = M.map fun q => Value.ref q.1
  | _, _, .nil => rfl
  | _, _, .cons r t => by rw [r, each_out t]; rfl
theorem sort_rows_ok (M : List (Addr × List Int)) (hne : ∀ q ∈ M, q.2 ≠ []) : PySem.W.AllAlike (M.map fun q => rowD q.2) ∧ PySem.W.Sortable (M.map fun q => rowD q.2) := by
  refine ⟨fun d hd e he => ?_, .inl fun d hd => ?_⟩
  · obtain ⟨q, _, rfl⟩ := List.mem_map.mp hd
    obtain ⟨r, _, rfl⟩ := List.mem_map.mp he
    exact alike_rows _ _
  · obtain ⟨q, hq, rfl⟩ := List.mem_map.mp hd
    cases e : q.2 with
    | nil => exact (hne q hq e).elim
    | cons x xs => exact ⟨_, _, rfl⟩
theorem sorted_set_rows {a : Addr} {L : List (Addr × List Int)} {es : Array (Int × Value)} {ep : Nat} {t : SetTable} {Q : Value → Shared → Prop} (R : SetTR P w s.heap a L es ep t) (hh : A.handled = none) (hne : ∀ p ∈ L, p.2 ≠ []) (hu : A.units + 64 < cLine)
    (hQ : ∀ s' p (out : Array Value) (c : Nat) (L' : List (Addr × List Int)), (∀ b o, s.heap.get? b = some o → s'.heap.get? b = some o) → s'.gens = s.gens → s'.os = s.os → s.heap.objs.size ≤ p →
      s'.heap.get? p = some (seqObj "list" out c) → out.toList = L'.map (fun q => Value.ref q.1) → L'.Perm L → L'.map (fun q => rowD q.2) = Se.isort (L.map fun q => rowD q.2) → Q (.ref p) s') :
    wpAny (model P w) A (call (.builtin "sorted") [.ref a]) Q E s := by
  obtain ⟨o, ho, hex, hd⟩ := R.ob
  have hsz := R.size
  have hfew := R.few
  refine Calls.call_function_entry kind_sorted plain_sorted entry_sorted (args_sorted1 _) ?_
  unfold Builtin.«sorted»
  refine wpAny_bind (m := checkCount "sorted" 1 1 _) (wpAny_pure ?_)
  refine wpAny_bind (collect_set (A := A.in1) hh ⟨o, ho, hex.1, hd⟩ R.fits (by unfold scanBound; omega) R.tab.ris R.led fun s1 vs k1 hz g1 o1 pm => ?_)
  have hes : es.toList.map (·.2) = L.map fun q => Value.ref q.1 := by
    rw [R.rows]
    unfold rowsOf
    rw [List.map_map]
    rfl
  rw [hes] at pm
  obtain ⟨M, rfl, hM⟩ := refs_of (L := L) vs fun v hv => pm.mem_iff.mp hv
  have pML : M.Perm L := perm_of_refs R.nd (fun q hq r hr e => by
    have a1 := R.tup q hq
    have a2 := R.tup r hr
    rw [e] at a1
    exact Prod.ext e (a1.inj a2)) hM pm
  have hMl : M.length = L.length := pML.length_eq
  refine wpAny_bind (wpAny_newList ?_ (by rw [List.length_map, sizeLine_eq]; omega))
  have hoL : (s1.heap.push (seqObj "list" (M.map fun q => Value.ref q.1).toArray 0)).get? s1.heap.objs.size = some (seqObj "list" (M.map fun q => Value.ref q.1).toArray 0) := Heap.get?_push_size _ rfl
  have isT : ∀ q ∈ M, L2.IsT P w (s1.heap.push (seqObj "list" (M.map fun q => Value.ref q.1).toArray 0)) q.2 q.1 := fun q hq => isT_keep (R.tup q (hM q hq)) fun b u e => Heap.get?_push_of_some _ (k1 b u e)
  obtain ⟨e1, e2⟩ := each_refs isT
  obtain ⟨al, so⟩ := sort_rows_ok M fun q hq => hne q (hM q hq)
  refine wpAny_bind (wpAny_holding (PySem.W.list_sort_data (s := { s1 with heap := s1.heap.push (seqObj "list" (M.map fun q => Value.ref q.1).toArray 0) }) (enc := fun q : Addr × List Int => rowD q.2) hoL e1 (e2 _) al so (by rw [hMl, sizeLine_eq]; omega) (fun q _ => ?_) fun out hl eo => ?_))
  · have := depth_row q.2
    show A.in1.units + 1 + (rowD q.2).depth < cLine
    have hA : A.in1.units ≤ A.units + 1 := by simp [Around.in1, Around.under]
    omega
  have eo' := each_out eo
  obtain ⟨c, hc⟩ := sortedHeap_at (vs := M.map fun q => Value.ref q.1) (out := out.toArray) hoL
  have pL := (List.mergeSort_perm M (PySem.W.dataLe false fun q : Addr × List Int => rowD q.2)).trans pML
  refine wpAny_pure ⟨_, rfl, hQ _ s1.heap.objs.size out.toArray c (M.mergeSort (PySem.W.dataLe false fun q : Addr × List Int => rowD q.2)) (fun b u e => ?_) g1 o1 hz hc (by rw [eo']) pL ?_⟩
  · have q := k1 b u e
    have hlt := Heap.lt_size q
    show (sortedHeap (s1.heap.push (seqObj "list" (M.map fun q => Value.ref q.1).toArray 0)) s1.heap.objs.size (M.map fun q => Value.ref q.1) out.toArray).get? b = some u
    rw [sortedHeap_old (Nat.ne_of_lt hlt) (by rw [size_push']; exact Nat.lt_succ_of_lt hlt)]
    exact Heap.get?_push_of_some _ q
  · have q := List.map_mergeSort (r := PySem.W.dataLe false fun q : Addr × List Int => rowD q.2) (s := PySem.W.dataLe false fun d : PyData => d) (f := fun q : Addr × List Int => rowD q.2) (l := M) fun a _ b _ => rfl
    rw [q, Se.leD_eq, ← Se.isort_eq]
    have z := isort_rows (pML.map fun q : Addr × List Int => q.2)
    rw [List.map_map, List.map_map] at z
    exact z
end
section
variable {X : Cx}
/-- set(xs), xs a list or a tuple of rows -/
theorem cr_setOf (hc : X.calm = true) (hu : X.A.units + 64 < cLine) : CallR X (.type "set") (fun xs H Q => ∃ (l : Addr) (ks : List (Addr × List Int)), xs = [V.ref l] ∧ (SqL X.K H l (ks.map fun p => V.ref p.1) ∨ SqT X.K H l (ks.map fun p => V.ref p.1)) ∧ (∀ p ∈ ks, SqT X.K H p.1 (p.2.map V.int)) ∧ ks.length < 64 ∧
    ∀ a L, H a = none → (∀ p ∈ L, p ∈ ks) → (∀ p ∈ ks, p.2 ∈ L.map (·.2)) → Q (.ref a) (upd H a (SetTO X.prog X.w a L))) := by
  intro pins s σ H xs us Q I r h
  obtain ⟨l, ks, rfl, hl, hk, hf, q⟩ := h
  rcases hl with hl | hl
  · exact cr_setOfT hc hu pins s σ H _ us Q I r ⟨l, ks, rfl, hl, hk, hf, q⟩
  rw [Vals.ref1 r]
  obtain ⟨its, rv, hT, hz⟩ := I.tuple hl
  have hn : H s.heap.objs.size = none := I.hok.fresh (Nat.le_refl _)
  refine call_set_of_tuple (P := X.prog) (w := X.w) ks (I.ok.hd hc) hT (by simpa using refs_of_vals rv) (fun p hp => I.isT (hk p hp)) hf (by omega) fun h' tk L es ep t R g k => ?_
  refine ⟨.ref s.heap.objs.size, upd H s.heap.objs.size (SetTO X.prog X.w s.heap.objs.size L), I.laid (t' := tk) k (Nat.le_refl _) (setTO_new R.t0), rfl, q _ L hn (fun p hp => ?_) fun p hp => ?_⟩
  · exact List.mem_of_mem_take (g.sub p hp)
  · exact g.all p (by rw [List.take_length]; exact hp)
theorem cr_lenSet : CallR X (.builtin "len") (fun vs H Q => ∃ (a : Addr) (L : List (Addr × List Int)), vs = [V.ref a] ∧ H a = some (SetTO X.prog X.w a L) ∧ (∀ p ∈ L, SqT X.K H p.1 (p.2.map V.int)) ∧ ((L.map (·.2)).Nodup → Q (.int L.length) H)) := by
  intro pins s σ H vs us Q I r h
  obtain ⟨a, L, rfl, ha, hk, q⟩ := h
  have R0 : SetT0 X.prog X.w s.heap a L := (I.hok a _ ha).1
  obtain ⟨es, ep, t, R⟩ := R0.full fun p hp => I.isT (hk p hp)
  rw [Vals.ref1 r]
  obtain ⟨o, ho, hex, hd⟩ := R.ob
  have hz := R.size
  have hf := R.few
  refine call_len_set ho hex hd R.fits (by omega) ⟨.int L.length, H, I.tok _, ⟨_, by rw [hz]⟩, q R.nd⟩
theorem cr_sortSet (hc : X.calm = true) (hu : X.A.units + 66 < cLine) : CallR X (.builtin "sorted") (fun vs H Q => ∃ (a : Addr) (L : List (Addr × List Int)), vs = [V.ref a] ∧ H a = some (SetTO X.prog X.w a L) ∧ (∀ p ∈ L, SqT X.K H p.1 (p.2.map V.int)) ∧ (∀ p ∈ L, p.2 ≠ []) ∧
    ∀ (L' : List (Addr × List Int)) (p : Addr), (L.map (·.2)).Nodup → L'.Perm L → L'.map (fun q => rowD q.2) = Se.isort (L.map fun q => rowD q.2) → H p = none → Q (.ref p) (upd H p (.lst (L'.map fun q => V.ref q.1)))) := by
  intro pins s σ H vs us Q I r h
  obtain ⟨a, L, rfl, ha, hk, hne, q⟩ := h
  have R0 : SetT0 X.prog X.w s.heap a L := (I.hok a _ ha).1
  obtain ⟨es, ep, t, R⟩ := R0.full fun p hp => I.isT (hk p hp)
  rw [Vals.ref1 r]
  refine sorted_set_rows R (I.ok.hd hc) hne (by omega) fun s' p out c L' k g o hp hg hout pm eq => ?_
  have hfew : L'.length < 64 := by rw [pm.length_eq]; exact R.few
  have hlen : (L'.map fun q => V.ref q.1).length ≤ sizeLine := by rw [List.length_map, sizeLine_eq]; omega
  have hn : H p = none := I.hok.fresh hp
  have hv : Vals (L'.map fun q => V.ref q.1) out.toList := by rw [hout]; exact vals_of_refs L'
  obtain ⟨hp', g', d', tk', os'⟩ := s'
  obtain ⟨e1, e2⟩ : g' = s.gens ∧ os' = s.os := ⟨g, o⟩
  subst e1 e2
  have J : Inv X pins σ (upd H p (.lst (L'.map fun q => V.ref q.1))) { s with heap := hp', drawn := d', toks := tk' } := I.call (ch := []) (Un.laid k hp hn) (I.hok.laid k hp ⟨hlen, out.toList, c, hv, hg⟩) I.bare (fun _ z => nomatch z)
  exact ⟨.ref p, _, J, rfl, q L' p R.nd pm eq hn⟩
end
end SeS
end
section
set_option Elab.async false
set_option linter.all false
set_option maxRecDepth 100000
set_option maxHeartbeats 4000000
namespace Se
open PySem PySem.Spec PyProof.Rows L2
/-! ### len(set(..)), sorted(set(..)) -/
def asRows : List PyData → Option (List (List Int))
  | [] => some []
  | .tuple ds :: r => match asInts ds, asRows r with
    | some ns, some rs => some (ns :: rs)
    | _, _ => none
  | _ :: _ => none
theorem asRows_eq : ∀ {es : List PyData} {rs : List (List Int)}, asRows es = some rs → es = rs.map SeS.rowD
  | [], rs, h => by cases h; rfl
  | e :: es, rs, h => by
    unfold asRows at h
    split at h
    · rename_i q; cases q
    · rename_i ds r q
      cases q
      split at h
      · rename_i ns rs' h1 h2
        cases h
        rw [asInts_eq h1, asRows_eq h2]
        rfl
      · cases h
    · cases h
def rowsOf (ds : List PyData) : Option (List (List Int)) := match ds with
  | [d] => match sqL d with
    | some es => match asRows es with
      | some rs => if rs.length < 64 then some rs else none
      | none => none
    | none => none
  | _ => none
theorem rowsOf_some {ds : List PyData} {rs : List (List Int)} (h : rowsOf ds = some rs) : ∃ d es, ds = [d] ∧ sqL d = some es ∧ asRows es = some rs ∧ rs.length < 64 := by
  unfold rowsOf at h
  split at h
  · rename_i d
    split at h
    · rename_i es h1
      split at h
      · rename_i rs' h2
        split at h
        · rename_i h3
          cases h
          exact ⟨d, es, rfl, h1, h2, h3⟩
        · cases h
      · cases h
    · cases h
  · cases h
def gLenSet (ds : List PyData) : Option PyData := match rowsOf ds with
  | some rs => some (.int (SeS.nub rs).length)
  | none => none
def gSortSet (ds : List PyData) : Option PyData := match rowsOf ds with
  | some rs => if rs.all (fun r => !r.isEmpty) = true then some (.list (isort ((SeS.nub rs).map SeS.rowD))) else none
  | none => none
section
variable {X : Cx} {c : Addr} {cf : CF} {pos p p2 q : Pos} {a : Expr} {fs : SA PyData}
theorem dva_rows {K : PySem.W.Frag} {H : Hp} {Z : List Addr} : ∀ {rs : List (List Int)} {ys : List V}, DvA K H Z ys (rs.map SeS.rowD) → ∃ ks : List (Addr × List Int), ys = ks.map (fun p => V.ref p.1) ∧ (∀ p ∈ ks, SqT K H p.1 (p.2.map V.int)) ∧ ks.map (·.2) = rs
  | [], _, h => by
    cases h
    exact ⟨[], rfl, (fun _ h => by cases h), rfl⟩
  | r :: rs, _, h => by
    rw [List.map_cons] at h
    cases h with
    | @cons v vs _ _ h1 h2 =>
      obtain ⟨ks, e1, e2, e3⟩ := dva_rows h2
      cases h1 with
      | @tup b xs _ hs ha =>
        have ex := DvA.ints (ns := r) ha rfl
        subst ex
        exact ⟨(b, r) :: ks, by rw [List.map_cons, e1], fun p hp => (List.mem_cons.mp hp).elim (fun z => z ▸ hs) (e2 p), by rw [List.map_cons, e3]⟩
theorem nub_perm {ks L : List (Addr × List Int)} (nd : (L.map (·.2)).Nodup) (h1 : ∀ p ∈ L, p ∈ ks) (h2 : ∀ p ∈ ks, p.2 ∈ L.map (·.2)) : (L.map (·.2)).Perm (SeS.nub (ks.map (·.2))) :=
  (List.perm_ext_iff_of_nodup nd (SeS.nodup_nub _)).mpr fun r => by
    rw [SeS.mem_nub]
    refine ⟨fun h => ?_, fun h => ?_⟩
    · obtain ⟨p, hp, rfl⟩ := List.mem_map.mp h
      exact List.mem_map_of_mem (h1 p hp)
    · obtain ⟨p, hp, rfl⟩ := List.mem_map.mp h
      exact h2 p hp
theorem e_lenSet (hc : X.calm = true) (hu : X.A.units + 66 < cLine) (hg : Gl X "len") (hm : X.mg "len" = none) (hg2 : Gl X "set") (hm2 : X.mg "set" = none) (ha : PA X [a] (lA (fun H Z => DvP X.K H Z c) X.K c (fs cf)))
    (he : starEach [a] X.env = (false, eval a X.env) :: starEach [] X.env) (hpl : (backTo q (starEach [] X.env)).any (·.1) = false) (he2 : starEach [.Call (.Name "set" p2) [a] [] q] X.env = (false, eval (.Call (.Name "set" p2) [a] [] q) X.env) :: starEach [] X.env) (hpl2 : (backTo pos (starEach [] X.env)).any (·.1) = false) :
    PE X (.Call (.Name "len" p) [.Call (.Name "set" p2) [a] [] q] [] pos) (le X.K c (mBI gLenSet fs cf)) :=
  pe_imp (pe_callB SeS.cr_lenSet hg hm bt_len (pa_cons (pe_callTy (SeS.cr_setOf hc (by omega)) hg2 hm2 bt_set ha (by decide) (by decide) he hpl) pa_nil he2) (by decide) (by decide) he2 hpl2) fun σ H Q ⟨Z, env, cs, d, cs', pr, e, q⟩ => by
    obtain ⟨ds, c1, e1, e⟩ := bnd_some e
    obtain ⟨z, ez, e2⟩ := of_some e
    cases e2
    unfold gLenSet at ez
    split at ez
    · rename_i rs hr
      cases ez
      obtain ⟨d, es, rfl, h1, h2, h3⟩ := rowsOf_some hr
      have ee := asRows_eq h2
      subst ee
      refine ⟨Z, env, cs, _, _, pr, e1, fun vs H1 k1 ce1 r1 => ?_⟩
      have p1 := pr.step k1 ce1
      obtain ⟨v, rfl, rr⟩ := paired1 r1
      obtain ⟨l, ys, rfl, h4, h5⟩ := dvp_seq rr h1
      obtain ⟨ks, rfl, h6, rfl⟩ := dva_rows h5
      refine ⟨l, ks, rfl, h4, h6, by simpa using h3, fun b L hn hs hcv => ⟨b, L, rfl, upd_same, fun x hx => ?_, fun nd => ?_⟩⟩
      · exact SqT.later p1.z ((Keep.upd (c := c) hn).later p1.cz) (h6 x (hs x hx))
      · have kb : Keep c H1 (upd H1 b (SetTO X.prog X.w b L)) := .upd hn
        have hl : L.length = (SeS.nub (ks.map (·.2))).length := by rw [← (nub_perm nd hs hcv).length_eq, List.length_map]
        exact q _ _ (k1.trans kb) ((upd_cell ce1 hn).trans ce1) (by rw [hl]; exact .int _)
    · cases ez
theorem dva_refs {K : PySem.W.Frag} {H : Hp} {Z : List Addr} : ∀ {L : List (Addr × List Int)}, (∀ p ∈ L, SqT K H p.1 (p.2.map V.int)) → DvA K H Z (L.map fun q => V.ref q.1) (L.map fun q => SeS.rowD q.2)
  | [], _ => .nil
  | p :: L, h => .cons (.tup (h p List.mem_cons_self) (.of_ints _)) (dva_refs fun x hx => h x (List.mem_cons_of_mem _ hx))
theorem e_sortSet (hc : X.calm = true) (hu : X.A.units + 66 < cLine) (hg : Gl X "sorted") (hm : X.mg "sorted" = none) (hg2 : Gl X "set") (hm2 : X.mg "set" = none) (ha : PA X [a] (lA (fun H Z => DvP X.K H Z c) X.K c (fs cf)))
    (he : starEach [a] X.env = (false, eval a X.env) :: starEach [] X.env) (hpl : (backTo q (starEach [] X.env)).any (·.1) = false) (he2 : starEach [.Call (.Name "set" p2) [a] [] q] X.env = (false, eval (.Call (.Name "set" p2) [a] [] q) X.env) :: starEach [] X.env) (hpl2 : (backTo pos (starEach [] X.env)).any (·.1) = false) :
    PE X (.Call (.Name "sorted" p) [.Call (.Name "set" p2) [a] [] q] [] pos) (le X.K c (mBI gSortSet fs cf)) :=
  pe_imp (pe_callB (SeS.cr_sortSet hc hu) hg hm bt_sorted (pa_cons (pe_callTy (SeS.cr_setOf hc (by omega)) hg2 hm2 bt_set ha (by decide) (by decide) he hpl) pa_nil he2) (by decide) (by decide) he2 hpl2) fun σ H Q ⟨Z, env, cs, d, cs', pr, e, q⟩ => by
    obtain ⟨ds, c1, e1, e⟩ := bnd_some e
    obtain ⟨z, ez, e2⟩ := of_some e
    cases e2
    unfold gSortSet at ez
    split at ez
    · rename_i rs hr
      split at ez
      · rename_i hne
        cases ez
        obtain ⟨d, es, rfl, h1, h2, h3⟩ := rowsOf_some hr
        have ee := asRows_eq h2
        subst ee
        refine ⟨Z, env, cs, _, _, pr, e1, fun vs H1 k1 ce1 r1 => ?_⟩
        have p1 := pr.step k1 ce1
        obtain ⟨v, rfl, rr⟩ := paired1 r1
        obtain ⟨l, ys, rfl, h4, h5⟩ := dvp_seq rr h1
        obtain ⟨ks, rfl, h6, rfl⟩ := dva_rows h5
        refine ⟨l, ks, rfl, h4, h6, by simpa using h3, fun b L hn hs hcv => ?_⟩
        have kb : Keep c H1 (upd H1 b (SetTO X.prog X.w b L)) := .upd hn
        have p2 : Pre X.K c (upd H1 b (SetTO X.prog X.w b L)) Z σ env _ := p1.step kb ((upd_cell ce1 hn).trans ce1)
        have sq2 : ∀ x ∈ L, SqT X.K (upd H1 b (SetTO X.prog X.w b L)) x.1 (x.2.map V.int) := fun x hx => SqT.later p1.z (kb.later p1.cz) (h6 x (hs x hx))
        refine ⟨b, L, rfl, upd_same, sq2, fun x hx e0 => ?_, fun L' t nd pm eq ht => ?_⟩
        · have := List.all_eq_true.mp hne x.2 (List.mem_map_of_mem (hs x hx))
          rw [e0] at this
          cases this
        · have kt : Keep c (upd H1 b (SetTO X.prog X.w b L)) (upd (upd H1 b (SetTO X.prog X.w b L)) t (.lst (L'.map fun q => V.ref q.1))) := .upd ht
          refine q _ _ (k1.trans (kb.trans kt)) ((upd_cell p2.cell ht).trans p2.cell) ?_
          have hD : L'.map (fun q => SeS.rowD q.2) = isort ((SeS.nub (ks.map (·.2))).map SeS.rowD) := by
            rw [eq]
            have z := SeS.isort_rows (nub_perm nd hs hcv)
            rw [List.map_map] at z
            exact z
          rw [← hD]
          exact .lst upd_same (fresh_z p2.z ht) (p2.dva kt (dva_refs fun x hx => sq2 x (pm.mem_iff.mp hx)))
      · cases ez
    · cases ez
end
end Se
end
section
set_option Elab.async false
set_option linter.all false
set_option maxRecDepth 100000
set_option maxHeartbeats 4000000
namespace Se
open PySem PySem.Spec PyProof.Rows L2
/-! ### list.index, list.count -/
def fIdx (d : PyData) : List PyData → Nat → Option Nat
  | [], _ => none
  | z :: zs, n => if PyData.eqv z d = true then some n else fIdx d zs (n + 1)
theorem fIdx_some {d : PyData} : ∀ {ds : List PyData} {n j : Nat}, fIdx d ds n = some j → ∃ i z, j = n + i ∧ ds[i]? = some z ∧ PyData.eqv z d = true ∧ ∀ (m : Nat) (z' : PyData), m < i → ds[m]? = some z' → PyData.eqv z' d = false
  | [], _, _, h => by cases h
  | z :: zs, n, j, h => by
    unfold fIdx at h
    split at h
    · rename_i e
      cases h
      exact ⟨0, z, rfl, rfl, e, fun m z' hm => absurd hm (Nat.not_lt_zero _)⟩
    · rename_i e
      obtain ⟨i, y, rfl, h1, h2, h3⟩ := fIdx_some h
      refine ⟨i + 1, y, by omega, by simpa using h1, h2, fun m z' hm hz => ?_⟩
      cases m with
      | zero =>
        have : z = z' := by simpa using hz
        subst this
        simpa using e
      | succ m => exact h3 m z' (by omega) (by simpa using hz)
def gIndex (x y : PyData) : Option PyData := match x with
  | .list ds => if shp (.list ds) = true ∧ shp y = true then (match fIdx y ds 0 with
    | some j => some (.int (j : Nat))
    | none => none) else none
  | _ => none
def gCount (x y : PyData) : Option PyData := match x, y with
  | .list ds, .int k => (match asInts ds with
    | some ns => some (.int (ns.count k : Nat))
    | none => none)
  | _, _ => none
theorem gIndex_some {x y z : PyData} (h : gIndex x y = some z) : ∃ ds j, x = .list ds ∧ shp (.list ds) = true ∧ shp y = true ∧ fIdx y ds 0 = some j ∧ z = .int (j : Nat) := by
  unfold gIndex at h
  split at h
  · split at h
    · rename_i hs
      split at h
      · rename_i j hj
        cases h
        exact ⟨_, j, rfl, hs.1, hs.2, hj, rfl⟩
      · cases h
    · cases h
  · cases h
theorem gCount_some {x y z : PyData} (h : gCount x y = some z) : ∃ ds k ns, x = .list ds ∧ y = .int k ∧ asInts ds = some ns ∧ z = .int (ns.count k : Nat) := by
  unfold gCount at h
  split at h
  · split at h
    · rename_i ns hn
      cases h
      exact ⟨_, _, ns, rfl, rfl, hn, rfl⟩
    · cases h
  · cases h
section
variable {X : Cx} {c : Addr} {cf : CF} {pos apos cpos : Pos} {o e : Expr} {fo fe : SE} {es : List Expr}
theorem tyV_list {K : PySem.W.Frag} {H : Hp} {a : Addr} {xs : List V} (h : H a = some (.lst xs)) : tyV K "list" (.ref a) H := .inl ⟨rfl, xs, .inl (.inl h)⟩
theorem e_index (hu : X.A.units + 66 < cLine) (ho : PE X o (lp X.K c (fo cf))) (he : PE X e (lp X.K c (fe cf)))
    (h1 : starEach [e] X.env = (false, eval e X.env) :: starEach [] X.env) (hbase : attributeBase o "index" X.env (eval o X.env) = eval o X.env)
    (hfew : ((backTo cpos (starEach [e] X.env)).all (fun x => !x.1) && (backToKw cpos (keywordEach [] X.env)).all (fun x => x.1.isSome)
      && decide ([e].length + ([] : List Keyword).length + (if ([] : List Keyword).isEmpty then 0 else 1) < 30)) = true)
    (hline : (apos.endLine == cpos.line) = true) (hplain : (backTo cpos (starEach [] X.env)).any (·.1) = false) :
    PE X (.Call (.Attribute o "index" apos) [e] [] cpos) (le X.K c (mBin gIndex fo fe cf)) :=
  pe_imp (pe_bm PySem.F.plainAttrs_list PySem.F.slot_list_index PySem.F.type_list_index (mt_indexD (by omega)) ho (pa_cons he pa_nil h1) hbase hfew hline h1 hplain) fun σ H Q ⟨Z, env, cs, d, cs', p, e, q⟩ => by
    obtain ⟨x, c1, e1, e⟩ := bnd_some e
    obtain ⟨y, c2, e2, e⟩ := bnd_some e
    obtain ⟨z, ez, e3⟩ := of_some e
    cases e3
    refine ⟨Z, env, cs, x, c1, p, e1, fun v H1 k1 ce1 r1 => ?_⟩
    have p1 := p.step k1 ce1
    obtain ⟨ds, j, rfl, s1, s2, hj, rfl⟩ := gIndex_some ez
    obtain ⟨a, xs, rfl, h3, h4⟩ := r1.list
    refine ⟨tyV_list h3, Z, env, c1, y, _, p1, e2, fun u H2 k2 ce2 r2 => ?_⟩
    obtain ⟨i, z, rfl, g1, g2, g3⟩ := fIdx_some hj
    refine ⟨a, u, y, ds, i, z, rfl, rfl, (p1.dvp k2 r1).dp, r2.dp, s1, s2, g1, g2, g3, ?_⟩
    have q' := q (.int ((0 + i : Nat) : Int)) H2 (k1.trans k2) ce2 (.int _)
    rw [Nat.zero_add] at q'
    exact q'
theorem e_count (ho : PE X o (lp X.K c (fo cf))) (he : PE X e (lp X.K c (fe cf)))
    (h1 : starEach [e] X.env = (false, eval e X.env) :: starEach [] X.env) (hbase : attributeBase o "count" X.env (eval o X.env) = eval o X.env)
    (hfew : ((backTo cpos (starEach [e] X.env)).all (fun x => !x.1) && (backToKw cpos (keywordEach [] X.env)).all (fun x => x.1.isSome)
      && decide ([e].length + ([] : List Keyword).length + (if ([] : List Keyword).isEmpty then 0 else 1) < 30)) = true)
    (hline : (apos.endLine == cpos.line) = true) (hplain : (backTo cpos (starEach [] X.env)).any (·.1) = false) :
    PE X (.Call (.Attribute o "count" apos) [e] [] cpos) (le X.K c (mBin gCount fo fe cf)) :=
  pe_imp (pe_bm PySem.F.plainAttrs_list PySem.F.slot_list_count PySem.F.type_list_count mt_lcount ho (pa_cons he pa_nil h1) hbase hfew hline h1 hplain) fun σ H Q ⟨Z, env, cs, d, cs', p, e, q⟩ => by
    obtain ⟨x, c1, e1, e⟩ := bnd_some e
    obtain ⟨y, c2, e2, e⟩ := bnd_some e
    obtain ⟨z, ez, e3⟩ := of_some e
    cases e3
    refine ⟨Z, env, cs, x, c1, p, e1, fun v H1 k1 ce1 r1 => ?_⟩
    have p1 := p.step k1 ce1
    obtain ⟨ds, k, ns, rfl, rfl, hn, rfl⟩ := gCount_some ez
    obtain ⟨a, xs, rfl, h3, h4⟩ := r1.list
    refine ⟨tyV_list h3, Z, env, c1, _, _, p1, e2, fun u H2 k2 ce2 r2 => ?_⟩
    have eu := r2.int
    subst eu
    obtain ⟨a2, xs2, ea, h5, h6⟩ := (p1.dvp k2 r1).list
    cases ea
    have ex := h6.ints (asInts_eq hn)
    subst ex
    exact ⟨a, ns, k, rfl, rfl, .inl (.inl h5), q _ H2 (k1.trans k2) ce2 (.int _)⟩
/-! ### list(range(..)) -/
def gLRng (ds : List PyData) : Option PyData := match ds with
  | [.int j] => if rngOk j = true ∧ j.toNat ≤ line then some (.list (rngD 0 j.toNat)) else none
  | [.int i, .int j] => if (rngOk i = true ∧ rngOk j = true) ∧ (j - i).toNat ≤ line then some (.list (rngD i (j - i).toNat)) else none
  | _ => none
theorem rgV_dva {K : PySem.W.Frag} {H : Hp} {Z : List Addr} {a b : Int} : DvA K H Z (rgV a b) (rngD a (b - a).toNat) := by
  have e : rngD a (b - a).toNat = ((List.range (b - a).toNat).map fun i => a + ((i : Nat) : Int)).map PyData.int := by
    refine List.ext_getElem? fun i => ?_
    cases h : (rngD a (b - a).toNat)[i]? with
    | none =>
      rw [List.getElem?_eq_none_iff, rngD_len] at h
      rw [List.getElem?_eq_none (by rw [List.length_map, List.length_map, List.length_range]; exact h)]
    | some d =>
      obtain ⟨h1, rfl⟩ := rngD_get h
      rw [List.getElem?_map, List.getElem?_map, List.getElem?_range h1]
      rfl
  rw [e]
  have e2 : rgV a b = ((List.range (b - a).toNat).map fun i => a + ((i : Nat) : Int)).map V.int := by
    unfold rgV
    rw [List.map_map]
    rfl
  rw [e2]
  exact .of_ints _
theorem e_lrng1 {a : Expr} {fa : SE} {p p2 q2 : Pos} (hc : X.calm = true) (hg : Gl X "list") (hm : X.mg "list" = none) (hg2 : Gl X "range") (hm2 : X.mg "range" = none) (ha : PE X a (lp X.K c (fa cf)))
    (na : starEach [a] X.env = (false, eval a X.env) :: starEach [] X.env) (nb : starEach [.Call (.Name "range" p2) [a] [] q2] X.env = (false, eval (.Call (.Name "range" p2) [a] [] q2) X.env) :: starEach [] X.env) :
    PE X (.Call (.Name "list" p) [.Call (.Name "range" p2) [a] [] q2] [] pos) (le X.K c (mBI gLRng (mCons fa mNil) cf)) :=
  pe_imp (pe_listRg hc hg hm (prg_1 hg2 hm2 ha na) nb) fun σ H Q ⟨Z, env, cs, d, cs', pr, e, q⟩ => by
    obtain ⟨ds, c1, e1, e⟩ := bnd_some e
    obtain ⟨z, ez, e2⟩ := of_some e
    cases e2
    obtain ⟨x, c2, e3, e1⟩ := bnd_some e1
    obtain ⟨xs, c3, e4, e1⟩ := bnd_some e1
    cases ret_some e4
    cases ret_some e1
    refine ⟨Z, env, cs, x, _, pr, e3, fun v H1 k1 ce1 r1 => ?_⟩
    have p1 := pr.step k1 ce1
    unfold gLRng at ez
    split at ez
    · rename_i j ej
      cases ej
      split at ez
      · rename_i hj
        cases ez
        have ev := r1.int
        subst ev
        obtain ⟨h1, h2⟩ := rngOk_iff hj.1
        have hl := hj.2
        unfold line at hl
        refine ⟨j, rfl, ⟨by omega, by omega, h1, h2, by omega⟩, fun t ht => ?_⟩
        have kt : Keep c H1 (upd H1 t (.lst (rgV 0 j))) := .upd ht
        have dv := rgV_dva (K := X.K) (H := upd H1 t (.lst (rgV 0 j))) (Z := Z) (a := 0) (b := j)
        rw [Int.sub_zero] at dv
        exact q _ _ (k1.trans kt) ((upd_cell ce1 ht).trans ce1) (.lst upd_same (fresh_z p1.z ht) dv)
      · cases ez
    · rename_i i j ej
      cases ej
    · cases ez
theorem e_lrng2 {a b : Expr} {fa fb : SE} {p p2 q2 : Pos} (hc : X.calm = true) (hg : Gl X "list") (hm : X.mg "list" = none) (hg2 : Gl X "range") (hm2 : X.mg "range" = none) (ha : PE X a (lp X.K c (fa cf))) (hb : PE X b (lp X.K c (fb cf)))
    (na : starEach [a, b] X.env = (false, eval a X.env) :: starEach [b] X.env) (na2 : starEach [b] X.env = (false, eval b X.env) :: starEach [] X.env) (hp : (backTo q2 (starEach [b] X.env)).any (·.1) = false)
    (nb : starEach [.Call (.Name "range" p2) [a, b] [] q2] X.env = (false, eval (.Call (.Name "range" p2) [a, b] [] q2) X.env) :: starEach [] X.env) :
    PE X (.Call (.Name "list" p) [.Call (.Name "range" p2) [a, b] [] q2] [] pos) (le X.K c (mBI gLRng (mCons fa (mCons fb mNil)) cf)) :=
  pe_imp (pe_listRg hc hg hm (prg_2 hg2 hm2 ha hb na na2 hp) nb) fun σ H Q ⟨Z, env, cs, d, cs', pr, e, q⟩ => by
    obtain ⟨ds, c1, e1, e⟩ := bnd_some e
    obtain ⟨z, ez, e2⟩ := of_some e
    cases e2
    obtain ⟨x, c2, e3, e1⟩ := bnd_some e1
    obtain ⟨xs, c3, e4, e1⟩ := bnd_some e1
    obtain ⟨y, c4, e5, e4⟩ := bnd_some e4
    obtain ⟨ys, c5, e6, e4⟩ := bnd_some e4
    cases ret_some e6
    cases ret_some e4
    cases ret_some e1
    refine ⟨Z, env, cs, x, _, pr, e3, fun v H1 k1 ce1 r1 => ?_⟩
    have p1 := pr.step k1 ce1
    refine ⟨Z, env, _, y, _, p1, e5, fun u H2 k2 ce2 r2 => ?_⟩
    have p2 := p1.step k2 ce2
    unfold gLRng at ez
    split at ez
    · rename_i j ej
      cases ej
    · rename_i i j ej
      cases ej
      split at ez
      · rename_i hj
        cases ez
        have ev := r1.int
        have eu := r2.int
        subst ev eu
        obtain ⟨h1, h2⟩ := rngOk_iff hj.1.1
        obtain ⟨h3, h4⟩ := rngOk_iff hj.1.2
        have hl := hj.2
        unfold line at hl
        refine ⟨i, j, rfl, rfl, ⟨h1, h2, h3, h4, by omega⟩, fun t ht => ?_⟩
        have kt : Keep c H2 (upd H2 t (.lst (rgV i j))) := .upd ht
        exact q _ _ ((k1.trans k2).trans kt) ((upd_cell ce2 ht).trans ce2) (.lst upd_same (fresh_z p2.z ht) rgV_dva)
      · cases ez
    · cases ez
/-! ### a def with a star -/
/-- its promise, by its values -/
def spS (K : PySem.W.Frag) (run : List Arg → M PyData) : Sp := fun vs H Q _ => ∃ Z c cs ds d cs', ZOk H Z ∧ c ∈ Z ∧ Cell H c cs ∧ Paired (Dv K H Z) vs ds ∧ vs.length ≤ sizeLine ∧ run [.dat (.tuple ds)] cs = some (d, cs') ∧ ∀ v H', Keep c H H' → Cell H' c cs' → Dv K H' Z v d → Q v H'
def CalS (P : Program) (w : World) (K : PySem.W.Frag) (mg : Str → Option Value) (base : Heap) (m : Nat) (x : Str) (run : List Arg → M PyData) : Prop :=
  ∃ f, FnR P w K mg base CX0 m f (spS K run) ∧ mg x = some (.ref f) ∧ PySem.W.keepIn K (.ref f) = true
theorem cs_ {m j : Nat} {fs : SA PyData} {x : Str} {e : Expr} {es : List Expr} {p : Pos} (C : CalS X.prog X.w X.K X.mg X.base m x (cf j)) (hr : Room m X.A) (ha : PA X (e :: es) (lA (fun H Z => Dv X.K H Z) X.K c (fs cf))) (hsh : Short (fs cf)) (hg : Gl X x) (hdb : (x == ("__debug__" : Str)) = false)
    (he : starEach (e :: es) X.env = (false, eval e X.env) :: starEach es X.env) (hpl : (backTo pos (starEach es X.env)).any (·.1) = false) : PE X (.Call (.Name x p) (e :: es) [] pos) (le X.K c (mCall j (mCons (aDat (mTup fs)) mNil) cf)) := by
  obtain ⟨f, F, hm, hk⟩ := C
  refine ⟨fun pins s σ H Q I h => ?_⟩
  obtain ⟨Z, env, cs, d, cs', pr, e, q⟩ := h
  obtain ⟨as, c1, e1, e⟩ := bnd_some e
  obtain ⟨a1, c2, e2, e1⟩ := bnd_some e1
  obtain ⟨xs, c3, e4, e1⟩ := bnd_some e1
  cases ret_some e4
  cases ret_some e1
  obtain ⟨d2, c4, e5, e2⟩ := bnd_some e2
  cases ret_some e2
  obtain ⟨ds, c5, e6, e5⟩ := bnd_some e5
  cases ret_some e5
  refine wpAny_Call_Name_kw (ld_glob I hg hm ?_ hdb)
  refine PySem.W.callWith_K (h₀ := X.base) I.ok.mod.kin hk (thn (ha.run pos pins s σ H (fun vs H1 => spS X.K (cf j) vs H1 Q E0) I ⟨Z, env, cs, ds, _, pr, e6, fun vs H1 k1 ce1 r1 => ?_⟩) fun us s1 ⟨vs, H1, I1, r, q⟩ => ⟨I1.kIn, ?_⟩) he hpl
  · have p1 := pr.step k1 ce1
    exact ⟨Z, c, _, ds, d, cs', p1.z, p1.cz, ce1, r1, by rw [paired_len r1]; exact hsh _ _ _ _ e6, e, fun v H' k ce r => q v H' (k1.trans k) ce r⟩
  · exact wpAny_call (run_fnR F hr pass0 I1 r q)
end
section
variable {P : Program} {w : World} {K : PySem.W.Frag} {mg : Str → Option Value} {base : Heap}
theorem fn_okS {N : List Str} {pv x qual : Str} {params : Arguments} {body : List Stmt} {scope : Scope} {f : Addr} {fd : FuncData} {m : Nat} {Fi : SS} {cf : CF} (F : FunD K x qual params body scope [] [] f fd) (S : FnScope N [pv] scope)
    (hb : ∀ (dV kV doc pm : Value) (an : Option Addr) (cdv ct : Value) (rest : List Value), bindArgs (PySem.W.fnOf x qual params body scope dV kV doc pm an cdv ct) ⟨rest, []⟩ = (newTuple rest >>= fun t => pure [(pv, t)]))
    (hP : ∀ (cdv : Value) (A : Around) (outer : List Env) (s : Shared) (H : Hp) (E : XK) (c : Addr) (H0 : Hp) (Z0 : List Addr), Room m (A.deeper (envOfC qual scope s.heap.objs.size f cdv)) → ZOk H0 Z0 → PSs (cxOf CX0 P w K mg base N qual scope f cdv A outer s H E).nox body (lS K c H0 Z0 (Fi cf))) :
    FnR P w K mg base CX0 (m + 1) f (spS K (runB Fi N.length 1 cf)) := by
  obtain ⟨oc, od, dV, kV, doc, pm, an, cdv, ct, osl, rfl, lk, hcd, _, _⟩ := F.ex
  refine FnR.imp (StX.fn_star (ps := []) (pv := pv) (sp := spD K (runB Fi N.length 1 cf)) lk hcd S StX.cxUp_none (fun us rest hl => ?_) fun A outer s H vs Q E hr h => ?_) fun vs H Q E h => ?_
  · obtain rfl : us = [] := List.length_eq_zero_iff.mp hl
    exact hb dV kV doc pm an cdv ct rest
  · obtain ⟨Z, c, cs, args, d, cs', z, cz, ce, r, e, q⟩ := h
    refine ⟨lS K c H Z (Fi cf), PSs.nox (hP cdv A outer s H E c H Z hr z), ?_⟩
    unfold runB at e
    split at e
    · unfold endOf at e
      have st : Sta K c H Z H Z (L2.start N vs) (envOf N.length args) cs := ⟨⟨z, cz, ce, env_start r⟩, .refl, fun _ h => h, own_start⟩
      split at e
      · rename_i e2 c2 hf
        cases e
        exact ⟨Z, _, cs, _, _, st, hf, fun e3 _ σ' H' Z' s' _ => q _ H' s'.keep s'.pre.cell .non, fun d hd => by cases hd⟩
      · rename_i d2 c2 hf
        cases e
        refine ⟨Z, _, cs, _, _, st, hf, (fun e3 he => by cases he), fun d hd v H' k ce' rv => ?_⟩
        cases hd
        exact q v H' k ce' rv
      · cases e
    · cases e
  · obtain ⟨Z, c, cs, ds, d, cs', z, cz, ce, r, hl, e, q⟩ := h
    refine ⟨[], vs, rfl, rfl, hl, fun p hp => ⟨Z, c, cs, [.dat (.tuple ds)], d, cs', ?_, cz, ?_, .cons ?_ .nil, e, fun v H' k ce' rv => ?_⟩⟩
    · have kp : Keep c H (upd H p (.tup vs)) := .upd hp
      exact z.keep kp ((upd_cell ce hp).trans ce)
    · exact (upd_cell ce hp).trans ce
    · have kp : Keep c H (upd H p (.tup vs)) := .upd hp
      exact .tup (SqT.of upd_same) (DvA.later z (kp.later cz) _ _ (paired_dva r))
    · have kp : Keep c H (upd H p (.tup vs)) := .upd hp
      exact q v H' (kp.trans k) ce' rv
end
end Se
end
section
set_option Elab.async false
set_option linter.all false
set_option maxRecDepth 100000
set_option maxHeartbeats 4000000
namespace Se
open PySem PySem.Spec PyProof.Rows L2 HT
/-! ### x[::-1] of a list or a tuple -/
section
variable {prog : Program} {w : World} {A : Around} {E : Value → Shared → Prop} {s : Shared}
theorem places_rev (n : Nat) : Builtin.Slice.slicePlaces ((n : Int) - 1) (-1) (-1) = n := by
  unfold Builtin.Slice.slicePlaces
  have h1 : ¬ ((-1 : Int) > 0) := by omega
  simp only [h1, if_false]
  rw [show (- -1 : Int) = 1 by decide, Int.ediv_one]
  split <;> omega
theorem sliceApplied_rev {sl : Addr} {vl vu vs : Value} {n : Nat} {Q : Int × Int × Nat → Shared → Prop} (hs : s.heap.IsSliceOf sl vl vu vs) (pl : IsPart vl none) (pu : IsPart vu none) (ps : IsPart vs (some (-1)))
    (h : Q ((n : Int) - 1, -1, n) s) : wpAny (model prog w) A (Builtin.Slice.sliceApplied (.ref sl) (pure (n : Int))) Q E s := by
  obtain ⟨os, hos, hcs, hds⟩ := id hs
  unfold Builtin.Slice.sliceApplied Builtin.Slice.sliceFields
  refine wpAny_bind (wpAny_bind (wpAny_field hos hds (x := vl) rfl (wpAny_bind (wpAny_field hos hds (x := vu) rfl (wpAny_bind (wpAny_field hos hds (x := vs) rfl (wpAny_pure ?_)))))))
  refine wpAny_bind (slicePart_ ps ?_)
  show wpAny _ _ (if ((-1 : Int) == 0) = true then _ else _) _ _ s
  rw [if_neg (by decide)]
  refine wpAny_bind (slicePart_ pl (wpAny_bind (slicePart_ pu (wpAny_bind (wpAny_pure ?_)))))
  show wpAny _ _ (match Builtin.Slice.sliceAdjust none none (-1) (n : Int) with | (lo, hi) => pure (lo, (-1 : Int), Builtin.Slice.slicePlaces lo hi (-1))) _ _ s
  rw [show Builtin.Slice.sliceAdjust none none (-1) (n : Int) = ((n : Int) - 1, -1) from rfl]
  show wpAny _ _ (pure ((n : Int) - 1, (-1 : Int), Builtin.Slice.slicePlaces ((n : Int) - 1) (-1) (-1))) _ _ s
  rw [places_rev]
  exact wpAny_pure h
theorem pick_rev (xs : Array Value) : ((List.range xs.size).filterMap fun (m : Nat) => xs[(((xs.size : Int) - 1) + (m : Int) * (-1)).toNat]?) = xs.toList.reverse := by
  have e : (fun (m : Nat) => xs[(((xs.size : Int) - 1) + (m : Int) * (-1)).toNat]?) = ((fun x => xs[x]?) ∘ fun m => xs.size - 1 - m) := by
    funext m
    show xs[(((xs.size : Int) - 1) + (m : Int) * (-1)).toNat]? = xs[xs.size - 1 - m]?
    rw [show (((xs.size : Int) - 1) + (m : Int) * (-1)).toNat = xs.size - 1 - m by omega]
  rw [e, ← List.filterMap_map, PySem.W.krv_range, List.filterMap_reverse, PySem.W.krv_all]
theorem getItem_tuple_rev {t sl : Addr} {items : Array Value} {vl vu vs : Value} {Q : Value → Shared → Prop} (ht : IsTup s.heap t items) (hs : s.heap.IsSliceOf sl vl vu vs) (pl : IsPart vl none) (pu : IsPart vu none) (ps : IsPart vs (some (-1)))
    (h : Q (.ref s.heap.objs.size) { s with heap := s.heap.push { cls := .type "tuple", data := .seq items.toList.reverse.toArray } })
    (hsz : items.size ≤ sizeLine) : wpAny (model prog w) A (getItem (.ref t) (.ref sl)) Q E s := by
  have htake : sizeOk (.seq items.toList.reverse.toArray) := by
    show items.toList.reverse.toArray.size ≤ sizeLine
    rw [List.size_toArray, List.length_reverse, Array.length_toList]
    exact hsz
  obtain ⟨os, hos, hcs, hds⟩ := id hs
  have hTs : s.TypeIs (.ref sl) "slice" := ⟨os, hos, hcs⟩
  unfold getItem
  try with_reducible refine wpAny_holding ?_
  first | refine wpAny_bind (wpAny_pure ?_) | skip
  refine wpAny_bind (wpAny_sequenceKey ht.typeIs (by decide) ?_)
  refine wpAny_bind (wpAny_callSpecial?_slot (name := Str.ofString "__getitem__") ht.typeIs PyProof.Rows.slot_tuple_getitem
    (wpAny_call_entry PyProof.Rows.slot_tuple_getitem ht.typeIs entry_tuple_getitem ?_ (args_tuple_getitem _ _)))
  show wpAny _ _ (Builtin.Tuple.tupleItemsOf (.ref t) >>= _) _ _ s
  refine wpAny_bind (tupleItemsOf_ ht ?_)
  refine wpAny_bind (wpAny_typeOf hTs ?_)
  rw [if_pos (by decide)]
  refine wpAny_bind (sliceApplied_rev hs pl pu ps ?_)
  have hno : ¬ (((((items.size : Nat) : Int) - 1) == 0 && (-1 : Int) == 1 && items.size == items.size) = true) := by
    intro q
    rw [Bool.and_eq_true, Bool.and_eq_true] at q
    exact absurd (eq_of_beq q.1.2) (by decide)
  show wpAny _ _ (if ((((items.size : Nat) : Int) - 1) == 0 && (-1 : Int) == 1 && items.size == items.size) = true then _ else _) _ _ s
  rw [if_neg hno, pick_rev]
  first
    | exact wpAny_bind (m := Builtin.Tuple.tupleExact _) (wpAny_newObj_type (wpAny_pure ⟨_, rfl, wpAny_pure h⟩) htake)
    | exact wpAny_bind (m := Builtin.Tuple.tupleExact _) (wpAny_newObj_type (wpAny_bind (wpAny_pure (wpAny_pure ⟨_, rfl, wpAny_pure h⟩))) htake)
    | exact wpAny_bind (wpAny_bind (m := Builtin.Tuple.tupleExact _) (wpAny_newObj_type (wpAny_pure (wpAny_pure ⟨_, rfl, wpAny_pure h⟩)) htake))
    | exact wpAny_bind (wpAny_bind (m := Builtin.Tuple.tupleExact _) (wpAny_newObj_type (wpAny_pure ⟨_, rfl, wpAny_pure h⟩) htake))
end
section
variable {X : Cx} {c : Addr} {cf : CF}
def tRevA (K : PySem.W.Frag) (te : TE) : TE := fun σ H Q => te σ H fun x H1 => (∃ a xs, x = .ref a ∧ SqL K H1 a xs ∧ ∀ p, H1 p = none → Q (.ref p) (upd H1 p (.lst xs.reverse))) ∨ (∃ a xs, x = .ref a ∧ SqT K H1 a xs ∧ ∀ p, H1 p = none → Q (.ref p) (upd H1 p (.tup xs.reverse)))
theorem pe_revA {e : Expr} {te : TE} {k : Nat} {p1 p2 p3 pos : Pos} (he : PE X e te) : PE X (.Subscript e (.Slice none none (some (.UnaryOp .USub (.Constant (.int 1) k p1) p2)) p3) pos) (tRevA X.K te) := by
  refine ⟨fun pins s σ H Q I h => ?_⟩
  refine Subscript_ (thn (he.run pins s σ H _ I h) fun v s1 ⟨x, H1, I1, r1, q1⟩ => ?_)
  have hst : PO X (some (.UnaryOp .USub (.Constant (.int 1) k p1) p2)) (tPart (tUn (rU fun i => .int (-i)) (tC (.int 1)))) := po_some (pe_un un_neg pe_int)
  refine wpAny_Slice (thn (po_none.run pins s1 σ H1 (fun o H2 => o = none ∧ H2 = H1) I1 ⟨rfl, rfl⟩) fun vl s2 ⟨l, H2, I2, pl, el, e2⟩ => ?_)
  subst el e2
  refine thn (po_none.run pins s2 σ H2 (fun o H3 => o = none ∧ H3 = H2) I2 ⟨rfl, rfl⟩) fun vu s3 ⟨u, H3, I3, pu, eu, e3⟩ => ?_
  subst eu e3
  refine thn (hst.run pins s3 σ H3 (fun o H4 => o = some (-1) ∧ H4 = H3) I3 ⟨1, rfl, -1, rfl, rfl, rfl⟩) fun vs s4 ⟨o, H4, I4, ps, eo, e4⟩ => ?_
  subst eo e4
  have I5 : Inv X pins σ H4 { s4 with heap := s4.heap.push { cls := .type "slice", data := .fields #[vl, vu, vs] } } := I4.kept (t' := s4.toks) fun b ob q => Heap.get?_push_of_some _ q
  rcases q1 with q1 | q1
  · obtain ⟨a, xs, ex, hx, q⟩ := q1
    subst ex
    cases r1
    obtain ⟨its, r, ht, hz⟩ := I5.list hx
    have hlen := r.length
    show wpAny (model X.prog X.w) X.A (subscriptTail e (.Slice none none (some (.UnaryOp .USub (.Constant (.int 1) k p1) p2)) p3) (.ref a) (.ref s4.heap.objs.size)) (EP X pins σ Q) X.xe { s4 with heap := s4.heap.push { cls := .type "slice", data := .fields #[vl, vu, vs] } }
    refine tail_any (ops := [.ref a, .ref s4.heap.objs.size]) ht.isList.typeIs (PySem.slot_list_getitem.lookup) ?_ (by with_unfolding_all rfl)
    refine wpAny_getItem_list_slice ht.isList (Heap.IsSliceOf.new _ vl vu vs) pl pu ps (by decide) ?_ (by rw [List.size_toArray]; omega)
    rw [PySem.W.krv_pick]
    refine ⟨.ref _, _, I5.laid (t' := s4.toks) (o := .lst xs.reverse) (fun b ob q => Heap.get?_push_of_some _ q) (Nat.le_refl _) ?_, rfl, q _ (I5.hok.fresh (Nat.le_refl _))⟩
    exact ⟨by rw [List.length_reverse]; exact hz, _, 0, r.reverse, Heap.get?_push_size _ rfl⟩
  · obtain ⟨a, xs, ex, hx, q⟩ := q1
    subst ex
    cases r1
    obtain ⟨its, r, ht, hz⟩ := I5.tuple hx
    have hlen := r.length
    show wpAny (model X.prog X.w) X.A (subscriptTail e (.Slice none none (some (.UnaryOp .USub (.Constant (.int 1) k p1) p2)) p3) (.ref a) (.ref s4.heap.objs.size)) (EP X pins σ Q) X.xe { s4 with heap := s4.heap.push { cls := .type "slice", data := .fields #[vl, vu, vs] } }
    refine tail_any (ops := [.ref a, .ref s4.heap.objs.size]) ht.typeIs (PyProof.Rows.slot_tuple_getitem.lookup) ?_ (by with_unfolding_all rfl)
    refine getItem_tuple_rev ht (Heap.IsSliceOf.new _ vl vu vs) pl pu ps ?_ (by rw [List.size_toArray]; omega)
    refine ⟨.ref _, _, I5.laid (t' := s4.toks) (o := .tup xs.reverse) (fun b ob q => Heap.get?_push_of_some _ q) (Nat.le_refl _) ?_, rfl, q _ (I5.hok.fresh (Nat.le_refl _))⟩
    exact ⟨by rw [List.length_reverse]; exact hz, _, by simpa using r.reverse, IsTup.new _ _⟩
def gRev (d : D) : Option D := match d with
  | .list xs => some (.list xs.reverse)
  | .tuple xs => some (.tuple xs.reverse)
  | _ => none
def mRev (f : SE) : SE := fun cf env => M.bnd (f cf env) fun d => M.of (gRev d)
theorem e_rev {e : Expr} {f : SE} {k : Nat} {p1 p2 p3 pos : Pos} (he : PE X e (lp X.K c (f cf))) : PE X (.Subscript e (.Slice none none (some (.UnaryOp .USub (.Constant (.int 1) k p1) p2)) p3) pos) (le X.K c (mRev f cf)) :=
  pe_imp (pe_revA he) fun σ H Q ⟨Z, env, cs, z, cs', p, e, q⟩ => by
    obtain ⟨d, c1, e1, e⟩ := bnd_some e
    obtain ⟨z', e4, e5⟩ := of_some e
    cases e5
    refine ⟨Z, env, cs, d, _, p, e1, fun v H1 k1 ce1 r1 => ?_⟩
    have p1 := p.step k1 ce1
    have q' : ∀ v H', Keep c H1 H' → H' c = H1 c → Dv X.K H' Z v z → Q v H' := fun v H' k ec r => q v H' (k1.trans k) (ec.trans ce1) r
    unfold gRev at e4
    split at e4
    · rename_i xs
      cases e4
      obtain ⟨a, ys, rfl, g1, g2⟩ := r1.list
      exact .inl ⟨a, ys, rfl, .inl (.inl g1), fresh_lst p1.z p1.cz g2.reverse q'⟩
    · rename_i xs
      cases e4
      obtain ⟨a, ys, rfl, g1, g2⟩ := r1.tuple
      exact .inr ⟨a, ys, rfl, g1, fresh_tup p1.z p1.cz g2.reverse q'⟩
    · cases e4
end
end Se
end
section
set_option Elab.async false
set_option linter.all false
set_option maxRecDepth 100000
set_option maxHeartbeats 4000000
namespace Se
open PySem PySem.Spec PyProof.Rows L2
/-! ### a module's dict whose keys are rows of integers and whose values are integers: NAME.get(key) -/
abbrev Tbl := List (List Int × Int)
def rowI (d : PyData) : Option (List Int) := match d with
  | .tuple ds => asInts ds
  | _ => none
def dlk : Tbl → List Int → Option Int
  | [], _ => none
  | p :: t, k => if p.1 = k then some p.2 else dlk t k
def dgV (o : Option Int) : PyData := match o with
  | some v => .int v
  | none => .none
def gDget (tbl : Tbl) (d : PyData) : Option PyData := match rowI d with
  | some k => some (dgV (dlk tbl k))
  | none => none
def mDget (tbl : Tbl) (fe : SE) : SE := fun cf env => M.bnd (fe cf env) fun d => M.of (gDget tbl d)
def keyH (k : List Int) : Int := reduceHash (Builtin.Tuple.tupleHashOf (k.map hashInt))
def intsB : List Value → List Int → Bool
  | [], [] => true
  | .int i _ :: vs, k :: ks => decide (i = k) && intsB vs ks
  | _, _ => false
def rowB (K : PySem.W.Frag) (a : Addr) (k : List Int) : Bool := match K.lookup a with
  | some ⟨.type t, _, .seq its _, _⟩ => decide (t = "tuple") && intsB its.toList k
  | _ => false
def dcE (K : PySem.W.Frag) : List DictEntry → Tbl → Bool
  | [], [] => true
  | ⟨h, .ref a, .int v _⟩ :: es, (k, x) :: t => (decide (h = keyH k) && rowB K a k) && (decide (v = x) && dcE K es t)
  | _, _ => false
def dcB (K : PySem.W.Frag) (a : Addr) (tbl : Tbl) : Bool := match K.lookup a with
  | some ⟨.type t, none, .dict es _, sl⟩ => (decide (t = "dict") && sl.isEmpty) && ((!(a == sysModules)) && (decide ((tbl.map (·.1)).Nodup) && dcE K es.toList tbl))
  | _ => false
structure RowAt (K : PySem.W.Frag) (a : Addr) (k : List Int) : Prop where
  ex : ∃ o its n, K.lookup a = some o ∧ o.cls = .type "tuple" ∧ o.data = .seq its n ∧ IntsAre its.toList k
structure DcAt (K : PySem.W.Frag) (d : Addr) (tbl : Tbl) : Prop where
  ex : ∃ (o : Obj) (es : Array DictEntry) (n : Nat) (xs : List (List Int × Addr × Value)), K.lookup d = some o ∧ o.ExactDict ∧ o.data = .dict es n ∧ es.toList = xs.map (fun x => ⟨keyH x.1, .ref x.2.1, x.2.2⟩) ∧
    (∀ x ∈ xs, RowAt K x.2.1 x.1) ∧ (xs.map (·.1)).Nodup ∧ ∀ k, match dlk tbl k with
      | some v => ∃ a t, atKey xs k = some (a, .int v t)
      | none => atKey xs k = none
  low : (d == sysModules) = false
theorem intsB_ok : ∀ {vs : List Value} {ks : List Int}, intsB vs ks = true → IntsAre vs ks
  | vs, ks, h => by
    unfold intsB at h
    split at h
    · exact .nil
    · rename_i i t vs k ks
      rw [Bool.and_eq_true, decide_eq_true_iff] at h
      obtain ⟨rfl, h⟩ := h
      exact .cons _ t (intsB_ok h)
    · cases h
theorem rowB_ok {K : PySem.W.Frag} {a : Addr} {k : List Int} (h : rowB K a k = true) : RowAt K a k := by
  unfold rowB at h
  split at h
  · rename_i t d its n sl e
    rw [Bool.and_eq_true, decide_eq_true_iff] at h
    obtain ⟨rfl, h⟩ := h
    exact ⟨_, its, n, e, rfl, rfl, intsB_ok h⟩
  · cases h
theorem dcE_ok {K : PySem.W.Frag} : ∀ {es : List DictEntry} {tbl : Tbl}, dcE K es tbl = true → ∃ xs : List (List Int × Addr × Value), es = xs.map (fun x => ⟨keyH x.1, .ref x.2.1, x.2.2⟩) ∧ (∀ x ∈ xs, RowAt K x.2.1 x.1) ∧ xs.map (·.1) = tbl.map (·.1) ∧ ∀ k, match dlk tbl k with
      | some v => ∃ a t, atKey xs k = some (a, .int v t)
      | none => atKey xs k = none
  | es, tbl, h => by
    unfold dcE at h
    split at h
    · exact ⟨[], rfl, (fun _ h => by cases h), rfl, fun k => rfl⟩
    · rename_i hh a v tk es k x t
      rw [Bool.and_eq_true, Bool.and_eq_true, Bool.and_eq_true, decide_eq_true_iff, decide_eq_true_iff] at h
      obtain ⟨⟨rfl, h1⟩, rfl, h2⟩ := h
      obtain ⟨xs, rfl, g1, g2, g3⟩ := dcE_ok h2
      refine ⟨(k, a, .int v tk) :: xs, rfl, fun y hy => ?_, by rw [List.map_cons, List.map_cons, g2], fun q => ?_⟩
      · rcases List.mem_cons.mp hy with rfl | hy
        · exact rowB_ok h1
        · exact g1 y hy
      · unfold dlk atKey
        by_cases e : k = q
        · rw [if_pos e]
          exact ⟨a, tk, by rw [List.find?_cons_of_pos (by simpa using e)]; rfl⟩
        · rw [if_neg e, List.find?_cons_of_neg (by simpa using e)]
          exact g3 q
    · cases h
theorem dcB_ok {K : PySem.W.Frag} {a : Addr} {tbl : Tbl} (h : dcB K a tbl = true) : DcAt K a tbl := by
  unfold dcB at h
  split at h
  · rename_i t es n sl e
    rw [Bool.and_eq_true, Bool.and_eq_true, Bool.and_eq_true, Bool.and_eq_true, decide_eq_true_iff, decide_eq_true_iff, Bool.not_eq_true'] at h
    obtain ⟨⟨rfl, h1⟩, h2, h3, h4⟩ := h
    obtain ⟨xs, g1, g2, g3, g4⟩ := dcE_ok h4
    exact ⟨⟨_, es, n, xs, e, ⟨rfl, rfl, Array.isEmpty_iff.mp h1⟩, rfl, g1, g2, by rw [g3]; exact h3, g4⟩, h2⟩
  · cases h
def dcG (K : PySem.W.Frag) (x : Str) (tbl : Tbl) : Bool := match PySem.W.nsIn K mainGlobals x with
  | some (some (.ref a)) => dcB K a tbl
  | _ => false
theorem dcG_ok {K : PySem.W.Frag} {h : Heap} {mg : Str → Option Value} (X : K.In h) (G : h.Ns mainGlobals mg) {x : Str} {tbl : Tbl} (c : dcG K x tbl = true) : ∃ a, mg x = some (.ref a) ∧ DcAt K a tbl := by
  unfold dcG at c
  split at c
  · rename_i a e
    exact ⟨a, PySem.W.mg_of X G e, dcB_ok c⟩
  · cases c
theorem ints_items {P : Program} {w : World} : ∀ {vs : List Value} {ks : List Int}, IntsAre vs ks → ItemsAre (PySem.intKind P w) ks vs
  | _, _, .nil => .nil
  | _, _, .cons n t h => .cons (by simp [PySem.intKind, Value.isInt]) (ints_items h)
section
variable {X : Cx} {c : Addr} {cf : CF} {pos apos cpos : Pos} {o e : Expr} {fo fe : SE} {es : List Expr}
def rDget (K : PySem.W.Frag) (tbl : Tbl) : V → List V → Hp → VK → Prop := fun x xs H Q => ∃ (d : Addr) (y : Addr) (ns : List Int), x = V.ref d ∧ xs = [V.ref y] ∧ DcAt K d tbl ∧ SqT K H y (ns.map V.int) ∧ Q (match dlk tbl ns with
  | some v => .int v
  | none => .non) H
theorem mt_dget {tbl : Tbl} (hu : X.A.units + 1 < cLine) : MtR X "dict.get" (rDget X.K tbl) := by
  intro pins s σ H x xs v us Q I rx rxs h
  obtain ⟨d, y, ns, rfl, rfl, D, hs, q⟩ := h
  cases rx
  cases rxs with
  | cons ry rt =>
    rename_i uy ut
    cases rt
    cases ry
    obtain ⟨its, rv, it, _⟩ := I.tuple hs
    obtain ⟨⟨ob, en, n, xs, hk, hx, hd, he, hr, hn, hl⟩, low⟩ := D
    obtain ⟨ot, ht, hc, m, hdt⟩ := it
    have hkey : (tupleKind (PySem.intKind X.prog X.w)).is s.heap ns y := ⟨ot, its.toArray, m, ht, hc, hdt, ints_items (by simpa using rv.ints)⟩
    have hm : s.heap.DictOfH (tupleKind (PySem.intKind X.prog X.w)) d xs := by
      refine ⟨ob, en, n, I.kIn d ob hk, hx, hd, he, fun x hx => ?_, hn⟩
      obtain ⟨o1, i1, n1, z1, z2, z3, z4⟩ := hr x hx
      exact ⟨o1, i1, n1, I.kIn _ _ z1, z2, z3, ints_items z4⟩
    refine call_meetsIn PySem.F.slot_dict_get hm.typeIs PySem.F.entry_dict_get (PySem.F.args_dict_get_2 _ _) (meetsH_dict_get (tupleKind (PySem.intKind X.prog X.w)) d y low) ⟨tupleKind_room_in1 hu, ns, xs, hkey, hm, ?_⟩
    have h2 := hl ns
    cases e : dlk tbl ns with
    | some v =>
      rw [e] at h2 q
      obtain ⟨a, t, h2⟩ := h2
      rw [h2]
      exact ⟨.int v, H, I.tok _, ⟨t, rfl⟩, q⟩
    | none =>
      rw [e] at h2 q
      rw [h2]
      exact ⟨.non, H, I.tok _, rfl, q⟩
theorem pe_bmK {t : TA} {name : Str} {T id : String} {r : V → List V → Hp → VK → Prop} {a : Addr} {ob : Obj} (pa : PlainAttrs T) (slot : PySem.Slot T name id) (hty : typeOf (.builtin id) = pure (.type "method_descriptor")) (hm : MtR X id r) (ho : PE X o (tC (.ref a))) (hk : X.K.lookup a = some ob) (hc : ob.cls = .type T) (hd : ob.dict = none) (ha : PA X (e :: es) t)
    (hbase : attributeBase o name X.env (eval o X.env) = eval o X.env)
    (hfew : ((backTo cpos (starEach (e :: es) X.env)).all (fun x => !x.1) && (backToKw cpos (keywordEach [] X.env)).all (fun x => x.1.isSome)
      && decide ((e :: es).length + ([] : List Keyword).length + (if ([] : List Keyword).isEmpty then 0 else 1) < 30)) = true)
    (hline : (apos.endLine == cpos.line) = true) (hs : starEach (e :: es) X.env = (false, eval e X.env) :: starEach es X.env) (hplain : (backTo cpos (starEach es X.env)).any (·.1) = false) :
    PE X (.Call (.Attribute o name apos) (e :: es) [] cpos) (fun σ H Q => t σ H fun xs H2 => r (.ref a) xs H2 Q) := by
  refine ⟨fun pins s σ H Q I h => ?_⟩
  refine wpAny_Call_method_late hbase hfew hline rfl (thn (ho.run pins s σ H (fun x H1 => x = .ref a ∧ t σ H1 fun xs H2 => r (.ref a) xs H2 Q) I ⟨rfl, h⟩) fun v s1 ⟨x, H1, I1, r1, ex, q1⟩ => ?_)
  subst ex
  cases r1
  refine ⟨T, id, pa, slot, hty, ⟨ob, I1.kIn a ob hk, hc⟩, fun b eb => ?_, ?_⟩
  · cases eb
    exact ⟨ob, I1.kIn a ob hk, hd⟩
  have hA := ha.run cpos pins s1 σ H1 _ I1 q1
  rw [hs] at hA ⊢
  refine Calls.callWith_builtin (by show (false || (backTo cpos (starEach es X.env)).any (·.1)) = false; rw [hplain] <;> rfl) (Calls.evalArgs_plain ?_)
  exact thn hA fun us s2 ⟨vs, H2, I2, r2, q2⟩ => hm pins s2 σ H2 (.ref a) vs (.ref a) us Q I2 rfl r2 q2
theorem e_dget {x : Str} {npos : Pos} {tbl : Tbl} (hu : X.A.units + 66 < cLine) (hm : ∃ a, X.mg x = some (.ref a) ∧ DcAt X.K a tbl) (hg : Gl X x) (hdb : (x == ("__debug__" : Str)) = false) (he : PE X e (lp X.K c (fe cf)))
    (h1 : starEach [e] X.env = (false, eval e X.env) :: starEach [] X.env) (hbase : attributeBase (.Name x npos) "get" X.env (eval (.Name x npos) X.env) = eval (.Name x npos) X.env)
    (hfew : ((backTo cpos (starEach [e] X.env)).all (fun x => !x.1) && (backToKw cpos (keywordEach [] X.env)).all (fun x => x.1.isSome)
      && decide ([e].length + ([] : List Keyword).length + (if ([] : List Keyword).isEmpty then 0 else 1) < 30)) = true)
    (hline : (apos.endLine == cpos.line) = true) (hplain : (backTo cpos (starEach [] X.env)).any (·.1) = false) :
    PE X (.Call (.Attribute (.Name x npos) "get" apos) [e] [] cpos) (le X.K c (mDget tbl fe cf)) := by
  obtain ⟨a, ha, D⟩ := hm
  obtain ⟨ob, en, n, xs, hk, hx, _⟩ := D.ex
  refine pe_imp (pe_bmK PySem.F.plainAttrs_dict PySem.F.slot_dict_get PySem.F.type_dict_get (mt_dget (tbl := tbl) (by omega)) (pe_glob hg ha rfl hdb) hk hx.1 hx.2.1 (pa_cons he pa_nil h1) hbase hfew hline h1 hplain) fun σ H Q ⟨Z, env, cs, d, cs', p, e, q⟩ => ?_
  obtain ⟨x, c1, e1, e⟩ := bnd_some e
  obtain ⟨z, ez, e2⟩ := of_some e
  cases e2
  refine ⟨Z, env, cs, x, _, p, e1, fun v H1 k1 ce1 r1 => ?_⟩
  unfold gDget at ez
  split at ez
  · rename_i ns hns
    cases ez
    unfold rowI at hns
    split at hns
    · rename_i ds
      obtain ⟨y, ys, rfl, s1, s2⟩ := r1.tuple
      have e3 := s2.ints (asInts_eq hns)
      subst e3
      refine ⟨a, y, ns, rfl, rfl, D, s1, ?_⟩
      cases hl : dlk tbl ns with
      | some v => exact q _ H1 k1 ce1 (by rw [hl]; exact .int v)
      | none => exact q _ H1 k1 ce1 (by rw [hl]; exact .non)
    · cases hns
  · cases ez
end
/-! ### the hook, with the keys of dicts -/
def asK (g : Addr → Option Obj) (as : List Addr) : List Addr := as ++ as.flatMap fun a => match g a with
  | some o => (match o.data with
    | .dict es _ => es.toList.flatMap fun e => He.refV e.key
    | _ => [])
  | none => []
def obsY (n : Nat) (fa : List He.Fa) (fn : List He.DefD) (ex : PySem.W.Frag → Bool) (g : Addr → Option Obj) : AlX := (He.obsD fa fn (He.frG g (asK g (He.asD g n))), ex (He.frG g (asK g (He.asD g n))))
def hookY (n : Nat) (fa : List He.Fa) (fn : List He.DefD) (ex : PySem.W.Frag → Bool) : PySem.W.Hook where
  α := AlX
  obs := fun s => obsY n fa fn ex s.heap.get?
  val := fun _ => (He.valD fn, true)
  says := fun _ h => ∃ K : PySem.W.Frag, K.In h ∧ He.SaysD fa fn K ∧ ex K = true
  of := fun _ _ e => ⟨_, He.frG_in, congrArg (fun z : AlX => z.1) e, congrArg (fun z : AlX => z.2) e⟩
  keeps := fun _ _ _ ⟨K, hK, c⟩ k => ⟨K, PySem.W.Frag.In.keeps hK k, c⟩
theorem obsY_eq {n : Nat} {fa : List He.Fa} {fn : List He.DefD} {ex : PySem.W.Frag → Bool} {g : Addr → Option Obj} {s : Shared} (h : ∀ a, g a = s.heap.get? a) : obsY n fa fn ex g = (hookY n fa fn ex).obs s := by
  have e : g = s.heap.get? := funext h
  rw [e] <;> rfl
/-! ### the world, told by what it answers to one question (the hash of a tuple asks it) -/
def pB (p : PySem.Params) (b : Bool) : PySem.Params := { p with followText := fun x => if x = "special-get-raises" then b else p.followText x }
def wB (w : World) (b : Bool) : World := ⟨w.draws, pB w.params b⟩
theorem pB_eq (p : PySem.Params) : pB p (p.followText "special-get-raises") = p := by
  have e : (fun x => if x = "special-get-raises" then p.followText "special-get-raises" else p.followText x) = p.followText := by
    funext x
    split
    · rename_i e; rw [e]
    · rfl
  unfold pB
  rw [e]
theorem wB_eq (w : World) : wB w (w.params.followText "special-get-raises") = w := by
  unfold wB
  rw [pB_eq]
theorem all_wB {P : World → Prop} (h : ∀ w, P (wB w true)) (g : ∀ w, P (wB w false)) (w : World) : P w := by
  rw [← wB_eq w]
  cases w.params.followText "special-get-raises" with
  | true => exact h w
  | false => exact g w
end Se
end
section
set_option Elab.async false
set_option linter.all false
set_option maxRecDepth 100000
set_option maxHeartbeats 4000000
namespace Wk
open PySem PySem.Spec PyProof.Rows L2 Se
def top (i : Nat) : Stmt := PySem.Challenge.pw_linesruled_k84_whole_leads_as_swings.main.body.getD i (.Pass ⟨0, 0, 0, 0⟩)
/-! ### the head -/
def dd0 : He.DefD := ⟨("is_whole", none), "is_whole", "is_whole", defArgs (top 11), defBody (top 11), defScope (top 11), [], []⟩
def dd1 : He.DefD := ⟨("need_whole", none), "need_whole", "need_whole", defArgs (top 12), defBody (top 12), defScope (top 12), [], []⟩
def dd2 : He.DefD := ⟨("is_tuple_of", none), "is_tuple_of", "is_tuple_of", defArgs (top 13), defBody (top 13), defScope (top 13), [], []⟩
def dd3 : He.DefD := ⟨("lowest", none), "lowest", "lowest", defArgs (top 15), defBody (top 15), defScope (top 15), [], []⟩
def dd4 : He.DefD := ⟨("fits_place", none), "fits_place", "fits_place", defArgs (top 22), defBody (top 22), defScope (top 22), [], []⟩
def dd5 : He.DefD := ⟨("need_place", none), "need_place", "need_place", defArgs (top 23), defBody (top 23), defScope (top 23), [], []⟩
def dd6 : He.DefD := ⟨("measure", none), "measure", "measure", defArgs (top 24), defBody (top 24), defScope (top 24), [], []⟩
def dd7 : He.DefD := ⟨("trace", none), "trace", "trace", defArgs (top 25), defBody (top 25), defScope (top 25), [], []⟩
def dd8 : He.DefD := ⟨("shortened", none), "shortened", "shortened", defArgs (top 26), defBody (top 26), defScope (top 26), [], []⟩
def dd9 : He.DefD := ⟨("fits_swing", none), "fits_swing", "fits_swing", defArgs (top 27), defBody (top 27), defScope (top 27), [], []⟩
def dd10 : He.DefD := ⟨("need_swing", none), "need_swing", "need_swing", defArgs (top 28), defBody (top 28), defScope (top 28), [], []⟩
def dd11 : He.DefD := ⟨("need_two", none), "need_two", "need_two", defArgs (top 29), defBody (top 29), defScope (top 29), [], []⟩
def dd12 : He.DefD := ⟨("plain_place", none), "plain_place", "plain_place", defArgs (top 30), defBody (top 30), defScope (top 30), [], []⟩
def dd13 : He.DefD := ⟨("carried", none), "carried", "carried", defArgs (top 31), defBody (top 31), defScope (top 31), [], []⟩
def dd14 : He.DefD := ⟨("raw_product", none), "raw_product", "raw_product", defArgs (top 32), defBody (top 32), defScope (top 32), [], []⟩
def dd15 : He.DefD := ⟨("product", none), "product", "product", defArgs (top 33), defBody (top 33), defScope (top 33), [], []⟩
def dd16 : He.DefD := ⟨("undone", none), "undone", "undone", defArgs (top 34), defBody (top 34), defScope (top 34), [], []⟩
def dd17 : He.DefD := ⟨("frame_of", none), "frame_of", "frame_of", defArgs (top 35), defBody (top 35), defScope (top 35), [], []⟩
def dd18 : He.DefD := ⟨("need_three", none), "need_three", "need_three", defArgs (top 36), defBody (top 36), defScope (top 36), [], []⟩
def dd19 : He.DefD := ⟨("is_swing", none), "is_swing", "is_swing", defArgs (top 37), defBody (top 37), defScope (top 37), [], []⟩
def dd20 : He.DefD := ⟨("carried_place", none), "carried_place", "carried_place", defArgs (top 38), defBody (top 38), defScope (top 38), [], []⟩
def dd21 : He.DefD := ⟨("swings_together", none), "swings_together", "swings_together", defArgs (top 39), defBody (top 39), defScope (top 39), [], []⟩
def dd22 : He.DefD := ⟨("swing_back", none), "swing_back", "swing_back", defArgs (top 40), defBody (top 40), defScope (top 40), [], []⟩
def dd23 : He.DefD := ⟨("swing_through", none), "swing_through", "swing_through", defArgs (top 41), defBody (top 41), defScope (top 41), [], []⟩
def dd24 : He.DefD := ⟨("number_in", none), "number_in", "number_in", defArgs (top 45), defBody (top 45), defScope (top 45), [], []⟩
def dd25 : He.DefD := ⟨("order_in", none), "order_in", "order_in", defArgs (top 46), defBody (top 46), defScope (top 46), [], []⟩
def dd26 : He.DefD := ⟨("swing_order", none), "swing_order", "swing_order", defArgs (top 47), defBody (top 47), defScope (top 47), [], []⟩
def dd27 : He.DefD := ⟨("swing_power", none), "swing_power", "swing_power", defArgs (top 48), defBody (top 48), defScope (top 48), [], []⟩
def dd28 : He.DefD := ⟨("path_of", none), "path_of", "path_of", defArgs (top 49), defBody (top 49), defScope (top 49), [], []⟩
def dd29 : He.DefD := ⟨("is_three", none), "is_three", "is_three", defArgs (top 52), defBody (top 52), defScope (top 52), [], []⟩
def dd30 : He.DefD := ⟨("is_triple", none), "is_triple", "is_triple", defArgs (top 53), defBody (top 53), defScope (top 53), [], []⟩
def dd31 : He.DefD := ⟨("plainly", none), "plainly", "plainly", defArgs (top 54), defBody (top 54), defScope (top 54), [], []⟩
def dd32 : He.DefD := ⟨("need_triple", none), "need_triple", "need_triple", defArgs (top 55), defBody (top 55), defScope (top 55), [], []⟩
def dd33 : He.DefD := ⟨("dot", none), "dot", "dot", defArgs (top 56), defBody (top 56), defScope (top 56), [], []⟩
def dd34 : He.DefD := ⟨("cross", none), "cross", "cross", defArgs (top 57), defBody (top 57), defScope (top 57), [], []⟩
def dd35 : He.DefD := ⟨("is_small", none), "is_small", "is_small", defArgs (top 60), defBody (top 60), defScope (top 60), [], []⟩
def dd36 : He.DefD := ⟨("fits", none), "fits", "fits", defArgs (top 64), defBody (top 64), defScope (top 64), [], []⟩
def dd37 : He.DefD := ⟨("need_lead", none), "need_lead", "need_lead", defArgs (top 65), defBody (top 65), defScope (top 65), [], []⟩
def dd38 : He.DefD := ⟨("need_closed", none), "need_closed", "need_closed", defArgs (top 66), defBody (top 66), defScope (top 66), [], []⟩
def dd39 : He.DefD := ⟨("led", none), "led", "led", defArgs (top 67), defBody (top 67), defScope (top 67), [], []⟩
def dd40 : He.DefD := ⟨("base_of", none), "base_of", "base_of", defArgs (top 68), defBody (top 68), defScope (top 68), [], []⟩
def dd41 : He.DefD := ⟨("form_of", none), "form_of", "form_of", defArgs (top 69), defBody (top 69), defScope (top 69), [], []⟩
def dd42 : He.DefD := ⟨("roots_of", none), "roots_of", "roots_of", defArgs (top 70), defBody (top 70), defScope (top 70), [], []⟩
def dd43 : He.DefD := ⟨("is_home", none), "is_home", "is_home", defArgs (top 71), defBody (top 71), defScope (top 71), [], []⟩
def dd44 : He.DefD := ⟨("rounds_in", none), "rounds_in", "rounds_in", defArgs (top 72), defBody (top 72), defScope (top 72), [], []⟩
def dd45 : He.DefD := ⟨("is_lead", none), "is_lead", "is_lead", defArgs (top 73), defBody (top 73), defScope (top 73), [], []⟩
def dd46 : He.DefD := ⟨("is_closed", none), "is_closed", "is_closed", defArgs (top 74), defBody (top 74), defScope (top 74), [], []⟩
def dd47 : He.DefD := ⟨("led_by", none), "led_by", "led_by", defArgs (top 75), defBody (top 75), defScope (top 75), [], []⟩
def dd48 : He.DefD := ⟨("kept_points", none), "kept_points", "kept_points", defArgs (top 76), defBody (top 76), defScope (top 76), [], []⟩
def dd49 : He.DefD := ⟨("rounds_to_home", none), "rounds_to_home", "rounds_to_home", defArgs (top 77), defBody (top 77), defScope (top 77), [], []⟩
def dd50 : He.DefD := ⟨("joined_leads", none), "joined_leads", "joined_leads", defArgs (top 78), defBody (top 78), defScope (top 78), [], []⟩
def dd51 : He.DefD := ⟨("gauge", none), "gauge", "gauge", defArgs (top 80), defBody (top 80), defScope (top 80), [], []⟩
def dd52 : He.DefD := ⟨("fixed_in", none), "fixed_in", "fixed_in", defArgs (top 81), defBody (top 81), defScope (top 81), [], []⟩
def dd53 : He.DefD := ⟨("gauge_of", none), "gauge_of", "gauge_of", defArgs (top 82), defBody (top 82), defScope (top 82), [], []⟩
def dd54 : He.DefD := ⟨("fixed_places", none), "fixed_places", "fixed_places", defArgs (top 83), defBody (top 83), defScope (top 83), [], []⟩
def dd55 : He.DefD := ⟨("bare", none), "bare", "bare", defArgs (top 85), defBody (top 85), defScope (top 85), [], []⟩
def dd56 : He.DefD := ⟨("shape_in", none), "shape_in", "shape_in", defArgs (top 86), defBody (top 86), defScope (top 86), [], []⟩
def dd57 : He.DefD := ⟨("are_swings_alike", none), "are_swings_alike", "are_swings_alike", defArgs (top 87), defBody (top 87), defScope (top 87), [], []⟩
def dd58 : He.DefD := ⟨("does_turn_back", none), "does_turn_back", "does_turn_back", defArgs (top 89), defBody (top 89), defScope (top 89), [], []⟩
def dd60 : He.DefD := ⟨("_law_roll", none), "_law_roll", "_law_roll", defArgs (top 92), defBody (top 92), defScope (top 92), [], []⟩
def dd61 : He.DefD := ⟨("_law_some", none), "_law_some", "_law_some", defArgs (top 93), defBody (top 93), defScope (top 93), [], []⟩
def dd62 : He.DefD := ⟨("_law_sort", none), "_law_sort", "_law_sort", defArgs (top 94), defBody (top 94), defScope (top 94), [], []⟩
def dd63 : He.DefD := ⟨("_law_like", none), "_law_like", "_law_like", defArgs (top 95), defBody (top 95), defScope (top 95), [], []⟩
def dd64 : He.DefD := ⟨("_law_is_number", none), "_law_is_number", "_law_is_number", defArgs (top 96), defBody (top 96), defScope (top 96), [], []⟩
def dd65 : He.DefD := ⟨("_law_gcd", none), "_law_gcd", "_law_gcd", defArgs (top 97), defBody (top 97), defScope (top 97), [], []⟩
def dd66 : He.DefD := ⟨("_law_low", none), "_law_low", "_law_low", defArgs (top 98), defBody (top 98), defScope (top 98), [], []⟩
def dd67 : He.DefD := ⟨("_law_short", none), "_law_short", "_law_short", defArgs (top 99), defBody (top 99), defScope (top 99), [], []⟩
def dd68 : He.DefD := ⟨("_law_at", none), "_law_at", "_law_at", defArgs (top 100), defBody (top 100), defScope (top 100), [], []⟩
def dd69 : He.DefD := ⟨("_law_is_place", none), "_law_is_place", "_law_is_place", defArgs (top 101), defBody (top 101), defScope (top 101), [], []⟩
def dd70 : He.DefD := ⟨("_law_spot", none), "_law_spot", "_law_spot", defArgs (top 102), defBody (top 102), defScope (top 102), [], []⟩
def dd71 : He.DefD := ⟨("_law_point", none), "_law_point", "_law_point", defArgs (top 103), defBody (top 103), defScope (top 103), [], []⟩
def dd72 : He.DefD := ⟨("_law_place_of", none), "_law_place_of", "_law_place_of", defArgs (top 104), defBody (top 104), defScope (top 104), [], []⟩
def dd73 : He.DefD := ⟨("_law_dot", none), "_law_dot", "_law_dot", defArgs (top 105), defBody (top 105), defScope (top 105), [], []⟩
def dd74 : He.DefD := ⟨("_law_triple", none), "_law_triple", "_law_triple", defArgs (top 106), defBody (top 106), defScope (top 106), [], []⟩
def dd75 : He.DefD := ⟨("_law_lead", none), "_law_lead", "_law_lead", defArgs (top 107), defBody (top 107), defScope (top 107), [], []⟩
def dd76 : He.DefD := ⟨("_law_swing_of", none), "_law_swing_of", "_law_swing_of", defArgs (top 108), defBody (top 108), defScope (top 108), [], []⟩
def dd77 : He.DefD := ⟨("_law_right", none), "_law_right", "_law_right", defArgs (top 109), defBody (top 109), defScope (top 109), [], []⟩
def dd78 : He.DefD := ⟨("_law_both_right", none), "_law_both_right", "_law_both_right", defArgs (top 110), defBody (top 110), defScope (top 110), [], []⟩
def dd79 : He.DefD := ⟨("_law_perspective_right", none), "_law_perspective_right", "_law_perspective_right", defArgs (top 111), defBody (top 111), defScope (top 111), [], []⟩
def dd80 : He.DefD := ⟨("_law_cross_of", none), "_law_cross_of", "_law_cross_of", defArgs (top 112), defBody (top 112), defScope (top 112), [], []⟩
def dd81 : He.DefD := ⟨("_law_written_right", none), "_law_written_right", "_law_written_right", defArgs (top 113), defBody (top 113), defScope (top 113), [], []⟩
def dd59 : He.DefD := ⟨("_law_cup", none), "_law_cup", "_law_cup", defArgs (top 91), defBody (top 91), defScope (top 91), [], []⟩
def dd82 : He.DefD := ⟨("law", none), "law", "law", defArgs (top 114), defBody (top 114), defScope (top 114), [], []⟩
def fn : List He.DefD := [dd0, dd1, dd2, dd3, dd4, dd5, dd6, dd7, dd8, dd9, dd10, dd11, dd12, dd13, dd14, dd15, dd16, dd17, dd18, dd19, dd20, dd21, dd22, dd23, dd24, dd25, dd26, dd27, dd28, dd29, dd30, dd31, dd32, dd33, dd34, dd35, dd36, dd37, dd38, dd39, dd40, dd41, dd42, dd43, dd44, dd45, dd46, dd47, dd48, dd49, dd50, dd51, dd52, dd53, dd54, dd55, dd56, dd57, dd58, dd60, dd61, dd62, dd63, dd64, dd65, dd66, dd67, dd68, dd69, dd70, dd71, dd72, dd73, dd74, dd75, dd76, dd77, dd78, dd79, dd80, dd81, dd59, dd82]
def fa : List He.Fa := [.glo "is_whole", .glo "need_whole", .glo "is_tuple_of", .glo "lowest", .glo "fits_place", .glo "need_place", .glo "measure", .glo "trace", .glo "shortened", .glo "fits_swing", .glo "need_swing", .glo "need_two", .glo "plain_place", .glo "carried", .glo "raw_product", .glo "product", .glo "undone", .glo "frame_of", .glo "need_three", .glo "is_swing", .glo "carried_place", .glo "swings_together", .glo "swing_back", .glo "swing_through", .glo "number_in", .glo "order_in", .glo "swing_order", .glo "swing_power", .glo "path_of", .glo "is_three", .glo "is_triple", .glo "plainly", .glo "need_triple", .glo "dot", .glo "cross", .glo "is_small", .glo "fits", .glo "need_lead", .glo "need_closed", .glo "led", .glo "base_of", .glo "form_of", .glo "roots_of", .glo "is_home", .glo "rounds_in", .glo "is_lead", .glo "is_closed", .glo "led_by", .glo "kept_points", .glo "rounds_to_home", .glo "joined_leads", .glo "gauge", .glo "fixed_in", .glo "gauge_of", .glo "fixed_places", .glo "bare", .glo "shape_in", .glo "are_swings_alike", .glo "does_turn_back", .glo "_law_roll", .glo "_law_some", .glo "_law_sort", .glo "_law_like", .glo "_law_is_number", .glo "_law_gcd", .glo "_law_low", .glo "_law_short", .glo "_law_at", .glo "_law_is_place", .glo "_law_spot", .glo "_law_point", .glo "_law_place_of", .glo "_law_dot", .glo "_law_triple", .glo "_law_lead", .glo "_law_swing_of", .glo "_law_right", .glo "_law_both_right", .glo "_law_perspective_right", .glo "_law_cross_of", .glo "_law_written_right", .glo "_law_cup", .glo "law", .free "abs", .free "all", .free "any", .free "bool", .free "enumerate", .free "int", .free "isinstance", .free "len", .free "list", .free "max", .free "range", .free "set", .free "sorted", .free "str", .free "sum", .free "tuple", .free "zip", .int "GREAT" (1000000000000000000000000000000000000000000000000000000000000), .int "LINES" (9), .int "MANY" (60), .int "PART_swings" (1000000000), .int "PART_triples" (1000000000), .int "ROUNDS" (6), .int "SIZE" (10000), .int "SMALL_drawsteps" (100), .int "SMALL_swings" (1000)]
def exl (K : PySem.W.Frag) : List Bool := [bltG K "gcd" "math.gcd", bltG K "isqrt" "math.isqrt", cstG K "NONE" (.tuple [.int 1, .int 0, .int 0, .int 1]), dcG K "ORDERS" [([0, 1], 2), ([1, 1], 3), ([2, 1], 4), ([3, 1], 6)]]
def ex (K : PySem.W.Frag) : Bool := (exl K).all id
theorem ex_at {K : PySem.W.Frag} (h : ex K = true) (i : Nat) {b : Bool} (e : (exl K)[i]? = some b) : b = true := by
  have q := List.all_eq_true.mp h b (List.mem_of_getElem? e)
  exact q
abbrev R : PySem.W.OpenRow := PySem.W.OpenLaw.row PySem.Challenge.rw_linesruled_k84_whole_leads_as_swings
abbrev hk : PySem.W.Hook := hookY 2 fa fn ex
def ob (s : PySem.W.SharedT) : AlX := obsY 2 fa fn ex (HandSHeadRun.getT s)
theorem ob_eq (s : PySem.W.SharedT) : ob s = hk.obs s.abs := obsY_eq (HandSHeadRun.getT_eq s)
def nms0 : List PySem.Str := ["RulerError", "InvalidNumber", "InvalidTriple", "InvalidPoints", "InvalidPlace", "InvalidMove", "InvalidChain", "NotNow", "is_whole", "need_whole", "is_tuple_of", "lowest", "PART_swings", "SMALL_swings", "SIZE", "GREAT", "NONE", "fits_place", "need_place", "measure", "trace", "shortened", "fits_swing", "need_swing", "need_two", "plain_place", "carried", "raw_product", "product", "undone"]
def nms1 : List PySem.Str := ["frame_of", "need_three", "is_swing", "carried_place", "swings_together", "swing_back", "swing_through", "MANY", "ORDERS", "number_in", "order_in", "swing_order", "swing_power", "path_of", "PART_triples", "is_three", "is_triple", "plainly", "need_triple", "dot", "cross", "SMALL_drawsteps", "is_small", "LINES", "ROUNDS", "fits", "need_lead", "need_closed", "led", "base_of"]
def nms2 : List PySem.Str := ["form_of", "roots_of", "is_home", "rounds_in", "is_lead", "is_closed", "led_by", "kept_points", "rounds_to_home", "joined_leads", "gauge", "fixed_in", "gauge_of", "fixed_places", "bare", "shape_in", "are_swings_alike", "does_turn_back", "_law_cup", "_law_roll", "_law_some", "_law_sort", "_law_like", "_law_is_number", "_law_gcd", "_law_low", "_law_short", "_law_at", "_law_is_place", "_law_spot"]
def nms3 : List PySem.Str := ["_law_point", "_law_place_of", "_law_dot", "_law_triple", "_law_lead", "_law_swing_of", "_law_right", "_law_both_right", "_law_perspective_right", "_law_cross_of", "_law_written_right"]
def nms : List PySem.Str := nms0 ++ nms1 ++ nms2 ++ nms3
open PySem PySem.W HandSHeadRun in
theorem run0t (w : World) : (wholeF (fun p => stepQ (denQ tabQ) p (wB w true)) fenceQ 8000 R.prog).map (fun x => (looksF R.prog x.1.heap x.2.abs, seenQ (PySem.W.view R.prog [0, 114]) nms (importedModules R.prog.main.body) (fun s => xlAt (PySem.W.view R.prog [0, 114]) [] s && recOk R.toRowW.records s) x.2.abs)) = some (true, openGood (PySem.W.view R.prog [0, 114]) nms) := by
  kernel_rfl
open PySem PySem.W HandSHeadRun in
theorem run0f (w : World) : (wholeF (fun p => stepQ (denQ tabQ) p (wB w false)) fenceQ 8000 R.prog).map (fun x => (looksF R.prog x.1.heap x.2.abs, seenQ (PySem.W.view R.prog [0, 114]) nms (importedModules R.prog.main.body) (fun s => xlAt (PySem.W.view R.prog [0, 114]) [] s && recOk R.toRowW.records s) x.2.abs)) = some (true, openGood (PySem.W.view R.prog [0, 114]) nms) := by
  kernel_rfl
open PySem PySem.W HandSHeadRun in
theorem run0 (w : World) : (wholeF (fun p => stepQ (denQ tabQ) p w) fenceQ 8000 R.prog).map (fun x => (looksF R.prog x.1.heap x.2.abs, seenQ (PySem.W.view R.prog [0, 114]) nms (importedModules R.prog.main.body) (fun s => xlAt (PySem.W.view R.prog [0, 114]) [] s && recOk R.toRowW.records s) x.2.abs)) = some (true, openGood (PySem.W.view R.prog [0, 114]) nms) :=
  all_wB (P := fun w => (wholeF (fun p => stepQ (denQ tabQ) p w) fenceQ 8000 R.prog).map (fun x => (looksF R.prog x.1.heap x.2.abs, seenQ (PySem.W.view R.prog [0, 114]) nms (importedModules R.prog.main.body) (fun s => xlAt (PySem.W.view R.prog [0, 114]) [] s && recOk R.toRowW.records s) x.2.abs)) = some (true, openGood (PySem.W.view R.prog [0, 114]) nms)) run0t run0f w
open PySem PySem.W HandSHeadRun in
theorem run1t (w : World) : (wholeF (fun p => stepQ (denQ tabQ) p (wB w true)) fenceQ 8000 R.prog).map (fun x => ob x.2) = some (hk.val w) := by
  kernel_rfl
open PySem PySem.W HandSHeadRun in
theorem run1f (w : World) : (wholeF (fun p => stepQ (denQ tabQ) p (wB w false)) fenceQ 8000 R.prog).map (fun x => ob x.2) = some (hk.val w) := by
  kernel_rfl
open PySem PySem.W HandSHeadRun in
theorem run1 (w : World) : (wholeF (fun p => stepQ (denQ tabQ) p w) fenceQ 8000 R.prog).map (fun x => ob x.2) = some (hk.val w) :=
  all_wB (P := fun w => (wholeF (fun p => stepQ (denQ tabQ) p w) fenceQ 8000 R.prog).map (fun x => ob x.2) = some (hk.val w)) run1t run1f w
theorem map_both {a b c d : Type} {o : Option a} {f : a -> b} {g : a -> c} {k : a -> d} {u : b} {v : c} {z : d} (h1 : o.map (fun x => (f x, g x)) = some (u, v)) (h2 : o.map k = some z) : o.map (fun x => (f x, g x, k x)) = some (u, v, z) := by
  cases o with
  | none => cases h1
  | some x =>
    injection h1 with h1
    injection h1 with e1 e2
    injection h2 with h2
    exact congrArg some (Prod.ext e1 (Prod.ext e2 h2))
theorem run (w : World) : HandSHeadRun.RunEqI R (PySem.W.view R.prog [0, 114]) hk ob 8000 nms w := map_both (run0 w) (run1 w)
end Wk
end
section
set_option Elab.async false
set_option linter.all false
set_option maxRecDepth 100000
/-! Nm: integers without a common divisor, told up to a factor -/
namespace Nm
def gcdL : List Int → Nat
  | [] => 0
  | x :: xs => Nat.gcd x.natAbs (gcdL xs)
def fnz : List Int → Int
  | [] => 0
  | x :: xs => if x = 0 then fnz xs else x
/-- no common divisor, the first one that is not 0 above 0 -/
def Nrm (l : List Int) : Prop := gcdL l = 1 ∧ 0 < fnz l
theorem gcdL_mul (k : Int) : ∀ l : List Int, gcdL (l.map (k * ·)) = k.natAbs * gcdL l
  | [] => by simp [gcdL]
  | x :: xs => by
    show Nat.gcd (k * x).natAbs (gcdL (xs.map (k * ·))) = _
    rw [gcdL_mul k xs, Int.natAbs_mul, Nat.gcd_mul_left]
    rfl
theorem fnz_mul {k : Int} (hk : k ≠ 0) : ∀ l : List Int, fnz (l.map (k * ·)) = k * fnz l
  | [] => by simp [fnz]
  | x :: xs => by
    show (if k * x = 0 then fnz (xs.map (k * ·)) else k * x) = k * (if x = 0 then fnz xs else x)
    by_cases h : x = 0
    · rw [if_pos h, if_pos (by rw [h, Int.mul_zero]), fnz_mul hk xs]
    · rw [if_neg h, if_neg (Int.mul_ne_zero hk h)]
theorem Nrm.eq {u v : List Int} {k m : Int} (hu : Nrm u) (hv : Nrm v) (hk : k ≠ 0) (hm : m ≠ 0) (h : u.map (k * ·) = v.map (m * ·)) : u = v := by
  have h1 := congrArg gcdL h
  rw [gcdL_mul, gcdL_mul, hu.1, hv.1, Nat.mul_one, Nat.mul_one] at h1
  have h2 := congrArg fnz h
  rw [fnz_mul hk, fnz_mul hm] at h2
  have h3 : k = m := by
    rcases Int.natAbs_eq_natAbs_iff.mp h1 with e | e
    · exact e
    · exfalso
      subst e
      have a := hu.2
      have b := hv.2
      have c : m * (fnz u + fnz v) = 0 := by rw [Int.mul_add]; rw [Int.neg_mul] at h2; omega
      rcases Int.mul_eq_zero.mp c with d | d
      · exact hm d
      · omega
  subst h3
  exact (List.map_inj_right fun x y e => Int.eq_of_mul_eq_mul_left hk e).mp h
theorem Nrm.eq2 {a b c d k m : Int} (hu : Nrm [a, b]) (hv : Nrm [c, d]) (hk : k ≠ 0) (hm : m ≠ 0) (h1 : k * a = m * c) (h2 : k * b = m * d) : a = c ∧ b = d := by
  have := hu.eq hv hk hm (by simp [h1, h2])
  simpa using this
theorem Nrm.eq3 {a b e c d f k m : Int} (hu : Nrm [a, b, e]) (hv : Nrm [c, d, f]) (hk : k ≠ 0) (hm : m ≠ 0) (h1 : k * a = m * c) (h2 : k * b = m * d) (h3 : k * e = m * f) : a = c ∧ b = d ∧ e = f := by
  have := hu.eq hv hk hm (by simp [h1, h2, h3])
  simpa using this
theorem Nrm.eq4 {a b e g c d f h k m : Int} (hu : Nrm [a, b, e, g]) (hv : Nrm [c, d, f, h]) (hk : k ≠ 0) (hm : m ≠ 0) (h1 : k * a = m * c) (h2 : k * b = m * d) (h3 : k * e = m * f) (h4 : k * g = m * h) : a = c ∧ b = d ∧ e = f ∧ g = h := by
  have := hu.eq hv hk hm (by simp [h1, h2, h3, h4])
  simpa using this
/-- not all 0 -/
def NZ (l : List Int) : Prop := fnz l ≠ 0
theorem gcdL_dvd : ∀ {l : List Int} {x : Int}, x ∈ l → (gcdL l : Int) ∣ x
  | y :: l, x, h => by
    rcases List.mem_cons.mp h with e | h
    · subst e
      exact Int.ofNat_dvd_left.mpr (Nat.gcd_dvd_left _ _)
    · exact Int.dvd_trans (Int.ofNat_dvd.mpr (Nat.gcd_dvd_right _ _)) (gcdL_dvd h)
theorem fnz_mem : ∀ {l : List Int}, fnz l ≠ 0 → fnz l ∈ l
  | [], h => absurd rfl h
  | x :: l, h => by
    unfold fnz at h ⊢
    by_cases e : x = 0
    · rw [if_pos e] at h ⊢
      exact List.mem_cons_of_mem _ (fnz_mem h)
    · rw [if_neg e]
      exact List.mem_cons_self
theorem gcdL_ne {l : List Int} (h : NZ l) : gcdL l ≠ 0 := fun e => by
  have d := gcdL_dvd (fnz_mem h)
  rw [e] at d
  exact h (Int.zero_dvd.mp d)
/-- the factor: the greatest common divisor with the sign of the first that is not 0 -/
def fac (l : List Int) : Int := if 0 < fnz l then (gcdL l : Int) else -(gcdL l : Int)
theorem fac_ne {l : List Int} (h : NZ l) : fac l ≠ 0 := by
  have := gcdL_ne h
  unfold fac
  split <;> omega
theorem fac_dvd {l : List Int} {x : Int} (h : x ∈ l) : fac l ∣ x := by
  unfold fac
  split
  · exact gcdL_dvd h
  · exact Int.neg_dvd.mpr (gcdL_dvd h)
theorem fac_mul {l : List Int} {x : Int} (h : x ∈ l) : x = fac l * (x.fdiv (fac l)) := by
  rw [Int.mul_fdiv_cancel' (fac_dvd h)]
theorem pos_of {g x : Int} (hg : 0 < g) (h : 0 < g * x) : 0 < x := by
  rcases Int.lt_trichotomy x 0 with e | e | e
  · have := Int.mul_neg_of_pos_of_neg hg e
    omega
  · rw [e, Int.mul_zero] at h
    omega
  · exact e
theorem fac_nrm {l m : List Int} (h : NZ l) (e : l = m.map (fac l * ·)) : Nrm m := by
  have hf := fac_ne h
  have h1 : gcdL l = (fac l).natAbs * gcdL m := by rw [← gcdL_mul, ← e]
  have h2 : fnz l = fac l * fnz m := by rw [← fnz_mul hf, ← e]
  have h3 : (fac l).natAbs = gcdL l := by
    unfold fac
    split <;> omega
  refine ⟨?_, ?_⟩
  · rw [h3] at h1
    have := gcdL_ne h
    have h4 : gcdL l * 1 = gcdL l * gcdL m := by omega
    exact (Nat.eq_of_mul_eq_mul_left (by omega) h4).symm
  · unfold fac at h2
    have g := gcdL_ne h
    split at h2
    · rename_i p
      rw [h2] at p
      exact pos_of (by omega) p
    · rename_i p
      have n : fnz l < 0 := by
        have : fnz l ≠ 0 := h
        omega
      rw [h2, Int.neg_mul] at n
      have : 0 < (gcdL l : Int) * fnz m := by omega
      exact pos_of (by omega) this
/-! ### sizes -/
def Bd (n : Nat) (x : Int) : Prop := x.natAbs ≤ n
theorem Bd.mul {m n : Nat} {x y : Int} (h : Bd m x) (g : Bd n y) : Bd (m * n) (x * y) := by
  unfold Bd at *
  rw [Int.natAbs_mul]
  exact Nat.mul_le_mul h g
theorem Bd.add {m n : Nat} {x y : Int} (h : Bd m x) (g : Bd n y) : Bd (m + n) (x + y) := by
  unfold Bd at *
  omega
theorem Bd.sub {m n : Nat} {x y : Int} (h : Bd m x) (g : Bd n y) : Bd (m + n) (x - y) := by
  unfold Bd at *
  omega
theorem Bd.neg {m : Nat} {x : Int} (h : Bd m x) : Bd m (-x) := by
  unfold Bd at *
  omega
theorem Bd.mono {m n : Nat} {x : Int} (h : Bd m x) (l : m ≤ n) : Bd n x := Nat.le_trans h l
theorem Bd.of_mul {n : Nat} {x k y : Int} (h : Bd n x) (hk : k ≠ 0) (e : x = k * y) : Bd n y := by
  unfold Bd at *
  rw [e, Int.natAbs_mul] at h
  have : 1 ≤ k.natAbs := by omega
  exact Nat.le_trans (Nat.le_mul_of_pos_left _ this) h
theorem Bd.le {n : Nat} {x : Int} (h : Bd n x) : -(n : Int) ≤ x ∧ x ≤ n := by
  unfold Bd at h
  omega
theorem Bd.of {n : Nat} {x : Int} (h : -(n : Int) ≤ x ∧ x ≤ n) : Bd n x := by
  unfold Bd
  omega
end Nm
end
section
set_option Elab.async false
set_option linter.all false
set_option maxRecDepth 100000
set_option maxHeartbeats 4000000
/-! Ev: what the combinators answer, step by step -/
namespace Ev
open PySem hiding Flow Arg
open Se

structure W {α : Type} (m : M α) (cs : Cs) (Q : α → Cs → Prop) : Prop where
  ex : ∃ a c, m cs = some (a, c) ∧ Q a c
section
variable {α β : Type} {cs : Cs} {cf : CF} {env : Ev} {fa fb fc ft : SE}
theorem W.eq {m : M α} {Q : α → Cs → Prop} {a : α} {c : Cs} (h : m cs = some (a, c)) (q : Q a c) : W m cs Q := ⟨a, c, h, q⟩
theorem W.mono {m : M α} {Q R : α → Cs → Prop} (h : W m cs Q) (i : ∀ a c, Q a c → R a c) : W m cs R := let ⟨a, c, e, q⟩ := h; ⟨a, c, e, i a c q⟩
theorem W.bnd {m : M α} {f : α → M β} {Q : β → Cs → Prop} (h : W m cs fun a c => W (f a) c Q) : W (M.bnd m f) cs Q := by
  obtain ⟨a, c, e, b, c', e', q⟩ := h
  exact ⟨b, c', by unfold M.bnd; rw [e]; exact e', q⟩
theorem W.ret {a : α} {Q : α → Cs → Prop} (q : Q a cs) : W (M.ret a) cs Q := ⟨a, cs, rfl, q⟩
theorem W.of {o : Option α} {a : α} {Q : α → Cs → Prop} (h : o = some a) (q : Q a cs) : W (M.of o) cs Q := ⟨a, cs, by rw [h]; rfl, q⟩
variable {Q : D → Cs → Prop} {R : Flow → Cs → Prop}
theorem W.var {i : Nat} {d : D} (h : env[i]? = some (.sh d)) (q : Q d cs) : W (mVar i cf env) cs Q := ⟨d, cs, by unfold mVar; rw [h], q⟩
theorem W.pk {i : Nat} {d : D} (h : env[i]? = some (.sh d)) (q : Q d cs) : W (mPk i cf env) cs Q := ⟨d, cs, by unfold mPk; rw [h], q⟩
theorem W.pkO {i : Nat} {d : D} (h : env[i]? = some (.ow d)) (q : Q d cs) : W (mPk i cf env) cs Q := ⟨d, cs, by unfold mPk; rw [h], q⟩
theorem W.lit {d : D} (q : Q d cs) : W (mLit d cf env) cs Q := ⟨d, cs, rfl, q⟩
structure Op (o : Option D) (Q : D → Prop) : Prop where
  ex : ∃ z, o = some z ∧ Q z
theorem W.bin {g : D → D → Option D} (h : W (fa cf env) cs fun x c => W (fb cf env) c fun y c => Op (g x y) fun z => Q z c) : W (mBin g fa fb cf env) cs Q := by
  refine W.bnd (h.mono fun x c h => W.bnd (h.mono fun y c h => ?_))
  obtain ⟨z, e, q⟩ := h
  exact W.of e q
theorem W.neg (h : W (fa cf env) cs fun x c => ∃ i, x = .int i ∧ Q (.int (-i)) c) : W (mNeg fa cf env) cs Q := by
  refine W.bnd (h.mono fun x c h => ?_)
  obtain ⟨i, rfl, q⟩ := h
  exact ⟨_, _, rfl, q⟩
/-- a truth value -/
structure Bo (x : D) (Y N : Prop) : Prop where
  ex : ∃ k, x = .bool k ∧ (k = true → Y) ∧ (k = false → N)
theorem Bo.mono {x : D} {Y N Y' N' : Prop} (h : Bo x Y N) (y : Y → Y') (n : N → N') : Bo x Y' N' := let ⟨k, e, a, b⟩ := h; ⟨k, e, fun q => y (a q), fun q => n (b q)⟩
theorem W.and (h : W (fa cf env) cs fun x c => Bo x (W (fb cf env) c Q) (Q (.bool false) c)) : W (mAnd fa fb cf env) cs Q := by
  refine W.bnd (h.mono fun x c h => ?_)
  obtain ⟨k, rfl, y, n⟩ := h
  cases k with
  | true => exact y rfl
  | false => exact W.ret (n rfl)
theorem W.or (h : W (fa cf env) cs fun x c => Bo x (Q (.bool true) c) (W (fb cf env) c Q)) : W (mOr fa fb cf env) cs Q := by
  refine W.bnd (h.mono fun x c h => ?_)
  obtain ⟨k, rfl, y, n⟩ := h
  cases k with
  | true => exact W.ret (y rfl)
  | false => exact n rfl
theorem W.not (h : W (fa cf env) cs fun x c => ∃ k, x = .bool k ∧ Q (.bool !k) c) : W (mNot fa cf env) cs Q := by
  refine W.bnd (h.mono fun x c h => ?_)
  obtain ⟨k, rfl, q⟩ := h
  exact W.ret q
theorem W.ite (h : W (ft cf env) cs fun x c => Bo x (W (fa cf env) c Q) (W (fb cf env) c Q)) : W (mIf ft fa fb cf env) cs Q := by
  refine W.bnd (h.mono fun x c h => ?_)
  obtain ⟨k, rfl, y, n⟩ := h
  cases k with
  | true => exact y rfl
  | false => exact n rfl
theorem W.chain {g g' : D → D → Option D} (h : W (fa cf env) cs fun x c => W (fb cf env) c fun y c => Op (g x y) fun z => Bo z (W (fc cf env) c fun w c => Op (g' y w) fun z => Q z c) (Q (.bool false) c)) : W (mChain g g' fa fb fc cf env) cs Q := by
  refine W.bnd (h.mono fun x c h => W.bnd (h.mono fun y c h => ?_))
  obtain ⟨z, e, k, rfl, yy, nn⟩ := h
  refine W.bnd (W.of e ?_)
  cases k with
  | true => exact W.bnd ((yy rfl).mono fun w c h => let ⟨z, e, q⟩ := h; W.of e q)
  | false => exact W.ret (nn rfl)
/-- both parts of a chain, by their truth values -/
theorem W.chainB {g g' : D → D → Option D} {k l : Bool} {x y w : D} (h1 : fa cf env cs = some (x, cs)) (h2 : fb cf env cs = some (y, cs)) (h3 : fc cf env cs = some (w, cs)) (e1 : g x y = some (.bool k)) (e2 : g' y w = some (.bool l)) (q : Q (.bool (k && l)) cs) : W (mChain g g' fa fb fc cf env) cs Q := by
  refine W.chain (W.eq h1 (W.eq h2 ⟨_, e1, k, rfl, fun hk => W.eq h3 ⟨_, e2, ?_⟩, fun hk => ?_⟩))
  · subst hk; exact q
  · subst hk; exact q
variable {T : List D → Cs → Prop} {TA : List Arg → Cs → Prop}
theorem W.nil {Q : List α → Cs → Prop} (q : Q [] cs) : W ((mNil : SA α) cf env) cs Q := W.ret q
theorem W.cons {fa : CF → Ev → M α} {fr : SA α} {Q : List α → Cs → Prop} (h : W (fa cf env) cs fun x c => W (fr cf env) c fun xs c => Q (x :: xs) c) : W (mCons fa fr cf env) cs Q :=
  W.bnd (h.mono fun x c h => W.bnd (h.mono fun xs c q => W.ret q))
theorem W.dat {Q : Arg → Cs → Prop} (h : W (fa cf env) cs fun x c => Q (.dat x) c) : W (aDat fa cf env) cs Q := W.bnd (h.mono fun x c q => W.ret q)
theorem W.cupA {i : Nat} {Q : Arg → Cs → Prop} (h : env[i]? = some .cup) (q : Q .cup cs) : W (aCup i cf env) cs Q := ⟨.cup, cs, by unfold aCup; rw [h], q⟩
theorem W.tup {fs : SA D} (h : W (fs cf env) cs fun ds c => Q (.tuple ds) c) : W (mTup fs cf env) cs Q := W.bnd (h.mono fun x c q => W.ret q)
theorem W.lst {fs : SA D} (h : W (fs cf env) cs fun ds c => Q (.list ds) c) : W (mLst fs cf env) cs Q := W.bnd (h.mono fun x c q => W.ret q)
theorem W.call {i : Nat} {fs : SA Arg} (h : W (fs cf env) cs fun as c => W (cf i as) c Q) : W (mCall i fs cf env) cs Q := W.bnd h
theorem W.bi {g : List D → Option D} {fs : SA D} (h : W (fs cf env) cs fun ds c => Op (g ds) fun z => Q z c) : W (mBI g fs cf env) cs Q :=
  W.bnd (h.mono fun ds c h => let ⟨z, e, q⟩ := h; W.of e q)
theorem W.isi {k : D → Bool} (h : W (fa cf env) cs fun x c => Q (.bool (k x)) c) : W (mIsi k fa cf env) cs Q := W.bnd (h.mono fun x c q => W.ret q)
/-! iterables -/
variable {S : List D → Cs → Prop}
theorem W.seqL (h : W (fa cf env) cs fun x c => ∃ ds, sqL x = some ds ∧ S ds c) : W (mSeq fa cf env) cs S := W.bnd (h.mono fun x c h => let ⟨ds, e, q⟩ := h; W.of e q)
theorem W.iter {g : List D → Option (List D)} {fs : SA D} (h : W (fs cf env) cs fun ds c => ∃ es, g ds = some es ∧ S es c) : W (mIter g fs cf env) cs S := W.bnd (h.mono fun x c h => let ⟨ds, e, q⟩ := h; W.of e q)
theorem W.cutNo {Q : Option Int → Cs → Prop} (q : Q none cs) : W (mNo cf env) cs Q := W.ret q
theorem W.cutYes {Q : Option Int → Cs → Prop} (h : W (fa cf env) cs fun x c => ∃ i, x = .int i ∧ Q (some i) c) : W (mYes fa cf env) cs Q := W.bnd (h.mono fun x c h => by
  obtain ⟨i, rfl, q⟩ := h
  exact W.of rfl q)
theorem W.cut {lo hi : CF → Ev → M (Option Int)} (h : W (fa cf env) cs fun x c => W (lo cf env) c fun l c => W (hi cf env) c fun h c => Op (gCut x l h) fun z => Q z c) : W (mCut fa lo hi cf env) cs Q :=
  W.bnd (h.mono fun x c h => W.bnd (h.mono fun l c h => W.bnd (h.mono fun u c h => let ⟨z, e, q⟩ := h; W.of e q)))
/-! comprehensions -/
theorem W.stepN {f : D → M (Option D)} {Q : List D → Cs → Prop} (q : Q [] cs) : W (stepL f []) cs Q := W.ret q
theorem W.stepC {f : D → M (Option D)} {d : D} {ds : List D} {Q : List D → Cs → Prop} (h : W (f d) cs fun o c => W (stepL f ds) c fun r c => Q (match o with
    | some x => x :: r
    | none => r) c) : W (stepL f (d :: ds)) cs Q := W.bnd (h.mono fun o c h => W.bnd (h.mono fun r c q => W.ret q))
theorem W.turn {e0 e1 : Ev} {m : TgF} {d : D} {Q : Option D → Cs → Prop} (h : m d e0 = some e1) (w : W (ft cf e1) cs fun b c => Bo b (W (fa cf e1) c fun x c => Q (some x) c) (Q none c)) : W (lcTurn cf e0 m ft fa d) cs Q := by
  have e : lcTurn cf e0 m ft fa d = lcB cf e1 ft fa := by unfold lcTurn; rw [h]; rfl
  rw [e]
  refine W.bnd (w.mono fun b c h => ?_)
  obtain ⟨k, rfl, y, n⟩ := h
  cases k with
  | true => exact W.bnd ((y rfl).mono fun x c q => W.ret q)
  | false => exact W.ret (n rfl)
theorem W.lc {vs : List Nat} {fi : SI} {m : TgF} (h : W (fi cf env) cs fun ds c => ds.length ≤ line ∧ W (stepL (lcTurn cf (wipeE env vs) m ft fa) ds) c fun r c => Q (.list r) c) : W (mLc vs fi m ft fa cf env) cs Q := by
  refine W.bnd (h.mono fun ds c h => ?_)
  obtain ⟨hl, h⟩ := h
  rw [if_pos hl]
  exact W.bnd (h.mono fun r c q => W.ret q)
/-- a comprehension whose every turn is known: f the kept item -/
theorem W.lcF {f : D → Option D} {g : D → M (Option D)} {Q : List D → Cs → Prop} : ∀ {ds : List D}, (∀ d ∈ ds, g d cs = some (f d, cs)) → Q (ds.filterMap f) cs → W (stepL g ds) cs Q
  | [], _, q => W.stepN q
  | d :: ds, h, q => W.stepC (W.eq (h d List.mem_cons_self) (W.lcF (fun x hx => h x (List.mem_cons_of_mem _ hx)) (by
    rw [List.filterMap_cons] at q
    cases e : f d with
    | none => rw [e] at q; exact q
    | some x => rw [e] at q; exact q)))
/-! two fors -/
theorem W.stepMN {f : D → M (List D)} {Q : List D → Cs → Prop} (q : Q [] cs) : W (stepM f []) cs Q := W.ret q
theorem W.stepMC {f : D → M (List D)} {d : D} {ds : List D} {Q : List D → Cs → Prop} (h : W (f d) cs fun o c => W (stepM f ds) c fun r c => Q (o ++ r) c) : W (stepM f (d :: ds)) cs Q := W.bnd (h.mono fun o c h => W.bnd (h.mono fun r c q => W.ret q))
theorem W.out {e0 e1 : Ev} {m m1 : TgF} {vs1 : List Nat} {fi1 : SI} {ft1 fe : SE} {d : D} {Q : List D → Cs → Prop} (h : m d e0 = some e1)
    (w : W (ft cf e1) cs fun b c => Bo b (W (fi1 cf e1) c fun ds c => W (stepL (lcTurn cf (noOw (wipeE e1 vs1)) m1 ft1 fe) ds) c Q) (Q [] c)) : W (lcOut cf e0 m vs1 ft fi1 m1 ft1 fe d) cs Q := by
  have e : lcOut cf e0 m vs1 ft fi1 m1 ft1 fe d = lcIn cf e1 vs1 ft fi1 m1 ft1 fe := by unfold lcOut; rw [h]
  rw [e]
  refine W.bnd (w.mono fun b c h => ?_)
  obtain ⟨k, rfl, y, n⟩ := h
  cases k with
  | true => exact W.bnd (y rfl)
  | false => exact W.ret (n rfl)
theorem W.lc2 {vs vs1 : List Nat} {fi fi1 : SI} {m m1 : TgF} {ft1 fe : SE} (h : W (fi cf env) cs fun ds c => W (stepM (lcOut cf (wipeE env vs) m vs1 ft fi1 m1 ft1 fe) ds) c fun r c => r.length ≤ line ∧ Q (.list r) c) : W (mLc2 vs vs1 fi m ft fi1 m1 ft1 fe cf env) cs Q := by
  refine W.bnd (h.mono fun ds c h => W.bnd (h.mono fun r c h => ?_))
  rw [if_pos h.1]
  exact W.ret h.2
/-! statements -/
variable {sa sb : SS}
def Nx (fl : Flow) (Q : Ev → Prop) (P : Prop) : Prop := match fl with
  | .next e => Q e
  | .ret _ => P
theorem W.seq (h : W (sa cf env) cs fun fl c => match fl with
    | .next e => W (sb cf e) c R
    | .ret d => R (.ret d) c) : W (sSeq sa sb cf env) cs R := by
  refine W.bnd (h.mono fun fl c h => ?_)
  cases fl with
  | next e => exact h
  | ret d => exact W.ret h
theorem W.snil (q : R (.next env) cs) : W (sNil cf env) cs R := W.ret q
theorem W.sret (h : W (fa cf env) cs fun d c => R (.ret d) c) : W (sRet fa cf env) cs R := W.bnd (h.mono fun d c q => W.ret q)
theorem W.sretN (q : R (.ret .none) cs) : W (sRetN cf env) cs R := W.ret q
theorem W.sdrop (h : W (fa cf env) cs fun d c => R (.next env) c) : W (sDrop fa cf env) cs R := W.bnd (h.mono fun d c q => W.ret q)
theorem W.sif (h : W (ft cf env) cs fun x c => Bo x (W (sa cf env) c R) (W (sb cf env) c R)) : W (sIf ft sa sb cf env) cs R := by
  refine W.bnd (h.mono fun x c h => ?_)
  obtain ⟨k, rfl, y, n⟩ := h
  cases k with
  | true => exact y rfl
  | false => exact n rfl
variable {f g h' : SW} {QS : Slot → Cs → Prop}
theorem W.sh (h : W (fa cf env) cs fun d c => QS (.sh d) c) : W (mSh fa cf env) cs QS := W.bnd (h.mono fun d c q => W.ret q)
theorem W.ow (h : W (fa cf env) cs fun d c => QS (.ow d) c) : W (mOw fa cf env) cs QS := W.bnd (h.mono fun d c q => W.ret q)
theorem W.set {i : Nat} (h : W (f cf env) cs fun s c => R (.next (env.set i s)) c) : W (sSet i f cf env) cs R := W.bnd (h.mono fun s c q => W.ret q)
theorem W.par2 {i j : Nat} (h : W (f cf env) cs fun s c => W (g cf env) c fun t c => R (.next ((env.set i s).set j t)) c) : W (sPar2 i j f g cf env) cs R :=
  W.bnd (h.mono fun s c h => W.bnd (h.mono fun t c q => W.ret q))
theorem W.par3 {i j l : Nat} (h : W (f cf env) cs fun s c => W (g cf env) c fun t c => W (h' cf env) c fun u c => R (.next (((env.set i s).set j t).set l u)) c) : W (sPar3 i j l f g h' cf env) cs R :=
  W.bnd (h.mono fun s c h => W.bnd (h.mono fun t c h => W.bnd (h.mono fun u c q => W.ret q)))
theorem W.asg {m : TgF} (h : W (fa cf env) cs fun d c => ∃ e, m d env = some e ∧ R (.next e) c) : W (sAsg fa m cf env) cs R :=
  W.bnd (h.mono fun d c h => let ⟨e, h1, q⟩ := h; W.bnd (W.of h1 (W.ret q)))
theorem W.app {i : Nat} (h : W (fa cf env) cs fun d c => ∃ e, appL i d env = some e ∧ R (.next e) c) : W (sApp i fa cf env) cs R :=
  W.bnd (h.mono fun d c h => let ⟨e, h1, q⟩ := h; W.bnd (W.of h1 (W.ret q)))
theorem W.sto {i : Nat} (h : W (fa cf env) cs fun d c => W (fb cf env) c fun k c => ∃ e, stoL i d k env = some e ∧ R (.next e) c) : W (sSto i fb fa cf env) cs R :=
  W.bnd (h.mono fun d c h => W.bnd (h.mono fun k c h => let ⟨e, h1, q⟩ := h; W.bnd (W.of h1 (W.ret q))))
theorem W.ssh {is : List Nat} (h : W (sa cf (shOf is env)) cs R) : W (sSh is sa cf env) cs R := h
theorem W.sfor {fi : SI} {m : TgF} (h : W (fi cf env) cs fun ds c => W (forL (forT m sa cf) ds env) c R) : W (sFor fi m sa cf env) cs R := W.bnd h
theorem W.forN {turn : D → Ev → M Flow} (q : R (.next env) cs) : W (forL turn [] env) cs R := W.ret q
theorem W.forC {turn : D → Ev → M Flow} {d : D} {ds : List D} (h : W (turn d env) cs fun fl c => match fl with
    | .next e => W (forL turn ds e) c R
    | .ret x => R (.ret x) c) : W (forL turn (d :: ds) env) cs R := by
  refine W.bnd (h.mono fun fl c h => ?_)
  cases fl with
  | next e => exact h
  | ret d => exact W.ret h
theorem W.forTn {m : TgF} {d : D} {e : Ev} (h : m d env = some e) (w : W (sa cf e) cs R) : W (forT m sa cf d env) cs R := by
  have q : forT m sa cf d env = sa cf e := by unfold forT; rw [h]
  rw [q]
  exact w
/-- a for by an invariant: I holds of the slots and the cup ahead of the items that are left -/
theorem W.forI {turn : D → Ev → M Flow} (I : List D → Ev → Cs → Prop) : ∀ {ds : List D} {env : Ev} {cs : Cs}, I ds env cs →
    (∀ d ds e c, I (d :: ds) e c → W (turn d e) c fun fl c => match fl with
      | .next e => I ds e c
      | .ret x => R (.ret x) c) → (∀ e c, I [] e c → R (.next e) c) → W (forL turn ds env) cs R
  | [], _, _, i, _, q => W.forN (q _ _ i)
  | d :: ds, _, _, i, t, q => W.forC ((t _ _ _ _ i).mono fun fl c h => by
    cases fl with
    | next e => exact W.forI I h t q
    | ret x => exact h)
theorem W.swh {n : Nat} (h : W (whL (ft cf) (sa cf) n env) cs R) : W (sWhile n ft sa cf env) cs R := h
theorem W.wh {t : Ev → M D} {a : Ev → M Flow} {n : Nat} (h : W (t env) cs fun x c => Bo x (W (a env) c fun fl c => match fl with
      | .next e => W (whL t a n e) c R
      | .ret d => R (.ret d) c) (R (.next env) c)) : W (whL t a (n + 1) env) cs R := by
  unfold whL
  refine W.bnd (h.mono fun x c h => ?_)
  obtain ⟨k, rfl, y, nn⟩ := h
  cases k with
  | true => exact W.bnd ((y rfl).mono fun fl c h => by
      cases fl with
      | next e => exact h
      | ret d => exact W.ret h)
  | false => exact W.ret (nn rfl)
/-- the cup -/
theorem W.cupGet {i : Nat} (h : W (fa cf env) cs fun k c => ∃ d, cupG i env k c = some d ∧ Q d c) : W (mCup i fa cf env) cs Q := by
  refine W.bnd (h.mono fun k c h => ?_)
  obtain ⟨d, e, q⟩ := h
  exact ⟨d, c, by show (match cupG i env k c with
    | some d => some (d, c)
    | none => none) = _; rw [e], q⟩
theorem W.cupPut {i : Nat} (h : W (fa cf env) cs fun d c => W (fb cf env) c fun k c => ∃ c', cupL i env d k c = some c' ∧ R (.next env) c') : W (sCup i fb fa cf env) cs R := by
  refine W.bnd (h.mono fun d c h => W.bnd (h.mono fun k c h => ?_))
  obtain ⟨c', e, q⟩ := h
  refine W.bnd ⟨(), c', ?_, W.ret q⟩
  show (match cupL i env d k c with
    | some cs' => some ((), cs')
    | none => none) = _
  rw [e]
/-- a def's run -/
theorem W.run {F : SS} {n p : Nat} {args : List Arg} (hp : args.length = p) (h : W (F cf (envOf n args)) cs fun fl c => Q (match fl with
    | .next _ => .none
    | .ret d => d) c) : W (runB F n p cf args) cs Q := by
  obtain ⟨fl, c, e, q⟩ := h
  refine ⟨_, c, ?_, q⟩
  unfold runB
  rw [if_pos hp, e]
  cases fl <;> rfl
end
/-! ### sizes -/
def Lv (k : Nat) (i : Int) : Prop := i.natAbs < 2 ^ 2 ^ k
theorem Lv.mono {k l : Nat} {i : Int} (h : Lv k i) (hl : k ≤ l) : Lv l i := Nat.lt_of_lt_of_le h (Nat.pow_le_pow_right (by omega) (Nat.pow_le_pow_right (by omega) hl))
theorem two_pow (k : Nat) : (2 : Nat) ^ 2 ^ (k + 1) = 2 ^ 2 ^ k * 2 ^ 2 ^ k := by
  rw [← Nat.pow_add, Nat.pow_succ, Nat.mul_two]
theorem two_le (k : Nat) : 2 ≤ (2 : Nat) ^ 2 ^ k := by
  have : (2 : Nat) ^ 1 ≤ 2 ^ 2 ^ k := Nat.pow_le_pow_right (by omega) Nat.one_le_two_pow
  omega
theorem Lv.mul {k : Nat} {i j : Int} (h : Lv k i) (g : Lv k j) : Lv (k + 1) (i * j) := by
  unfold Lv at *
  rw [Int.natAbs_mul, two_pow]
  exact Nat.mul_lt_mul'' h g
theorem Lv.add {k : Nat} {i j : Int} (h : Lv k i) (g : Lv k j) : Lv (k + 1) (i + j) := by
  unfold Lv at *
  have h1 := Int.natAbs_add_le i j
  rw [two_pow]
  have h2 := two_le k
  have h3 : 2 * 2 ^ 2 ^ k ≤ (2 : Nat) ^ 2 ^ k * 2 ^ 2 ^ k := Nat.mul_le_mul_right _ h2
  omega
theorem Lv.neg {k : Nat} {i : Int} (h : Lv k i) : Lv k (-i) := by
  unfold Lv at *
  rw [Int.natAbs_neg]
  exact h
theorem Lv.sub {k : Nat} {i j : Int} (h : Lv k i) (g : Lv k j) : Lv (k + 1) (i - j) := by
  rw [Int.sub_eq_add_neg]
  exact h.add g.neg
theorem Lv.log {i : Int} {k : Nat} (h : Lv k i) : i.natAbs.log2 < 2 ^ k ∨ i = 0 := by
  by_cases e : i = 0
  · exact .inr e
  · exact .inl ((Nat.log2_lt (by omega)).mpr h)
theorem log_lt {i : Int} {k : Nat} (h : Lv k i) : i.natAbs.log2 < 2 ^ k := by
  rcases h.log with h | rfl
  · exact h
  · exact Nat.two_pow_pos k
/-! ### operations -/
section
variable {Q : D → Prop}
theorem Op.of {o : Option D} {z : D} (h : o = some z) (q : Q z) : Op o Q := ⟨z, h, q⟩
theorem Op.add {i j : Int} (q : Q (.int (i + j))) : Op (gAdd (.int i) (.int j)) Q := ⟨_, rfl, q⟩
theorem Op.sub {i j : Int} (q : Q (.int (i - j))) : Op (gSub (.int i) (.int j)) Q := ⟨_, rfl, q⟩
theorem Op.mul {i j : Int} (h : Lv 18 i) (g : Lv 18 j) (q : Q (.int (i * j))) : Op (gMul (.int i) (.int j)) Q := by
  refine ⟨_, ?_, q⟩
  have h1 := log_lt h
  have h2 := log_lt g
  show (if i.natAbs.log2 + j.natAbs.log2 < 1000000 then Option.some (PyData.int (i * j)) else none) = _
  rw [if_pos (by omega)]
theorem Op.div {i j : Int} (h : j ≠ 0) (g : Lv 13 j) (q : Q (.int (i.fdiv j))) : Op (gDiv (.int i) (.int j)) Q := by
  refine ⟨_, ?_, q⟩
  have h2 := log_lt g
  show (if j ≠ 0 ∧ j.natAbs.log2 < 9000 then Option.some (PyData.int (i.fdiv j)) else none) = _
  rw [if_pos ⟨h, by omega⟩]
theorem Op.mod {i j : Int} (h : j ≠ 0) (q : Q (.int (i.fmod j))) : Op (gMod (.int i) (.int j)) Q := by
  refine ⟨_, ?_, q⟩
  show (if j ≠ 0 then Option.some (PyData.int (i.fmod j)) else none) = _
  rw [if_pos h]
theorem Op.eqI {i j : Int} (q : Q (.bool (decide (i = j)))) : Op (gEq (.int i) (.int j)) Q := ⟨_, rfl, q⟩
theorem Op.neI {i j : Int} (q : Q (.bool (!decide (i = j)))) : Op (gNe (.int i) (.int j)) Q := ⟨_, rfl, q⟩
theorem Op.ltI {i j : Int} (q : Q (.bool (decide (i < j)))) : Op (gLt (.int i) (.int j)) Q := ⟨_, rfl, q⟩
theorem Op.gtI {i j : Int} (q : Q (.bool (decide (j < i)))) : Op (gGt (.int i) (.int j)) Q := ⟨_, rfl, q⟩
theorem Op.leI {i j : Int} (q : Q (.bool (decide (i ≤ j)))) : Op (gLe (.int i) (.int j)) Q := ⟨_, rfl, q⟩
theorem Op.geI {i j : Int} (q : Q (.bool (decide (j ≤ i)))) : Op (gGe (.int i) (.int j)) Q := ⟨_, rfl, q⟩
theorem Op.gcd {i j : Int} (q : Q (.int ((Nat.gcd i.natAbs j.natAbs : Nat) : Int))) : Op (gGcd [.int i, .int j]) Q := ⟨_, rfl, q⟩
end
end Ev
end
section
set_option Elab.async false
set_option linter.all false
set_option maxRecDepth 100000
set_option maxHeartbeats 4000000
namespace Ev
open PySem hiding Flow Arg
open Se Nm
abbrev vi (l : List Int) : PyData := .tuple (l.map .int)
abbrev t2 (a b : Int) : PyData := .tuple [.int a, .int b]
abbrev t3 (a b c : Int) : PyData := .tuple [.int a, .int b, .int c]
abbrev t4 (a b c d : Int) : PyData := .tuple [.int a, .int b, .int c, .int d]
theorem exI {α : Sort _} {p q : α → Prop} {a : α} (h : p a) (g : q a) : ∃ x, p x ∧ q x := ⟨a, h, g⟩
theorem Lv.of {k n : Nat} {x : Int} (h : Bd n x) (hk : n < 2 ^ 2 ^ k) : Lv k x := Nat.lt_of_le_of_lt h hk
theorem _root_.Nm.Bd.lv {n : Nat} {x : Int} (h : Bd n x) (hn : n ≤ 1000000000000000000) : Lv 6 x := Nat.lt_of_le_of_lt (Nat.le_trans h hn) (by decide)
section
variable {cs : Cs} {cf : CF} {env : Ev} {fa fb fc ft : SE} {Q : PyData → Cs → Prop}
theorem Bo.t {Y N : Prop} (y : Y) : Bo (.bool true) Y N := ⟨true, rfl, fun _ => y, fun h => by cases h⟩
theorem Bo.f {Y N : Prop} (n : N) : Bo (.bool false) Y N := ⟨false, rfl, (fun h => by cases h), fun _ => n⟩
theorem Bo.d {p : Prop} [Decidable p] {Y N : Prop} (y : p → Y) (n : ¬p → N) : Bo (.bool (decide p)) Y N := ⟨_, rfl, fun h => y (of_decide_eq_true h), fun h => n (of_decide_eq_false h)⟩
theorem Bo.nd {p : Prop} [Decidable p] {Y N : Prop} (y : ¬p → Y) (n : p → N) : Bo (.bool (!decide p)) Y N := ⟨_, rfl, fun h => y (by simpa using h), fun h => n (by simpa using h)⟩
theorem Bo.b {k : Bool} {Y N : Prop} (y : k = true → Y) (n : k = false → N) : Bo (.bool k) Y N := ⟨_, rfl, y, n⟩
theorem W.iteI {p : Prop} {dp : Decidable p} {x y : Int} (h1 : ft cf env cs = some (.bool (@decide p dp), cs)) (h2 : fa cf env cs = some (.int x, cs)) (h3 : fb cf env cs = some (.int y, cs)) (q : Q (.int (@_root_.ite _ p dp x y)) cs) : W (mIf ft fa fb cf env) cs Q := by
  refine W.ite (W.eq h1 (Bo.d (fun h => W.eq h2 ?_) fun h => W.eq h3 ?_))
  · rw [if_pos h] at q; exact q
  · rw [if_neg h] at q; exact q
theorem W.andB {k l : Bool} (h1 : fa cf env cs = some (.bool k, cs)) (h2 : fb cf env cs = some (.bool l, cs)) (q : Q (.bool (k && l)) cs) : W (mAnd fa fb cf env) cs Q := by
  refine W.and (W.eq h1 (Bo.b (fun h => W.eq h2 ?_) fun h => ?_))
  · subst h; exact q
  · subst h; exact q
def nzD (d : PyData) : Option PyData := match d with
  | .int x => if x ≠ 0 then some (.int x) else none
  | _ => none
theorem nzD_map : ∀ l : List Int, (l.map PyData.int).filterMap nzD = (l.filter fun x => decide (x ≠ 0)).map .int
  | [] => rfl
  | x :: l => by
    rw [List.map_cons, List.filterMap_cons, nzD_map l, List.filter_cons]
    by_cases h : x = 0 <;> simp [h, nzD]
/-- the integers that are not 0, of a comprehension -/
theorem W.nz {i : Nat} {S : List PyData → Cs → Prop} (hi : i < env.length) : ∀ {l : List Int}, S ((l.filter fun x => decide (x ≠ 0)).map .int) cs → W (stepL (lcTurn cf env (gNm i) (mBin gNe (mPk i) (mLit (.int 0))) (mVar i)) (l.map .int)) cs S := fun {l} q => by
  have e : ∀ x : Int, (env.set i (.sh (.int x)))[i]? = some (.sh (.int x)) := fun x => List.getElem?_set_self hi
  refine W.lcF (f := nzD) (fun d hd => ?_) (by rw [nzD_map]; exact q)
  obtain ⟨x, _, rfl⟩ := List.mem_map.mp hd
  unfold lcTurn
  show lcB cf (env.set i (.sh (.int x))) _ _ cs = _
  unfold lcB M.bnd mBin mPk mLit M.bnd M.of
  simp only [e, gNe]
  by_cases h : x = 0
  · simp [h, M.ret, nzD]
  · simp [h, mVar, e, M.ret, M.bnd, nzD]
theorem W.nz2 {i : Nat} {S : List PyData → Cs → Prop} {a0 a1 : Int} (hi : i < env.length) (q : S (([a0, a1].filter fun x => decide (x ≠ 0)).map .int) cs) : W (stepL (lcTurn cf env (gNm i) (mBin gNe (mPk i) (mLit (.int 0))) (mVar i)) [.int a0, .int a1]) cs S := W.nz (l := [a0, a1]) hi q
theorem W.nz3 {i : Nat} {S : List PyData → Cs → Prop} {a0 a1 a2 : Int} (hi : i < env.length) (q : S (([a0, a1, a2].filter fun x => decide (x ≠ 0)).map .int) cs) : W (stepL (lcTurn cf env (gNm i) (mBin gNe (mPk i) (mLit (.int 0))) (mVar i)) [.int a0, .int a1, .int a2]) cs S := W.nz (l := [a0, a1, a2]) hi q
theorem W.nz4 {i : Nat} {S : List PyData → Cs → Prop} {a0 a1 a2 a3 : Int} (hi : i < env.length) (q : S (([a0, a1, a2, a3].filter fun x => decide (x ≠ 0)).map .int) cs) : W (stepL (lcTurn cf env (gNm i) (mBin gNe (mPk i) (mLit (.int 0))) (mVar i)) [.int a0, .int a1, .int a2, .int a3]) cs S := W.nz (l := [a0, a1, a2, a3]) hi q
theorem W.nz6 {i : Nat} {S : List PyData → Cs → Prop} {a0 a1 a2 a3 a4 a5 : Int} (hi : i < env.length) (q : S (([a0, a1, a2, a3, a4, a5].filter fun x => decide (x ≠ 0)).map .int) cs) : W (stepL (lcTurn cf env (gNm i) (mBin gNe (mPk i) (mLit (.int 0))) (mVar i)) [.int a0, .int a1, .int a2, .int a3, .int a4, .int a5]) cs S := W.nz (l := [a0, a1, a2, a3, a4, a5]) hi q
theorem W.nz9 {i : Nat} {S : List PyData → Cs → Prop} {a0 a1 a2 a3 a4 a5 a6 a7 a8 : Int} (hi : i < env.length) (q : S (([a0, a1, a2, a3, a4, a5, a6, a7, a8].filter fun x => decide (x ≠ 0)).map .int) cs) : W (stepL (lcTurn cf env (gNm i) (mBin gNe (mPk i) (mLit (.int 0))) (mVar i)) [.int a0, .int a1, .int a2, .int a3, .int a4, .int a5, .int a6, .int a7, .int a8]) cs S := W.nz (l := [a0, a1, a2, a3, a4, a5, a6, a7, a8]) hi q
theorem nz_head : ∀ {l : List Int}, NZ l → ∃ r, (l.filter fun x => decide (x ≠ 0)) = fnz l :: r
  | [], h => absurd rfl h
  | x :: l, h => by
    rw [List.filter_cons]
    unfold NZ fnz at h
    unfold fnz
    by_cases e : x = 0
    · rw [if_pos e] at h ⊢
      rw [if_neg (by simp [e])]
      exact nz_head h
    · rw [if_neg e, if_pos (by simp [e])]
      exact ⟨_, rfl⟩
theorem Op.head {l : List Int} {Q : PyData → Prop} (h : NZ l) (q : Q (.int (fnz l))) : Op (gIx (.list ((l.filter fun x => decide (x ≠ 0)).map .int)) (.int 0)) Q := by
  obtain ⟨r, e⟩ := nz_head h
  rw [e]
  refine ⟨_, ?_, q⟩
  show L2.atI (PyData.int (fnz l) :: r.map .int) 0 = _
  unfold L2.atI L2.ixN
  rw [if_pos (by omega), if_pos (by simp)]
  rfl
end
theorem gcd2 (a b : Int) : ((Nat.gcd a.natAbs b.natAbs : Nat) : Int) = (gcdL [a, b] : Nat) := by
  simp [gcdL]
theorem gcd3 (a b c : Int) : ((Nat.gcd ((Nat.gcd a.natAbs b.natAbs : Nat) : Int).natAbs c.natAbs : Nat) : Int) = (gcdL [a, b, c] : Nat) := by
  simp [gcdL, Nat.gcd_assoc]
theorem Op.divE {x s y : Int} {Q : PyData → Prop} (hs : s ≠ 0) (g : Lv 13 s) (e : x = s * y) (q : Q (.int y)) : Op (gDiv (.int x) (.int s)) Q := by
  refine Op.div hs g ?_
  have : x.fdiv s = y := by rw [e]; exact Int.mul_fdiv_cancel_left y hs
  rw [this]
  exact q
theorem Op.eqT {d e : PyData} {Q : PyData → Prop} (h : d = e) (hs : shp d = true) (q : Q (.bool true)) : Op (gEq d e) Q := by
  subst h
  refine ⟨_, ?_, q⟩
  have r := SeqAt.eqv_refl _ (SeqAt.canLay_of_shaped hs)
  cases d <;> simp [gEq, hs, r]
end Ev
end
section
set_option Elab.async false
set_option linter.all false
set_option maxRecDepth 100000
set_option maxHeartbeats 4000000
namespace Ev
open PySem hiding Flow Arg
open Se Nm
theorem W.toEq {α : Type} {m : M α} {cs : Cs} {x : α} (h : W m cs fun a c => a = x ∧ c = cs) : m cs = some (x, cs) := by
  obtain ⟨a, c, e, rfl, rfl⟩ := h
  exact e
section
variable {Q : PyData → Prop}
theorem eqv_int (a b : Int) : PyData.eqv (.int a) (.int b) = decide (a = b) := by
  simp only [PyData.eqv]
  by_cases h : a = b <;> simp [h]
theorem eqv2 (a0 a1 b0 b1 : Int) : PyData.eqv (t2 a0 a1) (t2 b0 b1) = decide (a0 = b0 ∧ a1 = b1) := by
  simp [PyData.eqv, PyData.eqvAll, Bool.decide_and]
  rfl
theorem Op.eq2 {a0 a1 b0 b1 : Int} (q : Q (.bool (decide (a0 = b0 ∧ a1 = b1)))) : Op (gEq (t2 a0 a1) (t2 b0 b1)) Q := by
  refine ⟨_, ?_, q⟩
  rw [← eqv2]
  rfl
theorem Op.ne2 {a0 a1 b0 b1 : Int} (q : Q (.bool (!decide (a0 = b0 ∧ a1 = b1)))) : Op (gNe (t2 a0 a1) (t2 b0 b1)) Q := by
  refine ⟨_, ?_, q⟩
  rw [← eqv2]
  rfl
theorem eqv3 (a0 a1 a2 b0 b1 b2 : Int) : PyData.eqv (t3 a0 a1 a2) (t3 b0 b1 b2) = decide (a0 = b0 ∧ a1 = b1 ∧ a2 = b2) := by
  simp [PyData.eqv, PyData.eqvAll, Bool.decide_and]
  rfl
theorem Op.eq3 {a0 a1 a2 b0 b1 b2 : Int} (q : Q (.bool (decide (a0 = b0 ∧ a1 = b1 ∧ a2 = b2)))) : Op (gEq (t3 a0 a1 a2) (t3 b0 b1 b2)) Q := by
  refine ⟨_, ?_, q⟩
  rw [← eqv3]
  rfl
theorem Op.ne3 {a0 a1 a2 b0 b1 b2 : Int} (q : Q (.bool (!decide (a0 = b0 ∧ a1 = b1 ∧ a2 = b2)))) : Op (gNe (t3 a0 a1 a2) (t3 b0 b1 b2)) Q := by
  refine ⟨_, ?_, q⟩
  rw [← eqv3]
  rfl
theorem eqv4 (a0 a1 a2 a3 b0 b1 b2 b3 : Int) : PyData.eqv (t4 a0 a1 a2 a3) (t4 b0 b1 b2 b3) = decide (a0 = b0 ∧ a1 = b1 ∧ a2 = b2 ∧ a3 = b3) := by
  simp [PyData.eqv, PyData.eqvAll, Bool.decide_and]
  rfl
theorem Op.eq4 {a0 a1 a2 a3 b0 b1 b2 b3 : Int} (q : Q (.bool (decide (a0 = b0 ∧ a1 = b1 ∧ a2 = b2 ∧ a3 = b3)))) : Op (gEq (t4 a0 a1 a2 a3) (t4 b0 b1 b2 b3)) Q := by
  refine ⟨_, ?_, q⟩
  rw [← eqv4]
  rfl
theorem Op.ne4 {a0 a1 a2 a3 b0 b1 b2 b3 : Int} (q : Q (.bool (!decide (a0 = b0 ∧ a1 = b1 ∧ a2 = b2 ∧ a3 = b3)))) : Op (gNe (t4 a0 a1 a2 a3) (t4 b0 b1 b2 b3)) Q := by
  refine ⟨_, ?_, q⟩
  rw [← eqv4]
  rfl
end
theorem NZ.of_nrm {l : List Int} (h : Nrm l) : NZ l := fun e => by
  have := h.2
  omega
theorem nrm_nz3 {a b c : Int} (h : Nrm [a, b, c]) : ¬(a = 0 ∧ b = 0 ∧ c = 0) := fun ⟨e1, e2, e3⟩ => by
  subst e1 e2 e3
  have := h.2
  simp [fnz] at this
theorem NZ3 {a b c : Int} : NZ [a, b, c] ↔ a ≠ 0 ∨ b ≠ 0 ∨ c ≠ 0 := by
  unfold NZ fnz fnz fnz fnz
  by_cases h1 : a = 0 <;> by_cases h2 : b = 0 <;> by_cases h3 : c = 0 <;> simp [h1, h2, h3]
theorem NZ2 {a b : Int} : NZ [a, b] ↔ a ≠ 0 ∨ b ≠ 0 := by
  unfold NZ fnz fnz fnz
  by_cases h1 : a = 0 <;> by_cases h2 : b = 0 <;> simp [h1, h2]
theorem NZ4 {a b c d : Int} : NZ [a, b, c, d] ↔ a ≠ 0 ∨ b ≠ 0 ∨ c ≠ 0 ∨ d ≠ 0 := by
  unfold NZ fnz fnz fnz fnz fnz
  by_cases h1 : a = 0 <;> by_cases h2 : b = 0 <;> by_cases h3 : c = 0 <;> by_cases h4 : d = 0 <;> simp [h1, h2, h3, h4]
/-- a place: its bottom and top -/
structure Pl (p q : Int) : Prop where
  nrm : Nrm [q, p]
theorem Pl.cases {p q : Int} (h : Pl p q) : Nat.gcd p.natAbs q.natAbs = 1 ∧ (0 < q ∨ (q = 0 ∧ p = 1)) := by
  obtain ⟨h1, h2⟩ := h.nrm
  simp only [gcdL, fnz, Nat.gcd_zero_right] at h1 h2
  have h3 : Nat.gcd p.natAbs q.natAbs = 1 := by rw [Nat.gcd_comm]; exact h1
  refine ⟨h3, ?_⟩
  by_cases e : q = 0
  · refine .inr ⟨e, ?_⟩
    subst e
    simp at h1 h2
    by_cases z : p = 0
    · simp [z] at h2
    · simp [z] at h2
      omega
  · rw [if_neg e] at h2
    exact .inl h2
theorem Pl.of {p q : Int} (h1 : Nat.gcd p.natAbs q.natAbs = 1) (h2 : 0 < q ∨ (q = 0 ∧ p = 1)) : Pl p q := by
  refine ⟨⟨by simp only [gcdL, Nat.gcd_zero_right]; rw [Nat.gcd_comm]; exact h1, ?_⟩⟩
  simp only [fnz]
  rcases h2 with h | ⟨rfl, rfl⟩
  · rw [if_neg (by omega)]
    exact h
  · simp
theorem Pl.eq {p q r s k m : Int} (h : Pl p q) (g : Pl r s) (hk : k ≠ 0) (hm : m ≠ 0) (h1 : k * p = m * r) (h2 : k * q = m * s) : p = r ∧ q = s := by
  obtain ⟨a, b⟩ := h.nrm.eq2 g.nrm hk hm h2 h1
  exact ⟨b, a⟩
theorem Pl.ne {p q : Int} (h : Pl p q) : p ≠ 0 ∨ q ≠ 0 := by
  rcases h.cases.2 with h | h
  · exact .inr (by omega)
  · exact .inl (by omega)
end Ev
end
section
set_option Elab.async false
set_option linter.all false
set_option maxRecDepth 100000
set_option maxHeartbeats 4000000
namespace Ev
open PySem hiding Flow Arg
open Se Nm
class GetL (l : Ev) (i : Nat) (x : outParam Slot) : Prop where
  ok : l[i]? = some x
class SetL (l : Ev) (i : Nat) (a : Slot) (r : outParam Ev) : Prop where
  ok : l.set i a = r
class WipeL (l : Ev) (vs : List Nat) (r : outParam Ev) : Prop where
  ok : wipeE l vs = r
class ShL (is : List Nat) (l : Ev) (r : outParam Ev) : Prop where
  ok : shOf is l = r
class NoL (l : Ev) (r : outParam Ev) : Prop where
  ok : noOw l = r
class EnvL (n : Nat) (args : List Se.Arg) (r : outParam Ev) : Prop where
  ok : envOf n args = r
section
variable {x y a b : Slot} {l l' r e : Ev} {i j n : Nat} {vs is : List Nat} {d : PyData} {args : List Se.Arg}
instance : GetL (x :: l) 0 x := ⟨rfl⟩
instance [g : GetL l i x] : GetL (y :: l) (i + 1) x := ⟨by rw [List.getElem?_cons_succ]; exact g.ok⟩
instance : SetL (x :: l) 0 a (a :: l) := ⟨rfl⟩
instance [g : SetL l i a r] : SetL (y :: l) (i + 1) a (y :: r) := ⟨by rw [List.set_cons_succ, g.ok]⟩
instance [g : SetL l j b l'] [h : SetL l' i a r] : SetL (l.set j b) i a r := ⟨by rw [g.ok, h.ok]⟩
instance : WipeL l [] l := ⟨rfl⟩
instance [g : WipeL l vs l'] [h : SetL l' i .no r] : WipeL l (i :: vs) r := ⟨by unfold wipeE; rw [g.ok, h.ok]⟩
instance : ShL [] l l := ⟨rfl⟩
instance shL1 [g : GetL l i (.ow d)] [h : SetL l i (.sh d) l'] [k : ShL is l' r] : ShL (i :: is) l r := ⟨by unfold shOf; rw [g.ok]; show shOf is (l.set i (.sh d)) = r; rw [h.ok, k.ok]⟩
instance shL2 [g : GetL l i (.sh d)] [k : ShL is l r] : ShL (i :: is) l r := ⟨by unfold shOf; rw [g.ok]; exact k.ok⟩
instance shL3 [g : GetL l i .no] [k : ShL is l r] : ShL (i :: is) l r := ⟨by unfold shOf; rw [g.ok]; exact k.ok⟩
instance : NoL [] [] := ⟨rfl⟩
instance [g : NoL l r] : NoL (.sh d :: l) (.sh d :: r) := ⟨by unfold noOw; rw [List.map_cons]; show _ :: noOw l = _; rw [g.ok]; rfl⟩
instance [g : NoL l r] : NoL (.no :: l) (.no :: r) := ⟨by unfold noOw; rw [List.map_cons]; show _ :: noOw l = _; rw [g.ok]; rfl⟩
instance [g : NoL l r] : NoL (.cup :: l) (.cup :: r) := ⟨by unfold noOw; rw [List.map_cons]; show _ :: noOw l = _; rw [g.ok]; rfl⟩
instance [g : NoL l r] : NoL (.ow d :: l) (.no :: r) := ⟨by unfold noOw; rw [List.map_cons]; show _ :: noOw l = _; rw [g.ok]; rfl⟩
theorem envOf_dat {n : Nat} {a : Se.Arg} {as : List Se.Arg} : envOf (n + 1) (a :: as) = slotOf a :: envOf n as := by
  unfold envOf
  rw [List.map_cons, List.cons_append, List.length_cons]
  congr 3
  omega
instance : EnvL 0 [] [] := ⟨rfl⟩
instance [g : EnvL n [] r] : EnvL (n + 1) [] (.no :: r) := ⟨by
  have := g.ok
  unfold envOf at this ⊢
  rw [List.length_nil, Nat.sub_zero] at this ⊢
  rw [List.replicate_succ]
  simpa using this⟩
instance [g : EnvL n args r] : EnvL (n + 1) (.dat d :: args) (.sh d :: r) := ⟨by rw [envOf_dat, g.ok]; rfl⟩
instance [g : EnvL n args r] : EnvL (n + 1) (.cup :: args) (.cup :: r) := ⟨by rw [envOf_dat, g.ok]; rfl⟩
end
theorem W.setN {α : Type} {F : Ev → M α} {l e : Ev} {i : Nat} {a : Slot} {cs : Cs} {Q : α → Cs → Prop} [g : SetL l i a e] (w : W (F e) cs Q) : W (F (l.set i a)) cs Q := by rw [g.ok]; exact w
theorem W.run' {F : SS} {n p : Nat} {args : List Se.Arg} {e : Ev} {cf : CF} {cs : Cs} {Q : PyData → Cs → Prop} [g : EnvL n args e] (hp : args.length = p) (h : W (F cf e) cs fun fl c => Q (match fl with
    | .next _ => .none
    | .ret d => d) c) : W (runB F n p cf args) cs Q := W.run hp (by rw [g.ok]; exact h)
class St {α : Type} (m : M α) (cs : Cs) (Q : α → Cs → Prop) (P : outParam Prop) : Prop where
  ok : P → W m cs Q
class OS (o : Option PyData) (Q : PyData → Prop) (P : outParam Prop) : Prop where
  ok : P → Op o Q
section
variable {α β : Type} {cs : Cs} {cf : CF} {env : Ev} {fa fb fc ft : SE} {Q : PyData → Cs → Prop} {R : Se.Flow → Cs → Prop} {sa sb : SS} {f g h' : SW} {QS : Slot → Cs → Prop} {S : List PyData → Cs → Prop}
instance {m : M α} {f : α → M β} {Q : β → Cs → Prop} : St (M.bnd m f) cs Q (W m cs fun a c => W (f a) c Q) := ⟨W.bnd⟩
instance {a : α} {Q : α → Cs → Prop} : St (M.ret a) cs Q (Q a cs) := ⟨W.ret⟩
instance {i : Nat} {d : PyData} [g : GetL env i (.sh d)] : St (mVar i cf env) cs Q (Q d cs) := ⟨fun q => W.var g.ok q⟩
instance pk1 {i : Nat} {d : PyData} [g : GetL env i (.sh d)] : St (mPk i cf env) cs Q (Q d cs) := ⟨fun q => W.pk g.ok q⟩
instance pk2 {i : Nat} {d : PyData} [g : GetL env i (.ow d)] : St (mPk i cf env) cs Q (Q d cs) := ⟨fun q => W.pkO g.ok q⟩
instance {d : PyData} : St (mLit d cf env) cs Q (Q d cs) := ⟨W.lit⟩
instance {g : PyData → PyData → Option PyData} : St (mBin g fa fb cf env) cs Q (W (fa cf env) cs fun x c => W (fb cf env) c fun y c => Op (g x y) fun z => Q z c) := ⟨W.bin⟩
instance : St (mNeg fa cf env) cs Q (W (fa cf env) cs fun x c => ∃ i, x = .int i ∧ Q (.int (-i)) c) := ⟨W.neg⟩
instance : St (mAnd fa fb cf env) cs Q (W (fa cf env) cs fun x c => Bo x (W (fb cf env) c Q) (Q (.bool false) c)) := ⟨W.and⟩
instance : St (mOr fa fb cf env) cs Q (W (fa cf env) cs fun x c => Bo x (Q (.bool true) c) (W (fb cf env) c Q)) := ⟨W.or⟩
instance : St (mNot fa cf env) cs Q (W (fa cf env) cs fun x c => ∃ k, x = .bool k ∧ Q (.bool !k) c) := ⟨W.not⟩
instance {g g' : PyData → PyData → Option PyData} : St (mChain g g' fa fb fc cf env) cs Q (W (fa cf env) cs fun x c => W (fb cf env) c fun y c => Op (g x y) fun z => Bo z (W (fc cf env) c fun w c => Op (g' y w) fun z => Q z c) (Q (.bool false) c)) := ⟨W.chain⟩
instance {Q : List α → Cs → Prop} : St ((mNil : SA α) cf env) cs Q (Q [] cs) := ⟨W.nil⟩
instance {fa : CF → Ev → M α} {fr : SA α} {Q : List α → Cs → Prop} : St (mCons fa fr cf env) cs Q (W (fa cf env) cs fun x c => W (fr cf env) c fun xs c => Q (x :: xs) c) := ⟨W.cons⟩
instance {Q : Se.Arg → Cs → Prop} : St (aDat fa cf env) cs Q (W (fa cf env) cs fun x c => Q (.dat x) c) := ⟨W.dat⟩
instance {i : Nat} {Q : Se.Arg → Cs → Prop} [g : GetL env i .cup] : St (aCup i cf env) cs Q (Q .cup cs) := ⟨fun h => W.cupA g.ok h⟩
instance {fs : SA PyData} : St (mTup fs cf env) cs Q (W (fs cf env) cs fun ds c => Q (.tuple ds) c) := ⟨W.tup⟩
instance {fs : SA PyData} : St (mLst fs cf env) cs Q (W (fs cf env) cs fun ds c => Q (.list ds) c) := ⟨W.lst⟩
instance {i : Nat} {fs : SA Se.Arg} : St (mCall i fs cf env) cs Q (W (fs cf env) cs fun as c => W (cf i as) c Q) := ⟨W.call⟩
instance {g : List PyData → Option PyData} {fs : SA PyData} : St (mBI g fs cf env) cs Q (W (fs cf env) cs fun ds c => Op (g ds) fun z => Q z c) := ⟨W.bi⟩
instance {k : PyData → Bool} : St (mIsi k fa cf env) cs Q (W (fa cf env) cs fun x c => Q (.bool (k x)) c) := ⟨W.isi⟩
instance : St (mSeq fa cf env) cs S (W (fa cf env) cs fun x c => ∃ ds, sqL x = some ds ∧ S ds c) := ⟨W.seqL⟩
instance {g : List PyData → Option (List PyData)} {fs : SA PyData} : St (mIter g fs cf env) cs S (W (fs cf env) cs fun ds c => ∃ es, g ds = some es ∧ S es c) := ⟨W.iter⟩
instance {Q : Option Int → Cs → Prop} : St (mNo cf env) cs Q (Q none cs) := ⟨W.cutNo⟩
instance {Q : Option Int → Cs → Prop} : St (mYes fa cf env) cs Q (W (fa cf env) cs fun x c => ∃ i, x = .int i ∧ Q (some i) c) := ⟨W.cutYes⟩
instance {lo hi : CF → Ev → M (Option Int)} : St (mCut fa lo hi cf env) cs Q (W (fa cf env) cs fun x c => W (lo cf env) c fun l c => W (hi cf env) c fun h c => Op (gCut x l h) fun z => Q z c) := ⟨W.cut⟩
instance {vs : List Nat} {fi : SI} {m : TgF} {e0 : Ev} [g : WipeL env vs e0] : St (mLc vs fi m ft fa cf env) cs Q (W (fi cf env) cs fun ds c => ds.length ≤ line ∧ W (stepL (lcTurn cf e0 m ft fa) ds) c fun r c => Q (.list r) c) := ⟨fun h => W.lc (by rw [g.ok]; exact h)⟩
instance {vs vs1 : List Nat} {fi fi1 : SI} {m m1 : TgF} {ft1 fe : SE} {e0 : Ev} [g : WipeL env vs e0] : St (mLc2 vs vs1 fi m ft fi1 m1 ft1 fe cf env) cs Q (W (fi cf env) cs fun ds c => W (stepM (lcOut cf e0 m vs1 ft fi1 m1 ft1 fe) ds) c fun r c => r.length ≤ line ∧ Q (.list r) c) := ⟨fun h => W.lc2 (by rw [g.ok]; exact h)⟩
instance : St (sSeq sa sb cf env) cs R (W (sa cf env) cs fun fl c => match fl with
    | .next e => W (sb cf e) c R
    | .ret d => R (.ret d) c) := ⟨W.seq⟩
instance : St (sNil cf env) cs R (R (.next env) cs) := ⟨W.snil⟩
instance : St (sRet fa cf env) cs R (W (fa cf env) cs fun d c => R (.ret d) c) := ⟨W.sret⟩
instance : St (sRetN cf env) cs R (R (.ret .none) cs) := ⟨W.sretN⟩
instance : St (sDrop fa cf env) cs R (W (fa cf env) cs fun d c => R (.next env) c) := ⟨W.sdrop⟩
instance : St (sIf ft sa sb cf env) cs R (W (ft cf env) cs fun x c => Bo x (W (sa cf env) c R) (W (sb cf env) c R)) := ⟨W.sif⟩
instance : St (mSh fa cf env) cs QS (W (fa cf env) cs fun d c => QS (.sh d) c) := ⟨W.sh⟩
instance : St (mOw fa cf env) cs QS (W (fa cf env) cs fun d c => QS (.ow d) c) := ⟨W.ow⟩
instance {i : Nat} : St (sSet i f cf env) cs R (W (f cf env) cs fun s c => R (.next (env.set i s)) c) := ⟨W.set⟩
instance {i j : Nat} : St (sPar2 i j f g cf env) cs R (W (f cf env) cs fun s c => W (g cf env) c fun t c => R (.next ((env.set i s).set j t)) c) := ⟨W.par2⟩
instance {i j l : Nat} : St (sPar3 i j l f g h' cf env) cs R (W (f cf env) cs fun s c => W (g cf env) c fun t c => W (h' cf env) c fun u c => R (.next (((env.set i s).set j t).set l u)) c) := ⟨W.par3⟩
instance {m : TgF} : St (sAsg fa m cf env) cs R (W (fa cf env) cs fun d c => ∃ e, m d env = some e ∧ R (.next e) c) := ⟨W.asg⟩
instance {i : Nat} : St (sApp i fa cf env) cs R (W (fa cf env) cs fun d c => ∃ e, appL i d env = some e ∧ R (.next e) c) := ⟨W.app⟩
instance {i : Nat} : St (sSto i fb fa cf env) cs R (W (fa cf env) cs fun d c => W (fb cf env) c fun k c => ∃ e, stoL i d k env = some e ∧ R (.next e) c) := ⟨W.sto⟩
instance {is : List Nat} {e : Ev} [g : ShL is env e] : St (sSh is sa cf env) cs R (W (sa cf e) cs R) := ⟨fun h => W.ssh (by rw [g.ok]; exact h)⟩
instance {fi : SI} {m : TgF} : St (sFor fi m sa cf env) cs R (W (fi cf env) cs fun ds c => W (forL (forT m sa cf) ds env) c R) := ⟨W.sfor⟩
instance {m : TgF} {d : PyData} : St (forT m sa cf d env) cs R (∃ e, m d env = some e ∧ W (sa cf e) cs R) := ⟨fun ⟨_, h, w⟩ => W.forTn h w⟩
instance {i : Nat} : St (mCup i fa cf env) cs Q (W (fa cf env) cs fun k c => ∃ d, cupG i env k c = some d ∧ Q d c) := ⟨W.cupGet⟩
instance {i : Nat} : St (sCup i fb fa cf env) cs R (W (fa cf env) cs fun d c => W (fb cf env) c fun k c => ∃ c', cupL i env d k c = some c' ∧ R (.next env) c') := ⟨W.cupPut⟩
instance {e0 : Ev} {m : TgF} {d : PyData} {Q : Option PyData → Cs → Prop} : St (lcTurn cf e0 m ft fa d) cs Q (∃ e1, m d e0 = some e1 ∧ W (ft cf e1) cs fun b c => Bo b (W (fa cf e1) c fun x c => Q (some x) c) (Q none c)) := ⟨fun ⟨_, h, w⟩ => W.turn h w⟩
instance {e0 : Ev} {m m1 : TgF} {vs1 : List Nat} {fi1 : SI} {ft1 fe : SE} {d : PyData} {Q : List PyData → Cs → Prop} : St (lcOut cf e0 m vs1 ft fi1 m1 ft1 fe d) cs Q (∃ e1, m d e0 = some e1 ∧ W (ft cf e1) cs fun b c => Bo b (W (fi1 cf e1) c fun ds c => W (stepL (lcTurn cf (noOw (wipeE e1 vs1)) m1 ft1 fe) ds) c Q) (Q [] c)) := ⟨fun ⟨_, h, w⟩ => W.out h w⟩
end
section
variable {Q : PyData → Prop} {i j : Int}
instance : OS (gAdd (.int i) (.int j)) Q (Q (.int (i + j))) := ⟨Op.add⟩
instance : OS (gSub (.int i) (.int j)) Q (Q (.int (i - j))) := ⟨Op.sub⟩
instance : OS (gMul (.int i) (.int j)) Q ((Lv 18 i ∧ Lv 18 j) ∧ Q (.int (i * j))) := ⟨fun h => Op.mul h.1.1 h.1.2 h.2⟩
instance : OS (gEq (.int i) (.int j)) Q (Q (.bool (decide (i = j)))) := ⟨Op.eqI⟩
instance : OS (gNe (.int i) (.int j)) Q (Q (.bool (!decide (i = j)))) := ⟨Op.neI⟩
instance : OS (gLt (.int i) (.int j)) Q (Q (.bool (decide (i < j)))) := ⟨Op.ltI⟩
instance : OS (gGt (.int i) (.int j)) Q (Q (.bool (decide (j < i)))) := ⟨Op.gtI⟩
instance : OS (gLe (.int i) (.int j)) Q (Q (.bool (decide (i ≤ j)))) := ⟨Op.leI⟩
instance : OS (gGe (.int i) (.int j)) Q (Q (.bool (decide (j ≤ i)))) := ⟨Op.geI⟩
instance : OS (gGcd [.int i, .int j]) Q (Q (.int ((Nat.gcd i.natAbs j.natAbs : Nat) : Int))) := ⟨Op.gcd⟩
end
end Ev
end
section
set_option Elab.async false
set_option linter.all false
set_option maxRecDepth 100000
namespace Ev
open PySem hiding Flow Arg
open Se Nm
theorem W.stepTr {cf : CF} {e0 : Ev} {m : TgF} {fa : SE} {d : PyData} {ds : List PyData} {cs : Cs} {Q : List PyData → Cs → Prop} (h : ∃ e1, m d e0 = some e1 ∧ W (fa cf e1) cs fun x c => W (stepL (lcTurn cf e0 m (mLit (.bool true)) fa) ds) c fun r c => Q (x :: r) c) : W (stepL (lcTurn cf e0 m (mLit (.bool true)) fa) (d :: ds)) cs Q := by
  obtain ⟨e1, he, w⟩ := h
  exact W.stepC (W.turn he (W.lit ⟨true, rfl, fun _ => w, fun h => by cases h⟩))
end Ev
end
section
set_option Elab.async false
set_option linter.all false
set_option maxRecDepth 100000
namespace Ev
open PySem hiding Flow Arg
open Se Nm
section
variable {cs : Cs} {cf : CF} {env : Ev} {fa : SE} {Q : PyData → Cs → Prop}
theorem W.rev (h : W (fa cf env) cs fun x c => Op (gRev x) fun z => Q z c) : W (mRev fa cf env) cs Q := by
  refine W.bnd (h.mono fun x c h => ?_)
  obtain ⟨z, e, q⟩ := h
  exact W.of e q
theorem W.dget {tbl : Tbl} (h : W (fa cf env) cs fun x c => Op (gDget tbl x) fun z => Q z c) : W (mDget tbl fa cf env) cs Q := by
  refine W.bnd (h.mono fun x c h => ?_)
  obtain ⟨z, e, q⟩ := h
  exact W.of e q
instance : St (mRev fa cf env) cs Q (W (fa cf env) cs fun x c => Op (gRev x) fun z => Q z c) := ⟨W.rev⟩
instance {tbl : Tbl} : St (mDget tbl fa cf env) cs Q (W (fa cf env) cs fun x c => Op (gDget tbl x) fun z => Q z c) := ⟨W.dget⟩
theorem stopSt {f : PyData → M (Option PyData)} {ds : List PyData} {S : List PyData → Cs → Prop} (h : W (stepL f ds) cs S) : W (stepL f ds) cs S := h
theorem stopMt {f : PyData → M (List PyData)} {ds : List PyData} {S : List PyData → Cs → Prop} (h : W (stepM f ds) cs S) : W (stepM f ds) cs S := h
theorem stopFo {turn : PyData → Ev → M Se.Flow} {ds : List PyData} {S : Se.Flow → Cs → Prop} (h : W (forL turn ds env) cs S) : W (forL turn ds env) cs S := h
end
end Ev
end
section
set_option Elab.async false
set_option linter.all false
set_option maxRecDepth 100000
set_option maxHeartbeats 400000
namespace Ev
open PySem hiding Flow Arg
open Se Nm
/-! math.isqrt -/
theorem root_ex : ∀ n : Nat, ∃ r, r * r ≤ n ∧ n < (r + 1) * (r + 1)
  | 0 => ⟨0, by decide, by decide⟩
  | n + 1 => by
    obtain ⟨r, h1, h2⟩ := root_ex n
    by_cases h : n + 1 < (r + 1) * (r + 1)
    · exact ⟨r, by omega, h⟩
    · refine ⟨r + 1, by omega, ?_⟩
      have : (r + 1 + 1) * (r + 1 + 1) = (r + 1) * (r + 1) + 2 * (r + 1) + 1 := by grind
      omega
theorem isqGo_ok {n r : Nat} (h1 : r * r ≤ n) (h2 : n < (r + 1) * (r + 1)) (hr : 1 ≤ r) : ∀ (f x : Nat), r ≤ x → x - r < 2 ^ f → isqGo f n x = r
  | 0, x, hx, hf => by
    have : x = r := by omega
    rw [this]
    rfl
  | f + 1, x, hx, hf => by
    unfold isqGo
    by_cases e : x = r
    · subst e
      have : x ≤ n / x := (Nat.le_div_iff_mul_le (by omega)).mpr h1
      rw [if_neg (by omega)]
    · have h3 : n / x ≤ r := by
        have : n / x < r + 1 := (Nat.div_lt_iff_lt_mul (by omega)).mpr (Nat.lt_of_lt_of_le h2 (Nat.mul_le_mul_left _ (by omega)))
        omega
      have h4 : 2 * r ≤ x + n / x := by
        by_cases g : 2 * r ≤ x
        · exact Nat.le_trans g (Nat.le_add_right _ _)
        · have : 2 * r - x ≤ n / x := by
            rw [Nat.le_div_iff_mul_le (by omega)]
            refine Nat.le_trans ?_ h1
            obtain ⟨d, rfl⟩ : ∃ d, x = r + d := ⟨x - r, by omega⟩
            have e2 : 2 * r - (r + d) = r - d := by omega
            rw [e2]
            obtain ⟨k, rfl⟩ : ∃ k, r = d + k := ⟨r - d, by omega⟩
            have e3 : d + k - d = k := by omega
            rw [e3]
            have : (d + k) * (d + k) = k * (d + k + d) + d * d := by grind
            omega
          generalize n / x = j at this
          omega
      generalize n / x = j at h3 h4
      rw [if_pos (by omega)]
      refine isqGo_ok h1 h2 hr f _ (by omega) ?_
      rw [Nat.pow_succ] at hf
      omega
theorem isq_ok {n : Nat} (hn : n < 18446744073709551616) : isq n * isq n ≤ n ∧ n < (isq n + 1) * (isq n + 1) := by
  unfold isq
  by_cases h : n < 2
  · rw [if_pos h]
    have : n = 0 ∨ n = 1 := by omega
    rcases this with rfl | rfl <;> decide
  · rw [if_neg h]
    obtain ⟨r, h1, h2⟩ := root_ex n
    have hr : 1 ≤ r := by
      refine Nat.pos_of_ne_zero fun z => ?_
      subst z
      omega
    have hl : n.log2 < 64 := (Nat.log2_lt (by omega)).mpr hn
    have h3 : n < 2 ^ (n.log2 + 1) := Nat.lt_log2_self
    have h4 : r ≤ 2 ^ (n.log2 / 2 + 1) := by
      refine Nat.le_of_not_lt fun g => ?_
      have g2 := Nat.mul_le_mul (Nat.le_of_lt g) (Nat.le_of_lt g)
      rw [← Nat.pow_add] at g2
      have g3 : (2 : Nat) ^ (n.log2 + 1) ≤ 2 ^ (n.log2 / 2 + 1 + (n.log2 / 2 + 1)) := Nat.pow_le_pow_right (by decide) (by omega)
      omega
    have h5 : (2 : Nat) ^ (n.log2 / 2 + 1) < 2 ^ 200 := Nat.pow_lt_pow_right (by decide) (by omega)
    rw [isqGo_ok h1 h2 hr 200 _ h4 (by omega)]
    exact ⟨h1, h2⟩
theorem Op.isqrt {a : Int} {Q : PyData → Prop} (h0 : 0 ≤ a) (h1 : a < 18446744073709551616) (q : ∀ r : Nat, (r : Int) * r ≤ a → a < ((r : Int) + 1) * (r + 1) → Q (.int r)) : Op (gIsqrt [.int a]) Q := by
  obtain ⟨n, rfl⟩ := Int.eq_ofNat_of_zero_le h0
  have hn : n < 18446744073709551616 := by omega
  obtain ⟨g1, g2⟩ := isq_ok hn
  refine ⟨.int (isq n), ?_, q _ (by exact_mod_cast g1) (by exact_mod_cast g2)⟩
  show (if 0 ≤ (n : Int) ∧ (n : Int) < 18446744073709551616 ∧ isq (n : Int).toNat * isq (n : Int).toNat ≤ (n : Int).toNat ∧ (n : Int).toNat < (isq (n : Int).toNat + 1) * (isq (n : Int).toNat + 1) then some (PyData.int (isq (n : Int).toNat)) else none) = _
  rw [Int.toNat_natCast, if_pos ⟨h0, h1, g1, g2⟩]
theorem root_uniq {a : Int} {r : Nat} (h1 : (r : Int) * r ≤ a) (h2 : a < ((r : Int) + 1) * (r + 1)) {s : Int} (hs : s * s = a) : (r : Int) * r = a := by
  have e : s.natAbs = r := by
    have hs' : (s.natAbs : Int) * s.natAbs = a := by rw [← hs]; exact Int.natAbs_mul_self
    have g1 : r * r ≤ s.natAbs * s.natAbs := by
      have : (r : Int) * r ≤ (s.natAbs : Int) * s.natAbs := by omega
      exact_mod_cast this
    have g2 : s.natAbs * s.natAbs < (r + 1) * (r + 1) := by
      have : (s.natAbs : Int) * s.natAbs < ((r : Int) + 1) * (r + 1) := by omega
      exact_mod_cast this
    have a1 := Nat.mul_self_le_mul_self_iff.mp g1
    have a2 := Nat.mul_self_lt_mul_self_iff.mp g2
    omega
  rw [← e, ← hs]
  exact Int.natAbs_mul_self
end Ev
namespace Ev
open PySem hiding Flow Arg
open Se Nm
/-- a while by an invariant and a measure that falls -/
theorem W.whI {t : Ev → M PyData} {a : Ev → M Se.Flow} {R : Se.Flow → Cs → Prop} (I : Nat → Ev → Cs → Prop) (step : ∀ m e c, I m e c → W (t e) c fun x c => Bo x (W (a e) c fun fl c => match fl with
      | .next e => ∃ m', m' < m ∧ I m' e c
      | .ret d => R (.ret d) c) (R (.next e) c)) : ∀ {n m : Nat} {env : Ev} {cs : Cs}, I m env cs → m < n → W (whL t a n env) cs R
  | 0, _, _, _, _, h => absurd h (Nat.not_lt_zero _)
  | n + 1, m, env, cs, i, h => by
    refine W.wh ((step m env cs i).mono fun x c b => b.mono (fun w => w.mono fun fl c g => ?_) fun q => q)
    cases fl with
    | next e =>
      obtain ⟨m', hm, i'⟩ := g
      exact W.whI I step i' (by omega)
    | ret d => exact g
end Ev
end
section
set_option Elab.async false
set_option linter.all false
set_option maxRecDepth 100000
set_option maxHeartbeats 4000000
namespace Wk
open PySem PySem.Spec PyProof.Rows L2 Se
/-! is_whole -/
abbrev N0 : List Str := ["value", "low", "high"]
abbrev F0 : SS := (sRet (mAnd (mIsi kInt (mPk 0)) (mAnd (mNot (mIsi kBool (mPk 0))) (mChain gLe gLe (mPk 1) (mPk 0) (mPk 2)))))
/-! need_whole -/
abbrev N1 : List Str := ["value", "low", "high"]
abbrev F1 : SS := (sIf (mNot (mCall 0 (mCons (aDat (mVar 0)) (mCons (aDat (mVar 1)) (mCons (aDat (mVar 2)) mNil))))) sNever sNil)
/-! is_tuple_of -/
abbrev N2 : List Str := ["value", "low", "high"]
abbrev F2 : SS := (sRet (mAnd (mIsi kTuple (mPk 0)) (mChain gLe gLe (mPk 1) (mBI gLen (mCons (mPk 0) mNil)) (mPk 2))))
/-! lowest -/
abbrev N3 : List Str := ["top", "bottom", "shared"]
abbrev F3 : SS := (sSeq (sSet 2 (mSh (mBI gGcd (mCons (mPk 0) (mCons (mPk 1) mNil)))))
  (sSeq (sSet 2 (mSh (mIf (mBin gGt (mPk 1) (mLit (.int 0))) (mVar 2) (mNeg (mVar 2)))))
  (sRet (mTup (mCons (mBin gDiv (mPk 0) (mPk 2)) (mCons (mBin gDiv (mPk 1) (mPk 2)) mNil))))))
/-! fits_place -/
abbrev N4 : List Str := ["value", "most"]
abbrev F4 : SS := (sSeq (sIf (mOr (mNot (mCall 2 (mCons (aDat (mVar 0)) (mCons (aDat (mLit (.int 2))) (mCons (aDat (mLit (.int 2))) mNil))))) (mOr (mNot (mCall 0 (mCons (aDat (mBin gIx (mPk 0) (mLit (.int 0)))) (mCons (aDat (mNeg (mVar 1))) (mCons (aDat (mVar 1)) mNil))))) (mNot (mCall 0 (mCons (aDat (mBin gIx (mPk 0) (mLit (.int 1)))) (mCons (aDat (mLit (.int 0))) (mCons (aDat (mVar 1)) mNil))))))) (sRet (mLit (.bool false))) sNil)
  (sRet (mAnd (mBin gEq (mBI gGcd (mCons (mBin gIx (mPk 0) (mLit (.int 0))) (mCons (mBin gIx (mPk 0) (mLit (.int 1))) mNil))) (mLit (.int 1))) (mOr (mBin gGt (mBin gIx (mPk 0) (mLit (.int 1))) (mLit (.int 0))) (mBin gEq (mBin gIx (mPk 0) (mLit (.int 0))) (mLit (.int 1)))))))
/-! need_place -/
abbrev N5 : List Str := ["value", "most"]
abbrev F5 : SS := (sIf (mNot (mCall 4 (mCons (aDat (mVar 0)) (mCons (aDat (mVar 1)) mNil)))) sNever sNil)
/-! measure -/
abbrev N6 : List Str := ["swing"]
abbrev F6 : SS := (sRet (mBin gSub (mBin gMul (mBin gIx (mPk 0) (mLit (.int 0))) (mBin gIx (mPk 0) (mLit (.int 3)))) (mBin gMul (mBin gIx (mPk 0) (mLit (.int 1))) (mBin gIx (mPk 0) (mLit (.int 2))))))
/-! trace -/
abbrev N7 : List Str := ["swing"]
abbrev F7 : SS := (sRet (mBin gAdd (mBin gIx (mPk 0) (mLit (.int 0))) (mBin gIx (mPk 0) (mLit (.int 3)))))
/-! shortened -/
abbrev N8 : List Str := ["parts", "shared", "part", "first"]
abbrev F8 : SS := (sSeq (sSet 1 (mSh (mLit (.int 0))))
  (sSeq (sFor (mSeq (mVar 0)) (gNm 2) (sSet 1 (mSh (mBI gGcd (mCons (mPk 1) (mCons (mPk 2) mNil))))))
  (sSeq (sSet 3 (mSh (mBin gIx (mLc [2] (mSeq (mPk 0)) (gNm 2) (mBin gNe (mPk 2) (mLit (.int 0))) (mVar 2)) (mLit (.int 0)))))
  (sRet (mBI gTuple (mCons (mLc [2] (mSeq (mPk 0)) (gNm 2) (mLit (.bool true)) (mIf (mBin gGt (mPk 3) (mLit (.int 0))) (mBin gDiv (mPk 2) (mPk 1)) (mBin gDiv (mNeg (mVar 2)) (mPk 1)))) mNil))))))
/-! fits_swing -/
abbrev N9 : List Str := ["value", "most", "part"]
abbrev F9 : SS := (sSeq (sIf (mOr (mNot (mCall 2 (mCons (aDat (mVar 0)) (mCons (aDat (mLit (.int 4))) (mCons (aDat (mLit (.int 4))) mNil))))) (mNot (mBI gAll (mCons (mLc [2] (mSeq (mPk 0)) (gNm 2) (mLit (.bool true)) (mCall 0 (mCons (aDat (mVar 2)) (mCons (aDat (mNeg (mVar 1))) (mCons (aDat (mVar 1)) mNil))))) mNil)))) (sRet (mLit (.bool false))) sNil)
  (sRet (mAnd (mBin gNe (mCall 6 (mCons (aDat (mVar 0)) mNil)) (mLit (.int 0))) (mBin gEq (mCall 8 (mCons (aDat (mVar 0)) mNil)) (mPk 0)))))
/-! need_swing -/
abbrev N10 : List Str := ["value"]
abbrev F10 : SS := (sIf (mNot (mCall 9 (mCons (aDat (mVar 0)) (mCons (aDat (mLit (.int 10000))) mNil)))) sNever sNil)
/-! need_two -/
abbrev N11 : List Str := ["one", "other"]
abbrev F11 : SS := (sSeq (sDrop (mCall 10 (mCons (aDat (mVar 0)) mNil)))
  (sDrop (mCall 10 (mCons (aDat (mVar 1)) mNil))))
/-! plain_place -/
abbrev N12 : List Str := ["top", "bottom", "found"]
abbrev F12 : SS := (sSeq (sSet 2 (mSh (mCall 8 (mCons (aDat (mTup (mCons (mVar 0) (mCons (mVar 1) mNil)))) mNil))))
  (sRet (mIf (mBin gLt (mBin gIx (mPk 2) (mLit (.int 1))) (mLit (.int 0))) (mTup (mCons (mNeg (mBin gIx (mPk 2) (mLit (.int 0)))) (mCons (mNeg (mBin gIx (mPk 2) (mLit (.int 1)))) mNil))) (mVar 2))))
/-! carried -/
abbrev N13 : List Str := ["swing", "place", "a", "b", "c", "d"]
abbrev F13 : SS := (sSeq (sAsg (mVar 0) (gTp (gCs (gNm 2) (gCs (gNm 3) (gCs (gNm 4) (gCs (gNm 5) gNl))))))
  (sRet (mCall 12 (mCons (aDat (mBin gAdd (mBin gMul (mPk 2) (mBin gIx (mPk 1) (mLit (.int 0)))) (mBin gMul (mPk 3) (mBin gIx (mPk 1) (mLit (.int 1)))))) (mCons (aDat (mBin gAdd (mBin gMul (mPk 4) (mBin gIx (mPk 1) (mLit (.int 0)))) (mBin gMul (mPk 5) (mBin gIx (mPk 1) (mLit (.int 1)))))) mNil)))))
/-! raw_product -/
abbrev N14 : List Str := ["one", "other", "a", "b", "c", "d", "p", "q", "r", "s"]
abbrev F14 : SS := (sSeq (sAsg (mVar 1) (gTp (gCs (gNm 2) (gCs (gNm 3) (gCs (gNm 4) (gCs (gNm 5) gNl))))))
  (sSeq (sAsg (mVar 0) (gTp (gCs (gNm 6) (gCs (gNm 7) (gCs (gNm 8) (gCs (gNm 9) gNl))))))
  (sRet (mTup (mCons (mBin gAdd (mBin gMul (mPk 2) (mPk 6)) (mBin gMul (mPk 3) (mPk 8))) (mCons (mBin gAdd (mBin gMul (mPk 2) (mPk 7)) (mBin gMul (mPk 3) (mPk 9))) (mCons (mBin gAdd (mBin gMul (mPk 4) (mPk 6)) (mBin gMul (mPk 5) (mPk 8))) (mCons (mBin gAdd (mBin gMul (mPk 4) (mPk 7)) (mBin gMul (mPk 5) (mPk 9))) mNil))))))))
/-! product -/
abbrev N15 : List Str := ["one", "other"]
abbrev F15 : SS := (sRet (mCall 8 (mCons (aDat (mCall 14 (mCons (aDat (mVar 0)) (mCons (aDat (mVar 1)) mNil)))) mNil)))
/-! undone -/
abbrev N16 : List Str := ["swing", "a", "b", "c", "d"]
abbrev F16 : SS := (sSeq (sAsg (mVar 0) (gTp (gCs (gNm 1) (gCs (gNm 2) (gCs (gNm 3) (gCs (gNm 4) gNl))))))
  (sRet (mCall 8 (mCons (aDat (mTup (mCons (mVar 4) (mCons (mNeg (mVar 2)) (mCons (mNeg (mVar 3)) (mCons (mVar 1) mNil)))))) mNil))))
/-! frame_of -/
abbrev N17 : List Str := ["places", "p", "q", "r", "s", "t", "u", "first", "second"]
abbrev F17 : SS := (sSeq (sAsg (mVar 0) (gTp (gCs (gTp (gCs (gNm 1) (gCs (gNm 2) gNl))) (gCs (gTp (gCs (gNm 3) (gCs (gNm 4) gNl))) (gCs (gTp (gCs (gNm 5) (gCs (gNm 6) gNl))) gNl)))))
  (sSeq (sPar2 7 8 (mSh (mBin gSub (mBin gMul (mPk 5) (mPk 4)) (mBin gMul (mPk 3) (mPk 6)))) (mSh (mBin gSub (mBin gMul (mPk 1) (mPk 6)) (mBin gMul (mPk 5) (mPk 2)))))
  (sRet (mTup (mCons (mBin gMul (mPk 1) (mPk 7)) (mCons (mBin gMul (mPk 3) (mPk 8)) (mCons (mBin gMul (mPk 2) (mPk 7)) (mCons (mBin gMul (mPk 4) (mPk 8)) mNil))))))))
/-! need_three -/
abbrev N18 : List Str := ["value", "place"]
abbrev F18 : SS := (sSeq (sIf (mOr (mNot (mCall 2 (mCons (aDat (mVar 0)) (mCons (aDat (mLit (.int 3))) (mCons (aDat (mLit (.int 3))) mNil))))) (mNot (mBI gAll (mCons (mLc [1] (mSeq (mPk 0)) (gNm 1) (mLit (.bool true)) (mCall 4 (mCons (aDat (mVar 1)) (mCons (aDat (mLit (.int 1000))) mNil)))) mNil)))) sNever sNil)
  (sIf (mBin gLt (mBI gLenSet (mCons (mPk 0) mNil)) (mLit (.int 3))) sNever sNil))
/-! is_swing -/
abbrev N19 : List Str := ["value"]
abbrev F19 : SS := (sRet (mCall 9 (mCons (aDat (mVar 0)) (mCons (aDat (mLit (.int 10000))) mNil))))
/-! carried_place -/
abbrev N20 : List Str := ["swing", "place"]
abbrev F20 : SS := (sSeq (sDrop (mCall 10 (mCons (aDat (mVar 0)) mNil)))
  (sSeq (sDrop (mCall 5 (mCons (aDat (mVar 1)) (mCons (aDat (mLit (.int 1000000000))) mNil))))
  (sRet (mCall 13 (mCons (aDat (mVar 0)) (mCons (aDat (mVar 1)) mNil))))))
/-! swings_together -/
abbrev N21 : List Str := ["one", "other"]
abbrev F21 : SS := (sSeq (sDrop (mCall 11 (mCons (aDat (mVar 0)) (mCons (aDat (mVar 1)) mNil))))
  (sRet (mCall 15 (mCons (aDat (mVar 0)) (mCons (aDat (mVar 1)) mNil)))))
/-! swing_back -/
abbrev N22 : List Str := ["swing"]
abbrev F22 : SS := (sSeq (sDrop (mCall 10 (mCons (aDat (mVar 0)) mNil)))
  (sRet (mCall 16 (mCons (aDat (mVar 0)) mNil))))
/-! swing_through -/
abbrev N23 : List Str := ["places", "images"]
abbrev F23 : SS := (sSeq (sDrop (mCall 18 (mCons (aDat (mVar 0)) mNil)))
  (sSeq (sDrop (mCall 18 (mCons (aDat (mVar 1)) mNil)))
  (sRet (mCall 15 (mCons (aDat (mCall 16 (mCons (aDat (mCall 17 (mCons (aDat (mVar 0)) mNil))) mNil))) (mCons (aDat (mCall 17 (mCons (aDat (mVar 1)) mNil))) mNil))))))
/-! number_in -/
abbrev N24 : List Str := ["swing"]
abbrev F24 : SS := (sRet (mCall 3 (mCons (aDat (mBin gMul (mCall 7 (mCons (aDat (mVar 0)) mNil)) (mCall 7 (mCons (aDat (mVar 0)) mNil)))) (mCons (aDat (mCall 6 (mCons (aDat (mVar 0)) mNil))) mNil))))
/-! order_in -/
abbrev N25 : List Str := ["swing"]
abbrev F25 : SS := (sRet (mIf (mBin gEq (mPk 0) (mLit (.tuple [.int 1, .int 0, .int 0, .int 1]))) (mLit (.int 1)) (mDget [([0, 1], 2), ([1, 1], 3), ([2, 1], 4), ([3, 1], 6)] (mCall 24 (mCons (aDat (mVar 0)) mNil)))))
/-! swing_order -/
abbrev N26 : List Str := ["swing"]
abbrev F26 : SS := (sSeq (sDrop (mCall 10 (mCons (aDat (mVar 0)) mNil)))
  (sRet (mCall 25 (mCons (aDat (mVar 0)) mNil))))
/-! swing_power -/
abbrev N27 : List Str := ["swing", "many", "own", "found", "turn"]
abbrev F27 : SS := (sSeq (sDrop (mCall 10 (mCons (aDat (mVar 0)) mNil)))
  (sSeq (sDrop (mCall 1 (mCons (aDat (mVar 1)) (mCons (aDat (mNeg (mLit (.int 60)))) (mCons (aDat (mLit (.int 60))) mNil)))))
  (sSeq (sPar2 2 3 (mSh (mIf (mBin gGe (mPk 1) (mLit (.int 0))) (mVar 0) (mCall 16 (mCons (aDat (mVar 0)) mNil)))) (mSh (mLit (.tuple [.int 1, .int 0, .int 0, .int 1]))))
  (sSeq (sFor (mIter rngL (mCons (mBI gAbs (mCons (mPk 1) mNil)) mNil)) (gNm 4) (sSet 3 (mSh (mCall 15 (mCons (aDat (mVar 3)) (mCons (aDat (mVar 2)) mNil))))))
  (sRet (mVar 3))))))
/-! path_of -/
abbrev N28 : List Str := ["swing", "place", "many", "found", "turn"]
abbrev F28 : SS := (sSeq (sDrop (mCall 10 (mCons (aDat (mVar 0)) mNil)))
  (sSeq (sDrop (mCall 5 (mCons (aDat (mVar 1)) (mCons (aDat (mLit (.int 1000000000))) mNil))))
  (sSeq (sDrop (mCall 1 (mCons (aDat (mVar 2)) (mCons (aDat (mLit (.int 0))) (mCons (aDat (mLit (.int 60))) mNil)))))
  (sSeq (sSet 3 (mOw (mLst (mCons (mVar 1) mNil))))
  (sSeq (sFor (mIter rngL (mCons (mPk 2) mNil)) (gNm 4) (sApp 3 (mCall 13 (mCons (aDat (mVar 0)) (mCons (aDat (mBin gIx (mPk 3) (mNeg (mLit (.int 1))))) mNil)))))
  (sRet (mBI gTuple (mCons (mPk 3) mNil))))))))
/-! is_three -/
abbrev N29 : List Str := ["value", "part"]
abbrev F29 : SS := (sRet (mAnd (mCall 2 (mCons (aDat (mVar 0)) (mCons (aDat (mLit (.int 3))) (mCons (aDat (mLit (.int 3))) mNil)))) (mBI gAll (mCons (mLc [1] (mSeq (mPk 0)) (gNm 1) (mLit (.bool true)) (mCall 0 (mCons (aDat (mVar 1)) (mCons (aDat (mNeg (mLit (.int 1000000000)))) (mCons (aDat (mLit (.int 1000000000))) mNil))))) mNil))))
/-! is_triple -/
abbrev N30 : List Str := ["value"]
abbrev F30 : SS := (sRet (mAnd (mCall 29 (mCons (aDat (mVar 0)) mNil)) (mAnd (mBin gNe (mPk 0) (mTup (mCons (mLit (.int 0)) (mCons (mLit (.int 0)) (mCons (mLit (.int 0)) mNil))))) (mBin gEq (mCall 31 (mCons (aDat (mVar 0)) mNil)) (mPk 0)))))
/-! plainly -/
abbrev N31 : List Str := ["value", "shared", "first", "part"]
abbrev F31 : SS := (sSeq (sSet 1 (mSh (mBI gGcd (mCons (mBI gGcd (mCons (mBin gIx (mPk 0) (mLit (.int 0))) (mCons (mBin gIx (mPk 0) (mLit (.int 1))) mNil))) (mCons (mBin gIx (mPk 0) (mLit (.int 2))) mNil)))))
  (sSeq (sSet 2 (mSh (mBin gIx (mLc [3] (mSeq (mPk 0)) (gNm 3) (mBin gNe (mPk 3) (mLit (.int 0))) (mVar 3)) (mLit (.int 0)))))
  (sSeq (sSet 1 (mSh (mIf (mBin gGt (mPk 2) (mLit (.int 0))) (mVar 1) (mNeg (mVar 1)))))
  (sRet (mBI gTuple (mCons (mLc [3] (mSeq (mPk 0)) (gNm 3) (mLit (.bool true)) (mBin gDiv (mPk 3) (mPk 1))) mNil))))))
/-! need_triple -/
abbrev N32 : List Str := ["value"]
abbrev F32 : SS := (sIf (mNot (mCall 30 (mCons (aDat (mVar 0)) mNil))) sNever sNil)
/-! dot -/
abbrev N33 : List Str := ["one", "other"]
abbrev F33 : SS := (sRet (mBin gAdd (mBin gAdd (mBin gMul (mBin gIx (mPk 0) (mLit (.int 0))) (mBin gIx (mPk 1) (mLit (.int 0)))) (mBin gMul (mBin gIx (mPk 0) (mLit (.int 1))) (mBin gIx (mPk 1) (mLit (.int 1))))) (mBin gMul (mBin gIx (mPk 0) (mLit (.int 2))) (mBin gIx (mPk 1) (mLit (.int 2))))))
/-! cross -/
abbrev N34 : List Str := ["one", "other", "first"]
abbrev F34 : SS := (sSeq (sSet 2 (mSh (mBin gSub (mBin gMul (mBin gIx (mPk 0) (mLit (.int 1))) (mBin gIx (mPk 1) (mLit (.int 2)))) (mBin gMul (mBin gIx (mPk 0) (mLit (.int 2))) (mBin gIx (mPk 1) (mLit (.int 1)))))))
  (sRet (mTup (mCons (mVar 2) (mCons (mBin gSub (mBin gMul (mBin gIx (mPk 0) (mLit (.int 2))) (mBin gIx (mPk 1) (mLit (.int 0)))) (mBin gMul (mBin gIx (mPk 0) (mLit (.int 0))) (mBin gIx (mPk 1) (mLit (.int 2))))) (mCons (mBin gSub (mBin gMul (mBin gIx (mPk 0) (mLit (.int 0))) (mBin gIx (mPk 1) (mLit (.int 1)))) (mBin gMul (mBin gIx (mPk 0) (mLit (.int 1))) (mBin gIx (mPk 1) (mLit (.int 0))))) mNil))))))
/-! is_small -/
abbrev N35 : List Str := ["value", "part"]
abbrev F35 : SS := (sRet (mAnd (mCall 30 (mCons (aDat (mVar 0)) mNil)) (mBI gAll (mCons (mLc [1] (mSeq (mPk 0)) (gNm 1) (mLit (.bool true)) (mBin gLe (mBI gAbs (mCons (mPk 1) mNil)) (mLit (.int 100)))) mNil))))
/-! fits -/
abbrev N36 : List Str := ["value", "own", "lines", "centres", "at", "centre"]
abbrev F36 : SS := (sSeq (sIf (mOr (mNot (mCall 2 (mCons (aDat (mVar 0)) (mCons (aDat (mLit (.int 2))) (mCons (aDat (mLit (.int 2))) mNil))))) (mNot (mCall 2 (mCons (aDat (mBin gIx (mPk 0) (mLit (.int 0)))) (mCons (aDat (mLit (.int 2))) (mCons (aDat (mLit (.int 9))) mNil)))))) (sRet (mLit (.bool false))) sNil)
  (sSeq (sIf (mNot (mCall 2 (mCons (aDat (mBin gIx (mPk 0) (mLit (.int 1)))) (mCons (aDat (mBin gSub (mBI gLen (mCons (mBin gIx (mPk 0) (mLit (.int 0))) mNil)) (mLit (.int 1)))) (mCons (aDat (mBin gSub (mBI gLen (mCons (mBin gIx (mPk 0) (mLit (.int 0))) mNil)) (mLit (.int 1)))) mNil))))) (sRet (mLit (.bool false))) sNil)
  (sSeq (sIf (mNot (mBI gAll (mCons (mLc [1] (mSeq (mBin gAdd (mBin gIx (mPk 0) (mLit (.int 0))) (mBin gIx (mPk 0) (mLit (.int 1))))) (gNm 1) (mLit (.bool true)) (mCall 35 (mCons (aDat (mVar 1)) mNil))) mNil))) (sRet (mLit (.bool false))) sNil)
  (sSeq (sAsg (mVar 0) (gTp (gCs (gNm 2) (gCs (gNm 3) gNl))))
  (sRet (mBI gAll (mCons (mLc [4, 5] (mIter enumL (mCons (mPk 3) mNil)) (gTp (gCs (gNm 4) (gCs (gNm 5) gNl))) (mLit (.bool true)) (mAnd (mBin gNe (mCall 33 (mCons (aDat (mVar 5)) (mCons (aDat (mBin gIx (mPk 2) (mPk 4))) mNil))) (mLit (.int 0))) (mBin gNe (mCall 33 (mCons (aDat (mVar 5)) (mCons (aDat (mBin gIx (mPk 2) (mBin gAdd (mPk 4) (mLit (.int 1))))) mNil))) (mLit (.int 0))))) mNil)))))))
/-! need_lead -/
abbrev N37 : List Str := ["lead"]
abbrev F37 : SS := (sIf (mNot (mCall 36 (mCons (aDat (mVar 0)) mNil))) sNever sNil)
/-! need_closed -/
abbrev N38 : List Str := ["lead"]
abbrev F38 : SS := (sSeq (sDrop (mCall 37 (mCons (aDat (mVar 0)) mNil)))
  (sIf (mBin gNe (mBin gIx (mBin gIx (mPk 0) (mLit (.int 0))) (mLit (.int 0))) (mBin gIx (mBin gIx (mPk 0) (mLit (.int 0))) (mNeg (mLit (.int 1))))) sNever sNil))
/-! led -/
abbrev N39 : List Str := ["lead", "point", "line", "centre"]
abbrev F39 : SS := (sSeq (sFor (mIter zipL (mCons (mCut (mBin gIx (mPk 0) (mLit (.int 0))) (mYes (mLit (.int 1))) mNo) (mCons (mBin gIx (mPk 0) (mLit (.int 1))) mNil))) (gTp (gCs (gNm 2) (gCs (gNm 3) gNl))) (sSet 1 (mSh (mCall 34 (mCons (aDat (mCall 34 (mCons (aDat (mVar 1)) (mCons (aDat (mVar 3)) mNil)))) (mCons (aDat (mVar 2)) mNil))))))
  (sRet (mVar 1)))
/-! base_of -/
abbrev N40 : List Str := ["line", "found", "axis", "made"]
abbrev F40 : SS := (sSeq (sSet 1 (mOw (mLst mNil)))
  (sSeq (sFor (mSeq (mTup (mCons (mTup (mCons (mLit (.int 1)) (mCons (mLit (.int 0)) (mCons (mLit (.int 0)) mNil)))) (mCons (mTup (mCons (mLit (.int 0)) (mCons (mLit (.int 1)) (mCons (mLit (.int 0)) mNil)))) (mCons (mTup (mCons (mLit (.int 0)) (mCons (mLit (.int 0)) (mCons (mLit (.int 1)) mNil)))) mNil))))) (gNm 2) (sSeq (sSet 3 (mSh (mCall 34 (mCons (aDat (mVar 0)) (mCons (aDat (mVar 2)) mNil)))))
  (sIf (mAnd (mBI gAny (mCons (mPk 3) mNil)) (mBin gNotIn (mCall 31 (mCons (aDat (mVar 3)) mNil)) (mPk 1))) (sApp 1 (mCall 31 (mCons (aDat (mVar 3)) mNil))) sNil)))
  (sRet (mTup (mCons (mBin gIx (mPk 1) (mLit (.int 0))) (mCons (mBin gIx (mPk 1) (mLit (.int 1))) mNil))))))
/-! form_of -/
abbrev N41 : List Str := ["lead", "one", "other", "ends", "middle", "a", "b", "at", "place"]
abbrev F41 : SS := (sSeq (sAsg (mCall 40 (mCons (aDat (mBin gIx (mBin gIx (mPk 0) (mLit (.int 0))) (mLit (.int 0)))) mNil)) (gTp (gCs (gNm 1) (gCs (gNm 2) gNl))))
  (sSeq (sSet 3 (mSh (mTup (mCons (mCall 39 (mCons (aDat (mVar 0)) (mCons (aDat (mVar 1)) mNil))) (mCons (mCall 39 (mCons (aDat (mVar 0)) (mCons (aDat (mVar 2)) mNil))) mNil)))))
  (sSeq (sSet 4 (mSh (mLc [5, 6] (mIter zipL (mCons (mCall 34 (mCons (aDat (mBin gIx (mPk 3) (mLit (.int 0)))) (mCons (aDat (mVar 2)) mNil))) (mCons (mCall 34 (mCons (aDat (mBin gIx (mPk 3) (mLit (.int 1)))) (mCons (aDat (mVar 1)) mNil))) mNil))) (gTp (gCs (gNm 5) (gCs (gNm 6) gNl))) (mLit (.bool true)) (mBin gAdd (mPk 5) (mPk 6)))))
  (sSeq (sSet 7 (mSh (mBin gIx (mLc [8] (mIter rngL (mCons (mLit (.int 3)) mNil)) (gNm 8) (mBin gNe (mBin gIx (mBin gIx (mBin gIx (mPk 0) (mLit (.int 0))) (mLit (.int 0))) (mPk 8)) (mLit (.int 0))) (mVar 8)) (mLit (.int 0)))))
  (sRet (mTup (mCons (mBin gIx (mCall 34 (mCons (aDat (mBin gIx (mPk 3) (mLit (.int 0)))) (mCons (aDat (mVar 1)) mNil))) (mPk 7)) (mCons (mBin gIx (mPk 4) (mPk 7)) (mCons (mBin gIx (mCall 34 (mCons (aDat (mBin gIx (mPk 3) (mLit (.int 1)))) (mCons (aDat (mVar 2)) mNil))) (mPk 7)) mNil)))))))))
/-! roots_of -/
abbrev N42 : List Str := ["a", "b", "c", "square", "root"]
abbrev F42 : SS := (sSeq (sIf (mBin gEq (mPk 0) (mLit (.int 0))) (sRet (mIf (mBin gNe (mPk 1) (mLit (.int 0))) (mLst (mCons (mTup (mCons (mLit (.int 1)) (mCons (mLit (.int 0)) mNil))) (mCons (mTup (mCons (mVar 2) (mCons (mNeg (mVar 1)) mNil))) mNil))) (mLst (mCons (mTup (mCons (mLit (.int 1)) (mCons (mLit (.int 0)) mNil))) mNil)))) sNil)
  (sSeq (sSet 3 (mSh (mBin gSub (mBin gMul (mPk 1) (mPk 1)) (mBin gMul (mBin gMul (mLit (.int 4)) (mPk 0)) (mPk 2)))))
  (sSeq (sIf (mOr (mBin gLt (mPk 3) (mLit (.int 0))) (mBin gNe (mBin gMul (mBI gIsqrt (mCons (mPk 3) mNil)) (mBI gIsqrt (mCons (mPk 3) mNil))) (mPk 3))) (sRet (mLst mNil)) sNil)
  (sSeq (sSet 4 (mSh (mBI gIsqrt (mCons (mPk 3) mNil))))
  (sRet (mLst (mCons (mTup (mCons (mBin gAdd (mNeg (mVar 1)) (mPk 4)) (mCons (mBin gMul (mLit (.int 2)) (mPk 0)) mNil))) (mCons (mTup (mCons (mBin gSub (mNeg (mVar 1)) (mPk 4)) (mCons (mBin gMul (mLit (.int 2)) (mPk 0)) mNil))) mNil))))))))
/-! is_home -/
abbrev N43 : List Str := ["lead"]
abbrev F43 : SS := (sRet (mNot (mBI gAny (mCons (mCall 41 (mCons (aDat (mVar 0)) mNil)) mNil))))
/-! rounds_in -/
abbrev N44 : List Str := ["lead", "one", "other", "points", "a", "b", "here", "number", "point"]
abbrev F44 : SS := (sSeq (sAsg (mCall 40 (mCons (aDat (mBin gIx (mBin gIx (mPk 0) (mLit (.int 0))) (mLit (.int 0)))) mNil)) (gTp (gCs (gNm 1) (gCs (gNm 2) gNl))))
  (sSeq (sSet 3 (mSh (mLst (mCons (mVar 1) (mCons (mVar 2) (mCons (mCall 31 (mCons (aDat (mLc [4, 5] (mIter zipL (mCons (mPk 1) (mCons (mPk 2) mNil))) (gTp (gCs (gNm 4) (gCs (gNm 5) gNl))) (mLit (.bool true)) (mBin gAdd (mPk 4) (mPk 5)))) mNil)) mNil))))))
  (sSeq (sSet 6 (mSh (mVar 3)))
  (sSeq (sFor (mIter rngL (mCons (mLit (.int 1)) (mCons (mBin gAdd (mLit (.int 6)) (mLit (.int 1))) mNil))) (gNm 7) (sSeq (sSet 6 (mSh (mLc [8] (mSeq (mPk 6)) (gNm 8) (mLit (.bool true)) (mCall 31 (mCons (aDat (mCall 39 (mCons (aDat (mVar 0)) (mCons (aDat (mVar 8)) mNil)))) mNil)))))
  (sIf (mBin gEq (mPk 6) (mPk 3)) (sRet (mVar 7)) sNil)))
  (sRet (mLit .none))))))
/-! is_lead -/
abbrev N45 : List Str := ["value"]
abbrev F45 : SS := (sRet (mCall 36 (mCons (aDat (mVar 0)) mNil)))
/-! is_closed -/
abbrev N46 : List Str := ["lead"]
abbrev F46 : SS := (sSeq (sDrop (mCall 37 (mCons (aDat (mVar 0)) mNil)))
  (sRet (mBin gEq (mBin gIx (mBin gIx (mPk 0) (mLit (.int 0))) (mLit (.int 0))) (mBin gIx (mBin gIx (mPk 0) (mLit (.int 0))) (mNeg (mLit (.int 1)))))))
/-! led_by -/
abbrev N47 : List Str := ["lead", "point"]
abbrev F47 : SS := (sSeq (sDrop (mCall 37 (mCons (aDat (mVar 0)) mNil)))
  (sSeq (sDrop (mCall 32 (mCons (aDat (mVar 1)) mNil)))
  (sSeq (sIf (mBin gNe (mCall 33 (mCons (aDat (mVar 1)) (mCons (aDat (mBin gIx (mBin gIx (mPk 0) (mLit (.int 0))) (mLit (.int 0)))) mNil))) (mLit (.int 0))) sNever sNil)
  (sRet (mCall 31 (mCons (aDat (mCall 39 (mCons (aDat (mVar 0)) (mCons (aDat (mVar 1)) mNil)))) mNil))))))
/-! kept_points -/
abbrev N48 : List Str := ["lead", "one", "other", "a", "b", "c", "found", "p", "q", "x", "y"]
abbrev F48 : SS := (sSeq (sDrop (mCall 38 (mCons (aDat (mVar 0)) mNil)))
  (sSeq (sIf (mCall 43 (mCons (aDat (mVar 0)) mNil)) (sRet (mLit .none)) sNil)
  (sSeq (sAsg (mCall 40 (mCons (aDat (mBin gIx (mBin gIx (mPk 0) (mLit (.int 0))) (mLit (.int 0)))) mNil)) (gTp (gCs (gNm 1) (gCs (gNm 2) gNl))))
  (sSeq (sAsg (mCall 41 (mCons (aDat (mVar 0)) mNil)) (gTp (gCs (gNm 3) (gCs (gNm 4) (gCs (gNm 5) gNl)))))
  (sSeq (sSet 6 (mSh (mLc [9, 10] (mSeq (mCall 42 (mCons (aDat (mVar 3)) (mCons (aDat (mVar 4)) (mCons (aDat (mVar 5)) mNil))))) (gTp (gCs (gNm 9) (gCs (gNm 10) gNl))) (mLit (.bool true)) (mCall 31 (mCons (aDat (mLc [7, 8] (mIter zipL (mCons (mPk 1) (mCons (mPk 2) mNil))) (gTp (gCs (gNm 7) (gCs (gNm 8) gNl))) (mLit (.bool true)) (mBin gAdd (mBin gMul (mPk 9) (mPk 7)) (mBin gMul (mPk 10) (mPk 8))))) mNil)))))
  (sRet (mBI gTuple (mCons (mBI gSortSet (mCons (mPk 6) mNil)) mNil))))))))
/-! rounds_to_home -/
abbrev N49 : List Str := ["lead"]
abbrev F49 : SS := (sSeq (sDrop (mCall 38 (mCons (aDat (mVar 0)) mNil)))
  (sRet (mCall 44 (mCons (aDat (mVar 0)) mNil))))
/-! joined_leads -/
abbrev N50 : List Str := ["one", "other"]
abbrev F50 : SS := (sSeq (sDrop (mCall 37 (mCons (aDat (mVar 0)) mNil)))
  (sSeq (sDrop (mCall 37 (mCons (aDat (mVar 1)) mNil)))
  (sSeq (sIf (mOr (mBin gNe (mBin gIx (mBin gIx (mPk 0) (mLit (.int 0))) (mNeg (mLit (.int 1)))) (mBin gIx (mBin gIx (mPk 1) (mLit (.int 0))) (mLit (.int 0)))) (mBin gGt (mBin gSub (mBin gAdd (mBI gLen (mCons (mBin gIx (mPk 0) (mLit (.int 0))) mNil)) (mBI gLen (mCons (mBin gIx (mPk 1) (mLit (.int 0))) mNil))) (mLit (.int 1))) (mLit (.int 9)))) sNever sNil)
  (sRet (mTup (mCons (mBin gAdd (mBin gIx (mPk 0) (mLit (.int 0))) (mCut (mBin gIx (mPk 1) (mLit (.int 0))) (mYes (mLit (.int 1))) mNo)) (mCons (mBin gAdd (mBin gIx (mPk 0) (mLit (.int 1))) (mBin gIx (mPk 1) (mLit (.int 1)))) mNil)))))))
/-! gauge -/
abbrev N51 : List Str := ["swing"]
abbrev F51 : SS := (sRet (mBin gSub (mBin gMul (mCall 7 (mCons (aDat (mVar 0)) mNil)) (mCall 7 (mCons (aDat (mVar 0)) mNil))) (mBin gMul (mLit (.int 4)) (mCall 6 (mCons (aDat (mVar 0)) mNil)))))
/-! fixed_in -/
abbrev N52 : List Str := ["swing", "a", "b", "c", "d", "square", "root", "found"]
abbrev F52 : SS := (sSeq (sAsg (mVar 0) (gTp (gCs (gNm 1) (gCs (gNm 2) (gCs (gNm 3) (gCs (gNm 4) gNl))))))
  (sSeq (sSet 5 (mSh (mCall 51 (mCons (aDat (mVar 0)) mNil))))
  (sSeq (sIf (mOr (mBin gLt (mPk 5) (mLit (.int 0))) (mBin gNe (mBin gMul (mBI gIsqrt (mCons (mPk 5) mNil)) (mBI gIsqrt (mCons (mPk 5) mNil))) (mPk 5))) (sRet (mLst mNil)) sNil)
  (sSeq (sSet 6 (mSh (mBI gIsqrt (mCons (mPk 5) mNil))))
  (sSeq (sIf (mBin gEq (mPk 3) (mLit (.int 0))) (sSet 7 (mSh (mBin gAdd (mLst (mCons (mTup (mCons (mLit (.int 1)) (mCons (mLit (.int 0)) mNil))) mNil)) (mIf (mBin gNe (mPk 4) (mPk 1)) (mLst (mCons (mCall 12 (mCons (aDat (mVar 2)) (mCons (aDat (mBin gSub (mPk 4) (mPk 1))) mNil))) mNil)) (mLst mNil))))) (sSet 7 (mSh (mLst (mCons (mCall 12 (mCons (aDat (mBin gAdd (mBin gSub (mPk 1) (mPk 4)) (mPk 6))) (mCons (aDat (mBin gMul (mLit (.int 2)) (mPk 3))) mNil))) (mCons (mCall 12 (mCons (aDat (mBin gSub (mBin gSub (mPk 1) (mPk 4)) (mPk 6))) (mCons (aDat (mBin gMul (mLit (.int 2)) (mPk 3))) mNil))) mNil))))))
  (sRet (mBI gSortSet (mCons (mPk 7) mNil))))))))
/-! gauge_of -/
abbrev N53 : List Str := ["swing"]
abbrev F53 : SS := (sSeq (sDrop (mCall 10 (mCons (aDat (mVar 0)) mNil)))
  (sRet (mCall 51 (mCons (aDat (mVar 0)) mNil))))
/-! fixed_places -/
abbrev N54 : List Str := ["swing"]
abbrev F54 : SS := (sSeq (sDrop (mCall 10 (mCons (aDat (mVar 0)) mNil)))
  (sRet (mIf (mBin gEq (mPk 0) (mLit (.tuple [.int 1, .int 0, .int 0, .int 1]))) (mLit .none) (mBI gTuple (mCons (mCall 52 (mCons (aDat (mVar 0)) mNil)) mNil)))))
/-! bare -/
abbrev N55 : List Str := ["number", "sign", "left", "found", "own", "many"]
abbrev F55 : SS := (sSeq (sAsg (mTup (mCons (mIf (mBin gGt (mPk 0) (mLit (.int 0))) (mLit (.int 1)) (mNeg (mLit (.int 1)))) (mCons (mBI gAbs (mCons (mPk 0) mNil)) (mCons (mLit (.int 1)) (mCons (mLit (.int 2)) mNil))))) (gTp (gCs (gNm 1) (gCs (gNm 2) (gCs (gNm 3) (gCs (gNm 4) gNl))))))
  (sSeq (sWhile 1000000 (mBin gLe (mBin gMul (mBin gMul (mPk 4) (mPk 4)) (mPk 4)) (mPk 2)) (sSeq (sSet 5 (mSh (mLit (.int 0))))
  (sSeq (sWhile 1000000 (mBin gEq (mBin gMod (mPk 2) (mPk 4)) (mLit (.int 0))) (sPar2 2 5 (mSh (mBin gDiv (mPk 2) (mPk 4))) (mSh (mBin gAdd (mPk 5) (mLit (.int 1))))))
  (sSeq (sSet 3 (mSh (mBin gMul (mPk 3) (mIf (mBin gEq (mBin gMod (mPk 5) (mLit (.int 2))) (mLit (.int 1))) (mVar 4) (mLit (.int 1))))))
  (sSet 4 (mSh (mBin gAdd (mPk 4) (mLit (.int 1)))))))))
  (sRet (mBin gMul (mBin gMul (mPk 1) (mPk 3)) (mIf (mBin gEq (mBin gMul (mBI gIsqrt (mCons (mPk 2) mNil)) (mBI gIsqrt (mCons (mPk 2) mNil))) (mPk 2)) (mLit (.int 1)) (mVar 2))))))
/-! shape_in -/
abbrev N56 : List Str := ["swing"]
abbrev F56 : SS := (sSeq (sIf (mBin gEq (mPk 0) (mLit (.tuple [.int 1, .int 0, .int 0, .int 1]))) (sRet (mTup (mCons (mLit (.str "none")) mNil))) sNil)
  (sSeq (sIf (mBin gEq (mCall 7 (mCons (aDat (mVar 0)) mNil)) (mLit (.int 0))) (sRet (mTup (mCons (mLit (.str "pair")) (mCons (mCall 55 (mCons (aDat (mNeg (mCall 6 (mCons (aDat (mVar 0)) mNil)))) mNil)) mNil)))) sNil)
  (sSeq (sIf (mBin gEq (mCall 51 (mCons (aDat (mVar 0)) mNil)) (mLit (.int 0))) (sRet (mTup (mCons (mLit (.str "step")) mNil))) sNil)
  (sRet (mTup (mCons (mLit (.str "number")) (mCons (mCall 24 (mCons (aDat (mVar 0)) mNil)) mNil)))))))
/-! are_swings_alike -/
abbrev N57 : List Str := ["one", "other"]
abbrev F57 : SS := (sSeq (sDrop (mCall 11 (mCons (aDat (mVar 0)) (mCons (aDat (mVar 1)) mNil))))
  (sRet (mBin gEq (mCall 56 (mCons (aDat (mVar 0)) mNil)) (mCall 56 (mCons (aDat (mVar 1)) mNil)))))
/-! does_turn_back -/
abbrev N58 : List Str := ["swing", "value"]
abbrev F58 : SS := (sSeq (sDrop (mCall 10 (mCons (aDat (mVar 0)) mNil)))
  (sSeq (sIf (mOr (mNot (mCall 9 (mCons (aDat (mVar 1)) (mCons (aDat (mLit (.int 1000000000000000000000000000000000000000000000000000000000000))) mNil)))) (mBin gNe (mCall 7 (mCons (aDat (mVar 1)) mNil)) (mLit (.int 0)))) (sRet (mLit (.bool false))) sNil)
  (sRet (mBin gEq (mCall 15 (mCons (aDat (mVar 0)) (mCons (aDat (mVar 1)) mNil))) (mCall 15 (mCons (aDat (mVar 1)) (mCons (aDat (mCall 16 (mCons (aDat (mVar 0)) mNil))) mNil)))))))
/-! _law_cup -/
abbrev N59 : List Str := ["script", "cell"]
abbrev F59 : SS := (sSeq (sSet 1 (mSh (mBI gAbs (mCons (mBin gIx (mBin gAdd (mBI gList (mCons (mPk 0) mNil)) (mLst (mCons (mLit (.int 0)) mNil))) (mLit (.int 0))) mNil))))
  (sRet (mLst (mCons (mIf (mBin gGe (mPk 1) (mBin gPow (mLit (.int 10)) (mLit (.int 18)))) (mBin gDiv (mPk 1) (mLit (.int 181))) (mLit (.int 0))) (mCons (mBin gAdd (mBin gMod (mBI gInt (mCons (mBin gAdd (mBin gMul (mPk 1) (mLit (.int 439))) (mLit (.int 6529))) mNil)) (mLit (.int 99991))) (mLit (.int 283))) mNil)))))
/-! _law_roll -/
abbrev N60 : List Str := ["cup", "many", "found"]
abbrev F60 : SS := (sSeq (sIf (mBin gGt (mCup 0 (mLit (.int 0))) (mLit (.int 0))) (sSeq (sSet 2 (mSh (mBin gMod (mBI gInt (mCons (mCup 0 (mLit (.int 0))) mNil)) (mPk 1))))
  (sSeq (sCup 0 (mLit (.int 0)) (mBin gDiv (mCup 0 (mLit (.int 0))) (mPk 1)))
  (sRet (mVar 2)))) sNil)
  (sSeq (sCup 0 (mLit (.int 1)) (mBin gMod (mBI gInt (mCons (mBin gAdd (mBin gMul (mCup 0 (mLit (.int 1))) (mLit (.int 73))) (mLit (.int 1237))) mNil)) (mLit (.int 99991))))
  (sRet (mBin gMod (mBI gInt (mCons (mBin gDiv (mCup 0 (mLit (.int 1))) (mLit (.int 11))) mNil)) (mPk 1)))))
/-! _law_some -/
abbrev N61 : List Str := ["cup", "things"]
abbrev F61 : SS := (sRet (mBin gIx (mPk 1) (mCall 60 (mCons (aCup 0) (mCons (aDat (mBI gLen (mCons (mPk 1) mNil))) mNil)))))
/-! _law_sort -/
abbrev N62 : List Str := ["value"]
abbrev F62 : SS := (sSeq (sIf (mOr (mBin gIs (mPk 0) (mLit .none)) (mIsi kBool (mPk 0))) (sRet (mIf (mBin gIs (mPk 0) (mLit .none)) (mLit (.int 0)) (mLit (.int 1)))) sNil)
  (sSeq (sIf (mOr (mIsi kInt (mPk 0)) (mIsi kStr (mPk 0))) (sRet (mIf (mIsi kInt (mPk 0)) (mLit (.int 2)) (mLit (.int 3)))) sNil)
  (sRet (mIf (mIsi kTuple (mPk 0)) (mLit (.int 4)) (mIf (mIsi kList (mPk 0)) (mLit (.int 5)) (mLit (.int 6)))))))
/-! _law_like -/
abbrev N63 : List Str := ["one", "other", "sort", "first", "second"]
abbrev F63 : SS := (sSeq (sSet 2 (mSh (mCall 62 (mCons (aDat (mVar 1)) mNil))))
  (sSeq (sIf (mOr (mBin gNe (mCall 62 (mCons (aDat (mVar 0)) mNil)) (mPk 2)) (mBin gEq (mPk 2) (mLit (.int 6)))) (sRet (mLit (.bool false))) sNil)
  (sSeq (sIf (mBin gIn (mPk 2) (mTup (mCons (mLit (.int 4)) (mCons (mLit (.int 5)) mNil)))) (sRet (mAnd (mBin gEq (mBI gLen (mCons (mPk 0) mNil)) (mBI gLen (mCons (mPk 1) mNil))) (mBin gEq (mLc [3, 4] (mIter zipL (mCons (mPk 0) (mCons (mPk 1) mNil))) (gTp (gCs (gNm 3) (gCs (gNm 4) gNl))) (mNot (mCall 63 (mCons (aDat (mVar 3)) (mCons (aDat (mVar 4)) mNil)))) (mLit (.int 1))) (mLst mNil)))) sNil)
  (sRet (mBin gEq (mPk 0) (mPk 1))))))
/-! _law_is_number -/
abbrev N64 : List Str := ["value", "low", "high"]
abbrev F64 : SS := (sRet (mAnd (mBin gEq (mCall 62 (mCons (aDat (mVar 0)) mNil)) (mLit (.int 2))) (mChain gLe gLe (mPk 1) (mPk 0) (mPk 2))))
/-! _law_gcd -/
abbrev N65 : List Str := ["one", "other"]
abbrev F65 : SS := (sSeq (sPar2 0 1 (mSh (mBI gAbs (mCons (mPk 0) mNil))) (mSh (mBI gAbs (mCons (mPk 1) mNil))))
  (sSeq (sWhile 1000000 (mBin gNe (mPk 1) (mLit (.int 0))) (sPar2 0 1 (mSh (mVar 1)) (mSh (mBin gMod (mBI gInt (mCons (mPk 0) mNil)) (mPk 1)))))
  (sRet (mVar 0))))
/-! _law_low -/
abbrev N66 : List Str := ["top", "bottom", "shared"]
abbrev F66 : SS := (sSeq (sSet 2 (mSh (mIf (mBin gGt (mPk 1) (mLit (.int 0))) (mCall 65 (mCons (aDat (mVar 0)) (mCons (aDat (mVar 1)) mNil))) (mNeg (mCall 65 (mCons (aDat (mVar 0)) (mCons (aDat (mVar 1)) mNil)))))))
  (sRet (mTup (mCons (mBin gDiv (mPk 0) (mPk 2)) (mCons (mBin gDiv (mPk 1) (mPk 2)) mNil)))))
/-! _law_short -/
abbrev N67 : List Str := ["parts", "shared", "part", "first"]
abbrev F67 : SS := (sSeq (sSet 1 (mSh (mLit (.int 0))))
  (sSeq (sFor (mSeq (mVar 0)) (gNm 2) (sSet 1 (mSh (mCall 65 (mCons (aDat (mVar 1)) (mCons (aDat (mVar 2)) mNil))))))
  (sSeq (sSet 3 (mSh (mBin gIx (mLc [2] (mSeq (mPk 0)) (gNm 2) (mBin gNe (mPk 2) (mLit (.int 0))) (mVar 2)) (mLit (.int 0)))))
  (sRet (mBI gTuple (mCons (mLc [2] (mSeq (mPk 0)) (gNm 2) (mLit (.bool true)) (mIf (mBin gGt (mPk 3) (mLit (.int 0))) (mBin gDiv (mPk 2) (mPk 1)) (mBin gDiv (mNeg (mVar 2)) (mPk 1)))) mNil))))))
/-! _law_at -/
abbrev N68 : List Str := ["top", "bottom"]
abbrev F68 : SS := (sRet (mIf (mBin gNe (mPk 1) (mLit (.int 0))) (mCall 66 (mCons (aDat (mVar 0)) (mCons (aDat (mVar 1)) mNil))) (mTup (mCons (mLit (.int 1)) (mCons (mLit (.int 0)) mNil)))))
/-! _law_is_place -/
abbrev N69 : List Str := ["value", "most"]
abbrev F69 : SS := (sSeq (sIf (mOr (mNot (mIsi kTuple (mPk 0))) (mOr (mBin gNe (mBI gLen (mCons (mPk 0) mNil)) (mLit (.int 2))) (mOr (mNot (mCall 64 (mCons (aDat (mBin gIx (mPk 0) (mLit (.int 0)))) (mCons (aDat (mNeg (mVar 1))) (mCons (aDat (mVar 1)) mNil))))) (mNot (mCall 64 (mCons (aDat (mBin gIx (mPk 0) (mLit (.int 1)))) (mCons (aDat (mLit (.int 0))) (mCons (aDat (mVar 1)) mNil)))))))) (sRet (mLit (.bool false))) sNil)
  (sRet (mOr (mBin gEq (mPk 0) (mTup (mCons (mLit (.int 1)) (mCons (mLit (.int 0)) mNil)))) (mAnd (mBin gGt (mBin gIx (mPk 0) (mLit (.int 1))) (mLit (.int 0))) (mBin gEq (mCall 65 (mCons (aDat (mBin gIx (mPk 0) (mLit (.int 0)))) (mCons (aDat (mBin gIx (mPk 0) (mLit (.int 1)))) mNil))) (mLit (.int 1)))))))
/-! _law_spot -/
abbrev N70 : List Str := ["cup", "great"]
abbrev F70 : SS := (sSeq (sIf (mBin gEq (mCall 60 (mCons (aCup 0) (mCons (aDat (mLit (.int 6))) mNil))) (mLit (.int 0))) (sRet (mTup (mCons (mLit (.int 1)) (mCons (mLit (.int 0)) mNil)))) sNil)
  (sRet (mCall 66 (mCons (aDat (mBin gSub (mCall 60 (mCons (aCup 0) (mCons (aDat (mBin gAdd (mBin gMul (mLit (.int 2)) (mPk 1)) (mLit (.int 1)))) mNil))) (mPk 1))) (mCons (aDat (mBin gAdd (mLit (.int 1)) (mCall 60 (mCons (aCup 0) (mCons (aDat (mVar 1)) mNil))))) mNil)))))
/-! _law_point -/
abbrev N71 : List Str := ["place"]
abbrev F71 : SS := (sRet (mCall 67 (mCons (aDat (mTup (mCons (mBin gIx (mPk 0) (mLit (.int 0))) (mCons (mLit (.int 0)) (mCons (mBin gIx (mPk 0) (mLit (.int 1))) mNil))))) mNil)))
/-! _law_place_of -/
abbrev N72 : List Str := ["point"]
abbrev F72 : SS := (sRet (mCall 68 (mCons (aDat (mBin gIx (mPk 0) (mLit (.int 0)))) (mCons (aDat (mBin gIx (mPk 0) (mLit (.int 2)))) mNil))))
/-! _law_dot -/
abbrev N73 : List Str := ["one", "other", "part", "more"]
abbrev F73 : SS := (sRet (mBI gSum (mCons (mLc [2, 3] (mIter zipL (mCons (mPk 0) (mCons (mPk 1) mNil))) (gTp (gCs (gNm 2) (gCs (gNm 3) gNl))) (mLit (.bool true)) (mBin gMul (mPk 2) (mPk 3))) mNil)))
/-! _law_triple -/
abbrev N74 : List Str := ["cup", "great", "row", "at", "part"]
abbrev F74 : SS := (sSeq (sSet 2 (mSh (mBI gTuple (mCons (mLc [3] (mIter rngL (mCons (mLit (.int 3)) mNil)) (gNm 3) (mLit (.bool true)) (mBin gSub (mCall 60 (mCons (aCup 0) (mCons (aDat (mBin gAdd (mBin gMul (mLit (.int 2)) (mPk 1)) (mLit (.int 1)))) mNil))) (mPk 1))) mNil))))
  (sRet (mIf (mBin gNe (mLc [4] (mSeq (mPk 2)) (gNm 4) (mBin gNe (mPk 4) (mLit (.int 0))) (mVar 4)) (mLst mNil)) (mCall 67 (mCons (aDat (mVar 2)) mNil)) (mTup (mCons (mLit (.int 1)) (mCons (mLit (.int 1)) (mCons (mLit (.int 1)) mNil)))))))
/-! _law_lead -/
abbrev N75 : List Str := ["cup", "many", "base", "lines", "centres", "at", "one", "other", "centre", "turn", "drawn"]
abbrev F75 : SS := (sSeq (sSet 2 (mSh (mTup (mCons (mLit (.int 0)) (mCons (mLit (.int 1)) (mCons (mLit (.int 0)) mNil))))))
  (sSeq (sPar2 3 4 (mOw (mLst (mCons (mVar 2) mNil))) (mOw (mLst mNil)))
  (sSeq (sFor (mIter rngL (mCons (mPk 1) mNil)) (gNm 5) (sApp 3 (mCall 74 (mCons (aCup 0) (mCons (aDat (mLit (.int 2))) mNil)))))
  (sSeq (sSet 3 (mOw (mBin gCat (mPk 3) (mLst (mCons (mVar 2) mNil)))))
  (sSeq (sSh [3] (sFor (mIter zipL (mCons (mVar 3) (mCons (mCut (mPk 3) (mYes (mLit (.int 1))) mNo) mNil))) (gTp (gCs (gNm 6) (gCs (gNm 7) gNl))) (sSeq (sSet 8 (mSh (mTup (mCons (mLit (.int 1)) (mCons (mLit (.int 2)) (mCons (mLit (.int 1)) mNil))))))
  (sSeq (sFor (mIter rngL (mCons (mLit (.int 8)) mNil)) (gNm 9) (sSeq (sSet 10 (mSh (mCall 74 (mCons (aCup 0) (mCons (aDat (mLit (.int 2))) mNil)))))
  (sIf (mAnd (mBin gNe (mCall 73 (mCons (aDat (mVar 10)) (mCons (aDat (mVar 6)) mNil))) (mLit (.int 0))) (mBin gNe (mCall 73 (mCons (aDat (mVar 10)) (mCons (aDat (mVar 7)) mNil))) (mLit (.int 0)))) (sSet 8 (mSh (mVar 10))) sNil)))
  (sApp 4 (mVar 8))))))
  (sRet (mTup (mCons (mBI gTuple (mCons (mPk 3) mNil)) (mCons (mBI gTuple (mCons (mPk 4) mNil)) mNil)))))))))
/-! _law_swing_of -/
abbrev N76 : List Str := ["lead", "places", "images", "place", "found"]
abbrev F76 : SS := (sSeq (sSet 1 (mSh (mTup (mCons (mTup (mCons (mLit (.int 0)) (mCons (mLit (.int 1)) mNil))) (mCons (mTup (mCons (mLit (.int 1)) (mCons (mLit (.int 0)) mNil))) (mCons (mTup (mCons (mLit (.int 1)) (mCons (mLit (.int 1)) mNil))) mNil))))))
  (sSeq (sSet 2 (mSh (mBI gTuple (mCons (mLc [3] (mSeq (mPk 1)) (gNm 3) (mLit (.bool true)) (mCall 72 (mCons (aDat (mCall 47 (mCons (aDat (mVar 0)) (mCons (aDat (mCall 71 (mCons (aDat (mVar 3)) mNil))) mNil)))) mNil))) mNil))))
  (sSeq (sIf (mBin gNe (mLc [3] (mSeq (mPk 2)) (gNm 3) (mNot (mCall 69 (mCons (aDat (mVar 3)) (mCons (aDat (mLit (.int 1000))) mNil)))) (mVar 3)) (mLst mNil)) (sRet (mLit .none)) sNil)
  (sSeq (sSet 4 (mSh (mCall 23 (mCons (aDat (mVar 1)) (mCons (aDat (mVar 2)) mNil)))))
  (sRet (mIf (mCall 19 (mCons (aDat (mVar 4)) mNil)) (mVar 4) (mLit .none)))))))
/-! _law_right -/
abbrev N77 : List Str := ["cup", "lead", "swing", "turn", "place", "fixed", "due", "back", "other", "path", "here", "own", "part"]
abbrev F77 : SS := (sSeq (sIf (mNot (mCall 45 (mCons (aDat (mVar 1)) mNil))) (sRet (mLit (.bool true))) sNil)
  (sSeq (sSet 2 (mSh (mCall 76 (mCons (aDat (mVar 1)) mNil))))
  (sSeq (sIf (mOr (mBin gIsNot (mCall 46 (mCons (aDat (mVar 1)) mNil)) (mLit (.bool true))) (mBin gIs (mPk 2) (mLit .none))) (sRet (mBin gIs (mCall 46 (mCons (aDat (mVar 1)) mNil)) (mLit (.bool true)))) sNil)
  (sSeq (sFor (mIter rngL (mCons (mLit (.int 4)) mNil)) (gNm 3) (sSeq (sSet 4 (mSh (mCall 70 (mCons (aCup 0) (mCons (aDat (mLit (.int 5))) mNil)))))
  (sIf (mNot (mCall 63 (mCons (aDat (mCall 47 (mCons (aDat (mVar 1)) (mCons (aDat (mCall 71 (mCons (aDat (mVar 4)) mNil))) mNil)))) (mCons (aDat (mCall 71 (mCons (aDat (mCall 20 (mCons (aDat (mVar 2)) (mCons (aDat (mVar 4)) mNil)))) mNil))) mNil)))) (sRet (mLit (.bool false))) sNil)))
  (sSeq (sSet 5 (mSh (mCall 54 (mCons (aDat (mVar 2)) mNil))))
  (sSeq (sSet 6 (mSh (mIf (mBin gIs (mPk 5) (mLit .none)) (mLit .none) (mBI gTuple (mCons (mBI gSorted (mCons (mLc [4] (mSeq (mPk 5)) (gNm 4) (mLit (.bool true)) (mCall 71 (mCons (aDat (mVar 4)) mNil))) mNil)) mNil)))))
  (sSeq (sIf (mNot (mCall 63 (mCons (aDat (mLst (mCons (mCall 48 (mCons (aDat (mVar 1)) mNil)) (mCons (mCall 49 (mCons (aDat (mVar 1)) mNil)) mNil)))) (mCons (aDat (mLst (mCons (mVar 6) (mCons (mCall 26 (mCons (aDat (mVar 2)) mNil)) mNil)))) mNil)))) (sRet (mLit (.bool false))) sNil)
  (sSeq (sSet 7 (mSh (mTup (mCons (mRev (mBin gIx (mPk 1) (mLit (.int 0)))) (mCons (mRev (mBin gIx (mPk 1) (mLit (.int 1)))) mNil)))))
  (sSeq (sSet 8 (mSh (mCall 76 (mCons (aDat (mVar 7)) mNil))))
  (sSeq (sIf (mAnd (mBin gIsNot (mPk 8) (mLit .none)) (mNot (mCall 63 (mCons (aDat (mVar 8)) (mCons (aDat (mCall 22 (mCons (aDat (mVar 2)) mNil))) mNil))))) (sRet (mLit (.bool false))) sNil)
  (sSeq (sSet 4 (mSh (mCall 70 (mCons (aCup 0) (mCons (aDat (mLit (.int 3))) mNil)))))
  (sSeq (sPar2 9 10 (mSh (mCall 28 (mCons (aDat (mVar 2)) (mCons (aDat (mVar 4)) (mCons (aDat (mLit (.int 3))) mNil))))) (mSh (mCall 71 (mCons (aDat (mVar 4)) mNil))))
  (sSeq (sFor (mSeq (mCut (mPk 9) (mYes (mLit (.int 1))) mNo)) (gNm 11) (sSeq (sSet 10 (mSh (mCall 47 (mCons (aDat (mVar 1)) (mCons (aDat (mVar 10)) mNil)))))
  (sSeq (sIf (mBin gGt (mBI gMax (mCons (mLc [12] (mSeq (mPk 10)) (gNm 12) (mLit (.bool true)) (mBI gAbs (mCons (mPk 12) mNil))) mNil)) (mBin gPow (mLit (.int 10)) (mLit (.int 9)))) (sRet (mLit (.bool true))) sNil)
  (sIf (mBin gNe (mCall 72 (mCons (aDat (mVar 10)) mNil)) (mPk 11)) (sRet (mLit (.bool false))) sNil))))
  (sRet (mBin gEq (mBin gEq (mCall 53 (mCons (aDat (mVar 2)) mNil)) (mLit (.int 0))) (mOr (mAnd (mBin gIsNot (mPk 5) (mLit .none)) (mBin gEq (mBI gLen (mCons (mPk 5) mNil)) (mLit (.int 1)))) (mBin gIs (mPk 5) (mLit .none))))))))))))))))))
/-! _law_both_right -/
abbrev N78 : List Str := ["one", "other", "first", "second", "both", "swing", "more"]
abbrev F78 : SS := (sSeq (sIf (mOr (mNot (mCall 45 (mCons (aDat (mVar 0)) mNil))) (mNot (mCall 45 (mCons (aDat (mVar 1)) mNil)))) (sRet (mLit (.bool true))) sNil)
  (sSeq (sPar2 2 3 (mSh (mCall 76 (mCons (aDat (mVar 0)) mNil))) (mSh (mCall 76 (mCons (aDat (mVar 1)) mNil))))
  (sSeq (sIf (mOr (mBin gIs (mPk 2) (mLit .none)) (mBin gIs (mPk 3) (mLit .none))) (sRet (mLit (.bool true))) sNil)
  (sSeq (sSet 4 (mSh (mCall 50 (mCons (aDat (mVar 0)) (mCons (aDat (mVar 1)) mNil)))))
  (sSeq (sSet 5 (mSh (mCall 76 (mCons (aDat (mVar 4)) mNil))))
  (sSeq (sIf (mAnd (mBin gIsNot (mPk 5) (mLit .none)) (mNot (mCall 63 (mCons (aDat (mVar 5)) (mCons (aDat (mCall 21 (mCons (aDat (mVar 2)) (mCons (aDat (mVar 3)) mNil)))) mNil))))) (sRet (mLit (.bool false))) sNil)
  (sSeq (sSet 6 (mSh (mCall 76 (mCons (aDat (mCall 50 (mCons (aDat (mVar 1)) (mCons (aDat (mVar 0)) mNil)))) mNil))))
  (sRet (mOr (mBin gIs (mPk 5) (mLit .none)) (mOr (mBin gIs (mPk 6) (mLit .none)) (mBin gIs (mCall 57 (mCons (aDat (mVar 5)) (mCons (aDat (mVar 6)) mNil))) (mLit (.bool true)))))))))))))
/-! _law_perspective_right -/
abbrev N79 : List Str := ["cup", "line", "first", "second", "lead", "swing", "meet", "told"]
abbrev F79 : SS := (sSeq (sSet 1 (mSh (mCall 61 (mCons (aCup 0) (mCons (aDat (mLst (mCons (mTup (mCons (mLit (.int 0)) (mCons (mLit (.int 1)) (mCons (mNeg (mLit (.int 1))) mNil)))) (mCons (mTup (mCons (mLit (.int 0)) (mCons (mLit (.int 1)) (mCons (mNeg (mLit (.int 2))) mNil)))) (mCons (mTup (mCons (mLit (.int 1)) (mCons (mLit (.int 1)) (mCons (mNeg (mLit (.int 1))) mNil)))) (mCons (mTup (mCons (mLit (.int 1)) (mCons (mNeg (mLit (.int 1))) (mCons (mLit (.int 0)) mNil)))) mNil)))))) mNil)))))
  (sSeq (sPar2 2 3 (mSh (mCall 61 (mCons (aCup 0) (mCons (aDat (mLst (mCons (mTup (mCons (mLit (.int 0)) (mCons (mLit (.int 2)) (mCons (mLit (.int 1)) mNil)))) (mCons (mTup (mCons (mLit (.int 1)) (mCons (mLit (.int 3)) (mCons (mLit (.int 1)) mNil)))) (mCons (mTup (mCons (mLit (.int 2)) (mCons (mLit (.int 5)) (mCons (mLit (.int 1)) mNil)))) mNil))))) mNil)))) (mSh (mCall 61 (mCons (aCup 0) (mCons (aDat (mLst (mCons (mTup (mCons (mLit (.int 0)) (mCons (mLit (.int 2)) (mCons (mLit (.int 1)) mNil)))) (mCons (mTup (mCons (mLit (.int 3)) (mCons (mLit (.int 5)) (mCons (mLit (.int 1)) mNil)))) (mCons (mTup (mCons (mNeg (mLit (.int 1))) (mCons (mLit (.int 4)) (mCons (mLit (.int 1)) mNil)))) mNil))))) mNil)))))
  (sSeq (sSet 4 (mSh (mTup (mCons (mTup (mCons (mTup (mCons (mLit (.int 0)) (mCons (mLit (.int 1)) (mCons (mLit (.int 0)) mNil)))) (mCons (mVar 1) (mCons (mTup (mCons (mLit (.int 0)) (mCons (mLit (.int 1)) (mCons (mLit (.int 0)) mNil)))) mNil)))) (mCons (mTup (mCons (mVar 2) (mCons (mCall 67 (mCons (aDat (mVar 3)) mNil)) mNil))) mNil)))))
  (sSeq (sIf (mNot (mCall 45 (mCons (aDat (mVar 4)) mNil))) (sRet (mLit (.bool true))) sNil)
  (sSeq (sSet 5 (mSh (mCall 76 (mCons (aDat (mVar 4)) mNil))))
  (sSeq (sIf (mBin gIs (mPk 5) (mLit .none)) (sRet (mLit (.bool true))) sNil)
  (sSeq (sSet 6 (mSh (mCall 72 (mCons (aDat (mCall 80 (mCons (aDat (mTup (mCons (mLit (.int 0)) (mCons (mLit (.int 1)) (mCons (mLit (.int 0)) mNil))))) (mCons (aDat (mVar 1)) mNil)))) mNil))))
  (sSeq (sSet 7 (mSh (mCall 54 (mCons (aDat (mVar 5)) mNil))))
  (sSeq (sIf (mOr (mAnd (mBin gIsNot (mPk 7) (mLit .none)) (mBin gNotIn (mPk 6) (mPk 7))) (mBin gNe (mBin gIs (mPk 7) (mLit .none)) (mBin gEq (mPk 2) (mBin gIx (mBin gIx (mPk 4) (mLit (.int 1))) (mLit (.int 1)))))) (sRet (mLit (.bool false))) sNil)
  (sRet (mAnd (mCall 77 (mCons (aCup 0) (mCons (aDat (mVar 4)) mNil))) (mBin gEq (mCall 27 (mCons (aDat (mVar 5)) (mCons (aDat (mLit (.int 2))) mNil))) (mCall 21 (mCons (aDat (mVar 5)) (mCons (aDat (mVar 5)) mNil)))))))))))))))
/-! _law_cross_of -/
abbrev N80 : List Str := ["one", "other", "a", "b", "c", "d", "e", "f"]
abbrev F80 : SS := (sSeq (sAsg (mVar 0) (gTp (gCs (gNm 2) (gCs (gNm 3) (gCs (gNm 4) gNl)))))
  (sSeq (sAsg (mVar 1) (gTp (gCs (gNm 5) (gCs (gNm 6) (gCs (gNm 7) gNl)))))
  (sRet (mCall 67 (mCons (aDat (mTup (mCons (mBin gSub (mBin gMul (mPk 3) (mPk 7)) (mBin gMul (mPk 4) (mPk 6))) (mCons (mBin gSub (mBin gMul (mPk 4) (mPk 5)) (mBin gMul (mPk 2) (mPk 7))) (mCons (mBin gSub (mBin gMul (mPk 2) (mPk 6)) (mBin gMul (mPk 3) (mPk 5))) mNil))))) mNil)))))
/-! _law_written_right -/
abbrev N81 : List Str := ["cup", "double", "home", "told", "due"]
abbrev F81 : SS := (sSeq (sSet 1 (mSh (mTup (mCons (mTup (mCons (mTup (mCons (mLit (.int 0)) (mCons (mLit (.int 1)) (mCons (mLit (.int 0)) mNil)))) (mCons (mTup (mCons (mLit (.int 0)) (mCons (mLit (.int 1)) (mCons (mNeg (mLit (.int 1))) mNil)))) (mCons (mTup (mCons (mLit (.int 0)) (mCons (mLit (.int 1)) (mCons (mLit (.int 0)) mNil)))) mNil)))) (mCons (mTup (mCons (mTup (mCons (mLit (.int 0)) (mCons (mLit (.int 2)) (mCons (mLit (.int 1)) mNil)))) (mCons (mTup (mCons (mLit (.int 0)) (mCons (mLit (.int 1)) (mCons (mNeg (mLit (.int 1))) mNil)))) mNil))) mNil)))))
  (sSeq (sSet 2 (mSh (mTup (mCons (mTup (mCons (mTup (mCons (mLit (.int 0)) (mCons (mLit (.int 1)) (mCons (mLit (.int 0)) mNil)))) (mCons (mTup (mCons (mLit (.int 0)) (mCons (mLit (.int 1)) (mCons (mNeg (mLit (.int 1))) mNil)))) (mCons (mTup (mCons (mLit (.int 0)) (mCons (mLit (.int 1)) (mCons (mLit (.int 0)) mNil)))) mNil)))) (mCons (mTup (mCons (mTup (mCons (mLit (.int 0)) (mCons (mLit (.int 2)) (mCons (mLit (.int 1)) mNil)))) (mCons (mTup (mCons (mLit (.int 0)) (mCons (mLit (.int 2)) (mCons (mLit (.int 1)) mNil)))) mNil))) mNil)))))
  (sSeq (sSet 3 (mSh (mLst (mCons (mCall 76 (mCons (aDat (mVar 1)) mNil)) (mCons (mCall 76 (mCons (aDat (mVar 2)) mNil)) (mCons (mCall 49 (mCons (aDat (mVar 2)) mNil)) (mCons (mCall 48 (mCons (aDat (mVar 1)) mNil)) (mCons (mCall 47 (mCons (aDat (mVar 1)) (mCons (aDat (mTup (mCons (mLit (.int 2)) (mCons (mLit (.int 0)) (mCons (mLit (.int 1)) mNil))))) mNil))) mNil))))))))
  (sSeq (sSet 4 (mSh (mLst (mCons (mTup (mCons (mLit (.int 1)) (mCons (mLit (.int 0)) (mCons (mLit (.int 0)) (mCons (mLit (.int 4)) mNil))))) (mCons (mTup (mCons (mLit (.int 1)) (mCons (mLit (.int 0)) (mCons (mLit (.int 0)) (mCons (mLit (.int 1)) mNil))))) (mCons (mLit (.int 1)) (mCons (mTup (mCons (mTup (mCons (mLit (.int 0)) (mCons (mLit (.int 0)) (mCons (mLit (.int 1)) mNil)))) (mCons (mTup (mCons (mLit (.int 1)) (mCons (mLit (.int 0)) (mCons (mLit (.int 0)) mNil)))) mNil))) (mCons (mTup (mCons (mLit (.int 1)) (mCons (mLit (.int 0)) (mCons (mLit (.int 2)) mNil)))) mNil))))))))
  (sSeq (sIf (mOr (mNot (mCall 63 (mCons (aDat (mVar 3)) (mCons (aDat (mVar 4)) mNil)))) (mOr (mNot (mCall 77 (mCons (aCup 0) (mCons (aDat (mVar 1)) mNil)))) (mOr (mNot (mCall 77 (mCons (aCup 0) (mCons (aDat (mVar 2)) mNil)))) (mOr (mNot (mCall 78 (mCons (aDat (mVar 1)) (mCons (aDat (mVar 2)) mNil)))) (mNot (mCall 78 (mCons (aDat (mVar 1)) (mCons (aDat (mVar 1)) mNil)))))))) (sRet (mLit (.bool false))) sNil)
  (sRet (mBin gIs (mCall 58 (mCons (aDat (mCall 76 (mCons (aDat (mVar 1)) mNil))) (mCons (aDat (mTup (mCons (mLit (.int 0)) (mCons (mLit (.int 1)) (mCons (mLit (.int 1)) (mCons (mLit (.int 0)) mNil)))))) mNil))) (mLit (.bool true)))))))))
/-! law -/
abbrev N82 : List Str := ["script", "cup", "turn", "one", "other"]
abbrev F82 : SS := (sSeq (sFor (mIter rngL (mCons (mLit (.int 5)) mNil)) (gNm 2) (sSeq (sPar2 3 4 (mSh (mCall 75 (mCons (aCup 1) (mCons (aDat (mBin gAdd (mLit (.int 1)) (mCall 60 (mCons (aCup 1) (mCons (aDat (mLit (.int 3))) mNil))))) mNil)))) (mSh (mCall 75 (mCons (aCup 1) (mCons (aDat (mBin gAdd (mLit (.int 1)) (mCall 60 (mCons (aCup 1) (mCons (aDat (mLit (.int 2))) mNil))))) mNil)))))
  (sIf (mOr (mNot (mCall 77 (mCons (aCup 1) (mCons (aDat (mVar 3)) mNil)))) (mOr (mNot (mCall 78 (mCons (aDat (mVar 3)) (mCons (aDat (mVar 4)) mNil)))) (mNot (mCall 79 (mCons (aCup 1) mNil))))) (sRet (mLit (.bool false))) sNil)))
  (sRet (mCall 81 (mCons (aCup 1) mNil))))
structure Ms (K : PySem.W.Frag) (mg : Str → Option Value) : Prop where
  b_abs : mg "abs" = none
  b_all : mg "all" = none
  b_any : mg "any" = none
  b_bool : mg "bool" = none
  b_enumerate : mg "enumerate" = none
  b_gcd : mg "gcd" = some (.builtin "math.gcd")
  b_int : mg "int" = none
  b_isinstance : mg "isinstance" = none
  b_isqrt : mg "isqrt" = some (.builtin "math.isqrt")
  b_len : mg "len" = none
  b_list : mg "list" = none
  b_max : mg "max" = none
  b_range : mg "range" = none
  b_set : mg "set" = none
  b_sorted : mg "sorted" = none
  b_str : mg "str" = none
  b_sum : mg "sum" = none
  b_tuple : mg "tuple" = none
  b_zip : mg "zip" = none
  k_GREAT : ∃ t, mg "GREAT" = some (.int (1000000000000000000000000000000000000000000000000000000000000) t)
  k_LINES : ∃ t, mg "LINES" = some (.int (9) t)
  k_MANY : ∃ t, mg "MANY" = some (.int (60) t)
  k_NONE : ∃ a, mg "NONE" = some (.ref a) ∧ ∀ H Z, Dv K H Z (.ref a) (.tuple [.int 1, .int 0, .int 0, .int 1])
  k_PART_swings : ∃ t, mg "PART_swings" = some (.int (1000000000) t)
  k_PART_triples : ∃ t, mg "PART_triples" = some (.int (1000000000) t)
  k_ROUNDS : ∃ t, mg "ROUNDS" = some (.int (6) t)
  k_SIZE : ∃ t, mg "SIZE" = some (.int (10000) t)
  k_SMALL_drawsteps : ∃ t, mg "SMALL_drawsteps" = some (.int (100) t)
  k_SMALL_swings : ∃ t, mg "SMALL_swings" = some (.int (1000) t)
  d_ORDERS : ∃ a, mg "ORDERS" = some (.ref a) ∧ DcAt K a [([0, 1], 2), ([1, 1], 3), ([2, 1], 4), ([3, 1], 6)]
structure Css (P : Program) (w : World) (K : PySem.W.Frag) (mg : Str → Option Value) (base : Heap) (m : Nat) (cf : CF) : Prop where
  c0 : Cal P w K mg base m "is_whole" ["value", "low", "high"] (cf 0)
  c1 : Cal P w K mg base m "need_whole" ["value", "low", "high"] (cf 1)
  c2 : Cal P w K mg base m "is_tuple_of" ["value", "low", "high"] (cf 2)
  c3 : Cal P w K mg base m "lowest" ["top", "bottom"] (cf 3)
  c4 : Cal P w K mg base m "fits_place" ["value", "most"] (cf 4)
  c5 : Cal P w K mg base m "need_place" ["value", "most"] (cf 5)
  c6 : Cal P w K mg base m "measure" ["swing"] (cf 6)
  c7 : Cal P w K mg base m "trace" ["swing"] (cf 7)
  c8 : Cal P w K mg base m "shortened" ["parts"] (cf 8)
  c9 : Cal P w K mg base m "fits_swing" ["value", "most"] (cf 9)
  c10 : Cal P w K mg base m "need_swing" ["value"] (cf 10)
  c11 : Cal P w K mg base m "need_two" ["one", "other"] (cf 11)
  c12 : Cal P w K mg base m "plain_place" ["top", "bottom"] (cf 12)
  c13 : Cal P w K mg base m "carried" ["swing", "place"] (cf 13)
  c14 : Cal P w K mg base m "raw_product" ["one", "other"] (cf 14)
  c15 : Cal P w K mg base m "product" ["one", "other"] (cf 15)
  c16 : Cal P w K mg base m "undone" ["swing"] (cf 16)
  c17 : Cal P w K mg base m "frame_of" ["places"] (cf 17)
  c18 : Cal P w K mg base m "need_three" ["value"] (cf 18)
  c19 : Cal P w K mg base m "is_swing" ["value"] (cf 19)
  c20 : Cal P w K mg base m "carried_place" ["swing", "place"] (cf 20)
  c21 : Cal P w K mg base m "swings_together" ["one", "other"] (cf 21)
  c22 : Cal P w K mg base m "swing_back" ["swing"] (cf 22)
  c23 : Cal P w K mg base m "swing_through" ["places", "images"] (cf 23)
  c24 : Cal P w K mg base m "number_in" ["swing"] (cf 24)
  c25 : Cal P w K mg base m "order_in" ["swing"] (cf 25)
  c26 : Cal P w K mg base m "swing_order" ["swing"] (cf 26)
  c27 : Cal P w K mg base m "swing_power" ["swing", "many"] (cf 27)
  c28 : Cal P w K mg base m "path_of" ["swing", "place", "many"] (cf 28)
  c29 : Cal P w K mg base m "is_three" ["value"] (cf 29)
  c30 : Cal P w K mg base m "is_triple" ["value"] (cf 30)
  c31 : Cal P w K mg base m "plainly" ["value"] (cf 31)
  c32 : Cal P w K mg base m "need_triple" ["value"] (cf 32)
  c33 : Cal P w K mg base m "dot" ["one", "other"] (cf 33)
  c34 : Cal P w K mg base m "cross" ["one", "other"] (cf 34)
  c35 : Cal P w K mg base m "is_small" ["value"] (cf 35)
  c36 : Cal P w K mg base m "fits" ["value"] (cf 36)
  c37 : Cal P w K mg base m "need_lead" ["lead"] (cf 37)
  c38 : Cal P w K mg base m "need_closed" ["lead"] (cf 38)
  c39 : Cal P w K mg base m "led" ["lead", "point"] (cf 39)
  c40 : Cal P w K mg base m "base_of" ["line"] (cf 40)
  c41 : Cal P w K mg base m "form_of" ["lead"] (cf 41)
  c42 : Cal P w K mg base m "roots_of" ["a", "b", "c"] (cf 42)
  c43 : Cal P w K mg base m "is_home" ["lead"] (cf 43)
  c44 : Cal P w K mg base m "rounds_in" ["lead"] (cf 44)
  c45 : Cal P w K mg base m "is_lead" ["value"] (cf 45)
  c46 : Cal P w K mg base m "is_closed" ["lead"] (cf 46)
  c47 : Cal P w K mg base m "led_by" ["lead", "point"] (cf 47)
  c48 : Cal P w K mg base m "kept_points" ["lead"] (cf 48)
  c49 : Cal P w K mg base m "rounds_to_home" ["lead"] (cf 49)
  c50 : Cal P w K mg base m "joined_leads" ["one", "other"] (cf 50)
  c51 : Cal P w K mg base m "gauge" ["swing"] (cf 51)
  c52 : Cal P w K mg base m "fixed_in" ["swing"] (cf 52)
  c53 : Cal P w K mg base m "gauge_of" ["swing"] (cf 53)
  c54 : Cal P w K mg base m "fixed_places" ["swing"] (cf 54)
  c55 : Cal P w K mg base m "bare" ["number"] (cf 55)
  c56 : Cal P w K mg base m "shape_in" ["swing"] (cf 56)
  c57 : Cal P w K mg base m "are_swings_alike" ["one", "other"] (cf 57)
  c58 : Cal P w K mg base m "does_turn_back" ["swing", "value"] (cf 58)
  c60 : Cal P w K mg base m "_law_roll" ["cup", "many"] (cf 60)
  c61 : Cal P w K mg base m "_law_some" ["cup", "things"] (cf 61)
  c62 : Cal P w K mg base m "_law_sort" ["value"] (cf 62)
  c63 : Cal P w K mg base m "_law_like" ["one", "other"] (cf 63)
  c64 : Cal P w K mg base m "_law_is_number" ["value", "low", "high"] (cf 64)
  c65 : Cal P w K mg base m "_law_gcd" ["one", "other"] (cf 65)
  c66 : Cal P w K mg base m "_law_low" ["top", "bottom"] (cf 66)
  c67 : Cal P w K mg base m "_law_short" ["parts"] (cf 67)
  c68 : Cal P w K mg base m "_law_at" ["top", "bottom"] (cf 68)
  c69 : Cal P w K mg base m "_law_is_place" ["value", "most"] (cf 69)
  c70 : Cal P w K mg base m "_law_spot" ["cup", "great"] (cf 70)
  c71 : Cal P w K mg base m "_law_point" ["place"] (cf 71)
  c72 : Cal P w K mg base m "_law_place_of" ["point"] (cf 72)
  c73 : Cal P w K mg base m "_law_dot" ["one", "other"] (cf 73)
  c74 : Cal P w K mg base m "_law_triple" ["cup", "great"] (cf 74)
  c75 : Cal P w K mg base m "_law_lead" ["cup", "many"] (cf 75)
  c76 : Cal P w K mg base m "_law_swing_of" ["lead"] (cf 76)
  c77 : Cal P w K mg base m "_law_right" ["cup", "lead"] (cf 77)
  c78 : Cal P w K mg base m "_law_both_right" ["one", "other"] (cf 78)
  c79 : Cal P w K mg base m "_law_perspective_right" ["cup"] (cf 79)
  c80 : Cal P w K mg base m "_law_cross_of" ["one", "other"] (cf 80)
  c81 : Cal P w K mg base m "_law_written_right" ["cup"] (cf 81)
section
variable {P : Program} {w : World} {K : PySem.W.Frag} {mg : Str → Option Value} {base : Heap} {f : Addr} {cdv : Value} {A : Around} {outer : List Env} {s : Shared} {H : Hp} {E : XK} {m : Nat} {cf : CF} {c : Addr} {H0 : Hp} {Z0 : List Addr}
theorem P0 (M : Ms K mg) (Cs : Css P w K mg base m cf) (hr : Room m (A.deeper (envOfC "is_whole" (defScope (top 11)) s.heap.objs.size f cdv))) (z0 : ZOk H0 Z0) :
    PSs (cxOf CX0 P w K mg base N0 "is_whole" (defScope (top 11)) f cdv A outer s H E).nox (defBody (top 11)) (lS K c H0 Z0 (F0 cf)) :=
  have hN : N0.Nodup := by decide +kernel
  have hu := hr.units
  have hu6 := room66 hr
  (p_one (p_ret (e_and (e_isi k_int rfl M.b_isinstance (l_ (by kernel_rfl)) rfl M.b_int bt_int (by decide) rfl rfl rfl rfl) (e_and (e_not (e_isi k_bool rfl M.b_isinstance (l_ (by kernel_rfl)) rfl M.b_bool bt_bool (by decide) rfl rfl rfl rfl)) (one_ (che_ (o_le hu) (o_le hu) (l_ (by kernel_rfl)) (l_ (by kernel_rfl)) (l_ (by kernel_rfl)) (by with_unfolding_all rfl)))))))
theorem P1 (M : Ms K mg) (Cs : Css P w K mg base m cf) (hr : Room m (A.deeper (envOfC "need_whole" (defScope (top 12)) s.heap.objs.size f cdv))) (z0 : ZOk H0 Z0) :
    PSs (cxOf CX0 P w K mg base N1 "need_whole" (defScope (top 12)) f cdv A outer s H E).nox (defBody (top 12)) (lS K c H0 Z0 (F1 cf)) :=
  have hN : N1.Nodup := by decide +kernel
  have hu := hr.units
  have hu6 := room66 hr
  (p_one (p_if (t_not (t_val (c_ (Cs.c0) hr (a_cons stays_arg (e_adat (v_ (by kernel_rfl))) (a_cons stays_arg (e_adat (v_ (by kernel_rfl))) (a_cons stays_arg (e_adat (v_ (by kernel_rfl))) a_nil rfl) rfl) rfl) rfl rfl rfl rfl) (fun _ => rfl))) (p_one p_never) p_nil))
theorem P2 (M : Ms K mg) (Cs : Css P w K mg base m cf) (hr : Room m (A.deeper (envOfC "is_tuple_of" (defScope (top 13)) s.heap.objs.size f cdv))) (z0 : ZOk H0 Z0) :
    PSs (cxOf CX0 P w K mg base N2 "is_tuple_of" (defScope (top 13)) f cdv A outer s H E).nox (defBody (top 13)) (lS K c H0 Z0 (F2 cf)) :=
  have hN : N2.Nodup := by decide +kernel
  have hu := hr.units
  have hu6 := room66 hr
  (p_one (p_ret (e_and (e_isi k_tuple rfl M.b_isinstance (l_ (by kernel_rfl)) rfl M.b_tuple bt_tuple (by decide) rfl rfl rfl rfl) (one_ (che_ (o_le hu) (o_le hu) (l_ (by kernel_rfl)) (PE.pk (e_callB b_len rfl M.b_len bt_len (a_cons stays_dvp (l_ (by kernel_rfl)) a_nil rfl) (by decide) rfl rfl rfl)) (l_ (by kernel_rfl)) (by with_unfolding_all rfl))))))
theorem P3 (M : Ms K mg) (Cs : Css P w K mg base m cf) (hr : Room m (A.deeper (envOfC "lowest" (defScope (top 15)) s.heap.objs.size f cdv))) (z0 : ZOk H0 Z0) :
    PSs (cxOf CX0 P w K mg base N3 "lowest" (defScope (top 15)) f cdv A outer s H E).nox (defBody (top 15)) (lS K c H0 Z0 (F3 cf)) :=
  have hN : N3.Nodup := by decide +kernel
  have hu := hr.units
  have hu6 := room66 hr
  (p_cons (p_set hN rfl (.inl rfl) (w_sh (e_callBf b_gcd rfl M.b_gcd (a_cons stays_dvp (l_ (by kernel_rfl)) (a_cons stays_dvp (l_ (by kernel_rfl)) a_nil rfl) rfl) rfl rfl rfl)) rfl (.inl rfl))
  (p_cons (p_set hN rfl (.inl rfl) (w_sh (e_if (t_cmp (o_gt hu) (l_ (by kernel_rfl)) (PE.pk e_int) (nomark _)) (v_ (by kernel_rfl)) (e_neg (v_ (by kernel_rfl))))) rfl (.inl rfl))
  (p_one (p_ret (e_tup (a_cons stays_dv (e_bin o_div (l_ (by kernel_rfl)) (l_ (by kernel_rfl))) (a_cons stays_dv (e_bin o_div (l_ (by kernel_rfl)) (l_ (by kernel_rfl))) a_nil rfl) rfl) (short_ (lenS_ (lenS_ len0_)) (by decide)))))))
theorem P4 (M : Ms K mg) (Cs : Css P w K mg base m cf) (hr : Room m (A.deeper (envOfC "fits_place" (defScope (top 22)) s.heap.objs.size f cdv))) (z0 : ZOk H0 Z0) :
    PSs (cxOf CX0 P w K mg base N4 "fits_place" (defScope (top 22)) f cdv A outer s H E).nox (defBody (top 22)) (lS K c H0 Z0 (F4 cf)) :=
  have hN : N4.Nodup := by decide +kernel
  have hu := hr.units
  have hu6 := room66 hr
  (p_cons (p_if (PW.pt (t_or (t_not (t_val (c_ (Cs.c2) hr (a_cons stays_arg (e_adat (v_ (by kernel_rfl))) (a_cons stays_arg (e_adat e_int) (a_cons stays_arg (e_adat e_int) a_nil rfl) rfl) rfl) rfl rfl rfl rfl) (fun _ => rfl))) (t_or (t_not (t_val (c_ (Cs.c0) hr (a_cons stays_arg (e_adat (e_ix o_ix (l_ (by kernel_rfl)) (PE.pk e_int) (fun _ _ => rfl))) (a_cons stays_arg (e_adat (e_neg (v_ (by kernel_rfl)))) (a_cons stays_arg (e_adat (v_ (by kernel_rfl))) a_nil rfl) rfl) rfl) rfl rfl rfl rfl) (fun _ => rfl))) (to1_ (t_not (t_val (c_ (Cs.c0) hr (a_cons stays_arg (e_adat (e_ix o_ix (l_ (by kernel_rfl)) (PE.pk e_int) (fun _ _ => rfl))) (a_cons stays_arg (e_adat e_int) (a_cons stays_arg (e_adat (v_ (by kernel_rfl))) a_nil rfl) rfl) rfl) rfl rfl rfl rfl) (fun _ => rfl))))))) (p_one (p_ret e_bl)) p_nil)
  (p_one (p_ret (e_and (e_cmp (o_eq hu) (PE.pk (e_callBf b_gcd rfl M.b_gcd (a_cons stays_dvp (PE.pk (e_ix o_ix (l_ (by kernel_rfl)) (PE.pk e_int) (fun _ _ => rfl))) (a_cons stays_dvp (PE.pk (e_ix o_ix (l_ (by kernel_rfl)) (PE.pk e_int) (fun _ _ => rfl))) a_nil rfl) rfl) rfl rfl rfl)) (PE.pk e_int) (nomark _)) (one_ (e_or (e_cmp (o_gt hu) (PE.pk (e_ix o_ix (l_ (by kernel_rfl)) (PE.pk e_int) (fun _ _ => rfl))) (PE.pk e_int) (nomark _)) (one_ (e_cmp (o_eq hu) (PE.pk (e_ix o_ix (l_ (by kernel_rfl)) (PE.pk e_int) (fun _ _ => rfl))) (PE.pk e_int) (nomark _)))))))))
theorem P5 (M : Ms K mg) (Cs : Css P w K mg base m cf) (hr : Room m (A.deeper (envOfC "need_place" (defScope (top 23)) s.heap.objs.size f cdv))) (z0 : ZOk H0 Z0) :
    PSs (cxOf CX0 P w K mg base N5 "need_place" (defScope (top 23)) f cdv A outer s H E).nox (defBody (top 23)) (lS K c H0 Z0 (F5 cf)) :=
  have hN : N5.Nodup := by decide +kernel
  have hu := hr.units
  have hu6 := room66 hr
  (p_one (p_if (t_not (t_val (c_ (Cs.c4) hr (a_cons stays_arg (e_adat (v_ (by kernel_rfl))) (a_cons stays_arg (e_adat (v_ (by kernel_rfl))) a_nil rfl) rfl) rfl rfl rfl rfl) (fun _ => rfl))) (p_one p_never) p_nil))
theorem P6 (M : Ms K mg) (Cs : Css P w K mg base m cf) (hr : Room m (A.deeper (envOfC "measure" (defScope (top 24)) s.heap.objs.size f cdv))) (z0 : ZOk H0 Z0) :
    PSs (cxOf CX0 P w K mg base N6 "measure" (defScope (top 24)) f cdv A outer s H E).nox (defBody (top 24)) (lS K c H0 Z0 (F6 cf)) :=
  have hN : N6.Nodup := by decide +kernel
  have hu := hr.units
  have hu6 := room66 hr
  (p_one (p_ret (e_bin o_sub (PE.pk (e_bin o_mul (PE.pk (e_ix o_ix (l_ (by kernel_rfl)) (PE.pk e_int) (fun _ _ => rfl))) (PE.pk (e_ix o_ix (l_ (by kernel_rfl)) (PE.pk e_int) (fun _ _ => rfl))))) (PE.pk (e_bin o_mul (PE.pk (e_ix o_ix (l_ (by kernel_rfl)) (PE.pk e_int) (fun _ _ => rfl))) (PE.pk (e_ix o_ix (l_ (by kernel_rfl)) (PE.pk e_int) (fun _ _ => rfl))))))))
theorem P7 (M : Ms K mg) (Cs : Css P w K mg base m cf) (hr : Room m (A.deeper (envOfC "trace" (defScope (top 25)) s.heap.objs.size f cdv))) (z0 : ZOk H0 Z0) :
    PSs (cxOf CX0 P w K mg base N7 "trace" (defScope (top 25)) f cdv A outer s H E).nox (defBody (top 25)) (lS K c H0 Z0 (F7 cf)) :=
  have hN : N7.Nodup := by decide +kernel
  have hu := hr.units
  have hu6 := room66 hr
  (p_one (p_ret (e_bin o_add (PE.pk (e_ix o_ix (l_ (by kernel_rfl)) (PE.pk e_int) (fun _ _ => rfl))) (PE.pk (e_ix o_ix (l_ (by kernel_rfl)) (PE.pk e_int) (fun _ _ => rfl))))))
theorem P8 (M : Ms K mg) (Cs : Css P w K mg base m cf) (hr : Room m (A.deeper (envOfC "shortened" (defScope (top 26)) s.heap.objs.size f cdv))) (z0 : ZOk H0 Z0) :
    PSs (cxOf CX0 P w K mg base N8 "shortened" (defScope (top 26)) f cdv A outer s H E).nox (defBody (top 26)) (lS K c H0 Z0 (F8 cf)) :=
  have hN : N8.Nodup := by decide +kernel
  have hu := hr.units
  have hu6 := room66 hr
  (p_cons (p_set hN rfl (.inr rfl) (w_sh e_int) rfl (.inl rfl))
  (p_cons (p_for .never rfl (i_seq lkL (v_ (by kernel_rfl))) (g_nm hN rfl (.inl rfl) (.inl rfl)) (p_one (p_set hN rfl (.inr rfl) (w_sh (e_callBf b_gcd rfl M.b_gcd (a_cons stays_dvp (l_ (by kernel_rfl)) (a_cons stays_dvp (l_ (by kernel_rfl)) a_nil rfl) rfl) rfl rfl rfl)) rfl (.inl rfl))) (fun _ => rfl))
  (p_cons (p_set hN rfl (.inr rfl) (w_sh (e_ix o_ix (PE.pk (e_lc (own := [("part", 2)]) (is := [2]) rfl hN (i_seq lkK (l_ (by kernel_rfl))) (blkOk_by (by kernel_rfl)) (by decide) (fun _ _ _ _ _ => (g_nm hN rfl (.inl rfl) (.inr rfl))) (fun _ _ _ _ _ => (tl_one (t_cmp (o_ne hu) (l_ (by kernel_rfl)) (PE.pk e_int) (nomark _)))) (fun _ _ _ _ _ => (v_ (by kernel_rfl))) (fun _ => rfl))) (PE.pk e_int) (fun _ _ => rfl))) rfl (.inl rfl))
  (p_one (p_ret (e_callTy b_tuple rfl M.b_tuple bt_tuple (a_cons stays_dvp (PE.pk (e_lc (own := [("part", 2)]) (is := [2]) rfl hN (i_seq lkK (l_ (by kernel_rfl))) (blkOk_by (by kernel_rfl)) (by decide) (fun _ _ _ _ _ => (g_nm hN rfl (.inl rfl) (.inr rfl))) (fun _ _ _ _ _ => tl_nil) (fun _ _ _ _ _ => (e_if (t_cmp (o_gt hu) (l_ (by kernel_rfl)) (PE.pk e_int) (nomark _)) (e_bin o_div (l_ (by kernel_rfl)) (l_ (by kernel_rfl))) (e_bin o_div (PE.pk (e_neg (v_ (by kernel_rfl)))) (l_ (by kernel_rfl))))) (fun _ => rfl))) a_nil rfl) (by decide) rfl rfl rfl))))))
theorem P9 (M : Ms K mg) (Cs : Css P w K mg base m cf) (hr : Room m (A.deeper (envOfC "fits_swing" (defScope (top 27)) s.heap.objs.size f cdv))) (z0 : ZOk H0 Z0) :
    PSs (cxOf CX0 P w K mg base N9 "fits_swing" (defScope (top 27)) f cdv A outer s H E).nox (defBody (top 27)) (lS K c H0 Z0 (F9 cf)) :=
  have hN : N9.Nodup := by decide +kernel
  have hu := hr.units
  have hu6 := room66 hr
  (p_cons (p_if (PW.pt (t_or (t_not (t_val (c_ (Cs.c2) hr (a_cons stays_arg (e_adat (v_ (by kernel_rfl))) (a_cons stays_arg (e_adat e_int) (a_cons stays_arg (e_adat e_int) a_nil rfl) rfl) rfl) rfl rfl rfl rfl) (fun _ => rfl))) (to1_ (t_not (t_val (e_callB (b_all rfl) rfl M.b_all bt_all (a_cons stays_dvp (PE.pk (e_lc (own := [("part", 2)]) (is := [2]) rfl hN (i_seq lkK (l_ (by kernel_rfl))) (blkOk_by (by kernel_rfl)) (by decide) (fun _ _ _ _ _ => (g_nm hN rfl (.inl rfl) (.inr rfl))) (fun _ _ _ _ _ => tl_nil) (fun _ _ _ _ _ => (c_ (Cs.c0) hr (a_cons stays_arg (e_adat (v_ (by kernel_rfl))) (a_cons stays_arg (e_adat (e_neg (v_ (by kernel_rfl)))) (a_cons stays_arg (e_adat (v_ (by kernel_rfl))) a_nil rfl) rfl) rfl) rfl rfl rfl rfl)) (fun _ => rfl))) a_nil rfl) (by decide) rfl rfl rfl) (fun _ => rfl)))))) (p_one (p_ret e_bl)) p_nil)
  (p_one (p_ret (e_and (e_cmp (o_ne hu) (PE.pk (c_ (Cs.c6) hr (a_cons stays_arg (e_adat (v_ (by kernel_rfl))) a_nil rfl) rfl rfl rfl rfl)) (PE.pk e_int) (nomark _)) (one_ (e_cmp (o_eq hu) (PE.pk (c_ (Cs.c8) hr (a_cons stays_arg (e_adat (v_ (by kernel_rfl))) a_nil rfl) rfl rfl rfl rfl)) (l_ (by kernel_rfl)) (nomark _)))))))
theorem P10 (M : Ms K mg) (Cs : Css P w K mg base m cf) (hr : Room m (A.deeper (envOfC "need_swing" (defScope (top 28)) s.heap.objs.size f cdv))) (z0 : ZOk H0 Z0) :
    PSs (cxOf CX0 P w K mg base N10 "need_swing" (defScope (top 28)) f cdv A outer s H E).nox (defBody (top 28)) (lS K c H0 Z0 (F10 cf)) :=
  have hN : N10.Nodup := by decide +kernel
  have hu := hr.units
  have hu6 := room66 hr
  (p_one (p_if (t_not (t_val (c_ (Cs.c9) hr (a_cons stays_arg (e_adat (v_ (by kernel_rfl))) (a_cons stays_arg (e_adat (k_ M.k_SIZE rfl rfl)) a_nil rfl) rfl) rfl rfl rfl rfl) (fun _ => rfl))) (p_one p_never) p_nil))
theorem P11 (M : Ms K mg) (Cs : Css P w K mg base m cf) (hr : Room m (A.deeper (envOfC "need_two" (defScope (top 29)) s.heap.objs.size f cdv))) (z0 : ZOk H0 Z0) :
    PSs (cxOf CX0 P w K mg base N11 "need_two" (defScope (top 29)) f cdv A outer s H E).nox (defBody (top 29)) (lS K c H0 Z0 (F11 cf)) :=
  have hN : N11.Nodup := by decide +kernel
  have hu := hr.units
  have hu6 := room66 hr
  (p_cons (p_drop (c_ (Cs.c10) hr (a_cons stays_arg (e_adat (v_ (by kernel_rfl))) a_nil rfl) rfl rfl rfl rfl) rfl)
  (p_one (p_drop (c_ (Cs.c10) hr (a_cons stays_arg (e_adat (v_ (by kernel_rfl))) a_nil rfl) rfl rfl rfl rfl) rfl)))
theorem P12 (M : Ms K mg) (Cs : Css P w K mg base m cf) (hr : Room m (A.deeper (envOfC "plain_place" (defScope (top 30)) s.heap.objs.size f cdv))) (z0 : ZOk H0 Z0) :
    PSs (cxOf CX0 P w K mg base N12 "plain_place" (defScope (top 30)) f cdv A outer s H E).nox (defBody (top 30)) (lS K c H0 Z0 (F12 cf)) :=
  have hN : N12.Nodup := by decide +kernel
  have hu := hr.units
  have hu6 := room66 hr
  (p_cons (p_set hN rfl (.inl rfl) (w_sh (c_ (Cs.c8) hr (a_cons stays_arg (e_adat (e_tup (a_cons stays_dv (v_ (by kernel_rfl)) (a_cons stays_dv (v_ (by kernel_rfl)) a_nil rfl) rfl) (short_ (lenS_ (lenS_ len0_)) (by decide)))) a_nil rfl) rfl rfl rfl rfl)) rfl (.inl rfl))
  (p_one (p_ret (e_if (t_cmp (o_lt hu) (PE.pk (e_ix o_ix (l_ (by kernel_rfl)) (PE.pk e_int) (fun _ _ => rfl))) (PE.pk e_int) (nomark _)) (e_tup (a_cons stays_dv (e_neg (e_ix o_ix (l_ (by kernel_rfl)) (PE.pk e_int) (fun _ _ => rfl))) (a_cons stays_dv (e_neg (e_ix o_ix (l_ (by kernel_rfl)) (PE.pk e_int) (fun _ _ => rfl))) a_nil rfl) rfl) (short_ (lenS_ (lenS_ len0_)) (by decide))) (v_ (by kernel_rfl))))))
theorem P13 (M : Ms K mg) (Cs : Css P w K mg base m cf) (hr : Room m (A.deeper (envOfC "carried" (defScope (top 31)) s.heap.objs.size f cdv))) (z0 : ZOk H0 Z0) :
    PSs (cxOf CX0 P w K mg base N13 "carried" (defScope (top 31)) f cdv A outer s H E).nox (defBody (top 31)) (lS K c H0 Z0 (F13 cf)) :=
  have hN : N13.Nodup := by decide +kernel
  have hu := hr.units
  have hu6 := room66 hr
  (p_cons (p_asg (v_ (by kernel_rfl)) (g_tp rfl (g_cs (g_nm hN rfl (.inl rfl) (.inl rfl)) (g_cs (g_nm hN rfl (.inl rfl) (.inl rfl)) (g_cs (g_nm hN rfl (.inl rfl) (.inl rfl)) (g_cs (g_nm hN rfl (.inl rfl) (.inl rfl)) g_nl rfl) rfl) rfl) rfl) (gCs_len (gCs_len (gCs_len (gCs_len gNl_len)))) rfl rfl) rfl rfl rfl)
  (p_one (p_ret (c_ (Cs.c12) hr (a_cons stays_arg (e_adat (e_bin o_add (PE.pk (e_bin o_mul (l_ (by kernel_rfl)) (PE.pk (e_ix o_ix (l_ (by kernel_rfl)) (PE.pk e_int) (fun _ _ => rfl))))) (PE.pk (e_bin o_mul (l_ (by kernel_rfl)) (PE.pk (e_ix o_ix (l_ (by kernel_rfl)) (PE.pk e_int) (fun _ _ => rfl))))))) (a_cons stays_arg (e_adat (e_bin o_add (PE.pk (e_bin o_mul (l_ (by kernel_rfl)) (PE.pk (e_ix o_ix (l_ (by kernel_rfl)) (PE.pk e_int) (fun _ _ => rfl))))) (PE.pk (e_bin o_mul (l_ (by kernel_rfl)) (PE.pk (e_ix o_ix (l_ (by kernel_rfl)) (PE.pk e_int) (fun _ _ => rfl))))))) a_nil rfl) rfl) rfl rfl rfl rfl))))
theorem P14 (M : Ms K mg) (Cs : Css P w K mg base m cf) (hr : Room m (A.deeper (envOfC "raw_product" (defScope (top 32)) s.heap.objs.size f cdv))) (z0 : ZOk H0 Z0) :
    PSs (cxOf CX0 P w K mg base N14 "raw_product" (defScope (top 32)) f cdv A outer s H E).nox (defBody (top 32)) (lS K c H0 Z0 (F14 cf)) :=
  have hN : N14.Nodup := by decide +kernel
  have hu := hr.units
  have hu6 := room66 hr
  (p_cons (p_asg (v_ (by kernel_rfl)) (g_tp rfl (g_cs (g_nm hN rfl (.inl rfl) (.inl rfl)) (g_cs (g_nm hN rfl (.inl rfl) (.inl rfl)) (g_cs (g_nm hN rfl (.inl rfl) (.inl rfl)) (g_cs (g_nm hN rfl (.inl rfl) (.inl rfl)) g_nl rfl) rfl) rfl) rfl) (gCs_len (gCs_len (gCs_len (gCs_len gNl_len)))) rfl rfl) rfl rfl rfl)
  (p_cons (p_asg (v_ (by kernel_rfl)) (g_tp rfl (g_cs (g_nm hN rfl (.inl rfl) (.inl rfl)) (g_cs (g_nm hN rfl (.inl rfl) (.inl rfl)) (g_cs (g_nm hN rfl (.inl rfl) (.inl rfl)) (g_cs (g_nm hN rfl (.inl rfl) (.inl rfl)) g_nl rfl) rfl) rfl) rfl) (gCs_len (gCs_len (gCs_len (gCs_len gNl_len)))) rfl rfl) rfl rfl rfl)
  (p_one (p_ret (e_tup (a_cons stays_dv (e_bin o_add (PE.pk (e_bin o_mul (l_ (by kernel_rfl)) (l_ (by kernel_rfl)))) (PE.pk (e_bin o_mul (l_ (by kernel_rfl)) (l_ (by kernel_rfl))))) (a_cons stays_dv (e_bin o_add (PE.pk (e_bin o_mul (l_ (by kernel_rfl)) (l_ (by kernel_rfl)))) (PE.pk (e_bin o_mul (l_ (by kernel_rfl)) (l_ (by kernel_rfl))))) (a_cons stays_dv (e_bin o_add (PE.pk (e_bin o_mul (l_ (by kernel_rfl)) (l_ (by kernel_rfl)))) (PE.pk (e_bin o_mul (l_ (by kernel_rfl)) (l_ (by kernel_rfl))))) (a_cons stays_dv (e_bin o_add (PE.pk (e_bin o_mul (l_ (by kernel_rfl)) (l_ (by kernel_rfl)))) (PE.pk (e_bin o_mul (l_ (by kernel_rfl)) (l_ (by kernel_rfl))))) a_nil rfl) rfl) rfl) rfl) (short_ (lenS_ (lenS_ (lenS_ (lenS_ len0_)))) (by decide)))))))
theorem P15 (M : Ms K mg) (Cs : Css P w K mg base m cf) (hr : Room m (A.deeper (envOfC "product" (defScope (top 33)) s.heap.objs.size f cdv))) (z0 : ZOk H0 Z0) :
    PSs (cxOf CX0 P w K mg base N15 "product" (defScope (top 33)) f cdv A outer s H E).nox (defBody (top 33)) (lS K c H0 Z0 (F15 cf)) :=
  have hN : N15.Nodup := by decide +kernel
  have hu := hr.units
  have hu6 := room66 hr
  (p_one (p_ret (c_ (Cs.c8) hr (a_cons stays_arg (e_adat (c_ (Cs.c14) hr (a_cons stays_arg (e_adat (v_ (by kernel_rfl))) (a_cons stays_arg (e_adat (v_ (by kernel_rfl))) a_nil rfl) rfl) rfl rfl rfl rfl)) a_nil rfl) rfl rfl rfl rfl)))
theorem P16 (M : Ms K mg) (Cs : Css P w K mg base m cf) (hr : Room m (A.deeper (envOfC "undone" (defScope (top 34)) s.heap.objs.size f cdv))) (z0 : ZOk H0 Z0) :
    PSs (cxOf CX0 P w K mg base N16 "undone" (defScope (top 34)) f cdv A outer s H E).nox (defBody (top 34)) (lS K c H0 Z0 (F16 cf)) :=
  have hN : N16.Nodup := by decide +kernel
  have hu := hr.units
  have hu6 := room66 hr
  (p_cons (p_asg (v_ (by kernel_rfl)) (g_tp rfl (g_cs (g_nm hN rfl (.inl rfl) (.inl rfl)) (g_cs (g_nm hN rfl (.inl rfl) (.inl rfl)) (g_cs (g_nm hN rfl (.inl rfl) (.inl rfl)) (g_cs (g_nm hN rfl (.inl rfl) (.inl rfl)) g_nl rfl) rfl) rfl) rfl) (gCs_len (gCs_len (gCs_len (gCs_len gNl_len)))) rfl rfl) rfl rfl rfl)
  (p_one (p_ret (c_ (Cs.c8) hr (a_cons stays_arg (e_adat (e_tup (a_cons stays_dv (v_ (by kernel_rfl)) (a_cons stays_dv (e_neg (v_ (by kernel_rfl))) (a_cons stays_dv (e_neg (v_ (by kernel_rfl))) (a_cons stays_dv (v_ (by kernel_rfl)) a_nil rfl) rfl) rfl) rfl) (short_ (lenS_ (lenS_ (lenS_ (lenS_ len0_)))) (by decide)))) a_nil rfl) rfl rfl rfl rfl))))
theorem P17 (M : Ms K mg) (Cs : Css P w K mg base m cf) (hr : Room m (A.deeper (envOfC "frame_of" (defScope (top 35)) s.heap.objs.size f cdv))) (z0 : ZOk H0 Z0) :
    PSs (cxOf CX0 P w K mg base N17 "frame_of" (defScope (top 35)) f cdv A outer s H E).nox (defBody (top 35)) (lS K c H0 Z0 (F17 cf)) :=
  have hN : N17.Nodup := by decide +kernel
  have hu := hr.units
  have hu6 := room66 hr
  (p_cons (p_asg (v_ (by kernel_rfl)) (g_tp rfl (g_cs (g_tp rfl (g_cs (g_nm hN rfl (.inl rfl) (.inl rfl)) (g_cs (g_nm hN rfl (.inl rfl) (.inl rfl)) g_nl rfl) rfl) (gCs_len (gCs_len gNl_len)) rfl rfl) (g_cs (g_tp rfl (g_cs (g_nm hN rfl (.inl rfl) (.inl rfl)) (g_cs (g_nm hN rfl (.inl rfl) (.inl rfl)) g_nl rfl) rfl) (gCs_len (gCs_len gNl_len)) rfl rfl) (g_cs (g_tp rfl (g_cs (g_nm hN rfl (.inl rfl) (.inl rfl)) (g_cs (g_nm hN rfl (.inl rfl) (.inl rfl)) g_nl rfl) rfl) (gCs_len (gCs_len gNl_len)) rfl rfl) g_nl rfl) rfl) rfl) (gCs_len (gCs_len (gCs_len gNl_len))) rfl rfl) rfl rfl rfl)
  (p_cons (p_par2 rfl hN rfl rfl (by decide) rfl rfl (w_sh (e_bin o_sub (PE.pk (e_bin o_mul (l_ (by kernel_rfl)) (l_ (by kernel_rfl)))) (PE.pk (e_bin o_mul (l_ (by kernel_rfl)) (l_ (by kernel_rfl)))))) (w_sh (e_bin o_sub (PE.pk (e_bin o_mul (l_ (by kernel_rfl)) (l_ (by kernel_rfl)))) (PE.pk (e_bin o_mul (l_ (by kernel_rfl)) (l_ (by kernel_rfl)))))) rfl rfl rfl rfl)
  (p_one (p_ret (e_tup (a_cons stays_dv (e_bin o_mul (l_ (by kernel_rfl)) (l_ (by kernel_rfl))) (a_cons stays_dv (e_bin o_mul (l_ (by kernel_rfl)) (l_ (by kernel_rfl))) (a_cons stays_dv (e_bin o_mul (l_ (by kernel_rfl)) (l_ (by kernel_rfl))) (a_cons stays_dv (e_bin o_mul (l_ (by kernel_rfl)) (l_ (by kernel_rfl))) a_nil rfl) rfl) rfl) rfl) (short_ (lenS_ (lenS_ (lenS_ (lenS_ len0_)))) (by decide)))))))
theorem P18 (M : Ms K mg) (Cs : Css P w K mg base m cf) (hr : Room m (A.deeper (envOfC "need_three" (defScope (top 36)) s.heap.objs.size f cdv))) (z0 : ZOk H0 Z0) :
    PSs (cxOf CX0 P w K mg base N18 "need_three" (defScope (top 36)) f cdv A outer s H E).nox (defBody (top 36)) (lS K c H0 Z0 (F18 cf)) :=
  have hN : N18.Nodup := by decide +kernel
  have hu := hr.units
  have hu6 := room66 hr
  (p_cons (p_if (PW.pt (t_or (t_not (t_val (c_ (Cs.c2) hr (a_cons stays_arg (e_adat (v_ (by kernel_rfl))) (a_cons stays_arg (e_adat e_int) (a_cons stays_arg (e_adat e_int) a_nil rfl) rfl) rfl) rfl rfl rfl rfl) (fun _ => rfl))) (to1_ (t_not (t_val (e_callB (b_all rfl) rfl M.b_all bt_all (a_cons stays_dvp (PE.pk (e_lc (own := [("place", 1)]) (is := [1]) rfl hN (i_seq lkK (l_ (by kernel_rfl))) (blkOk_by (by kernel_rfl)) (by decide) (fun _ _ _ _ _ => (g_nm hN rfl (.inl rfl) (.inr rfl))) (fun _ _ _ _ _ => tl_nil) (fun _ _ _ _ _ => (c_ (Cs.c4) hr (a_cons stays_arg (e_adat (v_ (by kernel_rfl))) (a_cons stays_arg (e_adat (k_ M.k_SMALL_swings rfl rfl)) a_nil rfl) rfl) rfl rfl rfl rfl)) (fun _ => rfl))) a_nil rfl) (by decide) rfl rfl rfl) (fun _ => rfl)))))) (p_one p_never) p_nil)
  (p_one (p_if (t_cmp (o_lt hu) (PE.pk (e_lenSet rfl hu6 rfl M.b_len rfl M.b_set (a_cons stays_dvp (l_ (by kernel_rfl)) a_nil rfl) rfl rfl rfl rfl)) (PE.pk e_int) (nomark _)) (p_one p_never) p_nil)))
theorem P19 (M : Ms K mg) (Cs : Css P w K mg base m cf) (hr : Room m (A.deeper (envOfC "is_swing" (defScope (top 37)) s.heap.objs.size f cdv))) (z0 : ZOk H0 Z0) :
    PSs (cxOf CX0 P w K mg base N19 "is_swing" (defScope (top 37)) f cdv A outer s H E).nox (defBody (top 37)) (lS K c H0 Z0 (F19 cf)) :=
  have hN : N19.Nodup := by decide +kernel
  have hu := hr.units
  have hu6 := room66 hr
  (p_one (p_ret (c_ (Cs.c9) hr (a_cons stays_arg (e_adat (v_ (by kernel_rfl))) (a_cons stays_arg (e_adat (k_ M.k_SIZE rfl rfl)) a_nil rfl) rfl) rfl rfl rfl rfl)))
theorem P20 (M : Ms K mg) (Cs : Css P w K mg base m cf) (hr : Room m (A.deeper (envOfC "carried_place" (defScope (top 38)) s.heap.objs.size f cdv))) (z0 : ZOk H0 Z0) :
    PSs (cxOf CX0 P w K mg base N20 "carried_place" (defScope (top 38)) f cdv A outer s H E).nox (defBody (top 38)) (lS K c H0 Z0 (F20 cf)) :=
  have hN : N20.Nodup := by decide +kernel
  have hu := hr.units
  have hu6 := room66 hr
  (p_cons (p_drop (c_ (Cs.c10) hr (a_cons stays_arg (e_adat (v_ (by kernel_rfl))) a_nil rfl) rfl rfl rfl rfl) rfl)
  (p_cons (p_drop (c_ (Cs.c5) hr (a_cons stays_arg (e_adat (v_ (by kernel_rfl))) (a_cons stays_arg (e_adat (k_ M.k_PART_swings rfl rfl)) a_nil rfl) rfl) rfl rfl rfl rfl) rfl)
  (p_one (p_ret (c_ (Cs.c13) hr (a_cons stays_arg (e_adat (v_ (by kernel_rfl))) (a_cons stays_arg (e_adat (v_ (by kernel_rfl))) a_nil rfl) rfl) rfl rfl rfl rfl)))))
theorem P21 (M : Ms K mg) (Cs : Css P w K mg base m cf) (hr : Room m (A.deeper (envOfC "swings_together" (defScope (top 39)) s.heap.objs.size f cdv))) (z0 : ZOk H0 Z0) :
    PSs (cxOf CX0 P w K mg base N21 "swings_together" (defScope (top 39)) f cdv A outer s H E).nox (defBody (top 39)) (lS K c H0 Z0 (F21 cf)) :=
  have hN : N21.Nodup := by decide +kernel
  have hu := hr.units
  have hu6 := room66 hr
  (p_cons (p_drop (c_ (Cs.c11) hr (a_cons stays_arg (e_adat (v_ (by kernel_rfl))) (a_cons stays_arg (e_adat (v_ (by kernel_rfl))) a_nil rfl) rfl) rfl rfl rfl rfl) rfl)
  (p_one (p_ret (c_ (Cs.c15) hr (a_cons stays_arg (e_adat (v_ (by kernel_rfl))) (a_cons stays_arg (e_adat (v_ (by kernel_rfl))) a_nil rfl) rfl) rfl rfl rfl rfl))))
theorem P22 (M : Ms K mg) (Cs : Css P w K mg base m cf) (hr : Room m (A.deeper (envOfC "swing_back" (defScope (top 40)) s.heap.objs.size f cdv))) (z0 : ZOk H0 Z0) :
    PSs (cxOf CX0 P w K mg base N22 "swing_back" (defScope (top 40)) f cdv A outer s H E).nox (defBody (top 40)) (lS K c H0 Z0 (F22 cf)) :=
  have hN : N22.Nodup := by decide +kernel
  have hu := hr.units
  have hu6 := room66 hr
  (p_cons (p_drop (c_ (Cs.c10) hr (a_cons stays_arg (e_adat (v_ (by kernel_rfl))) a_nil rfl) rfl rfl rfl rfl) rfl)
  (p_one (p_ret (c_ (Cs.c16) hr (a_cons stays_arg (e_adat (v_ (by kernel_rfl))) a_nil rfl) rfl rfl rfl rfl))))
theorem P23 (M : Ms K mg) (Cs : Css P w K mg base m cf) (hr : Room m (A.deeper (envOfC "swing_through" (defScope (top 41)) s.heap.objs.size f cdv))) (z0 : ZOk H0 Z0) :
    PSs (cxOf CX0 P w K mg base N23 "swing_through" (defScope (top 41)) f cdv A outer s H E).nox (defBody (top 41)) (lS K c H0 Z0 (F23 cf)) :=
  have hN : N23.Nodup := by decide +kernel
  have hu := hr.units
  have hu6 := room66 hr
  (p_cons (p_drop (c_ (Cs.c18) hr (a_cons stays_arg (e_adat (v_ (by kernel_rfl))) a_nil rfl) rfl rfl rfl rfl) rfl)
  (p_cons (p_drop (c_ (Cs.c18) hr (a_cons stays_arg (e_adat (v_ (by kernel_rfl))) a_nil rfl) rfl rfl rfl rfl) rfl)
  (p_one (p_ret (c_ (Cs.c15) hr (a_cons stays_arg (e_adat (c_ (Cs.c16) hr (a_cons stays_arg (e_adat (c_ (Cs.c17) hr (a_cons stays_arg (e_adat (v_ (by kernel_rfl))) a_nil rfl) rfl rfl rfl rfl)) a_nil rfl) rfl rfl rfl rfl)) (a_cons stays_arg (e_adat (c_ (Cs.c17) hr (a_cons stays_arg (e_adat (v_ (by kernel_rfl))) a_nil rfl) rfl rfl rfl rfl)) a_nil rfl) rfl) rfl rfl rfl rfl)))))
theorem P24 (M : Ms K mg) (Cs : Css P w K mg base m cf) (hr : Room m (A.deeper (envOfC "number_in" (defScope (top 45)) s.heap.objs.size f cdv))) (z0 : ZOk H0 Z0) :
    PSs (cxOf CX0 P w K mg base N24 "number_in" (defScope (top 45)) f cdv A outer s H E).nox (defBody (top 45)) (lS K c H0 Z0 (F24 cf)) :=
  have hN : N24.Nodup := by decide +kernel
  have hu := hr.units
  have hu6 := room66 hr
  (p_one (p_ret (c_ (Cs.c3) hr (a_cons stays_arg (e_adat (e_bin o_mul (PE.pk (c_ (Cs.c7) hr (a_cons stays_arg (e_adat (v_ (by kernel_rfl))) a_nil rfl) rfl rfl rfl rfl)) (PE.pk (c_ (Cs.c7) hr (a_cons stays_arg (e_adat (v_ (by kernel_rfl))) a_nil rfl) rfl rfl rfl rfl)))) (a_cons stays_arg (e_adat (c_ (Cs.c6) hr (a_cons stays_arg (e_adat (v_ (by kernel_rfl))) a_nil rfl) rfl rfl rfl rfl)) a_nil rfl) rfl) rfl rfl rfl rfl)))
theorem P25 (M : Ms K mg) (Cs : Css P w K mg base m cf) (hr : Room m (A.deeper (envOfC "order_in" (defScope (top 46)) s.heap.objs.size f cdv))) (z0 : ZOk H0 Z0) :
    PSs (cxOf CX0 P w K mg base N25 "order_in" (defScope (top 46)) f cdv A outer s H E).nox (defBody (top 46)) (lS K c H0 Z0 (F25 cf)) :=
  have hN : N25.Nodup := by decide +kernel
  have hu := hr.units
  have hu6 := room66 hr
  (p_one (p_ret (e_if (t_cmp (o_eq hu) (l_ (by kernel_rfl)) (PE.pk (kt_ M.k_NONE rfl rfl)) (nomark _)) e_int (e_dget hu6 M.d_ORDERS rfl rfl (PE.pk (c_ (Cs.c24) hr (a_cons stays_arg (e_adat (v_ (by kernel_rfl))) a_nil rfl) rfl rfl rfl rfl)) rfl rfl (by rfl) rfl rfl))))
theorem P26 (M : Ms K mg) (Cs : Css P w K mg base m cf) (hr : Room m (A.deeper (envOfC "swing_order" (defScope (top 47)) s.heap.objs.size f cdv))) (z0 : ZOk H0 Z0) :
    PSs (cxOf CX0 P w K mg base N26 "swing_order" (defScope (top 47)) f cdv A outer s H E).nox (defBody (top 47)) (lS K c H0 Z0 (F26 cf)) :=
  have hN : N26.Nodup := by decide +kernel
  have hu := hr.units
  have hu6 := room66 hr
  (p_cons (p_drop (c_ (Cs.c10) hr (a_cons stays_arg (e_adat (v_ (by kernel_rfl))) a_nil rfl) rfl rfl rfl rfl) rfl)
  (p_one (p_ret (c_ (Cs.c25) hr (a_cons stays_arg (e_adat (v_ (by kernel_rfl))) a_nil rfl) rfl rfl rfl rfl))))
theorem P27 (M : Ms K mg) (Cs : Css P w K mg base m cf) (hr : Room m (A.deeper (envOfC "swing_power" (defScope (top 48)) s.heap.objs.size f cdv))) (z0 : ZOk H0 Z0) :
    PSs (cxOf CX0 P w K mg base N27 "swing_power" (defScope (top 48)) f cdv A outer s H E).nox (defBody (top 48)) (lS K c H0 Z0 (F27 cf)) :=
  have hN : N27.Nodup := by decide +kernel
  have hu := hr.units
  have hu6 := room66 hr
  (p_cons (p_drop (c_ (Cs.c10) hr (a_cons stays_arg (e_adat (v_ (by kernel_rfl))) a_nil rfl) rfl rfl rfl rfl) rfl)
  (p_cons (p_drop (c_ (Cs.c1) hr (a_cons stays_arg (e_adat (v_ (by kernel_rfl))) (a_cons stays_arg (e_adat (e_neg (k_ M.k_MANY rfl rfl))) (a_cons stays_arg (e_adat (k_ M.k_MANY rfl rfl)) a_nil rfl) rfl) rfl) rfl rfl rfl rfl) rfl)
  (p_cons (p_par2 rfl hN rfl rfl (by decide) rfl rfl (w_sh (e_if (t_cmp (o_ge hu) (l_ (by kernel_rfl)) (PE.pk e_int) (nomark _)) (v_ (by kernel_rfl)) (c_ (Cs.c16) hr (a_cons stays_arg (e_adat (v_ (by kernel_rfl))) a_nil rfl) rfl rfl rfl rfl))) (w_sh (kt_ M.k_NONE rfl rfl)) rfl rfl rfl rfl)
  (p_cons (p_for .never rfl (i_rng1 rfl M.b_range (a_cons stays_dvp (PE.pk (e_callB b_abs rfl M.b_abs bt_abs (a_cons stays_dvp (l_ (by kernel_rfl)) a_nil rfl) (by decide) rfl rfl rfl)) a_nil rfl) (lenS_ len0_) rfl) (g_nm hN rfl (.inl rfl) (.inl rfl)) (p_one (p_set hN rfl (.inl rfl) (w_sh (c_ (Cs.c15) hr (a_cons stays_arg (e_adat (v_ (by kernel_rfl))) (a_cons stays_arg (e_adat (v_ (by kernel_rfl))) a_nil rfl) rfl) rfl rfl rfl rfl)) rfl (.inl rfl))) (fun _ => rfl))
  (p_one (p_ret (v_ (by kernel_rfl))))))))
theorem P28 (M : Ms K mg) (Cs : Css P w K mg base m cf) (hr : Room m (A.deeper (envOfC "path_of" (defScope (top 49)) s.heap.objs.size f cdv))) (z0 : ZOk H0 Z0) :
    PSs (cxOf CX0 P w K mg base N28 "path_of" (defScope (top 49)) f cdv A outer s H E).nox (defBody (top 49)) (lS K c H0 Z0 (F28 cf)) :=
  have hN : N28.Nodup := by decide +kernel
  have hu := hr.units
  have hu6 := room66 hr
  (p_cons (p_drop (c_ (Cs.c10) hr (a_cons stays_arg (e_adat (v_ (by kernel_rfl))) a_nil rfl) rfl rfl rfl rfl) rfl)
  (p_cons (p_drop (c_ (Cs.c5) hr (a_cons stays_arg (e_adat (v_ (by kernel_rfl))) (a_cons stays_arg (e_adat (k_ M.k_PART_swings rfl rfl)) a_nil rfl) rfl) rfl rfl rfl rfl) rfl)
  (p_cons (p_drop (c_ (Cs.c1) hr (a_cons stays_arg (e_adat (v_ (by kernel_rfl))) (a_cons stays_arg (e_adat e_int) (a_cons stays_arg (e_adat (k_ M.k_MANY rfl rfl)) a_nil rfl) rfl) rfl) rfl rfl rfl rfl) rfl)
  (p_cons (p_set hN rfl (.inl rfl) (w_lst (a_cons stays_dv (v_ (by kernel_rfl)) a_nil rfl) (short_ (lenS_ len0_) (by decide))) rfl (.inl rfl))
  (p_cons (p_for .never rfl (i_rng1 rfl M.b_range (a_cons stays_dvp (l_ (by kernel_rfl)) a_nil rfl) (lenS_ len0_) rfl) (g_nm hN rfl (.inl rfl) (.inl rfl)) (p_one (app_ (by kernel_rfl) (c_ (Cs.c13) hr (a_cons stays_arg (e_adat (v_ (by kernel_rfl))) (a_cons stays_arg (e_adat (e_ix o_ix (l_ (by kernel_rfl)) (PE.pk (e_neg e_int)) (fun _ _ => rfl))) a_nil rfl) rfl) rfl rfl rfl rfl) rfl rfl (by rfl) rfl rfl rfl)) (fun _ => rfl))
  (p_one (p_ret (e_callTy b_tuple rfl M.b_tuple bt_tuple (a_cons stays_dvp (l_ (by kernel_rfl)) a_nil rfl) (by decide) rfl rfl rfl))))))))
theorem P29 (M : Ms K mg) (Cs : Css P w K mg base m cf) (hr : Room m (A.deeper (envOfC "is_three" (defScope (top 52)) s.heap.objs.size f cdv))) (z0 : ZOk H0 Z0) :
    PSs (cxOf CX0 P w K mg base N29 "is_three" (defScope (top 52)) f cdv A outer s H E).nox (defBody (top 52)) (lS K c H0 Z0 (F29 cf)) :=
  have hN : N29.Nodup := by decide +kernel
  have hu := hr.units
  have hu6 := room66 hr
  (p_one (p_ret (e_and (c_ (Cs.c2) hr (a_cons stays_arg (e_adat (v_ (by kernel_rfl))) (a_cons stays_arg (e_adat e_int) (a_cons stays_arg (e_adat e_int) a_nil rfl) rfl) rfl) rfl rfl rfl rfl) (one_ (e_callB (b_all rfl) rfl M.b_all bt_all (a_cons stays_dvp (PE.pk (e_lc (own := [("part", 1)]) (is := [1]) rfl hN (i_seq lkK (l_ (by kernel_rfl))) (blkOk_by (by kernel_rfl)) (by decide) (fun _ _ _ _ _ => (g_nm hN rfl (.inl rfl) (.inr rfl))) (fun _ _ _ _ _ => tl_nil) (fun _ _ _ _ _ => (c_ (Cs.c0) hr (a_cons stays_arg (e_adat (v_ (by kernel_rfl))) (a_cons stays_arg (e_adat (e_neg (k_ M.k_PART_triples rfl rfl))) (a_cons stays_arg (e_adat (k_ M.k_PART_triples rfl rfl)) a_nil rfl) rfl) rfl) rfl rfl rfl rfl)) (fun _ => rfl))) a_nil rfl) (by decide) rfl rfl rfl)))))
theorem P30 (M : Ms K mg) (Cs : Css P w K mg base m cf) (hr : Room m (A.deeper (envOfC "is_triple" (defScope (top 53)) s.heap.objs.size f cdv))) (z0 : ZOk H0 Z0) :
    PSs (cxOf CX0 P w K mg base N30 "is_triple" (defScope (top 53)) f cdv A outer s H E).nox (defBody (top 53)) (lS K c H0 Z0 (F30 cf)) :=
  have hN : N30.Nodup := by decide +kernel
  have hu := hr.units
  have hu6 := room66 hr
  (p_one (p_ret (e_and (c_ (Cs.c29) hr (a_cons stays_arg (e_adat (v_ (by kernel_rfl))) a_nil rfl) rfl rfl rfl rfl) (e_and (e_cmp (o_ne hu) (l_ (by kernel_rfl)) (PE.pk (e_tup (a_cons stays_dv e_int (a_cons stays_dv e_int (a_cons stays_dv e_int a_nil rfl) rfl) rfl) (short_ (lenS_ (lenS_ (lenS_ len0_))) (by decide)))) (nomark _)) (one_ (e_cmp (o_eq hu) (PE.pk (c_ (Cs.c31) hr (a_cons stays_arg (e_adat (v_ (by kernel_rfl))) a_nil rfl) rfl rfl rfl rfl)) (l_ (by kernel_rfl)) (nomark _)))))))
theorem P31 (M : Ms K mg) (Cs : Css P w K mg base m cf) (hr : Room m (A.deeper (envOfC "plainly" (defScope (top 54)) s.heap.objs.size f cdv))) (z0 : ZOk H0 Z0) :
    PSs (cxOf CX0 P w K mg base N31 "plainly" (defScope (top 54)) f cdv A outer s H E).nox (defBody (top 54)) (lS K c H0 Z0 (F31 cf)) :=
  have hN : N31.Nodup := by decide +kernel
  have hu := hr.units
  have hu6 := room66 hr
  (p_cons (p_set hN rfl (.inr rfl) (w_sh (e_callBf b_gcd rfl M.b_gcd (a_cons stays_dvp (PE.pk (e_callBf b_gcd rfl M.b_gcd (a_cons stays_dvp (PE.pk (e_ix o_ix (l_ (by kernel_rfl)) (PE.pk e_int) (fun _ _ => rfl))) (a_cons stays_dvp (PE.pk (e_ix o_ix (l_ (by kernel_rfl)) (PE.pk e_int) (fun _ _ => rfl))) a_nil rfl) rfl) rfl rfl rfl)) (a_cons stays_dvp (PE.pk (e_ix o_ix (l_ (by kernel_rfl)) (PE.pk e_int) (fun _ _ => rfl))) a_nil rfl) rfl) rfl rfl rfl)) rfl (.inl rfl))
  (p_cons (p_set hN rfl (.inl rfl) (w_sh (e_ix o_ix (PE.pk (e_lc (own := [("part", 3)]) (is := [3]) rfl hN (i_seq lkK (l_ (by kernel_rfl))) (blkOk_by (by kernel_rfl)) (by decide) (fun _ _ _ _ _ => (g_nm hN rfl (.inl rfl) (.inr rfl))) (fun _ _ _ _ _ => (tl_one (t_cmp (o_ne hu) (l_ (by kernel_rfl)) (PE.pk e_int) (nomark _)))) (fun _ _ _ _ _ => (v_ (by kernel_rfl))) (fun _ => rfl))) (PE.pk e_int) (fun _ _ => rfl))) rfl (.inl rfl))
  (p_cons (p_set hN rfl (.inr rfl) (w_sh (e_if (t_cmp (o_gt hu) (l_ (by kernel_rfl)) (PE.pk e_int) (nomark _)) (v_ (by kernel_rfl)) (e_neg (v_ (by kernel_rfl))))) rfl (.inl rfl))
  (p_one (p_ret (e_callTy b_tuple rfl M.b_tuple bt_tuple (a_cons stays_dvp (PE.pk (e_lc (own := [("part", 3)]) (is := [3]) rfl hN (i_seq lkK (l_ (by kernel_rfl))) (blkOk_by (by kernel_rfl)) (by decide) (fun _ _ _ _ _ => (g_nm hN rfl (.inl rfl) (.inr rfl))) (fun _ _ _ _ _ => tl_nil) (fun _ _ _ _ _ => (e_bin o_div (l_ (by kernel_rfl)) (l_ (by kernel_rfl)))) (fun _ => rfl))) a_nil rfl) (by decide) rfl rfl rfl))))))
theorem P32 (M : Ms K mg) (Cs : Css P w K mg base m cf) (hr : Room m (A.deeper (envOfC "need_triple" (defScope (top 55)) s.heap.objs.size f cdv))) (z0 : ZOk H0 Z0) :
    PSs (cxOf CX0 P w K mg base N32 "need_triple" (defScope (top 55)) f cdv A outer s H E).nox (defBody (top 55)) (lS K c H0 Z0 (F32 cf)) :=
  have hN : N32.Nodup := by decide +kernel
  have hu := hr.units
  have hu6 := room66 hr
  (p_one (p_if (t_not (t_val (c_ (Cs.c30) hr (a_cons stays_arg (e_adat (v_ (by kernel_rfl))) a_nil rfl) rfl rfl rfl rfl) (fun _ => rfl))) (p_one p_never) p_nil))
theorem P33 (M : Ms K mg) (Cs : Css P w K mg base m cf) (hr : Room m (A.deeper (envOfC "dot" (defScope (top 56)) s.heap.objs.size f cdv))) (z0 : ZOk H0 Z0) :
    PSs (cxOf CX0 P w K mg base N33 "dot" (defScope (top 56)) f cdv A outer s H E).nox (defBody (top 56)) (lS K c H0 Z0 (F33 cf)) :=
  have hN : N33.Nodup := by decide +kernel
  have hu := hr.units
  have hu6 := room66 hr
  (p_one (p_ret (e_bin o_add (PE.pk (e_bin o_add (PE.pk (e_bin o_mul (PE.pk (e_ix o_ix (l_ (by kernel_rfl)) (PE.pk e_int) (fun _ _ => rfl))) (PE.pk (e_ix o_ix (l_ (by kernel_rfl)) (PE.pk e_int) (fun _ _ => rfl))))) (PE.pk (e_bin o_mul (PE.pk (e_ix o_ix (l_ (by kernel_rfl)) (PE.pk e_int) (fun _ _ => rfl))) (PE.pk (e_ix o_ix (l_ (by kernel_rfl)) (PE.pk e_int) (fun _ _ => rfl))))))) (PE.pk (e_bin o_mul (PE.pk (e_ix o_ix (l_ (by kernel_rfl)) (PE.pk e_int) (fun _ _ => rfl))) (PE.pk (e_ix o_ix (l_ (by kernel_rfl)) (PE.pk e_int) (fun _ _ => rfl))))))))
theorem P34 (M : Ms K mg) (Cs : Css P w K mg base m cf) (hr : Room m (A.deeper (envOfC "cross" (defScope (top 57)) s.heap.objs.size f cdv))) (z0 : ZOk H0 Z0) :
    PSs (cxOf CX0 P w K mg base N34 "cross" (defScope (top 57)) f cdv A outer s H E).nox (defBody (top 57)) (lS K c H0 Z0 (F34 cf)) :=
  have hN : N34.Nodup := by decide +kernel
  have hu := hr.units
  have hu6 := room66 hr
  (p_cons (p_set hN rfl (.inl rfl) (w_sh (e_bin o_sub (PE.pk (e_bin o_mul (PE.pk (e_ix o_ix (l_ (by kernel_rfl)) (PE.pk e_int) (fun _ _ => rfl))) (PE.pk (e_ix o_ix (l_ (by kernel_rfl)) (PE.pk e_int) (fun _ _ => rfl))))) (PE.pk (e_bin o_mul (PE.pk (e_ix o_ix (l_ (by kernel_rfl)) (PE.pk e_int) (fun _ _ => rfl))) (PE.pk (e_ix o_ix (l_ (by kernel_rfl)) (PE.pk e_int) (fun _ _ => rfl))))))) rfl (.inl rfl))
  (p_one (p_ret (e_tup (a_cons stays_dv (v_ (by kernel_rfl)) (a_cons stays_dv (e_bin o_sub (PE.pk (e_bin o_mul (PE.pk (e_ix o_ix (l_ (by kernel_rfl)) (PE.pk e_int) (fun _ _ => rfl))) (PE.pk (e_ix o_ix (l_ (by kernel_rfl)) (PE.pk e_int) (fun _ _ => rfl))))) (PE.pk (e_bin o_mul (PE.pk (e_ix o_ix (l_ (by kernel_rfl)) (PE.pk e_int) (fun _ _ => rfl))) (PE.pk (e_ix o_ix (l_ (by kernel_rfl)) (PE.pk e_int) (fun _ _ => rfl)))))) (a_cons stays_dv (e_bin o_sub (PE.pk (e_bin o_mul (PE.pk (e_ix o_ix (l_ (by kernel_rfl)) (PE.pk e_int) (fun _ _ => rfl))) (PE.pk (e_ix o_ix (l_ (by kernel_rfl)) (PE.pk e_int) (fun _ _ => rfl))))) (PE.pk (e_bin o_mul (PE.pk (e_ix o_ix (l_ (by kernel_rfl)) (PE.pk e_int) (fun _ _ => rfl))) (PE.pk (e_ix o_ix (l_ (by kernel_rfl)) (PE.pk e_int) (fun _ _ => rfl)))))) a_nil rfl) rfl) rfl) (short_ (lenS_ (lenS_ (lenS_ len0_))) (by decide))))))
theorem P35 (M : Ms K mg) (Cs : Css P w K mg base m cf) (hr : Room m (A.deeper (envOfC "is_small" (defScope (top 60)) s.heap.objs.size f cdv))) (z0 : ZOk H0 Z0) :
    PSs (cxOf CX0 P w K mg base N35 "is_small" (defScope (top 60)) f cdv A outer s H E).nox (defBody (top 60)) (lS K c H0 Z0 (F35 cf)) :=
  have hN : N35.Nodup := by decide +kernel
  have hu := hr.units
  have hu6 := room66 hr
  (p_one (p_ret (e_and (c_ (Cs.c30) hr (a_cons stays_arg (e_adat (v_ (by kernel_rfl))) a_nil rfl) rfl rfl rfl rfl) (one_ (e_callB (b_all rfl) rfl M.b_all bt_all (a_cons stays_dvp (PE.pk (e_lc (own := [("part", 1)]) (is := [1]) rfl hN (i_seq lkK (l_ (by kernel_rfl))) (blkOk_by (by kernel_rfl)) (by decide) (fun _ _ _ _ _ => (g_nm hN rfl (.inl rfl) (.inr rfl))) (fun _ _ _ _ _ => tl_nil) (fun _ _ _ _ _ => (e_cmp (o_le hu) (PE.pk (e_callB b_abs rfl M.b_abs bt_abs (a_cons stays_dvp (l_ (by kernel_rfl)) a_nil rfl) (by decide) rfl rfl rfl)) (PE.pk (k_ M.k_SMALL_drawsteps rfl rfl)) (nomark _))) (fun _ => rfl))) a_nil rfl) (by decide) rfl rfl rfl)))))
theorem P36 (M : Ms K mg) (Cs : Css P w K mg base m cf) (hr : Room m (A.deeper (envOfC "fits" (defScope (top 64)) s.heap.objs.size f cdv))) (z0 : ZOk H0 Z0) :
    PSs (cxOf CX0 P w K mg base N36 "fits" (defScope (top 64)) f cdv A outer s H E).nox (defBody (top 64)) (lS K c H0 Z0 (F36 cf)) :=
  have hN : N36.Nodup := by decide +kernel
  have hu := hr.units
  have hu6 := room66 hr
  (p_cons (p_if (PW.pt (t_or (t_not (t_val (c_ (Cs.c2) hr (a_cons stays_arg (e_adat (v_ (by kernel_rfl))) (a_cons stays_arg (e_adat e_int) (a_cons stays_arg (e_adat e_int) a_nil rfl) rfl) rfl) rfl rfl rfl rfl) (fun _ => rfl))) (to1_ (t_not (t_val (c_ (Cs.c2) hr (a_cons stays_arg (e_adat (e_ix o_ix (l_ (by kernel_rfl)) (PE.pk e_int) (fun _ _ => rfl))) (a_cons stays_arg (e_adat e_int) (a_cons stays_arg (e_adat (k_ M.k_LINES rfl rfl)) a_nil rfl) rfl) rfl) rfl rfl rfl rfl) (fun _ => rfl)))))) (p_one (p_ret e_bl)) p_nil)
  (p_cons (p_if (t_not (t_val (c_ (Cs.c2) hr (a_cons stays_arg (e_adat (e_ix o_ix (l_ (by kernel_rfl)) (PE.pk e_int) (fun _ _ => rfl))) (a_cons stays_arg (e_adat (e_bin o_sub (PE.pk (e_callB b_len rfl M.b_len bt_len (a_cons stays_dvp (PE.pk (e_ix o_ix (l_ (by kernel_rfl)) (PE.pk e_int) (fun _ _ => rfl))) a_nil rfl) (by decide) rfl rfl rfl)) (PE.pk e_int))) (a_cons stays_arg (e_adat (e_bin o_sub (PE.pk (e_callB b_len rfl M.b_len bt_len (a_cons stays_dvp (PE.pk (e_ix o_ix (l_ (by kernel_rfl)) (PE.pk e_int) (fun _ _ => rfl))) a_nil rfl) (by decide) rfl rfl rfl)) (PE.pk e_int))) a_nil rfl) rfl) rfl) rfl rfl rfl rfl) (fun _ => rfl))) (p_one (p_ret e_bl)) p_nil)
  (p_cons (p_if (t_not (t_val (e_callB (b_all rfl) rfl M.b_all bt_all (a_cons stays_dvp (PE.pk (e_lc (own := [("own", 1)]) (is := [1]) rfl hN (i_seq lkK (PE.pk (e_bin o_add (PE.pk (e_ix o_ix (l_ (by kernel_rfl)) (PE.pk e_int) (fun _ _ => rfl))) (PE.pk (e_ix o_ix (l_ (by kernel_rfl)) (PE.pk e_int) (fun _ _ => rfl)))))) (blkOk_by (by kernel_rfl)) (by decide) (fun _ _ _ _ _ => (g_nm hN rfl (.inl rfl) (.inr rfl))) (fun _ _ _ _ _ => tl_nil) (fun _ _ _ _ _ => (c_ (Cs.c35) hr (a_cons stays_arg (e_adat (v_ (by kernel_rfl))) a_nil rfl) rfl rfl rfl rfl)) (fun _ => rfl))) a_nil rfl) (by decide) rfl rfl rfl) (fun _ => rfl))) (p_one (p_ret e_bl)) p_nil)
  (p_cons (p_asg (v_ (by kernel_rfl)) (g_tp rfl (g_cs (g_nm hN rfl (.inr rfl) (.inl rfl)) (g_cs (g_nm hN rfl (.inl rfl) (.inl rfl)) g_nl rfl) rfl) (gCs_len (gCs_len gNl_len)) rfl rfl) rfl rfl rfl)
  (p_one (p_ret (e_callB (b_all rfl) rfl M.b_all bt_all (a_cons stays_dvp (PE.pk (e_lc (own := [("at", 4), ("centre", 5)]) (is := [4, 5]) rfl hN (i_enum lkK rfl M.b_enumerate (a_cons stays_dvp (l_ (by kernel_rfl)) a_nil rfl) rfl) (blkOk_by (by kernel_rfl)) (by decide) (fun _ _ _ _ _ => (g_tp rfl (g_cs (g_nm hN rfl (.inl rfl) (.inr rfl)) (g_cs (g_nm hN rfl (.inl rfl) (.inr rfl)) g_nl rfl) rfl) (gCs_len (gCs_len gNl_len)) rfl rfl)) (fun _ _ _ _ _ => tl_nil) (fun _ _ _ _ _ => (e_and (e_cmp (o_ne hu) (PE.pk (c_ (Cs.c33) hr (a_cons stays_arg (e_adat (v_ (by kernel_rfl))) (a_cons stays_arg (e_adat (e_ix o_ix (l_ (by kernel_rfl)) (l_ (by kernel_rfl)) (fun _ _ => rfl))) a_nil rfl) rfl) rfl rfl rfl rfl)) (PE.pk e_int) (nomark _)) (one_ (e_cmp (o_ne hu) (PE.pk (c_ (Cs.c33) hr (a_cons stays_arg (e_adat (v_ (by kernel_rfl))) (a_cons stays_arg (e_adat (e_ix o_ix (l_ (by kernel_rfl)) (PE.pk (e_bin o_add (l_ (by kernel_rfl)) (PE.pk e_int))) (fun _ _ => rfl))) a_nil rfl) rfl) rfl rfl rfl rfl)) (PE.pk e_int) (nomark _))))) (fun _ => rfl))) a_nil rfl) (by decide) rfl rfl rfl)))))))
theorem P37 (M : Ms K mg) (Cs : Css P w K mg base m cf) (hr : Room m (A.deeper (envOfC "need_lead" (defScope (top 65)) s.heap.objs.size f cdv))) (z0 : ZOk H0 Z0) :
    PSs (cxOf CX0 P w K mg base N37 "need_lead" (defScope (top 65)) f cdv A outer s H E).nox (defBody (top 65)) (lS K c H0 Z0 (F37 cf)) :=
  have hN : N37.Nodup := by decide +kernel
  have hu := hr.units
  have hu6 := room66 hr
  (p_one (p_if (t_not (t_val (c_ (Cs.c36) hr (a_cons stays_arg (e_adat (v_ (by kernel_rfl))) a_nil rfl) rfl rfl rfl rfl) (fun _ => rfl))) (p_one p_never) p_nil))
theorem P38 (M : Ms K mg) (Cs : Css P w K mg base m cf) (hr : Room m (A.deeper (envOfC "need_closed" (defScope (top 66)) s.heap.objs.size f cdv))) (z0 : ZOk H0 Z0) :
    PSs (cxOf CX0 P w K mg base N38 "need_closed" (defScope (top 66)) f cdv A outer s H E).nox (defBody (top 66)) (lS K c H0 Z0 (F38 cf)) :=
  have hN : N38.Nodup := by decide +kernel
  have hu := hr.units
  have hu6 := room66 hr
  (p_cons (p_drop (c_ (Cs.c37) hr (a_cons stays_arg (e_adat (v_ (by kernel_rfl))) a_nil rfl) rfl rfl rfl rfl) rfl)
  (p_one (p_if (t_cmp (o_ne hu) (PE.pk (e_ix o_ix (PE.pk (e_ix o_ix (l_ (by kernel_rfl)) (PE.pk e_int) (fun _ _ => rfl))) (PE.pk e_int) (fun _ _ => rfl))) (PE.pk (e_ix o_ix (PE.pk (e_ix o_ix (l_ (by kernel_rfl)) (PE.pk e_int) (fun _ _ => rfl))) (PE.pk (e_neg e_int)) (fun _ _ => rfl))) (nomark _)) (p_one p_never) p_nil)))
theorem P39 (M : Ms K mg) (Cs : Css P w K mg base m cf) (hr : Room m (A.deeper (envOfC "led" (defScope (top 67)) s.heap.objs.size f cdv))) (z0 : ZOk H0 Z0) :
    PSs (cxOf CX0 P w K mg base N39 "led" (defScope (top 67)) f cdv A outer s H E).nox (defBody (top 67)) (lS K c H0 Z0 (F39 cf)) :=
  have hN : N39.Nodup := by decide +kernel
  have hu := hr.units
  have hu6 := room66 hr
  (p_cons (p_for .never rfl (i_zip2 lkL rfl M.b_zip (a_cons stays_dv (e_cut (PE.pk (e_ix o_ix (l_ (by kernel_rfl)) (PE.pk e_int) (fun _ _ => rfl))) (o_yes e_int) o_no) (a_cons stays_dv (e_ix o_ix (l_ (by kernel_rfl)) (PE.pk e_int) (fun _ _ => rfl)) a_nil rfl) rfl) (lenS_ (lenS_ len0_)) rfl rfl) (g_tp rfl (g_cs (g_nm hN rfl (.inl rfl) (.inl rfl)) (g_cs (g_nm hN rfl (.inl rfl) (.inl rfl)) g_nl rfl) rfl) (gCs_len (gCs_len gNl_len)) rfl rfl) (p_one (p_set hN rfl (.inl rfl) (w_sh (c_ (Cs.c34) hr (a_cons stays_arg (e_adat (c_ (Cs.c34) hr (a_cons stays_arg (e_adat (v_ (by kernel_rfl))) (a_cons stays_arg (e_adat (v_ (by kernel_rfl))) a_nil rfl) rfl) rfl rfl rfl rfl)) (a_cons stays_arg (e_adat (v_ (by kernel_rfl))) a_nil rfl) rfl) rfl rfl rfl rfl)) rfl (.inl rfl))) (fun _ => rfl))
  (p_one (p_ret (v_ (by kernel_rfl)))))
theorem P40 (M : Ms K mg) (Cs : Css P w K mg base m cf) (hr : Room m (A.deeper (envOfC "base_of" (defScope (top 68)) s.heap.objs.size f cdv))) (z0 : ZOk H0 Z0) :
    PSs (cxOf CX0 P w K mg base N40 "base_of" (defScope (top 68)) f cdv A outer s H E).nox (defBody (top 68)) (lS K c H0 Z0 (F40 cf)) :=
  have hN : N40.Nodup := by decide +kernel
  have hu := hr.units
  have hu6 := room66 hr
  (p_cons (p_set hN rfl (.inl rfl) (w_lst a_nil (short_ len0_ (by decide))) rfl (.inl rfl))
  (p_cons (p_for .never rfl (i_seq lkL (e_tup (a_cons stays_dv (e_tup (a_cons stays_dv e_int (a_cons stays_dv e_int (a_cons stays_dv e_int a_nil rfl) rfl) rfl) (short_ (lenS_ (lenS_ (lenS_ len0_))) (by decide))) (a_cons stays_dv (e_tup (a_cons stays_dv e_int (a_cons stays_dv e_int (a_cons stays_dv e_int a_nil rfl) rfl) rfl) (short_ (lenS_ (lenS_ (lenS_ len0_))) (by decide))) (a_cons stays_dv (e_tup (a_cons stays_dv e_int (a_cons stays_dv e_int (a_cons stays_dv e_int a_nil rfl) rfl) rfl) (short_ (lenS_ (lenS_ (lenS_ len0_))) (by decide))) a_nil rfl) rfl) rfl) (short_ (lenS_ (lenS_ (lenS_ len0_))) (by decide)))) (g_nm hN rfl (.inl rfl) (.inl rfl)) (p_cons (p_set hN rfl (.inl rfl) (w_sh (c_ (Cs.c34) hr (a_cons stays_arg (e_adat (v_ (by kernel_rfl))) (a_cons stays_arg (e_adat (v_ (by kernel_rfl))) a_nil rfl) rfl) rfl rfl rfl rfl)) rfl (.inl rfl))
  (p_one (p_if (PW.pt (t_and (t_val (e_callB (b_any rfl) rfl M.b_any bt_any (a_cons stays_dvp (l_ (by kernel_rfl)) a_nil rfl) (by decide) rfl rfl rfl) (fun _ => rfl)) (ta1_ (t_cmp (o_notIn hu6) (PE.pk (c_ (Cs.c31) hr (a_cons stays_arg (e_adat (v_ (by kernel_rfl))) a_nil rfl) rfl rfl rfl rfl)) (l_ (by kernel_rfl)) rfl)))) (p_one (app_ (by kernel_rfl) (c_ (Cs.c31) hr (a_cons stays_arg (e_adat (v_ (by kernel_rfl))) a_nil rfl) rfl rfl rfl rfl) rfl rfl (by rfl) rfl rfl rfl)) p_nil))) (fun _ => rfl))
  (p_one (p_ret (e_tup (a_cons stays_dv (e_ix o_ix (l_ (by kernel_rfl)) (PE.pk e_int) (fun _ _ => rfl)) (a_cons stays_dv (e_ix o_ix (l_ (by kernel_rfl)) (PE.pk e_int) (fun _ _ => rfl)) a_nil rfl) rfl) (short_ (lenS_ (lenS_ len0_)) (by decide)))))))
theorem P41 (M : Ms K mg) (Cs : Css P w K mg base m cf) (hr : Room m (A.deeper (envOfC "form_of" (defScope (top 69)) s.heap.objs.size f cdv))) (z0 : ZOk H0 Z0) :
    PSs (cxOf CX0 P w K mg base N41 "form_of" (defScope (top 69)) f cdv A outer s H E).nox (defBody (top 69)) (lS K c H0 Z0 (F41 cf)) :=
  have hN : N41.Nodup := by decide +kernel
  have hu := hr.units
  have hu6 := room66 hr
  (p_cons (p_asg (c_ (Cs.c40) hr (a_cons stays_arg (e_adat (e_ix o_ix (PE.pk (e_ix o_ix (l_ (by kernel_rfl)) (PE.pk e_int) (fun _ _ => rfl))) (PE.pk e_int) (fun _ _ => rfl))) a_nil rfl) rfl rfl rfl rfl) (g_tp rfl (g_cs (g_nm hN rfl (.inl rfl) (.inl rfl)) (g_cs (g_nm hN rfl (.inl rfl) (.inl rfl)) g_nl rfl) rfl) (gCs_len (gCs_len gNl_len)) rfl rfl) rfl rfl rfl)
  (p_cons (p_set hN rfl (.inl rfl) (w_sh (e_tup (a_cons stays_dv (c_ (Cs.c39) hr (a_cons stays_arg (e_adat (v_ (by kernel_rfl))) (a_cons stays_arg (e_adat (v_ (by kernel_rfl))) a_nil rfl) rfl) rfl rfl rfl rfl) (a_cons stays_dv (c_ (Cs.c39) hr (a_cons stays_arg (e_adat (v_ (by kernel_rfl))) (a_cons stays_arg (e_adat (v_ (by kernel_rfl))) a_nil rfl) rfl) rfl rfl rfl rfl) a_nil rfl) rfl) (short_ (lenS_ (lenS_ len0_)) (by decide)))) rfl (.inl rfl))
  (p_cons (p_setLc (own := [("a", 5), ("b", 6)]) (is := [5, 6]) rfl hN rfl rfl (sw_true rfl rfl rfl (by kernel_rfl)) (i_zip2 lkK rfl M.b_zip (a_cons stays_dvp (PE.pk (c_ (Cs.c34) hr (a_cons stays_arg (e_adat (e_ix o_ix (l_ (by kernel_rfl)) (PE.pk e_int) (fun _ _ => rfl))) (a_cons stays_arg (e_adat (v_ (by kernel_rfl))) a_nil rfl) rfl) rfl rfl rfl rfl)) (a_cons stays_dvp (PE.pk (c_ (Cs.c34) hr (a_cons stays_arg (e_adat (e_ix o_ix (l_ (by kernel_rfl)) (PE.pk e_int) (fun _ _ => rfl))) (a_cons stays_arg (e_adat (v_ (by kernel_rfl))) a_nil rfl) rfl) rfl rfl rfl rfl)) a_nil rfl) rfl) (lenS_ (lenS_ len0_)) rfl rfl) (blkOk_by (by kernel_rfl)) (by decide) (fun _ _ _ _ _ => (g_tp rfl (g_cs (g_nm hN rfl (.inl rfl) (.inr rfl)) (g_cs (g_nm hN rfl (.inl rfl) (.inr rfl)) g_nl rfl) rfl) (gCs_len (gCs_len gNl_len)) rfl rfl)) (fun _ _ _ _ _ => tl_nil) (fun _ _ _ _ _ => (e_bin o_add (l_ (by kernel_rfl)) (l_ (by kernel_rfl)))) (fun _ => rfl))
  (p_cons (p_set hN rfl (.inl rfl) (w_sh (e_ix o_ix (PE.pk (e_lc (own := [("place", 8)]) (is := [8]) rfl hN (i_rng1 rfl M.b_range (a_cons stays_dvp (PE.pk e_int) a_nil rfl) (lenS_ len0_) rfl) (blkOk_by (by kernel_rfl)) (by decide) (fun _ _ _ _ _ => (g_nm hN rfl (.inl rfl) (.inr rfl))) (fun _ _ _ _ _ => (tl_one (t_cmp (o_ne hu) (PE.pk (e_ix o_ix (PE.pk (e_ix o_ix (PE.pk (e_ix o_ix (l_ (by kernel_rfl)) (PE.pk e_int) (fun _ _ => rfl))) (PE.pk e_int) (fun _ _ => rfl))) (l_ (by kernel_rfl)) (fun _ _ => rfl))) (PE.pk e_int) (nomark _)))) (fun _ _ _ _ _ => (v_ (by kernel_rfl))) (fun _ => rfl))) (PE.pk e_int) (fun _ _ => rfl))) rfl (.inl rfl))
  (p_one (p_ret (e_tup (a_cons stays_dv (e_ix o_ix (PE.pk (c_ (Cs.c34) hr (a_cons stays_arg (e_adat (e_ix o_ix (l_ (by kernel_rfl)) (PE.pk e_int) (fun _ _ => rfl))) (a_cons stays_arg (e_adat (v_ (by kernel_rfl))) a_nil rfl) rfl) rfl rfl rfl rfl)) (l_ (by kernel_rfl)) (fun _ _ => rfl)) (a_cons stays_dv (e_ix o_ix (l_ (by kernel_rfl)) (l_ (by kernel_rfl)) (fun _ _ => rfl)) (a_cons stays_dv (e_ix o_ix (PE.pk (c_ (Cs.c34) hr (a_cons stays_arg (e_adat (e_ix o_ix (l_ (by kernel_rfl)) (PE.pk e_int) (fun _ _ => rfl))) (a_cons stays_arg (e_adat (v_ (by kernel_rfl))) a_nil rfl) rfl) rfl rfl rfl rfl)) (l_ (by kernel_rfl)) (fun _ _ => rfl)) a_nil rfl) rfl) rfl) (short_ (lenS_ (lenS_ (lenS_ len0_))) (by decide)))))))))
theorem P42 (M : Ms K mg) (Cs : Css P w K mg base m cf) (hr : Room m (A.deeper (envOfC "roots_of" (defScope (top 70)) s.heap.objs.size f cdv))) (z0 : ZOk H0 Z0) :
    PSs (cxOf CX0 P w K mg base N42 "roots_of" (defScope (top 70)) f cdv A outer s H E).nox (defBody (top 70)) (lS K c H0 Z0 (F42 cf)) :=
  have hN : N42.Nodup := by decide +kernel
  have hu := hr.units
  have hu6 := room66 hr
  (p_cons (p_if (t_cmp (o_eq hu) (l_ (by kernel_rfl)) (PE.pk e_int) (nomark _)) (p_one (p_ret (e_if (t_cmp (o_ne hu) (l_ (by kernel_rfl)) (PE.pk e_int) (nomark _)) (e_lst (a_cons stays_dv (e_tup (a_cons stays_dv e_int (a_cons stays_dv e_int a_nil rfl) rfl) (short_ (lenS_ (lenS_ len0_)) (by decide))) (a_cons stays_dv (e_tup (a_cons stays_dv (v_ (by kernel_rfl)) (a_cons stays_dv (e_neg (v_ (by kernel_rfl))) a_nil rfl) rfl) (short_ (lenS_ (lenS_ len0_)) (by decide))) a_nil rfl) rfl) (short_ (lenS_ (lenS_ len0_)) (by decide))) (e_lst (a_cons stays_dv (e_tup (a_cons stays_dv e_int (a_cons stays_dv e_int a_nil rfl) rfl) (short_ (lenS_ (lenS_ len0_)) (by decide))) a_nil rfl) (short_ (lenS_ len0_) (by decide)))))) p_nil)
  (p_cons (p_set hN rfl (.inl rfl) (w_sh (e_bin o_sub (PE.pk (e_bin o_mul (l_ (by kernel_rfl)) (l_ (by kernel_rfl)))) (PE.pk (e_bin o_mul (PE.pk (e_bin o_mul (PE.pk e_int) (l_ (by kernel_rfl)))) (l_ (by kernel_rfl)))))) rfl (.inl rfl))
  (p_cons (p_if (PW.pt (t_or (t_cmp (o_lt hu) (l_ (by kernel_rfl)) (PE.pk e_int) (nomark _)) (to1_ (t_cmp (o_ne hu) (PE.pk (e_bin o_mul (PE.pk (e_callBf b_isqrt rfl M.b_isqrt (a_cons stays_dvp (l_ (by kernel_rfl)) a_nil rfl) rfl rfl rfl)) (PE.pk (e_callBf b_isqrt rfl M.b_isqrt (a_cons stays_dvp (l_ (by kernel_rfl)) a_nil rfl) rfl rfl rfl)))) (l_ (by kernel_rfl)) (nomark _))))) (p_one (p_ret (e_lst a_nil (short_ len0_ (by decide))))) p_nil)
  (p_cons (p_set hN rfl (.inl rfl) (w_sh (e_callBf b_isqrt rfl M.b_isqrt (a_cons stays_dvp (l_ (by kernel_rfl)) a_nil rfl) rfl rfl rfl)) rfl (.inl rfl))
  (p_one (p_ret (e_lst (a_cons stays_dv (e_tup (a_cons stays_dv (e_bin o_add (PE.pk (e_neg (v_ (by kernel_rfl)))) (l_ (by kernel_rfl))) (a_cons stays_dv (e_bin o_mul (PE.pk e_int) (l_ (by kernel_rfl))) a_nil rfl) rfl) (short_ (lenS_ (lenS_ len0_)) (by decide))) (a_cons stays_dv (e_tup (a_cons stays_dv (e_bin o_sub (PE.pk (e_neg (v_ (by kernel_rfl)))) (l_ (by kernel_rfl))) (a_cons stays_dv (e_bin o_mul (PE.pk e_int) (l_ (by kernel_rfl))) a_nil rfl) rfl) (short_ (lenS_ (lenS_ len0_)) (by decide))) a_nil rfl) rfl) (short_ (lenS_ (lenS_ len0_)) (by decide)))))))))
theorem P43 (M : Ms K mg) (Cs : Css P w K mg base m cf) (hr : Room m (A.deeper (envOfC "is_home" (defScope (top 71)) s.heap.objs.size f cdv))) (z0 : ZOk H0 Z0) :
    PSs (cxOf CX0 P w K mg base N43 "is_home" (defScope (top 71)) f cdv A outer s H E).nox (defBody (top 71)) (lS K c H0 Z0 (F43 cf)) :=
  have hN : N43.Nodup := by decide +kernel
  have hu := hr.units
  have hu6 := room66 hr
  (p_one (p_ret (e_not (e_callB (b_any rfl) rfl M.b_any bt_any (a_cons stays_dvp (PE.pk (c_ (Cs.c41) hr (a_cons stays_arg (e_adat (v_ (by kernel_rfl))) a_nil rfl) rfl rfl rfl rfl)) a_nil rfl) (by decide) rfl rfl rfl))))
theorem P44 (M : Ms K mg) (Cs : Css P w K mg base m cf) (hr : Room m (A.deeper (envOfC "rounds_in" (defScope (top 72)) s.heap.objs.size f cdv))) (z0 : ZOk H0 Z0) :
    PSs (cxOf CX0 P w K mg base N44 "rounds_in" (defScope (top 72)) f cdv A outer s H E).nox (defBody (top 72)) (lS K c H0 Z0 (F44 cf)) :=
  have hN : N44.Nodup := by decide +kernel
  have hu := hr.units
  have hu6 := room66 hr
  (p_cons (p_asg (c_ (Cs.c40) hr (a_cons stays_arg (e_adat (e_ix o_ix (PE.pk (e_ix o_ix (l_ (by kernel_rfl)) (PE.pk e_int) (fun _ _ => rfl))) (PE.pk e_int) (fun _ _ => rfl))) a_nil rfl) rfl rfl rfl rfl) (g_tp rfl (g_cs (g_nm hN rfl (.inl rfl) (.inl rfl)) (g_cs (g_nm hN rfl (.inl rfl) (.inl rfl)) g_nl rfl) rfl) (gCs_len (gCs_len gNl_len)) rfl rfl) rfl rfl rfl)
  (p_cons (p_set hN rfl (.inl rfl) (w_sh (e_lst (a_cons stays_dv (v_ (by kernel_rfl)) (a_cons stays_dv (v_ (by kernel_rfl)) (a_cons stays_dv (c_ (Cs.c31) hr (a_cons stays_arg (e_adat (e_lc (own := [("a", 4), ("b", 5)]) (is := [4, 5]) rfl hN (i_zip2 lkK rfl M.b_zip (a_cons stays_dvp (l_ (by kernel_rfl)) (a_cons stays_dvp (l_ (by kernel_rfl)) a_nil rfl) rfl) (lenS_ (lenS_ len0_)) rfl rfl) (blkOk_by (by kernel_rfl)) (by decide) (fun _ _ _ _ _ => (g_tp rfl (g_cs (g_nm hN rfl (.inl rfl) (.inr rfl)) (g_cs (g_nm hN rfl (.inl rfl) (.inr rfl)) g_nl rfl) rfl) (gCs_len (gCs_len gNl_len)) rfl rfl)) (fun _ _ _ _ _ => tl_nil) (fun _ _ _ _ _ => (e_bin o_add (l_ (by kernel_rfl)) (l_ (by kernel_rfl)))) (fun _ => rfl))) a_nil rfl) rfl rfl rfl rfl) a_nil rfl) rfl) rfl) (short_ (lenS_ (lenS_ (lenS_ len0_))) (by decide)))) rfl (.inl rfl))
  (p_cons (p_set hN rfl (.inl rfl) (w_sh (v_ (by kernel_rfl))) rfl (.inl rfl))
  (p_cons (p_for .never rfl (i_rng2 rfl M.b_range (a_cons stays_dvp (PE.pk e_int) (a_cons stays_dvp (PE.pk (e_bin o_add (PE.pk (k_ M.k_ROUNDS rfl rfl)) (PE.pk e_int))) a_nil rfl) rfl) (lenS_ (lenS_ len0_)) rfl rfl) (g_nm hN rfl (.inl rfl) (.inl rfl)) (p_cons (p_setLc (own := [("point", 8)]) (is := [8]) rfl hN rfl rfl (sw_true rfl rfl rfl (by kernel_rfl)) (i_seq lkK (l_ (by kernel_rfl))) (blkOk_by (by kernel_rfl)) (by decide) (fun _ _ _ _ _ => (g_nm hN rfl (.inl rfl) (.inr rfl))) (fun _ _ _ _ _ => tl_nil) (fun _ _ _ _ _ => (c_ (Cs.c31) hr (a_cons stays_arg (e_adat (c_ (Cs.c39) hr (a_cons stays_arg (e_adat (v_ (by kernel_rfl))) (a_cons stays_arg (e_adat (v_ (by kernel_rfl))) a_nil rfl) rfl) rfl rfl rfl rfl)) a_nil rfl) rfl rfl rfl rfl)) (fun _ => rfl))
  (p_one (p_if (t_cmp (o_eq hu) (l_ (by kernel_rfl)) (l_ (by kernel_rfl)) (nomark _)) (p_one (p_ret (v_ (by kernel_rfl)))) p_nil))) (fun _ => rfl))
  (p_one (p_ret e_non))))))
theorem P45 (M : Ms K mg) (Cs : Css P w K mg base m cf) (hr : Room m (A.deeper (envOfC "is_lead" (defScope (top 73)) s.heap.objs.size f cdv))) (z0 : ZOk H0 Z0) :
    PSs (cxOf CX0 P w K mg base N45 "is_lead" (defScope (top 73)) f cdv A outer s H E).nox (defBody (top 73)) (lS K c H0 Z0 (F45 cf)) :=
  have hN : N45.Nodup := by decide +kernel
  have hu := hr.units
  have hu6 := room66 hr
  (p_one (p_ret (c_ (Cs.c36) hr (a_cons stays_arg (e_adat (v_ (by kernel_rfl))) a_nil rfl) rfl rfl rfl rfl)))
theorem P46 (M : Ms K mg) (Cs : Css P w K mg base m cf) (hr : Room m (A.deeper (envOfC "is_closed" (defScope (top 74)) s.heap.objs.size f cdv))) (z0 : ZOk H0 Z0) :
    PSs (cxOf CX0 P w K mg base N46 "is_closed" (defScope (top 74)) f cdv A outer s H E).nox (defBody (top 74)) (lS K c H0 Z0 (F46 cf)) :=
  have hN : N46.Nodup := by decide +kernel
  have hu := hr.units
  have hu6 := room66 hr
  (p_cons (p_drop (c_ (Cs.c37) hr (a_cons stays_arg (e_adat (v_ (by kernel_rfl))) a_nil rfl) rfl rfl rfl rfl) rfl)
  (p_one (p_ret (e_cmp (o_eq hu) (PE.pk (e_ix o_ix (PE.pk (e_ix o_ix (l_ (by kernel_rfl)) (PE.pk e_int) (fun _ _ => rfl))) (PE.pk e_int) (fun _ _ => rfl))) (PE.pk (e_ix o_ix (PE.pk (e_ix o_ix (l_ (by kernel_rfl)) (PE.pk e_int) (fun _ _ => rfl))) (PE.pk (e_neg e_int)) (fun _ _ => rfl))) (nomark _)))))
theorem P47 (M : Ms K mg) (Cs : Css P w K mg base m cf) (hr : Room m (A.deeper (envOfC "led_by" (defScope (top 75)) s.heap.objs.size f cdv))) (z0 : ZOk H0 Z0) :
    PSs (cxOf CX0 P w K mg base N47 "led_by" (defScope (top 75)) f cdv A outer s H E).nox (defBody (top 75)) (lS K c H0 Z0 (F47 cf)) :=
  have hN : N47.Nodup := by decide +kernel
  have hu := hr.units
  have hu6 := room66 hr
  (p_cons (p_drop (c_ (Cs.c37) hr (a_cons stays_arg (e_adat (v_ (by kernel_rfl))) a_nil rfl) rfl rfl rfl rfl) rfl)
  (p_cons (p_drop (c_ (Cs.c32) hr (a_cons stays_arg (e_adat (v_ (by kernel_rfl))) a_nil rfl) rfl rfl rfl rfl) rfl)
  (p_cons (p_if (t_cmp (o_ne hu) (PE.pk (c_ (Cs.c33) hr (a_cons stays_arg (e_adat (v_ (by kernel_rfl))) (a_cons stays_arg (e_adat (e_ix o_ix (PE.pk (e_ix o_ix (l_ (by kernel_rfl)) (PE.pk e_int) (fun _ _ => rfl))) (PE.pk e_int) (fun _ _ => rfl))) a_nil rfl) rfl) rfl rfl rfl rfl)) (PE.pk e_int) (nomark _)) (p_one p_never) p_nil)
  (p_one (p_ret (c_ (Cs.c31) hr (a_cons stays_arg (e_adat (c_ (Cs.c39) hr (a_cons stays_arg (e_adat (v_ (by kernel_rfl))) (a_cons stays_arg (e_adat (v_ (by kernel_rfl))) a_nil rfl) rfl) rfl rfl rfl rfl)) a_nil rfl) rfl rfl rfl rfl))))))
theorem P48 (M : Ms K mg) (Cs : Css P w K mg base m cf) (hr : Room m (A.deeper (envOfC "kept_points" (defScope (top 76)) s.heap.objs.size f cdv))) (z0 : ZOk H0 Z0) :
    PSs (cxOf CX0 P w K mg base N48 "kept_points" (defScope (top 76)) f cdv A outer s H E).nox (defBody (top 76)) (lS K c H0 Z0 (F48 cf)) :=
  have hN : N48.Nodup := by decide +kernel
  have hu := hr.units
  have hu6 := room66 hr
  (p_cons (p_drop (c_ (Cs.c38) hr (a_cons stays_arg (e_adat (v_ (by kernel_rfl))) a_nil rfl) rfl rfl rfl rfl) rfl)
  (p_cons (p_if (t_val (c_ (Cs.c43) hr (a_cons stays_arg (e_adat (v_ (by kernel_rfl))) a_nil rfl) rfl rfl rfl rfl) (fun _ => rfl)) (p_one (p_ret e_non)) p_nil)
  (p_cons (p_asg (c_ (Cs.c40) hr (a_cons stays_arg (e_adat (e_ix o_ix (PE.pk (e_ix o_ix (l_ (by kernel_rfl)) (PE.pk e_int) (fun _ _ => rfl))) (PE.pk e_int) (fun _ _ => rfl))) a_nil rfl) rfl rfl rfl rfl) (g_tp rfl (g_cs (g_nm hN rfl (.inr rfl) (.inl rfl)) (g_cs (g_nm hN rfl (.inr rfl) (.inl rfl)) g_nl rfl) rfl) (gCs_len (gCs_len gNl_len)) rfl rfl) rfl rfl rfl)
  (p_cons (p_asg (c_ (Cs.c41) hr (a_cons stays_arg (e_adat (v_ (by kernel_rfl))) a_nil rfl) rfl rfl rfl rfl) (g_tp rfl (g_cs (g_nm hN rfl (.inl rfl) (.inl rfl)) (g_cs (g_nm hN rfl (.inl rfl) (.inl rfl)) (g_cs (g_nm hN rfl (.inl rfl) (.inl rfl)) g_nl rfl) rfl) rfl) (gCs_len (gCs_len (gCs_len gNl_len))) rfl rfl) rfl rfl rfl)
  (p_cons (p_setLc (own := [("x", 9), ("y", 10)]) (is := [9, 10]) rfl hN rfl rfl (sw_true rfl rfl rfl (by kernel_rfl)) (i_seq lkK (PE.pk (c_ (Cs.c42) hr (a_cons stays_arg (e_adat (v_ (by kernel_rfl))) (a_cons stays_arg (e_adat (v_ (by kernel_rfl))) (a_cons stays_arg (e_adat (v_ (by kernel_rfl))) a_nil rfl) rfl) rfl) rfl rfl rfl rfl))) (blkOk_by (by kernel_rfl)) (by decide) (fun _ _ _ _ _ => (g_tp rfl (g_cs (g_nm hN rfl (.inr rfl) (.inl rfl)) (g_cs (g_nm hN rfl (.inr rfl) (.inl rfl)) g_nl rfl) rfl) (gCs_len (gCs_len gNl_len)) rfl rfl)) (fun _ _ _ _ _ => tl_nil) (fun _ _ _ _ _ => (c_ (Cs.c31) hr (a_cons stays_arg (e_adat (e_lc (own := [("p", 7), ("q", 8)]) (is := [7, 8]) rfl hN (i_zip2 lkK rfl M.b_zip (a_cons stays_dvp (l_ (by kernel_rfl)) (a_cons stays_dvp (l_ (by kernel_rfl)) a_nil rfl) rfl) (lenS_ (lenS_ len0_)) rfl rfl) (blkOk_by (by kernel_rfl)) (by decide) (fun _ _ _ _ _ => (g_tp rfl (g_cs (g_nm hN rfl (.inl rfl) (.inr rfl)) (g_cs (g_nm hN rfl (.inl rfl) (.inr rfl)) g_nl rfl) rfl) (gCs_len (gCs_len gNl_len)) rfl rfl)) (fun _ _ _ _ _ => tl_nil) (fun _ _ _ _ _ => (e_bin o_add (PE.pk (e_bin o_mul (l_ (by kernel_rfl)) (l_ (by kernel_rfl)))) (PE.pk (e_bin o_mul (l_ (by kernel_rfl)) (l_ (by kernel_rfl)))))) (fun _ => rfl))) a_nil rfl) rfl rfl rfl rfl)) (fun _ => rfl))
  (p_one (p_ret (e_callTy b_tuple rfl M.b_tuple bt_tuple (a_cons stays_dvp (PE.pk (e_sortSet rfl hu6 rfl M.b_sorted rfl M.b_set (a_cons stays_dvp (l_ (by kernel_rfl)) a_nil rfl) rfl rfl rfl rfl)) a_nil rfl) (by decide) rfl rfl rfl))))))))
theorem P49 (M : Ms K mg) (Cs : Css P w K mg base m cf) (hr : Room m (A.deeper (envOfC "rounds_to_home" (defScope (top 77)) s.heap.objs.size f cdv))) (z0 : ZOk H0 Z0) :
    PSs (cxOf CX0 P w K mg base N49 "rounds_to_home" (defScope (top 77)) f cdv A outer s H E).nox (defBody (top 77)) (lS K c H0 Z0 (F49 cf)) :=
  have hN : N49.Nodup := by decide +kernel
  have hu := hr.units
  have hu6 := room66 hr
  (p_cons (p_drop (c_ (Cs.c38) hr (a_cons stays_arg (e_adat (v_ (by kernel_rfl))) a_nil rfl) rfl rfl rfl rfl) rfl)
  (p_one (p_ret (c_ (Cs.c44) hr (a_cons stays_arg (e_adat (v_ (by kernel_rfl))) a_nil rfl) rfl rfl rfl rfl))))
theorem P50 (M : Ms K mg) (Cs : Css P w K mg base m cf) (hr : Room m (A.deeper (envOfC "joined_leads" (defScope (top 78)) s.heap.objs.size f cdv))) (z0 : ZOk H0 Z0) :
    PSs (cxOf CX0 P w K mg base N50 "joined_leads" (defScope (top 78)) f cdv A outer s H E).nox (defBody (top 78)) (lS K c H0 Z0 (F50 cf)) :=
  have hN : N50.Nodup := by decide +kernel
  have hu := hr.units
  have hu6 := room66 hr
  (p_cons (p_drop (c_ (Cs.c37) hr (a_cons stays_arg (e_adat (v_ (by kernel_rfl))) a_nil rfl) rfl rfl rfl rfl) rfl)
  (p_cons (p_drop (c_ (Cs.c37) hr (a_cons stays_arg (e_adat (v_ (by kernel_rfl))) a_nil rfl) rfl rfl rfl rfl) rfl)
  (p_cons (p_if (PW.pt (t_or (t_cmp (o_ne hu) (PE.pk (e_ix o_ix (PE.pk (e_ix o_ix (l_ (by kernel_rfl)) (PE.pk e_int) (fun _ _ => rfl))) (PE.pk (e_neg e_int)) (fun _ _ => rfl))) (PE.pk (e_ix o_ix (PE.pk (e_ix o_ix (l_ (by kernel_rfl)) (PE.pk e_int) (fun _ _ => rfl))) (PE.pk e_int) (fun _ _ => rfl))) (nomark _)) (to1_ (t_cmp (o_gt hu) (PE.pk (e_bin o_sub (PE.pk (e_bin o_add (PE.pk (e_callB b_len rfl M.b_len bt_len (a_cons stays_dvp (PE.pk (e_ix o_ix (l_ (by kernel_rfl)) (PE.pk e_int) (fun _ _ => rfl))) a_nil rfl) (by decide) rfl rfl rfl)) (PE.pk (e_callB b_len rfl M.b_len bt_len (a_cons stays_dvp (PE.pk (e_ix o_ix (l_ (by kernel_rfl)) (PE.pk e_int) (fun _ _ => rfl))) a_nil rfl) (by decide) rfl rfl rfl)))) (PE.pk e_int))) (PE.pk (k_ M.k_LINES rfl rfl)) (nomark _))))) (p_one p_never) p_nil)
  (p_one (p_ret (e_tup (a_cons stays_dv (e_bin o_add (PE.pk (e_ix o_ix (l_ (by kernel_rfl)) (PE.pk e_int) (fun _ _ => rfl))) (PE.pk (e_cut (PE.pk (e_ix o_ix (l_ (by kernel_rfl)) (PE.pk e_int) (fun _ _ => rfl))) (o_yes e_int) o_no))) (a_cons stays_dv (e_bin o_add (PE.pk (e_ix o_ix (l_ (by kernel_rfl)) (PE.pk e_int) (fun _ _ => rfl))) (PE.pk (e_ix o_ix (l_ (by kernel_rfl)) (PE.pk e_int) (fun _ _ => rfl)))) a_nil rfl) rfl) (short_ (lenS_ (lenS_ len0_)) (by decide))))))))
theorem P51 (M : Ms K mg) (Cs : Css P w K mg base m cf) (hr : Room m (A.deeper (envOfC "gauge" (defScope (top 80)) s.heap.objs.size f cdv))) (z0 : ZOk H0 Z0) :
    PSs (cxOf CX0 P w K mg base N51 "gauge" (defScope (top 80)) f cdv A outer s H E).nox (defBody (top 80)) (lS K c H0 Z0 (F51 cf)) :=
  have hN : N51.Nodup := by decide +kernel
  have hu := hr.units
  have hu6 := room66 hr
  (p_one (p_ret (e_bin o_sub (PE.pk (e_bin o_mul (PE.pk (c_ (Cs.c7) hr (a_cons stays_arg (e_adat (v_ (by kernel_rfl))) a_nil rfl) rfl rfl rfl rfl)) (PE.pk (c_ (Cs.c7) hr (a_cons stays_arg (e_adat (v_ (by kernel_rfl))) a_nil rfl) rfl rfl rfl rfl)))) (PE.pk (e_bin o_mul (PE.pk e_int) (PE.pk (c_ (Cs.c6) hr (a_cons stays_arg (e_adat (v_ (by kernel_rfl))) a_nil rfl) rfl rfl rfl rfl)))))))
theorem P52 (M : Ms K mg) (Cs : Css P w K mg base m cf) (hr : Room m (A.deeper (envOfC "fixed_in" (defScope (top 81)) s.heap.objs.size f cdv))) (z0 : ZOk H0 Z0) :
    PSs (cxOf CX0 P w K mg base N52 "fixed_in" (defScope (top 81)) f cdv A outer s H E).nox (defBody (top 81)) (lS K c H0 Z0 (F52 cf)) :=
  have hN : N52.Nodup := by decide +kernel
  have hu := hr.units
  have hu6 := room66 hr
  (p_cons (p_asg (v_ (by kernel_rfl)) (g_tp rfl (g_cs (g_nm hN rfl (.inl rfl) (.inl rfl)) (g_cs (g_nm hN rfl (.inl rfl) (.inl rfl)) (g_cs (g_nm hN rfl (.inl rfl) (.inl rfl)) (g_cs (g_nm hN rfl (.inl rfl) (.inl rfl)) g_nl rfl) rfl) rfl) rfl) (gCs_len (gCs_len (gCs_len (gCs_len gNl_len)))) rfl rfl) rfl rfl rfl)
  (p_cons (p_set hN rfl (.inl rfl) (w_sh (c_ (Cs.c51) hr (a_cons stays_arg (e_adat (v_ (by kernel_rfl))) a_nil rfl) rfl rfl rfl rfl)) rfl (.inl rfl))
  (p_cons (p_if (PW.pt (t_or (t_cmp (o_lt hu) (l_ (by kernel_rfl)) (PE.pk e_int) (nomark _)) (to1_ (t_cmp (o_ne hu) (PE.pk (e_bin o_mul (PE.pk (e_callBf b_isqrt rfl M.b_isqrt (a_cons stays_dvp (l_ (by kernel_rfl)) a_nil rfl) rfl rfl rfl)) (PE.pk (e_callBf b_isqrt rfl M.b_isqrt (a_cons stays_dvp (l_ (by kernel_rfl)) a_nil rfl) rfl rfl rfl)))) (l_ (by kernel_rfl)) (nomark _))))) (p_one (p_ret (e_lst a_nil (short_ len0_ (by decide))))) p_nil)
  (p_cons (p_set hN rfl (.inl rfl) (w_sh (e_callBf b_isqrt rfl M.b_isqrt (a_cons stays_dvp (l_ (by kernel_rfl)) a_nil rfl) rfl rfl rfl)) rfl (.inl rfl))
  (p_cons (p_if (t_cmp (o_eq hu) (l_ (by kernel_rfl)) (PE.pk e_int) (nomark _)) (p_one (p_set hN rfl (.inl rfl) (w_sh (e_bin o_add (PE.pk (e_lst (a_cons stays_dv (e_tup (a_cons stays_dv e_int (a_cons stays_dv e_int a_nil rfl) rfl) (short_ (lenS_ (lenS_ len0_)) (by decide))) a_nil rfl) (short_ (lenS_ len0_) (by decide)))) (PE.pk (e_if (t_cmp (o_ne hu) (l_ (by kernel_rfl)) (l_ (by kernel_rfl)) (nomark _)) (e_lst (a_cons stays_dv (c_ (Cs.c12) hr (a_cons stays_arg (e_adat (v_ (by kernel_rfl))) (a_cons stays_arg (e_adat (e_bin o_sub (l_ (by kernel_rfl)) (l_ (by kernel_rfl)))) a_nil rfl) rfl) rfl rfl rfl rfl) a_nil rfl) (short_ (lenS_ len0_) (by decide))) (e_lst a_nil (short_ len0_ (by decide))))))) rfl (.inl rfl))) (p_one (p_set hN rfl (.inl rfl) (w_sh (e_lst (a_cons stays_dv (c_ (Cs.c12) hr (a_cons stays_arg (e_adat (e_bin o_add (PE.pk (e_bin o_sub (l_ (by kernel_rfl)) (l_ (by kernel_rfl)))) (l_ (by kernel_rfl)))) (a_cons stays_arg (e_adat (e_bin o_mul (PE.pk e_int) (l_ (by kernel_rfl)))) a_nil rfl) rfl) rfl rfl rfl rfl) (a_cons stays_dv (c_ (Cs.c12) hr (a_cons stays_arg (e_adat (e_bin o_sub (PE.pk (e_bin o_sub (l_ (by kernel_rfl)) (l_ (by kernel_rfl)))) (l_ (by kernel_rfl)))) (a_cons stays_arg (e_adat (e_bin o_mul (PE.pk e_int) (l_ (by kernel_rfl)))) a_nil rfl) rfl) rfl rfl rfl rfl) a_nil rfl) rfl) (short_ (lenS_ (lenS_ len0_)) (by decide)))) rfl (.inl rfl))))
  (p_one (p_ret (e_sortSet rfl hu6 rfl M.b_sorted rfl M.b_set (a_cons stays_dvp (l_ (by kernel_rfl)) a_nil rfl) rfl rfl rfl rfl))))))))
theorem P53 (M : Ms K mg) (Cs : Css P w K mg base m cf) (hr : Room m (A.deeper (envOfC "gauge_of" (defScope (top 82)) s.heap.objs.size f cdv))) (z0 : ZOk H0 Z0) :
    PSs (cxOf CX0 P w K mg base N53 "gauge_of" (defScope (top 82)) f cdv A outer s H E).nox (defBody (top 82)) (lS K c H0 Z0 (F53 cf)) :=
  have hN : N53.Nodup := by decide +kernel
  have hu := hr.units
  have hu6 := room66 hr
  (p_cons (p_drop (c_ (Cs.c10) hr (a_cons stays_arg (e_adat (v_ (by kernel_rfl))) a_nil rfl) rfl rfl rfl rfl) rfl)
  (p_one (p_ret (c_ (Cs.c51) hr (a_cons stays_arg (e_adat (v_ (by kernel_rfl))) a_nil rfl) rfl rfl rfl rfl))))
theorem P54 (M : Ms K mg) (Cs : Css P w K mg base m cf) (hr : Room m (A.deeper (envOfC "fixed_places" (defScope (top 83)) s.heap.objs.size f cdv))) (z0 : ZOk H0 Z0) :
    PSs (cxOf CX0 P w K mg base N54 "fixed_places" (defScope (top 83)) f cdv A outer s H E).nox (defBody (top 83)) (lS K c H0 Z0 (F54 cf)) :=
  have hN : N54.Nodup := by decide +kernel
  have hu := hr.units
  have hu6 := room66 hr
  (p_cons (p_drop (c_ (Cs.c10) hr (a_cons stays_arg (e_adat (v_ (by kernel_rfl))) a_nil rfl) rfl rfl rfl rfl) rfl)
  (p_one (p_ret (e_if (t_cmp (o_eq hu) (l_ (by kernel_rfl)) (PE.pk (kt_ M.k_NONE rfl rfl)) (nomark _)) e_non (e_callTy b_tuple rfl M.b_tuple bt_tuple (a_cons stays_dvp (PE.pk (c_ (Cs.c52) hr (a_cons stays_arg (e_adat (v_ (by kernel_rfl))) a_nil rfl) rfl rfl rfl rfl)) a_nil rfl) (by decide) rfl rfl rfl)))))
theorem P55 (M : Ms K mg) (Cs : Css P w K mg base m cf) (hr : Room m (A.deeper (envOfC "bare" (defScope (top 85)) s.heap.objs.size f cdv))) (z0 : ZOk H0 Z0) :
    PSs (cxOf CX0 P w K mg base N55 "bare" (defScope (top 85)) f cdv A outer s H E).nox (defBody (top 85)) (lS K c H0 Z0 (F55 cf)) :=
  have hN : N55.Nodup := by decide +kernel
  have hu := hr.units
  have hu6 := room66 hr
  (p_cons (p_asg (e_tup (a_cons stays_dv (e_if (t_cmp (o_gt hu) (l_ (by kernel_rfl)) (PE.pk e_int) (nomark _)) e_int (e_neg e_int)) (a_cons stays_dv (e_callB b_abs rfl M.b_abs bt_abs (a_cons stays_dvp (l_ (by kernel_rfl)) a_nil rfl) (by decide) rfl rfl rfl) (a_cons stays_dv e_int (a_cons stays_dv e_int a_nil rfl) rfl) rfl) rfl) (short_ (lenS_ (lenS_ (lenS_ (lenS_ len0_)))) (by decide))) (g_tp rfl (g_cs (g_nm hN rfl (.inl rfl) (.inl rfl)) (g_cs (g_nm hN rfl (.inl rfl) (.inl rfl)) (g_cs (g_nm hN rfl (.inl rfl) (.inl rfl)) (g_cs (g_nm hN rfl (.inl rfl) (.inl rfl)) g_nl rfl) rfl) rfl) rfl) (gCs_len (gCs_len (gCs_len (gCs_len gNl_len)))) rfl rfl) rfl rfl rfl)
  (p_cons (p_while .never (t_cmp (o_le hu) (PE.pk (e_bin o_mul (PE.pk (e_bin o_mul (l_ (by kernel_rfl)) (l_ (by kernel_rfl)))) (l_ (by kernel_rfl)))) (l_ (by kernel_rfl)) (nomark _)) (p_cons (p_set hN rfl (.inl rfl) (w_sh e_int) rfl (.inl rfl))
  (p_cons (p_while .never (t_cmp (o_eq hu) (PE.pk (e_bin o_mod (l_ (by kernel_rfl)) (l_ (by kernel_rfl)))) (PE.pk e_int) (nomark _)) (p_one (p_par2 rfl hN rfl rfl (by decide) rfl rfl (w_sh (e_bin o_div (l_ (by kernel_rfl)) (l_ (by kernel_rfl)))) (w_sh (e_bin o_add (l_ (by kernel_rfl)) (PE.pk e_int))) rfl rfl rfl rfl)))
  (p_cons (p_set hN rfl (.inl rfl) (w_sh (e_bin o_mul (l_ (by kernel_rfl)) (PE.pk (e_if (t_cmp (o_eq hu) (PE.pk (e_bin o_mod (l_ (by kernel_rfl)) (PE.pk e_int))) (PE.pk e_int) (nomark _)) (v_ (by kernel_rfl)) e_int)))) rfl (.inl rfl))
  (p_one (p_set hN rfl (.inl rfl) (w_sh (e_bin o_add (l_ (by kernel_rfl)) (PE.pk e_int))) rfl (.inl rfl)))))))
  (p_one (p_ret (e_bin o_mul (PE.pk (e_bin o_mul (l_ (by kernel_rfl)) (l_ (by kernel_rfl)))) (PE.pk (e_if (t_cmp (o_eq hu) (PE.pk (e_bin o_mul (PE.pk (e_callBf b_isqrt rfl M.b_isqrt (a_cons stays_dvp (l_ (by kernel_rfl)) a_nil rfl) rfl rfl rfl)) (PE.pk (e_callBf b_isqrt rfl M.b_isqrt (a_cons stays_dvp (l_ (by kernel_rfl)) a_nil rfl) rfl rfl rfl)))) (l_ (by kernel_rfl)) (nomark _)) e_int (v_ (by kernel_rfl)))))))))
theorem P56 (M : Ms K mg) (Cs : Css P w K mg base m cf) (hr : Room m (A.deeper (envOfC "shape_in" (defScope (top 86)) s.heap.objs.size f cdv))) (z0 : ZOk H0 Z0) :
    PSs (cxOf CX0 P w K mg base N56 "shape_in" (defScope (top 86)) f cdv A outer s H E).nox (defBody (top 86)) (lS K c H0 Z0 (F56 cf)) :=
  have hN : N56.Nodup := by decide +kernel
  have hu := hr.units
  have hu6 := room66 hr
  (p_cons (p_if (t_cmp (o_eq hu) (l_ (by kernel_rfl)) (PE.pk (kt_ M.k_NONE rfl rfl)) (nomark _)) (p_one (p_ret (e_tup (a_cons stays_dv e_str a_nil rfl) (short_ (lenS_ len0_) (by decide))))) p_nil)
  (p_cons (p_if (t_cmp (o_eq hu) (PE.pk (c_ (Cs.c7) hr (a_cons stays_arg (e_adat (v_ (by kernel_rfl))) a_nil rfl) rfl rfl rfl rfl)) (PE.pk e_int) (nomark _)) (p_one (p_ret (e_tup (a_cons stays_dv e_str (a_cons stays_dv (c_ (Cs.c55) hr (a_cons stays_arg (e_adat (e_neg (c_ (Cs.c6) hr (a_cons stays_arg (e_adat (v_ (by kernel_rfl))) a_nil rfl) rfl rfl rfl rfl))) a_nil rfl) rfl rfl rfl rfl) a_nil rfl) rfl) (short_ (lenS_ (lenS_ len0_)) (by decide))))) p_nil)
  (p_cons (p_if (t_cmp (o_eq hu) (PE.pk (c_ (Cs.c51) hr (a_cons stays_arg (e_adat (v_ (by kernel_rfl))) a_nil rfl) rfl rfl rfl rfl)) (PE.pk e_int) (nomark _)) (p_one (p_ret (e_tup (a_cons stays_dv e_str a_nil rfl) (short_ (lenS_ len0_) (by decide))))) p_nil)
  (p_one (p_ret (e_tup (a_cons stays_dv e_str (a_cons stays_dv (c_ (Cs.c24) hr (a_cons stays_arg (e_adat (v_ (by kernel_rfl))) a_nil rfl) rfl rfl rfl rfl) a_nil rfl) rfl) (short_ (lenS_ (lenS_ len0_)) (by decide))))))))
theorem P57 (M : Ms K mg) (Cs : Css P w K mg base m cf) (hr : Room m (A.deeper (envOfC "are_swings_alike" (defScope (top 87)) s.heap.objs.size f cdv))) (z0 : ZOk H0 Z0) :
    PSs (cxOf CX0 P w K mg base N57 "are_swings_alike" (defScope (top 87)) f cdv A outer s H E).nox (defBody (top 87)) (lS K c H0 Z0 (F57 cf)) :=
  have hN : N57.Nodup := by decide +kernel
  have hu := hr.units
  have hu6 := room66 hr
  (p_cons (p_drop (c_ (Cs.c11) hr (a_cons stays_arg (e_adat (v_ (by kernel_rfl))) (a_cons stays_arg (e_adat (v_ (by kernel_rfl))) a_nil rfl) rfl) rfl rfl rfl rfl) rfl)
  (p_one (p_ret (e_cmp (o_eq hu) (PE.pk (c_ (Cs.c56) hr (a_cons stays_arg (e_adat (v_ (by kernel_rfl))) a_nil rfl) rfl rfl rfl rfl)) (PE.pk (c_ (Cs.c56) hr (a_cons stays_arg (e_adat (v_ (by kernel_rfl))) a_nil rfl) rfl rfl rfl rfl)) (nomark _)))))
theorem P58 (M : Ms K mg) (Cs : Css P w K mg base m cf) (hr : Room m (A.deeper (envOfC "does_turn_back" (defScope (top 89)) s.heap.objs.size f cdv))) (z0 : ZOk H0 Z0) :
    PSs (cxOf CX0 P w K mg base N58 "does_turn_back" (defScope (top 89)) f cdv A outer s H E).nox (defBody (top 89)) (lS K c H0 Z0 (F58 cf)) :=
  have hN : N58.Nodup := by decide +kernel
  have hu := hr.units
  have hu6 := room66 hr
  (p_cons (p_drop (c_ (Cs.c10) hr (a_cons stays_arg (e_adat (v_ (by kernel_rfl))) a_nil rfl) rfl rfl rfl rfl) rfl)
  (p_cons (p_if (PW.pt (t_or (t_not (t_val (c_ (Cs.c9) hr (a_cons stays_arg (e_adat (v_ (by kernel_rfl))) (a_cons stays_arg (e_adat (k_ M.k_GREAT rfl rfl)) a_nil rfl) rfl) rfl rfl rfl rfl) (fun _ => rfl))) (to1_ (t_cmp (o_ne hu) (PE.pk (c_ (Cs.c7) hr (a_cons stays_arg (e_adat (v_ (by kernel_rfl))) a_nil rfl) rfl rfl rfl rfl)) (PE.pk e_int) (nomark _))))) (p_one (p_ret e_bl)) p_nil)
  (p_one (p_ret (e_cmp (o_eq hu) (PE.pk (c_ (Cs.c15) hr (a_cons stays_arg (e_adat (v_ (by kernel_rfl))) (a_cons stays_arg (e_adat (v_ (by kernel_rfl))) a_nil rfl) rfl) rfl rfl rfl rfl)) (PE.pk (c_ (Cs.c15) hr (a_cons stays_arg (e_adat (v_ (by kernel_rfl))) (a_cons stays_arg (e_adat (c_ (Cs.c16) hr (a_cons stays_arg (e_adat (v_ (by kernel_rfl))) a_nil rfl) rfl rfl rfl rfl)) a_nil rfl) rfl) rfl rfl rfl rfl)) (nomark _))))))
theorem P59 (M : Ms K mg) (Cs : Css P w K mg base m cf) (hr : Room m (A.deeper (envOfC "_law_cup" (defScope (top 91)) s.heap.objs.size f cdv))) (z0 : ZOk H0 Z0) :
    PSs (cxOf CX0 P w K mg base N59 "_law_cup" (defScope (top 91)) f cdv A outer s H E).nox (defBody (top 91)) (lS K c H0 Z0 (F59 cf)) :=
  have hN : N59.Nodup := by decide +kernel
  have hu := hr.units
  have hu6 := room66 hr
  (p_cons (p_set hN rfl (.inl rfl) (w_sh (e_callB b_abs rfl M.b_abs bt_abs (a_cons stays_dvp (PE.pk (e_ix o_ix (PE.pk (e_bin o_add (PE.pk (e_callTy b_list rfl M.b_list bt_list (a_cons stays_dvp (l_ (by kernel_rfl)) a_nil rfl) (by decide) rfl rfl rfl)) (PE.pk (e_lst (a_cons stays_dv e_int a_nil rfl) (short_ (lenS_ len0_) (by decide)))))) (PE.pk e_int) (fun _ _ => rfl))) a_nil rfl) (by decide) rfl rfl rfl)) rfl (.inl rfl))
  (p_one (p_ret (e_lst (a_cons stays_dv (e_if (t_cmp (o_ge hu) (l_ (by kernel_rfl)) (PE.pk (e_bin o_pow (PE.pk e_int) (PE.pk e_int))) (nomark _)) (e_bin o_div (l_ (by kernel_rfl)) (PE.pk e_int)) e_int) (a_cons stays_dv (e_bin o_add (PE.pk (e_bin o_mod (PE.pk (e_callTy b_int rfl M.b_int bt_int (a_cons stays_dvp (PE.pk (e_bin o_add (PE.pk (e_bin o_mul (l_ (by kernel_rfl)) (PE.pk e_int))) (PE.pk e_int))) a_nil rfl) (by decide) rfl rfl rfl)) (PE.pk e_int))) (PE.pk e_int)) a_nil rfl) rfl) (short_ (lenS_ (lenS_ len0_)) (by decide))))))
theorem P60 (M : Ms K mg) (Cs : Css P w K mg base m cf) (hr : Room m (A.deeper (envOfC "_law_roll" (defScope (top 92)) s.heap.objs.size f cdv))) (z0 : ZOk H0 Z0) :
    PSs (cxOf CX0 P w K mg base N60 "_law_roll" (defScope (top 92)) f cdv A outer s H E).nox (defBody (top 92)) (lS K c H0 Z0 (F60 cf)) :=
  have hN : N60.Nodup := by decide +kernel
  have hu := hr.units
  have hu6 := room66 hr
  (p_cons (p_if (t_cmp (o_gt hu) (PE.pk (cup_ (by kernel_rfl) e_int (fun _ _ => rfl))) (PE.pk e_int) (nomark _)) (p_cons (p_set hN rfl (.inl rfl) (w_sh (e_bin o_mod (PE.pk (e_callTy b_int rfl M.b_int bt_int (a_cons stays_dvp (PE.pk (cup_ (by kernel_rfl) e_int (fun _ _ => rfl))) a_nil rfl) (by decide) rfl rfl rfl)) (l_ (by kernel_rfl)))) rfl (.inl rfl))
  (p_cons (cupst_ (by kernel_rfl) e_int (e_bin o_div (PE.pk (cup_ (by kernel_rfl) e_int (fun _ _ => rfl))) (l_ (by kernel_rfl))) (fun _ => rfl) rfl rfl rfl)
  (p_one (p_ret (v_ (by kernel_rfl)))))) p_nil)
  (p_cons (cupst_ (by kernel_rfl) e_int (e_bin o_mod (PE.pk (e_callTy b_int rfl M.b_int bt_int (a_cons stays_dvp (PE.pk (e_bin o_add (PE.pk (e_bin o_mul (PE.pk (cup_ (by kernel_rfl) e_int (fun _ _ => rfl))) (PE.pk e_int))) (PE.pk e_int))) a_nil rfl) (by decide) rfl rfl rfl)) (PE.pk e_int)) (fun _ => rfl) rfl rfl rfl)
  (p_one (p_ret (e_bin o_mod (PE.pk (e_callTy b_int rfl M.b_int bt_int (a_cons stays_dvp (PE.pk (e_bin o_div (PE.pk (cup_ (by kernel_rfl) e_int (fun _ _ => rfl))) (PE.pk e_int))) a_nil rfl) (by decide) rfl rfl rfl)) (l_ (by kernel_rfl)))))))
theorem P61 (M : Ms K mg) (Cs : Css P w K mg base m cf) (hr : Room m (A.deeper (envOfC "_law_some" (defScope (top 93)) s.heap.objs.size f cdv))) (z0 : ZOk H0 Z0) :
    PSs (cxOf CX0 P w K mg base N61 "_law_some" (defScope (top 93)) f cdv A outer s H E).nox (defBody (top 93)) (lS K c H0 Z0 (F61 cf)) :=
  have hN : N61.Nodup := by decide +kernel
  have hu := hr.units
  have hu6 := room66 hr
  (p_one (p_ret (e_ix o_ix (l_ (by kernel_rfl)) (PE.pk (c_ (Cs.c60) hr (a_cons stays_arg (u_ (by kernel_rfl)) (a_cons stays_arg (e_adat (e_callB b_len rfl M.b_len bt_len (a_cons stays_dvp (l_ (by kernel_rfl)) a_nil rfl) (by decide) rfl rfl rfl)) a_nil rfl) rfl) rfl rfl rfl rfl)) (fun _ _ => rfl))))
theorem P62 (M : Ms K mg) (Cs : Css P w K mg base m cf) (hr : Room m (A.deeper (envOfC "_law_sort" (defScope (top 94)) s.heap.objs.size f cdv))) (z0 : ZOk H0 Z0) :
    PSs (cxOf CX0 P w K mg base N62 "_law_sort" (defScope (top 94)) f cdv A outer s H E).nox (defBody (top 94)) (lS K c H0 Z0 (F62 cf)) :=
  have hN : N62.Nodup := by decide +kernel
  have hu := hr.units
  have hu6 := room66 hr
  (p_cons (p_if (PW.pt (t_or (t_cmp o_is (l_ (by kernel_rfl)) (PE.pk e_non) (nomark _)) (to1_ (t_val (e_isi k_bool rfl M.b_isinstance (l_ (by kernel_rfl)) rfl M.b_bool bt_bool (by decide) rfl rfl rfl rfl) (fun _ => rfl))))) (p_one (p_ret (e_if (t_cmp o_is (l_ (by kernel_rfl)) (PE.pk e_non) (nomark _)) e_int e_int))) p_nil)
  (p_cons (p_if (PW.pt (t_or (t_val (e_isi k_int rfl M.b_isinstance (l_ (by kernel_rfl)) rfl M.b_int bt_int (by decide) rfl rfl rfl rfl) (fun _ => rfl)) (to1_ (t_val (e_isi k_str rfl M.b_isinstance (l_ (by kernel_rfl)) rfl M.b_str bt_str (by decide) rfl rfl rfl rfl) (fun _ => rfl))))) (p_one (p_ret (e_if (t_val (e_isi k_int rfl M.b_isinstance (l_ (by kernel_rfl)) rfl M.b_int bt_int (by decide) rfl rfl rfl rfl) (fun _ => rfl)) e_int e_int))) p_nil)
  (p_one (p_ret (e_if (t_val (e_isi k_tuple rfl M.b_isinstance (l_ (by kernel_rfl)) rfl M.b_tuple bt_tuple (by decide) rfl rfl rfl rfl) (fun _ => rfl)) e_int (e_if (t_val (e_isi k_list rfl M.b_isinstance (l_ (by kernel_rfl)) rfl M.b_list bt_list (by decide) rfl rfl rfl rfl) (fun _ => rfl)) e_int e_int))))))
theorem P63 (M : Ms K mg) (Cs : Css P w K mg base m cf) (hr : Room m (A.deeper (envOfC "_law_like" (defScope (top 95)) s.heap.objs.size f cdv))) (z0 : ZOk H0 Z0) :
    PSs (cxOf CX0 P w K mg base N63 "_law_like" (defScope (top 95)) f cdv A outer s H E).nox (defBody (top 95)) (lS K c H0 Z0 (F63 cf)) :=
  have hN : N63.Nodup := by decide +kernel
  have hu := hr.units
  have hu6 := room66 hr
  (p_cons (p_set hN rfl (.inl rfl) (w_sh (c_ (Cs.c62) hr (a_cons stays_arg (e_adat (v_ (by kernel_rfl))) a_nil rfl) rfl rfl rfl rfl)) rfl (.inl rfl))
  (p_cons (p_if (PW.pt (t_or (t_cmp (o_ne hu) (PE.pk (c_ (Cs.c62) hr (a_cons stays_arg (e_adat (v_ (by kernel_rfl))) a_nil rfl) rfl rfl rfl rfl)) (l_ (by kernel_rfl)) (nomark _)) (to1_ (t_cmp (o_eq hu) (l_ (by kernel_rfl)) (PE.pk e_int) (nomark _))))) (p_one (p_ret e_bl)) p_nil)
  (p_cons (p_if (t_cmp (o_in hu6) (l_ (by kernel_rfl)) (PE.pk (e_tup (a_cons stays_dv e_int (a_cons stays_dv e_int a_nil rfl) rfl) (short_ (lenS_ (lenS_ len0_)) (by decide)))) rfl) (p_one (p_ret (e_and (e_cmp (o_eq hu) (PE.pk (e_callB b_len rfl M.b_len bt_len (a_cons stays_dvp (l_ (by kernel_rfl)) a_nil rfl) (by decide) rfl rfl rfl)) (PE.pk (e_callB b_len rfl M.b_len bt_len (a_cons stays_dvp (l_ (by kernel_rfl)) a_nil rfl) (by decide) rfl rfl rfl)) (nomark _)) (one_ (e_cmp (o_eq hu) (PE.pk (e_lc (own := [("first", 3), ("second", 4)]) (is := [3, 4]) rfl hN (i_zip2 lkK rfl M.b_zip (a_cons stays_dvp (l_ (by kernel_rfl)) (a_cons stays_dvp (l_ (by kernel_rfl)) a_nil rfl) rfl) (lenS_ (lenS_ len0_)) rfl rfl) (blkOk_by (by kernel_rfl)) (by decide) (fun _ _ _ _ _ => (g_tp rfl (g_cs (g_nm hN rfl (.inl rfl) (.inr rfl)) (g_cs (g_nm hN rfl (.inl rfl) (.inr rfl)) g_nl rfl) rfl) (gCs_len (gCs_len gNl_len)) rfl rfl)) (fun _ _ _ _ _ => (tl_one (t_not (t_val (c_ (Cs.c63) hr (a_cons stays_arg (e_adat (v_ (by kernel_rfl))) (a_cons stays_arg (e_adat (v_ (by kernel_rfl))) a_nil rfl) rfl) rfl rfl rfl rfl) (fun _ => rfl))))) (fun _ _ _ _ _ => e_int) (fun _ => rfl))) (PE.pk (e_lst a_nil (short_ len0_ (by decide)))) (nomark _)))))) p_nil)
  (p_one (p_ret (e_cmp (o_eq hu) (l_ (by kernel_rfl)) (l_ (by kernel_rfl)) (nomark _)))))))
theorem P64 (M : Ms K mg) (Cs : Css P w K mg base m cf) (hr : Room m (A.deeper (envOfC "_law_is_number" (defScope (top 96)) s.heap.objs.size f cdv))) (z0 : ZOk H0 Z0) :
    PSs (cxOf CX0 P w K mg base N64 "_law_is_number" (defScope (top 96)) f cdv A outer s H E).nox (defBody (top 96)) (lS K c H0 Z0 (F64 cf)) :=
  have hN : N64.Nodup := by decide +kernel
  have hu := hr.units
  have hu6 := room66 hr
  (p_one (p_ret (e_and (e_cmp (o_eq hu) (PE.pk (c_ (Cs.c62) hr (a_cons stays_arg (e_adat (v_ (by kernel_rfl))) a_nil rfl) rfl rfl rfl rfl)) (PE.pk e_int) (nomark _)) (one_ (che_ (o_le hu) (o_le hu) (l_ (by kernel_rfl)) (l_ (by kernel_rfl)) (l_ (by kernel_rfl)) (by with_unfolding_all rfl))))))
theorem P65 (M : Ms K mg) (Cs : Css P w K mg base m cf) (hr : Room m (A.deeper (envOfC "_law_gcd" (defScope (top 97)) s.heap.objs.size f cdv))) (z0 : ZOk H0 Z0) :
    PSs (cxOf CX0 P w K mg base N65 "_law_gcd" (defScope (top 97)) f cdv A outer s H E).nox (defBody (top 97)) (lS K c H0 Z0 (F65 cf)) :=
  have hN : N65.Nodup := by decide +kernel
  have hu := hr.units
  have hu6 := room66 hr
  (p_cons (p_par2 rfl hN rfl rfl (by decide) rfl rfl (w_sh (e_callB b_abs rfl M.b_abs bt_abs (a_cons stays_dvp (l_ (by kernel_rfl)) a_nil rfl) (by decide) rfl rfl rfl)) (w_sh (e_callB b_abs rfl M.b_abs bt_abs (a_cons stays_dvp (l_ (by kernel_rfl)) a_nil rfl) (by decide) rfl rfl rfl)) rfl rfl rfl rfl)
  (p_cons (p_while .never (t_cmp (o_ne hu) (l_ (by kernel_rfl)) (PE.pk e_int) (nomark _)) (p_one (p_par2 rfl hN rfl rfl (by decide) rfl rfl (w_sh (v_ (by kernel_rfl))) (w_sh (e_bin o_mod (PE.pk (e_callTy b_int rfl M.b_int bt_int (a_cons stays_dvp (l_ (by kernel_rfl)) a_nil rfl) (by decide) rfl rfl rfl)) (l_ (by kernel_rfl)))) rfl rfl rfl rfl)))
  (p_one (p_ret (v_ (by kernel_rfl))))))
theorem P66 (M : Ms K mg) (Cs : Css P w K mg base m cf) (hr : Room m (A.deeper (envOfC "_law_low" (defScope (top 98)) s.heap.objs.size f cdv))) (z0 : ZOk H0 Z0) :
    PSs (cxOf CX0 P w K mg base N66 "_law_low" (defScope (top 98)) f cdv A outer s H E).nox (defBody (top 98)) (lS K c H0 Z0 (F66 cf)) :=
  have hN : N66.Nodup := by decide +kernel
  have hu := hr.units
  have hu6 := room66 hr
  (p_cons (p_set hN rfl (.inl rfl) (w_sh (e_if (t_cmp (o_gt hu) (l_ (by kernel_rfl)) (PE.pk e_int) (nomark _)) (c_ (Cs.c65) hr (a_cons stays_arg (e_adat (v_ (by kernel_rfl))) (a_cons stays_arg (e_adat (v_ (by kernel_rfl))) a_nil rfl) rfl) rfl rfl rfl rfl) (e_neg (c_ (Cs.c65) hr (a_cons stays_arg (e_adat (v_ (by kernel_rfl))) (a_cons stays_arg (e_adat (v_ (by kernel_rfl))) a_nil rfl) rfl) rfl rfl rfl rfl)))) rfl (.inl rfl))
  (p_one (p_ret (e_tup (a_cons stays_dv (e_bin o_div (l_ (by kernel_rfl)) (l_ (by kernel_rfl))) (a_cons stays_dv (e_bin o_div (l_ (by kernel_rfl)) (l_ (by kernel_rfl))) a_nil rfl) rfl) (short_ (lenS_ (lenS_ len0_)) (by decide))))))
theorem P67 (M : Ms K mg) (Cs : Css P w K mg base m cf) (hr : Room m (A.deeper (envOfC "_law_short" (defScope (top 99)) s.heap.objs.size f cdv))) (z0 : ZOk H0 Z0) :
    PSs (cxOf CX0 P w K mg base N67 "_law_short" (defScope (top 99)) f cdv A outer s H E).nox (defBody (top 99)) (lS K c H0 Z0 (F67 cf)) :=
  have hN : N67.Nodup := by decide +kernel
  have hu := hr.units
  have hu6 := room66 hr
  (p_cons (p_set hN rfl (.inr rfl) (w_sh e_int) rfl (.inl rfl))
  (p_cons (p_for .never rfl (i_seq lkL (v_ (by kernel_rfl))) (g_nm hN rfl (.inl rfl) (.inl rfl)) (p_one (p_set hN rfl (.inr rfl) (w_sh (c_ (Cs.c65) hr (a_cons stays_arg (e_adat (v_ (by kernel_rfl))) (a_cons stays_arg (e_adat (v_ (by kernel_rfl))) a_nil rfl) rfl) rfl rfl rfl rfl)) rfl (.inl rfl))) (fun _ => rfl))
  (p_cons (p_set hN rfl (.inr rfl) (w_sh (e_ix o_ix (PE.pk (e_lc (own := [("part", 2)]) (is := [2]) rfl hN (i_seq lkK (l_ (by kernel_rfl))) (blkOk_by (by kernel_rfl)) (by decide) (fun _ _ _ _ _ => (g_nm hN rfl (.inl rfl) (.inr rfl))) (fun _ _ _ _ _ => (tl_one (t_cmp (o_ne hu) (l_ (by kernel_rfl)) (PE.pk e_int) (nomark _)))) (fun _ _ _ _ _ => (v_ (by kernel_rfl))) (fun _ => rfl))) (PE.pk e_int) (fun _ _ => rfl))) rfl (.inl rfl))
  (p_one (p_ret (e_callTy b_tuple rfl M.b_tuple bt_tuple (a_cons stays_dvp (PE.pk (e_lc (own := [("part", 2)]) (is := [2]) rfl hN (i_seq lkK (l_ (by kernel_rfl))) (blkOk_by (by kernel_rfl)) (by decide) (fun _ _ _ _ _ => (g_nm hN rfl (.inl rfl) (.inr rfl))) (fun _ _ _ _ _ => tl_nil) (fun _ _ _ _ _ => (e_if (t_cmp (o_gt hu) (l_ (by kernel_rfl)) (PE.pk e_int) (nomark _)) (e_bin o_div (l_ (by kernel_rfl)) (l_ (by kernel_rfl))) (e_bin o_div (PE.pk (e_neg (v_ (by kernel_rfl)))) (l_ (by kernel_rfl))))) (fun _ => rfl))) a_nil rfl) (by decide) rfl rfl rfl))))))
theorem P68 (M : Ms K mg) (Cs : Css P w K mg base m cf) (hr : Room m (A.deeper (envOfC "_law_at" (defScope (top 100)) s.heap.objs.size f cdv))) (z0 : ZOk H0 Z0) :
    PSs (cxOf CX0 P w K mg base N68 "_law_at" (defScope (top 100)) f cdv A outer s H E).nox (defBody (top 100)) (lS K c H0 Z0 (F68 cf)) :=
  have hN : N68.Nodup := by decide +kernel
  have hu := hr.units
  have hu6 := room66 hr
  (p_one (p_ret (e_if (t_cmp (o_ne hu) (l_ (by kernel_rfl)) (PE.pk e_int) (nomark _)) (c_ (Cs.c66) hr (a_cons stays_arg (e_adat (v_ (by kernel_rfl))) (a_cons stays_arg (e_adat (v_ (by kernel_rfl))) a_nil rfl) rfl) rfl rfl rfl rfl) (e_tup (a_cons stays_dv e_int (a_cons stays_dv e_int a_nil rfl) rfl) (short_ (lenS_ (lenS_ len0_)) (by decide))))))
theorem P69 (M : Ms K mg) (Cs : Css P w K mg base m cf) (hr : Room m (A.deeper (envOfC "_law_is_place" (defScope (top 101)) s.heap.objs.size f cdv))) (z0 : ZOk H0 Z0) :
    PSs (cxOf CX0 P w K mg base N69 "_law_is_place" (defScope (top 101)) f cdv A outer s H E).nox (defBody (top 101)) (lS K c H0 Z0 (F69 cf)) :=
  have hN : N69.Nodup := by decide +kernel
  have hu := hr.units
  have hu6 := room66 hr
  (p_cons (p_if (PW.pt (t_or (t_not (t_val (e_isi k_tuple rfl M.b_isinstance (l_ (by kernel_rfl)) rfl M.b_tuple bt_tuple (by decide) rfl rfl rfl rfl) (fun _ => rfl))) (t_or (t_cmp (o_ne hu) (PE.pk (e_callB b_len rfl M.b_len bt_len (a_cons stays_dvp (l_ (by kernel_rfl)) a_nil rfl) (by decide) rfl rfl rfl)) (PE.pk e_int) (nomark _)) (t_or (t_not (t_val (c_ (Cs.c64) hr (a_cons stays_arg (e_adat (e_ix o_ix (l_ (by kernel_rfl)) (PE.pk e_int) (fun _ _ => rfl))) (a_cons stays_arg (e_adat (e_neg (v_ (by kernel_rfl)))) (a_cons stays_arg (e_adat (v_ (by kernel_rfl))) a_nil rfl) rfl) rfl) rfl rfl rfl rfl) (fun _ => rfl))) (to1_ (t_not (t_val (c_ (Cs.c64) hr (a_cons stays_arg (e_adat (e_ix o_ix (l_ (by kernel_rfl)) (PE.pk e_int) (fun _ _ => rfl))) (a_cons stays_arg (e_adat e_int) (a_cons stays_arg (e_adat (v_ (by kernel_rfl))) a_nil rfl) rfl) rfl) rfl rfl rfl rfl) (fun _ => rfl)))))))) (p_one (p_ret e_bl)) p_nil)
  (p_one (p_ret (e_or (e_cmp (o_eq hu) (l_ (by kernel_rfl)) (PE.pk (e_tup (a_cons stays_dv e_int (a_cons stays_dv e_int a_nil rfl) rfl) (short_ (lenS_ (lenS_ len0_)) (by decide)))) (nomark _)) (one_ (e_and (e_cmp (o_gt hu) (PE.pk (e_ix o_ix (l_ (by kernel_rfl)) (PE.pk e_int) (fun _ _ => rfl))) (PE.pk e_int) (nomark _)) (one_ (e_cmp (o_eq hu) (PE.pk (c_ (Cs.c65) hr (a_cons stays_arg (e_adat (e_ix o_ix (l_ (by kernel_rfl)) (PE.pk e_int) (fun _ _ => rfl))) (a_cons stays_arg (e_adat (e_ix o_ix (l_ (by kernel_rfl)) (PE.pk e_int) (fun _ _ => rfl))) a_nil rfl) rfl) rfl rfl rfl rfl)) (PE.pk e_int) (nomark _)))))))))
theorem P70 (M : Ms K mg) (Cs : Css P w K mg base m cf) (hr : Room m (A.deeper (envOfC "_law_spot" (defScope (top 102)) s.heap.objs.size f cdv))) (z0 : ZOk H0 Z0) :
    PSs (cxOf CX0 P w K mg base N70 "_law_spot" (defScope (top 102)) f cdv A outer s H E).nox (defBody (top 102)) (lS K c H0 Z0 (F70 cf)) :=
  have hN : N70.Nodup := by decide +kernel
  have hu := hr.units
  have hu6 := room66 hr
  (p_cons (p_if (t_cmp (o_eq hu) (PE.pk (c_ (Cs.c60) hr (a_cons stays_arg (u_ (by kernel_rfl)) (a_cons stays_arg (e_adat e_int) a_nil rfl) rfl) rfl rfl rfl rfl)) (PE.pk e_int) (nomark _)) (p_one (p_ret (e_tup (a_cons stays_dv e_int (a_cons stays_dv e_int a_nil rfl) rfl) (short_ (lenS_ (lenS_ len0_)) (by decide))))) p_nil)
  (p_one (p_ret (c_ (Cs.c66) hr (a_cons stays_arg (e_adat (e_bin o_sub (PE.pk (c_ (Cs.c60) hr (a_cons stays_arg (u_ (by kernel_rfl)) (a_cons stays_arg (e_adat (e_bin o_add (PE.pk (e_bin o_mul (PE.pk e_int) (l_ (by kernel_rfl)))) (PE.pk e_int))) a_nil rfl) rfl) rfl rfl rfl rfl)) (l_ (by kernel_rfl)))) (a_cons stays_arg (e_adat (e_bin o_add (PE.pk e_int) (PE.pk (c_ (Cs.c60) hr (a_cons stays_arg (u_ (by kernel_rfl)) (a_cons stays_arg (e_adat (v_ (by kernel_rfl))) a_nil rfl) rfl) rfl rfl rfl rfl)))) a_nil rfl) rfl) rfl rfl rfl rfl))))
theorem P71 (M : Ms K mg) (Cs : Css P w K mg base m cf) (hr : Room m (A.deeper (envOfC "_law_point" (defScope (top 103)) s.heap.objs.size f cdv))) (z0 : ZOk H0 Z0) :
    PSs (cxOf CX0 P w K mg base N71 "_law_point" (defScope (top 103)) f cdv A outer s H E).nox (defBody (top 103)) (lS K c H0 Z0 (F71 cf)) :=
  have hN : N71.Nodup := by decide +kernel
  have hu := hr.units
  have hu6 := room66 hr
  (p_one (p_ret (c_ (Cs.c67) hr (a_cons stays_arg (e_adat (e_tup (a_cons stays_dv (e_ix o_ix (l_ (by kernel_rfl)) (PE.pk e_int) (fun _ _ => rfl)) (a_cons stays_dv e_int (a_cons stays_dv (e_ix o_ix (l_ (by kernel_rfl)) (PE.pk e_int) (fun _ _ => rfl)) a_nil rfl) rfl) rfl) (short_ (lenS_ (lenS_ (lenS_ len0_))) (by decide)))) a_nil rfl) rfl rfl rfl rfl)))
theorem P72 (M : Ms K mg) (Cs : Css P w K mg base m cf) (hr : Room m (A.deeper (envOfC "_law_place_of" (defScope (top 104)) s.heap.objs.size f cdv))) (z0 : ZOk H0 Z0) :
    PSs (cxOf CX0 P w K mg base N72 "_law_place_of" (defScope (top 104)) f cdv A outer s H E).nox (defBody (top 104)) (lS K c H0 Z0 (F72 cf)) :=
  have hN : N72.Nodup := by decide +kernel
  have hu := hr.units
  have hu6 := room66 hr
  (p_one (p_ret (c_ (Cs.c68) hr (a_cons stays_arg (e_adat (e_ix o_ix (l_ (by kernel_rfl)) (PE.pk e_int) (fun _ _ => rfl))) (a_cons stays_arg (e_adat (e_ix o_ix (l_ (by kernel_rfl)) (PE.pk e_int) (fun _ _ => rfl))) a_nil rfl) rfl) rfl rfl rfl rfl)))
theorem P73 (M : Ms K mg) (Cs : Css P w K mg base m cf) (hr : Room m (A.deeper (envOfC "_law_dot" (defScope (top 105)) s.heap.objs.size f cdv))) (z0 : ZOk H0 Z0) :
    PSs (cxOf CX0 P w K mg base N73 "_law_dot" (defScope (top 105)) f cdv A outer s H E).nox (defBody (top 105)) (lS K c H0 Z0 (F73 cf)) :=
  have hN : N73.Nodup := by decide +kernel
  have hu := hr.units
  have hu6 := room66 hr
  (p_one (p_ret (e_callB (b_sum rfl) rfl M.b_sum bt_sum (a_cons stays_dvp (PE.pk (e_lc (own := [("part", 2), ("more", 3)]) (is := [2, 3]) rfl hN (i_zip2 lkK rfl M.b_zip (a_cons stays_dvp (l_ (by kernel_rfl)) (a_cons stays_dvp (l_ (by kernel_rfl)) a_nil rfl) rfl) (lenS_ (lenS_ len0_)) rfl rfl) (blkOk_by (by kernel_rfl)) (by decide) (fun _ _ _ _ _ => (g_tp rfl (g_cs (g_nm hN rfl (.inl rfl) (.inr rfl)) (g_cs (g_nm hN rfl (.inl rfl) (.inr rfl)) g_nl rfl) rfl) (gCs_len (gCs_len gNl_len)) rfl rfl)) (fun _ _ _ _ _ => tl_nil) (fun _ _ _ _ _ => (e_bin o_mul (l_ (by kernel_rfl)) (l_ (by kernel_rfl)))) (fun _ => rfl))) a_nil rfl) (by decide) rfl rfl rfl)))
theorem P74 (M : Ms K mg) (Cs : Css P w K mg base m cf) (hr : Room m (A.deeper (envOfC "_law_triple" (defScope (top 106)) s.heap.objs.size f cdv))) (z0 : ZOk H0 Z0) :
    PSs (cxOf CX0 P w K mg base N74 "_law_triple" (defScope (top 106)) f cdv A outer s H E).nox (defBody (top 106)) (lS K c H0 Z0 (F74 cf)) :=
  have hN : N74.Nodup := by decide +kernel
  have hu := hr.units
  have hu6 := room66 hr
  (p_cons (p_set hN rfl (.inl rfl) (w_sh (e_callTy b_tuple rfl M.b_tuple bt_tuple (a_cons stays_dvp (PE.pk (e_lc (own := [("at", 3)]) (is := [3]) rfl hN (i_rng1 rfl M.b_range (a_cons stays_dvp (PE.pk e_int) a_nil rfl) (lenS_ len0_) rfl) (blkOk_by (by kernel_rfl)) (by decide) (fun _ _ _ _ _ => (g_nm hN rfl (.inl rfl) (.inr rfl))) (fun _ _ _ _ _ => tl_nil) (fun _ _ _ _ _ => (e_bin o_sub (PE.pk (c_ (Cs.c60) hr (a_cons stays_arg (u_ (by kernel_rfl)) (a_cons stays_arg (e_adat (e_bin o_add (PE.pk (e_bin o_mul (PE.pk e_int) (l_ (by kernel_rfl)))) (PE.pk e_int))) a_nil rfl) rfl) rfl rfl rfl rfl)) (l_ (by kernel_rfl)))) (fun _ => rfl))) a_nil rfl) (by decide) rfl rfl rfl)) rfl (.inl rfl))
  (p_one (p_ret (e_if (t_cmp (o_ne hu) (PE.pk (e_lc (own := [("part", 4)]) (is := [4]) rfl hN (i_seq lkK (l_ (by kernel_rfl))) (blkOk_by (by kernel_rfl)) (by decide) (fun _ _ _ _ _ => (g_nm hN rfl (.inl rfl) (.inr rfl))) (fun _ _ _ _ _ => (tl_one (t_cmp (o_ne hu) (l_ (by kernel_rfl)) (PE.pk e_int) (nomark _)))) (fun _ _ _ _ _ => (v_ (by kernel_rfl))) (fun _ => rfl))) (PE.pk (e_lst a_nil (short_ len0_ (by decide)))) (nomark _)) (c_ (Cs.c67) hr (a_cons stays_arg (e_adat (v_ (by kernel_rfl))) a_nil rfl) rfl rfl rfl rfl) (e_tup (a_cons stays_dv e_int (a_cons stays_dv e_int (a_cons stays_dv e_int a_nil rfl) rfl) rfl) (short_ (lenS_ (lenS_ (lenS_ len0_))) (by decide)))))))
theorem P75 (M : Ms K mg) (Cs : Css P w K mg base m cf) (hr : Room m (A.deeper (envOfC "_law_lead" (defScope (top 107)) s.heap.objs.size f cdv))) (z0 : ZOk H0 Z0) :
    PSs (cxOf CX0 P w K mg base N75 "_law_lead" (defScope (top 107)) f cdv A outer s H E).nox (defBody (top 107)) (lS K c H0 Z0 (F75 cf)) :=
  have hN : N75.Nodup := by decide +kernel
  have hu := hr.units
  have hu6 := room66 hr
  (p_cons (p_set hN rfl (.inl rfl) (w_sh (e_tup (a_cons stays_dv e_int (a_cons stays_dv e_int (a_cons stays_dv e_int a_nil rfl) rfl) rfl) (short_ (lenS_ (lenS_ (lenS_ len0_))) (by decide)))) rfl (.inl rfl))
  (p_cons (p_par2 rfl hN rfl rfl (by decide) rfl rfl (w_lst (a_cons stays_dv (v_ (by kernel_rfl)) a_nil rfl) (short_ (lenS_ len0_) (by decide))) (w_lst a_nil (short_ len0_ (by decide))) rfl rfl rfl rfl)
  (p_cons (p_for .never rfl (i_rng1 rfl M.b_range (a_cons stays_dvp (l_ (by kernel_rfl)) a_nil rfl) (lenS_ len0_) rfl) (g_nm hN rfl (.inl rfl) (.inl rfl)) (p_one (app_ (by kernel_rfl) (c_ (Cs.c74) hr (a_cons stays_arg (u_ (by kernel_rfl)) (a_cons stays_arg (e_adat e_int) a_nil rfl) rfl) rfl rfl rfl rfl) rfl rfl (by rfl) rfl rfl rfl)) (fun _ => rfl))
  (p_cons (p_set hN rfl (.inl rfl) (w_cat (l_ (by kernel_rfl)) (PE.pk (e_lst (a_cons stays_dv (v_ (by kernel_rfl)) a_nil rfl) (short_ (lenS_ len0_) (by decide))))) rfl (.inl rfl))
  (p_cons (p_sh z0 (p_for .never rfl (i_zip2 lkL rfl M.b_zip (a_cons stays_dv (v_ (by kernel_rfl)) (a_cons stays_dv (e_cut (l_ (by kernel_rfl)) (o_yes e_int) o_no) a_nil rfl) rfl) (lenS_ (lenS_ len0_)) rfl rfl) (g_tp rfl (g_cs (g_nm hN rfl (.inl rfl) (.inl rfl)) (g_cs (g_nm hN rfl (.inl rfl) (.inl rfl)) g_nl rfl) rfl) (gCs_len (gCs_len gNl_len)) rfl rfl) (p_cons (p_set hN rfl (.inl rfl) (w_sh (e_tup (a_cons stays_dv e_int (a_cons stays_dv e_int (a_cons stays_dv e_int a_nil rfl) rfl) rfl) (short_ (lenS_ (lenS_ (lenS_ len0_))) (by decide)))) rfl (.inl rfl))
  (p_cons (p_for .never rfl (i_rng1 rfl M.b_range (a_cons stays_dvp (PE.pk e_int) a_nil rfl) (lenS_ len0_) rfl) (g_nm hN rfl (.inl rfl) (.inl rfl)) (p_cons (p_set hN rfl (.inl rfl) (w_sh (c_ (Cs.c74) hr (a_cons stays_arg (u_ (by kernel_rfl)) (a_cons stays_arg (e_adat e_int) a_nil rfl) rfl) rfl rfl rfl rfl)) rfl (.inl rfl))
  (p_one (p_if (PW.pt (t_and (t_cmp (o_ne hu) (PE.pk (c_ (Cs.c73) hr (a_cons stays_arg (e_adat (v_ (by kernel_rfl))) (a_cons stays_arg (e_adat (v_ (by kernel_rfl))) a_nil rfl) rfl) rfl rfl rfl rfl)) (PE.pk e_int) (nomark _)) (ta1_ (t_cmp (o_ne hu) (PE.pk (c_ (Cs.c73) hr (a_cons stays_arg (e_adat (v_ (by kernel_rfl))) (a_cons stays_arg (e_adat (v_ (by kernel_rfl))) a_nil rfl) rfl) rfl rfl rfl rfl)) (PE.pk e_int) (nomark _))))) (p_one (p_set hN rfl (.inl rfl) (w_sh (v_ (by kernel_rfl))) rfl (.inl rfl))) p_nil))) (fun _ => rfl))
  (p_one (app_ (by kernel_rfl) (v_ (by kernel_rfl)) rfl rfl (by rfl) rfl rfl rfl)))) (fun _ => rfl)))
  (p_one (p_ret (e_tup (a_cons stays_dv (e_callTy b_tuple rfl M.b_tuple bt_tuple (a_cons stays_dvp (l_ (by kernel_rfl)) a_nil rfl) (by decide) rfl rfl rfl) (a_cons stays_dv (e_callTy b_tuple rfl M.b_tuple bt_tuple (a_cons stays_dvp (l_ (by kernel_rfl)) a_nil rfl) (by decide) rfl rfl rfl) a_nil rfl) rfl) (short_ (lenS_ (lenS_ len0_)) (by decide))))))))))
theorem P76 (M : Ms K mg) (Cs : Css P w K mg base m cf) (hr : Room m (A.deeper (envOfC "_law_swing_of" (defScope (top 108)) s.heap.objs.size f cdv))) (z0 : ZOk H0 Z0) :
    PSs (cxOf CX0 P w K mg base N76 "_law_swing_of" (defScope (top 108)) f cdv A outer s H E).nox (defBody (top 108)) (lS K c H0 Z0 (F76 cf)) :=
  have hN : N76.Nodup := by decide +kernel
  have hu := hr.units
  have hu6 := room66 hr
  (p_cons (p_set hN rfl (.inl rfl) (w_sh (e_tup (a_cons stays_dv (e_tup (a_cons stays_dv e_int (a_cons stays_dv e_int a_nil rfl) rfl) (short_ (lenS_ (lenS_ len0_)) (by decide))) (a_cons stays_dv (e_tup (a_cons stays_dv e_int (a_cons stays_dv e_int a_nil rfl) rfl) (short_ (lenS_ (lenS_ len0_)) (by decide))) (a_cons stays_dv (e_tup (a_cons stays_dv e_int (a_cons stays_dv e_int a_nil rfl) rfl) (short_ (lenS_ (lenS_ len0_)) (by decide))) a_nil rfl) rfl) rfl) (short_ (lenS_ (lenS_ (lenS_ len0_))) (by decide)))) rfl (.inl rfl))
  (p_cons (p_set hN rfl (.inl rfl) (w_sh (e_callTy b_tuple rfl M.b_tuple bt_tuple (a_cons stays_dvp (PE.pk (e_lc (own := [("place", 3)]) (is := [3]) rfl hN (i_seq lkK (l_ (by kernel_rfl))) (blkOk_by (by kernel_rfl)) (by decide) (fun _ _ _ _ _ => (g_nm hN rfl (.inl rfl) (.inr rfl))) (fun _ _ _ _ _ => tl_nil) (fun _ _ _ _ _ => (c_ (Cs.c72) hr (a_cons stays_arg (e_adat (c_ (Cs.c47) hr (a_cons stays_arg (e_adat (v_ (by kernel_rfl))) (a_cons stays_arg (e_adat (c_ (Cs.c71) hr (a_cons stays_arg (e_adat (v_ (by kernel_rfl))) a_nil rfl) rfl rfl rfl rfl)) a_nil rfl) rfl) rfl rfl rfl rfl)) a_nil rfl) rfl rfl rfl rfl)) (fun _ => rfl))) a_nil rfl) (by decide) rfl rfl rfl)) rfl (.inl rfl))
  (p_cons (p_if (t_cmp (o_ne hu) (PE.pk (e_lc (own := [("place", 3)]) (is := [3]) rfl hN (i_seq lkK (l_ (by kernel_rfl))) (blkOk_by (by kernel_rfl)) (by decide) (fun _ _ _ _ _ => (g_nm hN rfl (.inl rfl) (.inr rfl))) (fun _ _ _ _ _ => (tl_one (t_not (t_val (c_ (Cs.c69) hr (a_cons stays_arg (e_adat (v_ (by kernel_rfl))) (a_cons stays_arg (e_adat e_int) a_nil rfl) rfl) rfl rfl rfl rfl) (fun _ => rfl))))) (fun _ _ _ _ _ => (v_ (by kernel_rfl))) (fun _ => rfl))) (PE.pk (e_lst a_nil (short_ len0_ (by decide)))) (nomark _)) (p_one (p_ret e_non)) p_nil)
  (p_cons (p_set hN rfl (.inl rfl) (w_sh (c_ (Cs.c23) hr (a_cons stays_arg (e_adat (v_ (by kernel_rfl))) (a_cons stays_arg (e_adat (v_ (by kernel_rfl))) a_nil rfl) rfl) rfl rfl rfl rfl)) rfl (.inl rfl))
  (p_one (p_ret (e_if (t_val (c_ (Cs.c19) hr (a_cons stays_arg (e_adat (v_ (by kernel_rfl))) a_nil rfl) rfl rfl rfl rfl) (fun _ => rfl)) (v_ (by kernel_rfl)) e_non)))))))
theorem P77 (M : Ms K mg) (Cs : Css P w K mg base m cf) (hr : Room m (A.deeper (envOfC "_law_right" (defScope (top 109)) s.heap.objs.size f cdv))) (z0 : ZOk H0 Z0) :
    PSs (cxOf CX0 P w K mg base N77 "_law_right" (defScope (top 109)) f cdv A outer s H E).nox (defBody (top 109)) (lS K c H0 Z0 (F77 cf)) :=
  have hN : N77.Nodup := by decide +kernel
  have hu := hr.units
  have hu6 := room66 hr
  (p_cons (p_if (t_not (t_val (c_ (Cs.c45) hr (a_cons stays_arg (e_adat (v_ (by kernel_rfl))) a_nil rfl) rfl rfl rfl rfl) (fun _ => rfl))) (p_one (p_ret e_bl)) p_nil)
  (p_cons (p_set hN rfl (.inl rfl) (w_sh (c_ (Cs.c76) hr (a_cons stays_arg (e_adat (v_ (by kernel_rfl))) a_nil rfl) rfl rfl rfl rfl)) rfl (.inl rfl))
  (p_cons (p_if (PW.pt (t_or (t_cmp o_isNot (PE.pk (c_ (Cs.c46) hr (a_cons stays_arg (e_adat (v_ (by kernel_rfl))) a_nil rfl) rfl rfl rfl rfl)) (PE.pk e_bl) (nomark _)) (to1_ (t_cmp o_is (l_ (by kernel_rfl)) (PE.pk e_non) (nomark _))))) (p_one (p_ret (e_cmp o_is (PE.pk (c_ (Cs.c46) hr (a_cons stays_arg (e_adat (v_ (by kernel_rfl))) a_nil rfl) rfl rfl rfl rfl)) (PE.pk e_bl) (nomark _)))) p_nil)
  (p_cons (p_for .never rfl (i_rng1 rfl M.b_range (a_cons stays_dvp (PE.pk e_int) a_nil rfl) (lenS_ len0_) rfl) (g_nm hN rfl (.inl rfl) (.inl rfl)) (p_cons (p_set hN rfl (.inl rfl) (w_sh (c_ (Cs.c70) hr (a_cons stays_arg (u_ (by kernel_rfl)) (a_cons stays_arg (e_adat e_int) a_nil rfl) rfl) rfl rfl rfl rfl)) rfl (.inl rfl))
  (p_one (p_if (t_not (t_val (c_ (Cs.c63) hr (a_cons stays_arg (e_adat (c_ (Cs.c47) hr (a_cons stays_arg (e_adat (v_ (by kernel_rfl))) (a_cons stays_arg (e_adat (c_ (Cs.c71) hr (a_cons stays_arg (e_adat (v_ (by kernel_rfl))) a_nil rfl) rfl rfl rfl rfl)) a_nil rfl) rfl) rfl rfl rfl rfl)) (a_cons stays_arg (e_adat (c_ (Cs.c71) hr (a_cons stays_arg (e_adat (c_ (Cs.c20) hr (a_cons stays_arg (e_adat (v_ (by kernel_rfl))) (a_cons stays_arg (e_adat (v_ (by kernel_rfl))) a_nil rfl) rfl) rfl rfl rfl rfl)) a_nil rfl) rfl rfl rfl rfl)) a_nil rfl) rfl) rfl rfl rfl rfl) (fun _ => rfl))) (p_one (p_ret e_bl)) p_nil))) (fun _ => rfl))
  (p_cons (p_set hN rfl (.inl rfl) (w_sh (c_ (Cs.c54) hr (a_cons stays_arg (e_adat (v_ (by kernel_rfl))) a_nil rfl) rfl rfl rfl rfl)) rfl (.inl rfl))
  (p_cons (p_set hN rfl (.inl rfl) (w_sh (e_if (t_cmp o_is (l_ (by kernel_rfl)) (PE.pk e_non) (nomark _)) e_non (e_callTy b_tuple rfl M.b_tuple bt_tuple (a_cons stays_dvp (PE.pk (e_callB (b_sorted hu6) rfl M.b_sorted bt_sorted (a_cons stays_dvp (PE.pk (e_lc (own := [("place", 4)]) (is := [4]) rfl hN (i_seq lkK (l_ (by kernel_rfl))) (blkOk_by (by kernel_rfl)) (by decide) (fun _ _ _ _ _ => (g_nm hN rfl (.inl rfl) (.inr rfl))) (fun _ _ _ _ _ => tl_nil) (fun _ _ _ _ _ => (c_ (Cs.c71) hr (a_cons stays_arg (e_adat (v_ (by kernel_rfl))) a_nil rfl) rfl rfl rfl rfl)) (fun _ => rfl))) a_nil rfl) (by decide) rfl rfl rfl)) a_nil rfl) (by decide) rfl rfl rfl))) rfl (.inl rfl))
  (p_cons (p_if (t_not (t_val (c_ (Cs.c63) hr (a_cons stays_arg (e_adat (e_lst (a_cons stays_dv (c_ (Cs.c48) hr (a_cons stays_arg (e_adat (v_ (by kernel_rfl))) a_nil rfl) rfl rfl rfl rfl) (a_cons stays_dv (c_ (Cs.c49) hr (a_cons stays_arg (e_adat (v_ (by kernel_rfl))) a_nil rfl) rfl rfl rfl rfl) a_nil rfl) rfl) (short_ (lenS_ (lenS_ len0_)) (by decide)))) (a_cons stays_arg (e_adat (e_lst (a_cons stays_dv (v_ (by kernel_rfl)) (a_cons stays_dv (c_ (Cs.c26) hr (a_cons stays_arg (e_adat (v_ (by kernel_rfl))) a_nil rfl) rfl rfl rfl rfl) a_nil rfl) rfl) (short_ (lenS_ (lenS_ len0_)) (by decide)))) a_nil rfl) rfl) rfl rfl rfl rfl) (fun _ => rfl))) (p_one (p_ret e_bl)) p_nil)
  (p_cons (p_set hN rfl (.inl rfl) (w_sh (e_tup (a_cons stays_dv (e_rev (PE.pk (e_ix o_ix (l_ (by kernel_rfl)) (PE.pk e_int) (fun _ _ => rfl)))) (a_cons stays_dv (e_rev (PE.pk (e_ix o_ix (l_ (by kernel_rfl)) (PE.pk e_int) (fun _ _ => rfl)))) a_nil rfl) rfl) (short_ (lenS_ (lenS_ len0_)) (by decide)))) rfl (.inl rfl))
  (p_cons (p_set hN rfl (.inl rfl) (w_sh (c_ (Cs.c76) hr (a_cons stays_arg (e_adat (v_ (by kernel_rfl))) a_nil rfl) rfl rfl rfl rfl)) rfl (.inl rfl))
  (p_cons (p_if (PW.pt (t_and (t_cmp o_isNot (l_ (by kernel_rfl)) (PE.pk e_non) (nomark _)) (ta1_ (t_not (t_val (c_ (Cs.c63) hr (a_cons stays_arg (e_adat (v_ (by kernel_rfl))) (a_cons stays_arg (e_adat (c_ (Cs.c22) hr (a_cons stays_arg (e_adat (v_ (by kernel_rfl))) a_nil rfl) rfl rfl rfl rfl)) a_nil rfl) rfl) rfl rfl rfl rfl) (fun _ => rfl)))))) (p_one (p_ret e_bl)) p_nil)
  (p_cons (p_set hN rfl (.inl rfl) (w_sh (c_ (Cs.c70) hr (a_cons stays_arg (u_ (by kernel_rfl)) (a_cons stays_arg (e_adat e_int) a_nil rfl) rfl) rfl rfl rfl rfl)) rfl (.inl rfl))
  (p_cons (p_par2 rfl hN rfl rfl (by decide) rfl rfl (w_sh (c_ (Cs.c28) hr (a_cons stays_arg (e_adat (v_ (by kernel_rfl))) (a_cons stays_arg (e_adat (v_ (by kernel_rfl))) (a_cons stays_arg (e_adat e_int) a_nil rfl) rfl) rfl) rfl rfl rfl rfl)) (w_sh (c_ (Cs.c71) hr (a_cons stays_arg (e_adat (v_ (by kernel_rfl))) a_nil rfl) rfl rfl rfl rfl)) rfl rfl rfl rfl)
  (p_cons (p_for .never rfl (i_seq lkL (e_cut (l_ (by kernel_rfl)) (o_yes e_int) o_no)) (g_nm hN rfl (.inl rfl) (.inl rfl)) (p_cons (p_set hN rfl (.inl rfl) (w_sh (c_ (Cs.c47) hr (a_cons stays_arg (e_adat (v_ (by kernel_rfl))) (a_cons stays_arg (e_adat (v_ (by kernel_rfl))) a_nil rfl) rfl) rfl rfl rfl rfl)) rfl (.inl rfl))
  (p_cons (p_if (t_cmp (o_gt hu) (PE.pk (e_callB (b_max rfl) rfl M.b_max bt_max (a_cons stays_dvp (PE.pk (e_lc (own := [("part", 12)]) (is := [12]) rfl hN (i_seq lkK (l_ (by kernel_rfl))) (blkOk_by (by kernel_rfl)) (by decide) (fun _ _ _ _ _ => (g_nm hN rfl (.inl rfl) (.inr rfl))) (fun _ _ _ _ _ => tl_nil) (fun _ _ _ _ _ => (e_callB b_abs rfl M.b_abs bt_abs (a_cons stays_dvp (l_ (by kernel_rfl)) a_nil rfl) (by decide) rfl rfl rfl)) (fun _ => rfl))) a_nil rfl) (by decide) rfl rfl rfl)) (PE.pk (e_bin o_pow (PE.pk e_int) (PE.pk e_int))) (nomark _)) (p_one (p_ret e_bl)) p_nil)
  (p_one (p_if (t_cmp (o_ne hu) (PE.pk (c_ (Cs.c72) hr (a_cons stays_arg (e_adat (v_ (by kernel_rfl))) a_nil rfl) rfl rfl rfl rfl)) (l_ (by kernel_rfl)) (nomark _)) (p_one (p_ret e_bl)) p_nil)))) (fun _ => rfl))
  (p_one (p_ret (e_cmp (o_eq hu) (PE.pk (e_cmp (o_eq hu) (PE.pk (c_ (Cs.c53) hr (a_cons stays_arg (e_adat (v_ (by kernel_rfl))) a_nil rfl) rfl rfl rfl rfl)) (PE.pk e_int) (nomark _))) (PE.pk (e_or (e_and (e_cmp o_isNot (l_ (by kernel_rfl)) (PE.pk e_non) (nomark _)) (one_ (e_cmp (o_eq hu) (PE.pk (e_callB b_len rfl M.b_len bt_len (a_cons stays_dvp (l_ (by kernel_rfl)) a_nil rfl) (by decide) rfl rfl rfl)) (PE.pk e_int) (nomark _)))) (one_ (e_cmp o_is (l_ (by kernel_rfl)) (PE.pk e_non) (nomark _))))) (nomark _)))))))))))))))))
theorem P78 (M : Ms K mg) (Cs : Css P w K mg base m cf) (hr : Room m (A.deeper (envOfC "_law_both_right" (defScope (top 110)) s.heap.objs.size f cdv))) (z0 : ZOk H0 Z0) :
    PSs (cxOf CX0 P w K mg base N78 "_law_both_right" (defScope (top 110)) f cdv A outer s H E).nox (defBody (top 110)) (lS K c H0 Z0 (F78 cf)) :=
  have hN : N78.Nodup := by decide +kernel
  have hu := hr.units
  have hu6 := room66 hr
  (p_cons (p_if (PW.pt (t_or (t_not (t_val (c_ (Cs.c45) hr (a_cons stays_arg (e_adat (v_ (by kernel_rfl))) a_nil rfl) rfl rfl rfl rfl) (fun _ => rfl))) (to1_ (t_not (t_val (c_ (Cs.c45) hr (a_cons stays_arg (e_adat (v_ (by kernel_rfl))) a_nil rfl) rfl rfl rfl rfl) (fun _ => rfl)))))) (p_one (p_ret e_bl)) p_nil)
  (p_cons (p_par2 rfl hN rfl rfl (by decide) rfl rfl (w_sh (c_ (Cs.c76) hr (a_cons stays_arg (e_adat (v_ (by kernel_rfl))) a_nil rfl) rfl rfl rfl rfl)) (w_sh (c_ (Cs.c76) hr (a_cons stays_arg (e_adat (v_ (by kernel_rfl))) a_nil rfl) rfl rfl rfl rfl)) rfl rfl rfl rfl)
  (p_cons (p_if (PW.pt (t_or (t_cmp o_is (l_ (by kernel_rfl)) (PE.pk e_non) (nomark _)) (to1_ (t_cmp o_is (l_ (by kernel_rfl)) (PE.pk e_non) (nomark _))))) (p_one (p_ret e_bl)) p_nil)
  (p_cons (p_set hN rfl (.inl rfl) (w_sh (c_ (Cs.c50) hr (a_cons stays_arg (e_adat (v_ (by kernel_rfl))) (a_cons stays_arg (e_adat (v_ (by kernel_rfl))) a_nil rfl) rfl) rfl rfl rfl rfl)) rfl (.inl rfl))
  (p_cons (p_set hN rfl (.inl rfl) (w_sh (c_ (Cs.c76) hr (a_cons stays_arg (e_adat (v_ (by kernel_rfl))) a_nil rfl) rfl rfl rfl rfl)) rfl (.inl rfl))
  (p_cons (p_if (PW.pt (t_and (t_cmp o_isNot (l_ (by kernel_rfl)) (PE.pk e_non) (nomark _)) (ta1_ (t_not (t_val (c_ (Cs.c63) hr (a_cons stays_arg (e_adat (v_ (by kernel_rfl))) (a_cons stays_arg (e_adat (c_ (Cs.c21) hr (a_cons stays_arg (e_adat (v_ (by kernel_rfl))) (a_cons stays_arg (e_adat (v_ (by kernel_rfl))) a_nil rfl) rfl) rfl rfl rfl rfl)) a_nil rfl) rfl) rfl rfl rfl rfl) (fun _ => rfl)))))) (p_one (p_ret e_bl)) p_nil)
  (p_cons (p_set hN rfl (.inl rfl) (w_sh (c_ (Cs.c76) hr (a_cons stays_arg (e_adat (c_ (Cs.c50) hr (a_cons stays_arg (e_adat (v_ (by kernel_rfl))) (a_cons stays_arg (e_adat (v_ (by kernel_rfl))) a_nil rfl) rfl) rfl rfl rfl rfl)) a_nil rfl) rfl rfl rfl rfl)) rfl (.inl rfl))
  (p_one (p_ret (e_or (e_cmp o_is (l_ (by kernel_rfl)) (PE.pk e_non) (nomark _)) (e_or (e_cmp o_is (l_ (by kernel_rfl)) (PE.pk e_non) (nomark _)) (one_ (e_cmp o_is (PE.pk (c_ (Cs.c57) hr (a_cons stays_arg (e_adat (v_ (by kernel_rfl))) (a_cons stays_arg (e_adat (v_ (by kernel_rfl))) a_nil rfl) rfl) rfl rfl rfl rfl)) (PE.pk e_bl) (nomark _))))))))))))))
theorem P79 (M : Ms K mg) (Cs : Css P w K mg base m cf) (hr : Room m (A.deeper (envOfC "_law_perspective_right" (defScope (top 111)) s.heap.objs.size f cdv))) (z0 : ZOk H0 Z0) :
    PSs (cxOf CX0 P w K mg base N79 "_law_perspective_right" (defScope (top 111)) f cdv A outer s H E).nox (defBody (top 111)) (lS K c H0 Z0 (F79 cf)) :=
  have hN : N79.Nodup := by decide +kernel
  have hu := hr.units
  have hu6 := room66 hr
  (p_cons (p_set hN rfl (.inl rfl) (w_sh (c_ (Cs.c61) hr (a_cons stays_arg (u_ (by kernel_rfl)) (a_cons stays_arg (e_adat (e_lst (a_cons stays_dv (e_tup (a_cons stays_dv e_int (a_cons stays_dv e_int (a_cons stays_dv (e_neg e_int) a_nil rfl) rfl) rfl) (short_ (lenS_ (lenS_ (lenS_ len0_))) (by decide))) (a_cons stays_dv (e_tup (a_cons stays_dv e_int (a_cons stays_dv e_int (a_cons stays_dv (e_neg e_int) a_nil rfl) rfl) rfl) (short_ (lenS_ (lenS_ (lenS_ len0_))) (by decide))) (a_cons stays_dv (e_tup (a_cons stays_dv e_int (a_cons stays_dv e_int (a_cons stays_dv (e_neg e_int) a_nil rfl) rfl) rfl) (short_ (lenS_ (lenS_ (lenS_ len0_))) (by decide))) (a_cons stays_dv (e_tup (a_cons stays_dv e_int (a_cons stays_dv (e_neg e_int) (a_cons stays_dv e_int a_nil rfl) rfl) rfl) (short_ (lenS_ (lenS_ (lenS_ len0_))) (by decide))) a_nil rfl) rfl) rfl) rfl) (short_ (lenS_ (lenS_ (lenS_ (lenS_ len0_)))) (by decide)))) a_nil rfl) rfl) rfl rfl rfl rfl)) rfl (.inl rfl))
  (p_cons (p_par2 rfl hN rfl rfl (by decide) rfl rfl (w_sh (c_ (Cs.c61) hr (a_cons stays_arg (u_ (by kernel_rfl)) (a_cons stays_arg (e_adat (e_lst (a_cons stays_dv (e_tup (a_cons stays_dv e_int (a_cons stays_dv e_int (a_cons stays_dv e_int a_nil rfl) rfl) rfl) (short_ (lenS_ (lenS_ (lenS_ len0_))) (by decide))) (a_cons stays_dv (e_tup (a_cons stays_dv e_int (a_cons stays_dv e_int (a_cons stays_dv e_int a_nil rfl) rfl) rfl) (short_ (lenS_ (lenS_ (lenS_ len0_))) (by decide))) (a_cons stays_dv (e_tup (a_cons stays_dv e_int (a_cons stays_dv e_int (a_cons stays_dv e_int a_nil rfl) rfl) rfl) (short_ (lenS_ (lenS_ (lenS_ len0_))) (by decide))) a_nil rfl) rfl) rfl) (short_ (lenS_ (lenS_ (lenS_ len0_))) (by decide)))) a_nil rfl) rfl) rfl rfl rfl rfl)) (w_sh (c_ (Cs.c61) hr (a_cons stays_arg (u_ (by kernel_rfl)) (a_cons stays_arg (e_adat (e_lst (a_cons stays_dv (e_tup (a_cons stays_dv e_int (a_cons stays_dv e_int (a_cons stays_dv e_int a_nil rfl) rfl) rfl) (short_ (lenS_ (lenS_ (lenS_ len0_))) (by decide))) (a_cons stays_dv (e_tup (a_cons stays_dv e_int (a_cons stays_dv e_int (a_cons stays_dv e_int a_nil rfl) rfl) rfl) (short_ (lenS_ (lenS_ (lenS_ len0_))) (by decide))) (a_cons stays_dv (e_tup (a_cons stays_dv (e_neg e_int) (a_cons stays_dv e_int (a_cons stays_dv e_int a_nil rfl) rfl) rfl) (short_ (lenS_ (lenS_ (lenS_ len0_))) (by decide))) a_nil rfl) rfl) rfl) (short_ (lenS_ (lenS_ (lenS_ len0_))) (by decide)))) a_nil rfl) rfl) rfl rfl rfl rfl)) rfl rfl rfl rfl)
  (p_cons (p_set hN rfl (.inl rfl) (w_sh (e_tup (a_cons stays_dv (e_tup (a_cons stays_dv (e_tup (a_cons stays_dv e_int (a_cons stays_dv e_int (a_cons stays_dv e_int a_nil rfl) rfl) rfl) (short_ (lenS_ (lenS_ (lenS_ len0_))) (by decide))) (a_cons stays_dv (v_ (by kernel_rfl)) (a_cons stays_dv (e_tup (a_cons stays_dv e_int (a_cons stays_dv e_int (a_cons stays_dv e_int a_nil rfl) rfl) rfl) (short_ (lenS_ (lenS_ (lenS_ len0_))) (by decide))) a_nil rfl) rfl) rfl) (short_ (lenS_ (lenS_ (lenS_ len0_))) (by decide))) (a_cons stays_dv (e_tup (a_cons stays_dv (v_ (by kernel_rfl)) (a_cons stays_dv (c_ (Cs.c67) hr (a_cons stays_arg (e_adat (v_ (by kernel_rfl))) a_nil rfl) rfl rfl rfl rfl) a_nil rfl) rfl) (short_ (lenS_ (lenS_ len0_)) (by decide))) a_nil rfl) rfl) (short_ (lenS_ (lenS_ len0_)) (by decide)))) rfl (.inl rfl))
  (p_cons (p_if (t_not (t_val (c_ (Cs.c45) hr (a_cons stays_arg (e_adat (v_ (by kernel_rfl))) a_nil rfl) rfl rfl rfl rfl) (fun _ => rfl))) (p_one (p_ret e_bl)) p_nil)
  (p_cons (p_set hN rfl (.inl rfl) (w_sh (c_ (Cs.c76) hr (a_cons stays_arg (e_adat (v_ (by kernel_rfl))) a_nil rfl) rfl rfl rfl rfl)) rfl (.inl rfl))
  (p_cons (p_if (t_cmp o_is (l_ (by kernel_rfl)) (PE.pk e_non) (nomark _)) (p_one (p_ret e_bl)) p_nil)
  (p_cons (p_set hN rfl (.inl rfl) (w_sh (c_ (Cs.c72) hr (a_cons stays_arg (e_adat (c_ (Cs.c80) hr (a_cons stays_arg (e_adat (e_tup (a_cons stays_dv e_int (a_cons stays_dv e_int (a_cons stays_dv e_int a_nil rfl) rfl) rfl) (short_ (lenS_ (lenS_ (lenS_ len0_))) (by decide)))) (a_cons stays_arg (e_adat (v_ (by kernel_rfl))) a_nil rfl) rfl) rfl rfl rfl rfl)) a_nil rfl) rfl rfl rfl rfl)) rfl (.inl rfl))
  (p_cons (p_set hN rfl (.inl rfl) (w_sh (c_ (Cs.c54) hr (a_cons stays_arg (e_adat (v_ (by kernel_rfl))) a_nil rfl) rfl rfl rfl rfl)) rfl (.inl rfl))
  (p_cons (p_if (PW.pt (t_or (PW.pt (t_and (t_cmp o_isNot (l_ (by kernel_rfl)) (PE.pk e_non) (nomark _)) (ta1_ (t_cmp (o_notIn hu6) (l_ (by kernel_rfl)) (l_ (by kernel_rfl)) rfl)))) (to1_ (t_cmp (o_ne hu) (PE.pk (e_cmp o_is (l_ (by kernel_rfl)) (PE.pk e_non) (nomark _))) (PE.pk (e_cmp (o_eq hu) (l_ (by kernel_rfl)) (PE.pk (e_ix o_ix (PE.pk (e_ix o_ix (l_ (by kernel_rfl)) (PE.pk e_int) (fun _ _ => rfl))) (PE.pk e_int) (fun _ _ => rfl))) (nomark _))) (nomark _))))) (p_one (p_ret e_bl)) p_nil)
  (p_one (p_ret (e_and (c_ (Cs.c77) hr (a_cons stays_arg (u_ (by kernel_rfl)) (a_cons stays_arg (e_adat (v_ (by kernel_rfl))) a_nil rfl) rfl) rfl rfl rfl rfl) (one_ (e_cmp (o_eq hu) (PE.pk (c_ (Cs.c27) hr (a_cons stays_arg (e_adat (v_ (by kernel_rfl))) (a_cons stays_arg (e_adat e_int) a_nil rfl) rfl) rfl rfl rfl rfl)) (PE.pk (c_ (Cs.c21) hr (a_cons stays_arg (e_adat (v_ (by kernel_rfl))) (a_cons stays_arg (e_adat (v_ (by kernel_rfl))) a_nil rfl) rfl) rfl rfl rfl rfl)) (nomark _)))))))))))))))
theorem P80 (M : Ms K mg) (Cs : Css P w K mg base m cf) (hr : Room m (A.deeper (envOfC "_law_cross_of" (defScope (top 112)) s.heap.objs.size f cdv))) (z0 : ZOk H0 Z0) :
    PSs (cxOf CX0 P w K mg base N80 "_law_cross_of" (defScope (top 112)) f cdv A outer s H E).nox (defBody (top 112)) (lS K c H0 Z0 (F80 cf)) :=
  have hN : N80.Nodup := by decide +kernel
  have hu := hr.units
  have hu6 := room66 hr
  (p_cons (p_asg (v_ (by kernel_rfl)) (g_tp rfl (g_cs (g_nm hN rfl (.inl rfl) (.inl rfl)) (g_cs (g_nm hN rfl (.inl rfl) (.inl rfl)) (g_cs (g_nm hN rfl (.inl rfl) (.inl rfl)) g_nl rfl) rfl) rfl) (gCs_len (gCs_len (gCs_len gNl_len))) rfl rfl) rfl rfl rfl)
  (p_cons (p_asg (v_ (by kernel_rfl)) (g_tp rfl (g_cs (g_nm hN rfl (.inl rfl) (.inl rfl)) (g_cs (g_nm hN rfl (.inl rfl) (.inl rfl)) (g_cs (g_nm hN rfl (.inl rfl) (.inl rfl)) g_nl rfl) rfl) rfl) (gCs_len (gCs_len (gCs_len gNl_len))) rfl rfl) rfl rfl rfl)
  (p_one (p_ret (c_ (Cs.c67) hr (a_cons stays_arg (e_adat (e_tup (a_cons stays_dv (e_bin o_sub (PE.pk (e_bin o_mul (l_ (by kernel_rfl)) (l_ (by kernel_rfl)))) (PE.pk (e_bin o_mul (l_ (by kernel_rfl)) (l_ (by kernel_rfl))))) (a_cons stays_dv (e_bin o_sub (PE.pk (e_bin o_mul (l_ (by kernel_rfl)) (l_ (by kernel_rfl)))) (PE.pk (e_bin o_mul (l_ (by kernel_rfl)) (l_ (by kernel_rfl))))) (a_cons stays_dv (e_bin o_sub (PE.pk (e_bin o_mul (l_ (by kernel_rfl)) (l_ (by kernel_rfl)))) (PE.pk (e_bin o_mul (l_ (by kernel_rfl)) (l_ (by kernel_rfl))))) a_nil rfl) rfl) rfl) (short_ (lenS_ (lenS_ (lenS_ len0_))) (by decide)))) a_nil rfl) rfl rfl rfl rfl)))))
theorem P81 (M : Ms K mg) (Cs : Css P w K mg base m cf) (hr : Room m (A.deeper (envOfC "_law_written_right" (defScope (top 113)) s.heap.objs.size f cdv))) (z0 : ZOk H0 Z0) :
    PSs (cxOf CX0 P w K mg base N81 "_law_written_right" (defScope (top 113)) f cdv A outer s H E).nox (defBody (top 113)) (lS K c H0 Z0 (F81 cf)) :=
  have hN : N81.Nodup := by decide +kernel
  have hu := hr.units
  have hu6 := room66 hr
  (p_cons (p_set hN rfl (.inl rfl) (w_sh (e_tup (a_cons stays_dv (e_tup (a_cons stays_dv (e_tup (a_cons stays_dv e_int (a_cons stays_dv e_int (a_cons stays_dv e_int a_nil rfl) rfl) rfl) (short_ (lenS_ (lenS_ (lenS_ len0_))) (by decide))) (a_cons stays_dv (e_tup (a_cons stays_dv e_int (a_cons stays_dv e_int (a_cons stays_dv (e_neg e_int) a_nil rfl) rfl) rfl) (short_ (lenS_ (lenS_ (lenS_ len0_))) (by decide))) (a_cons stays_dv (e_tup (a_cons stays_dv e_int (a_cons stays_dv e_int (a_cons stays_dv e_int a_nil rfl) rfl) rfl) (short_ (lenS_ (lenS_ (lenS_ len0_))) (by decide))) a_nil rfl) rfl) rfl) (short_ (lenS_ (lenS_ (lenS_ len0_))) (by decide))) (a_cons stays_dv (e_tup (a_cons stays_dv (e_tup (a_cons stays_dv e_int (a_cons stays_dv e_int (a_cons stays_dv e_int a_nil rfl) rfl) rfl) (short_ (lenS_ (lenS_ (lenS_ len0_))) (by decide))) (a_cons stays_dv (e_tup (a_cons stays_dv e_int (a_cons stays_dv e_int (a_cons stays_dv (e_neg e_int) a_nil rfl) rfl) rfl) (short_ (lenS_ (lenS_ (lenS_ len0_))) (by decide))) a_nil rfl) rfl) (short_ (lenS_ (lenS_ len0_)) (by decide))) a_nil rfl) rfl) (short_ (lenS_ (lenS_ len0_)) (by decide)))) rfl (.inl rfl))
  (p_cons (p_set hN rfl (.inl rfl) (w_sh (e_tup (a_cons stays_dv (e_tup (a_cons stays_dv (e_tup (a_cons stays_dv e_int (a_cons stays_dv e_int (a_cons stays_dv e_int a_nil rfl) rfl) rfl) (short_ (lenS_ (lenS_ (lenS_ len0_))) (by decide))) (a_cons stays_dv (e_tup (a_cons stays_dv e_int (a_cons stays_dv e_int (a_cons stays_dv (e_neg e_int) a_nil rfl) rfl) rfl) (short_ (lenS_ (lenS_ (lenS_ len0_))) (by decide))) (a_cons stays_dv (e_tup (a_cons stays_dv e_int (a_cons stays_dv e_int (a_cons stays_dv e_int a_nil rfl) rfl) rfl) (short_ (lenS_ (lenS_ (lenS_ len0_))) (by decide))) a_nil rfl) rfl) rfl) (short_ (lenS_ (lenS_ (lenS_ len0_))) (by decide))) (a_cons stays_dv (e_tup (a_cons stays_dv (e_tup (a_cons stays_dv e_int (a_cons stays_dv e_int (a_cons stays_dv e_int a_nil rfl) rfl) rfl) (short_ (lenS_ (lenS_ (lenS_ len0_))) (by decide))) (a_cons stays_dv (e_tup (a_cons stays_dv e_int (a_cons stays_dv e_int (a_cons stays_dv e_int a_nil rfl) rfl) rfl) (short_ (lenS_ (lenS_ (lenS_ len0_))) (by decide))) a_nil rfl) rfl) (short_ (lenS_ (lenS_ len0_)) (by decide))) a_nil rfl) rfl) (short_ (lenS_ (lenS_ len0_)) (by decide)))) rfl (.inl rfl))
  (p_cons (p_set hN rfl (.inl rfl) (w_sh (e_lst (a_cons stays_dv (c_ (Cs.c76) hr (a_cons stays_arg (e_adat (v_ (by kernel_rfl))) a_nil rfl) rfl rfl rfl rfl) (a_cons stays_dv (c_ (Cs.c76) hr (a_cons stays_arg (e_adat (v_ (by kernel_rfl))) a_nil rfl) rfl rfl rfl rfl) (a_cons stays_dv (c_ (Cs.c49) hr (a_cons stays_arg (e_adat (v_ (by kernel_rfl))) a_nil rfl) rfl rfl rfl rfl) (a_cons stays_dv (c_ (Cs.c48) hr (a_cons stays_arg (e_adat (v_ (by kernel_rfl))) a_nil rfl) rfl rfl rfl rfl) (a_cons stays_dv (c_ (Cs.c47) hr (a_cons stays_arg (e_adat (v_ (by kernel_rfl))) (a_cons stays_arg (e_adat (e_tup (a_cons stays_dv e_int (a_cons stays_dv e_int (a_cons stays_dv e_int a_nil rfl) rfl) rfl) (short_ (lenS_ (lenS_ (lenS_ len0_))) (by decide)))) a_nil rfl) rfl) rfl rfl rfl rfl) a_nil rfl) rfl) rfl) rfl) rfl) (short_ (lenS_ (lenS_ (lenS_ (lenS_ (lenS_ len0_))))) (by decide)))) rfl (.inl rfl))
  (p_cons (p_set hN rfl (.inl rfl) (w_sh (e_lst (a_cons stays_dv (e_tup (a_cons stays_dv e_int (a_cons stays_dv e_int (a_cons stays_dv e_int (a_cons stays_dv e_int a_nil rfl) rfl) rfl) rfl) (short_ (lenS_ (lenS_ (lenS_ (lenS_ len0_)))) (by decide))) (a_cons stays_dv (e_tup (a_cons stays_dv e_int (a_cons stays_dv e_int (a_cons stays_dv e_int (a_cons stays_dv e_int a_nil rfl) rfl) rfl) rfl) (short_ (lenS_ (lenS_ (lenS_ (lenS_ len0_)))) (by decide))) (a_cons stays_dv e_int (a_cons stays_dv (e_tup (a_cons stays_dv (e_tup (a_cons stays_dv e_int (a_cons stays_dv e_int (a_cons stays_dv e_int a_nil rfl) rfl) rfl) (short_ (lenS_ (lenS_ (lenS_ len0_))) (by decide))) (a_cons stays_dv (e_tup (a_cons stays_dv e_int (a_cons stays_dv e_int (a_cons stays_dv e_int a_nil rfl) rfl) rfl) (short_ (lenS_ (lenS_ (lenS_ len0_))) (by decide))) a_nil rfl) rfl) (short_ (lenS_ (lenS_ len0_)) (by decide))) (a_cons stays_dv (e_tup (a_cons stays_dv e_int (a_cons stays_dv e_int (a_cons stays_dv e_int a_nil rfl) rfl) rfl) (short_ (lenS_ (lenS_ (lenS_ len0_))) (by decide))) a_nil rfl) rfl) rfl) rfl) rfl) (short_ (lenS_ (lenS_ (lenS_ (lenS_ (lenS_ len0_))))) (by decide)))) rfl (.inl rfl))
  (p_cons (p_if (PW.pt (t_or (t_not (t_val (c_ (Cs.c63) hr (a_cons stays_arg (e_adat (v_ (by kernel_rfl))) (a_cons stays_arg (e_adat (v_ (by kernel_rfl))) a_nil rfl) rfl) rfl rfl rfl rfl) (fun _ => rfl))) (t_or (t_not (t_val (c_ (Cs.c77) hr (a_cons stays_arg (u_ (by kernel_rfl)) (a_cons stays_arg (e_adat (v_ (by kernel_rfl))) a_nil rfl) rfl) rfl rfl rfl rfl) (fun _ => rfl))) (t_or (t_not (t_val (c_ (Cs.c77) hr (a_cons stays_arg (u_ (by kernel_rfl)) (a_cons stays_arg (e_adat (v_ (by kernel_rfl))) a_nil rfl) rfl) rfl rfl rfl rfl) (fun _ => rfl))) (t_or (t_not (t_val (c_ (Cs.c78) hr (a_cons stays_arg (e_adat (v_ (by kernel_rfl))) (a_cons stays_arg (e_adat (v_ (by kernel_rfl))) a_nil rfl) rfl) rfl rfl rfl rfl) (fun _ => rfl))) (to1_ (t_not (t_val (c_ (Cs.c78) hr (a_cons stays_arg (e_adat (v_ (by kernel_rfl))) (a_cons stays_arg (e_adat (v_ (by kernel_rfl))) a_nil rfl) rfl) rfl rfl rfl rfl) (fun _ => rfl))))))))) (p_one (p_ret e_bl)) p_nil)
  (p_one (p_ret (e_cmp o_is (PE.pk (c_ (Cs.c58) hr (a_cons stays_arg (e_adat (c_ (Cs.c76) hr (a_cons stays_arg (e_adat (v_ (by kernel_rfl))) a_nil rfl) rfl rfl rfl rfl)) (a_cons stays_arg (e_adat (e_tup (a_cons stays_dv e_int (a_cons stays_dv e_int (a_cons stays_dv e_int (a_cons stays_dv e_int a_nil rfl) rfl) rfl) rfl) (short_ (lenS_ (lenS_ (lenS_ (lenS_ len0_)))) (by decide)))) a_nil rfl) rfl) rfl rfl rfl rfl)) (PE.pk e_bl) (nomark _)))))))))
theorem P82 (M : Ms K mg) (Cs : Css P w K mg base m cf) (hr : Room m (A.deeper (envOfC "law" (defScope (top 114)) s.heap.objs.size f cdv))) (z0 : ZOk H0 Z0) :
    PSs (cxOf CX0 P w K mg base N82 "law" (defScope (top 114)) f cdv A outer s H E).nox (defBody (top 114)).tail (lS K c H0 Z0 (F82 cf)) :=
  have hN : N82.Nodup := by decide +kernel
  have hu := hr.units
  have hu6 := room66 hr
  (p_cons (p_for .never rfl (i_rng1 rfl M.b_range (a_cons stays_dvp (PE.pk e_int) a_nil rfl) (lenS_ len0_) rfl) (g_nm hN rfl (.inl rfl) (.inl rfl)) (p_cons (p_par2 rfl hN rfl rfl (by decide) rfl rfl (w_sh (c_ (Cs.c75) hr (a_cons stays_arg (u_ (by kernel_rfl)) (a_cons stays_arg (e_adat (e_bin o_add (PE.pk e_int) (PE.pk (c_ (Cs.c60) hr (a_cons stays_arg (u_ (by kernel_rfl)) (a_cons stays_arg (e_adat e_int) a_nil rfl) rfl) rfl rfl rfl rfl)))) a_nil rfl) rfl) rfl rfl rfl rfl)) (w_sh (c_ (Cs.c75) hr (a_cons stays_arg (u_ (by kernel_rfl)) (a_cons stays_arg (e_adat (e_bin o_add (PE.pk e_int) (PE.pk (c_ (Cs.c60) hr (a_cons stays_arg (u_ (by kernel_rfl)) (a_cons stays_arg (e_adat e_int) a_nil rfl) rfl) rfl rfl rfl rfl)))) a_nil rfl) rfl) rfl rfl rfl rfl)) rfl rfl rfl rfl)
  (p_one (p_if (PW.pt (t_or (t_not (t_val (c_ (Cs.c77) hr (a_cons stays_arg (u_ (by kernel_rfl)) (a_cons stays_arg (e_adat (v_ (by kernel_rfl))) a_nil rfl) rfl) rfl rfl rfl rfl) (fun _ => rfl))) (t_or (t_not (t_val (c_ (Cs.c78) hr (a_cons stays_arg (e_adat (v_ (by kernel_rfl))) (a_cons stays_arg (e_adat (v_ (by kernel_rfl))) a_nil rfl) rfl) rfl rfl rfl rfl) (fun _ => rfl))) (to1_ (t_not (t_val (c_ (Cs.c79) hr (a_cons stays_arg (u_ (by kernel_rfl)) a_nil rfl) rfl rfl rfl rfl) (fun _ => rfl))))))) (p_one (p_ret e_bl)) p_nil))) (fun _ => rfl))
  (p_one (p_ret (c_ (Cs.c81) hr (a_cons stays_arg (u_ (by kernel_rfl)) a_nil rfl) rfl rfl rfl rfl))))
end
end Wk
end
section
set_option Elab.async false
set_option linter.all false
set_option maxRecDepth 100000
set_option maxHeartbeats 4000000
namespace Wk
open PySem PySem.Spec PyProof.Rows L2 Se
theorem sc0 : FnScope N0 ["value", "low", "high"] (defScope (top 11)) := ⟨rfl, rfl, rfl, by decide +kernel, rfl, by decide +kernel, by decide +kernel⟩
theorem sc1 : FnScope N1 ["value", "low", "high"] (defScope (top 12)) := ⟨rfl, rfl, rfl, by decide +kernel, rfl, by decide +kernel, by decide +kernel⟩
theorem sc2 : FnScope N2 ["value", "low", "high"] (defScope (top 13)) := ⟨rfl, rfl, rfl, by decide +kernel, rfl, by decide +kernel, by decide +kernel⟩
theorem sc3 : FnScope N3 ["top", "bottom"] (defScope (top 15)) := ⟨rfl, rfl, rfl, by decide +kernel, rfl, by decide +kernel, by decide +kernel⟩
theorem sc4 : FnScope N4 ["value", "most"] (defScope (top 22)) := ⟨rfl, rfl, rfl, by decide +kernel, rfl, by decide +kernel, by decide +kernel⟩
theorem sc5 : FnScope N5 ["value", "most"] (defScope (top 23)) := ⟨rfl, rfl, rfl, by decide +kernel, rfl, by decide +kernel, by decide +kernel⟩
theorem sc6 : FnScope N6 ["swing"] (defScope (top 24)) := ⟨rfl, rfl, rfl, by decide +kernel, rfl, by decide +kernel, by decide +kernel⟩
theorem sc7 : FnScope N7 ["swing"] (defScope (top 25)) := ⟨rfl, rfl, rfl, by decide +kernel, rfl, by decide +kernel, by decide +kernel⟩
theorem sc8 : FnScope N8 ["parts"] (defScope (top 26)) := ⟨rfl, rfl, rfl, by decide +kernel, rfl, by decide +kernel, by decide +kernel⟩
theorem sc9 : FnScope N9 ["value", "most"] (defScope (top 27)) := ⟨rfl, rfl, rfl, by decide +kernel, rfl, by decide +kernel, by decide +kernel⟩
theorem sc10 : FnScope N10 ["value"] (defScope (top 28)) := ⟨rfl, rfl, rfl, by decide +kernel, rfl, by decide +kernel, by decide +kernel⟩
theorem sc11 : FnScope N11 ["one", "other"] (defScope (top 29)) := ⟨rfl, rfl, rfl, by decide +kernel, rfl, by decide +kernel, by decide +kernel⟩
theorem sc12 : FnScope N12 ["top", "bottom"] (defScope (top 30)) := ⟨rfl, rfl, rfl, by decide +kernel, rfl, by decide +kernel, by decide +kernel⟩
theorem sc13 : FnScope N13 ["swing", "place"] (defScope (top 31)) := ⟨rfl, rfl, rfl, by decide +kernel, rfl, by decide +kernel, by decide +kernel⟩
theorem sc14 : FnScope N14 ["one", "other"] (defScope (top 32)) := ⟨rfl, rfl, rfl, by decide +kernel, rfl, by decide +kernel, by decide +kernel⟩
theorem sc15 : FnScope N15 ["one", "other"] (defScope (top 33)) := ⟨rfl, rfl, rfl, by decide +kernel, rfl, by decide +kernel, by decide +kernel⟩
theorem sc16 : FnScope N16 ["swing"] (defScope (top 34)) := ⟨rfl, rfl, rfl, by decide +kernel, rfl, by decide +kernel, by decide +kernel⟩
theorem sc17 : FnScope N17 ["places"] (defScope (top 35)) := ⟨rfl, rfl, rfl, by decide +kernel, rfl, by decide +kernel, by decide +kernel⟩
theorem sc18 : FnScope N18 ["value"] (defScope (top 36)) := ⟨rfl, rfl, rfl, by decide +kernel, rfl, by decide +kernel, by decide +kernel⟩
theorem sc19 : FnScope N19 ["value"] (defScope (top 37)) := ⟨rfl, rfl, rfl, by decide +kernel, rfl, by decide +kernel, by decide +kernel⟩
theorem sc20 : FnScope N20 ["swing", "place"] (defScope (top 38)) := ⟨rfl, rfl, rfl, by decide +kernel, rfl, by decide +kernel, by decide +kernel⟩
theorem sc21 : FnScope N21 ["one", "other"] (defScope (top 39)) := ⟨rfl, rfl, rfl, by decide +kernel, rfl, by decide +kernel, by decide +kernel⟩
theorem sc22 : FnScope N22 ["swing"] (defScope (top 40)) := ⟨rfl, rfl, rfl, by decide +kernel, rfl, by decide +kernel, by decide +kernel⟩
theorem sc23 : FnScope N23 ["places", "images"] (defScope (top 41)) := ⟨rfl, rfl, rfl, by decide +kernel, rfl, by decide +kernel, by decide +kernel⟩
theorem sc24 : FnScope N24 ["swing"] (defScope (top 45)) := ⟨rfl, rfl, rfl, by decide +kernel, rfl, by decide +kernel, by decide +kernel⟩
theorem sc25 : FnScope N25 ["swing"] (defScope (top 46)) := ⟨rfl, rfl, rfl, by decide +kernel, rfl, by decide +kernel, by decide +kernel⟩
theorem sc26 : FnScope N26 ["swing"] (defScope (top 47)) := ⟨rfl, rfl, rfl, by decide +kernel, rfl, by decide +kernel, by decide +kernel⟩
theorem sc27 : FnScope N27 ["swing", "many"] (defScope (top 48)) := ⟨rfl, rfl, rfl, by decide +kernel, rfl, by decide +kernel, by decide +kernel⟩
theorem sc28 : FnScope N28 ["swing", "place", "many"] (defScope (top 49)) := ⟨rfl, rfl, rfl, by decide +kernel, rfl, by decide +kernel, by decide +kernel⟩
theorem sc29 : FnScope N29 ["value"] (defScope (top 52)) := ⟨rfl, rfl, rfl, by decide +kernel, rfl, by decide +kernel, by decide +kernel⟩
theorem sc30 : FnScope N30 ["value"] (defScope (top 53)) := ⟨rfl, rfl, rfl, by decide +kernel, rfl, by decide +kernel, by decide +kernel⟩
theorem sc31 : FnScope N31 ["value"] (defScope (top 54)) := ⟨rfl, rfl, rfl, by decide +kernel, rfl, by decide +kernel, by decide +kernel⟩
theorem sc32 : FnScope N32 ["value"] (defScope (top 55)) := ⟨rfl, rfl, rfl, by decide +kernel, rfl, by decide +kernel, by decide +kernel⟩
theorem sc33 : FnScope N33 ["one", "other"] (defScope (top 56)) := ⟨rfl, rfl, rfl, by decide +kernel, rfl, by decide +kernel, by decide +kernel⟩
theorem sc34 : FnScope N34 ["one", "other"] (defScope (top 57)) := ⟨rfl, rfl, rfl, by decide +kernel, rfl, by decide +kernel, by decide +kernel⟩
theorem sc35 : FnScope N35 ["value"] (defScope (top 60)) := ⟨rfl, rfl, rfl, by decide +kernel, rfl, by decide +kernel, by decide +kernel⟩
theorem sc36 : FnScope N36 ["value"] (defScope (top 64)) := ⟨rfl, rfl, rfl, by decide +kernel, rfl, by decide +kernel, by decide +kernel⟩
theorem sc37 : FnScope N37 ["lead"] (defScope (top 65)) := ⟨rfl, rfl, rfl, by decide +kernel, rfl, by decide +kernel, by decide +kernel⟩
theorem sc38 : FnScope N38 ["lead"] (defScope (top 66)) := ⟨rfl, rfl, rfl, by decide +kernel, rfl, by decide +kernel, by decide +kernel⟩
theorem sc39 : FnScope N39 ["lead", "point"] (defScope (top 67)) := ⟨rfl, rfl, rfl, by decide +kernel, rfl, by decide +kernel, by decide +kernel⟩
theorem sc40 : FnScope N40 ["line"] (defScope (top 68)) := ⟨rfl, rfl, rfl, by decide +kernel, rfl, by decide +kernel, by decide +kernel⟩
theorem sc41 : FnScope N41 ["lead"] (defScope (top 69)) := ⟨rfl, rfl, rfl, by decide +kernel, rfl, by decide +kernel, by decide +kernel⟩
theorem sc42 : FnScope N42 ["a", "b", "c"] (defScope (top 70)) := ⟨rfl, rfl, rfl, by decide +kernel, rfl, by decide +kernel, by decide +kernel⟩
theorem sc43 : FnScope N43 ["lead"] (defScope (top 71)) := ⟨rfl, rfl, rfl, by decide +kernel, rfl, by decide +kernel, by decide +kernel⟩
theorem sc44 : FnScope N44 ["lead"] (defScope (top 72)) := ⟨rfl, rfl, rfl, by decide +kernel, rfl, by decide +kernel, by decide +kernel⟩
theorem sc45 : FnScope N45 ["value"] (defScope (top 73)) := ⟨rfl, rfl, rfl, by decide +kernel, rfl, by decide +kernel, by decide +kernel⟩
theorem sc46 : FnScope N46 ["lead"] (defScope (top 74)) := ⟨rfl, rfl, rfl, by decide +kernel, rfl, by decide +kernel, by decide +kernel⟩
theorem sc47 : FnScope N47 ["lead", "point"] (defScope (top 75)) := ⟨rfl, rfl, rfl, by decide +kernel, rfl, by decide +kernel, by decide +kernel⟩
theorem sc48 : FnScope N48 ["lead"] (defScope (top 76)) := ⟨rfl, rfl, rfl, by decide +kernel, rfl, by decide +kernel, by decide +kernel⟩
theorem sc49 : FnScope N49 ["lead"] (defScope (top 77)) := ⟨rfl, rfl, rfl, by decide +kernel, rfl, by decide +kernel, by decide +kernel⟩
theorem sc50 : FnScope N50 ["one", "other"] (defScope (top 78)) := ⟨rfl, rfl, rfl, by decide +kernel, rfl, by decide +kernel, by decide +kernel⟩
theorem sc51 : FnScope N51 ["swing"] (defScope (top 80)) := ⟨rfl, rfl, rfl, by decide +kernel, rfl, by decide +kernel, by decide +kernel⟩
theorem sc52 : FnScope N52 ["swing"] (defScope (top 81)) := ⟨rfl, rfl, rfl, by decide +kernel, rfl, by decide +kernel, by decide +kernel⟩
theorem sc53 : FnScope N53 ["swing"] (defScope (top 82)) := ⟨rfl, rfl, rfl, by decide +kernel, rfl, by decide +kernel, by decide +kernel⟩
theorem sc54 : FnScope N54 ["swing"] (defScope (top 83)) := ⟨rfl, rfl, rfl, by decide +kernel, rfl, by decide +kernel, by decide +kernel⟩
theorem sc55 : FnScope N55 ["number"] (defScope (top 85)) := ⟨rfl, rfl, rfl, by decide +kernel, rfl, by decide +kernel, by decide +kernel⟩
theorem sc56 : FnScope N56 ["swing"] (defScope (top 86)) := ⟨rfl, rfl, rfl, by decide +kernel, rfl, by decide +kernel, by decide +kernel⟩
theorem sc57 : FnScope N57 ["one", "other"] (defScope (top 87)) := ⟨rfl, rfl, rfl, by decide +kernel, rfl, by decide +kernel, by decide +kernel⟩
theorem sc58 : FnScope N58 ["swing", "value"] (defScope (top 89)) := ⟨rfl, rfl, rfl, by decide +kernel, rfl, by decide +kernel, by decide +kernel⟩
theorem sc59 : FnScope N59 ["script"] (defScope (top 91)) := ⟨rfl, rfl, rfl, by decide +kernel, rfl, by decide +kernel, by decide +kernel⟩
theorem sc60 : FnScope N60 ["cup", "many"] (defScope (top 92)) := ⟨rfl, rfl, rfl, by decide +kernel, rfl, by decide +kernel, by decide +kernel⟩
theorem sc61 : FnScope N61 ["cup", "things"] (defScope (top 93)) := ⟨rfl, rfl, rfl, by decide +kernel, rfl, by decide +kernel, by decide +kernel⟩
theorem sc62 : FnScope N62 ["value"] (defScope (top 94)) := ⟨rfl, rfl, rfl, by decide +kernel, rfl, by decide +kernel, by decide +kernel⟩
theorem sc63 : FnScope N63 ["one", "other"] (defScope (top 95)) := ⟨rfl, rfl, rfl, by decide +kernel, rfl, by decide +kernel, by decide +kernel⟩
theorem sc64 : FnScope N64 ["value", "low", "high"] (defScope (top 96)) := ⟨rfl, rfl, rfl, by decide +kernel, rfl, by decide +kernel, by decide +kernel⟩
theorem sc65 : FnScope N65 ["one", "other"] (defScope (top 97)) := ⟨rfl, rfl, rfl, by decide +kernel, rfl, by decide +kernel, by decide +kernel⟩
theorem sc66 : FnScope N66 ["top", "bottom"] (defScope (top 98)) := ⟨rfl, rfl, rfl, by decide +kernel, rfl, by decide +kernel, by decide +kernel⟩
theorem sc67 : FnScope N67 ["parts"] (defScope (top 99)) := ⟨rfl, rfl, rfl, by decide +kernel, rfl, by decide +kernel, by decide +kernel⟩
theorem sc68 : FnScope N68 ["top", "bottom"] (defScope (top 100)) := ⟨rfl, rfl, rfl, by decide +kernel, rfl, by decide +kernel, by decide +kernel⟩
theorem sc69 : FnScope N69 ["value", "most"] (defScope (top 101)) := ⟨rfl, rfl, rfl, by decide +kernel, rfl, by decide +kernel, by decide +kernel⟩
theorem sc70 : FnScope N70 ["cup", "great"] (defScope (top 102)) := ⟨rfl, rfl, rfl, by decide +kernel, rfl, by decide +kernel, by decide +kernel⟩
theorem sc71 : FnScope N71 ["place"] (defScope (top 103)) := ⟨rfl, rfl, rfl, by decide +kernel, rfl, by decide +kernel, by decide +kernel⟩
theorem sc72 : FnScope N72 ["point"] (defScope (top 104)) := ⟨rfl, rfl, rfl, by decide +kernel, rfl, by decide +kernel, by decide +kernel⟩
theorem sc73 : FnScope N73 ["one", "other"] (defScope (top 105)) := ⟨rfl, rfl, rfl, by decide +kernel, rfl, by decide +kernel, by decide +kernel⟩
theorem sc74 : FnScope N74 ["cup", "great"] (defScope (top 106)) := ⟨rfl, rfl, rfl, by decide +kernel, rfl, by decide +kernel, by decide +kernel⟩
theorem sc75 : FnScope N75 ["cup", "many"] (defScope (top 107)) := ⟨rfl, rfl, rfl, by decide +kernel, rfl, by decide +kernel, by decide +kernel⟩
theorem sc76 : FnScope N76 ["lead"] (defScope (top 108)) := ⟨rfl, rfl, rfl, by decide +kernel, rfl, by decide +kernel, by decide +kernel⟩
theorem sc77 : FnScope N77 ["cup", "lead"] (defScope (top 109)) := ⟨rfl, rfl, rfl, by decide +kernel, rfl, by decide +kernel, by decide +kernel⟩
theorem sc78 : FnScope N78 ["one", "other"] (defScope (top 110)) := ⟨rfl, rfl, rfl, by decide +kernel, rfl, by decide +kernel, by decide +kernel⟩
theorem sc79 : FnScope N79 ["cup"] (defScope (top 111)) := ⟨rfl, rfl, rfl, by decide +kernel, rfl, by decide +kernel, by decide +kernel⟩
theorem sc80 : FnScope N80 ["one", "other"] (defScope (top 112)) := ⟨rfl, rfl, rfl, by decide +kernel, rfl, by decide +kernel, by decide +kernel⟩
theorem sc81 : FnScope N81 ["cup"] (defScope (top 113)) := ⟨rfl, rfl, rfl, by decide +kernel, rfl, by decide +kernel, by decide +kernel⟩
theorem sc82 : FnScope N82 ["script"] (defScope (top 114)) := ⟨rfl, rfl, rfl, by decide +kernel, rfl, by decide +kernel, by decide +kernel⟩
def bod (j : Nat) (cf : CF) : List Se.Arg → M PyData := match j with
  | 0 => runB F0 3 3 cf
  | 1 => runB F1 3 3 cf
  | 2 => runB F2 3 3 cf
  | 3 => runB F3 3 2 cf
  | 4 => runB F4 2 2 cf
  | 5 => runB F5 2 2 cf
  | 6 => runB F6 1 1 cf
  | 7 => runB F7 1 1 cf
  | 8 => runB F8 4 1 cf
  | 9 => runB F9 3 2 cf
  | 10 => runB F10 1 1 cf
  | 11 => runB F11 2 2 cf
  | 12 => runB F12 3 2 cf
  | 13 => runB F13 6 2 cf
  | 14 => runB F14 10 2 cf
  | 15 => runB F15 2 2 cf
  | 16 => runB F16 5 1 cf
  | 17 => runB F17 9 1 cf
  | 18 => runB F18 2 1 cf
  | 19 => runB F19 1 1 cf
  | 20 => runB F20 2 2 cf
  | 21 => runB F21 2 2 cf
  | 22 => runB F22 1 1 cf
  | 23 => runB F23 2 2 cf
  | 24 => runB F24 1 1 cf
  | 25 => runB F25 1 1 cf
  | 26 => runB F26 1 1 cf
  | 27 => runB F27 5 2 cf
  | 28 => runB F28 5 3 cf
  | 29 => runB F29 2 1 cf
  | 30 => runB F30 1 1 cf
  | 31 => runB F31 4 1 cf
  | 32 => runB F32 1 1 cf
  | 33 => runB F33 2 2 cf
  | 34 => runB F34 3 2 cf
  | 35 => runB F35 2 1 cf
  | 36 => runB F36 6 1 cf
  | 37 => runB F37 1 1 cf
  | 38 => runB F38 1 1 cf
  | 39 => runB F39 4 2 cf
  | 40 => runB F40 4 1 cf
  | 41 => runB F41 9 1 cf
  | 42 => runB F42 5 3 cf
  | 43 => runB F43 1 1 cf
  | 44 => runB F44 9 1 cf
  | 45 => runB F45 1 1 cf
  | 46 => runB F46 1 1 cf
  | 47 => runB F47 2 2 cf
  | 48 => runB F48 11 1 cf
  | 49 => runB F49 1 1 cf
  | 50 => runB F50 2 2 cf
  | 51 => runB F51 1 1 cf
  | 52 => runB F52 8 1 cf
  | 53 => runB F53 1 1 cf
  | 54 => runB F54 1 1 cf
  | 55 => runB F55 6 1 cf
  | 56 => runB F56 1 1 cf
  | 57 => runB F57 2 2 cf
  | 58 => runB F58 2 2 cf
  | 60 => runB F60 3 2 cf
  | 61 => runB F61 2 2 cf
  | 62 => runB F62 1 1 cf
  | 63 => runB F63 5 2 cf
  | 64 => runB F64 3 3 cf
  | 65 => runB F65 2 2 cf
  | 66 => runB F66 3 2 cf
  | 67 => runB F67 4 1 cf
  | 68 => runB F68 2 2 cf
  | 69 => runB F69 2 2 cf
  | 70 => runB F70 2 2 cf
  | 71 => runB F71 1 1 cf
  | 72 => runB F72 1 1 cf
  | 73 => runB F73 4 2 cf
  | 74 => runB F74 5 2 cf
  | 75 => runB F75 11 2 cf
  | 76 => runB F76 5 1 cf
  | 77 => runB F77 13 2 cf
  | 78 => runB F78 7 2 cf
  | 79 => runB F79 8 1 cf
  | 80 => runB F80 8 2 cf
  | 81 => runB F81 5 1 cf
  | _ => fun _ => M.of none
def runFn : Nat → CF
  | 0 => fun _ _ => M.of none
  | n + 1 => fun j => bod j (runFn n)
structure Dfs (K : PySem.W.Frag) (mg : Str → Option Value) : Prop where
  d0 : Dfn K mg "is_whole" "is_whole" (top 11)
  d1 : Dfn K mg "need_whole" "need_whole" (top 12)
  d2 : Dfn K mg "is_tuple_of" "is_tuple_of" (top 13)
  d3 : Dfn K mg "lowest" "lowest" (top 15)
  d4 : Dfn K mg "fits_place" "fits_place" (top 22)
  d5 : Dfn K mg "need_place" "need_place" (top 23)
  d6 : Dfn K mg "measure" "measure" (top 24)
  d7 : Dfn K mg "trace" "trace" (top 25)
  d8 : Dfn K mg "shortened" "shortened" (top 26)
  d9 : Dfn K mg "fits_swing" "fits_swing" (top 27)
  d10 : Dfn K mg "need_swing" "need_swing" (top 28)
  d11 : Dfn K mg "need_two" "need_two" (top 29)
  d12 : Dfn K mg "plain_place" "plain_place" (top 30)
  d13 : Dfn K mg "carried" "carried" (top 31)
  d14 : Dfn K mg "raw_product" "raw_product" (top 32)
  d15 : Dfn K mg "product" "product" (top 33)
  d16 : Dfn K mg "undone" "undone" (top 34)
  d17 : Dfn K mg "frame_of" "frame_of" (top 35)
  d18 : Dfn K mg "need_three" "need_three" (top 36)
  d19 : Dfn K mg "is_swing" "is_swing" (top 37)
  d20 : Dfn K mg "carried_place" "carried_place" (top 38)
  d21 : Dfn K mg "swings_together" "swings_together" (top 39)
  d22 : Dfn K mg "swing_back" "swing_back" (top 40)
  d23 : Dfn K mg "swing_through" "swing_through" (top 41)
  d24 : Dfn K mg "number_in" "number_in" (top 45)
  d25 : Dfn K mg "order_in" "order_in" (top 46)
  d26 : Dfn K mg "swing_order" "swing_order" (top 47)
  d27 : Dfn K mg "swing_power" "swing_power" (top 48)
  d28 : Dfn K mg "path_of" "path_of" (top 49)
  d29 : Dfn K mg "is_three" "is_three" (top 52)
  d30 : Dfn K mg "is_triple" "is_triple" (top 53)
  d31 : Dfn K mg "plainly" "plainly" (top 54)
  d32 : Dfn K mg "need_triple" "need_triple" (top 55)
  d33 : Dfn K mg "dot" "dot" (top 56)
  d34 : Dfn K mg "cross" "cross" (top 57)
  d35 : Dfn K mg "is_small" "is_small" (top 60)
  d36 : Dfn K mg "fits" "fits" (top 64)
  d37 : Dfn K mg "need_lead" "need_lead" (top 65)
  d38 : Dfn K mg "need_closed" "need_closed" (top 66)
  d39 : Dfn K mg "led" "led" (top 67)
  d40 : Dfn K mg "base_of" "base_of" (top 68)
  d41 : Dfn K mg "form_of" "form_of" (top 69)
  d42 : Dfn K mg "roots_of" "roots_of" (top 70)
  d43 : Dfn K mg "is_home" "is_home" (top 71)
  d44 : Dfn K mg "rounds_in" "rounds_in" (top 72)
  d45 : Dfn K mg "is_lead" "is_lead" (top 73)
  d46 : Dfn K mg "is_closed" "is_closed" (top 74)
  d47 : Dfn K mg "led_by" "led_by" (top 75)
  d48 : Dfn K mg "kept_points" "kept_points" (top 76)
  d49 : Dfn K mg "rounds_to_home" "rounds_to_home" (top 77)
  d50 : Dfn K mg "joined_leads" "joined_leads" (top 78)
  d51 : Dfn K mg "gauge" "gauge" (top 80)
  d52 : Dfn K mg "fixed_in" "fixed_in" (top 81)
  d53 : Dfn K mg "gauge_of" "gauge_of" (top 82)
  d54 : Dfn K mg "fixed_places" "fixed_places" (top 83)
  d55 : Dfn K mg "bare" "bare" (top 85)
  d56 : Dfn K mg "shape_in" "shape_in" (top 86)
  d57 : Dfn K mg "are_swings_alike" "are_swings_alike" (top 87)
  d58 : Dfn K mg "does_turn_back" "does_turn_back" (top 89)
  d60 : Dfn K mg "_law_roll" "_law_roll" (top 92)
  d61 : Dfn K mg "_law_some" "_law_some" (top 93)
  d62 : Dfn K mg "_law_sort" "_law_sort" (top 94)
  d63 : Dfn K mg "_law_like" "_law_like" (top 95)
  d64 : Dfn K mg "_law_is_number" "_law_is_number" (top 96)
  d65 : Dfn K mg "_law_gcd" "_law_gcd" (top 97)
  d66 : Dfn K mg "_law_low" "_law_low" (top 98)
  d67 : Dfn K mg "_law_short" "_law_short" (top 99)
  d68 : Dfn K mg "_law_at" "_law_at" (top 100)
  d69 : Dfn K mg "_law_is_place" "_law_is_place" (top 101)
  d70 : Dfn K mg "_law_spot" "_law_spot" (top 102)
  d71 : Dfn K mg "_law_point" "_law_point" (top 103)
  d72 : Dfn K mg "_law_place_of" "_law_place_of" (top 104)
  d73 : Dfn K mg "_law_dot" "_law_dot" (top 105)
  d74 : Dfn K mg "_law_triple" "_law_triple" (top 106)
  d75 : Dfn K mg "_law_lead" "_law_lead" (top 107)
  d76 : Dfn K mg "_law_swing_of" "_law_swing_of" (top 108)
  d77 : Dfn K mg "_law_right" "_law_right" (top 109)
  d78 : Dfn K mg "_law_both_right" "_law_both_right" (top 110)
  d79 : Dfn K mg "_law_perspective_right" "_law_perspective_right" (top 111)
  d80 : Dfn K mg "_law_cross_of" "_law_cross_of" (top 112)
  d81 : Dfn K mg "_law_written_right" "_law_written_right" (top 113)
section
variable {P : Program} {w : World} {K : PySem.W.Frag} {mg : Str → Option Value} {base : Heap}
theorem cz0 (D : Dfn K mg "is_whole" "is_whole" (top 11)) : Cal P w K mg base 1 "is_whole" ["value", "low", "high"] (runFn 0 0) :=
  let ⟨f, fd, F, g⟩ := D.ex
  ⟨f, fd, fn_no F sc0 (fun _ _ => rfl), g, F.kp, F.bindsN fun _ _ _ _ _ _ us hl => match us, hl with | [_, _, _], _ => rfl⟩
theorem rn0 (n : Nat) : runFn (n + 1) 0 = runB F0 N0.length (List.length ["value", "low", "high"]) (runFn n) := by kernel_rfl
theorem cy0 {n : Nat} (M : Ms K mg) (Cs : ∀ base, Css P w K mg base (n + 1) (runFn n)) (D : Dfn K mg "is_whole" "is_whole" (top 11)) : Cal P w K mg base (n + 2) "is_whole" ["value", "low", "high"] (runFn (n + 1) 0) := by
  rw [rn0 n]
  exact let ⟨f, fd, F, g⟩ := D.ex
    ⟨f, fd, fn_ok (Fi := F0) F sc0 (fun cdv A outer s H E c H0 Z0 hr z0 => P0 M (Cs base) hr z0), g, F.kp, F.bindsN fun _ _ _ _ _ _ us hl => match us, hl with | [_, _, _], _ => rfl⟩
theorem cz1 (D : Dfn K mg "need_whole" "need_whole" (top 12)) : Cal P w K mg base 1 "need_whole" ["value", "low", "high"] (runFn 0 1) :=
  let ⟨f, fd, F, g⟩ := D.ex
  ⟨f, fd, fn_no F sc1 (fun _ _ => rfl), g, F.kp, F.bindsN fun _ _ _ _ _ _ us hl => match us, hl with | [_, _, _], _ => rfl⟩
theorem rn1 (n : Nat) : runFn (n + 1) 1 = runB F1 N1.length (List.length ["value", "low", "high"]) (runFn n) := by kernel_rfl
theorem cy1 {n : Nat} (M : Ms K mg) (Cs : ∀ base, Css P w K mg base (n + 1) (runFn n)) (D : Dfn K mg "need_whole" "need_whole" (top 12)) : Cal P w K mg base (n + 2) "need_whole" ["value", "low", "high"] (runFn (n + 1) 1) := by
  rw [rn1 n]
  exact let ⟨f, fd, F, g⟩ := D.ex
    ⟨f, fd, fn_ok (Fi := F1) F sc1 (fun cdv A outer s H E c H0 Z0 hr z0 => P1 M (Cs base) hr z0), g, F.kp, F.bindsN fun _ _ _ _ _ _ us hl => match us, hl with | [_, _, _], _ => rfl⟩
theorem cz2 (D : Dfn K mg "is_tuple_of" "is_tuple_of" (top 13)) : Cal P w K mg base 1 "is_tuple_of" ["value", "low", "high"] (runFn 0 2) :=
  let ⟨f, fd, F, g⟩ := D.ex
  ⟨f, fd, fn_no F sc2 (fun _ _ => rfl), g, F.kp, F.bindsN fun _ _ _ _ _ _ us hl => match us, hl with | [_, _, _], _ => rfl⟩
theorem rn2 (n : Nat) : runFn (n + 1) 2 = runB F2 N2.length (List.length ["value", "low", "high"]) (runFn n) := by kernel_rfl
theorem cy2 {n : Nat} (M : Ms K mg) (Cs : ∀ base, Css P w K mg base (n + 1) (runFn n)) (D : Dfn K mg "is_tuple_of" "is_tuple_of" (top 13)) : Cal P w K mg base (n + 2) "is_tuple_of" ["value", "low", "high"] (runFn (n + 1) 2) := by
  rw [rn2 n]
  exact let ⟨f, fd, F, g⟩ := D.ex
    ⟨f, fd, fn_ok (Fi := F2) F sc2 (fun cdv A outer s H E c H0 Z0 hr z0 => P2 M (Cs base) hr z0), g, F.kp, F.bindsN fun _ _ _ _ _ _ us hl => match us, hl with | [_, _, _], _ => rfl⟩
theorem cz3 (D : Dfn K mg "lowest" "lowest" (top 15)) : Cal P w K mg base 1 "lowest" ["top", "bottom"] (runFn 0 3) :=
  let ⟨f, fd, F, g⟩ := D.ex
  ⟨f, fd, fn_no F sc3 (fun _ _ => rfl), g, F.kp, F.bindsN fun _ _ _ _ _ _ us hl => match us, hl with | [_, _], _ => rfl⟩
theorem rn3 (n : Nat) : runFn (n + 1) 3 = runB F3 N3.length (List.length ["top", "bottom"]) (runFn n) := by kernel_rfl
theorem cy3 {n : Nat} (M : Ms K mg) (Cs : ∀ base, Css P w K mg base (n + 1) (runFn n)) (D : Dfn K mg "lowest" "lowest" (top 15)) : Cal P w K mg base (n + 2) "lowest" ["top", "bottom"] (runFn (n + 1) 3) := by
  rw [rn3 n]
  exact let ⟨f, fd, F, g⟩ := D.ex
    ⟨f, fd, fn_ok (Fi := F3) F sc3 (fun cdv A outer s H E c H0 Z0 hr z0 => P3 M (Cs base) hr z0), g, F.kp, F.bindsN fun _ _ _ _ _ _ us hl => match us, hl with | [_, _], _ => rfl⟩
theorem cz4 (D : Dfn K mg "fits_place" "fits_place" (top 22)) : Cal P w K mg base 1 "fits_place" ["value", "most"] (runFn 0 4) :=
  let ⟨f, fd, F, g⟩ := D.ex
  ⟨f, fd, fn_no F sc4 (fun _ _ => rfl), g, F.kp, F.bindsN fun _ _ _ _ _ _ us hl => match us, hl with | [_, _], _ => rfl⟩
theorem rn4 (n : Nat) : runFn (n + 1) 4 = runB F4 N4.length (List.length ["value", "most"]) (runFn n) := by kernel_rfl
theorem cy4 {n : Nat} (M : Ms K mg) (Cs : ∀ base, Css P w K mg base (n + 1) (runFn n)) (D : Dfn K mg "fits_place" "fits_place" (top 22)) : Cal P w K mg base (n + 2) "fits_place" ["value", "most"] (runFn (n + 1) 4) := by
  rw [rn4 n]
  exact let ⟨f, fd, F, g⟩ := D.ex
    ⟨f, fd, fn_ok (Fi := F4) F sc4 (fun cdv A outer s H E c H0 Z0 hr z0 => P4 M (Cs base) hr z0), g, F.kp, F.bindsN fun _ _ _ _ _ _ us hl => match us, hl with | [_, _], _ => rfl⟩
theorem cz5 (D : Dfn K mg "need_place" "need_place" (top 23)) : Cal P w K mg base 1 "need_place" ["value", "most"] (runFn 0 5) :=
  let ⟨f, fd, F, g⟩ := D.ex
  ⟨f, fd, fn_no F sc5 (fun _ _ => rfl), g, F.kp, F.bindsN fun _ _ _ _ _ _ us hl => match us, hl with | [_, _], _ => rfl⟩
theorem rn5 (n : Nat) : runFn (n + 1) 5 = runB F5 N5.length (List.length ["value", "most"]) (runFn n) := by kernel_rfl
theorem cy5 {n : Nat} (M : Ms K mg) (Cs : ∀ base, Css P w K mg base (n + 1) (runFn n)) (D : Dfn K mg "need_place" "need_place" (top 23)) : Cal P w K mg base (n + 2) "need_place" ["value", "most"] (runFn (n + 1) 5) := by
  rw [rn5 n]
  exact let ⟨f, fd, F, g⟩ := D.ex
    ⟨f, fd, fn_ok (Fi := F5) F sc5 (fun cdv A outer s H E c H0 Z0 hr z0 => P5 M (Cs base) hr z0), g, F.kp, F.bindsN fun _ _ _ _ _ _ us hl => match us, hl with | [_, _], _ => rfl⟩
theorem cz6 (D : Dfn K mg "measure" "measure" (top 24)) : Cal P w K mg base 1 "measure" ["swing"] (runFn 0 6) :=
  let ⟨f, fd, F, g⟩ := D.ex
  ⟨f, fd, fn_no F sc6 (fun _ _ => rfl), g, F.kp, F.bindsN fun _ _ _ _ _ _ us hl => match us, hl with | [_], _ => rfl⟩
theorem rn6 (n : Nat) : runFn (n + 1) 6 = runB F6 N6.length (List.length ["swing"]) (runFn n) := by kernel_rfl
theorem cy6 {n : Nat} (M : Ms K mg) (Cs : ∀ base, Css P w K mg base (n + 1) (runFn n)) (D : Dfn K mg "measure" "measure" (top 24)) : Cal P w K mg base (n + 2) "measure" ["swing"] (runFn (n + 1) 6) := by
  rw [rn6 n]
  exact let ⟨f, fd, F, g⟩ := D.ex
    ⟨f, fd, fn_ok (Fi := F6) F sc6 (fun cdv A outer s H E c H0 Z0 hr z0 => P6 M (Cs base) hr z0), g, F.kp, F.bindsN fun _ _ _ _ _ _ us hl => match us, hl with | [_], _ => rfl⟩
theorem cz7 (D : Dfn K mg "trace" "trace" (top 25)) : Cal P w K mg base 1 "trace" ["swing"] (runFn 0 7) :=
  let ⟨f, fd, F, g⟩ := D.ex
  ⟨f, fd, fn_no F sc7 (fun _ _ => rfl), g, F.kp, F.bindsN fun _ _ _ _ _ _ us hl => match us, hl with | [_], _ => rfl⟩
theorem rn7 (n : Nat) : runFn (n + 1) 7 = runB F7 N7.length (List.length ["swing"]) (runFn n) := by kernel_rfl
theorem cy7 {n : Nat} (M : Ms K mg) (Cs : ∀ base, Css P w K mg base (n + 1) (runFn n)) (D : Dfn K mg "trace" "trace" (top 25)) : Cal P w K mg base (n + 2) "trace" ["swing"] (runFn (n + 1) 7) := by
  rw [rn7 n]
  exact let ⟨f, fd, F, g⟩ := D.ex
    ⟨f, fd, fn_ok (Fi := F7) F sc7 (fun cdv A outer s H E c H0 Z0 hr z0 => P7 M (Cs base) hr z0), g, F.kp, F.bindsN fun _ _ _ _ _ _ us hl => match us, hl with | [_], _ => rfl⟩
theorem cz8 (D : Dfn K mg "shortened" "shortened" (top 26)) : Cal P w K mg base 1 "shortened" ["parts"] (runFn 0 8) :=
  let ⟨f, fd, F, g⟩ := D.ex
  ⟨f, fd, fn_no F sc8 (fun _ _ => rfl), g, F.kp, F.bindsN fun _ _ _ _ _ _ us hl => match us, hl with | [_], _ => rfl⟩
theorem rn8 (n : Nat) : runFn (n + 1) 8 = runB F8 N8.length (List.length ["parts"]) (runFn n) := by kernel_rfl
theorem cy8 {n : Nat} (M : Ms K mg) (Cs : ∀ base, Css P w K mg base (n + 1) (runFn n)) (D : Dfn K mg "shortened" "shortened" (top 26)) : Cal P w K mg base (n + 2) "shortened" ["parts"] (runFn (n + 1) 8) := by
  rw [rn8 n]
  exact let ⟨f, fd, F, g⟩ := D.ex
    ⟨f, fd, fn_ok (Fi := F8) F sc8 (fun cdv A outer s H E c H0 Z0 hr z0 => P8 M (Cs base) hr z0), g, F.kp, F.bindsN fun _ _ _ _ _ _ us hl => match us, hl with | [_], _ => rfl⟩
theorem cz9 (D : Dfn K mg "fits_swing" "fits_swing" (top 27)) : Cal P w K mg base 1 "fits_swing" ["value", "most"] (runFn 0 9) :=
  let ⟨f, fd, F, g⟩ := D.ex
  ⟨f, fd, fn_no F sc9 (fun _ _ => rfl), g, F.kp, F.bindsN fun _ _ _ _ _ _ us hl => match us, hl with | [_, _], _ => rfl⟩
theorem rn9 (n : Nat) : runFn (n + 1) 9 = runB F9 N9.length (List.length ["value", "most"]) (runFn n) := by kernel_rfl
theorem cy9 {n : Nat} (M : Ms K mg) (Cs : ∀ base, Css P w K mg base (n + 1) (runFn n)) (D : Dfn K mg "fits_swing" "fits_swing" (top 27)) : Cal P w K mg base (n + 2) "fits_swing" ["value", "most"] (runFn (n + 1) 9) := by
  rw [rn9 n]
  exact let ⟨f, fd, F, g⟩ := D.ex
    ⟨f, fd, fn_ok (Fi := F9) F sc9 (fun cdv A outer s H E c H0 Z0 hr z0 => P9 M (Cs base) hr z0), g, F.kp, F.bindsN fun _ _ _ _ _ _ us hl => match us, hl with | [_, _], _ => rfl⟩
theorem cz10 (D : Dfn K mg "need_swing" "need_swing" (top 28)) : Cal P w K mg base 1 "need_swing" ["value"] (runFn 0 10) :=
  let ⟨f, fd, F, g⟩ := D.ex
  ⟨f, fd, fn_no F sc10 (fun _ _ => rfl), g, F.kp, F.bindsN fun _ _ _ _ _ _ us hl => match us, hl with | [_], _ => rfl⟩
theorem rn10 (n : Nat) : runFn (n + 1) 10 = runB F10 N10.length (List.length ["value"]) (runFn n) := by kernel_rfl
theorem cy10 {n : Nat} (M : Ms K mg) (Cs : ∀ base, Css P w K mg base (n + 1) (runFn n)) (D : Dfn K mg "need_swing" "need_swing" (top 28)) : Cal P w K mg base (n + 2) "need_swing" ["value"] (runFn (n + 1) 10) := by
  rw [rn10 n]
  exact let ⟨f, fd, F, g⟩ := D.ex
    ⟨f, fd, fn_ok (Fi := F10) F sc10 (fun cdv A outer s H E c H0 Z0 hr z0 => P10 M (Cs base) hr z0), g, F.kp, F.bindsN fun _ _ _ _ _ _ us hl => match us, hl with | [_], _ => rfl⟩
theorem cz11 (D : Dfn K mg "need_two" "need_two" (top 29)) : Cal P w K mg base 1 "need_two" ["one", "other"] (runFn 0 11) :=
  let ⟨f, fd, F, g⟩ := D.ex
  ⟨f, fd, fn_no F sc11 (fun _ _ => rfl), g, F.kp, F.bindsN fun _ _ _ _ _ _ us hl => match us, hl with | [_, _], _ => rfl⟩
theorem rn11 (n : Nat) : runFn (n + 1) 11 = runB F11 N11.length (List.length ["one", "other"]) (runFn n) := by kernel_rfl
theorem cy11 {n : Nat} (M : Ms K mg) (Cs : ∀ base, Css P w K mg base (n + 1) (runFn n)) (D : Dfn K mg "need_two" "need_two" (top 29)) : Cal P w K mg base (n + 2) "need_two" ["one", "other"] (runFn (n + 1) 11) := by
  rw [rn11 n]
  exact let ⟨f, fd, F, g⟩ := D.ex
    ⟨f, fd, fn_ok (Fi := F11) F sc11 (fun cdv A outer s H E c H0 Z0 hr z0 => P11 M (Cs base) hr z0), g, F.kp, F.bindsN fun _ _ _ _ _ _ us hl => match us, hl with | [_, _], _ => rfl⟩
theorem cz12 (D : Dfn K mg "plain_place" "plain_place" (top 30)) : Cal P w K mg base 1 "plain_place" ["top", "bottom"] (runFn 0 12) :=
  let ⟨f, fd, F, g⟩ := D.ex
  ⟨f, fd, fn_no F sc12 (fun _ _ => rfl), g, F.kp, F.bindsN fun _ _ _ _ _ _ us hl => match us, hl with | [_, _], _ => rfl⟩
theorem rn12 (n : Nat) : runFn (n + 1) 12 = runB F12 N12.length (List.length ["top", "bottom"]) (runFn n) := by kernel_rfl
theorem cy12 {n : Nat} (M : Ms K mg) (Cs : ∀ base, Css P w K mg base (n + 1) (runFn n)) (D : Dfn K mg "plain_place" "plain_place" (top 30)) : Cal P w K mg base (n + 2) "plain_place" ["top", "bottom"] (runFn (n + 1) 12) := by
  rw [rn12 n]
  exact let ⟨f, fd, F, g⟩ := D.ex
    ⟨f, fd, fn_ok (Fi := F12) F sc12 (fun cdv A outer s H E c H0 Z0 hr z0 => P12 M (Cs base) hr z0), g, F.kp, F.bindsN fun _ _ _ _ _ _ us hl => match us, hl with | [_, _], _ => rfl⟩
theorem cz13 (D : Dfn K mg "carried" "carried" (top 31)) : Cal P w K mg base 1 "carried" ["swing", "place"] (runFn 0 13) :=
  let ⟨f, fd, F, g⟩ := D.ex
  ⟨f, fd, fn_no F sc13 (fun _ _ => rfl), g, F.kp, F.bindsN fun _ _ _ _ _ _ us hl => match us, hl with | [_, _], _ => rfl⟩
theorem rn13 (n : Nat) : runFn (n + 1) 13 = runB F13 N13.length (List.length ["swing", "place"]) (runFn n) := by kernel_rfl
theorem cy13 {n : Nat} (M : Ms K mg) (Cs : ∀ base, Css P w K mg base (n + 1) (runFn n)) (D : Dfn K mg "carried" "carried" (top 31)) : Cal P w K mg base (n + 2) "carried" ["swing", "place"] (runFn (n + 1) 13) := by
  rw [rn13 n]
  exact let ⟨f, fd, F, g⟩ := D.ex
    ⟨f, fd, fn_ok (Fi := F13) F sc13 (fun cdv A outer s H E c H0 Z0 hr z0 => P13 M (Cs base) hr z0), g, F.kp, F.bindsN fun _ _ _ _ _ _ us hl => match us, hl with | [_, _], _ => rfl⟩
theorem cz14 (D : Dfn K mg "raw_product" "raw_product" (top 32)) : Cal P w K mg base 1 "raw_product" ["one", "other"] (runFn 0 14) :=
  let ⟨f, fd, F, g⟩ := D.ex
  ⟨f, fd, fn_no F sc14 (fun _ _ => rfl), g, F.kp, F.bindsN fun _ _ _ _ _ _ us hl => match us, hl with | [_, _], _ => rfl⟩
theorem rn14 (n : Nat) : runFn (n + 1) 14 = runB F14 N14.length (List.length ["one", "other"]) (runFn n) := by kernel_rfl
theorem cy14 {n : Nat} (M : Ms K mg) (Cs : ∀ base, Css P w K mg base (n + 1) (runFn n)) (D : Dfn K mg "raw_product" "raw_product" (top 32)) : Cal P w K mg base (n + 2) "raw_product" ["one", "other"] (runFn (n + 1) 14) := by
  rw [rn14 n]
  exact let ⟨f, fd, F, g⟩ := D.ex
    ⟨f, fd, fn_ok (Fi := F14) F sc14 (fun cdv A outer s H E c H0 Z0 hr z0 => P14 M (Cs base) hr z0), g, F.kp, F.bindsN fun _ _ _ _ _ _ us hl => match us, hl with | [_, _], _ => rfl⟩
theorem cz15 (D : Dfn K mg "product" "product" (top 33)) : Cal P w K mg base 1 "product" ["one", "other"] (runFn 0 15) :=
  let ⟨f, fd, F, g⟩ := D.ex
  ⟨f, fd, fn_no F sc15 (fun _ _ => rfl), g, F.kp, F.bindsN fun _ _ _ _ _ _ us hl => match us, hl with | [_, _], _ => rfl⟩
theorem rn15 (n : Nat) : runFn (n + 1) 15 = runB F15 N15.length (List.length ["one", "other"]) (runFn n) := by kernel_rfl
theorem cy15 {n : Nat} (M : Ms K mg) (Cs : ∀ base, Css P w K mg base (n + 1) (runFn n)) (D : Dfn K mg "product" "product" (top 33)) : Cal P w K mg base (n + 2) "product" ["one", "other"] (runFn (n + 1) 15) := by
  rw [rn15 n]
  exact let ⟨f, fd, F, g⟩ := D.ex
    ⟨f, fd, fn_ok (Fi := F15) F sc15 (fun cdv A outer s H E c H0 Z0 hr z0 => P15 M (Cs base) hr z0), g, F.kp, F.bindsN fun _ _ _ _ _ _ us hl => match us, hl with | [_, _], _ => rfl⟩
theorem cz16 (D : Dfn K mg "undone" "undone" (top 34)) : Cal P w K mg base 1 "undone" ["swing"] (runFn 0 16) :=
  let ⟨f, fd, F, g⟩ := D.ex
  ⟨f, fd, fn_no F sc16 (fun _ _ => rfl), g, F.kp, F.bindsN fun _ _ _ _ _ _ us hl => match us, hl with | [_], _ => rfl⟩
theorem rn16 (n : Nat) : runFn (n + 1) 16 = runB F16 N16.length (List.length ["swing"]) (runFn n) := by kernel_rfl
theorem cy16 {n : Nat} (M : Ms K mg) (Cs : ∀ base, Css P w K mg base (n + 1) (runFn n)) (D : Dfn K mg "undone" "undone" (top 34)) : Cal P w K mg base (n + 2) "undone" ["swing"] (runFn (n + 1) 16) := by
  rw [rn16 n]
  exact let ⟨f, fd, F, g⟩ := D.ex
    ⟨f, fd, fn_ok (Fi := F16) F sc16 (fun cdv A outer s H E c H0 Z0 hr z0 => P16 M (Cs base) hr z0), g, F.kp, F.bindsN fun _ _ _ _ _ _ us hl => match us, hl with | [_], _ => rfl⟩
theorem cz17 (D : Dfn K mg "frame_of" "frame_of" (top 35)) : Cal P w K mg base 1 "frame_of" ["places"] (runFn 0 17) :=
  let ⟨f, fd, F, g⟩ := D.ex
  ⟨f, fd, fn_no F sc17 (fun _ _ => rfl), g, F.kp, F.bindsN fun _ _ _ _ _ _ us hl => match us, hl with | [_], _ => rfl⟩
theorem rn17 (n : Nat) : runFn (n + 1) 17 = runB F17 N17.length (List.length ["places"]) (runFn n) := by kernel_rfl
theorem cy17 {n : Nat} (M : Ms K mg) (Cs : ∀ base, Css P w K mg base (n + 1) (runFn n)) (D : Dfn K mg "frame_of" "frame_of" (top 35)) : Cal P w K mg base (n + 2) "frame_of" ["places"] (runFn (n + 1) 17) := by
  rw [rn17 n]
  exact let ⟨f, fd, F, g⟩ := D.ex
    ⟨f, fd, fn_ok (Fi := F17) F sc17 (fun cdv A outer s H E c H0 Z0 hr z0 => P17 M (Cs base) hr z0), g, F.kp, F.bindsN fun _ _ _ _ _ _ us hl => match us, hl with | [_], _ => rfl⟩
theorem cz18 (D : Dfn K mg "need_three" "need_three" (top 36)) : Cal P w K mg base 1 "need_three" ["value"] (runFn 0 18) :=
  let ⟨f, fd, F, g⟩ := D.ex
  ⟨f, fd, fn_no F sc18 (fun _ _ => rfl), g, F.kp, F.bindsN fun _ _ _ _ _ _ us hl => match us, hl with | [_], _ => rfl⟩
theorem rn18 (n : Nat) : runFn (n + 1) 18 = runB F18 N18.length (List.length ["value"]) (runFn n) := by kernel_rfl
theorem cy18 {n : Nat} (M : Ms K mg) (Cs : ∀ base, Css P w K mg base (n + 1) (runFn n)) (D : Dfn K mg "need_three" "need_three" (top 36)) : Cal P w K mg base (n + 2) "need_three" ["value"] (runFn (n + 1) 18) := by
  rw [rn18 n]
  exact let ⟨f, fd, F, g⟩ := D.ex
    ⟨f, fd, fn_ok (Fi := F18) F sc18 (fun cdv A outer s H E c H0 Z0 hr z0 => P18 M (Cs base) hr z0), g, F.kp, F.bindsN fun _ _ _ _ _ _ us hl => match us, hl with | [_], _ => rfl⟩
theorem cz19 (D : Dfn K mg "is_swing" "is_swing" (top 37)) : Cal P w K mg base 1 "is_swing" ["value"] (runFn 0 19) :=
  let ⟨f, fd, F, g⟩ := D.ex
  ⟨f, fd, fn_no F sc19 (fun _ _ => rfl), g, F.kp, F.bindsN fun _ _ _ _ _ _ us hl => match us, hl with | [_], _ => rfl⟩
theorem rn19 (n : Nat) : runFn (n + 1) 19 = runB F19 N19.length (List.length ["value"]) (runFn n) := by kernel_rfl
theorem cy19 {n : Nat} (M : Ms K mg) (Cs : ∀ base, Css P w K mg base (n + 1) (runFn n)) (D : Dfn K mg "is_swing" "is_swing" (top 37)) : Cal P w K mg base (n + 2) "is_swing" ["value"] (runFn (n + 1) 19) := by
  rw [rn19 n]
  exact let ⟨f, fd, F, g⟩ := D.ex
    ⟨f, fd, fn_ok (Fi := F19) F sc19 (fun cdv A outer s H E c H0 Z0 hr z0 => P19 M (Cs base) hr z0), g, F.kp, F.bindsN fun _ _ _ _ _ _ us hl => match us, hl with | [_], _ => rfl⟩
theorem cz20 (D : Dfn K mg "carried_place" "carried_place" (top 38)) : Cal P w K mg base 1 "carried_place" ["swing", "place"] (runFn 0 20) :=
  let ⟨f, fd, F, g⟩ := D.ex
  ⟨f, fd, fn_no F sc20 (fun _ _ => rfl), g, F.kp, F.bindsN fun _ _ _ _ _ _ us hl => match us, hl with | [_, _], _ => rfl⟩
theorem rn20 (n : Nat) : runFn (n + 1) 20 = runB F20 N20.length (List.length ["swing", "place"]) (runFn n) := by kernel_rfl
theorem cy20 {n : Nat} (M : Ms K mg) (Cs : ∀ base, Css P w K mg base (n + 1) (runFn n)) (D : Dfn K mg "carried_place" "carried_place" (top 38)) : Cal P w K mg base (n + 2) "carried_place" ["swing", "place"] (runFn (n + 1) 20) := by
  rw [rn20 n]
  exact let ⟨f, fd, F, g⟩ := D.ex
    ⟨f, fd, fn_ok (Fi := F20) F sc20 (fun cdv A outer s H E c H0 Z0 hr z0 => P20 M (Cs base) hr z0), g, F.kp, F.bindsN fun _ _ _ _ _ _ us hl => match us, hl with | [_, _], _ => rfl⟩
theorem cz21 (D : Dfn K mg "swings_together" "swings_together" (top 39)) : Cal P w K mg base 1 "swings_together" ["one", "other"] (runFn 0 21) :=
  let ⟨f, fd, F, g⟩ := D.ex
  ⟨f, fd, fn_no F sc21 (fun _ _ => rfl), g, F.kp, F.bindsN fun _ _ _ _ _ _ us hl => match us, hl with | [_, _], _ => rfl⟩
theorem rn21 (n : Nat) : runFn (n + 1) 21 = runB F21 N21.length (List.length ["one", "other"]) (runFn n) := by kernel_rfl
theorem cy21 {n : Nat} (M : Ms K mg) (Cs : ∀ base, Css P w K mg base (n + 1) (runFn n)) (D : Dfn K mg "swings_together" "swings_together" (top 39)) : Cal P w K mg base (n + 2) "swings_together" ["one", "other"] (runFn (n + 1) 21) := by
  rw [rn21 n]
  exact let ⟨f, fd, F, g⟩ := D.ex
    ⟨f, fd, fn_ok (Fi := F21) F sc21 (fun cdv A outer s H E c H0 Z0 hr z0 => P21 M (Cs base) hr z0), g, F.kp, F.bindsN fun _ _ _ _ _ _ us hl => match us, hl with | [_, _], _ => rfl⟩
theorem cz22 (D : Dfn K mg "swing_back" "swing_back" (top 40)) : Cal P w K mg base 1 "swing_back" ["swing"] (runFn 0 22) :=
  let ⟨f, fd, F, g⟩ := D.ex
  ⟨f, fd, fn_no F sc22 (fun _ _ => rfl), g, F.kp, F.bindsN fun _ _ _ _ _ _ us hl => match us, hl with | [_], _ => rfl⟩
theorem rn22 (n : Nat) : runFn (n + 1) 22 = runB F22 N22.length (List.length ["swing"]) (runFn n) := by kernel_rfl
theorem cy22 {n : Nat} (M : Ms K mg) (Cs : ∀ base, Css P w K mg base (n + 1) (runFn n)) (D : Dfn K mg "swing_back" "swing_back" (top 40)) : Cal P w K mg base (n + 2) "swing_back" ["swing"] (runFn (n + 1) 22) := by
  rw [rn22 n]
  exact let ⟨f, fd, F, g⟩ := D.ex
    ⟨f, fd, fn_ok (Fi := F22) F sc22 (fun cdv A outer s H E c H0 Z0 hr z0 => P22 M (Cs base) hr z0), g, F.kp, F.bindsN fun _ _ _ _ _ _ us hl => match us, hl with | [_], _ => rfl⟩
theorem cz23 (D : Dfn K mg "swing_through" "swing_through" (top 41)) : Cal P w K mg base 1 "swing_through" ["places", "images"] (runFn 0 23) :=
  let ⟨f, fd, F, g⟩ := D.ex
  ⟨f, fd, fn_no F sc23 (fun _ _ => rfl), g, F.kp, F.bindsN fun _ _ _ _ _ _ us hl => match us, hl with | [_, _], _ => rfl⟩
theorem rn23 (n : Nat) : runFn (n + 1) 23 = runB F23 N23.length (List.length ["places", "images"]) (runFn n) := by kernel_rfl
theorem cy23 {n : Nat} (M : Ms K mg) (Cs : ∀ base, Css P w K mg base (n + 1) (runFn n)) (D : Dfn K mg "swing_through" "swing_through" (top 41)) : Cal P w K mg base (n + 2) "swing_through" ["places", "images"] (runFn (n + 1) 23) := by
  rw [rn23 n]
  exact let ⟨f, fd, F, g⟩ := D.ex
    ⟨f, fd, fn_ok (Fi := F23) F sc23 (fun cdv A outer s H E c H0 Z0 hr z0 => P23 M (Cs base) hr z0), g, F.kp, F.bindsN fun _ _ _ _ _ _ us hl => match us, hl with | [_, _], _ => rfl⟩
theorem cz24 (D : Dfn K mg "number_in" "number_in" (top 45)) : Cal P w K mg base 1 "number_in" ["swing"] (runFn 0 24) :=
  let ⟨f, fd, F, g⟩ := D.ex
  ⟨f, fd, fn_no F sc24 (fun _ _ => rfl), g, F.kp, F.bindsN fun _ _ _ _ _ _ us hl => match us, hl with | [_], _ => rfl⟩
theorem rn24 (n : Nat) : runFn (n + 1) 24 = runB F24 N24.length (List.length ["swing"]) (runFn n) := by kernel_rfl
theorem cy24 {n : Nat} (M : Ms K mg) (Cs : ∀ base, Css P w K mg base (n + 1) (runFn n)) (D : Dfn K mg "number_in" "number_in" (top 45)) : Cal P w K mg base (n + 2) "number_in" ["swing"] (runFn (n + 1) 24) := by
  rw [rn24 n]
  exact let ⟨f, fd, F, g⟩ := D.ex
    ⟨f, fd, fn_ok (Fi := F24) F sc24 (fun cdv A outer s H E c H0 Z0 hr z0 => P24 M (Cs base) hr z0), g, F.kp, F.bindsN fun _ _ _ _ _ _ us hl => match us, hl with | [_], _ => rfl⟩
theorem cz25 (D : Dfn K mg "order_in" "order_in" (top 46)) : Cal P w K mg base 1 "order_in" ["swing"] (runFn 0 25) :=
  let ⟨f, fd, F, g⟩ := D.ex
  ⟨f, fd, fn_no F sc25 (fun _ _ => rfl), g, F.kp, F.bindsN fun _ _ _ _ _ _ us hl => match us, hl with | [_], _ => rfl⟩
theorem rn25 (n : Nat) : runFn (n + 1) 25 = runB F25 N25.length (List.length ["swing"]) (runFn n) := by kernel_rfl
theorem cy25 {n : Nat} (M : Ms K mg) (Cs : ∀ base, Css P w K mg base (n + 1) (runFn n)) (D : Dfn K mg "order_in" "order_in" (top 46)) : Cal P w K mg base (n + 2) "order_in" ["swing"] (runFn (n + 1) 25) := by
  rw [rn25 n]
  exact let ⟨f, fd, F, g⟩ := D.ex
    ⟨f, fd, fn_ok (Fi := F25) F sc25 (fun cdv A outer s H E c H0 Z0 hr z0 => P25 M (Cs base) hr z0), g, F.kp, F.bindsN fun _ _ _ _ _ _ us hl => match us, hl with | [_], _ => rfl⟩
theorem cz26 (D : Dfn K mg "swing_order" "swing_order" (top 47)) : Cal P w K mg base 1 "swing_order" ["swing"] (runFn 0 26) :=
  let ⟨f, fd, F, g⟩ := D.ex
  ⟨f, fd, fn_no F sc26 (fun _ _ => rfl), g, F.kp, F.bindsN fun _ _ _ _ _ _ us hl => match us, hl with | [_], _ => rfl⟩
theorem rn26 (n : Nat) : runFn (n + 1) 26 = runB F26 N26.length (List.length ["swing"]) (runFn n) := by kernel_rfl
theorem cy26 {n : Nat} (M : Ms K mg) (Cs : ∀ base, Css P w K mg base (n + 1) (runFn n)) (D : Dfn K mg "swing_order" "swing_order" (top 47)) : Cal P w K mg base (n + 2) "swing_order" ["swing"] (runFn (n + 1) 26) := by
  rw [rn26 n]
  exact let ⟨f, fd, F, g⟩ := D.ex
    ⟨f, fd, fn_ok (Fi := F26) F sc26 (fun cdv A outer s H E c H0 Z0 hr z0 => P26 M (Cs base) hr z0), g, F.kp, F.bindsN fun _ _ _ _ _ _ us hl => match us, hl with | [_], _ => rfl⟩
theorem cz27 (D : Dfn K mg "swing_power" "swing_power" (top 48)) : Cal P w K mg base 1 "swing_power" ["swing", "many"] (runFn 0 27) :=
  let ⟨f, fd, F, g⟩ := D.ex
  ⟨f, fd, fn_no F sc27 (fun _ _ => rfl), g, F.kp, F.bindsN fun _ _ _ _ _ _ us hl => match us, hl with | [_, _], _ => rfl⟩
theorem rn27 (n : Nat) : runFn (n + 1) 27 = runB F27 N27.length (List.length ["swing", "many"]) (runFn n) := by kernel_rfl
theorem cy27 {n : Nat} (M : Ms K mg) (Cs : ∀ base, Css P w K mg base (n + 1) (runFn n)) (D : Dfn K mg "swing_power" "swing_power" (top 48)) : Cal P w K mg base (n + 2) "swing_power" ["swing", "many"] (runFn (n + 1) 27) := by
  rw [rn27 n]
  exact let ⟨f, fd, F, g⟩ := D.ex
    ⟨f, fd, fn_ok (Fi := F27) F sc27 (fun cdv A outer s H E c H0 Z0 hr z0 => P27 M (Cs base) hr z0), g, F.kp, F.bindsN fun _ _ _ _ _ _ us hl => match us, hl with | [_, _], _ => rfl⟩
theorem cz28 (D : Dfn K mg "path_of" "path_of" (top 49)) : Cal P w K mg base 1 "path_of" ["swing", "place", "many"] (runFn 0 28) :=
  let ⟨f, fd, F, g⟩ := D.ex
  ⟨f, fd, fn_no F sc28 (fun _ _ => rfl), g, F.kp, F.bindsN fun _ _ _ _ _ _ us hl => match us, hl with | [_, _, _], _ => rfl⟩
theorem rn28 (n : Nat) : runFn (n + 1) 28 = runB F28 N28.length (List.length ["swing", "place", "many"]) (runFn n) := by kernel_rfl
theorem cy28 {n : Nat} (M : Ms K mg) (Cs : ∀ base, Css P w K mg base (n + 1) (runFn n)) (D : Dfn K mg "path_of" "path_of" (top 49)) : Cal P w K mg base (n + 2) "path_of" ["swing", "place", "many"] (runFn (n + 1) 28) := by
  rw [rn28 n]
  exact let ⟨f, fd, F, g⟩ := D.ex
    ⟨f, fd, fn_ok (Fi := F28) F sc28 (fun cdv A outer s H E c H0 Z0 hr z0 => P28 M (Cs base) hr z0), g, F.kp, F.bindsN fun _ _ _ _ _ _ us hl => match us, hl with | [_, _, _], _ => rfl⟩
theorem cz29 (D : Dfn K mg "is_three" "is_three" (top 52)) : Cal P w K mg base 1 "is_three" ["value"] (runFn 0 29) :=
  let ⟨f, fd, F, g⟩ := D.ex
  ⟨f, fd, fn_no F sc29 (fun _ _ => rfl), g, F.kp, F.bindsN fun _ _ _ _ _ _ us hl => match us, hl with | [_], _ => rfl⟩
theorem rn29 (n : Nat) : runFn (n + 1) 29 = runB F29 N29.length (List.length ["value"]) (runFn n) := by kernel_rfl
theorem cy29 {n : Nat} (M : Ms K mg) (Cs : ∀ base, Css P w K mg base (n + 1) (runFn n)) (D : Dfn K mg "is_three" "is_three" (top 52)) : Cal P w K mg base (n + 2) "is_three" ["value"] (runFn (n + 1) 29) := by
  rw [rn29 n]
  exact let ⟨f, fd, F, g⟩ := D.ex
    ⟨f, fd, fn_ok (Fi := F29) F sc29 (fun cdv A outer s H E c H0 Z0 hr z0 => P29 M (Cs base) hr z0), g, F.kp, F.bindsN fun _ _ _ _ _ _ us hl => match us, hl with | [_], _ => rfl⟩
theorem cz30 (D : Dfn K mg "is_triple" "is_triple" (top 53)) : Cal P w K mg base 1 "is_triple" ["value"] (runFn 0 30) :=
  let ⟨f, fd, F, g⟩ := D.ex
  ⟨f, fd, fn_no F sc30 (fun _ _ => rfl), g, F.kp, F.bindsN fun _ _ _ _ _ _ us hl => match us, hl with | [_], _ => rfl⟩
theorem rn30 (n : Nat) : runFn (n + 1) 30 = runB F30 N30.length (List.length ["value"]) (runFn n) := by kernel_rfl
theorem cy30 {n : Nat} (M : Ms K mg) (Cs : ∀ base, Css P w K mg base (n + 1) (runFn n)) (D : Dfn K mg "is_triple" "is_triple" (top 53)) : Cal P w K mg base (n + 2) "is_triple" ["value"] (runFn (n + 1) 30) := by
  rw [rn30 n]
  exact let ⟨f, fd, F, g⟩ := D.ex
    ⟨f, fd, fn_ok (Fi := F30) F sc30 (fun cdv A outer s H E c H0 Z0 hr z0 => P30 M (Cs base) hr z0), g, F.kp, F.bindsN fun _ _ _ _ _ _ us hl => match us, hl with | [_], _ => rfl⟩
theorem cz31 (D : Dfn K mg "plainly" "plainly" (top 54)) : Cal P w K mg base 1 "plainly" ["value"] (runFn 0 31) :=
  let ⟨f, fd, F, g⟩ := D.ex
  ⟨f, fd, fn_no F sc31 (fun _ _ => rfl), g, F.kp, F.bindsN fun _ _ _ _ _ _ us hl => match us, hl with | [_], _ => rfl⟩
theorem rn31 (n : Nat) : runFn (n + 1) 31 = runB F31 N31.length (List.length ["value"]) (runFn n) := by kernel_rfl
theorem cy31 {n : Nat} (M : Ms K mg) (Cs : ∀ base, Css P w K mg base (n + 1) (runFn n)) (D : Dfn K mg "plainly" "plainly" (top 54)) : Cal P w K mg base (n + 2) "plainly" ["value"] (runFn (n + 1) 31) := by
  rw [rn31 n]
  exact let ⟨f, fd, F, g⟩ := D.ex
    ⟨f, fd, fn_ok (Fi := F31) F sc31 (fun cdv A outer s H E c H0 Z0 hr z0 => P31 M (Cs base) hr z0), g, F.kp, F.bindsN fun _ _ _ _ _ _ us hl => match us, hl with | [_], _ => rfl⟩
theorem cz32 (D : Dfn K mg "need_triple" "need_triple" (top 55)) : Cal P w K mg base 1 "need_triple" ["value"] (runFn 0 32) :=
  let ⟨f, fd, F, g⟩ := D.ex
  ⟨f, fd, fn_no F sc32 (fun _ _ => rfl), g, F.kp, F.bindsN fun _ _ _ _ _ _ us hl => match us, hl with | [_], _ => rfl⟩
theorem rn32 (n : Nat) : runFn (n + 1) 32 = runB F32 N32.length (List.length ["value"]) (runFn n) := by kernel_rfl
theorem cy32 {n : Nat} (M : Ms K mg) (Cs : ∀ base, Css P w K mg base (n + 1) (runFn n)) (D : Dfn K mg "need_triple" "need_triple" (top 55)) : Cal P w K mg base (n + 2) "need_triple" ["value"] (runFn (n + 1) 32) := by
  rw [rn32 n]
  exact let ⟨f, fd, F, g⟩ := D.ex
    ⟨f, fd, fn_ok (Fi := F32) F sc32 (fun cdv A outer s H E c H0 Z0 hr z0 => P32 M (Cs base) hr z0), g, F.kp, F.bindsN fun _ _ _ _ _ _ us hl => match us, hl with | [_], _ => rfl⟩
theorem cz33 (D : Dfn K mg "dot" "dot" (top 56)) : Cal P w K mg base 1 "dot" ["one", "other"] (runFn 0 33) :=
  let ⟨f, fd, F, g⟩ := D.ex
  ⟨f, fd, fn_no F sc33 (fun _ _ => rfl), g, F.kp, F.bindsN fun _ _ _ _ _ _ us hl => match us, hl with | [_, _], _ => rfl⟩
theorem rn33 (n : Nat) : runFn (n + 1) 33 = runB F33 N33.length (List.length ["one", "other"]) (runFn n) := by kernel_rfl
theorem cy33 {n : Nat} (M : Ms K mg) (Cs : ∀ base, Css P w K mg base (n + 1) (runFn n)) (D : Dfn K mg "dot" "dot" (top 56)) : Cal P w K mg base (n + 2) "dot" ["one", "other"] (runFn (n + 1) 33) := by
  rw [rn33 n]
  exact let ⟨f, fd, F, g⟩ := D.ex
    ⟨f, fd, fn_ok (Fi := F33) F sc33 (fun cdv A outer s H E c H0 Z0 hr z0 => P33 M (Cs base) hr z0), g, F.kp, F.bindsN fun _ _ _ _ _ _ us hl => match us, hl with | [_, _], _ => rfl⟩
theorem cz34 (D : Dfn K mg "cross" "cross" (top 57)) : Cal P w K mg base 1 "cross" ["one", "other"] (runFn 0 34) :=
  let ⟨f, fd, F, g⟩ := D.ex
  ⟨f, fd, fn_no F sc34 (fun _ _ => rfl), g, F.kp, F.bindsN fun _ _ _ _ _ _ us hl => match us, hl with | [_, _], _ => rfl⟩
theorem rn34 (n : Nat) : runFn (n + 1) 34 = runB F34 N34.length (List.length ["one", "other"]) (runFn n) := by kernel_rfl
theorem cy34 {n : Nat} (M : Ms K mg) (Cs : ∀ base, Css P w K mg base (n + 1) (runFn n)) (D : Dfn K mg "cross" "cross" (top 57)) : Cal P w K mg base (n + 2) "cross" ["one", "other"] (runFn (n + 1) 34) := by
  rw [rn34 n]
  exact let ⟨f, fd, F, g⟩ := D.ex
    ⟨f, fd, fn_ok (Fi := F34) F sc34 (fun cdv A outer s H E c H0 Z0 hr z0 => P34 M (Cs base) hr z0), g, F.kp, F.bindsN fun _ _ _ _ _ _ us hl => match us, hl with | [_, _], _ => rfl⟩
theorem cz35 (D : Dfn K mg "is_small" "is_small" (top 60)) : Cal P w K mg base 1 "is_small" ["value"] (runFn 0 35) :=
  let ⟨f, fd, F, g⟩ := D.ex
  ⟨f, fd, fn_no F sc35 (fun _ _ => rfl), g, F.kp, F.bindsN fun _ _ _ _ _ _ us hl => match us, hl with | [_], _ => rfl⟩
theorem rn35 (n : Nat) : runFn (n + 1) 35 = runB F35 N35.length (List.length ["value"]) (runFn n) := by kernel_rfl
theorem cy35 {n : Nat} (M : Ms K mg) (Cs : ∀ base, Css P w K mg base (n + 1) (runFn n)) (D : Dfn K mg "is_small" "is_small" (top 60)) : Cal P w K mg base (n + 2) "is_small" ["value"] (runFn (n + 1) 35) := by
  rw [rn35 n]
  exact let ⟨f, fd, F, g⟩ := D.ex
    ⟨f, fd, fn_ok (Fi := F35) F sc35 (fun cdv A outer s H E c H0 Z0 hr z0 => P35 M (Cs base) hr z0), g, F.kp, F.bindsN fun _ _ _ _ _ _ us hl => match us, hl with | [_], _ => rfl⟩
theorem cz36 (D : Dfn K mg "fits" "fits" (top 64)) : Cal P w K mg base 1 "fits" ["value"] (runFn 0 36) :=
  let ⟨f, fd, F, g⟩ := D.ex
  ⟨f, fd, fn_no F sc36 (fun _ _ => rfl), g, F.kp, F.bindsN fun _ _ _ _ _ _ us hl => match us, hl with | [_], _ => rfl⟩
theorem rn36 (n : Nat) : runFn (n + 1) 36 = runB F36 N36.length (List.length ["value"]) (runFn n) := by kernel_rfl
theorem cy36 {n : Nat} (M : Ms K mg) (Cs : ∀ base, Css P w K mg base (n + 1) (runFn n)) (D : Dfn K mg "fits" "fits" (top 64)) : Cal P w K mg base (n + 2) "fits" ["value"] (runFn (n + 1) 36) := by
  rw [rn36 n]
  exact let ⟨f, fd, F, g⟩ := D.ex
    ⟨f, fd, fn_ok (Fi := F36) F sc36 (fun cdv A outer s H E c H0 Z0 hr z0 => P36 M (Cs base) hr z0), g, F.kp, F.bindsN fun _ _ _ _ _ _ us hl => match us, hl with | [_], _ => rfl⟩
theorem cz37 (D : Dfn K mg "need_lead" "need_lead" (top 65)) : Cal P w K mg base 1 "need_lead" ["lead"] (runFn 0 37) :=
  let ⟨f, fd, F, g⟩ := D.ex
  ⟨f, fd, fn_no F sc37 (fun _ _ => rfl), g, F.kp, F.bindsN fun _ _ _ _ _ _ us hl => match us, hl with | [_], _ => rfl⟩
theorem rn37 (n : Nat) : runFn (n + 1) 37 = runB F37 N37.length (List.length ["lead"]) (runFn n) := by kernel_rfl
theorem cy37 {n : Nat} (M : Ms K mg) (Cs : ∀ base, Css P w K mg base (n + 1) (runFn n)) (D : Dfn K mg "need_lead" "need_lead" (top 65)) : Cal P w K mg base (n + 2) "need_lead" ["lead"] (runFn (n + 1) 37) := by
  rw [rn37 n]
  exact let ⟨f, fd, F, g⟩ := D.ex
    ⟨f, fd, fn_ok (Fi := F37) F sc37 (fun cdv A outer s H E c H0 Z0 hr z0 => P37 M (Cs base) hr z0), g, F.kp, F.bindsN fun _ _ _ _ _ _ us hl => match us, hl with | [_], _ => rfl⟩
theorem cz38 (D : Dfn K mg "need_closed" "need_closed" (top 66)) : Cal P w K mg base 1 "need_closed" ["lead"] (runFn 0 38) :=
  let ⟨f, fd, F, g⟩ := D.ex
  ⟨f, fd, fn_no F sc38 (fun _ _ => rfl), g, F.kp, F.bindsN fun _ _ _ _ _ _ us hl => match us, hl with | [_], _ => rfl⟩
theorem rn38 (n : Nat) : runFn (n + 1) 38 = runB F38 N38.length (List.length ["lead"]) (runFn n) := by kernel_rfl
theorem cy38 {n : Nat} (M : Ms K mg) (Cs : ∀ base, Css P w K mg base (n + 1) (runFn n)) (D : Dfn K mg "need_closed" "need_closed" (top 66)) : Cal P w K mg base (n + 2) "need_closed" ["lead"] (runFn (n + 1) 38) := by
  rw [rn38 n]
  exact let ⟨f, fd, F, g⟩ := D.ex
    ⟨f, fd, fn_ok (Fi := F38) F sc38 (fun cdv A outer s H E c H0 Z0 hr z0 => P38 M (Cs base) hr z0), g, F.kp, F.bindsN fun _ _ _ _ _ _ us hl => match us, hl with | [_], _ => rfl⟩
theorem cz39 (D : Dfn K mg "led" "led" (top 67)) : Cal P w K mg base 1 "led" ["lead", "point"] (runFn 0 39) :=
  let ⟨f, fd, F, g⟩ := D.ex
  ⟨f, fd, fn_no F sc39 (fun _ _ => rfl), g, F.kp, F.bindsN fun _ _ _ _ _ _ us hl => match us, hl with | [_, _], _ => rfl⟩
theorem rn39 (n : Nat) : runFn (n + 1) 39 = runB F39 N39.length (List.length ["lead", "point"]) (runFn n) := by kernel_rfl
theorem cy39 {n : Nat} (M : Ms K mg) (Cs : ∀ base, Css P w K mg base (n + 1) (runFn n)) (D : Dfn K mg "led" "led" (top 67)) : Cal P w K mg base (n + 2) "led" ["lead", "point"] (runFn (n + 1) 39) := by
  rw [rn39 n]
  exact let ⟨f, fd, F, g⟩ := D.ex
    ⟨f, fd, fn_ok (Fi := F39) F sc39 (fun cdv A outer s H E c H0 Z0 hr z0 => P39 M (Cs base) hr z0), g, F.kp, F.bindsN fun _ _ _ _ _ _ us hl => match us, hl with | [_, _], _ => rfl⟩
theorem cz40 (D : Dfn K mg "base_of" "base_of" (top 68)) : Cal P w K mg base 1 "base_of" ["line"] (runFn 0 40) :=
  let ⟨f, fd, F, g⟩ := D.ex
  ⟨f, fd, fn_no F sc40 (fun _ _ => rfl), g, F.kp, F.bindsN fun _ _ _ _ _ _ us hl => match us, hl with | [_], _ => rfl⟩
theorem rn40 (n : Nat) : runFn (n + 1) 40 = runB F40 N40.length (List.length ["line"]) (runFn n) := by kernel_rfl
theorem cy40 {n : Nat} (M : Ms K mg) (Cs : ∀ base, Css P w K mg base (n + 1) (runFn n)) (D : Dfn K mg "base_of" "base_of" (top 68)) : Cal P w K mg base (n + 2) "base_of" ["line"] (runFn (n + 1) 40) := by
  rw [rn40 n]
  exact let ⟨f, fd, F, g⟩ := D.ex
    ⟨f, fd, fn_ok (Fi := F40) F sc40 (fun cdv A outer s H E c H0 Z0 hr z0 => P40 M (Cs base) hr z0), g, F.kp, F.bindsN fun _ _ _ _ _ _ us hl => match us, hl with | [_], _ => rfl⟩
theorem cz41 (D : Dfn K mg "form_of" "form_of" (top 69)) : Cal P w K mg base 1 "form_of" ["lead"] (runFn 0 41) :=
  let ⟨f, fd, F, g⟩ := D.ex
  ⟨f, fd, fn_no F sc41 (fun _ _ => rfl), g, F.kp, F.bindsN fun _ _ _ _ _ _ us hl => match us, hl with | [_], _ => rfl⟩
theorem rn41 (n : Nat) : runFn (n + 1) 41 = runB F41 N41.length (List.length ["lead"]) (runFn n) := by kernel_rfl
theorem cy41 {n : Nat} (M : Ms K mg) (Cs : ∀ base, Css P w K mg base (n + 1) (runFn n)) (D : Dfn K mg "form_of" "form_of" (top 69)) : Cal P w K mg base (n + 2) "form_of" ["lead"] (runFn (n + 1) 41) := by
  rw [rn41 n]
  exact let ⟨f, fd, F, g⟩ := D.ex
    ⟨f, fd, fn_ok (Fi := F41) F sc41 (fun cdv A outer s H E c H0 Z0 hr z0 => P41 M (Cs base) hr z0), g, F.kp, F.bindsN fun _ _ _ _ _ _ us hl => match us, hl with | [_], _ => rfl⟩
theorem cz42 (D : Dfn K mg "roots_of" "roots_of" (top 70)) : Cal P w K mg base 1 "roots_of" ["a", "b", "c"] (runFn 0 42) :=
  let ⟨f, fd, F, g⟩ := D.ex
  ⟨f, fd, fn_no F sc42 (fun _ _ => rfl), g, F.kp, F.bindsN fun _ _ _ _ _ _ us hl => match us, hl with | [_, _, _], _ => rfl⟩
theorem rn42 (n : Nat) : runFn (n + 1) 42 = runB F42 N42.length (List.length ["a", "b", "c"]) (runFn n) := by kernel_rfl
theorem cy42 {n : Nat} (M : Ms K mg) (Cs : ∀ base, Css P w K mg base (n + 1) (runFn n)) (D : Dfn K mg "roots_of" "roots_of" (top 70)) : Cal P w K mg base (n + 2) "roots_of" ["a", "b", "c"] (runFn (n + 1) 42) := by
  rw [rn42 n]
  exact let ⟨f, fd, F, g⟩ := D.ex
    ⟨f, fd, fn_ok (Fi := F42) F sc42 (fun cdv A outer s H E c H0 Z0 hr z0 => P42 M (Cs base) hr z0), g, F.kp, F.bindsN fun _ _ _ _ _ _ us hl => match us, hl with | [_, _, _], _ => rfl⟩
theorem cz43 (D : Dfn K mg "is_home" "is_home" (top 71)) : Cal P w K mg base 1 "is_home" ["lead"] (runFn 0 43) :=
  let ⟨f, fd, F, g⟩ := D.ex
  ⟨f, fd, fn_no F sc43 (fun _ _ => rfl), g, F.kp, F.bindsN fun _ _ _ _ _ _ us hl => match us, hl with | [_], _ => rfl⟩
theorem rn43 (n : Nat) : runFn (n + 1) 43 = runB F43 N43.length (List.length ["lead"]) (runFn n) := by kernel_rfl
theorem cy43 {n : Nat} (M : Ms K mg) (Cs : ∀ base, Css P w K mg base (n + 1) (runFn n)) (D : Dfn K mg "is_home" "is_home" (top 71)) : Cal P w K mg base (n + 2) "is_home" ["lead"] (runFn (n + 1) 43) := by
  rw [rn43 n]
  exact let ⟨f, fd, F, g⟩ := D.ex
    ⟨f, fd, fn_ok (Fi := F43) F sc43 (fun cdv A outer s H E c H0 Z0 hr z0 => P43 M (Cs base) hr z0), g, F.kp, F.bindsN fun _ _ _ _ _ _ us hl => match us, hl with | [_], _ => rfl⟩
theorem cz44 (D : Dfn K mg "rounds_in" "rounds_in" (top 72)) : Cal P w K mg base 1 "rounds_in" ["lead"] (runFn 0 44) :=
  let ⟨f, fd, F, g⟩ := D.ex
  ⟨f, fd, fn_no F sc44 (fun _ _ => rfl), g, F.kp, F.bindsN fun _ _ _ _ _ _ us hl => match us, hl with | [_], _ => rfl⟩
theorem rn44 (n : Nat) : runFn (n + 1) 44 = runB F44 N44.length (List.length ["lead"]) (runFn n) := by kernel_rfl
theorem cy44 {n : Nat} (M : Ms K mg) (Cs : ∀ base, Css P w K mg base (n + 1) (runFn n)) (D : Dfn K mg "rounds_in" "rounds_in" (top 72)) : Cal P w K mg base (n + 2) "rounds_in" ["lead"] (runFn (n + 1) 44) := by
  rw [rn44 n]
  exact let ⟨f, fd, F, g⟩ := D.ex
    ⟨f, fd, fn_ok (Fi := F44) F sc44 (fun cdv A outer s H E c H0 Z0 hr z0 => P44 M (Cs base) hr z0), g, F.kp, F.bindsN fun _ _ _ _ _ _ us hl => match us, hl with | [_], _ => rfl⟩
theorem cz45 (D : Dfn K mg "is_lead" "is_lead" (top 73)) : Cal P w K mg base 1 "is_lead" ["value"] (runFn 0 45) :=
  let ⟨f, fd, F, g⟩ := D.ex
  ⟨f, fd, fn_no F sc45 (fun _ _ => rfl), g, F.kp, F.bindsN fun _ _ _ _ _ _ us hl => match us, hl with | [_], _ => rfl⟩
theorem rn45 (n : Nat) : runFn (n + 1) 45 = runB F45 N45.length (List.length ["value"]) (runFn n) := by kernel_rfl
theorem cy45 {n : Nat} (M : Ms K mg) (Cs : ∀ base, Css P w K mg base (n + 1) (runFn n)) (D : Dfn K mg "is_lead" "is_lead" (top 73)) : Cal P w K mg base (n + 2) "is_lead" ["value"] (runFn (n + 1) 45) := by
  rw [rn45 n]
  exact let ⟨f, fd, F, g⟩ := D.ex
    ⟨f, fd, fn_ok (Fi := F45) F sc45 (fun cdv A outer s H E c H0 Z0 hr z0 => P45 M (Cs base) hr z0), g, F.kp, F.bindsN fun _ _ _ _ _ _ us hl => match us, hl with | [_], _ => rfl⟩
theorem cz46 (D : Dfn K mg "is_closed" "is_closed" (top 74)) : Cal P w K mg base 1 "is_closed" ["lead"] (runFn 0 46) :=
  let ⟨f, fd, F, g⟩ := D.ex
  ⟨f, fd, fn_no F sc46 (fun _ _ => rfl), g, F.kp, F.bindsN fun _ _ _ _ _ _ us hl => match us, hl with | [_], _ => rfl⟩
theorem rn46 (n : Nat) : runFn (n + 1) 46 = runB F46 N46.length (List.length ["lead"]) (runFn n) := by kernel_rfl
theorem cy46 {n : Nat} (M : Ms K mg) (Cs : ∀ base, Css P w K mg base (n + 1) (runFn n)) (D : Dfn K mg "is_closed" "is_closed" (top 74)) : Cal P w K mg base (n + 2) "is_closed" ["lead"] (runFn (n + 1) 46) := by
  rw [rn46 n]
  exact let ⟨f, fd, F, g⟩ := D.ex
    ⟨f, fd, fn_ok (Fi := F46) F sc46 (fun cdv A outer s H E c H0 Z0 hr z0 => P46 M (Cs base) hr z0), g, F.kp, F.bindsN fun _ _ _ _ _ _ us hl => match us, hl with | [_], _ => rfl⟩
theorem cz47 (D : Dfn K mg "led_by" "led_by" (top 75)) : Cal P w K mg base 1 "led_by" ["lead", "point"] (runFn 0 47) :=
  let ⟨f, fd, F, g⟩ := D.ex
  ⟨f, fd, fn_no F sc47 (fun _ _ => rfl), g, F.kp, F.bindsN fun _ _ _ _ _ _ us hl => match us, hl with | [_, _], _ => rfl⟩
theorem rn47 (n : Nat) : runFn (n + 1) 47 = runB F47 N47.length (List.length ["lead", "point"]) (runFn n) := by kernel_rfl
theorem cy47 {n : Nat} (M : Ms K mg) (Cs : ∀ base, Css P w K mg base (n + 1) (runFn n)) (D : Dfn K mg "led_by" "led_by" (top 75)) : Cal P w K mg base (n + 2) "led_by" ["lead", "point"] (runFn (n + 1) 47) := by
  rw [rn47 n]
  exact let ⟨f, fd, F, g⟩ := D.ex
    ⟨f, fd, fn_ok (Fi := F47) F sc47 (fun cdv A outer s H E c H0 Z0 hr z0 => P47 M (Cs base) hr z0), g, F.kp, F.bindsN fun _ _ _ _ _ _ us hl => match us, hl with | [_, _], _ => rfl⟩
theorem cz48 (D : Dfn K mg "kept_points" "kept_points" (top 76)) : Cal P w K mg base 1 "kept_points" ["lead"] (runFn 0 48) :=
  let ⟨f, fd, F, g⟩ := D.ex
  ⟨f, fd, fn_no F sc48 (fun _ _ => rfl), g, F.kp, F.bindsN fun _ _ _ _ _ _ us hl => match us, hl with | [_], _ => rfl⟩
theorem rn48 (n : Nat) : runFn (n + 1) 48 = runB F48 N48.length (List.length ["lead"]) (runFn n) := by kernel_rfl
theorem cy48 {n : Nat} (M : Ms K mg) (Cs : ∀ base, Css P w K mg base (n + 1) (runFn n)) (D : Dfn K mg "kept_points" "kept_points" (top 76)) : Cal P w K mg base (n + 2) "kept_points" ["lead"] (runFn (n + 1) 48) := by
  rw [rn48 n]
  exact let ⟨f, fd, F, g⟩ := D.ex
    ⟨f, fd, fn_ok (Fi := F48) F sc48 (fun cdv A outer s H E c H0 Z0 hr z0 => P48 M (Cs base) hr z0), g, F.kp, F.bindsN fun _ _ _ _ _ _ us hl => match us, hl with | [_], _ => rfl⟩
theorem cz49 (D : Dfn K mg "rounds_to_home" "rounds_to_home" (top 77)) : Cal P w K mg base 1 "rounds_to_home" ["lead"] (runFn 0 49) :=
  let ⟨f, fd, F, g⟩ := D.ex
  ⟨f, fd, fn_no F sc49 (fun _ _ => rfl), g, F.kp, F.bindsN fun _ _ _ _ _ _ us hl => match us, hl with | [_], _ => rfl⟩
theorem rn49 (n : Nat) : runFn (n + 1) 49 = runB F49 N49.length (List.length ["lead"]) (runFn n) := by kernel_rfl
theorem cy49 {n : Nat} (M : Ms K mg) (Cs : ∀ base, Css P w K mg base (n + 1) (runFn n)) (D : Dfn K mg "rounds_to_home" "rounds_to_home" (top 77)) : Cal P w K mg base (n + 2) "rounds_to_home" ["lead"] (runFn (n + 1) 49) := by
  rw [rn49 n]
  exact let ⟨f, fd, F, g⟩ := D.ex
    ⟨f, fd, fn_ok (Fi := F49) F sc49 (fun cdv A outer s H E c H0 Z0 hr z0 => P49 M (Cs base) hr z0), g, F.kp, F.bindsN fun _ _ _ _ _ _ us hl => match us, hl with | [_], _ => rfl⟩
theorem cz50 (D : Dfn K mg "joined_leads" "joined_leads" (top 78)) : Cal P w K mg base 1 "joined_leads" ["one", "other"] (runFn 0 50) :=
  let ⟨f, fd, F, g⟩ := D.ex
  ⟨f, fd, fn_no F sc50 (fun _ _ => rfl), g, F.kp, F.bindsN fun _ _ _ _ _ _ us hl => match us, hl with | [_, _], _ => rfl⟩
theorem rn50 (n : Nat) : runFn (n + 1) 50 = runB F50 N50.length (List.length ["one", "other"]) (runFn n) := by kernel_rfl
theorem cy50 {n : Nat} (M : Ms K mg) (Cs : ∀ base, Css P w K mg base (n + 1) (runFn n)) (D : Dfn K mg "joined_leads" "joined_leads" (top 78)) : Cal P w K mg base (n + 2) "joined_leads" ["one", "other"] (runFn (n + 1) 50) := by
  rw [rn50 n]
  exact let ⟨f, fd, F, g⟩ := D.ex
    ⟨f, fd, fn_ok (Fi := F50) F sc50 (fun cdv A outer s H E c H0 Z0 hr z0 => P50 M (Cs base) hr z0), g, F.kp, F.bindsN fun _ _ _ _ _ _ us hl => match us, hl with | [_, _], _ => rfl⟩
theorem cz51 (D : Dfn K mg "gauge" "gauge" (top 80)) : Cal P w K mg base 1 "gauge" ["swing"] (runFn 0 51) :=
  let ⟨f, fd, F, g⟩ := D.ex
  ⟨f, fd, fn_no F sc51 (fun _ _ => rfl), g, F.kp, F.bindsN fun _ _ _ _ _ _ us hl => match us, hl with | [_], _ => rfl⟩
theorem rn51 (n : Nat) : runFn (n + 1) 51 = runB F51 N51.length (List.length ["swing"]) (runFn n) := by kernel_rfl
theorem cy51 {n : Nat} (M : Ms K mg) (Cs : ∀ base, Css P w K mg base (n + 1) (runFn n)) (D : Dfn K mg "gauge" "gauge" (top 80)) : Cal P w K mg base (n + 2) "gauge" ["swing"] (runFn (n + 1) 51) := by
  rw [rn51 n]
  exact let ⟨f, fd, F, g⟩ := D.ex
    ⟨f, fd, fn_ok (Fi := F51) F sc51 (fun cdv A outer s H E c H0 Z0 hr z0 => P51 M (Cs base) hr z0), g, F.kp, F.bindsN fun _ _ _ _ _ _ us hl => match us, hl with | [_], _ => rfl⟩
theorem cz52 (D : Dfn K mg "fixed_in" "fixed_in" (top 81)) : Cal P w K mg base 1 "fixed_in" ["swing"] (runFn 0 52) :=
  let ⟨f, fd, F, g⟩ := D.ex
  ⟨f, fd, fn_no F sc52 (fun _ _ => rfl), g, F.kp, F.bindsN fun _ _ _ _ _ _ us hl => match us, hl with | [_], _ => rfl⟩
theorem rn52 (n : Nat) : runFn (n + 1) 52 = runB F52 N52.length (List.length ["swing"]) (runFn n) := by kernel_rfl
theorem cy52 {n : Nat} (M : Ms K mg) (Cs : ∀ base, Css P w K mg base (n + 1) (runFn n)) (D : Dfn K mg "fixed_in" "fixed_in" (top 81)) : Cal P w K mg base (n + 2) "fixed_in" ["swing"] (runFn (n + 1) 52) := by
  rw [rn52 n]
  exact let ⟨f, fd, F, g⟩ := D.ex
    ⟨f, fd, fn_ok (Fi := F52) F sc52 (fun cdv A outer s H E c H0 Z0 hr z0 => P52 M (Cs base) hr z0), g, F.kp, F.bindsN fun _ _ _ _ _ _ us hl => match us, hl with | [_], _ => rfl⟩
theorem cz53 (D : Dfn K mg "gauge_of" "gauge_of" (top 82)) : Cal P w K mg base 1 "gauge_of" ["swing"] (runFn 0 53) :=
  let ⟨f, fd, F, g⟩ := D.ex
  ⟨f, fd, fn_no F sc53 (fun _ _ => rfl), g, F.kp, F.bindsN fun _ _ _ _ _ _ us hl => match us, hl with | [_], _ => rfl⟩
theorem rn53 (n : Nat) : runFn (n + 1) 53 = runB F53 N53.length (List.length ["swing"]) (runFn n) := by kernel_rfl
theorem cy53 {n : Nat} (M : Ms K mg) (Cs : ∀ base, Css P w K mg base (n + 1) (runFn n)) (D : Dfn K mg "gauge_of" "gauge_of" (top 82)) : Cal P w K mg base (n + 2) "gauge_of" ["swing"] (runFn (n + 1) 53) := by
  rw [rn53 n]
  exact let ⟨f, fd, F, g⟩ := D.ex
    ⟨f, fd, fn_ok (Fi := F53) F sc53 (fun cdv A outer s H E c H0 Z0 hr z0 => P53 M (Cs base) hr z0), g, F.kp, F.bindsN fun _ _ _ _ _ _ us hl => match us, hl with | [_], _ => rfl⟩
theorem cz54 (D : Dfn K mg "fixed_places" "fixed_places" (top 83)) : Cal P w K mg base 1 "fixed_places" ["swing"] (runFn 0 54) :=
  let ⟨f, fd, F, g⟩ := D.ex
  ⟨f, fd, fn_no F sc54 (fun _ _ => rfl), g, F.kp, F.bindsN fun _ _ _ _ _ _ us hl => match us, hl with | [_], _ => rfl⟩
theorem rn54 (n : Nat) : runFn (n + 1) 54 = runB F54 N54.length (List.length ["swing"]) (runFn n) := by kernel_rfl
theorem cy54 {n : Nat} (M : Ms K mg) (Cs : ∀ base, Css P w K mg base (n + 1) (runFn n)) (D : Dfn K mg "fixed_places" "fixed_places" (top 83)) : Cal P w K mg base (n + 2) "fixed_places" ["swing"] (runFn (n + 1) 54) := by
  rw [rn54 n]
  exact let ⟨f, fd, F, g⟩ := D.ex
    ⟨f, fd, fn_ok (Fi := F54) F sc54 (fun cdv A outer s H E c H0 Z0 hr z0 => P54 M (Cs base) hr z0), g, F.kp, F.bindsN fun _ _ _ _ _ _ us hl => match us, hl with | [_], _ => rfl⟩
theorem cz55 (D : Dfn K mg "bare" "bare" (top 85)) : Cal P w K mg base 1 "bare" ["number"] (runFn 0 55) :=
  let ⟨f, fd, F, g⟩ := D.ex
  ⟨f, fd, fn_no F sc55 (fun _ _ => rfl), g, F.kp, F.bindsN fun _ _ _ _ _ _ us hl => match us, hl with | [_], _ => rfl⟩
theorem rn55 (n : Nat) : runFn (n + 1) 55 = runB F55 N55.length (List.length ["number"]) (runFn n) := by kernel_rfl
theorem cy55 {n : Nat} (M : Ms K mg) (Cs : ∀ base, Css P w K mg base (n + 1) (runFn n)) (D : Dfn K mg "bare" "bare" (top 85)) : Cal P w K mg base (n + 2) "bare" ["number"] (runFn (n + 1) 55) := by
  rw [rn55 n]
  exact let ⟨f, fd, F, g⟩ := D.ex
    ⟨f, fd, fn_ok (Fi := F55) F sc55 (fun cdv A outer s H E c H0 Z0 hr z0 => P55 M (Cs base) hr z0), g, F.kp, F.bindsN fun _ _ _ _ _ _ us hl => match us, hl with | [_], _ => rfl⟩
theorem cz56 (D : Dfn K mg "shape_in" "shape_in" (top 86)) : Cal P w K mg base 1 "shape_in" ["swing"] (runFn 0 56) :=
  let ⟨f, fd, F, g⟩ := D.ex
  ⟨f, fd, fn_no F sc56 (fun _ _ => rfl), g, F.kp, F.bindsN fun _ _ _ _ _ _ us hl => match us, hl with | [_], _ => rfl⟩
theorem rn56 (n : Nat) : runFn (n + 1) 56 = runB F56 N56.length (List.length ["swing"]) (runFn n) := by kernel_rfl
theorem cy56 {n : Nat} (M : Ms K mg) (Cs : ∀ base, Css P w K mg base (n + 1) (runFn n)) (D : Dfn K mg "shape_in" "shape_in" (top 86)) : Cal P w K mg base (n + 2) "shape_in" ["swing"] (runFn (n + 1) 56) := by
  rw [rn56 n]
  exact let ⟨f, fd, F, g⟩ := D.ex
    ⟨f, fd, fn_ok (Fi := F56) F sc56 (fun cdv A outer s H E c H0 Z0 hr z0 => P56 M (Cs base) hr z0), g, F.kp, F.bindsN fun _ _ _ _ _ _ us hl => match us, hl with | [_], _ => rfl⟩
theorem cz57 (D : Dfn K mg "are_swings_alike" "are_swings_alike" (top 87)) : Cal P w K mg base 1 "are_swings_alike" ["one", "other"] (runFn 0 57) :=
  let ⟨f, fd, F, g⟩ := D.ex
  ⟨f, fd, fn_no F sc57 (fun _ _ => rfl), g, F.kp, F.bindsN fun _ _ _ _ _ _ us hl => match us, hl with | [_, _], _ => rfl⟩
theorem rn57 (n : Nat) : runFn (n + 1) 57 = runB F57 N57.length (List.length ["one", "other"]) (runFn n) := by kernel_rfl
theorem cy57 {n : Nat} (M : Ms K mg) (Cs : ∀ base, Css P w K mg base (n + 1) (runFn n)) (D : Dfn K mg "are_swings_alike" "are_swings_alike" (top 87)) : Cal P w K mg base (n + 2) "are_swings_alike" ["one", "other"] (runFn (n + 1) 57) := by
  rw [rn57 n]
  exact let ⟨f, fd, F, g⟩ := D.ex
    ⟨f, fd, fn_ok (Fi := F57) F sc57 (fun cdv A outer s H E c H0 Z0 hr z0 => P57 M (Cs base) hr z0), g, F.kp, F.bindsN fun _ _ _ _ _ _ us hl => match us, hl with | [_, _], _ => rfl⟩
theorem cz58 (D : Dfn K mg "does_turn_back" "does_turn_back" (top 89)) : Cal P w K mg base 1 "does_turn_back" ["swing", "value"] (runFn 0 58) :=
  let ⟨f, fd, F, g⟩ := D.ex
  ⟨f, fd, fn_no F sc58 (fun _ _ => rfl), g, F.kp, F.bindsN fun _ _ _ _ _ _ us hl => match us, hl with | [_, _], _ => rfl⟩
theorem rn58 (n : Nat) : runFn (n + 1) 58 = runB F58 N58.length (List.length ["swing", "value"]) (runFn n) := by kernel_rfl
theorem cy58 {n : Nat} (M : Ms K mg) (Cs : ∀ base, Css P w K mg base (n + 1) (runFn n)) (D : Dfn K mg "does_turn_back" "does_turn_back" (top 89)) : Cal P w K mg base (n + 2) "does_turn_back" ["swing", "value"] (runFn (n + 1) 58) := by
  rw [rn58 n]
  exact let ⟨f, fd, F, g⟩ := D.ex
    ⟨f, fd, fn_ok (Fi := F58) F sc58 (fun cdv A outer s H E c H0 Z0 hr z0 => P58 M (Cs base) hr z0), g, F.kp, F.bindsN fun _ _ _ _ _ _ us hl => match us, hl with | [_, _], _ => rfl⟩
theorem cz60 (D : Dfn K mg "_law_roll" "_law_roll" (top 92)) : Cal P w K mg base 1 "_law_roll" ["cup", "many"] (runFn 0 60) :=
  let ⟨f, fd, F, g⟩ := D.ex
  ⟨f, fd, fn_no F sc60 (fun _ _ => rfl), g, F.kp, F.bindsN fun _ _ _ _ _ _ us hl => match us, hl with | [_, _], _ => rfl⟩
theorem rn60 (n : Nat) : runFn (n + 1) 60 = runB F60 N60.length (List.length ["cup", "many"]) (runFn n) := by kernel_rfl
theorem cy60 {n : Nat} (M : Ms K mg) (Cs : ∀ base, Css P w K mg base (n + 1) (runFn n)) (D : Dfn K mg "_law_roll" "_law_roll" (top 92)) : Cal P w K mg base (n + 2) "_law_roll" ["cup", "many"] (runFn (n + 1) 60) := by
  rw [rn60 n]
  exact let ⟨f, fd, F, g⟩ := D.ex
    ⟨f, fd, fn_ok (Fi := F60) F sc60 (fun cdv A outer s H E c H0 Z0 hr z0 => P60 M (Cs base) hr z0), g, F.kp, F.bindsN fun _ _ _ _ _ _ us hl => match us, hl with | [_, _], _ => rfl⟩
theorem cz61 (D : Dfn K mg "_law_some" "_law_some" (top 93)) : Cal P w K mg base 1 "_law_some" ["cup", "things"] (runFn 0 61) :=
  let ⟨f, fd, F, g⟩ := D.ex
  ⟨f, fd, fn_no F sc61 (fun _ _ => rfl), g, F.kp, F.bindsN fun _ _ _ _ _ _ us hl => match us, hl with | [_, _], _ => rfl⟩
theorem rn61 (n : Nat) : runFn (n + 1) 61 = runB F61 N61.length (List.length ["cup", "things"]) (runFn n) := by kernel_rfl
theorem cy61 {n : Nat} (M : Ms K mg) (Cs : ∀ base, Css P w K mg base (n + 1) (runFn n)) (D : Dfn K mg "_law_some" "_law_some" (top 93)) : Cal P w K mg base (n + 2) "_law_some" ["cup", "things"] (runFn (n + 1) 61) := by
  rw [rn61 n]
  exact let ⟨f, fd, F, g⟩ := D.ex
    ⟨f, fd, fn_ok (Fi := F61) F sc61 (fun cdv A outer s H E c H0 Z0 hr z0 => P61 M (Cs base) hr z0), g, F.kp, F.bindsN fun _ _ _ _ _ _ us hl => match us, hl with | [_, _], _ => rfl⟩
theorem cz62 (D : Dfn K mg "_law_sort" "_law_sort" (top 94)) : Cal P w K mg base 1 "_law_sort" ["value"] (runFn 0 62) :=
  let ⟨f, fd, F, g⟩ := D.ex
  ⟨f, fd, fn_no F sc62 (fun _ _ => rfl), g, F.kp, F.bindsN fun _ _ _ _ _ _ us hl => match us, hl with | [_], _ => rfl⟩
theorem rn62 (n : Nat) : runFn (n + 1) 62 = runB F62 N62.length (List.length ["value"]) (runFn n) := by kernel_rfl
theorem cy62 {n : Nat} (M : Ms K mg) (Cs : ∀ base, Css P w K mg base (n + 1) (runFn n)) (D : Dfn K mg "_law_sort" "_law_sort" (top 94)) : Cal P w K mg base (n + 2) "_law_sort" ["value"] (runFn (n + 1) 62) := by
  rw [rn62 n]
  exact let ⟨f, fd, F, g⟩ := D.ex
    ⟨f, fd, fn_ok (Fi := F62) F sc62 (fun cdv A outer s H E c H0 Z0 hr z0 => P62 M (Cs base) hr z0), g, F.kp, F.bindsN fun _ _ _ _ _ _ us hl => match us, hl with | [_], _ => rfl⟩
theorem cz63 (D : Dfn K mg "_law_like" "_law_like" (top 95)) : Cal P w K mg base 1 "_law_like" ["one", "other"] (runFn 0 63) :=
  let ⟨f, fd, F, g⟩ := D.ex
  ⟨f, fd, fn_no F sc63 (fun _ _ => rfl), g, F.kp, F.bindsN fun _ _ _ _ _ _ us hl => match us, hl with | [_, _], _ => rfl⟩
theorem rn63 (n : Nat) : runFn (n + 1) 63 = runB F63 N63.length (List.length ["one", "other"]) (runFn n) := by kernel_rfl
theorem cy63 {n : Nat} (M : Ms K mg) (Cs : ∀ base, Css P w K mg base (n + 1) (runFn n)) (D : Dfn K mg "_law_like" "_law_like" (top 95)) : Cal P w K mg base (n + 2) "_law_like" ["one", "other"] (runFn (n + 1) 63) := by
  rw [rn63 n]
  exact let ⟨f, fd, F, g⟩ := D.ex
    ⟨f, fd, fn_ok (Fi := F63) F sc63 (fun cdv A outer s H E c H0 Z0 hr z0 => P63 M (Cs base) hr z0), g, F.kp, F.bindsN fun _ _ _ _ _ _ us hl => match us, hl with | [_, _], _ => rfl⟩
theorem cz64 (D : Dfn K mg "_law_is_number" "_law_is_number" (top 96)) : Cal P w K mg base 1 "_law_is_number" ["value", "low", "high"] (runFn 0 64) :=
  let ⟨f, fd, F, g⟩ := D.ex
  ⟨f, fd, fn_no F sc64 (fun _ _ => rfl), g, F.kp, F.bindsN fun _ _ _ _ _ _ us hl => match us, hl with | [_, _, _], _ => rfl⟩
theorem rn64 (n : Nat) : runFn (n + 1) 64 = runB F64 N64.length (List.length ["value", "low", "high"]) (runFn n) := by kernel_rfl
theorem cy64 {n : Nat} (M : Ms K mg) (Cs : ∀ base, Css P w K mg base (n + 1) (runFn n)) (D : Dfn K mg "_law_is_number" "_law_is_number" (top 96)) : Cal P w K mg base (n + 2) "_law_is_number" ["value", "low", "high"] (runFn (n + 1) 64) := by
  rw [rn64 n]
  exact let ⟨f, fd, F, g⟩ := D.ex
    ⟨f, fd, fn_ok (Fi := F64) F sc64 (fun cdv A outer s H E c H0 Z0 hr z0 => P64 M (Cs base) hr z0), g, F.kp, F.bindsN fun _ _ _ _ _ _ us hl => match us, hl with | [_, _, _], _ => rfl⟩
theorem cz65 (D : Dfn K mg "_law_gcd" "_law_gcd" (top 97)) : Cal P w K mg base 1 "_law_gcd" ["one", "other"] (runFn 0 65) :=
  let ⟨f, fd, F, g⟩ := D.ex
  ⟨f, fd, fn_no F sc65 (fun _ _ => rfl), g, F.kp, F.bindsN fun _ _ _ _ _ _ us hl => match us, hl with | [_, _], _ => rfl⟩
theorem rn65 (n : Nat) : runFn (n + 1) 65 = runB F65 N65.length (List.length ["one", "other"]) (runFn n) := by kernel_rfl
theorem cy65 {n : Nat} (M : Ms K mg) (Cs : ∀ base, Css P w K mg base (n + 1) (runFn n)) (D : Dfn K mg "_law_gcd" "_law_gcd" (top 97)) : Cal P w K mg base (n + 2) "_law_gcd" ["one", "other"] (runFn (n + 1) 65) := by
  rw [rn65 n]
  exact let ⟨f, fd, F, g⟩ := D.ex
    ⟨f, fd, fn_ok (Fi := F65) F sc65 (fun cdv A outer s H E c H0 Z0 hr z0 => P65 M (Cs base) hr z0), g, F.kp, F.bindsN fun _ _ _ _ _ _ us hl => match us, hl with | [_, _], _ => rfl⟩
theorem cz66 (D : Dfn K mg "_law_low" "_law_low" (top 98)) : Cal P w K mg base 1 "_law_low" ["top", "bottom"] (runFn 0 66) :=
  let ⟨f, fd, F, g⟩ := D.ex
  ⟨f, fd, fn_no F sc66 (fun _ _ => rfl), g, F.kp, F.bindsN fun _ _ _ _ _ _ us hl => match us, hl with | [_, _], _ => rfl⟩
theorem rn66 (n : Nat) : runFn (n + 1) 66 = runB F66 N66.length (List.length ["top", "bottom"]) (runFn n) := by kernel_rfl
theorem cy66 {n : Nat} (M : Ms K mg) (Cs : ∀ base, Css P w K mg base (n + 1) (runFn n)) (D : Dfn K mg "_law_low" "_law_low" (top 98)) : Cal P w K mg base (n + 2) "_law_low" ["top", "bottom"] (runFn (n + 1) 66) := by
  rw [rn66 n]
  exact let ⟨f, fd, F, g⟩ := D.ex
    ⟨f, fd, fn_ok (Fi := F66) F sc66 (fun cdv A outer s H E c H0 Z0 hr z0 => P66 M (Cs base) hr z0), g, F.kp, F.bindsN fun _ _ _ _ _ _ us hl => match us, hl with | [_, _], _ => rfl⟩
theorem cz67 (D : Dfn K mg "_law_short" "_law_short" (top 99)) : Cal P w K mg base 1 "_law_short" ["parts"] (runFn 0 67) :=
  let ⟨f, fd, F, g⟩ := D.ex
  ⟨f, fd, fn_no F sc67 (fun _ _ => rfl), g, F.kp, F.bindsN fun _ _ _ _ _ _ us hl => match us, hl with | [_], _ => rfl⟩
theorem rn67 (n : Nat) : runFn (n + 1) 67 = runB F67 N67.length (List.length ["parts"]) (runFn n) := by kernel_rfl
theorem cy67 {n : Nat} (M : Ms K mg) (Cs : ∀ base, Css P w K mg base (n + 1) (runFn n)) (D : Dfn K mg "_law_short" "_law_short" (top 99)) : Cal P w K mg base (n + 2) "_law_short" ["parts"] (runFn (n + 1) 67) := by
  rw [rn67 n]
  exact let ⟨f, fd, F, g⟩ := D.ex
    ⟨f, fd, fn_ok (Fi := F67) F sc67 (fun cdv A outer s H E c H0 Z0 hr z0 => P67 M (Cs base) hr z0), g, F.kp, F.bindsN fun _ _ _ _ _ _ us hl => match us, hl with | [_], _ => rfl⟩
theorem cz68 (D : Dfn K mg "_law_at" "_law_at" (top 100)) : Cal P w K mg base 1 "_law_at" ["top", "bottom"] (runFn 0 68) :=
  let ⟨f, fd, F, g⟩ := D.ex
  ⟨f, fd, fn_no F sc68 (fun _ _ => rfl), g, F.kp, F.bindsN fun _ _ _ _ _ _ us hl => match us, hl with | [_, _], _ => rfl⟩
theorem rn68 (n : Nat) : runFn (n + 1) 68 = runB F68 N68.length (List.length ["top", "bottom"]) (runFn n) := by kernel_rfl
theorem cy68 {n : Nat} (M : Ms K mg) (Cs : ∀ base, Css P w K mg base (n + 1) (runFn n)) (D : Dfn K mg "_law_at" "_law_at" (top 100)) : Cal P w K mg base (n + 2) "_law_at" ["top", "bottom"] (runFn (n + 1) 68) := by
  rw [rn68 n]
  exact let ⟨f, fd, F, g⟩ := D.ex
    ⟨f, fd, fn_ok (Fi := F68) F sc68 (fun cdv A outer s H E c H0 Z0 hr z0 => P68 M (Cs base) hr z0), g, F.kp, F.bindsN fun _ _ _ _ _ _ us hl => match us, hl with | [_, _], _ => rfl⟩
theorem cz69 (D : Dfn K mg "_law_is_place" "_law_is_place" (top 101)) : Cal P w K mg base 1 "_law_is_place" ["value", "most"] (runFn 0 69) :=
  let ⟨f, fd, F, g⟩ := D.ex
  ⟨f, fd, fn_no F sc69 (fun _ _ => rfl), g, F.kp, F.bindsN fun _ _ _ _ _ _ us hl => match us, hl with | [_, _], _ => rfl⟩
theorem rn69 (n : Nat) : runFn (n + 1) 69 = runB F69 N69.length (List.length ["value", "most"]) (runFn n) := by kernel_rfl
theorem cy69 {n : Nat} (M : Ms K mg) (Cs : ∀ base, Css P w K mg base (n + 1) (runFn n)) (D : Dfn K mg "_law_is_place" "_law_is_place" (top 101)) : Cal P w K mg base (n + 2) "_law_is_place" ["value", "most"] (runFn (n + 1) 69) := by
  rw [rn69 n]
  exact let ⟨f, fd, F, g⟩ := D.ex
    ⟨f, fd, fn_ok (Fi := F69) F sc69 (fun cdv A outer s H E c H0 Z0 hr z0 => P69 M (Cs base) hr z0), g, F.kp, F.bindsN fun _ _ _ _ _ _ us hl => match us, hl with | [_, _], _ => rfl⟩
theorem cz70 (D : Dfn K mg "_law_spot" "_law_spot" (top 102)) : Cal P w K mg base 1 "_law_spot" ["cup", "great"] (runFn 0 70) :=
  let ⟨f, fd, F, g⟩ := D.ex
  ⟨f, fd, fn_no F sc70 (fun _ _ => rfl), g, F.kp, F.bindsN fun _ _ _ _ _ _ us hl => match us, hl with | [_, _], _ => rfl⟩
theorem rn70 (n : Nat) : runFn (n + 1) 70 = runB F70 N70.length (List.length ["cup", "great"]) (runFn n) := by kernel_rfl
theorem cy70 {n : Nat} (M : Ms K mg) (Cs : ∀ base, Css P w K mg base (n + 1) (runFn n)) (D : Dfn K mg "_law_spot" "_law_spot" (top 102)) : Cal P w K mg base (n + 2) "_law_spot" ["cup", "great"] (runFn (n + 1) 70) := by
  rw [rn70 n]
  exact let ⟨f, fd, F, g⟩ := D.ex
    ⟨f, fd, fn_ok (Fi := F70) F sc70 (fun cdv A outer s H E c H0 Z0 hr z0 => P70 M (Cs base) hr z0), g, F.kp, F.bindsN fun _ _ _ _ _ _ us hl => match us, hl with | [_, _], _ => rfl⟩
theorem cz71 (D : Dfn K mg "_law_point" "_law_point" (top 103)) : Cal P w K mg base 1 "_law_point" ["place"] (runFn 0 71) :=
  let ⟨f, fd, F, g⟩ := D.ex
  ⟨f, fd, fn_no F sc71 (fun _ _ => rfl), g, F.kp, F.bindsN fun _ _ _ _ _ _ us hl => match us, hl with | [_], _ => rfl⟩
theorem rn71 (n : Nat) : runFn (n + 1) 71 = runB F71 N71.length (List.length ["place"]) (runFn n) := by kernel_rfl
theorem cy71 {n : Nat} (M : Ms K mg) (Cs : ∀ base, Css P w K mg base (n + 1) (runFn n)) (D : Dfn K mg "_law_point" "_law_point" (top 103)) : Cal P w K mg base (n + 2) "_law_point" ["place"] (runFn (n + 1) 71) := by
  rw [rn71 n]
  exact let ⟨f, fd, F, g⟩ := D.ex
    ⟨f, fd, fn_ok (Fi := F71) F sc71 (fun cdv A outer s H E c H0 Z0 hr z0 => P71 M (Cs base) hr z0), g, F.kp, F.bindsN fun _ _ _ _ _ _ us hl => match us, hl with | [_], _ => rfl⟩
theorem cz72 (D : Dfn K mg "_law_place_of" "_law_place_of" (top 104)) : Cal P w K mg base 1 "_law_place_of" ["point"] (runFn 0 72) :=
  let ⟨f, fd, F, g⟩ := D.ex
  ⟨f, fd, fn_no F sc72 (fun _ _ => rfl), g, F.kp, F.bindsN fun _ _ _ _ _ _ us hl => match us, hl with | [_], _ => rfl⟩
theorem rn72 (n : Nat) : runFn (n + 1) 72 = runB F72 N72.length (List.length ["point"]) (runFn n) := by kernel_rfl
theorem cy72 {n : Nat} (M : Ms K mg) (Cs : ∀ base, Css P w K mg base (n + 1) (runFn n)) (D : Dfn K mg "_law_place_of" "_law_place_of" (top 104)) : Cal P w K mg base (n + 2) "_law_place_of" ["point"] (runFn (n + 1) 72) := by
  rw [rn72 n]
  exact let ⟨f, fd, F, g⟩ := D.ex
    ⟨f, fd, fn_ok (Fi := F72) F sc72 (fun cdv A outer s H E c H0 Z0 hr z0 => P72 M (Cs base) hr z0), g, F.kp, F.bindsN fun _ _ _ _ _ _ us hl => match us, hl with | [_], _ => rfl⟩
theorem cz73 (D : Dfn K mg "_law_dot" "_law_dot" (top 105)) : Cal P w K mg base 1 "_law_dot" ["one", "other"] (runFn 0 73) :=
  let ⟨f, fd, F, g⟩ := D.ex
  ⟨f, fd, fn_no F sc73 (fun _ _ => rfl), g, F.kp, F.bindsN fun _ _ _ _ _ _ us hl => match us, hl with | [_, _], _ => rfl⟩
theorem rn73 (n : Nat) : runFn (n + 1) 73 = runB F73 N73.length (List.length ["one", "other"]) (runFn n) := by kernel_rfl
theorem cy73 {n : Nat} (M : Ms K mg) (Cs : ∀ base, Css P w K mg base (n + 1) (runFn n)) (D : Dfn K mg "_law_dot" "_law_dot" (top 105)) : Cal P w K mg base (n + 2) "_law_dot" ["one", "other"] (runFn (n + 1) 73) := by
  rw [rn73 n]
  exact let ⟨f, fd, F, g⟩ := D.ex
    ⟨f, fd, fn_ok (Fi := F73) F sc73 (fun cdv A outer s H E c H0 Z0 hr z0 => P73 M (Cs base) hr z0), g, F.kp, F.bindsN fun _ _ _ _ _ _ us hl => match us, hl with | [_, _], _ => rfl⟩
theorem cz74 (D : Dfn K mg "_law_triple" "_law_triple" (top 106)) : Cal P w K mg base 1 "_law_triple" ["cup", "great"] (runFn 0 74) :=
  let ⟨f, fd, F, g⟩ := D.ex
  ⟨f, fd, fn_no F sc74 (fun _ _ => rfl), g, F.kp, F.bindsN fun _ _ _ _ _ _ us hl => match us, hl with | [_, _], _ => rfl⟩
theorem rn74 (n : Nat) : runFn (n + 1) 74 = runB F74 N74.length (List.length ["cup", "great"]) (runFn n) := by kernel_rfl
theorem cy74 {n : Nat} (M : Ms K mg) (Cs : ∀ base, Css P w K mg base (n + 1) (runFn n)) (D : Dfn K mg "_law_triple" "_law_triple" (top 106)) : Cal P w K mg base (n + 2) "_law_triple" ["cup", "great"] (runFn (n + 1) 74) := by
  rw [rn74 n]
  exact let ⟨f, fd, F, g⟩ := D.ex
    ⟨f, fd, fn_ok (Fi := F74) F sc74 (fun cdv A outer s H E c H0 Z0 hr z0 => P74 M (Cs base) hr z0), g, F.kp, F.bindsN fun _ _ _ _ _ _ us hl => match us, hl with | [_, _], _ => rfl⟩
theorem cz75 (D : Dfn K mg "_law_lead" "_law_lead" (top 107)) : Cal P w K mg base 1 "_law_lead" ["cup", "many"] (runFn 0 75) :=
  let ⟨f, fd, F, g⟩ := D.ex
  ⟨f, fd, fn_no F sc75 (fun _ _ => rfl), g, F.kp, F.bindsN fun _ _ _ _ _ _ us hl => match us, hl with | [_, _], _ => rfl⟩
theorem rn75 (n : Nat) : runFn (n + 1) 75 = runB F75 N75.length (List.length ["cup", "many"]) (runFn n) := by kernel_rfl
theorem cy75 {n : Nat} (M : Ms K mg) (Cs : ∀ base, Css P w K mg base (n + 1) (runFn n)) (D : Dfn K mg "_law_lead" "_law_lead" (top 107)) : Cal P w K mg base (n + 2) "_law_lead" ["cup", "many"] (runFn (n + 1) 75) := by
  rw [rn75 n]
  exact let ⟨f, fd, F, g⟩ := D.ex
    ⟨f, fd, fn_ok (Fi := F75) F sc75 (fun cdv A outer s H E c H0 Z0 hr z0 => P75 M (Cs base) hr z0), g, F.kp, F.bindsN fun _ _ _ _ _ _ us hl => match us, hl with | [_, _], _ => rfl⟩
theorem cz76 (D : Dfn K mg "_law_swing_of" "_law_swing_of" (top 108)) : Cal P w K mg base 1 "_law_swing_of" ["lead"] (runFn 0 76) :=
  let ⟨f, fd, F, g⟩ := D.ex
  ⟨f, fd, fn_no F sc76 (fun _ _ => rfl), g, F.kp, F.bindsN fun _ _ _ _ _ _ us hl => match us, hl with | [_], _ => rfl⟩
theorem rn76 (n : Nat) : runFn (n + 1) 76 = runB F76 N76.length (List.length ["lead"]) (runFn n) := by kernel_rfl
theorem cy76 {n : Nat} (M : Ms K mg) (Cs : ∀ base, Css P w K mg base (n + 1) (runFn n)) (D : Dfn K mg "_law_swing_of" "_law_swing_of" (top 108)) : Cal P w K mg base (n + 2) "_law_swing_of" ["lead"] (runFn (n + 1) 76) := by
  rw [rn76 n]
  exact let ⟨f, fd, F, g⟩ := D.ex
    ⟨f, fd, fn_ok (Fi := F76) F sc76 (fun cdv A outer s H E c H0 Z0 hr z0 => P76 M (Cs base) hr z0), g, F.kp, F.bindsN fun _ _ _ _ _ _ us hl => match us, hl with | [_], _ => rfl⟩
theorem cz77 (D : Dfn K mg "_law_right" "_law_right" (top 109)) : Cal P w K mg base 1 "_law_right" ["cup", "lead"] (runFn 0 77) :=
  let ⟨f, fd, F, g⟩ := D.ex
  ⟨f, fd, fn_no F sc77 (fun _ _ => rfl), g, F.kp, F.bindsN fun _ _ _ _ _ _ us hl => match us, hl with | [_, _], _ => rfl⟩
theorem rn77 (n : Nat) : runFn (n + 1) 77 = runB F77 N77.length (List.length ["cup", "lead"]) (runFn n) := by kernel_rfl
theorem cy77 {n : Nat} (M : Ms K mg) (Cs : ∀ base, Css P w K mg base (n + 1) (runFn n)) (D : Dfn K mg "_law_right" "_law_right" (top 109)) : Cal P w K mg base (n + 2) "_law_right" ["cup", "lead"] (runFn (n + 1) 77) := by
  rw [rn77 n]
  exact let ⟨f, fd, F, g⟩ := D.ex
    ⟨f, fd, fn_ok (Fi := F77) F sc77 (fun cdv A outer s H E c H0 Z0 hr z0 => P77 M (Cs base) hr z0), g, F.kp, F.bindsN fun _ _ _ _ _ _ us hl => match us, hl with | [_, _], _ => rfl⟩
theorem cz78 (D : Dfn K mg "_law_both_right" "_law_both_right" (top 110)) : Cal P w K mg base 1 "_law_both_right" ["one", "other"] (runFn 0 78) :=
  let ⟨f, fd, F, g⟩ := D.ex
  ⟨f, fd, fn_no F sc78 (fun _ _ => rfl), g, F.kp, F.bindsN fun _ _ _ _ _ _ us hl => match us, hl with | [_, _], _ => rfl⟩
theorem rn78 (n : Nat) : runFn (n + 1) 78 = runB F78 N78.length (List.length ["one", "other"]) (runFn n) := by kernel_rfl
theorem cy78 {n : Nat} (M : Ms K mg) (Cs : ∀ base, Css P w K mg base (n + 1) (runFn n)) (D : Dfn K mg "_law_both_right" "_law_both_right" (top 110)) : Cal P w K mg base (n + 2) "_law_both_right" ["one", "other"] (runFn (n + 1) 78) := by
  rw [rn78 n]
  exact let ⟨f, fd, F, g⟩ := D.ex
    ⟨f, fd, fn_ok (Fi := F78) F sc78 (fun cdv A outer s H E c H0 Z0 hr z0 => P78 M (Cs base) hr z0), g, F.kp, F.bindsN fun _ _ _ _ _ _ us hl => match us, hl with | [_, _], _ => rfl⟩
theorem cz79 (D : Dfn K mg "_law_perspective_right" "_law_perspective_right" (top 111)) : Cal P w K mg base 1 "_law_perspective_right" ["cup"] (runFn 0 79) :=
  let ⟨f, fd, F, g⟩ := D.ex
  ⟨f, fd, fn_no F sc79 (fun _ _ => rfl), g, F.kp, F.bindsN fun _ _ _ _ _ _ us hl => match us, hl with | [_], _ => rfl⟩
theorem rn79 (n : Nat) : runFn (n + 1) 79 = runB F79 N79.length (List.length ["cup"]) (runFn n) := by kernel_rfl
theorem cy79 {n : Nat} (M : Ms K mg) (Cs : ∀ base, Css P w K mg base (n + 1) (runFn n)) (D : Dfn K mg "_law_perspective_right" "_law_perspective_right" (top 111)) : Cal P w K mg base (n + 2) "_law_perspective_right" ["cup"] (runFn (n + 1) 79) := by
  rw [rn79 n]
  exact let ⟨f, fd, F, g⟩ := D.ex
    ⟨f, fd, fn_ok (Fi := F79) F sc79 (fun cdv A outer s H E c H0 Z0 hr z0 => P79 M (Cs base) hr z0), g, F.kp, F.bindsN fun _ _ _ _ _ _ us hl => match us, hl with | [_], _ => rfl⟩
theorem cz80 (D : Dfn K mg "_law_cross_of" "_law_cross_of" (top 112)) : Cal P w K mg base 1 "_law_cross_of" ["one", "other"] (runFn 0 80) :=
  let ⟨f, fd, F, g⟩ := D.ex
  ⟨f, fd, fn_no F sc80 (fun _ _ => rfl), g, F.kp, F.bindsN fun _ _ _ _ _ _ us hl => match us, hl with | [_, _], _ => rfl⟩
theorem rn80 (n : Nat) : runFn (n + 1) 80 = runB F80 N80.length (List.length ["one", "other"]) (runFn n) := by kernel_rfl
theorem cy80 {n : Nat} (M : Ms K mg) (Cs : ∀ base, Css P w K mg base (n + 1) (runFn n)) (D : Dfn K mg "_law_cross_of" "_law_cross_of" (top 112)) : Cal P w K mg base (n + 2) "_law_cross_of" ["one", "other"] (runFn (n + 1) 80) := by
  rw [rn80 n]
  exact let ⟨f, fd, F, g⟩ := D.ex
    ⟨f, fd, fn_ok (Fi := F80) F sc80 (fun cdv A outer s H E c H0 Z0 hr z0 => P80 M (Cs base) hr z0), g, F.kp, F.bindsN fun _ _ _ _ _ _ us hl => match us, hl with | [_, _], _ => rfl⟩
theorem cz81 (D : Dfn K mg "_law_written_right" "_law_written_right" (top 113)) : Cal P w K mg base 1 "_law_written_right" ["cup"] (runFn 0 81) :=
  let ⟨f, fd, F, g⟩ := D.ex
  ⟨f, fd, fn_no F sc81 (fun _ _ => rfl), g, F.kp, F.bindsN fun _ _ _ _ _ _ us hl => match us, hl with | [_], _ => rfl⟩
theorem rn81 (n : Nat) : runFn (n + 1) 81 = runB F81 N81.length (List.length ["cup"]) (runFn n) := by kernel_rfl
theorem cy81 {n : Nat} (M : Ms K mg) (Cs : ∀ base, Css P w K mg base (n + 1) (runFn n)) (D : Dfn K mg "_law_written_right" "_law_written_right" (top 113)) : Cal P w K mg base (n + 2) "_law_written_right" ["cup"] (runFn (n + 1) 81) := by
  rw [rn81 n]
  exact let ⟨f, fd, F, g⟩ := D.ex
    ⟨f, fd, fn_ok (Fi := F81) F sc81 (fun cdv A outer s H E c H0 Z0 hr z0 => P81 M (Cs base) hr z0), g, F.kp, F.bindsN fun _ _ _ _ _ _ us hl => match us, hl with | [_], _ => rfl⟩
theorem css (M : Ms K mg) (D : Dfs K mg) : ∀ (n : Nat) (base : Heap), Css P w K mg base (n + 1) (runFn n)
  | 0, base => ⟨cz0 D.d0, cz1 D.d1, cz2 D.d2, cz3 D.d3, cz4 D.d4, cz5 D.d5, cz6 D.d6, cz7 D.d7, cz8 D.d8, cz9 D.d9, cz10 D.d10, cz11 D.d11, cz12 D.d12, cz13 D.d13, cz14 D.d14, cz15 D.d15, cz16 D.d16, cz17 D.d17, cz18 D.d18, cz19 D.d19, cz20 D.d20, cz21 D.d21, cz22 D.d22, cz23 D.d23, cz24 D.d24, cz25 D.d25, cz26 D.d26, cz27 D.d27, cz28 D.d28, cz29 D.d29, cz30 D.d30, cz31 D.d31, cz32 D.d32, cz33 D.d33, cz34 D.d34, cz35 D.d35, cz36 D.d36, cz37 D.d37, cz38 D.d38, cz39 D.d39, cz40 D.d40, cz41 D.d41, cz42 D.d42, cz43 D.d43, cz44 D.d44, cz45 D.d45, cz46 D.d46, cz47 D.d47, cz48 D.d48, cz49 D.d49, cz50 D.d50, cz51 D.d51, cz52 D.d52, cz53 D.d53, cz54 D.d54, cz55 D.d55, cz56 D.d56, cz57 D.d57, cz58 D.d58, cz60 D.d60, cz61 D.d61, cz62 D.d62, cz63 D.d63, cz64 D.d64, cz65 D.d65, cz66 D.d66, cz67 D.d67, cz68 D.d68, cz69 D.d69, cz70 D.d70, cz71 D.d71, cz72 D.d72, cz73 D.d73, cz74 D.d74, cz75 D.d75, cz76 D.d76, cz77 D.d77, cz78 D.d78, cz79 D.d79, cz80 D.d80, cz81 D.d81⟩
  | n + 1, base => ⟨cy0 M (css M D n) D.d0, cy1 M (css M D n) D.d1, cy2 M (css M D n) D.d2, cy3 M (css M D n) D.d3, cy4 M (css M D n) D.d4, cy5 M (css M D n) D.d5, cy6 M (css M D n) D.d6, cy7 M (css M D n) D.d7, cy8 M (css M D n) D.d8, cy9 M (css M D n) D.d9, cy10 M (css M D n) D.d10, cy11 M (css M D n) D.d11, cy12 M (css M D n) D.d12, cy13 M (css M D n) D.d13, cy14 M (css M D n) D.d14, cy15 M (css M D n) D.d15, cy16 M (css M D n) D.d16, cy17 M (css M D n) D.d17, cy18 M (css M D n) D.d18, cy19 M (css M D n) D.d19, cy20 M (css M D n) D.d20, cy21 M (css M D n) D.d21, cy22 M (css M D n) D.d22, cy23 M (css M D n) D.d23, cy24 M (css M D n) D.d24, cy25 M (css M D n) D.d25, cy26 M (css M D n) D.d26, cy27 M (css M D n) D.d27, cy28 M (css M D n) D.d28, cy29 M (css M D n) D.d29, cy30 M (css M D n) D.d30, cy31 M (css M D n) D.d31, cy32 M (css M D n) D.d32, cy33 M (css M D n) D.d33, cy34 M (css M D n) D.d34, cy35 M (css M D n) D.d35, cy36 M (css M D n) D.d36, cy37 M (css M D n) D.d37, cy38 M (css M D n) D.d38, cy39 M (css M D n) D.d39, cy40 M (css M D n) D.d40, cy41 M (css M D n) D.d41, cy42 M (css M D n) D.d42, cy43 M (css M D n) D.d43, cy44 M (css M D n) D.d44, cy45 M (css M D n) D.d45, cy46 M (css M D n) D.d46, cy47 M (css M D n) D.d47, cy48 M (css M D n) D.d48, cy49 M (css M D n) D.d49, cy50 M (css M D n) D.d50, cy51 M (css M D n) D.d51, cy52 M (css M D n) D.d52, cy53 M (css M D n) D.d53, cy54 M (css M D n) D.d54, cy55 M (css M D n) D.d55, cy56 M (css M D n) D.d56, cy57 M (css M D n) D.d57, cy58 M (css M D n) D.d58, cy60 M (css M D n) D.d60, cy61 M (css M D n) D.d61, cy62 M (css M D n) D.d62, cy63 M (css M D n) D.d63, cy64 M (css M D n) D.d64, cy65 M (css M D n) D.d65, cy66 M (css M D n) D.d66, cy67 M (css M D n) D.d67, cy68 M (css M D n) D.d68, cy69 M (css M D n) D.d69, cy70 M (css M D n) D.d70, cy71 M (css M D n) D.d71, cy72 M (css M D n) D.d72, cy73 M (css M D n) D.d73, cy74 M (css M D n) D.d74, cy75 M (css M D n) D.d75, cy76 M (css M D n) D.d76, cy77 M (css M D n) D.d77, cy78 M (css M D n) D.d78, cy79 M (css M D n) D.d79, cy80 M (css M D n) D.d80, cy81 M (css M D n) D.d81⟩
theorem ok_cup {f : Addr} {fd : FuncData} (M : Ms K mg) (F : FunD K "_law_cup" "_law_cup" (defArgs (top 91)) (defBody (top 91)) (defScope (top 91)) [] [] f fd) : FnOk P w K mg base CX0 1 f fd ["script"] (spCup K) := by
  refine F.ok sc59 (fun vs H Q E h => ?_) (fun cdv A outer s H vs Q E hr h => ⟨tCup K, PSs.nox (pss_cons (ps_set (i := 1) sc59.nd rfl (Or.inl rfl) (pe_callB call_abs rfl M.b_abs bt_abs (pa_cons (pe_ix ix_list (pe_op op_cat (pe_callTy call_list_of rfl M.b_list bt_list (pa_cons (pv 0) pa_nil)) (pe_lst (pa_cons pe_int pa_nil))) pe_int (fun _ _ => rfl)) pa_nil)))
    (pss_one (ps_ret (pe_lst (pa_cons (pe_ifExp (pt_cmpR op_ge (pv 1) (pe_op op_pow pe_int pe_int) (nomark _)) (pe_op op_fdivA (pv 1) pe_int) pe_int) (pa_cons (pe_op op_add (pe_op op_modN (pe_callTy call_int1 rfl M.b_int bt_int (pa_cons (pe_op op_add (pe_op op_mul64 (pv 1) pe_int) pe_int) pa_nil)) pe_int) pe_int) pa_nil)))))), cup_pure vs H Q E h⟩)
  obtain ⟨a, ns, rfl, _⟩ := h
  rfl
theorem ok_law {f : Addr} {fd : FuncData} {k : Nat} (M : Ms K mg) (D : Dfs K mg) (Dc : Dfn K mg "_law_cup" "_law_cup" (top 91)) (F : FunD K "law" "law" (defArgs (top 114)) (defBody (top 114)) (defScope (top 114)) [] [] f fd)
    (hl : ∀ ns : List Int, ∃ cs', F82 (runFn k) (envL 5 1) (cupOf ns) = some (.ret (.bool true), cs')) : FnOk P w K mg base CX0 (k + 2) f fd ["script"] (spLaw K) := by
  obtain ⟨fC, fdC, FC, gC⟩ := Dc.ex
  have bC : Binds K fdC ["script"] [] := FC.bindsN fun _ _ _ _ _ _ us hl => match us, hl with | [_], _ => rfl
  refine F.ok sc82 (fun vs H Q E h => ?_) (fun cdv A outer s H vs Q E hr h => ⟨tSeq (tAsg (tCall (spCup K) [] E0 (tCons (tVar 0) tNil)) (gName 1)) (lL K (F82 (runFn k))), PSs.nox (pss_cons (ps_set (i := 1) sc82.nd rfl (Or.inl rfl) (pe_call (ok_cup M FC) (hr.mono (by omega)) rfl gC FC.kp bC .nil pass0 (pa_cons (pv 0) pa_nil))) (p_law fun c H0 Z0 z => P82 M (css M D k base) hr z)), ?_⟩)
  · obtain ⟨a, ns, rfl, _⟩ := h
    rfl
  · obtain ⟨a, ns, rfl, hS, hn, hQ⟩ := h
    obtain ⟨cs', he⟩ := hl ns
    exact ⟨.ref a, rfl, a, ns, rfl, hS, hn, fun l H' hx h1 h2 => law_enters (n := 5) (i := 1) rfl (by decide) h1 he hQ⟩
end
end Wk
end
section
set_option Elab.async false
set_option linter.all false
set_option maxRecDepth 100000
set_option maxHeartbeats 4000000
namespace Wk
open PySem PySem.Spec PyProof.Rows L2 Se
/-! ### behind the head -/
section
variable {P : Program} {w : World} {K : PySem.W.Frag} {h : Heap} {mg : Str → Option Value}
theorem ms_ok (X : K.In h) (G : h.Ns mainGlobals mg) (c : He.SaysD fa fn K) (ce : ex K = true) : Ms K mg :=
  ⟨He.free_ok X G (c.fact 83 (f := .free "abs") rfl),
    He.free_ok X G (c.fact 84 (f := .free "all") rfl),
    He.free_ok X G (c.fact 85 (f := .free "any") rfl),
    He.free_ok X G (c.fact 86 (f := .free "bool") rfl),
    He.free_ok X G (c.fact 87 (f := .free "enumerate") rfl),
    bltG_ok X G (ex_at ce 0 rfl),
    He.free_ok X G (c.fact 88 (f := .free "int") rfl),
    He.free_ok X G (c.fact 89 (f := .free "isinstance") rfl),
    bltG_ok X G (ex_at ce 1 rfl),
    He.free_ok X G (c.fact 90 (f := .free "len") rfl),
    He.free_ok X G (c.fact 91 (f := .free "list") rfl),
    He.free_ok X G (c.fact 92 (f := .free "max") rfl),
    He.free_ok X G (c.fact 93 (f := .free "range") rfl),
    He.free_ok X G (c.fact 94 (f := .free "set") rfl),
    He.free_ok X G (c.fact 95 (f := .free "sorted") rfl),
    He.free_ok X G (c.fact 96 (f := .free "str") rfl),
    He.free_ok X G (c.fact 97 (f := .free "sum") rfl),
    He.free_ok X G (c.fact 98 (f := .free "tuple") rfl),
    He.free_ok X G (c.fact 99 (f := .free "zip") rfl),
    He.int_ok X G (c.fact 100 (f := .int "GREAT" (1000000000000000000000000000000000000000000000000000000000000)) rfl),
    He.int_ok X G (c.fact 101 (f := .int "LINES" (9)) rfl),
    He.int_ok X G (c.fact 102 (f := .int "MANY" (60)) rfl),
    cstG_ok X G (ex_at ce 2 rfl),
    He.int_ok X G (c.fact 103 (f := .int "PART_swings" (1000000000)) rfl),
    He.int_ok X G (c.fact 104 (f := .int "PART_triples" (1000000000)) rfl),
    He.int_ok X G (c.fact 105 (f := .int "ROUNDS" (6)) rfl),
    He.int_ok X G (c.fact 106 (f := .int "SIZE" (10000)) rfl),
    He.int_ok X G (c.fact 107 (f := .int "SMALL_drawsteps" (100)) rfl),
    He.int_ok X G (c.fact 108 (f := .int "SMALL_swings" (1000)) rfl),
    dcG_ok X G (ex_at ce 3 rfl)⟩
theorem df0 (X : K.In h) (G : h.Ns mainGlobals mg) (c : He.SaysD fa fn K) : Dfn K mg "is_whole" "is_whole" (top 11) :=
  let ⟨fd, F⟩ := c.def_ 0 (d := dd0) rfl
  ⟨_, fd, F, He.glo_ok X G (c.fact 0 (f := .glo "is_whole") rfl)⟩
theorem df1 (X : K.In h) (G : h.Ns mainGlobals mg) (c : He.SaysD fa fn K) : Dfn K mg "need_whole" "need_whole" (top 12) :=
  let ⟨fd, F⟩ := c.def_ 1 (d := dd1) rfl
  ⟨_, fd, F, He.glo_ok X G (c.fact 1 (f := .glo "need_whole") rfl)⟩
theorem df2 (X : K.In h) (G : h.Ns mainGlobals mg) (c : He.SaysD fa fn K) : Dfn K mg "is_tuple_of" "is_tuple_of" (top 13) :=
  let ⟨fd, F⟩ := c.def_ 2 (d := dd2) rfl
  ⟨_, fd, F, He.glo_ok X G (c.fact 2 (f := .glo "is_tuple_of") rfl)⟩
theorem df3 (X : K.In h) (G : h.Ns mainGlobals mg) (c : He.SaysD fa fn K) : Dfn K mg "lowest" "lowest" (top 15) :=
  let ⟨fd, F⟩ := c.def_ 3 (d := dd3) rfl
  ⟨_, fd, F, He.glo_ok X G (c.fact 3 (f := .glo "lowest") rfl)⟩
theorem df4 (X : K.In h) (G : h.Ns mainGlobals mg) (c : He.SaysD fa fn K) : Dfn K mg "fits_place" "fits_place" (top 22) :=
  let ⟨fd, F⟩ := c.def_ 4 (d := dd4) rfl
  ⟨_, fd, F, He.glo_ok X G (c.fact 4 (f := .glo "fits_place") rfl)⟩
theorem df5 (X : K.In h) (G : h.Ns mainGlobals mg) (c : He.SaysD fa fn K) : Dfn K mg "need_place" "need_place" (top 23) :=
  let ⟨fd, F⟩ := c.def_ 5 (d := dd5) rfl
  ⟨_, fd, F, He.glo_ok X G (c.fact 5 (f := .glo "need_place") rfl)⟩
theorem df6 (X : K.In h) (G : h.Ns mainGlobals mg) (c : He.SaysD fa fn K) : Dfn K mg "measure" "measure" (top 24) :=
  let ⟨fd, F⟩ := c.def_ 6 (d := dd6) rfl
  ⟨_, fd, F, He.glo_ok X G (c.fact 6 (f := .glo "measure") rfl)⟩
theorem df7 (X : K.In h) (G : h.Ns mainGlobals mg) (c : He.SaysD fa fn K) : Dfn K mg "trace" "trace" (top 25) :=
  let ⟨fd, F⟩ := c.def_ 7 (d := dd7) rfl
  ⟨_, fd, F, He.glo_ok X G (c.fact 7 (f := .glo "trace") rfl)⟩
theorem df8 (X : K.In h) (G : h.Ns mainGlobals mg) (c : He.SaysD fa fn K) : Dfn K mg "shortened" "shortened" (top 26) :=
  let ⟨fd, F⟩ := c.def_ 8 (d := dd8) rfl
  ⟨_, fd, F, He.glo_ok X G (c.fact 8 (f := .glo "shortened") rfl)⟩
theorem df9 (X : K.In h) (G : h.Ns mainGlobals mg) (c : He.SaysD fa fn K) : Dfn K mg "fits_swing" "fits_swing" (top 27) :=
  let ⟨fd, F⟩ := c.def_ 9 (d := dd9) rfl
  ⟨_, fd, F, He.glo_ok X G (c.fact 9 (f := .glo "fits_swing") rfl)⟩
theorem df10 (X : K.In h) (G : h.Ns mainGlobals mg) (c : He.SaysD fa fn K) : Dfn K mg "need_swing" "need_swing" (top 28) :=
  let ⟨fd, F⟩ := c.def_ 10 (d := dd10) rfl
  ⟨_, fd, F, He.glo_ok X G (c.fact 10 (f := .glo "need_swing") rfl)⟩
theorem df11 (X : K.In h) (G : h.Ns mainGlobals mg) (c : He.SaysD fa fn K) : Dfn K mg "need_two" "need_two" (top 29) :=
  let ⟨fd, F⟩ := c.def_ 11 (d := dd11) rfl
  ⟨_, fd, F, He.glo_ok X G (c.fact 11 (f := .glo "need_two") rfl)⟩
theorem df12 (X : K.In h) (G : h.Ns mainGlobals mg) (c : He.SaysD fa fn K) : Dfn K mg "plain_place" "plain_place" (top 30) :=
  let ⟨fd, F⟩ := c.def_ 12 (d := dd12) rfl
  ⟨_, fd, F, He.glo_ok X G (c.fact 12 (f := .glo "plain_place") rfl)⟩
theorem df13 (X : K.In h) (G : h.Ns mainGlobals mg) (c : He.SaysD fa fn K) : Dfn K mg "carried" "carried" (top 31) :=
  let ⟨fd, F⟩ := c.def_ 13 (d := dd13) rfl
  ⟨_, fd, F, He.glo_ok X G (c.fact 13 (f := .glo "carried") rfl)⟩
theorem df14 (X : K.In h) (G : h.Ns mainGlobals mg) (c : He.SaysD fa fn K) : Dfn K mg "raw_product" "raw_product" (top 32) :=
  let ⟨fd, F⟩ := c.def_ 14 (d := dd14) rfl
  ⟨_, fd, F, He.glo_ok X G (c.fact 14 (f := .glo "raw_product") rfl)⟩
theorem df15 (X : K.In h) (G : h.Ns mainGlobals mg) (c : He.SaysD fa fn K) : Dfn K mg "product" "product" (top 33) :=
  let ⟨fd, F⟩ := c.def_ 15 (d := dd15) rfl
  ⟨_, fd, F, He.glo_ok X G (c.fact 15 (f := .glo "product") rfl)⟩
theorem df16 (X : K.In h) (G : h.Ns mainGlobals mg) (c : He.SaysD fa fn K) : Dfn K mg "undone" "undone" (top 34) :=
  let ⟨fd, F⟩ := c.def_ 16 (d := dd16) rfl
  ⟨_, fd, F, He.glo_ok X G (c.fact 16 (f := .glo "undone") rfl)⟩
theorem df17 (X : K.In h) (G : h.Ns mainGlobals mg) (c : He.SaysD fa fn K) : Dfn K mg "frame_of" "frame_of" (top 35) :=
  let ⟨fd, F⟩ := c.def_ 17 (d := dd17) rfl
  ⟨_, fd, F, He.glo_ok X G (c.fact 17 (f := .glo "frame_of") rfl)⟩
theorem df18 (X : K.In h) (G : h.Ns mainGlobals mg) (c : He.SaysD fa fn K) : Dfn K mg "need_three" "need_three" (top 36) :=
  let ⟨fd, F⟩ := c.def_ 18 (d := dd18) rfl
  ⟨_, fd, F, He.glo_ok X G (c.fact 18 (f := .glo "need_three") rfl)⟩
theorem df19 (X : K.In h) (G : h.Ns mainGlobals mg) (c : He.SaysD fa fn K) : Dfn K mg "is_swing" "is_swing" (top 37) :=
  let ⟨fd, F⟩ := c.def_ 19 (d := dd19) rfl
  ⟨_, fd, F, He.glo_ok X G (c.fact 19 (f := .glo "is_swing") rfl)⟩
theorem df20 (X : K.In h) (G : h.Ns mainGlobals mg) (c : He.SaysD fa fn K) : Dfn K mg "carried_place" "carried_place" (top 38) :=
  let ⟨fd, F⟩ := c.def_ 20 (d := dd20) rfl
  ⟨_, fd, F, He.glo_ok X G (c.fact 20 (f := .glo "carried_place") rfl)⟩
theorem df21 (X : K.In h) (G : h.Ns mainGlobals mg) (c : He.SaysD fa fn K) : Dfn K mg "swings_together" "swings_together" (top 39) :=
  let ⟨fd, F⟩ := c.def_ 21 (d := dd21) rfl
  ⟨_, fd, F, He.glo_ok X G (c.fact 21 (f := .glo "swings_together") rfl)⟩
theorem df22 (X : K.In h) (G : h.Ns mainGlobals mg) (c : He.SaysD fa fn K) : Dfn K mg "swing_back" "swing_back" (top 40) :=
  let ⟨fd, F⟩ := c.def_ 22 (d := dd22) rfl
  ⟨_, fd, F, He.glo_ok X G (c.fact 22 (f := .glo "swing_back") rfl)⟩
theorem df23 (X : K.In h) (G : h.Ns mainGlobals mg) (c : He.SaysD fa fn K) : Dfn K mg "swing_through" "swing_through" (top 41) :=
  let ⟨fd, F⟩ := c.def_ 23 (d := dd23) rfl
  ⟨_, fd, F, He.glo_ok X G (c.fact 23 (f := .glo "swing_through") rfl)⟩
theorem df24 (X : K.In h) (G : h.Ns mainGlobals mg) (c : He.SaysD fa fn K) : Dfn K mg "number_in" "number_in" (top 45) :=
  let ⟨fd, F⟩ := c.def_ 24 (d := dd24) rfl
  ⟨_, fd, F, He.glo_ok X G (c.fact 24 (f := .glo "number_in") rfl)⟩
theorem df25 (X : K.In h) (G : h.Ns mainGlobals mg) (c : He.SaysD fa fn K) : Dfn K mg "order_in" "order_in" (top 46) :=
  let ⟨fd, F⟩ := c.def_ 25 (d := dd25) rfl
  ⟨_, fd, F, He.glo_ok X G (c.fact 25 (f := .glo "order_in") rfl)⟩
theorem df26 (X : K.In h) (G : h.Ns mainGlobals mg) (c : He.SaysD fa fn K) : Dfn K mg "swing_order" "swing_order" (top 47) :=
  let ⟨fd, F⟩ := c.def_ 26 (d := dd26) rfl
  ⟨_, fd, F, He.glo_ok X G (c.fact 26 (f := .glo "swing_order") rfl)⟩
theorem df27 (X : K.In h) (G : h.Ns mainGlobals mg) (c : He.SaysD fa fn K) : Dfn K mg "swing_power" "swing_power" (top 48) :=
  let ⟨fd, F⟩ := c.def_ 27 (d := dd27) rfl
  ⟨_, fd, F, He.glo_ok X G (c.fact 27 (f := .glo "swing_power") rfl)⟩
theorem df28 (X : K.In h) (G : h.Ns mainGlobals mg) (c : He.SaysD fa fn K) : Dfn K mg "path_of" "path_of" (top 49) :=
  let ⟨fd, F⟩ := c.def_ 28 (d := dd28) rfl
  ⟨_, fd, F, He.glo_ok X G (c.fact 28 (f := .glo "path_of") rfl)⟩
theorem df29 (X : K.In h) (G : h.Ns mainGlobals mg) (c : He.SaysD fa fn K) : Dfn K mg "is_three" "is_three" (top 52) :=
  let ⟨fd, F⟩ := c.def_ 29 (d := dd29) rfl
  ⟨_, fd, F, He.glo_ok X G (c.fact 29 (f := .glo "is_three") rfl)⟩
theorem df30 (X : K.In h) (G : h.Ns mainGlobals mg) (c : He.SaysD fa fn K) : Dfn K mg "is_triple" "is_triple" (top 53) :=
  let ⟨fd, F⟩ := c.def_ 30 (d := dd30) rfl
  ⟨_, fd, F, He.glo_ok X G (c.fact 30 (f := .glo "is_triple") rfl)⟩
theorem df31 (X : K.In h) (G : h.Ns mainGlobals mg) (c : He.SaysD fa fn K) : Dfn K mg "plainly" "plainly" (top 54) :=
  let ⟨fd, F⟩ := c.def_ 31 (d := dd31) rfl
  ⟨_, fd, F, He.glo_ok X G (c.fact 31 (f := .glo "plainly") rfl)⟩
theorem df32 (X : K.In h) (G : h.Ns mainGlobals mg) (c : He.SaysD fa fn K) : Dfn K mg "need_triple" "need_triple" (top 55) :=
  let ⟨fd, F⟩ := c.def_ 32 (d := dd32) rfl
  ⟨_, fd, F, He.glo_ok X G (c.fact 32 (f := .glo "need_triple") rfl)⟩
theorem df33 (X : K.In h) (G : h.Ns mainGlobals mg) (c : He.SaysD fa fn K) : Dfn K mg "dot" "dot" (top 56) :=
  let ⟨fd, F⟩ := c.def_ 33 (d := dd33) rfl
  ⟨_, fd, F, He.glo_ok X G (c.fact 33 (f := .glo "dot") rfl)⟩
theorem df34 (X : K.In h) (G : h.Ns mainGlobals mg) (c : He.SaysD fa fn K) : Dfn K mg "cross" "cross" (top 57) :=
  let ⟨fd, F⟩ := c.def_ 34 (d := dd34) rfl
  ⟨_, fd, F, He.glo_ok X G (c.fact 34 (f := .glo "cross") rfl)⟩
theorem df35 (X : K.In h) (G : h.Ns mainGlobals mg) (c : He.SaysD fa fn K) : Dfn K mg "is_small" "is_small" (top 60) :=
  let ⟨fd, F⟩ := c.def_ 35 (d := dd35) rfl
  ⟨_, fd, F, He.glo_ok X G (c.fact 35 (f := .glo "is_small") rfl)⟩
theorem df36 (X : K.In h) (G : h.Ns mainGlobals mg) (c : He.SaysD fa fn K) : Dfn K mg "fits" "fits" (top 64) :=
  let ⟨fd, F⟩ := c.def_ 36 (d := dd36) rfl
  ⟨_, fd, F, He.glo_ok X G (c.fact 36 (f := .glo "fits") rfl)⟩
theorem df37 (X : K.In h) (G : h.Ns mainGlobals mg) (c : He.SaysD fa fn K) : Dfn K mg "need_lead" "need_lead" (top 65) :=
  let ⟨fd, F⟩ := c.def_ 37 (d := dd37) rfl
  ⟨_, fd, F, He.glo_ok X G (c.fact 37 (f := .glo "need_lead") rfl)⟩
theorem df38 (X : K.In h) (G : h.Ns mainGlobals mg) (c : He.SaysD fa fn K) : Dfn K mg "need_closed" "need_closed" (top 66) :=
  let ⟨fd, F⟩ := c.def_ 38 (d := dd38) rfl
  ⟨_, fd, F, He.glo_ok X G (c.fact 38 (f := .glo "need_closed") rfl)⟩
theorem df39 (X : K.In h) (G : h.Ns mainGlobals mg) (c : He.SaysD fa fn K) : Dfn K mg "led" "led" (top 67) :=
  let ⟨fd, F⟩ := c.def_ 39 (d := dd39) rfl
  ⟨_, fd, F, He.glo_ok X G (c.fact 39 (f := .glo "led") rfl)⟩
theorem df40 (X : K.In h) (G : h.Ns mainGlobals mg) (c : He.SaysD fa fn K) : Dfn K mg "base_of" "base_of" (top 68) :=
  let ⟨fd, F⟩ := c.def_ 40 (d := dd40) rfl
  ⟨_, fd, F, He.glo_ok X G (c.fact 40 (f := .glo "base_of") rfl)⟩
theorem df41 (X : K.In h) (G : h.Ns mainGlobals mg) (c : He.SaysD fa fn K) : Dfn K mg "form_of" "form_of" (top 69) :=
  let ⟨fd, F⟩ := c.def_ 41 (d := dd41) rfl
  ⟨_, fd, F, He.glo_ok X G (c.fact 41 (f := .glo "form_of") rfl)⟩
theorem df42 (X : K.In h) (G : h.Ns mainGlobals mg) (c : He.SaysD fa fn K) : Dfn K mg "roots_of" "roots_of" (top 70) :=
  let ⟨fd, F⟩ := c.def_ 42 (d := dd42) rfl
  ⟨_, fd, F, He.glo_ok X G (c.fact 42 (f := .glo "roots_of") rfl)⟩
theorem df43 (X : K.In h) (G : h.Ns mainGlobals mg) (c : He.SaysD fa fn K) : Dfn K mg "is_home" "is_home" (top 71) :=
  let ⟨fd, F⟩ := c.def_ 43 (d := dd43) rfl
  ⟨_, fd, F, He.glo_ok X G (c.fact 43 (f := .glo "is_home") rfl)⟩
theorem df44 (X : K.In h) (G : h.Ns mainGlobals mg) (c : He.SaysD fa fn K) : Dfn K mg "rounds_in" "rounds_in" (top 72) :=
  let ⟨fd, F⟩ := c.def_ 44 (d := dd44) rfl
  ⟨_, fd, F, He.glo_ok X G (c.fact 44 (f := .glo "rounds_in") rfl)⟩
theorem df45 (X : K.In h) (G : h.Ns mainGlobals mg) (c : He.SaysD fa fn K) : Dfn K mg "is_lead" "is_lead" (top 73) :=
  let ⟨fd, F⟩ := c.def_ 45 (d := dd45) rfl
  ⟨_, fd, F, He.glo_ok X G (c.fact 45 (f := .glo "is_lead") rfl)⟩
theorem df46 (X : K.In h) (G : h.Ns mainGlobals mg) (c : He.SaysD fa fn K) : Dfn K mg "is_closed" "is_closed" (top 74) :=
  let ⟨fd, F⟩ := c.def_ 46 (d := dd46) rfl
  ⟨_, fd, F, He.glo_ok X G (c.fact 46 (f := .glo "is_closed") rfl)⟩
theorem df47 (X : K.In h) (G : h.Ns mainGlobals mg) (c : He.SaysD fa fn K) : Dfn K mg "led_by" "led_by" (top 75) :=
  let ⟨fd, F⟩ := c.def_ 47 (d := dd47) rfl
  ⟨_, fd, F, He.glo_ok X G (c.fact 47 (f := .glo "led_by") rfl)⟩
theorem df48 (X : K.In h) (G : h.Ns mainGlobals mg) (c : He.SaysD fa fn K) : Dfn K mg "kept_points" "kept_points" (top 76) :=
  let ⟨fd, F⟩ := c.def_ 48 (d := dd48) rfl
  ⟨_, fd, F, He.glo_ok X G (c.fact 48 (f := .glo "kept_points") rfl)⟩
theorem df49 (X : K.In h) (G : h.Ns mainGlobals mg) (c : He.SaysD fa fn K) : Dfn K mg "rounds_to_home" "rounds_to_home" (top 77) :=
  let ⟨fd, F⟩ := c.def_ 49 (d := dd49) rfl
  ⟨_, fd, F, He.glo_ok X G (c.fact 49 (f := .glo "rounds_to_home") rfl)⟩
theorem df50 (X : K.In h) (G : h.Ns mainGlobals mg) (c : He.SaysD fa fn K) : Dfn K mg "joined_leads" "joined_leads" (top 78) :=
  let ⟨fd, F⟩ := c.def_ 50 (d := dd50) rfl
  ⟨_, fd, F, He.glo_ok X G (c.fact 50 (f := .glo "joined_leads") rfl)⟩
theorem df51 (X : K.In h) (G : h.Ns mainGlobals mg) (c : He.SaysD fa fn K) : Dfn K mg "gauge" "gauge" (top 80) :=
  let ⟨fd, F⟩ := c.def_ 51 (d := dd51) rfl
  ⟨_, fd, F, He.glo_ok X G (c.fact 51 (f := .glo "gauge") rfl)⟩
theorem df52 (X : K.In h) (G : h.Ns mainGlobals mg) (c : He.SaysD fa fn K) : Dfn K mg "fixed_in" "fixed_in" (top 81) :=
  let ⟨fd, F⟩ := c.def_ 52 (d := dd52) rfl
  ⟨_, fd, F, He.glo_ok X G (c.fact 52 (f := .glo "fixed_in") rfl)⟩
theorem df53 (X : K.In h) (G : h.Ns mainGlobals mg) (c : He.SaysD fa fn K) : Dfn K mg "gauge_of" "gauge_of" (top 82) :=
  let ⟨fd, F⟩ := c.def_ 53 (d := dd53) rfl
  ⟨_, fd, F, He.glo_ok X G (c.fact 53 (f := .glo "gauge_of") rfl)⟩
theorem df54 (X : K.In h) (G : h.Ns mainGlobals mg) (c : He.SaysD fa fn K) : Dfn K mg "fixed_places" "fixed_places" (top 83) :=
  let ⟨fd, F⟩ := c.def_ 54 (d := dd54) rfl
  ⟨_, fd, F, He.glo_ok X G (c.fact 54 (f := .glo "fixed_places") rfl)⟩
theorem df55 (X : K.In h) (G : h.Ns mainGlobals mg) (c : He.SaysD fa fn K) : Dfn K mg "bare" "bare" (top 85) :=
  let ⟨fd, F⟩ := c.def_ 55 (d := dd55) rfl
  ⟨_, fd, F, He.glo_ok X G (c.fact 55 (f := .glo "bare") rfl)⟩
theorem df56 (X : K.In h) (G : h.Ns mainGlobals mg) (c : He.SaysD fa fn K) : Dfn K mg "shape_in" "shape_in" (top 86) :=
  let ⟨fd, F⟩ := c.def_ 56 (d := dd56) rfl
  ⟨_, fd, F, He.glo_ok X G (c.fact 56 (f := .glo "shape_in") rfl)⟩
theorem df57 (X : K.In h) (G : h.Ns mainGlobals mg) (c : He.SaysD fa fn K) : Dfn K mg "are_swings_alike" "are_swings_alike" (top 87) :=
  let ⟨fd, F⟩ := c.def_ 57 (d := dd57) rfl
  ⟨_, fd, F, He.glo_ok X G (c.fact 57 (f := .glo "are_swings_alike") rfl)⟩
theorem df58 (X : K.In h) (G : h.Ns mainGlobals mg) (c : He.SaysD fa fn K) : Dfn K mg "does_turn_back" "does_turn_back" (top 89) :=
  let ⟨fd, F⟩ := c.def_ 58 (d := dd58) rfl
  ⟨_, fd, F, He.glo_ok X G (c.fact 58 (f := .glo "does_turn_back") rfl)⟩
theorem df60 (X : K.In h) (G : h.Ns mainGlobals mg) (c : He.SaysD fa fn K) : Dfn K mg "_law_roll" "_law_roll" (top 92) :=
  let ⟨fd, F⟩ := c.def_ 59 (d := dd60) rfl
  ⟨_, fd, F, He.glo_ok X G (c.fact 59 (f := .glo "_law_roll") rfl)⟩
theorem df61 (X : K.In h) (G : h.Ns mainGlobals mg) (c : He.SaysD fa fn K) : Dfn K mg "_law_some" "_law_some" (top 93) :=
  let ⟨fd, F⟩ := c.def_ 60 (d := dd61) rfl
  ⟨_, fd, F, He.glo_ok X G (c.fact 60 (f := .glo "_law_some") rfl)⟩
theorem df62 (X : K.In h) (G : h.Ns mainGlobals mg) (c : He.SaysD fa fn K) : Dfn K mg "_law_sort" "_law_sort" (top 94) :=
  let ⟨fd, F⟩ := c.def_ 61 (d := dd62) rfl
  ⟨_, fd, F, He.glo_ok X G (c.fact 61 (f := .glo "_law_sort") rfl)⟩
theorem df63 (X : K.In h) (G : h.Ns mainGlobals mg) (c : He.SaysD fa fn K) : Dfn K mg "_law_like" "_law_like" (top 95) :=
  let ⟨fd, F⟩ := c.def_ 62 (d := dd63) rfl
  ⟨_, fd, F, He.glo_ok X G (c.fact 62 (f := .glo "_law_like") rfl)⟩
theorem df64 (X : K.In h) (G : h.Ns mainGlobals mg) (c : He.SaysD fa fn K) : Dfn K mg "_law_is_number" "_law_is_number" (top 96) :=
  let ⟨fd, F⟩ := c.def_ 63 (d := dd64) rfl
  ⟨_, fd, F, He.glo_ok X G (c.fact 63 (f := .glo "_law_is_number") rfl)⟩
theorem df65 (X : K.In h) (G : h.Ns mainGlobals mg) (c : He.SaysD fa fn K) : Dfn K mg "_law_gcd" "_law_gcd" (top 97) :=
  let ⟨fd, F⟩ := c.def_ 64 (d := dd65) rfl
  ⟨_, fd, F, He.glo_ok X G (c.fact 64 (f := .glo "_law_gcd") rfl)⟩
theorem df66 (X : K.In h) (G : h.Ns mainGlobals mg) (c : He.SaysD fa fn K) : Dfn K mg "_law_low" "_law_low" (top 98) :=
  let ⟨fd, F⟩ := c.def_ 65 (d := dd66) rfl
  ⟨_, fd, F, He.glo_ok X G (c.fact 65 (f := .glo "_law_low") rfl)⟩
theorem df67 (X : K.In h) (G : h.Ns mainGlobals mg) (c : He.SaysD fa fn K) : Dfn K mg "_law_short" "_law_short" (top 99) :=
  let ⟨fd, F⟩ := c.def_ 66 (d := dd67) rfl
  ⟨_, fd, F, He.glo_ok X G (c.fact 66 (f := .glo "_law_short") rfl)⟩
theorem df68 (X : K.In h) (G : h.Ns mainGlobals mg) (c : He.SaysD fa fn K) : Dfn K mg "_law_at" "_law_at" (top 100) :=
  let ⟨fd, F⟩ := c.def_ 67 (d := dd68) rfl
  ⟨_, fd, F, He.glo_ok X G (c.fact 67 (f := .glo "_law_at") rfl)⟩
theorem df69 (X : K.In h) (G : h.Ns mainGlobals mg) (c : He.SaysD fa fn K) : Dfn K mg "_law_is_place" "_law_is_place" (top 101) :=
  let ⟨fd, F⟩ := c.def_ 68 (d := dd69) rfl
  ⟨_, fd, F, He.glo_ok X G (c.fact 68 (f := .glo "_law_is_place") rfl)⟩
theorem df70 (X : K.In h) (G : h.Ns mainGlobals mg) (c : He.SaysD fa fn K) : Dfn K mg "_law_spot" "_law_spot" (top 102) :=
  let ⟨fd, F⟩ := c.def_ 69 (d := dd70) rfl
  ⟨_, fd, F, He.glo_ok X G (c.fact 69 (f := .glo "_law_spot") rfl)⟩
theorem df71 (X : K.In h) (G : h.Ns mainGlobals mg) (c : He.SaysD fa fn K) : Dfn K mg "_law_point" "_law_point" (top 103) :=
  let ⟨fd, F⟩ := c.def_ 70 (d := dd71) rfl
  ⟨_, fd, F, He.glo_ok X G (c.fact 70 (f := .glo "_law_point") rfl)⟩
theorem df72 (X : K.In h) (G : h.Ns mainGlobals mg) (c : He.SaysD fa fn K) : Dfn K mg "_law_place_of" "_law_place_of" (top 104) :=
  let ⟨fd, F⟩ := c.def_ 71 (d := dd72) rfl
  ⟨_, fd, F, He.glo_ok X G (c.fact 71 (f := .glo "_law_place_of") rfl)⟩
theorem df73 (X : K.In h) (G : h.Ns mainGlobals mg) (c : He.SaysD fa fn K) : Dfn K mg "_law_dot" "_law_dot" (top 105) :=
  let ⟨fd, F⟩ := c.def_ 72 (d := dd73) rfl
  ⟨_, fd, F, He.glo_ok X G (c.fact 72 (f := .glo "_law_dot") rfl)⟩
theorem df74 (X : K.In h) (G : h.Ns mainGlobals mg) (c : He.SaysD fa fn K) : Dfn K mg "_law_triple" "_law_triple" (top 106) :=
  let ⟨fd, F⟩ := c.def_ 73 (d := dd74) rfl
  ⟨_, fd, F, He.glo_ok X G (c.fact 73 (f := .glo "_law_triple") rfl)⟩
theorem df75 (X : K.In h) (G : h.Ns mainGlobals mg) (c : He.SaysD fa fn K) : Dfn K mg "_law_lead" "_law_lead" (top 107) :=
  let ⟨fd, F⟩ := c.def_ 74 (d := dd75) rfl
  ⟨_, fd, F, He.glo_ok X G (c.fact 74 (f := .glo "_law_lead") rfl)⟩
theorem df76 (X : K.In h) (G : h.Ns mainGlobals mg) (c : He.SaysD fa fn K) : Dfn K mg "_law_swing_of" "_law_swing_of" (top 108) :=
  let ⟨fd, F⟩ := c.def_ 75 (d := dd76) rfl
  ⟨_, fd, F, He.glo_ok X G (c.fact 75 (f := .glo "_law_swing_of") rfl)⟩
theorem df77 (X : K.In h) (G : h.Ns mainGlobals mg) (c : He.SaysD fa fn K) : Dfn K mg "_law_right" "_law_right" (top 109) :=
  let ⟨fd, F⟩ := c.def_ 76 (d := dd77) rfl
  ⟨_, fd, F, He.glo_ok X G (c.fact 76 (f := .glo "_law_right") rfl)⟩
theorem df78 (X : K.In h) (G : h.Ns mainGlobals mg) (c : He.SaysD fa fn K) : Dfn K mg "_law_both_right" "_law_both_right" (top 110) :=
  let ⟨fd, F⟩ := c.def_ 77 (d := dd78) rfl
  ⟨_, fd, F, He.glo_ok X G (c.fact 77 (f := .glo "_law_both_right") rfl)⟩
theorem df79 (X : K.In h) (G : h.Ns mainGlobals mg) (c : He.SaysD fa fn K) : Dfn K mg "_law_perspective_right" "_law_perspective_right" (top 111) :=
  let ⟨fd, F⟩ := c.def_ 78 (d := dd79) rfl
  ⟨_, fd, F, He.glo_ok X G (c.fact 78 (f := .glo "_law_perspective_right") rfl)⟩
theorem df80 (X : K.In h) (G : h.Ns mainGlobals mg) (c : He.SaysD fa fn K) : Dfn K mg "_law_cross_of" "_law_cross_of" (top 112) :=
  let ⟨fd, F⟩ := c.def_ 79 (d := dd80) rfl
  ⟨_, fd, F, He.glo_ok X G (c.fact 79 (f := .glo "_law_cross_of") rfl)⟩
theorem df81 (X : K.In h) (G : h.Ns mainGlobals mg) (c : He.SaysD fa fn K) : Dfn K mg "_law_written_right" "_law_written_right" (top 113) :=
  let ⟨fd, F⟩ := c.def_ 80 (d := dd81) rfl
  ⟨_, fd, F, He.glo_ok X G (c.fact 80 (f := .glo "_law_written_right") rfl)⟩
theorem df59 (X : K.In h) (G : h.Ns mainGlobals mg) (c : He.SaysD fa fn K) : Dfn K mg "_law_cup" "_law_cup" (top 91) :=
  let ⟨fd, F⟩ := c.def_ 81 (d := dd59) rfl
  ⟨_, fd, F, He.glo_ok X G (c.fact 81 (f := .glo "_law_cup") rfl)⟩
theorem dfs_ok (X : K.In h) (G : h.Ns mainGlobals mg) (c : He.SaysD fa fn K) : Dfs K mg := ⟨df0 X G c, df1 X G c, df2 X G c, df3 X G c, df4 X G c, df5 X G c, df6 X G c, df7 X G c, df8 X G c, df9 X G c, df10 X G c, df11 X G c, df12 X G c, df13 X G c, df14 X G c, df15 X G c, df16 X G c, df17 X G c, df18 X G c, df19 X G c, df20 X G c, df21 X G c, df22 X G c, df23 X G c, df24 X G c, df25 X G c, df26 X G c, df27 X G c, df28 X G c, df29 X G c, df30 X G c, df31 X G c, df32 X G c, df33 X G c, df34 X G c, df35 X G c, df36 X G c, df37 X G c, df38 X G c, df39 X G c, df40 X G c, df41 X G c, df42 X G c, df43 X G c, df44 X G c, df45 X G c, df46 X G c, df47 X G c, df48 X G c, df49 X G c, df50 X G c, df51 X G c, df52 X G c, df53 X G c, df54 X G c, df55 X G c, df56 X G c, df57 X G c, df58 X G c, df60 X G c, df61 X G c, df62 X G c, df63 X G c, df64 X G c, df65 X G c, df66 X G c, df67 X G c, df68 X G c, df69 X G c, df70 X G c, df71 X G c, df72 X G c, df73 X G c, df74 X G c, df75 X G c, df76 X G c, df77 X G c, df78 X G c, df79 X G c, df80 X G c, df81 X G c⟩
theorem facts {f : Addr} (hl : ∀ ns : List Int, ∃ cs', F82 (runFn 40) (envL 5 1) (cupOf ns) = some (.ret (.bool true), cs')) (X : K.In h) (G : h.Ns mainGlobals mg) (hfa : mg ("law" : Str) = some (.ref f)) (c : He.SaysD fa fn K) (ce : ex K = true) :
    ∃ fd : FuncData, (∀ (s : Shared) (v : Value), BindsTo s fd ⟨[v], []⟩ [("script", v)]) ∧ ∀ base : Heap, K.In base → base.Ns mainGlobals mg → FnOk P w K mg base CX0 42 f fd ["script"] (spLaw K) := by
  obtain ⟨fd, F⟩ := c.def_ 82 (d := dd82) rfl
  have e := hfa.symm.trans (He.glo_ok X G (c.fact 82 (f := .glo "law") rfl))
  cases e
  have b := FunD.bindsA (ps := ["script"]) F fun _ _ _ _ _ _ us hl => match us, hl with | [_], _ => rfl
  exact ⟨fd, fun s v => b s [v] rfl, fun base _ _ => ok_law (ms_ok X G c ce) (dfs_ok X G c) (df59 X G c) F hl⟩
end
end Wk
open PySem PySem.W PySem.Calls PyProof.Rows
theorem PySem.Challenge.rw_linesruled_k84_whole_leads_as_swings_of (hl : ∀ ns : List Int, ∃ cs', Wk.F82 (Wk.runFn 40) (Se.envL 5 1) (Se.cupOf ns) = some (.ret (.bool true), cs')) : PySem.Challenge.rw_linesruled_k84_whole_leads_as_swings.Holds := by
  w_on; o_law
  refine HandSHeadRun.head_imp (r := OpenLaw.row PySem.Challenge.rw_linesruled_k84_whole_leads_as_swings) (q := view (OpenLaw.row PySem.Challenge.rw_linesruled_k84_whole_leads_as_swings).prog [0, 114]) (H := Wk.hk) (ob := Wk.ob) (M := 8000) (loose := Wk.nms) (d := HandSHeadRun.topDef (OpenLaw.row PySem.Challenge.rw_linesruled_k84_whole_leads_as_swings).prog 114) (kwd := []) Wk.ob_eq
    Wk.run (by kernel_rfl) (by kernel_rfl) (by kernel_rfl) (by rfl) (by first | assumption | decide +kernel) (by decide +kernel) ⟨rfl, rfl, rfl, rfl, rfl, by decide +kernel⟩ ?hw ?hc
  case hw => w_witness2
  case hc =>
    refine L2.walk_ofE (l := PySem.Challenge.rw_linesruled_k84_whole_leads_as_swings) (n := 63) (k := 42) (x := "script") (CX := L2.CX0) rfl (by decide) (by kernel_rfl) ⟨rfl, by decide, by decide⟩ ?F (fun _ _ _ _ z => z)
    intro w mg fa h Y G hmg0
    obtain ⟨K, KX, c, ce⟩ := Y
    have hmg : mg ("law" : PySem.Str) = some (.ref fa) := by
      have e : (HandSHeadRun.topDef (OpenLaw.row PySem.Challenge.rw_linesruled_k84_whole_leads_as_swings).prog 114).name = ("law" : PySem.Str) := by kernel_rfl
      rw [← e]
      exact hmg0
    obtain ⟨fd, hb, hF⟩ := Wk.facts (P := (PySem.Challenge.rw_linesruled_k84_whole_leads_as_swings).prog) (w := w) hl KX G hmg c ce
    exact ⟨K, fd, Se.spLaw K, KX, hb, fun H a ns hl _ hS => ⟨a, ns, rfl, hS, by omega, fun _ => rfl⟩, hF⟩
end
section
set_option Elab.async false
set_option linter.all false
set_option maxRecDepth 100000
set_option maxHeartbeats 400000
namespace T
open PySem hiding Flow Arg
open Se Ev Nm
/-! leads: a base line and pairs (next line, centre) -/
abbrev P3 := Int × Int × Int
abbrev Sg := P3 × P3
def T3 (p : P3) : PyData := t3 p.1 p.2.1 p.2.2
def dt3 (p q : P3) : Int := p.1 * q.1 + p.2.1 * q.2.1 + p.2.2 * q.2.2
def cr3 (p q : P3) : P3 := (p.2.1 * q.2.2 - p.2.2 * q.2.1, p.2.2 * q.1 - p.1 * q.2.2, p.1 * q.2.1 - p.2.1 * q.1)
def stp (p : P3) (x : Sg) : P3 := cr3 (cr3 p x.2) x.1
def ledL (L : List Sg) (p : P3) : P3 := L.foldl stp p
def sm (s : Int) (p : P3) : P3 := (s * p.1, s * p.2.1, s * p.2.2)
def ad (p q : P3) : P3 := (p.1 + q.1, p.2.1 + q.2.1, p.2.2 + q.2.2)
theorem p3_ext {p q : P3} (h1 : p.1 = q.1) (h2 : p.2.1 = q.2.1) (h3 : p.2.2 = q.2.2) : p = q := Prod.ext h1 (Prod.ext h2 h3)
theorem cr_sm (s : Int) (p q : P3) : cr3 (sm s p) q = sm s (cr3 p q) := by
  apply p3_ext <;> (unfold cr3 sm; grind)
theorem cr_ad (p p' q : P3) : cr3 (ad p p') q = ad (cr3 p q) (cr3 p' q) := by
  apply p3_ext <;> (unfold cr3 ad; grind)
theorem stp_sm (s : Int) (p : P3) (x : Sg) : stp (sm s p) x = sm s (stp p x) := by unfold stp; rw [cr_sm, cr_sm]
theorem stp_ad (p q : P3) (x : Sg) : stp (ad p q) x = ad (stp p x) (stp q x) := by unfold stp; rw [cr_ad, cr_ad]
theorem led_cons (x : Sg) (L : List Sg) (p : P3) : ledL (x :: L) p = ledL L (stp p x) := rfl
theorem led_sm (s : Int) : ∀ (L : List Sg) (p : P3), ledL L (sm s p) = sm s (ledL L p)
  | [], _ => rfl
  | x :: L, p => by rw [led_cons, led_cons, stp_sm, led_sm s L]
theorem led_ad : ∀ (L : List Sg) (p q : P3), ledL L (ad p q) = ad (ledL L p) (ledL L q)
  | [], _, _ => rfl
  | x :: L, p, q => by rw [led_cons, led_cons, led_cons, stp_ad, led_ad L]
theorem led_app (L M : List Sg) (p : P3) : ledL (L ++ M) p = ledL M (ledL L p) := List.foldl_append
def okL : P3 → List Sg → Prop
  | _, [] => True
  | b, x :: r => (dt3 x.2 b ≠ 0 ∧ dt3 x.2 x.1 ≠ 0) ∧ okL x.1 r
def lst : P3 → List Sg → P3
  | b, [] => b
  | _, x :: r => lst x.1 r
def revA : P3 → List Sg → List Sg → List Sg
  | _, [], acc => acc
  | b, x :: r, acc => revA x.1 r ((b, x.2) :: acc)
theorem stp_on (p : P3) (x : Sg) : dt3 (stp p x) x.1 = 0 := by unfold stp cr3 dt3; grind
theorem stp_back {p b : P3} {x : Sg} (h : dt3 p b = 0) : stp (stp p x) (b, x.2) = sm (dt3 x.2 b * dt3 x.2 x.1) p := by
  obtain ⟨⟨l1, l2, l3⟩, c1, c2, c3⟩ := x
  obtain ⟨p1, p2, p3⟩ := p
  obtain ⟨b1, b2, b3⟩ := b
  unfold dt3 at h
  simp only at h
  apply p3_ext <;> (unfold stp cr3 sm dt3; simp only; grind)
theorem led_on : ∀ (L : List Sg) (b p : P3), dt3 p b = 0 → dt3 (ledL L p) (lst b L) = 0
  | [], _, _, h => h
  | x :: L, b, p, h => led_on L x.1 (stp p x) (stp_on p x)
theorem sm_sm (s t : Int) (p : P3) : sm s (sm t p) = sm (s * t) p := by
  apply p3_ext <;> (unfold sm; grind)
theorem rev_led : ∀ (L : List Sg) (b : P3) (acc : List Sg), okL b L → ∃ k, k ≠ 0 ∧ ∀ p, dt3 p b = 0 → ledL (revA b L acc) (ledL L p) = sm k (ledL acc p)
  | [], b, acc, _ => ⟨1, by decide, fun p _ => by apply p3_ext <;> (unfold sm ledL; simp [revA])⟩
  | x :: L, b, acc, h => by
    obtain ⟨⟨h1, h2⟩, h3⟩ := h
    obtain ⟨k, hk, e⟩ := rev_led L x.1 ((b, x.2) :: acc) h3
    refine ⟨k * (dt3 x.2 b * dt3 x.2 x.1), Int.mul_ne_zero hk (Int.mul_ne_zero h1 h2), fun p hp => ?_⟩
    show ledL (revA x.1 L ((b, x.2) :: acc)) (ledL L (stp p x)) = _
    rw [e _ (stp_on p x), led_cons, stp_back hp, led_sm, sm_sm]
theorem rev_ok : ∀ (L : List Sg) (b : P3) (acc : List Sg), okL b L → okL b acc → okL (lst b L) (revA b L acc)
  | [], _, _, _, h => h
  | x :: L, b, acc, h, g => rev_ok L x.1 ((b, x.2) :: acc) h.2 ⟨⟨h.1.2, h.1.1⟩, g⟩
theorem rev_lst : ∀ (L : List Sg) (b : P3) (acc : List Sg), lst (lst b L) (revA b L acc) = lst b acc
  | [], _, _ => rfl
  | x :: L, b, acc => rev_lst L x.1 ((b, x.2) :: acc)
theorem app_ok : ∀ {L M : List Sg} {b : P3}, okL b L → okL (lst b L) M → okL b (L ++ M)
  | [], _, _, _, h => h
  | x :: L, _, _, h, g => ⟨h.1, app_ok h.2 g⟩
theorem app_lst : ∀ (L M : List Sg) (b : P3), lst b (L ++ M) = lst (lst b L) M
  | [], _, _ => rfl
  | x :: L, M, b => app_lst L M x.1
/-! .. as 2 by 2 -/
abbrev B0 : P3 := (0, 1, 0)
structure Mx (L : List Sg) (a b c d : Int) : Prop where
  e1 : ledL L (1, 0, 0) = (a, 0, c)
  e3 : ledL L (0, 0, 1) = (b, 0, d)
theorem Mx.at_ {L : List Sg} {a b c d : Int} (h : Mx L a b c d) (x z : Int) : ledL L (x, 0, z) = (a * x + b * z, 0, c * x + d * z) := by
  have e : ((x, 0, z) : P3) = ad (sm x (1, 0, 0)) (sm z (0, 0, 1)) := by
    apply p3_ext <;> (unfold ad sm; simp)
  rw [e, led_ad, led_sm, led_sm, h.e1, h.e3]
  apply p3_ext <;> (unfold ad sm; simp only; grind)
theorem mx_ex {L : List Sg} (hl : lst B0 L = B0) : ∃ a b c d, Mx L a b c d := by
  have y1 := led_on L B0 (1, 0, 0) (by decide)
  have y3 := led_on L B0 (0, 0, 1) (by decide)
  rw [hl] at y1 y3
  refine ⟨(ledL L (1, 0, 0)).1, (ledL L (0, 0, 1)).1, (ledL L (1, 0, 0)).2.2, (ledL L (0, 0, 1)).2.2, p3_ext rfl ?_ rfl, p3_ext rfl ?_ rfl⟩
  · unfold dt3 at y1; simpa using y1
  · unfold dt3 at y3; simpa using y3
theorem mx_mul {L M : List Sg} {a b c d a' b' c' d' : Int} (h : Mx L a b c d) (g : Mx M a' b' c' d') : Mx (L ++ M) (a' * a + b' * c) (a' * b + b' * d) (c' * a + d' * c) (c' * b + d' * d) :=
  ⟨by rw [led_app, h.e1, g.at_], by rw [led_app, h.e3, g.at_]⟩
/-- the way back -/
theorem mx_rev {L : List Sg} {a b c d : Int} (ok : okL B0 L) (hl : lst B0 L = B0) (h : Mx L a b c d) :
    a * d - b * c ≠ 0 ∧ ∃ a' b' c' d' k, k ≠ 0 ∧ Mx (revA B0 L []) a' b' c' d' ∧ (a * d - b * c) * a' = k * d ∧ (a * d - b * c) * b' = -(k * b) ∧ (a * d - b * c) * c' = -(k * c) ∧ (a * d - b * c) * d' = k * a := by
  obtain ⟨k, hk, e⟩ := rev_led L B0 [] ok
  obtain ⟨a', b', c', d', g⟩ := mx_ex (L := revA B0 L []) (by have := rev_lst L B0 []; rw [hl] at this; exact this)
  have f1 := e (1, 0, 0) (by decide)
  have f3 := e (0, 0, 1) (by decide)
  rw [h.e1, g.at_] at f1
  rw [h.e3, g.at_] at f3
  have q1 : a' * a + b' * c = k := by have := congrArg (fun p : P3 => p.1) f1; simpa [sm, ledL] using this
  have q2 : c' * a + d' * c = 0 := by have := congrArg (fun p : P3 => p.2.2) f1; simpa [sm, ledL] using this
  have q3 : a' * b + b' * d = 0 := by have := congrArg (fun p : P3 => p.1) f3; simpa [sm, ledL] using this
  have q4 : c' * b + d' * d = k := by have := congrArg (fun p : P3 => p.2.2) f3; simpa [sm, ledL] using this
  clear f1 f3 e
  refine ⟨fun z => ?_, a', b', c', d', k, hk, g, ?_, ?_, ?_, ?_⟩
  · have : k * k = (a' * d' - b' * c') * (a * d - b * c) := by
      have e1 : k * k = (a' * a + b' * c) * (c' * b + d' * d) - (a' * b + b' * d) * (c' * a + d' * c) := by rw [q1, q4, q3]; simp
      rw [e1]; clear q1 q2 q3 q4 e1; grind
    rw [z, Int.mul_zero] at this
    exact Int.mul_ne_zero hk hk this
  · grind
  · grind
  · grind
  · grind
end T
end
section
set_option Elab.async false
set_option linter.all false
set_option maxRecDepth 100000
set_option maxHeartbeats 400000
namespace T
open PySem hiding Flow Arg
open Se Ev Nm
/-- two rows of four that tell the same swing -/
structure Pr (A B C D a b c d : Int) : Prop where
  ex : ∃ k m, k ≠ 0 ∧ m ≠ 0 ∧ k * A = m * a ∧ k * B = m * b ∧ k * C = m * c ∧ k * D = m * d
/-- two unlike columns, told with their sum, tell the swing -/
theorem pr_of {A B C D a b c d k1 l1 k2 l2 k3 l3 : Int} (hd : a * d - b * c ≠ 0) (h1 : k1 ≠ 0) (h2 : k2 ≠ 0) (h3 : k3 ≠ 0) (g1 : l1 ≠ 0)
    (e1 : k1 * B = l1 * b) (f1 : k1 * D = l1 * d) (e2 : k2 * A = l2 * a) (f2 : k2 * C = l2 * c) (e3 : k3 * (A + B) = l3 * (a + b)) (f3 : k3 * (C + D) = l3 * (c + d)) : Pr A B C D a b c d := by
  have i1 : (k1 * k2 * l3 - k1 * k3 * l2) * a + (k1 * k2 * l3 - k2 * k3 * l1) * b = 0 := by grind
  have i2 : (k1 * k2 * l3 - k1 * k3 * l2) * c + (k1 * k2 * l3 - k2 * k3 * l1) * d = 0 := by grind
  have z1 : (k1 * k2 * l3 - k1 * k3 * l2) * (a * d - b * c) = 0 := by grind
  have z2 : (k1 * k2 * l3 - k2 * k3 * l1) * (a * d - b * c) = 0 := by grind
  have y1 := (Int.mul_eq_zero.mp z1).resolve_right hd
  have y2 := (Int.mul_eq_zero.mp z2).resolve_right hd
  clear i1 i2 z1 z2
  refine ⟨k1 * k2 * k3, k2 * k3 * l1, Int.mul_ne_zero (Int.mul_ne_zero h1 h2) h3, Int.mul_ne_zero (Int.mul_ne_zero h2 h3) g1, ?_, ?_, ?_, ?_⟩
  · have : k1 * k3 * l2 = k2 * k3 * l1 := by omega
    rw [← this]; clear this y1 y2; grind
  · clear y1 y2 e2 f2 e3 f3; grind
  · have : k1 * k3 * l2 = k2 * k3 * l1 := by omega
    rw [← this]; clear this y1 y2; grind
  · clear y1 y2 e2 f2 e3 f3; grind
theorem Pr.symm {A B C D a b c d : Int} (h : Pr A B C D a b c d) : Pr a b c d A B C D := by
  obtain ⟨k, m, hk, hm, e1, e2, e3, e4⟩ := h
  exact ⟨m, k, hm, hk, e1.symm, e2.symm, e3.symm, e4.symm⟩
theorem pr_tr1 {k m n l A a x : Int} (e : k * A = m * a) (f : n * a = l * x) : n * k * A = m * l * x := by
  rw [Int.mul_assoc, e, Int.mul_left_comm, f, ← Int.mul_assoc]
theorem Pr.trans {A B C D a b c d x y z w : Int} (h : Pr A B C D a b c d) (g : Pr a b c d x y z w) : Pr A B C D x y z w := by
  obtain ⟨k, m, hk, hm, e1, e2, e3, e4⟩ := h
  obtain ⟨n, l, hn, hl, f1, f2, f3, f4⟩ := g
  exact ⟨n * k, m * l, Int.mul_ne_zero hn hk, Int.mul_ne_zero hm hl, pr_tr1 e1 f1, pr_tr1 e2 f2, pr_tr1 e3 f3, pr_tr1 e4 f4⟩
theorem Pr.eq {A B C D a b c d : Int} (h : Pr A B C D a b c d) (n : Nrm [A, B, C, D]) (n' : Nrm [a, b, c, d]) : A = a ∧ B = b ∧ C = c ∧ D = d := by
  obtain ⟨k, m, hk, hm, e1, e2, e3, e4⟩ := h
  exact n.eq4 n' hk hm e1 e2 e3 e4
theorem Pr.of {A B C D a b c d k : Int} (hk : k ≠ 0) (e1 : a = k * A) (e2 : b = k * B) (e3 : c = k * C) (e4 : d = k * D) : Pr a b c d A B C D :=
  ⟨1, k, by decide, hk, by omega, by omega, by omega, by omega⟩
theorem mul4 {k m n l A a x y B b : Int} (e : k * A = m * a) (f : n * x = l * y) : (k * n) * (A * x) = (m * l) * (a * y) := by
  have : (k * n) * (A * x) = (k * A) * (n * x) := by grind
  rw [this, e, f]; grind
theorem Pr.mul {A B C D a b c d P Q R S p q r s : Int} (h : Pr A B C D a b c d) (g : Pr P Q R S p q r s) :
    Pr (P * A + Q * C) (P * B + Q * D) (R * A + S * C) (R * B + S * D) (p * a + q * c) (p * b + q * d) (r * a + s * c) (r * b + s * d) := by
  obtain ⟨k, m, hk, hm, e1, e2, e3, e4⟩ := h
  obtain ⟨n, l, hn, hl, f1, f2, f3, f4⟩ := g
  refine ⟨n * k, l * m, Int.mul_ne_zero hn hk, Int.mul_ne_zero hl hm, ?_, ?_, ?_, ?_⟩ <;>
  · rw [Int.mul_add, Int.mul_add]
    congr 1
    · first | exact mul4 (B := 0) (b := 0) f1 e1 | exact mul4 (B := 0) (b := 0) f1 e2 | exact mul4 (B := 0) (b := 0) f3 e1 | exact mul4 (B := 0) (b := 0) f3 e2
    · first | exact mul4 (B := 0) (b := 0) f2 e3 | exact mul4 (B := 0) (b := 0) f2 e4 | exact mul4 (B := 0) (b := 0) f4 e3 | exact mul4 (B := 0) (b := 0) f4 e4
/-- the image of a place -/
structure Im (X Y x y : Int) : Prop where
  ex : ∃ k m, k ≠ 0 ∧ m ≠ 0 ∧ k * X = m * x ∧ k * Y = m * y
theorem Pr.im {A B C D a b c d : Int} (h : Pr A B C D a b c d) (x y : Int) : Im (A * x + B * y) (C * x + D * y) (a * x + b * y) (c * x + d * y) := by
  obtain ⟨k, m, hk, hm, e1, e2, e3, e4⟩ := h
  refine ⟨k, m, hk, hm, ?_, ?_⟩
  · rw [Int.mul_add, Int.mul_add, ← Int.mul_assoc, ← Int.mul_assoc, ← Int.mul_assoc, ← Int.mul_assoc, e1, e2]
  · rw [Int.mul_add, Int.mul_add, ← Int.mul_assoc, ← Int.mul_assoc, ← Int.mul_assoc, ← Int.mul_assoc, e3, e4]
theorem Im.trans {X Y x y u v : Int} (h : Im X Y x y) (g : Im x y u v) : Im X Y u v := by
  obtain ⟨k, m, hk, hm, e1, e2⟩ := h
  obtain ⟨n, l, hn, hl, f1, f2⟩ := g
  exact ⟨n * k, m * l, Int.mul_ne_zero hn hk, Int.mul_ne_zero hm hl, pr_tr1 e1 f1, pr_tr1 e2 f2⟩
theorem Im.symm {X Y x y : Int} (h : Im X Y x y) : Im x y X Y := by
  obtain ⟨k, m, hk, hm, e1, e2⟩ := h
  exact ⟨m, k, hm, hk, e1.symm, e2.symm⟩
theorem Im.of {X Y x y k : Int} (hk : k ≠ 0) (e1 : x = k * X) (e2 : y = k * Y) : Im x y X Y := ⟨1, k, by decide, hk, by omega, by omega⟩
theorem Im.eq {X Y x y : Int} (h : Im X Y x y) (p : Pl X Y) (q : Pl x y) : X = x ∧ Y = y := by
  obtain ⟨k, m, hk, hm, e1, e2⟩ := h
  exact p.eq q hk hm e1 e2
theorem Im.eq3 {X Y x y : Int} (h : Im X Y x y) (p : Nrm [X, 0, Y]) (q : Nrm [x, 0, y]) : X = x ∧ Y = y := by
  obtain ⟨k, m, hk, hm, e1, e2⟩ := h
  obtain ⟨a, _, b⟩ := p.eq3 q hk hm e1 (by simp) e2
  exact ⟨a, b⟩
theorem Im.refl {x y : Int} : Im x y x y := ⟨1, 1, by decide, by decide, rfl, rfl⟩
/-- a swing carries what tells the same place to what tells the same place -/
theorem Im.map {X Y x y : Int} (h : Im X Y x y) (a b c d : Int) : Im (a * X + b * Y) (c * X + d * Y) (a * x + b * y) (c * x + d * y) := by
  obtain ⟨k, m, hk, hm, e1, e2⟩ := h
  have l : ∀ u v : Int, k * (u * X + v * Y) = m * (u * x + v * y) := fun u v => by
    have : k * (u * X + v * Y) = u * (k * X) + v * (k * Y) := by grind
    rw [this, e1, e2]; grind
  exact ⟨k, m, hk, hm, l a b, l c d⟩
theorem im_nz {a b c d x y : Int} (hd : a * d - b * c ≠ 0) (hp : x ≠ 0 ∨ y ≠ 0) : a * x + b * y ≠ 0 ∨ c * x + d * y ≠ 0 := by
  by_cases h1 : a * x + b * y = 0
  · by_cases h2 : c * x + d * y = 0
    · exfalso
      have z1 : (a * d - b * c) * x = 0 := by grind
      have z2 : (a * d - b * c) * y = 0 := by grind
      rcases Int.mul_eq_zero.mp z1 with h | h
      · exact hd h
      · rcases Int.mul_eq_zero.mp z2 with h' | h'
        · exact hd h'
        · rcases hp with hp | hp
          · exact hp h
          · exact hp h'
    · exact .inr h2
  · exact .inl h1
/-- the numbers of rounds: N_r = U_r M - det U_(r-1) -/
def scl (a b c d : Int) : Prop := b = 0 ∧ c = 0 ∧ a = d
instance (a b c d : Int) : Decidable (scl a b c d) := by unfold scl; infer_instance
theorem Pr.scl {A B C D a b c d : Int} (h : Pr A B C D a b c d) : scl A B C D ↔ scl a b c d := by
  obtain ⟨k, m, hk, hm, e1, e2, e3, e4⟩ := h
  have z : ∀ {k m x y : Int}, k ≠ 0 → m ≠ 0 → k * x = m * y → (x = 0 ↔ y = 0) := fun {k m x y} hk hm e => by
    constructor
    · intro h; rw [h, Int.mul_zero] at e; exact (Int.mul_eq_zero.mp e.symm).resolve_left hm
    · intro h; rw [h, Int.mul_zero] at e; exact (Int.mul_eq_zero.mp e).resolve_left hk
  have e5 : k * (A - D) = m * (a - d) := by rw [Int.mul_sub, Int.mul_sub, e1, e4]
  unfold T.scl
  rw [z hk hm e2, z hk hm e3, show A = D ↔ A - D = 0 by omega, show a = d ↔ a - d = 0 by omega, z hk hm e5]
def nr (a b c d u v : Int) : Int × Int × Int × Int := (u * a - (a * d - b * c) * v, u * b, u * c, u * d - (a * d - b * c) * v)
theorem nr_step (a b c d u v : Int) : (a * (nr a b c d u v).1 + b * (nr a b c d u v).2.2.1 = (nr a b c d ((a + d) * u - (a * d - b * c) * v) u).1) ∧ (a * (nr a b c d u v).2.1 + b * (nr a b c d u v).2.2.2 = (nr a b c d ((a + d) * u - (a * d - b * c) * v) u).2.1) ∧
    (c * (nr a b c d u v).1 + d * (nr a b c d u v).2.2.1 = (nr a b c d ((a + d) * u - (a * d - b * c) * v) u).2.2.1) ∧ (c * (nr a b c d u v).2.1 + d * (nr a b c d u v).2.2.2 = (nr a b c d ((a + d) * u - (a * d - b * c) * v) u).2.2.2) := by
  unfold nr
  refine ⟨?_, ?_, ?_, ?_⟩ <;> (simp only; grind)
theorem sq5 {x y : Int} (h : x * x = 5 * (y * y)) : y = 0 := by
  have key : ∀ n : Nat, ∀ x y : Nat, y ≤ n → x * x = 5 * (y * y) → y = 0 := by
    intro n
    induction n with
    | zero => intro x y h _; omega
    | succ n ih =>
      intro x y hn h
      have hx : x % 5 = 0 := by
        have h1 : (x * x) % 5 = 0 := by omega
        rw [Nat.mul_mod] at h1
        have := Nat.mod_lt x (show 0 < 5 by decide)
        have h2 : ∀ r, r < 5 → r * r % 5 = 0 → r = 0 := by decide
        exact h2 _ this h1
      obtain ⟨z, rfl⟩ : ∃ z, x = 5 * z := ⟨x / 5, by omega⟩
      have h3 : y * y = 5 * (z * z) := by
        have : 5 * z * (5 * z) = 25 * (z * z) := by grind
        omega
      have hz : z = 0 := by
        by_cases hy : y = 0
        · subst hy
          have : z * z = 0 := by omega
          rcases Nat.mul_eq_zero.mp this with h | h <;> exact h
        · refine ih y z ?_ h3
          have : z < y := by
            refine Nat.lt_of_not_le fun g => ?_
            have := Nat.mul_le_mul g g
            have : 0 < y * y := Nat.mul_pos (by omega) (by omega)
            omega
          omega
      subst hz
      have : y * y = 0 := by omega
      rcases Nat.mul_eq_zero.mp this with h | h <;> exact h
  have h1 : x.natAbs * x.natAbs = 5 * (y.natAbs * y.natAbs) := by
    have := congrArg Int.natAbs h
    rw [Int.natAbs_mul, Int.natAbs_mul, Int.natAbs_mul] at this
    exact this
  have := key _ _ _ (Nat.le_refl _) h1
  omega
theorem im_unlike {a b c d P Q x y u v : Int} (hd : a * d - b * c ≠ 0) (h : Im P Q (a * x + b * y) (c * x + d * y)) (g : Im P Q (a * u + b * v) (c * u + d * v)) (hp : P ≠ 0 ∨ Q ≠ 0) (ne : x * v - u * y ≠ 0) : False := by
  obtain ⟨k, m, hk, hm, e1, e2⟩ := h
  obtain ⟨n, l, hn, hl, f1, f2⟩ := g
  have z : (m * l) * ((a * d - b * c) * (x * v - u * y)) = 0 := by
    have : (m * l) * ((a * d - b * c) * (x * v - u * y)) = (m * (a * x + b * y)) * (l * (c * u + d * v)) - (m * (c * x + d * y)) * (l * (a * u + b * v)) := by clear e1 e2 f1 f2; grind
    rw [this, ← e1, ← e2, ← f1, ← f2]
    clear this e1 e2 f1 f2
    grind
  rcases Int.mul_eq_zero.mp z with z | z
  · exact Int.mul_ne_zero hm hl z
  · exact Int.mul_ne_zero hd ne z
theorem pr_im {A B C D a b c d P1 Q1 P2 Q2 P3 Q3 : Int} (hd : a * d - b * c ≠ 0) (h1 : Im (A * 0 + B * 1) (C * 0 + D * 1) P1 Q1) (h2 : Im (A * 1 + B * 0) (C * 1 + D * 0) P2 Q2) (h3 : Im (A * 1 + B * 1) (C * 1 + D * 1) P3 Q3)
    (g1 : Im P1 Q1 (a * 0 + b * 1) (c * 0 + d * 1)) (g2 : Im P2 Q2 (a * 1 + b * 0) (c * 1 + d * 0)) (g3 : Im P3 Q3 (a * 1 + b * 1) (c * 1 + d * 1)) : Pr A B C D a b c d := by
  obtain ⟨k1, l1, hk1, hl1, e1, f1⟩ := h1.trans g1
  obtain ⟨k2, l2, hk2, hl2, e2, f2⟩ := h2.trans g2
  obtain ⟨k3, l3, hk3, hl3, e3, f3⟩ := h3.trans g3
  simp only [Int.mul_zero, Int.mul_one, Int.zero_add, Int.add_zero] at e1 f1 e2 f2 e3 f3
  exact pr_of hd hk1 hk2 hk3 hl1 e1 f1 e2 f2 e3 f3
end T
end
section
set_option Elab.async false
set_option linter.all false
set_option maxRecDepth 100000
set_option maxHeartbeats 400000
namespace T
open PySem hiding Flow Arg
open Se Ev Nm
/-! sizes by bits -/
def BE (e : Nat) (x : Int) : Prop := x.natAbs < 2 ^ e
theorem BE.mono {e f : Nat} {x : Int} (h : BE e x) (l : e ≤ f) : BE f x := Nat.lt_of_lt_of_le h (Nat.pow_le_pow_right (by decide) l)
theorem BE.mul {e f : Nat} {x y : Int} (h : BE e x) (g : BE f y) : BE (e + f) (x * y) := by
  unfold BE at *
  rw [Int.natAbs_mul, Nat.pow_add]
  exact Nat.mul_lt_mul'' h g
theorem BE.add {e : Nat} {x y : Int} (h : BE e x) (g : BE e y) : BE (e + 1) (x + y) := by
  unfold BE at *
  rw [Nat.pow_succ]
  have := Int.natAbs_add_le x y
  omega
theorem BE.sub {e : Nat} {x y : Int} (h : BE e x) (g : BE e y) : BE (e + 1) (x - y) := by
  unfold BE at *
  rw [Nat.pow_succ]
  have := Int.natAbs_sub_le x y
  omega
theorem BE.lv {e k : Nat} {x : Int} (h : BE e x) (l : e ≤ 2 ^ k) : Lv k x := Nat.lt_of_lt_of_le h (Nat.pow_le_pow_right (by decide) l)
theorem BE.of_mul {e : Nat} {x k y : Int} (h : BE e x) (hk : k ≠ 0) (z : x = k * y) : BE e y := by
  unfold BE at *
  rw [z, Int.natAbs_mul] at h
  have : 1 ≤ k.natAbs := by omega
  exact Nat.lt_of_le_of_lt (Nat.le_mul_of_pos_left _ this) h
theorem BE.of_bd {n e : Nat} {x : Int} (h : Bd n x) (l : n < 2 ^ e) : BE e x := Nat.lt_of_le_of_lt h l
structure B3 (e : Nat) (p : P3) : Prop where
  x : BE e p.1
  y : BE e p.2.1
  z : BE e p.2.2
theorem B3.mono {e f : Nat} {p : P3} (h : B3 e p) (l : e ≤ f) : B3 f p := ⟨h.x.mono l, h.y.mono l, h.z.mono l⟩
theorem cr_be {e f : Nat} {p q : P3} (h : B3 e p) (g : B3 f q) : B3 (e + f + 1) (cr3 p q) :=
  ⟨(h.y.mul g.z).sub (h.z.mul g.y), (h.z.mul g.x).sub (h.x.mul g.z), (h.x.mul g.y).sub (h.y.mul g.x)⟩
theorem stp_be {e : Nat} {p : P3} {x : Sg} (h : B3 e p) (g : B3 7 x.1 ∧ B3 7 x.2) : B3 (e + 16) (stp p x) := (cr_be (cr_be h g.2) g.1).mono (by omega)
theorem led_be : ∀ (L : List Sg) {e : Nat} {p : P3}, (∀ x ∈ L, B3 7 x.1 ∧ B3 7 x.2) → B3 e p → B3 (e + 16 * L.length) (ledL L p)
  | [], _, _, _, h => h
  | x :: L, e, p, g, h => by
    have := led_be L (fun y hy => g y (List.mem_cons_of_mem _ hy)) (stp_be h (g x List.mem_cons_self))
    rw [List.length_cons, show e + 16 * (L.length + 1) = e + 16 + 16 * L.length by omega]
    exact this
/-- a triple of small integers -/
structure Tp (p : P3) : Prop where
  n : Nrm [p.1, p.2.1, p.2.2]
  x : Bd 100 p.1
  y : Bd 100 p.2.1
  z : Bd 100 p.2.2
theorem Tp.be {p : P3} (h : Tp p) : B3 7 p := ⟨.of_bd h.x (by decide), .of_bd h.y (by decide), .of_bd h.z (by decide)⟩
/-- the data of a lead -/
def linD (b : P3) (L : List Sg) : List PyData := (b :: L.map fun x => x.1).map T3
def cenD (L : List Sg) : List PyData := (L.map fun x => x.2).map T3
def ldD (b : P3) (L : List Sg) : PyData := .tuple [.tuple (linD b L), .tuple (cenD L)]
def gB : P3 → List Sg → List Bool
  | _, [] => []
  | b, x :: r => (!decide (dt3 x.2 b = 0) && !decide (dt3 x.2 x.1 = 0)) :: gB x.1 r
theorem gB_ok : ∀ (L : List Sg) (b : P3), (gB b L).all id = true ↔ okL b L
  | [], _ => by simp [gB, okL]
  | x :: r, b => by
    rw [gB, List.all_cons, Bool.and_eq_true, gB_ok r x.1, okL]
    simp [Bool.and_eq_true]
/-- a lead whose parts are small triples -/
structure Lt (b : P3) (L : List Sg) : Prop where
  b : Tp b
  a : ∀ x ∈ L, Tp x.1 ∧ Tp x.2
  l0 : 1 ≤ L.length
  l8 : L.length ≤ 8
theorem Lt.be {b : P3} {L : List Sg} (h : Lt b L) : ∀ x ∈ L, B3 7 x.1 ∧ B3 7 x.2 := fun x hx => ⟨(h.a x hx).1.be, (h.a x hx).2.be⟩
theorem zip_sg : ∀ L : List Sg, zipD ((L.map fun x => x.1).map T3) ((L.map fun x => x.2).map T3) = L.map fun x => .tuple [T3 x.1, T3 x.2]
  | [] => rfl
  | x :: L => by
    rw [List.map_cons, List.map_cons, List.map_cons, List.map_cons, List.map_cons]
    show .tuple [_, _] :: zipD _ _ = _
    rw [zip_sg L]
theorem cut1 (d : PyData) (ds : List PyData) : gCut (.tuple (d :: ds)) (some 1) none = some (.tuple ds) := by
  show some (PyData.tuple (cutD (d :: ds) (some 1) none)) = _
  unfold cutD
  have h1 : HT.sIx (d :: ds).length 0 (some 1) = 1 := by
    unfold HT.sIx
    simp
    try omega
  have h2 : HT.sIx (d :: ds).length (d :: ds).length none = (d :: ds).length := by
    unfold HT.sIx
    simp
  rw [h1, h2]
  simp
/-! comprehensions whose every turn is known -/
section
variable {cs : Cs} {α : Type}
theorem lcM (f : PyData → M (Option PyData)) (g : α → PyData) (h : α → PyData) : ∀ {L : List α} {S : List PyData → Cs → Prop}, (∀ x ∈ L, W (f (h x)) cs fun o c => o = some (g x) ∧ c = cs) → S (L.map g) cs → W (stepL f (L.map h)) cs S
  | [], _, _, q => W.stepN q
  | x :: L, S, w, q => by
    refine W.stepC ((w x List.mem_cons_self).mono fun o c e => ?_)
    obtain ⟨rfl, e⟩ := e
    rw [e]
    exact lcM f g h (fun y hy => w y (List.mem_cons_of_mem _ hy)) q
theorem asBools_map : ∀ bs : List Bool, asBools (bs.map PyData.bool) = some bs
  | [] => rfl
  | b :: bs => by
    rw [List.map_cons]
    unfold asBools
    rw [asBools_map bs]
theorem gAll_map {bs : List Bool} : gAll [.list (bs.map PyData.bool)] = some (.bool (bs.all id)) := by
  unfold gAll
  simp only [asBools_map]
end
end T
end
section
set_option Elab.async false
set_option linter.all false
set_option maxRecDepth 100000
set_option maxHeartbeats 400000
namespace T
open PySem hiding Flow Arg
open Se Ev Nm
/-! the places at which a form of two is 0 -/
def qf (a b c x y : Int) : Int := a * (x * x) + b * (x * y) + c * (y * y)
theorem sq_of {k m g : Int} (hk : k ≠ 0) (e : k * k * g = m * m) : ∃ h : Int, g = h * h := by
  have hd : k ^ 2 ∣ m ^ 2 := ⟨g, by rw [Int.pow_succ, Int.pow_succ, Int.pow_succ, Int.pow_succ, Int.pow_zero, Int.pow_zero, Int.one_mul, Int.one_mul]; exact e.symm⟩
  rw [Int.pow_dvd_pow_iff (by decide)] at hd
  obtain ⟨c, rfl⟩ := hd
  refine ⟨c, ?_⟩
  have : k * k * g = k * k * (c * c) := by rw [e]; clear e; grind
  exact Int.eq_of_mul_eq_mul_left (Int.mul_ne_zero hk hk) this
/-- the list of roots: as the program makes it -/
structure Rt (a b c : Int) (R : List (Int × Int)) : Prop where
  nz : ∀ r ∈ R, r.1 ≠ 0 ∨ r.2 ≠ 0
  iff : ∀ x y : Int, x ≠ 0 ∨ y ≠ 0 → (qf a b c x y = 0 ↔ ∃ r ∈ R, x * r.2 = y * r.1)
theorem rt_none {a b c : Int} (h : ¬∃ s : Int, b * b - 4 * a * c = s * s) : Rt a b c [] := by
  refine ⟨by simp, fun x y hp => ⟨fun e => absurd ?_ h, by simp⟩⟩
  unfold qf at e
  by_cases hy : y = 0
  · subst hy
    have hx : x ≠ 0 := by omega
    have : a * (x * x) = 0 := by simpa using e
    have ha : a = 0 := (Int.mul_eq_zero.mp this).resolve_right (Int.mul_ne_zero hx hx)
    subst ha
    exact ⟨b, by simp⟩
  · refine sq_of (k := y) (m := 2 * a * x + b * y) hy ?_
    have : y * y * (b * b - 4 * a * c) - (2 * a * x + b * y) * (2 * a * x + b * y) = -(4 * a) * (a * (x * x) + b * (x * y) + c * (y * y)) := by clear e; grind
    rw [e, Int.mul_zero] at this
    omega
theorem rt_lin {b c : Int} (hb : b ≠ 0) : Rt 0 b c [(1, 0), (c, -b)] := by
  refine ⟨fun r hr => ?_, fun x y hp => ?_⟩
  · simp only [List.mem_cons, List.not_mem_nil, or_false] at hr
    rcases hr with rfl | rfl
    · exact .inl (by decide)
    · exact .inr (by simp only; omega)
  · unfold qf
    have e : 0 * (x * x) + b * (x * y) + c * (y * y) = y * (b * x + c * y) := by grind
    rw [e]
    simp only [List.mem_cons, List.not_mem_nil, or_false, exists_eq_or_imp, exists_eq_left]
    rw [Int.mul_eq_zero, Int.mul_zero, Int.mul_one]
    constructor
    · rintro (h | h)
      · exact .inl h.symm
      · exact .inr (by have : x * -b = -(b * x) := by grind
                       have : y * c = c * y := by grind
                       omega)
    · rintro (h | h)
      · exact .inl h.symm
      · exact .inr (by have : x * -b = -(b * x) := by grind
                       have : y * c = c * y := by grind
                       omega)
theorem rt_one {c : Int} (hc : c ≠ 0) : Rt 0 0 c [(1, 0)] := by
  refine ⟨fun r hr => ?_, fun x y hp => ?_⟩
  · simp only [List.mem_cons, List.not_mem_nil, or_false] at hr
    subst hr
    exact .inl (by decide)
  · unfold qf
    simp only [List.mem_cons, List.not_mem_nil, or_false, exists_eq_left, Int.zero_mul, Int.zero_add, Int.mul_zero, Int.mul_one]
    constructor
    · intro h
      have := (Int.mul_eq_zero.mp h).resolve_left hc
      rcases Int.mul_eq_zero.mp this with h | h <;> exact h.symm
    · intro h
      rw [← h]
      simp
theorem rt_two {a b c h : Int} (ha : a ≠ 0) (e : b * b - 4 * a * c = h * h) : Rt a b c [(-b + h, 2 * a), (-b - h, 2 * a)] := by
  have key : ∀ x y : Int, 4 * a * qf a b c x y = (x * (2 * a) - y * (-b + h)) * (x * (2 * a) - y * (-b - h)) := fun x y => by
    have : (x * (2 * a) - y * (-b + h)) * (x * (2 * a) - y * (-b - h)) = 4 * a * a * x * x + 4 * a * b * x * y + (b * b - h * h) * y * y := by clear e; grind
    rw [this, ← e]
    unfold qf
    clear e this
    grind
  refine ⟨fun r hr => ?_, fun x y hp => ?_⟩
  · simp only [List.mem_cons, List.not_mem_nil, or_false] at hr
    rcases hr with rfl | rfl
    · exact .inr (by simp only; omega)
    · exact .inr (by simp only; omega)
  · have k := key x y
    simp only [List.mem_cons, List.not_mem_nil, or_false, exists_eq_or_imp, exists_eq_left]
    constructor
    · intro z
      rw [z, Int.mul_zero] at k
      rcases Int.mul_eq_zero.mp k.symm with g | g
      · exact .inl (by omega)
      · exact .inr (by omega)
    · intro z
      have : 4 * a * qf a b c x y = 0 := by
        rw [k]
        rcases z with z | z
        · rw [z]; simp
        · rw [z]; simp
      exact (Int.mul_eq_zero.mp this).resolve_left (by omega)
/-- two forms that tell the same -/
theorem Rt.scale {a b c a' b' c' k m : Int} {R : List (Int × Int)} (h : Rt a b c R) (hk : k ≠ 0) (hm : m ≠ 0) (e1 : k * a = m * a') (e2 : k * b = m * b') (e3 : k * c = m * c') : Rt a' b' c' R := by
  refine ⟨h.nz, fun x y hp => ?_⟩
  rw [← h.iff x y hp]
  have : k * qf a b c x y = m * qf a' b' c' x y := by
    have l : ∀ {u v t : Int}, k * u = m * v → k * (u * t) = m * (v * t) := fun z => by rw [← Int.mul_assoc, z, Int.mul_assoc]
    unfold qf
    rw [Int.mul_add, Int.mul_add, Int.mul_add, Int.mul_add, l e1, l e2, l e3]
  constructor
  · intro z
    rw [z, Int.mul_zero] at this
    exact (Int.mul_eq_zero.mp this).resolve_left hk
  · intro z
    rw [z, Int.mul_zero] at this
    exact (Int.mul_eq_zero.mp this.symm).resolve_left hm
theorem Rt.flip {a b c : Int} {R : List (Int × Int)} (h : Rt a b c R) : Rt c b a (R.map fun r => (r.2, r.1)) := by
  refine ⟨fun r hr => ?_, fun x y hp => ?_⟩
  · obtain ⟨s, hs, rfl⟩ := List.mem_map.mp hr
    exact (h.nz s hs).symm
  · have e : qf c b a x y = qf a b c y x := by unfold qf; grind
    rw [e, h.iff y x hp.symm]
    constructor
    · rintro ⟨r, hr, z⟩
      exact ⟨_, List.mem_map.mpr ⟨r, hr, rfl⟩, z.symm⟩
    · rintro ⟨r, hr, z⟩
      obtain ⟨s, hs, rfl⟩ := List.mem_map.mp hr
      exact ⟨s, hs, z.symm⟩
theorem im_cross {p q r s : Int} (hp : p ≠ 0 ∨ q ≠ 0) (hr : r ≠ 0 ∨ s ≠ 0) (e : p * s = q * r) : Im p q r s := by
  by_cases h : r = 0
  · subst h
    have hs : s ≠ 0 := by omega
    have hz : p = 0 := (Int.mul_eq_zero.mp (by rw [e, Int.mul_zero])).resolve_right hs
    subst hz
    exact ⟨s, q, hs, by omega, by simp, Int.mul_comm _ _⟩
  · have hz : p ≠ 0 := fun z => by
      subst z
      have : q * r = 0 := by rw [← e, Int.zero_mul]
      exact h ((Int.mul_eq_zero.mp this).resolve_left (by omega))
    exact ⟨r, p, h, hz, Int.mul_comm _ _, by rw [Int.mul_comm, ← e]⟩
theorem Im.cross {p q r s : Int} (h : Im p q r s) : p * s = q * r := by
  obtain ⟨k, m, hk, hm, e1, e2⟩ := h
  have : (k * m) * (p * s) = (k * m) * (q * r) := by
    have a1 : (k * m) * (p * s) = (k * p) * (m * s) := by clear e1 e2; grind
    have a2 : (k * m) * (q * r) = (k * q) * (m * r) := by clear e1 e2; grind
    rw [a1, a2, e1, e2]
    clear e1 e2 a1 a2
    grind
  exact Int.eq_of_mul_eq_mul_left (Int.mul_ne_zero hk hm) this
/-- a list of the roots, each told as the program tells it (P: how) -/
structure Tl (P : Int → Int → Prop) (R N : List (Int × Int)) : Prop where
  a : ∀ r ∈ R, ∃ n ∈ N, Im n.1 n.2 r.1 r.2
  b : ∀ n ∈ N, P n.1 n.2 ∧ ∃ r ∈ R, Im n.1 n.2 r.1 r.2
theorem Tl.nil {P : Int → Int → Prop} : Tl P [] [] := ⟨by simp, by simp⟩
theorem Tl.cons {P : Int → Int → Prop} {R N : List (Int × Int)} {r n : Int × Int} (h : Tl P R N) (p : P n.1 n.2) (i : Im n.1 n.2 r.1 r.2) : Tl P (r :: R) (n :: N) := by
  refine ⟨fun x hx => ?_, fun x hx => ?_⟩
  · rcases List.mem_cons.mp hx with rfl | hx
    · exact ⟨n, List.mem_cons_self, i⟩
    · obtain ⟨m, hm, g⟩ := h.a x hx
      exact ⟨m, List.mem_cons_of_mem _ hm, g⟩
  · rcases List.mem_cons.mp hx with rfl | hx
    · exact ⟨p, r, List.mem_cons_self, i⟩
    · obtain ⟨q, m, hm, g⟩ := h.b x hx
      exact ⟨q, m, List.mem_cons_of_mem _ hm, g⟩
theorem Tl.mem {P : Int → Int → Prop} {a b c : Int} {R N : List (Int × Int)} (t : Tl P R N) (h : Rt a b c R) (hn : ∀ {x y}, P x y → x ≠ 0 ∨ y ≠ 0) (hu : ∀ {x y u v}, P x y → P u v → Im x y u v → x = u ∧ y = v) (x y : Int) (hp : P x y) : qf a b c x y = 0 ↔ (x, y) ∈ N := by
  rw [h.iff x y (hn hp)]
  constructor
  · rintro ⟨r, hr, e⟩
    obtain ⟨n, hN, i⟩ := t.a r hr
    have i2 : Im x y n.1 n.2 := (im_cross (hn hp) (h.nz r hr) e).trans i.symm
    obtain ⟨e1, e2⟩ := hu hp (t.b n hN).1 i2
    rw [e1, e2]
    exact hN
  · intro hN
    obtain ⟨_, r, hr, i⟩ := t.b _ hN
    exact ⟨r, hr, i.cross⟩
/-! places and points -/
def pt (s : Int × Int) : Int × Int := if s.1 < 0 then (-s.1, -s.2) else s
abbrev NP (x y : Int) : Prop := Nrm [x, 0, y]
theorem np_iff {x y : Int} : NP x y ↔ Nat.gcd x.natAbs y.natAbs = 1 ∧ (0 < x ∨ (x = 0 ∧ 0 < y)) := by
  show gcdL [x, 0, y] = 1 ∧ 0 < fnz [x, 0, y] ↔ _
  have e1 : gcdL [x, 0, y] = Nat.gcd x.natAbs y.natAbs := by simp [gcdL]
  rw [e1]
  have e2 : (0 < fnz [x, 0, y]) ↔ (0 < x ∨ (x = 0 ∧ 0 < y)) := by
    simp only [fnz]
    by_cases hx : x = 0
    · rw [if_pos hx]
      simp only [if_true]
      by_cases hy : y = 0
      · rw [if_pos hy]; omega
      · rw [if_neg hy]; omega
    · rw [if_neg hx]; omega
  rw [e2]
theorem pt_np {p q : Int} (h : Pl p q) : NP (pt (p, q)).1 (pt (p, q)).2 := by
  obtain ⟨h1, h2⟩ := h.cases
  rw [np_iff]
  unfold pt
  by_cases hp : p < 0
  · rw [if_pos hp]
    simp only [Int.natAbs_neg]
    exact ⟨h1, by omega⟩
  · rw [if_neg hp]
    simp only
    refine ⟨h1, ?_⟩
    by_cases hz : p = 0
    · subst hz
      simp at h1
      omega
    · omega
theorem pt_qf (a b c p q : Int) : qf a b c (pt (p, q)).1 (pt (p, q)).2 = qf a b c p q := by
  unfold pt
  by_cases hp : p < 0
  · rw [if_pos hp]
    unfold qf
    simp only [Int.neg_mul_neg]
  · rw [if_neg hp]
theorem pt_im (p q : Int) : Im (pt (p, q)).1 (pt (p, q)).2 p q := by
  unfold pt
  by_cases hp : p < 0
  · rw [if_pos hp]
    exact ⟨-1, 1, by decide, by decide, by simp, by simp⟩
  · rw [if_neg hp]
    exact .refl
theorem pt_ex {x y : Int} (h : NP x y) : ∃ p q, Pl p q ∧ pt (p, q) = (x, y) := by
  obtain ⟨h1, h2⟩ := np_iff.mp h
  by_cases hy : y < 0
  · refine ⟨-x, -y, Pl.of (by simpa using h1) (.inl (by omega)), ?_⟩
    unfold pt
    rw [if_pos (by simp only; omega)]
    simp
  · refine ⟨x, y, Pl.of h1 ?_, ?_⟩
    · by_cases hz : y = 0
      · subst hz
        simp at h1
        exact .inr ⟨rfl, by omega⟩
      · exact .inl (by omega)
    · unfold pt
      rw [if_neg (by simp only; omega)]
theorem pt_inj {p q r s : Int} (h : Pl p q) (g : Pl r s) (e : pt (p, q) = pt (r, s)) : p = r ∧ q = s := by
  have i := (pt_im p q).symm
  rw [e] at i
  exact (i.trans (pt_im r s)).eq h g
theorem nodup_map {α β : Type} {f : α → β} : ∀ {l : List α}, l.Nodup → (∀ s ∈ l, ∀ t ∈ l, f s = f t → s = t) → (l.map f).Nodup
  | [], _, _ => by simp
  | x :: l, h, g => by
    obtain ⟨h1, h2⟩ := List.nodup_cons.mp h
    rw [List.map_cons, List.nodup_cons]
    refine ⟨fun hm => ?_, nodup_map h2 fun s hs t ht => g s (List.mem_cons_of_mem _ hs) t (List.mem_cons_of_mem _ ht)⟩
    obtain ⟨y, hy, e⟩ := List.mem_map.mp hm
    have := g y (List.mem_cons_of_mem _ hy) x List.mem_cons_self e
    rw [this] at hy
    exact h1 hy
/-- the points of all fixed places are all fixed points -/
theorem pts_perm {a b c : Int} {S N : List (Int × Int)} (hS : S.Nodup) (hN : N.Nodup) (mS : ∀ s, s ∈ S ↔ Pl s.1 s.2 ∧ qf a b c s.1 s.2 = 0) (mN : ∀ s, s ∈ N ↔ NP s.1 s.2 ∧ qf a b c s.1 s.2 = 0) : (S.map pt).Perm N := by
  refine (List.perm_ext_iff_of_nodup ?_ hN).mpr fun x => ?_
  · refine nodup_map hS fun s hs t ht e => ?_
    obtain ⟨p, q⟩ := s
    obtain ⟨r, u⟩ := t
    obtain ⟨e1, e2⟩ := pt_inj ((mS _).mp hs).1 ((mS _).mp ht).1 e
    simp only at e1 e2
    rw [e1, e2]
  · rw [List.mem_map, mN]
    constructor
    · rintro ⟨⟨p, q⟩, hs, rfl⟩
      obtain ⟨h1, h2⟩ := (mS _).mp hs
      exact ⟨pt_np h1, by rw [pt_qf]; exact h2⟩
    · rintro ⟨h1, h2⟩
      obtain ⟨x1, x2⟩ := x
      obtain ⟨p, q, h3, h4⟩ := pt_ex h1
      refine ⟨(p, q), (mS _).mpr ⟨h3, ?_⟩, h4⟩
      rw [← pt_qf a b c p q, h4]
      exact h2
end T
end
section
set_option Elab.async false
set_option linter.all false
set_option maxRecDepth 100000
set_option maxHeartbeats 400000
namespace T
open PySem hiding Flow Arg
open Se Ev Nm
/-! rows of integers, sorted -/
theorem asInts_map : ∀ r : List Int, asInts (r.map PyData.int) = some r
  | [] => rfl
  | x :: r => by
    rw [List.map_cons]
    unfold asInts
    rw [asInts_map r]
theorem asRows_map : ∀ rs : List (List Int), asRows (rs.map SeS.rowD) = some rs
  | [] => rfl
  | r :: rs => by
    show (match asInts (r.map PyData.int), asRows (rs.map SeS.rowD) with
      | some ns, some rs => some (ns :: rs)
      | _, _ => none) = _
    rw [asInts_map, asRows_map rs]
theorem rowsOf_map {rs : List (List Int)} (h : rs.length < 64) : rowsOf [.list (rs.map SeS.rowD)] = some rs := by
  show (match asRows (rs.map SeS.rowD) with
    | some rs => if rs.length < 64 then some rs else none
    | none => none) = _
  rw [asRows_map]
  simp only [if_pos h]
theorem gSortSet_map {rs : List (List Int)} (h : rs.length < 64) (hn : ∀ r ∈ rs, r ≠ []) : gSortSet [.list (rs.map SeS.rowD)] = some (.list (isort ((SeS.nub rs).map SeS.rowD))) := by
  unfold gSortSet
  rw [rowsOf_map h]
  simp only []
  rw [if_pos]
  rw [List.all_eq_true]
  intro r hr
  have := hn r hr
  cases r with
  | nil => exact absurd rfl this
  | cons => rfl
theorem isort_perm (l : List PyData) : (isort l).Perm l := by
  rw [isort_eq]
  exact List.mergeSort_perm l leD
theorem sortOk_rows {rs : List (List Int)} (hn : ∀ r ∈ rs, r ≠ []) : sortOk (rs.map SeS.rowD) = true := by
  unfold sortOk
  rw [Bool.and_eq_true, Bool.and_eq_true, Bool.or_eq_true]
  refine ⟨⟨?_, .inl ?_⟩, ?_⟩
  · rw [List.all_eq_true]
    intro d hd
    rw [List.all_eq_true]
    intro e he
    obtain ⟨r, _, rfl⟩ := List.mem_map.mp hd
    obtain ⟨q, _, rfl⟩ := List.mem_map.mp he
    exact SeS.alike_rows r q
  · rw [List.all_eq_true]
    intro d hd
    obtain ⟨r, hr, rfl⟩ := List.mem_map.mp hd
    have := hn r hr
    cases r with
    | nil => exact absurd rfl this
    | cons => rfl
  · rw [List.all_eq_true]
    intro d hd
    obtain ⟨r, hr, rfl⟩ := List.mem_map.mp hd
    have := SeS.depth_row r
    exact decide_eq_true (by omega)
theorem lift_map {α β : Type} (g : α → β) : ∀ {l : List β}, (∀ x ∈ l, ∃ s, x = g s) → ∃ l' : List α, l = l'.map g
  | [], _ => ⟨[], rfl⟩
  | x :: l, h => by
    obtain ⟨s, rfl⟩ := h x List.mem_cons_self
    obtain ⟨l', rfl⟩ := lift_map g fun y hy => h y (List.mem_cons_of_mem _ hy)
    exact ⟨s :: l', rfl⟩
theorem nodup_of_map {α β : Type} {g : α → β} {l : List α} (h : (l.map g).Nodup) : l.Nodup := by
  induction l with
  | nil => simp
  | cons x l ih =>
    rw [List.map_cons, List.nodup_cons] at h
    rw [List.nodup_cons]
    exact ⟨fun hm => h.1 (List.mem_map.mpr ⟨x, hm, rfl⟩), ih h.2⟩
/-- sorted(set(..)) of pairs that are told as rows -/
theorem sortset (rw' : Int × Int → List Int) (hne : ∀ s, rw' s ≠ []) (inj : ∀ s t, rw' s = rw' t → s = t) (N : List (Int × Int)) (hl : N.length < 64) :
    ∃ N' : List (Int × Int), gSortSet [.list (N.map fun s => SeS.rowD (rw' s))] = some (.list (N'.map fun s => SeS.rowD (rw' s))) ∧ N'.Nodup ∧ (∀ s, s ∈ N' ↔ s ∈ N) ∧
      ∀ M : List (Int × Int), M.Perm N' → gSorted [.list (M.map fun s => SeS.rowD (rw' s))] = some (.list (N'.map fun s => SeS.rowD (rw' s))) := by
  have e0 : ∀ M : List (Int × Int), (M.map fun s => SeS.rowD (rw' s)) = (M.map rw').map SeS.rowD := fun M => by rw [List.map_map]; rfl
  have injD : ∀ s t : Int × Int, SeS.rowD (rw' s) = SeS.rowD (rw' t) → s = t := fun s t e => inj s t (SeS.rowD_inj e)
  have h1 : gSortSet [.list (N.map fun s => SeS.rowD (rw' s))] = some (.list (isort ((SeS.nub (N.map rw')).map SeS.rowD))) := by
    rw [e0, gSortSet_map (by rw [List.length_map]; exact hl)]
    intro r hr
    obtain ⟨s, _, rfl⟩ := List.mem_map.mp hr
    exact hne s
  have hp := isort_perm ((SeS.nub (N.map rw')).map SeS.rowD)
  obtain ⟨N', hN⟩ := lift_map (fun s : Int × Int => SeS.rowD (rw' s)) (l := isort ((SeS.nub (N.map rw')).map SeS.rowD)) fun x hx => by
    obtain ⟨r, hr, rfl⟩ := List.mem_map.mp (hp.mem_iff.mp hx)
    obtain ⟨s, _, rfl⟩ := List.mem_map.mp (SeS.mem_nub.mp hr)
    exact ⟨s, rfl⟩
  have nd : (N'.map fun s => SeS.rowD (rw' s)).Nodup := by
    rw [← hN]
    refine hp.symm.nodup ?_
    exact nodup_map (SeS.nodup_nub _) fun s _ t _ e => SeS.rowD_inj e
  have hm : ∀ s, s ∈ N' ↔ s ∈ N := fun s => by
    have m1 : s ∈ N' ↔ SeS.rowD (rw' s) ∈ N'.map fun s => SeS.rowD (rw' s) := by
      rw [List.mem_map]
      exact ⟨fun h => ⟨s, h, rfl⟩, fun ⟨t, ht, e⟩ => injD t s e ▸ ht⟩
    rw [m1, ← hN, hp.mem_iff, List.mem_map]
    constructor
    · rintro ⟨r, hr, e⟩
      have e' := SeS.rowD_inj e
      subst e'
      obtain ⟨t, ht, e⟩ := List.mem_map.mp (SeS.mem_nub.mp hr)
      exact inj t s e ▸ ht
    · intro h
      exact ⟨rw' s, SeS.mem_nub.mpr (List.mem_map.mpr ⟨s, h, rfl⟩), rfl⟩
  refine ⟨N', by rw [h1, hN], nodup_of_map nd, hm, fun M pm => ?_⟩
  have hr : ∀ r ∈ M.map rw', r ≠ [] := fun r hr => by
    obtain ⟨s, _, rfl⟩ := List.mem_map.mp hr
    exact hne s
  show (if sortOk (M.map fun s => SeS.rowD (rw' s)) = true then some (PyData.list (isort (M.map fun s => SeS.rowD (rw' s)))) else none) = _
  rw [e0 M, if_pos (sortOk_rows hr), ← hN]
  congr 2
  refine SeS.isort_rows ?_
  refine (List.perm_ext_iff_of_nodup ?_ (SeS.nodup_nub _)).mpr fun x => ?_
  · exact nodup_map (pm.symm.nodup (nodup_of_map nd)) fun s _ t _ e => inj s t e
  · rw [SeS.mem_nub, List.mem_map, List.mem_map]
    constructor
    · rintro ⟨s, hs, rfl⟩
      exact ⟨s, (hm s).mp (pm.mem_iff.mp hs), rfl⟩
    · rintro ⟨s, hs, rfl⟩
      exact ⟨s, pm.mem_iff.mpr ((hm s).mpr hs), rfl⟩
def rwP (s : Int × Int) : List Int := [s.1, s.2]
def rwT (s : Int × Int) : List Int := [s.1, 0, s.2]
theorem rwP_inj (s t : Int × Int) (e : rwP s = rwP t) : s = t := by
  unfold rwP at e
  simp only [List.cons.injEq, and_true] at e
  exact Prod.ext e.1 e.2
theorem rwT_inj (s t : Int × Int) (e : rwT s = rwT t) : s = t := by
  unfold rwT at e
  simp only [List.cons.injEq, and_true, true_and] at e
  exact Prod.ext e.1 e.2
end T
end
section
set_option Elab.async false
set_option linter.all false
set_option maxRecDepth 100000
set_option maxHeartbeats 400000
namespace T
open PySem hiding Flow Arg
open Se Ev Nm
/-! rounds -/
abbrev M4 := Int × Int × Int × Int
def sc4 (m : M4) : Prop := scl m.1 m.2.1 m.2.2.1 m.2.2.2
def nn (a b c d : Int) : Nat → M4
  | 0 => (1, 0, 0, 1)
  | r + 1 => (a * (nn a b c d r).1 + b * (nn a b c d r).2.2.1, a * (nn a b c d r).2.1 + b * (nn a b c d r).2.2.2, c * (nn a b c d r).1 + d * (nn a b c d r).2.2.1, c * (nn a b c d r).2.1 + d * (nn a b c d r).2.2.2)
def uu (t e : Int) : Nat → Int
  | 0 => 0
  | 1 => 1
  | r + 2 => t * uu t e (r + 1) - e * uu t e r
theorem m4_ext {p q : M4} (h1 : p.1 = q.1) (h2 : p.2.1 = q.2.1) (h3 : p.2.2.1 = q.2.2.1) (h4 : p.2.2.2 = q.2.2.2) : p = q := Prod.ext h1 (Prod.ext h2 (Prod.ext h3 h4))
theorem nn_uu (a b c d : Int) : ∀ r, nn a b c d (r + 1) = nr a b c d (uu (a + d) (a * d - b * c) (r + 1)) (uu (a + d) (a * d - b * c) r)
  | 0 => by apply m4_ext <;> simp [nn, nr, uu]
  | r + 1 => by
    have h := nn_uu a b c d r
    obtain ⟨s1, s2, s3, s4⟩ := nr_step a b c d (uu (a + d) (a * d - b * c) (r + 1)) (uu (a + d) (a * d - b * c) r)
    show (_, _, _, _) = nr a b c d (uu (a + d) (a * d - b * c) (r + 2)) (uu (a + d) (a * d - b * c) (r + 1))
    rw [h, s1, s2, s3, s4]
    rfl
theorem nn_det {a b c d : Int} (hd : a * d - b * c ≠ 0) : ∀ r, (nn a b c d r).1 * (nn a b c d r).2.2.2 - (nn a b c d r).2.1 * (nn a b c d r).2.2.1 ≠ 0
  | 0 => by unfold nn; decide
  | r + 1 => by
    have h := nn_det hd r
    have e : (nn a b c d (r + 1)).1 * (nn a b c d (r + 1)).2.2.2 - (nn a b c d (r + 1)).2.1 * (nn a b c d (r + 1)).2.2.1 = (a * d - b * c) * ((nn a b c d r).1 * (nn a b c d r).2.2.2 - (nn a b c d r).2.1 * (nn a b c d r).2.2.1) := by
      rw [show nn a b c d (r + 1) = (a * (nn a b c d r).1 + b * (nn a b c d r).2.2.1, a * (nn a b c d r).2.1 + b * (nn a b c d r).2.2.2, c * (nn a b c d r).1 + d * (nn a b c d r).2.2.1, c * (nn a b c d r).2.1 + d * (nn a b c d r).2.2.2) from rfl]
      generalize nn a b c d r = m
      obtain ⟨x, y, z, w⟩ := m
      clear h hd
      simp only
      grind
    rw [e]
    exact Int.mul_ne_zero hd h
theorem sc_iff (a b c d : Int) (r : Nat) : sc4 (nn a b c d (r + 1)) ↔ scl a b c d ∨ uu (a + d) (a * d - b * c) (r + 1) = 0 := by
  rw [nn_uu]
  unfold sc4 nr scl
  simp only
  generalize uu (a + d) (a * d - b * c) (r + 1) = u
  generalize (a * d - b * c) * uu (a + d) (a * d - b * c) r = w
  constructor
  · rintro ⟨h1, h2, h3⟩
    by_cases hu : u = 0
    · exact .inr hu
    · left
      have h4 : u * (a - d) = 0 := by rw [Int.mul_sub]; omega
      have g1 := (Int.mul_eq_zero.mp h1).resolve_left hu
      have g2 := (Int.mul_eq_zero.mp h2).resolve_left hu
      have g3 := (Int.mul_eq_zero.mp h4).resolve_left hu
      exact ⟨g1, g2, by omega⟩
  · rintro (⟨h1, h2, h3⟩ | h)
    · subst h1 h2 h3
      simp
    · subst h
      simp
/-- the first round at which all come home, of the first six -/
def Rnd (a b c d : Int) : Option Int → Prop
  | some j => ∃ m : Nat, j = m ∧ 1 ≤ m ∧ m ≤ 6 ∧ sc4 (nn a b c d m) ∧ ∀ i, 1 ≤ i → i < m → ¬sc4 (nn a b c d i)
  | none => ∀ i, 1 ≤ i → i ≤ 6 → ¬sc4 (nn a b c d i)
theorem Rnd.uniq {a b c d : Int} {o o' : Option Int} (h : Rnd a b c d o) (g : Rnd a b c d o') : o = o' := by
  cases o with
  | none =>
    cases o' with
    | none => rfl
    | some j =>
      obtain ⟨m, _, h1, h2, h3, _⟩ := g
      exact absurd h3 (h m h1 h2)
  | some k =>
    obtain ⟨n, rfl, g1, g2, g3, g4⟩ := h
    cases o' with
    | none => exact absurd g3 (g n g1 g2)
    | some j =>
      obtain ⟨m, rfl, h1, h2, h3, h4⟩ := g
      rcases Nat.lt_trichotomy n m with z | z | z
      · exact absurd g3 (h4 n g1 z)
      · rw [z]
      · exact absurd h3 (g4 m h1 z)
def ordO (a b c d : Int) : Option Int :=
  if scl a b c d then some 1 else if (a + d) * (a + d) = 0 then some 2 else if (a + d) * (a + d) = a * d - b * c then some 3 else if (a + d) * (a + d) = 2 * (a * d - b * c) then some 4 else if (a + d) * (a + d) = 3 * (a * d - b * c) then some 6 else none
theorem ordO_rnd {a b c d : Int} (hd : a * d - b * c ≠ 0) : Rnd a b c d (ordO a b c d) := by
  have s1 : sc4 (nn a b c d 1) ↔ scl a b c d ∨ (1 : Int) = 0 := sc_iff a b c d 0
  have s2 := sc_iff a b c d 1
  have s3 := sc_iff a b c d 2
  have s4 := sc_iff a b c d 3
  have s5 := sc_iff a b c d 4
  have s6 := sc_iff a b c d 5
  unfold ordO
  by_cases hs : scl a b c d
  · rw [if_pos hs]
    exact ⟨1, rfl, by decide, by decide, s1.mpr (.inl hs), fun i h1 h2 => by omega⟩
  rw [if_neg hs]
  have n1 : ¬sc4 (nn a b c d 1) := fun h => by rcases s1.mp h with h | h; exact hs h; omega
  generalize ht : a + d = t at *
  generalize he : a * d - b * c = e at *
  have u2 : uu t e 2 = t := by simp [uu]
  have u3 : uu t e 3 = t * t - e := by rw [show uu t e 3 = t * uu t e 2 - e * uu t e 1 from rfl, u2]; simp [uu]
  have u4 : uu t e 4 = t * (t * t - 2 * e) := by rw [show uu t e 4 = t * uu t e 3 - e * uu t e 2 from rfl, u2, u3]; clear s1 s2 s3 s4 s5 s6 u2 u3 ht he; grind
  have u5 : uu t e 5 = (t * t) * (t * t) - 3 * (t * t) * e + e * e := by rw [show uu t e 5 = t * uu t e 4 - e * uu t e 3 from rfl, u4, u3]; clear s1 s2 s3 s4 s5 s6 u2 u3 u4 ht he; grind
  have u6 : uu t e 6 = t * ((t * t - e) * (t * t - 3 * e)) := by rw [show uu t e 6 = t * uu t e 5 - e * uu t e 4 from rfl, u4, u5]; clear s1 s2 s3 s4 s5 s6 u2 u3 u4 u5 ht he; grind
  rw [u2] at s2
  rw [u3] at s3
  rw [u4] at s4
  rw [u5] at s5
  rw [u6] at s6
  clear u2 u3 u4 u5 u6 ht he
  by_cases h2 : t * t = 0
  · rw [if_pos h2]
    have ht : t = 0 := by rcases Int.mul_eq_zero.mp h2 with h | h <;> exact h
    refine ⟨2, rfl, by decide, by decide, s2.mpr (.inr ht), fun i i1 i2 => ?_⟩
    obtain rfl : i = 1 := by omega
    exact n1
  rw [if_neg h2]
  have ht : t ≠ 0 := fun z => h2 (by rw [z]; rfl)
  have n2 : ¬sc4 (nn a b c d 2) := fun h => by rcases s2.mp h with h | h; exact hs h; exact ht h
  by_cases h3 : t * t = e
  · rw [if_pos h3]
    refine ⟨3, rfl, by decide, by decide, s3.mpr (.inr (by omega)), fun i i1 i2 => ?_⟩
    rcases (by omega : i = 1 ∨ i = 2) with rfl | rfl
    · exact n1
    · exact n2
  rw [if_neg h3]
  have n3 : ¬sc4 (nn a b c d 3) := fun h => by rcases s3.mp h with h | h; exact hs h; omega
  by_cases h4 : t * t = 2 * e
  · rw [if_pos h4]
    refine ⟨4, rfl, by decide, by decide, s4.mpr (.inr (by rw [h4]; simp)), fun i i1 i2 => ?_⟩
    rcases (by omega : i = 1 ∨ i = 2 ∨ i = 3) with rfl | rfl | rfl
    · exact n1
    · exact n2
    · exact n3
  rw [if_neg h4]
  have n4 : ¬sc4 (nn a b c d 4) := fun h => by
    rcases s4.mp h with h | h
    · exact hs h
    · rcases Int.mul_eq_zero.mp h with h | h
      · exact ht h
      · omega
  have n5 : ¬sc4 (nn a b c d 5) := fun h => by
    rcases s5.mp h with h | h
    · exact hs h
    · apply hd
      refine sq5 (x := 2 * (t * t) - 3 * e) ?_
      clear s1 s2 s3 s4 s5 s6 n1 n2 n3 n4 h2 h3 h4
      grind
  by_cases h6 : t * t = 3 * e
  · rw [if_pos h6]
    refine ⟨6, rfl, by decide, by decide, s6.mpr (.inr (by rw [h6]; simp)), fun i i1 i2 => ?_⟩
    rcases (by omega : i = 1 ∨ i = 2 ∨ i = 3 ∨ i = 4 ∨ i = 5) with rfl | rfl | rfl | rfl | rfl
    · exact n1
    · exact n2
    · exact n3
    · exact n4
    · exact n5
  rw [if_neg h6]
  have n6 : ¬sc4 (nn a b c d 6) := fun h => by
    rcases s6.mp h with h | h
    · exact hs h
    · rcases Int.mul_eq_zero.mp h with h | h
      · exact ht h
      · rcases Int.mul_eq_zero.mp h with h | h <;> omega
  intro i i1 i2
  rcases (by omega : i = 1 ∨ i = 2 ∨ i = 3 ∨ i = 4 ∨ i = 5 ∨ i = 6) with rfl | rfl | rfl | rfl | rfl | rfl
  · exact n1
  · exact n2
  · exact n3
  · exact n4
  · exact n5
  · exact n6
theorem Pr.ord {A B C D a b c d : Int} (h : Pr A B C D a b c d) : ordO A B C D = ordO a b c d := by
  have hs := h.scl
  obtain ⟨k, m, hk, hm, e1, e2, e3, e4⟩ := h
  have g1 : k * (A + D) = m * (a + d) := by rw [Int.mul_add, Int.mul_add, e1, e4]
  have g2 : (k * k) * ((A + D) * (A + D)) = (m * m) * ((a + d) * (a + d)) := by
    have z1 : (k * k) * ((A + D) * (A + D)) = (k * (A + D)) * (k * (A + D)) := by clear g1 e1 e2 e3 e4; grind
    have z2 : (m * m) * ((a + d) * (a + d)) = (m * (a + d)) * (m * (a + d)) := by clear g1 e1 e2 e3 e4; grind
    rw [z1, z2, g1]
  have g3 : (k * k) * (A * D - B * C) = (m * m) * (a * d - b * c) := by
    have z1 : (k * k) * (A * D - B * C) = (k * A) * (k * D) - (k * B) * (k * C) := by clear g1 e1 e2 e3 e4; grind
    have z2 : (m * m) * (a * d - b * c) = (m * a) * (m * d) - (m * b) * (m * c) := by clear g1 e1 e2 e3 e4; grind
    rw [z1, z2, e1, e2, e3, e4]
  unfold ordO
  have hkk : k * k ≠ 0 := Int.mul_ne_zero hk hk
  have hmm : m * m ≠ 0 := Int.mul_ne_zero hm hm
  generalize k * k = K at *
  generalize m * m = N at *
  generalize (A + D) * (A + D) = X at *
  generalize (a + d) * (a + d) = x at *
  generalize A * D - B * C = Y at *
  generalize a * d - b * c = y at *
  have j : ∀ i : Int, X = i * Y ↔ x = i * y := fun i => by
    have p : K * X = K * (i * Y) ↔ N * x = N * (i * y) := by
      rw [Int.mul_left_comm K, Int.mul_left_comm N, g2, g3]
    constructor
    · intro z
      exact Int.eq_of_mul_eq_mul_left hmm (p.mp (by rw [z]))
    · intro z
      exact Int.eq_of_mul_eq_mul_left hkk (p.mpr (by rw [z]))
  have j0 := j 0
  have j1 := j 1
  simp only [Int.zero_mul, Int.one_mul] at j0 j1
  simp only [hs, j0, j1, j 2, j 3]
end T
end
section
set_option Elab.async false
set_option linter.all false
set_option maxRecDepth 100000
set_option maxHeartbeats 400000
namespace T
open PySem hiding Flow Arg
open Se Ev Nm
/-! the way back, as data -/
theorem rev_lin : ∀ (L : List Sg) (b : P3) (acc : List Sg), linD (lst b L) (revA b L acc) = ((L.map fun x => x.1).map T3).reverse ++ linD b acc
  | [], _, _ => rfl
  | x :: L, b, acc => by
    show linD (lst x.1 L) (revA x.1 L ((b, x.2) :: acc)) = _
    rw [rev_lin L x.1 ((b, x.2) :: acc), List.map_cons, List.map_cons, List.reverse_cons, List.append_assoc]
    rfl
theorem rev_cen : ∀ (L : List Sg) (b : P3) (acc : List Sg), cenD (revA b L acc) = (cenD L).reverse ++ cenD acc
  | [], _, _ => rfl
  | x :: L, b, acc => by
    show cenD (revA x.1 L ((b, x.2) :: acc)) = _
    rw [rev_cen L x.1 ((b, x.2) :: acc)]
    show _ = (T3 x.2 :: cenD L).reverse ++ cenD acc
    rw [List.reverse_cons, List.append_assoc]
    rfl
theorem rev_data {L : List Sg} (hl : lst B0 L = B0) : gRev (.tuple (linD B0 L)) = some (.tuple (linD B0 (revA B0 L []))) ∧ gRev (.tuple (cenD L)) = some (.tuple (cenD (revA B0 L []))) := by
  have h1 := rev_lin L B0 []
  have h2 := rev_cen L B0 []
  rw [hl] at h1
  refine ⟨?_, ?_⟩
  · show some (PyData.tuple (linD B0 L).reverse) = _
    rw [h1]
    show some (PyData.tuple (T3 B0 :: (L.map fun x => x.1).map T3).reverse) = _
    rw [List.reverse_cons]
    rfl
  · show some (PyData.tuple (cenD L).reverse) = _
    rw [h2]
    simp [cenD]
theorem rev_tp : ∀ (L : List Sg) (b : P3) (acc : List Sg), Tp b → (∀ x ∈ L, Tp x.1 ∧ Tp x.2) → (∀ x ∈ acc, Tp x.1 ∧ Tp x.2) → ∀ x ∈ revA b L acc, Tp x.1 ∧ Tp x.2
  | [], _, _, _, _, h => h
  | x :: L, b, acc, hb, h, g => rev_tp L x.1 ((b, x.2) :: acc) (h x List.mem_cons_self).1 (fun y hy => h y (List.mem_cons_of_mem _ hy)) fun y hy => by
    rcases List.mem_cons.mp hy with rfl | hy
    · exact ⟨hb, (h x List.mem_cons_self).2⟩
    · exact g y hy
theorem rev_len : ∀ (L : List Sg) (b : P3) (acc : List Sg), (revA b L acc).length = L.length + acc.length
  | [], _, acc => by simp [revA]
  | x :: L, b, acc => by
    show (revA x.1 L ((b, x.2) :: acc)).length = _
    rw [rev_len L x.1 ((b, x.2) :: acc), List.length_cons, List.length_cons]
    omega
/-! swings undone -/
theorem Pr.undo {A B C D a b c d : Int} (h : Pr A B C D a b c d) : Pr D (-B) (-C) A d (-b) (-c) a := by
  obtain ⟨k, m, hk, hm, e1, e2, e3, e4⟩ := h
  exact ⟨k, m, hk, hm, e4, by rw [Int.mul_neg, Int.mul_neg, e2], by rw [Int.mul_neg, Int.mul_neg, e3], e1⟩
theorem Pr.gauge0 {A B C D a b c d : Int} (h : Pr A B C D a b c d) : True := trivial
/-- a path of a swing, by places -/
def chain (a b c d : Int) : Int × Int → List (Int × Int) → Prop
  | _, [] => True
  | p, r :: rs => (Pl r.1 r.2 ∧ Im r.1 r.2 (a * p.1 + b * p.2) (c * p.1 + d * p.2)) ∧ chain a b c d r rs
theorem Rt_ne {S : List (Int × Int)} : S.length = S.length := rfl
end T
end
section
set_option Elab.async false
set_option linter.all false
set_option maxRecDepth 100000
set_option maxHeartbeats 400000
namespace T
open PySem hiding Flow Arg
open Se Ev Nm
/-! numbers without squares -/
structure Irr (q : Nat) : Prop where
  two : 2 ≤ q
  div : ∀ d, d ∣ q → d = 1 ∨ d = q
def Sf (n : Nat) : Prop := ∀ r, Irr r → ¬r * r ∣ n
theorem irr_ex : ∀ n : Nat, 2 ≤ n → ∃ q, Irr q ∧ q ∣ n := by
  intro n
  induction n using Nat.strongRecOn with
  | ind n ih =>
    intro h
    by_cases g : ∃ d, d ∣ n ∧ d ≠ 1 ∧ d ≠ n
    · obtain ⟨d, h1, h2, h3⟩ := g
      have hd : d ≤ n := Nat.le_of_dvd (by omega) h1
      have h0 : d ≠ 0 := fun z => by
        subst z
        have := Nat.eq_zero_of_zero_dvd h1
        omega
      obtain ⟨q, i, j⟩ := ih d (by omega) (by omega)
      exact ⟨q, i, Nat.dvd_trans j h1⟩
    · refine ⟨n, ⟨h, fun d hd => ?_⟩, Nat.dvd_refl n⟩
      by_cases e : d = 1
      · exact .inl e
      · exact .inr (Classical.byContradiction fun z => g ⟨d, hd, e, z⟩)
theorem Irr.cop {q : Nat} (h : Irr q) (n : Nat) : Nat.Coprime q n ∨ q ∣ n := by
  rcases h.div (Nat.gcd q n) (Nat.gcd_dvd_left q n) with e | e
  · exact .inl e
  · exact .inr (e ▸ Nat.gcd_dvd_right q n)
theorem sq_cop {m n : Nat} (h : Nat.Coprime m n) : Nat.Coprime (m * m) n := Nat.Coprime.mul_left h h
theorem sf_uniq {a b f g : Nat} (ha : Sf a) (hb : Sf b) (hf : f ≠ 0) (hg : g ≠ 0) (e : a * (f * f) = b * (g * g)) : a = b := by
  have hd : 0 < Nat.gcd f g := Nat.gcd_pos_of_pos_left g (by omega)
  obtain ⟨F, hF⟩ := Nat.gcd_dvd_left f g
  obtain ⟨G, hG⟩ := Nat.gcd_dvd_right f g
  have hc : Nat.Coprime F G := by
    have := Nat.coprime_div_gcd_div_gcd hd
    rwa [Nat.div_eq_of_eq_mul_right hd hF, Nat.div_eq_of_eq_mul_right hd hG] at this
  generalize Nat.gcd f g = k at *
  subst hF hG
  have e2 : a * (F * F) = b * (G * G) := by
    have h1 : a * (k * F * (k * F)) = (k * k) * (a * (F * F)) := by clear e hc; grind
    have h2 : b * (k * G * (k * G)) = (k * k) * (b * (G * G)) := by clear e hc; grind
    rw [h1, h2] at e
    exact Nat.eq_of_mul_eq_mul_left (Nat.mul_pos hd hd) e
  have one : ∀ {A B P Q : Nat}, Sf B → P ≠ 0 → Nat.Coprime P Q → A * (P * P) = B * (Q * Q) → P = 1 := fun {A B P Q} hB hP hc e => by
    have h1 : P * P ∣ B * (Q * Q) := ⟨A, by rw [← e, Nat.mul_comm]⟩
    have h2 : P * P ∣ B := Nat.Coprime.dvd_of_dvd_mul_right (sq_cop (Nat.Coprime.mul_right hc hc)) h1
    refine Classical.byContradiction fun z => ?_
    obtain ⟨q, i, j⟩ := irr_ex P (by omega)
    exact hB q i (Nat.dvd_trans (Nat.mul_dvd_mul j j) h2)
  have hF1 := one hb (fun z => hf (by rw [z, Nat.mul_zero])) hc e2
  have hG1 := one ha (fun z => hg (by rw [z, Nat.mul_zero])) hc.symm e2.symm
  subst hF1 hG1
  simpa using e2
/-- how far the search is: nothing below own is left, and nothing from own on is found -/
structure Bs (x left found own : Nat) : Prop where
  l1 : 1 ≤ left
  f1 : 1 ≤ found
  o2 : 2 ≤ own
  eq : ∃ s, s ≠ 0 ∧ x = found * left * (s * s)
  sf : Sf found
  fo : ∀ q, Irr q → own ≤ q → Nat.Coprime q found
  lo : ∀ d, 2 ≤ d → d < own → ¬d ∣ left
theorem Bs.irr {x left found own : Nat} (h : Bs x left found own) (hd : own ∣ left) : Irr own := by
  refine ⟨h.o2, fun d hdv => ?_⟩
  have h0 : d ≠ 0 := fun z => by
    subst z
    have := Nat.eq_zero_of_zero_dvd hdv
    have := h.o2
    omega
  have hle := Nat.le_of_dvd (by have := h.o2; omega) hdv
  by_cases e : d = 1
  · exact .inl e
  · by_cases g : d = own
    · exact .inr g
    · exact absurd (Nat.dvd_trans hdv hd) (h.lo d (by omega) (by omega))
theorem irr_eq {p q : Nat} (hp : Irr p) (hq : Irr q) (h : p ∣ q) : p = q := by
  rcases hq.div p h with e | e
  · have := hp.two
    omega
  · exact e
theorem sf_mul {a q : Nat} (ha : Sf a) (hq : Irr q) (hc : Nat.Coprime q a) : Sf (a * q) := fun r hr hd => by
  by_cases e : r = q
  · subst e
    have h1 : r ∣ a := Nat.dvd_of_mul_dvd_mul_right (by have := hr.two; omega) hd
    have h2 : Nat.gcd r a = r := Nat.gcd_eq_left h1
    have := hr.two
    rw [hc] at h2
    omega
  · have hrq : Nat.Coprime r q := by
      rcases hr.cop q with h | h
      · exact h
      · exact absurd (irr_eq hr hq h) e
    exact ha r hr (Nat.Coprime.dvd_of_dvd_mul_right (sq_cop hrq) hd)
/-- one turn of the search -/
theorem Bs.step {x left found own left' k : Nat} (h : Bs x left found own) (e : left = left' * own ^ k) (hn : ¬own ∣ left') : Bs x left' (found * (if k % 2 = 1 then own else 1)) (own + 1) := by
  have ho := h.o2
  have hl' : 1 ≤ left' := Nat.pos_of_ne_zero fun z => by
    have := h.l1
    rw [e, z, Nat.zero_mul] at this
    omega
  have dv : left' ∣ left := ⟨own ^ k, e⟩
  have irr : k ≠ 0 → Irr own := fun hk => h.irr (by rw [e]; exact Nat.dvd_trans (Nat.dvd_trans ⟨own ^ (k - 1), by rw [← Nat.pow_succ']; congr 1; omega⟩ (Nat.dvd_refl _)) (Nat.dvd_mul_left _ _))
  refine ⟨hl', ?_, by omega, ?_, ?_, ?_, ?_⟩
  · split
    · exact Nat.mul_pos h.f1 (by omega)
    · rw [Nat.mul_one]; exact h.f1
  · obtain ⟨s, hs, hx⟩ := h.eq
    have hp : own ^ (k / 2) ≠ 0 := by have := Nat.pow_pos (n := k / 2) (show 0 < own by omega); omega
    refine ⟨own ^ (k / 2) * s, Nat.mul_ne_zero hp hs, ?_⟩
    rw [hx, e]
    have hk : own ^ k = (if k % 2 = 1 then own else 1) * (own ^ (k / 2) * own ^ (k / 2)) := by
      rw [← Nat.pow_add]
      split
      · rw [← Nat.pow_succ']; congr 1; omega
      · rw [Nat.one_mul]; congr 1; omega
    rw [hk]
    generalize (if k % 2 = 1 then own else 1) = w
    generalize own ^ (k / 2) = p
    grind
  · split
    · rename_i hk
      exact sf_mul h.sf (irr (by omega)) (h.fo own (irr (by omega)) (Nat.le_refl _))
    · rw [Nat.mul_one]; exact h.sf
  · intro q hq hle
    have h1 := h.fo q hq (by omega)
    split
    · rename_i hk
      refine Nat.Coprime.mul_right h1 ?_
      rcases hq.cop own with g | g
      · exact g
      · have := irr_eq hq (irr (by omega)) g
        omega
    · rw [Nat.mul_one]; exact h1
  · intro d h2 hlt hd
    by_cases g : d = own
    · subst g
      exact hn hd
    · exact h.lo d h2 (by omega) (Nat.dvd_trans hd dv)
theorem Bs.done {x left found own : Nat} (h : Bs x left found own) (hc : left < own * own * own) : ∃ s, s ≠ 0 ∧ (∀ r : Nat, r * r = left → x = found * 1 * (s * s) ∧ Sf (found * 1)) ∧ ((∀ r : Nat, r * r ≠ left) → x = found * left * (s * s) ∧ Sf (found * left)) := by
  obtain ⟨s, hs, hx⟩ := h.eq
  by_cases g : ∃ r, r * r = left
  · obtain ⟨r, hr⟩ := g
    have hr0 : r ≠ 0 := fun z => by
      subst z
      have := h.l1
      omega
    refine ⟨r * s, Nat.mul_ne_zero hr0 hs, fun t ht => ⟨?_, by rw [Nat.mul_one]; exact h.sf⟩, fun z => absurd hr (z r)⟩
    rw [hx, ← hr]
    clear hx hr
    grind
  · refine ⟨s, hs, fun t ht => absurd ⟨t, ht⟩ g, fun z => ⟨hx, fun r hr hd => ?_⟩⟩
    rcases hr.cop left with c | c
    · exact h.sf r hr (Nat.Coprime.dvd_of_dvd_mul_right (sq_cop c) hd)
    · have hr2 := hr.two
      have hro : own ≤ r := by
        refine Nat.le_of_not_lt fun l => ?_
        exact h.lo r hr2 l c
      have c2 := h.fo r hr hro
      have h3 : r * r ∣ left := Nat.Coprime.dvd_of_dvd_mul_left (sq_cop c2) hd
      obtain ⟨e, he⟩ := h3
      have he0 : e ≠ 0 := fun z => by
        have := h.l1
        rw [he, z] at this
        omega
      by_cases e1 : e = 1
      · subst e1
        exact z r (by omega)
      · have heo : own ≤ e := by
          refine Nat.le_of_not_lt fun l => ?_
          exact h.lo e (by omega) l ⟨r * r, by rw [he, Nat.mul_comm]⟩
        have := Nat.mul_le_mul (Nat.mul_le_mul hro hro) heo
        omega
/-- a number's part without squares, with its sign -/
structure Sq (x b : Int) : Prop where
  sf : Sf b.natAbs
  eq : ∃ s : Nat, s ≠ 0 ∧ x.natAbs = b.natAbs * (s * s)
  sg : (0 < x ∧ 0 < b) ∨ (x < 0 ∧ b < 0)
theorem Sq.uniq {x y b c u v : Int} (h : Sq x b) (g : Sq y c) (hu : u ≠ 0) (hv : v ≠ 0) (e : u * u * x = v * v * y) : b = c := by
  obtain ⟨s, hs, e1⟩ := h.eq
  obtain ⟨t, ht, e2⟩ := g.eq
  have e3 : b.natAbs * ((u.natAbs * s) * (u.natAbs * s)) = c.natAbs * ((v.natAbs * t) * (v.natAbs * t)) := by
    have := congrArg Int.natAbs e
    rw [Int.natAbs_mul, Int.natAbs_mul, Int.natAbs_mul, Int.natAbs_mul, e1, e2] at this
    have z1 : b.natAbs * ((u.natAbs * s) * (u.natAbs * s)) = u.natAbs * u.natAbs * (b.natAbs * (s * s)) := by clear this e1 e2; grind
    have z2 : c.natAbs * ((v.natAbs * t) * (v.natAbs * t)) = v.natAbs * v.natAbs * (c.natAbs * (t * t)) := by clear this e1 e2; grind
    rw [z1, z2, this]
  have hb := sf_uniq h.sf g.sf (Nat.mul_ne_zero (by omega) hs) (Nat.mul_ne_zero (by omega) ht) e3
  have pu : 0 < u * u := by
    rcases Int.lt_or_gt_of_ne hu with z | z
    · exact Int.mul_pos_of_neg_of_neg z z
    · exact Int.mul_pos z z
  have pv : 0 < v * v := by
    rcases Int.lt_or_gt_of_ne hv with z | z
    · exact Int.mul_pos_of_neg_of_neg z z
    · exact Int.mul_pos z z
  have sg : 0 < x ↔ 0 < y := by
    constructor
    · intro hx
      have := Int.mul_pos pu hx
      rw [e] at this
      exact pos_of pv this
    · intro hy
      have := Int.mul_pos pv hy
      rw [← e] at this
      exact pos_of pu this
  have s1 := h.sg
  have s2 := g.sg
  omega
end T
end
section
set_option Elab.async false
set_option linter.all false
set_option maxRecDepth 100000
set_option maxHeartbeats 400000
namespace T
open PySem hiding Flow Arg
open Se Wk Ev Nm
local macro_rules | `(tactic| walk_at "lv") => `(tactic| (repeat' (first | exact Lv.mono (by assumption) (Nat.le_of_ble_eq_true rfl) | exact Lv.mono (Bd.lv (by assumption) (Nat.le_of_ble_eq_true rfl)) (Nat.le_of_ble_eq_true rfl) | apply Lv.mul | apply Lv.add | apply Lv.sub | apply Lv.neg)))
local macro_rules | `(tactic| walk_at "w") => `(tactic| first
  | ((with_reducible apply exI); first | assumption | exact rfl)
  | ((with_reducible apply Op.head); assumption) | ((with_reducible apply Op.of (o := gIx _ _)); exact rfl) | ((with_reducible refine And.intro (And.intro ?_ ?_) ?_); (focus walk_at "lv"); (focus walk_at "lv"))
  | ((with_reducible apply Op.of (o := gLen _)); exact rfl) | ((with_reducible apply Op.of (o := gAll _)); exact rfl) | ((with_reducible apply Op.of (o := gAny _)); exact rfl) | ((with_reducible apply Op.of (o := gSum _)); exact rfl) | ((with_reducible apply Op.of (o := gTuple _)); exact rfl) | ((with_reducible apply Op.of (o := gAbs _)); exact rfl) | ((with_reducible apply Op.of (o := gInt _)); exact rfl) | ((with_reducible apply Op.of (o := gCut _ _ _)); exact rfl)
  | ((with_reducible first | apply W.nz2 | apply W.nz3 | apply W.nz4 | apply W.nz6 | apply W.nz9); exact Nat.le_of_ble_eq_true rfl)
  | (with_reducible first | apply W.stepC | apply W.stepN | apply W.stepMC | apply W.stepMN | apply W.forC | apply W.forN)
  | ((with_reducible refine And.intro ?_ ?_); first | exact Nat.le_of_ble_eq_true rfl | exact rfl) | (with_reducible refine Bo.t ?_) | (with_reducible refine Bo.f ?_) | (with_reducible refine Bo.d (fun _ => ?_) (fun h => absurd (by assumption) h)) | (with_reducible refine Bo.d (fun h => absurd h (by assumption)) (fun _ => ?_)) | (with_reducible refine Bo.nd (fun _ => ?_) (fun h => absurd h (by assumption))) | (with_reducible refine Bo.nd (fun h => absurd (by assumption) h) (fun _ => ?_)) | ((with_reducible apply Op.divE); assumption; assumption; assumption) | (refine Bo.t ?_) | (refine Bo.f ?_))
local macro_rules | `(tactic| walk_at "e") => `(tactic| repeat (first | (with_reducible apply W.setN) | (with_reducible refine St.ok ?_) | (with_reducible refine OS.ok ?_) | walk_at "w"))
local macro_rules | `(tactic| walk_at "i") => `(tactic| ((with_reducible apply W.iteI); (exact rfl); (exact rfl); exact rfl))
local macro_rules | `(tactic| walk_at "t") => `(tactic| repeat (first | (with_reducible apply W.setN) | (with_reducible refine St.ok ?_) | (with_reducible refine OS.ok ?_) | (with_reducible apply W.ite) | walk_at "w"))
theorem rr0 (n : Nat) : runFn (n + 1) 0 = runB F0 3 3 (runFn n) := rn0 n
theorem rr1 (n : Nat) : runFn (n + 1) 1 = runB F1 3 3 (runFn n) := rn1 n
theorem rr2 (n : Nat) : runFn (n + 1) 2 = runB F2 3 3 (runFn n) := rn2 n
theorem rr3 (n : Nat) : runFn (n + 1) 3 = runB F3 3 2 (runFn n) := rn3 n
theorem rr4 (n : Nat) : runFn (n + 1) 4 = runB F4 2 2 (runFn n) := rn4 n
theorem rr5 (n : Nat) : runFn (n + 1) 5 = runB F5 2 2 (runFn n) := rn5 n
theorem rr6 (n : Nat) : runFn (n + 1) 6 = runB F6 1 1 (runFn n) := rn6 n
theorem rr7 (n : Nat) : runFn (n + 1) 7 = runB F7 1 1 (runFn n) := rn7 n
theorem rr8 (n : Nat) : runFn (n + 1) 8 = runB F8 4 1 (runFn n) := rn8 n
theorem rr9 (n : Nat) : runFn (n + 1) 9 = runB F9 3 2 (runFn n) := rn9 n
theorem rr10 (n : Nat) : runFn (n + 1) 10 = runB F10 1 1 (runFn n) := rn10 n
theorem rr11 (n : Nat) : runFn (n + 1) 11 = runB F11 2 2 (runFn n) := rn11 n
theorem rr12 (n : Nat) : runFn (n + 1) 12 = runB F12 3 2 (runFn n) := rn12 n
theorem rr13 (n : Nat) : runFn (n + 1) 13 = runB F13 6 2 (runFn n) := rn13 n
theorem rr14 (n : Nat) : runFn (n + 1) 14 = runB F14 10 2 (runFn n) := rn14 n
theorem rr15 (n : Nat) : runFn (n + 1) 15 = runB F15 2 2 (runFn n) := rn15 n
theorem rr16 (n : Nat) : runFn (n + 1) 16 = runB F16 5 1 (runFn n) := rn16 n
theorem rr17 (n : Nat) : runFn (n + 1) 17 = runB F17 9 1 (runFn n) := rn17 n
theorem rr18 (n : Nat) : runFn (n + 1) 18 = runB F18 2 1 (runFn n) := rn18 n
theorem rr19 (n : Nat) : runFn (n + 1) 19 = runB F19 1 1 (runFn n) := rn19 n
theorem rr20 (n : Nat) : runFn (n + 1) 20 = runB F20 2 2 (runFn n) := rn20 n
theorem rr21 (n : Nat) : runFn (n + 1) 21 = runB F21 2 2 (runFn n) := rn21 n
theorem rr22 (n : Nat) : runFn (n + 1) 22 = runB F22 1 1 (runFn n) := rn22 n
theorem rr23 (n : Nat) : runFn (n + 1) 23 = runB F23 2 2 (runFn n) := rn23 n
theorem rr24 (n : Nat) : runFn (n + 1) 24 = runB F24 1 1 (runFn n) := rn24 n
theorem rr25 (n : Nat) : runFn (n + 1) 25 = runB F25 1 1 (runFn n) := rn25 n
theorem rr26 (n : Nat) : runFn (n + 1) 26 = runB F26 1 1 (runFn n) := rn26 n
theorem rr27 (n : Nat) : runFn (n + 1) 27 = runB F27 5 2 (runFn n) := rn27 n
theorem rr28 (n : Nat) : runFn (n + 1) 28 = runB F28 5 3 (runFn n) := rn28 n
theorem rr29 (n : Nat) : runFn (n + 1) 29 = runB F29 2 1 (runFn n) := rn29 n
theorem rr30 (n : Nat) : runFn (n + 1) 30 = runB F30 1 1 (runFn n) := rn30 n
theorem rr31 (n : Nat) : runFn (n + 1) 31 = runB F31 4 1 (runFn n) := rn31 n
theorem rr32 (n : Nat) : runFn (n + 1) 32 = runB F32 1 1 (runFn n) := rn32 n
theorem rr33 (n : Nat) : runFn (n + 1) 33 = runB F33 2 2 (runFn n) := rn33 n
theorem rr34 (n : Nat) : runFn (n + 1) 34 = runB F34 3 2 (runFn n) := rn34 n
theorem rr35 (n : Nat) : runFn (n + 1) 35 = runB F35 2 1 (runFn n) := rn35 n
theorem rr36 (n : Nat) : runFn (n + 1) 36 = runB F36 6 1 (runFn n) := rn36 n
theorem rr37 (n : Nat) : runFn (n + 1) 37 = runB F37 1 1 (runFn n) := rn37 n
theorem rr38 (n : Nat) : runFn (n + 1) 38 = runB F38 1 1 (runFn n) := rn38 n
theorem rr39 (n : Nat) : runFn (n + 1) 39 = runB F39 4 2 (runFn n) := rn39 n
theorem rr40 (n : Nat) : runFn (n + 1) 40 = runB F40 4 1 (runFn n) := rn40 n
theorem rr41 (n : Nat) : runFn (n + 1) 41 = runB F41 9 1 (runFn n) := rn41 n
theorem rr42 (n : Nat) : runFn (n + 1) 42 = runB F42 5 3 (runFn n) := rn42 n
theorem rr43 (n : Nat) : runFn (n + 1) 43 = runB F43 1 1 (runFn n) := rn43 n
theorem rr44 (n : Nat) : runFn (n + 1) 44 = runB F44 9 1 (runFn n) := rn44 n
theorem rr45 (n : Nat) : runFn (n + 1) 45 = runB F45 1 1 (runFn n) := rn45 n
theorem rr46 (n : Nat) : runFn (n + 1) 46 = runB F46 1 1 (runFn n) := rn46 n
theorem rr47 (n : Nat) : runFn (n + 1) 47 = runB F47 2 2 (runFn n) := rn47 n
theorem rr48 (n : Nat) : runFn (n + 1) 48 = runB F48 11 1 (runFn n) := rn48 n
theorem rr49 (n : Nat) : runFn (n + 1) 49 = runB F49 1 1 (runFn n) := rn49 n
theorem rr50 (n : Nat) : runFn (n + 1) 50 = runB F50 2 2 (runFn n) := rn50 n
theorem rr51 (n : Nat) : runFn (n + 1) 51 = runB F51 1 1 (runFn n) := rn51 n
theorem rr52 (n : Nat) : runFn (n + 1) 52 = runB F52 8 1 (runFn n) := rn52 n
theorem rr53 (n : Nat) : runFn (n + 1) 53 = runB F53 1 1 (runFn n) := rn53 n
theorem rr54 (n : Nat) : runFn (n + 1) 54 = runB F54 1 1 (runFn n) := rn54 n
theorem rr55 (n : Nat) : runFn (n + 1) 55 = runB F55 6 1 (runFn n) := rn55 n
theorem rr56 (n : Nat) : runFn (n + 1) 56 = runB F56 1 1 (runFn n) := rn56 n
theorem rr57 (n : Nat) : runFn (n + 1) 57 = runB F57 2 2 (runFn n) := rn57 n
theorem rr58 (n : Nat) : runFn (n + 1) 58 = runB F58 2 2 (runFn n) := rn58 n
theorem rr60 (n : Nat) : runFn (n + 1) 60 = runB F60 3 2 (runFn n) := rn60 n
theorem rr61 (n : Nat) : runFn (n + 1) 61 = runB F61 2 2 (runFn n) := rn61 n
theorem rr62 (n : Nat) : runFn (n + 1) 62 = runB F62 1 1 (runFn n) := rn62 n
theorem rr63 (n : Nat) : runFn (n + 1) 63 = runB F63 5 2 (runFn n) := rn63 n
theorem rr64 (n : Nat) : runFn (n + 1) 64 = runB F64 3 3 (runFn n) := rn64 n
theorem rr65 (n : Nat) : runFn (n + 1) 65 = runB F65 2 2 (runFn n) := rn65 n
theorem rr66 (n : Nat) : runFn (n + 1) 66 = runB F66 3 2 (runFn n) := rn66 n
theorem rr67 (n : Nat) : runFn (n + 1) 67 = runB F67 4 1 (runFn n) := rn67 n
theorem rr68 (n : Nat) : runFn (n + 1) 68 = runB F68 2 2 (runFn n) := rn68 n
theorem rr69 (n : Nat) : runFn (n + 1) 69 = runB F69 2 2 (runFn n) := rn69 n
theorem rr70 (n : Nat) : runFn (n + 1) 70 = runB F70 2 2 (runFn n) := rn70 n
theorem rr71 (n : Nat) : runFn (n + 1) 71 = runB F71 1 1 (runFn n) := rn71 n
theorem rr72 (n : Nat) : runFn (n + 1) 72 = runB F72 1 1 (runFn n) := rn72 n
theorem rr73 (n : Nat) : runFn (n + 1) 73 = runB F73 4 2 (runFn n) := rn73 n
theorem rr74 (n : Nat) : runFn (n + 1) 74 = runB F74 5 2 (runFn n) := rn74 n
theorem rr75 (n : Nat) : runFn (n + 1) 75 = runB F75 11 2 (runFn n) := rn75 n
theorem rr76 (n : Nat) : runFn (n + 1) 76 = runB F76 5 1 (runFn n) := rn76 n
theorem rr77 (n : Nat) : runFn (n + 1) 77 = runB F77 13 2 (runFn n) := rn77 n
theorem rr78 (n : Nat) : runFn (n + 1) 78 = runB F78 7 2 (runFn n) := rn78 n
theorem rr79 (n : Nat) : runFn (n + 1) 79 = runB F79 8 1 (runFn n) := rn79 n
theorem rr80 (n : Nat) : runFn (n + 1) 80 = runB F80 8 2 (runFn n) := rn80 n
theorem rr81 (n : Nat) : runFn (n + 1) 81 = runB F81 5 1 (runFn n) := rn81 n
/-! basics -/
theorem s_is_whole {n : Nat} {m : Nat} {i lo hi : Int} {cs : Cs} {Q : PyData → Cs → Prop} (hb : Bd m i) (h : lo ≤ -(m : Int) ∧ (m : Int) ≤ hi) (q : Q (.bool true) cs) : W (runFn (n + 1) 0 [.dat (.int i), .dat (.int lo), .dat (.int hi)]) cs Q := by
  rw [rr0]
  have := hb.le
  refine W.run' rfl ?_
  walk_at "e"
  refine Bo.d (fun _ => ?_) (fun g => absurd (by omega) g)
  walk_at "e"
  rw [decide_eq_true (by omega)]
  exact q
theorem s_is_whole0 {n : Nat} {i lo hi : Int} {cs : Cs} {Q : PyData → Cs → Prop} (h : lo ≤ i ∧ i ≤ hi) (q : Q (.bool true) cs) : W (runFn (n + 1) 0 [.dat (.int i), .dat (.int lo), .dat (.int hi)]) cs Q := by
  rw [rr0]
  refine W.run' rfl ?_
  walk_at "e"
  refine Bo.d (fun _ => ?_) (fun g => absurd h.1 g)
  walk_at "e"
  rw [decide_eq_true h.2]
  exact q
theorem s_is_tuple_of {n m : Nat} {ds : List PyData} {lo hi : Int} {cs : Cs} {Q : PyData → Cs → Prop} (hl : ds.length = m) (h : lo ≤ (m : Int) ∧ (m : Int) ≤ hi) (q : Q (.bool true) cs) : W (runFn (n + 1) 2 [.dat (.tuple ds), .dat (.int lo), .dat (.int hi)]) cs Q := by
  rw [rr2]
  refine W.run' rfl ?_
  walk_at "e"
  rw [hl]
  refine Bo.d (fun _ => ?_) (fun g => absurd h.1 g)
  walk_at "e"
  rw [decide_eq_true h.2]
  exact q
/-! triples -/
theorem s_is_three {n : Nat} {a b c : Int} {cs : Cs} {Q : PyData → Cs → Prop} (ha : Bd 1000000000 a) (hb : Bd 1000000000 b) (hc : Bd 1000000000 c) (q : Q (.bool true) cs) : W (runFn (n + 2) 29 [.dat (t3 a b c)]) cs Q := by
  rw [rr29]
  refine W.run' rfl ?_
  walk_at "e"
  refine s_is_tuple_of (m := 3) rfl (by decide) ?_
  walk_at "e"
  refine s_is_whole ha ⟨by decide, by decide⟩ ?_
  walk_at "e"
  refine s_is_whole hb ⟨by decide, by decide⟩ ?_
  walk_at "e"
  refine s_is_whole hc ⟨by decide, by decide⟩ ?_
  walk_at "e"
  exact q
theorem fac_lv {k : Nat} {l : List Int} (hk : ∀ x ∈ l, Lv k x) (h : NZ l) : Lv k (fac l) := by
  have h1 := fac_mul (fnz_mem h)
  have h2 := hk _ (fnz_mem h)
  unfold Lv at *
  rw [h1, Int.natAbs_mul] at h2
  refine Nat.lt_of_le_of_lt ?_ h2
  refine Nat.le_mul_of_pos_right _ (Nat.pos_of_ne_zero fun z => ?_)
  rw [Int.natAbs_eq_zero.mp z, Int.mul_zero] at h1
  exact h h1
theorem s_plainly {n : Nat} {a b c : Int} {cs : Cs} {Q : PyData → Cs → Prop} (hz : NZ [a, b, c]) (ha : Lv 12 a) (hb : Lv 12 b) (hc : Lv 12 c) (q : ∀ A B C k, k ≠ 0 → a = k * A → b = k * B → c = k * C → Nrm [A, B, C] → Q (t3 A B C) cs) : W (runFn (n + 1) 31 [.dat (t3 a b c)]) cs Q := by
  rw [rr31]
  have h0 := fac_ne hz
  have h1 : Lv 13 (fac [a, b, c]) := (fac_lv (k := 12) (by simp [ha, hb, hc]) hz).mono (by decide)
  have ea := fac_mul (l := [a, b, c]) (x := a) (by simp)
  have eb := fac_mul (l := [a, b, c]) (x := b) (by simp)
  have ec := fac_mul (l := [a, b, c]) (x := c) (by simp)
  refine W.run' rfl ?_
  walk_at "e"
  rw [gcd3]
  walk_at "i"
  rw [show (if 0 < fnz [a, b, c] then ((gcdL [a, b, c] : Nat) : Int) else -((gcdL [a, b, c] : Nat) : Int)) = fac [a, b, c] from rfl]
  walk_at "e"
  exact q _ _ _ _ h0 ea eb ec (fac_nrm hz (by rw [List.map_cons, List.map_cons, List.map_cons, List.map_nil, ← ea, ← eb, ← ec]))
theorem s_is_triple {n : Nat} {a b c : Int} {cs : Cs} {Q : PyData → Cs → Prop} (h : Nrm [a, b, c]) (ha : Bd 1000000000 a) (hb : Bd 1000000000 b) (hc : Bd 1000000000 c) (q : Q (.bool true) cs) : W (runFn (n + 3) 30 [.dat (t3 a b c)]) cs Q := by
  rw [rr30]
  have la : Lv 12 a := (ha.lv (by decide)).mono (by decide)
  have lb : Lv 12 b := (hb.lv (by decide)).mono (by decide)
  have lc : Lv 12 c := (hc.lv (by decide)).mono (by decide)
  refine W.run' rfl ?_
  walk_at "e"
  refine s_is_three ha hb hc (Bo.t ?_)
  walk_at "e"
  refine Op.ne3 (Bo.nd (fun _ => ?_) (fun g => absurd g (nrm_nz3 h)))
  walk_at "e"
  refine s_plainly (NZ.of_nrm h) la lb lc fun A B C k hk e1 e2 e3 hn => ?_
  obtain ⟨rfl, rfl, rfl⟩ := h.eq3 hn (k := 1) (m := k) (by decide) hk (by omega) (by omega) (by omega)
  walk_at "e"
  exact Op.eqT rfl rfl q
theorem s_need_triple {n : Nat} {a b c : Int} {cs : Cs} {Q : PyData → Cs → Prop} (h : Nrm [a, b, c]) (ha : Bd 1000000000 a) (hb : Bd 1000000000 b) (hc : Bd 1000000000 c) (q : Q .none cs) : W (runFn (n + 4) 32 [.dat (t3 a b c)]) cs Q := by
  rw [rr32]
  refine W.run' rfl ?_
  walk_at "e"
  refine s_is_triple h ha hb hc ?_
  walk_at "e"
  exact q
theorem s_dot {n : Nat} {a b c d e f : Int} {cs : Cs} {Q : PyData → Cs → Prop} (ha : Lv 16 a) (hb : Lv 16 b) (hc : Lv 16 c) (hd : Lv 16 d) (he : Lv 16 e) (hf : Lv 16 f) (q : Q (.int (a * d + b * e + c * f)) cs) : W (runFn (n + 1) 33 [.dat (t3 a b c), .dat (t3 d e f)]) cs Q := by
  rw [rr33]
  refine W.run' rfl ?_
  walk_at "e"
  exact q
theorem s_cross {n : Nat} {a b c d e f : Int} {cs : Cs} {Q : PyData → Cs → Prop} (ha : Lv 16 a) (hb : Lv 16 b) (hc : Lv 16 c) (hd : Lv 16 d) (he : Lv 16 e) (hf : Lv 16 f) (q : Q (t3 (b * f - c * e) (c * d - a * f) (a * e - b * d)) cs) : W (runFn (n + 1) 34 [.dat (t3 a b c), .dat (t3 d e f)]) cs Q := by
  rw [rr34]
  refine W.run' rfl ?_
  walk_at "e"
  exact q
theorem gcdF2 (a b : Int) : ((Nat.gcd ((Nat.gcd (0 : Int).natAbs a.natAbs : Nat) : Int).natAbs b.natAbs : Nat) : Int) = (gcdL [a, b] : Nat) := by
  simp [gcdL]
theorem gcdF4 (a b c d : Int) : ((Nat.gcd ((Nat.gcd ((Nat.gcd ((Nat.gcd (0 : Int).natAbs a.natAbs : Nat) : Int).natAbs b.natAbs : Nat) : Int).natAbs c.natAbs : Nat) : Int).natAbs d.natAbs : Nat) : Int) = (gcdL [a, b, c, d] : Nat) := by
  simp [gcdL, Nat.gcd_assoc]
/-- what is known of a division by the greatest common divisor -/
theorem fac_pos {l : List Int} {x : Int} (hs : 0 < fnz l) (h : x ∈ l) : x = (gcdL l : Int) * x.fdiv (fac l) := by
  have := fac_mul h
  unfold fac at this ⊢
  rw [if_pos hs] at this ⊢
  exact this
theorem fac_neg {l : List Int} {x : Int} (hs : ¬0 < fnz l) (h : x ∈ l) : -x = (gcdL l : Int) * x.fdiv (fac l) := by
  have := fac_mul h
  unfold fac at this ⊢
  rw [if_neg hs] at this ⊢
  rw [Int.neg_mul] at this
  omega
theorem gcd_ne {l : List Int} (h : NZ l) : (gcdL l : Int) ≠ 0 := by
  have := gcdL_ne h
  omega
theorem gcd_lv {k : Nat} {l : List Int} (hk : ∀ x ∈ l, Lv k x) (h : NZ l) : Lv k (gcdL l : Int) := by
  have := fac_lv hk h
  unfold Lv at *
  unfold fac at this
  split at this <;> simpa using this
theorem s_shortened2 {n : Nat} {a b : Int} {cs : Cs} {Q : PyData → Cs → Prop} (hz : NZ [a, b]) (ha : Lv 12 a) (hb : Lv 12 b) (q : ∀ A B k, k ≠ 0 → a = k * A → b = k * B → Nrm [A, B] → Q (t2 A B) cs) : W (runFn (n + 1) 8 [.dat (t2 a b)]) cs Q := by
  rw [rr8]
  have h0 := gcd_ne hz
  have h1 : Lv 13 (gcdL [a, b] : Int) := (gcd_lv (k := 12) (by simp [ha, hb]) hz).mono (by decide)
  have ea := fac_mul (l := [a, b]) (x := a) (by simp)
  have eb := fac_mul (l := [a, b]) (x := b) (by simp)
  have fin := q _ _ _ (fac_ne hz) ea eb (fac_nrm hz (by rw [List.map_cons, List.map_cons, List.map_nil, ← ea, ← eb]))
  refine W.run' rfl ?_
  by_cases hs : 0 < fnz [a, b]
  · have e1 := fac_pos hs (x := a) (by simp)
    have e2 := fac_pos hs (x := b) (by simp)
    walk_at "t"
    rw [gcdF2]
    walk_at "t"
    exact fin
  · have e1 := fac_neg hs (x := a) (by simp)
    have e2 := fac_neg hs (x := b) (by simp)
    walk_at "t"
    rw [gcdF2]
    walk_at "t"
    exact fin
theorem s_shortened4 {n : Nat} {a b c d : Int} {cs : Cs} {Q : PyData → Cs → Prop} (hz : NZ [a, b, c, d]) (ha : Lv 12 a) (hb : Lv 12 b) (hc : Lv 12 c) (hd : Lv 12 d) (q : ∀ A B C D k, k ≠ 0 → a = k * A → b = k * B → c = k * C → d = k * D → Nrm [A, B, C, D] → Q (t4 A B C D) cs) : W (runFn (n + 1) 8 [.dat (t4 a b c d)]) cs Q := by
  rw [rr8]
  have h0 := gcd_ne hz
  have h1 : Lv 13 (gcdL [a, b, c, d] : Int) := (gcd_lv (k := 12) (by simp [ha, hb, hc, hd]) hz).mono (by decide)
  have ea := fac_mul (l := [a, b, c, d]) (x := a) (by simp)
  have eb := fac_mul (l := [a, b, c, d]) (x := b) (by simp)
  have ec := fac_mul (l := [a, b, c, d]) (x := c) (by simp)
  have ed := fac_mul (l := [a, b, c, d]) (x := d) (by simp)
  have fin := q _ _ _ _ _ (fac_ne hz) ea eb ec ed (fac_nrm hz (by rw [List.map_cons, List.map_cons, List.map_cons, List.map_cons, List.map_nil, ← ea, ← eb, ← ec, ← ed]))
  refine W.run' rfl ?_
  by_cases hs : 0 < fnz [a, b, c, d]
  · have e1 := fac_pos hs (x := a) (by simp)
    have e2 := fac_pos hs (x := b) (by simp)
    have e3 := fac_pos hs (x := c) (by simp)
    have e4 := fac_pos hs (x := d) (by simp)
    walk_at "t"
    rw [gcdF4]
    walk_at "t"
    exact fin
  · have e1 := fac_neg hs (x := a) (by simp)
    have e2 := fac_neg hs (x := b) (by simp)
    have e3 := fac_neg hs (x := c) (by simp)
    have e4 := fac_neg hs (x := d) (by simp)
    walk_at "t"
    rw [gcdF4]
    walk_at "t"
    exact fin
/-! places -/
theorem s_fits_place {n m : Nat} {p q' M : Int} {cs : Cs} {Q : PyData → Cs → Prop} (h : Pl p q') (hp : Bd m p) (hq : Bd m q') (hM : (m : Int) ≤ M) (q : Q (.bool true) cs) : W (runFn (n + 2) 4 [.dat (t2 p q'), .dat (.int M)]) cs Q := by
  rw [rr4]
  obtain ⟨g1, g2⟩ := h.cases
  have hq0 : 0 ≤ q' := by omega
  have hq2 := hq.le
  refine W.run' rfl ?_
  walk_at "e"
  refine s_is_tuple_of (m := 2) rfl (by decide) ?_
  walk_at "e"
  refine s_is_whole hp (by omega) ?_
  walk_at "e"
  refine s_is_whole0 (by omega) ?_
  walk_at "e"
  rw [g1]
  refine Bo.d (fun _ => ?_) (fun g => absurd rfl g)
  walk_at "e"
  rcases g2 with g2 | ⟨rfl, rfl⟩
  · refine Bo.d (fun _ => ?_) (fun g => absurd g2 g)
    exact q
  · refine Bo.d (fun _ => ?_) (fun g => ?_)
    · exact q
    · walk_at "e"
      exact q
theorem s_need_place {n m : Nat} {p q' M : Int} {cs : Cs} {Q : PyData → Cs → Prop} (h : Pl p q') (hp : Bd m p) (hq : Bd m q') (hM : (m : Int) ≤ M) (q : Q .none cs) : W (runFn (n + 3) 5 [.dat (t2 p q'), .dat (.int M)]) cs Q := by
  rw [rr5]
  refine W.run' rfl ?_
  walk_at "e"
  refine s_fits_place h hp hq hM ?_
  walk_at "e"
  exact q
theorem s_measure {n : Nat} {a b c d : Int} {cs : Cs} {Q : PyData → Cs → Prop} (ha : Lv 12 a) (hb : Lv 12 b) (hc : Lv 12 c) (hd : Lv 12 d) (q : Q (.int (a * d - b * c)) cs) : W (runFn (n + 1) 6 [.dat (t4 a b c d)]) cs Q := by
  rw [rr6]
  refine W.run' rfl ?_
  walk_at "e"
  exact q
theorem s_trace {n : Nat} {a b c d : Int} {cs : Cs} {Q : PyData → Cs → Prop} (q : Q (.int (a + d)) cs) : W (runFn (n + 1) 7 [.dat (t4 a b c d)]) cs Q := by
  rw [rr7]
  refine W.run' rfl ?_
  walk_at "e"
  exact q
/-- a swing of integers of a size -/
structure Sw (m : Nat) (a b c d : Int) : Prop where
  nrm : Nrm [a, b, c, d]
  det : a * d - b * c ≠ 0
  ba : Bd m a
  bb : Bd m b
  bc : Bd m c
  bd : Bd m d
theorem s_fits_swing {n m : Nat} {a b c d M : Int} {cs : Cs} {Q : PyData → Cs → Prop} (h : Sw m a b c d) (hM : (m : Int) ≤ M) (hm : m ≤ 1000000000000000000) (q : Q (.bool true) cs) : W (runFn (n + 2) 9 [.dat (t4 a b c d), .dat (.int M)]) cs Q := by
  rw [rr9]
  have la : Lv 12 a := (h.ba.lv hm).mono (by decide)
  have lb : Lv 12 b := (h.bb.lv hm).mono (by decide)
  have lc : Lv 12 c := (h.bc.lv hm).mono (by decide)
  have ld : Lv 12 d := (h.bd.lv hm).mono (by decide)
  refine W.run' rfl ?_
  walk_at "e"
  refine s_is_tuple_of (m := 4) rfl (by decide) ?_
  walk_at "e"
  refine s_is_whole h.ba (by omega) ?_
  walk_at "e"
  refine s_is_whole h.bb (by omega) ?_
  walk_at "e"
  refine s_is_whole h.bc (by omega) ?_
  walk_at "e"
  refine s_is_whole h.bd (by omega) ?_
  walk_at "e"
  refine s_measure la lb lc ld ?_
  walk_at "e"
  refine Bo.nd (fun _ => ?_) (fun g => absurd g h.det)
  walk_at "e"
  refine s_shortened4 (NZ.of_nrm h.nrm) la lb lc ld fun A B C D k hk e1 e2 e3 e4 hn => ?_
  obtain ⟨rfl, rfl, rfl, rfl⟩ := h.nrm.eq4 hn (k := 1) (m := k) (by decide) hk (by omega) (by omega) (by omega) (by omega)
  walk_at "e"
  exact Op.eqT rfl rfl q
theorem s_need_swing {n : Nat} {a b c d : Int} {cs : Cs} {Q : PyData → Cs → Prop} (h : Sw 10000 a b c d) (q : Q .none cs) : W (runFn (n + 3) 10 [.dat (t4 a b c d)]) cs Q := by
  rw [rr10]
  refine W.run' rfl ?_
  walk_at "e"
  refine s_fits_swing h (by decide) (by decide) ?_
  walk_at "e"
  exact q
theorem s_need_two {n : Nat} {a b c d e f g i : Int} {cs : Cs} {Q : PyData → Cs → Prop} (h : Sw 10000 a b c d) (h' : Sw 10000 e f g i) (q : Q .none cs) : W (runFn (n + 4) 11 [.dat (t4 a b c d), .dat (t4 e f g i)]) cs Q := by
  rw [rr11]
  refine W.run' rfl ?_
  walk_at "e"
  refine s_need_swing h ?_
  walk_at "e"
  refine s_need_swing h' ?_
  walk_at "e"
  exact q
theorem s_plain_place {n : Nat} {x y : Int} {cs : Cs} {Q : PyData → Cs → Prop} (hz : NZ [x, y]) (ha : Lv 12 x) (hb : Lv 12 y) (q : ∀ A B k, k ≠ 0 → x = k * A → y = k * B → Pl A B → Q (t2 A B) cs) : W (runFn (n + 2) 12 [.dat (.int x), .dat (.int y)]) cs Q := by
  rw [rr12]
  refine W.run' rfl ?_
  walk_at "e"
  refine s_shortened2 hz ha hb fun A B k hk e1 e2 hn => ?_
  have hg : Nat.gcd A.natAbs B.natAbs = 1 := by
    have := hn.1
    simpa [gcdL] using this
  have hf := hn.2
  simp only [fnz] at hf
  walk_at "t"
  refine Bo.d (fun h => ?_) (fun h => ?_)
  · walk_at "e"
    exact q (-A) (-B) (-k) (by omega) (by rw [Int.neg_mul_neg]; exact e1) (by rw [Int.neg_mul_neg]; exact e2) (.of (by simpa using hg) (.inl (by omega)))
  · walk_at "e"
    refine q A B k hk e1 e2 (.of hg ?_)
    by_cases z : B = 0
    · refine .inr ⟨z, ?_⟩
      subst z
      simp at hg
      by_cases y : A = 0
      · simp [y] at hf
      · simp [y] at hf
        omega
    · exact .inl (by omega)
theorem s_carried {n : Nat} {a b c d x y : Int} {cs : Cs} {Q : PyData → Cs → Prop} (hd : a * d - b * c ≠ 0) (la : Lv 9 a) (lb : Lv 9 b) (lc : Lv 9 c) (ld : Lv 9 d) (hp : x ≠ 0 ∨ y ≠ 0) (lx : Lv 9 x) (ly : Lv 9 y) (q : ∀ A B k, k ≠ 0 → a * x + b * y = k * A → c * x + d * y = k * B → Pl A B → Q (t2 A B) cs) : W (runFn (n + 3) 13 [.dat (t4 a b c d), .dat (t2 x y)]) cs Q := by
  rw [rr13]
  refine W.run' rfl ?_
  walk_at "e"
  refine s_plain_place ?_ (by walk_at "lv") (by walk_at "lv") fun A B k hk e1 e2 hn => q A B k hk e1 e2 hn
  rw [NZ2]
  by_cases h1 : a * x + b * y = 0
  · by_cases h2 : c * x + d * y = 0
    · exfalso
      have z1 : (a * d - b * c) * x = 0 := by grind
      have z2 : (a * d - b * c) * y = 0 := by grind
      rcases Int.mul_eq_zero.mp z1 with h | h
      · exact hd h
      · rcases Int.mul_eq_zero.mp z2 with h' | h'
        · exact hd h'
        · rcases hp with hp | hp
          · exact hp h
          · exact hp h'
    · exact .inr h2
  · exact .inl h1
theorem s_raw_product {n : Nat} {p q' r s a b c d : Int} {cs : Cs} {Q : PyData → Cs → Prop} (l1 : Lv 12 p) (l2 : Lv 12 q') (l3 : Lv 12 r) (l4 : Lv 12 s) (la : Lv 12 a) (lb : Lv 12 b) (lc : Lv 12 c) (ld : Lv 12 d) (q : Q (t4 (a * p + b * r) (a * q' + b * s) (c * p + d * r) (c * q' + d * s)) cs) : W (runFn (n + 1) 14 [.dat (t4 p q' r s), .dat (t4 a b c d)]) cs Q := by
  rw [rr14]
  refine W.run' rfl ?_
  walk_at "e"
  exact q
theorem det_mul (p q r s a b c d : Int) : (a * p + b * r) * (c * q + d * s) - (a * q + b * s) * (c * p + d * r) = (a * d - b * c) * (p * s - q * r) := by grind
theorem nz_det {a b c d : Int} (h : a * d - b * c ≠ 0) : NZ [a, b, c, d] := by
  rw [NZ4]
  refine Classical.byContradiction fun g => h ?_
  simp only [not_or, Classical.not_not] at g
  obtain ⟨rfl, rfl, rfl, rfl⟩ := g
  decide
/-- both together: the second one's rows with the first one's columns -/
theorem s_product {n : Nat} {p q' r s a b c d : Int} {cs : Cs} {Q : PyData → Cs → Prop} (h1 : p * s - q' * r ≠ 0) (h2 : a * d - b * c ≠ 0) (l1 : Lv 10 p) (l2 : Lv 10 q') (l3 : Lv 10 r) (l4 : Lv 10 s) (la : Lv 10 a) (lb : Lv 10 b) (lc : Lv 10 c) (ld : Lv 10 d)
    (q : ∀ A B C D k, k ≠ 0 → a * p + b * r = k * A → a * q' + b * s = k * B → c * p + d * r = k * C → c * q' + d * s = k * D → Nrm [A, B, C, D] → Q (t4 A B C D) cs) : W (runFn (n + 2) 15 [.dat (t4 p q' r s), .dat (t4 a b c d)]) cs Q := by
  rw [rr15]
  refine W.run' rfl ?_
  walk_at "e"
  refine s_raw_product (l1.mono (by decide)) (l2.mono (by decide)) (l3.mono (by decide)) (l4.mono (by decide)) (la.mono (by decide)) (lb.mono (by decide)) (lc.mono (by decide)) (ld.mono (by decide)) ?_
  walk_at "e"
  refine s_shortened4 (nz_det (by rw [det_mul]; exact Int.mul_ne_zero h2 h1)) (by walk_at "lv") (by walk_at "lv") (by walk_at "lv") (by walk_at "lv") q
theorem s_undone {n : Nat} {a b c d : Int} {cs : Cs} {Q : PyData → Cs → Prop} (h : a * d - b * c ≠ 0) (la : Lv 12 a) (lb : Lv 12 b) (lc : Lv 12 c) (ld : Lv 12 d) (q : ∀ A B C D k, k ≠ 0 → d = k * A → -b = k * B → -c = k * C → a = k * D → Nrm [A, B, C, D] → Q (t4 A B C D) cs) : W (runFn (n + 2) 16 [.dat (t4 a b c d)]) cs Q := by
  rw [rr16]
  refine W.run' rfl ?_
  walk_at "e"
  refine s_shortened4 (nz_det (by rw [Int.neg_mul_neg, Int.mul_comm d a]; exact h)) ld lb.neg lc.neg la q
theorem s_carried_place {n m : Nat} {a b c d x y : Int} {cs : Cs} {Q : PyData → Cs → Prop} (h : Sw 10000 a b c d) (hp : Pl x y) (hx : Bd m x) (hy : Bd m y) (hm : m ≤ 1000000000) (q : ∀ A B k, k ≠ 0 → a * x + b * y = k * A → c * x + d * y = k * B → Pl A B → Q (t2 A B) cs) : W (runFn (n + 4) 20 [.dat (t4 a b c d), .dat (t2 x y)]) cs Q := by
  rw [rr20]
  refine W.run' rfl ?_
  walk_at "e"
  refine s_need_swing h ?_
  walk_at "e"
  refine s_need_place hp hx hy (by omega) ?_
  walk_at "e"
  refine s_carried h.det ((h.ba.lv (by decide)).mono (by decide)) ((h.bb.lv (by decide)).mono (by decide)) ((h.bc.lv (by decide)).mono (by decide)) ((h.bd.lv (by decide)).mono (by decide)) hp.ne ((hx.lv (by omega)).mono (by decide)) ((hy.lv (by omega)).mono (by decide)) q
theorem s_swings_together {n : Nat} {p q' r s a b c d : Int} {cs : Cs} {Q : PyData → Cs → Prop} (h1 : Sw 10000 p q' r s) (h2 : Sw 10000 a b c d)
    (q : ∀ A B C D k, k ≠ 0 → a * p + b * r = k * A → a * q' + b * s = k * B → c * p + d * r = k * C → c * q' + d * s = k * D → Nrm [A, B, C, D] → Q (t4 A B C D) cs) : W (runFn (n + 5) 21 [.dat (t4 p q' r s), .dat (t4 a b c d)]) cs Q := by
  rw [rr21]
  refine W.run' rfl ?_
  walk_at "e"
  refine s_need_two h1 h2 ?_
  walk_at "e"
  refine s_product h1.det h2.det ((h1.ba.lv (by decide)).mono (by decide)) ((h1.bb.lv (by decide)).mono (by decide)) ((h1.bc.lv (by decide)).mono (by decide)) ((h1.bd.lv (by decide)).mono (by decide)) ((h2.ba.lv (by decide)).mono (by decide)) ((h2.bb.lv (by decide)).mono (by decide)) ((h2.bc.lv (by decide)).mono (by decide)) ((h2.bd.lv (by decide)).mono (by decide)) q
theorem s_swing_back {n : Nat} {a b c d : Int} {cs : Cs} {Q : PyData → Cs → Prop} (h : Sw 10000 a b c d) (q : ∀ A B C D k, k ≠ 0 → d = k * A → -b = k * B → -c = k * C → a = k * D → Nrm [A, B, C, D] → Q (t4 A B C D) cs) : W (runFn (n + 4) 22 [.dat (t4 a b c d)]) cs Q := by
  rw [rr22]
  refine W.run' rfl ?_
  walk_at "e"
  refine s_need_swing h ?_
  walk_at "e"
  refine s_undone h.det ((h.ba.lv (by decide)).mono (by decide)) ((h.bb.lv (by decide)).mono (by decide)) ((h.bc.lv (by decide)).mono (by decide)) ((h.bd.lv (by decide)).mono (by decide)) q
theorem s_frame_of {n : Nat} {p q' r s t u : Int} {cs : Cs} {Q : PyData → Cs → Prop} (l1 : Lv 9 p) (l2 : Lv 9 q') (l3 : Lv 9 r) (l4 : Lv 9 s) (l5 : Lv 9 t) (l6 : Lv 9 u)
    (q : Q (t4 (p * (t * s - r * u)) (r * (p * u - t * q')) (q' * (t * s - r * u)) (s * (p * u - t * q'))) cs) : W (runFn (n + 1) 17 [.dat (.tuple [t2 p q', t2 r s, t2 t u])]) cs Q := by
  rw [rr17]
  refine W.run' rfl ?_
  walk_at "e"
  exact q
theorem _root_.Ev.Pl.unlike {p q r s : Int} (h : Pl p q) (g : Pl r s) (ne : ¬(p = r ∧ q = s)) : p * s - r * q ≠ 0 := fun e => by
  apply ne
  by_cases z : q = 0
  · obtain ⟨_, h2⟩ := h.cases
    have hp : p = 1 := by rcases h2 with h2 | h2 <;> omega
    subst z hp
    have hs : s = 0 := by simpa using e
    obtain ⟨_, g2⟩ := g.cases
    rcases g2 with g2 | g2 <;> omega
  · by_cases y : s = 0
    · exfalso
      obtain ⟨_, g2⟩ := g.cases
      have hr : r = 1 := by rcases g2 with g2 | g2 <;> omega
      subst y hr
      apply z
      simpa using e
    · exact h.eq g y z (by grind) (by grind)
theorem nub_nodup : ∀ {rs : List (List Int)}, rs.Nodup → SeS.nub rs = rs
  | [], _ => rfl
  | r :: rs, h => by
    obtain ⟨h1, h2⟩ := List.nodup_cons.mp h
    unfold SeS.nub
    rw [if_neg (by simpa using h1), nub_nodup h2]
theorem Op.lenSet {d : PyData} {rs : List (List Int)} {Q : PyData → Prop} (h : Se.rowsOf [d] = some rs) (hn : rs.Nodup) (q : Q (.int rs.length)) : Op (gLenSet [d]) Q := by
  refine ⟨_, ?_, q⟩
  unfold gLenSet
  rw [h]
  simp only []
  rw [nub_nodup hn]
/-- three places, no two alike -/
structure Th (m : Nat) (p q r s t u : Int) : Prop where
  p1 : Pl p q
  p2 : Pl r s
  p3 : Pl t u
  n12 : ¬(p = r ∧ q = s)
  n13 : ¬(p = t ∧ q = u)
  n23 : ¬(r = t ∧ s = u)
  b1 : Bd m p
  b2 : Bd m q
  b3 : Bd m r
  b4 : Bd m s
  b5 : Bd m t
  b6 : Bd m u
theorem s_need_three {n m : Nat} {p q' r s t u : Int} {cs : Cs} {Q : PyData → Cs → Prop} (h : Th m p q' r s t u) (hm : m ≤ 1000) (q : Q .none cs) : W (runFn (n + 3) 18 [.dat (.tuple [t2 p q', t2 r s, t2 t u])]) cs Q := by
  rw [rr18]
  refine W.run' rfl ?_
  walk_at "e"
  refine s_is_tuple_of (m := 3) rfl (by decide) ?_
  walk_at "e"
  refine s_fits_place h.p1 h.b1 h.b2 (by omega) ?_
  walk_at "e"
  refine s_fits_place h.p2 h.b3 h.b4 (by omega) ?_
  walk_at "e"
  refine s_fits_place h.p3 h.b5 h.b6 (by omega) ?_
  walk_at "e"
  refine Op.lenSet (rs := [[p, q'], [r, s], [t, u]]) rfl ?_ ?_
  · have h1 := h.n12
    have h2 := h.n13
    have h3 := h.n23
    simp only [List.nodup_cons, List.mem_cons, List.not_mem_nil, or_false, List.cons.injEq, and_true, not_or, List.nodup_nil, not_false_eq_true]
    exact ⟨⟨h1, h2⟩, h3⟩
  · walk_at "e"
    exact q
/-- what carries three places to three -/
structure Car (A B C D p q r s t u p' q' r' s' t' u' : Int) : Prop where
  det : A * D - B * C ≠ 0
  e1 : ∃ k l, k ≠ 0 ∧ l ≠ 0 ∧ k * (A * p + B * q) = l * p' ∧ k * (C * p + D * q) = l * q'
  e2 : ∃ k l, k ≠ 0 ∧ l ≠ 0 ∧ k * (A * r + B * s) = l * r' ∧ k * (C * r + D * s) = l * s'
  e3 : ∃ k l, k ≠ 0 ∧ l ≠ 0 ∧ k * (A * t + B * u) = l * t' ∧ k * (C * t + D * u) = l * u'

end T
end
section
set_option Elab.async false
set_option linter.all false
set_option maxRecDepth 100000
set_option maxHeartbeats 400000
namespace T
open PySem hiding Flow Arg
open Se Wk Ev Nm
local macro_rules | `(tactic| walk_at "lv") => `(tactic| (repeat' (first | exact Lv.mono (by assumption) (Nat.le_of_ble_eq_true rfl) | exact Lv.mono (Bd.lv (by assumption) (Nat.le_of_ble_eq_true rfl)) (Nat.le_of_ble_eq_true rfl) | apply Lv.mul | apply Lv.add | apply Lv.sub | apply Lv.neg)))
local macro_rules | `(tactic| walk_at "w") => `(tactic| first
  | ((with_reducible apply exI); first | assumption | exact rfl)
  | ((with_reducible apply Op.head); assumption) | ((with_reducible apply Op.of (o := gIx _ _)); exact rfl) | ((with_reducible refine And.intro (And.intro ?_ ?_) ?_); (focus walk_at "lv"); (focus walk_at "lv"))
  | ((with_reducible apply Op.of (o := gLen _)); exact rfl) | ((with_reducible apply Op.of (o := gAll _)); exact rfl) | ((with_reducible apply Op.of (o := gAny _)); exact rfl) | ((with_reducible apply Op.of (o := gSum _)); exact rfl) | ((with_reducible apply Op.of (o := gTuple _)); exact rfl) | ((with_reducible apply Op.of (o := gAbs _)); exact rfl) | ((with_reducible apply Op.of (o := gInt _)); exact rfl) | ((with_reducible apply Op.of (o := gCut _ _ _)); exact rfl)
  | ((with_reducible first | apply W.nz2 | apply W.nz3 | apply W.nz4 | apply W.nz6 | apply W.nz9); exact Nat.le_of_ble_eq_true rfl)
  | (with_reducible first | apply W.stepC | apply W.stepN | apply W.stepMC | apply W.stepMN | apply W.forC | apply W.forN)
  | ((with_reducible refine And.intro ?_ ?_); first | exact Nat.le_of_ble_eq_true rfl | exact rfl) | (with_reducible refine Bo.t ?_) | (with_reducible refine Bo.f ?_) | (with_reducible refine Bo.d (fun _ => ?_) (fun h => absurd (by assumption) h)) | (with_reducible refine Bo.d (fun h => absurd h (by assumption)) (fun _ => ?_)) | (with_reducible refine Bo.nd (fun _ => ?_) (fun h => absurd h (by assumption))) | (with_reducible refine Bo.nd (fun h => absurd (by assumption) h) (fun _ => ?_)) | ((with_reducible apply Op.divE); assumption; assumption; assumption) | (refine Bo.t ?_) | (refine Bo.f ?_))
local macro_rules | `(tactic| walk_at "e") => `(tactic| repeat (first | (with_reducible apply W.setN) | (with_reducible refine St.ok ?_) | (with_reducible refine OS.ok ?_) | walk_at "w"))
local macro_rules | `(tactic| walk_at "i") => `(tactic| ((with_reducible apply W.iteI); (exact rfl); (exact rfl); exact rfl))
local macro_rules | `(tactic| walk_at "t") => `(tactic| repeat (first | (with_reducible apply W.setN) | (with_reducible refine St.ok ?_) | (with_reducible refine OS.ok ?_) | (with_reducible apply W.ite) | walk_at "w"))
theorem Bd.det {m : Nat} {a b c d : Int} (ha : Bd m a) (hb : Bd m b) (hc : Bd m c) (hd : Bd m d) : Bd (m * m + m * m) (a * d - b * c) := (ha.mul hd).sub (hb.mul hc)
theorem lin2 {k1 k A P R A1 C1 a c : Int} (i : P * A1 + R * C1 = k * A) (e : a = k1 * A1) (f : c = k1 * C1) : k1 * k * A = P * a + R * c := by
  subst e f
  rw [Int.mul_assoc, ← i]
  grind
theorem det_scale {k a b c d A B C D : Int} (e1 : a = k * A) (e2 : b = k * B) (e3 : c = k * C) (e4 : d = k * D) : k * k * (A * D - B * C) = a * d - b * c := by
  subst e1 e2 e3 e4
  grind
theorem comb {K A B p q u v : Int} (h1 : K * A = u) (h2 : K * B = v) : K * (A * p + B * q) = u * p + v * q := by
  subst h1 h2
  grind
theorem car_of {p q r s t u p' q' r' s' t' u' k1 k A1 B1 C1 D1 A B C D : Int} (hk1 : k1 ≠ 0) (hk : k ≠ 0) (d1 : p * s - r * q ≠ 0) (f1 : t * s - r * u ≠ 0) (f2 : p * u - t * q ≠ 0) (g1 : p' * s' - r' * q' ≠ 0) (f1' : t' * s' - r' * u' ≠ 0) (f2' : p' * u' - t' * q' ≠ 0)
    (e1 : s * (p * u - t * q) = k1 * A1) (e2 : -(r * (p * u - t * q)) = k1 * B1) (e3 : -(q * (t * s - r * u)) = k1 * C1) (e4 : p * (t * s - r * u) = k1 * D1)
    (i1 : p' * (t' * s' - r' * u') * A1 + r' * (p' * u' - t' * q') * C1 = k * A) (i2 : p' * (t' * s' - r' * u') * B1 + r' * (p' * u' - t' * q') * D1 = k * B) (i3 : q' * (t' * s' - r' * u') * A1 + s' * (p' * u' - t' * q') * C1 = k * C) (i4 : q' * (t' * s' - r' * u') * B1 + s' * (p' * u' - t' * q') * D1 = k * D)
    (hd : A * D - B * C ≠ 0) : Car A B C D p q r s t u p' q' r' s' t' u' := by
  have hK : k1 * k ≠ 0 := Int.mul_ne_zero hk1 hk
  have K1 := lin2 i1 e1 e3
  have K2 := lin2 i2 e2 e4
  have K3 := lin2 i3 e1 e3
  have K4 := lin2 i4 e2 e4
  clear i1 i2 i3 i4 e1 e2 e3 e4
  refine ⟨hd, ⟨k1 * k, (t' * s' - r' * u') * (p * u - t * q) * (p * s - r * q), hK, Int.mul_ne_zero (Int.mul_ne_zero f1' f2) d1, ?_, ?_⟩, ⟨k1 * k, (p' * u' - t' * q') * (t * s - r * u) * (p * s - r * q), hK, Int.mul_ne_zero (Int.mul_ne_zero f2' f1) d1, ?_, ?_⟩, ⟨k1 * k, (t * s - r * u) * (p * u - t * q) * (p' * s' - r' * q'), hK, Int.mul_ne_zero (Int.mul_ne_zero f1 f2) g1, ?_, ?_⟩⟩
  · rw [comb K1 K2]; clear K1 K2 K3 K4; grind
  · rw [comb K3 K4]; clear K1 K2 K3 K4; grind
  · rw [comb K1 K2]; clear K1 K2 K3 K4; grind
  · rw [comb K3 K4]; clear K1 K2 K3 K4; grind
  · rw [comb K1 K2]; clear K1 K2 K3 K4; grind
  · rw [comb K3 K4]; clear K1 K2 K3 K4; grind
theorem frame_det (p q r s x y : Int) : p * x * (s * y) - r * y * (q * x) = x * y * (p * s - r * q) := by grind
theorem undo_det {k a b c d A B C D : Int} (e1 : d = k * A) (e2 : -b = k * B) (e3 : -c = k * C) (e4 : a = k * D) (h : a * d - b * c ≠ 0) : A * D - B * C ≠ 0 := fun z => h (by
  have : a * d - b * c = k * k * (A * D - B * C) := by
    have hb : b = -(k * B) := by omega
    have hc : c = -(k * C) := by omega
    subst e1 e4 hb hc
    grind
  rw [this, z, Int.mul_zero])
theorem prod_det {p q r s a b c d A B C D k : Int} (h1 : p * s - q * r ≠ 0) (h2 : a * d - b * c ≠ 0) (i1 : a * p + b * r = k * A) (i2 : a * q + b * s = k * B) (i3 : c * p + d * r = k * C) (i4 : c * q + d * s = k * D) : A * D - B * C ≠ 0 := fun z => by
  have e := det_mul p q r s a b c d
  rw [i1, i2, i3, i4] at e
  have e2 : k * A * (k * D) - k * B * (k * C) = k * k * (A * D - B * C) := by grind
  rw [e2, z, Int.mul_zero] at e
  exact Int.mul_ne_zero h2 h1 e.symm
theorem s_swing_thr {n : Nat} {p q' r s t u p' q'' r' s' t' u' : Int} {cs : Cs} {Q : PyData → Cs → Prop} (h : Th 1000 p q' r s t u) (h' : Th 1000 p' q'' r' s' t' u')
    (q : ∀ A B C D, Car A B C D p q' r s t u p' q'' r' s' t' u' → Nrm [A, B, C, D] → Lv 12 A → Lv 12 B → Lv 12 C → Lv 12 D → Q (t4 A B C D) cs) : W (runFn (n + 4) 23 [.dat (.tuple [t2 p q', t2 r s, t2 t u]), .dat (.tuple [t2 p' q'', t2 r' s', t2 t' u'])]) cs Q := by
  rw [rr23]
  have d1 := h.p1.unlike h.p2 h.n12
  have d2 := h.p1.unlike h.p3 h.n13
  have d3 := h.p2.unlike h.p3 h.n23
  have g1 := h'.p1.unlike h'.p2 h'.n12
  have g2 := h'.p1.unlike h'.p3 h'.n13
  have g3 := h'.p2.unlike h'.p3 h'.n23
  obtain ⟨b1, b2, b3, b4, b5, b6⟩ := And.intro h.b1 (And.intro h.b2 (And.intro h.b3 (And.intro h.b4 (And.intro h.b5 h.b6))))
  obtain ⟨c1, c2, c3, c4, c5, c6⟩ := And.intro h'.b1 (And.intro h'.b2 (And.intro h'.b3 (And.intro h'.b4 (And.intro h'.b5 h'.b6))))
  have f1 : t * s - r * u ≠ 0 := by omega
  have f2 : p * u - t * q' ≠ 0 := d2
  have f1' : t' * s' - r' * u' ≠ 0 := by omega
  have f2' : p' * u' - t' * q'' ≠ 0 := g2
  have m1 : Bd 2000000 (t * s - r * u) := (b5.mul b4).sub (b3.mul b6)
  have m2 : Bd 2000000 (p * u - t * q') := (b1.mul b6).sub (b5.mul b2)
  have m1' : Bd 2000000 (t' * s' - r' * u') := (c5.mul c4).sub (c3.mul c6)
  have m2' : Bd 2000000 (p' * u' - t' * q'') := (c1.mul c6).sub (c5.mul c2)
  refine W.run' rfl ?_
  walk_at "e"
  refine s_need_three h (by decide) ?_
  walk_at "e"
  refine s_need_three h' (by decide) ?_
  walk_at "e"
  refine s_frame_of (by walk_at "lv") (by walk_at "lv") (by walk_at "lv") (by walk_at "lv") (by walk_at "lv") (by walk_at "lv") ?_
  walk_at "e"
  have w1 : Bd 2000000000 (p * (t * s - r * u)) := b1.mul m1
  have w2 : Bd 2000000000 (r * (p * u - t * q')) := b3.mul m2
  have w3 : Bd 2000000000 (q' * (t * s - r * u)) := b2.mul m1
  have w4 : Bd 2000000000 (s * (p * u - t * q')) := b4.mul m2
  refine s_undone ?_ (by walk_at "lv") (by walk_at "lv") (by walk_at "lv") (by walk_at "lv") fun A1 B1 C1 D1 k1 hk1 e1 e2 e3 e4 _ => ?_
  · rw [frame_det]
    exact Int.mul_ne_zero (Int.mul_ne_zero f1 f2) d1
  walk_at "e"
  refine s_frame_of (by walk_at "lv") (by walk_at "lv") (by walk_at "lv") (by walk_at "lv") (by walk_at "lv") (by walk_at "lv") ?_
  walk_at "e"
  have v1 : Bd 2000000000 A1 := w4.of_mul hk1 e1
  have v2 : Bd 2000000000 B1 := w2.neg.of_mul hk1 e2
  have v3 : Bd 2000000000 C1 := w3.neg.of_mul hk1 e3
  have v4 : Bd 2000000000 D1 := w1.of_mul hk1 e4
  have z1 : Bd 2000000000 (p' * (t' * s' - r' * u')) := c1.mul m1'
  have z2 : Bd 2000000000 (r' * (p' * u' - t' * q'')) := c3.mul m2'
  have z3 : Bd 2000000000 (q'' * (t' * s' - r' * u')) := c2.mul m1'
  have z4 : Bd 2000000000 (s' * (p' * u' - t' * q'')) := c4.mul m2'
  have D1ne : A1 * D1 - B1 * C1 ≠ 0 := undo_det e1 e2 e3 e4 (by rw [frame_det]; exact Int.mul_ne_zero (Int.mul_ne_zero f1 f2) d1)
  have D2ne : p' * (t' * s' - r' * u') * (s' * (p' * u' - t' * q'')) - r' * (p' * u' - t' * q'') * (q'' * (t' * s' - r' * u')) ≠ 0 := by
    rw [frame_det]
    exact Int.mul_ne_zero (Int.mul_ne_zero f1' f2') g1
  refine s_product D1ne D2ne (by walk_at "lv") (by walk_at "lv") (by walk_at "lv") (by walk_at "lv") (by walk_at "lv") (by walk_at "lv") (by walk_at "lv") (by walk_at "lv") fun A B C D k hk i1 i2 i3 i4 hn => ?_
  exact q A B C D (car_of hk1 hk d1 f1 f2 g1 f1' f2' e1 e2 e3 e4 i1 i2 i3 i4 (prod_det D1ne D2ne i1 i2 i3 i4)) hn
    ((Lv.of (k := 6) (((z1.mul v1).add (z2.mul v3)).of_mul hk i1) (by decide)).mono (by decide)) ((Lv.of (k := 6) (((z1.mul v2).add (z2.mul v4)).of_mul hk i2) (by decide)).mono (by decide)) ((Lv.of (k := 6) (((z3.mul v1).add (z4.mul v3)).of_mul hk i3) (by decide)).mono (by decide)) ((Lv.of (k := 6) (((z3.mul v2).add (z4.mul v4)).of_mul hk i4) (by decide)).mono (by decide))

end T
end
section
set_option Elab.async false
set_option linter.all false
set_option maxRecDepth 100000
set_option maxHeartbeats 400000
namespace T
open PySem hiding Flow Arg
open Se Wk Ev Nm
local macro_rules | `(tactic| walk_at "lv") => `(tactic| (repeat' (first | exact Lv.mono (by assumption) (Nat.le_of_ble_eq_true rfl) | exact Lv.mono (Bd.lv (by assumption) (Nat.le_of_ble_eq_true rfl)) (Nat.le_of_ble_eq_true rfl) | apply Lv.mul | apply Lv.add | apply Lv.sub | apply Lv.neg)))
local macro_rules | `(tactic| walk_at "w") => `(tactic| first
  | ((with_reducible apply exI); first | assumption | exact rfl)
  | ((with_reducible apply Op.head); assumption) | ((with_reducible apply Op.of (o := gIx _ _)); exact rfl) | ((with_reducible refine And.intro (And.intro ?_ ?_) ?_); (focus walk_at "lv"); (focus walk_at "lv"))
  | ((with_reducible apply Op.of (o := gLen _)); exact rfl) | ((with_reducible apply Op.of (o := gAll _)); exact rfl) | ((with_reducible apply Op.of (o := gAny _)); exact rfl) | ((with_reducible apply Op.of (o := gSum _)); exact rfl) | ((with_reducible apply Op.of (o := gTuple _)); exact rfl) | ((with_reducible apply Op.of (o := gAbs _)); exact rfl) | ((with_reducible apply Op.of (o := gInt _)); exact rfl) | ((with_reducible apply Op.of (o := gCut _ _ _)); exact rfl)
  | ((with_reducible first | apply W.nz2 | apply W.nz3 | apply W.nz4 | apply W.nz6 | apply W.nz9); exact Nat.le_of_ble_eq_true rfl)
  | (with_reducible first | apply W.stepC | apply W.stepN | apply W.stepMC | apply W.stepMN | apply W.forC | apply W.forN)
  | ((with_reducible refine And.intro ?_ ?_); first | exact Nat.le_of_ble_eq_true rfl | exact rfl) | (with_reducible refine Bo.t ?_) | (with_reducible refine Bo.f ?_) | (with_reducible refine Bo.d (fun _ => ?_) (fun h => absurd (by assumption) h)) | (with_reducible refine Bo.d (fun h => absurd h (by assumption)) (fun _ => ?_)) | (with_reducible refine Bo.nd (fun _ => ?_) (fun h => absurd h (by assumption))) | (with_reducible refine Bo.nd (fun h => absurd (by assumption) h) (fun _ => ?_)) | ((with_reducible apply Op.divE); assumption; assumption; assumption) | (refine Bo.t ?_) | (refine Bo.f ?_))
local macro_rules | `(tactic| walk_at "e") => `(tactic| repeat (first | (with_reducible apply W.setN) | (with_reducible refine St.ok ?_) | (with_reducible refine OS.ok ?_) | walk_at "w"))
local macro_rules | `(tactic| walk_at "i") => `(tactic| ((with_reducible apply W.iteI); (exact rfl); (exact rfl); exact rfl))
local macro_rules | `(tactic| walk_at "t") => `(tactic| repeat (first | (with_reducible apply W.setN) | (with_reducible refine St.ok ?_) | (with_reducible refine OS.ok ?_) | (with_reducible apply W.ite) | walk_at "w"))
/-- a ratio of two integers, in lowest terms -/
def prD (x y : Int) : PyData := t2 (x.fdiv (fac [y, x])) (y.fdiv (fac [y, x]))
theorem prD_pl {x y : Int} (hz : NZ [y, x]) : ∃ A B k, k ≠ 0 ∧ x = k * A ∧ y = k * B ∧ Pl A B ∧ prD x y = t2 A B := by
  have ex := fac_mul (l := [y, x]) (x := x) (by simp)
  have ey := fac_mul (l := [y, x]) (x := y) (by simp)
  exact ⟨_, _, _, fac_ne hz, ex, ey, ⟨fac_nrm hz (by rw [List.map_cons, List.map_cons, List.map_nil, ← ex, ← ey])⟩, rfl⟩
/-! the law's own functions -/
/-- the cup: two integers, the second one small -/
def Cu (cs : Cs) : Prop := ∃ d l, cs = [d, l] ∧ Bd 200000 l
theorem fmod_bd {a b : Int} (h : 0 < b) : 0 ≤ a.fmod b ∧ a.fmod b < b := ⟨Int.fmod_nonneg_of_pos a h, Int.fmod_lt_of_pos a h⟩
theorem bd_lv {i : Int} {k : Nat} (h : Lv k i) (hk : k ≤ 18) : Lv 18 i := h.mono hk
theorem s_roll {n : Nat} {m : Int} {cs : Cs} {Q : PyData → Cs → Prop} (hc : Cu cs) (hm : 0 < m) (hl : Lv 12 m) (q : ∀ r cs', 0 ≤ r → r < m → Cu cs' → Q (.int r) cs') : W (runFn (n + 1) 60 [.cup, .dat (.int m)]) cs Q := by
  rw [rr60]
  obtain ⟨d, l, rfl, hb⟩ := hc
  have l6 : Lv 6 l := hb.lv (by decide)
  have hm0 : m ≠ 0 := by omega
  have h11 : Lv 12 (11 : Int) := (Bd.lv (n := 11) (show (11 : Int).natAbs ≤ 11 from by decide) (by decide)).mono (by decide)
  have h73 : Lv 12 (73 : Int) := (Bd.lv (n := 73) (show (73 : Int).natAbs ≤ 73 from by decide) (by decide)).mono (by decide)
  refine W.run' rfl ?_
  by_cases hd : 0 < d
  · walk_at "e"
    refine Op.mod hm0 ?_
    walk_at "e"
    refine Op.div hm0 (hl.mono (by decide)) ?_
    walk_at "e"
    exact q _ _ (fmod_bd hm).1 (fmod_bd hm).2 ⟨_, _, rfl, hb⟩
  · walk_at "e"
    refine Op.mod (by decide) ?_
    walk_at "e"
    refine Op.div (by decide) (h11.mono (by decide)) ?_
    walk_at "e"
    refine Op.mod hm0 ?_
    walk_at "e"
    refine q _ _ (fmod_bd hm).1 (fmod_bd hm).2 ⟨_, _, rfl, ?_⟩
    have := fmod_bd (a := l * 73 + 1237) (b := 99991) (by decide)
    exact Bd.of (by omega)
theorem atI_of {xs : List PyData} {r : Int} (h0 : 0 ≤ r) (h1 : r < xs.length) : ∃ d, d ∈ xs ∧ gIx (.list xs) (.int r) = some d := by
  have hlt : r.toNat < xs.length := by omega
  refine ⟨xs[r.toNat], List.getElem_mem hlt, ?_⟩
  show L2.atI xs r = _
  unfold L2.atI L2.ixN
  rw [if_pos h0, if_pos h1]
  simp [hlt]
theorem s_some {n : Nat} {xs : List PyData} {m : Int} {cs : Cs} {Q : PyData → Cs → Prop} (hx : m = xs.length) (hm : 0 < m) (hl : Lv 12 m) (hc : Cu cs) (q : ∀ x cs', x ∈ xs → Cu cs' → Q x cs') : W (runFn (n + 2) 61 [.cup, .dat (.list xs)]) cs Q := by
  rw [rr61]
  refine W.run' rfl ?_
  walk_at "e"
  rw [← hx]
  refine s_roll hc hm hl fun r cs' h0 h1 hc' => ?_
  obtain ⟨d, hd, e⟩ := atI_of (xs := xs) h0 (by omega)
  exact ⟨_, e, q d cs' hd hc'⟩
/-- data that is like itself -/
def lk : Nat → PyData → Bool
  | _, .none => true
  | _, .bool _ => true
  | _, .int _ => true
  | k + 1, .tuple ds => decide (ds.length ≤ line) && ds.all (lk k)
  | k + 1, .list ds => decide (ds.length ≤ line) && ds.all (lk k)
  | _, _ => false
def srt : PyData → Int
  | .none => 0
  | .bool _ => 1
  | .int _ => 2
  | .str _ => 3
  | .tuple _ => 4
  | .list _ => 5
  | _ => 6
theorem s_sort {n : Nat} {d : PyData} {cs : Cs} {Q : PyData → Cs → Prop} (q : Q (.int (srt d)) cs) : W (runFn (n + 1) 62 [.dat d]) cs Q := by
  rw [rr62]
  cases d <;> exact ⟨_, _, rfl, q⟩
theorem nil_eq {Q : PyData → Prop} (q : Q (.bool true)) : Op (gEq (.list []) (.list [])) Q := ⟨_, rfl, q⟩
theorem s_like_steps {cs : Cs} {F : PyData → M (Option PyData)} : ∀ {ds : List PyData} {S : List PyData → Cs → Prop}, (∀ d ∈ ds, W (F (.tuple [d, d])) cs fun o c => o = none ∧ c = cs) → S [] cs → W (stepL F (zipD ds ds)) cs S
  | [], S, _, q => W.stepN q
  | d :: ds, S, h, q => by
    refine W.stepC ((h d (by simp)).mono fun o c z => ?_)
    obtain ⟨rfl, rfl⟩ := z
    exact s_like_steps (fun x hx => h x (by simp [hx])) q
theorem s_like_leaf {n : Nat} {d : PyData} {cs : Cs} {Q : PyData → Cs → Prop} (h : lk 0 d = true) (q : Q (.bool true) cs) : W (runFn (n + 2) 63 [.dat d, .dat d]) cs Q := by
  rw [rr63]
  refine W.run' rfl ?_
  cases d <;> first | (simp [lk] at h; done) | skip
  · walk_at "e"
    refine s_sort ?_
    walk_at "e"
    refine s_sort ?_
    walk_at "e"
    refine Op.of (z := .bool false) rfl ?_
    walk_at "e"
    exact ⟨_, rfl, q⟩
  · walk_at "e"
    refine s_sort ?_
    walk_at "e"
    refine s_sort ?_
    walk_at "e"
    refine Op.of (z := .bool false) rfl ?_
    walk_at "e"
    refine Op.eqT rfl rfl q
  · walk_at "e"
    refine s_sort ?_
    walk_at "e"
    refine s_sort ?_
    walk_at "e"
    refine Op.of (z := .bool false) rfl ?_
    walk_at "e"
    simpa using q
theorem zip_le : ∀ ds : List PyData, (zipD ds ds).length ≤ ds.length
  | [] => Nat.le_refl _
  | _ :: ds => Nat.succ_le_succ (zip_le ds)
theorem s_like : ∀ {k n : Nat} {d : PyData} {cs : Cs} {Q : PyData → Cs → Prop}, lk k d = true → Q (.bool true) cs → W (runFn (n + k + 2) 63 [.dat d, .dat d]) cs Q := by
  intro k
  induction k with
  | zero => exact fun h q => s_like_leaf h q
  | succ k ih =>
    intro n d cs Q h q
    cases d <;> first | (simp [lk] at h; done) | skip
    · exact s_like_leaf rfl q
    · exact s_like_leaf rfl q
    · exact s_like_leaf rfl q
    · rename_i ds
      rw [show n + (k + 1) + 2 = (n + k + 2) + 1 from rfl, rr63]
      refine W.run' rfl ?_
      have h1 : ds.length ≤ line ∧ ∀ x ∈ ds, lk k x = true := by simpa [lk] using h
      walk_at "e"
      refine s_sort ?_
      walk_at "e"
      refine s_sort ?_
      walk_at "e"
      refine Op.of (z := .bool true) rfl ?_
      walk_at "e"
      refine Bo.d (fun _ => ?_) (fun g => absurd rfl g)
      walk_at "e"
      refine And.intro ?_ ?_
      · exact Nat.le_trans (zip_le ds) h1.1
      refine s_like_steps (fun x hx => ?_) ?_
      · walk_at "e"
        refine ih (h1.2 x hx) ?_
        walk_at "e"
        exact rfl
      · walk_at "e"
        exact nil_eq q
    · rename_i ds
      rw [show n + (k + 1) + 2 = (n + k + 2) + 1 from rfl, rr63]
      refine W.run' rfl ?_
      have h1 : ds.length ≤ line ∧ ∀ x ∈ ds, lk k x = true := by simpa [lk] using h
      walk_at "e"
      refine s_sort ?_
      walk_at "e"
      refine s_sort ?_
      walk_at "e"
      refine Op.of (z := .bool true) rfl ?_
      walk_at "e"
      refine Bo.d (fun _ => ?_) (fun g => absurd rfl g)
      walk_at "e"
      refine And.intro ?_ ?_
      · exact Nat.le_trans (zip_le ds) h1.1
      refine s_like_steps (fun x hx => ?_) ?_
      · walk_at "e"
        refine ih (h1.2 x hx) ?_
        walk_at "e"
        exact rfl
      · walk_at "e"
        exact nil_eq q
/-! the greatest common divisor by turns -/
theorem absI (i : Int) : (if i < 0 then -i else i) = (i.natAbs : Int) := by omega
theorem half {b c : Nat} (h : c ≠ 0) (hc : c < b) : 2 * (b % c) < b := by
  have h1 := Nat.mod_lt b (Nat.pos_of_ne_zero h)
  by_cases g : 2 * c ≤ b
  · omega
  · have : b % c = b - c := by
      rw [Nat.mod_eq_sub_mod (by omega), Nat.mod_eq_of_lt (by omega)]
    omega
theorem gcd_wh {cf : CF} {cs : Cs} {R : Se.Flow → Cs → Prop} : ∀ {k N : Nat} {a b : Nat}, b < 2 ^ k → 2 * k + 1 ≤ N → (∀ g : Nat, g = Nat.gcd a b → R (.next [.sh (.int (g : Int)), .sh (.int 0)]) cs) → W (whL ((mBin gNe (mPk 1) (mLit (.int 0)) : SE) cf) ((sPar2 0 1 (mSh (mVar 1)) (mSh (mBin gMod (mBI gInt (mCons (mPk 0) mNil)) (mPk 1))) : SS) cf) N [.sh (.int (a : Int)), .sh (.int (b : Int))]) cs R := by
  intro k
  induction k with
  | zero =>
    intro N a b h hN q
    have hb : b = 0 := by simpa using h
    subst hb
    obtain ⟨N, rfl⟩ : ∃ m, N = m + 1 := ⟨N - 1, by omega⟩
    refine W.wh ?_
    walk_at "e"
    exact q a (by simp)
  | succ k ih =>
    intro N a b h hN q
    obtain ⟨N, rfl⟩ : ∃ m, N = m + 2 := ⟨N - 2, by omega⟩
    refine W.wh ?_
    by_cases hb : b = 0
    · subst hb
      walk_at "e"
      exact q a (by simp)
    · have hb' : (b : Int) ≠ 0 := by omega
      walk_at "e"
      refine Op.mod hb' ?_
      walk_at "e"
      refine W.wh ?_
      have e1 : ((a : Int).fmod (b : Int)) = ((a % b : Nat) : Int) := by
        rw [Int.fmod_eq_emod_of_nonneg _ (by omega)]; rfl
      rw [e1]
      by_cases hc : a % b = 0
      · rw [hc]
        walk_at "e"
        exact q b (Nat.gcd_eq_right (Nat.dvd_of_mod_eq_zero hc)).symm
      · have hc' : ((a % b : Nat) : Int) ≠ 0 := by omega
        walk_at "e"
        refine Op.mod hc' ?_
        walk_at "e"
        have e2 : ((b : Int).fmod ((a % b : Nat) : Int)) = ((b % (a % b) : Nat) : Int) := by
          rw [Int.fmod_eq_emod_of_nonneg _ (by omega)]; rfl
        rw [e2]
        refine ih (a := a % b) (b := b % (a % b)) ?_ (by omega) fun g hg => q g ?_
        · have := half hc (Nat.mod_lt a (Nat.pos_of_ne_zero hb))
          rw [Nat.pow_succ] at h
          omega
        · rw [hg, Nat.gcd_comm a b, Nat.gcd_rec b a, Nat.gcd_rec (a % b) b, Nat.gcd_comm]
theorem s_gcd {n : Nat} {a b : Int} {cs : Cs} {Q : PyData → Cs → Prop} (hb : Lv 12 b) (q : Q (.int ((Nat.gcd a.natAbs b.natAbs : Nat) : Int)) cs) : W (runFn (n + 1) 65 [.dat (.int a), .dat (.int b)]) cs Q := by
  rw [rr65]
  refine W.run' rfl ?_
  walk_at "e"
  refine W.swh ?_
  rw [absI, absI]
  refine gcd_wh (k := 2 ^ 12) hb (by decide) fun g hg => ?_
  walk_at "e"
  rw [hg]
  exact q
theorem s_low {n : Nat} {x y : Int} {cs : Cs} {Q : PyData → Cs → Prop} (hy : y ≠ 0) (lx : Lv 12 x) (ly : Lv 12 y) (q : ∀ A B k, k ≠ 0 → x = k * A → y = k * B → Pl A B → Q (t2 A B) cs) : W (runFn (n + 2) 66 [.dat (.int x), .dat (.int y)]) cs Q := by
  rw [rr66]
  have nz : NZ [y, x] := by rw [NZ2]; exact .inl hy
  have h0 := fac_ne nz
  have hf : fnz [y, x] = y := by simp [fnz, hy]
  have hg : Nat.gcd x.natAbs y.natAbs = gcdL [y, x] := by rw [Nat.gcd_comm]; simp [gcdL]
  have l13 : Lv 13 (fac [y, x]) := (fac_lv (k := 12) (by simp [lx, ly]) nz).mono (by decide)
  have fin : Q (prD x y) cs := by
    obtain ⟨A, B, k, hk, i1, i2, hp, e⟩ := prD_pl nz
    rw [e]
    exact q A B k hk i1 i2 hp
  refine W.run' rfl ?_
  by_cases hs : 0 < y
  · walk_at "t"
    refine s_gcd ly ?_
    rw [hg]
    rw [show ((gcdL [y, x] : Nat) : Int) = fac [y, x] from by unfold fac; rw [hf, if_pos hs]]
    walk_at "e"
    refine Op.div h0 l13 ?_
    walk_at "e"
    refine Op.div h0 l13 ?_
    walk_at "e"
    exact fin
  · walk_at "t"
    refine s_gcd ly ?_
    walk_at "e"
    rw [hg]
    rw [show -((gcdL [y, x] : Nat) : Int) = fac [y, x] from by unfold fac; rw [hf, if_neg hs]]
    walk_at "e"
    refine Op.div h0 l13 ?_
    walk_at "e"
    refine Op.div h0 l13 ?_
    walk_at "e"
    exact fin
theorem s_at {n : Nat} {x y : Int} {cs : Cs} {Q : PyData → Cs → Prop} (hz : x ≠ 0 ∨ y ≠ 0) (lx : Lv 12 x) (ly : Lv 12 y) (q : ∀ A B k, k ≠ 0 → x = k * A → y = k * B → Pl A B → Q (t2 A B) cs) : W (runFn (n + 3) 68 [.dat (.int x), .dat (.int y)]) cs Q := by
  rw [rr68]
  refine W.run' rfl ?_
  by_cases hy : y = 0
  · walk_at "t"
    exact q 1 0 x (hz.resolve_right (fun h => h hy)) (by omega) (by omega) (Pl.of (by decide) (by decide))
  · walk_at "t"
    exact s_low hy lx ly q
theorem nz_img2 {a b c d x y : Int} (hd : a * d - b * c ≠ 0) (hp : x ≠ 0 ∨ y ≠ 0) : a * x + b * y ≠ 0 ∨ c * x + d * y ≠ 0 := by
  by_cases h1 : a * x + b * y = 0
  · by_cases h2 : c * x + d * y = 0
    · exfalso
      have z1 : (a * d - b * c) * x = 0 := by grind
      have z2 : (a * d - b * c) * y = 0 := by grind
      rcases Int.mul_eq_zero.mp z1 with h | h
      · exact hd h
      · rcases Int.mul_eq_zero.mp z2 with h' | h'
        · exact hd h'
        · rcases hp with hp | hp
          · exact hp h
          · exact hp h'
    · exact .inr h2
  · exact .inl h1
theorem s_short3 {n : Nat} {a b c : Int} {cs : Cs} {Q : PyData → Cs → Prop} (hz : NZ [a, b, c]) (hl : ∀ x ∈ [a, b, c], Lv 12 x) (q : ∀ A B C k, k ≠ 0 → a = k * A → b = k * B → c = k * C → Nrm [A, B, C] → Q (.tuple [.int A, .int B, .int C]) cs) : W (runFn (n + 2) 67 [.dat (.tuple [.int a, .int b, .int c])]) cs Q := by
  rw [rr67]
  have la := hl a (by simp)
  have lb := hl b (by simp)
  have lc := hl c (by simp)
  have h0 := gcd_ne hz
  have h1 : Lv 13 (gcdL [a, b, c] : Int) := (gcd_lv (k := 12) hl hz).mono (by decide)
  have ea := fac_mul (l := [a, b, c]) (x := a) (by simp)
  have eb := fac_mul (l := [a, b, c]) (x := b) (by simp)
  have ec := fac_mul (l := [a, b, c]) (x := c) (by simp)
  have fin := q _ _ _ _ (fac_ne hz) ea eb ec (fac_nrm hz (by rw [List.map_cons, List.map_cons, List.map_cons, List.map_nil, ← ea, ← eb, ← ec]))
  have hG : ((Nat.gcd ((Nat.gcd ((Nat.gcd (0 : Int).natAbs a.natAbs : Nat) : Int).natAbs b.natAbs : Nat) : Int).natAbs c.natAbs : Nat) : Int) = (gcdL [a, b, c] : Nat) := by
    simp [gcdL, Nat.gcd_assoc]
  refine W.run' rfl ?_
  by_cases hs : 0 < fnz [a, b, c]
  · have fa := fac_pos hs (x := a) (by simp)
    have fb := fac_pos hs (x := b) (by simp)
    have fc := fac_pos hs (x := c) (by simp)
    walk_at "e"
    refine s_gcd la ?_
    walk_at "e"
    refine s_gcd lb ?_
    walk_at "e"
    refine s_gcd lc ?_
    walk_at "t"
    rw [hG]
    walk_at "t"
    exact fin
  · have fa := fac_neg hs (x := a) (by simp)
    have fb := fac_neg hs (x := b) (by simp)
    have fc := fac_neg hs (x := c) (by simp)
    walk_at "e"
    refine s_gcd la ?_
    walk_at "e"
    refine s_gcd lb ?_
    walk_at "e"
    refine s_gcd lc ?_
    walk_at "t"
    rw [hG]
    walk_at "t"
    exact fin
theorem s_short4 {n : Nat} {a b c d : Int} {cs : Cs} {Q : PyData → Cs → Prop} (hz : NZ [a, b, c, d]) (hl : ∀ x ∈ [a, b, c, d], Lv 12 x) (q : ∀ A B C D k, k ≠ 0 → a = k * A → b = k * B → c = k * C → d = k * D → Nrm [A, B, C, D] → Q (.tuple [.int A, .int B, .int C, .int D]) cs) : W (runFn (n + 2) 67 [.dat (.tuple [.int a, .int b, .int c, .int d])]) cs Q := by
  rw [rr67]
  have la := hl a (by simp)
  have lb := hl b (by simp)
  have lc := hl c (by simp)
  have ld := hl d (by simp)
  have h0 := gcd_ne hz
  have h1 : Lv 13 (gcdL [a, b, c, d] : Int) := (gcd_lv (k := 12) hl hz).mono (by decide)
  have ea := fac_mul (l := [a, b, c, d]) (x := a) (by simp)
  have eb := fac_mul (l := [a, b, c, d]) (x := b) (by simp)
  have ec := fac_mul (l := [a, b, c, d]) (x := c) (by simp)
  have ed := fac_mul (l := [a, b, c, d]) (x := d) (by simp)
  have fin := q _ _ _ _ _ (fac_ne hz) ea eb ec ed (fac_nrm hz (by rw [List.map_cons, List.map_cons, List.map_cons, List.map_cons, List.map_nil, ← ea, ← eb, ← ec, ← ed]))
  have hG : ((Nat.gcd ((Nat.gcd ((Nat.gcd ((Nat.gcd (0 : Int).natAbs a.natAbs : Nat) : Int).natAbs b.natAbs : Nat) : Int).natAbs c.natAbs : Nat) : Int).natAbs d.natAbs : Nat) : Int) = (gcdL [a, b, c, d] : Nat) := by
    simp [gcdL, Nat.gcd_assoc]
  refine W.run' rfl ?_
  by_cases hs : 0 < fnz [a, b, c, d]
  · have fa := fac_pos hs (x := a) (by simp)
    have fb := fac_pos hs (x := b) (by simp)
    have fc := fac_pos hs (x := c) (by simp)
    have fd := fac_pos hs (x := d) (by simp)
    walk_at "e"
    refine s_gcd la ?_
    walk_at "e"
    refine s_gcd lb ?_
    walk_at "e"
    refine s_gcd lc ?_
    walk_at "e"
    refine s_gcd ld ?_
    walk_at "t"
    rw [hG]
    walk_at "t"
    exact fin
  · have fa := fac_neg hs (x := a) (by simp)
    have fb := fac_neg hs (x := b) (by simp)
    have fc := fac_neg hs (x := c) (by simp)
    have fd := fac_neg hs (x := d) (by simp)
    walk_at "e"
    refine s_gcd la ?_
    walk_at "e"
    refine s_gcd lb ?_
    walk_at "e"
    refine s_gcd lc ?_
    walk_at "e"
    refine s_gcd ld ?_
    walk_at "t"
    rw [hG]
    walk_at "t"
    exact fin
theorem s_short9 {n : Nat} {a b c d e f g h i : Int} {cs : Cs} {Q : PyData → Cs → Prop} (hz : NZ [a, b, c, d, e, f, g, h, i]) (hl : ∀ x ∈ [a, b, c, d, e, f, g, h, i], Lv 12 x) (q : ∀ A B C D E F G H I k, k ≠ 0 → a = k * A → b = k * B → c = k * C → d = k * D → e = k * E → f = k * F → g = k * G → h = k * H → i = k * I → Nrm [A, B, C, D, E, F, G, H, I] → Q (.tuple [.int A, .int B, .int C, .int D, .int E, .int F, .int G, .int H, .int I]) cs) : W (runFn (n + 2) 67 [.dat (.tuple [.int a, .int b, .int c, .int d, .int e, .int f, .int g, .int h, .int i])]) cs Q := by
  rw [rr67]
  have la := hl a (by simp)
  have lb := hl b (by simp)
  have lc := hl c (by simp)
  have ld := hl d (by simp)
  have le := hl e (by simp)
  have lf := hl f (by simp)
  have lg := hl g (by simp)
  have lh := hl h (by simp)
  have li := hl i (by simp)
  have h0 := gcd_ne hz
  have h1 : Lv 13 (gcdL [a, b, c, d, e, f, g, h, i] : Int) := (gcd_lv (k := 12) hl hz).mono (by decide)
  have ea := fac_mul (l := [a, b, c, d, e, f, g, h, i]) (x := a) (by simp)
  have eb := fac_mul (l := [a, b, c, d, e, f, g, h, i]) (x := b) (by simp)
  have ec := fac_mul (l := [a, b, c, d, e, f, g, h, i]) (x := c) (by simp)
  have ed := fac_mul (l := [a, b, c, d, e, f, g, h, i]) (x := d) (by simp)
  have ee := fac_mul (l := [a, b, c, d, e, f, g, h, i]) (x := e) (by simp)
  have ef := fac_mul (l := [a, b, c, d, e, f, g, h, i]) (x := f) (by simp)
  have eg := fac_mul (l := [a, b, c, d, e, f, g, h, i]) (x := g) (by simp)
  have eh := fac_mul (l := [a, b, c, d, e, f, g, h, i]) (x := h) (by simp)
  have ei := fac_mul (l := [a, b, c, d, e, f, g, h, i]) (x := i) (by simp)
  have fin := q _ _ _ _ _ _ _ _ _ _ (fac_ne hz) ea eb ec ed ee ef eg eh ei (fac_nrm hz (by rw [List.map_cons, List.map_cons, List.map_cons, List.map_cons, List.map_cons, List.map_cons, List.map_cons, List.map_cons, List.map_cons, List.map_nil, ← ea, ← eb, ← ec, ← ed, ← ee, ← ef, ← eg, ← eh, ← ei]))
  have hG : ((Nat.gcd ((Nat.gcd ((Nat.gcd ((Nat.gcd ((Nat.gcd ((Nat.gcd ((Nat.gcd ((Nat.gcd ((Nat.gcd (0 : Int).natAbs a.natAbs : Nat) : Int).natAbs b.natAbs : Nat) : Int).natAbs c.natAbs : Nat) : Int).natAbs d.natAbs : Nat) : Int).natAbs e.natAbs : Nat) : Int).natAbs f.natAbs : Nat) : Int).natAbs g.natAbs : Nat) : Int).natAbs h.natAbs : Nat) : Int).natAbs i.natAbs : Nat) : Int) = (gcdL [a, b, c, d, e, f, g, h, i] : Nat) := by
    simp [gcdL, Nat.gcd_assoc]
  refine W.run' rfl ?_
  by_cases hs : 0 < fnz [a, b, c, d, e, f, g, h, i]
  · have fa := fac_pos hs (x := a) (by simp)
    have fb := fac_pos hs (x := b) (by simp)
    have fc := fac_pos hs (x := c) (by simp)
    have fd := fac_pos hs (x := d) (by simp)
    have fe := fac_pos hs (x := e) (by simp)
    have ff := fac_pos hs (x := f) (by simp)
    have fg := fac_pos hs (x := g) (by simp)
    have fh := fac_pos hs (x := h) (by simp)
    have fi := fac_pos hs (x := i) (by simp)
    walk_at "e"
    refine s_gcd la ?_
    walk_at "e"
    refine s_gcd lb ?_
    walk_at "e"
    refine s_gcd lc ?_
    walk_at "e"
    refine s_gcd ld ?_
    walk_at "e"
    refine s_gcd le ?_
    walk_at "e"
    refine s_gcd lf ?_
    walk_at "e"
    refine s_gcd lg ?_
    walk_at "e"
    refine s_gcd lh ?_
    walk_at "e"
    refine s_gcd li ?_
    walk_at "t"
    rw [hG]
    walk_at "t"
    exact fin
  · have fa := fac_neg hs (x := a) (by simp)
    have fb := fac_neg hs (x := b) (by simp)
    have fc := fac_neg hs (x := c) (by simp)
    have fd := fac_neg hs (x := d) (by simp)
    have fe := fac_neg hs (x := e) (by simp)
    have ff := fac_neg hs (x := f) (by simp)
    have fg := fac_neg hs (x := g) (by simp)
    have fh := fac_neg hs (x := h) (by simp)
    have fi := fac_neg hs (x := i) (by simp)
    walk_at "e"
    refine s_gcd la ?_
    walk_at "e"
    refine s_gcd lb ?_
    walk_at "e"
    refine s_gcd lc ?_
    walk_at "e"
    refine s_gcd ld ?_
    walk_at "e"
    refine s_gcd le ?_
    walk_at "e"
    refine s_gcd lf ?_
    walk_at "e"
    refine s_gcd lg ?_
    walk_at "e"
    refine s_gcd lh ?_
    walk_at "e"
    refine s_gcd li ?_
    walk_at "t"
    rw [hG]
    walk_at "t"
    exact fin
/-! places, swings and maps of the law -/
theorem bd_of {n : Nat} {x : Int} (h1 : -(n : Int) ≤ x) (h2 : x ≤ n) : Bd n x := Bd.of ⟨h1, h2⟩
theorem s_spot {n : Nat} {m : Nat} {cs : Cs} {Q : PyData → Cs → Prop} (hm : 1 ≤ m) (hM : m ≤ 1000) (hc : Cu cs) (q : ∀ A B cs', Pl A B → Bd m A → Bd m B → Cu cs' → Q (t2 A B) cs') : W (runFn (n + 3) 70 [.cup, .dat (.int (m : Int))]) cs Q := by
  rw [rr70]
  have hb : Bd 1000 (m : Int) := bd_of (by omega) (by omega)
  have l6 : Lv 6 (m : Int) := hb.lv (by decide)
  have l2 : Lv 6 (2 : Int) := Bd.lv (n := 2) (show (2 : Int).natAbs ≤ 2 from by decide) (by decide)
  have l1 : Lv 6 (1 : Int) := Bd.lv (n := 1) (show (1 : Int).natAbs ≤ 1 from by decide) (by decide)
  refine W.run' rfl ?_
  walk_at "e"
  refine s_roll hc (by decide) (Bd.lv (n := 6) (show (6 : Int).natAbs ≤ 6 from by decide) (by decide) |>.mono (by decide)) fun r c1 r0 r1 h1 => ?_
  by_cases hr : r = 0
  · walk_at "e"
    exact q 1 0 c1 (Pl.of (by decide) (by decide)) (bd_of (by omega) (by omega)) (bd_of (by omega) (by omega)) h1
  · walk_at "e"
    refine s_roll h1 (by omega) (by walk_at "lv") fun s c2 s0 s1 h2 => ?_
    walk_at "e"
    refine s_roll h2 (by omega) (by walk_at "lv") fun t c3 t0 t1 h3 => ?_
    walk_at "e"
    have b1 : Bd m (s - m) := bd_of (by omega) (by omega)
    have b2 : Bd m (1 + t) := bd_of (by omega) (by omega)
    refine s_low (by omega) ((b1.lv (by omega)).mono (by decide)) ((b2.lv (by omega)).mono (by decide)) fun A B k hk e1 e2 hp => ?_
    exact q A B c3 hp (b1.of_mul hk e1) (b2.of_mul hk e2) h3
end T
end
section
set_option Elab.async false
set_option linter.all false
set_option maxRecDepth 100000
set_option maxHeartbeats 400000
namespace T
open PySem hiding Flow Arg
open Se Wk Ev Nm
local macro_rules | `(tactic| walk_at "lv") => `(tactic| (repeat' (first | exact Lv.mono (by assumption) (Nat.le_of_ble_eq_true rfl) | exact Lv.mono (Bd.lv (by assumption) (Nat.le_of_ble_eq_true rfl)) (Nat.le_of_ble_eq_true rfl) | apply Lv.mul | apply Lv.add | apply Lv.sub | apply Lv.neg)))
local macro_rules | `(tactic| walk_at "w") => `(tactic| first
  | ((with_reducible apply exI); first | assumption | exact rfl)
  | ((with_reducible apply Op.head); assumption) | ((with_reducible apply Op.of (o := gIx _ _)); exact rfl) | ((with_reducible refine And.intro (And.intro ?_ ?_) ?_); (focus walk_at "lv"); (focus walk_at "lv"))
  | ((with_reducible apply Op.of (o := gLen _)); exact rfl) | ((with_reducible apply Op.of (o := gAll _)); exact rfl) | ((with_reducible apply Op.of (o := gAny _)); exact rfl) | ((with_reducible apply Op.of (o := gSum _)); exact rfl) | ((with_reducible apply Op.of (o := gTuple _)); exact rfl) | ((with_reducible apply Op.of (o := gAbs _)); exact rfl) | ((with_reducible apply Op.of (o := gInt _)); exact rfl) | ((with_reducible apply Op.of (o := gCut _ _ _)); exact rfl)
  | ((with_reducible first | apply W.nz2 | apply W.nz3 | apply W.nz4 | apply W.nz6 | apply W.nz9); exact Nat.le_of_ble_eq_true rfl)
  | (with_reducible first | apply W.stepC | apply W.stepN | apply W.stepMC | apply W.stepMN | apply W.forC | apply W.forN)
  | ((with_reducible refine And.intro ?_ ?_); first | exact Nat.le_of_ble_eq_true rfl | exact rfl) | (with_reducible refine Bo.t ?_) | (with_reducible refine Bo.f ?_) | (with_reducible refine Bo.d (fun _ => ?_) (fun h => absurd (by assumption) h)) | (with_reducible refine Bo.d (fun h => absurd h (by assumption)) (fun _ => ?_)) | (with_reducible refine Bo.nd (fun _ => ?_) (fun h => absurd h (by assumption))) | (with_reducible refine Bo.nd (fun h => absurd (by assumption) h) (fun _ => ?_)) | ((with_reducible apply Op.divE); assumption; assumption; assumption) | (refine Bo.t ?_) | (refine Bo.f ?_))
local macro_rules | `(tactic| walk_at "e") => `(tactic| repeat (first | (with_reducible apply W.setN) | (with_reducible refine St.ok ?_) | (with_reducible refine OS.ok ?_) | walk_at "w"))
local macro_rules | `(tactic| walk_at "i") => `(tactic| ((with_reducible apply W.iteI); (exact rfl); (exact rfl); exact rfl))
local macro_rules | `(tactic| walk_at "t") => `(tactic| repeat (first | (with_reducible apply W.setN) | (with_reducible refine St.ok ?_) | (with_reducible refine OS.ok ?_) | (with_reducible apply W.ite) | walk_at "w"))
/-! leads -/
theorem tp_b9 {p : P3} (h : Tp p) : Bd 1000000000 p.1 ∧ Bd 1000000000 p.2.1 ∧ Bd 1000000000 p.2.2 := ⟨h.x.mono (by decide), h.y.mono (by decide), h.z.mono (by decide)⟩
theorem s_is_small {n : Nat} {p : P3} {cs : Cs} {Q : PyData → Cs → Prop} (h : Tp p) (q : Q (.bool true) cs) : W (runFn (n + 4) 35 [.dat (T3 p)]) cs Q := by
  obtain ⟨a, b, c⟩ := p
  have hx := h.x
  have hy := h.y
  have hz := h.z
  obtain ⟨b1, b2, b3⟩ := tp_b9 h
  simp only at hx hy hz b1 b2 b3
  have t : ∀ {x : Int}, Bd 100 x → (if x < 0 then -x else x) ≤ 100 := fun g => by have := g.le; split <;> omega
  have t1 := t hx
  have t2 := t hy
  have t3 := t hz
  rw [rr35]
  refine W.run' rfl ?_
  walk_at "e"
  refine s_is_triple h.n b1 b2 b3 ?_
  walk_at "e"
  show Q (.bool ([decide ((if a < 0 then -a else a) ≤ 100), decide ((if b < 0 then -b else b) ≤ 100), decide ((if c < 0 then -c else c) ≤ 100)].all id)) cs
  rw [decide_eq_true t1, decide_eq_true t2, decide_eq_true t3]
  exact q
theorem s_dt {n : Nat} {p r : P3} {cs : Cs} {Q : PyData → Cs → Prop} (h : B3 1000 p) (g : B3 1000 r) (q : Q (.int (dt3 p r)) cs) : W (runFn (n + 1) 33 [.dat (T3 p), .dat (T3 r)]) cs Q :=
  s_dot (h.x.lv (by decide)) (h.y.lv (by decide)) (h.z.lv (by decide)) (g.x.lv (by decide)) (g.y.lv (by decide)) (g.z.lv (by decide)) q
theorem s_cr {n e f : Nat} {p r : P3} {cs : Cs} {Q : PyData → Cs → Prop} (h : B3 e p) (g : B3 f r) (he : e ≤ 4096) (hf : f ≤ 4096) (q : Q (T3 (cr3 p r)) cs) : W (runFn (n + 1) 34 [.dat (T3 p), .dat (T3 r)]) cs Q :=
  have l : ∀ {e : Nat} {x : Int}, e ≤ 4096 → BE e x → Lv 16 x := fun k h => (h.lv (k := 12) (by exact k)).mono (by decide)
  s_cross (l he h.x) (l he h.y) (l he h.z) (l hf g.x) (l hf g.y) (l hf g.z) q
def enS : Nat → List Sg → List PyData
  | _, [] => []
  | i, x :: r => .tuple [.int (i : Nat), T3 x.2] :: enS (i + 1) r
theorem enum_sg : ∀ (L : List Sg) (i : Nat), enumD i (cenD L) = enS i L
  | [], _ => rfl
  | x :: L, i => by
    show .tuple [_, _] :: enumD (i + 1) (cenD L) = _
    rw [enum_sg L]
    rfl
theorem fits_steps {n : Nat} {ls : List P3} {cs : Cs} {s0 s1 s3 : Slot} : ∀ (L : List Sg) (b : P3) (i : Nat) {S : List PyData → Cs → Prop}, (∀ j, ls[i + j]? = (b :: L.map fun x => x.1)[j]?) → B3 7 b → (∀ x ∈ L, B3 7 x.1 ∧ B3 7 x.2) → S ((gB b L).map .bool) cs →
    W (stepL (lcTurn (runFn (n + 1)) [s0, s1, .sh (.tuple (ls.map T3)), s3, .no, .no] (gTp (gCs (gNm 4) (gCs (gNm 5) gNl))) (mLit (.bool true)) (mAnd (mBin gNe (mCall 33 (mCons (aDat (mVar 5)) (mCons (aDat (mBin gIx (mPk 2) (mPk 4))) mNil))) (mLit (.int 0))) (mBin gNe (mCall 33 (mCons (aDat (mVar 5)) (mCons (aDat (mBin gIx (mPk 2) (mBin gAdd (mPk 4) (mLit (.int 1))))) mNil))) (mLit (.int 0))))) (enS i L)) cs S
  | [], _, _, S, _, _, _, q => W.stepN q
  | x :: L, b, i, S, h, hb, ha, q => by
    have h0 : gIx (.tuple (ls.map T3)) (.int (i : Nat)) = some (T3 b) := by
      have := h 0
      simp only [Nat.add_zero, List.getElem?_cons_zero] at this
      have hlt : i < ls.length := (List.getElem?_eq_some_iff.mp this).1
      show L2.atI (ls.map T3) i = _
      unfold L2.atI L2.ixN
      rw [if_pos (by omega), if_pos (by rw [List.length_map]; omega)]
      simp [this]
    have h1 : gIx (.tuple (ls.map T3)) (.int ((i : Int) + 1)) = some (T3 x.1) := by
      have := h 1
      simp only [List.map_cons, List.getElem?_cons_succ, List.getElem?_cons_zero] at this
      have hlt : i + 1 < ls.length := (List.getElem?_eq_some_iff.mp this).1
      show L2.atI (ls.map T3) ((i : Int) + 1) = _
      unfold L2.atI L2.ixN
      rw [if_pos (by omega), if_pos (by rw [List.length_map]; omega)]
      have e : ((i : Int) + 1).toNat = i + 1 := by omega
      simp [e, this]
    have hx := ha x List.mem_cons_self
    have fin : ∀ k : Bool, k = (!decide (dt3 x.2 b = 0) && !decide (dt3 x.2 x.1 = 0)) → W (stepL (lcTurn (runFn (n + 1)) [s0, s1, .sh (.tuple (ls.map T3)), s3, .no, .no] (gTp (gCs (gNm 4) (gCs (gNm 5) gNl))) (mLit (.bool true)) (mAnd (mBin gNe (mCall 33 (mCons (aDat (mVar 5)) (mCons (aDat (mBin gIx (mPk 2) (mPk 4))) mNil))) (mLit (.int 0))) (mBin gNe (mCall 33 (mCons (aDat (mVar 5)) (mCons (aDat (mBin gIx (mPk 2) (mBin gAdd (mPk 4) (mLit (.int 1))))) mNil))) (mLit (.int 0))))) (enS (i + 1) L)) cs fun r c => S (.bool k :: r) c := fun k hk => by
      subst hk
      exact fits_steps L x.1 (i + 1) (fun j => by rw [Nat.add_assoc, Nat.add_comm 1 j]; exact h (j + 1)) hx.1 (fun y hy => ha y (List.mem_cons_of_mem _ hy)) q
    show W (stepL _ (.tuple [.int (i : Nat), T3 x.2] :: enS (i + 1) L)) cs S
    by_cases g1 : dt3 x.2 b = 0
    · walk_at "e"
      refine Op.of h0 ?_
      walk_at "e"
      refine s_dt (hx.2.mono (by decide)) (hb.mono (by decide)) ?_
      walk_at "e"
      exact fin false (by simp [g1])
    · walk_at "e"
      refine Op.of h0 ?_
      walk_at "e"
      refine s_dt (hx.2.mono (by decide)) (hb.mono (by decide)) ?_
      walk_at "e"
      refine Op.of h1 ?_
      walk_at "e"
      refine s_dt (hx.2.mono (by decide)) (hx.1.mono (by decide)) ?_
      walk_at "e"
      exact fin _ (by simp [g1])
theorem lin_len (b : P3) (L : List Sg) : (linD b L).length = L.length + 1 := by simp [linD]
theorem cen_len (L : List Sg) : (cenD L).length = L.length := by simp [cenD]
theorem line_big {k : Nat} (h : k ≤ 1000) : k ≤ line := by unfold line; omega
theorem s_fits {n : Nat} {b : P3} {L : List Sg} {cs : Cs} {Q : PyData → Cs → Prop} (h : Lt b L) (q : Q (.bool ((gB b L).all id)) cs) : W (runFn (n + 5) 36 [.dat (ldD b L)]) cs Q := by
  have hl := h.l8
  have hl0 := h.l0
  have ll := lin_len b L
  have lc := cen_len L
  rw [rr36]
  unfold ldD
  refine W.run' rfl ?_
  walk_at "e"
  refine s_is_tuple_of (m := 2) rfl (by decide) ?_
  walk_at "e"
  refine s_is_tuple_of (m := L.length + 1) ll (by omega) ?_
  walk_at "e"
  rw [ll, show ((L.length + 1 : Nat) : Int) - 1 = (L.length : Nat) by omega]
  refine s_is_tuple_of (m := L.length) lc (by omega) ?_
  walk_at "e"
  have ha : gAdd (.tuple (linD b L)) (.tuple (cenD L)) = some (.tuple (((b :: L.map fun x => x.1) ++ L.map fun x => x.2).map T3)) := by
    show (if (linD b L).length + (cenD L).length ≤ line then some (PyData.tuple (linD b L ++ cenD L)) else none) = _
    rw [if_pos (line_big (by omega)), List.map_append]
    rfl
  refine Op.of ha ?_
  walk_at "e"
  refine And.intro (line_big (by simp; omega)) ?_
  refine lcM _ (fun _ => .bool true) T3 (fun x hx => ?_) ?_
  · have tx : Tp x := by
      rcases List.mem_append.mp hx with hx | hx
      · rcases List.mem_cons.mp hx with rfl | hx
        · exact h.b
        · obtain ⟨y, hy, rfl⟩ := List.mem_map.mp hx
          exact (h.a y hy).1
      · obtain ⟨y, hy, rfl⟩ := List.mem_map.mp hx
        exact (h.a y hy).2
    walk_at "e"
    refine s_is_small tx ?_
    walk_at "e"
    trivial
  · have hT : ∀ M : List P3, gAll [.list (M.map fun _ => PyData.bool true)] = some (.bool true) := fun M => by
      have := gAll_map (bs := M.map fun _ => true)
      rw [List.map_map] at this
      rw [show (M.map fun _ => PyData.bool true) = M.map (PyData.bool ∘ fun _ => true) from rfl, this]
      simp
    walk_at "e"
    refine Op.of (hT _) ?_
    walk_at "e"
    rw [enum_sg]
    refine And.intro (line_big (by rw [← enum_sg, enumD_len, lc]; omega)) ?_
    refine fits_steps L b 0 (fun j => by rw [Nat.zero_add]) h.b.be h.be ?_
    walk_at "e"
    refine Op.of gAll_map ?_
    exact q
/-- a good lead -/
structure Lk (b : P3) (L : List Sg) : Prop where
  t : Lt b L
  ok : okL b L
theorem s_need_lead {n : Nat} {b : P3} {L : List Sg} {cs : Cs} {Q : PyData → Cs → Prop} (h : Lk b L) (q : Q .none cs) : W (runFn (n + 6) 37 [.dat (ldD b L)]) cs Q := by
  rw [rr37]
  refine W.run' rfl ?_
  walk_at "e"
  refine s_fits h.t ?_
  rw [(gB_ok L b).mpr h.ok]
  walk_at "e"
  exact q
theorem s_is_lead {n : Nat} {b : P3} {L : List Sg} {cs : Cs} {Q : PyData → Cs → Prop} (h : Lt b L) (q : Q (.bool ((gB b L).all id)) cs) : W (runFn (n + 6) 45 [.dat (ldD b L)]) cs Q := by
  rw [rr45]
  refine W.run' rfl ?_
  walk_at "e"
  exact s_fits h q

end T
end
section
set_option Elab.async false
set_option linter.all false
set_option maxRecDepth 100000
set_option maxHeartbeats 400000
namespace T
open PySem hiding Flow Arg
open Se Wk Ev Nm
local macro_rules | `(tactic| walk_at "lv") => `(tactic| (repeat' (first | exact Lv.mono (by assumption) (Nat.le_of_ble_eq_true rfl) | exact Lv.mono (Bd.lv (by assumption) (Nat.le_of_ble_eq_true rfl)) (Nat.le_of_ble_eq_true rfl) | apply Lv.mul | apply Lv.add | apply Lv.sub | apply Lv.neg)))
local macro_rules | `(tactic| walk_at "w") => `(tactic| first
  | ((with_reducible apply exI); first | assumption | exact rfl)
  | ((with_reducible apply Op.head); assumption) | ((with_reducible apply Op.of (o := gIx _ _)); exact rfl) | ((with_reducible refine And.intro (And.intro ?_ ?_) ?_); (focus walk_at "lv"); (focus walk_at "lv"))
  | ((with_reducible apply Op.of (o := gLen _)); exact rfl) | ((with_reducible apply Op.of (o := gAll _)); exact rfl) | ((with_reducible apply Op.of (o := gAny _)); exact rfl) | ((with_reducible apply Op.of (o := gSum _)); exact rfl) | ((with_reducible apply Op.of (o := gTuple _)); exact rfl) | ((with_reducible apply Op.of (o := gAbs _)); exact rfl) | ((with_reducible apply Op.of (o := gInt _)); exact rfl) | ((with_reducible apply Op.of (o := gCut _ _ _)); exact rfl)
  | ((with_reducible first | apply W.nz2 | apply W.nz3 | apply W.nz4 | apply W.nz6 | apply W.nz9); exact Nat.le_of_ble_eq_true rfl)
  | (with_reducible first | apply W.stepTr | apply W.stepC | apply W.stepN | apply W.stepMC | apply W.stepMN | apply W.forC | apply W.forN)
  | ((with_reducible refine And.intro ?_ ?_); first | exact Nat.le_of_ble_eq_true rfl | exact rfl) | (with_reducible refine Bo.t ?_) | (with_reducible refine Bo.f ?_) | (with_reducible refine Bo.d (fun _ => ?_) (fun h => absurd (by assumption) h)) | (with_reducible refine Bo.d (fun h => absurd h (by assumption)) (fun _ => ?_)) | (with_reducible refine Bo.nd (fun _ => ?_) (fun h => absurd h (by assumption))) | (with_reducible refine Bo.nd (fun h => absurd (by assumption) h) (fun _ => ?_)) | ((with_reducible apply Op.divE); assumption; assumption; assumption) | (refine Bo.t ?_) | (refine Bo.f ?_))
local macro_rules | `(tactic| walk_at "e") => `(tactic| repeat (first | (with_reducible apply W.setN) | (with_reducible refine St.ok ?_) | (with_reducible refine OS.ok ?_) | walk_at "w"))
local macro_rules | `(tactic| walk_at "i") => `(tactic| ((with_reducible apply W.iteI); (exact rfl); (exact rfl); exact rfl))
local macro_rules | `(tactic| walk_at "t") => `(tactic| repeat (first | (with_reducible apply W.setN) | (with_reducible refine St.ok ?_) | (with_reducible refine OS.ok ?_) | (with_reducible apply W.ite) | walk_at "w"))
theorem cut_lin (b : P3) (L : List Sg) : cutD (linD b L) (some 1) none = (L.map fun x => x.1).map T3 := by
  have h := cut1 (T3 b) ((L.map fun x => x.1).map T3)
  have h2 : gCut (.tuple (linD b L)) (some 1) none = some (.tuple (cutD (linD b L) (some 1) none)) := rfl
  have h3 : some (PyData.tuple (cutD (linD b L) (some 1) none)) = some (PyData.tuple ((L.map fun x => x.1).map T3)) := h2.symm.trans h
  injection h3 with h3
  injection h3
def LdI (L : List Sg) (p : P3) (s0 : Slot) (cs : Cs) (ds : List PyData) (e : Ev) (c : Cs) : Prop := c = cs ∧ ∃ (L' : List Sg) (p' : P3) (k : Nat) (s2 s3 : Slot), ds = (L'.map fun x => PyData.tuple [T3 x.1, T3 x.2]) ∧ e = [s0, .sh (T3 p'), s2, s3] ∧ ledL L' p' = ledL L p ∧ B3 k p' ∧ k + 16 * L'.length ≤ 4096 ∧ ∀ x ∈ L', B3 7 x.1 ∧ B3 7 x.2
theorem s_led {n e : Nat} {b p : P3} {L : List Sg} {cs : Cs} {Q : PyData → Cs → Prop} (h : Lt b L) (hp : B3 e p) (he : e ≤ 3968) (q : Q (T3 (ledL L p)) cs) : W (runFn (n + 2) 39 [.dat (ldD b L), .dat (T3 p)]) cs Q := by
  have hl := h.l8
  have hbe := h.be
  rw [rr39]
  unfold ldD
  refine W.run' rfl ?_
  walk_at "e"
  rw [cut_lin]
  unfold cenD
  rw [zip_sg]
  refine W.forI (LdI L p (.sh (.tuple [.tuple (linD b L), .tuple (cenD L)])) cs) ⟨rfl, L, p, e, _, _, rfl, rfl, rfl, hp, by omega, hbe⟩ ?_ ?_
  · rintro d ds ev c ⟨rfl, L', p', k, s2, s3, h1, rfl, h3, h4, h5, h6⟩
    cases L' with
    | nil => cases h1
    | cons x L' =>
      rw [List.map_cons] at h1
      injection h1 with h1 h2
      subst h1 h2
      rw [List.length_cons] at h5
      have hx := h6 x List.mem_cons_self
      walk_at "e"
      refine s_cr h4 hx.2 (by omega) (by decide) ?_
      walk_at "e"
      refine s_cr (cr_be h4 hx.2) hx.1 (by omega) (by decide) ?_
      walk_at "e"
      exact ⟨rfl, L', stp p' x, k + 16, _, _, rfl, rfl, h3, stp_be h4 hx, by omega, fun y hy => h6 y (List.mem_cons_of_mem _ hy)⟩
  · rintro ev c ⟨rfl, L', p', k, s2, s3, h1, rfl, h3, h4, h5, h6⟩
    cases L' with
    | cons x L' => cases h1
    | nil =>
      walk_at "e"
      rw [show p' = ledL L p from h3]
      exact q
theorem s_base_of {n : Nat} {cs : Cs} {Q : PyData → Cs → Prop} (q : Q (.tuple [t3 0 0 1, t3 1 0 0]) cs) : W (runFn (n + 3) 40 [.dat (t3 0 1 0)]) cs Q :=
  W.eq (show runFn (n + 3) 40 [.dat (t3 0 1 0)] cs = some (.tuple [t3 0 0 1, t3 1 0 0], cs) by kernel_rfl) q
/-- a closed lead of the base, its table told -/
structure Lc (L : List Sg) (a b c d : Int) : Prop where
  k : Lk B0 L
  l : lst B0 L = B0
  m : Mx L a b c d
theorem Lc.det {L : List Sg} {a b c d : Int} (h : Lc L a b c d) : a * d - b * c ≠ 0 := (mx_rev h.k.ok h.l h.m).1
theorem be1 (x : Int) (h : -1 ≤ x ∧ x ≤ 1) : BE 1 x := by unfold BE; omega
theorem Lc.be {L : List Sg} {a b c d : Int} (h : Lc L a b c d) : BE 129 a ∧ BE 129 b ∧ BE 129 c ∧ BE 129 d := by
  have h1 := led_be L (e := 1) (p := (1, 0, 0)) h.k.t.be ⟨be1 _ (by decide), be1 _ (by decide), be1 _ (by decide)⟩
  have h3 := led_be L (e := 1) (p := (0, 0, 1)) h.k.t.be ⟨be1 _ (by decide), be1 _ (by decide), be1 _ (by decide)⟩
  rw [h.m.e1] at h1
  rw [h.m.e3] at h3
  have := h.k.t.l8
  exact ⟨h1.x.mono (by omega), h3.x.mono (by omega), h1.z.mono (by omega), h3.z.mono (by omega)⟩
theorem s_led1 {n : Nat} {L : List Sg} {a b c d : Int} {cs : Cs} {Q : PyData → Cs → Prop} (h : Lc L a b c d) {x z : Int} {e : Nat} (hx : BE e x) (hz : BE e z) (he : e ≤ 3968) (q : Q (t3 (a * x + b * z) 0 (c * x + d * z)) cs) : W (runFn (n + 2) 39 [.dat (ldD B0 L), .dat (t3 x 0 z)]) cs Q := by
  refine s_led (p := (x, 0, z)) h.k.t ⟨hx, Nat.two_pow_pos e, hz⟩ he ?_
  rw [h.m.at_]
  exact q
theorem lst_last : ∀ (L : List Sg) (b : P3), (b :: L.map fun x => x.1)[L.length]? = some (lst b L)
  | [], _ => rfl
  | x :: L, b => by
    rw [List.length_cons, List.getElem?_cons_succ]
    exact lst_last L x.1
theorem lst_ix {L : List Sg} {b : P3} (h : lst b L = B0) : gIx (.tuple (linD b L)) (.int (-1)) = some (t3 0 1 0) := by
  have e := lst_last L b
  rw [h] at e
  show L2.atI (linD b L) (-1) = _
  unfold L2.atI L2.ixN
  rw [if_neg (by decide), if_pos (by rw [lin_len]; omega)]
  have e2 : ((-1 : Int) + ((linD b L).length : Nat)).toNat = L.length := by rw [lin_len]; omega
  show (linD b L)[((-1 : Int) + ((linD b L).length : Nat)).toNat]? = _
  rw [e2]
  unfold linD
  rw [List.getElem?_map, e]
  rfl
theorem lin_ix0 (b : P3) (L : List Sg) : gIx (.tuple (linD b L)) (.int 0) = some (T3 b) := by
  show L2.atI (linD b L) 0 = _
  unfold L2.atI L2.ixN
  rw [if_pos (by decide), if_pos (by rw [lin_len]; omega)]
  rfl
theorem s_is_closed {n : Nat} {L : List Sg} {a b c d : Int} {cs : Cs} {Q : PyData → Cs → Prop} (h : Lc L a b c d) (q : Q (.bool true) cs) : W (runFn (n + 7) 46 [.dat (ldD B0 L)]) cs Q := by
  rw [rr46]
  refine W.run' rfl ?_
  walk_at "e"
  refine s_need_lead h.k ?_
  unfold ldD
  walk_at "e"
  refine Op.of (lin_ix0 B0 L) ?_
  walk_at "e"
  refine Op.of (lst_ix h.l) ?_
  walk_at "e"
  exact Op.eqT rfl rfl q
theorem s_need_closed {n : Nat} {L : List Sg} {a b c d : Int} {cs : Cs} {Q : PyData → Cs → Prop} (h : Lc L a b c d) (q : Q .none cs) : W (runFn (n + 7) 38 [.dat (ldD B0 L)]) cs Q := by
  rw [rr38]
  refine W.run' rfl ?_
  walk_at "e"
  refine s_need_lead h.k ?_
  unfold ldD
  walk_at "e"
  refine Op.of (lin_ix0 B0 L) ?_
  walk_at "e"
  refine Op.of (lst_ix h.l) ?_
  walk_at "e"
  refine Op.of (z := .bool false) (by rfl) ?_
  walk_at "e"
  exact q
/-- the point of a place -/
theorem s_point {n : Nat} {x y : Int} {cs : Cs} {Q : PyData → Cs → Prop} (hp : x ≠ 0 ∨ y ≠ 0) (l1 : Lv 12 x) (l2 : Lv 12 y) (q : ∀ X Z k, k ≠ 0 → x = k * X → y = k * Z → Nrm [X, 0, Z] → Q (t3 X 0 Z) cs) : W (runFn (n + 3) 71 [.dat (t2 x y)]) cs Q := by
  rw [rr71]
  refine W.run' rfl ?_
  walk_at "e"
  refine s_short3 (by rw [NZ3]; rcases hp with h | h; exact .inl h; exact .inr (.inr h)) (fun z hz => ?_) fun A B C k hk e1 e2 e3 hn => ?_
  · simp only [List.mem_cons, List.not_mem_nil, or_false] at hz
    rcases hz with rfl | rfl | rfl
    · exact l1
    · exact (Bd.lv (n := 0) (show (0 : Int).natAbs ≤ 0 from by decide) (by decide)).mono (by decide)
    · exact l2
  · have hB : B = 0 := (Int.mul_eq_zero.mp e2.symm).resolve_left hk
    subst hB
    exact q A C k hk e1 e3 hn
theorem s_place_of {n : Nat} {x z : Int} {y : Int} {cs : Cs} {Q : PyData → Cs → Prop} (hp : x ≠ 0 ∨ z ≠ 0) (l1 : Lv 12 x) (l2 : Lv 12 z) (q : ∀ A B k, k ≠ 0 → x = k * A → z = k * B → Pl A B → Q (t2 A B) cs) : W (runFn (n + 4) 72 [.dat (t3 x y z)]) cs Q := by
  rw [rr72]
  refine W.run' rfl ?_
  walk_at "e"
  exact s_at hp l1 l2 q
theorem nrm_ne {x z : Int} (h : Nrm [x, 0, z]) : x ≠ 0 ∨ z ≠ 0 := by
  have := nrm_nz3 h
  omega
theorem s_led_by {n : Nat} {L : List Sg} {a b c d : Int} {cs : Cs} {Q : PyData → Cs → Prop} (h : Lc L a b c d) {x z : Int} (hn : Nrm [x, 0, z]) (hx : Bd 1000000000 x) (hz : Bd 1000000000 z)
    (q : ∀ X Z k, k ≠ 0 → a * x + b * z = k * X → c * x + d * z = k * Z → Nrm [X, 0, Z] → BE 158 X → BE 158 Z → Q (t3 X 0 Z) cs) : W (runFn (n + 7) 47 [.dat (ldD B0 L), .dat (t3 x 0 z)]) cs Q := by
  have hl := h.k.t.l8
  have b1 : B3 30 (x, 0, z) := ⟨.of_bd hx (by decide), Nat.two_pow_pos _, .of_bd hz (by decide)⟩
  have b2 := led_be L h.k.t.be b1
  rw [h.m.at_] at b2
  have b3 : BE 158 (a * x + b * z) := b2.x.mono (by omega)
  have b4 : BE 158 (c * x + d * z) := b2.z.mono (by omega)
  rw [rr47]
  refine W.run' rfl ?_
  walk_at "e"
  refine s_need_lead h.k ?_
  walk_at "e"
  refine s_need_triple hn hx (Nat.zero_le _) hz ?_
  unfold ldD
  walk_at "e"
  refine Op.of (lin_ix0 B0 L) ?_
  walk_at "e"
  refine s_dt (p := (x, 0, z)) (r := B0) (b1.mono (by decide)) (h.k.t.b.be.mono (by decide)) ?_
  have e0 : dt3 (x, 0, z) B0 = 0 := by unfold dt3; simp
  rw [e0]
  walk_at "e"
  refine s_led1 h b1.x b1.z (by decide) ?_
  walk_at "e"
  refine s_plainly (by rw [NZ3]; rcases im_nz h.det (nrm_ne hn) with g | g; exact .inl g; exact .inr (.inr g)) (b3.lv (by decide)) (BE.lv (e := 1) (be1 0 (by decide)) (by decide)) (b4.lv (by decide)) fun A B C k hk e1 e2 e3 hn' => ?_
  have hB : B = 0 := (Int.mul_eq_zero.mp e2.symm).resolve_left hk
  subst hB
  exact q A C k hk e1 e3 hn' (b3.of_mul hk e1) (b4.of_mul hk e3)
/-- whether a place is small -/
theorem s_is_number {n : Nat} {i : Int} {m : Nat} {lo : Int} {cs : Cs} {Q : PyData → Cs → Prop} (hlo : lo = -(m : Int) ∨ (lo = 0 ∧ 0 ≤ i)) (q1 : Bd m i → Q (.bool true) cs) (q0 : Q (.bool false) cs) : W (runFn (n + 2) 64 [.dat (.int i), .dat (.int lo), .dat (.int (m : Int))]) cs Q := by
  rw [rr64]
  refine W.run' rfl ?_
  walk_at "e"
  refine s_sort ?_
  walk_at "e"
  refine Bo.d (fun h => ?_) (fun h => ?_)
  · walk_at "e"
    by_cases g : i ≤ (m : Int)
    · rw [decide_eq_true g]
      exact q1 (bd_of (by omega) g)
    · rw [decide_eq_false g]
      exact q0
  · exact q0
theorem s_is_place {n : Nat} {p r : Int} {m : Nat} {cs : Cs} {Q : PyData → Cs → Prop} (hp : Pl p r) (lr : Lv 12 r) (hm : m ≤ 1000) (q1 : Bd m p → Bd m r → Q (.bool true) cs) (q0 : Q (.bool false) cs) : W (runFn (n + 3) 69 [.dat (t2 p r), .dat (.int (m : Int))]) cs Q := by
  obtain ⟨g1, g2⟩ := hp.cases
  have hr : 0 ≤ r := by omega
  rw [rr69]
  refine W.run' rfl ?_
  walk_at "e"
  refine s_is_number (.inl rfl) (fun hb => ?_) ?_
  · walk_at "e"
    refine s_is_number (.inr ⟨rfl, hr⟩) (fun hb2 => ?_) ?_
    · walk_at "e"
      refine Op.eq2 ?_
      rcases g2 with g2 | ⟨rfl, rfl⟩
      · refine Bo.d (fun _ => q1 hb hb2) (fun _ => ?_)
        walk_at "e"
        refine s_gcd lr ?_
        walk_at "e"
        rw [g1]
        exact q1 hb hb2
      · walk_at "e"
        exact q1 hb hb2
    · walk_at "e"
      exact q0
  · walk_at "e"
    exact q0

end T
end
section
set_option Elab.async false
set_option linter.all false
set_option maxRecDepth 100000
set_option maxHeartbeats 400000
namespace T
open PySem hiding Flow Arg
open Se Wk Ev Nm
local macro_rules | `(tactic| walk_at "lv") => `(tactic| (repeat' (first | exact Lv.mono (by assumption) (Nat.le_of_ble_eq_true rfl) | exact Lv.mono (Bd.lv (by assumption) (Nat.le_of_ble_eq_true rfl)) (Nat.le_of_ble_eq_true rfl) | apply Lv.mul | apply Lv.add | apply Lv.sub | apply Lv.neg)))
local macro_rules | `(tactic| walk_at "w") => `(tactic| first
  | ((with_reducible apply exI); first | assumption | exact rfl)
  | ((with_reducible apply Op.head); assumption) | ((with_reducible apply Op.of (o := gIx _ _)); exact rfl) | ((with_reducible refine And.intro (And.intro ?_ ?_) ?_); (focus walk_at "lv"); (focus walk_at "lv"))
  | ((with_reducible apply Op.of (o := gLen _)); exact rfl) | ((with_reducible apply Op.of (o := gAll _)); exact rfl) | ((with_reducible apply Op.of (o := gAny _)); exact rfl) | ((with_reducible apply Op.of (o := gSum _)); exact rfl) | ((with_reducible apply Op.of (o := gTuple _)); exact rfl) | ((with_reducible apply Op.of (o := gAbs _)); exact rfl) | ((with_reducible apply Op.of (o := gInt _)); exact rfl) | ((with_reducible apply Op.of (o := gCut _ _ _)); exact rfl)
  | ((with_reducible first | apply W.nz2 | apply W.nz3 | apply W.nz4 | apply W.nz6 | apply W.nz9); exact Nat.le_of_ble_eq_true rfl)
  | (with_reducible first | apply W.stepTr | apply W.stepC | apply W.stepN | apply W.stepMC | apply W.stepMN | apply W.forC | apply W.forN)
  | ((with_reducible refine And.intro ?_ ?_); first | exact Nat.le_of_ble_eq_true rfl | exact rfl) | (with_reducible refine Bo.t ?_) | (with_reducible refine Bo.f ?_) | (with_reducible refine Bo.d (fun _ => ?_) (fun h => absurd (by assumption) h)) | (with_reducible refine Bo.d (fun h => absurd h (by assumption)) (fun _ => ?_)) | (with_reducible refine Bo.nd (fun _ => ?_) (fun h => absurd h (by assumption))) | (with_reducible refine Bo.nd (fun h => absurd (by assumption) h) (fun _ => ?_)) | ((with_reducible apply Op.divE); assumption; assumption; assumption) | (refine Bo.t ?_) | (refine Bo.f ?_))
local macro_rules | `(tactic| walk_at "e") => `(tactic| repeat (first | (with_reducible apply W.setN) | (with_reducible refine St.ok ?_) | (with_reducible refine OS.ok ?_) | walk_at "w"))
local macro_rules | `(tactic| walk_at "i") => `(tactic| ((with_reducible apply W.iteI); (exact rfl); (exact rfl); exact rfl))
local macro_rules | `(tactic| walk_at "t") => `(tactic| repeat (first | (with_reducible apply W.setN) | (with_reducible refine St.ok ?_) | (with_reducible refine OS.ok ?_) | (with_reducible apply W.ite) | walk_at "w"))
local macro_rules | `(tactic| walk_at "p") => `(tactic| repeat (first | (with_reducible apply W.setN) | ((fail_if_success (with_reducible apply stopSt)); (fail_if_success (with_reducible apply stopMt)); (fail_if_success (with_reducible apply stopFo)); first | (with_reducible refine St.ok ?_) | (with_reducible refine OS.ok ?_) | walk_at "w")))
theorem s_is_whole2 {n : Nat} {i lo hi : Int} {cs : Cs} {Q : PyData → Cs → Prop} (q : Q (.bool (decide (lo ≤ i ∧ i ≤ hi))) cs) : W (runFn (n + 1) 0 [.dat (.int i), .dat (.int lo), .dat (.int hi)]) cs Q := by
  rw [rr0]
  refine W.run' rfl ?_
  walk_at "e"
  refine Bo.d (fun h => ?_) (fun h => ?_)
  · walk_at "e"
    have e : decide (i ≤ hi) = decide (lo ≤ i ∧ i ≤ hi) := by simp [h]
    rw [e]
    exact q
  · have e : decide (lo ≤ i ∧ i ≤ hi) = false := by simp [h]
    rw [e] at q
    exact q
theorem s_is_swing {n : Nat} {a b c d : Int} {cs : Cs} {Q : PyData → Cs → Prop} (hn : Nrm [a, b, c, d]) (hd : a * d - b * c ≠ 0) (la : Lv 12 a) (lb : Lv 12 b) (lc : Lv 12 c) (ld : Lv 12 d) (q1 : Sw 10000 a b c d → Q (.bool true) cs) (q0 : Q (.bool false) cs) : W (runFn (n + 3) 19 [.dat (t4 a b c d)]) cs Q := by
  rw [rr19]
  refine W.run' rfl ?_
  walk_at "e"
  by_cases h : ((-10000 ≤ a ∧ a ≤ 10000) ∧ (-10000 ≤ b ∧ b ≤ 10000)) ∧ ((-10000 ≤ c ∧ c ≤ 10000) ∧ (-10000 ≤ d ∧ d ≤ 10000))
  · have sw : Sw 10000 a b c d := ⟨hn, hd, bd_of h.1.1.1 h.1.1.2, bd_of h.1.2.1 h.1.2.2, bd_of h.2.1.1 h.2.1.2, bd_of h.2.2.1 h.2.2.2⟩
    exact s_fits_swing sw (by decide) (by decide) (q1 sw)
  · rw [rr9]
    refine W.run' rfl ?_
    walk_at "e"
    refine s_is_tuple_of (m := 4) rfl (by decide) ?_
    walk_at "e"
    refine s_is_whole2 ?_
    walk_at "e"
    refine s_is_whole2 ?_
    walk_at "e"
    refine s_is_whole2 ?_
    walk_at "e"
    refine s_is_whole2 ?_
    walk_at "e"
    have e : ([decide (-10000 ≤ a ∧ a ≤ 10000), decide (-10000 ≤ b ∧ b ≤ 10000), decide (-10000 ≤ c ∧ c ≤ 10000), decide (-10000 ≤ d ∧ d ≤ 10000)].all id) = false := by
      rw [Bool.eq_false_iff]
      intro g
      apply h
      simpa [Bool.and_eq_true, and_assoc] using g
    rw [e]
    walk_at "e"
    exact q0
/-! a comprehension that keeps what fails a test -/
theorem lcP {cs : Cs} {α : Type} (f : PyData → M (Option PyData)) (h : α → PyData) (P : α → Prop) : ∀ {L : List α} {S : List PyData → Cs → Prop}, (∀ x ∈ L, W (f (h x)) cs fun o c => c = cs ∧ (o = none ∧ P x ∨ o = some (h x))) → ((∀ x ∈ L, P x) → S [] cs) → (∀ (y : α) (ys : List α), ys.length < L.length → S (h y :: ys.map h) cs) → W (stepL f (L.map h)) cs S
  | [], S, _, q0, _ => W.stepN (q0 (by simp))
  | x :: L, S, w, q0, q1 => by
    refine W.stepC ((w x List.mem_cons_self).mono fun o c e => ?_)
    obtain ⟨ec, e⟩ := e
    rw [ec]
    rcases e with ⟨rfl, hp⟩ | rfl
    · refine lcP f h P (fun y hy => w y (List.mem_cons_of_mem _ hy)) (fun g => q0 ?_) (fun y ys hl => q1 y ys (by rw [List.length_cons]; omega))
      intro y hy
      rcases List.mem_cons.mp hy with rfl | hy
      · exact hp
      · exact g y hy
    · refine lcP f h P (fun y hy => w y (List.mem_cons_of_mem _ hy)) (fun _ => q1 x [] (by simp)) (fun y ys hl => q1 x (y :: ys) (by simp; omega))
def pd (x : Int × Int) : PyData := t2 x.1 x.2
theorem shpL : ∀ L : List (Int × Int), L.length ≤ 4 → shp (.list (L.map pd)) = true
  | [], _ => rfl
  | [_], _ => rfl
  | [_, _], _ => rfl
  | [_, _, _], _ => rfl
  | [_, _, _, _], _ => rfl
  | _ :: _ :: _ :: _ :: _ :: _, h => by simp only [List.length_cons] at h; omega
theorem ne_nil {y : Int × Int} {ys : List (Int × Int)} (h : ys.length < 4) : gNe (.list (pd y :: ys.map pd)) (.list []) = some (.bool true) := by
  have hs := shpL (y :: ys) (by rw [List.length_cons]; omega)
  rw [List.map_cons] at hs
  show (if shp (.list (pd y :: ys.map pd)) = true ∧ shp (.list []) = true then some (PyData.bool (!PyData.eqv (.list (pd y :: ys.map pd)) (.list []))) else none) = _
  rw [if_pos ⟨hs, rfl⟩]
  rfl
theorem Pl.le {p q : Int} (h : Pl p q) : 0 ≤ q := by
  obtain ⟨_, h⟩ := h.cases
  omega
theorem pl01 : Pl 0 1 := Pl.of (by decide) (by decide)
theorem pl10 : Pl 1 0 := Pl.of (by decide) (by decide)
theorem pl11 : Pl 1 1 := Pl.of (by decide) (by decide)
/-- what the swing of a lead is -/
theorem s_swing_of {n : Nat} {L : List Sg} {a b c d : Int} {cs : Cs} {Q : PyData → Cs → Prop} (h : Lc L a b c d) (q1 : ∀ A B C D, Sw 10000 A B C D → Pr A B C D a b c d → Q (t4 A B C D) cs) (q0 : Q .none cs) : W (runFn (n + 8) 76 [.dat (ldD B0 L)]) cs Q := by
  have hd := h.det
  have lB : ∀ {x : Int}, BE 158 x → Lv 12 x := fun g => g.lv (by decide)
  have l9 : ∀ {m k x : Int}, k ≠ 0 → m = k * x → BE 1 m → Bd 1000000000 x := fun hk e g => by
    have := g.of_mul hk e
    unfold BE at this
    unfold Bd
    omega
  have b0 : BE 1 0 := be1 0 (by decide)
  have b1 : BE 1 1 := be1 1 (by decide)
  rw [rr76]
  refine W.run' rfl ?_
  walk_at "e"
  refine s_point (.inr (by decide)) (b0.lv (by decide)) (b1.lv (by decide)) fun X1 Z1 k1 hk1 e1 f1 n1 => ?_
  walk_at "e"
  refine s_led_by h n1 (l9 hk1 e1 b0) (l9 hk1 f1 b1) fun U1 V1 m1 hm1 g1 i1 o1 u1 v1 => ?_
  walk_at "e"
  refine s_place_of (nrm_ne o1) (lB u1) (lB v1) fun P1 Q1 r1 hr1 j1 y1 p1 => ?_
  walk_at "e"
  refine s_point (.inl (by decide)) (b1.lv (by decide)) (b0.lv (by decide)) fun X2 Z2 k2 hk2 e2 f2 n2 => ?_
  walk_at "e"
  refine s_led_by h n2 (l9 hk2 e2 b1) (l9 hk2 f2 b0) fun U2 V2 m2 hm2 g2 i2 o2 u2 v2 => ?_
  walk_at "e"
  refine s_place_of (nrm_ne o2) (lB u2) (lB v2) fun P2 Q2 r2 hr2 j2 y2 p2 => ?_
  walk_at "e"
  refine s_point (.inl (by decide)) (b1.lv (by decide)) (b1.lv (by decide)) fun X3 Z3 k3 hk3 e3 f3 n3 => ?_
  walk_at "e"
  refine s_led_by h n3 (l9 hk3 e3 b1) (l9 hk3 f3 b1) fun U3 V3 m3 hm3 g3 i3 o3 u3 v3 => ?_
  walk_at "e"
  refine s_place_of (nrm_ne o3) (lB u3) (lB v3) fun P3 Q3 r3 hr3 j3 y3 p3 => ?_
  refine W.stepN ?_
  walk_at "p"
  have I1 : Im P1 Q1 (a * 0 + b * 1) (c * 0 + d * 1) := ((Im.of hr1 j1 y1).symm.trans (Im.of hm1 g1 i1).symm).trans ((Im.of hk1 e1 f1).symm.map a b c d)
  have I2 : Im P2 Q2 (a * 1 + b * 0) (c * 1 + d * 0) := ((Im.of hr2 j2 y2).symm.trans (Im.of hm2 g2 i2).symm).trans ((Im.of hk2 e2 f2).symm.map a b c d)
  have I3 : Im P3 Q3 (a * 1 + b * 1) (c * 1 + d * 1) := ((Im.of hr3 j3 y3).symm.trans (Im.of hm3 g3 i3).symm).trans ((Im.of hk3 e3 f3).symm.map a b c d)
  have w1 : Lv 12 Q1 := lB (v1.of_mul hr1 y1)
  have w2 : Lv 12 Q2 := lB (v2.of_mul hr2 y2)
  have w3 : Lv 12 Q3 := lB (v3.of_mul hr3 y3)
  clear e1 f1 g1 i1 j1 y1 e2 f2 g2 i2 j2 y2 e3 f3 g3 i3 j3 y3 n1 n2 n3 o1 o2 o3 u1 v1 u2 v2 u3 v3
  have hw : ∀ x ∈ [(P1, Q1), (P2, Q2), (P3, Q3)], Pl x.1 x.2 ∧ Lv 12 x.2 := by
    intro x hx
    simp only [List.mem_cons, List.not_mem_nil, or_false] at hx
    rcases hx with rfl | rfl | rfl
    · exact ⟨p1, w1⟩
    · exact ⟨p2, w2⟩
    · exact ⟨p3, w3⟩
  refine lcP _ pd (fun x => Bd 1000 x.1 ∧ Bd 1000 x.2) (L := [(P1, Q1), (P2, Q2), (P3, Q3)]) (fun x hx => ?_) (fun g => ?_) (fun y ys hl => ?_)
  · obtain ⟨x1, x2⟩ := x
    obtain ⟨z1, z2⟩ := hw _ hx
    show W (lcTurn _ _ _ _ _ (t2 x1 x2)) _ _
    walk_at "e"
    refine s_is_place (m := 1000) z1 z2 (by decide) (fun h1 h2 => ?_) ?_
    · walk_at "e"
      exact .inl ⟨rfl, h1, h2⟩
    · walk_at "e"
      exact .inr rfl
  · have B1 := g (P1, Q1) (by simp)
    have B2 := g (P2, Q2) (by simp)
    have B3' := g (P3, Q3) (by simp)
    simp only at B1 B2 B3'
    walk_at "e"
    refine Op.of (z := .bool false) rfl ?_
    walk_at "e"
    have T1 : Th 1000 0 1 1 0 1 1 := ⟨pl01, pl10, pl11, by decide, by decide, by decide, bd_of (by decide) (by decide), bd_of (by decide) (by decide), bd_of (by decide) (by decide), bd_of (by decide) (by decide), bd_of (by decide) (by decide), bd_of (by decide) (by decide)⟩
    have T2 : Th 1000 P1 Q1 P2 Q2 P3 Q3 := by
      refine ⟨p1, p2, p3, ?_, ?_, ?_, B1.1, B1.2, B2.1, B2.2, B3'.1, B3'.2⟩
      · rintro ⟨rfl, rfl⟩
        exact im_unlike hd I1 I2 p1.ne (by decide)
      · rintro ⟨rfl, rfl⟩
        exact im_unlike hd I1 I3 p1.ne (by decide)
      · rintro ⟨rfl, rfl⟩
        exact im_unlike hd I2 I3 p2.ne (by decide)
    refine s_swing_thr T1 T2 fun A B C D car hn lA lB' lC lD => ?_
    have pr : Pr A B C D a b c d := by
      obtain ⟨s1, t1, hs1, ht1, x1, x2⟩ := car.e1
      obtain ⟨s2, t2, hs2, ht2, x3, x4⟩ := car.e2
      obtain ⟨s3, t3, hs3, ht3, x5, x6⟩ := car.e3
      exact pr_im hd ⟨s1, t1, hs1, ht1, x1, x2⟩ ⟨s2, t2, hs2, ht2, x3, x4⟩ ⟨s3, t3, hs3, ht3, x5, x6⟩ I1 I2 I3
    walk_at "e"
    refine W.ite ?_
    walk_at "e"
    refine s_is_swing hn car.det lA lB' lC lD (fun sw => ?_) ?_
    · walk_at "e"
      exact q1 A B C D sw pr
    · walk_at "e"
      exact q0
  · walk_at "e"
    refine Op.of (ne_nil (y := y) (ys := ys) (by simp at hl; omega)) ?_
    walk_at "e"
    exact q0

end T
end
section
set_option Elab.async false
set_option linter.all false
set_option maxRecDepth 100000
set_option maxHeartbeats 400000
namespace T
open PySem hiding Flow Arg
open Se Wk Ev Nm
local macro_rules | `(tactic| walk_at "lv") => `(tactic| (repeat' (first | exact Lv.mono (by assumption) (Nat.le_of_ble_eq_true rfl) | exact Lv.mono (Bd.lv (by assumption) (Nat.le_of_ble_eq_true rfl)) (Nat.le_of_ble_eq_true rfl) | apply Lv.mul | apply Lv.add | apply Lv.sub | apply Lv.neg)))
local macro_rules | `(tactic| walk_at "w") => `(tactic| first
  | ((with_reducible apply exI); first | assumption | exact rfl)
  | ((with_reducible apply Op.head); assumption) | ((with_reducible apply Op.of (o := gIx _ _)); exact rfl) | ((with_reducible refine And.intro (And.intro ?_ ?_) ?_); (focus walk_at "lv"); (focus walk_at "lv"))
  | ((with_reducible apply Op.of (o := gLen _)); exact rfl) | ((with_reducible apply Op.of (o := gAll _)); exact rfl) | ((with_reducible apply Op.of (o := gAny _)); exact rfl) | ((with_reducible apply Op.of (o := gSum _)); exact rfl) | ((with_reducible apply Op.of (o := gTuple _)); exact rfl) | ((with_reducible apply Op.of (o := gAbs _)); exact rfl) | ((with_reducible apply Op.of (o := gInt _)); exact rfl) | ((with_reducible apply Op.of (o := gCut _ _ _)); exact rfl)
  | ((with_reducible first | apply W.nz2 | apply W.nz3 | apply W.nz4 | apply W.nz6 | apply W.nz9); exact Nat.le_of_ble_eq_true rfl)
  | (with_reducible first | apply W.stepTr | apply W.stepC | apply W.stepN | apply W.stepMC | apply W.stepMN | apply W.forC | apply W.forN)
  | ((with_reducible refine And.intro ?_ ?_); first | exact Nat.le_of_ble_eq_true rfl | exact rfl) | (with_reducible refine Bo.t ?_) | (with_reducible refine Bo.f ?_) | (with_reducible refine Bo.d (fun _ => ?_) (fun h => absurd (by assumption) h)) | (with_reducible refine Bo.d (fun h => absurd h (by assumption)) (fun _ => ?_)) | (with_reducible refine Bo.nd (fun _ => ?_) (fun h => absurd h (by assumption))) | (with_reducible refine Bo.nd (fun h => absurd (by assumption) h) (fun _ => ?_)) | ((with_reducible apply Op.divE); assumption; assumption; assumption) | (refine Bo.t ?_) | (refine Bo.f ?_))
local macro_rules | `(tactic| walk_at "e") => `(tactic| repeat (first | (with_reducible apply W.setN) | (with_reducible refine St.ok ?_) | (with_reducible refine OS.ok ?_) | walk_at "w"))
local macro_rules | `(tactic| walk_at "i") => `(tactic| ((with_reducible apply W.iteI); (exact rfl); (exact rfl); exact rfl))
local macro_rules | `(tactic| walk_at "t") => `(tactic| repeat (first | (with_reducible apply W.setN) | (with_reducible refine St.ok ?_) | (with_reducible refine OS.ok ?_) | (with_reducible apply W.ite) | walk_at "w"))
local macro_rules | `(tactic| walk_at "p") => `(tactic| repeat (first | (with_reducible apply W.setN) | ((fail_if_success (with_reducible apply stopSt)); (fail_if_success (with_reducible apply stopMt)); (fail_if_success (with_reducible apply stopFo)); first | (with_reducible refine St.ok ?_) | (with_reducible refine OS.ok ?_) | walk_at "w")))
/-! fixed places -/
theorem s_gauge {n : Nat} {a b c d : Int} {cs : Cs} {Q : PyData → Cs → Prop} (la : Lv 10 a) (lb : Lv 10 b) (lc : Lv 10 c) (ld : Lv 10 d) (q : Q (.int ((a + d) * (a + d) - 4 * (a * d - b * c))) cs) : W (runFn (n + 2) 51 [.dat (t4 a b c d)]) cs Q := by
  have l4 : Lv 6 (4 : Int) := Bd.lv (n := 4) (show (4 : Int).natAbs ≤ 4 from by decide) (by decide)
  rw [rr51]
  refine W.run' rfl ?_
  walk_at "e"
  refine s_trace ?_
  walk_at "e"
  refine s_trace ?_
  walk_at "e"
  refine s_measure (la.mono (by decide)) (lb.mono (by decide)) (lc.mono (by decide)) (ld.mono (by decide)) ?_
  walk_at "e"
  exact q
theorem isq_ex {g : Int} (h0 : 0 ≤ g) (h1 : g < 18446744073709551616) : ∃ r : Nat, gIsqrt [.int g] = some (.int r) ∧ (r : Int) * r ≤ g ∧ g < ((r : Int) + 1) * (r + 1) ∧ Lv 8 (r : Int) := by
  have h := Op.isqrt (a := g) (Q := fun z => ∃ r : Nat, z = .int r ∧ (r : Int) * r ≤ g ∧ g < ((r : Int) + 1) * (r + 1)) h0 h1 fun r g1 g2 => ⟨r, rfl, g1, g2⟩
  obtain ⟨z, e, r, rfl, g1, g2⟩ := h
  refine ⟨r, e, g1, g2, ?_⟩
  refine Lv.mono (k := 6) ?_ (by decide)
  show (r : Int).natAbs < 2 ^ 2 ^ 6
  rw [Int.natAbs_natCast]
  have : (2 : Nat) ^ 2 ^ 6 = 18446744073709551616 := by decide
  rw [this]
  refine Nat.lt_of_not_le fun k => ?_
  have k2 := Nat.mul_le_mul k k
  have k3 : r * r < 18446744073709551616 := by
    have : ((r * r : Nat) : Int) < 18446744073709551616 := by rw [Int.natCast_mul]; omega
    omega
  omega
theorem len1 {F : List (Int × Int)} {a : Int × Int} (h : F.Nodup) (m : ∀ s, s ∈ F ↔ s ∈ [a]) : F.length = 1 := by
  have := (List.perm_ext_iff_of_nodup h (by simp)).mpr m
  exact this.length_eq
theorem len1' {F : List (Int × Int)} {a : Int × Int} (h : F.Nodup) (m : ∀ s, s ∈ F ↔ s ∈ [a, a]) : F.length = 1 := len1 (a := a) h fun s => by rw [m]; simp
theorem len2 {F : List (Int × Int)} {a b : Int × Int} (ne : a ≠ b) (h : F.Nodup) (m : ∀ s, s ∈ F ↔ s ∈ [a, b]) : F.length = 2 := by
  have := (List.perm_ext_iff_of_nodup h (l₂ := [a, b]) (by simp [ne])).mpr m
  exact this.length_eq
theorem len0 {F : List (Int × Int)} (m : ∀ s, s ∈ F ↔ s ∈ []) : F = [] := by
  cases F with
  | nil => rfl
  | cons x F => exact absurd ((m x).mp List.mem_cons_self) (by simp)
/-- what is told of the fixed places -/
structure Fp (a b c g : Int) (F : List (Int × Int)) : Prop where
  nd : F.Nodup
  mem : ∀ s, s ∈ F ↔ Pl s.1 s.2 ∧ qf a b c s.1 s.2 = 0
  one : F.length = 1 ↔ g = 0
  two : F.length ≤ 2
  bd : ∀ s ∈ F, Lv 12 s.1 ∧ Lv 12 s.2
theorem of_mul_lv {j : Nat} {x k y : Int} (h : Lv j x) (hk : k ≠ 0) (z : x = k * y) (hj : j ≤ 12) : Lv 12 y := by
  refine Lv.mono ?_ hj
  unfold Lv at *
  rw [z, Int.natAbs_mul] at h
  have : 1 ≤ k.natAbs := by omega
  exact Nat.lt_of_le_of_lt (Nat.le_mul_of_pos_left _ this) h
theorem lv0 : Lv 12 (0 : Int) := (Bd.lv (n := 0) (show (0 : Int).natAbs ≤ 0 from by decide) (by decide)).mono (by decide)
theorem lv1 : Lv 12 (1 : Int) := (Bd.lv (n := 1) (show (1 : Int).natAbs ≤ 1 from by decide) (by decide)).mono (by decide)
theorem mem1 {F : List (Int × Int)} {a : Int × Int} (m : ∀ s, s ∈ F ↔ s ∈ [a]) (h : Lv 12 a.1 ∧ Lv 12 a.2) : ∀ s ∈ F, Lv 12 s.1 ∧ Lv 12 s.2 := fun s hs => by
  have := (m s).mp hs
  rw [List.mem_singleton] at this
  rw [this]
  exact h
theorem mem2 {F : List (Int × Int)} {a b : Int × Int} (m : ∀ s, s ∈ F ↔ s ∈ [a, b]) (h : Lv 12 a.1 ∧ Lv 12 a.2) (g : Lv 12 b.1 ∧ Lv 12 b.2) : ∀ s ∈ F, Lv 12 s.1 ∧ Lv 12 s.2 := fun s hs => by
  have := (m s).mp hs
  simp only [List.mem_cons, List.not_mem_nil, or_false] at this
  rcases this with rfl | rfl
  · exact h
  · exact g
theorem fp_mem {a b c : Int} {R N F : List (Int × Int)} (t : Tl Pl R N) (h : Rt a b c R) (m : ∀ s, s ∈ F ↔ s ∈ N) (s : Int × Int) : s ∈ F ↔ Pl s.1 s.2 ∧ qf a b c s.1 s.2 = 0 := by
  rw [m]
  constructor
  · intro hs
    have hp := (t.b s hs).1
    exact ⟨hp, (t.mem h (fun h => h.ne) (fun h g i => i.eq h g) s.1 s.2 hp).mpr hs⟩
  · rintro ⟨hp, e⟩
    exact (t.mem h (fun h => h.ne) (fun h g i => i.eq h g) s.1 s.2 hp).mp e
theorem s_fixed_in {n : Nat} {a b c d : Int} {cs : Cs} {Q : PyData → Cs → Prop} (sw : Sw 10000 a b c d) (ns : ¬scl a b c d)
    (q : ∀ F, Fp c (d - a) (-b) ((a + d) * (a + d) - 4 * (a * d - b * c)) F → Q (.list (F.map pd)) cs) : W (runFn (n + 3) 52 [.dat (t4 a b c d)]) cs Q := by
  have LS : ∀ {x : Int}, Bd 10000 x → Lv 9 x := fun g => (g.lv (by decide)).mono (by decide)
  have la := LS sw.ba
  have lb := LS sw.bb
  have lc := LS sw.bc
  have ld := LS sw.bd
  have l2 : Lv 6 (2 : Int) := Bd.lv (n := 2) (show (2 : Int).natAbs ≤ 2 from by decide) (by decide)
  have hg : (d - a) * (d - a) - 4 * c * -b = (a + d) * (a + d) - 4 * (a * d - b * c) := by grind
  have bg : Bd 1200000000 ((a + d) * (a + d) - 4 * (a * d - b * c)) := ((((sw.ba.add sw.bd).mul (sw.ba.add sw.bd)).sub ((bd_of (n := 4) (by decide) (by decide) : Bd 4 4).mul ((sw.ba.mul sw.bd).sub (sw.bb.mul sw.bc))))).mono (by decide)
  generalize hG : (a + d) * (a + d) - 4 * (a * d - b * c) = G at *
  have bg' := bg.le
  rw [rr52]
  refine W.run' rfl ?_
  walk_at "e"
  refine s_gauge (la.mono (by decide)) (lb.mono (by decide)) (lc.mono (by decide)) (ld.mono (by decide)) ?_
  rw [hG]
  have none' : (¬∃ s : Int, G = s * s) → Q (.list []) cs := fun h => by
    have rt := rt_none (a := c) (b := d - a) (c := -b) (by rw [hg]; exact h)
    refine q [] ⟨by simp, fp_mem Tl.nil rt fun s => Iff.rfl, ?_, by simp, by simp⟩
    refine ⟨by simp, fun z => absurd ⟨0, by rw [z]; rfl⟩ h⟩
  by_cases h0 : G < 0
  · walk_at "e"
    refine none' fun ⟨s, e⟩ => ?_
    have : 0 ≤ s * s := by rw [← Int.natAbs_mul_self]; exact Int.natCast_nonneg _
    omega
  obtain ⟨r, hr, r1, r2, lr⟩ := isq_ex (g := G) (by omega) (by omega)
  walk_at "e"
  refine Op.of hr ?_
  walk_at "e"
  refine Op.of hr ?_
  walk_at "e"
  by_cases h1 : ¬(r : Int) * r = G
  · walk_at "e"
    refine none' fun ⟨s, e⟩ => h1 (root_uniq r1 r2 e.symm)
  have h1 := Classical.not_not.mp h1
  walk_at "e"
  refine Op.of hr ?_
  walk_at "e"
  by_cases hc : c = 0
  · walk_at "e"
    by_cases hda : d = a
    · walk_at "t"
      have hb : -b ≠ 0 := fun z => ns ⟨by omega, hc, hda.symm⟩
      refine Op.of (z := .list [t2 1 0]) rfl ?_
      walk_at "e"
      obtain ⟨F, e, nd, m, _⟩ := sortset rwP (fun s => by simp [rwP]) rwP_inj [(1, 0)] (by decide)
      refine Op.of e ?_
      walk_at "e"
      have rt : Rt c (d - a) (-b) [(1, 0)] := by rw [hc, show d - a = 0 by omega]; exact rt_one hb
      have h1 := len1 nd m
      refine q F ⟨nd, fp_mem (Tl.nil.cons (n := (1, 0)) pl10 .refl) rt m, ⟨fun _ => ?_, fun _ => h1⟩, by omega, mem1 m ⟨lv1, lv0⟩⟩
      rw [← hg, hc, show d - a = 0 by omega]
      simp
    · walk_at "t"
      refine s_plain_place (by rw [NZ2]; omega) (by walk_at "lv") (by walk_at "lv") fun X Y m hm e1 e2 hp => ?_
      walk_at "e"
      refine Op.of (z := .list [t2 1 0, t2 X Y]) rfl ?_
      walk_at "e"
      obtain ⟨F, e, nd, mm', _⟩ := sortset rwP (fun s => by simp [rwP]) rwP_inj [(1, 0), (X, Y)] (by simp)
      refine Op.of e ?_
      walk_at "e"
      have hb : d - a ≠ 0 := by omega
      have rt : Rt c (d - a) (-b) [(1, 0), (-b, -(d - a))] := by rw [hc]; exact rt_lin hb
      have i : Im X Y (-b) (-(d - a)) := ⟨-m, 1, by omega, by decide, by rw [Int.neg_mul, ← e1, Int.one_mul], by rw [Int.neg_mul, ← e2, Int.one_mul]⟩
      have lX : Lv 12 X := of_mul_lv lb hm e1 (by decide)
      have lY : Lv 12 Y := of_mul_lv (ld.sub la) hm e2 (by decide)
      have hY : Y ≠ 0 := fun z => by rw [z, Int.mul_zero] at e2; omega
      have h2 := len2 (a := (1, 0)) (b := (X, Y)) (fun z => hY (congrArg Prod.snd z).symm) nd mm'
      refine q F ⟨nd, fp_mem ((Tl.nil.cons (n := (X, Y)) hp i).cons (n := (1, 0)) pl10 .refl) rt mm', ⟨fun z => by omega, fun z => ?_⟩, by omega, mem2 mm' ⟨lv1, lv0⟩ ⟨lX, lY⟩⟩
      exfalso
      rw [← hg, hc] at z
      simp only [Int.mul_zero, Int.zero_mul, Int.sub_zero] at z
      exact Int.mul_ne_zero hb hb z
  · walk_at "e"
    refine s_plain_place (by rw [NZ2]; omega) (by walk_at "lv") (by walk_at "lv") fun X Y m hm e1 e2 hp => ?_
    walk_at "e"
    refine s_plain_place (by rw [NZ2]; omega) (by walk_at "lv") (by walk_at "lv") fun X' Y' m' hm' e1' e2' hp' => ?_
    walk_at "e"
    obtain ⟨F, e, nd, mm', _⟩ := sortset rwP (fun s => by simp [rwP]) rwP_inj [(X, Y), (X', Y')] (by simp)
    refine Op.of e ?_
    walk_at "e"
    have rt := rt_two (a := c) (b := d - a) (c := -b) (h := r) hc (by rw [hg, h1])
    have lC : Lv 12 (2 * c) := (Lv.mul (l2.mono (by decide)) lc).mono (by decide)
    have lX : Lv 12 X := of_mul_lv ((la.sub ld).add (lr.mono (by decide))) hm e1 (by decide)
    have lY : Lv 12 Y := of_mul_lv lC hm e2 (by decide)
    have lX' : Lv 12 X' := of_mul_lv ((la.sub ld).sub (lr.mono (by decide))) hm' e1' (by decide)
    have lY' : Lv 12 Y' := of_mul_lv lC hm' e2' (by decide)
    have i1 : Im X Y (-(d - a) + r) (2 * c) := ⟨m, 1, hm, by decide, by omega, by omega⟩
    have i2 : Im X' Y' (-(d - a) - r) (2 * c) := ⟨m', 1, hm', by decide, by omega, by omega⟩
    have mem := fp_mem ((Tl.nil.cons (n := (X', Y')) hp' i2).cons (n := (X, Y)) hp i1) rt mm'
    by_cases hr0 : (r : Int) = 0
    · have i3 : Im X' Y' (-(d - a) + r) (2 * c) := by rw [hr0] at i2 ⊢; simpa using i2
      obtain ⟨z1, z2⟩ := (i1.trans i3.symm).eq hp hp'
      subst z1 z2
      have hl := len1' nd mm'
      exact q F ⟨nd, mem, ⟨fun _ => by rw [← h1, hr0]; rfl, fun _ => hl⟩, by omega, mem2 mm' ⟨lX, lY⟩ ⟨lX, lY⟩⟩
    · have ne : (X, Y) ≠ (X', Y') := fun z => hr0 (by
        obtain ⟨z1, z2⟩ := Prod.mk.inj z
        subst z1 z2
        have := (i1.symm.trans i2).cross
        have k : 4 * c * (r : Int) = 0 := by
          have e3 : (-(d - a) + (r : Int)) * (2 * c) - 2 * c * (-(d - a) - r) = 4 * c * r := by clear this; grind
          omega
        exact (Int.mul_eq_zero.mp k).resolve_left (by omega))
      have hl := len2 ne nd mm'
      refine q F ⟨nd, mem, ⟨fun z => by omega, fun z => ?_⟩, by omega, mem2 mm' ⟨lX, lY⟩ ⟨lX', lY'⟩⟩
      exfalso
      rw [z] at h1
      rcases Int.mul_eq_zero.mp h1 with g | g <;> exact hr0 g
theorem s_fixed_places {n : Nat} {a b c d : Int} {cs : Cs} {Q : PyData → Cs → Prop} (sw : Sw 10000 a b c d) (q0 : scl a b c d → Q .none cs)
    (q : ∀ F, ¬scl a b c d → Fp c (d - a) (-b) ((a + d) * (a + d) - 4 * (a * d - b * c)) F → Q (.tuple (F.map pd)) cs) : W (runFn (n + 4) 54 [.dat (t4 a b c d)]) cs Q := by
  rw [rr54]
  refine W.run' rfl ?_
  walk_at "e"
  refine s_need_swing sw ?_
  walk_at "e"
  by_cases h : a = 1 ∧ b = 0 ∧ c = 0 ∧ d = 1
  · refine W.ite ?_
    walk_at "e"
    refine Op.eq4 ?_
    walk_at "e"
    exact q0 ⟨h.2.1, h.2.2.1, by omega⟩
  · refine W.ite ?_
    walk_at "e"
    refine Op.eq4 ?_
    walk_at "e"
    have ns : ¬scl a b c d := fun ⟨h1, h2, h3⟩ => h (by
      subst h1 h2 h3
      have := sw.nrm
      have g1 := this.1
      have g2 := this.2
      simp [gcdL] at g1
      simp only [fnz] at g2
      split at g2
      · omega
      · omega)
    refine s_fixed_in sw ns fun F f => ?_
    walk_at "e"
    exact q F ns f

end T
end
section
set_option Elab.async false
set_option linter.all false
set_option maxRecDepth 100000
set_option maxHeartbeats 400000
namespace T
open PySem hiding Flow Arg
open Se Wk Ev Nm
local macro_rules | `(tactic| walk_at "lv") => `(tactic| (repeat' (first | exact Lv.mono (by assumption) (Nat.le_of_ble_eq_true rfl) | exact Lv.mono (Bd.lv (by assumption) (Nat.le_of_ble_eq_true rfl)) (Nat.le_of_ble_eq_true rfl) | apply Lv.mul | apply Lv.add | apply Lv.sub | apply Lv.neg)))
local macro_rules | `(tactic| walk_at "w") => `(tactic| first
  | ((with_reducible apply exI); first | assumption | exact rfl)
  | ((with_reducible apply Op.head); assumption) | ((with_reducible apply Op.of (o := gIx _ _)); exact rfl) | ((with_reducible refine And.intro (And.intro ?_ ?_) ?_); (focus walk_at "lv"); (focus walk_at "lv"))
  | ((with_reducible apply Op.of (o := gLen _)); exact rfl) | ((with_reducible apply Op.of (o := gAll _)); exact rfl) | ((with_reducible apply Op.of (o := gAny _)); exact rfl) | ((with_reducible apply Op.of (o := gSum _)); exact rfl) | ((with_reducible apply Op.of (o := gTuple _)); exact rfl) | ((with_reducible apply Op.of (o := gAbs _)); exact rfl) | ((with_reducible apply Op.of (o := gInt _)); exact rfl) | ((with_reducible apply Op.of (o := gCut _ _ _)); exact rfl)
  | ((with_reducible first | apply W.nz2 | apply W.nz3 | apply W.nz4 | apply W.nz6 | apply W.nz9); exact Nat.le_of_ble_eq_true rfl)
  | (with_reducible first | apply W.stepTr | apply W.stepC | apply W.stepN | apply W.stepMC | apply W.stepMN | apply W.forC | apply W.forN)
  | ((with_reducible refine And.intro ?_ ?_); first | exact Nat.le_of_ble_eq_true rfl | exact rfl) | (with_reducible refine Bo.t ?_) | (with_reducible refine Bo.f ?_) | (with_reducible refine Bo.d (fun _ => ?_) (fun h => absurd (by assumption) h)) | (with_reducible refine Bo.d (fun h => absurd h (by assumption)) (fun _ => ?_)) | (with_reducible refine Bo.nd (fun _ => ?_) (fun h => absurd h (by assumption))) | (with_reducible refine Bo.nd (fun h => absurd (by assumption) h) (fun _ => ?_)) | ((with_reducible apply Op.divE); assumption; assumption; assumption) | (refine Bo.t ?_) | (refine Bo.f ?_))
local macro_rules | `(tactic| walk_at "e") => `(tactic| repeat (first | (with_reducible apply W.setN) | (with_reducible refine St.ok ?_) | (with_reducible refine OS.ok ?_) | walk_at "w"))
local macro_rules | `(tactic| walk_at "i") => `(tactic| ((with_reducible apply W.iteI); (exact rfl); (exact rfl); exact rfl))
local macro_rules | `(tactic| walk_at "t") => `(tactic| repeat (first | (with_reducible apply W.setN) | (with_reducible refine St.ok ?_) | (with_reducible refine OS.ok ?_) | (with_reducible apply W.ite) | walk_at "w"))
local macro_rules | `(tactic| walk_at "p") => `(tactic| repeat (first | (with_reducible apply W.setN) | ((fail_if_success (with_reducible apply stopSt)); (fail_if_success (with_reducible apply stopMt)); (fail_if_success (with_reducible apply stopFo)); first | (with_reducible refine St.ok ?_) | (with_reducible refine OS.ok ?_) | walk_at "w")))
theorem zip3 (a b c d e f : PyData) : zipD [a, b, c] [d, e, f] = [.tuple [a, d], .tuple [b, e], .tuple [c, f]] := rfl
theorem s_led_e3 {n : Nat} {L : List Sg} {a b c d : Int} {cs : Cs} {Q : PyData → Cs → Prop} (h : Lc L a b c d) (q : Q (t3 b 0 d) cs) : W (runFn (n + 2) 39 [.dat (ldD B0 L), .dat (t3 0 0 1)]) cs Q := by
  refine s_led1 h (x := 0) (z := 1) (e := 1) (be1 0 (by decide)) (be1 1 (by decide)) (by decide) ?_
  rw [show a * 0 + b * 1 = b by omega, show c * 0 + d * 1 = d by omega]
  exact q
theorem s_led_e1 {n : Nat} {L : List Sg} {a b c d : Int} {cs : Cs} {Q : PyData → Cs → Prop} (h : Lc L a b c d) (q : Q (t3 a 0 c) cs) : W (runFn (n + 2) 39 [.dat (ldD B0 L), .dat (t3 1 0 0)]) cs Q := by
  refine s_led1 h (x := 1) (z := 0) (e := 1) (be1 1 (by decide)) (be1 0 (by decide)) (by decide) ?_
  rw [show a * 1 + b * 0 = a by omega, show c * 1 + d * 0 = c by omega]
  exact q
theorem s_form_of {n : Nat} {L : List Sg} {a b c d : Int} {cs : Cs} {Q : PyData → Cs → Prop} (h : Lc L a b c d) (q : Q (t3 (-b) (d - a) c) cs) : W (runFn (n + 4) 41 [.dat (ldD B0 L)]) cs Q := by
  obtain ⟨ba, bb, bc, bd⟩ := h.be
  have l : ∀ {x : Int}, BE 129 x → Lv 16 x := fun g => g.lv (by decide)
  have la := l ba
  have lb := l bb
  have lc := l bc
  have ld := l bd
  have l0 : Lv 16 (0 : Int) := l (Nat.two_pow_pos _)
  have l1 : Lv 16 (1 : Int) := (be1 1 (by decide)).lv (by decide)
  rw [rr41]
  refine W.run' rfl ?_
  walk_at "e"
  refine Op.of (lin_ix0 B0 L) ?_
  walk_at "e"
  refine s_base_of ?_
  walk_at "e"
  refine s_led_e3 h ?_
  walk_at "e"
  refine s_led_e1 h ?_
  walk_at "e"
  refine s_cross lb l0 ld l1 l0 l0 ?_
  walk_at "e"
  refine s_cross la l0 lc l0 l0 l1 ?_
  walk_at "e"
  rw [zip3]
  simp only [Int.mul_zero, Int.mul_one, Int.sub_zero, Int.zero_sub, Int.zero_add, Int.add_zero, Int.sub_self, Int.zero_mul, Int.neg_zero]
  walk_at "e"
  rw [show rngD 0 (Int.toNat 3) = [PyData.int 0, .int 1, .int 2] from rfl]
  walk_at "e"
  refine Op.of (lin_ix0 B0 L) ?_
  walk_at "e"
  refine Op.of (lin_ix0 B0 L) ?_
  walk_at "e"
  refine Op.of (lin_ix0 B0 L) ?_
  walk_at "e"
  refine s_cross lb l0 ld l0 l0 l1 ?_
  walk_at "e"
  refine s_cross la l0 lc l1 l0 l0 ?_
  walk_at "e"
  simp only [Int.mul_zero, Int.mul_one, Int.sub_zero, Int.zero_sub, Int.zero_add, Int.add_zero, Int.sub_self, Int.zero_mul, Int.neg_zero]
  rw [← Int.sub_eq_add_neg]
  exact q
theorem s_plainlyL {n : Nat} {a b c : Int} {cs : Cs} {Q : PyData → Cs → Prop} (hz : NZ [a, b, c]) (ha : Lv 12 a) (hb : Lv 12 b) (hc : Lv 12 c) (q : ∀ A B C k, k ≠ 0 → a = k * A → b = k * B → c = k * C → Nrm [A, B, C] → Q (t3 A B C) cs) : W (runFn (n + 1) 31 [.dat (.list [.int a, .int b, .int c])]) cs Q := by
  rw [rr31]
  have h0 := fac_ne hz
  have h1 : Lv 13 (fac [a, b, c]) := (fac_lv (k := 12) (by simp [ha, hb, hc]) hz).mono (by decide)
  have ea := fac_mul (l := [a, b, c]) (x := a) (by simp)
  have eb := fac_mul (l := [a, b, c]) (x := b) (by simp)
  have ec := fac_mul (l := [a, b, c]) (x := c) (by simp)
  refine W.run' rfl ?_
  walk_at "e"
  rw [gcd3]
  walk_at "i"
  rw [show (if 0 < fnz [a, b, c] then ((gcdL [a, b, c] : Nat) : Int) else -((gcdL [a, b, c] : Nat) : Int)) = fac [a, b, c] from rfl]
  walk_at "e"
  exact q _ _ _ _ h0 ea eb ec (fac_nrm hz (by rw [List.map_cons, List.map_cons, List.map_cons, List.map_nil, ← ea, ← eb, ← ec]))
theorem s_is_home {n : Nat} {L : List Sg} {a b c d : Int} {cs : Cs} {Q : PyData → Cs → Prop} (h : Lc L a b c d) (q : Q (.bool (decide (scl a b c d))) cs) : W (runFn (n + 5) 43 [.dat (ldD B0 L)]) cs Q := by
  rw [rr43]
  refine W.run' rfl ?_
  walk_at "e"
  refine s_form_of h ?_
  walk_at "e"
  have e : (!([-b, d - a, c].any fun n => n != 0)) = decide (scl a b c d) := by
    rw [Bool.eq_iff_iff]
    simp only [List.any_cons, List.any_nil, Bool.or_false, Bool.not_eq_true', Bool.or_eq_false_iff, decide_eq_true_eq]
    unfold scl
    simp only [bne_eq_false_iff_eq]
    omega
  show Q (.bool (!([-b, d - a, c].any fun n => n != 0))) cs
  rw [e]
  exact q
theorem s_roots_of {n : Nat} {a b c : Int} {cs : Cs} {Q : PyData → Cs → Prop} (hz : ¬(a = 0 ∧ b = 0 ∧ c = 0)) (ba : BE 30 a) (bb : BE 30 b) (bc : BE 30 c) (q : ∀ R, Rt a b c R → R.length ≤ 2 → (∀ r ∈ R, BE 40 r.1 ∧ BE 40 r.2) → Q (.list (R.map pd)) cs) : W (runFn (n + 1) 42 [.dat (.int a), .dat (.int b), .dat (.int c)]) cs Q := by
  have LS : ∀ {x : Int}, BE 30 x → Lv 6 x := fun g => g.lv (by decide)
  have la := LS ba
  have lb := LS bb
  have lc := LS bc
  have l2 : Lv 6 (2 : Int) := Bd.lv (n := 2) (show (2 : Int).natAbs ≤ 2 from by decide) (by decide)
  have l4 : Lv 6 (4 : Int) := Bd.lv (n := 4) (show (4 : Int).natAbs ≤ 4 from by decide) (by decide)
  have bG : BE 64 (b * b - 4 * a * c) := ((bb.mul bb).mono (by decide)).sub (((show BE 3 (4 : Int) from by unfold BE; decide).mul ba).mul bc)
  have g1 : -18446744073709551616 < b * b - 4 * a * c ∧ b * b - 4 * a * c < 18446744073709551616 := by
    unfold BE at bG
    have : (2 : Nat) ^ 64 = 18446744073709551616 := by decide
    omega
  have B : ∀ {x : Int}, BE 30 x → BE 40 x := fun h => h.mono (by decide)
  rw [rr42]
  refine W.run' rfl ?_
  by_cases ha : a = 0
  · subst ha
    by_cases hb : b = 0
    · subst hb
      walk_at "t"
      exact q [(1, 0)] (rt_one (by omega)) (by decide) (by simp only [List.mem_singleton, forall_eq]; exact ⟨by unfold BE; decide, by unfold BE; decide⟩)
    · walk_at "t"
      refine q [(1, 0), (c, -b)] (rt_lin hb) (by simp) fun r hr => ?_
      simp only [List.mem_cons, List.not_mem_nil, or_false] at hr
      rcases hr with rfl | rfl
      · exact ⟨by unfold BE; decide, by unfold BE; decide⟩
      · exact ⟨B bc, by have := B bb; unfold BE at *; rw [Int.natAbs_neg]; exact this⟩
  · walk_at "e"
    generalize hG : b * b - 4 * a * c = G at *
    by_cases h0 : G < 0
    · walk_at "e"
      refine q [] (rt_none fun ⟨s, e⟩ => ?_) (by simp) (by simp)
      have : 0 ≤ s * s := by rw [← Int.natAbs_mul_self]; exact Int.natCast_nonneg _
      omega
    obtain ⟨r, hr, r1, r2, lr⟩ := isq_ex (g := G) (by omega) (by omega)
    walk_at "e"
    refine Op.of hr ?_
    walk_at "e"
    refine Op.of hr ?_
    walk_at "e"
    by_cases h1 : ¬(r : Int) * r = G
    · walk_at "e"
      refine q [] (rt_none fun ⟨s, e⟩ => h1 (root_uniq r1 r2 (by rw [← e, hG]))) (by simp) (by simp)
    have h1 := Classical.not_not.mp h1
    walk_at "e"
    refine Op.of hr ?_
    walk_at "e"
    have br : BE 32 (r : Int) := by
      unfold BE
      rw [Int.natAbs_natCast]
      refine Nat.lt_of_not_le fun k => ?_
      have k2 := Nat.mul_le_mul k k
      have k3 : r * r < 18446744073709551616 := by
        have : ((r * r : Nat) : Int) < 18446744073709551616 := by rw [Int.natCast_mul]; omega
        omega
      omega
    have bb' : BE 32 (-b) := by have := bb.mono (f := 32) (by decide); unfold BE at *; rw [Int.natAbs_neg]; exact this
    refine q [(-b + r, 2 * a), (-b - r, 2 * a)] (rt_two ha (by rw [hG, h1])) (by simp) fun r hr => ?_
    have b2 : BE 40 (2 * a) := ((show BE 2 (2 : Int) from by unfold BE; decide).mul ba).mono (by decide)
    simp only [List.mem_cons, List.not_mem_nil, or_false] at hr
    rcases hr with rfl | rfl
    · exact ⟨(bb'.add br).mono (by decide), b2⟩
    · exact ⟨(bb'.sub br).mono (by decide), b2⟩
/-- the points that the roots tell -/
def p3d (s : Int × Int) : PyData := t3 s.1 0 s.2
theorem lcT {cs : Cs} (f : PyData → M (Option PyData)) : ∀ {R : List (Int × Int)} {S : List PyData → Cs → Prop}, (∀ r ∈ R, ∀ K : Option PyData → Cs → Prop, (∀ X Z, NP X Z → Im X Z r.2 r.1 → K (some (t3 X 0 Z)) cs) → W (f (pd r)) cs K) → (∀ N : List (Int × Int), N.length = R.length → Tl NP (R.map fun r => (r.2, r.1)) N → S (N.map p3d) cs) → W (stepL f (R.map pd)) cs S
  | [], S, _, q => W.stepN (q [] rfl Tl.nil)
  | r :: R, S, w, q => by
    refine W.stepC (w r List.mem_cons_self _ fun X Z hn i => ?_)
    refine lcT f (fun x hx => w x (List.mem_cons_of_mem _ hx)) fun N hl t => ?_
    exact q ((X, Z) :: N) (by rw [List.length_cons, List.length_cons, hl]) (t.cons hn i)
/-- a lead of few and small parts -/
structure Sl (L : List Sg) : Prop where
  l4 : L.length ≤ 4
  b : ∀ x ∈ L, B3 2 x.1 ∧ B3 3 x.2
theorem stp_be' {e : Nat} {p : P3} {x : Sg} (h : B3 e p) (g : B3 2 x.1 ∧ B3 3 x.2) : B3 (e + 7) (stp p x) := (cr_be (cr_be h g.2) g.1).mono (by omega)
theorem led_be' : ∀ (L : List Sg) {e : Nat} {p : P3}, (∀ x ∈ L, B3 2 x.1 ∧ B3 3 x.2) → B3 e p → B3 (e + 7 * L.length) (ledL L p)
  | [], _, _, _, h => h
  | x :: L, e, p, g, h => by
    have := led_be' L (fun y hy => g y (List.mem_cons_of_mem _ hy)) (stp_be' h (g x List.mem_cons_self))
    rw [List.length_cons, show e + 7 * (L.length + 1) = e + 7 + 7 * L.length by omega]
    exact this
theorem Sl.be {L : List Sg} {a b c d : Int} (s : Sl L) (h : Lc L a b c d) : BE 29 a ∧ BE 29 b ∧ BE 29 c ∧ BE 29 d := by
  have h1 := led_be' L (e := 1) (p := (1, 0, 0)) s.b ⟨be1 _ (by decide), be1 _ (by decide), be1 _ (by decide)⟩
  have h3 := led_be' L (e := 1) (p := (0, 0, 1)) s.b ⟨be1 _ (by decide), be1 _ (by decide), be1 _ (by decide)⟩
  rw [h.m.e1] at h1
  rw [h.m.e3] at h3
  have := s.l4
  exact ⟨h1.x.mono (by omega), h3.x.mono (by omega), h1.z.mono (by omega), h3.z.mono (by omega)⟩
theorem zipk (a b c d e f : Int) : zipD [.int a, .int b, .int c] [.int d, .int e, .int f] = [.tuple [.int a, .int d], .tuple [.int b, .int e], .tuple [.int c, .int f]] := rfl
theorem s_kept_points {n : Nat} {L : List Sg} {a b c d : Int} {cs : Cs} {Q : PyData → Cs → Prop} (h : Lc L a b c d) (sl : Sl L) (q0 : scl a b c d → Q .none cs)
    (q : ∀ N : List (Int × Int), ¬scl a b c d → N.Nodup → (∀ s, s ∈ N ↔ NP s.1 s.2 ∧ qf c (d - a) (-b) s.1 s.2 = 0) → (∀ M : List (Int × Int), M.Perm N → gSorted [.list (M.map p3d)] = some (.list (N.map p3d))) → Q (.tuple (N.map p3d)) cs) : W (runFn (n + 8) 48 [.dat (ldD B0 L)]) cs Q := by
  obtain ⟨ba, bb, bc, bd⟩ := sl.be h
  rw [rr48]
  refine W.run' rfl ?_
  walk_at "e"
  refine s_need_closed h ?_
  walk_at "e"
  refine s_is_home h ?_
  walk_at "e"
  by_cases hs : scl a b c d
  · walk_at "e"
    exact q0 hs
  unfold ldD
  walk_at "e"
  refine Op.of (lin_ix0 B0 L) ?_
  walk_at "e"
  refine s_base_of ?_
  walk_at "e"
  refine s_form_of h ?_
  walk_at "e"
  have bb' : BE 29 (-b) := by unfold BE at *; rw [Int.natAbs_neg]; exact bb
  refine s_roots_of (fun ⟨z1, z2, z3⟩ => hs ⟨by omega, z3, by omega⟩) (bb'.mono (by decide)) (bd.sub ba) (bc.mono (by decide)) fun R rt hl hb => ?_
  walk_at "p"
  refine And.intro (line_big (by rw [List.length_map]; omega)) ?_
  refine lcT _ (fun r hr K hK => ?_) fun N hN t => ?_
  · obtain ⟨x, y⟩ := r
    obtain ⟨b1, b2⟩ := hb _ hr
    have nz := rt.nz _ hr
    simp only at b1 b2 nz
    have l1 : Lv 6 x := b1.lv (by decide)
    have l2 : Lv 6 y := b2.lv (by decide)
    have l0 : Lv 6 (0 : Int) := (be1 0 (by decide)).lv (by decide)
    have l1' : Lv 6 (1 : Int) := (be1 1 (by decide)).lv (by decide)
    show W (lcTurn _ _ _ _ _ (t2 x y)) _ _
    walk_at "e"
    rw [zipk]
    walk_at "e"
    simp only [Int.mul_zero, Int.mul_one, Int.zero_add, Int.add_zero]
    refine s_plainlyL (by rw [NZ3]; omega) (l2.mono (by decide)) (l0.mono (by decide)) (l1.mono (by decide)) fun A B C k hk e1 e2 e3 hn => ?_
    have hB : B = 0 := (Int.mul_eq_zero.mp e2.symm).resolve_left hk
    subst hB
    walk_at "e"
    exact hK A C hn ((Im.of hk e1 e3).symm)
  · walk_at "e"
    obtain ⟨F, e, nd, mm', srt'⟩ := sortset rwT (fun s => by simp [rwT]) rwT_inj N (by omega)
    refine Op.of e ?_
    walk_at "e"
    refine q F hs nd (fun s => ?_) srt'
    have u : ∀ {x y u v}, NP x y → NP u v → Im x y u v → x = u ∧ y = v := fun h g i => i.eq3 h g
    have rf := rt.flip
    rw [mm']
    constructor
    · intro hs
      have hp := (t.b s hs).1
      exact ⟨hp, (t.mem rf nrm_ne u s.1 s.2 hp).mpr hs⟩
    · rintro ⟨hp, e⟩
      exact (t.mem rf nrm_ne u s.1 s.2 hp).mp e

end T
end
section
set_option Elab.async false
set_option linter.all false
set_option maxRecDepth 100000
set_option maxHeartbeats 400000
namespace T
open PySem hiding Flow Arg
open Se Wk Ev Nm
local macro_rules | `(tactic| walk_at "lv") => `(tactic| (repeat' (first | exact Lv.mono (by assumption) (Nat.le_of_ble_eq_true rfl) | exact Lv.mono (Bd.lv (by assumption) (Nat.le_of_ble_eq_true rfl)) (Nat.le_of_ble_eq_true rfl) | apply Lv.mul | apply Lv.add | apply Lv.sub | apply Lv.neg)))
local macro_rules | `(tactic| walk_at "w") => `(tactic| first
  | ((with_reducible apply exI); first | assumption | exact rfl)
  | ((with_reducible apply Op.head); assumption) | ((with_reducible apply Op.of (o := gIx _ _)); exact rfl) | ((with_reducible refine And.intro (And.intro ?_ ?_) ?_); (focus walk_at "lv"); (focus walk_at "lv"))
  | ((with_reducible apply Op.of (o := gLen _)); exact rfl) | ((with_reducible apply Op.of (o := gAll _)); exact rfl) | ((with_reducible apply Op.of (o := gAny _)); exact rfl) | ((with_reducible apply Op.of (o := gSum _)); exact rfl) | ((with_reducible apply Op.of (o := gTuple _)); exact rfl) | ((with_reducible apply Op.of (o := gAbs _)); exact rfl) | ((with_reducible apply Op.of (o := gInt _)); exact rfl) | ((with_reducible apply Op.of (o := gCut _ _ _)); exact rfl)
  | ((with_reducible first | apply W.nz2 | apply W.nz3 | apply W.nz4 | apply W.nz6 | apply W.nz9); exact Nat.le_of_ble_eq_true rfl)
  | (with_reducible first | apply W.stepTr | apply W.stepC | apply W.stepN | apply W.stepMC | apply W.stepMN | apply W.forC | apply W.forN)
  | ((with_reducible refine And.intro ?_ ?_); first | exact Nat.le_of_ble_eq_true rfl | exact rfl) | (with_reducible refine Bo.t ?_) | (with_reducible refine Bo.f ?_) | (with_reducible refine Bo.d (fun _ => ?_) (fun h => absurd (by assumption) h)) | (with_reducible refine Bo.d (fun h => absurd h (by assumption)) (fun _ => ?_)) | (with_reducible refine Bo.nd (fun _ => ?_) (fun h => absurd h (by assumption))) | (with_reducible refine Bo.nd (fun h => absurd (by assumption) h) (fun _ => ?_)) | ((with_reducible apply Op.divE); assumption; assumption; assumption) | (refine Bo.t ?_) | (refine Bo.f ?_))
local macro_rules | `(tactic| walk_at "e") => `(tactic| repeat (first | (with_reducible apply W.setN) | (with_reducible refine St.ok ?_) | (with_reducible refine OS.ok ?_) | walk_at "w"))
local macro_rules | `(tactic| walk_at "i") => `(tactic| ((with_reducible apply W.iteI); (exact rfl); (exact rfl); exact rfl))
local macro_rules | `(tactic| walk_at "t") => `(tactic| repeat (first | (with_reducible apply W.setN) | (with_reducible refine St.ok ?_) | (with_reducible refine OS.ok ?_) | (with_reducible apply W.ite) | walk_at "w"))
local macro_rules | `(tactic| walk_at "p") => `(tactic| repeat (first | (with_reducible apply W.setN) | ((fail_if_success (with_reducible apply stopSt)); (fail_if_success (with_reducible apply stopMt)); (fail_if_success (with_reducible apply stopFo)); first | (with_reducible refine St.ok ?_) | (with_reducible refine OS.ok ?_) | walk_at "w")))
theorem s_lowest {n : Nat} {x y : Int} {cs : Cs} {Q : PyData → Cs → Prop} (hy : y ≠ 0) (lx : Lv 12 x) (ly : Lv 12 y) (q : ∀ A B k, k ≠ 0 → x = k * A → y = k * B → Pl A B → Q (t2 A B) cs) : W (runFn (n + 1) 3 [.dat (.int x), .dat (.int y)]) cs Q := by
  rw [rr3]
  have nz : NZ [y, x] := by rw [NZ2]; exact .inl hy
  have h0 := fac_ne nz
  have hf : fnz [y, x] = y := by simp [fnz, hy]
  have hg : Nat.gcd x.natAbs y.natAbs = gcdL [y, x] := by rw [Nat.gcd_comm]; simp [gcdL]
  have l13 : Lv 13 (fac [y, x]) := (fac_lv (k := 12) (by simp [lx, ly]) nz).mono (by decide)
  have fin : Q (prD x y) cs := by
    obtain ⟨A, B, k, hk, i1, i2, hp, e⟩ := prD_pl nz
    rw [e]
    exact q A B k hk i1 i2 hp
  refine W.run' rfl ?_
  by_cases hs : 0 < y
  · walk_at "t"
    rw [hg]
    rw [show ((gcdL [y, x] : Nat) : Int) = fac [y, x] from by unfold fac; rw [hf, if_pos hs]]
    walk_at "e"
    refine Op.div h0 l13 ?_
    walk_at "e"
    refine Op.div h0 l13 ?_
    walk_at "e"
    exact fin
  · walk_at "t"
    rw [hg]
    rw [show -((gcdL [y, x] : Nat) : Int) = fac [y, x] from by unfold fac; rw [hf, if_neg hs]]
    walk_at "e"
    refine Op.div h0 l13 ?_
    walk_at "e"
    refine Op.div h0 l13 ?_
    walk_at "e"
    exact fin
theorem eqv33 (x1 x2 x3 y1 y2 y3 : PyData) : PyData.eqv (.list [x1, x2, x3]) (.list [y1, y2, y3]) = (PyData.eqv x1 y1 && (PyData.eqv x2 y2 && PyData.eqv x3 y3)) := by
  simp [PyData.eqv, PyData.eqvAll]
theorem eq_three {a b c d e f g h i j k l m n o p q r : Int} : gEq (.list [t3 a b c, t3 d e f, t3 g h i]) (.list [t3 j k l, t3 m n o, t3 p q r]) = some (.bool (decide ((a = j ∧ b = k ∧ c = l) ∧ (d = m ∧ e = n ∧ f = o) ∧ (g = p ∧ h = q ∧ i = r)))) := by
  show (if shp (.list [t3 a b c, t3 d e f, t3 g h i]) = true ∧ shp (.list [t3 j k l, t3 m n o, t3 p q r]) = true then some (PyData.bool (PyData.eqv (.list [t3 a b c, t3 d e f, t3 g h i]) (.list [t3 j k l, t3 m n o, t3 p q r]))) else none) = _
  rw [if_pos ⟨rfl, rfl⟩, eqv33, eqv3, eqv3, eqv3]
  simp only [Bool.decide_and]
/-- where three points are behind so many rounds -/
structure Rs (a b c d : Int) (r : Nat) (X1 Z1 X2 Z2 X3 Z3 : Int) : Prop where
  n1 : NP X1 Z1
  n2 : NP X2 Z2
  n3 : NP X3 Z3
  i1 : Im X1 Z1 (nn a b c d r).2.1 (nn a b c d r).2.2.2
  i2 : Im X2 Z2 (nn a b c d r).1 (nn a b c d r).2.2.1
  i3 : Im X3 Z3 ((nn a b c d r).1 + (nn a b c d r).2.1) ((nn a b c d r).2.2.1 + (nn a b c d r).2.2.2)
  b : (BE (1 + 40 * r) X1 ∧ BE (1 + 40 * r) Z1) ∧ (BE (1 + 40 * r) X2 ∧ BE (1 + 40 * r) Z2) ∧ (BE (1 + 40 * r) X3 ∧ BE (1 + 40 * r) Z3)
theorem np01 : NP 0 1 := ⟨rfl, by decide⟩
theorem np10 : NP 1 0 := ⟨rfl, by decide⟩
theorem np11 : NP 1 1 := ⟨rfl, by decide⟩
theorem Rs.home {a b c d : Int} {r : Nat} {X1 Z1 X2 Z2 X3 Z3 : Int} (h : Rs a b c d r X1 Z1 X2 Z2 X3 Z3) (hd : a * d - b * c ≠ 0) : ((X1 = 0 ∧ (0 : Int) = 0 ∧ Z1 = 1) ∧ (X2 = 1 ∧ (0 : Int) = 0 ∧ Z2 = 0) ∧ (X3 = 1 ∧ (0 : Int) = 0 ∧ Z3 = 1)) ↔ sc4 (nn a b c d r) := by
  have hn := nn_det hd r
  obtain ⟨h1, h2, h3, i1, i2, i3, _⟩ := h
  generalize nn a b c d r = m at *
  obtain ⟨x, y, z, w⟩ := m
  simp only at *
  unfold sc4 scl
  simp only
  constructor
  · rintro ⟨⟨rfl, _, rfl⟩, ⟨rfl, _, rfl⟩, ⟨rfl, _, rfl⟩⟩
    have c1 := i1.cross
    have c2 := i2.cross
    have c3 := i3.cross
    simp only [Int.zero_mul, Int.one_mul] at c1 c2 c3
    omega
  · rintro ⟨rfl, rfl, rfl⟩
    have hx : x ≠ 0 := fun e => hn (by rw [e]; simp)
    have k1 : Im 0 1 0 x := ⟨x, 1, hx, by decide, by simp, by simp⟩
    have k2 : Im 1 0 x 0 := ⟨x, 1, hx, by decide, by simp, by simp⟩
    have k3 : Im 1 1 (x + 0) (0 + x) := ⟨x, 1, hx, by decide, by simp, by simp⟩
    obtain ⟨e1, e2⟩ := (i1.trans k1.symm).eq3 h1 np01
    obtain ⟨e3, e4⟩ := (i2.trans k2.symm).eq3 h2 np10
    obtain ⟨e5, e6⟩ := (i3.trans k3.symm).eq3 h3 np11
    exact ⟨⟨e1, trivial, e2⟩, ⟨e3, trivial, e4⟩, ⟨e5, trivial, e6⟩⟩
theorem Rs.next {a b c d : Int} {r : Nat} {X1 Z1 X2 Z2 X3 Z3 Y1 V1 Y2 V2 Y3 V3 k1 k2 k3 : Int} (h : Rs a b c d r X1 Z1 X2 Z2 X3 Z3) (h1 : k1 ≠ 0) (h2 : k2 ≠ 0) (h3 : k3 ≠ 0) (m1 : NP Y1 V1) (m2 : NP Y2 V2) (m3 : NP Y3 V3)
    (e1 : a * X1 + b * Z1 = k1 * Y1) (f1 : c * X1 + d * Z1 = k1 * V1) (e2 : a * X2 + b * Z2 = k2 * Y2) (f2 : c * X2 + d * Z2 = k2 * V2) (e3 : a * X3 + b * Z3 = k3 * Y3) (f3 : c * X3 + d * Z3 = k3 * V3) (ba : BE 29 a) (bb : BE 29 b) (bc : BE 29 c) (bd : BE 29 d) : Rs a b c d (r + 1) Y1 V1 Y2 V2 Y3 V3 := by
  obtain ⟨n1, n2, n3, i1, i2, i3, ⟨b1, b2⟩, ⟨b3, b4⟩, b5, b6⟩ := h
  have B : ∀ {x z u v y k : Int}, BE 29 u → BE 29 v → BE (1 + 40 * r) x → BE (1 + 40 * r) z → k ≠ 0 → u * x + v * z = k * y → BE (1 + 40 * (r + 1)) y := fun hu hv hx hz hk e => (((hu.mul hx).add (hv.mul hz)).mono (by omega)).of_mul hk e
  refine ⟨m1, m2, m3, (Im.of h1 e1 f1).symm.trans (i1.map a b c d), (Im.of h2 e2 f2).symm.trans (i2.map a b c d), ?_, ⟨B ba bb b1 b2 h1 e1, B bc bd b1 b2 h1 f1⟩, ⟨B ba bb b3 b4 h2 e2, B bc bd b3 b4 h2 f2⟩, ⟨B ba bb b5 b6 h3 e3, B bc bd b5 b6 h3 f3⟩⟩
  have g := (Im.of h3 e3 f3).symm.trans (i3.map a b c d)
  have z1 : a * ((nn a b c d r).1 + (nn a b c d r).2.1) + b * ((nn a b c d r).2.2.1 + (nn a b c d r).2.2.2) = (nn a b c d (r + 1)).1 + (nn a b c d (r + 1)).2.1 := by
    show _ = (a * (nn a b c d r).1 + b * (nn a b c d r).2.2.1) + (a * (nn a b c d r).2.1 + b * (nn a b c d r).2.2.2)
    rw [Int.mul_add, Int.mul_add]
    omega
  have z2 : c * ((nn a b c d r).1 + (nn a b c d r).2.1) + d * ((nn a b c d r).2.2.1 + (nn a b c d r).2.2.2) = (nn a b c d (r + 1)).2.2.1 + (nn a b c d (r + 1)).2.2.2 := by
    show _ = (c * (nn a b c d r).1 + d * (nn a b c d r).2.2.1) + (c * (nn a b c d r).2.1 + d * (nn a b c d r).2.2.2)
    rw [Int.mul_add, Int.mul_add]
    omega
  rw [z1, z2] at g
  exact g
def RlI (L : List Sg) (a b c d : Int) (cs : Cs) (ds : List PyData) (e : Ev) (cc : Cs) : Prop := cc = cs ∧ ∃ (r k : Nat) (X1 Z1 X2 Z2 X3 Z3 : Int) (s4 s5 s7 s8 : Slot), ds = rngD ((r + 1 : Nat) : Int) k ∧ r + k = 6 ∧ Rs a b c d r X1 Z1 X2 Z2 X3 Z3 ∧ (∀ i, 1 ≤ i → i ≤ r → ¬sc4 (nn a b c d i)) ∧
  e = [.sh (ldD B0 L), .sh (t3 0 0 1), .sh (t3 1 0 0), .sh (.list [t3 0 0 1, t3 1 0 0, t3 1 0 1]), s4, s5, .sh (.list [t3 X1 0 Z1, t3 X2 0 Z2, t3 X3 0 Z3]), s7, s8]
theorem zipadd : zipD [PyData.int 0, .int 0, .int 1] [.int 1, .int 0, .int 0] = [.tuple [.int 0, .int 1], .tuple [.int 0, .int 0], .tuple [.int 1, .int 0]] := rfl
theorem s_rounds_in {n : Nat} {L : List Sg} {a b c d : Int} {cs : Cs} {Q : PyData → Cs → Prop} (h : Lc L a b c d) (sl : Sl L) (q : ∀ o, Rnd a b c d o → Q (dgV o) cs) : W (runFn (n + 4) 44 [.dat (ldD B0 L)]) cs Q := by
  obtain ⟨ba, bb, bc, bd⟩ := sl.be h
  rw [rr44]
  refine W.run' rfl ?_
  unfold ldD
  walk_at "e"
  refine Op.of (lin_ix0 B0 L) ?_
  walk_at "e"
  refine s_base_of ?_
  walk_at "e"
  rw [zipadd]
  walk_at "e"
  refine s_plainlyL (by rw [NZ3]; decide) (BE.lv (e := 1) (be1 _ (by decide)) (by decide)) (BE.lv (e := 1) (be1 _ (by decide)) (by decide)) (BE.lv (e := 1) (be1 _ (by decide)) (by decide)) fun A B C k hk e1 e2 e3 hn => ?_
  obtain ⟨rfl, rfl, rfl⟩ := hn.eq3 np11 hk (m := 1) (by decide) (by rw [← e1]; rfl) (by rw [← e2]; rfl) (by rw [← e3]; rfl)
  walk_at "e"
  refine W.forI (RlI L a b c d cs) ⟨rfl, 0, 6, 0, 1, 1, 0, 1, 1, _, _, _, _, rfl, rfl, ⟨np01, np10, np11, .refl, .refl, .refl, ⟨be1 _ (by decide), be1 _ (by decide)⟩, ⟨be1 _ (by decide), be1 _ (by decide)⟩, ⟨be1 _ (by decide), be1 _ (by decide)⟩⟩, (fun i h1 h2 => by omega), rfl⟩ ?_ ?_
  · rintro dd ds ev cc ⟨rfl, r, k, X1, Z1, X2, Z2, X3, Z3, s4, s5, s7, s8, h1, h2, h3, h4, rfl⟩
    cases k with
    | zero => cases h1
    | succ k =>
      injection h1 with h1 h1'
      subst h1 h1'
      obtain ⟨⟨b1, b2⟩, ⟨b3, b4⟩, b5, b6⟩ := h3.b
      have K : ∀ {x z : Int}, BE (1 + 40 * r) x → BE (1 + 40 * r) z → BE 300 (a * x + b * z) ∧ BE 300 (c * x + d * z) := fun hx hz => ⟨((ba.mul hx).add (bb.mul hz)).mono (by omega), ((bc.mul hx).add (bd.mul hz)).mono (by omega)⟩
      have nz : ∀ {x z : Int}, NP x z → NZ [a * x + b * z, 0, c * x + d * z] := fun hn => by
        rw [NZ3]
        rcases im_nz h.det (nrm_ne hn) with g | g
        · exact .inl g
        · exact .inr (.inr g)
      have l0 : Lv 12 (0 : Int) := BE.lv (e := 1) (be1 0 (by decide)) (by decide)
      have lL : ∀ {x : Int}, BE 300 x → Lv 12 x := fun g => g.lv (by decide)
      have z0 : ∀ {k B : Int}, k ≠ 0 → 0 = k * B → B = 0 := fun hk e => (Int.mul_eq_zero.mp e.symm).resolve_left hk
      walk_at "e"
      refine s_led1 h b1 b2 (by omega) ?_
      walk_at "e"
      refine s_plainly (nz h3.n1) (lL (K b1 b2).1) l0 (lL (K b1 b2).2) fun Y1 T1 V1 k1 hk1 e1 t1 f1 m1 => ?_
      obtain rfl := z0 hk1 t1
      walk_at "e"
      refine s_led1 h b3 b4 (by omega) ?_
      walk_at "e"
      refine s_plainly (nz h3.n2) (lL (K b3 b4).1) l0 (lL (K b3 b4).2) fun Y2 T2 V2 k2 hk2 e2 t2 f2 m2 => ?_
      obtain rfl := z0 hk2 t2
      walk_at "e"
      refine s_led1 h b5 b6 (by omega) ?_
      walk_at "e"
      refine s_plainly (nz h3.n3) (lL (K b5 b6).1) l0 (lL (K b5 b6).2) fun Y3 T3 V3 k3 hk3 e3 t3' f3 m3 => ?_
      obtain rfl := z0 hk3 t3'
      have nx := h3.next hk1 hk2 hk3 m1 m2 m3 e1 f1 e2 f2 e3 f3 ba bb bc bd
      clear e1 t1 f1 e2 t2 f2 e3 t3' f3
      walk_at "e"
      refine Op.of eq_three ?_
      have hm := nx.home h.det
      by_cases hh : sc4 (nn a b c d (r + 1))
      · rw [decide_eq_true (hm.mpr hh)]
        walk_at "e"
        exact q (some ((r + 1 : Nat) : Int)) ⟨r + 1, rfl, by omega, by omega, hh, fun i i1 i2 => h4 i i1 (by omega)⟩
      · rw [decide_eq_false (fun z => hh (hm.mp z))]
        walk_at "e"
        refine ⟨rfl, r + 1, k, Y1, V1, Y2, V2, Y3, V3, _, _, _, _, by rw [show ((r + 1 + 1 : Nat) : Int) = ((r + 1 : Nat) : Int) + 1 from rfl], by omega, nx, fun i i1 i2 => ?_, rfl⟩
        rcases Nat.lt_or_ge i (r + 1) with z | z
        · exact h4 i i1 (by omega)
        · obtain rfl : i = r + 1 := by omega
          exact hh
  · rintro ev cc ⟨rfl, r, k, X1, Z1, X2, Z2, X3, Z3, s4, s5, s7, s8, h1, h2, h3, h4, rfl⟩
    cases k with
    | succ k => cases h1
    | zero =>
      walk_at "e"
      exact q none fun i i1 i2 => h4 i i1 (by omega)
theorem s_rounds {n : Nat} {L : List Sg} {a b c d : Int} {cs : Cs} {Q : PyData → Cs → Prop} (h : Lc L a b c d) (sl : Sl L) (q : Q (dgV (ordO a b c d)) cs) : W (runFn (n + 8) 49 [.dat (ldD B0 L)]) cs Q := by
  rw [rr49]
  refine W.run' rfl ?_
  walk_at "e"
  refine s_need_closed h ?_
  walk_at "e"
  refine s_rounds_in h sl fun o ho => ?_
  rw [ho.uniq (ordO_rnd h.det)]
  exact q
/-- the order of a swing -/
theorem dget_ord (N D : Int) : gDget [([0, 1], 2), ([1, 1], 3), ([2, 1], 4), ([3, 1], 6)] (t2 N D) = some (dgV (if N = 0 ∧ D = 1 then some 2 else if N = 1 ∧ D = 1 then some 3 else if N = 2 ∧ D = 1 then some 4 else if N = 3 ∧ D = 1 then some 6 else none)) := by
  show some (dgV (dlk [([0, 1], 2), ([1, 1], 3), ([2, 1], 4), ([3, 1], 6)] [N, D])) = _
  have e : ∀ i : Int, ([i, 1] = [N, D]) ↔ (N = i ∧ D = 1) := fun i => by
    simp only [List.cons.injEq, and_true]
    exact ⟨fun ⟨a, b⟩ => ⟨a.symm, b.symm⟩, fun ⟨a, b⟩ => ⟨a.symm, b.symm⟩⟩
  unfold dlk dlk dlk dlk dlk
  simp only [e]
theorem low_eq {x y N D k : Int} (hk : k ≠ 0) (e1 : x = k * N) (e2 : y = k * D) (p : Pl N D) (hy : y ≠ 0) (i : Int) : (N = i ∧ D = 1) ↔ x = i * y := by
  constructor
  · rintro ⟨rfl, rfl⟩
    rw [e1, e2]
    grind
  · intro h
    have g : N = i * D := by
      have : k * N = k * (i * D) := by rw [← e1, h, e2]; grind
      exact Int.eq_of_mul_eq_mul_left hk this
    obtain ⟨h1, h2⟩ := p.cases
    have hD : D ≠ 0 := fun z => hy (by rw [e2, z, Int.mul_zero])
    have hd : D.natAbs ∣ N.natAbs := Int.natAbs_dvd_natAbs.mpr ⟨i, by rw [g, Int.mul_comm]⟩
    have h3 : D.natAbs = 1 := by
      rw [Nat.gcd_eq_right hd] at h1
      exact h1
    have : D = 1 := by omega
    subst this
    exact ⟨by omega, rfl⟩
theorem s_swing_order {n : Nat} {a b c d : Int} {cs : Cs} {Q : PyData → Cs → Prop} (sw : Sw 10000 a b c d) (q : Q (dgV (ordO a b c d)) cs) : W (runFn (n + 5) 26 [.dat (t4 a b c d)]) cs Q := by
  have LS : ∀ {x : Int}, Bd 10000 x → Lv 9 x := fun g => (g.lv (by decide)).mono (by decide)
  have la := LS sw.ba
  have lb := LS sw.bb
  have lc := LS sw.bc
  have ld := LS sw.bd
  rw [rr26]
  refine W.run' rfl ?_
  walk_at "e"
  refine s_need_swing sw ?_
  walk_at "e"
  rw [rr25]
  refine W.run' rfl ?_
  walk_at "e"
  by_cases h : a = 1 ∧ b = 0 ∧ c = 0 ∧ d = 1
  · refine W.ite ?_
    walk_at "e"
    refine Op.eq4 ?_
    walk_at "e"
    have hs : scl a b c d := ⟨h.2.1, h.2.2.1, by omega⟩
    unfold ordO at q
    rw [if_pos hs] at q
    exact q
  · have ns : ¬scl a b c d := fun ⟨h1, h2, h3⟩ => h (by
      subst h1 h2 h3
      have := sw.nrm
      have g1 := this.1
      have g2 := this.2
      simp [gcdL] at g1
      simp only [fnz] at g2
      split at g2
      · omega
      · omega)
    refine W.ite ?_
    walk_at "e"
    refine Op.eq4 ?_
    walk_at "e"
    rw [rr24]
    refine W.run' rfl ?_
    walk_at "e"
    refine s_trace ?_
    walk_at "e"
    refine s_trace ?_
    walk_at "e"
    refine s_measure (la.mono (by decide)) (lb.mono (by decide)) (lc.mono (by decide)) (ld.mono (by decide)) ?_
    walk_at "e"
    refine s_lowest sw.det (by walk_at "lv") (by walk_at "lv") fun N D k hk e1 e2 hp => ?_
    walk_at "e"
    refine Op.of (dget_ord N D) ?_
    have j := low_eq hk e1 e2 hp sw.det
    have j0 := j 0
    have j1 := j 1
    simp only [Int.zero_mul, Int.one_mul] at j0 j1
    unfold ordO at q
    rw [if_neg ns] at q
    simp only [j0, j1, j 2, j 3]
    exact q

end T
end
section
set_option Elab.async false
set_option linter.all false
set_option maxRecDepth 100000
set_option maxHeartbeats 400000
namespace T
open PySem hiding Flow Arg
open Se Wk Ev Nm
local macro_rules | `(tactic| walk_at "lv") => `(tactic| (repeat' (first | exact Lv.mono (by assumption) (Nat.le_of_ble_eq_true rfl) | exact Lv.mono (Bd.lv (by assumption) (Nat.le_of_ble_eq_true rfl)) (Nat.le_of_ble_eq_true rfl) | apply Lv.mul | apply Lv.add | apply Lv.sub | apply Lv.neg)))
local macro_rules | `(tactic| walk_at "w") => `(tactic| first
  | ((with_reducible apply exI); first | assumption | exact rfl)
  | ((with_reducible apply Op.head); assumption) | ((with_reducible apply Op.of (o := gIx _ _)); exact rfl) | ((with_reducible refine And.intro (And.intro ?_ ?_) ?_); (focus walk_at "lv"); (focus walk_at "lv"))
  | ((with_reducible apply Op.of (o := gLen _)); exact rfl) | ((with_reducible apply Op.of (o := gAll _)); exact rfl) | ((with_reducible apply Op.of (o := gAny _)); exact rfl) | ((with_reducible apply Op.of (o := gSum _)); exact rfl) | ((with_reducible apply Op.of (o := gTuple _)); exact rfl) | ((with_reducible apply Op.of (o := gAbs _)); exact rfl) | ((with_reducible apply Op.of (o := gInt _)); exact rfl) | ((with_reducible apply Op.of (o := gCut _ _ _)); exact rfl)
  | ((with_reducible first | apply W.nz2 | apply W.nz3 | apply W.nz4 | apply W.nz6 | apply W.nz9); exact Nat.le_of_ble_eq_true rfl)
  | (with_reducible first | apply W.stepTr | apply W.stepC | apply W.stepN | apply W.stepMC | apply W.stepMN | apply W.forC | apply W.forN)
  | ((with_reducible refine And.intro ?_ ?_); first | exact Nat.le_of_ble_eq_true rfl | exact rfl) | (with_reducible refine Bo.t ?_) | (with_reducible refine Bo.f ?_) | (with_reducible refine Bo.d (fun _ => ?_) (fun h => absurd (by assumption) h)) | (with_reducible refine Bo.d (fun h => absurd h (by assumption)) (fun _ => ?_)) | (with_reducible refine Bo.nd (fun _ => ?_) (fun h => absurd h (by assumption))) | (with_reducible refine Bo.nd (fun h => absurd (by assumption) h) (fun _ => ?_)) | ((with_reducible apply Op.divE); assumption; assumption; assumption) | (refine Bo.t ?_) | (refine Bo.f ?_))
local macro_rules | `(tactic| walk_at "e") => `(tactic| repeat (first | (with_reducible apply W.setN) | (with_reducible refine St.ok ?_) | (with_reducible refine OS.ok ?_) | walk_at "w"))
local macro_rules | `(tactic| walk_at "i") => `(tactic| ((with_reducible apply W.iteI); (exact rfl); (exact rfl); exact rfl))
local macro_rules | `(tactic| walk_at "t") => `(tactic| repeat (first | (with_reducible apply W.setN) | (with_reducible refine St.ok ?_) | (with_reducible refine OS.ok ?_) | (with_reducible apply W.ite) | walk_at "w"))
local macro_rules | `(tactic| walk_at "p") => `(tactic| repeat (first | (with_reducible apply W.setN) | ((fail_if_success (with_reducible apply stopSt)); (fail_if_success (with_reducible apply stopMt)); (fail_if_success (with_reducible apply stopFo)); first | (with_reducible refine St.ok ?_) | (with_reducible refine OS.ok ?_) | walk_at "w")))
theorem s_path_of {n m : Nat} {a b c d x y : Int} {cs : Cs} {Q : PyData → Cs → Prop} (sw : Sw 10000 a b c d) (hp : Pl x y) (bx : Bd 10 x) (bz : Bd 10 y) (q : ∀ r1 r2 r3 : Int × Int, chain a b c d (x, y) [r1, r2, r3] → (∀ r ∈ [r1, r2, r3], BE 100 r.1 ∧ BE 100 r.2) → Q (.tuple [t2 x y, pd r1, pd r2, pd r3]) cs) : W (runFn (n + 4) 28 [.dat (t4 a b c d), .dat (t2 x y), .dat (.int 3)]) cs Q := by
  have LS : ∀ {x : Int}, Bd 10000 x → Lv 9 x := fun g => (g.lv (by decide)).mono (by decide)
  have la := LS sw.ba
  have lb := LS sw.bb
  have lc := LS sw.bc
  have ld := LS sw.bd
  have B : ∀ {z : Int}, Bd 10000 z → BE 14 z := fun g => .of_bd g (by decide)
  have C : ∀ {e : Nat} {u v x z k y : Int}, Bd 10000 u → Bd 10000 v → BE e x → BE e z → k ≠ 0 → u * x + v * z = k * y → BE (e + 15) y := fun hu hv hx hz hk e' => ((((B hu).mul hx).add ((B hv).mul hz)).mono (by omega)).of_mul hk e'
  have ex : BE 4 x := .of_bd bx (by decide)
  have ey : BE 4 y := .of_bd bz (by decide)
  have L9 : ∀ {e : Nat} {x : Int}, BE e x → e ≤ 512 → Lv 9 x := fun h g => h.lv (by exact g)
  rw [rr28]
  refine W.run' rfl ?_
  walk_at "e"
  refine s_need_swing sw ?_
  walk_at "e"
  refine s_need_place hp bx bz (by decide) ?_
  walk_at "e"
  rw [rr1]
  refine W.run' rfl ?_
  walk_at "e"
  refine s_is_whole0 (by decide) ?_
  walk_at "e"
  rw [show rngD 0 (Int.toNat 3) = [PyData.int 0, .int 1, .int 2] from rfl]
  walk_at "e"
  refine s_carried sw.det la lb lc ld hp.ne (L9 ex (by decide)) (L9 ey (by decide)) fun A1 B1 k1 hk1 e1 f1 p1 => ?_
  have x1 := C sw.ba sw.bb ex ey hk1 e1
  have y1 := C sw.bc sw.bd ex ey hk1 f1
  have i1 := (Im.of hk1 e1 f1).symm
  clear e1 f1
  walk_at "e"
  refine s_carried sw.det la lb lc ld p1.ne (L9 x1 (by decide)) (L9 y1 (by decide)) fun A2 B2 k2 hk2 e2 f2 p2 => ?_
  have x2 := C sw.ba sw.bb x1 y1 hk2 e2
  have y2 := C sw.bc sw.bd x1 y1 hk2 f2
  have i2 := (Im.of hk2 e2 f2).symm
  clear e2 f2
  walk_at "e"
  refine s_carried sw.det la lb lc ld p2.ne (L9 x2 (by decide)) (L9 y2 (by decide)) fun A3 B3' k3 hk3 e3 f3 p3 => ?_
  have x3 := C sw.ba sw.bb x2 y2 hk3 e3
  have y3 := C sw.bc sw.bd x2 y2 hk3 f3
  have i3 := (Im.of hk3 e3 f3).symm
  clear e3 f3
  walk_at "e"
  refine q (A1, B1) (A2, B2) (A3, B3') ⟨⟨p1, i1⟩, ⟨p2, i2⟩, ⟨p3, i3⟩, trivial⟩ fun r hr => ?_
  simp only [List.mem_cons, List.not_mem_nil, or_false] at hr
  rcases hr with rfl | rfl | rfl
  · exact ⟨x1.mono (by decide), y1.mono (by decide)⟩
  · exact ⟨x2.mono (by decide), y2.mono (by decide)⟩
  · exact ⟨x3.mono (by decide), y3.mono (by decide)⟩
theorem s_gauge_of {n : Nat} {a b c d : Int} {cs : Cs} {Q : PyData → Cs → Prop} (sw : Sw 10000 a b c d) (q : Q (.int ((a + d) * (a + d) - 4 * (a * d - b * c))) cs) : W (runFn (n + 4) 53 [.dat (t4 a b c d)]) cs Q := by
  have LS : ∀ {x : Int}, Bd 10000 x → Lv 10 x := fun g => (g.lv (by decide)).mono (by decide)
  rw [rr53]
  refine W.run' rfl ?_
  walk_at "e"
  refine s_need_swing sw ?_
  walk_at "e"
  exact s_gauge (LS sw.ba) (LS sw.bb) (LS sw.bc) (LS sw.bd) q
/-- the points of fixed places, sorted -/
theorem s_due {a b c g : Int} {F : List (Int × Int)} (f : Fp a b c g F) : ∃ N : List (Int × Int), gSorted [.list ((F.map pt).map p3d)] = some (.list (N.map p3d)) ∧ N.length ≤ 2 ∧
    ∀ M : List (Int × Int), M.Nodup → (∀ s, s ∈ M ↔ NP s.1 s.2 ∧ qf a b c s.1 s.2 = 0) → (∀ K : List (Int × Int), K.Perm M → gSorted [.list (K.map p3d)] = some (.list (M.map p3d))) → M.map p3d = N.map p3d := by
  have ndp : (F.map pt).Nodup := nodup_map f.nd fun s hs t ht e => by
    obtain ⟨p, q⟩ := s
    obtain ⟨r, u⟩ := t
    obtain ⟨e1, e2⟩ := pt_inj ((f.mem _).mp hs).1 ((f.mem _).mp ht).1 e
    simp only at e1 e2
    rw [e1, e2]
  have f2 := f.two
  obtain ⟨N, e, nd, m, srt'⟩ := sortset rwT (fun s => by simp [rwT]) rwT_inj (F.map pt) (by rw [List.length_map]; omega)
  have pm : (F.map pt).Perm N := (List.perm_ext_iff_of_nodup ndp nd).mpr fun s => (m s).symm
  refine ⟨N, srt' _ pm, by rw [← pm.length_eq, List.length_map]; exact f2, fun M nM mM hM => ?_⟩
  have p2 := pts_perm f.nd nM f.mem mM
  have h1 := hM M (List.Perm.refl _)
  have h2 := srt' M (p2.symm.trans pm)
  have h3 : some (PyData.list (M.map p3d)) = some (PyData.list (N.map p3d)) := h1.symm.trans h2
  injection h3 with h3
  injection h3
theorem lk_p3 (N : List (Int × Int)) (h : N.length ≤ 2) : lk 2 (.tuple (N.map p3d)) = true := by
  unfold lk
  rw [Bool.and_eq_true]
  refine ⟨decide_eq_true (line_big (by rw [List.length_map]; omega)), ?_⟩
  rw [List.all_eq_true]
  intro d hd
  obtain ⟨s, _, rfl⟩ := List.mem_map.mp hd
  rfl
theorem lk_due (N : List (Int × Int)) (h : N.length ≤ 2) (o : Option Int) : lk 3 (.list [.tuple (N.map p3d), dgV o]) = true := by
  unfold lk
  rw [Bool.and_eq_true]
  refine ⟨rfl, ?_⟩
  rw [List.all_cons, List.all_cons, lk_p3 N h]
  cases o <;> rfl
theorem lk_due0 (o : Option Int) : lk 3 (.list [.none, dgV o]) = true := by
  cases o <;> rfl
theorem eqBool (a b : Bool) : gEq (.bool a) (.bool b) = some (.bool (a == b)) := by
  cases a <;> cases b <;> rfl

end T
end
section
set_option Elab.async false
set_option linter.all false
set_option maxRecDepth 100000
set_option maxHeartbeats 400000
namespace T
open PySem hiding Flow Arg
open Se Wk Ev Nm
local macro_rules | `(tactic| walk_at "lv") => `(tactic| (repeat' (first | exact Lv.mono (by assumption) (Nat.le_of_ble_eq_true rfl) | exact Lv.mono (Bd.lv (by assumption) (Nat.le_of_ble_eq_true rfl)) (Nat.le_of_ble_eq_true rfl) | apply Lv.mul | apply Lv.add | apply Lv.sub | apply Lv.neg)))
local macro_rules | `(tactic| walk_at "w") => `(tactic| first
  | ((with_reducible apply exI); first | assumption | exact rfl)
  | ((with_reducible apply Op.head); assumption) | ((with_reducible apply Op.of (o := gIx _ _)); exact rfl) | ((with_reducible refine And.intro (And.intro ?_ ?_) ?_); (focus walk_at "lv"); (focus walk_at "lv"))
  | ((with_reducible apply Op.of (o := gLen _)); exact rfl) | ((with_reducible apply Op.of (o := gAll _)); exact rfl) | ((with_reducible apply Op.of (o := gAny _)); exact rfl) | ((with_reducible apply Op.of (o := gSum _)); exact rfl) | ((with_reducible apply Op.of (o := gTuple _)); exact rfl) | ((with_reducible apply Op.of (o := gAbs _)); exact rfl) | ((with_reducible apply Op.of (o := gInt _)); exact rfl) | ((with_reducible apply Op.of (o := gCut _ _ _)); exact rfl)
  | ((with_reducible first | apply W.nz2 | apply W.nz3 | apply W.nz4 | apply W.nz6 | apply W.nz9); exact Nat.le_of_ble_eq_true rfl)
  | (with_reducible first | apply W.stepTr | apply W.stepC | apply W.stepN | apply W.stepMC | apply W.stepMN | apply W.forC | apply W.forN)
  | ((with_reducible refine And.intro ?_ ?_); first | exact Nat.le_of_ble_eq_true rfl | exact rfl) | (with_reducible refine Bo.t ?_) | (with_reducible refine Bo.f ?_) | (with_reducible refine Bo.d (fun _ => ?_) (fun h => absurd (by assumption) h)) | (with_reducible refine Bo.d (fun h => absurd h (by assumption)) (fun _ => ?_)) | (with_reducible refine Bo.nd (fun _ => ?_) (fun h => absurd h (by assumption))) | (with_reducible refine Bo.nd (fun h => absurd (by assumption) h) (fun _ => ?_)) | ((with_reducible apply Op.divE); assumption; assumption; assumption) | (refine Bo.t ?_) | (refine Bo.f ?_))
local macro_rules | `(tactic| walk_at "e") => `(tactic| repeat (first | (with_reducible apply W.setN) | (with_reducible refine St.ok ?_) | (with_reducible refine OS.ok ?_) | walk_at "w"))
local macro_rules | `(tactic| walk_at "i") => `(tactic| ((with_reducible apply W.iteI); (exact rfl); (exact rfl); exact rfl))
local macro_rules | `(tactic| walk_at "t") => `(tactic| repeat (first | (with_reducible apply W.setN) | (with_reducible refine St.ok ?_) | (with_reducible refine OS.ok ?_) | (with_reducible apply W.ite) | walk_at "w"))
local macro_rules | `(tactic| walk_at "p") => `(tactic| repeat (first | (with_reducible apply W.setN) | ((fail_if_success (with_reducible apply stopSt)); (fail_if_success (with_reducible apply stopMt)); (fail_if_success (with_reducible apply stopFo)); first | (with_reducible refine St.ok ?_) | (with_reducible refine OS.ok ?_) | walk_at "w")))
theorem s_rev_closed {L : List Sg} {a b c d : Int} (h : Lc L a b c d) : ∃ a' b' c' d', Lc (revA B0 L []) a' b' c' d' ∧ Pr a' b' c' d' d (-b) (-c) a := by
  obtain ⟨hd, a', b', c', d', k, hk, m, e1, e2, e3, e4⟩ := mx_rev h.k.ok h.l h.m
  have ok := rev_ok L B0 [] h.k.ok trivial
  have ll := rev_lst L B0 []
  rw [h.l] at ok ll
  refine ⟨a', b', c', d', ⟨⟨⟨h.k.t.b, rev_tp L B0 [] h.k.t.b h.k.t.a (by simp), ?_, ?_⟩, ok⟩, ll, m⟩, ⟨a * d - b * c, k, hd, hk, e1, by rw [e2, Int.mul_neg], by rw [e3, Int.mul_neg], e4⟩⟩
  · rw [rev_len]; exact h.k.t.l0
  · rw [rev_len]; exact h.k.t.l8
def RtI (lead swing : PyData) (ds : List PyData) (e : Ev) (c : Cs) : Prop := Cu c ∧ ∃ s3 s4 : Slot, e = [.cup, .sh lead, .sh swing, s3, s4, .no, .no, .no, .no, .no, .no, .no, .no]
def PhI (lead swing : PyData) (a b c d : Int) (s3 s4 s5 s6 s7 s8 s9 : Slot) (cs : Cs) (ds : List PyData) (e : Ev) (cc : Cs) : Prop := cc = cs ∧ ∃ (rest : List (Int × Int)) (p : Int × Int) (x z : Int) (s11 s12 : Slot), ds = rest.map pd ∧ chain a b c d p rest ∧ (∀ r ∈ rest, BE 100 r.1 ∧ BE 100 r.2) ∧ NP x z ∧ Im x z p.1 p.2 ∧ Bd 1000000000 x ∧ Bd 1000000000 z ∧
  e = [.cup, .sh lead, .sh swing, s3, s4, s5, s6, s7, s8, s9, .sh (t3 x 0 z), s11, s12]
theorem Lc.of {L : List Sg} (lk : Lk B0 L) (hl : lst B0 L = B0) : ∃ a b c d, Lc L a b c d := by
  obtain ⟨a, b, c, d, m⟩ := mx_ex hl
  exact ⟨a, b, c, d, lk, hl, m⟩
theorem bd_max {x z : Int} (h : ¬10 ^ 9 < maxL [if x < 0 then -x else x, if (0 : Int) < 0 then -0 else 0, if z < 0 then -z else z]) : Bd 1000000000 x ∧ Bd 1000000000 z := by
  have h1 : (10 : Int) ^ 9 = 1000000000 := by decide
  rw [h1] at h
  have m1 := (maxL_mem (ns := [if x < 0 then -x else x, if (0 : Int) < 0 then -0 else 0, if z < 0 then -z else z]) (by simp)).2
  have g1 := m1 (if x < 0 then -x else x) (by simp)
  have g2 := m1 (if z < 0 then -z else z) (by simp)
  generalize maxL [if x < 0 then -x else x, if (0 : Int) < 0 then -0 else 0, if z < 0 then -z else z] = M at *
  clear m1
  refine ⟨bd_of ?_ ?_, bd_of ?_ ?_⟩ <;> (split at g1 <;> split at g2 <;> omega)
abbrev TR2 : SS := (sSeq (sSet 4 (mSh (mCall 70 (mCons (aCup 0) (mCons (aDat (mLit (.int 3))) mNil)))))
  (sSeq (sPar2 9 10 (mSh (mCall 28 (mCons (aDat (mVar 2)) (mCons (aDat (mVar 4)) (mCons (aDat (mLit (.int 3))) mNil))))) (mSh (mCall 71 (mCons (aDat (mVar 4)) mNil))))
  (sSeq (sFor (mSeq (mCut (mPk 9) (mYes (mLit (.int 1))) mNo)) (gNm 11) (sSeq (sSet 10 (mSh (mCall 47 (mCons (aDat (mVar 1)) (mCons (aDat (mVar 10)) mNil)))))
  (sSeq (sIf (mBin gGt (mBI gMax (mCons (mLc [12] (mSeq (mPk 10)) (gNm 12) (mLit (.bool true)) (mBI gAbs (mCons (mPk 12) mNil))) mNil)) (mBin gPow (mLit (.int 10)) (mLit (.int 9)))) (sRet (mLit (.bool true))) sNil)
  (sIf (mBin gNe (mCall 72 (mCons (aDat (mVar 10)) mNil)) (mPk 11)) (sRet (mLit (.bool false))) sNil))))
  (sRet (mBin gEq (mBin gEq (mCall 53 (mCons (aDat (mVar 2)) mNil)) (mLit (.int 0))) (mOr (mAnd (mBin gIsNot (mPk 5) (mLit .none)) (mBin gEq (mBI gLen (mCons (mPk 5) mNil)) (mLit (.int 1)))) (mBin gIs (mPk 5) (mLit .none))))))))
abbrev TR1 : SS := (sSeq (sSet 7 (mSh (mTup (mCons (mRev (mBin gIx (mPk 1) (mLit (.int 0)))) (mCons (mRev (mBin gIx (mPk 1) (mLit (.int 1)))) mNil)))))
  (sSeq (sSet 8 (mSh (mCall 76 (mCons (aDat (mVar 7)) mNil))))
  (sSeq (sIf (mAnd (mBin gIsNot (mPk 8) (mLit .none)) (mNot (mCall 63 (mCons (aDat (mVar 8)) (mCons (aDat (mCall 22 (mCons (aDat (mVar 2)) mNil))) mNil))))) (sRet (mLit (.bool false))) sNil)
  (sSeq (sSet 4 (mSh (mCall 70 (mCons (aCup 0) (mCons (aDat (mLit (.int 3))) mNil)))))
  (sSeq (sPar2 9 10 (mSh (mCall 28 (mCons (aDat (mVar 2)) (mCons (aDat (mVar 4)) (mCons (aDat (mLit (.int 3))) mNil))))) (mSh (mCall 71 (mCons (aDat (mVar 4)) mNil))))
  (sSeq (sFor (mSeq (mCut (mPk 9) (mYes (mLit (.int 1))) mNo)) (gNm 11) (sSeq (sSet 10 (mSh (mCall 47 (mCons (aDat (mVar 1)) (mCons (aDat (mVar 10)) mNil)))))
  (sSeq (sIf (mBin gGt (mBI gMax (mCons (mLc [12] (mSeq (mPk 10)) (gNm 12) (mLit (.bool true)) (mBI gAbs (mCons (mPk 12) mNil))) mNil)) (mBin gPow (mLit (.int 10)) (mLit (.int 9)))) (sRet (mLit (.bool true))) sNil)
  (sIf (mBin gNe (mCall 72 (mCons (aDat (mVar 10)) mNil)) (mPk 11)) (sRet (mLit (.bool false))) sNil))))
  (sRet (mBin gEq (mBin gEq (mCall 53 (mCons (aDat (mVar 2)) mNil)) (mLit (.int 0))) (mOr (mAnd (mBin gIsNot (mPk 5) (mLit .none)) (mBin gEq (mBI gLen (mCons (mPk 5) mNil)) (mLit (.int 1)))) (mBin gIs (mPk 5) (mLit .none)))))))))))
def Fx (A B C D : Int) (fx : PyData) : Prop := (fx = .none ∧ scl A B C D) ∨ ∃ F, fx = .tuple (F.map pd) ∧ Fp C (D - A) (-B) ((A + D) * (A + D) - 4 * (A * D - B * C)) F
theorem stopT2 {cf : CF} {env : Ev} {cs : Cs} {R : Se.Flow → Cs → Prop} (h : W (TR2 cf env) cs R) : W (TR2 cf env) cs R := h
theorem stopT1 {cf : CF} {env : Ev} {cs : Cs} {R : Se.Flow → Cs → Prop} (h : W (TR1 cf env) cs R) : W (TR1 cf env) cs R := h
local macro_rules | `(tactic| walk_at "r") => `(tactic| repeat (first | (with_reducible apply W.setN) | ((fail_if_success (with_reducible apply stopT1)); (fail_if_success (with_reducible apply stopT2)); first | (with_reducible refine St.ok ?_) | (with_reducible refine OS.ok ?_) | walk_at "w")))
theorem cut_path (x r1 r2 r3 : PyData) : cutD [x, r1, r2, r3] (some 1) none = [r1, r2, r3] := rfl
theorem s_tail2 {n : Nat} {L : List Sg} {a b c d A B C D : Int} {cs : Cs} {R : Se.Flow → Cs → Prop} {fx : PyData} {s3 s4 s6 s7 s8 s9 s10 s11 s12 : Se.Slot} (h : Lc L a b c d) (sw : Sw 10000 A B C D) (pr : Pr A B C D a b c d) (hf : Fx A B C D fx) (hc : Cu cs) (hR : ∀ c, Cu c → R (.ret (.bool true)) c) :
    W (TR2 (runFn (n + 11)) [.cup, .sh (ldD B0 L), .sh (t4 A B C D), s3, s4, .sh fx, s6, s7, s8, s9, s10, s11, s12]) cs R := by
  unfold TR2
  walk_at "e"
  refine s_spot (m := 3) (by decide) (by decide) hc fun x z c1 hp bx bz hc1 => ?_
  walk_at "e"
  refine s_path_of (m := 3) sw hp (bx.mono (by decide)) (bz.mono (by decide)) fun r1 r2 r3 ch hb => ?_
  walk_at "e"
  refine s_point hp.ne ((bx.lv (by decide)).mono (by decide)) ((bz.lv (by decide)).mono (by decide)) fun X Z k hk e1 f1 n1 => ?_
  have i0 : Im X Z x z := (Im.of hk e1 f1).symm
  have bX : Bd 1000000000 X := (bx.of_mul hk e1).mono (by decide)
  have bZ : Bd 1000000000 Z := (bz.of_mul hk f1).mono (by decide)
  clear e1 f1
  walk_at "p"
  rw [cut_path]
  refine W.forI (PhI (ldD B0 L) (t4 A B C D) A B C D s3 (.sh (t2 x z)) (.sh fx) s6 s7 s8 (.sh (.tuple [t2 x z, pd r1, pd r2, pd r3])) c1) ⟨rfl, [r1, r2, r3], (x, z), X, Z, _, _, rfl, ch, hb, n1, i0, bX, bZ, rfl⟩ ?_ ?_
  · rintro dd ds ev cc ⟨rfl, rest, p, U, V, t11, t12, h1, h2, h3, h4, h5, h6, h7, rfl⟩
    cases rest with
    | nil => cases h1
    | cons r rest =>
      rw [List.map_cons] at h1
      injection h1 with h1 h1'
      subst h1 h1'
      obtain ⟨⟨g1, g2⟩, g3⟩ := h2
      walk_at "e"
      refine s_led_by h h4 h6 h7 fun U' V' k' hk' e2 f2 n2 bU bV => ?_
      have i1 : Im U' V' (a * U + b * V) (c * U + d * V) := (Im.of hk' e2 f2).symm
      have i2 : Im U' V' (A * U + B * V) (C * U + D * V) := i1.trans (pr.im U V).symm
      have i3 : Im U' V' r.1 r.2 := (i2.trans (h5.map A B C D)).trans g2.symm
      clear e2 f2
      walk_at "e"
      refine Op.of (z := .int (maxL [if U' < 0 then -U' else U', if (0 : Int) < 0 then -0 else 0, if V' < 0 then -V' else V'])) rfl ?_
      walk_at "e"
      refine Op.of (z := .int (10 ^ 9)) rfl ?_
      walk_at "e"
      by_cases hm : 10 ^ 9 < maxL [if U' < 0 then -U' else U', if (0 : Int) < 0 then -0 else 0, if V' < 0 then -V' else V']
      · refine Bo.d (fun _ => ?_) (fun g => absurd hm g)
        walk_at "e"
        exact hR _ hc1
      · refine Bo.d (fun g => absurd g hm) (fun _ => ?_)
        obtain ⟨m1, m2⟩ := bd_max hm
        walk_at "e"
        refine s_place_of (nrm_ne n2) (bU.lv (by decide)) (bV.lv (by decide)) fun P Q' k2 hk2 e3 f3 p3 => ?_
        have i4 : Im P Q' r.1 r.2 := (Im.of hk2 e3 f3).symm.trans i3
        obtain ⟨z1, z2⟩ := i4.eq p3 g1
        walk_at "e"
        rw [z1, z2]
        refine Op.ne2 ?_
        refine Bo.nd (fun g => absurd ⟨rfl, rfl⟩ g) (fun _ => ?_)
        walk_at "e"
        exact ⟨rfl, rest, r, U', V', _, _, rfl, g3, fun q hq => h3 q (List.mem_cons_of_mem _ hq), n2, i3, m1, m2, rfl⟩
  · rintro ev cc ⟨rfl, rest, p, U, V, t11, t12, h1, h2, h3, h4, h5, h6, h7, rfl⟩
    walk_at "e"
    refine s_gauge_of sw ?_
    walk_at "e"
    rcases hf with ⟨rfl, hs⟩ | ⟨F, rfl, fp⟩
    · refine Op.of (z := .bool false) rfl ?_
      walk_at "e"
      refine Op.of (z := .bool true) rfl ?_
      walk_at "e"
      refine Op.of (eqBool _ _) ?_
      walk_at "e"
      have e : (A + D) * (A + D) - 4 * (A * D - B * C) = 0 := by
        obtain ⟨rfl, rfl, rfl⟩ := hs
        grind
      rw [decide_eq_true e]
      exact hR _ hc1
    · refine Op.of (z := .bool true) rfl ?_
      walk_at "e"
      have hl : (((F.map pd).length : Nat) : Int) = 1 ↔ (A + D) * (A + D) - 4 * (A * D - B * C) = 0 := by
        rw [List.length_map, ← fp.one]
        omega
      by_cases g : (((F.map pd).length : Nat) : Int) = 1
      · refine Bo.d (fun _ => ?_) (fun z => absurd g z)
        refine Op.of (eqBool _ _) ?_
        walk_at "e"
        rw [decide_eq_true (hl.mp g)]
        exact hR _ hc1
      · refine Bo.d (fun z => absurd z g) (fun _ => ?_)
        walk_at "e"
        refine Op.of (z := .bool false) rfl ?_
        walk_at "e"
        refine Op.of (eqBool _ _) ?_
        walk_at "e"
        rw [decide_eq_false (fun z => g (hl.mpr z))]
        exact hR _ hc1
theorem s_tail1 {n : Nat} {L : List Sg} {a b c d A B C D : Int} {cs : Cs} {R : Se.Flow → Cs → Prop} {fx : PyData} {s3 s4 s6 s7 s8 s9 s10 s11 s12 : Se.Slot} (h : Lc L a b c d) (sw : Sw 10000 A B C D) (pr : Pr A B C D a b c d) (hf : Fx A B C D fx) (hc : Cu cs) (hR : ∀ c, Cu c → R (.ret (.bool true)) c) :
    W (TR1 (runFn (n + 11)) [.cup, .sh (ldD B0 L), .sh (t4 A B C D), s3, s4, .sh fx, s6, s7, s8, s9, s10, s11, s12]) cs R := by
  obtain ⟨r1, r2⟩ := rev_data h.l
  obtain ⟨a', b', c', d', h', pr'⟩ := s_rev_closed h
  unfold TR1
  walk_at "e"
  unfold ldD
  walk_at "e"
  refine Op.of r1 ?_
  walk_at "e"
  refine Op.of r2 ?_
  walk_at "e"
  refine s_swing_of h' (fun A' B' C' D' sw' pr2 => ?_) ?_
  · walk_at "e"
    refine Op.of (z := .bool true) rfl ?_
    walk_at "e"
    refine s_swing_back sw fun P Q' S T k hk e1 e2 e3 e4 hn => ?_
    have p3 : Pr A' B' C' D' P Q' S T := ((pr2.trans pr').trans pr.undo.symm).trans (Pr.of hk e1 e2 e3 e4)
    obtain ⟨z1, z2, z3, z4⟩ := p3.eq sw'.nrm hn
    subst z1 z2 z3 z4
    walk_at "e"
    refine s_like (k := 1) rfl ?_
    walk_at "r"
    exact s_tail2 h sw pr hf hc hR
  · walk_at "e"
    refine Op.of (z := .bool false) rfl ?_
    walk_at "r"
    exact s_tail2 h sw pr hf hc hR
theorem pr_qf {A B C D a b c d : Int} (h : Pr A B C D a b c d) (x y : Int) : qf C (D - A) (-B) x y = 0 ↔ qf c (d - a) (-b) x y = 0 := by
  obtain ⟨k, m, hk, hm, e1, e2, e3, e4⟩ := h
  have : k * qf C (D - A) (-B) x y = m * qf c (d - a) (-b) x y := by
    have l : ∀ {u v t : Int}, k * u = m * v → k * (u * t) = m * (v * t) := fun z => by rw [← Int.mul_assoc, z, Int.mul_assoc]
    unfold qf
    rw [Int.mul_add, Int.mul_add, Int.mul_add, Int.mul_add, l e3, l (u := D - A) (v := d - a) (by rw [Int.mul_sub, Int.mul_sub, e1, e4]), l (u := -B) (v := -b) (by rw [Int.mul_neg, Int.mul_neg, e2])]
  constructor
  · intro z
    rw [z, Int.mul_zero] at this
    exact (Int.mul_eq_zero.mp this.symm).resolve_left hm
  · intro z
    rw [z, Int.mul_zero] at this
    exact (Int.mul_eq_zero.mp this).resolve_left hk
theorem s_right {n : Nat} {L : List Sg} {cs : Cs} {Q : PyData → Cs → Prop} (lt : Lt B0 L) (hl : lst B0 L = B0) (sl : Sl L) (hc : Cu cs) (q : ∀ cs', Cu cs' → Q (.bool true) cs') : W (runFn (n + 12) 77 [.cup, .dat (ldD B0 L)]) cs Q := by
  rw [rr77]
  refine W.run' rfl ?_
  walk_at "e"
  refine s_is_lead lt ?_
  by_cases hok : ¬okL B0 L
  · have e : (gB B0 L).all id = false := by rw [Bool.eq_false_iff]; exact fun z => hok ((gB_ok L B0).mp z)
    rw [e]
    walk_at "e"
    exact q _ hc
  have hok := Classical.not_not.mp hok
  rw [(gB_ok L B0).mpr hok]
  obtain ⟨a, b, c, d, h⟩ := Lc.of ⟨lt, hok⟩ hl
  walk_at "e"
  refine s_swing_of h (fun A B C D sw pr => ?_) ?_
  · walk_at "e"
    refine s_is_closed h ?_
    walk_at "e"
    refine Op.of (z := .bool false) rfl ?_
    walk_at "e"
    refine Op.of (z := .bool false) rfl ?_
    walk_at "e"
    rw [show rngD 0 (Int.toNat 4) = [PyData.int 0, .int 1, .int 2, .int 3] from rfl]
    refine W.forI (RtI (ldD B0 L) (t4 A B C D)) ⟨hc, _, _, rfl⟩ ?_ ?_
    · rintro dd ds ev cc ⟨hc, s3, s4, rfl⟩
      walk_at "e"
      refine s_spot (m := 5) (by decide) (by decide) hc fun x z c1 hp bx bz hc1 => ?_
      walk_at "e"
      refine s_point hp.ne ((bx.lv (by decide)).mono (by decide)) ((bz.lv (by decide)).mono (by decide)) fun X Z k hk e1 f1 n1 => ?_
      walk_at "e"
      refine s_led_by h n1 ((bx.of_mul hk e1).mono (by decide)) ((bz.of_mul hk f1).mono (by decide)) fun U V k2 hk2 e2 f2 n2 _ _ => ?_
      walk_at "e"
      refine s_carried_place sw hp (m := 5) bx bz (by decide) fun P R k3 hk3 e3 f3 p3 => ?_
      walk_at "e"
      have bP : BE 20 P := ((((BE.of_bd (e := 14) sw.ba (by decide)).mul (BE.of_bd (e := 4) bx (by decide))).add ((BE.of_bd (e := 14) sw.bb (by decide)).mul (BE.of_bd (e := 4) bz (by decide)))).mono (by decide)).of_mul hk3 e3
      have bR : BE 20 R := ((((BE.of_bd (e := 14) sw.bc (by decide)).mul (BE.of_bd (e := 4) bx (by decide))).add ((BE.of_bd (e := 14) sw.bd (by decide)).mul (BE.of_bd (e := 4) bz (by decide)))).mono (by decide)).of_mul hk3 f3
      refine s_point p3.ne (bP.lv (by decide)) (bR.lv (by decide)) fun U' V' k4 hk4 e4 f4 n4 => ?_
      have i1 : Im U V (a * x + b * z) (c * x + d * z) := (Im.of hk2 e2 f2).symm.trans ((Im.of hk e1 f1).symm.map a b c d)
      have i2 : Im U' V' (a * x + b * z) (c * x + d * z) := ((Im.of hk4 e4 f4).symm.trans (Im.of hk3 e3 f3).symm).trans (pr.im x z)
      clear e1 f1 e2 f2 e3 f3 e4 f4
      obtain ⟨rfl, rfl⟩ := (i1.trans i2.symm).eq3 n2 n4
      walk_at "e"
      refine s_like (k := 1) rfl ?_
      walk_at "e"
      exact ⟨hc1, _, _, rfl⟩
    · rintro ev cc ⟨hc, s3, s4, rfl⟩
      walk_at "e"
      refine s_fixed_places sw (fun hs => ?_) fun F ns fp => ?_
      · have hs' : scl a b c d := pr.scl.mp hs
        walk_at "t"
        refine Op.of (z := .bool true) rfl ?_
        walk_at "e"
        refine s_kept_points h sl (fun _ => ?_) (fun N ns => absurd hs' ns)
        walk_at "e"
        refine s_rounds h sl ?_
        walk_at "e"
        refine s_swing_order sw ?_
        rw [pr.ord]
        walk_at "e"
        refine s_like (k := 3) (lk_due0 _) ?_
        walk_at "r"
        refine s_tail1 h sw pr (.inl ⟨rfl, hs⟩) hc ?_
        exact fun c g => q c g
      · have ns' : ¬scl a b c d := fun z => ns (pr.scl.mpr z)
        obtain ⟨N, e1, e2, e3⟩ := s_due fp
        walk_at "t"
        refine Op.of (z := .bool false) rfl ?_
        walk_at "p"
        refine And.intro (line_big (by rw [List.length_map]; have := fp.two; omega)) ?_
        refine lcM _ (fun s => p3d (pt s)) pd (fun s hs => ?_) ?_
        · obtain ⟨x, y⟩ := s
          have hp := ((fp.mem _).mp hs).1
          obtain ⟨l1, l2⟩ := fp.bd _ hs
          show W (lcTurn _ _ _ _ _ (t2 x y)) _ _
          walk_at "e"
          refine s_point hp.ne l1 l2 fun X Z k hk f1 f3 hn => ?_
          have i := (Im.of hk f1 f3).symm.trans (pt_im x y).symm
          obtain ⟨z1, z2⟩ := i.eq3 hn (pt_np hp)
          walk_at "e"
          rw [z1, z2]
          exact ⟨rfl, rfl⟩
        · walk_at "e"
          rw [show (F.map fun s => p3d (pt s)) = (F.map pt).map p3d by rw [List.map_map]; rfl]
          refine Op.of e1 ?_
          walk_at "e"
          refine s_kept_points h sl (fun hs => absurd hs ns') fun M _ nM mM pM => ?_
          rw [e3 M nM (fun s => by rw [mM, pr_qf pr s.1 s.2]) pM]
          walk_at "e"
          refine s_rounds h sl ?_
          walk_at "e"
          refine s_swing_order sw ?_
          rw [pr.ord]
          walk_at "e"
          refine s_like (k := 3) (lk_due N e2 _) ?_
          walk_at "r"
          refine s_tail1 h sw pr (.inr ⟨F, rfl, fp⟩) hc ?_
          exact fun c g => q c g
  · walk_at "e"
    refine s_is_closed h ?_
    walk_at "e"
    refine Op.of (z := .bool false) rfl ?_
    walk_at "e"
    refine Op.of (z := .bool true) rfl ?_
    walk_at "e"
    refine s_is_closed h ?_
    walk_at "e"
    refine Op.of (z := .bool true) rfl ?_
    exact q _ hc

end T
end
section
set_option Elab.async false
set_option linter.all false
set_option maxRecDepth 100000
set_option maxHeartbeats 400000
namespace T
open PySem hiding Flow Arg
open Se Wk Ev Nm
local macro_rules | `(tactic| walk_at "lv") => `(tactic| (repeat' (first | exact Lv.mono (by assumption) (Nat.le_of_ble_eq_true rfl) | exact Lv.mono (Bd.lv (by assumption) (Nat.le_of_ble_eq_true rfl)) (Nat.le_of_ble_eq_true rfl) | apply Lv.mul | apply Lv.add | apply Lv.sub | apply Lv.neg)))
local macro_rules | `(tactic| walk_at "w") => `(tactic| first
  | ((with_reducible apply exI); first | assumption | exact rfl)
  | ((with_reducible apply Op.head); assumption) | ((with_reducible apply Op.of (o := gIx _ _)); exact rfl) | ((with_reducible refine And.intro (And.intro ?_ ?_) ?_); (focus walk_at "lv"); (focus walk_at "lv"))
  | ((with_reducible apply Op.of (o := gLen _)); exact rfl) | ((with_reducible apply Op.of (o := gAll _)); exact rfl) | ((with_reducible apply Op.of (o := gAny _)); exact rfl) | ((with_reducible apply Op.of (o := gSum _)); exact rfl) | ((with_reducible apply Op.of (o := gTuple _)); exact rfl) | ((with_reducible apply Op.of (o := gAbs _)); exact rfl) | ((with_reducible apply Op.of (o := gInt _)); exact rfl) | ((with_reducible apply Op.of (o := gCut _ _ _)); exact rfl)
  | ((with_reducible first | apply W.nz2 | apply W.nz3 | apply W.nz4 | apply W.nz6 | apply W.nz9); exact Nat.le_of_ble_eq_true rfl)
  | (with_reducible first | apply W.stepTr | apply W.stepC | apply W.stepN | apply W.stepMC | apply W.stepMN | apply W.forC | apply W.forN)
  | ((with_reducible refine And.intro ?_ ?_); first | exact Nat.le_of_ble_eq_true rfl | exact rfl) | (with_reducible refine Bo.t ?_) | (with_reducible refine Bo.f ?_) | (with_reducible refine Bo.d (fun _ => ?_) (fun h => absurd (by assumption) h)) | (with_reducible refine Bo.d (fun h => absurd h (by assumption)) (fun _ => ?_)) | (with_reducible refine Bo.nd (fun _ => ?_) (fun h => absurd h (by assumption))) | (with_reducible refine Bo.nd (fun h => absurd (by assumption) h) (fun _ => ?_)) | ((with_reducible apply Op.divE); assumption; assumption; assumption) | (refine Bo.t ?_) | (refine Bo.f ?_))
local macro_rules | `(tactic| walk_at "e") => `(tactic| repeat (first | (with_reducible apply W.setN) | (with_reducible refine St.ok ?_) | (with_reducible refine OS.ok ?_) | walk_at "w"))
local macro_rules | `(tactic| walk_at "i") => `(tactic| ((with_reducible apply W.iteI); (exact rfl); (exact rfl); exact rfl))
local macro_rules | `(tactic| walk_at "t") => `(tactic| repeat (first | (with_reducible apply W.setN) | (with_reducible refine St.ok ?_) | (with_reducible refine OS.ok ?_) | (with_reducible apply W.ite) | walk_at "w"))
local macro_rules | `(tactic| walk_at "p") => `(tactic| repeat (first | (with_reducible apply W.setN) | ((fail_if_success (with_reducible apply stopSt)); (fail_if_success (with_reducible apply stopMt)); (fail_if_success (with_reducible apply stopFo)); first | (with_reducible refine St.ok ?_) | (with_reducible refine OS.ok ?_) | walk_at "w")))
/-! numbers without squares -/
theorem nat_fmod (a b : Nat) : ((a : Int).fmod (b : Int)) = ((a % b : Nat) : Int) := by
  rw [Int.fmod_eq_emod_of_nonneg _ (by omega)]; rfl
theorem nat_fdiv (a b : Nat) : ((a : Int).fdiv (b : Int)) = ((a / b : Nat) : Int) := by
  rw [Int.fdiv_eq_ediv_of_nonneg _ (by omega)]; rfl
def BiI (left own : Nat) (s0 s1 s3 : Se.Slot) (cs : Cs) (m : Nat) (e : Ev) (c : Cs) : Prop := c = cs ∧ ∃ (l k : Nat), 1 ≤ l ∧ l ≤ left ∧ l < 2 ^ m ∧ left = l * own ^ k ∧ k + m ≤ 64 ∧ e = [s0, s1, .sh (.int (l : Nat)), s3, .sh (.int (own : Nat)), .sh (.int (k : Nat))]
def BoI (x : Nat) (s0 : Se.Slot) (sg : Int) (cs : Cs) (m : Nat) (e : Ev) (c : Cs) : Prop := c = cs ∧ ∃ (left found own : Nat) (s5 : Se.Slot), Bs x left found own ∧ own + m = 2000 ∧ left ≤ x ∧ found ≤ x ∧ own ≤ 1500 ∧ e = [s0, .sh (.int sg), .sh (.int (left : Nat)), .sh (.int (found : Nat)), .sh (.int (own : Nat)), s5]
theorem nat_lv {k n : Nat} (h : n < 1000000000000) (hk : 6 ≤ k) : Lv k (n : Int) := by
  refine Lv.mono (k := 6) ?_ hk
  show (n : Int).natAbs < 2 ^ 2 ^ 6
  rw [Int.natAbs_natCast]
  exact Nat.lt_of_lt_of_le h (by decide)
theorem Bs.found_le {x left found own : Nat} (h : Bs x left found own) : found ≤ x ∧ left ≤ x := by
  obtain ⟨s, hs, hx⟩ := h.eq
  have h1 := h.l1
  have h2 := h.f1
  have h3 : 1 ≤ s * s := Nat.mul_pos (by omega) (by omega)
  have h4 : found * left ≤ x := by
    rw [hx]
    exact Nat.le_mul_of_pos_right _ h3
  refine ⟨Nat.le_trans (Nat.le_mul_of_pos_right _ h1) h4, Nat.le_trans (Nat.le_mul_of_pos_left _ h2) h4⟩
abbrev BT : SE := mBin gLe (mBin gMul (mBin gMul (mPk 4) (mPk 4)) (mPk 4)) (mPk 2)
abbrev BW : SS := sSeq (sSet 5 (mSh (mLit (.int 0)))) (sSeq (sWhile 1000000 (mBin gEq (mBin gMod (mPk 2) (mPk 4)) (mLit (.int 0))) (sPar2 2 5 (mSh (mBin gDiv (mPk 2) (mPk 4))) (mSh (mBin gAdd (mPk 5) (mLit (.int 1)))))) (sSeq (sSet 3 (mSh (mBin gMul (mPk 3) (mIf (mBin gEq (mBin gMod (mPk 5) (mLit (.int 2))) (mLit (.int 1))) (mVar 4) (mLit (.int 1)))))) (sSet 4 (mSh (mBin gAdd (mPk 4) (mLit (.int 1)))))))
abbrev BR : SS := sRet (mBin gMul (mBin gMul (mPk 1) (mPk 3)) (mIf (mBin gEq (mBin gMul (mBI gIsqrt (mCons (mPk 2) mNil)) (mBI gIsqrt (mCons (mPk 2) mNil))) (mPk 2)) (mLit (.int 1)) (mVar 2)))
theorem s_bare {n : Nat} {x : Int} {cs : Cs} {Q : PyData → Cs → Prop} (hx : x ≠ 0) (bx : Bd 1000000000 x) (q : ∀ b, Sq x b → Q (.int b) cs) : W (runFn (n + 1) 55 [.dat (.int x)]) cs Q := by
  have hb := bx.le
  have hax : x.natAbs ≤ 1000000000 := bx
  have l12 : ∀ {k : Nat}, k ≤ 1000000000 → Lv 8 (k : Int) := fun h => nat_lv (by omega) (by decide)
  have l1 : Lv 6 (1 : Int) := Bd.lv (n := 1) (show (1 : Int).natAbs ≤ 1 from by decide) (by decide)
  rw [rr55]
  refine W.run' rfl ?_
  have go : ∀ sg : Int, (0 < x ∧ sg = 1) ∨ (x < 0 ∧ sg = -1) → W (whL (BT (runFn n)) (BW (runFn n)) 1000000 [.sh (.int x), .sh (.int sg), .sh (.int (x.natAbs : Nat)), .sh (.int ((1 : Nat) : Int)), .sh (.int ((2 : Nat) : Int)), .no]) cs fun fl c => match fl with
    | .next e => W (BR (runFn n) e) c fun fl c => Q (match fl with
      | .next _ => .none
      | .ret d => d) c
    | .ret d => Q d c := fun sg hsg => by
    have lsg : Lv 8 sg := (Bd.lv (n := 1) (show sg.natAbs ≤ 1 by omega) (by decide)).mono (by decide)
    have b0 : Bs x.natAbs x.natAbs 1 2 := ⟨by omega, by decide, by decide, ⟨1, by decide, by simp⟩, fun r hr hd => by
      have h1 := Nat.le_of_dvd (by decide) hd
      have h2 := hr.two
      have := Nat.mul_le_mul h2 h2
      omega, fun q hq _ => Nat.coprime_one_right q, fun d h1 h2 => by omega⟩
    refine W.whI (BoI x.natAbs (.sh (.int x)) sg cs) ?_ (m := 1998) ⟨rfl, _, _, _, _, b0, by decide, Nat.le_refl _, by omega, by decide, rfl⟩ (by decide)
    rintro m e c ⟨rfl, left, found, own, s5, b, hm, hl, hf, ho, rfl⟩
    have lo : Lv 6 (own : Int) := nat_lv (by omega) (by decide)
    walk_at "e"
    refine Bo.d (fun h => ?_) (fun h => ?_)
    · have hc : own * own * own ≤ left := by exact_mod_cast h
      have ho2 : own ≤ 1000 := by
        refine Nat.le_of_not_lt fun z => ?_
        have := Nat.mul_le_mul (Nat.mul_le_mul (show 1001 ≤ own by omega) (show 1001 ≤ own by omega)) (show 1001 ≤ own by omega)
        omega
      have ho1 := b.o2
      walk_at "e"
      refine W.swh ?_
      have hlt : left < 2 ^ 40 := Nat.lt_of_le_of_lt (show left ≤ 1000000000 by omega) (by decide)
      refine W.whI (BiI left own (.sh (.int x)) (.sh (.int sg)) (.sh (.int (found : Nat))) c) ?_ (m := 40) ⟨rfl, left, 0, b.l1, Nat.le_refl _, hlt, by simp, by decide, rfl⟩ (by decide)
      rintro m' e' c' ⟨rfl, l, k, g1, g2, g3, g4, g5, rfl⟩
      have ho' : ((own : Nat) : Int) ≠ 0 := by omega
      walk_at "e"
      refine Op.mod ho' ?_
      walk_at "e"
      rw [nat_fmod]
      refine Bo.d (fun z => ?_) (fun z => ?_)
      · walk_at "e"
        refine Op.div ho' (lo.mono (by decide)) ?_
        walk_at "e"
        rw [nat_fdiv]
        have hz : l % own = 0 := by omega
        have hdv : l = (l / own) * own := by have := Nat.div_add_mod l own; rw [hz, Nat.mul_comm] at this; omega
        have hlo : 1 ≤ l / own := by
          refine Nat.pos_of_ne_zero fun y => ?_
          rw [y] at hdv
          omega
        have hm' : m' ≠ 0 := fun y => by
          subst y
          simp at g3
          omega
        refine ⟨m' - 1, by omega, rfl, l / own, k + 1, hlo, Nat.le_trans (Nat.div_le_self _ _) g2, ?_, ?_, by omega, rfl⟩
        · have h2 : l / own * 2 ≤ l / own * own := Nat.mul_le_mul_left _ ho1
          obtain ⟨j, rfl⟩ : ∃ j, m' = j + 1 := ⟨m' - 1, by omega⟩
          rw [Nat.pow_succ] at g3
          simp only [Nat.add_sub_cancel]
          omega
        · rw [g4, Nat.pow_succ']
          have : l / own * (own * own ^ k) = (l / own * own) * own ^ k := by rw [Nat.mul_assoc]
          rw [this, ← hdv]
      · have hn : ¬own ∣ l := fun hd => z (by rw [Nat.mod_eq_zero_of_dvd hd]; rfl)
        have b' := b.step g4 hn
        obtain ⟨fl1, fl2⟩ := b'.found_le
        have lf : Lv 8 (found : Int) := l12 (by omega)
        walk_at "e"
        refine W.ite ?_
        walk_at "e"
        refine Op.mod (j := 2) (by decide) ?_
        walk_at "e"
        rw [show ((k : Nat) : Int).fmod 2 = ((k % 2 : Nat) : Int) from nat_fmod k 2]
        by_cases hk : k % 2 = 1
        · have hk' : ((k % 2 : Nat) : Int) = 1 := by omega
          walk_at "t"
          rw [if_pos hk] at b' fl1
          exact ⟨m - 1, by omega, rfl, l, found * own, own + 1, .sh (.int (k : Nat)), b', by omega, by omega, fl1, by omega, rfl⟩
        · have hk' : ¬((k % 2 : Nat) : Int) = 1 := by omega
          walk_at "t"
          rw [if_neg hk, Nat.mul_one] at b' fl1
          rw [Int.mul_one]
          exact ⟨m - 1, by omega, rfl, l, found, own + 1, .sh (.int (k : Nat)), b', by omega, by omega, fl1, by omega, rfl⟩
    · have hc : left < own * own * own := by
        have : ¬((own * own * own : Nat) : Int) ≤ (left : Int) := by simpa using h
        omega
      obtain ⟨s, hs, d1, d2⟩ := b.done hc
      obtain ⟨r, hr, r1, r2, lr⟩ := isq_ex (g := (left : Int)) (by omega) (by omega)
      have lf : Lv 8 (found : Int) := l12 (by omega)
      have ll : Lv 8 (left : Int) := l12 (by omega)
      have hf1 := b.f1
      have hl1 := b.l1
      have sgn : ∀ k : Nat, 1 ≤ k → (sg * (k : Int)).natAbs = k ∧ ((0 < x ∧ 0 < sg * (k : Int)) ∨ (x < 0 ∧ sg * (k : Int) < 0)) := fun k hk => by
        rcases hsg with ⟨h1, rfl⟩ | ⟨h1, rfl⟩
        · exact ⟨by rw [Int.one_mul]; rfl, .inl ⟨h1, by omega⟩⟩
        · exact ⟨by rw [Int.neg_mul, Int.one_mul, Int.natAbs_neg]; rfl, .inr ⟨h1, by omega⟩⟩
      walk_at "e"
      by_cases hq : (r : Int) * r = left
      · refine W.ite ?_
        walk_at "e"
        refine Op.of hr ?_
        walk_at "e"
        refine Op.of hr ?_
        walk_at "e"
        obtain ⟨e1, e2⟩ := d1 r (by exact_mod_cast hq)
        obtain ⟨z1, z2⟩ := sgn (found * 1) (by omega)
        rw [show sg * (found : Int) * 1 = sg * ((found * 1 : Nat) : Int) by simp]
        exact q _ ⟨by rw [z1]; exact e2, ⟨s, hs, by rw [z1]; exact e1⟩, z2⟩
      · refine W.ite ?_
        walk_at "e"
        refine Op.of hr ?_
        walk_at "e"
        refine Op.of hr ?_
        walk_at "e"
        obtain ⟨e1, e2⟩ := d2 (fun t ht => hq (root_uniq r1 r2 (s := (t : Int)) (by exact_mod_cast ht)))
        obtain ⟨z1, z2⟩ := sgn (found * left) (Nat.mul_pos hf1 hl1)
        rw [show sg * (found : Int) * (left : Int) = sg * ((found * left : Nat) : Int) by rw [Int.natCast_mul, Int.mul_assoc]]
        exact q _ ⟨by rw [z1]; exact e2, ⟨s, hs, by rw [z1]; exact e1⟩, z2⟩
  by_cases hp : 0 < x
  · walk_at "t"
    refine W.swh ?_
    have := go 1 (.inl ⟨hp, rfl⟩)
    rw [absI]
    exact this
  · walk_at "t"
    refine W.swh ?_
    have := go (-1) (.inr ⟨by omega, rfl⟩)
    rw [absI]
    exact this

end T
end
section
set_option Elab.async false
set_option linter.all false
set_option maxRecDepth 100000
set_option maxHeartbeats 400000
namespace T
open PySem hiding Flow Arg
open Se Wk Ev Nm
local macro_rules | `(tactic| walk_at "lv") => `(tactic| (repeat' (first | exact Lv.mono (by assumption) (Nat.le_of_ble_eq_true rfl) | exact Lv.mono (Bd.lv (by assumption) (Nat.le_of_ble_eq_true rfl)) (Nat.le_of_ble_eq_true rfl) | apply Lv.mul | apply Lv.add | apply Lv.sub | apply Lv.neg)))
local macro_rules | `(tactic| walk_at "w") => `(tactic| first
  | ((with_reducible apply exI); first | assumption | exact rfl)
  | ((with_reducible apply Op.head); assumption) | ((with_reducible apply Op.of (o := gIx _ _)); exact rfl) | ((with_reducible refine And.intro (And.intro ?_ ?_) ?_); (focus walk_at "lv"); (focus walk_at "lv"))
  | ((with_reducible apply Op.of (o := gLen _)); exact rfl) | ((with_reducible apply Op.of (o := gAll _)); exact rfl) | ((with_reducible apply Op.of (o := gAny _)); exact rfl) | ((with_reducible apply Op.of (o := gSum _)); exact rfl) | ((with_reducible apply Op.of (o := gTuple _)); exact rfl) | ((with_reducible apply Op.of (o := gAbs _)); exact rfl) | ((with_reducible apply Op.of (o := gInt _)); exact rfl) | ((with_reducible apply Op.of (o := gCut _ _ _)); exact rfl)
  | ((with_reducible first | apply W.nz2 | apply W.nz3 | apply W.nz4 | apply W.nz6 | apply W.nz9); exact Nat.le_of_ble_eq_true rfl)
  | (with_reducible first | apply W.stepTr | apply W.stepC | apply W.stepN | apply W.stepMC | apply W.stepMN | apply W.forC | apply W.forN)
  | ((with_reducible refine And.intro ?_ ?_); first | exact Nat.le_of_ble_eq_true rfl | exact rfl) | (with_reducible refine Bo.t ?_) | (with_reducible refine Bo.f ?_) | (with_reducible refine Bo.d (fun _ => ?_) (fun h => absurd (by assumption) h)) | (with_reducible refine Bo.d (fun h => absurd h (by assumption)) (fun _ => ?_)) | (with_reducible refine Bo.nd (fun _ => ?_) (fun h => absurd h (by assumption))) | (with_reducible refine Bo.nd (fun h => absurd (by assumption) h) (fun _ => ?_)) | ((with_reducible apply Op.divE); assumption; assumption; assumption) | (refine Bo.t ?_) | (refine Bo.f ?_))
local macro_rules | `(tactic| walk_at "e") => `(tactic| repeat (first | (with_reducible apply W.setN) | (with_reducible refine St.ok ?_) | (with_reducible refine OS.ok ?_) | walk_at "w"))
local macro_rules | `(tactic| walk_at "i") => `(tactic| ((with_reducible apply W.iteI); (exact rfl); (exact rfl); exact rfl))
local macro_rules | `(tactic| walk_at "t") => `(tactic| repeat (first | (with_reducible apply W.setN) | (with_reducible refine St.ok ?_) | (with_reducible refine OS.ok ?_) | (with_reducible apply W.ite) | walk_at "w"))
local macro_rules | `(tactic| walk_at "p") => `(tactic| repeat (first | (with_reducible apply W.setN) | ((fail_if_success (with_reducible apply stopSt)); (fail_if_success (with_reducible apply stopMt)); (fail_if_success (with_reducible apply stopFo)); first | (with_reducible refine St.ok ?_) | (with_reducible refine OS.ok ?_) | walk_at "w")))
/-! likeness of swings -/
def Shp (a b c d : Int) (z : PyData) : Prop :=
  (scl a b c d ∧ z = .tuple [.str "none"]) ∨ (¬scl a b c d ∧ a + d = 0 ∧ ∃ s, Sq (-(a * d - b * c)) s ∧ z = .tuple [.str "pair", .int s]) ∨
  (¬scl a b c d ∧ a + d ≠ 0 ∧ (a + d) * (a + d) - 4 * (a * d - b * c) = 0 ∧ z = .tuple [.str "step"]) ∨
  (¬scl a b c d ∧ a + d ≠ 0 ∧ (a + d) * (a + d) - 4 * (a * d - b * c) ≠ 0 ∧ ∃ N D k, k ≠ 0 ∧ (a + d) * (a + d) = k * N ∧ a * d - b * c = k * D ∧ Pl N D ∧ z = .tuple [.str "number", t2 N D])
theorem Shp.shp {a b c d : Int} {z : PyData} (h : Shp a b c d z) : Se.shp z = true := by
  rcases h with ⟨_, rfl⟩ | ⟨_, _, s, _, rfl⟩ | ⟨_, _, _, rfl⟩ | ⟨_, _, _, N, D, k, _, _, _, _, rfl⟩ <;> kernel_rfl
/-- the same trace and measure, up to a factor -/
structure Al (a b c d a' b' c' d' : Int) : Prop where
  s : scl a b c d ↔ scl a' b' c' d'
  ex : ∃ u v : Int, u ≠ 0 ∧ v ≠ 0 ∧ u * (a + d) = v * (a' + d') ∧ u * u * (a * d - b * c) = v * v * (a' * d' - b' * c')
theorem Al.eq {a b c d a' b' c' d' : Int} {x y : PyData} (h : Al a b c d a' b' c' d') (hd : a' * d' - b' * c' ≠ 0) (hx : Shp a b c d x) (hy : Shp a' b' c' d' y) : x = y := by
  obtain ⟨hs, u, v, hu, hv, e1, e2⟩ := h
  unfold Shp at hx hy
  generalize a + d = t at *
  generalize a' + d' = t' at *
  generalize a * d - b * c = e at *
  generalize a' * d' - b' * c' = e' at *
  have e3 : u * u * (t * t) = v * v * (t' * t') := by
    have z1 : u * u * (t * t) = (u * t) * (u * t) := by clear e1 e2; grind
    have z2 : v * v * (t' * t') = (v * t') * (v * t') := by clear e1 e2; grind
    rw [z1, z2, e1]
  have huu : u * u ≠ 0 := Int.mul_ne_zero hu hu
  have hvv : v * v ≠ 0 := Int.mul_ne_zero hv hv
  have t0 : t = 0 ↔ t' = 0 := by
    constructor
    · intro h; rw [h, Int.mul_zero] at e1; exact (Int.mul_eq_zero.mp e1.symm).resolve_left hv
    · intro h; rw [h, Int.mul_zero] at e1; exact (Int.mul_eq_zero.mp e1).resolve_left hu
  have e4 : u * u * (t * t - 4 * e) = v * v * (t' * t' - 4 * e') := by
    rw [Int.mul_sub, Int.mul_sub, e3, Int.mul_left_comm (u * u) 4 e, Int.mul_left_comm (v * v) 4 e', e2]
  have g0 : t * t - 4 * e = 0 ↔ t' * t' - 4 * e' = 0 := by
    constructor
    · intro h; rw [h, Int.mul_zero] at e4; exact (Int.mul_eq_zero.mp e4.symm).resolve_left hvv
    · intro h; rw [h, Int.mul_zero] at e4; exact (Int.mul_eq_zero.mp e4).resolve_left huu
  rcases hx with ⟨h1, rfl⟩ | ⟨h1, h2, s, h3, rfl⟩ | ⟨h1, h2, h3, rfl⟩ | ⟨h1, h2, h3, N, D, k, hk, h4, h5, h6, rfl⟩
  · rcases hy with ⟨_, rfl⟩ | ⟨g1, _⟩ | ⟨g1, _⟩ | ⟨g1, _⟩
    · rfl
    · exact absurd (hs.mp h1) g1
    · exact absurd (hs.mp h1) g1
    · exact absurd (hs.mp h1) g1
  · rcases hy with ⟨g1, rfl⟩ | ⟨g1, g2, s', g3, rfl⟩ | ⟨g1, g2, _⟩ | ⟨g1, g2, _⟩
    · exact absurd (hs.mpr g1) h1
    · rw [h3.uniq g3 hu hv (by rw [Int.mul_neg, Int.mul_neg, e2])]
    · exact absurd (t0.mp h2) g2
    · exact absurd (t0.mp h2) g2
  · rcases hy with ⟨g1, rfl⟩ | ⟨g1, g2, s', g3, rfl⟩ | ⟨g1, g2, g3, rfl⟩ | ⟨g1, g2, g3, _⟩
    · exact absurd (hs.mpr g1) h1
    · exact absurd (t0.mpr g2) h2
    · rfl
    · exact absurd (g0.mp h3) g3
  · rcases hy with ⟨g1, rfl⟩ | ⟨g1, g2, s', g3, rfl⟩ | ⟨g1, g2, g3, rfl⟩ | ⟨g1, g2, g3, N', D', k', hk', g4, g5, g6, rfl⟩
    · exact absurd (hs.mpr g1) h1
    · exact absurd (t0.mpr g2) h2
    · exact absurd (g0.mpr g3) h3
    · rw [h4, g4, ← Int.mul_assoc, ← Int.mul_assoc] at e3
      rw [h5, g5, ← Int.mul_assoc, ← Int.mul_assoc] at e2
      obtain ⟨z1, z2⟩ := h6.eq g6 (Int.mul_ne_zero huu hk) (Int.mul_ne_zero hvv hk') e3 e2
      rw [z1, z2]
theorem s_shape {n : Nat} {a b c d : Int} {cs : Cs} {Q : PyData → Cs → Prop} (sw : Sw 10000 a b c d) (q : ∀ z, Shp a b c d z → Q z cs) : W (runFn (n + 3) 56 [.dat (t4 a b c d)]) cs Q := by
  have LS : ∀ {x : Int}, Bd 10000 x → Lv 9 x := fun g => (g.lv (by decide)).mono (by decide)
  have la := LS sw.ba
  have lb := LS sw.bb
  have lc := LS sw.bc
  have ld := LS sw.bd
  have bd : Bd 1000000000 (-(a * d - b * c)) := (((sw.ba.mul sw.bd).sub (sw.bb.mul sw.bc)).neg).mono (by decide)
  rw [rr56]
  refine W.run' rfl ?_
  walk_at "e"
  refine Op.eq4 ?_
  by_cases h : a = 1 ∧ b = 0 ∧ c = 0 ∧ d = 1
  · walk_at "e"
    exact q _ (.inl ⟨⟨h.2.1, h.2.2.1, by omega⟩, rfl⟩)
  have ns : ¬scl a b c d := fun ⟨h1, h2, h3⟩ => h (by
    subst h1 h2 h3
    have := sw.nrm
    have g1 := this.1
    have g2 := this.2
    simp [gcdL] at g1
    simp only [fnz] at g2
    split at g2
    · omega
    · omega)
  walk_at "e"
  refine s_trace ?_
  by_cases ht : a + d = 0
  · walk_at "e"
    refine s_measure (la.mono (by decide)) (lb.mono (by decide)) (lc.mono (by decide)) (ld.mono (by decide)) ?_
    walk_at "e"
    refine s_bare (by have := sw.det; omega) bd fun s hs => ?_
    walk_at "e"
    exact q _ (.inr (.inl ⟨ns, ht, s, hs, rfl⟩))
  walk_at "e"
  refine s_gauge (la.mono (by decide)) (lb.mono (by decide)) (lc.mono (by decide)) (ld.mono (by decide)) ?_
  by_cases hg : (a + d) * (a + d) - 4 * (a * d - b * c) = 0
  · walk_at "e"
    exact q _ (.inr (.inr (.inl ⟨ns, ht, hg, rfl⟩)))
  walk_at "e"
  rw [rr24]
  refine W.run' rfl ?_
  walk_at "e"
  refine s_trace ?_
  walk_at "e"
  refine s_trace ?_
  walk_at "e"
  refine s_measure (la.mono (by decide)) (lb.mono (by decide)) (lc.mono (by decide)) (ld.mono (by decide)) ?_
  walk_at "e"
  refine s_lowest sw.det (by walk_at "lv") (by walk_at "lv") fun N D k hk e1 e2 hp => ?_
  walk_at "e"
  exact q _ (.inr (.inr (.inr ⟨ns, ht, hg, N, D, k, hk, e1, e2, hp, rfl⟩)))
theorem s_alike {n : Nat} {a b c d a' b' c' d' : Int} {cs : Cs} {Q : PyData → Cs → Prop} (sw : Sw 10000 a b c d) (sw' : Sw 10000 a' b' c' d') (h : Al a b c d a' b' c' d') (q : Q (.bool true) cs) : W (runFn (n + 5) 57 [.dat (t4 a b c d), .dat (t4 a' b' c' d')]) cs Q := by
  rw [rr57]
  refine W.run' rfl ?_
  walk_at "e"
  refine s_need_two sw sw' ?_
  walk_at "e"
  refine s_shape sw fun x hx => ?_
  walk_at "e"
  refine s_shape sw' fun y hy => ?_
  exact Op.eqT (h.eq sw'.det hx hy) hx.shp q
theorem scl_mul {a b c d a' b' c' d' : Int} (h : a * d - b * c ≠ 0) (g : scl (a' * a + b' * c) (a' * b + b' * d) (c' * a + d' * c) (c' * b + d' * d)) : scl (a * a' + b * c') (a * b' + b * d') (c * a' + d * c') (c * b' + d * d') := by
  obtain ⟨g1, g2, g3⟩ := g
  generalize hl : a' * a + b' * c = l at *
  have f1 : (a * d - b * c) * a' = l * d := by
    have : (a * d - b * c) * a' = d * (a' * a + b' * c) - c * (a' * b + b' * d) := by clear g1 g2 g3 hl; grind
    rw [this, hl, g1]; simp [Int.mul_comm]
  have f2 : (a * d - b * c) * b' = -(l * b) := by
    have : (a * d - b * c) * b' = a * (a' * b + b' * d) - b * (a' * a + b' * c) := by clear g1 g2 g3 hl f1; grind
    rw [this, hl, g1]; simp [Int.mul_comm]
  have f3 : (a * d - b * c) * c' = -(l * c) := by
    have : (a * d - b * c) * c' = d * (c' * a + d' * c) - c * (c' * b + d' * d) := by clear g1 g2 g3 hl f1 f2; grind
    rw [this, g2, ← g3]; simp [Int.mul_comm]
  have f4 : (a * d - b * c) * d' = l * a := by
    have : (a * d - b * c) * d' = a * (c' * b + d' * d) - b * (c' * a + d' * c) := by clear g1 g2 g3 hl f1 f2 f3; grind
    rw [this, g2, ← g3]; simp [Int.mul_comm]
  clear g1 g2 g3 hl
  have z : ∀ {x : Int}, (a * d - b * c) * x = 0 → x = 0 := fun e => (Int.mul_eq_zero.mp e).resolve_left h
  refine ⟨z ?_, z ?_, ?_⟩
  · have : (a * d - b * c) * (a * b' + b * d') = a * ((a * d - b * c) * b') + b * ((a * d - b * c) * d') := by clear f1 f2 f3 f4; grind
    rw [this, f2, f4]; clear this f1 f2 f3 f4; grind
  · have : (a * d - b * c) * (c * a' + d * c') = c * ((a * d - b * c) * a') + d * ((a * d - b * c) * c') := by clear f1 f2 f3 f4; grind
    rw [this, f1, f3]; clear this f1 f2 f3 f4; grind
  · have e : a * a' + b * c' - (c * b' + d * d') = 0 := z (by
      have : (a * d - b * c) * (a * a' + b * c' - (c * b' + d * d')) = a * ((a * d - b * c) * a') + b * ((a * d - b * c) * c') - (c * ((a * d - b * c) * b') + d * ((a * d - b * c) * d')) := by clear f1 f2 f3 f4; grind
      rw [this, f1, f2, f3, f4]; clear this f1 f2 f3 f4; grind)
    omega
theorem al_of {A B C D A' B' C' D' a b c d a' b' c' d' : Int} (h1 : a * d - b * c ≠ 0) (h2 : a' * d' - b' * c' ≠ 0) (p : Pr A B C D (a' * a + b' * c) (a' * b + b' * d) (c' * a + d' * c) (c' * b + d' * d)) (r : Pr A' B' C' D' (a * a' + b * c') (a * b' + b * d') (c * a' + d * c') (c * b' + d * d')) : Al A B C D A' B' C' D' := by
  refine ⟨?_, ?_⟩
  · rw [p.scl, r.scl]
    exact ⟨fun g => scl_mul h1 g, fun g => scl_mul h2 g⟩
  · have ht : (a' * a + b' * c) + (c' * b + d' * d) = (a * a' + b * c') + (c * b' + d * d') := by grind
    have hd : (a' * a + b' * c) * (c' * b + d' * d) - (a' * b + b' * d) * (c' * a + d' * c) = (a * a' + b * c') * (c * b' + d * d') - (a * b' + b * d') * (c * a' + d * c') := by grind
    obtain ⟨k, m, hk, hm, e1, e2, e3, e4⟩ := p
    obtain ⟨k', m', hk', hm', f1, f2, f3, f4⟩ := r
    generalize a' * a + b' * c = x at *
    generalize a' * b + b' * d = y at *
    generalize c' * a + d' * c = z at *
    generalize c' * b + d' * d = w at *
    generalize a * a' + b * c' = x' at *
    generalize a * b' + b * d' = y' at *
    generalize c * a' + d * c' = z' at *
    generalize c * b' + d * d' = w' at *
    refine ⟨k * m', k' * m, Int.mul_ne_zero hk hm', Int.mul_ne_zero hk' hm, ?_, ?_⟩
    · have z1 : k * m' * (A + D) = m' * (k * A + k * D) := by clear e1 e2 e3 e4 f1 f2 f3 f4 ht hd; grind
      have z2 : k' * m * (A' + D') = m * (k' * A' + k' * D') := by clear e1 e2 e3 e4 f1 f2 f3 f4 ht hd z1; grind
      rw [z1, z2, e1, e4, f1, f4]
      have z3 : m' * (m * x + m * w) = m' * m * (x + w) := by clear e1 e2 e3 e4 f1 f2 f3 f4 ht hd z1 z2; grind
      have z4 : m * (m' * x' + m' * w') = m' * m * (x' + w') := by clear e1 e2 e3 e4 f1 f2 f3 f4 ht hd z1 z2 z3; grind
      rw [z3, z4, ht]
    · have z1 : k * m' * (k * m') * (A * D - B * C) = m' * m' * ((k * A) * (k * D) - (k * B) * (k * C)) := by clear e1 e2 e3 e4 f1 f2 f3 f4 ht hd; grind
      have z2 : k' * m * (k' * m) * (A' * D' - B' * C') = m * m * ((k' * A') * (k' * D') - (k' * B') * (k' * C')) := by clear e1 e2 e3 e4 f1 f2 f3 f4 ht hd z1; grind
      rw [z1, z2, e1, e2, e3, e4, f1, f2, f3, f4]
      have z3 : m' * m' * (m * x * (m * w) - m * y * (m * z)) = (m' * m) * (m' * m) * (x * w - y * z) := by clear e1 e2 e3 e4 f1 f2 f3 f4 ht hd z1 z2; grind
      have z4 : m * m * (m' * x' * (m' * w') - m' * y' * (m' * z')) = (m' * m) * (m' * m) * (x' * w' - y' * z') := by clear e1 e2 e3 e4 f1 f2 f3 f4 ht hd z1 z2 z3; grind
      rw [z3, z4, hd]

end T
end
section
set_option Elab.async false
set_option linter.all false
set_option maxRecDepth 100000
set_option maxHeartbeats 400000
namespace T
open PySem hiding Flow Arg
open Se Wk Ev Nm
local macro_rules | `(tactic| walk_at "lv") => `(tactic| (repeat' (first | exact Lv.mono (by assumption) (Nat.le_of_ble_eq_true rfl) | exact Lv.mono (Bd.lv (by assumption) (Nat.le_of_ble_eq_true rfl)) (Nat.le_of_ble_eq_true rfl) | apply Lv.mul | apply Lv.add | apply Lv.sub | apply Lv.neg)))
local macro_rules | `(tactic| walk_at "w") => `(tactic| first
  | ((with_reducible apply exI); first | assumption | exact rfl)
  | ((with_reducible apply Op.head); assumption) | ((with_reducible apply Op.of (o := gIx _ _)); exact rfl) | ((with_reducible refine And.intro (And.intro ?_ ?_) ?_); (focus walk_at "lv"); (focus walk_at "lv"))
  | ((with_reducible apply Op.of (o := gLen _)); exact rfl) | ((with_reducible apply Op.of (o := gAll _)); exact rfl) | ((with_reducible apply Op.of (o := gAny _)); exact rfl) | ((with_reducible apply Op.of (o := gSum _)); exact rfl) | ((with_reducible apply Op.of (o := gTuple _)); exact rfl) | ((with_reducible apply Op.of (o := gAbs _)); exact rfl) | ((with_reducible apply Op.of (o := gInt _)); exact rfl) | ((with_reducible apply Op.of (o := gCut _ _ _)); exact rfl)
  | ((with_reducible first | apply W.nz2 | apply W.nz3 | apply W.nz4 | apply W.nz6 | apply W.nz9); exact Nat.le_of_ble_eq_true rfl)
  | (with_reducible first | apply W.stepTr | apply W.stepC | apply W.stepN | apply W.stepMC | apply W.stepMN | apply W.forC | apply W.forN)
  | ((with_reducible refine And.intro ?_ ?_); first | exact Nat.le_of_ble_eq_true rfl | exact rfl) | (with_reducible refine Bo.t ?_) | (with_reducible refine Bo.f ?_) | (with_reducible refine Bo.d (fun _ => ?_) (fun h => absurd (by assumption) h)) | (with_reducible refine Bo.d (fun h => absurd h (by assumption)) (fun _ => ?_)) | (with_reducible refine Bo.nd (fun _ => ?_) (fun h => absurd h (by assumption))) | (with_reducible refine Bo.nd (fun h => absurd (by assumption) h) (fun _ => ?_)) | ((with_reducible apply Op.divE); assumption; assumption; assumption) | (refine Bo.t ?_) | (refine Bo.f ?_))
local macro_rules | `(tactic| walk_at "e") => `(tactic| repeat (first | (with_reducible apply W.setN) | (with_reducible refine St.ok ?_) | (with_reducible refine OS.ok ?_) | walk_at "w"))
local macro_rules | `(tactic| walk_at "i") => `(tactic| ((with_reducible apply W.iteI); (exact rfl); (exact rfl); exact rfl))
local macro_rules | `(tactic| walk_at "t") => `(tactic| repeat (first | (with_reducible apply W.setN) | (with_reducible refine St.ok ?_) | (with_reducible refine OS.ok ?_) | (with_reducible apply W.ite) | walk_at "w"))
local macro_rules | `(tactic| walk_at "p") => `(tactic| repeat (first | (with_reducible apply W.setN) | ((fail_if_success (with_reducible apply stopSt)); (fail_if_success (with_reducible apply stopMt)); (fail_if_success (with_reducible apply stopFo)); first | (with_reducible refine St.ok ?_) | (with_reducible refine OS.ok ?_) | walk_at "w")))
/-! leads behind each other -/
theorem lin_app (b : P3) (L M : List Sg) : linD b L ++ (M.map fun x => x.1).map T3 = linD b (L ++ M) := by simp [linD]
theorem cen_app (L M : List Sg) : cenD L ++ cenD M = cenD (L ++ M) := by simp [cenD]
theorem s_joined {n : Nat} {L M : List Sg} {cs : Cs} {Q : PyData → Cs → Prop} (h : Lk B0 L) (g : Lk B0 M) (hl : lst B0 L = B0) (hm : L.length + M.length ≤ 8) (q : Q (ldD B0 (L ++ M)) cs) : W (runFn (n + 7) 50 [.dat (ldD B0 L), .dat (ldD B0 M)]) cs Q := by
  have l1 := lin_len B0 L
  have l2 := lin_len B0 M
  have c1 := cen_len L
  have c2 := cen_len M
  rw [rr50]
  refine W.run' rfl ?_
  walk_at "e"
  refine s_need_lead h ?_
  walk_at "e"
  refine s_need_lead g ?_
  unfold ldD
  walk_at "e"
  refine Op.of (lst_ix hl) ?_
  walk_at "e"
  refine Op.of (lin_ix0 B0 M) ?_
  walk_at "e"
  refine Op.ne3 ?_
  refine Bo.nd (fun z => absurd ⟨rfl, rfl, rfl⟩ z) (fun _ => ?_)
  walk_at "e"
  rw [l1, l2]
  refine Bo.d (fun z => by exfalso; omega) (fun _ => ?_)
  walk_at "e"
  rw [cut_lin]
  have e1 : gAdd (.tuple (linD B0 L)) (.tuple ((M.map fun x => x.1).map T3)) = some (.tuple (linD B0 (L ++ M))) := by
    show (if (linD B0 L).length + ((M.map fun x => x.1).map T3).length ≤ line then some (PyData.tuple (linD B0 L ++ (M.map fun x => x.1).map T3)) else none) = _
    rw [if_pos (line_big (by rw [List.length_map, List.length_map]; omega)), lin_app]
  refine Op.of e1 ?_
  walk_at "e"
  have e2 : gAdd (.tuple (cenD L)) (.tuple (cenD M)) = some (.tuple (cenD (L ++ M))) := by
    show (if (cenD L).length + (cenD M).length ≤ line then some (PyData.tuple (cenD L ++ cenD M)) else none) = _
    rw [if_pos (line_big (by omega)), cen_app]
  refine Op.of e2 ?_
  walk_at "e"
  exact q
theorem lc_app {L M : List Sg} {a b c d a' b' c' d' : Int} (h : Lc L a b c d) (g : Lc M a' b' c' d') (hm : L.length + M.length ≤ 8) : Lc (L ++ M) (a' * a + b' * c) (a' * b + b' * d) (c' * a + d' * c) (c' * b + d' * d) := by
  refine ⟨⟨⟨h.k.t.b, fun x hx => ?_, ?_, ?_⟩, app_ok h.k.ok (by rw [h.l]; exact g.k.ok)⟩, by rw [app_lst, h.l, g.l], mx_mul h.m g.m⟩
  · rcases List.mem_append.mp hx with hx | hx
    · exact h.k.t.a x hx
    · exact g.k.t.a x hx
  · rw [List.length_append]; have := h.k.t.l0; omega
  · rw [List.length_append]; exact hm
theorem s_both {n : Nat} {L M : List Sg} {cs : Cs} {Q : PyData → Cs → Prop} (lt : Lt B0 L) (lt' : Lt B0 M) (hl : lst B0 L = B0) (hl' : lst B0 M = B0) (hm : L.length + M.length ≤ 8) (q : Q (.bool true) cs) : W (runFn (n + 10) 78 [.dat (ldD B0 L), .dat (ldD B0 M)]) cs Q := by
  have ok : ∀ {K : List Sg}, ¬okL B0 K → (gB B0 K).all id = false := fun {K} hk => by rw [Bool.eq_false_iff]; exact fun z => hk ((gB_ok K B0).mp z)
  rw [rr78]
  refine W.run' rfl ?_
  walk_at "e"
  refine s_is_lead lt ?_
  by_cases h1 : ¬okL B0 L
  · rw [ok h1]
    walk_at "e"
    exact q
  have h1 := Classical.not_not.mp h1
  rw [(gB_ok L B0).mpr h1]
  walk_at "e"
  refine s_is_lead lt' ?_
  by_cases h2 : ¬okL B0 M
  · rw [ok h2]
    walk_at "e"
    exact q
  have h2 := Classical.not_not.mp h2
  rw [(gB_ok M B0).mpr h2]
  obtain ⟨a, b, c, d, h⟩ := Lc.of ⟨lt, h1⟩ hl
  obtain ⟨a', b', c', d', g⟩ := Lc.of ⟨lt', h2⟩ hl'
  have hg := lc_app h g hm
  have gh := lc_app g h (by omega)
  walk_at "e"
  refine s_swing_of h (fun A B C D sw pr => ?_) ?_
  · walk_at "e"
    refine s_swing_of g (fun A' B' C' D' sw' pr' => ?_) ?_
    · walk_at "e"
      refine Op.of (z := .bool false) rfl ?_
      walk_at "e"
      refine Op.of (z := .bool false) rfl ?_
      walk_at "e"
      refine s_joined h.k g.k hl hm ?_
      walk_at "e"
      refine s_swing_of hg (fun A2 B2 C2 D2 sw2 pr2 => ?_) ?_
      · walk_at "e"
        refine Op.of (z := .bool true) rfl ?_
        walk_at "e"
        refine s_swings_together sw sw' fun P Q' R S k hk e1 e2 e3 e4 hn => ?_
        have p3 : Pr A2 B2 C2 D2 P Q' R S := (pr2.trans (pr.mul pr').symm).trans (Pr.of hk e1 e2 e3 e4)
        obtain ⟨z1, z2, z3, z4⟩ := p3.eq sw2.nrm hn
        clear e1 e2 e3 e4
        subst z1 z2 z3 z4
        walk_at "e"
        refine s_like (k := 1) rfl ?_
        walk_at "e"
        refine s_joined g.k h.k hl' (by omega) ?_
        walk_at "e"
        refine s_swing_of gh (fun A3 B3' C3 D3 sw3 pr3 => ?_) ?_
        · walk_at "e"
          refine Op.of (z := .bool false) rfl ?_
          walk_at "e"
          refine Op.of (z := .bool false) rfl ?_
          walk_at "e"
          refine s_alike sw2 sw3 (al_of h.det g.det pr2 pr3) ?_
          walk_at "e"
          exact Op.of (z := .bool true) rfl q
        · walk_at "e"
          refine Op.of (z := .bool false) rfl ?_
          walk_at "e"
          refine Op.of (z := .bool true) rfl ?_
          walk_at "e"
          exact q
      · walk_at "e"
        refine Op.of (z := .bool false) rfl ?_
        walk_at "e"
        refine s_joined g.k h.k hl' (by omega) ?_
        walk_at "e"
        refine s_swing_of gh (fun A3 B3' C3 D3 sw3 pr3 => ?_) ?_
        · walk_at "e"
          refine Op.of (z := .bool true) rfl ?_
          walk_at "e"
          exact q
        · walk_at "e"
          refine Op.of (z := .bool true) rfl ?_
          walk_at "e"
          exact q
    · walk_at "e"
      refine Op.of (z := .bool false) rfl ?_
      walk_at "e"
      refine Op.of (z := .bool true) rfl ?_
      walk_at "e"
      exact q
  · walk_at "e"
    refine s_swing_of g (fun A' B' C' D' sw' pr' => ?_) ?_
    · walk_at "e"
      refine Op.of (z := .bool true) rfl ?_
      walk_at "e"
      exact q
    · walk_at "e"
      refine Op.of (z := .bool true) rfl ?_
      walk_at "e"
      exact q

end T
end
section
set_option Elab.async false
set_option linter.all false
set_option maxRecDepth 100000
set_option maxHeartbeats 400000
namespace T
open PySem hiding Flow Arg
open Se Wk Ev Nm
local macro_rules | `(tactic| walk_at "lv") => `(tactic| (repeat' (first | exact Lv.mono (by assumption) (Nat.le_of_ble_eq_true rfl) | exact Lv.mono (Bd.lv (by assumption) (Nat.le_of_ble_eq_true rfl)) (Nat.le_of_ble_eq_true rfl) | apply Lv.mul | apply Lv.add | apply Lv.sub | apply Lv.neg)))
local macro_rules | `(tactic| walk_at "w") => `(tactic| first
  | ((with_reducible apply exI); first | assumption | exact rfl)
  | ((with_reducible apply Op.head); assumption) | ((with_reducible apply Op.of (o := gIx _ _)); exact rfl) | ((with_reducible refine And.intro (And.intro ?_ ?_) ?_); (focus walk_at "lv"); (focus walk_at "lv"))
  | ((with_reducible apply Op.of (o := gLen _)); exact rfl) | ((with_reducible apply Op.of (o := gAll _)); exact rfl) | ((with_reducible apply Op.of (o := gAny _)); exact rfl) | ((with_reducible apply Op.of (o := gSum _)); exact rfl) | ((with_reducible apply Op.of (o := gTuple _)); exact rfl) | ((with_reducible apply Op.of (o := gAbs _)); exact rfl) | ((with_reducible apply Op.of (o := gInt _)); exact rfl) | ((with_reducible apply Op.of (o := gCut _ _ _)); exact rfl)
  | ((with_reducible first | apply W.nz2 | apply W.nz3 | apply W.nz4 | apply W.nz6 | apply W.nz9); exact Nat.le_of_ble_eq_true rfl)
  | (with_reducible first | apply W.stepTr | apply W.stepC | apply W.stepN | apply W.stepMC | apply W.stepMN | apply W.forC | apply W.forN)
  | ((with_reducible refine And.intro ?_ ?_); first | exact Nat.le_of_ble_eq_true rfl | exact rfl) | (with_reducible refine Bo.t ?_) | (with_reducible refine Bo.f ?_) | (with_reducible refine Bo.d (fun _ => ?_) (fun h => absurd (by assumption) h)) | (with_reducible refine Bo.d (fun h => absurd h (by assumption)) (fun _ => ?_)) | (with_reducible refine Bo.nd (fun _ => ?_) (fun h => absurd h (by assumption))) | (with_reducible refine Bo.nd (fun h => absurd (by assumption) h) (fun _ => ?_)) | ((with_reducible apply Op.divE); assumption; assumption; assumption) | (refine Bo.t ?_) | (refine Bo.f ?_))
local macro_rules | `(tactic| walk_at "e") => `(tactic| repeat (first | (with_reducible apply W.setN) | (with_reducible refine St.ok ?_) | (with_reducible refine OS.ok ?_) | walk_at "w"))
local macro_rules | `(tactic| walk_at "i") => `(tactic| ((with_reducible apply W.iteI); (exact rfl); (exact rfl); exact rfl))
local macro_rules | `(tactic| walk_at "t") => `(tactic| repeat (first | (with_reducible apply W.setN) | (with_reducible refine St.ok ?_) | (with_reducible refine OS.ok ?_) | (with_reducible apply W.ite) | walk_at "w"))
local macro_rules | `(tactic| walk_at "p") => `(tactic| repeat (first | (with_reducible apply W.setN) | ((fail_if_success (with_reducible apply stopSt)); (fail_if_success (with_reducible apply stopMt)); (fail_if_success (with_reducible apply stopFo)); first | (with_reducible refine St.ok ?_) | (with_reducible refine OS.ok ?_) | walk_at "w")))
/-! one line between -/
theorem anyL (A B : Int) : ∀ L : List (Int × Int), (L.map pd).any (fun y => PyData.eqv y (t2 A B)) = decide ((A, B) ∈ L)
  | [] => rfl
  | (p, q) :: L => by
    rw [List.map_cons, List.any_cons, anyL A B L]
    show (PyData.eqv (t2 p q) (t2 A B) || _) = _
    rw [eqv2]
    by_cases h : p = A ∧ q = B
    · obtain ⟨rfl, rfl⟩ := h
      simp
    · have : ¬(A, B) = (p, q) := fun e => h (by simp only [Prod.mk.injEq] at e; exact ⟨e.1.symm, e.2.symm⟩)
      simp [h, this]
theorem shpT : ∀ L : List (Int × Int), L.length ≤ 2 → shp (.tuple (L.map pd)) = true
  | [], _ => rfl
  | [_], _ => rfl
  | [_, _], _ => rfl
  | _ :: _ :: _ :: _, h => by simp only [List.length_cons] at h; omega
theorem notinT {A B : Int} {L : List (Int × Int)} (h : L.length ≤ 2) : gNotIn (t2 A B) (.tuple (L.map pd)) = some (.bool (!decide ((A, B) ∈ L))) := by
  show (if shp (t2 A B) = true ∧ shp (.tuple (L.map pd)) = true then some (PyData.bool (!(L.map pd).any fun y => PyData.eqv y (t2 A B))) else none) = _
  rw [if_pos ⟨rfl, shpT L h⟩, anyL]
theorem neBool (a b : Bool) : gNe (.bool a) (.bool b) = some (.bool (!(a == b))) := by
  cases a <;> cases b <;> rfl
abbrev pl4 : List P3 := [(0, 1, -1), (0, 1, -2), (1, 1, -1), (1, -1, 0)]
abbrev pf3 : List P3 := [(0, 2, 1), (1, 3, 1), (2, 5, 1)]
abbrev ps3 : List P3 := [(0, 2, 1), (3, 5, 1), (1, -4, -1)]
abbrev psg (p f s : P3) : List Sg := [(p, f), (B0, s)]
/-- what is asked of the table, at each of the drawn parts -/
theorem psp_all : ∀ p ∈ pl4, ∀ f ∈ pf3, ∀ s ∈ ps3, (gB B0 (psg p f s)).all id = true →
    (scl (ledL (psg p f s) (1, 0, 0)).1 (ledL (psg p f s) (0, 0, 1)).1 (ledL (psg p f s) (1, 0, 0)).2.2 (ledL (psg p f s) (0, 0, 1)).2.2 ↔ f = s) ∧
    qf (ledL (psg p f s) (1, 0, 0)).2.2 ((ledL (psg p f s) (0, 0, 1)).2.2 - (ledL (psg p f s) (1, 0, 0)).1) (-(ledL (psg p f s) (0, 0, 1)).1) p.2.2 (-p.1) = 0 := by decide +kernel
theorem tp4 : ∀ p ∈ pl4, Tp p := by
  intro p hp
  simp only [List.mem_cons, List.not_mem_nil, or_false] at hp
  rcases hp with rfl | rfl | rfl | rfl <;> exact ⟨⟨rfl, by decide⟩, bd_of (by decide) (by decide), bd_of (by decide) (by decide), bd_of (by decide) (by decide)⟩
theorem tf3 : ∀ p ∈ pf3, Tp p := by
  intro p hp
  simp only [List.mem_cons, List.not_mem_nil, or_false] at hp
  rcases hp with rfl | rfl | rfl <;> exact ⟨⟨rfl, by decide⟩, bd_of (by decide) (by decide), bd_of (by decide) (by decide), bd_of (by decide) (by decide)⟩
theorem ts3 : ∀ p ∈ ps3, Tp p := by
  intro p hp
  simp only [List.mem_cons, List.not_mem_nil, or_false] at hp
  rcases hp with rfl | rfl | rfl <;> exact ⟨⟨rfl, by decide⟩, bd_of (by decide) (by decide), bd_of (by decide) (by decide), bd_of (by decide) (by decide)⟩
theorem be_dec {e : Nat} {x : Int} (h : x.natAbs < 2 ^ e) : BE e x := h
theorem b4 : ∀ p ∈ pl4, B3 2 p := by
  intro p hp
  simp only [List.mem_cons, List.not_mem_nil, or_false] at hp
  rcases hp with rfl | rfl | rfl | rfl <;> exact ⟨be_dec (by decide), be_dec (by decide), be_dec (by decide)⟩
theorem bf3 : ∀ p ∈ pf3, B3 3 p := by
  intro p hp
  simp only [List.mem_cons, List.not_mem_nil, or_false] at hp
  rcases hp with rfl | rfl | rfl <;> exact ⟨be_dec (by decide), be_dec (by decide), be_dec (by decide)⟩
theorem bs3 : ∀ p ∈ ps3, B3 3 p := by
  intro p hp
  simp only [List.mem_cons, List.not_mem_nil, or_false] at hp
  rcases hp with rfl | rfl | rfl <;> exact ⟨be_dec (by decide), be_dec (by decide), be_dec (by decide)⟩
theorem tB0 : Tp B0 := ⟨⟨rfl, by decide⟩, bd_of (by decide) (by decide), bd_of (by decide) (by decide), bd_of (by decide) (by decide)⟩
theorem bB0 : B3 2 B0 := ⟨be_dec (by decide), be_dec (by decide), be_dec (by decide)⟩
theorem pick {L : List P3} {x : PyData} (h : x ∈ L.map T3) : ∃ p ∈ L, x = T3 p := by
  obtain ⟨p, hp, e⟩ := List.mem_map.mp h
  exact ⟨p, hp, e.symm⟩
theorem l3 {x : Int} (h : x.natAbs ≤ 10) : Lv 12 x := (Bd.lv (n := 10) h (by decide)).mono (by decide)
theorem s_power2 {n : Nat} {a b c d : Int} {cs : Cs} {Q : PyData → Cs → Prop} (sw : Sw 10000 a b c d) (q : ∀ A B C D k, k ≠ 0 → a * a + b * c = k * A → a * b + b * d = k * B → c * a + d * c = k * C → c * b + d * d = k * D → Nrm [A, B, C, D] → Q (t4 A B C D) cs) : W (runFn (n + 4) 27 [.dat (t4 a b c d), .dat (.int 2)]) cs Q := by
  have LS : ∀ {x : Int}, Bd 10000 x → Lv 10 x := fun g => (g.lv (by decide)).mono (by decide)
  have la := LS sw.ba
  have lb := LS sw.bb
  have lc := LS sw.bc
  have ld := LS sw.bd
  have l0 : Lv 10 (0 : Int) := (Bd.lv (n := 0) (show (0 : Int).natAbs ≤ 0 from by decide) (by decide)).mono (by decide)
  have l1 : Lv 10 (1 : Int) := (Bd.lv (n := 1) (show (1 : Int).natAbs ≤ 1 from by decide) (by decide)).mono (by decide)
  rw [rr27]
  refine W.run' rfl ?_
  walk_at "e"
  refine s_need_swing sw ?_
  walk_at "e"
  rw [rr1]
  refine W.run' rfl ?_
  walk_at "e"
  refine s_is_whole0 (by decide) ?_
  walk_at "e"
  refine W.ite ?_
  walk_at "e"
  rw [show rngD 0 (Int.toNat (if (2 : Int) < 0 then -2 else 2)) = [PyData.int 0, .int 1] from rfl]
  walk_at "e"
  refine s_product (p := 1) (q' := 0) (r := 0) (s := 1) (by decide) sw.det l1 l0 l0 l1 la lb lc ld fun A B C D k hk e1 e2 e3 e4 hn => ?_
  obtain ⟨z1, z2, z3, z4⟩ := hn.eq4 sw.nrm hk (m := 1) (by decide) (by omega) (by omega) (by omega) (by omega)
  rw [z1, z2, z3, z4]
  walk_at "e"
  refine s_product sw.det sw.det la lb lc ld la lb lc ld fun A B C D k hk e1 e2 e3 e4 hn => ?_
  walk_at "e"
  exact q A B C D k hk e1 e2 e3 e4 hn
abbrev PT : SS := (sSeq (sIf (mNot (mCall 45 (mCons (aDat (mVar 4)) mNil))) (sRet (mLit (.bool true))) sNil)
  (sSeq (sSet 5 (mSh (mCall 76 (mCons (aDat (mVar 4)) mNil))))
  (sSeq (sIf (mBin gIs (mPk 5) (mLit .none)) (sRet (mLit (.bool true))) sNil)
  (sSeq (sSet 6 (mSh (mCall 72 (mCons (aDat (mCall 80 (mCons (aDat (mTup (mCons (mLit (.int 0)) (mCons (mLit (.int 1)) (mCons (mLit (.int 0)) mNil))))) (mCons (aDat (mVar 1)) mNil)))) mNil))))
  (sSeq (sSet 7 (mSh (mCall 54 (mCons (aDat (mVar 5)) mNil))))
  (sSeq (sIf (mOr (mAnd (mBin gIsNot (mPk 7) (mLit .none)) (mBin gNotIn (mPk 6) (mPk 7))) (mBin gNe (mBin gIs (mPk 7) (mLit .none)) (mBin gEq (mPk 2) (mBin gIx (mBin gIx (mPk 4) (mLit (.int 1))) (mLit (.int 1)))))) (sRet (mLit (.bool false))) sNil)
  (sRet (mAnd (mCall 77 (mCons (aCup 0) (mCons (aDat (mVar 4)) mNil))) (mBin gEq (mCall 27 (mCons (aDat (mVar 5)) (mCons (aDat (mLit (.int 2))) mNil))) (mCall 21 (mCons (aDat (mVar 5)) (mCons (aDat (mVar 5)) mNil))))))))))))
theorem stopPT {cf : CF} {env : Ev} {cs : Cs} {R : Se.Flow → Cs → Prop} (h : W (PT cf env) cs R) : W (PT cf env) cs R := h
local macro_rules | `(tactic| walk_at "r") => `(tactic| repeat (first | (with_reducible apply W.setN) | ((fail_if_success (with_reducible apply stopPT)); first | (with_reducible refine St.ok ?_) | (with_reducible refine OS.ok ?_) | walk_at "w")))
theorem nz4 : ∀ p ∈ pl4, p.2.2 ≠ 0 ∨ -p.1 ≠ 0 := by decide
theorem sz4 : ∀ p ∈ pl4, p.1.natAbs ≤ 10 ∧ p.2.1.natAbs ≤ 10 ∧ p.2.2.natAbs ≤ 10 := by decide
theorem s_ptail {n : Nat} {p f s : P3} {s3 : Se.Slot} {cs : Cs} {R : Se.Flow → Cs → Prop} (hp : p ∈ pl4) (hf : f ∈ pf3) (hs : s ∈ ps3) (hc : Cu cs) (q : ∀ c, Cu c → R (.ret (.bool true)) c) : W (PT (runFn (n + 12)) [.cup, .sh (T3 p), .sh (T3 f), s3, .sh (ldD B0 (psg p f s)), .no, .no, .no]) cs R := by
  have lt : Lt B0 (psg p f s) := ⟨tB0, fun x hx => by
    simp only [List.mem_cons, List.not_mem_nil, or_false] at hx
    rcases hx with rfl | rfl
    · exact ⟨tp4 p hp, tf3 f hf⟩
    · exact ⟨tB0, ts3 s hs⟩, Nat.le_of_ble_eq_true rfl, Nat.le_of_ble_eq_true rfl⟩
  have hl : lst B0 (psg p f s) = B0 := rfl
  have sl : Sl (psg p f s) := ⟨Nat.le_of_ble_eq_true rfl, fun x hx => by
    simp only [List.mem_cons, List.not_mem_nil, or_false] at hx
    rcases hx with rfl | rfl
    · exact ⟨b4 p hp, bf3 f hf⟩
    · exact ⟨bB0, bs3 s hs⟩⟩
  have all := psp_all p hp f hf s hs
  obtain ⟨z1, z2, z3⟩ := sz4 p hp
  have nz := nz4 p hp
  unfold PT
  walk_at "e"
  refine s_is_lead lt ?_
  by_cases hok : ¬okL B0 (psg p f s)
  · have e : (gB B0 (psg p f s)).all id = false := by rw [Bool.eq_false_iff]; exact fun z => hok ((gB_ok _ B0).mp z)
    rw [e]
    walk_at "e"
    exact q _ hc
  have hok := Classical.not_not.mp hok
  have hgb := (gB_ok (psg p f s) B0).mpr hok
  obtain ⟨a, b, c, d, h⟩ := Lc.of ⟨lt, hok⟩ hl
  obtain ⟨hsc, hq⟩ := all hgb
  rw [h.m.e1, h.m.e3] at hsc hq
  simp only at hsc hq
  rw [hgb]
  generalize hL : psg p f s = L at *
  walk_at "e"
  refine s_swing_of h (fun A B C D sw pr => ?_) ?_
  · walk_at "e"
    refine Op.of (z := .bool false) rfl ?_
    walk_at "e"
    rw [rr80]
    refine W.run' rfl ?_
    unfold T3
    have k1 : Lv 12 p.1 := l3 z1
    have k2 : Lv 12 p.2.1 := l3 z2
    have k3 : Lv 12 p.2.2 := l3 z3
    have k0 : Lv 12 (0 : Int) := l3 (by decide)
    have k1' : Lv 12 (1 : Int) := l3 (by decide)
    walk_at "e"
    rw [show 1 * p.2.2 - 0 * p.2.1 = p.2.2 by omega, show 0 * p.1 - 0 * p.2.2 = 0 by omega, show 0 * p.2.1 - 1 * p.1 = -p.1 by omega]
    refine s_short3 (by rw [NZ3]; rcases nz with g | g; exact .inl g; exact .inr (.inr g)) (fun x hx => ?_) fun X Y Z k hk e1 e2 e3 hn => ?_
    · simp only [List.mem_cons, List.not_mem_nil, or_false] at hx
      rcases hx with rfl | rfl | rfl
      · exact k3
      · exact k0
      · exact k1.neg
    have hY : Y = 0 := (Int.mul_eq_zero.mp e2.symm).resolve_left hk
    subst hY
    have lX : Lv 12 X := of_mul_lv k3 hk e1 (by decide)
    have lZ : Lv 12 Z := of_mul_lv k1.neg hk e3 (by decide)
    have i1 : Im X Z p.2.2 (-p.1) := (Im.of hk e1 e3).symm
    walk_at "e"
    refine s_place_of (nrm_ne hn) lX lZ fun P R' k2 hk2 f1 f3 hP => ?_
    have i2 : Im P R' p.2.2 (-p.1) := (Im.of hk2 f1 f3).symm.trans i1
    have hz : qf C (D - A) (-B) P R' = 0 := by
      rw [pr_qf pr P R']
      obtain ⟨u, v, hu, hv, g1, g2⟩ := i2
      have : (u * u) * qf c (d - a) (-b) P R' = (v * v) * qf c (d - a) (-b) p.2.2 (-p.1) := by
        have w1 : (u * u) * qf c (d - a) (-b) P R' = qf c (d - a) (-b) (u * P) (u * R') := by unfold qf; clear g1 g2 hq; grind
        have w2 : (v * v) * qf c (d - a) (-b) p.2.2 (-p.1) = qf c (d - a) (-b) (v * p.2.2) (v * -p.1) := by unfold qf; clear g1 g2 hq w1; grind
        rw [w1, w2, g1, g2]
      rw [hq, Int.mul_zero] at this
      exact (Int.mul_eq_zero.mp this).resolve_left (Int.mul_ne_zero hu hu)
    clear e1 e2 e3 f1 f3
    walk_at "e"
    have he : (f.1 = s.1 ∧ f.2.1 = s.2.1 ∧ f.2.2 = s.2.2) ↔ f = s := ⟨fun ⟨h1, h2, h3⟩ => p3_ext h1 h2 h3, fun h => by rw [h]; exact ⟨rfl, rfl, rfl⟩⟩
    have hix : gIx (.tuple (cenD L)) (.int 1) = some (t3 s.1 s.2.1 s.2.2) := by rw [← hL]; rfl
    refine s_fixed_places sw (fun hs => ?_) fun F ns fp => ?_
    · have hfs : f = s := hsc.mp (pr.scl.mp hs)
      walk_at "e"
      refine Op.of (z := .bool false) rfl ?_
      walk_at "e"
      refine Op.of (z := .bool true) rfl ?_
      unfold ldD
      walk_at "e"
      refine Op.of hix ?_
      walk_at "e"
      refine Op.eq3 ?_
      rw [decide_eq_true (he.mpr hfs)]
      walk_at "e"
      refine Op.of (z := .bool false) rfl ?_
      walk_at "e"
      refine s_right lt hl sl hc fun c2 hc2 => ?_
      walk_at "e"
      refine s_power2 sw fun A1 B1 C1 D1 k3 hk3 g1 g2 g3 g4 n1 => ?_
      walk_at "e"
      refine s_swings_together sw sw fun A2 B2 C2 D2 k4 hk4 h1 h2 h3 h4 n2 => ?_
      obtain ⟨w1, w2, w3, w4⟩ := n1.eq4 n2 hk3 hk4 (by rw [← g1, h1]) (by rw [← g2, h2]) (by rw [← g3, h3]) (by rw [← g4, h4])
      walk_at "e"
      refine Op.eqT (by rw [w1, w2, w3, w4]) rfl ?_
      exact q _ hc2
    · have hfs : ¬f = s := fun z => ns (pr.scl.mpr (hsc.mpr z))
      have hin : (P, R') ∈ F := (fp.mem _).mpr ⟨hP, hz⟩
      walk_at "e"
      refine Op.of (z := .bool true) rfl ?_
      walk_at "e"
      refine Op.of (notinT fp.two) ?_
      rw [decide_eq_true hin]
      walk_at "e"
      refine Op.of (z := .bool false) rfl ?_
      unfold ldD
      walk_at "e"
      refine Op.of hix ?_
      walk_at "e"
      refine Op.eq3 ?_
      rw [decide_eq_false (fun z => hfs (he.mp z))]
      walk_at "e"
      refine Op.of (z := .bool false) rfl ?_
      walk_at "e"
      refine s_right lt hl sl hc fun c2 hc2 => ?_
      walk_at "e"
      refine s_power2 sw fun A1 B1 C1 D1 k3 hk3 g1 g2 g3 g4 n1 => ?_
      walk_at "e"
      refine s_swings_together sw sw fun A2 B2 C2 D2 k4 hk4 h1 h2 h3 h4 n2 => ?_
      obtain ⟨w1, w2, w3, w4⟩ := n1.eq4 n2 hk3 hk4 (by rw [← g1, h1]) (by rw [← g2, h2]) (by rw [← g3, h3]) (by rw [← g4, h4])
      walk_at "e"
      refine Op.eqT (by rw [w1, w2, w3, w4]) rfl ?_
      exact q _ hc2
  · walk_at "e"
    refine Op.of (z := .bool true) rfl ?_
    walk_at "e"
    exact q _ hc
theorem s_perspective {n : Nat} {cs : Cs} {Q : PyData → Cs → Prop} (hc : Cu cs) (q : ∀ cs', Cu cs' → Q (.bool true) cs') : W (runFn (n + 13) 79 [.cup]) cs Q := by
  have L4 : Lv 12 (4 : Int) := l3 (by decide)
  have L3 : Lv 12 (3 : Int) := l3 (by decide)
  rw [rr79]
  refine W.run' rfl ?_
  walk_at "e"
  refine s_some (m := 4) rfl (by decide) L4 hc fun x c1 hx hc1 => ?_
  obtain ⟨p, hp, rfl⟩ := pick (L := pl4) hx
  walk_at "e"
  refine s_some (m := 3) rfl (by decide) L3 hc1 fun x c2 hx hc2 => ?_
  obtain ⟨f, hf, rfl⟩ := pick (L := pf3) hx
  walk_at "e"
  refine s_some (m := 3) rfl (by decide) L3 hc2 fun x c3 hx hc3 => ?_
  have hx' : ∃ s0 ∈ [((0, 2, 1) : P3), (3, 5, 1), (-1, 4, 1)], x = T3 s0 := pick (L := [((0, 2, 1) : P3), (3, 5, 1), (-1, 4, 1)]) hx
  obtain ⟨s0, hs0, rfl⟩ := hx'
  walk_at "e"
  refine s_short3 (a := s0.1) (b := s0.2.1) (c := s0.2.2) ?_ ?_ fun X Y Z k hk e1 e2 e3 hn => ?_
  · rw [NZ3]
    simp only [List.mem_cons, List.not_mem_nil, or_false] at hs0
    rcases hs0 with rfl | rfl | rfl <;> decide
  · intro y hy
    refine l3 ?_
    simp only [List.mem_cons, List.not_mem_nil, or_false] at hs0 hy
    rcases hs0 with rfl | rfl | rfl <;> rcases hy with rfl | rfl | rfl <;> decide
  · have hs : (X, Y, Z) ∈ ps3 := by
      simp only [List.mem_cons, List.not_mem_nil, or_false] at hs0
      have n1 : Nrm [0, 2, 1] := ⟨rfl, by decide⟩
      have n2 : Nrm [3, 5, 1] := ⟨rfl, by decide⟩
      have n3 : Nrm [1, -4, -1] := ⟨rfl, by decide⟩
      rcases hs0 with rfl | rfl | rfl
      · obtain ⟨rfl, rfl, rfl⟩ := hn.eq3 n1 hk (m := 1) (by decide) (by rw [← e1]; rfl) (by rw [← e2]; rfl) (by rw [← e3]; rfl)
        decide
      · obtain ⟨rfl, rfl, rfl⟩ := hn.eq3 n2 hk (m := 1) (by decide) (by rw [← e1]; rfl) (by rw [← e2]; rfl) (by rw [← e3]; rfl)
        decide
      · obtain ⟨rfl, rfl, rfl⟩ := hn.eq3 n3 hk (m := -1) (by decide) (by rw [← e1]; rfl) (by rw [← e2]; rfl) (by rw [← e3]; rfl)
        decide
    walk_at "r"
    refine s_ptail (s := (X, Y, Z)) hp hf hs hc3 ?_
    exact fun c g => q c g

end T
end
section
set_option Elab.async false
set_option linter.all false
set_option maxRecDepth 100000
set_option maxHeartbeats 400000
namespace T
open PySem hiding Flow Arg
open Se Wk Ev Nm
local macro_rules | `(tactic| walk_at "lv") => `(tactic| (repeat' (first | exact Lv.mono (by assumption) (Nat.le_of_ble_eq_true rfl) | exact Lv.mono (Bd.lv (by assumption) (Nat.le_of_ble_eq_true rfl)) (Nat.le_of_ble_eq_true rfl) | apply Lv.mul | apply Lv.add | apply Lv.sub | apply Lv.neg)))
local macro_rules | `(tactic| walk_at "w") => `(tactic| first
  | ((with_reducible apply exI); first | assumption | exact rfl)
  | ((with_reducible apply Op.head); assumption) | ((with_reducible apply Op.of (o := gIx _ _)); exact rfl) | ((with_reducible refine And.intro (And.intro ?_ ?_) ?_); (focus walk_at "lv"); (focus walk_at "lv"))
  | ((with_reducible apply Op.of (o := gLen _)); exact rfl) | ((with_reducible apply Op.of (o := gAll _)); exact rfl) | ((with_reducible apply Op.of (o := gAny _)); exact rfl) | ((with_reducible apply Op.of (o := gSum _)); exact rfl) | ((with_reducible apply Op.of (o := gTuple _)); exact rfl) | ((with_reducible apply Op.of (o := gAbs _)); exact rfl) | ((with_reducible apply Op.of (o := gInt _)); exact rfl) | ((with_reducible apply Op.of (o := gCut _ _ _)); exact rfl)
  | ((with_reducible first | apply W.nz2 | apply W.nz3 | apply W.nz4 | apply W.nz6 | apply W.nz9); exact Nat.le_of_ble_eq_true rfl)
  | (with_reducible first | apply W.stepTr | apply W.stepC | apply W.stepN | apply W.stepMC | apply W.stepMN | apply W.forC | apply W.forN)
  | ((with_reducible refine And.intro ?_ ?_); first | exact Nat.le_of_ble_eq_true rfl | exact rfl) | (with_reducible refine Bo.t ?_) | (with_reducible refine Bo.f ?_) | (with_reducible refine Bo.d (fun _ => ?_) (fun h => absurd (by assumption) h)) | (with_reducible refine Bo.d (fun h => absurd h (by assumption)) (fun _ => ?_)) | (with_reducible refine Bo.nd (fun _ => ?_) (fun h => absurd h (by assumption))) | (with_reducible refine Bo.nd (fun h => absurd (by assumption) h) (fun _ => ?_)) | ((with_reducible apply Op.divE); assumption; assumption; assumption) | (refine Bo.t ?_) | (refine Bo.f ?_))
local macro_rules | `(tactic| walk_at "e") => `(tactic| repeat (first | (with_reducible apply W.setN) | (with_reducible refine St.ok ?_) | (with_reducible refine OS.ok ?_) | walk_at "w"))
local macro_rules | `(tactic| walk_at "i") => `(tactic| ((with_reducible apply W.iteI); (exact rfl); (exact rfl); exact rfl))
local macro_rules | `(tactic| walk_at "t") => `(tactic| repeat (first | (with_reducible apply W.setN) | (with_reducible refine St.ok ?_) | (with_reducible refine OS.ok ?_) | (with_reducible apply W.ite) | walk_at "w"))
local macro_rules | `(tactic| walk_at "p") => `(tactic| repeat (first | (with_reducible apply W.setN) | ((fail_if_success (with_reducible apply stopSt)); (fail_if_success (with_reducible apply stopMt)); (fail_if_success (with_reducible apply stopFo)); first | (with_reducible refine St.ok ?_) | (with_reducible refine OS.ok ?_) | walk_at "w")))
/-! drawn leads -/
theorem cutD1 (d : PyData) (ds : List PyData) : cutD (d :: ds) (some 1) none = ds := by
  have h := cut1 d ds
  have h3 : some (PyData.tuple (cutD (d :: ds) (some 1) none)) = some (PyData.tuple ds) := h
  injection h3 with h3
  injection h3
theorem nz_ne {x y z : Int} {Q : PyData → Prop} (q1 : NZ [x, y, z] → Q (.bool true)) (q0 : ¬NZ [x, y, z] → Q (.bool false)) : Op (gNe (.list (([x, y, z].filter fun a => decide (a ≠ 0)).map .int)) (.list [])) Q := by
  by_cases h : NZ [x, y, z]
  · refine ⟨.bool true, ?_, q1 h⟩
    rw [NZ3] at h
    by_cases h1 : x = 0 <;> by_cases h2 : y = 0 <;> by_cases h3 : z = 0 <;> simp [h1, h2, h3] at h ⊢ <;> rfl
  · refine ⟨.bool false, ?_, q0 h⟩
    rw [NZ3] at h
    have h1 : x = 0 := by omega
    have h2 : y = 0 := by omega
    have h3 : z = 0 := by omega
    subst h1 h2 h3
    rfl
theorem s_triple {n : Nat} {cs : Cs} {Q : PyData → Cs → Prop} (hc : Cu cs) (q : ∀ p cs', Tp p → B3 2 p → Cu cs' → Q (T3 p) cs') : W (runFn (n + 3) 74 [.cup, .dat (.int 2)]) cs Q := by
  have l2 : Lv 6 (2 : Int) := Bd.lv (n := 2) (show (2 : Int).natAbs ≤ 2 from by decide) (by decide)
  have L5 : Lv 12 (2 * 2 + 1 : Int) := l3 (by decide)
  rw [rr74]
  refine W.run' rfl ?_
  walk_at "e"
  rw [show rngD 0 (Int.toNat 3) = [PyData.int 0, .int 1, .int 2] from rfl]
  walk_at "e"
  refine s_roll hc (by decide) L5 fun a c1 a0 a1 hc1 => ?_
  walk_at "e"
  refine s_roll hc1 (by decide) L5 fun b c2 b0 b1 hc2 => ?_
  walk_at "e"
  refine s_roll hc2 (by decide) L5 fun c c3 c0 c1' hc3 => ?_
  walk_at "p"
  refine W.stepN ?_
  walk_at "p"
  refine W.ite ?_
  walk_at "p"
  refine W.nz3 (Nat.le_of_ble_eq_true rfl) ?_
  walk_at "e"
  have ba : Bd 2 (a - 2) := bd_of (by omega) (by omega)
  have bb : Bd 2 (b - 2) := bd_of (by omega) (by omega)
  have bc : Bd 2 (c - 2) := bd_of (by omega) (by omega)
  refine nz_ne (fun hz => ?_) (fun hz => ?_)
  · walk_at "e"
    refine s_short3 hz (fun x hx => ?_) fun A B C k hk e1 e2 e3 hn => ?_
    · simp only [List.mem_cons, List.not_mem_nil, or_false] at hx
      rcases hx with rfl | rfl | rfl
      · exact (ba.lv (by decide)).mono (by decide)
      · exact (bb.lv (by decide)).mono (by decide)
      · exact (bc.lv (by decide)).mono (by decide)
    have gA := ba.of_mul hk e1
    have gB' := bb.of_mul hk e2
    have gC := bc.of_mul hk e3
    exact q (A, B, C) c3 ⟨hn, gA.mono (by decide), gB'.mono (by decide), gC.mono (by decide)⟩ ⟨.of_bd gA (by decide), .of_bd gB' (by decide), .of_bd gC (by decide)⟩ hc3
  · walk_at "e"
    exact q (1, 1, 1) c3 ⟨⟨rfl, by decide⟩, bd_of (by decide) (by decide), bd_of (by decide) (by decide), bd_of (by decide) (by decide)⟩ ⟨be_dec (by decide), be_dec (by decide), be_dec (by decide)⟩ hc3
theorem s_law_dot {n : Nat} {p r : P3} {cs : Cs} {Q : PyData → Cs → Prop} (h : B3 7 p) (g : B3 7 r) (q : ∀ v, Q (.int v) cs) : W (runFn (n + 1) 73 [.dat (T3 p), .dat (T3 r)]) cs Q := by
  have L : ∀ {x : Int}, BE 7 x → Lv 6 x := fun h => h.lv (by decide)
  have a1 := L h.x
  have a2 := L h.y
  have a3 := L h.z
  have b1 := L g.x
  have b2 := L g.y
  have b3 := L g.z
  rw [rr73]
  refine W.run' rfl ?_
  unfold T3
  walk_at "e"
  rw [zipk]
  walk_at "e"
  exact q _
def Ld1 (m : Nat) (ds : List PyData) (e : Ev) (c : Cs) : Prop := Cu c ∧ ∃ (A : List P3) (s5 : Se.Slot), ds.length + A.length = m ∧ (∀ p ∈ A, Tp p ∧ B3 2 p) ∧
  e = [.cup, .sh (.int (m : Nat)), .sh (t3 0 1 0), .ow (.list ((B0 :: A).map T3)), .ow (.list []), s5, .no, .no, .no, .no, .no]
def Ld2 (m : Nat) (X : List P3) (ds : List PyData) (e : Ev) (c : Cs) : Prop := Cu c ∧ ∃ (C : List P3) (s5 s6 s7 s8 s9 s10 : Se.Slot), ds.length + C.length = m + 1 ∧ (∀ p ∈ C, Tp p ∧ B3 3 p) ∧ (∀ d ∈ ds, ∃ a b, d = .tuple [T3 a, T3 b] ∧ B3 7 a ∧ B3 7 b) ∧
  e = [.cup, .sh (.int (m : Nat)), .sh (t3 0 1 0), .sh (.list (X.map T3)), .ow (.list (C.map T3)), s5, s6, s7, s8, s9, s10]
def Ld3 (s1 s3 s4 s5 : Se.Slot) (a b : P3) (ds : List PyData) (e : Ev) (c : Cs) : Prop := Cu c ∧ ∃ (p : P3) (s9 s10 : Se.Slot), Tp p ∧ B3 3 p ∧ e = [.cup, s1, .sh (t3 0 1 0), s3, s4, s5, .sh (T3 a), .sh (T3 b), .sh (T3 p), s9, s10]
theorem zip_pairs : ∀ (X : List P3), (∀ p ∈ X, B3 7 p) → ∀ d ∈ zipD (X.map T3) ((X.drop 1).map T3), ∃ a b, d = .tuple [T3 a, T3 b] ∧ B3 7 a ∧ B3 7 b
  | [], _, d, hd => by cases hd
  | [x], _, d, hd => by cases hd
  | x :: y :: r, h, d, hd => by
    have hd' : d ∈ (PyData.tuple [T3 x, T3 y]) :: zipD ((y :: r).map T3) (((y :: r).drop 1).map T3) := hd
    rcases List.mem_cons.mp hd' with rfl | hd'
    · exact ⟨x, y, rfl, h x (by simp), h y (by simp)⟩
    · exact zip_pairs (y :: r) (fun p hp => h p (List.mem_cons_of_mem _ hp)) d hd'
theorem zip_len' : ∀ (X : List P3), (zipD (X.map T3) ((X.drop 1).map T3)).length = X.length - 1
  | [] => rfl
  | [x] => rfl
  | x :: y :: r => by
    show ((PyData.tuple [T3 x, T3 y]) :: zipD ((y :: r).map T3) (((y :: r).drop 1).map T3)).length = _
    rw [List.length_cons, zip_len' (y :: r)]
    simp
theorem sl_zip {A C : List P3} (h : A.length = C.length) : ((A.zip C).map fun x => x.1) = A ∧ ((A.zip C).map fun x => x.2) = C := by
  induction A generalizing C with
  | nil =>
    cases C with
    | nil => exact ⟨rfl, rfl⟩
    | cons => cases h
  | cons a A ih =>
    cases C with
    | nil => cases h
    | cons c C =>
      obtain ⟨h1, h2⟩ := ih (C := C) (by simpa using h)
      rw [List.zip_cons_cons, List.map_cons, List.map_cons, h1, h2]
      exact ⟨rfl, rfl⟩
theorem mem_zip' {A C : List P3} {x : Sg} (h : x ∈ A.zip C) : x.1 ∈ A ∧ x.2 ∈ C := by
  obtain ⟨a, c⟩ := x
  exact List.of_mem_zip h
theorem lead_ok {A C : List P3} {m : Nat} (hm1 : 1 ≤ m) (hm : m ≤ 3) (hA : A.length = m) (hC : C.length = m + 1) (tA : ∀ p ∈ A, Tp p ∧ B3 2 p) (tC : ∀ p ∈ C, Tp p ∧ B3 3 p) : ∃ L : List Sg, Lt B0 L ∧ lst B0 L = B0 ∧ Sl L ∧ L.length = m + 1 ∧ ldD B0 L = .tuple [.tuple ((B0 :: (A ++ [B0])).map T3), .tuple (C.map T3)] := by
  have hl : (A ++ [B0]).length = C.length := by simp [hA, hC]
  obtain ⟨z1, z2⟩ := sl_zip hl
  have zl : ((A ++ [B0]).zip C).length = m + 1 := by rw [List.length_zip, hl, hC]; simp
  have mem : ∀ x ∈ (A ++ [B0]).zip C, (Tp x.1 ∧ B3 2 x.1) ∧ (Tp x.2 ∧ B3 3 x.2) := fun x hx => by
    obtain ⟨h1, h2⟩ := mem_zip' hx
    refine ⟨?_, tC _ h2⟩
    rcases List.mem_append.mp h1 with h1 | h1
    · exact tA _ h1
    · rw [List.mem_singleton] at h1
      rw [h1]
      exact ⟨tB0, bB0⟩
  refine ⟨(A ++ [B0]).zip C, ⟨tB0, fun x hx => ⟨(mem x hx).1.1, (mem x hx).2.1⟩, by omega, by omega⟩, ?_, ⟨by omega, fun x hx => ⟨(mem x hx).1.2, (mem x hx).2.2⟩⟩, zl, ?_⟩
  · have h := lst_last ((A ++ [B0]).zip C) B0
    rw [z1, zl, List.getElem?_cons_succ, List.getElem?_append_right (by omega), hA] at h
    simp at h
    exact h.symm
  · unfold ldD linD cenD
    rw [z1, z2]
theorem app_ow {i : Nat} {d : PyData} {env : Ev} {ds : List PyData} (h : owL i env = some ds) (hl : ds.length < 1000) : appL i d env = some (env.set i (.ow (.list (ds ++ [d])))) := by
  unfold appL
  rw [h]
  simp only []
  rw [if_pos]
  unfold line
  omega
theorem cat_ok {A : List P3} (h : A.length ≤ 10) : gCat (.list ((B0 :: A).map T3)) (.list [t3 0 1 0]) = some (.list ((B0 :: (A ++ [B0])).map T3)) := by
  show (if ((B0 :: A).map T3).length + [t3 0 1 0].length ≤ line then some (PyData.list ((B0 :: A).map T3 ++ [t3 0 1 0])) else none) = _
  rw [if_pos (line_big (by simp; omega)), show (B0 :: (A ++ [B0])).map T3 = (B0 :: A).map T3 ++ [t3 0 1 0] by simp; rfl]
theorem s_lead {n m : Nat} {cs : Cs} {Q : PyData → Cs → Prop} (hm1 : 1 ≤ m) (hm : m ≤ 3) (hc : Cu cs) (q : ∀ L cs', Lt B0 L → lst B0 L = B0 → Sl L → L.length = m + 1 → Cu cs' → Q (ldD B0 L) cs') : W (runFn (n + 4) 75 [.cup, .dat (.int (m : Nat))]) cs Q := by
  rw [rr75]
  refine W.run' rfl ?_
  have hr : rngL [.int (m : Nat)] = some (rngD 0 m) := by
    rcases (by omega : m = 1 ∨ m = 2 ∨ m = 3) with rfl | rfl | rfl <;> rfl
  walk_at "p"
  clear hr
  refine W.forI (Ld1 m) ⟨hc, [], _, by rw [rngD_len]; simp, by simp, rfl⟩ ?_ ?_
  · rintro d ds e c ⟨hc, A, s5, hl, hA, rfl⟩
    rw [List.length_cons] at hl
    walk_at "e"
    refine s_triple hc fun p c1 tp bp hc1 => ?_
    walk_at "e"
    refine exI (app_ow (ds := (B0 :: A).map T3) rfl (by rw [List.length_map, List.length_cons]; omega)) ?_
    have e : (B0 :: (A ++ [p])).map T3 = (B0 :: A).map T3 ++ [T3 p] := by simp
    refine ⟨hc1, A ++ [p], .sh d, by rw [List.length_append]; simp; omega, fun x hx => ?_, by rw [e]; rfl⟩
    rcases List.mem_append.mp hx with hx | hx
    · exact hA x hx
    · rw [List.mem_singleton] at hx
      rw [hx]
      exact ⟨tp, bp⟩
  · rintro e c ⟨hc, A, s5, hl, hA, rfl⟩
    have hAl : A.length = m := by simpa using hl
    have hX : ∀ p ∈ B0 :: (A ++ [B0]), B3 7 p := fun p hp => by
      rcases List.mem_cons.mp hp with rfl | hp
      · exact bB0.mono (by decide)
      · rcases List.mem_append.mp hp with hp | hp
        · exact (hA p hp).2.mono (by decide)
        · rw [List.mem_singleton] at hp
          rw [hp]
          exact bB0.mono (by decide)
    walk_at "e"
    refine Op.of (cat_ok (A := A) (by omega)) ?_
    walk_at "p"
    have hcut : cutD ((B0 :: (A ++ [B0])).map T3) (some 1) none = ((B0 :: (A ++ [B0])).drop 1).map T3 := by
      rw [List.map_cons, cutD1]
      rfl
    rw [hcut]
    refine W.forI (Ld2 m (B0 :: (A ++ [B0]))) ⟨hc, [], _, _, _, _, _, _, by rw [zip_len']; simp; omega, by simp, zip_pairs _ hX, rfl⟩ ?_ ?_
    · rintro d ds e c ⟨hc, C, s5, s6, s7, s8, s9, s10, hl, hC, hd, rfl⟩
      rw [List.length_cons] at hl
      obtain ⟨a, b, rfl, ha, hb⟩ := hd d List.mem_cons_self
      have hd' : ∀ d ∈ ds, ∃ a b, d = .tuple [T3 a, T3 b] ∧ B3 7 a ∧ B3 7 b := fun d h => hd d (List.mem_cons_of_mem _ h)
      walk_at "p"
      refine W.forI (Ld3 (.sh (.int (m : Nat))) (.sh (.list ((B0 :: (A ++ [B0])).map T3))) (.ow (.list (C.map T3))) s5 a b) ⟨hc, (1, 2, 1), _, _, ⟨⟨rfl, by decide⟩, bd_of (by decide) (by decide), bd_of (by decide) (by decide), bd_of (by decide) (by decide)⟩, ⟨be_dec (by decide), be_dec (by decide), be_dec (by decide)⟩, rfl⟩ ?_ ?_
      · rintro d ds e c ⟨hc, p, s9, s10, tp, bp, rfl⟩
        walk_at "e"
        refine s_triple hc fun r c1 tr br hc1 => ?_
        walk_at "e"
        refine s_law_dot (br.mono (by decide)) ha fun v => ?_
        by_cases hv : v = 0
        · walk_at "e"
          exact ⟨hc1, p, _, _, tp, bp, rfl⟩
        · walk_at "e"
          refine s_law_dot (br.mono (by decide)) hb fun w => ?_
          by_cases hw : w = 0
          · walk_at "e"
            exact ⟨hc1, p, _, _, tp, bp, rfl⟩
          · walk_at "e"
            exact ⟨hc1, r, _, _, tr, br.mono (by decide), rfl⟩
      · rintro e c ⟨hc, p, s9, s10, tp, bp, rfl⟩
        walk_at "e"
        refine exI (app_ow (ds := C.map T3) rfl (by rw [List.length_map]; omega)) ?_
        have e : (C ++ [p]).map T3 = C.map T3 ++ [T3 p] := by simp
        refine ⟨hc, C ++ [p], s5, .sh (T3 a), .sh (T3 b), .sh (T3 p), s9, s10, by rw [List.length_append]; simp; omega, fun x hx => ?_, hd', by rw [e]; rfl⟩
        rcases List.mem_append.mp hx with hx | hx
        · exact hC x hx
        · rw [List.mem_singleton] at hx
          rw [hx]
          exact ⟨tp, bp⟩
    · rintro e c ⟨hc, C, s5, s6, s7, s8, s9, s10, hl, hC, hd, rfl⟩
      have hCl : C.length = m + 1 := by simpa using hl
      obtain ⟨L, h1, h2, h3, h4, h5⟩ := lead_ok hm1 hm hAl hCl hA hC
      walk_at "e"
      rw [← h5]
      exact q L c h1 h2 h3 h4 hc

end T
end
section
set_option Elab.async false
set_option linter.all false
set_option maxRecDepth 100000
set_option maxHeartbeats 400000
namespace T
open PySem hiding Flow Arg
open Se Wk Ev Nm
local macro_rules | `(tactic| walk_at "lv") => `(tactic| (repeat' (first | exact Lv.mono (by assumption) (Nat.le_of_ble_eq_true rfl) | exact Lv.mono (Bd.lv (by assumption) (Nat.le_of_ble_eq_true rfl)) (Nat.le_of_ble_eq_true rfl) | apply Lv.mul | apply Lv.add | apply Lv.sub | apply Lv.neg)))
local macro_rules | `(tactic| walk_at "w") => `(tactic| first
  | ((with_reducible apply exI); first | assumption | exact rfl)
  | ((with_reducible apply Op.head); assumption) | ((with_reducible apply Op.of (o := gIx _ _)); exact rfl) | ((with_reducible refine And.intro (And.intro ?_ ?_) ?_); (focus walk_at "lv"); (focus walk_at "lv"))
  | ((with_reducible apply Op.of (o := gLen _)); exact rfl) | ((with_reducible apply Op.of (o := gAll _)); exact rfl) | ((with_reducible apply Op.of (o := gAny _)); exact rfl) | ((with_reducible apply Op.of (o := gSum _)); exact rfl) | ((with_reducible apply Op.of (o := gTuple _)); exact rfl) | ((with_reducible apply Op.of (o := gAbs _)); exact rfl) | ((with_reducible apply Op.of (o := gInt _)); exact rfl) | ((with_reducible apply Op.of (o := gCut _ _ _)); exact rfl)
  | ((with_reducible first | apply W.nz2 | apply W.nz3 | apply W.nz4 | apply W.nz6 | apply W.nz9); exact Nat.le_of_ble_eq_true rfl)
  | (with_reducible first | apply W.stepTr | apply W.stepC | apply W.stepN | apply W.stepMC | apply W.stepMN | apply W.forC | apply W.forN)
  | ((with_reducible refine And.intro ?_ ?_); first | exact Nat.le_of_ble_eq_true rfl | exact rfl) | (with_reducible refine Bo.t ?_) | (with_reducible refine Bo.f ?_) | (with_reducible refine Bo.d (fun _ => ?_) (fun h => absurd (by assumption) h)) | (with_reducible refine Bo.d (fun h => absurd h (by assumption)) (fun _ => ?_)) | (with_reducible refine Bo.nd (fun _ => ?_) (fun h => absurd h (by assumption))) | (with_reducible refine Bo.nd (fun h => absurd (by assumption) h) (fun _ => ?_)) | ((with_reducible apply Op.divE); assumption; assumption; assumption) | (refine Bo.t ?_) | (refine Bo.f ?_))
local macro_rules | `(tactic| walk_at "e") => `(tactic| repeat (first | (with_reducible apply W.setN) | (with_reducible refine St.ok ?_) | (with_reducible refine OS.ok ?_) | walk_at "w"))
local macro_rules | `(tactic| walk_at "i") => `(tactic| ((with_reducible apply W.iteI); (exact rfl); (exact rfl); exact rfl))
local macro_rules | `(tactic| walk_at "t") => `(tactic| repeat (first | (with_reducible apply W.setN) | (with_reducible refine St.ok ?_) | (with_reducible refine OS.ok ?_) | (with_reducible apply W.ite) | walk_at "w"))
local macro_rules | `(tactic| walk_at "p") => `(tactic| repeat (first | (with_reducible apply W.setN) | ((fail_if_success (with_reducible apply stopSt)); (fail_if_success (with_reducible apply stopMt)); (fail_if_success (with_reducible apply stopFo)); first | (with_reducible refine St.ok ?_) | (with_reducible refine OS.ok ?_) | walk_at "w")))
/-! written leads -/
abbrev dblL : List Sg := [((0, 1, -1), (0, 2, 1)), (B0, (0, 1, -1))]
abbrev homL : List Sg := [((0, 1, -1), (0, 2, 1)), (B0, (0, 2, 1))]
abbrev dblD : PyData := .tuple [.tuple [t3 0 1 0, t3 0 1 (-1), t3 0 1 0], .tuple [t3 0 2 1, t3 0 1 (-1)]]
abbrev homD : PyData := .tuple [.tuple [t3 0 1 0, t3 0 1 (-1), t3 0 1 0], .tuple [t3 0 2 1, t3 0 2 1]]
theorem w1 {n : Nat} {cs : Cs} : runFn (n + 11) 76 [.dat dblD] cs = some (t4 1 0 0 4, cs) := by kernel_rfl
theorem w2 {n : Nat} {cs : Cs} : runFn (n + 11) 76 [.dat homD] cs = some (t4 1 0 0 1, cs) := by kernel_rfl
theorem w3 {n : Nat} {cs : Cs} : runFn (n + 11) 49 [.dat homD] cs = some (.int 1, cs) := by kernel_rfl
theorem w4 {n : Nat} {cs : Cs} : runFn (n + 11) 48 [.dat dblD] cs = some (.tuple [t3 0 0 1, t3 1 0 0], cs) := by kernel_rfl
theorem w5 {n : Nat} {cs : Cs} : runFn (n + 11) 47 [.dat dblD, .dat (t3 2 0 1)] cs = some (t3 1 0 2, cs) := by kernel_rfl
theorem w6 {n : Nat} {cs : Cs} : runFn (n + 11) 58 [.dat (t4 1 0 0 4), .dat (t4 0 1 1 0)] cs = some (.bool true, cs) := by kernel_rfl
theorem tpx {a b c : Int} (h : Nrm [a, b, c]) (h1 : a.natAbs ≤ 2) (h2 : b.natAbs ≤ 2) (h3 : c.natAbs ≤ 2) : Tp (a, b, c) ∧ B3 2 (a, b, c) := ⟨⟨h, Nat.le_trans h1 (by decide), Nat.le_trans h2 (by decide), Nat.le_trans h3 (by decide)⟩, be_dec (by show a.natAbs < 4; omega), be_dec (by show b.natAbs < 4; omega), be_dec (by show c.natAbs < 4; omega)⟩
theorem x1 : Tp (0, 1, -1) ∧ B3 2 (0, 1, -1) := tpx ⟨rfl, by decide⟩ (by decide) (by decide) (by decide)
theorem x2 : Tp (0, 2, 1) ∧ B3 2 (0, 2, 1) := tpx ⟨rfl, by decide⟩ (by decide) (by decide) (by decide)
theorem dbl_lt : Lt B0 dblL ∧ Sl dblL := by
  refine ⟨⟨tB0, fun x hx => ?_, Nat.le_of_ble_eq_true rfl, Nat.le_of_ble_eq_true rfl⟩, ⟨Nat.le_of_ble_eq_true rfl, fun x hx => ?_⟩⟩ <;>
  · simp only [List.mem_cons, List.not_mem_nil, or_false] at hx
    rcases hx with rfl | rfl
    · first | exact ⟨x1.1, x2.1⟩ | exact ⟨x1.2, x2.2.mono (by decide)⟩
    · first | exact ⟨tB0, x1.1⟩ | exact ⟨bB0, x1.2.mono (by decide)⟩
theorem hom_lt : Lt B0 homL ∧ Sl homL := by
  refine ⟨⟨tB0, fun x hx => ?_, Nat.le_of_ble_eq_true rfl, Nat.le_of_ble_eq_true rfl⟩, ⟨Nat.le_of_ble_eq_true rfl, fun x hx => ?_⟩⟩ <;>
  · simp only [List.mem_cons, List.not_mem_nil, or_false] at hx
    rcases hx with rfl | rfl
    · first | exact ⟨x1.1, x2.1⟩ | exact ⟨x1.2, x2.2.mono (by decide)⟩
    · first | exact ⟨tB0, x2.1⟩ | exact ⟨bB0, x2.2.mono (by decide)⟩
theorem s_written {n : Nat} {cs : Cs} {Q : PyData → Cs → Prop} (hc : Cu cs) (q : ∀ cs', Cu cs' → Q (.bool true) cs') : W (runFn (n + 13) 81 [.cup]) cs Q := by
  rw [rr81]
  refine W.run' rfl ?_
  walk_at "e"
  refine W.eq w1 ?_
  walk_at "e"
  refine W.eq w2 ?_
  walk_at "e"
  refine W.eq w3 ?_
  walk_at "e"
  refine W.eq w4 ?_
  walk_at "e"
  refine W.eq w5 ?_
  walk_at "e"
  refine s_like (k := 3) rfl ?_
  walk_at "e"
  refine s_right (L := dblL) dbl_lt.1 rfl dbl_lt.2 hc fun c1 hc1 => ?_
  walk_at "e"
  refine s_right (L := homL) hom_lt.1 rfl hom_lt.2 hc1 fun c2 hc2 => ?_
  walk_at "e"
  refine s_both (L := dblL) (M := homL) dbl_lt.1 hom_lt.1 rfl rfl (by decide) ?_
  walk_at "e"
  refine s_both (L := dblL) (M := dblL) dbl_lt.1 dbl_lt.1 rfl rfl (by decide) ?_
  walk_at "e"
  refine W.eq w1 ?_
  walk_at "e"
  refine W.eq w6 ?_
  walk_at "e"
  exact Op.of (z := .bool true) rfl (q _ hc2)
def LwI (ds : List PyData) (e : Ev) (c : Cs) : Prop := Cu c ∧ ∃ s0 s2 s3 s4, e = [s0, .cup, s2, s3, s4]
theorem cell_cu (ns : List Int) : Cu (cupOf ns) := by
  refine ⟨_, _, rfl, ?_⟩
  have := fmod_bd (a := cellOf ns * 439 + 6529) (b := 99991) (by decide)
  exact Bd.of (by omega)
theorem hl (ns : List Int) : ∃ cs', F82 (runFn 40) (envL 5 1) (cupOf ns) = some (.ret (.bool true), cs') := by
  have key : W (F82 (runFn 40) (envL 5 1)) (cupOf ns) fun fl _ => fl = .ret (.bool true) := by
    rw [show envL 5 1 = [.no, .cup, .no, .no, .no] from rfl]
    have hc := cell_cu ns
    generalize cupOf ns = cs at hc
    walk_at "p"
    refine W.forI LwI ⟨hc, _, _, _, _, rfl⟩ ?_ ?_
    · clear hc
      rintro d ds e c ⟨hc, s0, s2, s3, s4, rfl⟩
      walk_at "e"
      refine s_roll (n := 39) hc (by decide) (l3 (by decide)) fun r1 c1 a0 a1 hc1 => ?_
      walk_at "e"
      obtain ⟨m1, hm1⟩ : ∃ m : Nat, 1 + r1 = (m : Int) ∧ 1 ≤ m ∧ m ≤ 3 := ⟨(1 + r1).toNat, by omega, by omega, by omega⟩
      rw [hm1.1]
      refine s_lead (n := 36) hm1.2.1 hm1.2.2 hc1 fun L c2 t1 l1 sl1 n1 hc2 => ?_
      walk_at "e"
      refine s_roll (n := 39) hc2 (by decide) (l3 (by decide)) fun r2 c3 b0 b1 hc3 => ?_
      walk_at "e"
      obtain ⟨m2, hm2⟩ : ∃ m : Nat, 1 + r2 = (m : Int) ∧ 1 ≤ m ∧ m ≤ 2 := ⟨(1 + r2).toNat, by omega, by omega, by omega⟩
      rw [hm2.1]
      refine s_lead (n := 36) hm2.2.1 (by omega) hc3 fun M c4 t2 l2 sl2 n2 hc4 => ?_
      walk_at "e"
      refine s_right (n := 28) t1 l1 sl1 hc4 fun c5 hc5 => ?_
      walk_at "e"
      refine s_both (n := 30) t1 t2 l1 l2 (by omega) ?_
      walk_at "e"
      refine s_perspective (n := 27) hc5 fun c6 hc6 => ?_
      walk_at "e"
      exact ⟨hc6, _, _, _, _, rfl⟩
    · rintro e c ⟨hc, s0, s2, s3, s4, rfl⟩
      walk_at "e"
      refine s_written (n := 27) hc fun c' hc' => ?_
      rfl
  obtain ⟨fl, cs', e, h⟩ := key
  exact ⟨cs', by rw [e, h]⟩

end T
end
theorem PySem.Challenge.cw_linesruled_k84_whole_leads_as_swings_holds : PySem.Challenge.rw_linesruled_k84_whole_leads_as_swings.Holds := by
  exact PySem.Challenge.rw_linesruled_k84_whole_leads_as_swings_of T.hl
