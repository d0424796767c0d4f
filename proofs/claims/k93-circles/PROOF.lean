import PyProof.Rows.All
import Wide.All
import OpenK.AllK
import Wide.FinOn
import HandS.ForMost
import HandS.Wide
import HandS.Gcd
import HandS.IsInst
import HandS.TupLe
import HandS.TupAny
import HandS.NoneIn
import HandS.Style
import HandS.Deep
import HandS.Defaults
import HandS.HeadEnd
import HandS.HeadHook2
import HandS.Head2
import KE.SortData
import KE.DataCmp
import PyProof.Rows.InDataRows
import KE.GoesEnum
import KE.GoesMore
import KE.GoesZip
import HandS.Comp
import HandS.Iter
import HandS.List
import KE.KMathG
import Flt.RightSqrt
import HandS.Codes
import PyProof.Fits
import KE.KStateDown
import HandS.Words
import HandS.WordsExc
import HandS.HeadHook1
import HandS.Head3
import HandS.TupSets
import HandS.SetFor
import HandS.Conv
import HandS.Star
import KE.KRevSl
import HandS.Small
import HandS.Dict
import HandS.More
import KE.KDictCopyH
import PySem.Challenge.RW_linesruled_k93_whole_circles_and_sums_of
section
set_option Elab.async false
set_option linter.all false
set_option maxRecDepth 100000
set_option maxHeartbeats 4000000
/-! Se0: values without a heap, and how they stand in one. -/
namespace Se
open PySem PySem.Spec PyProof.Rows L2
abbrev D := PyData
abbrev Cs := List Int
abbrev M (α : Type) := Cs → Option (α × Cs)
inductive Slot where
  | no | sh (d : D) | ow (d : D) | cup | dI (ns : List Int) | dR (rs : List (List Int))
/-- local dicts whose values are all True: the keys whole numbers, or rows of them -/
def oI (ns : List Int) : HO := .dK (ns.map fun n => (Sum.inl n, V.bl true))
def hshR (r : List Int) : Int := reduceHash (Builtin.Tuple.tupleHashOf (r.map hashInt))
def entR (p : Addr × List Int) : DictEntry := ⟨hshR p.2, .ref p.1, .bool true⟩
def DT0 (h : Heap) (a : Addr) (L : List (Addr × List Int)) : Prop := (a == sysModules) = false ∧ (L.map (·.2)).Nodup ∧ L.length ≤ sizeLine ∧ ∃ o es ep, h.get? a = some o ∧ o.ExactDict ∧ o.data = .dict es ep ∧ es.toList = L.map entR
def oR (a : Addr) (L : List (Addr × List Int)) : HO := .ext fun h => DT0 h a L
abbrev Ev := List Slot
inductive Arg where
  | dat (d : D) | cup
abbrev CF := Nat → List Arg → M D
abbrev SE := CF → Ev → M D
inductive Flow where
  | next (e : Ev) | ret (d : D)
abbrev SS := CF → Ev → M Flow
def M.ret {α : Type} (a : α) : M α := fun cs => some (a, cs)
def M.bnd {α β : Type} (m : M α) (f : α → M β) : M β := fun cs => match m cs with
  | some (a, c) => f a c
  | none => none
def M.of {α : Type} (o : Option α) : M α := fun cs => match o with
  | some a => some (a, cs)
  | none => none
theorem bnd_some {α β : Type} {m : M α} {f : α → M β} {cs : Cs} {r : β × Cs} (h : M.bnd m f cs = some r) : ∃ a c, m cs = some (a, c) ∧ f a c = some r := by
  unfold M.bnd at h
  split at h
  · rename_i a c e
    exact ⟨a, c, e, h⟩
  · cases h
theorem of_some {α : Type} {o : Option α} {cs : Cs} {r : α × Cs} (h : M.of o cs = some r) : ∃ a, o = some a ∧ r = (a, cs) := by
  unfold M.of at h
  split at h
  · rename_i a
    exact ⟨a, rfl, (Option.some.inj h).symm⟩
  · cases h
theorem ret_some {α : Type} {a : α} {cs : Cs} {r : α × Cs} (h : M.ret a cs = some r) : r = (a, cs) := (Option.some.inj h).symm

/-! ### heaps -/
def ZOk (H : Hp) (Z : List Addr) : Prop := ∀ a ∈ Z, Mut (H a)
def Later (H : Hp) (Z : List Addr) (H' : Hp) (Z' : List Addr) : Prop := (∀ a o, H a = some o → a ∉ Z → H' a = some o) ∧ ∀ a ∈ Z', a ∈ Z ∨ H a = none
def Keep (c : Addr) (H H' : Hp) : Prop := ∀ a o, H a = some o → a ≠ c → H' a = some o
def Cell (H : Hp) (c : Addr) (cs : Cs) : Prop := H c = some (.lst (cs.map V.int))
theorem Keep.refl {c : Addr} {H : Hp} : Keep c H H := fun _ _ h _ => h
theorem Keep.trans {c : Addr} {H H1 H2 : Hp} (a : Keep c H H1) (b : Keep c H1 H2) : Keep c H H2 := fun x o h n => b x o (a x o h n) n
theorem Keep.later {c : Addr} {H H' : Hp} {Z : List Addr} (k : Keep c H H') (h : c ∈ Z) : Later H Z H' Z :=
  ⟨fun a o e n => k a o e fun q => n (q ▸ h), fun a h => .inl h⟩
theorem Keep.upd {c : Addr} {H : Hp} {p : Addr} {o : HO} (h : H p = none) : Keep c H (upd H p o) := fun a u e _ => by
  rw [upd_ne (ne_of_none e h)]
  exact e
theorem Later.trans {H H1 H2 : Hp} {Z Z1 Z2 : List Addr} (a : Later H Z H1 Z1) (b : Later H1 Z1 H2 Z2) : Later H Z H2 Z2 := by
  refine ⟨fun x o h n => b.1 x o (a.1 x o h n) fun q => ?_, fun x q => ?_⟩
  · rcases a.2 x q with r | r
    · exact n r
    · rw [r] at h; cases h
  · rcases b.2 x q with r | r
    · exact a.2 x r
    · by_cases hx : x ∈ Z
      · exact .inl hx
      · refine .inr ?_
        cases e : H x with
        | none => rfl
        | some o => rw [a.1 x o e hx] at r; cases r
theorem Later.refl {H : Hp} {Z : List Addr} : Later H Z H Z := ⟨fun _ _ h _ => h, fun _ h => .inl h⟩
theorem ZOk.keep {c : Addr} {H H' : Hp} {Z : List Addr} {cs : Cs} (z : ZOk H Z) (k : Keep c H H') (hc : Cell H' c cs) : ZOk H' Z := fun a ha => by
  by_cases e : a = c
  · rw [e, hc]; trivial
  · have m := z a ha
    cases q : H a with
    | none => rw [q] at m; exact m.elim
    | some o => rw [k a o q e]; rw [q] at m; exact m

/-! ### values -/
theorem nz {H : Hp} {Z : List Addr} {a : Addr} {o : HO} (z : ZOk H Z) (h : H a = some o) (n : ¬ Mut (some o)) : a ∉ Z := fun q => n (by have m := z a q; rw [h] at m; exact m)
theorem SqT.later {K : PySem.W.Frag} {H H' : Hp} {Z Z' : List Addr} {a : Addr} {xs : List V} (z : ZOk H Z) (l : Later H Z H' Z') (h : SqT K H a xs) : SqT K H' a xs := by
  rcases h with (h | ⟨o, h⟩) | h
  · exact .inl (.inl (l.1 a _ h (nz z h fun q => q)))
  · exact .inl (.inr ⟨o, l.1 a _ h (nz z h fun q => q)⟩)
  · exact .inr h
mutual
inductive Dv (K : PySem.W.Frag) (H : Hp) (Z : List Addr) : V → D → Prop
  | non : Dv K H Z .non .none
  | bl (b : Bool) : Dv K H Z (.bl b) (.bool b)
  | int (i : Int) : Dv K H Z (.int i) (.int i)
  | str (x : Str) : Dv K H Z (.str x) (.str x)
  | lst {a : Addr} {xs : List V} {ds : List D} : H a = some (.lst xs) → a ∉ Z → DvA K H Z xs ds → Dv K H Z (.ref a) (.list ds)
  | tup {a : Addr} {xs : List V} {ds : List D} : SqT K H a xs → DvA K H Z xs ds → Dv K H Z (.ref a) (.tuple ds)
inductive DvA (K : PySem.W.Frag) (H : Hp) (Z : List Addr) : List V → List D → Prop
  | nil : DvA K H Z [] []
  | cons {v : V} {vs : List V} {d : D} {ds : List D} : Dv K H Z v d → DvA K H Z vs ds → DvA K H Z (v :: vs) (d :: ds)
end
section
variable {K : PySem.W.Frag} {H H' : Hp} {Z Z' : List Addr}
mutual
theorem Dv.later (z : ZOk H Z) (l : Later H Z H' Z') : ∀ (d : D) (v : V), Dv K H Z v d → Dv K H' Z' v d
  | .none, _, h => by cases h; exact .non
  | .bool b, _, h => by cases h; exact .bl b
  | .int i, _, h => by cases h; exact .int i
  | .str x, _, h => by cases h; exact .str x
  | .list ds, _, h => by
    cases h with
    | @lst a _ _ hs hn ha =>
      refine .lst (l.1 a _ hs hn) (fun q => ?_) (DvA.later z l ds _ ha)
      rcases l.2 a q with r | r
      · exact hn r
      · rw [r] at hs; cases hs
  | .tuple ds, _, h => by
    cases h with
    | tup hs ha => exact .tup (SqT.later z l hs) (DvA.later z l ds _ ha)
  | .dict _, _, h => by cases h
theorem DvA.later (z : ZOk H Z) (l : Later H Z H' Z') : ∀ (ds : List D) (vs : List V), DvA K H Z vs ds → DvA K H' Z' vs ds
  | [], _, h => by cases h; exact .nil
  | d :: ds, _, h => by
    cases h with
    | cons h1 h2 => exact .cons (Dv.later z l d _ h1) (DvA.later z l ds _ h2)
end
mutual
theorem Dv.dp : ∀ (d : D) (v : V), Dv K H Z v d → Dp K H v d
  | .none, _, h => by cases h; exact .non
  | .bool b, _, h => by cases h; exact .bl b
  | .int i, _, h => by cases h; exact .int i
  | .str x, _, h => by cases h; exact .str x
  | .list ds, _, h => by
    cases h with
    | lst hs hn ha => exact .lst (.inl (.inl hs)) (DvA.dp ds _ ha)
  | .tuple ds, _, h => by
    cases h with
    | tup hs ha => exact .tup hs (DvA.dp ds _ ha)
  | .dict _, _, h => by cases h
theorem DvA.dp : ∀ (ds : List D) (vs : List V), DvA K H Z vs ds → DpAll K H vs ds
  | [], _, h => by cases h; exact .nil
  | d :: ds, _, h => by
    cases h with
    | cons h1 h2 => exact .cons (Dv.dp d _ h1) (DvA.dp ds _ h2)
end
theorem DvA.length : ∀ {ds : List D} {vs : List V}, DvA K H Z vs ds → vs.length = ds.length
  | [], _, h => by cases h; rfl
  | d :: ds, _, h => by
    cases h with
    | cons h1 h2 => rw [List.length_cons, List.length_cons, h2.length]
theorem DvA.get : ∀ {ds : List D} {vs : List V} {i : Nat} {d : D}, DvA K H Z vs ds → ds[i]? = some d → ∃ v, vs[i]? = some v ∧ Dv K H Z v d
  | [], _, _, _, h, e => by simp at e
  | d :: ds, _, i, d', h, e => by
    cases h with
    | @cons v vs _ _ h1 h2 =>
      cases i with
      | zero =>
        simp at e
        subst e
        exact ⟨v, by simp, h1⟩
      | succ i =>
        obtain ⟨w, e2, r⟩ := h2.get (i := i) (d := d') (by simpa using e)
        exact ⟨w, by simpa using e2, r⟩
theorem DvA.append : ∀ {ds es : List D} {vs us : List V}, DvA K H Z vs ds → DvA K H Z us es → DvA K H Z (vs ++ us) (ds ++ es)
  | [], _, _, _, h, k => by cases h; exact k
  | d :: ds, _, _, _, h, k => by
    cases h with
    | cons h1 h2 => exact .cons h1 (h2.append k)
theorem DvA.take : ∀ {ds : List D} {vs : List V} (n : Nat), DvA K H Z vs ds → DvA K H Z (vs.take n) (ds.take n)
  | [], _, n, h => by cases h; simp; exact .nil
  | d :: ds, _, n, h => by
    cases h with
    | cons h1 h2 =>
      cases n with
      | zero => exact .nil
      | succ n => exact .cons h1 (h2.take n)
theorem DvA.drop : ∀ {ds : List D} {vs : List V} (n : Nat), DvA K H Z vs ds → DvA K H Z (vs.drop n) (ds.drop n)
  | [], _, n, h => by cases h; simp; exact .nil
  | d :: ds, _, n, h => by
    cases h with
    | cons h1 h2 =>
      cases n with
      | zero => exact .cons h1 h2
      | succ n => exact h2.drop n
theorem DvA.set : ∀ {ds : List D} {vs : List V} {v : V} {d : D} (n : Nat), DvA K H Z vs ds → Dv K H Z v d → DvA K H Z (vs.set n v) (ds.set n d)
  | [], _, _, _, n, h, k => by cases h; exact .nil
  | d :: ds, _, _, _, n, h, k => by
    cases h with
    | cons h1 h2 =>
      cases n with
      | zero => exact .cons k h2
      | succ n => exact .cons h1 (h2.set n k)
theorem DvA.reverse : ∀ {ds : List D} {vs : List V}, DvA K H Z vs ds → DvA K H Z vs.reverse ds.reverse
  | [], _, h => by cases h; exact .nil
  | d :: ds, _, h => by
    cases h with
    | cons h1 h2 =>
      rw [List.reverse_cons, List.reverse_cons]
      exact h2.reverse.append (.cons h1 .nil)
theorem DvA.ints : ∀ {ds : List D} {vs : List V} {ns : List Int}, DvA K H Z vs ds → ds = ns.map .int → vs = ns.map V.int
  | [], _, ns, h, e => by
    cases h
    cases ns with
    | nil => rfl
    | cons n ns => cases e
  | d :: ds, _, ns, h, e => by
    cases h with
    | cons h1 h2 =>
      cases ns with
      | nil => cases e
      | cons n ns =>
        have e1 : d = .int n := by injection e
        have e2 : ds = ns.map .int := by injection e
        subst e1
        cases h1
        rw [h2.ints e2]
        rfl
theorem DvA.of_ints (ns : List Int) : DvA K H Z (ns.map V.int) (ns.map PyData.int) := by
  induction ns with
  | nil => exact .nil
  | cons n ns ih => exact .cons (.int n) ih

/-! ### owned lists -/
def Ow (K : PySem.W.Frag) (H : Hp) (Z : List Addr) (a : Addr) (d : D) : Prop := ∃ xs ds, d = .list ds ∧ H a = some (.lst xs) ∧ DvA K H Z xs ds
/-- a value that is looked at -/
def DvP (K : PySem.W.Frag) (H : Hp) (Z : List Addr) (c : Addr) (v : V) (d : D) : Prop := Dv K H Z v d ∨ ∃ a, v = .ref a ∧ a ∈ Z ∧ a ≠ c ∧ Ow K H Z a d
theorem Ow.keep {c a : Addr} {d : D} {cs : Cs} (z : ZOk H Z) (k : Keep c H H') (hcz : c ∈ Z) (n : a ≠ c) (h : Ow K H Z a d) : Ow K H' Z a d := by
  obtain ⟨xs, ds, e, h1, h2⟩ := h
  exact ⟨xs, ds, e, k a _ h1 n, DvA.later z (k.later hcz) _ _ h2⟩
/-- the items of a list that is looked at -/
theorem DvP.list {c : Addr} {v : V} {ds : List D} (h : DvP K H Z c v (.list ds)) : ∃ a xs, v = .ref a ∧ H a = some (.lst xs) ∧ DvA K H Z xs ds := by
  rcases h with h | ⟨a, e, _, _, xs, ds', e2, h1, h2⟩
  · cases h with
    | lst hs hn ha => exact ⟨_, _, rfl, hs, ha⟩
  · cases e2
    exact ⟨a, xs, e, h1, h2⟩
theorem DvP.tuple {c : Addr} {v : V} {ds : List D} (h : DvP K H Z c v (.tuple ds)) : ∃ a xs, v = .ref a ∧ SqT K H a xs ∧ DvA K H Z xs ds := by
  rcases h with h | ⟨a, e, _, _, xs, ds', e2, h1, h2⟩
  · cases h with
    | tup hs ha => exact ⟨_, _, rfl, hs, ha⟩
  · cases e2
theorem DvP.int {c : Addr} {v : V} {i : Int} (h : DvP K H Z c v (.int i)) : v = .int i := by
  rcases h with h | ⟨a, e, _, _, xs, ds', e2, h1, h2⟩
  · cases h; rfl
  · cases e2
theorem DvP.bool {c : Addr} {v : V} {b : Bool} (h : DvP K H Z c v (.bool b)) : v = .bl b := by
  rcases h with h | ⟨a, e, _, _, xs, ds', e2, h1, h2⟩
  · cases h; rfl
  · cases e2
theorem DvP.dp {c : Addr} {v : V} {d : D} (h : DvP K H Z c v d) : Dp K H v d := by
  rcases h with h | ⟨a, e, _, _, xs, ds, e2, h1, h2⟩
  · exact Dv.dp d v h
  · subst e e2
    exact .lst (.inl (.inl h1)) (DvA.dp ds xs h2)
end
/-! ### slots -/
def RSlot (K : PySem.W.Frag) (H : Hp) (Z : List Addr) (c : Addr) (o : Option V) : Slot → Prop
  | .no => True
  | .sh d => ∃ v, o = some v ∧ Dv K H Z v d
  | .ow d => ∃ a, o = some (.ref a) ∧ a ∈ Z ∧ a ≠ c ∧ Ow K H Z a d
  | .cup => o = some (.ref c)
  | .dI ns => ∃ a, o = some (.ref a) ∧ a ∈ Z ∧ a ≠ c ∧ H a = some (oI ns)
  | .dR rs => ∃ a L, o = some (.ref a) ∧ a ∈ Z ∧ a ≠ c ∧ H a = some (oR a L) ∧ L.map (·.2) = rs ∧ ∀ p ∈ L, SqT K H p.1 (p.2.map V.int)
structure REnv (K : PySem.W.Frag) (H : Hp) (Z : List Addr) (c : Addr) (σ : L2.St) (env : Ev) : Prop where
  len : σ.length = env.length
  at_ : ∀ (i : Nat) (o : Option V) (s : Slot), σ[i]? = some o → env[i]? = some s → RSlot K H Z c o s
def RArg (K : PySem.W.Frag) (H : Hp) (Z : List Addr) (c : Addr) (v : V) : Arg → Prop
  | .dat d => Dv K H Z v d
  | .cup => v = .ref c
/-- where an expression begins -/
structure Pre (K : PySem.W.Frag) (c : Addr) (H : Hp) (Z : List Addr) (σ : L2.St) (env : Ev) (cs : Cs) : Prop where
  z : ZOk H Z
  cz : c ∈ Z
  cell : Cell H c cs
  env : REnv K H Z c σ env
section
variable {K : PySem.W.Frag} {H H' : Hp} {Z : List Addr} {c : Addr} {σ : L2.St} {env : Ev} {cs cs' : Cs} {v : V} {d : D}
theorem Pre.dv (p : Pre K c H Z σ env cs) (k : Keep c H H') (h : Dv K H Z v d) : Dv K H' Z v d := Dv.later p.z (k.later p.cz) d v h
theorem Pre.dva {vs : List V} {ds : List D} (p : Pre K c H Z σ env cs) (k : Keep c H H') (h : DvA K H Z vs ds) : DvA K H' Z vs ds := DvA.later p.z (k.later p.cz) ds vs h
theorem RSlot.keep {o : Option V} {s : Slot} (z : ZOk H Z) (cz : c ∈ Z) (k : Keep c H H') (h : RSlot K H Z c o s) : RSlot K H' Z c o s := by
  cases s with
  | no => trivial
  | sh d =>
    obtain ⟨v, e, r⟩ := h
    exact ⟨v, e, Dv.later z (k.later cz) d v r⟩
  | ow d =>
    obtain ⟨a, e, ha, n, r⟩ := h
    exact ⟨a, e, ha, n, r.keep (cs := []) z k cz n⟩
  | cup => exact h
  | dI ns => obtain ⟨a, e, ha, n, r⟩ := h; exact ⟨a, e, ha, n, k a _ r n⟩
  | dR rs => obtain ⟨a, L, e, ha, n, r, e2, q⟩ := h; exact ⟨a, L, e, ha, n, k a _ r n, e2, fun p hp => SqT.later z (k.later cz) (q p hp)⟩
theorem REnv.keep (z : ZOk H Z) (cz : c ∈ Z) (k : Keep c H H') (h : REnv K H Z c σ env) : REnv K H' Z c σ env :=
  ⟨h.len, fun i o s e1 e2 => (h.at_ i o s e1 e2).keep z cz k⟩
theorem Pre.step (p : Pre K c H Z σ env cs) (k : Keep c H H') (hc : Cell H' c cs') : Pre K c H' Z σ env cs' :=
  ⟨p.z.keep k hc, p.cz, hc, p.env.keep p.z p.cz k⟩
theorem Pre.dvp (p : Pre K c H Z σ env cs) (k : Keep c H H') (h : DvP K H Z c v d) : DvP K H' Z c v d := by
  rcases h with h | ⟨a, e, ha, n, h⟩
  · exact .inl (p.dv k h)
  · exact .inr ⟨a, e, ha, n, h.keep (cs := []) p.z k p.cz n⟩
end
end Se
end
section
set_option Elab.async false
set_option linter.all false
set_option maxRecDepth 100000
set_option maxHeartbeats 4000000
namespace Se
open PySem PySem.Spec PyProof.Rows L2
/-! ### lifted readings -/
abbrev Rel (β : Type) := Hp → List Addr → V → β → Prop
def lf {β : Type} (R : Rel β) (K : PySem.W.Frag) (c : Addr) (f : Ev → M β) : TE := fun σ H Q => ∃ Z env cs d cs', Pre K c H Z σ env cs ∧ f env cs = some (d, cs') ∧ ∀ v H', Keep c H H' → Cell H' c cs' → R H' Z v d → Q v H'
abbrev le (K : PySem.W.Frag) (c : Addr) (f : Ev → M D) : TE := lf (fun H Z => Dv K H Z) K c f
abbrev lp (K : PySem.W.Frag) (c : Addr) (f : Ev → M D) : TE := lf (fun H Z => DvP K H Z c) K c f
section
variable {X : Cx}
theorem pe_imp {e : Expr} {t u : TE} (h : PE X e t) (i : ∀ σ H Q, u σ H Q → t σ H Q) : PE X e u := ⟨fun pins s σ H Q I q => h.run pins s σ H Q I (i σ H Q q)⟩
theorem pt_imp {e : Expr} {t u : TT} (h : PT X e t) (i : ∀ σ H Q, u σ H Q → t σ H Q) : PT X e u := ⟨fun pins s σ H Q I q => h.run pins s σ H Q I (i σ H Q q)⟩
theorem pw_imp {e : Expr} {t u : TT} (h : PW X e t) (i : ∀ σ H Q, u σ H Q → t σ H Q) : PW X e u := ⟨fun wh pins s σ H Q I q => h.run wh pins s σ H Q I (i σ H Q q)⟩
theorem pa_imp {es : List Expr} {t u : TA} (h : PA X es t) (i : ∀ σ H Q, u σ H Q → t σ H Q) : PA X es u := ⟨fun pos pins s σ H Q I q => h.run pos pins s σ H Q I (i σ H Q q)⟩
theorem ps_imp {st : Stmt} {t u : TS} (h : PS X st t) (i : ∀ D σ H, u D σ H → t D σ H) : PS X st u := ⟨fun pins s σ H D I q => h.run pins s σ H D I (i D σ H q)⟩
theorem pss_imp {st : List Stmt} {t u : TS} (h : PSs X st t) (i : ∀ D σ H, u D σ H → t D σ H) : PSs X st u := ⟨fun pins s σ H D I q => h.run pins s σ H D I (i D σ H q)⟩
variable {c : Addr} {e a b : Expr} {pos : Pos} {cf : CF} {f fa fb : SE}
theorem PE.pk (h : PE X e (le X.K c (f cf))) : PE X e (lp X.K c (f cf)) := pe_imp h fun σ H Q ⟨Z, env, cs, d, cs', p, e, q⟩ => ⟨Z, env, cs, d, cs', p, e, fun v H' k ce r => q v H' k ce (.inl r)⟩

/-! ### names, constants -/
def mVar (i : Nat) : SE := fun _ env cs => match env[i]? with
  | some (.sh d) => some (d, cs)
  | _ => none
def mPk (i : Nat) : SE := fun _ env cs => match env[i]? with
  | some (.sh d) => some (d, cs)
  | some (.ow d) => some (d, cs)
  | _ => none
def mLit (d : D) : SE := fun _ _ cs => some (d, cs)
theorem lt_of_some {α : Type} {l : List α} {i : Nat} {x : α} (h : l[i]? = some x) : i < l.length := (List.getElem?_eq_some_iff.mp h).1
theorem REnv.get {K : PySem.W.Frag} {H : Hp} {Z : List Addr} {c : Addr} {σ : L2.St} {env : Ev} {i : Nat} {s : Slot} (h : REnv K H Z c σ env) (e : env[i]? = some s) : ∃ o, σ[i]? = some o ∧ RSlot K H Z c o s := by
  have l := lt_of_some e
  rw [← h.len] at l
  exact ⟨σ[i], List.getElem?_eq_getElem l, h.at_ i _ s (List.getElem?_eq_getElem l) e⟩
theorem e_var {i : Nat} {x : Str} (hN : X.N[i]? = some x) (hv : Vis X.env.scope x) (hd : (x == ("__debug__" : Str)) = false) (hcd : (x == ("__classdict__" : Str)) = false) : PE X (.Name x pos) (le X.K c (mVar i cf)) :=
  pe_imp (pe_var hN hv hd hcd) fun σ H Q ⟨Z, env, cs, d, cs', p, e, q⟩ => by
    unfold mVar at e
    split at e
    · rename_i d' e1
      cases e
      obtain ⟨o, e2, v, rfl, r⟩ := p.env.get e1
      exact ⟨v, e2, q v H .refl p.cell r⟩
    · cases e
theorem e_pk {i : Nat} {x : Str} (hN : X.N[i]? = some x) (hv : Vis X.env.scope x) (hd : (x == ("__debug__" : Str)) = false) (hcd : (x == ("__classdict__" : Str)) = false) : PE X (.Name x pos) (lp X.K c (mPk i cf)) :=
  pe_imp (pe_var hN hv hd hcd) fun σ H Q ⟨Z, env, cs, d, cs', p, e, q⟩ => by
    unfold mPk at e
    split at e
    · rename_i d' e1
      cases e
      obtain ⟨o, e2, v, rfl, r⟩ := p.env.get e1
      exact ⟨v, e2, q v H .refl p.cell (.inl r)⟩
    · rename_i d' e1
      cases e
      obtain ⟨o, e2, a, rfl, ha, n, r⟩ := p.env.get e1
      exact ⟨.ref a, e2, q _ H .refl p.cell (.inr ⟨a, rfl, ha, n, r⟩)⟩
    · cases e
/-- a cell -/
def mCupOk (i : Nat) (env : Ev) : Bool := match env[i]? with
  | some .cup => true
  | _ => false
theorem lit_of {d : D} {v : V} (h : PE X e (tC v)) (r : ∀ H Z, Dv X.K H Z v d) : PE X e (le X.K c (mLit d cf)) :=
  pe_imp h fun σ H Q ⟨Z, env, cs, d', cs', p, e, q⟩ => by
    cases e
    exact q v H .refl p.cell (r H Z)
theorem e_int {i : Int} {j : Nat} : PE X (.Constant (.int i) j pos) (le X.K c (mLit (.int i) cf)) := lit_of pe_int fun _ _ => .int i
theorem e_bl {i : Bool} {j : Nat} : PE X (.Constant (.bool i) j pos) (le X.K c (mLit (.bool i) cf)) := lit_of pe_bl fun _ _ => .bl i
theorem e_non {j : Nat} : PE X (.Constant .none j pos) (le X.K c (mLit .none cf)) := lit_of pe_non fun _ _ => .non
theorem e_str {x : Str} {j : Nat} : PE X (.Constant (.str x) j pos) (le X.K c (mLit (.str x) cf)) := lit_of pe_str fun _ _ => .str x
theorem e_glob {x : Str} {v : V} {u : Value} {d : D} (hg : Gl X x) (hm : X.mg x = some u) (r : RelV v u) (hd : (x == ("__debug__" : Str)) = false) (rd : ∀ H Z, Dv X.K H Z v d) : PE X (.Name x pos) (le X.K c (mLit d cf)) :=
  lit_of (pe_glob hg hm r hd) rd

/-! ### operators -/
/-- what an operation by values is: g -/
def rD (K : PySem.W.Frag) (c : Addr) (g : D → D → Option D) : R2 := fun x y H Q => ∃ Z d e z, ZOk H Z ∧ c ∈ Z ∧ DvP K H Z c x d ∧ DvP K H Z c y e ∧ g d e = some z ∧ ∀ v H', Keep c H H' → H' c = H c → Dv K H' Z v z → Q v H'
def mBin (g : D → D → Option D) (fa fb : SE) : SE := fun cf env => M.bnd (fa cf env) fun x => M.bnd (fb cf env) fun y => M.of (g x y)
theorem op2 {r : R2} {g : D → D → Option D} (hr : ∀ x y H Q, rD X.K c g x y H Q → r x y H Q) {σ : L2.St} {H : Hp} {Q : VK} (h : le X.K c (mBin g fa fb cf) σ H Q) : tOp r (lp X.K c (fa cf)) (lp X.K c (fb cf)) σ H Q := by
  obtain ⟨Z, env, cs, z, cs', p, e, q⟩ := h
  obtain ⟨x, c1, e1, e⟩ := bnd_some e
  obtain ⟨y, c2, e2, e⟩ := bnd_some e
  obtain ⟨z', ez, e3⟩ := of_some e
  cases e3
  refine ⟨Z, env, cs, x, c1, p, e1, fun v H1 k1 ce1 r1 => ?_⟩
  have p1 := p.step k1 ce1
  refine ⟨Z, env, c1, y, cs', p1, e2, fun u H2 k2 ce2 r2 => ?_⟩
  have p2 := p1.step k2 ce2
  refine hr v u H2 Q ⟨Z, x, y, z, p2.z, p2.cz, p1.dvp k2 r1, r2, ez, fun w H3 k3 e3 r3 => ?_⟩
  exact q w H3 ((k1.trans k2).trans k3) (e3.trans p2.cell) r3
theorem e_bin {op : Operator} {g : D → D → Option D} (ho : OpR X (binaryOp op) (rD X.K c g)) (ha : PE X a (lp X.K c (fa cf))) (hb : PE X b (lp X.K c (fb cf))) : PE X (.BinOp a op b pos) (le X.K c (mBin g fa fb cf)) :=
  pe_imp (pe_op ho ha hb) fun σ H Q h => op2 (fun _ _ _ _ q => q) h
theorem e_cmp {op : CmpOp} {g : D → D → Option D} (ho : OpR X (compareOp op) (rD X.K c g)) (ha : PE X a (lp X.K c (fa cf))) (hb : PE X b (lp X.K c (fb cf))) (hm : behindInMarks op b = false) : PE X (.Compare a [op] [b] pos) (le X.K c (mBin g fa fb cf)) :=
  pe_imp (pe_cmpR ho ha hb hm) fun σ H Q h => op2 (fun _ _ _ _ q => q) h
/-! a test: the value must be a truth value -/
def lt (K : PySem.W.Frag) (c : Addr) (f : Ev → M D) : TT := fun σ H Q => ∃ Z env cs k cs', Pre K c H Z σ env cs ∧ f env cs = some (.bool k, cs') ∧ ∀ H', Keep c H H' → Cell H' c cs' → Q k H'
theorem tst {t : TE} {f : Ev → M D} (i : ∀ σ H Q, le X.K c f σ H Q → t σ H Q) {σ : L2.St} {H : Hp} {Q : Bool → Hp → Prop} (h : lt X.K c f σ H Q) : tB t σ H Q := by
  obtain ⟨Z, env, cs, k, cs', p, e, q⟩ := h
  refine i _ _ _ ⟨Z, env, cs, _, cs', p, e, fun v H' kp ce r => ?_⟩
  cases r
  exact ⟨k, rfl, q H' kp ce⟩
theorem t_val (h : PE X e (le X.K c (f cf))) (he : ∀ whole, isTrue e X.env whole = (do let v ← whole; standAt e.pos; holding [v] (truthy v))) : PT X e (lt X.K c (f cf)) :=
  pt_imp (pt_val h he) fun σ H Q q => tst (fun _ _ _ z => z) q
theorem t_cmp {op : CmpOp} {g : D → D → Option D} (ho : OpR X (compareOp op) (rD X.K c g)) (ha : PE X a (lp X.K c (fa cf))) (hb : PE X b (lp X.K c (fb cf))) (hm : behindInMarks op b = false) : PT X (.Compare a [op] [b] pos) (lt X.K c (mBin g fa fb cf)) :=
  pt_imp (pt_cmpR ho ha hb hm) fun σ H Q q => tst (fun _ _ _ h => op2 (fun _ _ _ _ q => q) h) q
/-! chains -/
def mChain (g g' : D → D → Option D) (fa fb fc : SE) : SE := fun cf env => M.bnd (fa cf env) fun x => M.bnd (fb cf env) fun y => M.bnd (M.of (g x y)) fun z => match z with
  | .bool true => M.bnd (fc cf env) fun w => M.of (g' y w)
  | .bool false => M.ret (.bool false)
  | _ => M.of none
end
end Se
end
section
set_option Elab.async false
set_option linter.all false
set_option maxRecDepth 100000
set_option maxHeartbeats 4000000
namespace Se
open PySem PySem.Spec PyProof.Rows L2
section
variable {X : Cx} {c : Addr} {e a b d : Expr} {es rest : List Expr} {pos : Pos} {cf : CF} {f fa fb fc : SE}
/-! ### chains -/
theorem e_chain {op op' : CmpOp} {g g' : D → D → Option D} (ho : OpR X (compareOp op) (rD X.K c g)) (ho' : OpR X (compareOp op') (rD X.K c g')) (ha : PE X a (lp X.K c (fa cf))) (hb : PE X b (lp X.K c (fb cf))) (hc : PE X d (lp X.K c (fc cf)))
    (hm : lastMarks [op, op'] [b, d] = false) : PE X (.Compare a [op, op'] [b, d] pos) (le X.K c (mChain g g' fa fb fc cf)) ∧ PT X (.Compare a [op, op'] [b, d] pos) (lt X.K c (mChain g g' fa fb fc cf)) := by
  have key : ∀ σ H Q, le X.K c (mChain g g' fa fb fc cf) σ H Q → tChain (rD X.K c g) (rD X.K c g') (lp X.K c (fa cf)) (lp X.K c (fb cf)) (lp X.K c (fc cf)) σ H Q := by
    rintro σ H Q ⟨Z, env, cs, z, cs', p, e, q⟩
    obtain ⟨x, c1, e1, e⟩ := bnd_some e
    obtain ⟨y, c2, e2, e⟩ := bnd_some e
    obtain ⟨z1, c3, e3, e⟩ := bnd_some e
    obtain ⟨z2, ez, e4⟩ := of_some e3
    cases e4
    refine ⟨Z, env, cs, x, c1, p, e1, fun v H1 k1 ce1 r1 => ?_⟩
    have p1 := p.step k1 ce1
    refine ⟨Z, env, c1, y, c2, p1, e2, fun u H2 k2 ce2 r2 => ?_⟩
    have p2 := p1.step k2 ce2
    refine ⟨Z, x, y, z1, p2.z, p2.cz, p1.dvp k2 r1, r2, ez, fun w H3 k3 ec3 r3 => ?_⟩
    have p3 : Pre X.K c H3 Z σ env c2 := p2.step k3 (ec3.trans p2.cell)
    cases z1 with
    | bool k =>
      cases r3
      refine ⟨k, rfl, ?_⟩
      cases k with
      | true =>
        rw [if_pos rfl]
        obtain ⟨w', c4, e5, e⟩ := bnd_some e
        obtain ⟨z3, ez3, e6⟩ := of_some e
        cases e6
        refine ⟨Z, env, c2, w', cs', p3, e5, fun v4 H4 k4 ce4 r4 => ?_⟩
        have p4 := p3.step k4 ce4
        refine ⟨Z, y, w', z, p4.z, p4.cz, p3.dvp k4 (p2.dvp k3 r2), r4, ez3, fun v5 H5 k5 ec5 r5 => ?_⟩
        exact q v5 H5 ((((k1.trans k2).trans k3).trans k4).trans k5) (ec5.trans p4.cell) r5
      | false =>
        rw [if_neg Bool.false_ne_true]
        cases ret_some e
        exact q _ H3 ((k1.trans k2).trans k3) p3.cell (.bl false)
    | _ => cases e
  exact ⟨pe_imp (pe_chain ho ho' ha hb hc hm) key, pt_imp (pt_chain ho ho' ha hb hc hm) fun σ H Q q => tst key q⟩

/-! ### and, or, not, if .. else -/
def mAnd (fa fb : SE) : SE := fun cf env => M.bnd (fa cf env) fun x => match x with
  | .bool true => fb cf env
  | .bool false => M.ret (.bool false)
  | _ => M.of none
def mOr (fa fb : SE) : SE := fun cf env => M.bnd (fa cf env) fun x => match x with
  | .bool true => M.ret (.bool true)
  | .bool false => fb cf env
  | _ => M.of none
def mNot (fa : SE) : SE := fun cf env => M.bnd (fa cf env) fun x => match x with
  | .bool k => M.ret (.bool !k)
  | _ => M.of none
def mIf (fc fa fb : SE) : SE := fun cf env => M.bnd (fc cf env) fun x => match x with
  | .bool true => fa cf env
  | .bool false => fb cf env
  | _ => M.of none
theorem bnd_bool {β : Type} {m : M D} {k : Bool → M β} {g : D → M β} {cs : Cs} {r : β × Cs} (hg : ∀ x, g x = match x with | .bool b => k b | _ => M.of none) (h : M.bnd m g cs = some r) : ∃ b c', m cs = some (.bool b, c') ∧ k b c' = some r := by
  obtain ⟨x, c', e, h⟩ := bnd_some h
  rw [hg] at h
  cases x with
  | bool b => exact ⟨b, c', e, h⟩
  | _ => cases h
theorem and_some {cf : CF} {env : Ev} {cs : Cs} {r : D × Cs} (h : mAnd fa fb cf env cs = some r) : ∃ k c1, fa cf env cs = some (.bool k, c1) ∧ (if k = true then fb cf env c1 = some r else r = (.bool false, c1)) := by
  obtain ⟨x, c1, e1, h⟩ := bnd_some h
  cases x with
  | bool k =>
    refine ⟨k, c1, e1, ?_⟩
    cases k with
    | true => exact h
    | false => exact ret_some h
  | _ => cases h
theorem or_some {cf : CF} {env : Ev} {cs : Cs} {r : D × Cs} (h : mOr fa fb cf env cs = some r) : ∃ k c1, fa cf env cs = some (.bool k, c1) ∧ (if k = true then r = (.bool true, c1) else fb cf env c1 = some r) := by
  obtain ⟨x, c1, e1, h⟩ := bnd_some h
  cases x with
  | bool k =>
    refine ⟨k, c1, e1, ?_⟩
    cases k with
    | true => exact ret_some h
    | false => exact h
  | _ => cases h
theorem not_some {cf : CF} {env : Ev} {cs : Cs} {r : D × Cs} (h : mNot fa cf env cs = some r) : ∃ k c1, fa cf env cs = some (.bool k, c1) ∧ r = (.bool !k, c1) := by
  obtain ⟨x, c1, e1, h⟩ := bnd_some h
  cases x with
  | bool k => exact ⟨k, c1, e1, ret_some h⟩
  | _ => cases h
theorem if_some {cf : CF} {env : Ev} {cs : Cs} {r : D × Cs} (h : mIf fc fa fb cf env cs = some r) : ∃ k c1, fc cf env cs = some (.bool k, c1) ∧ (if k = true then fa cf env c1 = some r else fb cf env c1 = some r) := by
  obtain ⟨x, c1, e1, h⟩ := bnd_some h
  cases x with
  | bool k =>
    refine ⟨k, c1, e1, ?_⟩
    cases k with
    | true => exact h
    | false => exact h
  | _ => cases h
theorem e_and (ha : PE X a (le X.K c (fa cf))) (hb : PE X (.BoolOp .And (b :: rest) pos) (le X.K c (fb cf))) : PE X (.BoolOp .And (a :: b :: rest) pos) (le X.K c (mAnd fa fb cf)) :=
  pe_imp (pe_and ha hb) fun σ H Q ⟨Z, env, cs, z, cs', p, e, q⟩ => by
    obtain ⟨k, c1, e1, e⟩ := and_some e
    refine ⟨Z, env, cs, _, c1, p, e1, fun v H1 k1 ce1 r1 => ?_⟩
    cases r1
    refine ⟨k, rfl, ?_⟩
    cases k with
    | true => exact ⟨Z, env, c1, z, cs', p.step k1 ce1, e, fun v H2 k2 ce2 r2 => q v H2 (k1.trans k2) ce2 r2⟩
    | false => cases e; exact q _ H1 k1 ce1 (.bl false)
theorem e_or (ha : PE X a (le X.K c (fa cf))) (hb : PE X (.BoolOp .Or (b :: rest) pos) (le X.K c (fb cf))) : PE X (.BoolOp .Or (a :: b :: rest) pos) (le X.K c (mOr fa fb cf)) :=
  pe_imp (pe_or ha hb) fun σ H Q ⟨Z, env, cs, z, cs', p, e, q⟩ => by
    obtain ⟨k, c1, e1, e⟩ := or_some e
    refine ⟨Z, env, cs, _, c1, p, e1, fun v H1 k1 ce1 r1 => ?_⟩
    cases r1
    refine ⟨k, rfl, ?_⟩
    cases k with
    | true => cases e; exact q _ H1 k1 ce1 (.bl true)
    | false => exact ⟨Z, env, c1, z, cs', p.step k1 ce1, e, fun v H2 k2 ce2 r2 => q v H2 (k1.trans k2) ce2 r2⟩
theorem e_not (ha : PE X a (le X.K c (fa cf))) : PE X (.UnaryOp .Not a pos) (le X.K c (mNot fa cf)) :=
  pe_imp (pe_not ha) fun σ H Q ⟨Z, env, cs, z, cs', p, e, q⟩ => by
    obtain ⟨k, c1, e1, e⟩ := not_some e
    cases e
    refine ⟨Z, env, cs, _, _, p, e1, fun v H1 k1 ce1 r1 => ?_⟩
    cases r1
    exact ⟨k, rfl, q _ H1 k1 ce1 (.bl _)⟩
theorem e_if (hc : PT X d (lt X.K c (fc cf))) (ha : PE X a (le X.K c (fa cf))) (hb : PE X b (le X.K c (fb cf))) : PE X (.IfExp d a b pos) (le X.K c (mIf fc fa fb cf)) :=
  pe_imp (pe_ifExp hc ha hb) fun σ H Q ⟨Z, env, cs, z, cs', p, e, q⟩ => by
    obtain ⟨k, c1, e1, e⟩ := if_some e
    refine ⟨Z, env, cs, k, c1, p, e1, fun H1 k1 ce1 => ?_⟩
    cases k with
    | true => exact ⟨Z, env, c1, z, cs', p.step k1 ce1, e, fun v H2 k2 ce2 r2 => q v H2 (k1.trans k2) ce2 r2⟩
    | false => exact ⟨Z, env, c1, z, cs', p.step k1 ce1, e, fun v H2 k2 ce2 r2 => q v H2 (k1.trans k2) ce2 r2⟩
theorem t_and (ha : PT X a (lt X.K c (fa cf))) (hb : PW X (.BoolOp .And (b :: rest) pos) (lt X.K c (fb cf))) : PW X (.BoolOp .And (a :: b :: rest) pos) (lt X.K c (mAnd fa fb cf)) :=
  pw_imp (pw_and ha hb) fun σ H Q ⟨Z, env, cs, z, cs', p, e, q⟩ => by
    obtain ⟨k, c1, e1, e⟩ := and_some e
    refine ⟨Z, env, cs, k, c1, p, e1, fun H1 k1 ce1 => ?_⟩
    cases k with
    | true => exact ⟨Z, env, c1, z, cs', p.step k1 ce1, e, fun H2 k2 ce2 => q H2 (k1.trans k2) ce2⟩
    | false => cases e; exact q H1 k1 ce1
theorem t_or (ha : PT X a (lt X.K c (fa cf))) (hb : PW X (.BoolOp .Or (b :: rest) pos) (lt X.K c (fb cf))) : PW X (.BoolOp .Or (a :: b :: rest) pos) (lt X.K c (mOr fa fb cf)) :=
  pw_imp (pw_or ha hb) fun σ H Q ⟨Z, env, cs, z, cs', p, e, q⟩ => by
    obtain ⟨k, c1, e1, e⟩ := or_some e
    refine ⟨Z, env, cs, k, c1, p, e1, fun H1 k1 ce1 => ?_⟩
    cases k with
    | true => cases e; exact q H1 k1 ce1
    | false => exact ⟨Z, env, c1, z, cs', p.step k1 ce1, e, fun H2 k2 ce2 => q H2 (k1.trans k2) ce2⟩
theorem t_not (ha : PT X a (lt X.K c (fa cf))) : PT X (.UnaryOp .Not a pos) (lt X.K c (mNot fa cf)) :=
  pt_imp (pt_not ha) fun σ H Q ⟨Z, env, cs, z, cs', p, e, q⟩ => by
    obtain ⟨k, c1, e1, e⟩ := not_some e
    cases e
    exact ⟨Z, env, cs, k, _, p, e1, fun H1 k1 ce1 => q H1 k1 ce1⟩

/-! ### argument lists, displays -/
def lA {β : Type} (R : Rel β) (K : PySem.W.Frag) (c : Addr) (f : Ev → M (List β)) : TA := fun σ H Q => ∃ Z env cs ds cs', Pre K c H Z σ env cs ∧ f env cs = some (ds, cs') ∧ ∀ vs H', Keep c H H' → Cell H' c cs' → Paired (R H' Z) vs ds → Q vs H'
abbrev SA (β : Type) := CF → Ev → M (List β)
def mNil {β : Type} : SA β := fun _ _ => M.ret []
def mCons {β : Type} (fa : CF → Ev → M β) (fr : SA β) : SA β := fun cf env => M.bnd (fa cf env) fun x => M.bnd (fr cf env) fun xs => M.ret (x :: xs)
/-- what is known of a value stays -/
def Stays {β : Type} (R : Rel β) (K : PySem.W.Frag) (c : Addr) : Prop := ∀ (H H' : Hp) (Z : List Addr) (v : V) (b : β), ZOk H Z → c ∈ Z → Keep c H H' → R H Z v b → R H' Z v b
theorem stays_dv {K : PySem.W.Frag} {c : Addr} : Stays (fun H Z => Dv K H Z) K c := fun H H' Z v b z cz k r => Dv.later z (k.later cz) b v r
theorem stays_dvp {K : PySem.W.Frag} {c : Addr} : Stays (fun H Z => DvP K H Z c) K c := fun H H' Z v b z cz k r => by
  rcases r with h | ⟨a, e, ha, n, h⟩
  · exact .inl (Dv.later z (k.later cz) b v h)
  · exact .inr ⟨a, e, ha, n, h.keep (cs := []) z k cz n⟩
theorem stays_arg {K : PySem.W.Frag} {c : Addr} : Stays (fun H Z => RArg K H Z c) K c := fun H H' Z v b z cz k r => by
  cases b with
  | dat d => exact Dv.later z (k.later cz) d v r
  | cup => exact r
theorem a_nil {β : Type} {R : Rel β} : PA X [] (lA R X.K c ((mNil : SA β) cf)) := pa_imp pa_nil fun σ H Q ⟨Z, env, cs, ds, cs', p, e, q⟩ => by
  cases ret_some e
  exact q [] H .refl p.cell .nil
theorem a_cons {β : Type} {R : Rel β} {fa : CF → Ev → M β} {fr : SA β} (st : Stays R X.K c) (ha : PE X e (lf R X.K c (fa cf))) (hr : PA X es (lA R X.K c (fr cf))) (hs : starEach (e :: es) X.env = (false, eval e X.env) :: starEach es X.env) :
    PA X (e :: es) (lA R X.K c (mCons fa fr cf)) := pa_imp (pa_cons ha hr hs) fun σ H Q ⟨Z, env, cs, ds, cs', p, e, q⟩ => by
  obtain ⟨x, c1, e1, e⟩ := bnd_some e
  obtain ⟨xs, c2, e2, e⟩ := bnd_some e
  cases ret_some e
  refine ⟨Z, env, cs, x, c1, p, e1, fun v H1 k1 ce1 r1 => ?_⟩
  have p1 := p.step k1 ce1
  exact ⟨Z, env, c1, xs, _, p1, e2, fun vs H2 k2 ce2 r2 => q (v :: vs) H2 (k1.trans k2) ce2 (.cons (st _ _ _ _ _ p1.z p1.cz k2 r1) r2)⟩
theorem paired_dva {K : PySem.W.Frag} {H : Hp} {Z : List Addr} : ∀ {vs : List V} {ds : List D}, Paired (Dv K H Z) vs ds → DvA K H Z vs ds
  | _, _, .nil => .nil
  | _, _, .cons r t => .cons r (paired_dva t)
/-- data and the cup -/
def aDat (fa : SE) : CF → Ev → M Arg := fun cf env => M.bnd (fa cf env) fun x => M.ret (.dat x)
def aCup (i : Nat) : CF → Ev → M Arg := fun _ env cs => match env[i]? with
  | some .cup => some (.cup, cs)
  | _ => none
theorem e_adat (h : PE X e (le X.K c (fa cf))) : PE X e (lf (fun H Z => RArg X.K H Z c) X.K c (aDat fa cf)) := pe_imp h fun σ H Q ⟨Z, env, cs, z, cs', p, e, q⟩ => by
  obtain ⟨x, c1, e1, e⟩ := bnd_some e
  cases ret_some e
  exact ⟨Z, env, cs, x, _, p, e1, fun v H1 k1 ce1 r1 => q v H1 k1 ce1 r1⟩
theorem e_acup {i : Nat} {x : Str} (hN : X.N[i]? = some x) (hv : Vis X.env.scope x) (hd : (x == ("__debug__" : Str)) = false) (hcd : (x == ("__classdict__" : Str)) = false) : PE X (.Name x pos) (lf (fun H Z => RArg X.K H Z c) X.K c (aCup i cf)) :=
  pe_imp (pe_var hN hv hd hcd) fun σ H Q ⟨Z, env, cs, z, cs', p, e, q⟩ => by
    unfold aCup at e
    split at e
    · rename_i e1
      cases e
      obtain ⟨o, e2, r⟩ := p.env.get e1
      have r' : o = some (.ref c) := r
      subst r'
      exact ⟨.ref c, e2, q _ H .refl p.cell rfl⟩
    · cases e
def mTup (fs : SA D) : SE := fun cf env => M.bnd (fs cf env) fun ds => M.ret (.tuple ds)
def mLst (fs : SA D) : SE := fun cf env => M.bnd (fs cf env) fun ds => M.ret (.list ds)
def Short (fs : Ev → M (List D)) : Prop := ∀ env cs ds cs', fs env cs = some (ds, cs') → ds.length ≤ sizeLine
theorem upd_cell {H : Hp} {c p : Addr} {o : HO} {cs : Cs} (hc : Cell H c cs) (hp : H p = none) : (upd H p o) c = H c := upd_ne (ne_of_none hc hp)
theorem fresh_z {H : Hp} {Z : List Addr} {p : Addr} (z : ZOk H Z) (hp : H p = none) : p ∉ Z := fun q => by
  have m := z p q
  rw [hp] at m
  exact m
theorem e_tup {fs : SA D} {k : Nat} (h : PA X es (lA (fun H Z => Dv X.K H Z) X.K c (fs cf))) (hs : Short (fs cf)) : PE X (.Tuple es k pos) (le X.K c (mTup fs cf)) := pe_imp (pe_tup h) fun σ H Q ⟨Z, env, cs, z, cs', p, e, q⟩ => by
  obtain ⟨ds, c1, e1, e⟩ := bnd_some e
  cases ret_some e
  refine ⟨Z, env, cs, ds, _, p, e1, fun vs H1 k1 ce1 r1 => ⟨?_, fun t ht => ?_⟩⟩
  · rw [(paired_dva r1).length]
    exact hs _ _ _ _ e1
  · have kt : Keep c H1 (upd H1 t (.tup vs)) := .upd ht
    have p1 := p.step k1 ce1
    exact q _ _ (k1.trans kt) ((upd_cell ce1 ht).trans ce1) (.tup (SqT.of upd_same) (p1.dva kt (paired_dva r1)))
theorem e_lst {fs : SA D} (h : PA X es (lA (fun H Z => Dv X.K H Z) X.K c (fs cf))) (hs : Short (fs cf)) : PE X (.List es pos) (le X.K c (mLst fs cf)) := pe_imp (pe_lst h) fun σ H Q ⟨Z, env, cs, z, cs', p, e, q⟩ => by
  obtain ⟨ds, c1, e1, e⟩ := bnd_some e
  cases ret_some e
  refine ⟨Z, env, cs, ds, _, p, e1, fun vs H1 k1 ce1 r1 => ⟨?_, fun t ht => ?_⟩⟩
  · rw [(paired_dva r1).length]
    exact hs _ _ _ _ e1
  · have kt : Keep c H1 (upd H1 t (.lst vs)) := .upd ht
    have p1 := p.step k1 ce1
    exact q _ _ (k1.trans kt) ((upd_cell ce1 ht).trans ce1) (.lst upd_same (fresh_z p1.z ht) (p1.dva kt (paired_dva r1)))

/-! ### calls -/
/-- a def's promise: it does what run does -/
def spD (K : PySem.W.Frag) (run : List Arg → M D) : Sp := fun vs H Q _ => ∃ Z c cs args d cs', ZOk H Z ∧ c ∈ Z ∧ Cell H c cs ∧ Paired (RArg K H Z c) vs args ∧ run args cs = some (d, cs') ∧ ∀ v H', Keep c H H' → Cell H' c cs' → Dv K H' Z v d → Q v H'
def mCall (i : Nat) (fs : SA Arg) : SE := fun cf env => M.bnd (fs cf env) fun as => cf i as
theorem call_pre {i : Nat} {fs : SA Arg} {σ : L2.St} {H : Hp} {Q : VK} (h : le X.K c (mCall i fs cf) σ H Q) : tCall (spD X.K (cf i)) [] E0 (lA (fun H Z => RArg X.K H Z c) X.K c (fs cf)) σ H Q := by
  obtain ⟨Z, env, cs, z, cs', p, e, q⟩ := h
  obtain ⟨as, c1, e1, e⟩ := bnd_some e
  refine ⟨Z, env, cs, as, c1, p, e1, fun vs H1 k1 ce1 r1 => ?_⟩
  have p1 := p.step k1 ce1
  show spD X.K (cf i) (vs ++ []) H1 Q E0
  rw [List.append_nil]
  exact ⟨Z, c, c1, as, z, cs', p1.z, p1.cz, ce1, r1, e, fun v H' k ce r => q v H' (k1.trans k) ce r⟩
theorem e_call {i k : Nat} {fs : SA Arg} {x : Str} {p : Pos} {fAd : Addr} {fd : FuncData} {ps : List Str} (F : FnOk X.prog X.w X.K X.mg X.base CX0 k fAd fd ps (spD X.K (cf i))) (hr : Room k X.A) (hg : Gl X x) (hm : X.mg x = some (.ref fAd)) (hk : PySem.W.keepIn X.K (.ref fAd) = true) (hb : Binds X.K fd ps [])
    (ha : PA X (e :: es) (lA (fun H Z => RArg X.K H Z c) X.K c (fs cf))) (hdb : (x == ("__debug__" : Str)) = false) (he : starEach (e :: es) X.env = (false, eval e X.env) :: starEach es X.env) (hpl : (backTo pos (starEach es X.env)).any (·.1) = false) :
    PE X (.Call (.Name x p) (e :: es) [] pos) (le X.K c (mCall i fs cf)) :=
  pe_imp (pe_call F hr hg hm hk hb .nil pass0 ha hdb he hpl) fun _ _ _ h => call_pre h
theorem e_call0 {i k : Nat} {x : Str} {p : Pos} {fAd : Addr} {fd : FuncData} {ps : List Str} (F : FnOk X.prog X.w X.K X.mg X.base CX0 k fAd fd ps (spD X.K (cf i))) (hr : Room k X.A) (hg : Gl X x) (hm : X.mg x = some (.ref fAd)) (hk : PySem.W.keepIn X.K (.ref fAd) = true) (hb : Binds X.K fd ps [])
    (hdb : (x == ("__debug__" : Str)) = false) : PE X (.Call (.Name x p) [] [] pos) (le X.K c (mCall i mNil cf)) :=
  pe_imp (pe_call0 F hr hg hm hk hb .nil pass0 hdb) fun σ H Q h => by
    obtain ⟨Z, env, cs, z, cs', p, e, q⟩ := h
    obtain ⟨as, c1, e1, e⟩ := bnd_some e
    cases ret_some e1
    exact ⟨Z, c, _, [], z, cs', p.z, p.cz, p.cell, .nil, e, q⟩
/-- what a built-in's call is, by values -/
def rA (K : PySem.W.Frag) (c : Addr) (g : List D → Option D) : List V → Hp → VK → Prop := fun vs H Q => ∃ Z ds z, ZOk H Z ∧ c ∈ Z ∧ Paired (DvP K H Z c) vs ds ∧ g ds = some z ∧ ∀ v H', Keep c H H' → H' c = H c → Dv K H' Z v z → Q v H'
def mBI (g : List D → Option D) (fs : SA D) : SE := fun cf env => M.bnd (fs cf env) fun ds => M.of (g ds)
theorem bi_pre {g : List D → Option D} {fs : SA D} {σ : L2.St} {H : Hp} {Q : VK} (h : le X.K c (mBI g fs cf) σ H Q) : tCB (rA X.K c g) (lA (fun H Z => DvP X.K H Z c) X.K c (fs cf)) σ H Q := by
  obtain ⟨Z, env, cs, z, cs', p, e, q⟩ := h
  obtain ⟨ds, c1, e1, e⟩ := bnd_some e
  obtain ⟨z', ez, e2⟩ := of_some e
  cases e2
  refine ⟨Z, env, cs, ds, _, p, e1, fun vs H1 k1 ce1 r1 => ?_⟩
  have p1 := p.step k1 ce1
  exact ⟨Z, ds, z, p1.z, p1.cz, r1, ez, fun v H' k ec r => q v H' (k1.trans k) (ec.trans ce1) r⟩
theorem e_callB {g : List D → Option D} {fs : SA D} {x : Str} {p : Pos} {id : String} (hc : CallR X (.builtin id) (rA X.K c g)) (hg : Gl X x) (hm : X.mg x = none) (hv : bootBuiltins x = some (.builtin id)) (ha : PA X (e :: es) (lA (fun H Z => DvP X.K H Z c) X.K c (fs cf))) (hn : x ≠ "__name__") (hdb : (x == ("__debug__" : Str)) = false)
    (he : starEach (e :: es) X.env = (false, eval e X.env) :: starEach es X.env) (hpl : (backTo pos (starEach es X.env)).any (·.1) = false) : PE X (.Call (.Name x p) (e :: es) [] pos) (le X.K c (mBI g fs cf)) :=
  pe_imp (pe_callB hc hg hm hv ha hn hdb he hpl) fun _ _ _ h => bi_pre h
theorem e_callTy {g : List D → Option D} {fs : SA D} {x : Str} {p : Pos} {T : String} (hc : CallR X (.type T) (rA X.K c g)) (hg : Gl X x) (hm : X.mg x = none) (hv : bootBuiltins x = some (.type T)) (ha : PA X (e :: es) (lA (fun H Z => DvP X.K H Z c) X.K c (fs cf))) (hn : x ≠ "__name__") (hdb : (x == ("__debug__" : Str)) = false)
    (he : starEach (e :: es) X.env = (false, eval e X.env) :: starEach es X.env) (hpl : (backTo pos (starEach es X.env)).any (·.1) = false) : PE X (.Call (.Name x p) (e :: es) [] pos) (le X.K c (mBI g fs cf)) :=
  pe_imp (pe_callTy hc hg hm hv ha hn hdb he hpl) fun _ _ _ h => bi_pre h
theorem e_callBf {g : List D → Option D} {fs : SA D} {x : Str} {p : Pos} {id : String} (hc : CallR X (.builtin id) (rA X.K c g)) (hg : Gl X x) (hm : X.mg x = some (.builtin id)) (ha : PA X (e :: es) (lA (fun H Z => DvP X.K H Z c) X.K c (fs cf))) (hdb : (x == ("__debug__" : Str)) = false)
    (he : starEach (e :: es) X.env = (false, eval e X.env) :: starEach es X.env) (hpl : (backTo pos (starEach es X.env)).any (·.1) = false) : PE X (.Call (.Name x p) (e :: es) [] pos) (le X.K c (mBI g fs cf)) :=
  pe_imp (pe_callBfun hc hg hm ha hdb he hpl) fun _ _ _ h => bi_pre h

/-! ### subscripts -/
theorem ixR_imp {r r' : R2} (h : IxR X r) (i : ∀ x y H Q, r' x y H Q → r x y H Q) : IxR X r' := fun value slice pins s σ H x y v u Q I rx ry q hs => h value slice pins s σ H x y v u Q I rx ry (i _ _ _ _ q) hs
theorem e_ix {g : D → D → Option D} (hr : IxR X (rD X.K c g)) (ha : PE X a (lp X.K c (fa cf))) (hb : PE X b (lp X.K c (fb cf))) (hs : PlainIx b) : PE X (.Subscript a b pos) (le X.K c (mBin g fa fb cf)) :=
  pe_imp (pe_ix hr ha hb hs) fun σ H Q h => op2 (fun _ _ _ _ q => q) h
end
end Se
end
section
set_option Elab.async false
set_option linter.all false
set_option maxRecDepth 100000
set_option maxHeartbeats 4000000
namespace Se
open PySem PySem.Spec PyProof.Rows L2
/-! ### operations on data -/
def asInts : List D → Option (List Int)
  | [] => some []
  | .int i :: r => match asInts r with
    | some ns => some (i :: ns)
    | none => none
  | _ :: _ => none
theorem asInts_eq : ∀ {ds : List D} {ns : List Int}, asInts ds = some ns → ds = ns.map .int
  | [], ns, h => by cases h; rfl
  | d :: r, ns, h => by
    unfold asInts at h
    split at h
    · rename_i e; cases e
    · rename_i i r' e
      cases e
      split at h
      · rename_i ms e2
        cases h
        rw [asInts_eq e2]
        rfl
      · cases h
    · cases h
def asBools : List D → Option (List Bool)
  | [] => some []
  | .bool i :: r => match asBools r with
    | some ns => some (i :: ns)
    | none => none
  | _ :: _ => none
theorem asBools_eq : ∀ {ds : List D} {ns : List Bool}, asBools ds = some ns → ds = ns.map .bool
  | [], ns, h => by cases h; rfl
  | d :: r, ns, h => by
    unfold asBools at h
    split at h
    · rename_i e; cases e
    · rename_i i r' e
      cases e
      split at h
      · rename_i ms e2
        cases h
        rw [asBools_eq e2]
        rfl
      · cases h
    · cases h
def line : Nat := 16777216
theorem line_eq : sizeLine = line := by decide
def gAdd : D → D → Option D
  | .int i, .int j => some (.int (i + j))
  | .tuple xs, .tuple ys => if xs.length + ys.length ≤ line then some (.tuple (xs ++ ys)) else none
  | .list xs, .list ys => if xs.length + ys.length ≤ line then some (.list (xs ++ ys)) else none
  | _, _ => none
def gSub : D → D → Option D
  | .int i, .int j => some (.int (i - j))
  | _, _ => none
def gMul : D → D → Option D
  | .int i, .int j => if i.natAbs.log2 + j.natAbs.log2 < 1000000 then some (.int (i * j)) else none
  | .list xs, .int k => if k < 1000000 ∧ -1000000 < k ∧ xs.length * k.toNat ≤ line then some (.list (List.replicate k.toNat xs).flatten) else none
  | _, _ => none
def gDiv : D → D → Option D
  | .int i, .int j => if j ≠ 0 ∧ j.natAbs.log2 < 9000 then some (.int (i.fdiv j)) else none
  | _, _ => none
def gMod : D → D → Option D
  | .int i, .int j => if j ≠ 0 then some (.int (i.fmod j)) else none
  | _, _ => none
def gPow : D → D → Option D
  | .int i, .int j => if 0 ≤ j ∧ j ≤ 1000000 ∧ i.natAbs < 18446744073709551616 then some (.int (i ^ j.toNat)) else none
  | _, _ => none
def shp (d : D) : Bool := SeqAt.shaped d
def gEq (d e : D) : Option D := match d, e with
  | .int i, .int j => some (.bool (decide (i = j)))
  | _, _ => if shp d = true ∧ shp e = true then some (.bool (PyData.eqv d e)) else none
def gNe (d e : D) : Option D := match d, e with
  | .int i, .int j => some (.bool (!decide (i = j)))
  | _, _ => if shp d = true ∧ shp e = true then some (.bool (!PyData.eqv d e)) else none
def cmpOk (d e : D) : Bool := shp d && PySem.W.alike d e && (match d with | .none => false | _ => true)
def gLt (d e : D) : Option D := match d, e with
  | .int i, .int j => some (.bool (decide (i < j)))
  | _, _ => if cmpOk d e = true then some (.bool (PySem.W.dataLt d e)) else none
def gGt (d e : D) : Option D := match d, e with
  | .int i, .int j => some (.bool (decide (j < i)))
  | _, _ => if cmpOk d e = true then some (.bool (PySem.W.dataLt e d)) else none
def gLe (d e : D) : Option D := match d, e with
  | .int i, .int j => some (.bool (decide (i ≤ j)))
  | _, _ => if cmpOk d e = true then some (.bool (!PySem.W.dataLt e d)) else none
def gGe (d e : D) : Option D := match d, e with
  | .int i, .int j => some (.bool (decide (j ≤ i)))
  | _, _ => if cmpOk d e = true then some (.bool (!PySem.W.dataLt d e)) else none
def gIn (d e : D) : Option D := match e with
  | .list ys => if shp d = true ∧ shp (.list ys) = true then some (.bool (ys.any fun y => PyData.eqv y d)) else none
  | .tuple ys => if shp d = true ∧ shp (.tuple ys) = true then some (.bool (ys.any fun y => PyData.eqv y d)) else none
  | _ => none
def gNotIn (d e : D) : Option D := match e with
  | .list ys => if shp d = true ∧ shp (.list ys) = true then some (.bool (!ys.any fun y => PyData.eqv y d)) else none
  | .tuple ys => if shp d = true ∧ shp (.tuple ys) = true then some (.bool (!ys.any fun y => PyData.eqv y d)) else none
  | _ => none
def isNon : D → Bool
  | .none => true
  | _ => false
def gIs (d e : D) : Option D := match e with
  | .none => some (.bool (isNon d))
  | .bool b => match d with
    | .bool a => some (.bool (decide (a = b)))
    | _ => none
  | _ => none
def gIsNot (d e : D) : Option D := match e with
  | .none => some (.bool (!isNon d))
  | .bool b => match d with
    | .bool a => some (.bool (!decide (a = b)))
    | _ => none
  | _ => none
def gIx : D → D → Option D
  | .list xs, .int i => atI xs i
  | .tuple xs, .int i => atI xs i
  | _, _ => none
section
variable {X : Cx} {c : Addr}
theorem opR_imp {f : Value → Value → Sem Value} {r r' : R2} (h : OpR X f r) (i : ∀ x y H Q, r' x y H Q → r x y H Q) : OpR X f r' := fun pins s σ H x y v u Q I rx ry q => h pins s σ H x y v u Q I rx ry (i _ _ _ _ q)
theorem opR_or {f : Value → Value → Sem Value} {r r' : R2} (h : OpR X f r) (h' : OpR X f r') : OpR X f (fun x y H Q => r x y H Q ∨ r' x y H Q) := fun pins s σ H x y v u Q I rx ry q => by
  rcases q with q | q
  · exact h pins s σ H x y v u Q I rx ry q
  · exact h' pins s σ H x y v u Q I rx ry q
/-- a fresh tuple, a fresh list -/
theorem fresh_tup {K : PySem.W.Frag} {H : Hp} {Z : List Addr} {xs : List V} {ds : List D} {Q : VK} (z : ZOk H Z) (cz : c ∈ Z) (r : DvA K H Z xs ds) (q : ∀ v H', Keep c H H' → H' c = H c → Dv K H' Z v (.tuple ds) → Q v H') : ∀ p, H p = none → Q (.ref p) (upd H p (.tup xs)) := fun p hp => by
  have kp : Keep c H (upd H p (.tup xs)) := .upd hp
  have hc : (upd H p (.tup xs)) c = H c := upd_ne fun e => by
    have m := z c cz
    rw [e, hp] at m
    exact m
  exact q _ _ kp hc (.tup (SqT.of upd_same) (DvA.later z (kp.later cz) _ _ r))
theorem fresh_lst {K : PySem.W.Frag} {H : Hp} {Z : List Addr} {xs : List V} {ds : List D} {Q : VK} (z : ZOk H Z) (cz : c ∈ Z) (r : DvA K H Z xs ds) (q : ∀ v H', Keep c H H' → H' c = H c → Dv K H' Z v (.list ds) → Q v H') : ∀ p, H p = none → Q (.ref p) (upd H p (.lst xs)) := fun p hp => by
  have kp : Keep c H (upd H p (.lst xs)) := .upd hp
  have hc : (upd H p (.lst xs)) c = H c := upd_ne fun e => by
    have m := z c cz
    rw [e, hp] at m
    exact m
  exact q _ _ kp hc (.lst upd_same (fresh_z z hp) (DvA.later z (kp.later cz) _ _ r))
theorem o_add : OpR X (binaryOp .Add) (rD X.K c gAdd) := opR_imp (opR_or op_add (opR_or op_catA op_cat)) fun x y H Q ⟨Z, d, e, z, zo, cz, rx, ry, g, q⟩ => by
  unfold gAdd at g
  split at g
  · cases g
    rw [rx.int, ry.int]
    exact .inl ⟨_, _, rfl, rfl, q _ H .refl rfl (.int _)⟩
  · rename_i xs ys
    split at g
    · rename_i hl
      cases g
      obtain ⟨a, us, rfl, ha, ra⟩ := rx.tuple
      obtain ⟨b, ws, rfl, hb, rb⟩ := ry.tuple
      refine .inr (.inl ⟨a, b, us, ws, rfl, rfl, ha, hb, by rw [ra.length, rb.length, line_eq]; exact hl, fun e => ?_, fun _ e => ?_, fun _ _ => fresh_tup zo cz (ra.append rb) q⟩)
      · subst e
        have e2 : xs = [] := by
          have := ra.length
          exact List.eq_nil_of_length_eq_zero this.symm
        subst e2
        exact q _ H .refl rfl (.tup hb rb)
      · subst e
        have e2 : ys = [] := by
          have := rb.length
          exact List.eq_nil_of_length_eq_zero this.symm
        subst e2
        rw [List.append_nil] at q
        exact q _ H .refl rfl (.tup ha ra)
    · cases g
  · rename_i xs ys
    split at g
    · rename_i hl
      cases g
      obtain ⟨a, us, rfl, ha, ra⟩ := rx.list
      obtain ⟨b, ws, rfl, hb, rb⟩ := ry.list
      exact .inr (.inr ⟨a, b, us, ws, rfl, rfl, ha, hb, by rw [ra.length, rb.length, line_eq]; exact hl, fresh_lst zo cz (ra.append rb) q⟩)
    · cases g
  · cases g
theorem o_sub : OpR X (binaryOp .Sub) (rD X.K c gSub) := opR_imp op_sub fun x y H Q ⟨Z, d, e, z, zo, cz, rx, ry, g, q⟩ => by
  unfold gSub at g
  split at g
  · cases g
    rw [rx.int, ry.int]
    exact ⟨_, _, rfl, rfl, q _ H .refl rfl (.int _)⟩
  · cases g
theorem dva_rep {K : PySem.W.Frag} {H : Hp} {Z : List Addr} {xs : List V} {ds : List D} (r : DvA K H Z xs ds) : ∀ n : Nat, DvA K H Z (List.replicate n xs).flatten (List.replicate n ds).flatten
  | 0 => .nil
  | n + 1 => by
    rw [List.replicate_succ, List.replicate_succ, List.flatten_cons, List.flatten_cons]
    exact r.append (dva_rep r n)
theorem o_mul : OpR X (binaryOp .Mult) (rD X.K c gMul) := opR_imp (opR_or op_mulW op_rep) fun x y H Q ⟨Z, d, e, z, zo, cz, rx, ry, g, q⟩ => by
  unfold gMul at g
  split at g
  · split at g
    · rename_i hl
      cases g
      rw [rx.int, ry.int]
      exact .inl ⟨_, _, rfl, rfl, hl, q _ H .refl rfl (.int _)⟩
    · cases g
  · split at g
    · rename_i hl
      cases g
      obtain ⟨a, us, rfl, ha, ra⟩ := rx.list
      rw [ry.int]
      exact .inr ⟨a, _, us, rfl, rfl, ha, by omega, by omega, by rw [ra.length, line_eq]; exact hl.2.2, fresh_lst zo cz (dva_rep ra _) q⟩
    · cases g
  · cases g
theorem op_fdivA : OpR X (binaryOp .FloorDiv) (rI (fun _ j => j ≠ 0 ∧ j.natAbs.log2 < 9000) fun i j => .int (i.fdiv j)) := opI fun _ _ _ _ _ _ _ hc q => floordiv_int hc.1 q (.inl (PyProof.noPylong_of_log2 hc.2))
theorem o_div : OpR X (binaryOp .FloorDiv) (rD X.K c gDiv) := opR_imp op_fdivA fun x y H Q ⟨Z, d, e, z, zo, cz, rx, ry, g, q⟩ => by
  unfold gDiv at g
  split at g
  · split at g
    · rename_i hl
      cases g
      rw [rx.int, ry.int]
      exact ⟨_, _, rfl, rfl, hl, q _ H .refl rfl (.int _)⟩
    · cases g
  · cases g
theorem o_mod : OpR X (binaryOp .Mod) (rD X.K c gMod) := opR_imp op_modN fun x y H Q ⟨Z, d, e, z, zo, cz, rx, ry, g, q⟩ => by
  unfold gMod at g
  split at g
  · split at g
    · rename_i hl
      cases g
      rw [rx.int, ry.int]
      exact ⟨_, _, rfl, rfl, hl, q _ H .refl rfl (.int _)⟩
    · cases g
  · cases g
theorem o_pow : OpR X (binaryOp .Pow) (rD X.K c gPow) := opR_imp op_pow fun x y H Q ⟨Z, d, e, z, zo, cz, rx, ry, g, q⟩ => by
  unfold gPow at g
  split at g
  · split at g
    · rename_i hl
      cases g
      rw [rx.int, ry.int]
      exact ⟨_, _, rfl, rfl, hl, q _ H .refl rfl (.int _)⟩
    · cases g
  · cases g
theorem o_eq (hu : X.A.units + 64 < cLine) : OpR X (compareOp .Eq) (rD X.K c gEq) := opR_imp (opR_or op_eq (op_eqD hu)) fun x y H Q ⟨Z, d, e, z, zo, cz, rx, ry, g, q⟩ => by
  unfold gEq at g
  split at g
  · rename_i i j
    cases g
    rw [rx.int, ry.int]
    refine .inl ⟨rfl, ?_⟩
    have e : decide (V.int i = V.int j) = decide (i = j) := by
      by_cases h : i = j
      · rw [h]; simp
      · rw [decide_eq_false h, decide_eq_false fun z => h (V.int.inj z)]
    rw [e]
    exact q _ H .refl rfl (.bl _)
  · split at g
    · rename_i hl
      cases g
      exact .inr ⟨d, e, rx.dp, ry.dp, hl.1, hl.2, q _ H .refl rfl (.bl _)⟩
    · cases g
theorem o_ne (hu : X.A.units + 64 < cLine) : OpR X (compareOp .NotEq) (rD X.K c gNe) := opR_imp (opR_or op_ne (op_neD hu)) fun x y H Q ⟨Z, d, e, z, zo, cz, rx, ry, g, q⟩ => by
  unfold gNe at g
  split at g
  · rename_i i j
    cases g
    rw [rx.int, ry.int]
    refine .inl ⟨rfl, ?_⟩
    have e : decide (V.int i = V.int j) = decide (i = j) := by
      by_cases h : i = j
      · rw [h]; simp
      · rw [decide_eq_false h, decide_eq_false fun z => h (V.int.inj z)]
    rw [e]
    exact q _ H .refl rfl (.bl _)
  · split at g
    · rename_i hl
      cases g
      exact .inr ⟨d, e, rx.dp, ry.dp, hl.1, hl.2, q _ H .refl rfl (.bl _)⟩
    · cases g
/-- an order of data, by the library's rule -/
def rOrd (K : PySem.W.Frag) (k : D → D → Bool) : R2 := fun x y H Q => ∃ d e, Dp K H x d ∧ Dp K H y e ∧ cmpOk d e = true ∧ Q (.bl (k d e)) H
theorem cmp_ok {d e : D} (h : cmpOk d e = true) : PySem.W.alike d e = true ∧ d ≠ .none ∧ d.depth ≤ 64 := by
  unfold cmpOk at h
  rw [Bool.and_eq_true, Bool.and_eq_true] at h
  obtain ⟨⟨h1, h2⟩, h3⟩ := h
  refine ⟨h2, fun e => ?_, SeqAt.depth_of_shaped h1⟩
  subst e
  cases h3
theorem op_ltD (hu : X.A.units + 64 < cLine) : OpR X (compareOp .Lt) (rOrd X.K fun d e => PySem.W.dataLt d e) := by
  intro pins s σ H x y v u Q I rx ry h
  obtain ⟨d, e, hd, he, ok, q⟩ := h
  obtain ⟨as, r1⟩ := Dp.reads I d x v hd rx
  obtain ⟨bs, r2⟩ := Dp.reads I e y u he ry
  obtain ⟨h1, h2, h3⟩ := cmp_ok ok
  exact PySem.W.lt_data r1 r2 h1 h2 (by omega) ⟨.bl _, H, I, rfl, q⟩
theorem op_gtD (hu : X.A.units + 64 < cLine) : OpR X (compareOp .Gt) (rOrd X.K fun d e => PySem.W.dataLt e d) := by
  intro pins s σ H x y v u Q I rx ry h
  obtain ⟨d, e, hd, he, ok, q⟩ := h
  obtain ⟨as, r1⟩ := Dp.reads I d x v hd rx
  obtain ⟨bs, r2⟩ := Dp.reads I e y u he ry
  obtain ⟨h1, h2, h3⟩ := cmp_ok ok
  exact PySem.W.gt_data r1 r2 h1 h2 (by omega) ⟨.bl _, H, I, rfl, q⟩
theorem op_leD (hu : X.A.units + 64 < cLine) : OpR X (compareOp .LtE) (rOrd X.K fun d e => !PySem.W.dataLt e d) := by
  intro pins s σ H x y v u Q I rx ry h
  obtain ⟨d, e, hd, he, ok, q⟩ := h
  obtain ⟨as, r1⟩ := Dp.reads I d x v hd rx
  obtain ⟨bs, r2⟩ := Dp.reads I e y u he ry
  obtain ⟨h1, h2, h3⟩ := cmp_ok ok
  exact PySem.W.le_data r1 r2 h1 h2 (by omega) ⟨.bl _, H, I, rfl, q⟩
theorem op_geD (hu : X.A.units + 64 < cLine) : OpR X (compareOp .GtE) (rOrd X.K fun d e => !PySem.W.dataLt d e) := by
  intro pins s σ H x y v u Q I rx ry h
  obtain ⟨d, e, hd, he, ok, q⟩ := h
  obtain ⟨as, r1⟩ := Dp.reads I d x v hd rx
  obtain ⟨bs, r2⟩ := Dp.reads I e y u he ry
  obtain ⟨h1, h2, h3⟩ := cmp_ok ok
  exact PySem.W.ge_data r1 r2 h1 h2 (by omega) ⟨.bl _, H, I, rfl, q⟩
theorem o_lt (hu : X.A.units + 64 < cLine) : OpR X (compareOp .Lt) (rD X.K c gLt) := opR_imp (opR_or op_lt (op_ltD hu)) fun x y H Q ⟨Z, d, e, z, zo, cz, rx, ry, g, q⟩ => by
  unfold gLt at g
  split at g
  · cases g
    rw [rx.int, ry.int]
    exact .inl ⟨_, _, rfl, rfl, q _ H .refl rfl (.bl _)⟩
  · split at g
    · rename_i hl
      cases g
      exact .inr ⟨d, e, rx.dp, ry.dp, hl, q _ H .refl rfl (.bl _)⟩
    · cases g
theorem o_gt (hu : X.A.units + 64 < cLine) : OpR X (compareOp .Gt) (rD X.K c gGt) := opR_imp (opR_or op_gt (op_gtD hu)) fun x y H Q ⟨Z, d, e, z, zo, cz, rx, ry, g, q⟩ => by
  unfold gGt at g
  split at g
  · cases g
    rw [rx.int, ry.int]
    exact .inl ⟨_, _, rfl, rfl, q _ H .refl rfl (.bl _)⟩
  · split at g
    · rename_i hl
      cases g
      exact .inr ⟨d, e, rx.dp, ry.dp, hl, q _ H .refl rfl (.bl _)⟩
    · cases g
theorem o_le (hu : X.A.units + 64 < cLine) : OpR X (compareOp .LtE) (rD X.K c gLe) := opR_imp (opR_or op_le (op_leD hu)) fun x y H Q ⟨Z, d, e, z, zo, cz, rx, ry, g, q⟩ => by
  unfold gLe at g
  split at g
  · cases g
    rw [rx.int, ry.int]
    exact .inl ⟨_, _, rfl, rfl, q _ H .refl rfl (.bl _)⟩
  · split at g
    · rename_i hl
      cases g
      exact .inr ⟨d, e, rx.dp, ry.dp, hl, q _ H .refl rfl (.bl _)⟩
    · cases g
theorem o_ge (hu : X.A.units + 64 < cLine) : OpR X (compareOp .GtE) (rD X.K c gGe) := opR_imp (opR_or op_ge (op_geD hu)) fun x y H Q ⟨Z, d, e, z, zo, cz, rx, ry, g, q⟩ => by
  unfold gGe at g
  split at g
  · cases g
    rw [rx.int, ry.int]
    exact .inl ⟨_, _, rfl, rfl, q _ H .refl rfl (.bl _)⟩
  · split at g
    · rename_i hl
      cases g
      exact .inr ⟨d, e, rx.dp, ry.dp, hl, q _ H .refl rfl (.bl _)⟩
    · cases g
theorem in_list_at {pins : List (Addr × Obj)} {s : Shared} {σ : L2.St} {H : Hp} {x y : V} {v u : Value} {d : D} {ys : List D} {Q : Value → Shared → Prop} (hu : X.A.units + 66 < cLine) (I : Inv X pins σ H s) (rx : RelV x v) (ry : RelV y u) (hd : Dp X.K H x d) (he : Dp X.K H y (.list ys)) (s1 : shp d = true) (s2 : shp (.list ys) = true)
    (q : Q (.bool (ys.any fun y => PyData.eqv y d)) s) : wpAny (model X.prog X.w) X.A (compareOp .In v u) Q X.xe s := by
  obtain ⟨as, r1⟩ := Dp.reads I d x v hd rx
  obtain ⟨bs, r2⟩ := Dp.reads I _ y u he ry
  exact SeqAt.in_list_reads r2 r1 (SeqAt.canLay_of_shaped s2) (SeqAt.canLay_of_shaped s1) (room_in_shaped s1 (by omega)) q
theorem o_in (hu : X.A.units + 66 < cLine) : OpR X (compareOp .In) (rD X.K c gIn) := by
  intro pins s σ H x y v u Q I rx ry h
  obtain ⟨Z, d, e, z, zo, cz, px, py, g, q⟩ := h
  obtain ⟨as, r1⟩ := Dp.reads I d x v px.dp rx
  unfold gIn at g
  split at g
  · split at g
    · rename_i hl
      cases g
      obtain ⟨bs, r2⟩ := Dp.reads I _ y u py.dp ry
      exact SeqAt.in_list_reads r2 r1 (SeqAt.canLay_of_shaped hl.2) (SeqAt.canLay_of_shaped hl.1) (room_in_shaped hl.1 (by omega)) ⟨.bl _, H, I, rfl, q _ H .refl rfl (.bl _)⟩
    · cases g
  · split at g
    · rename_i hl
      cases g
      obtain ⟨bs, r2⟩ := Dp.reads I _ y u py.dp ry
      exact SeqAt.in_tuple_reads r2 r1 (SeqAt.canLay_of_shaped hl.2) (SeqAt.canLay_of_shaped hl.1) (room_in_shaped hl.1 (by omega)) ⟨.bl _, H, I, rfl, q _ H .refl rfl (.bl _)⟩
    · cases g
  · cases g
theorem o_notIn (hu : X.A.units + 66 < cLine) : OpR X (compareOp .NotIn) (rD X.K c gNotIn) := by
  intro pins s σ H x y v u Q I rx ry h
  obtain ⟨Z, d, e, z, zo, cz, px, py, g, q⟩ := h
  obtain ⟨as, r1⟩ := Dp.reads I d x v px.dp rx
  unfold gNotIn at g
  split at g
  · split at g
    · rename_i hl
      cases g
      obtain ⟨bs, r2⟩ := Dp.reads I _ y u py.dp ry
      exact SeqAt.notIn_list_reads r2 r1 (SeqAt.canLay_of_shaped hl.2) (SeqAt.canLay_of_shaped hl.1) (room_in_shaped hl.1 (by omega)) ⟨.bl _, H, I, rfl, q _ H .refl rfl (.bl _)⟩
    · cases g
  · split at g
    · rename_i hl
      cases g
      obtain ⟨bs, r2⟩ := Dp.reads I _ y u py.dp ry
      exact SeqAt.notIn_tuple_reads r2 r1 (SeqAt.canLay_of_shaped hl.2) (SeqAt.canLay_of_shaped hl.1) (room_in_shaped hl.1 (by omega)) ⟨.bl _, H, I, rfl, q _ H .refl rfl (.bl _)⟩
    · cases g
  · cases g
theorem DvP.none {K : PySem.W.Frag} {H : Hp} {Z : List Addr} {v : V} (h : DvP K H Z c v .none) : v = .non := by
  rcases h with h | ⟨a, e, _, _, xs, ds', e2, h1, h2⟩
  · cases h; rfl
  · cases e2
theorem DvP.isNon {K : PySem.W.Frag} {H : Hp} {Z : List Addr} {v : V} {d : D} (h : DvP K H Z c v d) : decide (v = .non) = Se.isNon d := by
  rcases h with h | ⟨a, e, _, _, xs, ds', e2, h1, h2⟩
  · cases h <;> rfl
  · subst e e2; rfl
theorem o_is : OpR X (compareOp .Is) (rD X.K c gIs) := opR_imp (opR_or op_isN op_is_bl) fun x y H Q ⟨Z, d, e, z, zo, cz, rx, ry, g, q⟩ => by
  unfold gIs at g
  split at g
  · cases g
    refine .inl ⟨ry.none, ?_⟩
    rw [rx.isNon]
    exact q _ H .refl rfl (.bl _)
  · split at g
    · cases g
      exact .inr ⟨_, _, rx.bool, ry.bool, q _ H .refl rfl (.bl _)⟩
    · cases g
  · cases g
theorem o_isNot : OpR X (compareOp .IsNot) (rD X.K c gIsNot) := opR_imp (opR_or op_notN op_isnot_bl) fun x y H Q ⟨Z, d, e, z, zo, cz, rx, ry, g, q⟩ => by
  unfold gIsNot at g
  split at g
  · cases g
    refine .inl ⟨ry.none, ?_⟩
    rw [rx.isNon]
    exact q _ H .refl rfl (.bl _)
  · split at g
    · cases g
      exact .inr ⟨_, _, rx.bool, ry.bool, q _ H .refl rfl (.bl _)⟩
    · cases g
  · cases g
theorem dva_atI {K : PySem.W.Frag} {H : Hp} {Z : List Addr} {xs : List V} {ds : List D} {i : Int} {d : D} (r : DvA K H Z xs ds) (h : atI ds i = some d) : ∃ v, atI xs i = some v ∧ Dv K H Z v d := by
  unfold atI at h ⊢
  rw [r.length]
  cases e : ixN ds.length i with
  | none => rw [e] at h; cases h
  | some j =>
    rw [e] at h
    exact r.get h
theorem o_ix : IxR X (rD X.K c gIx) := ixR_imp (ix_list.or ix_tup) fun x y H Q ⟨Z, d, e, z, zo, cz, rx, ry, g, q⟩ => by
  unfold gIx at g
  split at g
  · obtain ⟨a, us, rfl, ha, ra⟩ := rx.list
    rw [ry.int]
    obtain ⟨w, hw, rw'⟩ := dva_atI ra g
    exact .inl ⟨a, us, _, w, rfl, rfl, .inl (.inl ha), hw, q _ H .refl rfl rw'⟩
  · obtain ⟨a, us, rfl, ha, ra⟩ := rx.tuple
    rw [ry.int]
    obtain ⟨w, hw, rw'⟩ := dva_atI ra g
    exact .inr ⟨a, us, _, w, rfl, rfl, ha, hw, q _ H .refl rfl rw'⟩
  · cases g
/-! unary minus -/
def mNeg (fa : SE) : SE := fun cf env => M.bnd (fa cf env) fun x => match x with
  | .int i => M.ret (.int (-i))
  | _ => M.of none
theorem e_neg {a : Expr} {pos : Pos} {cf : CF} {fa : SE} (ha : PE X a (le X.K c (fa cf))) : PE X (.UnaryOp .USub a pos) (le X.K c (mNeg fa cf)) := pe_imp (pe_un un_neg ha) fun σ H Q ⟨Z, env, cs, z, cs', p, e, q⟩ => by
  obtain ⟨x, c1, e1, e⟩ := bnd_some e
  cases x with
  | int i =>
    cases ret_some e
    refine ⟨Z, env, cs, _, _, p, e1, fun v H1 k1 ce1 r1 => ?_⟩
    cases r1
    exact ⟨i, rfl, q _ H1 k1 ce1 (.int _)⟩
  | _ => cases e
end
end Se
end
section
set_option Elab.async false
set_option linter.all false
set_option maxRecDepth 100000
set_option maxHeartbeats 4000000
namespace Se
open PySem PySem.Spec PyProof.Rows L2
/-! ### a list (k) or a tuple as the source of an iterator -/
def SqS (K : PySem.W.Frag) (H : Hp) (k : Bool) (a : Addr) (xs : List V) : Prop := if k = true then SqL K H a xs else SqT K H a xs
def ItS (h : Heap) (k : Bool) (it a : Addr) (i : Nat) : Prop := if k = true then h.IsListIter it a i else h.IsTupleIter it a i
def IsS (h : Heap) (k : Bool) (a : Addr) (us : Array Value) : Prop := if k = true then h.IsList a us else h.IsTuple a us
def obS (k : Bool) (a : Addr) : Obj := if k = true then { cls := .type "list_iterator", data := .fields #[.ref a, .int 0 0] } else { cls := .type "tuple_iterator", data := .fields #[.ref a, .int 0 0] }
section
variable {X : Cx} {pins : List (Addr × Obj)} {σ : L2.St} {H : Hp} {s : Shared} {k : Bool} {a it : Addr} {xs ys : List V}
theorem Inv.seqS (I : Inv X pins σ H s) (h : SqS X.K H k a xs) : ∃ us : List Value, Vals xs us ∧ IsS s.heap k a us.toArray ∧ a < s.heap.objs.size := by
  cases k with
  | true =>
    obtain ⟨us, r, p, _⟩ := Inv.list I h
    exact ⟨us, r, p.isList, p.lt⟩
  | false =>
    obtain ⟨us, r, p, _⟩ := Inv.tuple I h
    exact ⟨us, r, p, p.lt⟩
theorem Inv.injS (I : Inv X pins σ H s) (h : SqS X.K H k a xs) (h' : SqS X.K H k a ys) : xs = ys := by
  cases k with
  | true => exact Inv.list_inj I h h'
  | false => exact Inv.tuple_inj I h h'
theorem ItS.at {h h' : Heap} {i : Nat} (x : ItS h k it a i) (q : ∀ o, h.get? it = some o → h'.get? it = some o) : ItS h' k it a i := by
  cases k with
  | true => exact Heap.IsListIter.at x q
  | false => exact Heap.IsTupleIter.at x q
theorem ItS.get {h : Heap} {i : Nat} (x : ItS h k it a i) : ∃ o, h.get? it = some o ∧ ∀ v, o.data ≠ .cell v := by
  cases k with
  | true =>
    obtain ⟨o, e, c, d⟩ := x
    exact ⟨o, e, fun v z => by rw [d] at z; cases z⟩
  | false =>
    obtain ⟨o, e, c, d⟩ := x
    exact ⟨o, e, fun v z => by rw [d] at z; cases z⟩
theorem drawsS {P : Program} {w : World} {A : Around} (hh : A.handled = none) (ne : a ≠ it) (us : Array Value) :
    Draws P w A it [it, a] us.size (fun i v => us[i]? = some v) (fun i h => ItS h k it a i ∧ IsS h k a us) := by
  cases k with
  | true => exact Draws.list hh it a ne us
  | false => exact Draws.tuple hh it a ne us
theorem beginsS (us : Array Value) : Begins (.ref a) (obS k a) fun h => IsS h k a us := by
  cases k with
  | true => exact begins_list a us
  | false => exact begins_tuple a us
theorem obS_it {h : Heap} (e : h.get? it = some (obS k a)) : ItS h k it a 0 := by
  cases k with
  | true => exact ⟨_, e, rfl, rfl⟩
  | false => exact ⟨_, e, rfl, rfl⟩
end
/-! ### enumerate(x) -/
set_option maxHeartbeats 1000000 in
theorem meets_enum1 {v : Value} {ob : Obj} {G : Heap → Prop} (B : Begins v ob G) :
    Meets (Builtin.«enumerate.__new__» ⟨[.type "enumerate", v], []⟩) (fun _ R s => G s.heap ∧ R (.ok (.ret (.ref (s.heap.push ob).objs.size))) { s with heap := (s.heap.push ob).push { cls := .type "enumerate", data := .fields #[.none, .bool false, .ref s.heap.objs.size, rawInt 0, .none, .none] } }) :=
  .of_wp fun prog w A R sh hh => by
    obtain ⟨hp, gs, dr, tk, os⟩ := sh
    obtain ⟨hG, hR⟩ := hh
    have su := sub_enumerate
    have begun : ∀ {A' : Around} {E' : Value → Shared → Prop} {Q' : Value → Shared → Prop}, Q' (.ref hp.objs.size) ⟨hp.push ob, gs, dr, tk, os⟩ → wpAny (model prog w) A' (pyIter v) Q' E' ⟨hp, gs, dr, tk, os⟩ :=
      fun z => B.iter prog w _ _ ⟨hp, gs, dr, tk, os⟩ _ hG z
    wp_walk using begun
    refine wpAny_stack_any fun st => wpAny_pure ?_
    split
    · rename_i cl _ _ _ _ _
      cases (cl == Value.type "enumerate") <;> (wp_walk using begun; exact ⟨_, rfl, hR⟩)
    · (wp_walk using begun; exact ⟨_, rfl, hR⟩)
theorem enum_begins1 {P : Program} {w : World} {A : Around} {E : Value → Shared → Prop} {s : Shared} {v : Value} {ob : Obj} {G : Heap → Prop} {Q : Value → Shared → Prop} (B : Begins v ob G) (hG : G s.heap)
    (h : ∀ h', IsEnum h' (s.heap.objs.size + 1) s.heap.objs.size 0 .none → h'.get? s.heap.objs.size = some ob → (∀ b o, s.heap.get? b = some o → h'.get? b = some o) → Q (.ref (s.heap.objs.size + 1)) { s with heap := h' }) :
    wpAny (model P w) A (call (.type "enumerate") [v]) Q E s := by
  refine callType_new F.called_enumerate (by decide) (F.typeCall_enumerate_1 _) (F.newCall_enumerate_1 _) (fun obj => F.args_object_init_2 obj _) F.entry_enumerate_new (meets_enum1 B) ⟨hG, ?_⟩
  have sz : (s.heap.push ob).objs.size = s.heap.objs.size + 1 := Heap.size_push ..
  show _ ∧ _
  rw [sz]
  have en : IsEnum ((s.heap.push ob).push { cls := .type "enumerate", data := .fields #[.none, .bool false, .ref s.heap.objs.size, rawInt 0, .none, .none] }) (s.heap.objs.size + 1) s.heap.objs.size 0 .none := by
    have z := Heap.get?_push_size (s.heap.push ob) (o := { cls := .type "enumerate", data := .fields #[.none, .bool false, .ref s.heap.objs.size, rawInt 0, .none, .none] }) rfl
    rw [sz] at z
    exact z
  exact ⟨⟨_, en, rfl⟩, h _ en (Heap.get?_push_of_some _ (Heap.get?_push_size _ B.free)) fun b o x => Heap.get?_push_of_some _ (Heap.get?_push_of_some _ x)⟩
/-- each item in a new pair with its number; it stops at the very end -/
def IteS (K : PySem.W.Frag) (k : Bool) (a : Addr) : It :=
  ⟨fun i H => ∃ (xs : List V) (x : V), SqS K H k a xs ∧ xs[i]? = some x, fun i H v H' => ∃ T x, v = .ref T ∧ H T = none ∧ H' = upd H T (.tup [.int (i : Nat), x]) ∧ ∀ xs, SqS K H k a xs → xs[i]? = some x, fun i H => ∃ xs : List V, SqS K H k a xs ∧ xs.length = i⟩
theorem turn_enumS {P : Program} {w : World} {K : PySem.W.Frag} {elts : List Expr} {kk : Nat} {tpos : Pos} (k : Bool) (a e it : Addr) (nai : a ≠ it) (nae : a ≠ e) :
    Turn P w K (.Tuple elts kk tpos) (IteS K k a) [e, it] e (fun i h => (∃ old, IsEnum h e it ((0 : Int) + ((i : Nat) : Int)) old) ∧ ItS h k it a i ∧ e ≠ it) where
  mem := by simp
  obj := fun i h st b hb => by
    obtain ⟨⟨old, he⟩, hi, _⟩ := st
    rcases List.mem_cons.mp hb with z | z
    · rw [z]; exact ⟨_, he, fun v q => nomatch q⟩
    · rw [List.mem_singleton.mp z]; exact hi.get
  keep := fun i h h' st q => let ⟨⟨old, he⟩, hi, ne⟩ := st; ⟨⟨old, q e (by simp) _ he⟩, hi.at fun o z => q it (by simp) o z, ne⟩
  item := by
    intro X hP hw hK hc i pins s σ H E I hf st hg
    subst hP hw hK
    obtain ⟨⟨old, he⟩, hit, hne⟩ := st
    obtain ⟨xs, x, hq, hx⟩ := hg
    obtain ⟨us, rv, p, la⟩ := Inv.seqS I hq
    obtain ⟨u, hu, ru⟩ := rv.get hx
    have el : e < s.heap.objs.size := Heap.lt_size he
    have il : it < s.heap.objs.size := by obtain ⟨_, q, _⟩ := hit.get; exact Heap.lt_size q
    have lt : i < us.toArray.size := by
      rw [List.size_toArray, ← rv.length]
      exact (List.getElem?_eq_some_iff.mp hx).1
    have hef : e ∉ [it, a] := fun z => by
      rcases List.mem_cons.mp z with z | z
      · exact hne z
      · exact nae (List.mem_singleton.mp z).symm
    refine wpAny_pyNext_enum_itemC (drawsS (k := k) (A := X.A.in1) (I.ok.hd hc) nai us.toArray) he ⟨hit, p⟩ lt hne hef fun y h' tk hy ho hst hT hsz hkp => ?_
    have ey : y = u := by
      have z : us.toArray[i]? = some u := by simpa using hu
      exact Option.some.inj (hy.symm.trans z)
    subst ey
    refine ⟨_, rfl, wpAny_letOwnedTupleGo_enum (s := { s with heap := h', toks := tk + 1 }) ho fun h'' he' sb => ?_⟩
    have hT2 : h''.get? s.heap.objs.size = some { cls := .type "tuple", data := .seq #[.int (0 + (i : Int)) tk, y] } := (sb.2 _ (Nat.ne_of_gt el)).trans hT
    have new : ObjOk X.prog X.w (upd H s.heap.objs.size (.tup [.int (i : Nat), x])) h'' s.heap.objs.size (.tup [.int (i : Nat), x]) :=
      ⟨by show 2 ≤ sizeLine; decide, [.int (0 + (i : Int)) tk, y], .cons ⟨tk, by rw [Int.zero_add]⟩ (.cons ru .nil), ⟨_, hT2, rfl, _, rfl⟩⟩
    have I1 : Inv X pins σ (upd H s.heap.objs.size (.tup [.int (i : Nat), x])) { s with heap := h'', toks := tk + 1 } :=
      I.turnedNew (ch := [e, it]) (fun b ob hb q => (sb.2 b fun z => hb (by simp [z])).trans (hkp b ob (fun z => hb (by simp [z])) (fun z => hb (by simp [z])) q)) hf (Nat.le_refl _) new
    refine ⟨.ref s.heap.objs.size, _, I1, rfl, ⟨_, x, rfl, I.hok.fresh (Nat.le_refl _), rfl, fun zs hz => by rw [Inv.injS I hz hq]; exact hx⟩, ⟨⟨y, ?_⟩, hst.1.at fun o q => (sb.2 it (Ne.symm hne)).trans q, hne⟩, fun b hb => ?_⟩
    · have e1 : (0 : Int) + ((i + 1 : Nat) : Int) = 0 + (i : Int) + 1 := by omega
      rw [e1]
      exact he'
    · have lb : b < s.heap.objs.size := by
        rcases List.mem_cons.mp hb with z | z
        · rw [z]; exact el
        · rw [List.mem_singleton.mp z]; exact il
      rw [upd_ne (Nat.ne_of_lt lb)]
      exact (hf b hb).1
  done := by
    intro X hP hw hK hc i pins s σ H E I hf st hg
    subst hP hw hK
    obtain ⟨⟨old, he⟩, hit, hne⟩ := st
    obtain ⟨xs, hq, hx⟩ := hg
    obtain ⟨us, rv, p, la⟩ := Inv.seqS I hq
    have ei : us.toArray.size = i := by rw [List.size_toArray, ← rv.length]; exact hx
    subst ei
    exact wpAny_pyNext_enum_endD (drawsS (k := k) (A := X.A.in1) (I.ok.hd hc) nai us.toArray) he ⟨hit, p⟩ fun h' eb => ⟨rfl, I.turnedL (t' := s.toks) (ch := [e, it]) (fun b o hb q => eb b o (fun z => hb (by simp [z])) q) hf⟩
  self := fun A i s Q E st h => let ⟨⟨_, he⟩, _⟩ := st; wpAny_pyIter_enum he h
def iEnumS (K : PySem.W.Frag) (k : Bool) (ta : TA) : TI := fun σ H R => ta σ H fun vs H1 => ∃ a xs, vs = [.ref a] ∧ SqS K H1 k a xs ∧ R (IteS K k a) H1
theorem pi_enumS {X : Cx} {e : Expr} {ta : TA} {p pos tpos : Pos} {elts : List Expr} {kk : Nat} (k : Bool) (hg : Gl X "enumerate") (hm : X.mg "enumerate" = none) (ha : PA X [e] ta) (hs : starEach [e] X.env = [(false, eval e X.env)]) :
    PI X (.Tuple elts kk tpos) (.Call (.Name "enumerate" p) [e] [] pos) (iEnumS X.K k ta) := by
  refine ⟨fun pins s σ H R I h => ?_⟩
  refine Call_ (ld_blt I hg hm boot_enumerate (PyProof.Rows.callWith_type1 (thn (ha.run pos pins s σ H _ I h) fun us s1 ⟨vs, H1, I1, r1, q1⟩ => ?_) hs rfl))
  obtain ⟨a, xs, ex, hq, q⟩ := q1
  subst ex
  cases r1 with
  | cons r rr =>
    cases rr
    cases r
    obtain ⟨its, rv, hS, la⟩ := Inv.seqS I1 hq
    refine enum_begins1 (beginsS (k := k) its.toArray) hS fun h' he hit hk => wpAny_pyIter_enum he ?_
    have I2 : Inv X pins σ H1 { s1 with heap := h' } := I1.kept (t' := s1.toks) hk
    refine ⟨s1.heap.objs.size + 1, [s1.heap.objs.size + 1, s1.heap.objs.size], _, _, H1, rfl, I2, turn_enumS k a (s1.heap.objs.size + 1) s1.heap.objs.size (Nat.ne_of_lt la) (Nat.ne_of_lt (Nat.lt_succ_of_lt la)), ⟨⟨.none, he⟩, obS_it hit, Nat.succ_ne_self _⟩, fun b hb => ?_, q⟩
    have le : s1.heap.objs.size ≤ b := by
      rcases List.mem_cons.mp hb with z | z
      · rw [z]; exact Nat.le_succ _
      · rw [List.mem_singleton.mp z]; exact Nat.le_refl _
    exact I1.fpOk le (I1.hok.fresh le)
/-! ### zip -/
theorem ltne {a N : Nat} (k : Nat) (h : a < N) : a ≠ N + k := by omega
def Itz2 (K : PySem.W.Frag) (k j : Bool) (a b : Addr) : It :=
  ⟨fun i H => ∃ (xs ys : List V) (x y : V), SqS K H k a xs ∧ SqS K H j b ys ∧ xs[i]? = some x ∧ ys[i]? = some y,
    fun i H v H' => ∃ T x y, v = .ref T ∧ H T = none ∧ H' = upd H T (.tup [x, y]) ∧ (∀ vs, SqS K H k a vs → vs[i]? = some x) ∧ (∀ vs, SqS K H j b vs → vs[i]? = some y),
    fun i H => ∃ xs ys : List V, SqS K H k a xs ∧ SqS K H j b ys ∧ i ≤ xs.length ∧ i ≤ ys.length ∧ (i = xs.length ∨ i = ys.length)⟩
theorem turn_zip2S {P : Program} {w : World} {K : PySem.W.Frag} {elts : List Expr} {kk : Nat} {tpos : Pos} (k j : Bool) {a b zz TI TO i1 i2 : Addr} (S : ZipSep2 zz TI TO i1 i2 [i1, a] [i2, b]) (n1 : a ≠ i1) (n2 : b ≠ i2) :
    Turn P w K (.Tuple elts kk tpos) (Itz2 K k j a b) [zz, TI, TO, i1, i2] zz (fun i h => IsZip h zz TI TO .none ∧ IsTupOf2 h TI (.ref i1) (.ref i2) ∧ (∃ x y, IsTupOf2 h TO x y) ∧ ItS h k i1 a i ∧ ItS h j i2 b i) where
  mem := by simp
  obj := fun i h st d hd => by
    obtain ⟨hz, hTI, ⟨q0, q1, hTO⟩, h1, h2⟩ := st
    have q : d = zz ∨ d = TI ∨ d = TO ∨ d = i1 ∨ d = i2 := by simpa using hd
    rcases q with q | q | q | q | q
    · subst q; exact ⟨_, hz, fun v q => nomatch q⟩
    · subst q; exact ⟨_, hTI, fun v q => nomatch q⟩
    · subst q; exact ⟨_, hTO, fun v q => nomatch q⟩
    · subst q; exact h1.get
    · subst q; exact h2.get
  keep := fun i h h' st q => by
    obtain ⟨hz, hTI, ⟨q0, q1, hTO⟩, h1, h2⟩ := st
    exact ⟨q zz (by simp) _ hz, q TI (by simp) _ hTI, ⟨q0, q1, q TO (by simp) _ hTO⟩, h1.at fun o e => q i1 (by simp) o e, h2.at fun o e => q i2 (by simp) o e⟩
  item := by
    intro X hP hw hK hc i pins s σ H E I hf st hg
    subst hP hw hK
    obtain ⟨hz, hTI, ⟨q0, q1, hTO⟩, h1, h2⟩ := st
    obtain ⟨xs, ys, x, y, g1, g2, e1, e2⟩ := hg
    obtain ⟨u1, rv1, p1, la1⟩ := Inv.seqS I g1
    obtain ⟨w1, hw1, rw1⟩ := rv1.get e1
    have l1 : i < u1.toArray.size := by
      rw [List.size_toArray, ← rv1.length]
      exact (List.getElem?_eq_some_iff.mp e1).1
    obtain ⟨u2, rv2, p2, la2⟩ := Inv.seqS I g2
    obtain ⟨w2, hw2, rw2⟩ := rv2.get e2
    have l2 : i < u2.toArray.size := by
      rw [List.size_toArray, ← rv2.length]
      exact (List.getElem?_eq_some_iff.mp e2).1
    have zl : zz < s.heap.objs.size := Heap.lt_size hz
    have Tl : TI < s.heap.objs.size := Heap.lt_size hTI
    have Ol : TO < s.heap.objs.size := Heap.lt_size hTO
    have il1 : i1 < s.heap.objs.size := by obtain ⟨_, q, _⟩ := h1.get; exact Heap.lt_size q
    have il2 : i2 < s.heap.objs.size := by obtain ⟨_, q, _⟩ := h2.get; exact Heap.lt_size q
    refine wpAny_pyNext_zipD2_item S (drawsS (k := k) (A := X.A.in1) (I.ok.hd hc) n1 u1.toArray) (drawsS (k := j) (A := X.A.in1) (I.ok.hd hc) n2 u2.toArray) hz hTI hTO ⟨h1, p1⟩ ⟨h2, p2⟩ l1 l2 fun y1 y2 h' tk hy1 hy2 hZ hO ss1 ss2 hT hsz hkp => ?_
    have ey1 : y1 = w1 := by
      have z : u1.toArray[i]? = some w1 := by simpa using hw1
      exact Option.some.inj (hy1.symm.trans z)
    subst ey1
    have ey2 : y2 = w2 := by
      have z : u2.toArray[i]? = some w2 := by simpa using hw2
      exact Option.some.inj (hy2.symm.trans z)
    subst ey2
    refine ⟨_, rfl, wpAny_letOwnedTupleGo_zip (s := { s with heap := h', toks := tk }) hZ fun h'' hZ' sb => ?_⟩
    have hT2 : h''.get? s.heap.objs.size = some { cls := .type "tuple", data := .seq #[y1, y2] } := (sb.2 _ (Nat.ne_of_gt zl)).trans hT
    have new : ObjOk X.prog X.w (upd H s.heap.objs.size (.tup [x, y])) h'' s.heap.objs.size (.tup [x, y]) :=
      ⟨by show 2 ≤ sizeLine; decide, [y1, y2], (.cons rw1 (.cons rw2 .nil)), ⟨_, hT2, rfl, _, rfl⟩⟩
    have up : ∀ b o, b ∉ [zz, TI, TO, i1, i2] → s.heap.get? b = some o → h''.get? b = some o := fun b o hb q => (sb.2 b fun z => hb (by simp [z])).trans (hkp b o (fun z => hb (by simp [z])) (fun z => hb (by simp [z])) (fun z => hb (by simp [z])) (fun z => hb (by simp [z])) q)
    have I1 : Inv X pins σ (upd H s.heap.objs.size (.tup [x, y])) { s with heap := h'', toks := tk } :=
      I.turnedNew up hf (Nat.le_refl _) new
    refine ⟨.ref s.heap.objs.size, _, I1, rfl, ⟨_, x, y, rfl, I.hok.fresh (Nat.le_refl _), rfl, fun vs hv => by rw [Inv.injS I hv g1]; exact e1, fun vs hv => by rw [Inv.injS I hv g2]; exact e2⟩, ⟨hZ', ?_, ⟨_, _, (sb.2 TO S.TOz).trans hO⟩, ss1.1.at fun o q => (sb.2 i1 ?_).trans q, ss2.1.at fun o q => (sb.2 i2 ?_).trans q⟩, fun b hb => ?_⟩
    · exact (sb.2 TI S.TIz).trans (hkp TI _ S.TIz S.TITO S.TIi1 S.TIi2 hTI)
    · exact fun e => S.zf1 (by rw [← e]; simp)
    · exact fun e => S.zf2 (by rw [← e]; simp)
    · have lb : b < s.heap.objs.size := by
        have q : b = zz ∨ b = TI ∨ b = TO ∨ b = i1 ∨ b = i2 := by simpa using hb
        rcases q with q | q | q | q | q
        · rw [q]; exact zl
        · rw [q]; exact Tl
        · rw [q]; exact Ol
        · rw [q]; exact il1
        · rw [q]; exact il2
      rw [upd_ne (Nat.ne_of_lt lb)]
      exact (hf b hb).1
  done := by
    intro X hP hw hK hc i pins s σ H E I hf st hg
    subst hP hw hK
    obtain ⟨hz, hTI, ⟨q0, q1, hTO⟩, h1, h2⟩ := st
    obtain ⟨xs, ys, g1, g2, e1, e2, ee⟩ := hg
    obtain ⟨u1, rv1, p1, la1⟩ := Inv.seqS I g1
    have ez1 : u1.toArray.size = xs.length := by rw [List.size_toArray, ← rv1.length]
    obtain ⟨u2, rv2, p2, la2⟩ := Inv.seqS I g2
    have ez2 : u2.toArray.size = ys.length := by rw [List.size_toArray, ← rv2.length]
    exact wpAny_pyNext_zipD2_end S (drawsS (k := k) (A := X.A.in1) (I.ok.hd hc) n1 u1.toArray) (drawsS (k := j) (A := X.A.in1) (I.ok.hd hc) n2 u2.toArray) hz hTI hTO ⟨h1, p1⟩ ⟨h2, p2⟩ (by rw [ez1]; exact e1) (by rw [ez2]; exact e2) (by rw [ez1, ez2]; exact ee) fun h' tk eb => ⟨rfl, I.turnedL (t' := tk) (ch := [zz, TI, TO, i1, i2]) (fun b o hb q => eb b o (fun z => hb (by simp [z])) (fun z => hb (by simp [z])) (fun z => hb (by simp [z])) (fun z => hb (by simp [z])) q) hf⟩
  self := fun A i s Q E st h => wpAny_pyIter_zip st.1 h
def iZip2 (K : PySem.W.Frag) (k j : Bool) (ta : TA) : TI := fun σ H R => ta σ H fun vs H1 => ∃ a b xs ys, vs = [.ref a, .ref b] ∧ SqS K H1 k a xs ∧ SqS K H1 j b ys ∧ R (Itz2 K k j a b) H1
theorem pi_zip2S {X : Cx} {ex1 ex2 : Expr} {ta : TA} {p pos tpos : Pos} {elts : List Expr} {kk : Nat} (k j : Bool) (hg : Gl X "zip") (hm : X.mg "zip" = none) (ha : PA X [ex1, ex2] ta) (hs : starEach [ex1, ex2] X.env = (false, eval ex1 X.env) :: starEach [ex2] X.env) (hpl : (backTo pos (starEach [ex2] X.env)).any (·.1) = false) :
    PI X (.Tuple elts kk tpos) (.Call (.Name "zip" p) [ex1, ex2] [] pos) (iZip2 X.K k j ta) := by
  refine ⟨fun pins s σ H R I h => ?_⟩
  refine Call_ (ld_blt I hg hm boot_zip (PyProof.Rows.callWith_type1 (thn (ha.run pos pins s σ H _ I h) fun us s1 ⟨vs, H1, I1, r1, q1⟩ => ?_) hs hpl))
  obtain ⟨a, b, xs, ys, ex, g1, g2, q⟩ := q1
  subst ex
  obtain ⟨v1, v2, rfl, t1, t2⟩ : ∃ v1 v2, us = [v1, v2] ∧ RelV (.ref a) v1 ∧ RelV (.ref b) v2 := by
    cases r1 with
    | cons t1 rr0 =>
      cases rr0 with
      | cons t2 rr1 =>
        cases rr1
        exact ⟨_, _, rfl, t1, t2⟩
  cases t1
  cases t2
  obtain ⟨ws1, rv1, hS1, la1⟩ := Inv.seqS I1 g1
  obtain ⟨ws2, rv2, hS2, la2⟩ := Inv.seqS I1 g2
  refine zip_begins2 (beginsS (k := k) ws1.toArray) (beginsS (k := j) ws2.toArray) hS1 hS2 fun h' hZ hTI hTO gg1 gg2 hsz hk => wpAny_pyIter_zip hZ ?_
  have I2 : Inv X pins σ H1 { s1 with heap := h' } := I1.kept (t' := s1.toks) hk
  refine ⟨s1.heap.objs.size + 4, [s1.heap.objs.size + 4, s1.heap.objs.size + 2, s1.heap.objs.size + 3, s1.heap.objs.size, s1.heap.objs.size + 1], _, _, H1, rfl, I2, turn_zip2S k j (zip_sep2 (fun b hb => by rw [List.mem_singleton.mp hb]; exact la1) (fun b hb => by rw [List.mem_singleton.mp hb]; exact la2)) (ltne 0 la1) (ltne 1 la2), ⟨hZ, hTI, ⟨_, _, hTO⟩, obS_it gg1, obS_it gg2⟩, fun b hb => ?_, q⟩
  have le : s1.heap.objs.size ≤ b := by
    have q : b = s1.heap.objs.size + 4 ∨ b = s1.heap.objs.size + 2 ∨ b = s1.heap.objs.size + 3 ∨ b = s1.heap.objs.size ∨ b = s1.heap.objs.size + 1 := by simpa using hb
    rcases q with q | q | q | q | q
    · rw [q]; exact Nat.le_add_right _ 4
    · rw [q]; exact Nat.le_add_right _ 2
    · rw [q]; exact Nat.le_add_right _ 3
    · rw [q]; exact Nat.le_add_right _ 0
    · rw [q]; exact Nat.le_add_right _ 1
  exact I1.fpOk le (I1.hok.fresh le)
def Itz3 (K : PySem.W.Frag) (k j m : Bool) (a b d : Addr) : It :=
  ⟨fun i H => ∃ (xs ys zs : List V) (x y z : V), SqS K H k a xs ∧ SqS K H j b ys ∧ SqS K H m d zs ∧ xs[i]? = some x ∧ ys[i]? = some y ∧ zs[i]? = some z,
    fun i H v H' => ∃ T x y z, v = .ref T ∧ H T = none ∧ H' = upd H T (.tup [x, y, z]) ∧ (∀ vs, SqS K H k a vs → vs[i]? = some x) ∧ (∀ vs, SqS K H j b vs → vs[i]? = some y) ∧ (∀ vs, SqS K H m d vs → vs[i]? = some z),
    fun i H => ∃ xs ys zs : List V, SqS K H k a xs ∧ SqS K H j b ys ∧ SqS K H m d zs ∧ i ≤ xs.length ∧ i ≤ ys.length ∧ i ≤ zs.length ∧ (i = xs.length ∨ i = ys.length ∨ i = zs.length)⟩
theorem turn_zip3S {P : Program} {w : World} {K : PySem.W.Frag} {elts : List Expr} {kk : Nat} {tpos : Pos} (k j m : Bool) {a b d zz TI TO i1 i2 i3 : Addr} (S : ZipSep3 zz TI TO i1 i2 i3 [i1, a] [i2, b] [i3, d]) (n1 : a ≠ i1) (n2 : b ≠ i2) (n3 : d ≠ i3) :
    Turn P w K (.Tuple elts kk tpos) (Itz3 K k j m a b d) [zz, TI, TO, i1, i2, i3] zz (fun i h => IsZip h zz TI TO .none ∧ IsTupOf3 h TI (.ref i1) (.ref i2) (.ref i3) ∧ (∃ x y z, IsTupOf3 h TO x y z) ∧ ItS h k i1 a i ∧ ItS h j i2 b i ∧ ItS h m i3 d i) where
  mem := by simp
  obj := fun i h st d hd => by
    obtain ⟨hz, hTI, ⟨q0, q1, q2, hTO⟩, h1, h2, h3⟩ := st
    have q : d = zz ∨ d = TI ∨ d = TO ∨ d = i1 ∨ d = i2 ∨ d = i3 := by simpa using hd
    rcases q with q | q | q | q | q | q
    · subst q; exact ⟨_, hz, fun v q => nomatch q⟩
    · subst q; exact ⟨_, hTI, fun v q => nomatch q⟩
    · subst q; exact ⟨_, hTO, fun v q => nomatch q⟩
    · subst q; exact h1.get
    · subst q; exact h2.get
    · subst q; exact h3.get
  keep := fun i h h' st q => by
    obtain ⟨hz, hTI, ⟨q0, q1, q2, hTO⟩, h1, h2, h3⟩ := st
    exact ⟨q zz (by simp) _ hz, q TI (by simp) _ hTI, ⟨q0, q1, q2, q TO (by simp) _ hTO⟩, h1.at fun o e => q i1 (by simp) o e, h2.at fun o e => q i2 (by simp) o e, h3.at fun o e => q i3 (by simp) o e⟩
  item := by
    intro X hP hw hK hc i pins s σ H E I hf st hg
    subst hP hw hK
    obtain ⟨hz, hTI, ⟨q0, q1, q2, hTO⟩, h1, h2, h3⟩ := st
    obtain ⟨xs, ys, zs, x, y, z, g1, g2, g3, e1, e2, e3⟩ := hg
    obtain ⟨u1, rv1, p1, la1⟩ := Inv.seqS I g1
    obtain ⟨w1, hw1, rw1⟩ := rv1.get e1
    have l1 : i < u1.toArray.size := by
      rw [List.size_toArray, ← rv1.length]
      exact (List.getElem?_eq_some_iff.mp e1).1
    obtain ⟨u2, rv2, p2, la2⟩ := Inv.seqS I g2
    obtain ⟨w2, hw2, rw2⟩ := rv2.get e2
    have l2 : i < u2.toArray.size := by
      rw [List.size_toArray, ← rv2.length]
      exact (List.getElem?_eq_some_iff.mp e2).1
    obtain ⟨u3, rv3, p3, la3⟩ := Inv.seqS I g3
    obtain ⟨w3, hw3, rw3⟩ := rv3.get e3
    have l3 : i < u3.toArray.size := by
      rw [List.size_toArray, ← rv3.length]
      exact (List.getElem?_eq_some_iff.mp e3).1
    have zl : zz < s.heap.objs.size := Heap.lt_size hz
    have Tl : TI < s.heap.objs.size := Heap.lt_size hTI
    have Ol : TO < s.heap.objs.size := Heap.lt_size hTO
    have il1 : i1 < s.heap.objs.size := by obtain ⟨_, q, _⟩ := h1.get; exact Heap.lt_size q
    have il2 : i2 < s.heap.objs.size := by obtain ⟨_, q, _⟩ := h2.get; exact Heap.lt_size q
    have il3 : i3 < s.heap.objs.size := by obtain ⟨_, q, _⟩ := h3.get; exact Heap.lt_size q
    refine wpAny_pyNext_zipD3_item S (drawsS (k := k) (A := X.A.in1) (I.ok.hd hc) n1 u1.toArray) (drawsS (k := j) (A := X.A.in1) (I.ok.hd hc) n2 u2.toArray) (drawsS (k := m) (A := X.A.in1) (I.ok.hd hc) n3 u3.toArray) hz hTI hTO ⟨h1, p1⟩ ⟨h2, p2⟩ ⟨h3, p3⟩ l1 l2 l3 fun y1 y2 y3 h' tk hy1 hy2 hy3 hZ hO ss1 ss2 ss3 hT hsz hkp => ?_
    have ey1 : y1 = w1 := by
      have z : u1.toArray[i]? = some w1 := by simpa using hw1
      exact Option.some.inj (hy1.symm.trans z)
    subst ey1
    have ey2 : y2 = w2 := by
      have z : u2.toArray[i]? = some w2 := by simpa using hw2
      exact Option.some.inj (hy2.symm.trans z)
    subst ey2
    have ey3 : y3 = w3 := by
      have z : u3.toArray[i]? = some w3 := by simpa using hw3
      exact Option.some.inj (hy3.symm.trans z)
    subst ey3
    refine ⟨_, rfl, wpAny_letOwnedTupleGo_zip (s := { s with heap := h', toks := tk }) hZ fun h'' hZ' sb => ?_⟩
    have hT2 : h''.get? s.heap.objs.size = some { cls := .type "tuple", data := .seq #[y1, y2, y3] } := (sb.2 _ (Nat.ne_of_gt zl)).trans hT
    have new : ObjOk X.prog X.w (upd H s.heap.objs.size (.tup [x, y, z])) h'' s.heap.objs.size (.tup [x, y, z]) :=
      ⟨by show 3 ≤ sizeLine; decide, [y1, y2, y3], (.cons rw1 (.cons rw2 (.cons rw3 .nil))), ⟨_, hT2, rfl, _, rfl⟩⟩
    have up : ∀ b o, b ∉ [zz, TI, TO, i1, i2, i3] → s.heap.get? b = some o → h''.get? b = some o := fun b o hb q => (sb.2 b fun z => hb (by simp [z])).trans (hkp b o (fun z => hb (by simp [z])) (fun z => hb (by simp [z])) (fun z => hb (by simp [z])) (fun z => hb (by simp [z])) (fun z => hb (by simp [z])) q)
    have I1 : Inv X pins σ (upd H s.heap.objs.size (.tup [x, y, z])) { s with heap := h'', toks := tk } :=
      I.turnedNew up hf (Nat.le_refl _) new
    refine ⟨.ref s.heap.objs.size, _, I1, rfl, ⟨_, x, y, z, rfl, I.hok.fresh (Nat.le_refl _), rfl, fun vs hv => by rw [Inv.injS I hv g1]; exact e1, fun vs hv => by rw [Inv.injS I hv g2]; exact e2, fun vs hv => by rw [Inv.injS I hv g3]; exact e3⟩, ⟨hZ', ?_, ⟨_, _, _, (sb.2 TO S.TOz).trans hO⟩, ss1.1.at fun o q => (sb.2 i1 ?_).trans q, ss2.1.at fun o q => (sb.2 i2 ?_).trans q, ss3.1.at fun o q => (sb.2 i3 ?_).trans q⟩, fun b hb => ?_⟩
    · exact (sb.2 TI S.TIz).trans (hkp TI _ S.TIz S.TITO S.TIi1 S.TIi2 S.TIi3 hTI)
    · exact fun e => S.zf1 (by rw [← e]; simp)
    · exact fun e => S.zf2 (by rw [← e]; simp)
    · exact fun e => S.zf3 (by rw [← e]; simp)
    · have lb : b < s.heap.objs.size := by
        have q : b = zz ∨ b = TI ∨ b = TO ∨ b = i1 ∨ b = i2 ∨ b = i3 := by simpa using hb
        rcases q with q | q | q | q | q | q
        · rw [q]; exact zl
        · rw [q]; exact Tl
        · rw [q]; exact Ol
        · rw [q]; exact il1
        · rw [q]; exact il2
        · rw [q]; exact il3
      rw [upd_ne (Nat.ne_of_lt lb)]
      exact (hf b hb).1
  done := by
    intro X hP hw hK hc i pins s σ H E I hf st hg
    subst hP hw hK
    obtain ⟨hz, hTI, ⟨q0, q1, q2, hTO⟩, h1, h2, h3⟩ := st
    obtain ⟨xs, ys, zs, g1, g2, g3, e1, e2, e3, ee⟩ := hg
    obtain ⟨u1, rv1, p1, la1⟩ := Inv.seqS I g1
    have ez1 : u1.toArray.size = xs.length := by rw [List.size_toArray, ← rv1.length]
    obtain ⟨u2, rv2, p2, la2⟩ := Inv.seqS I g2
    have ez2 : u2.toArray.size = ys.length := by rw [List.size_toArray, ← rv2.length]
    obtain ⟨u3, rv3, p3, la3⟩ := Inv.seqS I g3
    have ez3 : u3.toArray.size = zs.length := by rw [List.size_toArray, ← rv3.length]
    exact wpAny_pyNext_zipD3_end S (drawsS (k := k) (A := X.A.in1) (I.ok.hd hc) n1 u1.toArray) (drawsS (k := j) (A := X.A.in1) (I.ok.hd hc) n2 u2.toArray) (drawsS (k := m) (A := X.A.in1) (I.ok.hd hc) n3 u3.toArray) hz hTI hTO ⟨h1, p1⟩ ⟨h2, p2⟩ ⟨h3, p3⟩ (by rw [ez1]; exact e1) (by rw [ez2]; exact e2) (by rw [ez3]; exact e3) (by rw [ez1, ez2, ez3]; exact ee) fun h' tk eb => ⟨rfl, I.turnedL (t' := tk) (ch := [zz, TI, TO, i1, i2, i3]) (fun b o hb q => eb b o (fun z => hb (by simp [z])) (fun z => hb (by simp [z])) (fun z => hb (by simp [z])) (fun z => hb (by simp [z])) (fun z => hb (by simp [z])) q) hf⟩
  self := fun A i s Q E st h => wpAny_pyIter_zip st.1 h
def iZip3 (K : PySem.W.Frag) (k j m : Bool) (ta : TA) : TI := fun σ H R => ta σ H fun vs H1 => ∃ a b d xs ys zs, vs = [.ref a, .ref b, .ref d] ∧ SqS K H1 k a xs ∧ SqS K H1 j b ys ∧ SqS K H1 m d zs ∧ R (Itz3 K k j m a b d) H1
theorem pi_zip3S {X : Cx} {ex1 ex2 ex3 : Expr} {ta : TA} {p pos tpos : Pos} {elts : List Expr} {kk : Nat} (k j m : Bool) (hg : Gl X "zip") (hm : X.mg "zip" = none) (ha : PA X [ex1, ex2, ex3] ta) (hs : starEach [ex1, ex2, ex3] X.env = (false, eval ex1 X.env) :: starEach [ex2, ex3] X.env) (hpl : (backTo pos (starEach [ex2, ex3] X.env)).any (·.1) = false) :
    PI X (.Tuple elts kk tpos) (.Call (.Name "zip" p) [ex1, ex2, ex3] [] pos) (iZip3 X.K k j m ta) := by
  refine ⟨fun pins s σ H R I h => ?_⟩
  refine Call_ (ld_blt I hg hm boot_zip (PyProof.Rows.callWith_type1 (thn (ha.run pos pins s σ H _ I h) fun us s1 ⟨vs, H1, I1, r1, q1⟩ => ?_) hs hpl))
  obtain ⟨a, b, d, xs, ys, zs, ex, g1, g2, g3, q⟩ := q1
  subst ex
  obtain ⟨v1, v2, v3, rfl, t1, t2, t3⟩ : ∃ v1 v2 v3, us = [v1, v2, v3] ∧ RelV (.ref a) v1 ∧ RelV (.ref b) v2 ∧ RelV (.ref d) v3 := by
    cases r1 with
    | cons t1 rr0 =>
      cases rr0 with
      | cons t2 rr1 =>
        cases rr1 with
        | cons t3 rr2 =>
          cases rr2
          exact ⟨_, _, _, rfl, t1, t2, t3⟩
  cases t1
  cases t2
  cases t3
  obtain ⟨ws1, rv1, hS1, la1⟩ := Inv.seqS I1 g1
  obtain ⟨ws2, rv2, hS2, la2⟩ := Inv.seqS I1 g2
  obtain ⟨ws3, rv3, hS3, la3⟩ := Inv.seqS I1 g3
  refine zip_begins3 (beginsS (k := k) ws1.toArray) (beginsS (k := j) ws2.toArray) (beginsS (k := m) ws3.toArray) hS1 hS2 hS3 fun h' hZ hTI hTO gg1 gg2 gg3 hsz hk => wpAny_pyIter_zip hZ ?_
  have I2 : Inv X pins σ H1 { s1 with heap := h' } := I1.kept (t' := s1.toks) hk
  refine ⟨s1.heap.objs.size + 5, [s1.heap.objs.size + 5, s1.heap.objs.size + 3, s1.heap.objs.size + 4, s1.heap.objs.size, s1.heap.objs.size + 1, s1.heap.objs.size + 2], _, _, H1, rfl, I2, turn_zip3S k j m (zip_sep3 (fun b hb => by rw [List.mem_singleton.mp hb]; exact la1) (fun b hb => by rw [List.mem_singleton.mp hb]; exact la2) (fun b hb => by rw [List.mem_singleton.mp hb]; exact la3)) (ltne 0 la1) (ltne 1 la2) (ltne 2 la3), ⟨hZ, hTI, ⟨_, _, _, hTO⟩, obS_it gg1, obS_it gg2, obS_it gg3⟩, fun b hb => ?_, q⟩
  have le : s1.heap.objs.size ≤ b := by
    have q : b = s1.heap.objs.size + 5 ∨ b = s1.heap.objs.size + 3 ∨ b = s1.heap.objs.size + 4 ∨ b = s1.heap.objs.size ∨ b = s1.heap.objs.size + 1 ∨ b = s1.heap.objs.size + 2 := by simpa using hb
    rcases q with q | q | q | q | q | q
    · rw [q]; exact Nat.le_add_right _ 5
    · rw [q]; exact Nat.le_add_right _ 3
    · rw [q]; exact Nat.le_add_right _ 4
    · rw [q]; exact Nat.le_add_right _ 0
    · rw [q]; exact Nat.le_add_right _ 1
    · rw [q]; exact Nat.le_add_right _ 2
  exact I1.fpOk le (I1.hok.fresh le)
end Se
end
section
set_option Elab.async false
set_option linter.all false
set_option maxRecDepth 100000
set_option maxHeartbeats 4000000
namespace Se
open PySem PySem.Spec PyProof.Rows L2
/-! ### walks -/
abbrev HRel := Hp → List Addr → Prop
def Wk (K : PySem.W.Frag) (c : Addr) (rel : HRel) (J : It) (ds : List D) : Prop := ∀ H Z, rel H Z → ZOk H Z → c ∈ Z →
  (∀ i d, ds[i]? = some d → J.go i H ∧ ∀ x H', J.yld i H x H' → Keep c H H' ∧ H' c = H c ∧ Dv K H' Z x d) ∧ J.stop ds.length H
def rK (c : Addr) (H1 : Hp) (Z1 : List Addr) : HRel := fun H Z => Keep c H1 H ∧ ∀ a ∈ Z, a ∈ Z1 ∨ H1 a = none
def rL (H1 : Hp) (Z1 : List Addr) : HRel := fun H Z => Later H1 Z1 H Z
def lI (K : PySem.W.Frag) (c : Addr) (rl : Hp → List Addr → HRel) (f : Ev → M (List D)) : TI := fun σ H R => ∃ Z env cs ds cs', Pre K c H Z σ env cs ∧ f env cs = some (ds, cs') ∧ ∀ J H1, Keep c H H1 → Cell H1 c cs' → Wk K c (rl H1 Z) J ds → R J H1
abbrev SI := CF → Ev → M (List D)
theorem rK.later {c : Addr} {H1 H : Hp} {Z1 Z : List Addr} (r : rK c H1 Z1 H Z) (h : c ∈ Z1) : Later H1 Z1 H Z := ⟨fun a o e n => r.1 a o e fun q => n (q ▸ h), r.2⟩
/-- a source that stays -/
def Sr (K : PySem.W.Frag) (c : Addr) (rel : HRel) (k : Bool) (a : Addr) (xs : List V) (ds : List D) : Prop := ∀ H Z, rel H Z → ZOk H Z → c ∈ Z → SqS K H k a xs ∧ DvA K H Z xs ds
def sq : D → Option (Bool × List D)
  | .list ds => some (true, ds)
  | .tuple ds => some (false, ds)
  | _ => none
structure Lk (K : PySem.W.Frag) (c : Addr) (R : Rel D) (rl : Hp → List Addr → HRel) : Prop where
  st : Stays R K c
  src : ∀ (H1 : Hp) (Z1 : List Addr) (v : V) (d : D) (k : Bool) (ds : List D), ZOk H1 Z1 → c ∈ Z1 → R H1 Z1 v d → sq d = some (k, ds) → ∃ a xs, v = .ref a ∧ SqS K H1 k a xs ∧ Sr K c (rl H1 Z1) k a xs ds
theorem sqT_later {K : PySem.W.Frag} {H H' : Hp} {Z Z' : List Addr} {a : Addr} {xs : List V} (z : ZOk H Z) (l : Later H Z H' Z') (h : SqT K H a xs) : SqT K H' a xs := SqT.later z l h
theorem lkL {K : PySem.W.Frag} {c : Addr} : Lk K c (fun H Z => Dv K H Z) rL where
  st := stays_dv
  src := fun H1 Z1 v d k ds z cz r e => by
    cases d with
    | list es =>
      cases e
      cases r with
      | @lst a xs _ hs hn ha => exact ⟨a, xs, rfl, .inl (.inl hs), fun H Z l z' cz' => ⟨.inl (.inl (l.1 a _ hs hn)), DvA.later z l ds xs ha⟩⟩
    | tuple es =>
      cases e
      cases r with
      | @tup a xs _ hs ha => exact ⟨a, xs, rfl, hs, fun H Z l z' cz' => ⟨sqT_later z l hs, DvA.later z l ds xs ha⟩⟩
    | _ => cases e
theorem lkK {K : PySem.W.Frag} {c : Addr} : Lk K c (fun H Z => DvP K H Z c) (rK c) where
  st := stays_dvp
  src := fun H1 Z1 v d k ds z cz r e => by
    rcases r with r | ⟨a, rfl, ha, n, xs, es, e2, h1, h2⟩
    · cases d with
      | list es =>
        cases e
        cases r with
        | @lst a xs _ hs hn ha => exact ⟨a, xs, rfl, .inl (.inl hs), fun H Z l z' cz' => ⟨.inl (.inl ((l.later cz).1 a _ hs hn)), DvA.later z (l.later cz) ds xs ha⟩⟩
      | tuple es =>
        cases e
        cases r with
        | @tup a xs _ hs ha => exact ⟨a, xs, rfl, hs, fun H Z l z' cz' => ⟨sqT_later z (l.later cz) hs, DvA.later z (l.later cz) ds xs ha⟩⟩
      | _ => cases e
    · subst e2
      cases e
      exact ⟨a, xs, rfl, .inl (.inl h1), fun H Z l z' cz' => ⟨.inl (.inl (l.1 a _ h1 n)), DvA.later z (l.later cz) ds xs h2⟩⟩
theorem upd_c {H : Hp} {Z : List Addr} {c p : Addr} {o : HO} (z : ZOk H Z) (cz : c ∈ Z) (hp : H p = none) : (upd H p o) c = H c := upd_ne fun e => by
  have m := z c cz
  rw [e, hp] at m
  exact m
theorem wk_seq {K : PySem.W.Frag} {c : Addr} {rel : HRel} {k : Bool} {a : Addr} {xs : List V} {ds : List D} (s : Sr K c rel k a xs ds) : Wk K c rel (if k = true then Itl K a else Itt K a) ds := fun H Z r z cz => by
  obtain ⟨h1, h2⟩ := s H Z r z cz
  cases k with
  | true =>
    refine ⟨fun i d e => ?_, xs, h1, Nat.le_of_eq h2.length⟩
    obtain ⟨v, e1, rv⟩ := h2.get e
    refine ⟨⟨xs, v, h1, e1⟩, fun x H' y => ?_⟩
    obtain ⟨rfl, y⟩ := y
    have e2 := y xs h1
    rw [e1] at e2
    cases e2
    exact ⟨.refl, rfl, rv⟩
  | false =>
    refine ⟨fun i d e => ?_, xs, h1, Nat.le_of_eq h2.length⟩
    obtain ⟨v, e1, rv⟩ := h2.get e
    refine ⟨⟨xs, v, h1, e1⟩, fun x H' y => ?_⟩
    obtain ⟨rfl, y⟩ := y
    have e2 := y xs h1
    rw [e1] at e2
    cases e2
    exact ⟨.refl, rfl, rv⟩
def enumD : Nat → List D → List D
  | _, [] => []
  | n, d :: ds => .tuple [.int n, d] :: enumD (n + 1) ds
theorem enumD_get : ∀ {ds : List D} {n i : Nat} {d : D}, (enumD n ds)[i]? = some d → ∃ e, ds[i]? = some e ∧ d = .tuple [.int ((n + i : Nat) : Int), e]
  | [], n, i, d, h => by simp [enumD] at h
  | e :: ds, n, 0, d, h => by
    simp [enumD] at h
    exact ⟨e, by simp, h.symm⟩
  | e :: ds, n, i + 1, d, h => by
    have h' : (enumD (n + 1) ds)[i]? = some d := by simpa [enumD] using h
    obtain ⟨e', h1, h2⟩ := enumD_get h'
    refine ⟨e', by simpa using h1, ?_⟩
    rw [h2]
    have : n + 1 + i = n + (i + 1) := by omega
    rw [this]
theorem enumD_len : ∀ {ds : List D} {n : Nat}, (enumD n ds).length = ds.length
  | [], n => rfl
  | d :: ds, n => by simp [enumD, enumD_len]
theorem wk_enum {K : PySem.W.Frag} {c : Addr} {rel : HRel} {k : Bool} {a : Addr} {xs : List V} {ds : List D} (s : Sr K c rel k a xs ds) : Wk K c rel (IteS K k a) (enumD 0 ds) := fun H Z r z cz => by
  obtain ⟨h1, h2⟩ := s H Z r z cz
  refine ⟨fun i d e => ?_, xs, h1, by rw [enumD_len]; exact h2.length⟩
  obtain ⟨e', e1, rfl⟩ := enumD_get e
  obtain ⟨v, e2, rv⟩ := h2.get e1
  refine ⟨⟨xs, v, h1, e2⟩, fun x H' y => ?_⟩
  obtain ⟨T, y, rfl, hT, rfl, hy⟩ := y
  have e3 := hy xs h1
  rw [e2] at e3
  cases e3
  have kp : Keep c H (upd H T (.tup [.int (i : Nat), v])) := .upd hT
  refine ⟨kp, upd_c z cz hT, .tup (SqT.of upd_same) (.cons ?_ (.cons (Dv.later z (kp.later cz) _ _ rv) .nil))⟩
  rw [Nat.zero_add]
  exact .int _
def zipD : List D → List D → List D
  | d :: ds, e :: es => .tuple [d, e] :: zipD ds es
  | _, _ => []
def zipD3 : List D → List D → List D → List D
  | d :: ds, e :: es, f :: fs => .tuple [d, e, f] :: zipD3 ds es fs
  | _, _, _ => []
theorem zipD_get : ∀ {ds es : List D} {i : Nat} {d : D}, (zipD ds es)[i]? = some d → ∃ x y, ds[i]? = some x ∧ es[i]? = some y ∧ d = .tuple [x, y]
  | [], _, i, d, h => by simp [zipD] at h
  | _ :: _, [], i, d, h => by simp [zipD] at h
  | x :: ds, y :: es, 0, d, h => by
    simp [zipD] at h
    exact ⟨x, y, by simp, by simp, h.symm⟩
  | x :: ds, y :: es, i + 1, d, h => by
    have h' : (zipD ds es)[i]? = some d := by simpa [zipD] using h
    obtain ⟨a, b, h1, h2, h3⟩ := zipD_get h'
    exact ⟨a, b, by simpa using h1, by simpa using h2, h3⟩
theorem zipD_len : ∀ {ds es : List D}, (zipD ds es).length ≤ ds.length ∧ (zipD ds es).length ≤ es.length ∧ ((zipD ds es).length = ds.length ∨ (zipD ds es).length = es.length)
  | [], es => ⟨by simp [zipD], by simp [zipD], .inl rfl⟩
  | d :: ds, [] => ⟨by simp [zipD], by simp [zipD], .inr rfl⟩
  | d :: ds, e :: es => by
    obtain ⟨h1, h2, h3⟩ := zipD_len (ds := ds) (es := es)
    refine ⟨by simp [zipD, h1], by simp [zipD, h2], ?_⟩
    simpa [zipD] using h3
theorem zipD3_get : ∀ {ds es fs : List D} {i : Nat} {d : D}, (zipD3 ds es fs)[i]? = some d → ∃ x y z, ds[i]? = some x ∧ es[i]? = some y ∧ fs[i]? = some z ∧ d = .tuple [x, y, z]
  | [], _, _, i, d, h => by simp [zipD3] at h
  | _ :: _, [], _, i, d, h => by simp [zipD3] at h
  | _ :: _, _ :: _, [], i, d, h => by simp [zipD3] at h
  | x :: ds, y :: es, z :: fs, 0, d, h => by
    simp [zipD3] at h
    exact ⟨x, y, z, by simp, by simp, by simp, h.symm⟩
  | x :: ds, y :: es, z :: fs, i + 1, d, h => by
    have h' : (zipD3 ds es fs)[i]? = some d := by simpa [zipD3] using h
    obtain ⟨a, b, c, h1, h2, h3, h4⟩ := zipD3_get h'
    exact ⟨a, b, c, by simpa using h1, by simpa using h2, by simpa using h3, h4⟩
theorem zipD3_len : ∀ {ds es fs : List D}, (zipD3 ds es fs).length ≤ ds.length ∧ (zipD3 ds es fs).length ≤ es.length ∧ (zipD3 ds es fs).length ≤ fs.length ∧ ((zipD3 ds es fs).length = ds.length ∨ (zipD3 ds es fs).length = es.length ∨ (zipD3 ds es fs).length = fs.length)
  | [], es, fs => ⟨by simp [zipD3], by simp [zipD3], by simp [zipD3], .inl rfl⟩
  | d :: ds, [], fs => ⟨by simp [zipD3], by simp [zipD3], by simp [zipD3], .inr (.inl rfl)⟩
  | d :: ds, e :: es, [] => ⟨by simp [zipD3], by simp [zipD3], by simp [zipD3], .inr (.inr rfl)⟩
  | d :: ds, e :: es, f :: fs => by
    obtain ⟨h1, h2, h3, h4⟩ := zipD3_len (ds := ds) (es := es) (fs := fs)
    refine ⟨by simp [zipD3, h1], by simp [zipD3, h2], by simp [zipD3, h3], ?_⟩
    simpa [zipD3] using h4
theorem wk_zip2 {K : PySem.W.Frag} {c : Addr} {rel : HRel} {k j : Bool} {a b : Addr} {xs ys : List V} {ds es : List D} (s : Sr K c rel k a xs ds) (t : Sr K c rel j b ys es) : Wk K c rel (Itz2 K k j a b) (zipD ds es) := fun H Z r z cz => by
  obtain ⟨h1, h2⟩ := s H Z r z cz
  obtain ⟨g1, g2⟩ := t H Z r z cz
  have l1 := h2.length
  have l2 := g2.length
  obtain ⟨z1, z2, z3⟩ := zipD_len (ds := ds) (es := es)
  refine ⟨fun i d e => ?_, xs, ys, h1, g1, by omega, by omega, by omega⟩
  obtain ⟨d1, d2, e1, e2, rfl⟩ := zipD_get e
  obtain ⟨v, e3, rv⟩ := h2.get e1
  obtain ⟨u, e4, ru⟩ := g2.get e2
  refine ⟨⟨xs, ys, v, u, h1, g1, e3, e4⟩, fun x H' y => ?_⟩
  obtain ⟨T, y1, y2, rfl, hT, rfl, hy, hy2⟩ := y
  have e5 := hy xs h1
  rw [e3] at e5
  cases e5
  have e6 := hy2 ys g1
  rw [e4] at e6
  cases e6
  have kp : Keep c H (upd H T (.tup [v, u])) := .upd hT
  exact ⟨kp, upd_c z cz hT, .tup (SqT.of upd_same) (.cons (Dv.later z (kp.later cz) _ _ rv) (.cons (Dv.later z (kp.later cz) _ _ ru) .nil))⟩
theorem wk_zip3 {K : PySem.W.Frag} {c : Addr} {rel : HRel} {k j m : Bool} {a b d : Addr} {xs ys zs : List V} {ds es fs : List D} (s : Sr K c rel k a xs ds) (t : Sr K c rel j b ys es) (u : Sr K c rel m d zs fs) : Wk K c rel (Itz3 K k j m a b d) (zipD3 ds es fs) := fun H Z r z cz => by
  obtain ⟨h1, h2⟩ := s H Z r z cz
  obtain ⟨g1, g2⟩ := t H Z r z cz
  obtain ⟨f1, f2⟩ := u H Z r z cz
  have l1 := h2.length
  have l2 := g2.length
  have l3 := f2.length
  obtain ⟨z1, z2, z3, z4⟩ := zipD3_len (ds := ds) (es := es) (fs := fs)
  refine ⟨fun i d e => ?_, xs, ys, zs, h1, g1, f1, by omega, by omega, by omega, by omega⟩
  obtain ⟨d1, d2, d3, e1, e2, e2', rfl⟩ := zipD3_get e
  obtain ⟨v, e3, rv⟩ := h2.get e1
  obtain ⟨u, e4, ru⟩ := g2.get e2
  obtain ⟨w, e4', rw'⟩ := f2.get e2'
  refine ⟨⟨xs, ys, zs, v, u, w, h1, g1, f1, e3, e4, e4'⟩, fun x H' y => ?_⟩
  obtain ⟨T, y1, y2, y3, rfl, hT, rfl, hy, hy2, hy3⟩ := y
  have e5 := hy xs h1
  rw [e3] at e5
  cases e5
  have e6 := hy2 ys g1
  rw [e4] at e6
  cases e6
  have e7 := hy3 zs f1
  rw [e4'] at e7
  cases e7
  have kp : Keep c H (upd H T (.tup [v, u, w])) := .upd hT
  exact ⟨kp, upd_c z cz hT, .tup (SqT.of upd_same) (.cons (Dv.later z (kp.later cz) _ _ rv) (.cons (Dv.later z (kp.later cz) _ _ ru) (.cons (Dv.later z (kp.later cz) _ _ rw') .nil)))⟩
def rngD : Int → Nat → List D
  | _, 0 => []
  | lo, n + 1 => .int lo :: rngD (lo + 1) n
theorem rngD_get : ∀ {n : Nat} {lo : Int} {i : Nat} {d : D}, (rngD lo n)[i]? = some d → i < n ∧ d = .int (lo + i)
  | 0, lo, i, d, h => by simp [rngD] at h
  | n + 1, lo, 0, d, h => by
    simp [rngD] at h
    exact ⟨Nat.succ_pos _, by rw [← h]; simp⟩
  | n + 1, lo, i + 1, d, h => by
    have h' : (rngD (lo + 1) n)[i]? = some d := by simpa [rngD] using h
    obtain ⟨h1, h2⟩ := rngD_get h'
    refine ⟨Nat.succ_lt_succ h1, ?_⟩
    rw [h2]
    congr 1
    omega
theorem rngD_len : ∀ {n : Nat} {lo : Int}, (rngD lo n).length = n
  | 0, lo => rfl
  | n + 1, lo => by simp [rngD, rngD_len]
theorem wk_rng {K : PySem.W.Frag} {c : Addr} {rel : HRel} {lo : Int} {n : Nat} : Wk K c rel (Itr lo n) (rngD lo n) := fun H Z r z cz => by
  refine ⟨fun i d e => ?_, by rw [rngD_len]; exact Nat.le_refl n⟩
  obtain ⟨h1, rfl⟩ := rngD_get e
  refine ⟨h1, fun x H' y => ?_⟩
  obtain ⟨rfl, rfl⟩ := y
  exact ⟨.refl, rfl, .int _⟩
/-! ### iterables -/
section
variable {X : Cx} {c : Addr} {cf : CF} {rl : Hp → List Addr → HRel} {R : Rel D} {tg : Expr}
theorem pi_imp {e : Expr} {t u : TI} (h : PI X tg e t) (i : ∀ σ H R, u σ H R → t σ H R) : PI X tg e u := ⟨fun pins s σ H R I q => h.run pins s σ H R I (i σ H R q)⟩
theorem pi_any {ι : Type} {e : Expr} {t : ι → TI} (h : ∀ i, PI X tg e (t i)) : PI X tg e (fun σ H R => ∃ i, t i σ H R) := ⟨fun pins s σ H R I ⟨i, q⟩ => (h i).run pins s σ H R I q⟩
def sqL (d : D) : Option (List D) := match sq d with
  | some (_, ds) => some ds
  | none => none
theorem sqL_some {d : D} {ds : List D} (h : sqL d = some ds) : ∃ k, sq d = some (k, ds) := by
  unfold sqL at h
  split at h
  · rename_i k es e
    cases h
    exact ⟨k, e⟩
  · cases h
def mSeq (f : SE) : SI := fun cf env => M.bnd (f cf env) fun d => M.of (sqL d)
theorem i_seq {e : Expr} {f : SE} (L : Lk X.K c R rl) (he : PE X e (lf R X.K c (f cf))) : PI X tg e (lI X.K c rl (mSeq f cf)) := by
  refine pi_imp (pi_any (ι := Bool) (t := fun k => if k = true then iList X.K (lf R X.K c (f cf)) else iTup X.K (lf R X.K c (f cf))) fun k => ?_) fun σ H T h => ?_
  · cases k with
    | true => exact pi_list he
    | false => exact pi_tup he
  · obtain ⟨Z, env, cs, ds, cs', p, e, q⟩ := h
    obtain ⟨d, c1, e1, e⟩ := bnd_some e
    obtain ⟨es, e2, e3⟩ := of_some e
    cases e3
    obtain ⟨k, e4⟩ := sqL_some e2
    refine ⟨k, ?_⟩
    cases k with
    | true =>
      refine ⟨Z, env, cs, d, _, p, e1, fun v H1 k1 ce1 r1 => ?_⟩
      have p1 := p.step k1 ce1
      obtain ⟨a, xs, rfl, h1, h2⟩ := L.src H1 Z v d true ds p1.z p1.cz r1 e4
      exact ⟨a, rfl, ⟨xs, h1⟩, q (Itl X.K a) H1 k1 ce1 (wk_seq h2)⟩
    | false =>
      refine ⟨Z, env, cs, d, _, p, e1, fun v H1 k1 ce1 r1 => ?_⟩
      have p1 := p.step k1 ce1
      obtain ⟨a, xs, rfl, h1, h2⟩ := L.src H1 Z v d false ds p1.z p1.cz r1 e4
      exact ⟨a, rfl, ⟨xs, h1⟩, q (Itt X.K a) H1 k1 ce1 (wk_seq h2)⟩
theorem paired1 {β : Type} {P : V → β → Prop} {vs : List V} {b : β} (h : Paired P vs [b]) : ∃ v, vs = [v] ∧ P v b := by
  cases h with
  | cons r t => cases t; exact ⟨_, rfl, r⟩
theorem paired2 {β : Type} {P : V → β → Prop} {vs : List V} {b c : β} (h : Paired P vs [b, c]) : ∃ v u, vs = [v, u] ∧ P v b ∧ P u c := by
  cases h with
  | cons r t =>
    obtain ⟨u, rfl, r2⟩ := paired1 t
    exact ⟨_, u, rfl, r, r2⟩
theorem paired3 {β : Type} {P : V → β → Prop} {vs : List V} {b c d : β} (h : Paired P vs [b, c, d]) : ∃ v u w, vs = [v, u, w] ∧ P v b ∧ P u c ∧ P w d := by
  cases h with
  | cons r t =>
    obtain ⟨u, w, rfl, r2, r3⟩ := paired2 t
    exact ⟨_, u, w, rfl, r, r2, r3⟩
def enumL (ds : List D) : Option (List D) := match ds with
  | [d] => match sqL d with
    | some es => some (enumD 0 es)
    | none => none
  | _ => none
def zipL (ds : List D) : Option (List D) := match ds with
  | [d, e] => match sqL d, sqL e with
    | some xs, some ys => some (zipD xs ys)
    | _, _ => none
  | [d, e, f] => match sqL d, sqL e, sqL f with
    | some xs, some ys, some zs => some (zipD3 xs ys zs)
    | _, _, _ => none
  | _ => none
def rngOk (i : Int) : Bool := decide (-4611686018427387904 ≤ i) && decide (i < 4611686018427387904)
theorem rngOk_iff {i : Int} (h : rngOk i = true) : -(2 ^ 62) ≤ i ∧ i < 2 ^ 62 := by
  unfold rngOk at h
  rw [Bool.and_eq_true, decide_eq_true_iff, decide_eq_true_iff] at h
  omega
def rngL (ds : List D) : Option (List D) := match ds with
  | [.int j] => if rngOk j = true then some (rngD 0 j.toNat) else none
  | [.int i, .int j] => if rngOk i = true ∧ rngOk j = true then some (rngD i (j - i).toNat) else none
  | _ => none
def mIter (g : List D → Option (List D)) (fs : SA D) : SI := fun cf env => M.bnd (fs cf env) fun ds => M.of (g ds)
theorem iter_some {g : List D → Option (List D)} {fs : SA D} {env : Ev} {cs : Cs} {r : List D × Cs} (h : mIter g fs cf env cs = some r) : ∃ ds c1 es, fs cf env cs = some (ds, c1) ∧ g ds = some es ∧ r = (es, c1) := by
  obtain ⟨ds, c1, e1, e⟩ := bnd_some h
  obtain ⟨es, e2, e3⟩ := of_some e
  exact ⟨ds, c1, es, e1, e2, e3⟩
theorem i_enum {e : Expr} {fs : SA D} {p pos tpos : Pos} {elts : List Expr} {kk : Nat} (L : Lk X.K c R rl) (hg : Gl X "enumerate") (hm : X.mg "enumerate" = none) (ha : PA X [e] (lA R X.K c (fs cf))) (hs : starEach [e] X.env = [(false, eval e X.env)]) :
    PI X (.Tuple elts kk tpos) (.Call (.Name "enumerate" p) [e] [] pos) (lI X.K c rl (mIter enumL fs cf)) := by
  refine pi_imp (pi_any fun k => pi_enumS k hg hm ha hs) fun σ H T h => ?_
  obtain ⟨Z, env, cs, ds, cs', pr, e, q⟩ := h
  obtain ⟨es, c1, fs', e1, e2, e3⟩ := iter_some e
  cases e3
  unfold enumL at e2
  split at e2
  · rename_i d
    split at e2
    · rename_i xs ex
      cases e2
      obtain ⟨k, e4⟩ := sqL_some ex
      refine ⟨k, Z, env, cs, [d], _, pr, e1, fun vs H1 k1 ce1 r1 => ?_⟩
      have p1 := pr.step k1 ce1
      obtain ⟨v, rfl, r2⟩ := paired1 r1
      obtain ⟨a, ys, rfl, h1, h2⟩ := L.src H1 Z v d k xs p1.z p1.cz r2 e4
      exact ⟨a, ys, rfl, h1, q _ H1 k1 ce1 (wk_enum h2)⟩
    · cases e2
  · cases e2
theorem i_zip2 {e1 e2 : Expr} {fs : SA D} {p pos tpos : Pos} {elts : List Expr} {kk : Nat} (L : Lk X.K c R rl) (hg : Gl X "zip") (hm : X.mg "zip" = none) (ha : PA X [e1, e2] (lA R X.K c (fs cf))) (hl : ∀ env cs ds cs', fs cf env cs = some (ds, cs') → ds.length = 2) (hs : starEach [e1, e2] X.env = (false, eval e1 X.env) :: starEach [e2] X.env) (hpl : (backTo pos (starEach [e2] X.env)).any (·.1) = false) :
    PI X (.Tuple elts kk tpos) (.Call (.Name "zip" p) [e1, e2] [] pos) (lI X.K c rl (mIter zipL fs cf)) := by
  refine pi_imp (pi_any (ι := Bool × Bool) fun k => pi_zip2S k.1 k.2 hg hm ha hs hpl) fun σ H T h => ?_
  obtain ⟨Z, env, cs, ds, cs', pr, e, q⟩ := h
  obtain ⟨es, c1, fs', e1, e2, e3⟩ := iter_some e
  cases e3
  have hl' := hl _ _ _ _ e1
  unfold zipL at e2
  split at e2
  · rename_i d1 d2
    split at e2
    · rename_i xs ys ex ey
      cases e2
      obtain ⟨k, e4⟩ := sqL_some ex
      obtain ⟨j, e5⟩ := sqL_some ey
      refine ⟨(k, j), Z, env, cs, [d1, d2], _, pr, e1, fun vs H1 k1 ce1 r1 => ?_⟩
      have p1 := pr.step k1 ce1
      obtain ⟨v, u, rfl, r2, r3⟩ := paired2 r1
      obtain ⟨a, ys, rfl, h1, h2⟩ := L.src H1 Z v d1 k xs p1.z p1.cz r2 e4
      obtain ⟨b, zs, rfl, h3, h4⟩ := L.src H1 Z u d2 j _ p1.z p1.cz r3 e5
      exact ⟨a, b, ys, zs, rfl, h1, h3, q _ H1 k1 ce1 (wk_zip2 h2 h4)⟩
    · cases e2
  · simp at hl'
  · cases e2
theorem i_zip3 {e1 e2 e3 : Expr} {fs : SA D} {p pos tpos : Pos} {elts : List Expr} {kk : Nat} (L : Lk X.K c R rl) (hg : Gl X "zip") (hm : X.mg "zip" = none) (ha : PA X [e1, e2, e3] (lA R X.K c (fs cf))) (hl : ∀ env cs ds cs', fs cf env cs = some (ds, cs') → ds.length = 3) (hs : starEach [e1, e2, e3] X.env = (false, eval e1 X.env) :: starEach [e2, e3] X.env) (hpl : (backTo pos (starEach [e2, e3] X.env)).any (·.1) = false) :
    PI X (.Tuple elts kk tpos) (.Call (.Name "zip" p) [e1, e2, e3] [] pos) (lI X.K c rl (mIter zipL fs cf)) := by
  refine pi_imp (pi_any (ι := Bool × Bool × Bool) fun k => pi_zip3S k.1 k.2.1 k.2.2 hg hm ha hs hpl) fun σ H T h => ?_
  obtain ⟨Z, env, cs, ds, cs', pr, e, q⟩ := h
  obtain ⟨es, c1, fs', e1, e2, e3⟩ := iter_some e
  cases e3
  have hl' := hl _ _ _ _ e1
  unfold zipL at e2
  split at e2
  · simp at hl'
  · rename_i d1 d2 d3
    split at e2
    · rename_i xs ys zs ex ey ez
      cases e2
      obtain ⟨k, e4⟩ := sqL_some ex
      obtain ⟨j, e5⟩ := sqL_some ey
      obtain ⟨m, e6⟩ := sqL_some ez
      refine ⟨(k, j, m), Z, env, cs, [d1, d2, d3], _, pr, e1, fun vs H1 k1 ce1 r1 => ?_⟩
      have p1 := pr.step k1 ce1
      obtain ⟨v, u, w, rfl, r2, r3, r4⟩ := paired3 r1
      obtain ⟨a, ys, rfl, h1, h2⟩ := L.src H1 Z v d1 k xs p1.z p1.cz r2 e4
      obtain ⟨b, zs, rfl, h3, h4⟩ := L.src H1 Z u d2 j _ p1.z p1.cz r3 e5
      obtain ⟨b', zs', rfl, h5, h6⟩ := L.src H1 Z w d3 m _ p1.z p1.cz r4 e6
      exact ⟨a, b, b', ys, zs, zs', rfl, h1, h3, h5, q _ H1 k1 ce1 (wk_zip3 h2 h4 h6)⟩
    · cases e2
  · cases e2
theorem i_rng1 {a : Expr} {fs : SA D} {p pos : Pos} (hg : Gl X "range") (hm : X.mg "range" = none) (ha : PA X [a] (lA (fun H Z => DvP X.K H Z c) X.K c (fs cf))) (hl : ∀ env cs ds cs', fs cf env cs = some (ds, cs') → ds.length = 1) (hs : starEach [a] X.env = [(false, eval a X.env)]) : PI X tg (.Call (.Name "range" p) [a] [] pos) (lI X.K c rl (mIter rngL fs cf)) := by
  refine pi_imp (pi_range1 hg hm ha hs) fun σ H T h => ?_
  obtain ⟨Z, env, cs, ds, cs', pr, e, q⟩ := h
  obtain ⟨es, c1, fs', e1, e2, e3⟩ := iter_some e
  cases e3
  have hl' := hl _ _ _ _ e1
  unfold rngL at e2
  split at e2
  · rename_i j
    split at e2
    · rename_i hj
      cases e2
      refine ⟨Z, env, cs, _, _, pr, e1, fun vs H1 k1 ce1 r1 => ?_⟩
      obtain ⟨v, rfl, r2⟩ := paired1 r1
      rw [r2.int]
      exact ⟨j, rfl, (rngOk_iff hj).1, (rngOk_iff hj).2, q _ H1 k1 ce1 wk_rng⟩
    · cases e2
  · simp at hl'
  · cases e2
theorem i_rng2 {a b : Expr} {fs : SA D} {p pos : Pos} (hg : Gl X "range") (hm : X.mg "range" = none) (ha : PA X [a, b] (lA (fun H Z => DvP X.K H Z c) X.K c (fs cf))) (hl : ∀ env cs ds cs', fs cf env cs = some (ds, cs') → ds.length = 2) (hs : starEach [a, b] X.env = [(false, eval a X.env), (false, eval b X.env)]) (hs2 : starEach [b] X.env = [(false, eval b X.env)]) : PI X tg (.Call (.Name "range" p) [a, b] [] pos) (lI X.K c rl (mIter rngL fs cf)) := by
  refine pi_imp (pi_range2 hg hm ha hs hs2) fun σ H T h => ?_
  obtain ⟨Z, env, cs, ds, cs', pr, e, q⟩ := h
  obtain ⟨es, c1, fs', e1, e2, e3⟩ := iter_some e
  cases e3
  have hl' := hl _ _ _ _ e1
  unfold rngL at e2
  split at e2
  · simp at hl'
  · rename_i i j
    split at e2
    · rename_i hj
      cases e2
      refine ⟨Z, env, cs, _, _, pr, e1, fun vs H1 k1 ce1 r1 => ?_⟩
      obtain ⟨v, u, rfl, r2, r3⟩ := paired2 r1
      rw [r2.int, r3.int]
      obtain ⟨h1, h2⟩ := rngOk_iff hj.1
      obtain ⟨h3, h4⟩ := rngOk_iff hj.2
      exact ⟨i, j, rfl, ⟨h1, h2, h3, h4⟩, q _ H1 k1 ce1 wk_rng⟩
    · cases e2
  · cases e2
end
end Se
end
section
set_option Elab.async false
set_option linter.all false
set_option maxRecDepth 100000
set_option maxHeartbeats 4000000
namespace Se
open PySem PySem.Spec PyProof.Rows L2
/-! ### what is owned -/
structure Own (H0 : Hp) (σ : L2.St) (env : Ev) : Prop where
  new : ∀ (i : Nat) (a : Addr) (d : D), env[i]? = some (.ow d) → σ[i]? = some (some (.ref a)) → H0 a = none
  sep : ∀ (i j : Nat) (a : Addr) (d e : D), env[i]? = some (.ow d) → env[j]? = some (.ow e) → σ[i]? = some (some (.ref a)) → σ[j]? = some (some (.ref a)) → i = j
  newR : ∀ (i : Nat) (a : Addr) (rs : List (List Int)), env[i]? = some (.dR rs) → σ[i]? = some (some (.ref a)) → H0 a = none
theorem set_get {α : Type} {l : List α} {i j : Nat} {x y : α} (h : (l.set i x)[j]? = some y) : (i = j ∧ y = x) ∨ (i ≠ j ∧ l[j]? = some y) := by
  by_cases e : i = j
  · subst e
    rw [List.getElem?_set_self' ] at h
    cases q : l[i]? with
    | none => rw [q] at h; cases h
    | some z => rw [q] at h; exact .inl ⟨rfl, (Option.some.inj h).symm⟩
  · rw [List.getElem?_set_ne e] at h
    exact .inr ⟨e, h⟩
def isOw : Slot → Bool
  | .ow _ => true
  | .dR _ => true
  | _ => false
theorem Own.set {H0 : Hp} {σ : L2.St} {env : Ev} {i : Nat} {o : Option V} {s : Slot} (h : Own H0 σ env) (hs : isOw s = false) : Own H0 (σ.set i o) (env.set i s) := by
  have key : ∀ {j : Nat} {d : D}, (env.set i s)[j]? = some (.ow d) → i ≠ j ∧ env[j]? = some (.ow d) := fun {j d} e => by
    rcases set_get e with ⟨_, e2⟩ | r
    · subst e2; cases hs
    · exact r
  refine ⟨fun j a d e1 e2 => ?_, fun j k a d e e1 e2 e3 e4 => ?_, fun j a rs e1 e2 => ?_⟩
  · obtain ⟨n, e1⟩ := key e1
    rw [List.getElem?_set_ne n] at e2
    exact h.new j a d e1 e2
  · obtain ⟨n, e1⟩ := key e1
    obtain ⟨m, e2⟩ := key e2
    rw [List.getElem?_set_ne n] at e3
    rw [List.getElem?_set_ne m] at e4
    exact h.sep j k a d e e1 e2 e3 e4
  · have ⟨n, e1⟩ : i ≠ j ∧ env[j]? = some (.dR rs) := by
      rcases set_get e1 with ⟨_, q2⟩ | r
      · subst q2; cases hs
      · exact r
    rw [List.getElem?_set_ne n] at e2
    exact h.newR j a rs e1 e2
/-- a fresh dict taken -/
theorem Own.takeR {H0 : Hp} {σ : L2.St} {env : Ev} {i : Nat} {a : Addr} {rs : List (List Int)} (h : Own H0 σ env) (hn : H0 a = none) : Own H0 (σ.set i (some (.ref a))) (env.set i (.dR rs)) := by
  have key : ∀ {j : Nat} {d : D}, (env.set i (.dR rs))[j]? = some (.ow d) → i ≠ j ∧ env[j]? = some (.ow d) := fun {j d} e => by
    rcases set_get e with ⟨_, e2⟩ | r
    · cases e2
    · exact r
  refine ⟨fun j a d e1 e2 => ?_, fun j k a d e e1 e2 e3 e4 => ?_, fun j b ts e1 e2 => ?_⟩
  · obtain ⟨n, e1⟩ := key e1
    rw [List.getElem?_set_ne n] at e2
    exact h.new j a d e1 e2
  · obtain ⟨n, e1⟩ := key e1
    obtain ⟨m, e2⟩ := key e2
    rw [List.getElem?_set_ne n] at e3
    rw [List.getElem?_set_ne m] at e4
    exact h.sep j k a d e e1 e2 e3 e4
  · rcases set_get e2 with ⟨_, q⟩ | ⟨n, e3⟩
    · cases q; exact hn
    · rw [List.getElem?_set_ne n] at e1
      exact h.newR j b ts e1 e3
/-- a fresh list taken -/
theorem Own.take {K : PySem.W.Frag} {H0 H : Hp} {Z : List Addr} {c : Addr} {σ : L2.St} {env : Ev} {i : Nat} {a : Addr} {d : D} (h : Own H0 σ env) (r : REnv K H Z c σ env) (hn : H0 a = none) (hz : a ∉ Z) : Own H0 (σ.set i (some (.ref a))) (env.set i (.ow d)) := by
  have key : ∀ {j : Nat} {d' : D}, i ≠ j → (env.set i (.ow d))[j]? = some (.ow d') → env[j]? = some (.ow d') := fun {j d'} n e => by
    rw [List.getElem?_set_ne n] at e
    exact e
  have no : ∀ {j : Nat} {d' : D}, env[j]? = some (.ow d') → σ[j]? = some (some (.ref a)) → False := fun {j d'} e1 e2 => by
    obtain ⟨b, e, hb, _⟩ := r.at_ j _ _ e2 e1
    cases e
    exact hz hb
  refine ⟨fun j b d' e1 e2 => ?_, fun j k b d' e e1 e2 e3 e4 => ?_, fun j b ts e1 e2 => ?_⟩
  rotate_right
  · rcases set_get e2 with ⟨_, q⟩ | ⟨n, e3⟩
    · cases q; exact hn
    · rw [List.getElem?_set_ne n] at e1
      exact h.newR j b ts e1 e3
  · by_cases n : i = j
    · subst n
      rcases set_get e2 with ⟨_, e3⟩ | ⟨m, _⟩
      · cases e3; exact hn
      · exact absurd rfl m
    · rw [List.getElem?_set_ne n] at e2
      exact h.new j b d' (key n e1) e2
  · by_cases n : i = j
    · subst n
      rcases set_get e3 with ⟨_, e5⟩ | ⟨m, _⟩
      · cases e5
        by_cases n : i = k
        · exact n
        · rw [List.getElem?_set_ne n] at e4
          exact (no (key n e2) e4).elim
      · exact absurd rfl m
    · by_cases m : i = k
      · subst m
        rcases set_get e4 with ⟨_, e5⟩ | ⟨m, _⟩
        · cases e5
          rw [List.getElem?_set_ne n] at e3
          exact (no (key n e1) e3).elim
        · exact absurd rfl m
      · rw [List.getElem?_set_ne n] at e3
        rw [List.getElem?_set_ne m] at e4
        exact h.sep j k b d' e (key n e1) (key m e2) e3 e4
theorem REnv.set {K : PySem.W.Frag} {H : Hp} {Z : List Addr} {c : Addr} {σ : L2.St} {env : Ev} {i : Nat} {o : Option V} {s : Slot} (h : REnv K H Z c σ env) (r : RSlot K H Z c o s) : REnv K H Z c (σ.set i o) (env.set i s) := by
  refine ⟨by rw [List.length_set, List.length_set]; exact h.len, fun j p t e1 e2 => ?_⟩
  rcases set_get e1 with ⟨n, e3⟩ | ⟨n, e1⟩
  · subst n
    rcases set_get e2 with ⟨_, e4⟩ | ⟨n, _⟩
    · subst e3 e4; exact r
    · exact absurd rfl n
  · rw [List.getElem?_set_ne n] at e2
    exact h.at_ j p t e1 e2
/-- the heap grows, and what is owned with it -/
theorem RSlot.grow {K : PySem.W.Frag} {H H' : Hp} {Z Z' : List Addr} {c : Addr} {o : Option V} {s : Slot} (z : ZOk H Z) (cz : c ∈ Z) (k : Keep c H H') (hn : ∀ a ∈ Z', a ∈ Z ∨ H a = none) (sub : ∀ a ∈ Z, a ∈ Z') (h : RSlot K H Z c o s) : RSlot K H' Z' c o s := by
  have l : Later H Z H' Z' := ⟨fun a o e n => k a o e fun q => n (q ▸ cz), hn⟩
  cases s with
  | no => trivial
  | sh d =>
    obtain ⟨v, e, r⟩ := h
    exact ⟨v, e, Dv.later z l d v r⟩
  | ow d =>
    obtain ⟨a, e, ha, n, xs, ds, e2, h1, h2⟩ := h
    exact ⟨a, e, sub a ha, n, xs, ds, e2, k a _ h1 n, DvA.later z l _ _ h2⟩
  | cup => exact h
  | dI ns => obtain ⟨a, e, ha, n, r⟩ := h; exact ⟨a, e, sub a ha, n, k a _ r n⟩
  | dR rs => obtain ⟨a, L, e, ha, n, r, e2, q⟩ := h; exact ⟨a, L, e, sub a ha, n, k a _ r n, e2, fun p hp => SqT.later z l (q p hp)⟩
theorem REnv.grow {K : PySem.W.Frag} {H H' : Hp} {Z Z' : List Addr} {c : Addr} {σ : L2.St} {env : Ev} (z : ZOk H Z) (cz : c ∈ Z) (k : Keep c H H') (hn : ∀ a ∈ Z', a ∈ Z ∨ H a = none) (sub : ∀ a ∈ Z, a ∈ Z') (h : REnv K H Z c σ env) : REnv K H' Z' c σ env :=
  ⟨h.len, fun i o s e1 e2 => (h.at_ i o s e1 e2).grow z cz k hn sub⟩
/-! ### targets -/
abbrev TgF := D → Ev → Option Ev
abbrev TgFs := List D → Ev → Option Ev
def lG (K : PySem.W.Frag) (c : Addr) (is : List Nat) (m : TgF) : TG := fun v σ H Q => ∃ Z env d env', REnv K H Z c σ env ∧ Dv K H Z v d ∧ m d env = some env' ∧ ∀ σ', REnv K H Z c σ' env' → (∀ H0, Own H0 σ env → Own H0 σ' env') → (∀ vs, (∀ i ∈ is, i ∈ vs) → wipe σ' vs = wipe σ vs) → Q σ' H
def lGs (K : PySem.W.Frag) (c : Addr) (is : List Nat) (m : TgFs) : TGs := fun v σ H Q => ∃ Z env d env', REnv K H Z c σ env ∧ DvA K H Z v d ∧ m d env = some env' ∧ ∀ σ', REnv K H Z c σ' env' → (∀ H0, Own H0 σ env → Own H0 σ' env') → (∀ vs, (∀ i ∈ is, i ∈ vs) → wipe σ' vs = wipe σ vs) → Q σ' H
theorem pg_imp {X : Cx} {e : Expr} {t u : TG} (h : PG X e t) (i : ∀ v σ H Q, u v σ H Q → t v σ H Q) : PG X e u := ⟨fun pins s σ H v u Q I r q => h.run pins s σ H v u Q I r (i v σ H Q q)⟩
theorem pgs_imp {X : Cx} {e : List Expr} {t u : TGs} (h : PGs X e t) (i : ∀ v σ H Q, u v σ H Q → t v σ H Q) : PGs X e u := ⟨fun pins s σ H v u Q I r q => h.run pins s σ H v u Q I r (i v σ H Q q)⟩
theorem wipe_set {σ : L2.St} {o : Option V} : ∀ {vs : List Nat} {i : Nat}, i ∈ vs → wipe (σ.set i o) vs = wipe σ vs := by
  have key : ∀ {vs : List Nat} {i : Nat}, wipe (σ.set i o) vs = wipe σ vs ∨ wipe (σ.set i o) vs = (wipe σ vs).set i o := fun {vs i} => by
    induction vs with
    | nil => exact .inr rfl
    | cons v vs ih =>
      unfold wipe
      rcases ih with ih | ih
      · rw [ih]; exact .inl rfl
      · rw [ih]
        by_cases e : i = v
        · subst e; rw [List.set_set]; exact .inl rfl
        · rw [List.set_comm _ _ e]; exact .inr rfl
  intro vs i h
  induction vs with
  | nil => cases h
  | cons v vs ih =>
    unfold wipe
    by_cases e : i = v
    · subst e
      rcases key (vs := vs) (i := i) with k | k
      · rw [k]
      · rw [k, List.set_set]
    · rw [ih ((List.mem_cons.mp h).resolve_left e)]
def gNm (i : Nat) : TgF := fun d env => some (env.set i (.sh d))
def gNl : TgFs := fun ds env => match ds with
  | [] => some env
  | _ => none
def gCs (t : TgF) (u : TgFs) : TgFs := fun ds env => match ds with
  | d :: r => match t d env with
    | some e => u r e
    | none => none
  | [] => none
def gTp (t : TgFs) : TgF := fun d env => match d with
  | .tuple ds => t ds env
  | .list ds => t ds env
  | _ => none
section
variable {X : Cx} {c : Addr} {pos : Pos}
theorem g_nm {i : Nat} {x : Str} (hN : X.N.Nodup) (hi : X.N[i]? = some x) (hx : Loc X.env.scope x) (hf : X.fn x = true ∨ X.env.scope.names.lookup x = some .local) : PG X (.Name x pos) (lG X.K c [i] (gNm i)) :=
  pg_imp (pg_name hN hi hx hf) fun v σ H Q ⟨Z, env, d, env', re, rv, e, q⟩ => by
    cases e
    exact q _ (re.set ⟨v, rfl, rv⟩) (fun H0 o => o.set rfl) fun vs h => wipe_set (h i (by simp))
theorem g_nl : PGs X [] (lGs X.K c [] gNl) := pgs_imp pgs_nil fun v σ H Q ⟨Z, env, d, env', re, rv, e, q⟩ => by
  cases rv with
  | nil =>
    cases e
    exact ⟨rfl, q σ re (fun _ o => o) fun _ _ => rfl⟩
  | cons _ _ => cases e
theorem g_cs {e : Expr} {es : List Expr} {is js : List Nat} {t : TgF} {u : TgFs} (h1 : PG X e (lG X.K c is t)) (h2 : PGs X es (lGs X.K c js u)) (hs : (assignEach (e :: es) X.env).map (·.2) = assign e X.env :: (assignEach es X.env).map (·.2)) : PGs X (e :: es) (lGs X.K c (is ++ js) (gCs t u)) :=
  pgs_imp (pgs_cons h1 h2 hs) fun v σ H Q ⟨Z, env, d, env', re, rv, e, q⟩ => by
    cases rv with
    | nil => cases e
    | @cons v vs d ds r1 r2 =>
      unfold gCs at e
      split at e
      · rename_i d' r' ee
        cases ee
        split at e
        · rename_i e1 h
          refine ⟨v, vs, rfl, Z, env, d, e1, re, r1, h, fun σ1 re1 o1 w1 => ⟨Z, e1, ds, env', re1, r2, e, fun σ2 re2 o2 w2 => ?_⟩⟩
          exact q σ2 re2 (fun H0 o => o2 H0 (o1 H0 o)) fun vs h => (w2 vs fun i hi => h i (List.mem_append_right _ hi)).trans (w1 vs fun i hi => h i (List.mem_append_left _ hi))
        · cases e
      · cases e
theorem g_tp {es : List Expr} {k : Nat} {is : List Nat} {t : TgFs} {n : Nat} (hc : X.calm = true) (h : PGs X es (lGs X.K c is t)) (ht : ∀ ds env env', t ds env = some env' → ds.length = n)
    (hn : (assignEach es X.env).length = n) (hst : (assignEach es X.env).findIdx? (·.1) = none) : PG X (.Tuple es k pos) (lG X.K c is (gTp t)) :=
  pg_imp (t := fun v σ H Q => gTup X.K n (lGs X.K c is t) v σ H Q ∨ gUnl X.K n (lGs X.K c is t) v σ H Q) ⟨fun pins s σ H v u Q I r hw => by
    rcases hw with hw | hw
    · exact (pg_tup hc h hn hst).run pins s σ H v u Q I r hw
    · exact (pg_unl hc h hn hst).run pins s σ H v u Q I r hw⟩ fun v σ H Q ⟨Z, env, d, env', re, rv, e, q⟩ => by
    cases d with
    | tuple ds =>
      cases rv with
      | @tup a xs _ hq ha => exact .inl ⟨a, xs, rfl, hq, by rw [ha.length]; exact ht _ _ _ e, Z, env, ds, env', re, ha, e, q⟩
    | list ds =>
      cases rv with
      | @lst a xs _ hq nz ha => exact .inr ⟨a, xs, rfl, .inl (.inl hq), by rw [ha.length]; exact ht _ _ _ e, Z, env, ds, env', re, ha, e, q⟩
    | _ => cases e
end
theorem gCs_len {t : TgF} {u : TgFs} {n : Nat} (h : ∀ ds env env', u ds env = some env' → ds.length = n) : ∀ ds env env', gCs t u ds env = some env' → ds.length = n + 1 := fun ds env env' e => by
  unfold gCs at e
  split at e
  · rename_i d r
    split at e
    · rw [List.length_cons, h _ _ _ e]
    · cases e
  · cases e
theorem gNl_len : ∀ ds env env', gNl ds env = some env' → ds.length = 0 := fun ds env env' e => by
  cases ds with
  | nil => rfl
  | cons _ _ => cases e
/-! ### comprehensions -/
def stepL (f : D → M (Option D)) : List D → M (List D)
  | [] => M.ret []
  | d :: ds => M.bnd (f d) fun o => M.bnd (stepL f ds) fun r => M.ret (match o with
    | some x => x :: r
    | none => r)
def wipeE (env : Ev) : List Nat → Ev
  | [] => env
  | v :: vs => (wipeE env vs).set v .no
theorem renv_wipe {K : PySem.W.Frag} {H : Hp} {Z : List Addr} {c : Addr} {σ : L2.St} {env : Ev} (h : REnv K H Z c σ env) : ∀ vs : List Nat, REnv K H Z c (wipe σ vs) (wipeE env vs)
  | [] => h
  | v :: vs => (renv_wipe h vs).set trivial
def lcTurn (cf : CF) (e0 : Ev) (m : TgF) (ft fe : SE) : D → M (Option D) := fun d => match m d e0 with
  | some env' => M.bnd (ft cf env') fun b => match b with
    | .bool true => M.bnd (fe cf env') fun x => M.ret (some x)
    | .bool false => M.ret none
    | _ => M.of none
  | none => M.of none
def lcB (cf : CF) (env' : Ev) (ft fe : SE) : M (Option D) := M.bnd (ft cf env') fun b => match b with
    | .bool true => M.bnd (fe cf env') fun x => M.ret (some x)
    | .bool false => M.ret none
    | _ => M.of none
theorem lcTurn_some {cf : CF} {e0 : Ev} {m : TgF} {ft fe : SE} {d : D} {cs : Cs} {r : Option D × Cs} (h : lcTurn cf e0 m ft fe d cs = some r) : ∃ env', m d e0 = some env' ∧ lcB cf env' ft fe cs = some r := by
  unfold lcTurn at h
  cases e : m d e0 with
  | none => rw [e] at h; cases h
  | some env' => rw [e] at h; exact ⟨env', rfl, h⟩
def mLc (vs : List Nat) (fi : SI) (m : TgF) (ft fe : SE) : SE := fun cf env => M.bnd (fi cf env) fun ds => if ds.length ≤ line then M.bnd (stepL (lcTurn cf (wipeE env vs) m ft fe) ds) fun r => M.ret (.list r) else M.of none
theorem lt_yes {X : Cx} {c : Addr} {cf : CF} {σ : L2.St} {H : Hp} {Q : Bool → Hp → Prop} (h : lt X.K c (mLit (.bool true) cf) σ H Q) : tYes σ H Q := by
  obtain ⟨Z, env, cs, k, cs', p, e, q⟩ := h
  cases e
  exact q H .refl p.cell
theorem pts_imp {X : Cx} {e : List Expr} {t u : TT} (h : PTs X e t) (i : ∀ σ H Q, u σ H Q → t σ H Q) : PTs X e u := ⟨fun pins s σ H Q I q => h.run pins s σ H Q I (i σ H Q q)⟩
theorem tl_nil {X : Cx} {c : Addr} {cf : CF} : PTs X [] (lt X.K c (mLit (.bool true) cf)) := pts_imp pts_nil fun σ H Q h => lt_yes (X := X) h
section
variable {X : Cx} {c : Addr} {cf : CF}
theorem wipe_none {σ : L2.St} : ∀ {vs : List Nat} {w : Nat}, w ∈ vs → (wipe σ vs).set w none = wipe σ vs
  | [], w, h => by cases h
  | v :: vs, w, h => by
    unfold wipe
    by_cases e : w = v
    · subst e; rw [List.set_set]
    · rw [List.set_comm _ _ (Ne.symm e), wipe_none ((List.mem_cons.mp h).resolve_left e)]
theorem wipe_wipe {σ : L2.St} {vs : List Nat} : ∀ {ws : List Nat}, (∀ w ∈ ws, w ∈ vs) → wipe (wipe σ vs) ws = wipe σ vs
  | [], _ => rfl
  | w :: ws, h => by
    have ih := wipe_wipe (σ := σ) (vs := vs) (ws := ws) fun x hx => h x (List.mem_cons_of_mem _ hx)
    show (wipe (wipe σ vs) ws).set w none = _
    rw [ih, wipe_none (h w List.mem_cons_self)]
theorem lc_pre {K : PySem.W.Frag} {vs is : List Nat} {fi : SI} {m : TgF} {ft fe : SE} {σ : L2.St} {H : Hp} {Q : VK} (hv : ∀ i ∈ is, i ∈ vs)
    (h : ∃ Z env cs d cs', Pre K c H Z σ env cs ∧ mLc vs fi m ft fe cf env cs = some (d, cs') ∧ ∀ v H', Keep c H H' → Cell H' c cs' → Dv K H' Z v d → (∃ a, v = .ref a ∧ H a = none ∧ Ow K H' (a :: Z) a d) → Q v H') : tLc (lI K c (rK c) (fi cf)) (lG K c is m) (lt K c (ft cf)) (le K c (fe cf)) vs σ H Q := by
  obtain ⟨Z, env, cs, d, cs', p, e, q⟩ := h
  obtain ⟨ds, c1, e1, e⟩ := bnd_some e
  refine ⟨Z, env, cs, ds, c1, p, e1, fun J H1 k1 ce1 wk => fun Dd hD => ?_⟩
  split at e
  · rename_i hlen
    obtain ⟨r, c2, e2, e⟩ := bnd_some e
    cases ret_some e
    have p1 := p.step k1 ce1
    have kD : Keep c H1 (upd H1 Dd (.lst [])) := .upd hD
    have nDc : Dd ≠ c := fun q => by rw [q, ce1] at hD; cases hD
    refine ⟨fun i mm H' => mm = ds.length - i ∧ i ≤ ds.length ∧ ∃ csi acc xs rest, Keep c H1 H' ∧ Cell H' c csi ∧ H' Dd = some (.lst xs) ∧ DvA K H' (Dd :: Z) xs acc ∧ xs.length ≤ i ∧ stepL (lcTurn cf (wipeE env vs) m ft fe) (ds.drop i) csi = some (rest, cs') ∧ acc ++ rest = r, ?_, ?_⟩
    · exact ⟨ds.length, by simp, Nat.zero_le _, c1, [], [], r, kD, (upd_cell ce1 hD).trans ce1, upd_same, .nil, Nat.le_refl _, by simpa using e2, rfl⟩
    rintro i mm H' ⟨rfl, hi, csi, acc, xs, rest, kp, ce, hDd, hacc, hxs, hst, hr⟩
    have z' : ZOk H' (Dd :: Z) := fun a ha => by
      rcases List.mem_cons.mp ha with q | q
      · rw [q, hDd]; trivial
      · exact (p1.z.keep kp ce) a q
    have w := wk H' (Dd :: Z) ⟨kp, fun a ha => by
      rcases List.mem_cons.mp ha with q | q
      · rw [q]; exact .inr hD
      · exact .inl q⟩ z' (List.mem_cons_of_mem _ p.cz)
    by_cases hlt : i < ds.length
    · obtain ⟨d, hd⟩ : ∃ d, ds[i]? = some d := ⟨ds[i], List.getElem?_eq_getElem hlt⟩
      obtain ⟨go, yl⟩ := w.1 i d hd
      have hdrop : ds.drop i = d :: ds.drop (i + 1) := by
        rw [List.drop_eq_getElem_cons hlt]
        rw [List.getElem?_eq_getElem hlt] at hd
        rw [Option.some.inj hd]
      rw [hdrop] at hst
      obtain ⟨o, c3, e3, hst⟩ := bnd_some hst
      obtain ⟨r2, c4, e4, hst⟩ := bnd_some hst
      have e5 := ret_some hst
      refine .inr ⟨go, fun H' => ∃ csi acc xs rest, Keep c H1 H' ∧ Cell H' c csi ∧ H' Dd = some (.lst xs) ∧ DvA K H' (Dd :: Z) xs acc ∧ xs.length ≤ i + 1 ∧ stepL (lcTurn cf (wipeE env vs) m ft fe) (ds.drop (i + 1)) csi = some (rest, cs') ∧ acc ++ rest = r, fun H' h => ⟨ds.length - (i + 1), by omega, rfl, hlt, h⟩, fun x H'' y => ?_⟩
      obtain ⟨k2, ec2, rx⟩ := yl x H'' y
      have ce2 : Cell H'' c csi := ec2.trans ce
      have z2 : ZOk H'' (Dd :: Z) := z'.keep k2 ce2
      have nH : H Dd = none := by
        cases q : H Dd with
        | none => rfl
        | some o => rw [k1 Dd o q nDc] at hD; cases hD
      have re0 : REnv K H'' (Dd :: Z) c σ env := p.env.grow p.z p.cz (k1.trans (kp.trans k2)) (fun a ha => by
        rcases List.mem_cons.mp ha with q | q
        · rw [q]; exact .inr nH
        · exact .inl q) fun a ha => List.mem_cons_of_mem _ ha
      obtain ⟨env', hm, e3⟩ := lcTurn_some e3
      · refine ⟨Dd :: Z, wipeE env vs, d, env', renv_wipe re0 vs, rx, hm, fun σ2 re2 o2 w2 => ⟨?_, ?_⟩⟩
        · rw [w2 vs hv]
          exact wipe_wipe fun w hw => hw
        obtain ⟨b, c5, e6, e3⟩ := bnd_some e3
        have p2 : Pre K c H'' (Dd :: Z) σ2 env' csi := ⟨z2, List.mem_cons_of_mem _ p.cz, ce2, re2⟩
        cases b with
        | bool k =>
          refine ⟨Dd :: Z, env', csi, k, c5, p2, e6, fun H3 k3 ce3 => ?_⟩
          have p3 := p2.step k3 ce3
          have hD3 : H3 Dd = some (.lst xs) := k3 Dd _ (k2 Dd _ hDd nDc) nDc
          cases k with
          | true =>
            refine (if_pos rfl : (if true = true then _ else _) = _).mpr ?_
            obtain ⟨x', c6, e7, e3⟩ := bnd_some e3
            have e8 := ret_some e3
            cases e8
            refine ⟨Dd :: Z, env', c5, x', c3, p3, e7, fun y H4 k4 ce4 ry => ?_⟩
            have p4 := p3.step k4 ce4
            have hD4 : H4 Dd = some (.lst xs) := k4 Dd _ hD3 nDc
            have lq : line < sizeLine + 1 := by rw [line_eq]; exact Nat.lt_succ_self _
            refine ⟨xs, hD4, by omega, c3, acc ++ [x'], xs ++ [y], r2, fun a o q n => ?_, (upd_ne (Ne.symm nDc)).trans ce4, upd_same, ?_, ?_, ?_, ?_⟩
            · have na : a ≠ Dd := fun z => by rw [z] at q; rw [q] at hD; cases hD
              rw [upd_ne na]
              exact (kp.trans (k2.trans (k3.trans k4))) a o q n
            · have l : Later H4 (Dd :: Z) (upd H4 Dd (.lst (xs ++ [y]))) (Dd :: Z) := ⟨fun a o q n => by
                rw [upd_ne fun z => n (by rw [z]; exact List.mem_cons_self)]
                exact q, fun a h => .inl h⟩
              exact DvA.later p4.z l _ _ ((DvA.later z' ((k2.trans (k3.trans k4)).later (List.mem_cons_of_mem _ p.cz)) _ _ hacc).append (.cons ry .nil))
            · rw [List.length_append]
              exact Nat.succ_le_succ hxs
            · cases e5; exact e4
            · cases e5
              rw [← hr, List.append_assoc]
              rfl
          | false =>
            refine (if_neg Bool.false_ne_true : (if false = true then _ else _) = _).mpr ?_
            have e8 := ret_some e3
            cases e8
            cases e5
            exact ⟨c3, acc, xs, r2, kp.trans (k2.trans k3), ce3, hD3, DvA.later z' ((k2.trans k3).later (List.mem_cons_of_mem _ p.cz)) _ _ hacc, Nat.le_succ_of_le hxs, e4, hr⟩
        | _ => cases e3
    · have ei : i = ds.length := by omega
      subst ei
      refine .inl ⟨w.2, ?_⟩
      rw [List.drop_length] at hst
      have e5 := ret_some hst
      cases e5
      rw [List.append_nil] at hr
      subst hr
      refine q _ H' (k1.trans kp) ce (.lst hDd (fresh_z p1.z hD) ?_) ⟨Dd, rfl, ?_, xs, acc, rfl, hDd, hacc⟩
      · exact DvA.later z' ⟨fun a o q n => q, fun a ha => .inl (List.mem_cons_of_mem _ ha)⟩ _ _ hacc
      · cases q : H Dd with
        | none => rfl
        | some o => rw [k1 Dd o q nDc] at hD; cases hD
  · cases e
end
end Se
end
section
set_option Elab.async false
set_option linter.all false
set_option maxRecDepth 100000
set_option maxHeartbeats 4000000
namespace Se
open PySem PySem.Spec PyProof.Rows L2
section
variable {X : Cx} {c : Addr} {cf : CF}
theorem e_lc {elt tg iter : Expr} {ifs : List Expr} {scope : Scope} {own : List (Str × Nat)} {pos : Pos} {fi : SI} {is : List Nat} {m : TgF} {ft fe : SE} (hc : X.calm = true) (hN : X.N.Nodup) (hi : PI X tg iter (lI X.K c (rK c) (fi cf))) (ok : BlkOk X.N X.env.scope scope own) (hv : ∀ i ∈ is, i ∈ own.map (·.2))
    (hg : ∀ (s : Shared) (H : Hp) (C : Addr) (cl : List (Str × Addr)) (fp : List Addr), PG (X.blk s H scope (compEnvC scope cl C X.env) fp) tg (lG X.K c is m)) (ht : ∀ (s : Shared) (H : Hp) (C : Addr) (cl : List (Str × Addr)) (fp : List Addr), PTs (X.blk s H scope (compEnvC scope cl C X.env) fp) ifs (lt X.K c (ft cf)))
    (he : ∀ (s : Shared) (H : Hp) (C : Addr) (cl : List (Str × Addr)) (fp : List Addr), PE (X.blk s H scope (compEnvC scope cl C X.env) fp) elt (le X.K c (fe cf))) (hs : ∀ x, foldedSetIterable iter X.env x = pure x) :
    PE X (.ListComp elt [⟨tg, iter, ifs, 0⟩] scope pos) (le X.K c (mLc (own.map (·.2)) fi m ft fe cf)) :=
  pe_imp (pe_lc hc hN hi ok hg ht he hs) fun σ H Q ⟨Z, env, cs, d, cs', p, e, q⟩ => lc_pre hv ⟨Z, env, cs, d, cs', p, e, fun v H' k ce r _ => q v H' k ce r⟩
theorem tl_one {X : Cx} {e : Expr} {ft : SE} (h : PT X e (lt X.K c (ft cf))) : PTs X [e] (lt X.K c (ft cf)) := pts_one h
end
/-! ### statements -/
structure Sta (K : PySem.W.Frag) (c : Addr) (H0 : Hp) (Z0 : List Addr) (H : Hp) (Z : List Addr) (σ : L2.St) (env : Ev) (cs : Cs) : Prop where
  pre : Pre K c H Z σ env cs
  keep : Keep c H0 H
  sub : ∀ a ∈ Z0, a ∈ Z
  own : Own H0 σ env
def lS (K : PySem.W.Frag) (c : Addr) (H0 : Hp) (Z0 : List Addr) (f : Ev → M Flow) : TS := fun D σ H => ∃ Z env cs fl cs', Sta K c H0 Z0 H Z σ env cs ∧ f env cs = some (fl, cs') ∧
  (∀ e, fl = .next e → ∀ σ' H' Z', Sta K c H0 Z0 H' Z' σ' e cs' → Later H Z H' Z' → D.nx σ' H') ∧ (∀ d, fl = .ret d → ∀ v H', Keep c H0 H' → Cell H' c cs' → Dv K H' Z0 v d → D.rt v H')
def sSeq (a b : SS) : SS := fun cf env => M.bnd (a cf env) fun fl => match fl with
  | .next e => b cf e
  | .ret d => M.ret (.ret d)
def sNil : SS := fun _ env => M.ret (.next env)
def sNever : SS := fun _ _ => M.of none
def sRet (f : SE) : SS := fun cf env => M.bnd (f cf env) fun d => M.ret (.ret d)
def sDrop (f : SE) : SS := fun cf env => M.bnd (f cf env) fun _ => M.ret (.next env)
def sIf (ft : SE) (a b : SS) : SS := fun cf env => M.bnd (ft cf env) fun x => match x with
  | .bool true => a cf env
  | .bool false => b cf env
  | _ => M.of none
def forL (turn : D → Ev → M Flow) : List D → Ev → M Flow
  | [], e => M.ret (.next e)
  | d :: ds, e => M.bnd (turn d e) fun fl => match fl with
    | .next e' => forL turn ds e'
    | .ret x => M.ret (.ret x)
def forT (m : TgF) (a : SS) (cf : CF) : D → Ev → M Flow := fun d e => match m d e with
  | some e' => a cf e'
  | none => M.of none
def sFor (fi : SI) (m : TgF) (a : SS) : SS := fun cf env => M.bnd (fi cf env) fun ds => forL (forT m a cf) ds env
def whL (ft : Ev → M D) (a : Ev → M Flow) : Nat → Ev → M Flow
  | 0, _ => M.of none
  | n + 1, e => M.bnd (ft e) fun x => match x with
    | .bool true => M.bnd (a e) fun fl => match fl with
      | .next e' => whL ft a n e'
      | .ret d => M.ret (.ret d)
    | .bool false => M.ret (.next e)
    | _ => M.of none
def sWhile (n : Nat) (ft : SE) (a : SS) : SS := fun cf env => whL (ft cf) (a cf) n env
/-- owned lists shared -/
def shOf (is : List Nat) (env : Ev) : Ev := match is with
  | [] => env
  | i :: r => shOf r (match env[i]? with
    | some (.ow d) => env.set i (.sh d)
    | _ => env)
def sSh (is : List Nat) (a : SS) : SS := fun cf env => a cf (shOf is env)
section
variable {X : Cx} {c : Addr} {cf : CF} {H0 : Hp} {Z0 : List Addr} {st : Stmt} {rest body : List Stmt} {a b : SS} {f ft : SE} {e : Expr} {pos : Pos}
theorem Sta.keepE {K : PySem.W.Frag} {H H' : Hp} {Z : List Addr} {σ : L2.St} {env : Ev} {cs cs' : Cs} (s : Sta K c H0 Z0 H Z σ env cs) (k : Keep c H H') (ce : Cell H' c cs') : Sta K c H0 Z0 H' Z σ env cs' :=
  ⟨s.pre.step k ce, s.keep.trans k, s.sub, s.own⟩
theorem p_nil : PSs X [] (lS X.K c H0 Z0 (sNil cf)) := pss_imp pss_nil fun D σ H ⟨Z, env, cs, fl, cs', s, e, n, r⟩ => by
  cases ret_some e
  exact n env rfl σ H Z s .refl
theorem p_cons (h1 : PS X st (lS X.K c H0 Z0 (a cf))) (h2 : PSs X rest (lS X.K c H0 Z0 (b cf))) : PSs X (st :: rest) (lS X.K c H0 Z0 (sSeq a b cf)) := pss_imp (pss_cons h1 h2) fun D σ H ⟨Z, env, cs, fl, cs', s, e, n, r⟩ => by
  obtain ⟨f1, c1, e1, e⟩ := bnd_some e
  refine ⟨Z, env, cs, f1, c1, s, e1, fun e2 ee σ' H' Z' s' l => ?_, fun d ed v H' k ce rv => ?_⟩
  · subst ee
    exact ⟨Z', e2, c1, fl, cs', s', e, fun e3 h3 σ2 H2 Z2 s2 l2 => n e3 h3 σ2 H2 Z2 s2 (l.trans l2), r⟩
  · subst ed
    cases ret_some e
    exact r d rfl v H' k ce rv
theorem p_one (h1 : PS X st (lS X.K c H0 Z0 (a cf))) : PSs X [st] (lS X.K c H0 Z0 (a cf)) := pss_one h1
theorem p_never : PS X st (lS X.K c H0 Z0 (sNever cf)) := ps_imp ps_never fun D σ H ⟨Z, env, cs, fl, cs', s, e, n, r⟩ => by cases e
theorem p_ret (h : PE X e (le X.K c (f cf))) : PS X (.Return (some e) pos) (lS X.K c H0 Z0 (sRet f cf)) := ps_imp (ps_ret h) fun D σ H ⟨Z, env, cs, fl, cs', s, e, n, r⟩ => by
  obtain ⟨d, c1, e1, e⟩ := bnd_some e
  cases ret_some e
  refine ⟨Z, env, cs, d, _, s.pre, e1, fun v H' k ce rv => r d rfl v H' (s.keep.trans k) ce ?_⟩
  exact Dv.later (s.pre.z.keep k ce) ⟨fun a o h _ => h, fun a h => .inl (s.sub a h)⟩ d v rv
def sRetN : SS := fun _ _ => M.ret (.ret .none)
theorem p_retN : PS X (.Return none pos) (lS X.K c H0 Z0 (sRetN cf)) := ps_imp ps_retN fun D σ H ⟨Z, env, cs, fl, cs', s, e, n, r⟩ => by
  cases ret_some e
  exact r .none rfl _ H s.keep s.pre.cell .non
theorem p_drop (h : PE X e (le X.K c (f cf))) (hs : swapsWith e none pos.line X.env = pure false) : PS X (.Expr e pos) (lS X.K c H0 Z0 (sDrop f cf)) := ps_imp (ps_expr h hs) fun D σ H ⟨Z, env, cs, fl, cs', s, e, n, r⟩ => by
  obtain ⟨d, c1, e1, e⟩ := bnd_some e
  cases ret_some e
  exact ⟨Z, env, cs, d, _, s.pre, e1, fun v H' k ce rv => n env rfl σ H' Z (s.keepE k ce) (k.later s.pre.cz)⟩
theorem p_if (ht : PT X e (lt X.K c (ft cf))) (ha : PSs X body (lS X.K c H0 Z0 (a cf))) (hb : PSs X rest (lS X.K c H0 Z0 (b cf))) : PS X (.If e body rest pos) (lS X.K c H0 Z0 (sIf ft a b cf)) := ps_imp (ps_if ht ha hb) fun D σ H ⟨Z, env, cs, fl, cs', s, e, n, r⟩ => by
  obtain ⟨k, c1, e1, e⟩ := bnd_bool (k := fun k => if k = true then a cf env else b cf env) (fun x => by cases x with
    | bool k => cases k <;> rfl
    | _ => rfl) e
  refine ⟨Z, env, cs, k, c1, s.pre, e1, fun H1 k1 ce1 => ?_⟩
  have s1 := s.keepE k1 ce1
  have fin : ∀ g : Ev → M Flow, g env c1 = some (fl, cs') → lS X.K c H0 Z0 g D σ H1 := fun g eg => ⟨Z, env, c1, fl, cs', s1, eg, fun e2 h2 σ2 H2 Z2 s2 l2 => n e2 h2 σ2 H2 Z2 s2 ((k1.later s.pre.cz).trans l2), r⟩
  cases k with
  | true => exact fin _ e
  | false => exact fin _ e
theorem Sta.share {K : PySem.W.Frag} {H : Hp} {Z : List Addr} {σ : L2.St} {env : Ev} {cs : Cs} (z0 : ZOk H0 Z0) (s : Sta K c H0 Z0 H Z σ env cs) {i : Nat} {d : D} (hi : env[i]? = some (.ow d)) : ∃ Z', Sta K c H0 Z0 H Z' σ (env.set i (.sh d)) cs ∧ (∀ b ∈ Z', b ∈ Z) := by
  obtain ⟨o, e1, aa, rfl, ha, n, hl⟩ := s.pre.env.get hi
  have hi2 : (Z.filter fun b => decide (b ≠ aa)) = (Z.filter fun b => decide (b ≠ aa)) := rfl
  have mem : ∀ {x : Addr}, x ∈ (Z.filter fun b => decide (b ≠ aa)) ↔ x ∈ Z ∧ x ≠ aa := fun {x} => by simp [List.mem_filter]
  have l : Later H Z H (Z.filter fun b => decide (b ≠ aa)) := ⟨fun x o h _ => h, fun x h => .inl (mem.mp h).1⟩
  have h0 := s.own.new i aa d hi e1
  obtain ⟨xs, ds, e2, h1, h2⟩ := hl
  have rs : ∀ {j : Nat} {o : Option V} {t : Slot}, i ≠ j → σ[j]? = some o → env[j]? = some t → RSlot K H Z c o t → RSlot K H (Z.filter fun b => decide (b ≠ aa)) c o t := fun {j o t} nij ej et r => by
    cases t with
    | no => trivial
    | sh d' =>
      obtain ⟨v, e, r⟩ := r
      exact ⟨v, e, Dv.later s.pre.z l d' v r⟩
    | ow d' =>
      obtain ⟨b, e, hb, nb, ys, es, e3, g1, g2⟩ := r
      refine ⟨b, e, mem.mpr ⟨hb, fun z => ?_⟩, nb, ys, es, e3, g1, DvA.later s.pre.z l _ _ g2⟩
      subst z
      subst e
      exact nij (s.own.sep i j b d d' hi et e1 ej)
    | cup => exact r
    | dI ns => obtain ⟨b, e, hb, nb, g⟩ := r; exact ⟨b, e, mem.mpr ⟨hb, fun z => by rw [z, h1] at g; cases g⟩, nb, g⟩
    | dR rs => obtain ⟨b, L, e, hb, nb, g, e5, q⟩ := r; exact ⟨b, L, e, mem.mpr ⟨hb, fun z => by rw [z, h1] at g; cases g⟩, nb, g, e5, q⟩
  refine ⟨Z.filter fun b => decide (b ≠ aa), ⟨⟨fun b hb => s.pre.z b (mem.mp hb).1, mem.mpr ⟨s.pre.cz, fun z => n z.symm⟩, s.pre.cell, ⟨by rw [List.length_set]; exact s.pre.env.len, fun j o t e3 e4 => ?_⟩⟩, s.keep, fun x hx => mem.mpr ⟨s.sub x hx, fun z => ?_⟩, ?_⟩, fun b hb => (mem.mp hb).1⟩
  · rcases set_get e4 with ⟨nn, e5⟩ | ⟨nn, e5⟩
    · subst nn e5
      rw [e1] at e3
      cases e3
      subst e2
      exact ⟨.ref aa, rfl, .lst h1 (fun q => (mem.mp q).2 rfl) (DvA.later s.pre.z l _ _ h2)⟩
    · exact rs nn e3 e5 (s.pre.env.at_ j o t e3 e5)
  · have m := z0 x hx
    rw [z, h0] at m
    exact m
  · have q := s.own.set (i := i) (o := σ[i]'(lt_of_some e1)) (s := .sh d) rfl
    have e : σ.set i (σ[i]'(lt_of_some e1)) = σ := List.set_getElem_self _
    rw [e] at q
    exact q
theorem shares {K : PySem.W.Frag} (z0 : ZOk H0 Z0) {H : Hp} {σ : L2.St} {cs : Cs} : ∀ (is : List Nat) {Z : List Addr} {env : Ev}, Sta K c H0 Z0 H Z σ env cs → ∃ Z', Sta K c H0 Z0 H Z' σ (shOf is env) cs ∧ ∀ b ∈ Z', b ∈ Z
  | [], Z, env, s => ⟨Z, s, fun _ h => h⟩
  | i :: r, Z, env, s => by
    unfold shOf
    split
    · rename_i d e
      obtain ⟨Z1, s1, h1⟩ := s.share z0 e
      obtain ⟨Z2, s2, h2⟩ := shares z0 r s1
      exact ⟨Z2, s2, fun b hb => h1 b (h2 b hb)⟩
    · exact shares z0 r s
theorem sh_pre {K : PySem.W.Frag} {is : List Nat} (z0 : ZOk H0 Z0) {D : Ends} {σ : L2.St} {H : Hp} (h : lS K c H0 Z0 (sSh is a cf) D σ H) : lS K c H0 Z0 (a cf) D σ H := by
  obtain ⟨Z, env, cs, fl, cs', s, e, n, r⟩ := h
  obtain ⟨Z1, s1, h1⟩ := shares z0 is s
  refine ⟨Z1, _, cs, fl, cs', s1, e, fun e2 h2 σ2 H2 Z2 s2 l2 => n e2 h2 σ2 H2 Z2 s2 ⟨fun x o q nq => l2.1 x o q fun z => nq (h1 x z), fun x q => ?_⟩, r⟩
  rcases l2.2 x q with q | q
  · exact .inl (h1 x q)
  · exact .inr q
theorem p_sh {is : List Nat} (z0 : ZOk H0 Z0) (h : PS X st (lS X.K c H0 Z0 (a cf))) : PS X st (lS X.K c H0 Z0 (sSh is a cf)) := ps_imp h fun D σ H q => sh_pre z0 q
theorem p_for {tg iter : Expr} {fi : SI} {is : List Nat} {m : TgF} (hp : PassesOwn (model X.prog X.w) X.A X.env X.xe) (hc : X.calm = true) (hi : PI X tg iter (lI X.K c rL (fi cf))) (hg : PG X tg (lG X.K c is m)) (hb : PSs X body (lS X.K c H0 Z0 (a cf)))
    (hs : ∀ x, foldedSetIterable iter X.env x = pure x) : PS X (.For tg iter body [] pos) (lS X.K c H0 Z0 (sFor fi m a cf)) := ps_imp (ps_for hp hc hi hg hb hs) fun D σ H ⟨Z, env, cs, fl, cs', s, e, n, r⟩ => by
  obtain ⟨ds, c1, e1, e⟩ := bnd_some e
  refine ⟨Z, env, cs, ds, c1, s.pre, e1, fun J H1 k1 ce1 wk => ?_⟩
  have s1 := s.keepE k1 ce1
  refine ⟨fun i mm σ' H' => mm = ds.length - i ∧ i ≤ ds.length ∧ ∃ Z' e2 csi, Sta X.K c H0 Z0 H' Z' σ' e2 csi ∧ Later H1 Z H' Z' ∧ forL (forT m a cf) (ds.drop i) e2 csi = some (fl, cs'), ⟨ds.length, by simp, Nat.zero_le _, Z, env, c1, s1, .refl, by simpa using e⟩, ?_⟩
  rintro i mm σ' H' ⟨rfl, hi', Z', e2, csi, s2, l2, hf⟩
  have w := wk H' Z' l2 s2.pre.z s2.pre.cz
  by_cases hlt : i < ds.length
  · obtain ⟨d, hd⟩ : ∃ d, ds[i]? = some d := ⟨ds[i], List.getElem?_eq_getElem hlt⟩
    obtain ⟨go, yl⟩ := w.1 i d hd
    have hdrop : ds.drop i = d :: ds.drop (i + 1) := by
      rw [List.drop_eq_getElem_cons hlt]
      rw [List.getElem?_eq_getElem hlt] at hd
      rw [Option.some.inj hd]
    rw [hdrop] at hf
    obtain ⟨f1, c2, e3, hf⟩ := bnd_some hf
    obtain ⟨e4, hm, e3⟩ : ∃ e4, m d e2 = some e4 ∧ a cf e4 csi = some (f1, c2) := by
      unfold forT at e3
      cases q : m d e2 with
      | none => rw [q] at e3; cases e3
      | some e4 => rw [q] at e3; exact ⟨e4, rfl, e3⟩
    refine .inr ⟨go, fun σ3 H3 => ∃ Z3 e5 csi, Sta X.K c H0 Z0 H3 Z3 σ3 e5 csi ∧ Later H1 Z H3 Z3 ∧ forL (forT m a cf) (ds.drop (i + 1)) e5 csi = some (fl, cs'), fun σ3 H3 h => ⟨ds.length - (i + 1), by omega, rfl, hlt, h⟩, fun x H3 y => ?_⟩
    obtain ⟨k3, ec3, rx⟩ := yl x H3 y
    have s3 := s2.keepE k3 (ec3.trans s2.pre.cell)
    refine ⟨Z', e2, d, e4, s3.pre.env, rx, hm, fun σ4 re4 o4 _ => ?_⟩
    have s4 : Sta X.K c H0 Z0 H3 Z' σ4 e4 csi := ⟨⟨s3.pre.z, s3.pre.cz, s3.pre.cell, re4⟩, s3.keep, s3.sub, o4 H0 s3.own⟩
    refine ⟨Z', e4, csi, f1, c2, s4, e3, fun e5 h5 σ5 H5 Z5 s5 l5 => ?_, fun d5 h5 v5 H5 k5 ce5 r5 => ?_⟩
    · subst h5
      exact ⟨Z5, e5, c2, s5, l2.trans ((k3.later s2.pre.cz).trans l5), hf⟩
    · subst h5
      cases ret_some hf
      exact r d5 rfl v5 H5 k5 ce5 r5
  · have ei : i = ds.length := by omega
    subst ei
    rw [List.drop_length] at hf
    cases ret_some hf
    exact .inl ⟨w.2, n e2 rfl σ' H' Z' s2 ((k1.later s.pre.cz).trans l2)⟩
theorem p_while {n : Nat} (hp : PassesOwn (model X.prog X.w) X.A X.env X.xe) (ht : PT X e (lt X.K c (ft cf))) (hb : PSs X body (lS X.K c H0 Z0 (a cf))) : PS X (.While e body [] pos) (lS X.K c H0 Z0 (sWhile n ft a cf)) := ps_imp (ps_while hp ht hb) fun D σ H ⟨Z, env, cs, fl, cs', s, e, nx, r⟩ => by
  refine ⟨fun mm σ' H' => ∃ Z' e2 csi, Sta X.K c H0 Z0 H' Z' σ' e2 csi ∧ Later H Z H' Z' ∧ whL (ft cf) (a cf) mm e2 csi = some (fl, cs'), ⟨n, Z, env, cs, s, .refl, e⟩, ?_⟩
  rintro mm σ' H' ⟨Z', e2, csi, s2, l2, hw⟩
  cases mm with
  | zero => cases hw
  | succ mm =>
    obtain ⟨k, c1, e1, hw⟩ := bnd_bool (k := fun k => if k = true then M.bnd (a cf e2) (fun fl => match fl with
      | .next e' => whL (ft cf) (a cf) mm e'
      | .ret d => M.ret (.ret d)) else M.ret (.next e2)) (fun x => by cases x with
        | bool k => cases k <;> rfl
        | _ => rfl) hw
    refine ⟨Z', e2, csi, k, c1, s2.pre, e1, fun H1 k1 ce1 => ?_⟩
    have s3 := s2.keepE k1 ce1
    cases k with
    | true =>
      refine (if_pos rfl : (if true = true then _ else _) = _).mpr ?_
      obtain ⟨f1, c2, e3, hw⟩ := bnd_some hw
      refine ⟨fun σ3 H3 => ∃ Z3 e5 csi, Sta X.K c H0 Z0 H3 Z3 σ3 e5 csi ∧ Later H Z H3 Z3 ∧ whL (ft cf) (a cf) mm e5 csi = some (fl, cs'), fun σ3 H3 h => ⟨mm, Nat.lt_succ_self _, h⟩, ?_⟩
      refine ⟨Z', e2, c1, f1, c2, s3, e3, fun e5 h5 σ5 H5 Z5 s5 l5 => ?_, fun d5 h5 v5 H5 k5 ce5 r5 => ?_⟩
      · subst h5
        exact ⟨Z5, e5, c2, s5, l2.trans ((k1.later s2.pre.cz).trans l5), hw⟩
      · subst h5
        cases ret_some hw
        exact r d5 rfl v5 H5 k5 ce5 r5
    | false =>
      refine (if_neg Bool.false_ne_true : (if false = true then _ else _) = _).mpr ?_
      cases ret_some hw
      exact nx e2 rfl σ' H1 Z' s3 (l2.trans (k1.later s2.pre.cz))
end
end Se
end
section
set_option Elab.async false
set_option linter.all false
set_option maxRecDepth 100000
set_option maxHeartbeats 4000000
namespace Se
open PySem PySem.Spec PyProof.Rows L2
/-- what a name is to get -/
def RNew (K : PySem.W.Frag) (H H' : Hp) (Z : List Addr) (v : V) : Slot → Prop
  | .sh d => Dv K H' Z v d
  | .ow d => ∃ a, v = .ref a ∧ H a = none ∧ Ow K H' (a :: Z) a d
  | .dI ns => ∃ a, v = .ref a ∧ H a = none ∧ H' a = some (oI ns)
  | .dR rs => ∃ a L, v = .ref a ∧ H a = none ∧ H' a = some (oR a L) ∧ L.map (·.2) = rs ∧ ∀ p ∈ L, SqT K H' p.1 (p.2.map V.int)
  | _ => False
def lW (K : PySem.W.Frag) (c : Addr) (f : Ev → M Slot) : TE := fun σ H Q => ∃ Z env cs s cs', Pre K c H Z σ env cs ∧ f env cs = some (s, cs') ∧ ∀ v H', Keep c H H' → Cell H' c cs' → RNew K H H' Z v s → Q v H'
abbrev SW := CF → Ev → M Slot
def mSh (f : SE) : SW := fun cf env => M.bnd (f cf env) fun d => M.ret (.sh d)
def mOw (f : SE) : SW := fun cf env => M.bnd (f cf env) fun d => M.ret (.ow d)
def sSet (i : Nat) (f : SW) : SS := fun cf env => M.bnd (f cf env) fun s => M.ret (.next (env.set i s))
def sPar2 (i j : Nat) (f g : SW) : SS := fun cf env => M.bnd (f cf env) fun s => M.bnd (g cf env) fun t => M.ret (.next ((env.set i s).set j t))
def sPar3 (i j l : Nat) (f g h : SW) : SS := fun cf env => M.bnd (f cf env) fun s => M.bnd (g cf env) fun t => M.bnd (h cf env) fun u => M.ret (.next (((env.set i s).set j t).set l u))
def sAsg (f : SE) (m : TgF) : SS := fun cf env => M.bnd (f cf env) fun d => M.bnd (M.of (m d env)) fun e => M.ret (.next e)
def owL (i : Nat) (env : Ev) : Option (List D) := match env[i]? with
  | some (.ow (.list ds)) => some ds
  | _ => none
theorem owL_some {i : Nat} {env : Ev} {ds : List D} (h : owL i env = some ds) : env[i]? = some (.ow (.list ds)) := by
  unfold owL at h
  split at h
  · rename_i e; cases h; exact e
  · cases h
def appL (i : Nat) (d : D) (env : Ev) : Option Ev := match owL i env with
  | some ds => if ds.length < line then some (env.set i (.ow (.list (ds ++ [d])))) else none
  | none => none
def stoL (i : Nat) (d k : D) (env : Ev) : Option Ev := match owL i env, k with
  | some ds, .int n => (match ixN ds.length n with
    | some j => some (env.set i (.ow (.list (ds.set j d))))
    | none => none)
  | _, _ => none
def isCup (i : Nat) (env : Ev) : Bool := match env[i]? with
  | some .cup => true
  | _ => false
def cupL (i : Nat) (env : Ev) (d k : D) (cs : Cs) : Option Cs := match isCup i env, d, k with
  | true, .int x, .int n => (match ixN cs.length n with
    | some j => some (cs.set j x)
    | none => none)
  | _, _, _ => none
def cupG (i : Nat) (env : Ev) (k : D) (cs : Cs) : Option D := match isCup i env, k with
  | true, .int n => (match atI cs n with
    | some x => some (.int x)
    | none => none)
  | _, _ => none
theorem isCup_iff {i : Nat} {env : Ev} (h : isCup i env = true) : env[i]? = some .cup := by
  unfold isCup at h
  split at h
  · assumption
  · cases h
theorem appL_some {i : Nat} {d : D} {env e : Ev} (h : appL i d env = some e) : ∃ ds, owL i env = some ds ∧ ds.length < line ∧ e = env.set i (.ow (.list (ds ++ [d]))) := by
  unfold appL at h
  split at h
  · rename_i ds ho
    split at h
    · rename_i hl
      exact ⟨ds, ho, hl, (Option.some.inj h).symm⟩
    · cases h
  · cases h
theorem stoL_some {i : Nat} {d k : D} {env e : Ev} (h : stoL i d k env = some e) : ∃ ds n j, owL i env = some ds ∧ k = .int n ∧ ixN ds.length n = some j ∧ e = env.set i (.ow (.list (ds.set j d))) := by
  unfold stoL at h
  split at h
  · rename_i ds n ho
    split at h
    · rename_i j hj
      exact ⟨ds, n, j, ho, rfl, hj, (Option.some.inj h).symm⟩
    · cases h
  · cases h
theorem cupL_some {i : Nat} {d k : D} {env : Ev} {cs cs' : Cs} (h : cupL i env d k cs = some cs') : ∃ x n j, env[i]? = some .cup ∧ d = .int x ∧ k = .int n ∧ ixN cs.length n = some j ∧ cs' = cs.set j x := by
  unfold cupL at h
  split at h
  · rename_i x n ho
    split at h
    · rename_i j hj
      exact ⟨x, n, j, isCup_iff ho, rfl, rfl, hj, (Option.some.inj h).symm⟩
    · cases h
  · cases h
theorem cupG_some {i : Nat} {d k : D} {env : Ev} {cs : Cs} (h : cupG i env k cs = some d) : ∃ x n, env[i]? = some .cup ∧ k = .int n ∧ atI cs n = some x ∧ d = .int x := by
  unfold cupG at h
  split at h
  · rename_i n ho
    split at h
    · rename_i x hx
      exact ⟨x, n, isCup_iff ho, rfl, hx, (Option.some.inj h).symm⟩
    · cases h
  · cases h
def sApp (i : Nat) (f : SE) : SS := fun cf env => M.bnd (f cf env) fun d => M.bnd (M.of (appL i d env)) fun e => M.ret (.next e)
def sSto (i : Nat) (fi f : SE) : SS := fun cf env => M.bnd (f cf env) fun d => M.bnd (fi cf env) fun k => M.bnd (M.of (stoL i d k env)) fun e => M.ret (.next e)
def onCup {α : Type} (g : Cs → Option (α × Cs)) : M α := g
def sCup (i : Nat) (fi f : SE) : SS := fun cf env => M.bnd (f cf env) fun d => M.bnd (fi cf env) fun k => M.bnd (fun cs => match cupL i env d k cs with
  | some cs' => some ((), cs')
  | none => none) fun _ => M.ret (.next env)
def mCup (i : Nat) (fi : SE) : SE := fun cf env => M.bnd (fi cf env) fun k => fun cs => match cupG i env k cs with
  | some d => some (d, cs)
  | none => none
section
variable {X : Cx} {c : Addr} {cf : CF} {H0 : Hp} {Z0 : List Addr}
theorem rnew_c {K : PySem.W.Frag} {H H' : Hp} {Z : List Addr} {σ : L2.St} {env : Ev} {cs : Cs} (p : Pre K c H Z σ env cs) {a : Addr} (h : H a = none) : a ≠ c := fun e => by
  have q := p.cell
  unfold Cell at q
  rw [← e, h] at q
  cases q
/-- a name gets its value -/
theorem Sta.put {K : PySem.W.Frag} {H H' : Hp} {Z : List Addr} {σ : L2.St} {env : Ev} {cs cs' : Cs} {i : Nat} {v : V} {t : Slot} (s : Sta K c H0 Z0 H Z σ env cs) (k : Keep c H H') (ce : Cell H' c cs') (r : RNew K H H' Z v t) :
    ∃ Z', Sta K c H0 Z0 H' Z' (σ.set i (some v)) (env.set i t) cs' ∧ Later H Z H' Z' ∧ (∀ b ∈ Z, b ∈ Z') ∧ ∀ σ2 env2, REnv K H Z c σ2 env2 → Pre K c H' Z' σ2 env2 cs' := by
  cases t with
  | no => exact r.elim
  | cup => exact r.elim
  | sh d =>
    refine ⟨Z, ⟨⟨s.pre.z.keep k ce, s.pre.cz, ce, (s.pre.env.keep s.pre.z s.pre.cz k).set ⟨v, rfl, r⟩⟩, s.keep.trans k, s.sub, s.own.set rfl⟩, k.later s.pre.cz, fun _ h => h, fun σ2 env2 re => ⟨s.pre.z.keep k ce, s.pre.cz, ce, re.keep s.pre.z s.pre.cz k⟩⟩
  | ow d =>
    obtain ⟨a, rfl, ha, xs, ds, e, h1, h2⟩ := r
    have nac : a ≠ c := rnew_c (H' := H') s.pre ha
    have h0 : H0 a = none := by
      cases q : H0 a with
      | none => rfl
      | some o => rw [s.keep a o q nac] at ha; cases ha
    have z' : ZOk H' (a :: Z) := fun b hb => by
      rcases List.mem_cons.mp hb with q | q
      · rw [q, h1]; trivial
      · exact (s.pre.z.keep k ce) b q
    have hn : ∀ b ∈ a :: Z, b ∈ Z ∨ H b = none := fun b hb => by
      rcases List.mem_cons.mp hb with q | q
      · rw [q]; exact .inr ha
      · exact .inl q
    have gr : ∀ {σ2 : L2.St} {env2 : Ev}, REnv K H Z c σ2 env2 → REnv K H' (a :: Z) c σ2 env2 := fun re => re.grow s.pre.z s.pre.cz k hn fun b hb => List.mem_cons_of_mem _ hb
    exact ⟨a :: Z, ⟨⟨z', List.mem_cons_of_mem _ s.pre.cz, ce, (gr s.pre.env).set ⟨a, rfl, List.mem_cons_self, nac, xs, ds, e, h1, h2⟩⟩, s.keep.trans k, fun b hb => List.mem_cons_of_mem _ (s.sub b hb), s.own.take s.pre.env h0 (fresh_z s.pre.z ha)⟩,
      ⟨fun b o q n => k b o q fun z => n (z ▸ s.pre.cz), hn⟩, fun b hb => List.mem_cons_of_mem _ hb, fun σ2 env2 re => ⟨z', List.mem_cons_of_mem _ s.pre.cz, ce, gr re⟩⟩
  | dI xs =>
    obtain ⟨a, rfl, ha, h1⟩ := r
    have nac : a ≠ c := rnew_c (H' := H') s.pre ha
    have z' : ZOk H' (a :: Z) := fun b hb => by
      rcases List.mem_cons.mp hb with q | q
      · rw [q, h1]; trivial
      · exact (s.pre.z.keep k ce) b q
    have hn : ∀ b ∈ a :: Z, b ∈ Z ∨ H b = none := fun b hb => by
      rcases List.mem_cons.mp hb with q | q
      · rw [q]; exact .inr ha
      · exact .inl q
    have gr : ∀ {σ2 : L2.St} {env2 : Ev}, REnv K H Z c σ2 env2 → REnv K H' (a :: Z) c σ2 env2 := fun re => re.grow s.pre.z s.pre.cz k hn fun b hb => List.mem_cons_of_mem _ hb
    exact ⟨a :: Z, ⟨⟨z', List.mem_cons_of_mem _ s.pre.cz, ce, (gr s.pre.env).set ⟨a, rfl, List.mem_cons_self, nac, h1⟩⟩, s.keep.trans k, fun b hb => List.mem_cons_of_mem _ (s.sub b hb), s.own.set rfl⟩,
      ⟨fun b o q n => k b o q fun z => n (z ▸ s.pre.cz), hn⟩, fun b hb => List.mem_cons_of_mem _ hb, fun σ2 env2 re => ⟨z', List.mem_cons_of_mem _ s.pre.cz, ce, gr re⟩⟩
  | dR xs =>
    obtain ⟨a, L, rfl, ha, h1, e5, q5⟩ := r
    have nac : a ≠ c := rnew_c (H' := H') s.pre ha
    have h0 : H0 a = none := by
      cases q : H0 a with
      | none => rfl
      | some o => rw [s.keep a o q nac] at ha; cases ha
    have z' : ZOk H' (a :: Z) := fun b hb => by
      rcases List.mem_cons.mp hb with q | q
      · rw [q, h1]; trivial
      · exact (s.pre.z.keep k ce) b q
    have hn : ∀ b ∈ a :: Z, b ∈ Z ∨ H b = none := fun b hb => by
      rcases List.mem_cons.mp hb with q | q
      · rw [q]; exact .inr ha
      · exact .inl q
    have gr : ∀ {σ2 : L2.St} {env2 : Ev}, REnv K H Z c σ2 env2 → REnv K H' (a :: Z) c σ2 env2 := fun re => re.grow s.pre.z s.pre.cz k hn fun b hb => List.mem_cons_of_mem _ hb
    exact ⟨a :: Z, ⟨⟨z', List.mem_cons_of_mem _ s.pre.cz, ce, (gr s.pre.env).set ⟨a, L, rfl, List.mem_cons_self, nac, h1, e5, q5⟩⟩, s.keep.trans k, fun b hb => List.mem_cons_of_mem _ (s.sub b hb), s.own.takeR h0⟩,
      ⟨fun b o q n => k b o q fun z => n (z ▸ s.pre.cz), hn⟩, fun b hb => List.mem_cons_of_mem _ hb, fun σ2 env2 re => ⟨z', List.mem_cons_of_mem _ s.pre.cz, ce, gr re⟩⟩
theorem w_sh {e : Expr} {f : SE} (h : PE X e (le X.K c (f cf))) : PE X e (lW X.K c (mSh f cf)) := pe_imp h fun σ H Q ⟨Z, env, cs, t, cs', p, e, q⟩ => by
  obtain ⟨d, c1, e1, e⟩ := bnd_some e
  cases ret_some e
  exact ⟨Z, env, cs, d, _, p, e1, fun v H' k ce r => q v H' k ce r⟩
theorem w_lst {es : List Expr} {pos : Pos} {fs : SA D} (h : PA X es (lA (fun H Z => Dv X.K H Z) X.K c (fs cf))) (hs : Short (fs cf)) : PE X (.List es pos) (lW X.K c (mOw (mLst fs) cf)) := pe_imp (pe_lst h) fun σ H Q ⟨Z, env, cs, z, cs', p, e, q⟩ => by
  obtain ⟨d, c0, e0, e⟩ := bnd_some e
  obtain ⟨ds, c1, e1, e0⟩ := bnd_some e0
  cases ret_some e0
  cases ret_some e
  refine ⟨Z, env, cs, ds, _, p, e1, fun vs H1 k1 ce1 r1 => ⟨?_, fun t ht => ?_⟩⟩
  · rw [(paired_dva r1).length]
    exact hs _ _ _ _ e1
  · have kt : Keep c H1 (upd H1 t (.lst vs)) := .upd ht
    have p1 := p.step k1 ce1
    have ntc := rnew_c (H' := H1) p1 ht
    refine q _ _ (k1.trans kt) ((upd_cell ce1 ht).trans ce1) ⟨t, rfl, ?_, vs, ds, rfl, upd_same, DvA.later p1.z ⟨fun a o q n => kt a o q fun z => n (z ▸ p1.cz), fun a ha => ?_⟩ _ _ (paired_dva r1)⟩
    · cases q : H t with
      | none => rfl
      | some o => rw [k1 t o q ntc] at ht; cases ht
    · rcases List.mem_cons.mp ha with q | q
      · rw [q]; exact .inr ht
      · exact .inl q
theorem p_set {e : Expr} {f : SW} {i : Nat} {x : Str} {pos pos' : Pos} (hN : X.N.Nodup) (hi : X.N[i]? = some x) (hx : Loc X.env.scope x) (he : PE X e (lW X.K c (f cf))) (hs : swapsWith e (some (.Name x pos')) pos.line X.env = pure false) (hf : X.fn x = true ∨ X.env.scope.names.lookup x = some .local) :
    PS X (.Assign [.Name x pos'] e pos) (lS X.K c H0 Z0 (sSet i f cf)) := ps_imp (ps_set hN hi hx he hs hf) fun D σ H ⟨Z, env, cs, fl, cs', s, e, n, r⟩ => by
  obtain ⟨t, c1, e1, e⟩ := bnd_some e
  cases ret_some e
  refine ⟨Z, env, cs, t, _, s.pre, e1, fun v H' k ce rv => ?_⟩
  obtain ⟨Z', s', l, _, _⟩ := s.put (i := i) k ce rv
  exact n _ rfl _ H' Z' s' l
/-- the same for a list comprehension on the name's own line -/
theorem p_setLc {i : Nat} {y : Str} {py : Pos} {elt tg iter : Expr} {ifs : List Expr} {scope : Scope} {own : List (Str × Nat)} {pos spos : Pos} {fi : SI} {is : List Nat} {m : TgF} {ft fe : SE} (hc : X.calm = true) (hN : X.N.Nodup) (hy : X.N[i]? = some y) (hyl : X.env.scope.names.lookup y = some .local)
    (hsw : swapsWith (.ListComp elt [⟨tg, iter, ifs, 0⟩] scope pos) (some (.Name y py)) spos.line X.env = pure true) (hi : PI X tg iter (lI X.K c (rK c) (fi cf))) (ok : BlkOk X.N X.env.scope scope own) (hv : ∀ i ∈ is, i ∈ own.map (·.2))
    (hg : ∀ (s : Shared) (H : Hp) (C : Addr) (cl : List (Str × Addr)) (fp : List Addr), PG (X.blk s H scope (compEnvC scope cl C X.env) fp) tg (lG X.K c is m)) (ht : ∀ (s : Shared) (H : Hp) (C : Addr) (cl : List (Str × Addr)) (fp : List Addr), PTs (X.blk s H scope (compEnvC scope cl C X.env) fp) ifs (lt X.K c (ft cf)))
    (he : ∀ (s : Shared) (H : Hp) (C : Addr) (cl : List (Str × Addr)) (fp : List Addr), PE (X.blk s H scope (compEnvC scope cl C X.env) fp) elt (le X.K c (fe cf))) (hs : ∀ x, foldedSetIterable iter X.env x = pure x) :
    PS X (.Assign [.Name y py] (.ListComp elt [⟨tg, iter, ifs, 0⟩] scope pos) spos) (lS X.K c H0 Z0 (sSet i (mSh (mLc (own.map (·.2)) fi m ft fe)) cf)) :=
  ps_imp (ps_setLc hc hN hy hyl hsw hi ok hg ht he hs) fun D σ H ⟨Z, env, cs, fl, cs', s, e, n, r⟩ => by
    obtain ⟨t, c1, e1, e⟩ := bnd_some e
    obtain ⟨d, c2, e2, e1⟩ := bnd_some e1
    cases ret_some e1
    cases ret_some e
    refine lc_pre hv ⟨Z, env, cs, d, _, s.pre, e2, fun v H' k ce rv _ => ?_⟩
    obtain ⟨Z', s', l, _, _⟩ := s.put (t := .sh d) (i := i) k ce rv
    exact n _ rfl _ H' Z' s' l
theorem w_lc {elt tg iter : Expr} {ifs : List Expr} {scope : Scope} {own : List (Str × Nat)} {pos : Pos} {fi : SI} {is : List Nat} {m : TgF} {ft fe : SE} (hc : X.calm = true) (hN : X.N.Nodup) (hi : PI X tg iter (lI X.K c (rK c) (fi cf))) (ok : BlkOk X.N X.env.scope scope own) (hv : ∀ i ∈ is, i ∈ own.map (·.2))
    (hg : ∀ (s : Shared) (H : Hp) (C : Addr) (cl : List (Str × Addr)) (fp : List Addr), PG (X.blk s H scope (compEnvC scope cl C X.env) fp) tg (lG X.K c is m)) (ht : ∀ (s : Shared) (H : Hp) (C : Addr) (cl : List (Str × Addr)) (fp : List Addr), PTs (X.blk s H scope (compEnvC scope cl C X.env) fp) ifs (lt X.K c (ft cf)))
    (he : ∀ (s : Shared) (H : Hp) (C : Addr) (cl : List (Str × Addr)) (fp : List Addr), PE (X.blk s H scope (compEnvC scope cl C X.env) fp) elt (le X.K c (fe cf))) (hs : ∀ x, foldedSetIterable iter X.env x = pure x) :
    PE X (.ListComp elt [⟨tg, iter, ifs, 0⟩] scope pos) (lW X.K c (mOw (mLc (own.map (·.2)) fi m ft fe) cf)) := pe_imp (pe_lc hc hN hi ok hg ht he hs) fun σ H Q ⟨Z, env, cs, t, cs', p, e, q⟩ => by
  obtain ⟨d, c1, e1, e⟩ := bnd_some e
  cases ret_some e
  exact lc_pre hv ⟨Z, env, cs, d, _, p, e1, fun v H' k ce _ ro => q v H' k ce ro⟩
theorem p_setLcO {i : Nat} {y : Str} {py : Pos} {elt tg iter : Expr} {ifs : List Expr} {scope : Scope} {own : List (Str × Nat)} {pos spos : Pos} {fi : SI} {is : List Nat} {m : TgF} {ft fe : SE} (hc : X.calm = true) (hN : X.N.Nodup) (hy : X.N[i]? = some y) (hyl : X.env.scope.names.lookup y = some .local)
    (hsw : swapsWith (.ListComp elt [⟨tg, iter, ifs, 0⟩] scope pos) (some (.Name y py)) spos.line X.env = pure true) (hi : PI X tg iter (lI X.K c (rK c) (fi cf))) (ok : BlkOk X.N X.env.scope scope own) (hv : ∀ i ∈ is, i ∈ own.map (·.2))
    (hg : ∀ (s : Shared) (H : Hp) (C : Addr) (cl : List (Str × Addr)) (fp : List Addr), PG (X.blk s H scope (compEnvC scope cl C X.env) fp) tg (lG X.K c is m)) (ht : ∀ (s : Shared) (H : Hp) (C : Addr) (cl : List (Str × Addr)) (fp : List Addr), PTs (X.blk s H scope (compEnvC scope cl C X.env) fp) ifs (lt X.K c (ft cf)))
    (he : ∀ (s : Shared) (H : Hp) (C : Addr) (cl : List (Str × Addr)) (fp : List Addr), PE (X.blk s H scope (compEnvC scope cl C X.env) fp) elt (le X.K c (fe cf))) (hs : ∀ x, foldedSetIterable iter X.env x = pure x) :
    PS X (.Assign [.Name y py] (.ListComp elt [⟨tg, iter, ifs, 0⟩] scope pos) spos) (lS X.K c H0 Z0 (sSet i (mOw (mLc (own.map (·.2)) fi m ft fe)) cf)) :=
  ps_imp (ps_setLc hc hN hy hyl hsw hi ok hg ht he hs) fun D σ H ⟨Z, env, cs, fl, cs', s, e, n, r⟩ => by
    obtain ⟨t, c1, e1, e⟩ := bnd_some e
    obtain ⟨d, c2, e2, e1⟩ := bnd_some e1
    cases ret_some e1
    cases ret_some e
    refine lc_pre hv ⟨Z, env, cs, d, _, s.pre, e2, fun v H' k ce _ ro => ?_⟩
    obtain ⟨Z', s', l, _, _⟩ := s.put (t := .ow d) (i := i) k ce ro
    exact n _ rfl _ H' Z' s' l
theorem p_asg {tg e : Expr} {f : SE} {is : List Nat} {m : TgF} {pos : Pos} (he : PE X e (le X.K c (f cf))) (hg : PG X tg (lG X.K c is m)) (hs : swapsWithSole [tg] e pos.line X.env = pure false) (hw : swappedStores [tg] e X.env = pure none)
    (h1 : (assignEach [tg] X.env).map (·.2) = [assign tg X.env]) : PS X (.Assign [tg] e pos) (lS X.K c H0 Z0 (sAsg f m cf)) := ps_imp (ps_asg he hg hs hw h1) fun D σ H ⟨Z, env, cs, fl, cs', s, e, n, r⟩ => by
  obtain ⟨d, c1, e1, e⟩ := bnd_some e
  obtain ⟨e2, c2, e3, e⟩ := bnd_some e
  obtain ⟨e4, hm, e5⟩ := of_some e3
  cases e5
  cases ret_some e
  refine ⟨Z, env, cs, d, _, s.pre, e1, fun v H' k ce rv => ?_⟩
  have s1 := s.keepE k ce
  exact ⟨Z, env, d, e2, s1.pre.env, rv, hm, fun σ' re' o' _ => n _ rfl σ' H' Z ⟨⟨s1.pre.z, s1.pre.cz, s1.pre.cell, re'⟩, s1.keep, s1.sub, o' H0 s1.own⟩ (k.later s.pre.cz)⟩
theorem p_par2 {i j : Nat} {x y : Str} {a b : Expr} {f g : SW} {px py pt : Pos} {kt k2 : Nat} {pt2 pos : Pos} (hc : X.calm = true) (hN : X.N.Nodup) (hi : X.N[i]? = some x) (hj : X.N[j]? = some y) (hij : i ≠ j)
    (hx : X.env.scope.names.lookup x = some .local) (hy : X.env.scope.names.lookup y = some .local) (ha : PE X a (lW X.K c (f cf))) (hb : PE X b (lW X.K c (g cf)))
    (hw : swappedStores [.Tuple [.Name x px, .Name y py] kt pt] (.Tuple [a, b] k2 pt2) X.env = pure (some [x, y]))
    (hs : swapsWithSole [.Tuple [.Name x px, .Name y py] kt pt] (.Tuple [a, b] k2 pt2) pos.line X.env = pure false) (h1 : starEach [a, b] X.env = (false, eval a X.env) :: starEach [b] X.env) (h2 : starEach [b] X.env = (false, eval b X.env) :: starEach [] X.env) :
    PS X (.Assign [.Tuple [.Name x px, .Name y py] kt pt] (.Tuple [a, b] k2 pt2) pos) (lS X.K c H0 Z0 (sPar2 i j f g cf)) :=
  ps_imp (ps_par hc hN hi hj hij hx hy (pa_cons ha (pa_cons hb pa_nil h2) h1) hw hs) fun D σ H ⟨Z, env, cs, fl, cs', s, e, n, r⟩ => by
    obtain ⟨t, c1, e1, e⟩ := bnd_some e
    obtain ⟨u, c2, e2, e⟩ := bnd_some e
    cases ret_some e
    refine ⟨Z, env, cs, t, c1, s.pre, e1, fun v H1 k1 ce1 r1 => ?_⟩
    obtain ⟨Z1, s1, l1, _, p1⟩ := s.put (i := i) k1 ce1 r1
    refine ⟨Z1, env, c1, u, _, p1 σ env s.pre.env, e2, fun w H2 k2 ce2 r2 => ?_⟩
    obtain ⟨Z2, s2, l2, _, _⟩ := s1.put (i := j) k2 ce2 r2
    exact ⟨v, w, rfl, n _ rfl _ H2 Z2 s2 (l1.trans l2)⟩
theorem p_par3 {i j l : Nat} {x y z : Str} {a b d : Expr} {f g h : SW} {px py pz pt : Pos} {kt k2 : Nat} {pt2 pos : Pos} (hc : X.calm = true) (hN : X.N.Nodup) (hi : X.N[i]? = some x) (hj : X.N[j]? = some y) (hl : X.N[l]? = some z) (hij : i ≠ j) (hil : i ≠ l) (hjl : j ≠ l)
    (hx : X.env.scope.names.lookup x = some .local) (hy : X.env.scope.names.lookup y = some .local) (hz : X.env.scope.names.lookup z = some .local) (ha : PE X a (lW X.K c (f cf))) (hb : PE X b (lW X.K c (g cf))) (hd : PE X d (lW X.K c (h cf)))
    (hw : swappedStores [.Tuple [.Name x px, .Name y py, .Name z pz] kt pt] (.Tuple [a, b, d] k2 pt2) X.env = pure (some [x, y, z]))
    (hs : swapsWithSole [.Tuple [.Name x px, .Name y py, .Name z pz] kt pt] (.Tuple [a, b, d] k2 pt2) pos.line X.env = pure false) (h1 : starEach [a, b, d] X.env = (false, eval a X.env) :: starEach [b, d] X.env) (h2 : starEach [b, d] X.env = (false, eval b X.env) :: starEach [d] X.env) (h3 : starEach [d] X.env = (false, eval d X.env) :: starEach [] X.env) :
    PS X (.Assign [.Tuple [.Name x px, .Name y py, .Name z pz] kt pt] (.Tuple [a, b, d] k2 pt2) pos) (lS X.K c H0 Z0 (sPar3 i j l f g h cf)) :=
  ps_imp (ps_par3 hc hN hi hj hl hij hil hjl hx hy hz (pa_cons ha (pa_cons hb (pa_cons hd pa_nil h3) h2) h1) hw hs) fun D σ H ⟨Z, env, cs, fl, cs', s, e, n, r⟩ => by
    obtain ⟨t, c1, e1, e⟩ := bnd_some e
    obtain ⟨u, c2, e2, e⟩ := bnd_some e
    obtain ⟨u3, c3, e3, e⟩ := bnd_some e
    cases ret_some e
    refine ⟨Z, env, cs, t, c1, s.pre, e1, fun v H1 k1 ce1 r1 => ?_⟩
    obtain ⟨Z1, s1, l1, sb1, p1⟩ := s.put (i := i) k1 ce1 r1
    refine ⟨Z1, env, c1, u, _, p1 σ env s.pre.env, e2, fun w H2 k2 ce2 r2 => ?_⟩
    obtain ⟨Z2, s2, l2, _, p2⟩ := s1.put (i := j) k2 ce2 r2
    refine ⟨Z2, env, c2, u3, _, p2 σ env (p1 σ env s.pre.env).env, e3, fun y H3 k3 ce3 r3 => ?_⟩
    obtain ⟨Z3, s3, l3, _, _⟩ := s2.put (i := l) k3 ce3 r3
    exact ⟨v, w, y, rfl, n _ rfl _ H3 Z3 s3 (l1.trans (l2.trans l3))⟩
/-- an owned list gets new contents -/
theorem Sta.mut {K : PySem.W.Frag} {H : Hp} {Z : List Addr} {σ : L2.St} {env : Ev} {cs : Cs} {i : Nat} {a : Addr} {d : D} {xs : List V} {ds : List D} (s : Sta K c H0 Z0 H Z σ env cs) (hi : env[i]? = some (.ow d)) (ha : σ[i]? = some (some (.ref a))) (r : DvA K H Z xs ds) :
    Sta K c H0 Z0 (upd H a (.lst xs)) Z σ (env.set i (.ow (.list ds))) cs ∧ Later H Z (upd H a (.lst xs)) Z := by
  obtain ⟨a', e, haz, nac, ys, es, e2, h1, h2⟩ := s.pre.env.at_ i _ _ ha hi
  cases e
  have l : Later H Z (upd H a (.lst xs)) Z := ⟨fun b o q n => by
    rw [upd_ne fun z => n (by rw [z]; exact haz)]
    exact q, fun b h => .inl h⟩
  have h0 := s.own.new i a d hi ha
  refine ⟨⟨⟨fun b hb => ?_, s.pre.cz, (upd_ne (Ne.symm nac)).trans s.pre.cell, ⟨by rw [List.length_set]; exact s.pre.env.len, fun j o t e3 e4 => ?_⟩⟩, fun b o q n => ?_, s.sub, ⟨fun j b d' e3 e4 => ?_, fun j k b d' d'' e3 e4 e5 e6 => ?_, fun j b ts e3 e4 => ?_⟩⟩, l⟩
  · by_cases q : b = a
    · rw [q, upd_same]; trivial
    · rw [upd_ne q]; exact s.pre.z b hb
  · rcases set_get e4 with ⟨nn, e5⟩ | ⟨nn, e5⟩
    · subst nn e5
      rw [ha] at e3
      cases e3
      exact ⟨a, rfl, haz, nac, xs, ds, rfl, upd_same, DvA.later s.pre.z l _ _ r⟩
    · have q := s.pre.env.at_ j o t e3 e5
      cases t with
      | no => trivial
      | sh d' =>
        obtain ⟨v, e, q⟩ := q
        exact ⟨v, e, Dv.later s.pre.z l d' v q⟩
      | ow d' =>
        obtain ⟨b, e, hb, nb, zs, fs, e6, g1, g2⟩ := q
        refine ⟨b, e, hb, nb, zs, fs, e6, ?_, DvA.later s.pre.z l _ _ g2⟩
        rw [upd_ne fun z => ?_]
        · exact g1
        · subst z
          subst e
          exact nn (s.own.sep i j b d d' hi e5 ha e3)
      | cup => exact q
      | dI ns => obtain ⟨b, e, hb, nb, g⟩ := q; exact ⟨b, e, hb, nb, by rw [upd_ne fun z => by rw [z, h1] at g; cases g]; exact g⟩
      | dR rs => obtain ⟨b, L, e, hb, nb, g, e5, q5⟩ := q; exact ⟨b, L, e, hb, nb, by rw [upd_ne fun z => by rw [z, h1] at g; cases g]; exact g, e5, fun p hp => SqT.later s.pre.z l (q5 p hp)⟩
  · have na : b ≠ a := fun z => by rw [z, h0] at q; cases q
    rw [upd_ne na]
    exact s.keep b o q n
  · rcases set_get e3 with ⟨nn, e5⟩ | ⟨nn, e5⟩
    · subst nn
      exact s.own.new i b d hi e4
    · exact s.own.new j b d' e5 e4
  · have hj : ∃ g, env[j]? = some (.ow g) := by
      rcases set_get e3 with ⟨nn, _⟩ | ⟨_, e7⟩
      · subst nn; exact ⟨d, hi⟩
      · exact ⟨d', e7⟩
    have hk : ∃ g, env[k]? = some (.ow g) := by
      rcases set_get e4 with ⟨nn, _⟩ | ⟨_, e7⟩
      · subst nn; exact ⟨d, hi⟩
      · exact ⟨d'', e7⟩
    obtain ⟨g1, hj⟩ := hj
    obtain ⟨g2, hk⟩ := hk
    exact s.own.sep j k b g1 g2 hj hk e5 e6
  · rcases set_get e3 with ⟨_, q⟩ | ⟨_, e5⟩
    · cases q
    · exact s.own.newR j b ts e5 e4
theorem Sta.cup {K : PySem.W.Frag} {H : Hp} {Z : List Addr} {σ : L2.St} {env : Ev} {cs cs' : Cs} (s : Sta K c H0 Z0 H Z σ env cs) : Sta K c H0 Z0 (upd H c (.lst (cs'.map V.int))) Z σ env cs' ∧ Later H Z (upd H c (.lst (cs'.map V.int))) Z := by
  have k : Keep c H (upd H c (.lst (cs'.map V.int))) := fun b o q n => by
    rw [upd_ne n]
    exact q
  exact ⟨s.keepE k upd_same, k.later s.pre.cz⟩
theorem owned_at {K : PySem.W.Frag} {H : Hp} {Z : List Addr} {σ : L2.St} {env : Ev} {cs : Cs} {i : Nat} {ds : List D} (p : Pre K c H Z σ env cs) (h : owL i env = some ds) : env[i]? = some (.ow (.list ds)) ∧ ∃ a xs, σ[i]? = some (some (.ref a)) ∧ a ≠ c ∧ H a = some (.lst xs) ∧ DvA K H Z xs ds := by
  have h := owL_some h
  obtain ⟨o, e1, a, rfl, ha, n, xs, es, e2, h1, h2⟩ := p.env.get h
  cases e2
  exact ⟨h, a, xs, e1, n, h1, h2⟩
theorem p_app {e : Expr} {f : SE} {i : Nat} {x : Str} {pos apos cpos npos : Pos} (hN : X.N[i]? = some x) (hv : Vis X.env.scope x) (hd : (x == ("__debug__" : Str)) = false) (hcd : (x == ("__classdict__" : Str)) = false) (he : PE X e (le X.K c (f cf)))
    (h1 : starEach [e] X.env = (false, eval e X.env) :: starEach [] X.env) (hbase : attributeBase (.Name x npos) "append" X.env (eval (.Name x npos) X.env) = eval (.Name x npos) X.env)
    (hfew : ((backTo cpos (starEach [e] X.env)).all (fun x => !x.1) && (backToKw cpos (keywordEach [] X.env)).all (fun x => x.1.isSome)
      && decide ([e].length + ([] : List Keyword).length + (if ([] : List Keyword).isEmpty then 0 else 1) < 30)) = true)
    (hline : (apos.endLine == cpos.line) = true) (hplain : (backTo cpos (starEach [] X.env)).any (·.1) = false) (hs : swapsWith (.Call (.Attribute (.Name x npos) "append" apos) [e] [] cpos) none pos.line X.env = pure false) :
    PS X (.Expr (.Call (.Attribute (.Name x npos) "append" apos) [e] [] cpos) pos) (lS X.K c H0 Z0 (sApp i f cf)) :=
  ps_imp (ps_expr (pe_bm PySem.F.plainAttrs_list PySem.F.slot_list_append PySem.F.type_list_append mt_append (pe_var hN hv hd hcd) (pa_cons he pa_nil h1) hbase hfew hline h1 hplain) hs) fun D σ H ⟨Z, env, cs, fl, cs', s, e, n, r⟩ => by
    obtain ⟨d, c1, e1, e⟩ := bnd_some e
    obtain ⟨e2, c2, e3, e⟩ := bnd_some e
    obtain ⟨e4, hm, e5⟩ := of_some e3
    cases e5
    cases ret_some e
    obtain ⟨ds, ho, hl, rfl⟩ := appL_some hm
    obtain ⟨hi, a, xs, ha, nac, hA, hD⟩ := owned_at s.pre ho
    refine ⟨.ref a, ha, .inl ⟨rfl, xs, .inl (.inl hA)⟩, Z, env, cs, d, _, s.pre, e1, fun v H' k ce rv => ?_⟩
    have s1 := s.keepE k ce
    have hA' := k a _ hA nac
    have hD' := s.pre.dva k hD
    obtain ⟨s2, l2⟩ := s1.mut hi ha (hD'.append (.cons rv .nil))
    exact ⟨a, xs, v, rfl, rfl, hA', by rw [hD.length, line_eq]; exact hl, n _ rfl σ _ Z s2 ((k.later s.pre.cz).trans l2)⟩
theorem p_sto {ei e : Expr} {f fi : SE} {i : Nat} {x : Str} {pos npos tpos : Pos} (hN : X.N[i]? = some x) (hv : Vis X.env.scope x) (hd : (x == ("__debug__" : Str)) = false) (hcd : (x == ("__classdict__" : Str)) = false) (hi : PE X ei (le X.K c (fi cf))) (he : PE X e (le X.K c (f cf)))
    (ha : ∀ v, assign (.Subscript (.Name x npos) ei tpos) X.env v = (do
      let ov ← holding [v] (eval (.Name x npos) X.env)
      let iv ← holding [v, ov] (eval ei X.env)
      standAt tpos
      holding [v, ov, iv] (setItem ov iv v)
      release [v, ov, iv] []))
    (hs : swapsWithSole [.Subscript (.Name x npos) ei tpos] e pos.line X.env = pure false) (hw : swappedStores [.Subscript (.Name x npos) ei tpos] e X.env = pure none)
    (h1 : (assignEach [.Subscript (.Name x npos) ei tpos] X.env).map (·.2) = [assign (.Subscript (.Name x npos) ei tpos) X.env]) :
    PS X (.Assign [.Subscript (.Name x npos) ei tpos] e pos) (lS X.K c H0 Z0 (sSto i fi f cf)) :=
  ps_imp (ps_asg he (pg_sub (pe_var hN hv hd hcd) hi set_list ha) hs hw h1) fun D σ H ⟨Z, env, cs, fl, cs', s, e, n, r⟩ => by
    obtain ⟨d, c1, e1, e⟩ := bnd_some e
    obtain ⟨k, c2, e2, e⟩ := bnd_some e
    obtain ⟨e3, c3, e4, e⟩ := bnd_some e
    obtain ⟨e5, hm, e6⟩ := of_some e4
    cases e6
    cases ret_some e
    obtain ⟨ds, m, j, ho, rfl, hj, rfl⟩ := stoL_some hm
    refine ⟨Z, env, cs, d, c1, s.pre, e1, fun v H1 k1 ce1 rv => ?_⟩
    have s1 := s.keepE k1 ce1
    obtain ⟨hi, a, xs, ha, nac, hA, hD⟩ := owned_at s1.pre ho
    refine ⟨.ref a, ha, Z, env, c1, _, _, s1.pre, e2, fun u H2 k2 ce2 ru => ?_⟩
    have s2 := s1.keepE k2 ce2
    cases ru
    obtain ⟨s3, l3⟩ := s2.mut hi ha ((s1.pre.dva k2 hD).set j (s1.pre.dv k2 rv))
    exact ⟨a, xs, m, j, rfl, rfl, k2 a _ hA nac, by rw [hD.length]; exact hj, n _ rfl σ _ Z s3 ((k1.later s.pre.cz).trans ((k2.later s1.pre.cz).trans l3))⟩
theorem p_cup {ei e : Expr} {f fi : SE} {i : Nat} {x : Str} {pos npos tpos : Pos} (hN : X.N[i]? = some x) (hv : Vis X.env.scope x) (hd : (x == ("__debug__" : Str)) = false) (hcd : (x == ("__classdict__" : Str)) = false) (hi : PE X ei (le X.K c (fi cf))) (he : PE X e (le X.K c (f cf)))
    (ha : ∀ v, assign (.Subscript (.Name x npos) ei tpos) X.env v = (do
      let ov ← holding [v] (eval (.Name x npos) X.env)
      let iv ← holding [v, ov] (eval ei X.env)
      standAt tpos
      holding [v, ov, iv] (setItem ov iv v)
      release [v, ov, iv] []))
    (hs : swapsWithSole [.Subscript (.Name x npos) ei tpos] e pos.line X.env = pure false) (hw : swappedStores [.Subscript (.Name x npos) ei tpos] e X.env = pure none)
    (h1 : (assignEach [.Subscript (.Name x npos) ei tpos] X.env).map (·.2) = [assign (.Subscript (.Name x npos) ei tpos) X.env]) :
    PS X (.Assign [.Subscript (.Name x npos) ei tpos] e pos) (lS X.K c H0 Z0 (sCup i fi f cf)) :=
  ps_imp (ps_asg he (pg_sub (pe_var hN hv hd hcd) hi set_list ha) hs hw h1) fun D σ H ⟨Z, env, cs, fl, cs', s, e, n, r⟩ => by
    obtain ⟨d, c1, e1, e⟩ := bnd_some e
    obtain ⟨k, c2, e2, e⟩ := bnd_some e
    obtain ⟨u0, c3, e4, e⟩ := bnd_some e
    cases ret_some e
    obtain ⟨cs3, hm, e6⟩ : ∃ cs3, cupL i env d k c2 = some cs3 ∧ cs' = cs3 := by
      cases q : cupL i env d k c2 with
      | none => rw [q] at e4; cases e4
      | some cs3 => rw [q] at e4; cases e4; exact ⟨_, rfl, rfl⟩
    subst e6
    obtain ⟨y, m, j, ho, rfl, rfl, hj, rfl⟩ := cupL_some hm
    refine ⟨Z, env, cs, _, c1, s.pre, e1, fun v H1 k1 ce1 rv => ?_⟩
    have s1 := s.keepE k1 ce1
    obtain ⟨o, ec, rc⟩ := s1.pre.env.get ho
    have rc' : o = some (.ref c) := rc
    subst rc'
    refine ⟨.ref c, ec, Z, env, c1, _, _, s1.pre, e2, fun u H2 k2 ce2 ru => ?_⟩
    have s2 := s1.keepE k2 ce2
    cases ru
    cases rv
    obtain ⟨s3, l3⟩ := s2.cup (cs' := c2.set j y)
    refine ⟨c, c2.map V.int, m, j, rfl, rfl, ce2, by rw [List.length_map]; exact hj, ?_⟩
    have em : (c2.map V.int).set j (.int y) = (c2.set j y).map V.int := (List.map_set).symm
    rw [em]
    exact n _ rfl σ _ Z s3 ((k1.later s.pre.cz).trans ((k2.later s1.pre.cz).trans l3))
theorem e_cup {ei : Expr} {fi : SE} {i : Nat} {x : Str} {pos npos : Pos} (hN : X.N[i]? = some x) (hv : Vis X.env.scope x) (hd : (x == ("__debug__" : Str)) = false) (hcd : (x == ("__classdict__" : Str)) = false) (hi : PE X ei (le X.K c (fi cf))) (hs : PlainIx ei) : PE X (.Subscript (.Name x npos) ei pos) (le X.K c (mCup i fi cf)) :=
  pe_imp (pe_ix ix_list (pe_var hN hv hd hcd) hi hs) fun σ H Q ⟨Z, env, cs, z, cs', p, e, q⟩ => by
    obtain ⟨k, c2, e2, e⟩ := bnd_some e
    obtain ⟨d, hm, e6⟩ : ∃ d, cupG i env k c2 = some d ∧ (z, cs') = (d, c2) := by
      cases q : cupG i env k c2 with
      | none => rw [q] at e; cases e
      | some d => rw [q] at e; cases e; exact ⟨_, rfl, rfl⟩
    cases e6
    obtain ⟨y, m, ho, rfl, hy, rfl⟩ := cupG_some hm
    obtain ⟨o, ec, rc⟩ := p.env.get ho
    have rc' : o = some (.ref c) := rc
    subst rc'
    refine ⟨.ref c, ec, Z, env, cs, _, _, p, e2, fun u H2 k2 ce2 ru => ?_⟩
    cases ru
    refine ⟨c, _, m, .int y, rfl, rfl, .inl (.inl ce2), ?_, q _ H2 k2 ce2 (.int y)⟩
    unfold atI at hy ⊢
    rw [List.length_map]
    cases q : ixN cs'.length m with
    | none => rw [q] at hy; cases hy
    | some j =>
      rw [q] at hy
      show (List.map V.int _)[j]? = _
      rw [List.getElem?_map]
      have hy' : cs'[j]? = some y := hy
      rw [hy']
      rfl
end
end Se
end
section
set_option Elab.async false
set_option linter.all false
set_option maxRecDepth 100000
set_option maxHeartbeats 4000000
namespace Se
open PySem PySem.Spec PyProof.Rows L2
/-! ### built-ins by values -/
def gLen (ds : List D) : Option D := match ds with
  | [d] => match sqL d with
    | some xs => some (.int xs.length)
    | none => none
  | _ => none
def gAbs (ds : List D) : Option D := match ds with
  | [.int i] => some (.int (if i < 0 then -i else i))
  | _ => none
def gInt (ds : List D) : Option D := match ds with
  | [.int i] => some (.int i)
  | [.bool b] => some (.int (if b then 1 else 0))
  | _ => none
def maxL : List Int → Int
  | [] => 0
  | [x] => x
  | x :: y :: r => if maxL (y :: r) > x then maxL (y :: r) else x
def minL : List Int → Int
  | [] => 0
  | [x] => x
  | x :: y :: r => if minL (y :: r) < x then minL (y :: r) else x
theorem maxL_mem : ∀ {ns : List Int}, ns ≠ [] → maxL ns ∈ ns ∧ ∀ y ∈ ns, y ≤ maxL ns
  | [], h => absurd rfl h
  | [x], _ => ⟨by simp [maxL], by simp [maxL]⟩
  | x :: y :: r, _ => by
    obtain ⟨h1, h2⟩ := maxL_mem (ns := y :: r) (by simp)
    unfold maxL
    split
    · rename_i h
      refine ⟨List.mem_cons_of_mem _ h1, fun z hz => ?_⟩
      rcases List.mem_cons.mp hz with q | q
      · omega
      · exact h2 z q
    · rename_i h
      refine ⟨List.mem_cons_self, fun z hz => ?_⟩
      rcases List.mem_cons.mp hz with q | q
      · omega
      · have := h2 z q; omega
theorem minL_mem : ∀ {ns : List Int}, ns ≠ [] → minL ns ∈ ns ∧ ∀ y ∈ ns, minL ns ≤ y
  | [], h => absurd rfl h
  | [x], _ => ⟨by simp [minL], by simp [minL]⟩
  | x :: y :: r, _ => by
    obtain ⟨h1, h2⟩ := minL_mem (ns := y :: r) (by simp)
    unfold minL
    split
    · rename_i h
      refine ⟨List.mem_cons_of_mem _ h1, fun z hz => ?_⟩
      rcases List.mem_cons.mp hz with q | q
      · omega
      · exact h2 z q
    · rename_i h
      refine ⟨List.mem_cons_self, fun z hz => ?_⟩
      rcases List.mem_cons.mp hz with q | q
      · omega
      · have := h2 z q; omega
def gMax (ds : List D) : Option D := match ds with
  | [.int i, .int j] => some (.int (if j > i then j else i))
  | [.list es] => match asInts es with
    | some (n :: ns) => some (.int (maxL (n :: ns)))
    | _ => none
  | _ => none
def gMin (ds : List D) : Option D := match ds with
  | [.int i, .int j] => some (.int (if j < i then j else i))
  | [.list es] => match asInts es with
    | some (n :: ns) => some (.int (minL (n :: ns)))
    | _ => none
  | _ => none
def gSum (ds : List D) : Option D := match ds with
  | [.list es] => match asInts es with
    | some ns => some (.int ns.sum)
    | _ => none
  | _ => none
def gAll (ds : List D) : Option D := match ds with
  | [.list es] => match asBools es with
    | some bs => some (.bool (bs.all id))
    | _ => none
  | _ => none
def gAny (ds : List D) : Option D := match ds with
  | [.list es] => match asBools es with
    | some bs => some (.bool (bs.any id))
    | _ => none
  | [.tuple es] => match asInts es with
    | some ns => some (.bool (ns.any fun n => n != 0))
    | _ => none
  | _ => none
def gTuple (ds : List D) : Option D := match ds with
  | [d] => match sqL d with
    | some xs => some (.tuple xs)
    | none => none
  | _ => none
def gList (ds : List D) : Option D := match ds with
  | [d] => match sqL d with
    | some xs => some (.list xs)
    | none => none
  | _ => none
def gGcd (ds : List D) : Option D := match ds with
  | [.int a, .int b] => some (.int ((Nat.gcd a.natAbs b.natAbs : Nat) : Int))
  | _ => none
/-- Newton's steps, checked at the end -/
def isqGo : Nat → Nat → Nat → Nat
  | 0, _, x => x
  | f + 1, n, x => if (x + n / x) / 2 < x then isqGo f n ((x + n / x) / 2) else x
def isq (n : Nat) : Nat := if n < 2 then n else isqGo 200 n (2 ^ (n.log2 / 2 + 1))
def gIsqrt (ds : List D) : Option D := match ds with
  | [.int a] => if 0 ≤ a ∧ a < 18446744073709551616 ∧ isq a.toNat * isq a.toNat ≤ a.toNat ∧ a.toNat < (isq a.toNat + 1) * (isq a.toNat + 1) then some (.int (isq a.toNat)) else none
  | _ => none
section
variable {X : Cx} {c : Addr}
theorem callR_imp {f : Value} {r r' : List V → Hp → VK → Prop} (h : CallR X f r) (i : ∀ x H Q, r' x H Q → r x H Q) : CallR X f r' := fun pins s σ H xs us Q I rx q => h pins s σ H xs us Q I rx (i _ _ _ q)
theorem dvp_seq {K : PySem.W.Frag} {H : Hp} {Z : List Addr} {v : V} {d : D} {xs : List D} (r : DvP K H Z c v d) (h : sqL d = some xs) : ∃ a ys, v = .ref a ∧ (SqL K H a ys ∨ SqT K H a ys) ∧ DvA K H Z ys xs := by
  cases d with
  | list ds =>
    cases h
    obtain ⟨a, ys, e, h1, h2⟩ := r.list
    exact ⟨a, ys, e, .inl (.inl (.inl h1)), h2⟩
  | tuple ds =>
    cases h
    obtain ⟨a, ys, e, h1, h2⟩ := r.tuple
    exact ⟨a, ys, e, .inr h1, h2⟩
  | _ => cases h
theorem b_len : CallR X (.builtin "len") (rA X.K c gLen) := callR_imp call_len_seq fun vs H Q ⟨Z, ds, z, zo, cz, r, g, q⟩ => by
  unfold gLen at g
  split at g
  · split at g
    · rename_i xs e
      cases g
      obtain ⟨v, rfl, rr⟩ := paired1 r
      obtain ⟨a, ys, rfl, h1, h2⟩ := dvp_seq rr e
      refine ⟨a, ys, rfl, h1, ?_⟩
      rw [h2.length]
      exact q _ H .refl rfl (.int _)
    · cases g
  · cases g
theorem b_abs : CallR X (.builtin "abs") (rA X.K c gAbs) := callR_imp call_abs fun vs H Q ⟨Z, ds, z, zo, cz, r, g, q⟩ => by
  unfold gAbs at g
  split at g
  · cases g
    obtain ⟨v, rfl, rr⟩ := paired1 r
    rw [rr.int]
    exact ⟨_, rfl, q _ H .refl rfl (.int _)⟩
  · cases g
theorem b_int : CallR X (.type "int") (rA X.K c gInt) := callR_imp call_int1 fun vs H Q ⟨Z, ds, z, zo, cz, r, g, q⟩ => by
  unfold gInt at g
  split at g
  · cases g
    obtain ⟨v, rfl, rr⟩ := paired1 r
    rw [rr.int]
    exact .inl ⟨_, rfl, q _ H .refl rfl (.int _)⟩
  · cases g
    obtain ⟨v, rfl, rr⟩ := paired1 r
    rw [rr.bool]
    exact .inr ⟨_, rfl, q _ H .refl rfl (.int _)⟩
  · cases g
theorem dvp_ints {K : PySem.W.Frag} {H : Hp} {Z : List Addr} {v : V} {es : List D} {ns : List Int} (r : DvP K H Z c v (.list es)) (h : asInts es = some ns) : ∃ a, v = .ref a ∧ SqL K H a (ns.map V.int) := by
  obtain ⟨a, ys, e, h1, h2⟩ := r.list
  rw [h2.ints (asInts_eq h)] at h1
  exact ⟨a, e, .inl (.inl h1)⟩
theorem DvA.bools {K : PySem.W.Frag} {H : Hp} {Z : List Addr} : ∀ {bs : List Bool} {vs : List V}, DvA K H Z vs (bs.map PyData.bool) → vs = bs.map V.bl
  | [], _, h => by cases h; rfl
  | b :: bs, _, h => by
    cases h with
    | cons h1 h2 =>
      cases h1
      rw [h2.bools]
      rfl
theorem dvp_bools {K : PySem.W.Frag} {H : Hp} {Z : List Addr} {v : V} {es : List D} {ns : List Bool} (r : DvP K H Z c v (.list es)) (h : asBools es = some ns) : ∃ a, v = .ref a ∧ SqL K H a (ns.map V.bl) := by
  obtain ⟨a, ys, e, h1, h2⟩ := r.list
  rw [asBools_eq h] at h2
  rw [h2.bools] at h1
  exact ⟨a, e, .inl (.inl h1)⟩
theorem b_max (hc : X.calm = true) : CallR X (.builtin "max") (rA X.K c gMax) := callR_imp (CallR.or (call_max2 hc) (cr_max hc)) fun vs H Q ⟨Z, ds, z, zo, cz, r, g, q⟩ => by
  unfold gMax at g
  split at g
  · cases g
    obtain ⟨v, u, rfl, r1, r2⟩ := paired2 r
    rw [r1.int, r2.int]
    exact .inl ⟨_, _, rfl, q _ H .refl rfl (.int _)⟩
  · split at g
    · rename_i n ns e
      cases g
      obtain ⟨v, rfl, rr⟩ := paired1 r
      obtain ⟨a, rfl, h1⟩ := dvp_ints rr e
      refine .inr ⟨a, n :: ns, rfl, h1, by simp, fun m hm hy => ?_⟩
      obtain ⟨m1, m2⟩ := maxL_mem (ns := n :: ns) (by simp)
      have e : m = maxL (n :: ns) := by
        have := m2 m hm
        have := hy _ m1
        omega
      rw [e]
      exact q _ H .refl rfl (.int _)
    · cases g
  · cases g
theorem b_min (hc : X.calm = true) : CallR X (.builtin "min") (rA X.K c gMin) := callR_imp (CallR.or (call_min2 hc) (cr_min hc)) fun vs H Q ⟨Z, ds, z, zo, cz, r, g, q⟩ => by
  unfold gMin at g
  split at g
  · cases g
    obtain ⟨v, u, rfl, r1, r2⟩ := paired2 r
    rw [r1.int, r2.int]
    exact .inl ⟨_, _, rfl, q _ H .refl rfl (.int _)⟩
  · split at g
    · rename_i n ns e
      cases g
      obtain ⟨v, rfl, rr⟩ := paired1 r
      obtain ⟨a, rfl, h1⟩ := dvp_ints rr e
      refine .inr ⟨a, n :: ns, rfl, h1, by simp, fun m hm hy => ?_⟩
      obtain ⟨m1, m2⟩ := minL_mem (ns := n :: ns) (by simp)
      have e : m = minL (n :: ns) := by
        have := m2 m hm
        have := hy _ m1
        omega
      rw [e]
      exact q _ H .refl rfl (.int _)
    · cases g
  · cases g
theorem b_sum (hc : X.calm = true) : CallR X (.builtin "sum") (rA X.K c gSum) := callR_imp (cr_sum hc) fun vs H Q ⟨Z, ds, z, zo, cz, r, g, q⟩ => by
  unfold gSum at g
  split at g
  · split at g
    · rename_i ns e
      cases g
      obtain ⟨v, rfl, rr⟩ := paired1 r
      obtain ⟨a, rfl, h1⟩ := dvp_ints rr e
      exact ⟨a, ns, rfl, h1, q _ H .refl rfl (.int _)⟩
    · cases g
  · cases g
theorem b_all (hc : X.calm = true) : CallR X (.builtin "all") (rA X.K c gAll) := callR_imp (cr_all hc) fun vs H Q ⟨Z, ds, z, zo, cz, r, g, q⟩ => by
  unfold gAll at g
  split at g
  · split at g
    · rename_i ns e
      cases g
      obtain ⟨v, rfl, rr⟩ := paired1 r
      obtain ⟨a, rfl, h1⟩ := dvp_bools rr e
      exact ⟨a, ns, rfl, h1, q _ H .refl rfl (.bl _)⟩
    · cases g
  · cases g
theorem b_gcd : CallR X (.builtin "math.gcd") (rA X.K c gGcd) := callR_imp cr_gcd fun vs H Q ⟨Z, ds, z, zo, cz, r, g, q⟩ => by
  unfold gGcd at g
  split at g
  · cases g
    obtain ⟨v, u, rfl, r1, r2⟩ := paired2 r
    rw [r1.int, r2.int]
    exact ⟨_, _, rfl, q _ H .refl rfl (.int _)⟩
  · cases g
theorem b_tuple : CallR X (.type "tuple") (rA X.K c gTuple) := callR_imp call_tuple_of fun vs H Q ⟨Z, ds, z, zo, cz, r, g, q⟩ => by
  unfold gTuple at g
  split at g
  · rename_i d
    split at g
    · rename_i xs e
      cases g
      obtain ⟨v, rfl, rr⟩ := paired1 r
      cases d with
      | list ds =>
        cases e
        obtain ⟨a, ys, rfl, h1, h2⟩ := rr.list
        exact ⟨a, ys, rfl, .inl ⟨.inl (.inl h1), fresh_tup zo cz h2 q⟩⟩
      | tuple ds =>
        cases e
        obtain ⟨a, ys, rfl, h1, h2⟩ := rr.tuple
        exact ⟨a, ys, rfl, .inr ⟨h1, q _ H .refl rfl (.tup h1 h2)⟩⟩
      | _ => cases e
    · cases g
  · cases g
theorem b_list : CallR X (.type "list") (rA X.K c gList) := callR_imp call_list_of fun vs H Q ⟨Z, ds, z, zo, cz, r, g, q⟩ => by
  unfold gList at g
  split at g
  · split at g
    · rename_i xs e
      cases g
      obtain ⟨v, rfl, rr⟩ := paired1 r
      obtain ⟨a, ys, rfl, h1, h2⟩ := dvp_seq rr e
      exact ⟨a, ys, rfl, h1, fresh_lst zo cz h2 q⟩
    · cases g
  · cases g
theorem isq_uniq {n a b : Nat} (h1 : a * a ≤ n) (h2 : n < (a + 1) * (a + 1)) (h3 : b * b ≤ n) (h4 : n < (b + 1) * (b + 1)) : a = b := by
  rcases Nat.lt_trichotomy a b with h | h | h
  · have : (a + 1) * (a + 1) ≤ b * b := Nat.mul_le_mul h h
    omega
  · exact h
  · have : (b + 1) * (b + 1) ≤ a * a := Nat.mul_le_mul h h
    omega
end
end Se
end
section
set_option Elab.async false
set_option linter.all false
set_option maxRecDepth 100000
set_option maxHeartbeats 4000000
namespace Se
open PySem PySem.Spec PyProof.Rows L2
section
variable {X : Cx} {c : Addr} {cf : CF}
/-! ### isqrt -/
theorem cr_isqrt : CallR X (.builtin "math.isqrt") (fun vs H Q => ∃ a : Int, vs = [.int a] ∧ 0 ≤ a ∧ a < 2 ^ 64 ∧ Q (.int ((Float64.isqrt a.toNat : Nat) : Int)) H) := by
  intro pins s σ H vs us Q I r h
  obtain ⟨a, rfl, h0, h1, q⟩ := h
  obtain ⟨u, rfl, t, rfl⟩ := vals1 r
  exact PySem.W.mg_isqrt h0 h1 ⟨.int _, H, I.tok _, ⟨_, rfl⟩, q⟩
theorem b_isqrt : CallR X (.builtin "math.isqrt") (rA X.K c gIsqrt) := callR_imp cr_isqrt fun vs H Q ⟨Z, ds, z, zo, cz, r, g, q⟩ => by
  unfold gIsqrt at g
  split at g
  · split at g
    · rename_i a h
      cases g
      obtain ⟨v, rfl, rr⟩ := paired1 r
      rw [rr.int]
      obtain ⟨h1, h2⟩ := Float64.isqrt_spec a.toNat
      have e : Float64.isqrt a.toNat = isq a.toNat := isq_uniq h1 h2 h.2.2.1 h.2.2.2
      refine ⟨a, rfl, h.1, h.2.1, ?_⟩
      rw [e]
      exact q _ H .refl rfl (.int _)
    · cases g
  · cases g
/-! ### any -/
theorem truth_intsS {prog : Program} {w : World} {A : Around} {ns : List Int} {its : List Value} (e : IntsAre its ns) :
    TruthOf prog w A (fun i v => its.toArray[i]? = some v) (fun i => ns.getD i 0 != 0) := fun i v s Q E hv hq => by
  have hv' : its[i]? = some v := by simpa using hv
  have key : ∀ {its : List Value} {ns : List Int} {i : Nat}, IntsAre its ns → its[i]? = some v → ∃ t, v = .int (ns.getD i 0) t := fun {its ns i} h => by
    induction h generalizing i with
    | nil => intro q; simp at q
    | cons n t h ih =>
      intro q
      cases i with
      | zero =>
        simp at q
        exact ⟨t, by rw [← q]; rfl⟩
      | succ i =>
        obtain ⟨t', e⟩ := ih (i := i) (by simpa using q)
        exact ⟨t', by simpa using e⟩
  obtain ⟨t, rfl⟩ := key e hv'
  exact truthy_int hq
theorem any_rangeI : ∀ ns : List Int, (List.range ns.length).any (fun i => ns.getD i 0 != 0) = ns.any fun n => n != 0
  | [] => rfl
  | b :: bs => by
    rw [List.length_cons, List.range_succ_eq_map, List.any_cons, List.any_map, List.any_cons, ← any_rangeI bs]
    all_goals rfl
theorem cr_anyT (hc : X.calm = true) : CallR X (.builtin "any") (fun vs H Q => ∃ (a : Addr) (ns : List Int), vs = [V.ref a] ∧ SqT X.K H a (ns.map V.int) ∧ Q (.bl (ns.any fun n => n != 0)) H) := by
  intro pins s σ H vs us Q I r h
  obtain ⟨a, ns, rfl, hs, q⟩ := h
  obtain ⟨its, rv, hl, _⟩ := I.tuple hs
  rw [Vals.ref1 r]
  have hi := rv.ints
  have hlt : a < s.heap.objs.size := hl.lt
  refine call_any_walk (wpAny_pyIter_tuple hl ?_)
  refine ⟨_, _, _, _, _, _, _, rfl, Walks.tuple (A := X.A.in1) (I.ok.hd hc) _ a (Nat.ne_of_lt hlt) its.toArray, ⟨⟨_, Heap.get?_push_size _ rfl, rfl, rfl⟩, hl.push _⟩, truth_intsS hi, fun h' tk hk => ?_⟩
  refine ⟨.bl _, H, I.kept fun b o eo => hk b o (fun hmem => ?_) (Heap.get?_push_of_some _ eo), ?_, q⟩
  · rcases List.mem_cons.mp hmem with e1 | hmem
    · exact absurd (e1 ▸ Heap.lt_size eo) (Nat.lt_irrefl _)
    · cases hmem
  · show Value.bool _ = Value.bool _
    rw [← any_rangeI, List.size_toArray, hi.length]
theorem b_any (hc : X.calm = true) : CallR X (.builtin "any") (rA X.K c gAny) := callR_imp (CallR.or (cr_any hc) (cr_anyT hc)) fun vs H Q ⟨Z, ds, z, zo, cz, r, g, q⟩ => by
  unfold gAny at g
  split at g
  · split at g
    · rename_i ns e
      cases g
      obtain ⟨v, rfl, rr⟩ := paired1 r
      obtain ⟨a, rfl, h1⟩ := dvp_bools rr e
      exact .inl ⟨a, ns, rfl, h1, q _ H .refl rfl (.bl _)⟩
    · cases g
  · split at g
    · rename_i ns e
      cases g
      obtain ⟨v, rfl, rr⟩ := paired1 r
      obtain ⟨a, ys, rfl, h1, h2⟩ := rr.tuple
      rw [h2.ints (asInts_eq e)] at h1
      exact .inr ⟨a, ns, rfl, h1, q _ H .refl rfl (.bl _)⟩
    · cases g
  · cases g
/-! ### isinstance -/
def tyN : D → String
  | .none => "NoneType"
  | .bool _ => "bool"
  | .int _ => "int"
  | .str _ => "str"
  | .list _ => "list"
  | .tuple _ => "tuple"
  | .dict _ => "dict"
def mIsi (k : D → Bool) (f : SE) : SE := fun cf env => M.bnd (f cf env) fun d => M.ret (.bool (k d))
def kInt : D → Bool
  | .int _ => true
  | .bool _ => true
  | _ => false
def kBool : D → Bool
  | .bool _ => true
  | _ => false
def kTuple : D → Bool
  | .tuple _ => true
  | _ => false
def kList : D → Bool
  | .list _ => true
  | _ => false
def kStr : D → Bool
  | .str _ => true
  | _ => false
theorem dv_ty {K : PySem.W.Frag} {H : Hp} {Z : List Addr} {v : V} {d : D} (r : DvP K H Z c v d) : TyX K H v (.type (tyN d)) := by
  cases d with
  | none =>
    rcases r with r | ⟨a, rfl, _, _, xs, ds, e, _⟩
    · cases r; exact .base .non
    · cases e
  | bool b => rw [r.bool]; exact .base (.bl b)
  | int i => rw [r.int]; exact .base (.int i)
  | str x =>
    rcases r with r | ⟨a, rfl, _, _, xs, ds, e, _⟩
    · cases r; exact .base (.str x)
    · cases e
  | list ds =>
    obtain ⟨a, xs, rfl, h, _⟩ := r.list
    exact .base (.lst h)
  | tuple ds =>
    obtain ⟨a, xs, rfl, h, _⟩ := r.tuple
    rcases h with (h | ⟨o, h⟩) | ⟨o, its, n, h, hc, _⟩
    · exact .base (.tup h)
    · exact .fTuple h
    · exact .kTuple h hc
  | dict kv =>
    rcases r with r | ⟨a, rfl, _, _, xs, ds, e, _⟩
    · cases r
    · cases e
theorem e_isi {e : Expr} {f : SE} {T : String} {x : Str} {k : D → Bool} {p tp pos : Pos} (hk : ∀ d, kitB (tyN d) T = some (k d)) (hg : Gl X "isinstance") (hm : X.mg "isinstance" = none) (he : PE X e (lp X.K c (f cf))) (gx : Gl X x) (mx : X.mg x = none) (hv : bootBuiltins x = some (.type T)) (hn : x ≠ "__name__") (hd : (x == ("__debug__" : Str)) = false)
    (h1 : starEach [e, .Name x tp] X.env = (false, eval e X.env) :: starEach [.Name x tp] X.env) (h2 : starEach [.Name x tp] X.env = (false, eval (.Name x tp) X.env) :: starEach [] X.env) (hpl : (backTo pos (starEach [.Name x tp] X.env)).any (·.1) = false) :
    PE X (.Call (.Name "isinstance" p) [e, .Name x tp] [] pos) (le X.K c (mIsi k f cf)) :=
  pe_imp (pe_callB call_isi hg hm boot_isinstance (pa_cons he (pa_cons (pe_bltn (v := .ty T) gx mx hv rfl hn hd) pa_nil h2) h1) (by decide) (by decide) h1 hpl) fun σ H Q ⟨Z, env, cs, z, cs', p, e, q⟩ => by
    obtain ⟨d, c1, e1, e⟩ := bnd_some e
    cases ret_some e
    refine ⟨Z, env, cs, d, _, p, e1, fun v H1 k1 ce1 r1 => ?_⟩
    exact ⟨v, .ty T, .type (tyN d), .type T, k d, rfl, .ty T, dv_ty r1, kit_ty (hk d), q _ H1 k1 ce1 (.bl _)⟩
theorem k_int : ∀ d, kitB (tyN d) "int" = some (kInt d)
  | .none => (by decide +kernel : kitB "NoneType" "int" = some false)
  | .bool _ => (by decide +kernel : kitB "bool" "int" = some true)
  | .int _ => (by decide +kernel : kitB "int" "int" = some true)
  | .str _ => (by decide +kernel : kitB "str" "int" = some false)
  | .list _ => (by decide +kernel : kitB "list" "int" = some false)
  | .tuple _ => (by decide +kernel : kitB "tuple" "int" = some false)
  | .dict _ => (by decide +kernel : kitB "dict" "int" = some false)
theorem k_bool : ∀ d, kitB (tyN d) "bool" = some (kBool d)
  | .none => (by decide +kernel : kitB "NoneType" "bool" = some false)
  | .bool _ => (by decide +kernel : kitB "bool" "bool" = some true)
  | .int _ => (by decide +kernel : kitB "int" "bool" = some false)
  | .str _ => (by decide +kernel : kitB "str" "bool" = some false)
  | .list _ => (by decide +kernel : kitB "list" "bool" = some false)
  | .tuple _ => (by decide +kernel : kitB "tuple" "bool" = some false)
  | .dict _ => (by decide +kernel : kitB "dict" "bool" = some false)
theorem k_tuple : ∀ d, kitB (tyN d) "tuple" = some (kTuple d)
  | .none => (by decide +kernel : kitB "NoneType" "tuple" = some false)
  | .bool _ => (by decide +kernel : kitB "bool" "tuple" = some false)
  | .int _ => (by decide +kernel : kitB "int" "tuple" = some false)
  | .str _ => (by decide +kernel : kitB "str" "tuple" = some false)
  | .list _ => (by decide +kernel : kitB "list" "tuple" = some false)
  | .tuple _ => (by decide +kernel : kitB "tuple" "tuple" = some true)
  | .dict _ => (by decide +kernel : kitB "dict" "tuple" = some false)
theorem k_list : ∀ d, kitB (tyN d) "list" = some (kList d)
  | .none => (by decide +kernel : kitB "NoneType" "list" = some false)
  | .bool _ => (by decide +kernel : kitB "bool" "list" = some false)
  | .int _ => (by decide +kernel : kitB "int" "list" = some false)
  | .str _ => (by decide +kernel : kitB "str" "list" = some false)
  | .list _ => (by decide +kernel : kitB "list" "list" = some true)
  | .tuple _ => (by decide +kernel : kitB "tuple" "list" = some false)
  | .dict _ => (by decide +kernel : kitB "dict" "list" = some false)
theorem k_str : ∀ d, kitB (tyN d) "str" = some (kStr d)
  | .none => (by decide +kernel : kitB "NoneType" "str" = some false)
  | .bool _ => (by decide +kernel : kitB "bool" "str" = some false)
  | .int _ => (by decide +kernel : kitB "int" "str" = some false)
  | .str _ => (by decide +kernel : kitB "str" "str" = some true)
  | .list _ => (by decide +kernel : kitB "list" "str" = some false)
  | .tuple _ => (by decide +kernel : kitB "tuple" "str" = some false)
  | .dict _ => (by decide +kernel : kitB "dict" "str" = some false)
/-! ### slices -/
def cutD (xs : List D) (lo hi : Option Int) : List D := (xs.drop (HT.sIx xs.length 0 lo)).take (HT.sIx xs.length xs.length hi - HT.sIx xs.length 0 lo)
def gCut (d : D) (lo hi : Option Int) : Option D := match d with
  | .list xs => some (.list (cutD xs lo hi))
  | .tuple xs => some (.tuple (cutD xs lo hi))
  | _ => none
def mNo : CF → Ev → M (Option Int) := fun _ _ => M.ret none
def intO (d : D) : Option (Option Int) := match d with
  | .int i => some (some i)
  | _ => none
def mYes (f : SE) : CF → Ev → M (Option Int) := fun cf env => M.bnd (f cf env) fun d => M.of (intO d)
def mCut (f : SE) (lo hi : CF → Ev → M (Option Int)) : SE := fun cf env => M.bnd (f cf env) fun d => M.bnd (lo cf env) fun l => M.bnd (hi cf env) fun h => M.of (gCut d l h)
def lO (K : PySem.W.Frag) (c : Addr) (f : Ev → M (Option Int)) : TO := fun σ H Q => ∃ Z env cs o cs', Pre K c H Z σ env cs ∧ f env cs = some (o, cs') ∧ ∀ H', Keep c H H' → Cell H' c cs' → Q o H'
theorem po_imp {e : Option Expr} {t u : TO} (h : PO X e t) (i : ∀ σ H Q, u σ H Q → t σ H Q) : PO X e u := ⟨fun pins s σ H Q I q => h.run pins s σ H Q I (i σ H Q q)⟩
theorem o_no : PO X none (lO X.K c (mNo cf)) := po_imp po_none fun σ H Q ⟨Z, env, cs, o, cs', p, e, q⟩ => by
  cases ret_some e
  exact q H .refl p.cell
theorem o_yes {e : Expr} {f : SE} (h : PE X e (le X.K c (f cf))) : PO X (some e) (lO X.K c (mYes f cf)) := po_imp (po_some h) fun σ H Q ⟨Z, env, cs, o, cs', p, e, q⟩ => by
  obtain ⟨d, c1, e1, e⟩ := bnd_some e
  obtain ⟨o', e2, e3⟩ := of_some e
  cases e3
  refine ⟨Z, env, cs, d, _, p, e1, fun v H1 k1 ce1 r1 => ?_⟩
  unfold intO at e2
  split at e2
  · cases e2
    cases r1
    exact ⟨_, rfl, q H1 k1 ce1⟩
  · cases e2
theorem cut_dva {K : PySem.W.Frag} {H : Hp} {Z : List Addr} {vs : List V} {ds : List D} (r : DvA K H Z vs ds) (lo hi : Option Int) : DvA K H Z (cutV vs lo hi) (cutD ds lo hi) := by
  unfold cutV cutD
  rw [r.length]
  exact (r.drop _).take _
theorem cut_all {ys : List V} {xs : List D} {l h : Option Int} (e : ys.length = xs.length) (w1 : HT.sIx ys.length 0 l = 0) (w2 : HT.sIx ys.length ys.length h = ys.length) : cutD xs l h = xs := by
  unfold cutD
  rw [← e, w1, w2]
  simp
  exact List.take_of_length_le (Nat.le_of_eq e.symm)
theorem e_cut {e : Expr} {lo hi : Option Expr} {f : SE} {fl fh : CF → Ev → M (Option Int)} {pos p2 : Pos} (he : PE X e (lp X.K c (f cf))) (hl : PO X lo (lO X.K c (fl cf))) (hh : PO X hi (lO X.K c (fh cf))) : PE X (.Subscript e (.Slice lo hi none p2) pos) (le X.K c (mCut f fl fh cf)) :=
  pe_imp (pe_slice (SlR.or sl_list sl_tupA) he hl hh) fun σ H Q ⟨Z, env, cs, z, cs', p, e, q⟩ => by
    obtain ⟨d, c1, e1, e⟩ := bnd_some e
    obtain ⟨l, c2, e2, e⟩ := bnd_some e
    obtain ⟨h, c3, e3, e⟩ := bnd_some e
    obtain ⟨z', e4, e5⟩ := of_some e
    cases e5
    refine ⟨Z, env, cs, d, c1, p, e1, fun v H1 k1 ce1 r1 => ?_⟩
    have p1 := p.step k1 ce1
    refine ⟨Z, env, c1, l, c2, p1, e2, fun H2 k2 ce2 => ?_⟩
    have p2 := p1.step k2 ce2
    refine ⟨Z, env, c2, h, _, p2, e3, fun H3 k3 ce3 => ?_⟩
    have p3 := p2.step k3 ce3
    have r3 := p1.dvp (k2.trans k3) r1
    have q' : ∀ v H', Keep c H3 H' → H' c = H3 c → Dv X.K H' Z v z → Q v H' := fun v H' k ec r => q v H' (k1.trans (k2.trans (k3.trans k))) (ec.trans ce3) r
    unfold gCut at e4
    split at e4
    · rename_i xs
      cases e4
      obtain ⟨a, ys, rfl, g1, g2⟩ := r3.list
      exact .inl ⟨a, ys, rfl, .inl (.inl g1), fresh_lst p3.z p3.cz (cut_dva g2 l h) q'⟩
    · rename_i xs
      cases e4
      obtain ⟨a, ys, rfl, g1, g2⟩ := r3.tuple
      refine .inr ⟨a, ys, rfl, g1, fun ⟨w1, w2⟩ => ?_, fun _ => fresh_tup p3.z p3.cz (cut_dva g2 l h) q'⟩
      refine q' _ H3 .refl rfl (.tup g1 ?_)
      rw [cut_all g2.length w1 w2]
      exact g2
    · cases e4
end
end Se
end
section
set_option Elab.async false
set_option linter.all false
set_option maxRecDepth 100000
set_option maxHeartbeats 4000000
namespace Se
open PySem PySem.Spec PyProof.Rows L2
/-! ### compact forms -/
def nmC (N : List Str) (sc : Scope) (i : Nat) (x : Str) : Bool := decide (N[i]? = some x) && (match sc.names.lookup x with
  | some .local => true
  | some .cell => true
  | some .free => true
  | _ => false) && !(x == ("__debug__" : Str)) && !(x == ("__classdict__" : Str))
theorem nmC_ok {N : List Str} {sc : Scope} {i : Nat} {x : Str} (h : nmC N sc i x = true) : N[i]? = some x ∧ Vis sc x ∧ (x == ("__debug__" : Str)) = false ∧ (x == ("__classdict__" : Str)) = false := by
  unfold nmC at h
  rw [Bool.and_eq_true, Bool.and_eq_true, Bool.and_eq_true, decide_eq_true_iff, Bool.not_eq_true', Bool.not_eq_true'] at h
  obtain ⟨⟨⟨h1, h2⟩, h3⟩, h4⟩ := h
  refine ⟨h1, ?_, h3, h4⟩
  split at h2
  · rename_i e; exact .inl e
  · rename_i e; exact .inr (.inl e)
  · rename_i e; exact .inr (.inr e)
  · cases h2
section
variable {X : Cx} {c : Addr} {cf : CF} {x : Str} {i : Nat} {pos : Pos} {H0 : Hp} {Z0 : List Addr}
theorem v_ (h : nmC X.N X.env.scope i x = true) : PE X (.Name x pos) (le X.K c (mVar i cf)) := let ⟨a, b, d, e⟩ := nmC_ok h; e_var a b d e
theorem l_ (h : nmC X.N X.env.scope i x = true) : PE X (.Name x pos) (lp X.K c (mPk i cf)) := let ⟨a, b, d, e⟩ := nmC_ok h; e_pk a b d e
theorem u_ (h : nmC X.N X.env.scope i x = true) : PE X (.Name x pos) (lf (fun H Z => RArg X.K H Z c) X.K c (aCup i cf)) := let ⟨a, b, d, e⟩ := nmC_ok h; e_acup a b d e
/-- a def's promise, with where it stands -/
def Cal (P : Program) (w : World) (K : PySem.W.Frag) (mg : Str → Option Value) (base : Heap) (m : Nat) (x : Str) (ps : List Str) (run : List Arg → M D) : Prop :=
  ∃ f fd, FnOk P w K mg base CX0 m f fd ps (spD K run) ∧ mg x = some (.ref f) ∧ PySem.W.keepIn K (.ref f) = true ∧ Binds K fd ps []
theorem c_ {m j : Nat} {ps : List Str} {fs : SA Arg} {e : Expr} {es : List Expr} {p : Pos} (C : Cal X.prog X.w X.K X.mg X.base m x ps (cf j)) (hr : Room m X.A) (ha : PA X (e :: es) (lA (fun H Z => RArg X.K H Z c) X.K c (fs cf))) (hg : Gl X x) (hdb : (x == ("__debug__" : Str)) = false)
    (he : starEach (e :: es) X.env = (false, eval e X.env) :: starEach es X.env) (hpl : (backTo pos (starEach es X.env)).any (·.1) = false) : PE X (.Call (.Name x p) (e :: es) [] pos) (le X.K c (mCall j fs cf)) :=
  let ⟨_, _, F, hm, hk, hb⟩ := C
  e_call F hr hg hm hk hb ha hdb he hpl
theorem c0_ {m j : Nat} {ps : List Str} {p : Pos} (C : Cal X.prog X.w X.K X.mg X.base m x ps (cf j)) (hr : Room m X.A) (hg : Gl X x) (hdb : (x == ("__debug__" : Str)) = false) : PE X (.Call (.Name x p) [] [] pos) (le X.K c (mCall j mNil cf)) :=
  let ⟨_, _, F, hm, hk, hb⟩ := C
  e_call0 F hr hg hm hk hb hdb
theorem one_ {op : BoolOp} {a : Expr} {f : SE} (h : PE X a (le X.K c (f cf))) : PE X (.BoolOp op [a] pos) (le X.K c (f cf)) := pe_one h
theorem ta1_ {a : Expr} {f : SE} (h : PT X a (lt X.K c (f cf))) : PW X (.BoolOp .And [a] pos) (lt X.K c (f cf)) := pw_and1 h
theorem to1_ {a : Expr} {f : SE} (h : PT X a (lt X.K c (f cf))) : PW X (.BoolOp .Or [a] pos) (lt X.K c (f cf)) := pw_or1 h
theorem short_ {fs : SA D} {n : Nat} (h : ∀ env cs ds cs', fs cf env cs = some (ds, cs') → ds.length = n) (hn : n ≤ 1000) : Short (fs cf) := fun env cs ds cs' e => by
  rw [h env cs ds cs' e, line_eq]
  show n ≤ 16777216
  omega
theorem len0_ {β : Type} : ∀ env cs ds cs', (mNil : SA β) cf env cs = some (ds, cs') → ds.length = 0 := fun env cs ds cs' e => by
  cases ret_some e
  rfl
theorem lenS_ {β : Type} {fa : CF → Ev → M β} {fr : SA β} {n : Nat} (h : ∀ env cs ds cs', fr cf env cs = some (ds, cs') → ds.length = n) : ∀ env cs ds cs', mCons fa fr cf env cs = some (ds, cs') → ds.length = n + 1 := fun env cs ds cs' e => by
  obtain ⟨x, c1, e1, e⟩ := bnd_some e
  obtain ⟨xs, c2, e2, e⟩ := bnd_some e
  cases ret_some e
  rw [List.length_cons, h _ _ _ _ e2]
end
theorem bt_len : bootBuiltins "len" = some (.builtin "len") := by decide +kernel
theorem bt_abs : bootBuiltins "abs" = some (.builtin "abs") := by decide +kernel
theorem bt_int : bootBuiltins "int" = some (.type "int") := by decide +kernel
theorem bt_tuple : bootBuiltins "tuple" = some (.type "tuple") := by decide +kernel
theorem bt_list : bootBuiltins "list" = some (.type "list") := by decide +kernel
theorem bt_max : bootBuiltins "max" = some (.builtin "max") := by decide +kernel
theorem bt_min : bootBuiltins "min" = some (.builtin "min") := by decide +kernel
theorem bt_sum : bootBuiltins "sum" = some (.builtin "sum") := by decide +kernel
theorem bt_all : bootBuiltins "all" = some (.builtin "all") := by decide +kernel
theorem bt_any : bootBuiltins "any" = some (.builtin "any") := by decide +kernel
theorem bt_sorted : bootBuiltins "sorted" = some (.builtin "sorted") := by decide +kernel
theorem bt_isinstance : bootBuiltins "isinstance" = some (.builtin "isinstance") := by decide +kernel
theorem bt_range : bootBuiltins "range" = some (.type "range") := by decide +kernel
theorem bt_zip : bootBuiltins "zip" = some (.type "zip") := by decide +kernel
theorem bt_enumerate : bootBuiltins "enumerate" = some (.type "enumerate") := by decide +kernel
theorem bt_bool : bootBuiltins "bool" = some (.type "bool") := by decide +kernel
theorem bt_str : bootBuiltins "str" = some (.type "str") := by decide +kernel
theorem bt_dict : bootBuiltins "dict" = some (.type "dict") := by decide +kernel
theorem bt_set : bootBuiltins "set" = some (.type "set") := by decide +kernel
section
variable {X : Cx} {c : Addr} {cf : CF} {x : Str} {i : Nat} {pos : Pos} {H0 : Hp} {Z0 : List Addr}
theorem k_ {n : Int} (h : ∃ t, X.mg x = some (.int n t)) (hg : Gl X x) (hd : (x == ("__debug__" : Str)) = false) : PE X (.Name x pos) (le X.K c (mLit (.int n) cf)) :=
  let ⟨t, h⟩ := h
  e_glob (v := .int n) hg h ⟨t, rfl⟩ hd fun _ _ => .int n
theorem kt_ {d : D} (h : ∃ a, X.mg x = some (.ref a) ∧ ∀ H Z, Dv X.K H Z (.ref a) d) (hg : Gl X x) (hd : (x == ("__debug__" : Str)) = false) : PE X (.Name x pos) (le X.K c (mLit d cf)) :=
  let ⟨a, h, r⟩ := h
  e_glob (v := .ref a) hg h rfl hd r
end
section
variable {X : Cx} {c : Addr} {cf : CF} {x : Str} {i : Nat} {pos apos cpos npos tpos : Pos} {H0 : Hp} {Z0 : List Addr}
theorem cup_ {ei : Expr} {fi : SE} (h : nmC X.N X.env.scope i x = true) (hi : PE X ei (le X.K c (fi cf))) (hs : PlainIx ei) : PE X (.Subscript (.Name x npos) ei pos) (le X.K c (mCup i fi cf)) := let ⟨a, b, d, e⟩ := nmC_ok h; e_cup a b d e hi hs
theorem app_ {e : Expr} {f : SE} (h : nmC X.N X.env.scope i x = true) (he : PE X e (le X.K c (f cf)))
    (h1 : starEach [e] X.env = (false, eval e X.env) :: starEach [] X.env) (hbase : attributeBase (.Name x npos) "append" X.env (eval (.Name x npos) X.env) = eval (.Name x npos) X.env)
    (hfew : ((backTo cpos (starEach [e] X.env)).all (fun x => !x.1) && (backToKw cpos (keywordEach [] X.env)).all (fun x => x.1.isSome)
      && decide ([e].length + ([] : List Keyword).length + (if ([] : List Keyword).isEmpty then 0 else 1) < 30)) = true)
    (hline : (apos.endLine == cpos.line) = true) (hplain : (backTo cpos (starEach [] X.env)).any (·.1) = false) (hs : swapsWith (.Call (.Attribute (.Name x npos) "append" apos) [e] [] cpos) none pos.line X.env = pure false) :
    PS X (.Expr (.Call (.Attribute (.Name x npos) "append" apos) [e] [] cpos) pos) (lS X.K c H0 Z0 (sApp i f cf)) := let ⟨a, b, d, e⟩ := nmC_ok h; p_app a b d e he h1 hbase hfew hline hplain hs
theorem sto_ {ei e : Expr} {f fi : SE} (h : nmC X.N X.env.scope i x = true) (hi : PE X ei (le X.K c (fi cf))) (he : PE X e (le X.K c (f cf)))
    (ha : ∀ v, assign (.Subscript (.Name x npos) ei tpos) X.env v = (do
      let ov ← holding [v] (eval (.Name x npos) X.env)
      let iv ← holding [v, ov] (eval ei X.env)
      standAt tpos
      holding [v, ov, iv] (setItem ov iv v)
      release [v, ov, iv] []))
    (hs : swapsWithSole [.Subscript (.Name x npos) ei tpos] e pos.line X.env = pure false) (hw : swappedStores [.Subscript (.Name x npos) ei tpos] e X.env = pure none)
    (h1 : (assignEach [.Subscript (.Name x npos) ei tpos] X.env).map (·.2) = [assign (.Subscript (.Name x npos) ei tpos) X.env]) :
    PS X (.Assign [.Subscript (.Name x npos) ei tpos] e pos) (lS X.K c H0 Z0 (sSto i fi f cf)) := let ⟨a, b, d, e⟩ := nmC_ok h; p_sto a b d e hi he ha hs hw h1
theorem cupst_ {ei e : Expr} {f fi : SE} (h : nmC X.N X.env.scope i x = true) (hi : PE X ei (le X.K c (fi cf))) (he : PE X e (le X.K c (f cf)))
    (ha : ∀ v, assign (.Subscript (.Name x npos) ei tpos) X.env v = (do
      let ov ← holding [v] (eval (.Name x npos) X.env)
      let iv ← holding [v, ov] (eval ei X.env)
      standAt tpos
      holding [v, ov, iv] (setItem ov iv v)
      release [v, ov, iv] []))
    (hs : swapsWithSole [.Subscript (.Name x npos) ei tpos] e pos.line X.env = pure false) (hw : swappedStores [.Subscript (.Name x npos) ei tpos] e X.env = pure none)
    (h1 : (assignEach [.Subscript (.Name x npos) ei tpos] X.env).map (·.2) = [assign (.Subscript (.Name x npos) ei tpos) X.env]) :
    PS X (.Assign [.Subscript (.Name x npos) ei tpos] e pos) (lS X.K c H0 Z0 (sCup i fi f cf)) := let ⟨a, b, d, e⟩ := nmC_ok h; p_cup a b d e hi he ha hs hw h1
end
theorem room66 {m : Nat} {A : Around} (r : Room m A) : A.units + 66 < cLine := by have := r.un; omega
section
variable {X : Cx} {c : Addr} {cf : CF} {pos : Pos}
theorem che_ {op op' : CmpOp} {g g' : D → D → Option D} {a b d : Expr} {fa fb fc : SE} (ho : OpR X (compareOp op) (rD X.K c g)) (ho' : OpR X (compareOp op') (rD X.K c g')) (ha : PE X a (lp X.K c (fa cf))) (hb : PE X b (lp X.K c (fb cf))) (hc : PE X d (lp X.K c (fc cf)))
    (hm : lastMarks [op, op'] [b, d] = false) : PE X (.Compare a [op, op'] [b, d] pos) (le X.K c (mChain g g' fa fb fc cf)) := (e_chain ho ho' ha hb hc hm).1
theorem cht_ {op op' : CmpOp} {g g' : D → D → Option D} {a b d : Expr} {fa fb fc : SE} (ho : OpR X (compareOp op) (rD X.K c g)) (ho' : OpR X (compareOp op') (rD X.K c g')) (ha : PE X a (lp X.K c (fa cf))) (hb : PE X b (lp X.K c (fb cf))) (hc : PE X d (lp X.K c (fc cf)))
    (hm : lastMarks [op, op'] [b, d] = false) : PT X (.Compare a [op, op'] [b, d] pos) (lt X.K c (mChain g g' fa fb fc cf)) := (e_chain ho ho' ha hb hc hm).2
end
end Se
end
section
set_option Elab.async false
set_option linter.all false
set_option maxRecDepth 100000
set_option maxHeartbeats 4000000
namespace Se
open PySem PySem.Spec PyProof.Rows L2
/-! ### a def -/
def slotOf : Arg → Slot
  | .dat d => .sh d
  | .cup => .cup
def envOf (n : Nat) (args : List Arg) : Ev := args.map slotOf ++ List.replicate (n - args.length) .no
def endOf (r : Option (Flow × Cs)) : Option (D × Cs) := match r with
  | some (.next _, c) => some (.none, c)
  | some (.ret d, c) => some (d, c)
  | none => none
def runB (F : SS) (n p : Nat) (cf : CF) (args : List Arg) : M D := fun cs => if args.length = p then endOf (F cf (envOf n args) cs) else none
section
variable {P : Program} {w : World} {K : PySem.W.Frag} {mg : Str → Option Value} {base : Heap}
theorem paired_len {β : Type} {R : V → β → Prop} : ∀ {vs : List V} {bs : List β}, Paired R vs bs → vs.length = bs.length
  | _, _, .nil => rfl
  | _, _, .cons _ t => by rw [List.length_cons, List.length_cons, paired_len t]
theorem paired_at {β : Type} {R : V → β → Prop} : ∀ {vs : List V} {bs : List β} {i : Nat} {v : V} {b : β}, Paired R vs bs → vs[i]? = some v → bs[i]? = some b → R v b
  | _, _, i, v, b, .nil, h, _ => by simp at h
  | _, _, 0, v, b, .cons r _, h, g => by
    simp at h g
    rw [← h, ← g]
    exact r
  | _, _, i + 1, v, b, .cons _ t, h, g => paired_at t (by simpa using h) (by simpa using g)
theorem env_start {H : Hp} {Z : List Addr} {c : Addr} {N : List Str} {vs : List V} {args : List Arg} (r : Paired (RArg K H Z c) vs args) : REnv K H Z c (L2.start N vs) (envOf N.length args) := by
  have hl := paired_len r
  refine ⟨?_, fun i o s e1 e2 => ?_⟩
  · unfold L2.start envOf
    rw [List.length_append, List.length_append, List.length_map, List.length_map, List.length_replicate, List.length_replicate, hl]
  · unfold L2.start at e1
    unfold envOf at e2
    by_cases h : i < args.length
    · rw [List.getElem?_append_left (by rw [List.length_map, hl]; exact h), List.getElem?_map] at e1
      rw [List.getElem?_append_left (by rw [List.length_map]; exact h), List.getElem?_map] at e2
      obtain ⟨v, hv, rfl⟩ := Option.map_eq_some_iff.mp e1
      obtain ⟨a, ha, rfl⟩ := Option.map_eq_some_iff.mp e2
      have q := paired_at r hv ha
      cases a with
      | dat d => exact ⟨v, rfl, q⟩
      | cup =>
        have q' : v = .ref c := q
        rw [q']
        rfl
    · rw [List.getElem?_append_right (by rw [List.length_map]; omega), List.getElem?_replicate] at e2
      split at e2
      · cases e2
        trivial
      · cases e2
theorem own_start {H0 : Hp} {σ : L2.St} {n : Nat} {args : List Arg} : Own H0 σ (envOf n args) := by
  have no : ∀ {i : Nat} {d : D}, (envOf n args)[i]? = some (.ow d) → False := fun {i d} e => by
    unfold envOf at e
    have m := List.mem_of_getElem? e
    rcases List.mem_append.mp m with m | m
    · obtain ⟨a, _, q⟩ := List.mem_map.mp m
      cases a <;> cases q
    · have := (List.mem_replicate.mp m).2
      cases this
  have noR : ∀ {i : Nat} {rs : List (List Int)}, (envOf n args)[i]? = some (.dR rs) → False := fun {i d} e => by
    unfold envOf at e
    have m := List.mem_of_getElem? e
    rcases List.mem_append.mp m with m | m
    · obtain ⟨a, _, q⟩ := List.mem_map.mp m
      cases a <;> cases q
    · have := (List.mem_replicate.mp m).2
      cases this
  exact ⟨fun i a d e _ => (no e).elim, fun i j a d e e1 _ _ _ => (no e1).elim, fun i a rs e _ => (noR e).elim⟩
theorem fn_ok {N ps : List Str} {x qual : Str} {params : Arguments} {body : List Stmt} {scope : Scope} {f : Addr} {fd : FuncData} {m : Nat} {Fi : SS} {cf : CF} (F : FunD K x qual params body scope [] [] f fd) (S : FnScope N ps scope)
    (hP : ∀ (cdv : Value) (A : Around) (outer : List Env) (s : Shared) (H : Hp) (E : XK) (c : Addr) (H0 : Hp) (Z0 : List Addr), Room m (A.deeper (envOfC qual scope s.heap.objs.size f cdv)) → ZOk H0 Z0 → PSs (cxOf CX0 P w K mg base N qual scope f cdv A outer s H E).nox body (lS K c H0 Z0 (Fi cf))) :
    FnOk P w K mg base CX0 (m + 1) f fd ps (spD K (runB Fi N.length ps.length cf)) := by
  refine F.ok S (fun vs H Q E h => ?_) (fun cdv A outer s H vs Q E hr h => ?_)
  · obtain ⟨Z, c, cs, args, d, cs', z, cz, ce, r, e, q⟩ := h
    rw [paired_len r]
    unfold runB at e
    split at e
    · assumption
    · cases e
  · obtain ⟨Z, c, cs, args, d, cs', z, cz, ce, r, e, q⟩ := h
    refine ⟨lS K c H Z (Fi cf), PSs.nox (hP cdv A outer s H E c H Z hr z), ?_⟩
    unfold runB at e
    split at e
    · unfold endOf at e
      have st : Sta K c H Z H Z (L2.start N vs) (envOf N.length args) cs := ⟨⟨z, cz, ce, env_start r⟩, .refl, fun _ h => h, own_start⟩
      split at e
      · rename_i e2 c2 hf
        cases e
        exact ⟨Z, _, cs, _, _, st, hf, fun e3 _ σ' H' Z' s' _ => q _ H' s'.keep s'.pre.cell .non, fun d hd => by cases hd⟩
      · rename_i d2 c2 hf
        cases e
        refine ⟨Z, _, cs, _, _, st, hf, ?_, ?_⟩
        · intro e3 he
          cases he
        intro d hd v H' k ce' rv
        cases hd
        exact q v H' k ce' rv
      · cases e
    · cases e
end
/-! ### the cup's maker -/
theorem op_mul64 {X : Cx} : OpR X (binaryOp .Mult) (rI (fun _ j => Builtin.Int.intBits j ≤ 64) fun i j => .int (i * j)) := opI fun _ _ _ _ _ _ _ hc q => mul_int q (PySem.IntMulOk.of_right hc)
def cellOf (ns : List Int) : Int := let x := (ns ++ [0]).headD 0; if x < 0 then -x else x
def cupOf (ns : List Int) : Cs := [if cellOf ns ≥ 1000000000000000000 then (cellOf ns).fdiv 181 else 0, (cellOf ns * 439 + 6529).fmod 99991 + 283]
def spCup (K : PySem.W.Frag) : Sp := fun vs H Q _ => ∃ (a : Addr) (ns : List Int), vs = [.ref a] ∧ SqL K H a (ns.map V.int) ∧ ns.length < 1000 ∧ ∀ (l : Addr) (H' : Hp), (∀ b o, H b = some o → H' b = some o) → H' l = some (.lst ((cupOf ns).map V.int)) → H l = none → Q (.ref l) H'
/-- the law's own body: the cup first, then the rest over it -/
def spLaw (K : PySem.W.Frag) : Sp := fun vs H Q _ => ∃ (a : Addr) (ns : List Int), vs = [.ref a] ∧ SqL K H a (ns.map V.int) ∧ ns.length < 1000 ∧ ∀ H', Q (.bl true) H'
def lL (K : PySem.W.Frag) (f : Ev → M Flow) : TS := fun D σ H => ∃ (c : Addr) (H0 : Hp) (Z0 : List Addr), ZOk H0 Z0 ∧ lS K c H0 Z0 f D σ H
theorem p_law {X : Cx} {sts : List Stmt} {f : Ev → M Flow} (h : ∀ (c : Addr) (H0 : Hp) (Z0 : List Addr), ZOk H0 Z0 → PSs X sts (lS X.K c H0 Z0 f)) : PSs X sts (lL X.K f) :=
  ⟨fun pins s σ H D I ⟨c, H0, Z0, z, q⟩ => (h c H0 Z0 z).run pins s σ H D I q⟩
/-- the slots behind the cup's statement: i the cup's -/
def envL (n i : Nat) : Ev := (List.replicate n Slot.no).set i .cup
theorem law_enters {K : PySem.W.Frag} {f : Ev → M Flow} {n i : Nat} {σ : L2.St} {H' : Hp} {l : Addr} {cs : Cs} {D : Ends} {cs' : Cs} (hn : σ.length = n) (hi : i < n) (hl : H' l = some (.lst (cs.map V.int))) (he : f (envL n i) cs = some (.ret (.bool true), cs')) (q : ∀ H', D.rt (.bl true) H') :
    lL K f D (σ.set i (some (.ref l))) H' := by
  have z : ZOk H' [l] := fun a ha => by
    rw [List.mem_singleton.mp ha, hl]
    trivial
  refine ⟨l, H', [l], z, [l], envL n i, cs, _, cs', ⟨⟨z, by simp, hl, ⟨?_, fun j o s e1 e2 => ?_⟩⟩, .refl, fun _ h => h, ?_⟩, he, ?_, ?_⟩
  · unfold envL
    rw [List.length_set, List.length_set, List.length_replicate, hn]
  · unfold envL at e2
    rcases set_get e2 with ⟨rfl, rfl⟩ | ⟨nn, e3⟩
    · rw [List.getElem?_set_self (by rw [hn]; exact hi)] at e1
      exact (Option.some.inj e1).symm
    · rw [List.getElem?_replicate] at e3
      split at e3
      · cases e3; trivial
      · cases e3
  · have no : ∀ {j : Nat} {d : PyData}, (envL n i)[j]? = some (.ow d) → False := fun {j d} e => by
      unfold envL at e
      rcases set_get e with ⟨_, e3⟩ | ⟨_, e3⟩
      · cases e3
      · rw [List.getElem?_replicate] at e3
        split at e3
        · cases e3
        · cases e3
    have noR : ∀ {j : Nat} {rs : List (List Int)}, (envL n i)[j]? = some (.dR rs) → False := fun {j d} e => by
      unfold envL at e
      rcases set_get e with ⟨_, e3⟩ | ⟨_, e3⟩
      · cases e3
      · rw [List.getElem?_replicate] at e3
        split at e3
        · cases e3
        · cases e3
    exact ⟨fun i a d e _ => (no e).elim, fun i j a d e e1 _ _ _ => (no e1).elim, fun i a rs e _ => (noR e).elim⟩
  · intro e2 he2
    cases he2
  · intro d hd v H2 k ce rv
    cases hd
    cases rv
    exact q H2
end Se
end
section
set_option Elab.async false
set_option linter.all false
set_option maxRecDepth 100000
set_option maxHeartbeats 4000000
namespace Se
open PySem PySem.Spec PyProof.Rows L2
/-! ### a constant in the written part -/
mutual
def cstB (K : PySem.W.Frag) : PyData → Value → Bool
  | .none, u => (match u with | .none => true | _ => false)
  | .bool b, u => (match u with | .bool c => b == c | _ => false)
  | .int i, u => (match u with | .int j _ => decide (i = j) | _ => false)
  | .str x, u => (match u with | .str y _ => decide (x = y) | _ => false)
  | .tuple ds, u => (match u with
    | .ref a => (match K.lookup a with
      | some ⟨.type t, _, .seq its _, _⟩ => decide (t = "tuple") && (decide (its.size ≤ sizeLine) && cstA K ds its.toList)
      | _ => false)
    | _ => false)
  | .list _, _ => false
  | .dict _, _ => false
def cstA (K : PySem.W.Frag) : List PyData → List Value → Bool
  | [], us => (match us with | [] => true | _ => false)
  | d :: ds, us => (match us with | u :: r => cstB K d u && cstA K ds r | [] => false)
end
mutual
theorem cstB_ok {K : PySem.W.Frag} : ∀ (d : PyData) (u : Value), cstB K d u = true → ∃ v, RelV v u ∧ ∀ H Z, Dv K H Z v d
  | .none, u, h => by
    unfold cstB at h
    split at h
    · exact ⟨.non, rfl, fun _ _ => .non⟩
    · cases h
  | .bool b, u, h => by
    unfold cstB at h
    split at h
    · rename_i c
      rw [eq_of_beq h]
      exact ⟨.bl c, rfl, fun _ _ => .bl c⟩
    · cases h
  | .int i, u, h => by
    unfold cstB at h
    split at h
    · rename_i j t
      rw [of_decide_eq_true h]
      exact ⟨.int j, ⟨t, rfl⟩, fun _ _ => .int j⟩
    · cases h
  | .str x, u, h => by
    unfold cstB at h
    split at h
    · rename_i y t
      rw [of_decide_eq_true h]
      exact ⟨.str y, ⟨t, rfl⟩, fun _ _ => .str y⟩
    · cases h
  | .tuple ds, u, h => by
    unfold cstB at h
    split at h
    · rename_i a
      split at h
      · rename_i t dd its n sl e
        rw [Bool.and_eq_true, Bool.and_eq_true] at h
        obtain ⟨h1, h2, h3⟩ := h
        obtain ⟨vs, r, q⟩ := cstA_ok ds its.toList h3
        exact ⟨.ref a, rfl, fun H Z => .tup (.inr ⟨_, its, n, e, congrArg Value.type (of_decide_eq_true h1), rfl, of_decide_eq_true h2, r⟩) (q H Z)⟩
      · cases h
    · cases h
  | .list _, u, h => by
    unfold cstB at h
    cases h
  | .dict _, u, h => by
    unfold cstB at h
    cases h
theorem cstA_ok {K : PySem.W.Frag} : ∀ (ds : List PyData) (us : List Value), cstA K ds us = true → ∃ vs, Vals vs us ∧ ∀ H Z, DvA K H Z vs ds
  | [], us, h => by
    unfold cstA at h
    split at h
    · exact ⟨[], .nil, fun _ _ => .nil⟩
    · cases h
  | d :: ds, us, h => by
    unfold cstA at h
    split at h
    · rename_i u r
      rw [Bool.and_eq_true] at h
      obtain ⟨v, r1, q1⟩ := cstB_ok d u h.1
      obtain ⟨vs, r2, q2⟩ := cstA_ok ds r h.2
      exact ⟨v :: vs, .cons r1 r2, fun H Z => .cons (q1 H Z) (q2 H Z)⟩
    · cases h
end
def cstG (K : PySem.W.Frag) (x : Str) (d : PyData) : Bool := match PySem.W.nsIn K mainGlobals x with
  | some (some u) => cstB K d u
  | _ => false
def bltG (K : PySem.W.Frag) (x : Str) (id : String) : Bool := match PySem.W.nsIn K mainGlobals x with
  | some (some (.builtin i)) => decide (i = id)
  | _ => false
theorem cstG_ok {K : PySem.W.Frag} {h : Heap} {mg : Str → Option Value} (X : K.In h) (G : h.Ns mainGlobals mg) {x : Str} {ds : List PyData} (c : cstG K x (.tuple ds) = true) : ∃ a, mg x = some (.ref a) ∧ ∀ H Z, Dv K H Z (.ref a) (.tuple ds) := by
  unfold cstG at c
  split at c
  · rename_i u e
    obtain ⟨v, r, q⟩ := cstB_ok _ u c
    cases q (fun _ => none) [] with
    | @tup a xs _ h1 h2 =>
      cases r
      exact ⟨a, PySem.W.mg_of X G e, q⟩
  · cases c
theorem bltG_ok {K : PySem.W.Frag} {h : Heap} {mg : Str → Option Value} (X : K.In h) (G : h.Ns mainGlobals mg) {x : Str} {id : String} (c : bltG K x id = true) : mg x = some (.builtin id) := by
  unfold bltG at c
  split at c
  · rename_i i e
    rw [PySem.W.mg_of X G e, of_decide_eq_true c]
  · cases c
/-! ### the hook -/
abbrev AlX : Type := He.AlD × Bool
def obsX (n : Nat) (fa : List He.Fa) (fn : List He.DefD) (ex : PySem.W.Frag → Bool) (g : Addr → Option Obj) : AlX := (He.obsD fa fn (He.frG g (He.asD g n)), ex (He.frG g (He.asD g n)))
def hookX (n : Nat) (fa : List He.Fa) (fn : List He.DefD) (ex : PySem.W.Frag → Bool) : PySem.W.Hook where
  α := AlX
  obs := fun s => obsX n fa fn ex s.heap.get?
  val := fun _ => (He.valD fn, true)
  says := fun _ h => ∃ K : PySem.W.Frag, K.In h ∧ He.SaysD fa fn K ∧ ex K = true
  of := fun _ _ e => ⟨_, He.frG_in, congrArg (fun z : AlX => z.1) e, congrArg (fun z : AlX => z.2) e⟩
  keeps := fun _ _ _ ⟨K, hK, c⟩ k => ⟨K, PySem.W.Frag.In.keeps hK k, c⟩
theorem obsX_eq {n : Nat} {fa : List He.Fa} {fn : List He.DefD} {ex : PySem.W.Frag → Bool} {g : Addr → Option Obj} {s : Shared} (h : ∀ a, g a = s.heap.get? a) : obsX n fa fn ex g = (hookX n fa fn ex).obs s := by
  have e : g = s.heap.get? := funext h
  rw [e] <;> rfl
/-! ### a def behind the head -/
structure Dfn (K : PySem.W.Frag) (mg : Str → Option Value) (x nm : Str) (st : Stmt) : Prop where
  ex : ∃ f fd, FunD K nm nm (defArgs st) (defBody st) (defScope st) [] [] f fd ∧ mg x = some (.ref f)
theorem fn_no {P : Program} {w : World} {K : PySem.W.Frag} {mg : Str → Option Value} {base : Heap} {N ps : List Str} {x qual : Str} {params : Arguments} {body : List Stmt} {scope : Scope} {f : Addr} {fd : FuncData} {run : List Arg → M PyData} (F : FunD K x qual params body scope [] [] f fd) (S : FnScope N ps scope) (h : ∀ args cs, run args cs = none) :
    FnOk P w K mg base CX0 1 f fd ps (spD K run) := by
  refine F.ok S (fun vs H Q E q => ?_) (fun cdv A outer s H vs Q E hr q => ?_)
  · obtain ⟨Z, c, cs, args, d, cs', z, cz, ce, r, e, q⟩ := q
    rw [h] at e
    cases e
  · obtain ⟨Z, c, cs, args, d, cs', z, cz, ce, r, e, q⟩ := q
    rw [h] at e
    cases e
def tCup (K : PySem.W.Frag) : TS := tSeq (tAsg (tCB (fun xs H Q => ∃ i, xs = [V.int i] ∧ Q (V.int (if i < 0 then -i else i)) H) (tCons (tOp (rIxL K) (tOp rCat (tCB (fun xs H_1 Q => ∃ p ys, xs = [V.ref p] ∧ (SqL K H_1 p ys ∨ SqT K H_1 p ys) ∧ ∀ (l : Addr), H_1 l = none → Q (V.ref l) (upd H_1 l (HO.lst ys))) (tCons (tVar 0) tNil)) (tLst (tCons (tC (V.int 0)) tNil))) (tC (V.int 0))) tNil)) (gName 1))
  (tRet (tLst (tCons (tIf (tTest (tOp (rI0 fun i j => V.bl (decide (j ≤ i))) (tVar 1) (tOp (rI CPow fun i j => V.int (i ^ j.toNat)) (tC (V.int 10)) (tC (V.int 18))))) (tOp (rI (fun x j => j ≠ 0 ∧ j.natAbs.log2 < 9000) fun i j => V.int (i.fdiv j)) (tVar 1) (tC (V.int 181))) (tC (V.int 0)))
    (tCons (tOp (rI0 fun i j => V.int (i + j)) (tOp (rI (fun x j => j ≠ 0) fun i j => V.int (i.fmod j)) (tCB (fun xs H Q => (∃ i, xs = [V.int i] ∧ Q (V.int i) H) ∨ ∃ k, xs = [V.bl k] ∧ Q (V.int (if k = true then 1 else 0)) H) (tCons (tOp (rI0 fun i j => V.int (i + j)) (tOp (rI (fun x j => Builtin.Int.intBits j ≤ 64) fun i j => V.int (i * j)) (tVar 1) (tC (V.int 439))) (tC (V.int 6529))) tNil)) (tC (V.int 99991))) (tC (V.int 283))) tNil))))
theorem head_at (ns : List Int) : atI (ns.map V.int ++ [V.int 0]) 0 = some (V.int ((ns ++ [0]).headD 0)) := by
  cases ns with
  | nil => rfl
  | cons n ns =>
    unfold atI ixN
    have h : (0 : Int) < (((n :: ns).map V.int ++ [V.int 0]).length : Nat) := by simp only [List.length_append, List.length_cons, List.length_nil]; omega
    rw [if_pos (Int.le_refl 0), if_pos h]
    rfl
theorem cup_pure {K : PySem.W.Frag} (vs : List V) (H : Hp) (Q : VK) (E : XK) (h : spCup K vs H Q E) : tCup K { nx := fun _ H' => Q .non H', rt := Q } (L2.start ["script", "cell"] vs) H := by
  obtain ⟨a, ns, rfl, hS, hn, q⟩ := h
  have hs : sizeLine = 16777216 := by decide
  refine ⟨.ref a, rfl, a, ns.map V.int, rfl, .inl hS, fun l1 h1 => ?_⟩
  refine ⟨by show 1 ≤ sizeLine; rw [hs]; decide, fun l2 h2 => ?_⟩
  have n21 : l2 ≠ l1 := fun e => by rw [e, upd_same] at h2; cases h2
  refine ⟨l1, l2, _, _, rfl, rfl, (upd_ne (Ne.symm n21)).trans upd_same, upd_same, by rw [List.length_map, hs]; show ns.length + 1 ≤ 16777216; omega, fun l3 h3 => ?_⟩
  refine ⟨l3, _, 0, _, rfl, rfl, .inl (.inl upd_same), head_at ns, ?_⟩
  refine ⟨_, rfl, ?_⟩
  have hg : Later H [] (upd (upd (upd H l1 (.lst (ns.map V.int))) l2 (.lst [V.int 0])) l3 (.lst (ns.map V.int ++ [V.int 0]))) [] := ⟨fun b o e _ => by
    have n1 : b ≠ l1 := fun z => by rw [z, h1] at e; cases e
    have e1 : upd H l1 (.lst (ns.map V.int)) b = some o := (upd_ne n1).trans e
    have n2 : b ≠ l2 := fun z => by rw [z, h2] at e1; cases e1
    have e2 : upd (upd H l1 (.lst (ns.map V.int))) l2 (.lst [V.int 0]) b = some o := (upd_ne n2).trans e1
    have n3 : b ≠ l3 := fun z => by rw [z, h3] at e2; cases e2
    exact (upd_ne n3).trans e2, fun _ h => by cases h⟩
  generalize upd (upd (upd H l1 (.lst (ns.map V.int))) l2 (.lst [V.int 0])) l3 (.lst (ns.map V.int ++ [V.int 0])) = H3 at hg
  have key : ∀ x : Int, x = cellOf ns → tRet (tLst (tCons (tIf (tTest (tOp (rI0 fun i j => V.bl (decide (j ≤ i))) (tVar 1) (tOp (rI CPow fun i j => V.int (i ^ j.toNat)) (tC (V.int 10)) (tC (V.int 18))))) (tOp (rI (fun x j => j ≠ 0 ∧ j.natAbs.log2 < 9000) fun i j => V.int (i.fdiv j)) (tVar 1) (tC (V.int 181))) (tC (V.int 0)))
    (tCons (tOp (rI0 fun i j => V.int (i + j)) (tOp (rI (fun x j => j ≠ 0) fun i j => V.int (i.fmod j)) (tCB (fun xs H Q => (∃ i, xs = [V.int i] ∧ Q (V.int i) H) ∨ ∃ k, xs = [V.bl k] ∧ Q (V.int (if k = true then 1 else 0)) H) (tCons (tOp (rI0 fun i j => V.int (i + j)) (tOp (rI (fun x j => Builtin.Int.intBits j ≤ 64) fun i j => V.int (i * j)) (tVar 1) (tC (V.int 439))) (tC (V.int 6529))) tNil)) (tC (V.int 99991))) (tC (V.int 283))) tNil))) { nx := fun _ H' => Q .non H', rt := Q } [some (.ref a), some (.int x)] H3 := fun x hx => by
    refine ⟨_, rfl, _, _, rfl, rfl, ⟨by decide, by decide, by decide⟩, _, _, rfl, rfl, _, rfl, ?_⟩
    have go : ∀ y : Int, y = (if x ≥ 1000000000000000000 then x.fdiv 181 else 0) → tCons (tOp (rI0 fun i j => V.int (i + j)) (tOp (rI (fun x j => j ≠ 0) fun i j => V.int (i.fmod j)) (tCB (fun xs H Q => (∃ i, xs = [V.int i] ∧ Q (V.int i) H) ∨ ∃ k, xs = [V.bl k] ∧ Q (V.int (if k = true then 1 else 0)) H) (tCons (tOp (rI0 fun i j => V.int (i + j)) (tOp (rI (fun x j => Builtin.Int.intBits j ≤ 64) fun i j => V.int (i * j)) (tVar 1) (tC (V.int 439))) (tC (V.int 6529))) tNil)) (tC (V.int 99991))) (tC (V.int 283))) tNil [some (.ref a), some (.int x)] H3 fun xs H2 => (V.int y :: xs).length ≤ sizeLine ∧ ∀ p, H2 p = none → Q (.ref p) (upd H2 p (.lst (V.int y :: xs))) := fun y hy => by
      refine ⟨_, rfl, _, _, rfl, rfl, (by show Builtin.Int.intBits 439 ≤ 64; decide), _, _, rfl, rfl, .inl ⟨_, rfl, _, _, rfl, rfl, (by show (99991 : Int) ≠ 0; decide), _, _, rfl, rfl, by show 2 ≤ sizeLine; rw [hs]; decide, fun p hp => ?_⟩⟩
      refine q p _ (fun b o e => (upd_ne fun z => ?_).trans (hg.1 b o e (by simp))) ?_ ?_
      · have := hg.1 b o e (by simp)
        rw [z, hp] at this
        cases this
      · rw [upd_same, hx, hy, hx]
        rfl
      · cases e : H p with
        | none => rfl
        | some o => rw [hg.1 p o e (by simp)] at hp; cases hp
    by_cases hb : (1000000000000000000 : Int) ≤ x
    · have e : decide ((10 : Int) ^ (18 : Int).toNat ≤ x) = true := decide_eq_true (by show (10 : Int) ^ 18 ≤ x; omega)
      rw [e]
      exact ⟨_, rfl, _, _, rfl, rfl, (by show (181 : Int) ≠ 0 ∧ (181 : Int).natAbs.log2 < 9000; decide), go _ (if_pos hb).symm⟩
    · have e : decide ((10 : Int) ^ (18 : Int).toNat ≤ x) = false := decide_eq_false (by show ¬ (10 : Int) ^ 18 ≤ x; omega)
      rw [e]
      exact go _ (if_neg hb).symm
  exact key _ rfl
end Se
end
section
set_option Elab.async false
set_option linter.all false
set_option maxRecDepth 100000
set_option maxHeartbeats 4000000
namespace Se
open PySem PySem.Spec PyProof.Rows L2
/-! ### sorted(a list) -/
def ins (d : PyData) : List PyData → List PyData
  | [] => [d]
  | e :: es => if PySem.W.dataLt e d = true then e :: ins d es else d :: e :: es
def isort : List PyData → List PyData
  | [] => []
  | d :: ds => ins d (isort ds)
def leD (a b : PyData) : Bool := !PySem.W.dataLt b a
theorem leD_eq : PySem.W.dataLe false (fun d : PyData => d) = leD := PySem.W.dataLe_eq false _
theorem leD_total (a b : PyData) : (leD a b || leD b a) = true := by
  unfold leD
  cases h : PySem.W.dataLt b a with
  | false => rfl
  | true =>
    cases g : PySem.W.dataLt a b with
    | false => rfl
    | true =>
      have q := (listOrd itemOrd).trans _ _ _ h g
      rw [(listOrd itemOrd).irrefl] at q
      cases q
theorem leD_trans (a b c : PyData) (h : leD a b = true) (g : leD b c = true) : leD a c = true := by
  unfold leD at h g ⊢
  cases e : PySem.W.dataLt c a with
  | false => rfl
  | true =>
    rcases (listOrd itemOrd).negTrans _ (PySem.W.keyToks b) _ e with q | q
    · have q' : PySem.W.dataLt c b = true := q
      rw [q'] at g
      cases g
    · have q' : PySem.W.dataLt b a = true := q
      rw [q'] at h
      cases h
theorem ins_mid (d : PyData) : ∀ (l m : List PyData), (∀ e ∈ l, PySem.W.dataLt e d = true) → (∀ e, m.head? = some e → PySem.W.dataLt e d = false) → ins d (l ++ m) = l ++ d :: m
  | [], [], _, _ => rfl
  | [], e :: m, _, h => by
    show ins d (e :: m) = d :: e :: m
    unfold ins
    rw [if_neg (by rw [h e rfl]; decide)]
  | x :: l, m, h, g => by
    show ins d (x :: (l ++ m)) = x :: (l ++ d :: m)
    unfold ins
    rw [if_pos (h x List.mem_cons_self), ins_mid d l m (fun e he => h e (List.mem_cons_of_mem _ he)) g]
theorem isort_eq : ∀ ds : List PyData, isort ds = ds.mergeSort leD
  | [] => by simp [isort]
  | d :: ds => by
    obtain ⟨l, m, h1, h2, h3⟩ := List.mergeSort_cons leD_trans leD_total d ds
    have hs := List.pairwise_mergeSort leD_trans leD_total (d :: ds)
    rw [h1] at hs
    have hs2 := (List.pairwise_append.mp hs).2.1
    show ins d (isort ds) = _
    rw [isort_eq ds, h2, h1]
    refine ins_mid d l m (fun e he => ?_) (fun e he => ?_)
    · have q := h3 e he
      unfold leD at q
      simpa using q
    · have hm : e ∈ m := List.mem_of_mem_head? he
      have q := (List.pairwise_cons.mp hs2).1 e hm
      unfold leD at q
      simpa using q
def rSrt (K : PySem.W.Frag) : List V → Hp → VK → Prop := fun vs H Q => ∃ (a : Addr) (bs : List (V × PyData)), vs = [.ref a] ∧ SqL K H a (bs.map (·.1)) ∧ (∀ b ∈ bs, Dp K H b.1 b.2) ∧ PySem.W.AllAlike (bs.map (·.2)) ∧ PySem.W.Sortable (bs.map (·.2)) ∧ (∀ b ∈ bs, b.2.depth ≤ 64) ∧
  ∀ p, H p = none → Q (.ref p) (upd H p (.lst ((bs.mergeSort (PySem.W.dataLe false (·.2))).map (·.1))))
section
variable {X : Cx} {c : Addr}
theorem each_vals : ∀ {bs : List (V × PyData)} {us : List Value}, Vals (bs.map (·.1)) us → PySem.W.EachIs (fun u b => RelV b.1 u) us bs
  | [], us, h => by
    rw [List.map_nil] at h
    cases h
    exact .nil
  | b :: bs, us, h => by
    rw [List.map_cons] at h
    cases h with
    | cons r t => exact .cons r (each_vals t)
theorem vals_each : ∀ {bs : List (V × PyData)} {us : List Value}, PySem.W.EachIs (fun u b => RelV b.1 u) us bs → Vals (bs.map (·.1)) us
  | [], us, h => by
    cases h
    exact .nil
  | b :: bs, us, h => by
    cases h with
    | cons r t => exact .cons r (vals_each t)
theorem each_reads {pins : List (Addr × Obj)} {σ : L2.St} {H : Hp} {s : Shared} (I : L2.Inv X pins σ H s) : ∀ {bs : List (V × PyData)} {us : List Value}, PySem.W.EachIs (fun u b => RelV b.1 u) us bs → (∀ b ∈ bs, Dp X.K H b.1 b.2) → PySem.W.EachIs (fun u (b : V × PyData) => ∃ as, Reads s.heap u b.2 as) us bs
  | [], us, h, _ => by
    cases h
    exact .nil
  | b :: bs, us, h, g => by
    cases h with
    | cons r t =>
      obtain ⟨as, q⟩ := Dp.reads I b.2 b.1 _ (g b List.mem_cons_self) r
      exact .cons ⟨as, q⟩ (each_reads I t fun x hx => g x (List.mem_cons_of_mem _ hx))
theorem cr_srt (hu : X.A.units + 66 < cLine) : CallR X (.builtin "sorted") (rSrt X.K) := by
  intro pins s σ H vs us Q I r h
  obtain ⟨a, bs, rfl, hs, hd, ha, hk, hde, q⟩ := h
  obtain ⟨its, rv, hl, hz⟩ := I.list hs
  rw [Vals.ref1 r]
  have e := each_vals rv
  have hz' : bs.length ≤ sizeLine := by rw [List.length_map] at hz; exact hz
  refine PySem.W.sorted_data hl.isList e (each_reads I e hd) ha hk hz' (fun b hb => by have := hde b hb; omega) fun out ho eo => ?_
  obtain ⟨ep, he'⟩ := PyProof.Rows.sortedAll_at s.heap its out.toArray
  have hlen : ((bs.mergeSort (PySem.W.dataLe false (·.2))).map (·.1)).length ≤ sizeLine := by rw [List.length_map, List.length_mergeSort]; exact hz'
  exact ⟨.ref _, upd H (s.heap.objs.size + 1) (.lst ((bs.mergeSort (PySem.W.dataLe false (·.2))).map (·.1))), I.laid (t' := s.toks) (fun _ _ => PyProof.Rows.sortedAll_old) (Nat.le_succ _) ⟨hlen, out, ep, vals_each eo, he'⟩, rfl, q _ (I.hok.fresh (Nat.le_succ _))⟩
end
def tup1 : PyData → Bool
  | .tuple (_ :: _) => true
  | _ => false
def notTup : PyData → Bool
  | .none => false
  | .tuple _ => false
  | _ => true
def sortOk (es : List PyData) : Bool := es.all (fun d => es.all fun e => PySem.W.alike d e) && (es.all tup1 || es.all notTup) && es.all fun d => decide (d.depth ≤ 64)
def gSorted (ds : List PyData) : Option PyData := match ds with
  | [.list es] => if sortOk es = true then some (.list (isort es)) else none
  | _ => none
theorem zip_dva {K : PySem.W.Frag} {H : Hp} {Z : List Addr} : ∀ {xs : List V} {es : List PyData}, DvA K H Z xs es → (xs.zip es).map (·.1) = xs ∧ (xs.zip es).map (·.2) = es ∧ ∀ b ∈ xs.zip es, Dv K H Z b.1 b.2
  | _, [], h => by
    cases h
    exact ⟨rfl, rfl, fun b hb => by cases hb⟩
  | _, e :: es, h => by
    cases h with
    | cons r t =>
      obtain ⟨h1, h2, h3⟩ := zip_dva t
      refine ⟨by rw [List.zip_cons_cons, List.map_cons, h1], by rw [List.zip_cons_cons, List.map_cons, h2], fun b hb => ?_⟩
      rw [List.zip_cons_cons] at hb
      rcases List.mem_cons.mp hb with q | q
      · rw [q]; exact r
      · exact h3 b q
theorem dva_pairs {K : PySem.W.Frag} {H : Hp} {Z : List Addr} : ∀ {bs : List (V × PyData)}, (∀ b ∈ bs, Dv K H Z b.1 b.2) → DvA K H Z (bs.map (·.1)) (bs.map (·.2))
  | [], _ => .nil
  | b :: bs, h => .cons (h b List.mem_cons_self) (dva_pairs fun x hx => h x (List.mem_cons_of_mem _ hx))
theorem b_sorted {X : Cx} {c : Addr} (hu : X.A.units + 66 < cLine) : CallR X (.builtin "sorted") (rA X.K c gSorted) := callR_imp (cr_srt hu) fun vs H Q ⟨Z, ds, z, zo, cz, r, g, q⟩ => by
  unfold gSorted at g
  split at g
  · rename_i es
    split at g
    · rename_i ok
      cases g
      obtain ⟨v, rfl, rr⟩ := paired1 r
      obtain ⟨a, xs, rfl, h1, h2⟩ := rr.list
      obtain ⟨z1, z2, z3⟩ := zip_dva h2
      unfold sortOk at ok
      rw [Bool.and_eq_true, Bool.and_eq_true, Bool.or_eq_true] at ok
      obtain ⟨⟨o1, o2⟩, o3⟩ := ok
      have mem2 : ∀ b ∈ xs.zip es, b.2 ∈ es := fun b hb => by rw [← z2]; exact List.mem_map_of_mem hb
      refine ⟨a, xs.zip es, rfl, .inl (.inl (by rw [z1]; exact h1)), fun b hb => Dv.dp _ _ (z3 b hb), ?_, ?_, fun b hb => of_decide_eq_true (List.all_eq_true.mp o3 _ (mem2 b hb)), fun p hp => ?_⟩
      · rw [z2]
        exact fun d hd e he => List.all_eq_true.mp (List.all_eq_true.mp o1 d hd) e he
      · rw [z2]
        rcases o2 with o2 | o2
        · refine .inl fun d hd => ?_
          have q := List.all_eq_true.mp o2 d hd
          unfold tup1 at q
          split at q
          · exact ⟨_, _, rfl⟩
          · cases q
        · refine .inr fun d hd => ?_
          have q := List.all_eq_true.mp o2 d hd
          unfold notTup at q
          split at q
          · cases q
          · cases q
          · rename_i n1 n2
            exact ⟨n1, fun ys e => n2 ys e⟩
      · have hm : ((xs.zip es).mergeSort (PySem.W.dataLe false (·.2))).map (·.2) = isort es := by
          rw [isort_eq, ← leD_eq]
          have q := List.map_mergeSort (r := PySem.W.dataLe false (fun b : V × PyData => b.2)) (s := PySem.W.dataLe false (fun d : PyData => d)) (f := fun b : V × PyData => b.2) (l := xs.zip es) fun a _ b _ => rfl
          rw [q, z2]
        have hd : DvA X.K H Z (((xs.zip es).mergeSort (PySem.W.dataLe false (·.2))).map (·.1)) (isort es) := by
          rw [← hm]
          exact dva_pairs fun b hb => z3 b ((List.mergeSort_perm _ _).mem_iff.mp hb)
        exact fresh_lst zo cz hd q p hp
    · cases g
  · cases g
end Se
end
section
set_option Elab.async false
set_option linter.all false
set_option maxRecDepth 100000
set_option maxHeartbeats 4000000
namespace Se
open PySem PySem.Spec PyProof.Rows L2
/-! ### more owned lists -/
section
variable {X : Cx} {c : Addr} {cf : CF} {pos p : Pos} {a b e : Expr} {fa fb : SE}
theorem new_ow {K : PySem.W.Frag} {H H1 : Hp} {Z : List Addr} {σ : L2.St} {env : Ev} {cs cs1 : Cs} {t : Addr} {xs : List V} {ds : List PyData} (pr : Pre K c H Z σ env cs) (k : Keep c H H1) (ce : Cell H1 c cs1) (ht : H1 t = none) (r : DvA K H1 Z xs ds) :
    Keep c H (upd H1 t (.lst xs)) ∧ Cell (upd H1 t (.lst xs)) c cs1 ∧ RNew K H (upd H1 t (.lst xs)) Z (.ref t) (.ow (.list ds)) := by
  have p1 := pr.step k ce
  have kt : Keep c H1 (upd H1 t (.lst xs)) := .upd ht
  have ntc := rnew_c (H' := H1) p1 ht
  refine ⟨k.trans kt, (upd_cell ce ht).trans ce, t, rfl, ?_, xs, ds, rfl, upd_same, DvA.later p1.z ⟨fun a o q n => kt a o q fun z => n (z ▸ p1.cz), fun a ha => ?_⟩ _ _ r⟩
  · cases q : H t with
    | none => rfl
    | some o => rw [k t o q ntc] at ht; cases ht
  · rcases List.mem_cons.mp ha with q | q
    · rw [q]; exact .inr ht
    · exact .inl q
theorem w_list {fs : SA PyData} (hg : Gl X "list") (hm : X.mg "list" = none) (ha : PA X [e] (lA (fun H Z => DvP X.K H Z c) X.K c (fs cf))) (he : starEach [e] X.env = (false, eval e X.env) :: starEach [] X.env) (hpl : (backTo pos (starEach [] X.env)).any (·.1) = false) :
    PE X (.Call (.Name "list" p) [e] [] pos) (lW X.K c (mOw (mBI gList fs) cf)) := pe_imp (pe_callTy call_list_of hg hm bt_list ha (by decide) (by decide) he hpl) fun σ H Q ⟨Z, env, cs, t, cs', pr, e, q⟩ => by
  obtain ⟨d, c1, e1, e⟩ := bnd_some e
  obtain ⟨ds, c2, e2, e1⟩ := bnd_some e1
  obtain ⟨z, ez, e3⟩ := of_some e1
  cases e3
  cases ret_some e
  refine ⟨Z, env, cs, ds, _, pr, e2, fun vs H1 k1 ce1 r1 => ?_⟩
  unfold gList at ez
  split at ez
  · split at ez
    · rename_i xs ex
      cases ez
      obtain ⟨v, rfl, rr⟩ := paired1 r1
      obtain ⟨l, ys, rfl, h1, h2⟩ := dvp_seq rr ex
      refine ⟨l, ys, rfl, h1, fun t ht => ?_⟩
      obtain ⟨q1, q2, q3⟩ := new_ow pr k1 ce1 ht h2
      exact q _ _ q1 q2 q3
    · cases ez
  · cases ez
def gCat : PyData → PyData → Option PyData
  | .list xs, .list ys => if xs.length + ys.length ≤ line then some (.list (xs ++ ys)) else none
  | _, _ => none
theorem w_cat (ha : PE X a (lp X.K c (fa cf))) (hb : PE X b (lp X.K c (fb cf))) : PE X (.BinOp a .Add b pos) (lW X.K c (mOw (mBin gCat fa fb) cf)) := pe_imp (pe_op op_cat ha hb) fun σ H Q ⟨Z, env, cs, t, cs', pr, e, q⟩ => by
  obtain ⟨d, c1, e1, e⟩ := bnd_some e
  obtain ⟨x, c2, e2, e1⟩ := bnd_some e1
  obtain ⟨y, c3, e3, e1⟩ := bnd_some e1
  obtain ⟨z, ez, e4⟩ := of_some e1
  cases e4
  cases ret_some e
  refine ⟨Z, env, cs, x, c2, pr, e2, fun v H1 k1 ce1 r1 => ?_⟩
  have p1 := pr.step k1 ce1
  refine ⟨Z, env, c2, y, _, p1, e3, fun u H2 k2 ce2 r2 => ?_⟩
  have r1' := p1.dvp k2 r1
  unfold gCat at ez
  split at ez
  · split at ez
    · rename_i xs ys hl
      cases ez
      obtain ⟨l, us, rfl, h1, h2⟩ := r1'.list
      obtain ⟨m, ws, rfl, h3, h4⟩ := r2.list
      refine ⟨l, m, us, ws, rfl, rfl, h1, h3, by rw [h2.length, h4.length, line_eq]; exact hl, fun t ht => ?_⟩
      obtain ⟨q1, q2, q3⟩ := new_ow pr (k1.trans k2) ce2 ht (h2.append h4)
      exact q _ _ q1 q2 q3
    · cases ez
  · cases ez
end
end Se
end
section
set_option Elab.async false
set_option linter.all false
set_option maxRecDepth 100000
set_option maxHeartbeats 4000000
namespace Se
open PySem PySem.Spec PyProof.Rows L2
/-! ### two fors -/
def noOw1 : Slot → Slot
  | .ow _ => .no
  | .dI _ => .no
  | .dR _ => .no
  | s => s
def noOw (env : Ev) : Ev := env.map noOw1
theorem renv_noOw {K : PySem.W.Frag} {H : Hp} {Z : List Addr} {c : Addr} {σ : L2.St} {env : Ev} (h : REnv K H Z c σ env) : REnv K H Z c σ (noOw env) := by
  refine ⟨by unfold noOw; rw [List.length_map]; exact h.len, fun i o s e1 e2 => ?_⟩
  unfold noOw at e2
  rw [List.getElem?_map] at e2
  obtain ⟨t, et, rfl⟩ := Option.map_eq_some_iff.mp e2
  have q := h.at_ i o t e1 et
  cases t with
  | ow d => trivial
  | no => trivial
  | sh d => exact q
  | cup => exact q
  | dI ns => trivial
  | dR rs => trivial
theorem noOw_not {env : Ev} {i : Nat} {s : Slot} (e : (noOw env)[i]? = some s) : noOw1 s = s := by
  unfold noOw at e
  rw [List.getElem?_map] at e
  obtain ⟨t, et, q⟩ := Option.map_eq_some_iff.mp e
  cases t <;> (subst q; rfl)
theorem renv_later {K : PySem.W.Frag} {H H' : Hp} {Z Z' : List Addr} {c : Addr} {σ : L2.St} {env : Ev} (z : ZOk H Z) (l : Later H Z H' Z') (no : ∀ (i : Nat) (s : Slot), env[i]? = some s → noOw1 s = s) (h : REnv K H Z c σ env) : REnv K H' Z' c σ env :=
  ⟨h.len, fun i o s e1 e2 => by
    have q := h.at_ i o s e1 e2
    cases s with
    | no => trivial
    | sh d =>
      obtain ⟨v, e, r⟩ := q
      exact ⟨v, e, Dv.later z l d v r⟩
    | ow d => exact nomatch no i _ e2
    | cup => exact q
    | dI ns => exact nomatch no i _ e2
    | dR rs => exact nomatch no i _ e2⟩
def stepM (f : PyData → M (List PyData)) : List PyData → M (List PyData)
  | [] => M.ret []
  | d :: ds => M.bnd (f d) fun o => M.bnd (stepM f ds) fun r => M.ret (o ++ r)
def lcIn (cf : CF) (e1 : Ev) (vs1 : List Nat) (ft : SE) (fi1 : SI) (m1 : TgF) (ft1 fe : SE) : M (List PyData) := M.bnd (ft cf e1) fun b => match b with
  | .bool true => M.bnd (fi1 cf e1) fun ds => stepL (lcTurn cf (noOw (wipeE e1 vs1)) m1 ft1 fe) ds
  | .bool false => M.ret []
  | _ => M.of none
def lcOut (cf : CF) (e0 : Ev) (m : TgF) (vs1 : List Nat) (ft : SE) (fi1 : SI) (m1 : TgF) (ft1 fe : SE) : PyData → M (List PyData) := fun d => match m d e0 with
  | some e1 => lcIn cf e1 vs1 ft fi1 m1 ft1 fe
  | none => M.of none
theorem lcOut_some {cf : CF} {e0 : Ev} {m : TgF} {vs1 : List Nat} {ft : SE} {fi1 : SI} {m1 : TgF} {ft1 fe : SE} {d : PyData} {cs : Cs} {r : List PyData × Cs} (h : lcOut cf e0 m vs1 ft fi1 m1 ft1 fe d cs = some r) : ∃ e1, m d e0 = some e1 ∧ lcIn cf e1 vs1 ft fi1 m1 ft1 fe cs = some r := by
  unfold lcOut at h
  cases e : m d e0 with
  | none => rw [e] at h; cases h
  | some e1 => rw [e] at h; exact ⟨e1, rfl, h⟩
def mLc2 (vs vs1 : List Nat) (fi : SI) (m : TgF) (ft : SE) (fi1 : SI) (m1 : TgF) (ft1 fe : SE) : SE := fun cf env => M.bnd (fi cf env) fun ds => M.bnd (stepM (lcOut cf (wipeE env vs) m vs1 ft fi1 m1 ft1 fe) ds) fun r => if r.length ≤ line then M.ret (.list r) else M.of none
section
variable {X : Cx} {c : Addr} {cf : CF}
theorem lc2_pre {K : PySem.W.Frag} {vs vs1 is is1 : List Nat} {fi fi1 : SI} {m m1 : TgF} {ft ft1 fe : SE} {σ : L2.St} {H : Hp} {Q : VK} (hv : ∀ i ∈ is, i ∈ vs) (hv1 : ∀ i ∈ is1, i ∈ vs1)
    (h : ∃ Z env cs d cs', Pre K c H Z σ env cs ∧ mLc2 vs vs1 fi m ft fi1 m1 ft1 fe cf env cs = some (d, cs') ∧ ∀ v H', Keep c H H' → Cell H' c cs' → Dv K H' Z v d → (∃ a, v = .ref a ∧ H a = none ∧ Ow K H' (a :: Z) a d) → Q v H') :
    tLc2 (lI K c (rK c) (fi cf)) (lG K c is m) (lt K c (ft cf)) (lI K c rL (fi1 cf)) (lG K c is1 m1) (lt K c (ft1 cf)) (le K c (fe cf)) vs vs1 σ H Q := by
  obtain ⟨Z, env, cs, d, cs', p, e, q⟩ := h
  obtain ⟨ds, c1, e1, e⟩ := bnd_some e
  refine ⟨Z, env, cs, ds, c1, p, e1, fun J H1 k1 ce1 wk => fun Dd hD => ?_⟩
  obtain ⟨r, c2, e2, e⟩ := bnd_some e
  split at e
  · rename_i hlen
    cases ret_some e
    have p1 := p.step k1 ce1
    have kD : Keep c H1 (upd H1 Dd (.lst [])) := .upd hD
    have nDc : Dd ≠ c := fun q => by rw [q, ce1] at hD; cases hD
    have nH : H Dd = none := by
      cases q : H Dd with
      | none => rfl
      | some o => rw [k1 Dd o q nDc] at hD; cases hD
    have grow : ∀ {H' : Hp} {csi : Cs} {xs : List V}, Keep c H1 H' → Cell H' c csi → H' Dd = some (.lst xs) → ZOk H' (Dd :: Z) := fun {H' csi xs} kp ce hDd a ha => by
      rcases List.mem_cons.mp ha with q | q
      · rw [q, hDd]; trivial
      · exact (p1.z.keep kp ce) a q
    have rkk : ∀ {H' : Hp}, Keep c H1 H' → rK c H1 Z H' (Dd :: Z) := fun {H'} kp => ⟨kp, fun a ha => by
      rcases List.mem_cons.mp ha with q | q
      · rw [q]; exact .inr hD
      · exact .inl q⟩
    refine ⟨fun i mm H' => mm = ds.length - i ∧ i ≤ ds.length ∧ ∃ csi acc xs rest, Keep c H1 H' ∧ Cell H' c csi ∧ H' Dd = some (.lst xs) ∧ DvA K H' (Dd :: Z) xs acc ∧ stepM (lcOut cf (wipeE env vs) m vs1 ft fi1 m1 ft1 fe) (ds.drop i) csi = some (rest, cs') ∧ acc ++ rest = r, ?_, ?_⟩
    · exact ⟨ds.length, by simp, Nat.zero_le _, c1, [], [], r, kD, (upd_cell ce1 hD).trans ce1, upd_same, .nil, by simpa using e2, rfl⟩
    rintro i mm H' ⟨rfl, hi, csi, acc, xs, rest, kp, ce, hDd, hacc, hst, hr⟩
    have z' := grow kp ce hDd
    have w := wk H' (Dd :: Z) (rkk kp) z' (List.mem_cons_of_mem _ p.cz)
    by_cases hlt : i < ds.length
    · obtain ⟨d, hd⟩ : ∃ d, ds[i]? = some d := ⟨ds[i], List.getElem?_eq_getElem hlt⟩
      obtain ⟨go, yl⟩ := w.1 i d hd
      have hdrop : ds.drop i = d :: ds.drop (i + 1) := by
        rw [List.drop_eq_getElem_cons hlt]
        rw [List.getElem?_eq_getElem hlt] at hd
        rw [Option.some.inj hd]
      rw [hdrop] at hst
      obtain ⟨o, c3, e3, hst⟩ := bnd_some hst
      obtain ⟨r2, c4, e4, hst⟩ := bnd_some hst
      have e5 := ret_some hst
      refine .inr ⟨go, fun H' => ∃ csi acc xs rest, Keep c H1 H' ∧ Cell H' c csi ∧ H' Dd = some (.lst xs) ∧ DvA K H' (Dd :: Z) xs acc ∧ stepM (lcOut cf (wipeE env vs) m vs1 ft fi1 m1 ft1 fe) (ds.drop (i + 1)) csi = some (rest, cs') ∧ acc ++ rest = r, fun H' h => ⟨ds.length - (i + 1), by omega, rfl, hlt, h⟩, fun x H'' y => ?_⟩
      obtain ⟨k2, ec2, rx⟩ := yl x H'' y
      have ce2 : Cell H'' c csi := ec2.trans ce
      have z2 : ZOk H'' (Dd :: Z) := z'.keep k2 ce2
      have re0 : REnv K H'' (Dd :: Z) c σ env := p.env.grow p.z p.cz (k1.trans (kp.trans k2)) (fun a ha => by
        rcases List.mem_cons.mp ha with q | q
        · rw [q]; exact .inr nH
        · exact .inl q) fun a ha => List.mem_cons_of_mem _ ha
      obtain ⟨env', hm, e3⟩ := lcOut_some e3
      refine ⟨Dd :: Z, wipeE env vs, d, env', renv_wipe re0 vs, rx, hm, fun σ2 re2 o2 w2 => ⟨?_, ?_⟩⟩
      · rw [w2 vs hv]
        exact wipe_wipe fun w hw => hw
      obtain ⟨b, c5, e6, e3⟩ := bnd_some e3
      have p2 : Pre K c H'' (Dd :: Z) σ2 env' csi := ⟨z2, List.mem_cons_of_mem _ p.cz, ce2, re2⟩
      cases b with
      | bool k =>
        refine ⟨Dd :: Z, env', csi, k, c5, p2, e6, fun H3 k3 ce3 => ?_⟩
        have p3 := p2.step k3 ce3
        have hD3 : H3 Dd = some (.lst xs) := k3 Dd _ (k2 Dd _ hDd nDc) nDc
        have hacc3 : DvA K H3 (Dd :: Z) xs acc := DvA.later z' ((k2.trans k3).later (List.mem_cons_of_mem _ p.cz)) _ _ hacc
        cases k with
        | true =>
          refine (if_pos rfl : (if true = true then _ else _) = _).mpr ?_
          obtain ⟨ds1, c6, e7, e3⟩ := bnd_some e3
          refine ⟨Dd :: Z, env', c5, ds1, c6, p3, e7, fun J1 H4 k4 ce4 wk1 => ?_⟩
          have p4 := p3.step k4 ce4
          have hD4 : H4 Dd = some (.lst xs) := k4 Dd _ hD3 nDc
          have rn4 : REnv K H4 (Dd :: Z) c (wipe σ2 vs1) (noOw (wipeE env' vs1)) := renv_noOw (renv_wipe p4.env vs1)
          have nD4 : ∀ {b : Addr}, H4 b = none → b ≠ Dd := fun {b} q z => by rw [z, hD4] at q; cases q
          refine ⟨fun j mm Hj => mm = ds1.length - j ∧ j ≤ ds1.length ∧ ∃ csj acc xs restj, Keep c H1 Hj ∧ Later H4 (Dd :: Z) Hj (Dd :: Z) ∧ Cell Hj c csj ∧ Hj Dd = some (.lst xs) ∧ DvA K Hj (Dd :: Z) xs acc ∧ stepL (lcTurn cf (noOw (wipeE env' vs1)) m1 ft1 fe) (ds1.drop j) csj = some (restj, c3) ∧ acc ++ (restj ++ r2) = r, ?_, ?_⟩
          · cases e5
            exact ⟨ds1.length, by simp, Nat.zero_le _, c6, acc, xs, o, kp.trans (k2.trans (k3.trans k4)), .refl, ce4, hD4, DvA.later p3.z (k4.later p3.cz) _ _ hacc3, by simpa using e3, hr⟩
          rintro j mm Hj ⟨rfl, hj, csj, acc, xs, restj, kpj, lj, cej, hDj, haccj, hsj, hrj⟩
          have zj := grow kpj cej hDj
          have wj := wk1 Hj (Dd :: Z) lj zj (List.mem_cons_of_mem _ p.cz)
          by_cases hltj : j < ds1.length
          · obtain ⟨dj, hdj⟩ : ∃ dj, ds1[j]? = some dj := ⟨ds1[j], List.getElem?_eq_getElem hltj⟩
            obtain ⟨goj, ylj⟩ := wj.1 j dj hdj
            have hdropj : ds1.drop j = dj :: ds1.drop (j + 1) := by
              rw [List.drop_eq_getElem_cons hltj]
              rw [List.getElem?_eq_getElem hltj] at hdj
              rw [Option.some.inj hdj]
            rw [hdropj] at hsj
            obtain ⟨oj, c7, ej, hsj⟩ := bnd_some hsj
            obtain ⟨rj, c8, fj, hsj⟩ := bnd_some hsj
            have gj := ret_some hsj
            refine .inr ⟨goj, fun Hk => ∃ csj acc xs restj, Keep c H1 Hk ∧ Later H4 (Dd :: Z) Hk (Dd :: Z) ∧ Cell Hk c csj ∧ Hk Dd = some (.lst xs) ∧ DvA K Hk (Dd :: Z) xs acc ∧ stepL (lcTurn cf (noOw (wipeE env' vs1)) m1 ft1 fe) (ds1.drop (j + 1)) csj = some (restj, c3) ∧ acc ++ (restj ++ r2) = r, fun Hk h => ⟨ds1.length - (j + 1), by omega, rfl, hltj, h⟩, fun xj Hy yj => ?_⟩
            obtain ⟨ky, ecy, rxj⟩ := ylj xj Hy yj
            have cey : Cell Hy c csj := ecy.trans cej
            have zy : ZOk Hy (Dd :: Z) := zj.keep ky cey
            have ly : Later H4 (Dd :: Z) Hy (Dd :: Z) := lj.trans (ky.later (List.mem_cons_of_mem _ p.cz))
            have rny : REnv K Hy (Dd :: Z) c (wipe σ2 vs1) (noOw (wipeE env' vs1)) := renv_later p4.z ly (fun i d => noOw_not) rn4
            obtain ⟨envj, hmj, ej⟩ := lcTurn_some ej
            refine ⟨Dd :: Z, noOw (wipeE env' vs1), dj, envj, rny, rxj, hmj, fun σ3 re3 o3 w3 => ⟨?_, ?_⟩⟩
            · rw [w3 vs1 hv1]
              exact wipe_wipe fun w hw => hw
            obtain ⟨bj, c9, e9, ej⟩ := bnd_some ej
            have p5 : Pre K c Hy (Dd :: Z) σ3 envj csj := ⟨zy, List.mem_cons_of_mem _ p.cz, cey, re3⟩
            cases bj with
            | bool kj =>
              refine ⟨Dd :: Z, envj, csj, kj, c9, p5, e9, fun H6 k6 ce6 => ?_⟩
              have p6 := p5.step k6 ce6
              have hDy : Hy Dd = some (.lst xs) := ky Dd _ hDj nDc
              have hD6 : H6 Dd = some (.lst xs) := k6 Dd _ hDy nDc
              cases kj with
              | true =>
                refine (if_pos rfl : (if true = true then _ else _) = _).mpr ?_
                obtain ⟨x', c10, e10, ej⟩ := bnd_some ej
                have e11 := ret_some ej
                cases e11
                refine ⟨Dd :: Z, envj, c9, x', c7, p6, e10, fun yv H7 k7 ce7 ry => ?_⟩
                have p7 := p6.step k7 ce7
                have hD7 : H7 Dd = some (.lst xs) := k7 Dd _ hD6 nDc
                have lq : line < sizeLine + 1 := by rw [line_eq]; exact Nat.lt_succ_self _
                have hlx : xs.length = acc.length := haccj.length
                have hl2 : acc.length < line := by
                  have q := congrArg List.length hrj
                  cases gj
                  simp only [List.length_append, List.length_cons] at q
                  omega
                have lD : Later H7 (Dd :: Z) (upd H7 Dd (.lst (xs ++ [yv]))) (Dd :: Z) := ⟨fun a o q n => by
                  rw [upd_ne fun z => n (by rw [z]; exact List.mem_cons_self)]
                  exact q, fun a h => .inl h⟩
                refine ⟨xs, hD7, by omega, c7, acc ++ [x'], xs ++ [yv], rj, fun a o q n => ?_, ?_, (upd_ne (Ne.symm nDc)).trans ce7, upd_same, ?_, ?_, ?_⟩
                · have na : a ≠ Dd := fun z => by rw [z] at q; rw [q] at hD; cases hD
                  rw [upd_ne na]
                  exact (kpj.trans (ky.trans (k6.trans k7))) a o q n
                · exact ly.trans (((k6.trans k7).later (List.mem_cons_of_mem _ p.cz)).trans lD)
                · exact DvA.later p7.z lD _ _ ((DvA.later zj ((ky.trans (k6.trans k7)).later (List.mem_cons_of_mem _ p.cz)) _ _ haccj).append (.cons ry .nil))
                · cases gj; exact fj
                · cases gj
                  rw [← hrj, List.append_assoc]
                  rfl
              | false =>
                refine (if_neg Bool.false_ne_true : (if false = true then _ else _) = _).mpr ?_
                have e11 := ret_some ej
                cases e11
                cases gj
                exact ⟨c7, acc, xs, rj, kpj.trans (ky.trans k6), ly.trans (k6.later (List.mem_cons_of_mem _ p.cz)), ce6, hD6, DvA.later zj ((ky.trans k6).later (List.mem_cons_of_mem _ p.cz)) _ _ haccj, fj, hrj⟩
            | _ => cases ej
          · have ejl : j = ds1.length := by omega
            subst ejl
            rw [List.drop_length] at hsj
            have gj := ret_some hsj
            cases gj
            cases e5
            refine .inl ⟨wj.2, c3, acc, xs, r2, kpj, cej, hDj, haccj, e4, by simpa using hrj⟩
        | false =>
          refine (if_neg Bool.false_ne_true : (if false = true then _ else _) = _).mpr ?_
          have e8 := ret_some e3
          cases e8
          cases e5
          exact ⟨c3, acc, xs, r2, kp.trans (k2.trans k3), ce3, hD3, hacc3, e4, by simpa using hr⟩
      | _ => cases e3
    · have ei : i = ds.length := by omega
      subst ei
      refine .inl ⟨w.2, ?_⟩
      rw [List.drop_length] at hst
      have e5 := ret_some hst
      cases e5
      rw [List.append_nil] at hr
      subst hr
      refine q _ H' (k1.trans kp) ce (.lst hDd (fresh_z p1.z hD) ?_) ⟨Dd, rfl, nH, xs, acc, rfl, hDd, hacc⟩
      exact DvA.later z' ⟨fun a o q n => q, fun a ha => .inl (List.mem_cons_of_mem _ ha)⟩ _ _ hacc
  · cases e
variable {elt tg iter tg1 iter1 : Expr} {ifs ifs1 : List Expr} {scope : Scope} {own : List (Str × Nat)} {vs1 : List Nat} {pos spos : Pos} {fi fi1 : SI} {is is1 : List Nat} {m m1 : TgF} {ft ft1 fe : SE} {H0 : Hp} {Z0 : List Addr}
theorem e_lc2 (hv1 : ∀ i ∈ vs1, i ∈ own.map (·.2)) (hc : X.calm = true) (hN : X.N.Nodup) (hi : PI X tg iter (lI X.K c (rK c) (fi cf))) (ok : BlkOk X.N X.env.scope scope own) (hv : ∀ i ∈ is, i ∈ own.map (·.2)) (hw : ∀ i ∈ is1, i ∈ vs1)
    (hg : ∀ (s : Shared) (H : Hp) (C : Addr) (cl : List (Str × Addr)) (fp : List Addr), PG (X.blk s H scope (compEnvC scope cl C X.env) fp) tg (lG X.K c is m)) (ht : ∀ (s : Shared) (H : Hp) (C : Addr) (cl : List (Str × Addr)) (fp : List Addr), PTs (X.blk s H scope (compEnvC scope cl C X.env) fp) ifs (lt X.K c (ft cf)))
    (hi1 : ∀ (s : Shared) (H : Hp) (C : Addr) (cl : List (Str × Addr)) (fp : List Addr), PI (X.blk s H scope (compEnvC scope cl C X.env) fp) tg1 iter1 (lI X.K c rL (fi1 cf)))
    (hg1 : ∀ (s : Shared) (H : Hp) (C : Addr) (cl : List (Str × Addr)) (fp : List Addr), PG (X.blk s H scope (compEnvC scope cl C X.env) fp) tg1 (lG X.K c is1 m1)) (ht1 : ∀ (s : Shared) (H : Hp) (C : Addr) (cl : List (Str × Addr)) (fp : List Addr), PTs (X.blk s H scope (compEnvC scope cl C X.env) fp) ifs1 (lt X.K c (ft1 cf)))
    (he : ∀ (s : Shared) (H : Hp) (C : Addr) (cl : List (Str × Addr)) (fp : List Addr), PE (X.blk s H scope (compEnvC scope cl C X.env) fp) elt (le X.K c (fe cf))) (hs : ∀ x, foldedSetIterable iter X.env x = pure x) (hs1 : ∀ env x, foldedSetIterable iter1 env x = pure x) :
    PE X (.ListComp elt [⟨tg, iter, ifs, 0⟩, ⟨tg1, iter1, ifs1, 0⟩] scope pos) (le X.K c (mLc2 (own.map (·.2)) vs1 fi m ft fi1 m1 ft1 fe cf)) :=
  pe_imp (pe_lc2 hc hN hi ok hv1 hg ht hi1 hg1 ht1 he hs hs1) fun σ H Q ⟨Z, env, cs, d, cs', p, e, q⟩ => lc2_pre hv hw ⟨Z, env, cs, d, cs', p, e, fun v H' k ce r _ => q v H' k ce r⟩
theorem w_lc2 (hv1 : ∀ i ∈ vs1, i ∈ own.map (·.2)) (hc : X.calm = true) (hN : X.N.Nodup) (hi : PI X tg iter (lI X.K c (rK c) (fi cf))) (ok : BlkOk X.N X.env.scope scope own) (hv : ∀ i ∈ is, i ∈ own.map (·.2)) (hw : ∀ i ∈ is1, i ∈ vs1)
    (hg : ∀ (s : Shared) (H : Hp) (C : Addr) (cl : List (Str × Addr)) (fp : List Addr), PG (X.blk s H scope (compEnvC scope cl C X.env) fp) tg (lG X.K c is m)) (ht : ∀ (s : Shared) (H : Hp) (C : Addr) (cl : List (Str × Addr)) (fp : List Addr), PTs (X.blk s H scope (compEnvC scope cl C X.env) fp) ifs (lt X.K c (ft cf)))
    (hi1 : ∀ (s : Shared) (H : Hp) (C : Addr) (cl : List (Str × Addr)) (fp : List Addr), PI (X.blk s H scope (compEnvC scope cl C X.env) fp) tg1 iter1 (lI X.K c rL (fi1 cf)))
    (hg1 : ∀ (s : Shared) (H : Hp) (C : Addr) (cl : List (Str × Addr)) (fp : List Addr), PG (X.blk s H scope (compEnvC scope cl C X.env) fp) tg1 (lG X.K c is1 m1)) (ht1 : ∀ (s : Shared) (H : Hp) (C : Addr) (cl : List (Str × Addr)) (fp : List Addr), PTs (X.blk s H scope (compEnvC scope cl C X.env) fp) ifs1 (lt X.K c (ft1 cf)))
    (he : ∀ (s : Shared) (H : Hp) (C : Addr) (cl : List (Str × Addr)) (fp : List Addr), PE (X.blk s H scope (compEnvC scope cl C X.env) fp) elt (le X.K c (fe cf))) (hs : ∀ x, foldedSetIterable iter X.env x = pure x) (hs1 : ∀ env x, foldedSetIterable iter1 env x = pure x) :
    PE X (.ListComp elt [⟨tg, iter, ifs, 0⟩, ⟨tg1, iter1, ifs1, 0⟩] scope pos) (lW X.K c (mOw (mLc2 (own.map (·.2)) vs1 fi m ft fi1 m1 ft1 fe) cf)) := pe_imp (pe_lc2 hc hN hi ok hv1 hg ht hi1 hg1 ht1 he hs hs1) fun σ H Q ⟨Z, env, cs, t, cs', p, e, q⟩ => by
  obtain ⟨d, c1, e1, e⟩ := bnd_some e
  cases ret_some e
  exact lc2_pre hv hw ⟨Z, env, cs, d, _, p, e1, fun v H' k ce _ ro => q v H' k ce ro⟩
theorem p_setLc2 {i : Nat} {y : Str} {py : Pos} (hv1 : ∀ i ∈ vs1, i ∈ own.map (·.2)) (hc : X.calm = true) (hN : X.N.Nodup) (hy : X.N[i]? = some y) (hyl : X.env.scope.names.lookup y = some .local)
    (hsw : swapsWith (.ListComp elt [⟨tg, iter, ifs, 0⟩, ⟨tg1, iter1, ifs1, 0⟩] scope pos) (some (.Name y py)) spos.line X.env = pure true) (hi : PI X tg iter (lI X.K c (rK c) (fi cf))) (ok : BlkOk X.N X.env.scope scope own) (hv : ∀ i ∈ is, i ∈ own.map (·.2)) (hw : ∀ i ∈ is1, i ∈ vs1)
    (hg : ∀ (s : Shared) (H : Hp) (C : Addr) (cl : List (Str × Addr)) (fp : List Addr), PG (X.blk s H scope (compEnvC scope cl C X.env) fp) tg (lG X.K c is m)) (ht : ∀ (s : Shared) (H : Hp) (C : Addr) (cl : List (Str × Addr)) (fp : List Addr), PTs (X.blk s H scope (compEnvC scope cl C X.env) fp) ifs (lt X.K c (ft cf)))
    (hi1 : ∀ (s : Shared) (H : Hp) (C : Addr) (cl : List (Str × Addr)) (fp : List Addr), PI (X.blk s H scope (compEnvC scope cl C X.env) fp) tg1 iter1 (lI X.K c rL (fi1 cf)))
    (hg1 : ∀ (s : Shared) (H : Hp) (C : Addr) (cl : List (Str × Addr)) (fp : List Addr), PG (X.blk s H scope (compEnvC scope cl C X.env) fp) tg1 (lG X.K c is1 m1)) (ht1 : ∀ (s : Shared) (H : Hp) (C : Addr) (cl : List (Str × Addr)) (fp : List Addr), PTs (X.blk s H scope (compEnvC scope cl C X.env) fp) ifs1 (lt X.K c (ft1 cf)))
    (he : ∀ (s : Shared) (H : Hp) (C : Addr) (cl : List (Str × Addr)) (fp : List Addr), PE (X.blk s H scope (compEnvC scope cl C X.env) fp) elt (le X.K c (fe cf))) (hs : ∀ x, foldedSetIterable iter X.env x = pure x) (hs1 : ∀ env x, foldedSetIterable iter1 env x = pure x) :
    PS X (.Assign [.Name y py] (.ListComp elt [⟨tg, iter, ifs, 0⟩, ⟨tg1, iter1, ifs1, 0⟩] scope pos) spos) (lS X.K c H0 Z0 (sSet i (mSh (mLc2 (own.map (·.2)) vs1 fi m ft fi1 m1 ft1 fe)) cf)) :=
  ps_imp (ps_setLc2 hc hN hy hyl hsw hi ok hv1 hg ht hi1 hg1 ht1 he hs hs1) fun D σ H ⟨Z, env, cs, fl, cs', s, e, n, r⟩ => by
    obtain ⟨t, c1, e1, e⟩ := bnd_some e
    obtain ⟨d, c2, e2, e1⟩ := bnd_some e1
    cases ret_some e1
    cases ret_some e
    refine lc2_pre hv hw ⟨Z, env, cs, d, _, s.pre, e2, fun v H' k ce rv _ => ?_⟩
    obtain ⟨Z', s', l, _, _⟩ := s.put (t := .sh d) (i := i) k ce rv
    exact n _ rfl _ H' Z' s' l
end
end Se
end
section
set_option Elab.async false
set_option linter.all false
set_option maxRecDepth 100000
set_option maxHeartbeats 4000000
/-! sets of tuples of whole numbers: set(a tuple), len, sorted with signs -/
namespace SeS
open PySem PySem.Spec PyProof.Rows L2
section
variable {P : Program} {w : World} {A : Around} {E : Value → Shared → Prop} {s : Shared}
abbrev nob (w : World) : Obj := { cls := .type "set", dict := none, data := .set #[] 0 (.fresh 0 0 (!w.params.followText "set-order")) }
theorem none_above {h : Heap} {b : Addr} (hb : h.objs.size ≤ b) : h.get? b = none := by
  cases q : h.get? b with
  | none => rfl
  | some o => exact absurd (Nat.lt_of_lt_of_le (Heap.lt_size q) hb) (Nat.lt_irrefl _)
/-- set(t), t a tuple of tuples of whole numbers -/
theorem call_set_of_tuple {l : Addr} {items : Array Value} (ks : List (Addr × List Int)) {Q : Value → Shared → Prop} (hh : A.handled = none) (hl : s.heap.IsTuple l items) (hit : items.toList = ks.map fun p => Value.ref p.1)
    (hk : ∀ p ∈ ks, L2.IsT P w s.heap p.2 p.1) (hfew : ks.length < 64) (hu : A.units + 3 < cLine)
    (h : ∀ (h' : Heap) (tk : Nat) L es ep t, SetTR P w h' s.heap.objs.size L es ep t → Got ks ks.length L → (∀ b o, s.heap.get? b = some o → h'.get? b = some o) → Q (.ref s.heap.objs.size) { s with heap := h', toks := tk }) :
    wpAny (model P w) A (call (.type "set") [.ref l]) Q E s := by
  have hisz : items.size = ks.length := by rw [← Array.length_toList, hit, List.length_map]
  obtain ⟨c, tl, hmro⟩ := F.called_set.mro
  obtain ⟨made, sub, nt, cc⟩ := And.intro F.called_set.made (And.intro F.called_set.sub (And.intro F.called_set.notType F.called_set.canCreate))
  have tc := F.typeCall_set_1 (.ref l)
  refine wpAny_call (codeAny_of_tree ?_)
  show wpAny _ _ (callAny (.type "set") _) _ _ _
  refine wpAny_pure ⟨Code.quiet_builtin _ (by decide +kernel), codeAny_builtin F.entry_type_call ?_⟩
  rw [Around.under_plain (weight_type_call_type "set" [.ref l] []) rfl]
  repeat (any_goals (first | assumption | wp_step))
  refine codeAny_mono (code_set_led1 (.ref l) (E := E) (Q₁ := fun obj s₁ => obj = .ref s.heap.objs.size ∧ s₁ = { s with heap := s.heap.push (nob w) }) ⟨rfl, rfl⟩) fun r s₁ hr => ?_
  cases r with
  | error e => exact hr
  | ok fl =>
    cases fl with
    | ret obj =>
      obtain ⟨rfl, rfl⟩ := hr
      have hS : (s.heap.push (nob w)).get? s.heap.objs.size = some (nob w) := Heap.get?_push_size _ rfl
      have hT : Shared.TypeIs { s with heap := s.heap.push (nob w) } (.ref s.heap.objs.size) "set" := ⟨_, hS, rfl⟩
      have li := F.called_set.init.lookup
      have bi := F.called_set.init.bind (.ref s.heap.objs.size)
      repeat (any_goals (first | assumption | wp_step))
      refine codeAny_mono (codeAny_call_builtin (R := wants (fun r s₂ => r = .none ∧ ∃ h' tk L es ep t, s₂ = { s with heap := h', toks := tk } ∧ SetTR P w h' s.heap.objs.size L es ep t ∧ Got ks ks.length L ∧
          (∀ b o, s.heap.get? b = some o → h'.get? b = some o)) E) F.called_set.init.plain F.entry_set_init (check_set_init_1 hT ?_)) fun r₂ s₂ hr₂ => ?_
      · obtain ⟨ol, hol, hcl, nl, hdl⟩ := hl
        obtain ⟨ocls, odict, odata, oslots⟩ := ol
        simp only at hcl hdl
        subst hcl
        subst hdl
        have hlS : l < s.heap.objs.size := Heap.lt_size hol
        have hol' : (s.heap.push (nob w)).get? l = some { cls := .type "tuple", dict := odict, data := .seq items nl, slots := oslots } := Heap.get?_push_of_some _ hol
        have s1 := F.sub_tuple_set
        have s2 := F.sub_tuple_frozenset
        have nd : (Value.type "tuple" == Value.type "dict") = false := by decide
        have hl1 : (s.heap.push (nob w)).IsTuple l items := ⟨_, hol', rfl, nl, rfl⟩
        unfold Builtin.«set.__init__» noKeywords Builtin.Frozenset.updateFrom
        generalize ePI : pyIter = PI
        wp_walk
        subst ePI
        refine wpAny_pyIter_tuple hl1 (wpAny_bind (wpAny_runValue ?_))
        have hz : (s.heap.push (nob w)).objs.size = s.heap.objs.size + 1 := Heap.size_push ..
        have hneI : l ≠ (s.heap.push (nob w)).objs.size := by rw [hz]; exact Nat.ne_of_lt (Nat.lt_succ_of_lt hlS)
        have hSf : s.heap.objs.size ∉ [(s.heap.push (nob w)).objs.size, l] := by
          rw [hz]
          simp only [List.mem_cons, List.not_mem_nil, or_false, not_or]
          exact ⟨Nat.ne_of_lt (Nat.lt_succ_self _), Nat.ne_of_gt hlS⟩
        have hval : ∀ (i : Nat) (v : Value), items[i]? = some v → ∃ p, ks[i]? = some p ∧ v = .ref p.1 := fun i v hv => by
          rw [← Array.getElem?_toList, hit, List.getElem?_map] at hv
          obtain ⟨p, hp, e⟩ := Option.map_eq_some_iff.mp hv
          exact ⟨p, hp, e.symm⟩
        refine set_update_tups ((Walks.tuple (by simp [hh]) _ l hneI items).toS) s.heap.objs.size hSf ks hisz hfew hval s.heap hk (none_above (Nat.le_refl _)) (fun b hb => none_above (by
            rw [List.mem_singleton.mp hb, hz]
            exact Nat.le_succ _)) hu (items.size - 0) 0 _ (by omega) (Nat.zero_le _)
          ⟨⟨_, Heap.get?_push_size _ rfl, rfl, rfl⟩, (hl1.push _)⟩ (fun b o e => Heap.get?_push_of_some _ (Heap.get?_push_of_some _ e)) ?hS0 ?hR
        case hS0 => exact ⟨[], #[], 0, _, setTR_fresh (Heap.get?_push_of_some _ hS), Got.zero ks⟩
        case hR =>
          intro s' L es ep t hm hS' g' hkp
          obtain ⟨h', g2, d', tk', os'⟩ := s'
          obtain ⟨e1, e2, e3⟩ : g2 = s.gens ∧ d' = s.drawn ∧ os' = s.os := ⟨hm.gens, hm.drawn, hm.os⟩
          subst e1 e2 e3
          rw [hisz] at g'
          show wpAny _ _ _ _ _ _
          refine wpAny_pure ?_
          show wpAny _ _ (ret Value.none) _ _ _
          exact wpAny_pure ⟨rfl, h', tk', L, es, ep, t, rfl, hS', g', hkp⟩
      · cases r₂ with
        | error e => exact hr₂
        | ok fl₂ =>
          cases fl₂ with
          | ret r =>
            obtain ⟨rfl, h', tk, L, es, ep, t, rfl, hS', g', hk'⟩ := hr₂
            repeat (any_goals (first | assumption | wp_step))
            exact h _ _ _ _ _ _ hS' g' hk'
          | _ => exact hr₂.elim
    | _ => exact hr.elim
end
end SeS
end
section
set_option Elab.async false
set_option linter.all false
set_option maxRecDepth 100000
set_option maxHeartbeats 4000000
namespace SeS
open PySem PySem.Spec PyProof.Rows L2
abbrev rowD (r : List Int) : PyData := .tuple (r.map .int)
theorem reads_ints {h : Heap} : ∀ {k : List Int} {vs : List Value}, IntsAre vs k → ReadsAll h vs (k.map PyData.int) []
  | _, _, .nil => .nil
  | _, _, .cons k t r => .cons (as := []) (.int k t) (reads_ints r)
theorem reads_row {P : Program} {w : World} {h : Heap} {k : List Int} {b : Addr} (x : L2.IsT P w h k b) : Reads h (.ref b) (rowD k) [] := by
  obtain ⟨o, items, n, ho, hc, hd, hi⟩ := x
  exact .tuple ho hc hd (reads_ints (ints_of_items hi))
theorem alike_ints : ∀ (xs ys : List Int), PySem.W.alikeAll (xs.map PyData.int) (ys.map PyData.int) = true
  | [], _ => by simp [PySem.W.alikeAll]
  | x :: xs, [] => by simp [PySem.W.alikeAll]
  | x :: xs, y :: ys => by simp [PySem.W.alikeAll, PySem.W.alike, alike_ints xs ys]
theorem alike_rows (xs ys : List Int) : PySem.W.alike (rowD xs) (rowD ys) = true := by
  simpa [PySem.W.alike] using alike_ints xs ys
theorem depth_ints : ∀ xs : List Int, PyData.depthAll (xs.map PyData.int) = 0
  | [] => by simp [PyData.depthAll]
  | x :: xs => by simp [PyData.depthAll, PyData.depth, depth_ints xs]
theorem depth_row (xs : List Int) : (rowD xs).depth ≤ 1 := by
  simp [PyData.depth, depth_ints xs]
theorem rowD_inj {a b : List Int} (h : rowD a = rowD b) : a = b := by
  have h2 : a.map PyData.int = b.map PyData.int := by injection h
  exact (List.map_inj_right fun x y e => by injection e).mp h2
theorem lt_row (xs ys : List Int) : PySem.W.dataLt (rowD xs) (rowD ys) = decide (xs < ys) := by
  rw [PySem.W.dataLt_tuple]
  exact PySem.W.dataLt_ints xs ys
theorem row_anti {xs ys : List Int} (h1 : Se.leD (rowD xs) (rowD ys) = true) (h2 : Se.leD (rowD ys) (rowD xs) = true) : xs = ys := by
  unfold Se.leD at h1 h2
  rw [lt_row] at h1 h2
  simp only [Bool.not_eq_true', decide_eq_false_iff_not] at h1 h2
  exact List.le_antisymm h1 h2
/-- the rows, each once -/
def nub : List (List Int) → List (List Int)
  | [] => []
  | r :: rs => if rs.contains r then nub rs else r :: nub rs
theorem mem_nub {x : List Int} : ∀ {rs : List (List Int)}, x ∈ nub rs ↔ x ∈ rs
  | [] => Iff.rfl
  | r :: rs => by
    unfold nub
    split
    · rename_i h
      rw [mem_nub (rs := rs), List.mem_cons]
      have h' : r ∈ rs := by simpa using h
      exact ⟨.inr, fun q => q.elim (fun e => e ▸ h') id⟩
    · rw [List.mem_cons, List.mem_cons, mem_nub (rs := rs)]
theorem nodup_nub : ∀ rs : List (List Int), (nub rs).Nodup
  | [] => .nil
  | r :: rs => by
    unfold nub
    split
    · exact nodup_nub rs
    · rename_i h
      have h' : r ∉ rs := by simpa using h
      exact List.nodup_cons.mpr ⟨fun q => h' (mem_nub.mp q), nodup_nub rs⟩
/-- one set of rows, one sorted list -/
theorem isort_rows {a b : List (List Int)} (h : a.Perm b) : Se.isort (a.map rowD) = Se.isort (b.map rowD) := by
  rw [Se.isort_eq, Se.isort_eq]
  refine List.Perm.eq_of_pairwise (le := fun x y => Se.leD x y = true) (fun x y hx hy h1 h2 => ?_) (List.pairwise_mergeSort Se.leD_trans Se.leD_total _) (List.pairwise_mergeSort Se.leD_trans Se.leD_total _)
    ((List.mergeSort_perm _ _).trans ((h.map rowD).trans (List.mergeSort_perm _ _).symm))
  obtain ⟨r, _, rfl⟩ := List.mem_map.mp ((List.mergeSort_perm _ _).mem_iff.mp hx)
  obtain ⟨t, _, rfl⟩ := List.mem_map.mp ((List.mergeSort_perm _ _).mem_iff.mp hy)
  rw [row_anti h1 h2]
/-! ### sorted(a set of rows), len of it -/
section
variable {P : Program} {w : World} {A : Around} {E : Value → Shared → Prop} {s : Shared}
theorem refs_of {L : List (Addr × List Int)} : ∀ (vs : List Value), (∀ v ∈ vs, v ∈ L.map fun q => Value.ref q.1) → ∃ M : List (Addr × List Int), vs = M.map (fun q => Value.ref q.1) ∧ ∀ q ∈ M, q ∈ L
  | [], _ => ⟨[], rfl, fun _ h => by cases h⟩
  | v :: vs, h => by
    obtain ⟨q, hq, e⟩ := List.mem_map.mp (h v List.mem_cons_self)
    obtain ⟨M, e2, h2⟩ := refs_of vs fun u hu => h u (List.mem_cons_of_mem _ hu)
    exact ⟨q :: M, by rw [List.map_cons, ← e2, e], fun x hx => (List.mem_cons.mp hx).elim (fun z => z ▸ hq) (h2 x)⟩
theorem perm_of_refs {L M : List (Addr × List Int)} (nd : (L.map (·.2)).Nodup) (one : ∀ q ∈ L, ∀ r ∈ L, q.1 = r.1 → q = r) (hs : ∀ q ∈ M, q ∈ L) (pm : (M.map fun q => Value.ref q.1).Perm (L.map fun q => Value.ref q.1)) : M.Perm L := by
  have nL : L.Nodup := nodup_of_map nd
  have nref : (L.map fun q => Value.ref q.1).Nodup := by
    refine List.pairwise_map.mpr (List.Pairwise.imp_of_mem (fun {q r} hq hr hne e => ?_) nL)
    injection e with e
    exact hne (one q hq r hr e)
  refine (List.perm_ext_iff_of_nodup (nodup_of_map (pm.nodup_iff.mpr nref)) nL).mpr fun q => ⟨hs q, fun hq => ?_⟩
  obtain ⟨r, hr, e⟩ := List.mem_map.mp (pm.mem_iff.mpr (List.mem_map.mpr ⟨q, hq, rfl⟩))
  injection e with e
  rw [← one r (hs r hr) q hq e]
  exact hr
theorem each_refs {h : Heap} : ∀ {M : List (Addr × List Int)}, (∀ q ∈ M, L2.IsT P w h q.2 q.1) → PySem.W.EachIs (fun v (q : Addr × List Int) => v = Value.ref q.1) (M.map fun q => Value.ref q.1) M ∧ ∀ a : Addr, PySem.W.EachIs (fun v (q : Addr × List Int) => ∃ as, Reads h v (rowD q.2) as ∧ a ∉ as) (M.map fun q => Value.ref q.1) M
  | [], _ => ⟨.nil, fun _ => .nil⟩
  | q :: M, h => by
    obtain ⟨h1, h2⟩ := each_refs fun x hx => h x (List.mem_cons_of_mem _ hx)
    exact ⟨.cons rfl h1, fun a => .cons ⟨[], reads_row (h q List.mem_cons_self), by simp⟩ (h2 a)⟩
theorem each_out : ∀ {M : List (Addr × List Int)} {out : List Value}, PySem.W.EachIs (fun v (q : Addr × List Int) => v = Value.ref q.1) out M → out = M.map fun q => Value.ref q.1
  | _, _, .nil => rfl
  | _, _, .cons r t => by rw [r, each_out t]; rfl
theorem sort_rows_ok (M : List (Addr × List Int)) (hne : ∀ q ∈ M, q.2 ≠ []) : PySem.W.AllAlike (M.map fun q => rowD q.2) ∧ PySem.W.Sortable (M.map fun q => rowD q.2) := by
  refine ⟨fun d hd e he => ?_, .inl fun d hd => ?_⟩
  · obtain ⟨q, _, rfl⟩ := List.mem_map.mp hd
    obtain ⟨r, _, rfl⟩ := List.mem_map.mp he
    exact alike_rows _ _
  · obtain ⟨q, hq, rfl⟩ := List.mem_map.mp hd
    cases e : q.2 with
    | nil => exact (hne q hq e).elim
    | cons x xs => exact ⟨_, _, rfl⟩
theorem sorted_set_rows {a : Addr} {L : List (Addr × List Int)} {es : Array (Int × Value)} {ep : Nat} {t : SetTable} {Q : Value → Shared → Prop} (R : SetTR P w s.heap a L es ep t) (hh : A.handled = none) (hne : ∀ p ∈ L, p.2 ≠ []) (hu : A.units + 64 < cLine)
    (hQ : ∀ s' p (out : Array Value) (c : Nat) (L' : List (Addr × List Int)), (∀ b o, s.heap.get? b = some o → s'.heap.get? b = some o) → s'.gens = s.gens → s'.os = s.os → s.heap.objs.size ≤ p →
      s'.heap.get? p = some (seqObj "list" out c) → out.toList = L'.map (fun q => Value.ref q.1) → L'.Perm L → L'.map (fun q => rowD q.2) = Se.isort (L.map fun q => rowD q.2) → Q (.ref p) s') :
    wpAny (model P w) A (call (.builtin "sorted") [.ref a]) Q E s := by
  obtain ⟨o, ho, hex, hd⟩ := R.ob
  have hsz := R.size
  have hfew := R.few
  refine Calls.call_function_entry kind_sorted plain_sorted entry_sorted (args_sorted1 _) ?_
  unfold Builtin.«sorted»
  refine wpAny_bind (m := checkCount "sorted" 1 1 _) (wpAny_pure ?_)
  refine wpAny_bind (collect_set (A := A.in1) hh ⟨o, ho, hex.1, hd⟩ R.fits (by unfold scanBound; omega) R.tab.ris R.led fun s1 vs k1 hz g1 o1 pm => ?_)
  have hes : es.toList.map (·.2) = L.map fun q => Value.ref q.1 := by
    rw [R.rows]
    unfold rowsOf
    rw [List.map_map]
    rfl
  rw [hes] at pm
  obtain ⟨M, rfl, hM⟩ := refs_of (L := L) vs fun v hv => pm.mem_iff.mp hv
  have pML : M.Perm L := perm_of_refs R.nd (fun q hq r hr e => by
    have a1 := R.tup q hq
    have a2 := R.tup r hr
    rw [e] at a1
    exact Prod.ext e (a1.inj a2)) hM pm
  have hMl : M.length = L.length := pML.length_eq
  refine wpAny_bind (wpAny_newList ?_ (by rw [List.length_map, sizeLine_eq]; omega))
  have hoL : (s1.heap.push (seqObj "list" (M.map fun q => Value.ref q.1).toArray 0)).get? s1.heap.objs.size = some (seqObj "list" (M.map fun q => Value.ref q.1).toArray 0) := Heap.get?_push_size _ rfl
  have isT : ∀ q ∈ M, L2.IsT P w (s1.heap.push (seqObj "list" (M.map fun q => Value.ref q.1).toArray 0)) q.2 q.1 := fun q hq => isT_keep (R.tup q (hM q hq)) fun b u e => Heap.get?_push_of_some _ (k1 b u e)
  obtain ⟨e1, e2⟩ := each_refs isT
  obtain ⟨al, so⟩ := sort_rows_ok M fun q hq => hne q (hM q hq)
  refine wpAny_bind (wpAny_holding (PySem.W.list_sort_data (s := { s1 with heap := s1.heap.push (seqObj "list" (M.map fun q => Value.ref q.1).toArray 0) }) (enc := fun q : Addr × List Int => rowD q.2) hoL e1 (e2 _) al so (by rw [hMl, sizeLine_eq]; omega) (fun q _ => ?_) fun out hl eo => ?_))
  · have := depth_row q.2
    show A.in1.units + 1 + (rowD q.2).depth < cLine
    have hA : A.in1.units ≤ A.units + 1 := by simp [Around.in1, Around.under]
    omega
  have eo' := each_out eo
  obtain ⟨c, hc⟩ := sortedHeap_at (vs := M.map fun q => Value.ref q.1) (out := out.toArray) hoL
  have pL := (List.mergeSort_perm M (PySem.W.dataLe false fun q : Addr × List Int => rowD q.2)).trans pML
  refine wpAny_pure ⟨_, rfl, hQ _ s1.heap.objs.size out.toArray c (M.mergeSort (PySem.W.dataLe false fun q : Addr × List Int => rowD q.2)) (fun b u e => ?_) g1 o1 hz hc (by rw [eo']) pL ?_⟩
  · have q := k1 b u e
    have hlt := Heap.lt_size q
    show (sortedHeap (s1.heap.push (seqObj "list" (M.map fun q => Value.ref q.1).toArray 0)) s1.heap.objs.size (M.map fun q => Value.ref q.1) out.toArray).get? b = some u
    rw [sortedHeap_old (Nat.ne_of_lt hlt) (by rw [size_push']; exact Nat.lt_succ_of_lt hlt)]
    exact Heap.get?_push_of_some _ q
  · have q := List.map_mergeSort (r := PySem.W.dataLe false fun q : Addr × List Int => rowD q.2) (s := PySem.W.dataLe false fun d : PyData => d) (f := fun q : Addr × List Int => rowD q.2) (l := M) fun a _ b _ => rfl
    rw [q, Se.leD_eq, ← Se.isort_eq]
    have z := isort_rows (pML.map fun q : Addr × List Int => q.2)
    rw [List.map_map, List.map_map] at z
    exact z
end
section
variable {X : Cx}
/-- set(xs), xs a list or a tuple of rows -/
theorem cr_setOf (hc : X.calm = true) (hu : X.A.units + 64 < cLine) : CallR X (.type "set") (fun xs H Q => ∃ (l : Addr) (ks : List (Addr × List Int)), xs = [V.ref l] ∧ (SqL X.K H l (ks.map fun p => V.ref p.1) ∨ SqT X.K H l (ks.map fun p => V.ref p.1)) ∧ (∀ p ∈ ks, SqT X.K H p.1 (p.2.map V.int)) ∧ ks.length < 64 ∧
    ∀ a L, H a = none → (∀ p ∈ L, p ∈ ks) → (∀ p ∈ ks, p.2 ∈ L.map (·.2)) → Q (.ref a) (upd H a (SetTO X.prog X.w a L))) := by
  intro pins s σ H xs us Q I r h
  obtain ⟨l, ks, rfl, hl, hk, hf, q⟩ := h
  rcases hl with hl | hl
  · exact cr_setOfT hc hu pins s σ H _ us Q I r ⟨l, ks, rfl, hl, hk, hf, q⟩
  rw [Vals.ref1 r]
  obtain ⟨its, rv, hT, hz⟩ := I.tuple hl
  have hn : H s.heap.objs.size = none := I.hok.fresh (Nat.le_refl _)
  refine call_set_of_tuple (P := X.prog) (w := X.w) ks (I.ok.hd hc) hT (by simpa using refs_of_vals rv) (fun p hp => I.isT (hk p hp)) hf (by omega) fun h' tk L es ep t R g k => ?_
  refine ⟨.ref s.heap.objs.size, upd H s.heap.objs.size (SetTO X.prog X.w s.heap.objs.size L), I.laid (t' := tk) k (Nat.le_refl _) (setTO_new R.t0), rfl, q _ L hn (fun p hp => ?_) fun p hp => ?_⟩
  · exact List.mem_of_mem_take (g.sub p hp)
  · exact g.all p (by rw [List.take_length]; exact hp)
theorem cr_lenSet : CallR X (.builtin "len") (fun vs H Q => ∃ (a : Addr) (L : List (Addr × List Int)), vs = [V.ref a] ∧ H a = some (SetTO X.prog X.w a L) ∧ (∀ p ∈ L, SqT X.K H p.1 (p.2.map V.int)) ∧ ((L.map (·.2)).Nodup → Q (.int L.length) H)) := by
  intro pins s σ H vs us Q I r h
  obtain ⟨a, L, rfl, ha, hk, q⟩ := h
  have R0 : SetT0 X.prog X.w s.heap a L := (I.hok a _ ha).1
  obtain ⟨es, ep, t, R⟩ := R0.full fun p hp => I.isT (hk p hp)
  rw [Vals.ref1 r]
  obtain ⟨o, ho, hex, hd⟩ := R.ob
  have hz := R.size
  have hf := R.few
  refine call_len_set ho hex hd R.fits (by omega) ⟨.int L.length, H, I.tok _, ⟨_, by rw [hz]⟩, q R.nd⟩
theorem cr_sortSet (hc : X.calm = true) (hu : X.A.units + 66 < cLine) : CallR X (.builtin "sorted") (fun vs H Q => ∃ (a : Addr) (L : List (Addr × List Int)), vs = [V.ref a] ∧ H a = some (SetTO X.prog X.w a L) ∧ (∀ p ∈ L, SqT X.K H p.1 (p.2.map V.int)) ∧ (∀ p ∈ L, p.2 ≠ []) ∧
    ∀ (L' : List (Addr × List Int)) (p : Addr), (L.map (·.2)).Nodup → L'.Perm L → L'.map (fun q => rowD q.2) = Se.isort (L.map fun q => rowD q.2) → H p = none → Q (.ref p) (upd H p (.lst (L'.map fun q => V.ref q.1)))) := by
  intro pins s σ H vs us Q I r h
  obtain ⟨a, L, rfl, ha, hk, hne, q⟩ := h
  have R0 : SetT0 X.prog X.w s.heap a L := (I.hok a _ ha).1
  obtain ⟨es, ep, t, R⟩ := R0.full fun p hp => I.isT (hk p hp)
  rw [Vals.ref1 r]
  refine sorted_set_rows R (I.ok.hd hc) hne (by omega) fun s' p out c L' k g o hp hg hout pm eq => ?_
  have hfew : L'.length < 64 := by rw [pm.length_eq]; exact R.few
  have hlen : (L'.map fun q => V.ref q.1).length ≤ sizeLine := by rw [List.length_map, sizeLine_eq]; omega
  have hn : H p = none := I.hok.fresh hp
  have hv : Vals (L'.map fun q => V.ref q.1) out.toList := by rw [hout]; exact vals_of_refs L'
  obtain ⟨hp', g', d', tk', os'⟩ := s'
  obtain ⟨e1, e2⟩ : g' = s.gens ∧ os' = s.os := ⟨g, o⟩
  subst e1 e2
  have J : Inv X pins σ (upd H p (.lst (L'.map fun q => V.ref q.1))) { s with heap := hp', drawn := d', toks := tk' } := I.call (ch := []) (Un.laid k hp hn) (I.hok.laid k hp ⟨hlen, out.toList, c, hv, hg⟩) I.bare (fun _ z => nomatch z)
  exact ⟨.ref p, _, J, rfl, q L' p R.nd pm eq hn⟩
end
end SeS
end
section
set_option Elab.async false
set_option linter.all false
set_option maxRecDepth 100000
set_option maxHeartbeats 4000000
namespace Se
open PySem PySem.Spec PyProof.Rows L2
/-! ### len(set(..)), sorted(set(..)) -/
def asRows : List PyData → Option (List (List Int))
  | [] => some []
  | .tuple ds :: r => match asInts ds, asRows r with
    | some ns, some rs => some (ns :: rs)
    | _, _ => none
  | _ :: _ => none
theorem asRows_eq : ∀ {es : List PyData} {rs : List (List Int)}, asRows es = some rs → es = rs.map SeS.rowD
  | [], rs, h => by cases h; rfl
  | e :: es, rs, h => by
    unfold asRows at h
    split at h
    · rename_i q; cases q
    · rename_i ds r q
      cases q
      split at h
      · rename_i ns rs' h1 h2
        cases h
        rw [asInts_eq h1, asRows_eq h2]
        rfl
      · cases h
    · cases h
def rowsOf (ds : List PyData) : Option (List (List Int)) := match ds with
  | [d] => match sqL d with
    | some es => match asRows es with
      | some rs => if rs.length < 64 then some rs else none
      | none => none
    | none => none
  | _ => none
theorem rowsOf_some {ds : List PyData} {rs : List (List Int)} (h : rowsOf ds = some rs) : ∃ d es, ds = [d] ∧ sqL d = some es ∧ asRows es = some rs ∧ rs.length < 64 := by
  unfold rowsOf at h
  split at h
  · rename_i d
    split at h
    · rename_i es h1
      split at h
      · rename_i rs' h2
        split at h
        · rename_i h3
          cases h
          exact ⟨d, es, rfl, h1, h2, h3⟩
        · cases h
      · cases h
    · cases h
  · cases h
def gLenSet (ds : List PyData) : Option PyData := match rowsOf ds with
  | some rs => some (.int (SeS.nub rs).length)
  | none => none
def gSortSet (ds : List PyData) : Option PyData := match rowsOf ds with
  | some rs => if rs.all (fun r => !r.isEmpty) = true then some (.list (isort ((SeS.nub rs).map SeS.rowD))) else none
  | none => none
section
variable {X : Cx} {c : Addr} {cf : CF} {pos p p2 q : Pos} {a : Expr} {fs : SA PyData}
theorem dva_rows {K : PySem.W.Frag} {H : Hp} {Z : List Addr} : ∀ {rs : List (List Int)} {ys : List V}, DvA K H Z ys (rs.map SeS.rowD) → ∃ ks : List (Addr × List Int), ys = ks.map (fun p => V.ref p.1) ∧ (∀ p ∈ ks, SqT K H p.1 (p.2.map V.int)) ∧ ks.map (·.2) = rs
  | [], _, h => by
    cases h
    exact ⟨[], rfl, (fun _ h => by cases h), rfl⟩
  | r :: rs, _, h => by
    rw [List.map_cons] at h
    cases h with
    | @cons v vs _ _ h1 h2 =>
      obtain ⟨ks, e1, e2, e3⟩ := dva_rows h2
      cases h1 with
      | @tup b xs _ hs ha =>
        have ex := DvA.ints (ns := r) ha rfl
        subst ex
        exact ⟨(b, r) :: ks, by rw [List.map_cons, e1], fun p hp => (List.mem_cons.mp hp).elim (fun z => z ▸ hs) (e2 p), by rw [List.map_cons, e3]⟩
theorem nub_perm {ks L : List (Addr × List Int)} (nd : (L.map (·.2)).Nodup) (h1 : ∀ p ∈ L, p ∈ ks) (h2 : ∀ p ∈ ks, p.2 ∈ L.map (·.2)) : (L.map (·.2)).Perm (SeS.nub (ks.map (·.2))) :=
  (List.perm_ext_iff_of_nodup nd (SeS.nodup_nub _)).mpr fun r => by
    rw [SeS.mem_nub]
    refine ⟨fun h => ?_, fun h => ?_⟩
    · obtain ⟨p, hp, rfl⟩ := List.mem_map.mp h
      exact List.mem_map_of_mem (h1 p hp)
    · obtain ⟨p, hp, rfl⟩ := List.mem_map.mp h
      exact h2 p hp
theorem e_lenSet (hc : X.calm = true) (hu : X.A.units + 66 < cLine) (hg : Gl X "len") (hm : X.mg "len" = none) (hg2 : Gl X "set") (hm2 : X.mg "set" = none) (ha : PA X [a] (lA (fun H Z => DvP X.K H Z c) X.K c (fs cf)))
    (he : starEach [a] X.env = (false, eval a X.env) :: starEach [] X.env) (hpl : (backTo q (starEach [] X.env)).any (·.1) = false) (he2 : starEach [.Call (.Name "set" p2) [a] [] q] X.env = (false, eval (.Call (.Name "set" p2) [a] [] q) X.env) :: starEach [] X.env) (hpl2 : (backTo pos (starEach [] X.env)).any (·.1) = false) :
    PE X (.Call (.Name "len" p) [.Call (.Name "set" p2) [a] [] q] [] pos) (le X.K c (mBI gLenSet fs cf)) :=
  pe_imp (pe_callB SeS.cr_lenSet hg hm bt_len (pa_cons (pe_callTy (SeS.cr_setOf hc (by omega)) hg2 hm2 bt_set ha (by decide) (by decide) he hpl) pa_nil he2) (by decide) (by decide) he2 hpl2) fun σ H Q ⟨Z, env, cs, d, cs', pr, e, q⟩ => by
    obtain ⟨ds, c1, e1, e⟩ := bnd_some e
    obtain ⟨z, ez, e2⟩ := of_some e
    cases e2
    unfold gLenSet at ez
    split at ez
    · rename_i rs hr
      cases ez
      obtain ⟨d, es, rfl, h1, h2, h3⟩ := rowsOf_some hr
      have ee := asRows_eq h2
      subst ee
      refine ⟨Z, env, cs, _, _, pr, e1, fun vs H1 k1 ce1 r1 => ?_⟩
      have p1 := pr.step k1 ce1
      obtain ⟨v, rfl, rr⟩ := paired1 r1
      obtain ⟨l, ys, rfl, h4, h5⟩ := dvp_seq rr h1
      obtain ⟨ks, rfl, h6, rfl⟩ := dva_rows h5
      refine ⟨l, ks, rfl, h4, h6, by simpa using h3, fun b L hn hs hcv => ⟨b, L, rfl, upd_same, fun x hx => ?_, fun nd => ?_⟩⟩
      · exact SqT.later p1.z ((Keep.upd (c := c) hn).later p1.cz) (h6 x (hs x hx))
      · have kb : Keep c H1 (upd H1 b (SetTO X.prog X.w b L)) := .upd hn
        have hl : L.length = (SeS.nub (ks.map (·.2))).length := by rw [← (nub_perm nd hs hcv).length_eq, List.length_map]
        exact q _ _ (k1.trans kb) ((upd_cell ce1 hn).trans ce1) (by rw [hl]; exact .int _)
    · cases ez
theorem dva_refs {K : PySem.W.Frag} {H : Hp} {Z : List Addr} : ∀ {L : List (Addr × List Int)}, (∀ p ∈ L, SqT K H p.1 (p.2.map V.int)) → DvA K H Z (L.map fun q => V.ref q.1) (L.map fun q => SeS.rowD q.2)
  | [], _ => .nil
  | p :: L, h => .cons (.tup (h p List.mem_cons_self) (.of_ints _)) (dva_refs fun x hx => h x (List.mem_cons_of_mem _ hx))
theorem e_sortSet (hc : X.calm = true) (hu : X.A.units + 66 < cLine) (hg : Gl X "sorted") (hm : X.mg "sorted" = none) (hg2 : Gl X "set") (hm2 : X.mg "set" = none) (ha : PA X [a] (lA (fun H Z => DvP X.K H Z c) X.K c (fs cf)))
    (he : starEach [a] X.env = (false, eval a X.env) :: starEach [] X.env) (hpl : (backTo q (starEach [] X.env)).any (·.1) = false) (he2 : starEach [.Call (.Name "set" p2) [a] [] q] X.env = (false, eval (.Call (.Name "set" p2) [a] [] q) X.env) :: starEach [] X.env) (hpl2 : (backTo pos (starEach [] X.env)).any (·.1) = false) :
    PE X (.Call (.Name "sorted" p) [.Call (.Name "set" p2) [a] [] q] [] pos) (le X.K c (mBI gSortSet fs cf)) :=
  pe_imp (pe_callB (SeS.cr_sortSet hc hu) hg hm bt_sorted (pa_cons (pe_callTy (SeS.cr_setOf hc (by omega)) hg2 hm2 bt_set ha (by decide) (by decide) he hpl) pa_nil he2) (by decide) (by decide) he2 hpl2) fun σ H Q ⟨Z, env, cs, d, cs', pr, e, q⟩ => by
    obtain ⟨ds, c1, e1, e⟩ := bnd_some e
    obtain ⟨z, ez, e2⟩ := of_some e
    cases e2
    unfold gSortSet at ez
    split at ez
    · rename_i rs hr
      split at ez
      · rename_i hne
        cases ez
        obtain ⟨d, es, rfl, h1, h2, h3⟩ := rowsOf_some hr
        have ee := asRows_eq h2
        subst ee
        refine ⟨Z, env, cs, _, _, pr, e1, fun vs H1 k1 ce1 r1 => ?_⟩
        have p1 := pr.step k1 ce1
        obtain ⟨v, rfl, rr⟩ := paired1 r1
        obtain ⟨l, ys, rfl, h4, h5⟩ := dvp_seq rr h1
        obtain ⟨ks, rfl, h6, rfl⟩ := dva_rows h5
        refine ⟨l, ks, rfl, h4, h6, by simpa using h3, fun b L hn hs hcv => ?_⟩
        have kb : Keep c H1 (upd H1 b (SetTO X.prog X.w b L)) := .upd hn
        have p2 : Pre X.K c (upd H1 b (SetTO X.prog X.w b L)) Z σ env _ := p1.step kb ((upd_cell ce1 hn).trans ce1)
        have sq2 : ∀ x ∈ L, SqT X.K (upd H1 b (SetTO X.prog X.w b L)) x.1 (x.2.map V.int) := fun x hx => SqT.later p1.z (kb.later p1.cz) (h6 x (hs x hx))
        refine ⟨b, L, rfl, upd_same, sq2, fun x hx e0 => ?_, fun L' t nd pm eq ht => ?_⟩
        · have := List.all_eq_true.mp hne x.2 (List.mem_map_of_mem (hs x hx))
          rw [e0] at this
          cases this
        · have kt : Keep c (upd H1 b (SetTO X.prog X.w b L)) (upd (upd H1 b (SetTO X.prog X.w b L)) t (.lst (L'.map fun q => V.ref q.1))) := .upd ht
          refine q _ _ (k1.trans (kb.trans kt)) ((upd_cell p2.cell ht).trans p2.cell) ?_
          have hD : L'.map (fun q => SeS.rowD q.2) = isort ((SeS.nub (ks.map (·.2))).map SeS.rowD) := by
            rw [eq]
            have z := SeS.isort_rows (nub_perm nd hs hcv)
            rw [List.map_map] at z
            exact z
          rw [← hD]
          exact .lst upd_same (fresh_z p2.z ht) (p2.dva kt (dva_refs fun x hx => sq2 x (pm.mem_iff.mp hx)))
      · cases ez
    · cases ez
end
end Se
end
section
set_option Elab.async false
set_option linter.all false
set_option maxRecDepth 100000
set_option maxHeartbeats 4000000
namespace Se
open PySem PySem.Spec PyProof.Rows L2
/-! ### list.index, list.count -/
def fIdx (d : PyData) : List PyData → Nat → Option Nat
  | [], _ => none
  | z :: zs, n => if PyData.eqv z d = true then some n else fIdx d zs (n + 1)
theorem fIdx_some {d : PyData} : ∀ {ds : List PyData} {n j : Nat}, fIdx d ds n = some j → ∃ i z, j = n + i ∧ ds[i]? = some z ∧ PyData.eqv z d = true ∧ ∀ (m : Nat) (z' : PyData), m < i → ds[m]? = some z' → PyData.eqv z' d = false
  | [], _, _, h => by cases h
  | z :: zs, n, j, h => by
    unfold fIdx at h
    split at h
    · rename_i e
      cases h
      exact ⟨0, z, rfl, rfl, e, fun m z' hm => absurd hm (Nat.not_lt_zero _)⟩
    · rename_i e
      obtain ⟨i, y, rfl, h1, h2, h3⟩ := fIdx_some h
      refine ⟨i + 1, y, by omega, by simpa using h1, h2, fun m z' hm hz => ?_⟩
      cases m with
      | zero =>
        have : z = z' := by simpa using hz
        subst this
        simpa using e
      | succ m => exact h3 m z' (by omega) (by simpa using hz)
def gIndex (x y : PyData) : Option PyData := match x with
  | .list ds => if shp (.list ds) = true ∧ shp y = true then (match fIdx y ds 0 with
    | some j => some (.int (j : Nat))
    | none => none) else none
  | _ => none
def gCount (x y : PyData) : Option PyData := match x, y with
  | .list ds, .int k => (match asInts ds with
    | some ns => some (.int (ns.count k : Nat))
    | none => none)
  | _, _ => none
theorem gIndex_some {x y z : PyData} (h : gIndex x y = some z) : ∃ ds j, x = .list ds ∧ shp (.list ds) = true ∧ shp y = true ∧ fIdx y ds 0 = some j ∧ z = .int (j : Nat) := by
  unfold gIndex at h
  split at h
  · split at h
    · rename_i hs
      split at h
      · rename_i j hj
        cases h
        exact ⟨_, j, rfl, hs.1, hs.2, hj, rfl⟩
      · cases h
    · cases h
  · cases h
theorem gCount_some {x y z : PyData} (h : gCount x y = some z) : ∃ ds k ns, x = .list ds ∧ y = .int k ∧ asInts ds = some ns ∧ z = .int (ns.count k : Nat) := by
  unfold gCount at h
  split at h
  · split at h
    · rename_i ns hn
      cases h
      exact ⟨_, _, ns, rfl, rfl, hn, rfl⟩
    · cases h
  · cases h
section
variable {X : Cx} {c : Addr} {cf : CF} {pos apos cpos : Pos} {o e : Expr} {fo fe : SE} {es : List Expr}
theorem tyV_list {K : PySem.W.Frag} {H : Hp} {a : Addr} {xs : List V} (h : H a = some (.lst xs)) : tyV K "list" (.ref a) H := .inl ⟨rfl, xs, .inl (.inl h)⟩
theorem e_index (hu : X.A.units + 66 < cLine) (ho : PE X o (lp X.K c (fo cf))) (he : PE X e (lp X.K c (fe cf)))
    (h1 : starEach [e] X.env = (false, eval e X.env) :: starEach [] X.env) (hbase : attributeBase o "index" X.env (eval o X.env) = eval o X.env)
    (hfew : ((backTo cpos (starEach [e] X.env)).all (fun x => !x.1) && (backToKw cpos (keywordEach [] X.env)).all (fun x => x.1.isSome)
      && decide ([e].length + ([] : List Keyword).length + (if ([] : List Keyword).isEmpty then 0 else 1) < 30)) = true)
    (hline : (apos.endLine == cpos.line) = true) (hplain : (backTo cpos (starEach [] X.env)).any (·.1) = false) :
    PE X (.Call (.Attribute o "index" apos) [e] [] cpos) (le X.K c (mBin gIndex fo fe cf)) :=
  pe_imp (pe_bm PySem.F.plainAttrs_list PySem.F.slot_list_index PySem.F.type_list_index (mt_indexD (by omega)) ho (pa_cons he pa_nil h1) hbase hfew hline h1 hplain) fun σ H Q ⟨Z, env, cs, d, cs', p, e, q⟩ => by
    obtain ⟨x, c1, e1, e⟩ := bnd_some e
    obtain ⟨y, c2, e2, e⟩ := bnd_some e
    obtain ⟨z, ez, e3⟩ := of_some e
    cases e3
    refine ⟨Z, env, cs, x, c1, p, e1, fun v H1 k1 ce1 r1 => ?_⟩
    have p1 := p.step k1 ce1
    obtain ⟨ds, j, rfl, s1, s2, hj, rfl⟩ := gIndex_some ez
    obtain ⟨a, xs, rfl, h3, h4⟩ := r1.list
    refine ⟨tyV_list h3, Z, env, c1, y, _, p1, e2, fun u H2 k2 ce2 r2 => ?_⟩
    obtain ⟨i, z, rfl, g1, g2, g3⟩ := fIdx_some hj
    refine ⟨a, u, y, ds, i, z, rfl, rfl, (p1.dvp k2 r1).dp, r2.dp, s1, s2, g1, g2, g3, ?_⟩
    have q' := q (.int ((0 + i : Nat) : Int)) H2 (k1.trans k2) ce2 (.int _)
    rw [Nat.zero_add] at q'
    exact q'
theorem e_count (ho : PE X o (lp X.K c (fo cf))) (he : PE X e (lp X.K c (fe cf)))
    (h1 : starEach [e] X.env = (false, eval e X.env) :: starEach [] X.env) (hbase : attributeBase o "count" X.env (eval o X.env) = eval o X.env)
    (hfew : ((backTo cpos (starEach [e] X.env)).all (fun x => !x.1) && (backToKw cpos (keywordEach [] X.env)).all (fun x => x.1.isSome)
      && decide ([e].length + ([] : List Keyword).length + (if ([] : List Keyword).isEmpty then 0 else 1) < 30)) = true)
    (hline : (apos.endLine == cpos.line) = true) (hplain : (backTo cpos (starEach [] X.env)).any (·.1) = false) :
    PE X (.Call (.Attribute o "count" apos) [e] [] cpos) (le X.K c (mBin gCount fo fe cf)) :=
  pe_imp (pe_bm PySem.F.plainAttrs_list PySem.F.slot_list_count PySem.F.type_list_count mt_lcount ho (pa_cons he pa_nil h1) hbase hfew hline h1 hplain) fun σ H Q ⟨Z, env, cs, d, cs', p, e, q⟩ => by
    obtain ⟨x, c1, e1, e⟩ := bnd_some e
    obtain ⟨y, c2, e2, e⟩ := bnd_some e
    obtain ⟨z, ez, e3⟩ := of_some e
    cases e3
    refine ⟨Z, env, cs, x, c1, p, e1, fun v H1 k1 ce1 r1 => ?_⟩
    have p1 := p.step k1 ce1
    obtain ⟨ds, k, ns, rfl, rfl, hn, rfl⟩ := gCount_some ez
    obtain ⟨a, xs, rfl, h3, h4⟩ := r1.list
    refine ⟨tyV_list h3, Z, env, c1, _, _, p1, e2, fun u H2 k2 ce2 r2 => ?_⟩
    have eu := r2.int
    subst eu
    obtain ⟨a2, xs2, ea, h5, h6⟩ := (p1.dvp k2 r1).list
    cases ea
    have ex := h6.ints (asInts_eq hn)
    subst ex
    exact ⟨a, ns, k, rfl, rfl, .inl (.inl h5), q _ H2 (k1.trans k2) ce2 (.int _)⟩
/-! ### list(range(..)) -/
def gLRng (ds : List PyData) : Option PyData := match ds with
  | [.int j] => if rngOk j = true ∧ j.toNat ≤ line then some (.list (rngD 0 j.toNat)) else none
  | [.int i, .int j] => if (rngOk i = true ∧ rngOk j = true) ∧ (j - i).toNat ≤ line then some (.list (rngD i (j - i).toNat)) else none
  | _ => none
theorem rgV_dva {K : PySem.W.Frag} {H : Hp} {Z : List Addr} {a b : Int} : DvA K H Z (rgV a b) (rngD a (b - a).toNat) := by
  have e : rngD a (b - a).toNat = ((List.range (b - a).toNat).map fun i => a + ((i : Nat) : Int)).map PyData.int := by
    refine List.ext_getElem? fun i => ?_
    cases h : (rngD a (b - a).toNat)[i]? with
    | none =>
      rw [List.getElem?_eq_none_iff, rngD_len] at h
      rw [List.getElem?_eq_none (by rw [List.length_map, List.length_map, List.length_range]; exact h)]
    | some d =>
      obtain ⟨h1, rfl⟩ := rngD_get h
      rw [List.getElem?_map, List.getElem?_map, List.getElem?_range h1]
      rfl
  rw [e]
  have e2 : rgV a b = ((List.range (b - a).toNat).map fun i => a + ((i : Nat) : Int)).map V.int := by
    unfold rgV
    rw [List.map_map]
    rfl
  rw [e2]
  exact .of_ints _
theorem e_lrng1 {a : Expr} {fa : SE} {p p2 q2 : Pos} (hc : X.calm = true) (hg : Gl X "list") (hm : X.mg "list" = none) (hg2 : Gl X "range") (hm2 : X.mg "range" = none) (ha : PE X a (lp X.K c (fa cf)))
    (na : starEach [a] X.env = (false, eval a X.env) :: starEach [] X.env) (nb : starEach [.Call (.Name "range" p2) [a] [] q2] X.env = (false, eval (.Call (.Name "range" p2) [a] [] q2) X.env) :: starEach [] X.env) :
    PE X (.Call (.Name "list" p) [.Call (.Name "range" p2) [a] [] q2] [] pos) (le X.K c (mBI gLRng (mCons fa mNil) cf)) :=
  pe_imp (pe_listRg hc hg hm (prg_1 hg2 hm2 ha na) nb) fun σ H Q ⟨Z, env, cs, d, cs', pr, e, q⟩ => by
    obtain ⟨ds, c1, e1, e⟩ := bnd_some e
    obtain ⟨z, ez, e2⟩ := of_some e
    cases e2
    obtain ⟨x, c2, e3, e1⟩ := bnd_some e1
    obtain ⟨xs, c3, e4, e1⟩ := bnd_some e1
    cases ret_some e4
    cases ret_some e1
    refine ⟨Z, env, cs, x, _, pr, e3, fun v H1 k1 ce1 r1 => ?_⟩
    have p1 := pr.step k1 ce1
    unfold gLRng at ez
    split at ez
    · rename_i j ej
      cases ej
      split at ez
      · rename_i hj
        cases ez
        have ev := r1.int
        subst ev
        obtain ⟨h1, h2⟩ := rngOk_iff hj.1
        have hl := hj.2
        unfold line at hl
        refine ⟨j, rfl, ⟨by omega, by omega, h1, h2, by omega⟩, fun t ht => ?_⟩
        have kt : Keep c H1 (upd H1 t (.lst (rgV 0 j))) := .upd ht
        have dv := rgV_dva (K := X.K) (H := upd H1 t (.lst (rgV 0 j))) (Z := Z) (a := 0) (b := j)
        rw [Int.sub_zero] at dv
        exact q _ _ (k1.trans kt) ((upd_cell ce1 ht).trans ce1) (.lst upd_same (fresh_z p1.z ht) dv)
      · cases ez
    · rename_i i j ej
      cases ej
    · cases ez
theorem e_lrng2 {a b : Expr} {fa fb : SE} {p p2 q2 : Pos} (hc : X.calm = true) (hg : Gl X "list") (hm : X.mg "list" = none) (hg2 : Gl X "range") (hm2 : X.mg "range" = none) (ha : PE X a (lp X.K c (fa cf))) (hb : PE X b (lp X.K c (fb cf)))
    (na : starEach [a, b] X.env = (false, eval a X.env) :: starEach [b] X.env) (na2 : starEach [b] X.env = (false, eval b X.env) :: starEach [] X.env) (hp : (backTo q2 (starEach [b] X.env)).any (·.1) = false)
    (nb : starEach [.Call (.Name "range" p2) [a, b] [] q2] X.env = (false, eval (.Call (.Name "range" p2) [a, b] [] q2) X.env) :: starEach [] X.env) :
    PE X (.Call (.Name "list" p) [.Call (.Name "range" p2) [a, b] [] q2] [] pos) (le X.K c (mBI gLRng (mCons fa (mCons fb mNil)) cf)) :=
  pe_imp (pe_listRg hc hg hm (prg_2 hg2 hm2 ha hb na na2 hp) nb) fun σ H Q ⟨Z, env, cs, d, cs', pr, e, q⟩ => by
    obtain ⟨ds, c1, e1, e⟩ := bnd_some e
    obtain ⟨z, ez, e2⟩ := of_some e
    cases e2
    obtain ⟨x, c2, e3, e1⟩ := bnd_some e1
    obtain ⟨xs, c3, e4, e1⟩ := bnd_some e1
    obtain ⟨y, c4, e5, e4⟩ := bnd_some e4
    obtain ⟨ys, c5, e6, e4⟩ := bnd_some e4
    cases ret_some e6
    cases ret_some e4
    cases ret_some e1
    refine ⟨Z, env, cs, x, _, pr, e3, fun v H1 k1 ce1 r1 => ?_⟩
    have p1 := pr.step k1 ce1
    refine ⟨Z, env, _, y, _, p1, e5, fun u H2 k2 ce2 r2 => ?_⟩
    have p2 := p1.step k2 ce2
    unfold gLRng at ez
    split at ez
    · rename_i j ej
      cases ej
    · rename_i i j ej
      cases ej
      split at ez
      · rename_i hj
        cases ez
        have ev := r1.int
        have eu := r2.int
        subst ev eu
        obtain ⟨h1, h2⟩ := rngOk_iff hj.1.1
        obtain ⟨h3, h4⟩ := rngOk_iff hj.1.2
        have hl := hj.2
        unfold line at hl
        refine ⟨i, j, rfl, rfl, ⟨h1, h2, h3, h4, by omega⟩, fun t ht => ?_⟩
        have kt : Keep c H2 (upd H2 t (.lst (rgV i j))) := .upd ht
        exact q _ _ ((k1.trans k2).trans kt) ((upd_cell ce2 ht).trans ce2) (.lst upd_same (fresh_z p2.z ht) rgV_dva)
      · cases ez
    · cases ez
/-! ### a def with a star -/
/-- its promise, by its values -/
def spS (K : PySem.W.Frag) (run : List Arg → M PyData) : Sp := fun vs H Q _ => ∃ Z c cs ds d cs', ZOk H Z ∧ c ∈ Z ∧ Cell H c cs ∧ Paired (Dv K H Z) vs ds ∧ vs.length ≤ sizeLine ∧ run [.dat (.tuple ds)] cs = some (d, cs') ∧ ∀ v H', Keep c H H' → Cell H' c cs' → Dv K H' Z v d → Q v H'
def CalS (P : Program) (w : World) (K : PySem.W.Frag) (mg : Str → Option Value) (base : Heap) (m : Nat) (x : Str) (run : List Arg → M PyData) : Prop :=
  ∃ f, FnR P w K mg base CX0 m f (spS K run) ∧ mg x = some (.ref f) ∧ PySem.W.keepIn K (.ref f) = true
theorem cs_ {m j : Nat} {fs : SA PyData} {x : Str} {e : Expr} {es : List Expr} {p : Pos} (C : CalS X.prog X.w X.K X.mg X.base m x (cf j)) (hr : Room m X.A) (ha : PA X (e :: es) (lA (fun H Z => Dv X.K H Z) X.K c (fs cf))) (hsh : Short (fs cf)) (hg : Gl X x) (hdb : (x == ("__debug__" : Str)) = false)
    (he : starEach (e :: es) X.env = (false, eval e X.env) :: starEach es X.env) (hpl : (backTo pos (starEach es X.env)).any (·.1) = false) : PE X (.Call (.Name x p) (e :: es) [] pos) (le X.K c (mCall j (mCons (aDat (mTup fs)) mNil) cf)) := by
  obtain ⟨f, F, hm, hk⟩ := C
  refine ⟨fun pins s σ H Q I h => ?_⟩
  obtain ⟨Z, env, cs, d, cs', pr, e, q⟩ := h
  obtain ⟨as, c1, e1, e⟩ := bnd_some e
  obtain ⟨a1, c2, e2, e1⟩ := bnd_some e1
  obtain ⟨xs, c3, e4, e1⟩ := bnd_some e1
  cases ret_some e4
  cases ret_some e1
  obtain ⟨d2, c4, e5, e2⟩ := bnd_some e2
  cases ret_some e2
  obtain ⟨ds, c5, e6, e5⟩ := bnd_some e5
  cases ret_some e5
  refine wpAny_Call_Name_kw (ld_glob I hg hm ?_ hdb)
  refine PySem.W.callWith_K (h₀ := X.base) I.ok.mod.kin hk (thn (ha.run pos pins s σ H (fun vs H1 => spS X.K (cf j) vs H1 Q E0) I ⟨Z, env, cs, ds, _, pr, e6, fun vs H1 k1 ce1 r1 => ?_⟩) fun us s1 ⟨vs, H1, I1, r, q⟩ => ⟨I1.kIn, ?_⟩) he hpl
  · have p1 := pr.step k1 ce1
    exact ⟨Z, c, _, ds, d, cs', p1.z, p1.cz, ce1, r1, by rw [paired_len r1]; exact hsh _ _ _ _ e6, e, fun v H' k ce r => q v H' (k1.trans k) ce r⟩
  · exact wpAny_call (run_fnR F hr pass0 I1 r q)
end
section
variable {P : Program} {w : World} {K : PySem.W.Frag} {mg : Str → Option Value} {base : Heap}
theorem fn_okS {N : List Str} {pv x qual : Str} {params : Arguments} {body : List Stmt} {scope : Scope} {f : Addr} {fd : FuncData} {m : Nat} {Fi : SS} {cf : CF} (F : FunD K x qual params body scope [] [] f fd) (S : FnScope N [pv] scope)
    (hb : ∀ (kV doc pm : Value) (an : Option Addr) (cdv ct : Value) (rest : List Value), bindArgs (PySem.W.fnOf x qual params body scope .none kV doc pm an cdv ct) ⟨rest, []⟩ = (newTuple rest >>= fun t => pure [(pv, t)]))
    (hP : ∀ (cdv : Value) (A : Around) (outer : List Env) (s : Shared) (H : Hp) (E : XK) (c : Addr) (H0 : Hp) (Z0 : List Addr), Room m (A.deeper (envOfC qual scope s.heap.objs.size f cdv)) → ZOk H0 Z0 → PSs (cxOf CX0 P w K mg base N qual scope f cdv A outer s H E).nox body (lS K c H0 Z0 (Fi cf))) :
    FnR P w K mg base CX0 (m + 1) f (spS K (runB Fi N.length 1 cf)) := by
  obtain ⟨oc, od, dV, kV, doc, pm, an, cdv, ct, osl, rfl, lk, hcd, hD, _⟩ := F.ex
  have hD : dV = .none := by
    rcases hD with ⟨_, q⟩ | ⟨e, _⟩
    · exact q
    · exact absurd rfl e
  subst hD
  refine FnR.imp (StX.fn_star (ps := []) (pv := pv) (sp := spD K (runB Fi N.length 1 cf)) lk hcd S StX.cxUp_none (fun us rest hl => ?_) fun A outer s H vs Q E hr h => ?_) fun vs H Q E h => ?_
  · obtain rfl : us = [] := List.length_eq_zero_iff.mp hl
    exact hb kV doc pm an cdv ct rest
  · obtain ⟨Z, c, cs, args, d, cs', z, cz, ce, r, e, q⟩ := h
    refine ⟨lS K c H Z (Fi cf), PSs.nox (hP cdv A outer s H E c H Z hr z), ?_⟩
    unfold runB at e
    split at e
    · unfold endOf at e
      have st : Sta K c H Z H Z (L2.start N vs) (envOf N.length args) cs := ⟨⟨z, cz, ce, env_start r⟩, .refl, fun _ h => h, own_start⟩
      split at e
      · rename_i e2 c2 hf
        cases e
        exact ⟨Z, _, cs, _, _, st, hf, fun e3 _ σ' H' Z' s' _ => q _ H' s'.keep s'.pre.cell .non, fun d hd => by cases hd⟩
      · rename_i d2 c2 hf
        cases e
        refine ⟨Z, _, cs, _, _, st, hf, (fun e3 he => by cases he), fun d hd v H' k ce' rv => ?_⟩
        cases hd
        exact q v H' k ce' rv
      · cases e
    · cases e
  · obtain ⟨Z, c, cs, ds, d, cs', z, cz, ce, r, hl, e, q⟩ := h
    refine ⟨[], vs, rfl, rfl, hl, fun p hp => ⟨Z, c, cs, [.dat (.tuple ds)], d, cs', ?_, cz, ?_, .cons ?_ .nil, e, fun v H' k ce' rv => ?_⟩⟩
    · have kp : Keep c H (upd H p (.tup vs)) := .upd hp
      exact z.keep kp ((upd_cell ce hp).trans ce)
    · exact (upd_cell ce hp).trans ce
    · have kp : Keep c H (upd H p (.tup vs)) := .upd hp
      exact .tup (SqT.of upd_same) (DvA.later z (kp.later cz) _ _ (paired_dva r))
    · have kp : Keep c H (upd H p (.tup vs)) := .upd hp
      exact q v H' (kp.trans k) ce' rv
end
end Se
end
section
set_option Elab.async false
set_option linter.all false
set_option maxRecDepth 100000
set_option maxHeartbeats 4000000
namespace Se
open PySem PySem.Spec PyProof.Rows L2 HT
/-! ### x[::-1] of a list or a tuple -/
section
variable {prog : Program} {w : World} {A : Around} {E : Value → Shared → Prop} {s : Shared}
theorem places_rev (n : Nat) : Builtin.Slice.slicePlaces ((n : Int) - 1) (-1) (-1) = n := by
  unfold Builtin.Slice.slicePlaces
  have h1 : ¬ ((-1 : Int) > 0) := by omega
  simp only [h1, if_false]
  rw [show (- -1 : Int) = 1 by decide, Int.ediv_one]
  split <;> omega
theorem sliceApplied_rev {sl : Addr} {vl vu vs : Value} {n : Nat} {Q : Int × Int × Nat → Shared → Prop} (hs : s.heap.IsSliceOf sl vl vu vs) (pl : IsPart vl none) (pu : IsPart vu none) (ps : IsPart vs (some (-1)))
    (h : Q ((n : Int) - 1, -1, n) s) : wpAny (model prog w) A (Builtin.Slice.sliceApplied (.ref sl) (pure (n : Int))) Q E s := by
  obtain ⟨os, hos, hcs, hds⟩ := id hs
  unfold Builtin.Slice.sliceApplied Builtin.Slice.sliceFields
  refine wpAny_bind (wpAny_bind (wpAny_field hos hds (x := vl) rfl (wpAny_bind (wpAny_field hos hds (x := vu) rfl (wpAny_bind (wpAny_field hos hds (x := vs) rfl (wpAny_pure ?_)))))))
  refine wpAny_bind (slicePart_ ps ?_)
  show wpAny _ _ (if ((-1 : Int) == 0) = true then _ else _) _ _ s
  rw [if_neg (by decide)]
  refine wpAny_bind (slicePart_ pl (wpAny_bind (slicePart_ pu (wpAny_bind (wpAny_pure ?_)))))
  show wpAny _ _ (match Builtin.Slice.sliceAdjust none none (-1) (n : Int) with | (lo, hi) => pure (lo, (-1 : Int), Builtin.Slice.slicePlaces lo hi (-1))) _ _ s
  rw [show Builtin.Slice.sliceAdjust none none (-1) (n : Int) = ((n : Int) - 1, -1) from rfl]
  show wpAny _ _ (pure ((n : Int) - 1, (-1 : Int), Builtin.Slice.slicePlaces ((n : Int) - 1) (-1) (-1))) _ _ s
  rw [places_rev]
  exact wpAny_pure h
theorem pick_rev (xs : Array Value) : ((List.range xs.size).filterMap fun (m : Nat) => xs[(((xs.size : Int) - 1) + (m : Int) * (-1)).toNat]?) = xs.toList.reverse := by
  have e : (fun (m : Nat) => xs[(((xs.size : Int) - 1) + (m : Int) * (-1)).toNat]?) = ((fun x => xs[x]?) ∘ fun m => xs.size - 1 - m) := by
    funext m
    show xs[(((xs.size : Int) - 1) + (m : Int) * (-1)).toNat]? = xs[xs.size - 1 - m]?
    rw [show (((xs.size : Int) - 1) + (m : Int) * (-1)).toNat = xs.size - 1 - m by omega]
  rw [e, ← List.filterMap_map, PySem.W.krv_range, List.filterMap_reverse, PySem.W.krv_all]
theorem getItem_tuple_rev {t sl : Addr} {items : Array Value} {vl vu vs : Value} {Q : Value → Shared → Prop} (ht : IsTup s.heap t items) (hs : s.heap.IsSliceOf sl vl vu vs) (pl : IsPart vl none) (pu : IsPart vu none) (ps : IsPart vs (some (-1)))
    (h : Q (.ref s.heap.objs.size) { s with heap := s.heap.push { cls := .type "tuple", data := .seq items.toList.reverse.toArray } })
    (hsz : items.size ≤ sizeLine) : wpAny (model prog w) A (getItem (.ref t) (.ref sl)) Q E s := by
  have htake : sizeOk (.seq items.toList.reverse.toArray) := by
    show items.toList.reverse.toArray.size ≤ sizeLine
    rw [List.size_toArray, List.length_reverse, Array.length_toList]
    exact hsz
  obtain ⟨os, hos, hcs, hds⟩ := id hs
  have hTs : s.TypeIs (.ref sl) "slice" := ⟨os, hos, hcs⟩
  unfold getItem
  try with_reducible refine wpAny_holding ?_
  first | refine wpAny_bind (wpAny_pure ?_) | skip
  refine wpAny_bind (wpAny_sequenceKey ht.typeIs (by decide) ?_)
  refine wpAny_bind (wpAny_callSpecial?_slot (name := Str.ofString "__getitem__") ht.typeIs PyProof.Rows.slot_tuple_getitem
    (wpAny_call_entry PyProof.Rows.slot_tuple_getitem ht.typeIs entry_tuple_getitem ?_ (args_tuple_getitem _ _)))
  show wpAny _ _ (Builtin.Tuple.tupleItemsOf (.ref t) >>= _) _ _ s
  refine wpAny_bind (tupleItemsOf_ ht ?_)
  refine wpAny_bind (wpAny_typeOf hTs ?_)
  rw [if_pos (by decide)]
  refine wpAny_bind (sliceApplied_rev hs pl pu ps ?_)
  have hno : ¬ (((((items.size : Nat) : Int) - 1) == 0 && (-1 : Int) == 1 && items.size == items.size) = true) := by
    intro q
    rw [Bool.and_eq_true, Bool.and_eq_true] at q
    exact absurd (eq_of_beq q.1.2) (by decide)
  show wpAny _ _ (if ((((items.size : Nat) : Int) - 1) == 0 && (-1 : Int) == 1 && items.size == items.size) = true then _ else _) _ _ s
  rw [if_neg hno, pick_rev]
  first
    | exact wpAny_bind (m := Builtin.Tuple.tupleExact _) (wpAny_newObj_type (wpAny_pure ⟨_, rfl, wpAny_pure h⟩) htake)
    | exact wpAny_bind (m := Builtin.Tuple.tupleExact _) (wpAny_newObj_type (wpAny_bind (wpAny_pure (wpAny_pure ⟨_, rfl, wpAny_pure h⟩))) htake)
    | exact wpAny_bind (wpAny_bind (m := Builtin.Tuple.tupleExact _) (wpAny_newObj_type (wpAny_pure (wpAny_pure ⟨_, rfl, wpAny_pure h⟩)) htake))
    | exact wpAny_bind (wpAny_bind (m := Builtin.Tuple.tupleExact _) (wpAny_newObj_type (wpAny_pure ⟨_, rfl, wpAny_pure h⟩) htake))
end
section
variable {X : Cx} {c : Addr} {cf : CF}
def tRevA (K : PySem.W.Frag) (te : TE) : TE := fun σ H Q => te σ H fun x H1 => (∃ a xs, x = .ref a ∧ SqL K H1 a xs ∧ ∀ p, H1 p = none → Q (.ref p) (upd H1 p (.lst xs.reverse))) ∨ (∃ a xs, x = .ref a ∧ SqT K H1 a xs ∧ ∀ p, H1 p = none → Q (.ref p) (upd H1 p (.tup xs.reverse)))
theorem pe_revA {e : Expr} {te : TE} {k : Nat} {p1 p2 p3 pos : Pos} (he : PE X e te) : PE X (.Subscript e (.Slice none none (some (.UnaryOp .USub (.Constant (.int 1) k p1) p2)) p3) pos) (tRevA X.K te) := by
  refine ⟨fun pins s σ H Q I h => ?_⟩
  refine Subscript_ (thn (he.run pins s σ H _ I h) fun v s1 ⟨x, H1, I1, r1, q1⟩ => ?_)
  have hst : PO X (some (.UnaryOp .USub (.Constant (.int 1) k p1) p2)) (tPart (tUn (rU fun i => .int (-i)) (tC (.int 1)))) := po_some (pe_un un_neg pe_int)
  refine wpAny_Slice (thn (po_none.run pins s1 σ H1 (fun o H2 => o = none ∧ H2 = H1) I1 ⟨rfl, rfl⟩) fun vl s2 ⟨l, H2, I2, pl, el, e2⟩ => ?_)
  subst el e2
  refine thn (po_none.run pins s2 σ H2 (fun o H3 => o = none ∧ H3 = H2) I2 ⟨rfl, rfl⟩) fun vu s3 ⟨u, H3, I3, pu, eu, e3⟩ => ?_
  subst eu e3
  refine thn (hst.run pins s3 σ H3 (fun o H4 => o = some (-1) ∧ H4 = H3) I3 ⟨1, rfl, -1, rfl, rfl, rfl⟩) fun vs s4 ⟨o, H4, I4, ps, eo, e4⟩ => ?_
  subst eo e4
  have I5 : Inv X pins σ H4 { s4 with heap := s4.heap.push { cls := .type "slice", data := .fields #[vl, vu, vs] } } := I4.kept (t' := s4.toks) fun b ob q => Heap.get?_push_of_some _ q
  rcases q1 with q1 | q1
  · obtain ⟨a, xs, ex, hx, q⟩ := q1
    subst ex
    cases r1
    obtain ⟨its, r, ht, hz⟩ := I5.list hx
    have hlen := r.length
    show wpAny (model X.prog X.w) X.A (subscriptTail e (.Slice none none (some (.UnaryOp .USub (.Constant (.int 1) k p1) p2)) p3) (.ref a) (.ref s4.heap.objs.size)) (EP X pins σ Q) X.xe { s4 with heap := s4.heap.push { cls := .type "slice", data := .fields #[vl, vu, vs] } }
    refine tail_any (ops := [.ref a, .ref s4.heap.objs.size]) ht.isList.typeIs (PySem.slot_list_getitem.lookup) ?_ (by with_unfolding_all rfl)
    refine wpAny_getItem_list_slice ht.isList (Heap.IsSliceOf.new _ vl vu vs) pl pu ps (by decide) ?_ (by rw [List.size_toArray]; omega)
    rw [PySem.W.krv_pick]
    refine ⟨.ref _, _, I5.laid (t' := s4.toks) (o := .lst xs.reverse) (fun b ob q => Heap.get?_push_of_some _ q) (Nat.le_refl _) ?_, rfl, q _ (I5.hok.fresh (Nat.le_refl _))⟩
    exact ⟨by rw [List.length_reverse]; exact hz, _, 0, r.reverse, Heap.get?_push_size _ rfl⟩
  · obtain ⟨a, xs, ex, hx, q⟩ := q1
    subst ex
    cases r1
    obtain ⟨its, r, ht, hz⟩ := I5.tuple hx
    have hlen := r.length
    show wpAny (model X.prog X.w) X.A (subscriptTail e (.Slice none none (some (.UnaryOp .USub (.Constant (.int 1) k p1) p2)) p3) (.ref a) (.ref s4.heap.objs.size)) (EP X pins σ Q) X.xe { s4 with heap := s4.heap.push { cls := .type "slice", data := .fields #[vl, vu, vs] } }
    refine tail_any (ops := [.ref a, .ref s4.heap.objs.size]) ht.typeIs (PyProof.Rows.slot_tuple_getitem.lookup) ?_ (by with_unfolding_all rfl)
    refine getItem_tuple_rev ht (Heap.IsSliceOf.new _ vl vu vs) pl pu ps ?_ (by rw [List.size_toArray]; omega)
    refine ⟨.ref _, _, I5.laid (t' := s4.toks) (o := .tup xs.reverse) (fun b ob q => Heap.get?_push_of_some _ q) (Nat.le_refl _) ?_, rfl, q _ (I5.hok.fresh (Nat.le_refl _))⟩
    exact ⟨by rw [List.length_reverse]; exact hz, _, by simpa using r.reverse, IsTup.new _ _⟩
def gRev (d : D) : Option D := match d with
  | .list xs => some (.list xs.reverse)
  | .tuple xs => some (.tuple xs.reverse)
  | _ => none
def mRev (f : SE) : SE := fun cf env => M.bnd (f cf env) fun d => M.of (gRev d)
theorem e_rev {e : Expr} {f : SE} {k : Nat} {p1 p2 p3 pos : Pos} (he : PE X e (lp X.K c (f cf))) : PE X (.Subscript e (.Slice none none (some (.UnaryOp .USub (.Constant (.int 1) k p1) p2)) p3) pos) (le X.K c (mRev f cf)) :=
  pe_imp (pe_revA he) fun σ H Q ⟨Z, env, cs, z, cs', p, e, q⟩ => by
    obtain ⟨d, c1, e1, e⟩ := bnd_some e
    obtain ⟨z', e4, e5⟩ := of_some e
    cases e5
    refine ⟨Z, env, cs, d, _, p, e1, fun v H1 k1 ce1 r1 => ?_⟩
    have p1 := p.step k1 ce1
    have q' : ∀ v H', Keep c H1 H' → H' c = H1 c → Dv X.K H' Z v z → Q v H' := fun v H' k ec r => q v H' (k1.trans k) (ec.trans ce1) r
    unfold gRev at e4
    split at e4
    · rename_i xs
      cases e4
      obtain ⟨a, ys, rfl, g1, g2⟩ := r1.list
      exact .inl ⟨a, ys, rfl, .inl (.inl g1), fresh_lst p1.z p1.cz g2.reverse q'⟩
    · rename_i xs
      cases e4
      obtain ⟨a, ys, rfl, g1, g2⟩ := r1.tuple
      exact .inr ⟨a, ys, rfl, g1, fresh_tup p1.z p1.cz g2.reverse q'⟩
    · cases e4
end
end Se
end
section
set_option Elab.async false
set_option linter.all false
set_option maxRecDepth 100000
set_option maxHeartbeats 4000000
namespace Se
open PySem PySem.Spec PyProof.Rows L2
/-! ### a module's dict whose keys are rows of integers and whose values are integers: NAME.get(key) -/
abbrev Tbl := List (List Int × Int)
def rowI (d : PyData) : Option (List Int) := match d with
  | .tuple ds => asInts ds
  | _ => none
def dlk : Tbl → List Int → Option Int
  | [], _ => none
  | p :: t, k => if p.1 = k then some p.2 else dlk t k
def dgV (o : Option Int) : PyData := match o with
  | some v => .int v
  | none => .none
def gDget (tbl : Tbl) (d : PyData) : Option PyData := match rowI d with
  | some k => some (dgV (dlk tbl k))
  | none => none
def mDget (tbl : Tbl) (fe : SE) : SE := fun cf env => M.bnd (fe cf env) fun d => M.of (gDget tbl d)
def keyH (k : List Int) : Int := reduceHash (Builtin.Tuple.tupleHashOf (k.map hashInt))
def intsB : List Value → List Int → Bool
  | [], [] => true
  | .int i _ :: vs, k :: ks => decide (i = k) && intsB vs ks
  | _, _ => false
def rowB (K : PySem.W.Frag) (a : Addr) (k : List Int) : Bool := match K.lookup a with
  | some ⟨.type t, _, .seq its _, _⟩ => decide (t = "tuple") && intsB its.toList k
  | _ => false
def dcE (K : PySem.W.Frag) : List DictEntry → Tbl → Bool
  | [], [] => true
  | ⟨h, .ref a, .int v _⟩ :: es, (k, x) :: t => (decide (h = keyH k) && rowB K a k) && (decide (v = x) && dcE K es t)
  | _, _ => false
def dcB (K : PySem.W.Frag) (a : Addr) (tbl : Tbl) : Bool := match K.lookup a with
  | some ⟨.type t, none, .dict es _, sl⟩ => (decide (t = "dict") && sl.isEmpty) && ((!(a == sysModules)) && (decide ((tbl.map (·.1)).Nodup) && dcE K es.toList tbl))
  | _ => false
structure RowAt (K : PySem.W.Frag) (a : Addr) (k : List Int) : Prop where
  ex : ∃ o its n, K.lookup a = some o ∧ o.cls = .type "tuple" ∧ o.data = .seq its n ∧ IntsAre its.toList k
structure DcAt (K : PySem.W.Frag) (d : Addr) (tbl : Tbl) : Prop where
  ex : ∃ (o : Obj) (es : Array DictEntry) (n : Nat) (xs : List (List Int × Addr × Value)), K.lookup d = some o ∧ o.ExactDict ∧ o.data = .dict es n ∧ es.toList = xs.map (fun x => ⟨keyH x.1, .ref x.2.1, x.2.2⟩) ∧
    (∀ x ∈ xs, RowAt K x.2.1 x.1) ∧ (xs.map (·.1)).Nodup ∧ ∀ k, match dlk tbl k with
      | some v => ∃ a t, atKey xs k = some (a, .int v t)
      | none => atKey xs k = none
  low : (d == sysModules) = false
theorem intsB_ok : ∀ {vs : List Value} {ks : List Int}, intsB vs ks = true → IntsAre vs ks
  | vs, ks, h => by
    unfold intsB at h
    split at h
    · exact .nil
    · rename_i i t vs k ks
      rw [Bool.and_eq_true, decide_eq_true_iff] at h
      obtain ⟨rfl, h⟩ := h
      exact .cons _ t (intsB_ok h)
    · cases h
theorem rowB_ok {K : PySem.W.Frag} {a : Addr} {k : List Int} (h : rowB K a k = true) : RowAt K a k := by
  unfold rowB at h
  split at h
  · rename_i t d its n sl e
    rw [Bool.and_eq_true, decide_eq_true_iff] at h
    obtain ⟨rfl, h⟩ := h
    exact ⟨_, its, n, e, rfl, rfl, intsB_ok h⟩
  · cases h
theorem dcE_ok {K : PySem.W.Frag} : ∀ {es : List DictEntry} {tbl : Tbl}, dcE K es tbl = true → ∃ xs : List (List Int × Addr × Value), es = xs.map (fun x => ⟨keyH x.1, .ref x.2.1, x.2.2⟩) ∧ (∀ x ∈ xs, RowAt K x.2.1 x.1) ∧ xs.map (·.1) = tbl.map (·.1) ∧ ∀ k, match dlk tbl k with
      | some v => ∃ a t, atKey xs k = some (a, .int v t)
      | none => atKey xs k = none
  | es, tbl, h => by
    unfold dcE at h
    split at h
    · exact ⟨[], rfl, (fun _ h => by cases h), rfl, fun k => rfl⟩
    · rename_i hh a v tk es k x t
      rw [Bool.and_eq_true, Bool.and_eq_true, Bool.and_eq_true, decide_eq_true_iff, decide_eq_true_iff] at h
      obtain ⟨⟨rfl, h1⟩, rfl, h2⟩ := h
      obtain ⟨xs, rfl, g1, g2, g3⟩ := dcE_ok h2
      refine ⟨(k, a, .int v tk) :: xs, rfl, fun y hy => ?_, by rw [List.map_cons, List.map_cons, g2], fun q => ?_⟩
      · rcases List.mem_cons.mp hy with rfl | hy
        · exact rowB_ok h1
        · exact g1 y hy
      · unfold dlk atKey
        by_cases e : k = q
        · rw [if_pos e]
          exact ⟨a, tk, by rw [List.find?_cons_of_pos (by simpa using e)]; rfl⟩
        · rw [if_neg e, List.find?_cons_of_neg (by simpa using e)]
          exact g3 q
    · cases h
theorem dcB_ok {K : PySem.W.Frag} {a : Addr} {tbl : Tbl} (h : dcB K a tbl = true) : DcAt K a tbl := by
  unfold dcB at h
  split at h
  · rename_i t es n sl e
    rw [Bool.and_eq_true, Bool.and_eq_true, Bool.and_eq_true, Bool.and_eq_true, decide_eq_true_iff, decide_eq_true_iff, Bool.not_eq_true'] at h
    obtain ⟨⟨rfl, h1⟩, h2, h3, h4⟩ := h
    obtain ⟨xs, g1, g2, g3, g4⟩ := dcE_ok h4
    exact ⟨⟨_, es, n, xs, e, ⟨rfl, rfl, Array.isEmpty_iff.mp h1⟩, rfl, g1, g2, by rw [g3]; exact h3, g4⟩, h2⟩
  · cases h
def dcG (K : PySem.W.Frag) (x : Str) (tbl : Tbl) : Bool := match PySem.W.nsIn K mainGlobals x with
  | some (some (.ref a)) => dcB K a tbl
  | _ => false
theorem dcG_ok {K : PySem.W.Frag} {h : Heap} {mg : Str → Option Value} (X : K.In h) (G : h.Ns mainGlobals mg) {x : Str} {tbl : Tbl} (c : dcG K x tbl = true) : ∃ a, mg x = some (.ref a) ∧ DcAt K a tbl := by
  unfold dcG at c
  split at c
  · rename_i a e
    exact ⟨a, PySem.W.mg_of X G e, dcB_ok c⟩
  · cases c
theorem ints_items {P : Program} {w : World} : ∀ {vs : List Value} {ks : List Int}, IntsAre vs ks → ItemsAre (PySem.intKind P w) ks vs
  | _, _, .nil => .nil
  | _, _, .cons n t h => .cons (by simp [PySem.intKind, Value.isInt]) (ints_items h)
section
variable {X : Cx} {c : Addr} {cf : CF} {pos apos cpos : Pos} {o e : Expr} {fo fe : SE} {es : List Expr}
def rDget (K : PySem.W.Frag) (tbl : Tbl) : V → List V → Hp → VK → Prop := fun x xs H Q => ∃ (d : Addr) (y : Addr) (ns : List Int), x = V.ref d ∧ xs = [V.ref y] ∧ DcAt K d tbl ∧ SqT K H y (ns.map V.int) ∧ Q (match dlk tbl ns with
  | some v => .int v
  | none => .non) H
theorem mt_dget {tbl : Tbl} (hu : X.A.units + 1 < cLine) : MtR X "dict.get" (rDget X.K tbl) := by
  intro pins s σ H x xs v us Q I rx rxs h
  obtain ⟨d, y, ns, rfl, rfl, D, hs, q⟩ := h
  cases rx
  cases rxs with
  | cons ry rt =>
    rename_i uy ut
    cases rt
    cases ry
    obtain ⟨its, rv, it, _⟩ := I.tuple hs
    obtain ⟨⟨ob, en, n, xs, hk, hx, hd, he, hr, hn, hl⟩, low⟩ := D
    obtain ⟨ot, ht, hc, m, hdt⟩ := it
    have hkey : (tupleKind (PySem.intKind X.prog X.w)).is s.heap ns y := ⟨ot, its.toArray, m, ht, hc, hdt, ints_items (by simpa using rv.ints)⟩
    have hm : s.heap.DictOfH (tupleKind (PySem.intKind X.prog X.w)) d xs := by
      refine ⟨ob, en, n, I.kIn d ob hk, hx, hd, he, fun x hx => ?_, hn⟩
      obtain ⟨o1, i1, n1, z1, z2, z3, z4⟩ := hr x hx
      exact ⟨o1, i1, n1, I.kIn _ _ z1, z2, z3, ints_items z4⟩
    refine call_meetsIn PySem.F.slot_dict_get hm.typeIs PySem.F.entry_dict_get (PySem.F.args_dict_get_2 _ _) (meetsH_dict_get (tupleKind (PySem.intKind X.prog X.w)) d y low) ⟨tupleKind_room_in1 hu, ns, xs, hkey, hm, ?_⟩
    have h2 := hl ns
    cases e : dlk tbl ns with
    | some v =>
      rw [e] at h2 q
      obtain ⟨a, t, h2⟩ := h2
      rw [h2]
      exact ⟨.int v, H, I.tok _, ⟨t, rfl⟩, q⟩
    | none =>
      rw [e] at h2 q
      rw [h2]
      exact ⟨.non, H, I.tok _, rfl, q⟩
theorem pe_bmK {t : TA} {name : Str} {T id : String} {r : V → List V → Hp → VK → Prop} {a : Addr} {ob : Obj} (pa : PlainAttrs T) (slot : PySem.Slot T name id) (hty : typeOf (.builtin id) = pure (.type "method_descriptor")) (hm : MtR X id r) (ho : PE X o (tC (.ref a))) (hk : X.K.lookup a = some ob) (hc : ob.cls = .type T) (hd : ob.dict = none) (ha : PA X (e :: es) t)
    (hbase : attributeBase o name X.env (eval o X.env) = eval o X.env)
    (hfew : ((backTo cpos (starEach (e :: es) X.env)).all (fun x => !x.1) && (backToKw cpos (keywordEach [] X.env)).all (fun x => x.1.isSome)
      && decide ((e :: es).length + ([] : List Keyword).length + (if ([] : List Keyword).isEmpty then 0 else 1) < 30)) = true)
    (hline : (apos.endLine == cpos.line) = true) (hs : starEach (e :: es) X.env = (false, eval e X.env) :: starEach es X.env) (hplain : (backTo cpos (starEach es X.env)).any (·.1) = false) :
    PE X (.Call (.Attribute o name apos) (e :: es) [] cpos) (fun σ H Q => t σ H fun xs H2 => r (.ref a) xs H2 Q) := by
  refine ⟨fun pins s σ H Q I h => ?_⟩
  refine wpAny_Call_method_late hbase hfew hline rfl (thn (ho.run pins s σ H (fun x H1 => x = .ref a ∧ t σ H1 fun xs H2 => r (.ref a) xs H2 Q) I ⟨rfl, h⟩) fun v s1 ⟨x, H1, I1, r1, ex, q1⟩ => ?_)
  subst ex
  cases r1
  refine ⟨T, id, pa, slot, hty, ⟨ob, I1.kIn a ob hk, hc⟩, fun b eb => ?_, ?_⟩
  · cases eb
    exact ⟨ob, I1.kIn a ob hk, hd⟩
  have hA := ha.run cpos pins s1 σ H1 _ I1 q1
  rw [hs] at hA ⊢
  refine Calls.callWith_builtin (by show (false || (backTo cpos (starEach es X.env)).any (·.1)) = false; rw [hplain] <;> rfl) (Calls.evalArgs_plain ?_)
  exact thn hA fun us s2 ⟨vs, H2, I2, r2, q2⟩ => hm pins s2 σ H2 (.ref a) vs (.ref a) us Q I2 rfl r2 q2
theorem e_dget {x : Str} {npos : Pos} {tbl : Tbl} (hu : X.A.units + 66 < cLine) (hm : ∃ a, X.mg x = some (.ref a) ∧ DcAt X.K a tbl) (hg : Gl X x) (hdb : (x == ("__debug__" : Str)) = false) (he : PE X e (lp X.K c (fe cf)))
    (h1 : starEach [e] X.env = (false, eval e X.env) :: starEach [] X.env) (hbase : attributeBase (.Name x npos) "get" X.env (eval (.Name x npos) X.env) = eval (.Name x npos) X.env)
    (hfew : ((backTo cpos (starEach [e] X.env)).all (fun x => !x.1) && (backToKw cpos (keywordEach [] X.env)).all (fun x => x.1.isSome)
      && decide ([e].length + ([] : List Keyword).length + (if ([] : List Keyword).isEmpty then 0 else 1) < 30)) = true)
    (hline : (apos.endLine == cpos.line) = true) (hplain : (backTo cpos (starEach [] X.env)).any (·.1) = false) :
    PE X (.Call (.Attribute (.Name x npos) "get" apos) [e] [] cpos) (le X.K c (mDget tbl fe cf)) := by
  obtain ⟨a, ha, D⟩ := hm
  obtain ⟨ob, en, n, xs, hk, hx, _⟩ := D.ex
  refine pe_imp (pe_bmK PySem.F.plainAttrs_dict PySem.F.slot_dict_get PySem.F.type_dict_get (mt_dget (tbl := tbl) (by omega)) (pe_glob hg ha rfl hdb) hk hx.1 hx.2.1 (pa_cons he pa_nil h1) hbase hfew hline h1 hplain) fun σ H Q ⟨Z, env, cs, d, cs', p, e, q⟩ => ?_
  obtain ⟨x, c1, e1, e⟩ := bnd_some e
  obtain ⟨z, ez, e2⟩ := of_some e
  cases e2
  refine ⟨Z, env, cs, x, _, p, e1, fun v H1 k1 ce1 r1 => ?_⟩
  unfold gDget at ez
  split at ez
  · rename_i ns hns
    cases ez
    unfold rowI at hns
    split at hns
    · rename_i ds
      obtain ⟨y, ys, rfl, s1, s2⟩ := r1.tuple
      have e3 := s2.ints (asInts_eq hns)
      subst e3
      refine ⟨a, y, ns, rfl, rfl, D, s1, ?_⟩
      cases hl : dlk tbl ns with
      | some v => exact q _ H1 k1 ce1 (by rw [hl]; exact .int v)
      | none => exact q _ H1 k1 ce1 (by rw [hl]; exact .non)
    · cases hns
  · cases ez
end
/-! ### the hook, with the keys of dicts -/
def asK (g : Addr → Option Obj) (as : List Addr) : List Addr := as ++ as.flatMap fun a => match g a with
  | some o => (match o.data with
    | .dict es _ => es.toList.flatMap fun e => He.refV e.key
    | _ => [])
  | none => []
def obsY (n : Nat) (fa : List He.Fa) (fn : List He.DefD) (ex : PySem.W.Frag → Bool) (g : Addr → Option Obj) : AlX := (He.obsD fa fn (He.frG g (asK g (He.asD g n))), ex (He.frG g (asK g (He.asD g n))))
def hookY (n : Nat) (fa : List He.Fa) (fn : List He.DefD) (ex : PySem.W.Frag → Bool) : PySem.W.Hook where
  α := AlX
  obs := fun s => obsY n fa fn ex s.heap.get?
  val := fun _ => (He.valD fn, true)
  says := fun _ h => ∃ K : PySem.W.Frag, K.In h ∧ He.SaysD fa fn K ∧ ex K = true
  of := fun _ _ e => ⟨_, He.frG_in, congrArg (fun z : AlX => z.1) e, congrArg (fun z : AlX => z.2) e⟩
  keeps := fun _ _ _ ⟨K, hK, c⟩ k => ⟨K, PySem.W.Frag.In.keeps hK k, c⟩
theorem obsY_eq {n : Nat} {fa : List He.Fa} {fn : List He.DefD} {ex : PySem.W.Frag → Bool} {g : Addr → Option Obj} {s : Shared} (h : ∀ a, g a = s.heap.get? a) : obsY n fa fn ex g = (hookY n fa fn ex).obs s := by
  have e : g = s.heap.get? := funext h
  rw [e] <;> rfl
/-! ### the world, told by what it answers to one question (the hash of a tuple asks it) -/
def pB (p : PySem.Params) (b : Bool) : PySem.Params := { p with followText := fun x => if x = "special-get-raises" then b else p.followText x }
def wB (w : World) (b : Bool) : World := ⟨w.draws, pB w.params b⟩
theorem pB_eq (p : PySem.Params) : pB p (p.followText "special-get-raises") = p := by
  have e : (fun x => if x = "special-get-raises" then p.followText "special-get-raises" else p.followText x) = p.followText := by
    funext x
    split
    · rename_i e; rw [e]
    · rfl
  unfold pB
  rw [e]
theorem wB_eq (w : World) : wB w (w.params.followText "special-get-raises") = w := by
  unfold wB
  rw [pB_eq]
theorem all_wB {P : World → Prop} (h : ∀ w, P (wB w true)) (g : ∀ w, P (wB w false)) (w : World) : P w := by
  rw [← wB_eq w]
  cases w.params.followText "special-get-raises" with
  | true => exact h w
  | false => exact g w
end Se
end
section
set_option Elab.async false
set_option linter.all false
set_option maxRecDepth 100000
set_option maxHeartbeats 4000000
namespace Se
open PySem PySem.Spec PyProof.Rows L2
/-! ### local dicts whose values are all True -/
def putI (ns : List Int) (n : Int) : List Int := if n ∈ ns then ns else ns ++ [n]
def putR (rs : List (List Int)) (r : List Int) : List (List Int) := if r ∈ rs then rs else rs ++ [r]
def putL (L : List (Addr × List Int)) (b : Addr) (r : List Int) : List (Addr × List Int) := if r ∈ L.map (·.2) then L else L ++ [(b, r)]
theorem putL_rows (L : List (Addr × List Int)) (b : Addr) (r : List Int) : (putL L b r).map (·.2) = putR (L.map (·.2)) r := by
  unfold putL putR
  split <;> simp
theorem putL_len (L : List (Addr × List Int)) (b : Addr) (r : List Int) : (putL L b r).length ≤ L.length + 1 := by
  unfold putL
  split <;> simp
theorem mem_putL {L : List (Addr × List Int)} {b : Addr} {r : List Int} {p : Addr × List Int} (h : p ∈ putL L b r) : p ∈ L ∨ p = (b, r) := by
  unfold putL at h
  split at h
  · exact .inl h
  · rcases List.mem_append.mp h with h | h
    · exact .inl h
    · exact .inr (List.mem_singleton.mp h)
theorem nodup_putL {L : List (Addr × List Int)} {b : Addr} {r : List Int} (h : (L.map (·.2)).Nodup) : ((putL L b r).map (·.2)).Nodup := by
  rw [putL_rows]
  unfold putR
  split
  · exact h
  · rename_i n
    rw [List.nodup_append]
    refine ⟨h, by simp, fun a ha c hc e => n ?_⟩
    rw [List.mem_singleton.mp hc] at e
    rw [← e]
    exact ha
abbrev rowX (p : Addr × List Int) : List Int × Addr × Value := (p.2, p.1, .bool true)
theorem atKey_rowX (r : List Int) : ∀ L : List (Addr × List Int), (atKey (L.map rowX) r).isSome = decide (r ∈ L.map (·.2))
  | [] => rfl
  | p :: L => by
    have ih := atKey_rowX r L
    unfold atKey at ih ⊢
    rw [List.map_cons, List.find?_cons]
    by_cases e : p.2 = r
    · simp [e]
    · have e' : ¬ r = p.2 := fun q => e q.symm
      simp only [e, decide_false, ih]
      simp [e']
theorem putAt_rowX (r : List Int) : ∀ L : List (Addr × List Int), (L.map rowX).map (putAt r (.bool true)) = L.map rowX
  | [] => rfl
  | p :: L => by
    rw [List.map_cons, List.map_cons, putAt_rowX r L]
    congr 1
    unfold putAt
    split <;> rfl
theorem stored_rowX (L : List (Addr × List Int)) (b : Addr) (r : List Int) : storedH (L.map rowX) r b (.bool true) = (putL L b r).map rowX := by
  unfold storedH putL
  rw [atKey_rowX]
  by_cases e : r ∈ L.map (·.2)
  · rw [if_pos (by simpa using e), if_pos e, putAt_rowX]
  · rw [if_neg (by simpa using e), if_neg e, List.map_append]
    rfl
theorem keys_rowX (L : List (Addr × List Int)) : (L.map rowX).map (·.1) = L.map (·.2) := by
  rw [List.map_map]
  rfl
theorem ents_rowX (P : Program) (w : World) (L : List (Addr × List Int)) : (L.map rowX).map (entryOfKey (tupleKind (intKind P w))) = L.map entR := by
  rw [List.map_map]
  rfl
/-- the dict, with its rows -/
theorem DT0.of {P : Program} {w : World} {h : Heap} {a : Addr} {L : List (Addr × List Int)} (x : DT0 h a L) (ht : ∀ p ∈ L, IsT P w h p.2 p.1) : h.DictOfH (tupleKind (intKind P w)) a (L.map rowX) := by
  obtain ⟨_, nd, _, o, es, ep, h1, h2, h3, h4⟩ := x
  refine ⟨o, es, ep, h1, h2, h3, by rw [ents_rowX]; exact h4, fun y hy => ?_, by rw [keys_rowX]; exact nd⟩
  obtain ⟨p, hp, rfl⟩ := List.mem_map.mp hy
  exact ht p hp
theorem DT0.mk' {P : Program} {w : World} {h : Heap} {a : Addr} {L : List (Addr × List Int)} (x : h.DictOfH (tupleKind (intKind P w)) a (L.map rowX)) (lo : (a == sysModules) = false) (z : L.length ≤ sizeLine) : DT0 h a L := by
  obtain ⟨o, es, ep, h1, h2, h3, h4, _, h5⟩ := x
  exact ⟨lo, by rw [← keys_rowX]; exact h5, z, o, es, ep, h1, h2, h3, by rw [← ents_rowX P w]; exact h4⟩
theorem oR_ok {P : Program} {w : World} {H : Hp} {h : Heap} {a : Addr} {L : List (Addr × List Int)} (x : DT0 h a L) : ObjOk P w H h a (oR a L) := by
  have x' := x
  obtain ⟨_, _, _, o, es, ep, h1, _⟩ := x'
  refine ⟨x, ⟨o, h1⟩, fun g1 g2 p k => ?_⟩
  obtain ⟨a1, a2, a3, o', es', ep', b1, b2⟩ := p
  exact ⟨a1, a2, a3, o', es', ep', k o' b1, b2⟩
section
variable {X : Cx} {pos : Pos}
/-- {} -/
theorem pe_dR0 : PE X (.Dict [] [] pos) (fun _ H Q => ∀ p, H p = none → Q (.ref p) (upd H p (oR p []))) := ⟨fun pins s σ H Q I h =>
  wpAny_Dict_empty ⟨.ref s.heap.objs.size, _, I.laid (a := s.heap.objs.size) (o := oR s.heap.objs.size []) (t' := s.toks) (fun _ _ q => Heap.get?_push_of_some _ q) (Nat.le_refl _)
    (oR_ok ⟨beq_eq_false_iff_ne.mpr (Ne.symm (Nat.ne_of_lt I.big)), List.nodup_nil, Nat.zero_le _, _, #[], 0, Heap.get?_push_size _ rfl, ⟨rfl, rfl, rfl⟩, rfl, rfl⟩), rfl, h _ (I.hok.fresh (Nat.le_refl _))⟩⟩
/-- d[row] = True -/
def rSetR (K : PySem.W.Frag) : TSet := fun o i v H Q => ∃ a L b r, o = .ref a ∧ i = .ref b ∧ v = .bl true ∧ H a = some (oR a L) ∧ (∀ p ∈ L, SqT K H p.1 (p.2.map V.int)) ∧ SqT K H b (r.map V.int) ∧ L.length < 64 ∧ Q (upd H a (oR a (putL L b r)))
theorem set_R (hu : X.A.units + 1 < cLine) : PSet X (rSetR X.K) := by
  intro pins s σ H o i v ov iv u Q I ro ri rv h
  obtain ⟨a, L, b, r, rfl, rfl, rfl, ha, hL, hb, hz, q⟩ := h
  cases (show ov = Value.ref a from ro)
  cases (show iv = Value.ref b from ri)
  cases (show u = Value.bool true from rv)
  have D0 : DT0 s.heap a L := (I.hok a _ ha).1
  have D := D0.of (P := X.prog) (w := X.w) fun p hp => I.isT (hL p hp)
  refine wpAny_setItem_heap (hsz := by rw [List.length_map, sizeLine_eq]; omega) (tupleKind_room_in1 hu) (I.isT hb) D fun h' dd' hs => ?_
  rw [stored_rowX] at dd'
  have he : ∃ q, h'.get? a = some q := let ⟨q, _, _, hq, _⟩ := dd'; ⟨q, hq⟩
  have hl := putL_len L b r
  exact ⟨_, d_write I (by rw [ha]; exact True.intro) hs he (oR_ok (DT0.mk' dd' D0.1 (by rw [sizeLine_eq]; omega))), q⟩
end
section
variable {P : Program} {w : World} {A : Around} {E : Value → Shared → Prop} {s : Shared}
theorem sorted_dictR {a : Addr} {L : List (Addr × List Int)} {Q : Value → Shared → Prop} (R : DT0 s.heap a L) (tup : ∀ p ∈ L, IsT P w s.heap p.2 p.1) (few : L.length < 64) (hh : A.handled = none) (hne : ∀ p ∈ L, p.2 ≠ []) (hu : A.units + 64 < cLine)
    (hQ : ∀ (h1 h2 : Heap) (tk1 tk2 : Nat) (out : Array Value) (c : Nat) (L' : List (Addr × List Int)), (∀ b o, s.heap.get? b = some o → h1.get? b = some o) → (∀ b o, h1.get? b = some o → h2.get? b = some o) →
      h2.get? h1.objs.size = some (seqObj "list" out c) → out.toList = L'.map (fun q => Value.ref q.1) → L'.Perm L → L'.map (fun q => SeS.rowD q.2) = isort (L.map fun q => SeS.rowD q.2) → Q (.ref h1.objs.size) { s with heap := h2, toks := tk2 }) :
    wpAny (model P w) A (call (.builtin "sorted") [.ref a]) Q E s := by
  obtain ⟨lo, nd, _, o, es, ep, ho, hex, hd, hes⟩ := R
  have hsz : es.size = L.length := by rw [← Array.length_toList, hes, List.length_map]
  refine Calls.call_function_entry kind_sorted plain_sorted entry_sorted (args_sorted1 _) ?_
  unfold Builtin.«sorted»
  refine wpAny_bind (m := checkCount "sorted" 1 1 _) (wpAny_pure ?_)
  refine wpAny_bind (PySem.W.kdu_collect (A := A.in1) (KdlSrc.rawDict (es := es) (ep := ep) lo) hh ⟨o, ho, hex, hd⟩ (by rw [hsz, sizeLine_eq]; omega) fun h' tk acc k1 hacc => ?_)
  have hvs : acc.toList = L.map fun q => Value.ref q.1 := by
    refine List.ext_getElem? fun j => ?_
    by_cases hj : j < L.length
    · have hj2 : j < acc.size := by rw [hacc.1, hsz]; exact hj
      obtain ⟨hi, e⟩ := hacc.2 j acc[j] (by rw [Array.getElem?_eq_getElem hj2])
      rw [Array.getElem?_toList, Array.getElem?_eq_getElem hj2, e, List.getElem?_map, List.getElem?_eq_getElem hj]
      have e3 : es[j] = entR L[j] := by
        have e4 : es.toList[j]? = some es[j] := by rw [Array.getElem?_toList, Array.getElem?_eq_getElem hi]
        rw [hes, List.getElem?_map, List.getElem?_eq_getElem hj] at e4
        exact (Option.some.inj e4).symm
      rw [e3]
      rfl
    · rw [List.getElem?_eq_none (by rw [Array.length_toList, hacc.1, hsz]; omega), List.getElem?_eq_none (by rw [List.length_map]; omega)]
  rw [hvs]
  refine wpAny_bind (wpAny_newList ?_ (by rw [List.length_map, sizeLine_eq]; omega))
  have hoL : (h'.push (seqObj "list" (L.map fun q => Value.ref q.1).toArray 0)).get? h'.objs.size = some (seqObj "list" (L.map fun q => Value.ref q.1).toArray 0) := Heap.get?_push_size _ rfl
  have isT : ∀ q ∈ L, L2.IsT P w (h'.push (seqObj "list" (L.map fun q => Value.ref q.1).toArray 0)) q.2 q.1 := fun q hq => isT_keep (tup q hq) fun b u e => Heap.get?_push_of_some _ (k1 b u e)
  obtain ⟨e1, e2⟩ := SeS.each_refs isT
  obtain ⟨al, so⟩ := SeS.sort_rows_ok L fun q hq => hne q hq
  refine wpAny_bind (wpAny_holding (PySem.W.list_sort_data (s := { s with heap := h'.push (seqObj "list" (L.map fun q => Value.ref q.1).toArray 0), toks := tk }) (enc := fun q : Addr × List Int => SeS.rowD q.2) hoL e1 (e2 _) al so (by rw [sizeLine_eq]; omega) (fun q _ => ?_) fun out hl eo => ?_))
  · have := SeS.depth_row q.2
    show A.in1.units + 1 + (SeS.rowD q.2).depth < cLine
    have hA : A.in1.units ≤ A.units + 1 := by simp [Around.in1, Around.under]
    omega
  have eo' := SeS.each_out eo
  obtain ⟨c, hc⟩ := sortedHeap_at (vs := L.map fun q => Value.ref q.1) (out := out.toArray) hoL
  have pL := List.mergeSort_perm L (PySem.W.dataLe false fun q : Addr × List Int => SeS.rowD q.2)
  refine wpAny_pure ⟨_, rfl, hQ h' _ 0 tk out.toArray c (L.mergeSort (PySem.W.dataLe false fun q : Addr × List Int => SeS.rowD q.2)) k1 (fun b u q => ?_) hc (by rw [eo']) pL ?_⟩
  · have hlt := Heap.lt_size q
    show (sortedHeap (h'.push (seqObj "list" (L.map fun q => Value.ref q.1).toArray 0)) h'.objs.size (L.map fun q => Value.ref q.1) out.toArray).get? b = some u
    rw [sortedHeap_old (Nat.ne_of_lt hlt) (by rw [size_push']; exact Nat.lt_succ_of_lt hlt)]
    exact Heap.get?_push_of_some _ q
  · have q := List.map_mergeSort (r := PySem.W.dataLe false fun q : Addr × List Int => SeS.rowD q.2) (s := PySem.W.dataLe false fun d : PyData => d) (f := fun q : Addr × List Int => SeS.rowD q.2) (l := L) fun a _ b _ => rfl
    rw [q, leD_eq, ← isort_eq]
end
section
variable {X : Cx}
theorem cr_sortR (hc : X.calm = true) (hu : X.A.units + 66 < cLine) : CallR X (.builtin "sorted") (fun vs H Q => ∃ (a : Addr) (L : List (Addr × List Int)), vs = [V.ref a] ∧ H a = some (oR a L) ∧ (∀ p ∈ L, SqT X.K H p.1 (p.2.map V.int)) ∧ (∀ p ∈ L, p.2 ≠ []) ∧ L.length < 64 ∧
    ∀ (L' : List (Addr × List Int)) (p : Addr), L'.Perm L → L'.map (fun q => SeS.rowD q.2) = isort (L.map fun q => SeS.rowD q.2) → H p = none → Q (.ref p) (upd H p (.lst (L'.map fun q => V.ref q.1)))) := by
  intro pins s σ H vs us Q I r h
  obtain ⟨a, L, rfl, ha, hk, hne, few, q⟩ := h
  have R0 : DT0 s.heap a L := (I.hok a _ ha).1
  rw [Vals.ref1 r]
  refine sorted_dictR R0 (fun p hp => I.isT (hk p hp)) few (I.ok.hd hc) hne (by omega) fun h1 h2 tk1 tk2 out c L' k1 k2 hg hout pm eq => ?_
  have I1 : Inv X pins σ H { s with heap := h1, toks := tk1 } := I.kept k1
  have hlen : (L'.map fun q => V.ref q.1).length ≤ sizeLine := by rw [List.length_map, pm.length_eq, sizeLine_eq]; omega
  have hv : Vals (L'.map fun q => V.ref q.1) out.toList := by rw [hout]; exact vals_of_refs L'
  exact ⟨.ref h1.objs.size, upd H h1.objs.size (.lst (L'.map fun q => V.ref q.1)), I1.laid (a := h1.objs.size) (o := .lst (L'.map fun q => V.ref q.1)) (t' := tk2) k2 (Nat.le_refl _) ⟨hlen, out.toList, c, hv, hg⟩, rfl, q L' _ pm eq (I1.hok.fresh (Nat.le_refl _))⟩
end
end Se
end
section
set_option Elab.async false
set_option linter.all false
set_option maxRecDepth 100000
set_option maxHeartbeats 4000000
namespace Se
open PySem PySem.Spec PyProof.Rows L2
/-! ### statements and expressions of local dicts -/
def asPairs : List PyData → Option (List Int)
  | [] => some []
  | .tuple [.int n, .bool true] :: r => match asPairs r with
    | some ns => some (n :: ns)
    | none => none
  | _ :: _ => none
def gDcI (ds : List PyData) : Option (List Int) := match ds with
  | [.list es] => match asPairs es with
    | some ns => some (ns.foldl putI [])
    | none => none
  | _ => none
def mDcI (fs : SA PyData) : SW := fun cf env => M.bnd (fs cf env) fun ds => M.bnd (M.of (gDcI ds)) fun ns => M.ret (.dI ns)
def mDR0 : SW := fun _ _ => M.ret (.dR [])
def noDc1 : Slot → Slot
  | .dI _ => .no
  | .dR _ => .no
  | s => s
def noDc (env : Ev) : Ev := env.map noDc1
def putRL (i : Nat) (d k : PyData) (env : Ev) : Option Ev := match env[i]?, d, rowI k with
  | some (.dR rs), .bool true, some r => if rs.length < 60 then some ((noDc env).set i (.dR (putR rs r))) else none
  | _, _, _ => none
def sPutR (i : Nat) (fi f : SE) : SS := fun cf env => M.bnd (f cf env) fun d => M.bnd (fi cf env) fun k => M.bnd (M.of (putRL i d k env)) fun e => M.ret (.next e)
def dSort (i : Nat) (env : Ev) : Option PyData := match env[i]? with
  | some (.dI ns) => if ns.length < 60 then some (.list (isort (ns.map .int))) else none
  | some (.dR rs) => if rs.length < 60 ∧ rs.all (fun r => !r.isEmpty) = true then some (.list (isort (rs.map SeS.rowD))) else none
  | _ => none
def mSortI (i : Nat) : SE := fun _ env => M.of (match env[i]? with
  | some (.dI ns) => if ns.length < 60 then some (.list (isort (ns.map .int))) else none
  | _ => none)
def mSortR (i : Nat) : SE := fun _ env => M.of (match env[i]? with
  | some (.dR rs) => if rs.length < 60 ∧ rs.all (fun r => !r.isEmpty) = true then some (.list (isort (rs.map SeS.rowD))) else none
  | _ => none)
theorem asPairs_len : ∀ {es : List PyData} {ns : List Int}, asPairs es = some ns → es = ns.map fun n => .tuple [.int n, .bool true]
  | [], ns, h => by cases h; rfl
  | e :: es, ns, h => by
    unfold asPairs at h
    split at h
    · rename_i q; cases q
    · rename_i n r q
      cases q
      split at h
      · rename_i ms hm
        cases h
        rw [List.map_cons, asPairs_len hm]
      · cases h
    · cases h
theorem any_inl (ns : List Int) (n : Int) : ((ns.map fun n => ((Sum.inl n : Key), V.bl true)).any fun kv => decide (kv.1 = Sum.inl n)) = decide (n ∈ ns) := by
  induction ns with
  | nil => rfl
  | cons m ns ih =>
    rw [List.map_cons, List.any_cons, ih, key_ll]
    by_cases e : m = n
    · subst e; simp
    · have e' : ¬ n = m := fun q => e q.symm
      simp [e, e']
theorem putK_putI (ns : List Int) (n : Int) : putK (ns.map fun n => ((Sum.inl n : Key), V.bl true)) (Sum.inl n) (V.bl true) = (putI ns n).map fun n => (Sum.inl n, V.bl true) := by
  unfold putK putI
  rw [any_inl]
  by_cases e : n ∈ ns
  · rw [if_pos (by simpa using e), if_pos e, List.map_map]
    refine List.map_congr_left fun a _ => ?_
    simp only [Function.comp]
    split <;> rfl
  · rw [if_neg (by simpa using e), if_neg e, List.map_append]
    rfl
theorem merge_putI : ∀ (ms ns : List Int), mergeK (ns.map fun n => ((Sum.inl n : Key), V.bl true)) (ms.map fun n => (Sum.inl n, V.bl true)) = (ms.foldl putI ns).map fun n => (Sum.inl n, V.bl true)
  | [], _ => rfl
  | m :: ms, ns => by
    show mergeK (putK (ns.map fun n => ((Sum.inl n : Key), V.bl true)) (Sum.inl m) (V.bl true)) (ms.map fun n => (Sum.inl n, V.bl true)) = _
    rw [putK_putI, merge_putI ms]
    rfl
section
variable {X : Cx} {c : Addr} {cf : CF} {H0 : Hp} {Z0 : List Addr} {pos p : Pos} {e : Expr}
theorem pairs_of {K : PySem.W.Frag} {H : Hp} {Z : List Addr} : ∀ {ns : List Int} {ys : List V}, DvA K H Z ys (ns.map fun n => PyData.tuple [.int n, .bool true]) → ∃ ps : List Addr, ys = ps.map V.ref ∧ Paired (fun (p : Addr) (kv : Key × V) => SqT K H p [kV kv.1, kv.2]) ps (ns.map fun n => ((Sum.inl n : Key), V.bl true))
  | [], _, h => by
    cases h
    exact ⟨[], rfl, .nil⟩
  | n :: ns, _, h => by
    rw [List.map_cons] at h
    cases h with
    | @cons v vs _ _ h1 h2 =>
      obtain ⟨ps, rfl, hp⟩ := pairs_of h2
      cases h1 with
      | @tup b xs _ hs ha =>
        cases ha with
        | cons a1 a2 =>
          cases a1
          cases a2 with
          | cons b1 b2 =>
            cases b1
            cases b2
            exact ⟨b :: ps, rfl, .cons hs hp⟩
theorem w_dcI {fs : SA PyData} (hc : X.calm = true) (hg : Gl X "dict") (hm : X.mg "dict" = none) (ha : PA X [e] (lA (fun H Z => DvP X.K H Z c) X.K c (fs cf))) (he : starEach [e] X.env = (false, eval e X.env) :: starEach [] X.env) (hpl : (backTo pos (starEach [] X.env)).any (·.1) = false) :
    PE X (.Call (.Name "dict" p) [e] [] pos) (lW X.K c (mDcI fs cf)) := pe_imp (pe_callTy (call_dictP hc) hg hm bt_dict ha (by decide) (by decide) he hpl) fun σ H Q ⟨Z, env, cs, t, cs', pr, e, q⟩ => by
  obtain ⟨ds, c1, e1, e⟩ := bnd_some e
  obtain ⟨ns, c2, e2, e⟩ := bnd_some e
  obtain ⟨z, ez, e3⟩ := of_some e2
  cases e3
  cases ret_some e
  refine ⟨Z, env, cs, ds, _, pr, e1, fun vs H1 k1 ce1 r1 => ?_⟩
  have p1 := pr.step k1 ce1
  unfold gDcI at ez
  split at ez
  · split at ez
    · rename_i es ms hms
      cases ez
      have ee := asPairs_len hms
      subst ee
      obtain ⟨v, rfl, rr⟩ := paired1 r1
      obtain ⟨l, ys, rfl, h1, h2⟩ := rr.list
      obtain ⟨ps, rfl, hp⟩ := pairs_of h2
      refine ⟨l, ps, _, rfl, .of h1, hp, fun t ht => ?_⟩
      have kt : Keep c H1 (upd H1 t (.dK (mergeK [] (ms.map fun n => ((Sum.inl n : Key), V.bl true))))) := .upd ht
      have ntc := rnew_c (H' := H1) p1 ht
      refine q _ _ (k1.trans kt) ((upd_cell ce1 ht).trans ce1) ⟨t, rfl, ?_, ?_⟩
      · cases q : H t with
        | none => rfl
        | some o => rw [k1 t o q ntc] at ht; cases ht
      · rw [upd_same]
        unfold oI
        rw [← merge_putI ms []]
        rfl
    · cases ez
  · cases ez
theorem w_dR0 : PE X (.Dict [] [] pos) (lW X.K c (mDR0 cf)) := pe_imp pe_dR0 fun σ H Q ⟨Z, env, cs, t, cs', pr, e, q⟩ => by
  cases ret_some e
  exact fun t ht => q _ _ (.upd ht) ((upd_cell pr.cell ht).trans pr.cell) ⟨t, [], rfl, ht, upd_same, rfl, fun _ h => by cases h⟩
theorem Sta.mutR {K : PySem.W.Frag} {H : Hp} {Z : List Addr} {σ : L2.St} {env : Ev} {cs : Cs} {i : Nat} {a : Addr} {rs : List (List Int)} {L : List (Addr × List Int)} (s : Sta K c H0 Z0 H Z σ env cs) (hi : env[i]? = some (.dR rs)) (ha : σ[i]? = some (some (.ref a))) (r : ∀ p ∈ L, SqT K H p.1 (p.2.map V.int)) :
    Sta K c H0 Z0 (upd H a (oR a L)) Z σ ((noDc env).set i (.dR (L.map (·.2)))) cs ∧ Later H Z (upd H a (oR a L)) Z := by
  obtain ⟨a', L0, e, haz, nac, h1, _, _⟩ := s.pre.env.at_ i _ _ ha hi
  cases e
  have l : Later H Z (upd H a (oR a L)) Z := ⟨fun b o q n => by
    rw [upd_ne fun z => n (by rw [z]; exact haz)]
    exact q, fun b h => .inl h⟩
  have h0 := s.own.newR i a rs hi ha
  have nd : ∀ {j : Nat} {t : Slot}, (noDc env)[j]? = some t → ∃ t0, env[j]? = some t0 ∧ t = noDc1 t0 := fun {j t} e => by
    unfold noDc at e
    rw [List.getElem?_map] at e
    obtain ⟨t0, e0, q⟩ := Option.map_eq_some_iff.mp e
    exact ⟨t0, e0, q.symm⟩
  have ndo : ∀ {j : Nat} {d : PyData}, ((noDc env).set i (.dR (L.map (·.2))))[j]? = some (.ow d) → env[j]? = some (.ow d) := fun {j d} e => by
    rcases set_get e with ⟨_, q⟩ | ⟨_, q⟩
    · cases q
    · obtain ⟨t0, e0, q⟩ := nd q
      cases t0 <;> cases q
      exact e0
  refine ⟨⟨⟨fun b hb => ?_, s.pre.cz, (upd_ne (Ne.symm nac)).trans s.pre.cell, ⟨by unfold noDc; rw [List.length_set, List.length_map]; exact s.pre.env.len, fun j o t e3 e4 => ?_⟩⟩, fun b o q n => ?_, s.sub, ⟨fun j b d' e3 e4 => ?_, fun j k b d' d'' e3 e4 e5 e6 => ?_, fun j b ts e3 e4 => ?_⟩⟩, l⟩
  · by_cases q : b = a
    · rw [q, upd_same]; trivial
    · rw [upd_ne q]; exact s.pre.z b hb
  · rcases set_get e4 with ⟨nn, e5⟩ | ⟨nn, e5⟩
    · subst nn e5
      rw [ha] at e3
      cases e3
      exact ⟨a, L, rfl, haz, nac, upd_same, rfl, fun p hp => SqT.later s.pre.z l (r p hp)⟩
    · obtain ⟨t0, e6, rfl⟩ := nd e5
      have q := s.pre.env.at_ j o t0 e3 e6
      cases t0 with
      | no => trivial
      | sh d' =>
        obtain ⟨v, e, q⟩ := q
        exact ⟨v, e, Dv.later s.pre.z l d' v q⟩
      | ow d' =>
        obtain ⟨b, e, hb, nb, zs, fs, e6, g1, g2⟩ := q
        refine ⟨b, e, hb, nb, zs, fs, e6, ?_, DvA.later s.pre.z l _ _ g2⟩
        rw [upd_ne fun z => by rw [z, h1] at g1; cases g1]
        exact g1
      | cup => exact q
      | dI ns => trivial
      | dR rs => trivial
  · have na : b ≠ a := fun z => by rw [z, h0] at q; cases q
    rw [upd_ne na]
    exact s.keep b o q n
  · exact s.own.new j b d' (ndo e3) e4
  · exact s.own.sep j k b d' d'' (ndo e3) (ndo e4) e5 e6
  · rcases set_get e3 with ⟨nn, q⟩ | ⟨_, q⟩
    · subst nn
      rw [ha] at e4
      cases e4
      exact h0
    · obtain ⟨t0, e0, q⟩ := nd q
      cases t0 <;> cases q
theorem p_putR {ei e : Expr} {f fi : SE} {i : Nat} {x : Str} {pos npos tpos : Pos} (hu : X.A.units + 66 < cLine) (hN : X.N[i]? = some x) (hv : Vis X.env.scope x) (hd : (x == ("__debug__" : Str)) = false) (hcd : (x == ("__classdict__" : Str)) = false) (hi : PE X ei (le X.K c (fi cf))) (he : PE X e (le X.K c (f cf)))
    (ha : ∀ v, assign (.Subscript (.Name x npos) ei tpos) X.env v = (do
      let ov ← holding [v] (eval (.Name x npos) X.env)
      let iv ← holding [v, ov] (eval ei X.env)
      standAt tpos
      holding [v, ov, iv] (setItem ov iv v)
      release [v, ov, iv] []))
    (hs : swapsWithSole [.Subscript (.Name x npos) ei tpos] e pos.line X.env = pure false) (hw : swappedStores [.Subscript (.Name x npos) ei tpos] e X.env = pure none)
    (h1 : (assignEach [.Subscript (.Name x npos) ei tpos] X.env).map (·.2) = [assign (.Subscript (.Name x npos) ei tpos) X.env]) :
    PS X (.Assign [.Subscript (.Name x npos) ei tpos] e pos) (lS X.K c H0 Z0 (sPutR i fi f cf)) :=
  ps_imp (ps_asg he (pg_sub (pe_var hN hv hd hcd) hi (set_R (by omega)) ha) hs hw h1) fun D σ H ⟨Z, env, cs, fl, cs', s, e, n, r⟩ => by
    obtain ⟨d, c1, e1, e⟩ := bnd_some e
    obtain ⟨k, c2, e2, e⟩ := bnd_some e
    obtain ⟨e3, c3, e4, e⟩ := bnd_some e
    obtain ⟨e5, hm, e6⟩ := of_some e4
    cases e6
    cases ret_some e
    unfold putRL at hm
    split at hm
    · rename_i rs r0 hi hk eo
      split at hm
      · rename_i few
        cases hm
        refine ⟨Z, env, cs, _, c1, s.pre, e1, fun v H1 k1 ce1 rv => ?_⟩
        have s1 := s.keepE k1 ce1
        obtain ⟨o, es, a, L, rfl, haz, nac, hA, hrs, hL⟩ := s1.pre.env.get hi
        refine ⟨.ref a, es, Z, env, c1, _, _, s1.pre, e2, fun u H2 k2 ce2 ru => ?_⟩
        have s2 := s1.keepE k2 ce2
        cases rv
        unfold rowI at hk
        split at hk
        · rename_i ds
          have ed := asInts_eq hk
          subst ed
          cases ru with
          | @tup b xs _ hsq hxs =>
            have ex := DvA.ints hxs rfl
            subst ex
            have hL2 : ∀ p ∈ L, SqT X.K H2 p.1 (p.2.map V.int) := fun p hp => SqT.later s1.pre.z (k2.later s1.pre.cz) (hL p hp)
            obtain ⟨s3, l3⟩ := s2.mutR (L := putL L b r0) hi es fun p hp => by
              rcases mem_putL hp with q | q
              · exact hL2 p q
              · rw [q]; exact hsq
            rw [putL_rows, hrs] at s3
            have hlen : L.length < 64 := by rw [← List.length_map (f := (·.2)), hrs]; omega
            exact ⟨a, L, b, r0, rfl, rfl, rfl, k2 a _ hA nac, hL2, hsq, hlen, n _ rfl σ _ Z s3 ((k1.later s.pre.cz).trans ((k2.later s1.pre.cz).trans l3))⟩
        · cases hk
      · cases hm
    · cases hm
theorem e_sortI {i : Nat} {x : Str} {npos : Pos} (hc : X.calm = true) (hg : Gl X "sorted") (hm : X.mg "sorted" = none) (hN : X.N[i]? = some x) (hv : Vis X.env.scope x) (hd : (x == ("__debug__" : Str)) = false) (hcd : (x == ("__classdict__" : Str)) = false)
    (he : starEach [.Name x npos] X.env = (false, eval (.Name x npos) X.env) :: starEach [] X.env) (hpl : (backTo pos (starEach [] X.env)).any (·.1) = false) :
    PE X (.Call (.Name "sorted" p) [.Name x npos] [] pos) (le X.K c (mSortI i cf)) :=
  pe_imp (pe_callB (call_sortedDI hc) hg hm bt_sorted (pa_cons (pe_var hN hv hd hcd) pa_nil he) (by decide) (by decide) he hpl) fun σ H Q ⟨Z, env, cs, d, cs', pr, e, q⟩ => by
    obtain ⟨z, ez, e2⟩ := of_some e
    cases e2
    split at ez
    · rename_i ns hi
      split at ez
      · rename_i few
        cases ez
        obtain ⟨o, es, a, rfl, haz, nac, hA⟩ := pr.env.get hi
        refine ⟨.ref a, es, a, _, ns, rfl, .of hA, ?_, by omega, fun ys t pm pw ht => ?_⟩
        · rw [List.map_map]
          rfl
        · have kt : Keep c H (upd H t (.lst (ys.map V.int))) := .upd ht
          refine q _ _ kt ((upd_cell pr.cell ht).trans pr.cell) ?_
          have hD : isort (ns.map PyData.int) = ys.map .int := by
            rw [isort_eq]
            refine List.Perm.eq_of_pairwise (le := fun x y => leD x y = true) (fun x y hx hy h1 h2 => ?_) (List.pairwise_mergeSort leD_trans leD_total _) ?_ ((List.mergeSort_perm _ _).trans (pm.symm.map _))
            · obtain ⟨u, _, rfl⟩ := List.mem_map.mp ((List.mergeSort_perm _ _).mem_iff.mp hx)
              obtain ⟨v, _, rfl⟩ := List.mem_map.mp hy
              have g1 : PySem.W.dataLt (.int v) (.int u) = false := by unfold leD at h1; simpa using h1
              have g2 : PySem.W.dataLt (.int u) (.int v) = false := by unfold leD at h2; simpa using h2
              rw [PySem.W.dataLt_int] at g1 g2
              simp only [decide_eq_false_iff_not] at g1 g2
              rw [show u = v by omega]
            · rw [List.pairwise_map]
              refine pw.imp fun {u v} h => ?_
              unfold leD
              rw [PySem.W.dataLt_int]
              simp only [Bool.not_eq_true', decide_eq_false_iff_not]
              omega
          rw [hD]
          exact .lst upd_same (fresh_z pr.z ht) (.of_ints _)
      · cases ez
    · cases ez
theorem e_sortR {i : Nat} {x : Str} {npos : Pos} (hc : X.calm = true) (hu : X.A.units + 66 < cLine) (hg : Gl X "sorted") (hm : X.mg "sorted" = none) (hN : X.N[i]? = some x) (hv : Vis X.env.scope x) (hd : (x == ("__debug__" : Str)) = false) (hcd : (x == ("__classdict__" : Str)) = false)
    (he : starEach [.Name x npos] X.env = (false, eval (.Name x npos) X.env) :: starEach [] X.env) (hpl : (backTo pos (starEach [] X.env)).any (·.1) = false) :
    PE X (.Call (.Name "sorted" p) [.Name x npos] [] pos) (le X.K c (mSortR i cf)) :=
  pe_imp (pe_callB (cr_sortR hc hu) hg hm bt_sorted (pa_cons (pe_var hN hv hd hcd) pa_nil he) (by decide) (by decide) he hpl) fun σ H Q ⟨Z, env, cs, d, cs', pr, e, q⟩ => by
    obtain ⟨z, ez, e2⟩ := of_some e
    cases e2
    split at ez
    · rename_i rs hi
      split at ez
      · rename_i ok
        cases ez
        obtain ⟨o, es, a, L, rfl, haz, nac, hA, rfl, hL⟩ := pr.env.get hi
        refine ⟨.ref a, es, a, L, rfl, hA, hL, fun y hy e0 => ?_, by have := ok.1; rw [List.length_map] at this; omega, fun L' t pm eq ht => ?_⟩
        · have := List.all_eq_true.mp ok.2 y.2 (List.mem_map_of_mem hy)
          rw [e0] at this
          cases this
        · have kt : Keep c H (upd H t (.lst (L'.map fun q => V.ref q.1))) := .upd ht
          have e3 : isort ((L.map (·.2)).map SeS.rowD) = L'.map fun q => SeS.rowD q.2 := by
            rw [eq, List.map_map]
            rfl
          refine q _ _ kt ((upd_cell pr.cell ht).trans pr.cell) ?_
          rw [e3]
          exact .lst upd_same (fresh_z pr.z ht) (pr.dva kt (dva_refs fun x hx => hL x (pm.mem_iff.mp hx)))
      · cases ez
    · cases ez
/-! ### x[i], x[j], x[k] = a, b, c -/
def lGm (K : PySem.W.Frag) (c : Addr) (H0 : Hp) (Z0 : List Addr) (m : PyData → Ev → M Ev) : TG := fun v σ H Q => ∃ Z env d cs env' cs', Sta K c H0 Z0 H Z σ env cs ∧ Dv K H Z v d ∧ m d env cs = some (env', cs') ∧ ∀ H' Z', Sta K c H0 Z0 H' Z' σ env' cs' → Later H Z H' Z' → Q σ H'
def lGms (K : PySem.W.Frag) (c : Addr) (H0 : Hp) (Z0 : List Addr) (m : List PyData → Ev → M Ev) : TGs := fun v σ H Q => ∃ Z env d cs env' cs', Sta K c H0 Z0 H Z σ env cs ∧ DvA K H Z v d ∧ m d env cs = some (env', cs') ∧ ∀ H' Z', Sta K c H0 Z0 H' Z' σ env' cs' → Later H Z H' Z' → Q σ H'
def mStoG (i : Nat) (fi : SE) (cf : CF) (d : PyData) : Ev → M Ev := fun env => M.bnd (fi cf env) fun k => M.of (stoL i d k env)
def stoAll (i : Nat) : List SE → CF → List PyData → Ev → M Ev
  | [], _, [] => fun env => M.ret env
  | k :: ks, cf, d :: ds => fun env => M.bnd (mStoG i k cf d env) fun e => stoAll i ks cf ds e
  | _, _, _ => fun _ => M.of none
def sStoT (i : Nat) (ks : List SE) (f : SE) : SS := fun cf env => M.bnd (f cf env) fun d => match d with
  | .tuple ds => M.bnd (stoAll i ks cf ds env) fun e => M.ret (.next e)
  | _ => M.of none
theorem gm_sto {ei : Expr} {fi : SE} {i : Nat} {x : Str} {npos tpos : Pos} (hN : X.N[i]? = some x) (hv : Vis X.env.scope x) (hd : (x == ("__debug__" : Str)) = false) (hcd : (x == ("__classdict__" : Str)) = false) (hi : PE X ei (le X.K c (fi cf)))
    (ha : ∀ v, assign (.Subscript (.Name x npos) ei tpos) X.env v = (do
      let ov ← holding [v] (eval (.Name x npos) X.env)
      let iv ← holding [v, ov] (eval ei X.env)
      standAt tpos
      holding [v, ov, iv] (setItem ov iv v)
      release [v, ov, iv] [])) : PG X (.Subscript (.Name x npos) ei tpos) (lGm X.K c H0 Z0 (mStoG i fi cf)) :=
  pg_imp (pg_sub (pe_var hN hv hd hcd) hi set_list ha) fun v σ H Q ⟨Z, env, d, cs, env', cs', s, rv, e, q⟩ => by
    obtain ⟨k, c2, e2, e⟩ := bnd_some e
    obtain ⟨e5, hm, e6⟩ := of_some e
    cases e6
    obtain ⟨ds, m, j, ho, rfl, hj, rfl⟩ := stoL_some hm
    obtain ⟨hi, a, xs, ha, nac, hA, hD⟩ := owned_at s.pre ho
    refine ⟨.ref a, ha, Z, env, cs, _, _, s.pre, e2, fun u H2 k2 ce2 ru => ?_⟩
    have s2 := s.keepE k2 ce2
    cases ru
    obtain ⟨s3, l3⟩ := s2.mut hi ha ((s.pre.dva k2 hD).set j (s.pre.dv k2 rv))
    exact ⟨a, xs, m, j, rfl, rfl, k2 a _ hA nac, by rw [hD.length]; exact hj, q _ Z s3 ((k2.later s.pre.cz).trans l3)⟩
theorem gms_nil {i : Nat} : PGs X [] (lGms X.K c H0 Z0 (stoAll i [] cf)) := pgs_imp pgs_nil fun v σ H Q ⟨Z, env, d, cs, env', cs', s, rv, e, q⟩ => by
  cases rv with
  | nil =>
    cases ret_some e
    exact ⟨rfl, q H Z s .refl⟩
  | cons _ _ => cases e
theorem gms_cons {i : Nat} {k : SE} {ks : List SE} {g : Expr} {gs : List Expr} (h1 : PG X g (lGm X.K c H0 Z0 (mStoG i k cf))) (h2 : PGs X gs (lGms X.K c H0 Z0 (stoAll i ks cf)))
    (hs : (assignEach (g :: gs) X.env).map (·.2) = assign g X.env :: (assignEach gs X.env).map (·.2)) : PGs X (g :: gs) (lGms X.K c H0 Z0 (stoAll i (k :: ks) cf)) :=
  pgs_imp (pgs_cons h1 h2 hs) fun v σ H Q ⟨Z, env, d, cs, env', cs', s, rv, e, q⟩ => by
    cases rv with
    | nil => cases e
    | @cons v0 vs d0 ds r0 rr =>
      obtain ⟨e1, c1, h3, h4⟩ := bnd_some e
      exact ⟨v0, vs, rfl, Z, env, d0, cs, e1, c1, s, r0, h3, fun H1 Z1 s1 l1 => ⟨Z1, e1, ds, c1, env', cs', s1, DvA.later s.pre.z l1 _ _ rr, h4, fun H2 Z2 s2 l2 => q H2 Z2 s2 (l1.trans l2)⟩⟩
theorem p_stoT {gs : List Expr} {kt : Nat} {pt : Pos} {f : SE} {i : Nat} {ks : List SE} {n : Nat} (hc : X.calm = true) (he : PE X e (le X.K c (f cf))) (hg : PGs X gs (lGms X.K c H0 Z0 (stoAll i ks cf))) (hk : ks.length = n)
    (hn : (assignEach gs X.env).length = n) (hst : (assignEach gs X.env).findIdx? (·.1) = none)
    (hs : swapsWithSole [.Tuple gs kt pt] e pos.line X.env = pure false) (hw : swappedStores [.Tuple gs kt pt] e X.env = pure none)
    (h1 : (assignEach [.Tuple gs kt pt] X.env).map (·.2) = [assign (.Tuple gs kt pt) X.env]) :
    PS X (.Assign [.Tuple gs kt pt] e pos) (lS X.K c H0 Z0 (sStoT i ks f cf)) :=
  ps_imp (ps_asg he (pg_tup hc hg hn hst) hs hw h1) fun D σ H ⟨Z, env, cs, fl, cs', s, e, n, r⟩ => by
    obtain ⟨d, c1, e1, e⟩ := bnd_some e
    refine ⟨Z, env, cs, d, c1, s.pre, e1, fun v H' k ce rv => ?_⟩
    have s1 := s.keepE k ce
    split at e
    · rename_i ds
      obtain ⟨e2, c2, e3, e⟩ := bnd_some e
      cases ret_some e
      cases rv with
      | @tup a xs _ hs ha =>
        have hlen : ∀ {ks : List SE} {ds : List PyData} {env : Ev} {cs : Cs} {r : Ev × Cs}, stoAll i ks cf ds env cs = some r → ds.length = ks.length := by
          intro ks
          induction ks with
          | nil => intro ds env cs r h; cases ds with
            | nil => rfl
            | cons _ _ => cases h
          | cons k ks ih => intro ds env cs r h; cases ds with
            | nil => cases h
            | cons d ds =>
              obtain ⟨e1, c1, h3, h4⟩ := bnd_some h
              rw [List.length_cons, List.length_cons, ih h4]
        refine ⟨a, xs, rfl, hs, by rw [ha.length, hlen e3]; exact hk, Z, env, ds, c1, e2, _, s1, ha, e3, fun H2 Z2 s2 l2 => n _ rfl σ H2 Z2 s2 ((k.later s.pre.cz).trans l2)⟩
    · obtain ⟨_, h, _⟩ := of_some e
      cases h
end
section
variable {X : Cx} {c : Addr} {cf : CF} {H0 : Hp} {Z0 : List Addr} {i : Nat} {x : Str} {pos p npos tpos : Pos}
theorem sortI_ (hc : X.calm = true) (hg : Gl X "sorted") (hm : X.mg "sorted" = none) (h : nmC X.N X.env.scope i x = true) (he : starEach [.Name x npos] X.env = (false, eval (.Name x npos) X.env) :: starEach [] X.env) (hpl : (backTo pos (starEach [] X.env)).any (·.1) = false) :
    PE X (.Call (.Name "sorted" p) [.Name x npos] [] pos) (le X.K c (mSortI i cf)) := let ⟨a, b, d, e⟩ := nmC_ok h; e_sortI hc hg hm a b d e he hpl
theorem sortR_ (hc : X.calm = true) (hu : X.A.units + 66 < cLine) (hg : Gl X "sorted") (hm : X.mg "sorted" = none) (h : nmC X.N X.env.scope i x = true) (he : starEach [.Name x npos] X.env = (false, eval (.Name x npos) X.env) :: starEach [] X.env) (hpl : (backTo pos (starEach [] X.env)).any (·.1) = false) :
    PE X (.Call (.Name "sorted" p) [.Name x npos] [] pos) (le X.K c (mSortR i cf)) := let ⟨a, b, d, e⟩ := nmC_ok h; e_sortR hc hu hg hm a b d e he hpl
theorem putR_ {ei e : Expr} {f fi : SE} (hu : X.A.units + 66 < cLine) (h : nmC X.N X.env.scope i x = true) (hi : PE X ei (le X.K c (fi cf))) (he : PE X e (le X.K c (f cf)))
    (ha : ∀ v, assign (.Subscript (.Name x npos) ei tpos) X.env v = (do
      let ov ← holding [v] (eval (.Name x npos) X.env)
      let iv ← holding [v, ov] (eval ei X.env)
      standAt tpos
      holding [v, ov, iv] (setItem ov iv v)
      release [v, ov, iv] []))
    (hs : swapsWithSole [.Subscript (.Name x npos) ei tpos] e pos.line X.env = pure false) (hw : swappedStores [.Subscript (.Name x npos) ei tpos] e X.env = pure none)
    (h1 : (assignEach [.Subscript (.Name x npos) ei tpos] X.env).map (·.2) = [assign (.Subscript (.Name x npos) ei tpos) X.env]) :
    PS X (.Assign [.Subscript (.Name x npos) ei tpos] e pos) (lS X.K c H0 Z0 (sPutR i fi f cf)) := let ⟨a, b, d, e⟩ := nmC_ok h; p_putR hu a b d e hi he ha hs hw h1
theorem gsto_ {ei : Expr} {fi : SE} (h : nmC X.N X.env.scope i x = true) (hi : PE X ei (le X.K c (fi cf)))
    (ha : ∀ v, assign (.Subscript (.Name x npos) ei tpos) X.env v = (do
      let ov ← holding [v] (eval (.Name x npos) X.env)
      let iv ← holding [v, ov] (eval ei X.env)
      standAt tpos
      holding [v, ov, iv] (setItem ov iv v)
      release [v, ov, iv] [])) : PG X (.Subscript (.Name x npos) ei tpos) (lGm X.K c H0 Z0 (mStoG i fi cf)) := let ⟨a, b, d, e⟩ := nmC_ok h; gm_sto a b d e hi ha
end
theorem fn_noS {P : Program} {w : World} {K : PySem.W.Frag} {mg : Str → Option Value} {base : Heap} {N : List Str} {pv x qual : Str} {params : Arguments} {body : List Stmt} {scope : Scope} {f : Addr} {fd : FuncData} {run : List Se.Arg → M PyData} (F : FunD K x qual params body scope [] [] f fd) (S : FnScope N [pv] scope)
    (h : ∀ args cs, run args cs = none)
    (hb : ∀ (kV doc pm : Value) (an : Option Addr) (cdv ct : Value) (rest : List Value), bindArgs (PySem.W.fnOf x qual params body scope .none kV doc pm an cdv ct) ⟨rest, []⟩ = (newTuple rest >>= fun t => pure [(pv, t)])) :
    FnR P w K mg base CX0 1 f (spS K run) := by
  obtain ⟨oc, od, dV, kV, doc, pm, an, cdv, ct, osl, rfl, lk, hcd, hD, _⟩ := F.ex
  have hD : dV = .none := by
    rcases hD with ⟨_, q⟩ | ⟨e, _⟩
    · exact q
    · exact absurd rfl e
  subst hD
  refine FnR.imp (StX.fn_star (ps := []) (pv := pv) (sp := spD K run) lk hcd S StX.cxUp_none (fun us rest hl => ?_) fun A outer s H vs Q E hr h' => ?_) fun vs H Q E h' => ?_
  · obtain rfl : us = [] := List.length_eq_zero_iff.mp hl
    exact hb kV doc pm an cdv ct rest
  · obtain ⟨Z, c, cs, args, d, cs', z, cz, ce, r, e, q⟩ := h'
    rw [h] at e
    cases e
  · obtain ⟨Z, c, cs, ds, d, cs', z, cz, ce, r, hl, e, q⟩ := h'
    rw [h] at e
    cases e
end Se
end
section
set_option Elab.async false
set_option linter.all false
set_option maxRecDepth 100000
set_option maxHeartbeats 4000000
namespace Wk
open PySem PySem.Spec PyProof.Rows L2 Se
def top (i : Nat) : Stmt := PySem.Challenge.pw_linesruled_k93_whole_circles_and_sums_of.main.body.getD i (.Pass ⟨0, 0, 0, 0⟩)
/-! ### the head -/
def dd0 : He.DefD := ⟨("is_whole", none), "is_whole", "is_whole", defArgs (top 10), defBody (top 10), defScope (top 10), [], []⟩
def dd1 : He.DefD := ⟨("need_whole", none), "need_whole", "need_whole", defArgs (top 11), defBody (top 11), defScope (top 11), [], []⟩
def dd2 : He.DefD := ⟨("is_tuple_of", none), "is_tuple_of", "is_tuple_of", defArgs (top 12), defBody (top 12), defScope (top 12), [], []⟩
def dd3 : He.DefD := ⟨("are_wholes", none), "are_wholes", "are_wholes", defArgs (top 13), defBody (top 13), defScope (top 13), [], []⟩
def dd4 : He.DefD := ⟨("is_portion", none), "is_portion", "is_portion", defArgs (top 16), defBody (top 16), defScope (top 16), [], []⟩
def dd5 : He.DefD := ⟨("lowest", none), "lowest", "lowest", defArgs (top 17), defBody (top 17), defScope (top 17), [], []⟩
def dd6 : He.DefD := ⟨("plus", none), "plus", "plus", defArgs (top 18), defBody (top 18), defScope (top 18), [], []⟩
def dd7 : He.DefD := ⟨("times", none), "times", "times", defArgs (top 19), defBody (top 19), defScope (top 19), [], []⟩
def dd8 : He.DefD := ⟨("is_three", none), "is_three", "is_three", defArgs (top 22), defBody (top 22), defScope (top 22), [], []⟩
def dd9 : He.DefD := ⟨("is_triple", none), "is_triple", "is_triple", defArgs (top 23), defBody (top 23), defScope (top 23), [], []⟩
def dd10 : He.DefD := ⟨("plainly", none), "plainly", "plainly", defArgs (top 24), defBody (top 24), defScope (top 24), [], []⟩
def dd11 : He.DefD := ⟨("need_triple", none), "need_triple", "need_triple", defArgs (top 25), defBody (top 25), defScope (top 25), [], []⟩
def dd12 : He.DefD := ⟨("dot", none), "dot", "dot", defArgs (top 26), defBody (top 26), defScope (top 26), [], []⟩
def dd13 : He.DefD := ⟨("cross", none), "cross", "cross", defArgs (top 27), defBody (top 27), defScope (top 27), [], []⟩
def dd14 : He.DefD := ⟨("volume", none), "volume", "volume", defArgs (top 28), defBody (top 28), defScope (top 28), [], []⟩
def dd15 : He.DefD := ⟨("place_of", none), "place_of", "place_of", defArgs (top 29), defBody (top 29), defScope (top 29), [], []⟩
def dd16 : He.DefD := ⟨("point_at", none), "point_at", "point_at", defArgs (top 30), defBody (top 30), defScope (top 30), [], []⟩
def dd17 : He.DefD := ⟨("fits_circlemeets", none), "fits", "fits", defArgs (top 35), defBody (top 35), defScope (top 35), [], []⟩
def dd18 : He.DefD := ⟨("need_circle", none), "need_circle", "need_circle", defArgs (top 37), defBody (top 37), defScope (top 37), [], []⟩
def dd19 : He.DefD := ⟨("need_line", none), "need_line", "need_line", defArgs (top 38), defBody (top 38), defScope (top 38), [], []⟩
def dd20 : He.DefD := ⟨("square_in", none), "square_in", "square_in", defArgs (top 39), defBody (top 39), defScope (top 39), [], []⟩
def dd21 : He.DefD := ⟨("lead_in", none), "lead_in", "lead_in", defArgs (top 40), defBody (top 40), defScope (top 40), [], []⟩
def dd22 : He.DefD := ⟨("root_of", none), "root_of", "root_of", defArgs (top 41), defBody (top 41), defScope (top 41), [], []⟩
def dd23 : He.DefD := ⟨("meets_in", none), "meets_in", "meets_in", defArgs (top 42), defBody (top 42), defScope (top 42), [], []⟩
def dd24 : He.DefD := ⟨("is_circle", none), "is_circle", "is_circle", defArgs (top 43), defBody (top 43), defScope (top 43), [], []⟩
def dd25 : He.DefD := ⟨("lead_of", none), "lead_of", "lead_of", defArgs (top 44), defBody (top 44), defScope (top 44), [], []⟩
def dd26 : He.DefD := ⟨("meets_of", none), "meets_of", "meets_of", defArgs (top 45), defBody (top 45), defScope (top 45), [], []⟩
def dd27 : He.DefD := ⟨("primes_of", none), "primes_of", "primes_of", defArgs (top 47), defBody (top 47), defScope (top 47), [], []⟩
def dd28 : He.DefD := ⟨("parted", none), "parted", "parted", defArgs (top 48), defBody (top 48), defScope (top 48), [], []⟩
def dd29 : He.DefD := ⟨("powered", none), "powered", "powered", defArgs (top 49), defBody (top 49), defScope (top 49), [], []⟩
def dd30 : He.DefD := ⟨("is_rest", none), "is_rest", "is_rest", defArgs (top 50), defBody (top 50), defScope (top 50), [], []⟩
def dd31 : He.DefD := ⟨("is_barred", none), "is_barred", "is_barred", defArgs (top 51), defBody (top 51), defScope (top 51), [], []⟩
def dd32 : He.DefD := ⟨("bars_between", none), "bars_between", "bars_between", defArgs (top 52), defBody (top 52), defScope (top 52), [], []⟩
def dd33 : He.DefD := ⟨("bars_in", none), "bars_in", "bars_in", defArgs (top 53), defBody (top 53), defScope (top 53), [], []⟩
def dd34 : He.DefD := ⟨("lean_and_shared", none), "lean_and_shared", "lean_and_shared", defArgs (top 55), defBody (top 55), defScope (top 55), [], []⟩
def dd35 : He.DefD := ⟨("roots_of", none), "roots_of", "roots_of", defArgs (top 56), defBody (top 56), defScope (top 56), [], []⟩
def dd36 : He.DefD := ⟨("moved", none), "moved", "moved", defArgs (top 57), defBody (top 57), defScope (top 57), [], []⟩
def dd37 : He.DefD := ⟨("back", none), "back", "back", defArgs (top 58), defBody (top 58), defScope (top 58), [], []⟩
def dd38 : He.DefD := ⟨("value_of", none), "value_of", "value_of", defArgs (top 59), defBody (top 59), defScope (top 59), [], []⟩
def dd39 : He.DefD := ⟨("reaches", none), "reaches", "reaches", defArgs (top 61), defBody (top 61), defScope (top 61), [], []⟩
def dd40 : He.DefD := ⟨("rooted", none), "rooted", "rooted", defArgs (top 62), defBody (top 62), defScope (top 62), [], []⟩
def dd41 : He.DefD := ⟨("sized_points", none), "sized_points", "sized_points", defArgs (top 63), defBody (top 63), defScope (top 63), [], []⟩
def dd42 : He.DefD := ⟨("low_in", none), "low_in", "low_in", defArgs (top 64), defBody (top 64), defScope (top 64), [], []⟩
def dd43 : He.DefD := ⟨("point_in", none), "point_in", "point_in", defArgs (top 66), defBody (top 66), defScope (top 66), [], []⟩
def dd44 : He.DefD := ⟨("doubled", none), "doubled", "doubled", defArgs (top 70), defBody (top 70), defScope (top 70), [], []⟩
def dd45 : He.DefD := ⟨("fits_conic", none), "fits_conic", "fits_conic", defArgs (top 71), defBody (top 71), defScope (top 71), [], []⟩
def dd46 : He.DefD := ⟨("need_conic", none), "need_conic", "need_conic", defArgs (top 72), defBody (top 72), defScope (top 72), [], []⟩
def dd47 : He.DefD := ⟨("both", none), "both", "both", defArgs (top 73), defBody (top 73), defScope (top 73), [], []⟩
def dd48 : He.DefD := ⟨("headed", none), "headed", "headed", defArgs (top 74), defBody (top 74), defScope (top 74), [], []⟩
def dd49 : He.DefD := ⟨("corners_in", none), "corners_in", "corners_in", defArgs (top 75), defBody (top 75), defScope (top 75), [], []⟩
def dd50 : He.DefD := ⟨("values_in", none), "values_in", "values_in", defArgs (top 76), defBody (top 76), defScope (top 76), [], []⟩
def dd51 : He.DefD := ⟨("value_at", none), "value_at", "value_at", defArgs (top 77), defBody (top 77), defScope (top 77), [], []⟩
def dd52 : He.DefD := ⟨("has_points", none), "has_points", "has_points", defArgs (top 78), defBody (top 78), defScope (top 78), [], []⟩
def dd53 : He.DefD := ⟨("points_on", none), "points_on", "points_on", defArgs (top 79), defBody (top 79), defScope (top 79), [], []⟩
def dd54 : He.DefD := ⟨("mixed", none), "mixed", "mixed", defArgs (top 81), defBody (top 81), defScope (top 81), [], []⟩
def dd55 : He.DefD := ⟨("need_numbers", none), "need_numbers", "need_numbers", defArgs (top 84), defBody (top 84), defScope (top 84), [], []⟩
def dd56 : He.DefD := ⟨("turned", none), "turned", "turned", defArgs (top 85), defBody (top 85), defScope (top 85), [], []⟩
def dd57 : He.DefD := ⟨("sums_in", none), "sums_in", "sums_in", defArgs (top 86), defBody (top 86), defScope (top 86), [], []⟩
def dd58 : He.DefD := ⟨("squares_for", none), "squares_for", "squares_for", defArgs (top 87), defBody (top 87), defScope (top 87), [], []⟩
def dd59 : He.DefD := ⟨("are_squares", none), "are_squares", "are_squares", defArgs (top 88), defBody (top 88), defScope (top 88), [], []⟩
def dd60 : He.DefD := ⟨("sum_bars", none), "sum_bars", "sum_bars", defArgs (top 89), defBody (top 89), defScope (top 89), [], []⟩
def dd61 : He.DefD := ⟨("fits_trianglesby", none), "fits", "fits", defArgs (top 92), defBody (top 92), defScope (top 92), [], []⟩
def dd62 : He.DefD := ⟨("need_squares", none), "need_squares", "need_squares", defArgs (top 94), defBody (top 94), defScope (top 94), [], []⟩
def dd63 : He.DefD := ⟨("spread", none), "spread", "spread", defArgs (top 95), defBody (top 95), defScope (top 95), [], []⟩
def dd64 : He.DefD := ⟨("across", none), "across", "across", defArgs (top 96), defBody (top 96), defScope (top 96), [], []⟩
def dd65 : He.DefD := ⟨("need_sides", none), "need_sides", "need_sides", defArgs (top 97), defBody (top 97), defScope (top 97), [], []⟩
def dd66 : He.DefD := ⟨("are_sides", none), "are_sides", "are_sides", defArgs (top 98), defBody (top 98), defScope (top 98), [], []⟩
def dd67 : He.DefD := ⟨("medians_of", none), "medians_of", "medians_of", defArgs (top 99), defBody (top 99), defScope (top 99), [], []⟩
def dd68 : He.DefD := ⟨("area_square", none), "area_square", "area_square", defArgs (top 100), defBody (top 100), defScope (top 100), [], []⟩
def dd70 : He.DefD := ⟨("_law_roll", none), "_law_roll", "_law_roll", defArgs (top 103), defBody (top 103), defScope (top 103), [], []⟩
def dd71 : He.DefD := ⟨("_law_gcd", none), "_law_gcd", "_law_gcd", defArgs (top 104), defBody (top 104), defScope (top 104), [], []⟩
def dd72 : He.DefD := ⟨("_law_cross", none), "_law_cross", "_law_cross", defArgs (top 105), defBody (top 105), defScope (top 105), [], []⟩
def dd73 : He.DefD := ⟨("_law_plain", none), "_law_plain", "_law_plain", defArgs (top 106), defBody (top 106), defScope (top 106), [], []⟩
def dd74 : He.DefD := ⟨("_law_low", none), "_law_low", "_law_low", defArgs (top 107), defBody (top 107), defScope (top 107), [], []⟩
def dd75 : He.DefD := ⟨("_law_is_square", none), "_law_is_square", "_law_is_square", defArgs (top 108), defBody (top 108), defScope (top 108), [], []⟩
def dd76 : He.DefD := ⟨("_law_by_primes", none), "_law_by_primes", "_law_by_primes", defArgs (top 109), defBody (top 109), defScope (top 109), [], []⟩
def dd77 : He.DefD := ⟨("_law_sums_right", none), "_law_sums_right", "_law_sums_right", defArgs (top 110), defBody (top 110), defScope (top 110), [], []⟩
def dd78 : He.DefD := ⟨("_law_circle_right", none), "_law_circle_right", "_law_circle_right", defArgs (top 111), defBody (top 111), defScope (top 111), [], []⟩
def dd79 : He.DefD := ⟨("_law_points_right", none), "_law_points_right", "_law_points_right", defArgs (top 112), defBody (top 112), defScope (top 112), [], []⟩
def dd80 : He.DefD := ⟨("_law_sides_right", none), "_law_sides_right", "_law_sides_right", defArgs (top 113), defBody (top 113), defScope (top 113), [], []⟩
def dd69 : He.DefD := ⟨("_law_cup", none), "_law_cup", "_law_cup", defArgs (top 102), defBody (top 102), defScope (top 102), [], []⟩
def dd81 : He.DefD := ⟨("law", none), "law", "law", defArgs (top 114), defBody (top 114), defScope (top 114), [], []⟩
def fn : List He.DefD := [dd0, dd1, dd2, dd3, dd4, dd5, dd6, dd7, dd8, dd9, dd10, dd11, dd12, dd13, dd14, dd15, dd16, dd17, dd18, dd19, dd20, dd21, dd22, dd23, dd24, dd25, dd26, dd27, dd28, dd29, dd30, dd31, dd32, dd33, dd34, dd35, dd36, dd37, dd38, dd39, dd40, dd41, dd42, dd43, dd44, dd45, dd46, dd47, dd48, dd49, dd50, dd51, dd52, dd53, dd54, dd55, dd56, dd57, dd58, dd59, dd60, dd61, dd62, dd63, dd64, dd65, dd66, dd67, dd68, dd70, dd71, dd72, dd73, dd74, dd75, dd76, dd77, dd78, dd79, dd80, dd69, dd81]
def fa : List He.Fa := [.glo "is_whole", .glo "need_whole", .glo "is_tuple_of", .glo "are_wholes", .glo "is_portion", .glo "lowest", .glo "plus", .glo "times", .glo "is_three", .glo "is_triple", .glo "plainly", .glo "need_triple", .glo "dot", .glo "cross", .glo "volume", .glo "place_of", .glo "point_at", .glo "fits_circlemeets", .glo "need_circle", .glo "need_line", .glo "square_in", .glo "lead_in", .glo "root_of", .glo "meets_in", .glo "is_circle", .glo "lead_of", .glo "meets_of", .glo "primes_of", .glo "parted", .glo "powered", .glo "is_rest", .glo "is_barred", .glo "bars_between", .glo "bars_in", .glo "lean_and_shared", .glo "roots_of", .glo "moved", .glo "back", .glo "value_of", .glo "reaches", .glo "rooted", .glo "sized_points", .glo "low_in", .glo "point_in", .glo "doubled", .glo "fits_conic", .glo "need_conic", .glo "both", .glo "headed", .glo "corners_in", .glo "values_in", .glo "value_at", .glo "has_points", .glo "points_on", .glo "mixed", .glo "need_numbers", .glo "turned", .glo "sums_in", .glo "squares_for", .glo "are_squares", .glo "sum_bars", .glo "fits_trianglesby", .glo "need_squares", .glo "spread", .glo "across", .glo "need_sides", .glo "are_sides", .glo "medians_of", .glo "area_square", .glo "_law_roll", .glo "_law_gcd", .glo "_law_cross", .glo "_law_plain", .glo "_law_low", .glo "_law_is_square", .glo "_law_by_primes", .glo "_law_sums_right", .glo "_law_circle_right", .glo "_law_points_right", .glo "_law_sides_right", .glo "_law_cup", .glo "law", .free "abs", .free "all", .free "any", .free "bool", .free "dict", .free "enumerate", .free "int", .free "isinstance", .free "len", .free "list", .free "max", .free "range", .free "sorted", .free "sum", .free "tuple", .free "zip", .int "GREAT_circlemeets" (1000), .int "GREAT_portions" (1000000000000000000000000000000000000000000000000000000000000), .int "GREAT_trianglesby" (10000), .int "HEIGHT" (10), .int "HIGH_conicpoints" (5), .int "HIGH_squaresums" (100), .int "PART_circlemeets" (100), .int "PART_triples" (1000000000)]
def exl (K : PySem.W.Frag) : List Bool := [bltG K "gcd" "math.gcd", bltG K "isqrt" "math.isqrt", cstG K "BEYOND" (.tuple [.int 0, .int 0, .int 1])]
def ex (K : PySem.W.Frag) : Bool := (exl K).all id
theorem ex_at {K : PySem.W.Frag} (h : ex K = true) (i : Nat) {b : Bool} (e : (exl K)[i]? = some b) : b = true := by
  have q := List.all_eq_true.mp h b (List.mem_of_getElem? e)
  exact q
abbrev R : PySem.W.OpenRow := PySem.W.OpenLaw.row PySem.Challenge.rw_linesruled_k93_whole_circles_and_sums_of
abbrev hk : PySem.W.Hook := hookX 2 fa fn ex
def ob (s : PySem.W.SharedT) : AlX := obsX 2 fa fn ex (HandSHeadRun.getT s)
theorem ob_eq (s : PySem.W.SharedT) : ob s = hk.obs s.abs := obsX_eq (HandSHeadRun.getT_eq s)
def nms0 : List PySem.Str := ["RulerError", "InvalidNumber", "InvalidTriple", "InvalidPoints", "InvalidConic", "InvalidSides", "NotFound", "is_whole", "need_whole", "is_tuple_of", "are_wholes", "GREAT_portions", "is_portion", "lowest", "plus", "times", "PART_triples", "is_three", "is_triple", "plainly", "need_triple", "dot", "cross", "volume", "place_of", "point_at", "PART_circlemeets", "GREAT_circlemeets", "BEYOND", "fits"]
def nms1 : List PySem.Str := ["fits_circlemeets", "need_circle", "need_line", "square_in", "lead_in", "root_of", "meets_in", "is_circle", "lead_of", "meets_of", "primes_of", "parted", "powered", "is_rest", "is_barred", "bars_between", "bars_in", "lean_and_shared", "roots_of", "moved", "back", "value_of", "reaches", "rooted", "sized_points", "low_in", "point_in", "HIGH_conicpoints", "HEIGHT", "doubled"]
def nms2 : List PySem.Str := ["fits_conic", "need_conic", "both", "headed", "corners_in", "values_in", "value_at", "has_points", "points_on", "mixed", "HIGH_squaresums", "need_numbers", "turned", "sums_in", "squares_for", "are_squares", "sum_bars", "GREAT_trianglesby", "fits_trianglesby", "need_squares", "spread", "across", "need_sides", "are_sides", "medians_of", "area_square", "_law_cup", "_law_roll", "_law_gcd", "_law_cross"]
def nms3 : List PySem.Str := ["_law_plain", "_law_low", "_law_is_square", "_law_by_primes", "_law_sums_right", "_law_circle_right", "_law_points_right", "_law_sides_right"]
def nms : List PySem.Str := nms0 ++ nms1 ++ nms2 ++ nms3
open PySem PySem.W HandSHeadRun in
theorem run0 (w : World) : (wholeF (fun p => stepQ (denQ tabQ) p w) fenceQ 8000 R.prog).map (fun x => (looksF R.prog x.1.heap x.2.abs, seenQ (PySem.W.view R.prog [0, 114]) nms (importedModules R.prog.main.body) (fun s => xlAt (PySem.W.view R.prog [0, 114]) [] s && recOk R.toRowW.records s) x.2.abs)) = some (true, openGood (PySem.W.view R.prog [0, 114]) nms) := by
  kernel_rfl
open PySem PySem.W HandSHeadRun in
theorem run1 (w : World) : (wholeF (fun p => stepQ (denQ tabQ) p w) fenceQ 8000 R.prog).map (fun x => ob x.2) = some (hk.val w) := by
  kernel_rfl
theorem map_both {a b c d : Type} {o : Option a} {f : a -> b} {g : a -> c} {k : a -> d} {u : b} {v : c} {z : d} (h1 : o.map (fun x => (f x, g x)) = some (u, v)) (h2 : o.map k = some z) : o.map (fun x => (f x, g x, k x)) = some (u, v, z) := by
  cases o with
  | none => cases h1
  | some x =>
    injection h1 with h1
    injection h1 with e1 e2
    injection h2 with h2
    exact congrArg some (Prod.ext e1 (Prod.ext e2 h2))
theorem run (w : World) : HandSHeadRun.RunEqI R (PySem.W.view R.prog [0, 114]) hk ob 8000 nms w := map_both (run0 w) (run1 w)
end Wk
end
section
set_option Elab.async false
set_option linter.all false
set_option maxRecDepth 100000
/-! Nm: integers without a common divisor, told up to a factor -/
namespace Nm
def gcdL : List Int → Nat
  | [] => 0
  | x :: xs => Nat.gcd x.natAbs (gcdL xs)
def fnz : List Int → Int
  | [] => 0
  | x :: xs => if x = 0 then fnz xs else x
/-- no common divisor, the first one that is not 0 above 0 -/
def Nrm (l : List Int) : Prop := gcdL l = 1 ∧ 0 < fnz l
theorem gcdL_mul (k : Int) : ∀ l : List Int, gcdL (l.map (k * ·)) = k.natAbs * gcdL l
  | [] => by simp [gcdL]
  | x :: xs => by
    show Nat.gcd (k * x).natAbs (gcdL (xs.map (k * ·))) = _
    rw [gcdL_mul k xs, Int.natAbs_mul, Nat.gcd_mul_left]
    rfl
theorem fnz_mul {k : Int} (hk : k ≠ 0) : ∀ l : List Int, fnz (l.map (k * ·)) = k * fnz l
  | [] => by simp [fnz]
  | x :: xs => by
    show (if k * x = 0 then fnz (xs.map (k * ·)) else k * x) = k * (if x = 0 then fnz xs else x)
    by_cases h : x = 0
    · rw [if_pos h, if_pos (by rw [h, Int.mul_zero]), fnz_mul hk xs]
    · rw [if_neg h, if_neg (Int.mul_ne_zero hk h)]
theorem Nrm.eq {u v : List Int} {k m : Int} (hu : Nrm u) (hv : Nrm v) (hk : k ≠ 0) (hm : m ≠ 0) (h : u.map (k * ·) = v.map (m * ·)) : u = v := by
  have h1 := congrArg gcdL h
  rw [gcdL_mul, gcdL_mul, hu.1, hv.1, Nat.mul_one, Nat.mul_one] at h1
  have h2 := congrArg fnz h
  rw [fnz_mul hk, fnz_mul hm] at h2
  have h3 : k = m := by
    rcases Int.natAbs_eq_natAbs_iff.mp h1 with e | e
    · exact e
    · exfalso
      subst e
      have a := hu.2
      have b := hv.2
      have c : m * (fnz u + fnz v) = 0 := by rw [Int.mul_add]; rw [Int.neg_mul] at h2; omega
      rcases Int.mul_eq_zero.mp c with d | d
      · exact hm d
      · omega
  subst h3
  exact (List.map_inj_right fun x y e => Int.eq_of_mul_eq_mul_left hk e).mp h
theorem Nrm.eq2 {a b c d k m : Int} (hu : Nrm [a, b]) (hv : Nrm [c, d]) (hk : k ≠ 0) (hm : m ≠ 0) (h1 : k * a = m * c) (h2 : k * b = m * d) : a = c ∧ b = d := by
  have := hu.eq hv hk hm (by simp [h1, h2])
  simpa using this
theorem Nrm.eq3 {a b e c d f k m : Int} (hu : Nrm [a, b, e]) (hv : Nrm [c, d, f]) (hk : k ≠ 0) (hm : m ≠ 0) (h1 : k * a = m * c) (h2 : k * b = m * d) (h3 : k * e = m * f) : a = c ∧ b = d ∧ e = f := by
  have := hu.eq hv hk hm (by simp [h1, h2, h3])
  simpa using this
theorem Nrm.eq4 {a b e g c d f h k m : Int} (hu : Nrm [a, b, e, g]) (hv : Nrm [c, d, f, h]) (hk : k ≠ 0) (hm : m ≠ 0) (h1 : k * a = m * c) (h2 : k * b = m * d) (h3 : k * e = m * f) (h4 : k * g = m * h) : a = c ∧ b = d ∧ e = f ∧ g = h := by
  have := hu.eq hv hk hm (by simp [h1, h2, h3, h4])
  simpa using this
/-- not all 0 -/
def NZ (l : List Int) : Prop := fnz l ≠ 0
theorem gcdL_dvd : ∀ {l : List Int} {x : Int}, x ∈ l → (gcdL l : Int) ∣ x
  | y :: l, x, h => by
    rcases List.mem_cons.mp h with e | h
    · subst e
      exact Int.ofNat_dvd_left.mpr (Nat.gcd_dvd_left _ _)
    · exact Int.dvd_trans (Int.ofNat_dvd.mpr (Nat.gcd_dvd_right _ _)) (gcdL_dvd h)
theorem fnz_mem : ∀ {l : List Int}, fnz l ≠ 0 → fnz l ∈ l
  | [], h => absurd rfl h
  | x :: l, h => by
    unfold fnz at h ⊢
    by_cases e : x = 0
    · rw [if_pos e] at h ⊢
      exact List.mem_cons_of_mem _ (fnz_mem h)
    · rw [if_neg e]
      exact List.mem_cons_self
theorem gcdL_ne {l : List Int} (h : NZ l) : gcdL l ≠ 0 := fun e => by
  have d := gcdL_dvd (fnz_mem h)
  rw [e] at d
  exact h (Int.zero_dvd.mp d)
/-- the factor: the greatest common divisor with the sign of the first that is not 0 -/
def fac (l : List Int) : Int := if 0 < fnz l then (gcdL l : Int) else -(gcdL l : Int)
theorem fac_ne {l : List Int} (h : NZ l) : fac l ≠ 0 := by
  have := gcdL_ne h
  unfold fac
  split <;> omega
theorem fac_dvd {l : List Int} {x : Int} (h : x ∈ l) : fac l ∣ x := by
  unfold fac
  split
  · exact gcdL_dvd h
  · exact Int.neg_dvd.mpr (gcdL_dvd h)
theorem fac_mul {l : List Int} {x : Int} (h : x ∈ l) : x = fac l * (x.fdiv (fac l)) := by
  rw [Int.mul_fdiv_cancel' (fac_dvd h)]
theorem pos_of {g x : Int} (hg : 0 < g) (h : 0 < g * x) : 0 < x := by
  rcases Int.lt_trichotomy x 0 with e | e | e
  · have := Int.mul_neg_of_pos_of_neg hg e
    omega
  · rw [e, Int.mul_zero] at h
    omega
  · exact e
theorem fac_nrm {l m : List Int} (h : NZ l) (e : l = m.map (fac l * ·)) : Nrm m := by
  have hf := fac_ne h
  have h1 : gcdL l = (fac l).natAbs * gcdL m := by rw [← gcdL_mul, ← e]
  have h2 : fnz l = fac l * fnz m := by rw [← fnz_mul hf, ← e]
  have h3 : (fac l).natAbs = gcdL l := by
    unfold fac
    split <;> omega
  refine ⟨?_, ?_⟩
  · rw [h3] at h1
    have := gcdL_ne h
    have h4 : gcdL l * 1 = gcdL l * gcdL m := by omega
    exact (Nat.eq_of_mul_eq_mul_left (by omega) h4).symm
  · unfold fac at h2
    have g := gcdL_ne h
    split at h2
    · rename_i p
      rw [h2] at p
      exact pos_of (by omega) p
    · rename_i p
      have n : fnz l < 0 := by
        have : fnz l ≠ 0 := h
        omega
      rw [h2, Int.neg_mul] at n
      have : 0 < (gcdL l : Int) * fnz m := by omega
      exact pos_of (by omega) this
/-! ### sizes -/
def Bd (n : Nat) (x : Int) : Prop := x.natAbs ≤ n
theorem Bd.mul {m n : Nat} {x y : Int} (h : Bd m x) (g : Bd n y) : Bd (m * n) (x * y) := by
  unfold Bd at *
  rw [Int.natAbs_mul]
  exact Nat.mul_le_mul h g
theorem Bd.add {m n : Nat} {x y : Int} (h : Bd m x) (g : Bd n y) : Bd (m + n) (x + y) := by
  unfold Bd at *
  omega
theorem Bd.sub {m n : Nat} {x y : Int} (h : Bd m x) (g : Bd n y) : Bd (m + n) (x - y) := by
  unfold Bd at *
  omega
theorem Bd.neg {m : Nat} {x : Int} (h : Bd m x) : Bd m (-x) := by
  unfold Bd at *
  omega
theorem Bd.mono {m n : Nat} {x : Int} (h : Bd m x) (l : m ≤ n) : Bd n x := Nat.le_trans h l
theorem Bd.of_mul {n : Nat} {x k y : Int} (h : Bd n x) (hk : k ≠ 0) (e : x = k * y) : Bd n y := by
  unfold Bd at *
  rw [e, Int.natAbs_mul] at h
  have : 1 ≤ k.natAbs := by omega
  exact Nat.le_trans (Nat.le_mul_of_pos_left _ this) h
theorem Bd.le {n : Nat} {x : Int} (h : Bd n x) : -(n : Int) ≤ x ∧ x ≤ n := by
  unfold Bd at h
  omega
theorem Bd.of {n : Nat} {x : Int} (h : -(n : Int) ≤ x ∧ x ≤ n) : Bd n x := by
  unfold Bd
  omega
end Nm
end
section
set_option Elab.async false
set_option linter.all false
set_option maxRecDepth 100000
set_option maxHeartbeats 4000000
/-! Ev: what the combinators answer, step by step -/
namespace Ev
open PySem hiding Flow Arg
open Se

structure W {α : Type} (m : M α) (cs : Cs) (Q : α → Cs → Prop) : Prop where
  ex : ∃ a c, m cs = some (a, c) ∧ Q a c
section
variable {α β : Type} {cs : Cs} {cf : CF} {env : Ev} {fa fb fc ft : SE}
theorem W.eq {m : M α} {Q : α → Cs → Prop} {a : α} {c : Cs} (h : m cs = some (a, c)) (q : Q a c) : W m cs Q := ⟨a, c, h, q⟩
theorem W.mono {m : M α} {Q R : α → Cs → Prop} (h : W m cs Q) (i : ∀ a c, Q a c → R a c) : W m cs R := let ⟨a, c, e, q⟩ := h; ⟨a, c, e, i a c q⟩
theorem W.bnd {m : M α} {f : α → M β} {Q : β → Cs → Prop} (h : W m cs fun a c => W (f a) c Q) : W (M.bnd m f) cs Q := by
  obtain ⟨a, c, e, b, c', e', q⟩ := h
  exact ⟨b, c', by unfold M.bnd; rw [e]; exact e', q⟩
theorem W.ret {a : α} {Q : α → Cs → Prop} (q : Q a cs) : W (M.ret a) cs Q := ⟨a, cs, rfl, q⟩
theorem W.of {o : Option α} {a : α} {Q : α → Cs → Prop} (h : o = some a) (q : Q a cs) : W (M.of o) cs Q := ⟨a, cs, by rw [h]; rfl, q⟩
variable {Q : D → Cs → Prop} {R : Flow → Cs → Prop}
theorem W.var {i : Nat} {d : D} (h : env[i]? = some (.sh d)) (q : Q d cs) : W (mVar i cf env) cs Q := ⟨d, cs, by unfold mVar; rw [h], q⟩
theorem W.pk {i : Nat} {d : D} (h : env[i]? = some (.sh d)) (q : Q d cs) : W (mPk i cf env) cs Q := ⟨d, cs, by unfold mPk; rw [h], q⟩
theorem W.pkO {i : Nat} {d : D} (h : env[i]? = some (.ow d)) (q : Q d cs) : W (mPk i cf env) cs Q := ⟨d, cs, by unfold mPk; rw [h], q⟩
theorem W.lit {d : D} (q : Q d cs) : W (mLit d cf env) cs Q := ⟨d, cs, rfl, q⟩
structure Op (o : Option D) (Q : D → Prop) : Prop where
  ex : ∃ z, o = some z ∧ Q z
theorem W.bin {g : D → D → Option D} (h : W (fa cf env) cs fun x c => W (fb cf env) c fun y c => Op (g x y) fun z => Q z c) : W (mBin g fa fb cf env) cs Q := by
  refine W.bnd (h.mono fun x c h => W.bnd (h.mono fun y c h => ?_))
  obtain ⟨z, e, q⟩ := h
  exact W.of e q
theorem W.neg (h : W (fa cf env) cs fun x c => ∃ i, x = .int i ∧ Q (.int (-i)) c) : W (mNeg fa cf env) cs Q := by
  refine W.bnd (h.mono fun x c h => ?_)
  obtain ⟨i, rfl, q⟩ := h
  exact ⟨_, _, rfl, q⟩
/-- a truth value -/
structure Bo (x : D) (Y N : Prop) : Prop where
  ex : ∃ k, x = .bool k ∧ (k = true → Y) ∧ (k = false → N)
theorem Bo.mono {x : D} {Y N Y' N' : Prop} (h : Bo x Y N) (y : Y → Y') (n : N → N') : Bo x Y' N' := let ⟨k, e, a, b⟩ := h; ⟨k, e, fun q => y (a q), fun q => n (b q)⟩
theorem W.and (h : W (fa cf env) cs fun x c => Bo x (W (fb cf env) c Q) (Q (.bool false) c)) : W (mAnd fa fb cf env) cs Q := by
  refine W.bnd (h.mono fun x c h => ?_)
  obtain ⟨k, rfl, y, n⟩ := h
  cases k with
  | true => exact y rfl
  | false => exact W.ret (n rfl)
theorem W.or (h : W (fa cf env) cs fun x c => Bo x (Q (.bool true) c) (W (fb cf env) c Q)) : W (mOr fa fb cf env) cs Q := by
  refine W.bnd (h.mono fun x c h => ?_)
  obtain ⟨k, rfl, y, n⟩ := h
  cases k with
  | true => exact W.ret (y rfl)
  | false => exact n rfl
theorem W.not (h : W (fa cf env) cs fun x c => ∃ k, x = .bool k ∧ Q (.bool !k) c) : W (mNot fa cf env) cs Q := by
  refine W.bnd (h.mono fun x c h => ?_)
  obtain ⟨k, rfl, q⟩ := h
  exact W.ret q
theorem W.ite (h : W (ft cf env) cs fun x c => Bo x (W (fa cf env) c Q) (W (fb cf env) c Q)) : W (mIf ft fa fb cf env) cs Q := by
  refine W.bnd (h.mono fun x c h => ?_)
  obtain ⟨k, rfl, y, n⟩ := h
  cases k with
  | true => exact y rfl
  | false => exact n rfl
theorem W.chain {g g' : D → D → Option D} (h : W (fa cf env) cs fun x c => W (fb cf env) c fun y c => Op (g x y) fun z => Bo z (W (fc cf env) c fun w c => Op (g' y w) fun z => Q z c) (Q (.bool false) c)) : W (mChain g g' fa fb fc cf env) cs Q := by
  refine W.bnd (h.mono fun x c h => W.bnd (h.mono fun y c h => ?_))
  obtain ⟨z, e, k, rfl, yy, nn⟩ := h
  refine W.bnd (W.of e ?_)
  cases k with
  | true => exact W.bnd ((yy rfl).mono fun w c h => let ⟨z, e, q⟩ := h; W.of e q)
  | false => exact W.ret (nn rfl)
/-- both parts of a chain, by their truth values -/
theorem W.chainB {g g' : D → D → Option D} {k l : Bool} {x y w : D} (h1 : fa cf env cs = some (x, cs)) (h2 : fb cf env cs = some (y, cs)) (h3 : fc cf env cs = some (w, cs)) (e1 : g x y = some (.bool k)) (e2 : g' y w = some (.bool l)) (q : Q (.bool (k && l)) cs) : W (mChain g g' fa fb fc cf env) cs Q := by
  refine W.chain (W.eq h1 (W.eq h2 ⟨_, e1, k, rfl, fun hk => W.eq h3 ⟨_, e2, ?_⟩, fun hk => ?_⟩))
  · subst hk; exact q
  · subst hk; exact q
variable {T : List D → Cs → Prop} {TA : List Arg → Cs → Prop}
theorem W.nil {Q : List α → Cs → Prop} (q : Q [] cs) : W ((mNil : SA α) cf env) cs Q := W.ret q
theorem W.cons {fa : CF → Ev → M α} {fr : SA α} {Q : List α → Cs → Prop} (h : W (fa cf env) cs fun x c => W (fr cf env) c fun xs c => Q (x :: xs) c) : W (mCons fa fr cf env) cs Q :=
  W.bnd (h.mono fun x c h => W.bnd (h.mono fun xs c q => W.ret q))
theorem W.dat {Q : Arg → Cs → Prop} (h : W (fa cf env) cs fun x c => Q (.dat x) c) : W (aDat fa cf env) cs Q := W.bnd (h.mono fun x c q => W.ret q)
theorem W.cupA {i : Nat} {Q : Arg → Cs → Prop} (h : env[i]? = some .cup) (q : Q .cup cs) : W (aCup i cf env) cs Q := ⟨.cup, cs, by unfold aCup; rw [h], q⟩
theorem W.tup {fs : SA D} (h : W (fs cf env) cs fun ds c => Q (.tuple ds) c) : W (mTup fs cf env) cs Q := W.bnd (h.mono fun x c q => W.ret q)
theorem W.lst {fs : SA D} (h : W (fs cf env) cs fun ds c => Q (.list ds) c) : W (mLst fs cf env) cs Q := W.bnd (h.mono fun x c q => W.ret q)
theorem W.call {i : Nat} {fs : SA Arg} (h : W (fs cf env) cs fun as c => W (cf i as) c Q) : W (mCall i fs cf env) cs Q := W.bnd h
theorem W.bi {g : List D → Option D} {fs : SA D} (h : W (fs cf env) cs fun ds c => Op (g ds) fun z => Q z c) : W (mBI g fs cf env) cs Q :=
  W.bnd (h.mono fun ds c h => let ⟨z, e, q⟩ := h; W.of e q)
theorem W.isi {k : D → Bool} (h : W (fa cf env) cs fun x c => Q (.bool (k x)) c) : W (mIsi k fa cf env) cs Q := W.bnd (h.mono fun x c q => W.ret q)
/-! iterables -/
variable {S : List D → Cs → Prop}
theorem W.seqL (h : W (fa cf env) cs fun x c => ∃ ds, sqL x = some ds ∧ S ds c) : W (mSeq fa cf env) cs S := W.bnd (h.mono fun x c h => let ⟨ds, e, q⟩ := h; W.of e q)
theorem W.iter {g : List D → Option (List D)} {fs : SA D} (h : W (fs cf env) cs fun ds c => ∃ es, g ds = some es ∧ S es c) : W (mIter g fs cf env) cs S := W.bnd (h.mono fun x c h => let ⟨ds, e, q⟩ := h; W.of e q)
theorem W.cutNo {Q : Option Int → Cs → Prop} (q : Q none cs) : W (mNo cf env) cs Q := W.ret q
theorem W.cutYes {Q : Option Int → Cs → Prop} (h : W (fa cf env) cs fun x c => ∃ i, x = .int i ∧ Q (some i) c) : W (mYes fa cf env) cs Q := W.bnd (h.mono fun x c h => by
  obtain ⟨i, rfl, q⟩ := h
  exact W.of rfl q)
theorem W.cut {lo hi : CF → Ev → M (Option Int)} (h : W (fa cf env) cs fun x c => W (lo cf env) c fun l c => W (hi cf env) c fun h c => Op (gCut x l h) fun z => Q z c) : W (mCut fa lo hi cf env) cs Q :=
  W.bnd (h.mono fun x c h => W.bnd (h.mono fun l c h => W.bnd (h.mono fun u c h => let ⟨z, e, q⟩ := h; W.of e q)))
/-! comprehensions -/
theorem W.stepN {f : D → M (Option D)} {Q : List D → Cs → Prop} (q : Q [] cs) : W (stepL f []) cs Q := W.ret q
theorem W.stepC {f : D → M (Option D)} {d : D} {ds : List D} {Q : List D → Cs → Prop} (h : W (f d) cs fun o c => W (stepL f ds) c fun r c => Q (match o with
    | some x => x :: r
    | none => r) c) : W (stepL f (d :: ds)) cs Q := W.bnd (h.mono fun o c h => W.bnd (h.mono fun r c q => W.ret q))
theorem W.turn {e0 e1 : Ev} {m : TgF} {d : D} {Q : Option D → Cs → Prop} (h : m d e0 = some e1) (w : W (ft cf e1) cs fun b c => Bo b (W (fa cf e1) c fun x c => Q (some x) c) (Q none c)) : W (lcTurn cf e0 m ft fa d) cs Q := by
  have e : lcTurn cf e0 m ft fa d = lcB cf e1 ft fa := by unfold lcTurn; rw [h]; rfl
  rw [e]
  refine W.bnd (w.mono fun b c h => ?_)
  obtain ⟨k, rfl, y, n⟩ := h
  cases k with
  | true => exact W.bnd ((y rfl).mono fun x c q => W.ret q)
  | false => exact W.ret (n rfl)
theorem W.lc {vs : List Nat} {fi : SI} {m : TgF} (h : W (fi cf env) cs fun ds c => ds.length ≤ line ∧ W (stepL (lcTurn cf (wipeE env vs) m ft fa) ds) c fun r c => Q (.list r) c) : W (mLc vs fi m ft fa cf env) cs Q := by
  refine W.bnd (h.mono fun ds c h => ?_)
  obtain ⟨hl, h⟩ := h
  rw [if_pos hl]
  exact W.bnd (h.mono fun r c q => W.ret q)
/-- a comprehension whose every turn is known: f the kept item -/
theorem W.lcF {f : D → Option D} {g : D → M (Option D)} {Q : List D → Cs → Prop} : ∀ {ds : List D}, (∀ d ∈ ds, g d cs = some (f d, cs)) → Q (ds.filterMap f) cs → W (stepL g ds) cs Q
  | [], _, q => W.stepN q
  | d :: ds, h, q => W.stepC (W.eq (h d List.mem_cons_self) (W.lcF (fun x hx => h x (List.mem_cons_of_mem _ hx)) (by
    rw [List.filterMap_cons] at q
    cases e : f d with
    | none => rw [e] at q; exact q
    | some x => rw [e] at q; exact q)))
/-! two fors -/
theorem W.stepMN {f : D → M (List D)} {Q : List D → Cs → Prop} (q : Q [] cs) : W (stepM f []) cs Q := W.ret q
theorem W.stepMC {f : D → M (List D)} {d : D} {ds : List D} {Q : List D → Cs → Prop} (h : W (f d) cs fun o c => W (stepM f ds) c fun r c => Q (o ++ r) c) : W (stepM f (d :: ds)) cs Q := W.bnd (h.mono fun o c h => W.bnd (h.mono fun r c q => W.ret q))
theorem W.out {e0 e1 : Ev} {m m1 : TgF} {vs1 : List Nat} {fi1 : SI} {ft1 fe : SE} {d : D} {Q : List D → Cs → Prop} (h : m d e0 = some e1)
    (w : W (ft cf e1) cs fun b c => Bo b (W (fi1 cf e1) c fun ds c => W (stepL (lcTurn cf (noOw (wipeE e1 vs1)) m1 ft1 fe) ds) c Q) (Q [] c)) : W (lcOut cf e0 m vs1 ft fi1 m1 ft1 fe d) cs Q := by
  have e : lcOut cf e0 m vs1 ft fi1 m1 ft1 fe d = lcIn cf e1 vs1 ft fi1 m1 ft1 fe := by unfold lcOut; rw [h]
  rw [e]
  refine W.bnd (w.mono fun b c h => ?_)
  obtain ⟨k, rfl, y, n⟩ := h
  cases k with
  | true => exact W.bnd (y rfl)
  | false => exact W.ret (n rfl)
theorem W.lc2 {vs vs1 : List Nat} {fi fi1 : SI} {m m1 : TgF} {ft1 fe : SE} (h : W (fi cf env) cs fun ds c => W (stepM (lcOut cf (wipeE env vs) m vs1 ft fi1 m1 ft1 fe) ds) c fun r c => r.length ≤ line ∧ Q (.list r) c) : W (mLc2 vs vs1 fi m ft fi1 m1 ft1 fe cf env) cs Q := by
  refine W.bnd (h.mono fun ds c h => W.bnd (h.mono fun r c h => ?_))
  rw [if_pos h.1]
  exact W.ret h.2
/-! statements -/
variable {sa sb : SS}
def Nx (fl : Flow) (Q : Ev → Prop) (P : Prop) : Prop := match fl with
  | .next e => Q e
  | .ret _ => P
theorem W.seq (h : W (sa cf env) cs fun fl c => match fl with
    | .next e => W (sb cf e) c R
    | .ret d => R (.ret d) c) : W (sSeq sa sb cf env) cs R := by
  refine W.bnd (h.mono fun fl c h => ?_)
  cases fl with
  | next e => exact h
  | ret d => exact W.ret h
theorem W.snil (q : R (.next env) cs) : W (sNil cf env) cs R := W.ret q
theorem W.sret (h : W (fa cf env) cs fun d c => R (.ret d) c) : W (sRet fa cf env) cs R := W.bnd (h.mono fun d c q => W.ret q)
theorem W.sretN (q : R (.ret .none) cs) : W (sRetN cf env) cs R := W.ret q
theorem W.sdrop (h : W (fa cf env) cs fun d c => R (.next env) c) : W (sDrop fa cf env) cs R := W.bnd (h.mono fun d c q => W.ret q)
theorem W.sif (h : W (ft cf env) cs fun x c => Bo x (W (sa cf env) c R) (W (sb cf env) c R)) : W (sIf ft sa sb cf env) cs R := by
  refine W.bnd (h.mono fun x c h => ?_)
  obtain ⟨k, rfl, y, n⟩ := h
  cases k with
  | true => exact y rfl
  | false => exact n rfl
variable {f g h' : SW} {QS : Slot → Cs → Prop}
theorem W.sh (h : W (fa cf env) cs fun d c => QS (.sh d) c) : W (mSh fa cf env) cs QS := W.bnd (h.mono fun d c q => W.ret q)
theorem W.ow (h : W (fa cf env) cs fun d c => QS (.ow d) c) : W (mOw fa cf env) cs QS := W.bnd (h.mono fun d c q => W.ret q)
theorem W.set {i : Nat} (h : W (f cf env) cs fun s c => R (.next (env.set i s)) c) : W (sSet i f cf env) cs R := W.bnd (h.mono fun s c q => W.ret q)
theorem W.par2 {i j : Nat} (h : W (f cf env) cs fun s c => W (g cf env) c fun t c => R (.next ((env.set i s).set j t)) c) : W (sPar2 i j f g cf env) cs R :=
  W.bnd (h.mono fun s c h => W.bnd (h.mono fun t c q => W.ret q))
theorem W.par3 {i j l : Nat} (h : W (f cf env) cs fun s c => W (g cf env) c fun t c => W (h' cf env) c fun u c => R (.next (((env.set i s).set j t).set l u)) c) : W (sPar3 i j l f g h' cf env) cs R :=
  W.bnd (h.mono fun s c h => W.bnd (h.mono fun t c h => W.bnd (h.mono fun u c q => W.ret q)))
theorem W.asg {m : TgF} (h : W (fa cf env) cs fun d c => ∃ e, m d env = some e ∧ R (.next e) c) : W (sAsg fa m cf env) cs R :=
  W.bnd (h.mono fun d c h => let ⟨e, h1, q⟩ := h; W.bnd (W.of h1 (W.ret q)))
theorem W.app {i : Nat} (h : W (fa cf env) cs fun d c => ∃ e, appL i d env = some e ∧ R (.next e) c) : W (sApp i fa cf env) cs R :=
  W.bnd (h.mono fun d c h => let ⟨e, h1, q⟩ := h; W.bnd (W.of h1 (W.ret q)))
theorem W.sto {i : Nat} (h : W (fa cf env) cs fun d c => W (fb cf env) c fun k c => ∃ e, stoL i d k env = some e ∧ R (.next e) c) : W (sSto i fb fa cf env) cs R :=
  W.bnd (h.mono fun d c h => W.bnd (h.mono fun k c h => let ⟨e, h1, q⟩ := h; W.bnd (W.of h1 (W.ret q))))
theorem W.ssh {is : List Nat} (h : W (sa cf (shOf is env)) cs R) : W (sSh is sa cf env) cs R := h
theorem W.sfor {fi : SI} {m : TgF} (h : W (fi cf env) cs fun ds c => W (forL (forT m sa cf) ds env) c R) : W (sFor fi m sa cf env) cs R := W.bnd h
theorem W.forN {turn : D → Ev → M Flow} (q : R (.next env) cs) : W (forL turn [] env) cs R := W.ret q
theorem W.forC {turn : D → Ev → M Flow} {d : D} {ds : List D} (h : W (turn d env) cs fun fl c => match fl with
    | .next e => W (forL turn ds e) c R
    | .ret x => R (.ret x) c) : W (forL turn (d :: ds) env) cs R := by
  refine W.bnd (h.mono fun fl c h => ?_)
  cases fl with
  | next e => exact h
  | ret d => exact W.ret h
theorem W.forTn {m : TgF} {d : D} {e : Ev} (h : m d env = some e) (w : W (sa cf e) cs R) : W (forT m sa cf d env) cs R := by
  have q : forT m sa cf d env = sa cf e := by unfold forT; rw [h]
  rw [q]
  exact w
/-- a for by an invariant: I holds of the slots and the cup ahead of the items that are left -/
theorem W.forI {turn : D → Ev → M Flow} (I : List D → Ev → Cs → Prop) : ∀ {ds : List D} {env : Ev} {cs : Cs}, I ds env cs →
    (∀ d ds e c, I (d :: ds) e c → W (turn d e) c fun fl c => match fl with
      | .next e => I ds e c
      | .ret x => R (.ret x) c) → (∀ e c, I [] e c → R (.next e) c) → W (forL turn ds env) cs R
  | [], _, _, i, _, q => W.forN (q _ _ i)
  | d :: ds, _, _, i, t, q => W.forC ((t _ _ _ _ i).mono fun fl c h => by
    cases fl with
    | next e => exact W.forI I h t q
    | ret x => exact h)
theorem W.swh {n : Nat} (h : W (whL (ft cf) (sa cf) n env) cs R) : W (sWhile n ft sa cf env) cs R := h
theorem W.wh {t : Ev → M D} {a : Ev → M Flow} {n : Nat} (h : W (t env) cs fun x c => Bo x (W (a env) c fun fl c => match fl with
      | .next e => W (whL t a n e) c R
      | .ret d => R (.ret d) c) (R (.next env) c)) : W (whL t a (n + 1) env) cs R := by
  unfold whL
  refine W.bnd (h.mono fun x c h => ?_)
  obtain ⟨k, rfl, y, nn⟩ := h
  cases k with
  | true => exact W.bnd ((y rfl).mono fun fl c h => by
      cases fl with
      | next e => exact h
      | ret d => exact W.ret h)
  | false => exact W.ret (nn rfl)
/-- the cup -/
theorem W.cupGet {i : Nat} (h : W (fa cf env) cs fun k c => ∃ d, cupG i env k c = some d ∧ Q d c) : W (mCup i fa cf env) cs Q := by
  refine W.bnd (h.mono fun k c h => ?_)
  obtain ⟨d, e, q⟩ := h
  exact ⟨d, c, by show (match cupG i env k c with
    | some d => some (d, c)
    | none => none) = _; rw [e], q⟩
theorem W.cupPut {i : Nat} (h : W (fa cf env) cs fun d c => W (fb cf env) c fun k c => ∃ c', cupL i env d k c = some c' ∧ R (.next env) c') : W (sCup i fb fa cf env) cs R := by
  refine W.bnd (h.mono fun d c h => W.bnd (h.mono fun k c h => ?_))
  obtain ⟨c', e, q⟩ := h
  refine W.bnd ⟨(), c', ?_, W.ret q⟩
  show (match cupL i env d k c with
    | some cs' => some ((), cs')
    | none => none) = _
  rw [e]
/-- a def's run -/
theorem W.run {F : SS} {n p : Nat} {args : List Arg} (hp : args.length = p) (h : W (F cf (envOf n args)) cs fun fl c => Q (match fl with
    | .next _ => .none
    | .ret d => d) c) : W (runB F n p cf args) cs Q := by
  obtain ⟨fl, c, e, q⟩ := h
  refine ⟨_, c, ?_, q⟩
  unfold runB
  rw [if_pos hp, e]
  cases fl <;> rfl
end
/-! ### sizes -/
def Lv (k : Nat) (i : Int) : Prop := i.natAbs < 2 ^ 2 ^ k
theorem Lv.mono {k l : Nat} {i : Int} (h : Lv k i) (hl : k ≤ l) : Lv l i := Nat.lt_of_lt_of_le h (Nat.pow_le_pow_right (by omega) (Nat.pow_le_pow_right (by omega) hl))
theorem two_pow (k : Nat) : (2 : Nat) ^ 2 ^ (k + 1) = 2 ^ 2 ^ k * 2 ^ 2 ^ k := by
  rw [← Nat.pow_add, Nat.pow_succ, Nat.mul_two]
theorem two_le (k : Nat) : 2 ≤ (2 : Nat) ^ 2 ^ k := by
  have : (2 : Nat) ^ 1 ≤ 2 ^ 2 ^ k := Nat.pow_le_pow_right (by omega) Nat.one_le_two_pow
  omega
theorem Lv.mul {k : Nat} {i j : Int} (h : Lv k i) (g : Lv k j) : Lv (k + 1) (i * j) := by
  unfold Lv at *
  rw [Int.natAbs_mul, two_pow]
  exact Nat.mul_lt_mul'' h g
theorem Lv.add {k : Nat} {i j : Int} (h : Lv k i) (g : Lv k j) : Lv (k + 1) (i + j) := by
  unfold Lv at *
  have h1 := Int.natAbs_add_le i j
  rw [two_pow]
  have h2 := two_le k
  have h3 : 2 * 2 ^ 2 ^ k ≤ (2 : Nat) ^ 2 ^ k * 2 ^ 2 ^ k := Nat.mul_le_mul_right _ h2
  omega
theorem Lv.neg {k : Nat} {i : Int} (h : Lv k i) : Lv k (-i) := by
  unfold Lv at *
  rw [Int.natAbs_neg]
  exact h
theorem Lv.sub {k : Nat} {i j : Int} (h : Lv k i) (g : Lv k j) : Lv (k + 1) (i - j) := by
  rw [Int.sub_eq_add_neg]
  exact h.add g.neg
theorem Lv.log {i : Int} {k : Nat} (h : Lv k i) : i.natAbs.log2 < 2 ^ k ∨ i = 0 := by
  by_cases e : i = 0
  · exact .inr e
  · exact .inl ((Nat.log2_lt (by omega)).mpr h)
theorem log_lt {i : Int} {k : Nat} (h : Lv k i) : i.natAbs.log2 < 2 ^ k := by
  rcases h.log with h | rfl
  · exact h
  · exact Nat.two_pow_pos k
/-! ### operations -/
section
variable {Q : D → Prop}
theorem Op.of {o : Option D} {z : D} (h : o = some z) (q : Q z) : Op o Q := ⟨z, h, q⟩
theorem Op.add {i j : Int} (q : Q (.int (i + j))) : Op (gAdd (.int i) (.int j)) Q := ⟨_, rfl, q⟩
theorem Op.sub {i j : Int} (q : Q (.int (i - j))) : Op (gSub (.int i) (.int j)) Q := ⟨_, rfl, q⟩
theorem Op.mul {i j : Int} (h : Lv 18 i) (g : Lv 18 j) (q : Q (.int (i * j))) : Op (gMul (.int i) (.int j)) Q := by
  refine ⟨_, ?_, q⟩
  have h1 := log_lt h
  have h2 := log_lt g
  show (if i.natAbs.log2 + j.natAbs.log2 < 1000000 then Option.some (PyData.int (i * j)) else none) = _
  rw [if_pos (by omega)]
theorem Op.div {i j : Int} (h : j ≠ 0) (g : Lv 13 j) (q : Q (.int (i.fdiv j))) : Op (gDiv (.int i) (.int j)) Q := by
  refine ⟨_, ?_, q⟩
  have h2 := log_lt g
  show (if j ≠ 0 ∧ j.natAbs.log2 < 9000 then Option.some (PyData.int (i.fdiv j)) else none) = _
  rw [if_pos ⟨h, by omega⟩]
theorem Op.mod {i j : Int} (h : j ≠ 0) (q : Q (.int (i.fmod j))) : Op (gMod (.int i) (.int j)) Q := by
  refine ⟨_, ?_, q⟩
  show (if j ≠ 0 then Option.some (PyData.int (i.fmod j)) else none) = _
  rw [if_pos h]
theorem Op.eqI {i j : Int} (q : Q (.bool (decide (i = j)))) : Op (gEq (.int i) (.int j)) Q := ⟨_, rfl, q⟩
theorem Op.neI {i j : Int} (q : Q (.bool (!decide (i = j)))) : Op (gNe (.int i) (.int j)) Q := ⟨_, rfl, q⟩
theorem Op.ltI {i j : Int} (q : Q (.bool (decide (i < j)))) : Op (gLt (.int i) (.int j)) Q := ⟨_, rfl, q⟩
theorem Op.gtI {i j : Int} (q : Q (.bool (decide (j < i)))) : Op (gGt (.int i) (.int j)) Q := ⟨_, rfl, q⟩
theorem Op.leI {i j : Int} (q : Q (.bool (decide (i ≤ j)))) : Op (gLe (.int i) (.int j)) Q := ⟨_, rfl, q⟩
theorem Op.geI {i j : Int} (q : Q (.bool (decide (j ≤ i)))) : Op (gGe (.int i) (.int j)) Q := ⟨_, rfl, q⟩
theorem Op.gcd {i j : Int} (q : Q (.int ((Nat.gcd i.natAbs j.natAbs : Nat) : Int))) : Op (gGcd [.int i, .int j]) Q := ⟨_, rfl, q⟩
end
end Ev
end
section
set_option Elab.async false
set_option linter.all false
set_option maxRecDepth 100000
set_option maxHeartbeats 4000000
namespace Ev
open PySem hiding Flow Arg
open Se Nm
abbrev vi (l : List Int) : PyData := .tuple (l.map .int)
abbrev t2 (a b : Int) : PyData := .tuple [.int a, .int b]
abbrev t3 (a b c : Int) : PyData := .tuple [.int a, .int b, .int c]
abbrev t4 (a b c d : Int) : PyData := .tuple [.int a, .int b, .int c, .int d]
theorem exI {α : Sort _} {p q : α → Prop} {a : α} (h : p a) (g : q a) : ∃ x, p x ∧ q x := ⟨a, h, g⟩
theorem Lv.of {k n : Nat} {x : Int} (h : Bd n x) (hk : n < 2 ^ 2 ^ k) : Lv k x := Nat.lt_of_le_of_lt h hk
theorem _root_.Nm.Bd.lv {n : Nat} {x : Int} (h : Bd n x) (hn : n ≤ 1000000000000000000) : Lv 6 x := Nat.lt_of_le_of_lt (Nat.le_trans h hn) (by decide)
section
variable {cs : Cs} {cf : CF} {env : Ev} {fa fb fc ft : SE} {Q : PyData → Cs → Prop}
theorem Bo.t {Y N : Prop} (y : Y) : Bo (.bool true) Y N := ⟨true, rfl, fun _ => y, fun h => by cases h⟩
theorem Bo.f {Y N : Prop} (n : N) : Bo (.bool false) Y N := ⟨false, rfl, (fun h => by cases h), fun _ => n⟩
theorem Bo.d {p : Prop} [Decidable p] {Y N : Prop} (y : p → Y) (n : ¬p → N) : Bo (.bool (decide p)) Y N := ⟨_, rfl, fun h => y (of_decide_eq_true h), fun h => n (of_decide_eq_false h)⟩
theorem Bo.nd {p : Prop} [Decidable p] {Y N : Prop} (y : ¬p → Y) (n : p → N) : Bo (.bool (!decide p)) Y N := ⟨_, rfl, fun h => y (by simpa using h), fun h => n (by simpa using h)⟩
theorem Bo.b {k : Bool} {Y N : Prop} (y : k = true → Y) (n : k = false → N) : Bo (.bool k) Y N := ⟨_, rfl, y, n⟩
theorem W.iteI {p : Prop} {dp : Decidable p} {x y : Int} (h1 : ft cf env cs = some (.bool (@decide p dp), cs)) (h2 : fa cf env cs = some (.int x, cs)) (h3 : fb cf env cs = some (.int y, cs)) (q : Q (.int (@_root_.ite _ p dp x y)) cs) : W (mIf ft fa fb cf env) cs Q := by
  refine W.ite (W.eq h1 (Bo.d (fun h => W.eq h2 ?_) fun h => W.eq h3 ?_))
  · rw [if_pos h] at q; exact q
  · rw [if_neg h] at q; exact q
theorem W.andB {k l : Bool} (h1 : fa cf env cs = some (.bool k, cs)) (h2 : fb cf env cs = some (.bool l, cs)) (q : Q (.bool (k && l)) cs) : W (mAnd fa fb cf env) cs Q := by
  refine W.and (W.eq h1 (Bo.b (fun h => W.eq h2 ?_) fun h => ?_))
  · subst h; exact q
  · subst h; exact q
def nzD (d : PyData) : Option PyData := match d with
  | .int x => if x ≠ 0 then some (.int x) else none
  | _ => none
theorem nzD_map : ∀ l : List Int, (l.map PyData.int).filterMap nzD = (l.filter fun x => decide (x ≠ 0)).map .int
  | [] => rfl
  | x :: l => by
    rw [List.map_cons, List.filterMap_cons, nzD_map l, List.filter_cons]
    by_cases h : x = 0 <;> simp [h, nzD]
/-- the integers that are not 0, of a comprehension -/
theorem W.nz {i : Nat} {S : List PyData → Cs → Prop} (hi : i < env.length) : ∀ {l : List Int}, S ((l.filter fun x => decide (x ≠ 0)).map .int) cs → W (stepL (lcTurn cf env (gNm i) (mBin gNe (mPk i) (mLit (.int 0))) (mVar i)) (l.map .int)) cs S := fun {l} q => by
  have e : ∀ x : Int, (env.set i (.sh (.int x)))[i]? = some (.sh (.int x)) := fun x => List.getElem?_set_self hi
  refine W.lcF (f := nzD) (fun d hd => ?_) (by rw [nzD_map]; exact q)
  obtain ⟨x, _, rfl⟩ := List.mem_map.mp hd
  unfold lcTurn
  show lcB cf (env.set i (.sh (.int x))) _ _ cs = _
  unfold lcB M.bnd mBin mPk mLit M.bnd M.of
  simp only [e, gNe]
  by_cases h : x = 0
  · simp [h, M.ret, nzD]
  · simp [h, mVar, e, M.ret, M.bnd, nzD]
theorem W.nz2 {i : Nat} {S : List PyData → Cs → Prop} {a0 a1 : Int} (hi : i < env.length) (q : S (([a0, a1].filter fun x => decide (x ≠ 0)).map .int) cs) : W (stepL (lcTurn cf env (gNm i) (mBin gNe (mPk i) (mLit (.int 0))) (mVar i)) [.int a0, .int a1]) cs S := W.nz (l := [a0, a1]) hi q
theorem W.nz3 {i : Nat} {S : List PyData → Cs → Prop} {a0 a1 a2 : Int} (hi : i < env.length) (q : S (([a0, a1, a2].filter fun x => decide (x ≠ 0)).map .int) cs) : W (stepL (lcTurn cf env (gNm i) (mBin gNe (mPk i) (mLit (.int 0))) (mVar i)) [.int a0, .int a1, .int a2]) cs S := W.nz (l := [a0, a1, a2]) hi q
theorem W.nz4 {i : Nat} {S : List PyData → Cs → Prop} {a0 a1 a2 a3 : Int} (hi : i < env.length) (q : S (([a0, a1, a2, a3].filter fun x => decide (x ≠ 0)).map .int) cs) : W (stepL (lcTurn cf env (gNm i) (mBin gNe (mPk i) (mLit (.int 0))) (mVar i)) [.int a0, .int a1, .int a2, .int a3]) cs S := W.nz (l := [a0, a1, a2, a3]) hi q
theorem W.nz6 {i : Nat} {S : List PyData → Cs → Prop} {a0 a1 a2 a3 a4 a5 : Int} (hi : i < env.length) (q : S (([a0, a1, a2, a3, a4, a5].filter fun x => decide (x ≠ 0)).map .int) cs) : W (stepL (lcTurn cf env (gNm i) (mBin gNe (mPk i) (mLit (.int 0))) (mVar i)) [.int a0, .int a1, .int a2, .int a3, .int a4, .int a5]) cs S := W.nz (l := [a0, a1, a2, a3, a4, a5]) hi q
theorem W.nz9 {i : Nat} {S : List PyData → Cs → Prop} {a0 a1 a2 a3 a4 a5 a6 a7 a8 : Int} (hi : i < env.length) (q : S (([a0, a1, a2, a3, a4, a5, a6, a7, a8].filter fun x => decide (x ≠ 0)).map .int) cs) : W (stepL (lcTurn cf env (gNm i) (mBin gNe (mPk i) (mLit (.int 0))) (mVar i)) [.int a0, .int a1, .int a2, .int a3, .int a4, .int a5, .int a6, .int a7, .int a8]) cs S := W.nz (l := [a0, a1, a2, a3, a4, a5, a6, a7, a8]) hi q
theorem nz_head : ∀ {l : List Int}, NZ l → ∃ r, (l.filter fun x => decide (x ≠ 0)) = fnz l :: r
  | [], h => absurd rfl h
  | x :: l, h => by
    rw [List.filter_cons]
    unfold NZ fnz at h
    unfold fnz
    by_cases e : x = 0
    · rw [if_pos e] at h ⊢
      rw [if_neg (by simp [e])]
      exact nz_head h
    · rw [if_neg e, if_pos (by simp [e])]
      exact ⟨_, rfl⟩
theorem Op.head {l : List Int} {Q : PyData → Prop} (h : NZ l) (q : Q (.int (fnz l))) : Op (gIx (.list ((l.filter fun x => decide (x ≠ 0)).map .int)) (.int 0)) Q := by
  obtain ⟨r, e⟩ := nz_head h
  rw [e]
  refine ⟨_, ?_, q⟩
  show L2.atI (PyData.int (fnz l) :: r.map .int) 0 = _
  unfold L2.atI L2.ixN
  rw [if_pos (by omega), if_pos (by simp)]
  rfl
end
theorem gcd2 (a b : Int) : ((Nat.gcd a.natAbs b.natAbs : Nat) : Int) = (gcdL [a, b] : Nat) := by
  simp [gcdL]
theorem gcd3 (a b c : Int) : ((Nat.gcd ((Nat.gcd a.natAbs b.natAbs : Nat) : Int).natAbs c.natAbs : Nat) : Int) = (gcdL [a, b, c] : Nat) := by
  simp [gcdL, Nat.gcd_assoc]
theorem Op.divE {x s y : Int} {Q : PyData → Prop} (hs : s ≠ 0) (g : Lv 13 s) (e : x = s * y) (q : Q (.int y)) : Op (gDiv (.int x) (.int s)) Q := by
  refine Op.div hs g ?_
  have : x.fdiv s = y := by rw [e]; exact Int.mul_fdiv_cancel_left y hs
  rw [this]
  exact q
theorem Op.eqT {d e : PyData} {Q : PyData → Prop} (h : d = e) (hs : shp d = true) (q : Q (.bool true)) : Op (gEq d e) Q := by
  subst h
  refine ⟨_, ?_, q⟩
  have r := SeqAt.eqv_refl _ (SeqAt.canLay_of_shaped hs)
  cases d <;> simp [gEq, hs, r]
end Ev
end
section
set_option Elab.async false
set_option linter.all false
set_option maxRecDepth 100000
set_option maxHeartbeats 4000000
namespace Ev
open PySem hiding Flow Arg
open Se Nm
theorem W.toEq {α : Type} {m : M α} {cs : Cs} {x : α} (h : W m cs fun a c => a = x ∧ c = cs) : m cs = some (x, cs) := by
  obtain ⟨a, c, e, rfl, rfl⟩ := h
  exact e
section
variable {Q : PyData → Prop}
theorem eqv_int (a b : Int) : PyData.eqv (.int a) (.int b) = decide (a = b) := by
  simp only [PyData.eqv]
  by_cases h : a = b <;> simp [h]
theorem eqv2 (a0 a1 b0 b1 : Int) : PyData.eqv (t2 a0 a1) (t2 b0 b1) = decide (a0 = b0 ∧ a1 = b1) := by
  simp [PyData.eqv, PyData.eqvAll, Bool.decide_and]
  rfl
theorem Op.eq2 {a0 a1 b0 b1 : Int} (q : Q (.bool (decide (a0 = b0 ∧ a1 = b1)))) : Op (gEq (t2 a0 a1) (t2 b0 b1)) Q := by
  refine ⟨_, ?_, q⟩
  rw [← eqv2]
  rfl
theorem Op.ne2 {a0 a1 b0 b1 : Int} (q : Q (.bool (!decide (a0 = b0 ∧ a1 = b1)))) : Op (gNe (t2 a0 a1) (t2 b0 b1)) Q := by
  refine ⟨_, ?_, q⟩
  rw [← eqv2]
  rfl
theorem eqv3 (a0 a1 a2 b0 b1 b2 : Int) : PyData.eqv (t3 a0 a1 a2) (t3 b0 b1 b2) = decide (a0 = b0 ∧ a1 = b1 ∧ a2 = b2) := by
  simp [PyData.eqv, PyData.eqvAll, Bool.decide_and]
  rfl
theorem Op.eq3 {a0 a1 a2 b0 b1 b2 : Int} (q : Q (.bool (decide (a0 = b0 ∧ a1 = b1 ∧ a2 = b2)))) : Op (gEq (t3 a0 a1 a2) (t3 b0 b1 b2)) Q := by
  refine ⟨_, ?_, q⟩
  rw [← eqv3]
  rfl
theorem Op.ne3 {a0 a1 a2 b0 b1 b2 : Int} (q : Q (.bool (!decide (a0 = b0 ∧ a1 = b1 ∧ a2 = b2)))) : Op (gNe (t3 a0 a1 a2) (t3 b0 b1 b2)) Q := by
  refine ⟨_, ?_, q⟩
  rw [← eqv3]
  rfl
theorem eqv4 (a0 a1 a2 a3 b0 b1 b2 b3 : Int) : PyData.eqv (t4 a0 a1 a2 a3) (t4 b0 b1 b2 b3) = decide (a0 = b0 ∧ a1 = b1 ∧ a2 = b2 ∧ a3 = b3) := by
  simp [PyData.eqv, PyData.eqvAll, Bool.decide_and]
  rfl
theorem Op.eq4 {a0 a1 a2 a3 b0 b1 b2 b3 : Int} (q : Q (.bool (decide (a0 = b0 ∧ a1 = b1 ∧ a2 = b2 ∧ a3 = b3)))) : Op (gEq (t4 a0 a1 a2 a3) (t4 b0 b1 b2 b3)) Q := by
  refine ⟨_, ?_, q⟩
  rw [← eqv4]
  rfl
theorem Op.ne4 {a0 a1 a2 a3 b0 b1 b2 b3 : Int} (q : Q (.bool (!decide (a0 = b0 ∧ a1 = b1 ∧ a2 = b2 ∧ a3 = b3)))) : Op (gNe (t4 a0 a1 a2 a3) (t4 b0 b1 b2 b3)) Q := by
  refine ⟨_, ?_, q⟩
  rw [← eqv4]
  rfl
end
theorem NZ.of_nrm {l : List Int} (h : Nrm l) : NZ l := fun e => by
  have := h.2
  omega
theorem nrm_nz3 {a b c : Int} (h : Nrm [a, b, c]) : ¬(a = 0 ∧ b = 0 ∧ c = 0) := fun ⟨e1, e2, e3⟩ => by
  subst e1 e2 e3
  have := h.2
  simp [fnz] at this
theorem NZ3 {a b c : Int} : NZ [a, b, c] ↔ a ≠ 0 ∨ b ≠ 0 ∨ c ≠ 0 := by
  unfold NZ fnz fnz fnz fnz
  by_cases h1 : a = 0 <;> by_cases h2 : b = 0 <;> by_cases h3 : c = 0 <;> simp [h1, h2, h3]
theorem NZ2 {a b : Int} : NZ [a, b] ↔ a ≠ 0 ∨ b ≠ 0 := by
  unfold NZ fnz fnz fnz
  by_cases h1 : a = 0 <;> by_cases h2 : b = 0 <;> simp [h1, h2]
theorem NZ4 {a b c d : Int} : NZ [a, b, c, d] ↔ a ≠ 0 ∨ b ≠ 0 ∨ c ≠ 0 ∨ d ≠ 0 := by
  unfold NZ fnz fnz fnz fnz fnz
  by_cases h1 : a = 0 <;> by_cases h2 : b = 0 <;> by_cases h3 : c = 0 <;> by_cases h4 : d = 0 <;> simp [h1, h2, h3, h4]
/-- a place: its bottom and top -/
structure Pl (p q : Int) : Prop where
  nrm : Nrm [q, p]
theorem Pl.cases {p q : Int} (h : Pl p q) : Nat.gcd p.natAbs q.natAbs = 1 ∧ (0 < q ∨ (q = 0 ∧ p = 1)) := by
  obtain ⟨h1, h2⟩ := h.nrm
  simp only [gcdL, fnz, Nat.gcd_zero_right] at h1 h2
  have h3 : Nat.gcd p.natAbs q.natAbs = 1 := by rw [Nat.gcd_comm]; exact h1
  refine ⟨h3, ?_⟩
  by_cases e : q = 0
  · refine .inr ⟨e, ?_⟩
    subst e
    simp at h1 h2
    by_cases z : p = 0
    · simp [z] at h2
    · simp [z] at h2
      omega
  · rw [if_neg e] at h2
    exact .inl h2
theorem Pl.of {p q : Int} (h1 : Nat.gcd p.natAbs q.natAbs = 1) (h2 : 0 < q ∨ (q = 0 ∧ p = 1)) : Pl p q := by
  refine ⟨⟨by simp only [gcdL, Nat.gcd_zero_right]; rw [Nat.gcd_comm]; exact h1, ?_⟩⟩
  simp only [fnz]
  rcases h2 with h | ⟨rfl, rfl⟩
  · rw [if_neg (by omega)]
    exact h
  · simp
theorem Pl.eq {p q r s k m : Int} (h : Pl p q) (g : Pl r s) (hk : k ≠ 0) (hm : m ≠ 0) (h1 : k * p = m * r) (h2 : k * q = m * s) : p = r ∧ q = s := by
  obtain ⟨a, b⟩ := h.nrm.eq2 g.nrm hk hm h2 h1
  exact ⟨b, a⟩
theorem Pl.ne {p q : Int} (h : Pl p q) : p ≠ 0 ∨ q ≠ 0 := by
  rcases h.cases.2 with h | h
  · exact .inr (by omega)
  · exact .inl (by omega)
end Ev
end
section
set_option Elab.async false
set_option linter.all false
set_option maxRecDepth 100000
set_option maxHeartbeats 4000000
namespace Ev
open PySem hiding Flow Arg
open Se Nm
class GetL (l : Ev) (i : Nat) (x : outParam Slot) : Prop where
  ok : l[i]? = some x
class SetL (l : Ev) (i : Nat) (a : Slot) (r : outParam Ev) : Prop where
  ok : l.set i a = r
class WipeL (l : Ev) (vs : List Nat) (r : outParam Ev) : Prop where
  ok : wipeE l vs = r
class ShL (is : List Nat) (l : Ev) (r : outParam Ev) : Prop where
  ok : shOf is l = r
class NoL (l : Ev) (r : outParam Ev) : Prop where
  ok : noOw l = r
class EnvL (n : Nat) (args : List Se.Arg) (r : outParam Ev) : Prop where
  ok : envOf n args = r
section
variable {x y a b : Slot} {l l' r e : Ev} {i j n : Nat} {vs is : List Nat} {d : PyData} {args : List Se.Arg}
instance : GetL (x :: l) 0 x := ⟨rfl⟩
instance [g : GetL l i x] : GetL (y :: l) (i + 1) x := ⟨by rw [List.getElem?_cons_succ]; exact g.ok⟩
instance : SetL (x :: l) 0 a (a :: l) := ⟨rfl⟩
instance [g : SetL l i a r] : SetL (y :: l) (i + 1) a (y :: r) := ⟨by rw [List.set_cons_succ, g.ok]⟩
instance [g : SetL l j b l'] [h : SetL l' i a r] : SetL (l.set j b) i a r := ⟨by rw [g.ok, h.ok]⟩
instance : WipeL l [] l := ⟨rfl⟩
instance [g : WipeL l vs l'] [h : SetL l' i .no r] : WipeL l (i :: vs) r := ⟨by unfold wipeE; rw [g.ok, h.ok]⟩
instance : ShL [] l l := ⟨rfl⟩
instance shL1 [g : GetL l i (.ow d)] [h : SetL l i (.sh d) l'] [k : ShL is l' r] : ShL (i :: is) l r := ⟨by unfold shOf; rw [g.ok]; show shOf is (l.set i (.sh d)) = r; rw [h.ok, k.ok]⟩
instance shL2 [g : GetL l i (.sh d)] [k : ShL is l r] : ShL (i :: is) l r := ⟨by unfold shOf; rw [g.ok]; exact k.ok⟩
instance shL3 [g : GetL l i .no] [k : ShL is l r] : ShL (i :: is) l r := ⟨by unfold shOf; rw [g.ok]; exact k.ok⟩
instance : NoL [] [] := ⟨rfl⟩
instance [g : NoL l r] : NoL (.sh d :: l) (.sh d :: r) := ⟨by unfold noOw; rw [List.map_cons]; show _ :: noOw l = _; rw [g.ok]; rfl⟩
instance [g : NoL l r] : NoL (.no :: l) (.no :: r) := ⟨by unfold noOw; rw [List.map_cons]; show _ :: noOw l = _; rw [g.ok]; rfl⟩
instance [g : NoL l r] : NoL (.cup :: l) (.cup :: r) := ⟨by unfold noOw; rw [List.map_cons]; show _ :: noOw l = _; rw [g.ok]; rfl⟩
instance [g : NoL l r] : NoL (.ow d :: l) (.no :: r) := ⟨by unfold noOw; rw [List.map_cons]; show _ :: noOw l = _; rw [g.ok]; rfl⟩
theorem envOf_dat {n : Nat} {a : Se.Arg} {as : List Se.Arg} : envOf (n + 1) (a :: as) = slotOf a :: envOf n as := by
  unfold envOf
  rw [List.map_cons, List.cons_append, List.length_cons]
  congr 3
  omega
instance : EnvL 0 [] [] := ⟨rfl⟩
instance [g : EnvL n [] r] : EnvL (n + 1) [] (.no :: r) := ⟨by
  have := g.ok
  unfold envOf at this ⊢
  rw [List.length_nil, Nat.sub_zero] at this ⊢
  rw [List.replicate_succ]
  simpa using this⟩
instance [g : EnvL n args r] : EnvL (n + 1) (.dat d :: args) (.sh d :: r) := ⟨by rw [envOf_dat, g.ok]; rfl⟩
instance [g : EnvL n args r] : EnvL (n + 1) (.cup :: args) (.cup :: r) := ⟨by rw [envOf_dat, g.ok]; rfl⟩
end
theorem W.setN {α : Type} {F : Ev → M α} {l e : Ev} {i : Nat} {a : Slot} {cs : Cs} {Q : α → Cs → Prop} [g : SetL l i a e] (w : W (F e) cs Q) : W (F (l.set i a)) cs Q := by rw [g.ok]; exact w
theorem W.run' {F : SS} {n p : Nat} {args : List Se.Arg} {e : Ev} {cf : CF} {cs : Cs} {Q : PyData → Cs → Prop} [g : EnvL n args e] (hp : args.length = p) (h : W (F cf e) cs fun fl c => Q (match fl with
    | .next _ => .none
    | .ret d => d) c) : W (runB F n p cf args) cs Q := W.run hp (by rw [g.ok]; exact h)
class St {α : Type} (m : M α) (cs : Cs) (Q : α → Cs → Prop) (P : outParam Prop) : Prop where
  ok : P → W m cs Q
class OS (o : Option PyData) (Q : PyData → Prop) (P : outParam Prop) : Prop where
  ok : P → Op o Q
section
variable {α β : Type} {cs : Cs} {cf : CF} {env : Ev} {fa fb fc ft : SE} {Q : PyData → Cs → Prop} {R : Se.Flow → Cs → Prop} {sa sb : SS} {f g h' : SW} {QS : Slot → Cs → Prop} {S : List PyData → Cs → Prop}
instance {m : M α} {f : α → M β} {Q : β → Cs → Prop} : St (M.bnd m f) cs Q (W m cs fun a c => W (f a) c Q) := ⟨W.bnd⟩
instance {a : α} {Q : α → Cs → Prop} : St (M.ret a) cs Q (Q a cs) := ⟨W.ret⟩
instance {i : Nat} {d : PyData} [g : GetL env i (.sh d)] : St (mVar i cf env) cs Q (Q d cs) := ⟨fun q => W.var g.ok q⟩
instance pk1 {i : Nat} {d : PyData} [g : GetL env i (.sh d)] : St (mPk i cf env) cs Q (Q d cs) := ⟨fun q => W.pk g.ok q⟩
instance pk2 {i : Nat} {d : PyData} [g : GetL env i (.ow d)] : St (mPk i cf env) cs Q (Q d cs) := ⟨fun q => W.pkO g.ok q⟩
instance {d : PyData} : St (mLit d cf env) cs Q (Q d cs) := ⟨W.lit⟩
instance {g : PyData → PyData → Option PyData} : St (mBin g fa fb cf env) cs Q (W (fa cf env) cs fun x c => W (fb cf env) c fun y c => Op (g x y) fun z => Q z c) := ⟨W.bin⟩
instance : St (mNeg fa cf env) cs Q (W (fa cf env) cs fun x c => ∃ i, x = .int i ∧ Q (.int (-i)) c) := ⟨W.neg⟩
instance : St (mAnd fa fb cf env) cs Q (W (fa cf env) cs fun x c => Bo x (W (fb cf env) c Q) (Q (.bool false) c)) := ⟨W.and⟩
instance : St (mOr fa fb cf env) cs Q (W (fa cf env) cs fun x c => Bo x (Q (.bool true) c) (W (fb cf env) c Q)) := ⟨W.or⟩
instance : St (mNot fa cf env) cs Q (W (fa cf env) cs fun x c => ∃ k, x = .bool k ∧ Q (.bool !k) c) := ⟨W.not⟩
instance {g g' : PyData → PyData → Option PyData} : St (mChain g g' fa fb fc cf env) cs Q (W (fa cf env) cs fun x c => W (fb cf env) c fun y c => Op (g x y) fun z => Bo z (W (fc cf env) c fun w c => Op (g' y w) fun z => Q z c) (Q (.bool false) c)) := ⟨W.chain⟩
instance {Q : List α → Cs → Prop} : St ((mNil : SA α) cf env) cs Q (Q [] cs) := ⟨W.nil⟩
instance {fa : CF → Ev → M α} {fr : SA α} {Q : List α → Cs → Prop} : St (mCons fa fr cf env) cs Q (W (fa cf env) cs fun x c => W (fr cf env) c fun xs c => Q (x :: xs) c) := ⟨W.cons⟩
instance {Q : Se.Arg → Cs → Prop} : St (aDat fa cf env) cs Q (W (fa cf env) cs fun x c => Q (.dat x) c) := ⟨W.dat⟩
instance {i : Nat} {Q : Se.Arg → Cs → Prop} [g : GetL env i .cup] : St (aCup i cf env) cs Q (Q .cup cs) := ⟨fun h => W.cupA g.ok h⟩
instance {fs : SA PyData} : St (mTup fs cf env) cs Q (W (fs cf env) cs fun ds c => Q (.tuple ds) c) := ⟨W.tup⟩
instance {fs : SA PyData} : St (mLst fs cf env) cs Q (W (fs cf env) cs fun ds c => Q (.list ds) c) := ⟨W.lst⟩
instance {i : Nat} {fs : SA Se.Arg} : St (mCall i fs cf env) cs Q (W (fs cf env) cs fun as c => W (cf i as) c Q) := ⟨W.call⟩
instance {g : List PyData → Option PyData} {fs : SA PyData} : St (mBI g fs cf env) cs Q (W (fs cf env) cs fun ds c => Op (g ds) fun z => Q z c) := ⟨W.bi⟩
instance {k : PyData → Bool} : St (mIsi k fa cf env) cs Q (W (fa cf env) cs fun x c => Q (.bool (k x)) c) := ⟨W.isi⟩
instance : St (mSeq fa cf env) cs S (W (fa cf env) cs fun x c => ∃ ds, sqL x = some ds ∧ S ds c) := ⟨W.seqL⟩
instance {g : List PyData → Option (List PyData)} {fs : SA PyData} : St (mIter g fs cf env) cs S (W (fs cf env) cs fun ds c => ∃ es, g ds = some es ∧ S es c) := ⟨W.iter⟩
instance {Q : Option Int → Cs → Prop} : St (mNo cf env) cs Q (Q none cs) := ⟨W.cutNo⟩
instance {Q : Option Int → Cs → Prop} : St (mYes fa cf env) cs Q (W (fa cf env) cs fun x c => ∃ i, x = .int i ∧ Q (some i) c) := ⟨W.cutYes⟩
instance {lo hi : CF → Ev → M (Option Int)} : St (mCut fa lo hi cf env) cs Q (W (fa cf env) cs fun x c => W (lo cf env) c fun l c => W (hi cf env) c fun h c => Op (gCut x l h) fun z => Q z c) := ⟨W.cut⟩
instance {vs : List Nat} {fi : SI} {m : TgF} {e0 : Ev} [g : WipeL env vs e0] : St (mLc vs fi m ft fa cf env) cs Q (W (fi cf env) cs fun ds c => ds.length ≤ line ∧ W (stepL (lcTurn cf e0 m ft fa) ds) c fun r c => Q (.list r) c) := ⟨fun h => W.lc (by rw [g.ok]; exact h)⟩
instance {vs vs1 : List Nat} {fi fi1 : SI} {m m1 : TgF} {ft1 fe : SE} {e0 : Ev} [g : WipeL env vs e0] : St (mLc2 vs vs1 fi m ft fi1 m1 ft1 fe cf env) cs Q (W (fi cf env) cs fun ds c => W (stepM (lcOut cf e0 m vs1 ft fi1 m1 ft1 fe) ds) c fun r c => r.length ≤ line ∧ Q (.list r) c) := ⟨fun h => W.lc2 (by rw [g.ok]; exact h)⟩
instance : St (sSeq sa sb cf env) cs R (W (sa cf env) cs fun fl c => match fl with
    | .next e => W (sb cf e) c R
    | .ret d => R (.ret d) c) := ⟨W.seq⟩
instance : St (sNil cf env) cs R (R (.next env) cs) := ⟨W.snil⟩
instance : St (sRet fa cf env) cs R (W (fa cf env) cs fun d c => R (.ret d) c) := ⟨W.sret⟩
instance : St (sRetN cf env) cs R (R (.ret .none) cs) := ⟨W.sretN⟩
instance : St (sDrop fa cf env) cs R (W (fa cf env) cs fun d c => R (.next env) c) := ⟨W.sdrop⟩
instance : St (sIf ft sa sb cf env) cs R (W (ft cf env) cs fun x c => Bo x (W (sa cf env) c R) (W (sb cf env) c R)) := ⟨W.sif⟩
instance : St (mSh fa cf env) cs QS (W (fa cf env) cs fun d c => QS (.sh d) c) := ⟨W.sh⟩
instance : St (mOw fa cf env) cs QS (W (fa cf env) cs fun d c => QS (.ow d) c) := ⟨W.ow⟩
instance {i : Nat} : St (sSet i f cf env) cs R (W (f cf env) cs fun s c => R (.next (env.set i s)) c) := ⟨W.set⟩
instance {i j : Nat} : St (sPar2 i j f g cf env) cs R (W (f cf env) cs fun s c => W (g cf env) c fun t c => R (.next ((env.set i s).set j t)) c) := ⟨W.par2⟩
instance {i j l : Nat} : St (sPar3 i j l f g h' cf env) cs R (W (f cf env) cs fun s c => W (g cf env) c fun t c => W (h' cf env) c fun u c => R (.next (((env.set i s).set j t).set l u)) c) := ⟨W.par3⟩
instance {m : TgF} : St (sAsg fa m cf env) cs R (W (fa cf env) cs fun d c => ∃ e, m d env = some e ∧ R (.next e) c) := ⟨W.asg⟩
instance {i : Nat} : St (sApp i fa cf env) cs R (W (fa cf env) cs fun d c => ∃ e, appL i d env = some e ∧ R (.next e) c) := ⟨W.app⟩
instance {i : Nat} : St (sSto i fb fa cf env) cs R (W (fa cf env) cs fun d c => W (fb cf env) c fun k c => ∃ e, stoL i d k env = some e ∧ R (.next e) c) := ⟨W.sto⟩
instance {is : List Nat} {e : Ev} [g : ShL is env e] : St (sSh is sa cf env) cs R (W (sa cf e) cs R) := ⟨fun h => W.ssh (by rw [g.ok]; exact h)⟩
instance {fi : SI} {m : TgF} : St (sFor fi m sa cf env) cs R (W (fi cf env) cs fun ds c => W (forL (forT m sa cf) ds env) c R) := ⟨W.sfor⟩
instance {m : TgF} {d : PyData} : St (forT m sa cf d env) cs R (∃ e, m d env = some e ∧ W (sa cf e) cs R) := ⟨fun ⟨_, h, w⟩ => W.forTn h w⟩
instance {i : Nat} : St (mCup i fa cf env) cs Q (W (fa cf env) cs fun k c => ∃ d, cupG i env k c = some d ∧ Q d c) := ⟨W.cupGet⟩
instance {i : Nat} : St (sCup i fb fa cf env) cs R (W (fa cf env) cs fun d c => W (fb cf env) c fun k c => ∃ c', cupL i env d k c = some c' ∧ R (.next env) c') := ⟨W.cupPut⟩
instance {e0 : Ev} {m : TgF} {d : PyData} {Q : Option PyData → Cs → Prop} : St (lcTurn cf e0 m ft fa d) cs Q (∃ e1, m d e0 = some e1 ∧ W (ft cf e1) cs fun b c => Bo b (W (fa cf e1) c fun x c => Q (some x) c) (Q none c)) := ⟨fun ⟨_, h, w⟩ => W.turn h w⟩
instance {e0 : Ev} {m m1 : TgF} {vs1 : List Nat} {fi1 : SI} {ft1 fe : SE} {d : PyData} {Q : List PyData → Cs → Prop} : St (lcOut cf e0 m vs1 ft fi1 m1 ft1 fe d) cs Q (∃ e1, m d e0 = some e1 ∧ W (ft cf e1) cs fun b c => Bo b (W (fi1 cf e1) c fun ds c => W (stepL (lcTurn cf (noOw (wipeE e1 vs1)) m1 ft1 fe) ds) c Q) (Q [] c)) := ⟨fun ⟨_, h, w⟩ => W.out h w⟩
end
section
variable {Q : PyData → Prop} {i j : Int}
instance : OS (gAdd (.int i) (.int j)) Q (Q (.int (i + j))) := ⟨Op.add⟩
instance : OS (gSub (.int i) (.int j)) Q (Q (.int (i - j))) := ⟨Op.sub⟩
instance : OS (gMul (.int i) (.int j)) Q ((Lv 18 i ∧ Lv 18 j) ∧ Q (.int (i * j))) := ⟨fun h => Op.mul h.1.1 h.1.2 h.2⟩
instance : OS (gEq (.int i) (.int j)) Q (Q (.bool (decide (i = j)))) := ⟨Op.eqI⟩
instance : OS (gNe (.int i) (.int j)) Q (Q (.bool (!decide (i = j)))) := ⟨Op.neI⟩
instance : OS (gLt (.int i) (.int j)) Q (Q (.bool (decide (i < j)))) := ⟨Op.ltI⟩
instance : OS (gGt (.int i) (.int j)) Q (Q (.bool (decide (j < i)))) := ⟨Op.gtI⟩
instance : OS (gLe (.int i) (.int j)) Q (Q (.bool (decide (i ≤ j)))) := ⟨Op.leI⟩
instance : OS (gGe (.int i) (.int j)) Q (Q (.bool (decide (j ≤ i)))) := ⟨Op.geI⟩
instance : OS (gGcd [.int i, .int j]) Q (Q (.int ((Nat.gcd i.natAbs j.natAbs : Nat) : Int))) := ⟨Op.gcd⟩
end
end Ev
end
section
set_option Elab.async false
set_option linter.all false
set_option maxRecDepth 100000
namespace Ev
open PySem hiding Flow Arg
open Se Nm
theorem W.stepTr {cf : CF} {e0 : Ev} {m : TgF} {fa : SE} {d : PyData} {ds : List PyData} {cs : Cs} {Q : List PyData → Cs → Prop} (h : ∃ e1, m d e0 = some e1 ∧ W (fa cf e1) cs fun x c => W (stepL (lcTurn cf e0 m (mLit (.bool true)) fa) ds) c fun r c => Q (x :: r) c) : W (stepL (lcTurn cf e0 m (mLit (.bool true)) fa) (d :: ds)) cs Q := by
  obtain ⟨e1, he, w⟩ := h
  exact W.stepC (W.turn he (W.lit ⟨true, rfl, fun _ => w, fun h => by cases h⟩))
end Ev
end
section
set_option Elab.async false
set_option linter.all false
set_option maxRecDepth 100000
namespace Ev
open PySem hiding Flow Arg
open Se Nm
section
variable {cs : Cs} {cf : CF} {env : Ev} {fa : SE} {Q : PyData → Cs → Prop}
theorem W.rev (h : W (fa cf env) cs fun x c => Op (gRev x) fun z => Q z c) : W (mRev fa cf env) cs Q := by
  refine W.bnd (h.mono fun x c h => ?_)
  obtain ⟨z, e, q⟩ := h
  exact W.of e q
theorem W.dget {tbl : Tbl} (h : W (fa cf env) cs fun x c => Op (gDget tbl x) fun z => Q z c) : W (mDget tbl fa cf env) cs Q := by
  refine W.bnd (h.mono fun x c h => ?_)
  obtain ⟨z, e, q⟩ := h
  exact W.of e q
instance : St (mRev fa cf env) cs Q (W (fa cf env) cs fun x c => Op (gRev x) fun z => Q z c) := ⟨W.rev⟩
instance {tbl : Tbl} : St (mDget tbl fa cf env) cs Q (W (fa cf env) cs fun x c => Op (gDget tbl x) fun z => Q z c) := ⟨W.dget⟩
theorem stopSt {f : PyData → M (Option PyData)} {ds : List PyData} {S : List PyData → Cs → Prop} (h : W (stepL f ds) cs S) : W (stepL f ds) cs S := h
theorem stopMt {f : PyData → M (List PyData)} {ds : List PyData} {S : List PyData → Cs → Prop} (h : W (stepM f ds) cs S) : W (stepM f ds) cs S := h
theorem stopFo {turn : PyData → Ev → M Se.Flow} {ds : List PyData} {S : Se.Flow → Cs → Prop} (h : W (forL turn ds env) cs S) : W (forL turn ds env) cs S := h
end
end Ev
end
section
set_option Elab.async false
set_option linter.all false
set_option maxRecDepth 100000
set_option maxHeartbeats 4000000
namespace Wk
open PySem PySem.Spec PyProof.Rows L2 Se
/-! is_whole -/
abbrev N0 : List Str := ["value", "low", "high"]
abbrev F0 : SS := (sRet (mAnd (mIsi kInt (mPk 0)) (mAnd (mNot (mIsi kBool (mPk 0))) (mChain gLe gLe (mPk 1) (mPk 0) (mPk 2)))))
/-! need_whole -/
abbrev N1 : List Str := ["value", "low", "high"]
abbrev F1 : SS := (sIf (mNot (mCall 0 (mCons (aDat (mVar 0)) (mCons (aDat (mVar 1)) (mCons (aDat (mVar 2)) mNil))))) sNever sNil)
/-! is_tuple_of -/
abbrev N2 : List Str := ["value", "low", "high"]
abbrev F2 : SS := (sRet (mAnd (mIsi kTuple (mPk 0)) (mChain gLe gLe (mPk 1) (mBI gLen (mCons (mPk 0) mNil)) (mPk 2))))
/-! are_wholes -/
abbrev N3 : List Str := ["value", "many", "low", "high", "one"]
abbrev F3 : SS := (sRet (mAnd (mCall 2 (mCons (aDat (mVar 0)) (mCons (aDat (mVar 1)) (mCons (aDat (mVar 1)) mNil)))) (mBI gAll (mCons (mLc [4] (mSeq (mPk 0)) (gNm 4) (mLit (.bool true)) (mCall 0 (mCons (aDat (mVar 4)) (mCons (aDat (mVar 2)) (mCons (aDat (mVar 3)) mNil))))) mNil))))
/-! is_portion -/
abbrev N4 : List Str := ["value"]
abbrev F4 : SS := (sSeq (sIf (mOr (mNot (mCall 2 (mCons (aDat (mVar 0)) (mCons (aDat (mLit (.int 2))) (mCons (aDat (mLit (.int 2))) mNil))))) (mOr (mNot (mCall 0 (mCons (aDat (mBin gIx (mPk 0) (mLit (.int 0)))) (mCons (aDat (mNeg (mLit (.int 1000000000000000000000000000000000000000000000000000000000000)))) (mCons (aDat (mLit (.int 1000000000000000000000000000000000000000000000000000000000000))) mNil))))) (mNot (mCall 0 (mCons (aDat (mBin gIx (mPk 0) (mLit (.int 1)))) (mCons (aDat (mLit (.int 1))) (mCons (aDat (mLit (.int 1000000000000000000000000000000000000000000000000000000000000))) mNil))))))) (sRet (mLit (.bool false))) sNil)
  (sRet (mBin gEq (mBI gGcd (mCons (mBin gIx (mPk 0) (mLit (.int 0))) (mCons (mBin gIx (mPk 0) (mLit (.int 1))) mNil))) (mLit (.int 1)))))
/-! lowest -/
abbrev N5 : List Str := ["top", "bottom", "shared"]
abbrev F5 : SS := (sSeq (sSet 2 (mSh (mBI gGcd (mCons (mPk 0) (mCons (mPk 1) mNil)))))
  (sSeq (sSet 2 (mSh (mIf (mBin gGt (mPk 1) (mLit (.int 0))) (mVar 2) (mNeg (mVar 2)))))
  (sRet (mTup (mCons (mBin gDiv (mPk 0) (mPk 2)) (mCons (mBin gDiv (mPk 1) (mPk 2)) mNil))))))
/-! plus -/
abbrev N6 : List Str := ["one", "other"]
abbrev F6 : SS := (sRet (mCall 5 (mCons (aDat (mBin gAdd (mBin gMul (mBin gIx (mPk 0) (mLit (.int 0))) (mBin gIx (mPk 1) (mLit (.int 1)))) (mBin gMul (mBin gIx (mPk 1) (mLit (.int 0))) (mBin gIx (mPk 0) (mLit (.int 1)))))) (mCons (aDat (mBin gMul (mBin gIx (mPk 0) (mLit (.int 1))) (mBin gIx (mPk 1) (mLit (.int 1))))) mNil))))
/-! times -/
abbrev N7 : List Str := ["one", "other"]
abbrev F7 : SS := (sRet (mCall 5 (mCons (aDat (mBin gMul (mBin gIx (mPk 0) (mLit (.int 0))) (mBin gIx (mPk 1) (mLit (.int 0))))) (mCons (aDat (mBin gMul (mBin gIx (mPk 0) (mLit (.int 1))) (mBin gIx (mPk 1) (mLit (.int 1))))) mNil))))
/-! is_three -/
abbrev N8 : List Str := ["value", "part"]
abbrev F8 : SS := (sRet (mAnd (mCall 2 (mCons (aDat (mVar 0)) (mCons (aDat (mLit (.int 3))) (mCons (aDat (mLit (.int 3))) mNil)))) (mBI gAll (mCons (mLc [1] (mSeq (mPk 0)) (gNm 1) (mLit (.bool true)) (mCall 0 (mCons (aDat (mVar 1)) (mCons (aDat (mNeg (mLit (.int 1000000000)))) (mCons (aDat (mLit (.int 1000000000))) mNil))))) mNil))))
/-! is_triple -/
abbrev N9 : List Str := ["value"]
abbrev F9 : SS := (sRet (mAnd (mCall 8 (mCons (aDat (mVar 0)) mNil)) (mAnd (mBin gNe (mPk 0) (mTup (mCons (mLit (.int 0)) (mCons (mLit (.int 0)) (mCons (mLit (.int 0)) mNil))))) (mBin gEq (mCall 10 (mCons (aDat (mVar 0)) mNil)) (mPk 0)))))
/-! plainly -/
abbrev N10 : List Str := ["value", "shared", "first", "part"]
abbrev F10 : SS := (sSeq (sSet 1 (mSh (mBI gGcd (mCons (mBI gGcd (mCons (mBin gIx (mPk 0) (mLit (.int 0))) (mCons (mBin gIx (mPk 0) (mLit (.int 1))) mNil))) (mCons (mBin gIx (mPk 0) (mLit (.int 2))) mNil)))))
  (sSeq (sSet 2 (mSh (mBin gIx (mLc [3] (mSeq (mPk 0)) (gNm 3) (mBin gNe (mPk 3) (mLit (.int 0))) (mVar 3)) (mLit (.int 0)))))
  (sSeq (sSet 1 (mSh (mIf (mBin gGt (mPk 2) (mLit (.int 0))) (mVar 1) (mNeg (mVar 1)))))
  (sRet (mBI gTuple (mCons (mLc [3] (mSeq (mPk 0)) (gNm 3) (mLit (.bool true)) (mBin gDiv (mPk 3) (mPk 1))) mNil))))))
/-! need_triple -/
abbrev N11 : List Str := ["value"]
abbrev F11 : SS := (sIf (mNot (mCall 9 (mCons (aDat (mVar 0)) mNil))) sNever sNil)
/-! dot -/
abbrev N12 : List Str := ["one", "other"]
abbrev F12 : SS := (sRet (mBin gAdd (mBin gAdd (mBin gMul (mBin gIx (mPk 0) (mLit (.int 0))) (mBin gIx (mPk 1) (mLit (.int 0)))) (mBin gMul (mBin gIx (mPk 0) (mLit (.int 1))) (mBin gIx (mPk 1) (mLit (.int 1))))) (mBin gMul (mBin gIx (mPk 0) (mLit (.int 2))) (mBin gIx (mPk 1) (mLit (.int 2))))))
/-! cross -/
abbrev N13 : List Str := ["one", "other", "first"]
abbrev F13 : SS := (sSeq (sSet 2 (mSh (mBin gSub (mBin gMul (mBin gIx (mPk 0) (mLit (.int 1))) (mBin gIx (mPk 1) (mLit (.int 2)))) (mBin gMul (mBin gIx (mPk 0) (mLit (.int 2))) (mBin gIx (mPk 1) (mLit (.int 1)))))))
  (sRet (mTup (mCons (mVar 2) (mCons (mBin gSub (mBin gMul (mBin gIx (mPk 0) (mLit (.int 2))) (mBin gIx (mPk 1) (mLit (.int 0)))) (mBin gMul (mBin gIx (mPk 0) (mLit (.int 0))) (mBin gIx (mPk 1) (mLit (.int 2))))) (mCons (mBin gSub (mBin gMul (mBin gIx (mPk 0) (mLit (.int 0))) (mBin gIx (mPk 1) (mLit (.int 1)))) (mBin gMul (mBin gIx (mPk 0) (mLit (.int 1))) (mBin gIx (mPk 1) (mLit (.int 0))))) mNil))))))
/-! volume -/
abbrev N14 : List Str := ["one", "other", "third"]
abbrev F14 : SS := (sRet (mCall 12 (mCons (aDat (mCall 13 (mCons (aDat (mVar 0)) (mCons (aDat (mVar 1)) mNil)))) (mCons (aDat (mVar 2)) mNil))))
/-! place_of -/
abbrev N15 : List Str := ["point"]
abbrev F15 : SS := (sSeq (sDrop (mCall 11 (mCons (aDat (mVar 0)) mNil)))
  (sSeq (sIf (mBin gEq (mBin gIx (mPk 0) (mLit (.int 2))) (mLit (.int 0))) (sRet (mLit .none)) sNil)
  (sRet (mTup (mCons (mCall 5 (mCons (aDat (mBin gIx (mPk 0) (mLit (.int 0)))) (mCons (aDat (mBin gIx (mPk 0) (mLit (.int 2)))) mNil))) (mCons (mCall 5 (mCons (aDat (mBin gIx (mPk 0) (mLit (.int 1)))) (mCons (aDat (mBin gIx (mPk 0) (mLit (.int 2)))) mNil))) mNil))))))
/-! point_at -/
abbrev N16 : List Str := ["across", "up", "value"]
abbrev F16 : SS := (sSeq (sFor (mSeq (mTup (mCons (mVar 0) (mCons (mVar 1) mNil)))) (gNm 2) (sIf (mOr (mNot (mCall 4 (mCons (aDat (mVar 2)) mNil))) (mOr (mBin gGt (mBin gIx (mPk 2) (mLit (.int 1))) (mBin gPow (mLit (.int 10)) (mLit (.int 4)))) (mBin gGt (mBI gAbs (mCons (mBin gIx (mPk 2) (mLit (.int 0))) mNil)) (mBin gPow (mLit (.int 10)) (mLit (.int 4)))))) sNever sNil))
  (sRet (mCall 10 (mCons (aDat (mTup (mCons (mBin gMul (mBin gIx (mPk 0) (mLit (.int 0))) (mBin gIx (mPk 1) (mLit (.int 1)))) (mCons (mBin gMul (mBin gIx (mPk 1) (mLit (.int 0))) (mBin gIx (mPk 0) (mLit (.int 1)))) (mCons (mBin gMul (mBin gIx (mPk 0) (mLit (.int 1))) (mBin gIx (mPk 1) (mLit (.int 1)))) mNil))))) mNil))))
/-! fits -/
abbrev N17 : List Str := ["value", "own"]
abbrev F17 : SS := (sSeq (sIf (mOr (mNot (mCall 2 (mCons (aDat (mVar 0)) (mCons (aDat (mLit (.int 2))) (mCons (aDat (mLit (.int 2))) mNil))))) (mNot (mBI gAll (mCons (mLc [1] (mSeq (mPk 0)) (gNm 1) (mLit (.bool true)) (mAnd (mCall 9 (mCons (aDat (mVar 1)) mNil)) (mCall 3 (mCons (aDat (mVar 1)) (mCons (aDat (mLit (.int 3))) (mCons (aDat (mNeg (mLit (.int 100)))) (mCons (aDat (mLit (.int 100))) mNil))))))) mNil)))) (sRet (mLit (.bool false))) sNil)
  (sRet (mAnd (mBin gNe (mBin gIx (mBin gIx (mPk 0) (mLit (.int 0))) (mLit (.int 2))) (mLit (.int 0))) (mAnd (mBin gNe (mBin gIx (mBin gIx (mPk 0) (mLit (.int 1))) (mLit (.int 2))) (mLit (.int 0))) (mBin gNe (mBin gIx (mPk 0) (mLit (.int 0))) (mBin gIx (mPk 0) (mLit (.int 1))))))))
/-! need_circle -/
abbrev N18 : List Str := ["circle"]
abbrev F18 : SS := (sIf (mNot (mCall 17 (mCons (aDat (mVar 0)) mNil))) sNever sNil)
/-! need_line -/
abbrev N19 : List Str := ["line"]
abbrev F19 : SS := (sIf (mOr (mNot (mCall 9 (mCons (aDat (mVar 0)) mNil))) (mOr (mNot (mCall 3 (mCons (aDat (mVar 0)) (mCons (aDat (mLit (.int 3))) (mCons (aDat (mNeg (mLit (.int 1000)))) (mCons (aDat (mLit (.int 1000))) mNil)))))) (mBin gEq (mPk 0) (mLit (.tuple [.int 0, .int 0, .int 1]))))) sNever sNil)
/-! square_in -/
abbrev N20 : List Str := ["circle", "x", "y", "z", "u", "v", "w", "across", "up"]
abbrev F20 : SS := (sSeq (sAsg (mVar 0) (gTp (gCs (gTp (gCs (gNm 1) (gCs (gNm 2) (gCs (gNm 3) gNl)))) (gCs (gTp (gCs (gNm 4) (gCs (gNm 5) (gCs (gNm 6) gNl)))) gNl))))
  (sSeq (sPar2 7 8 (mSh (mBin gSub (mBin gMul (mPk 4) (mPk 3)) (mBin gMul (mPk 1) (mPk 6)))) (mSh (mBin gSub (mBin gMul (mPk 5) (mPk 3)) (mBin gMul (mPk 2) (mPk 6)))))
  (sRet (mTup (mCons (mBin gAdd (mBin gMul (mPk 7) (mPk 7)) (mBin gMul (mPk 8) (mPk 8))) (mCons (mBin gMul (mBin gMul (mBin gMul (mPk 3) (mPk 3)) (mPk 6)) (mPk 6)) mNil))))))
/-! lead_in -/
abbrev N21 : List Str := ["line", "circle", "a", "b", "c", "x", "y", "z", "top", "bottom", "far", "whole"]
abbrev F21 : SS := (sSeq (sAsg (mTup (mCons (mVar 0) (mCons (mBin gIx (mPk 1) (mLit (.int 0))) mNil))) (gTp (gCs (gTp (gCs (gNm 2) (gCs (gNm 3) (gCs (gNm 4) gNl)))) (gCs (gTp (gCs (gNm 5) (gCs (gNm 6) (gCs (gNm 7) gNl)))) gNl))))
  (sSeq (sAsg (mCall 20 (mCons (aDat (mVar 1)) mNil)) (gTp (gCs (gNm 8) (gCs (gNm 9) gNl))))
  (sSeq (sPar2 10 11 (mSh (mBin gAdd (mBin gAdd (mBin gMul (mPk 2) (mPk 5)) (mBin gMul (mPk 3) (mPk 6))) (mBin gMul (mPk 4) (mPk 7)))) (mSh (mBin gAdd (mBin gMul (mPk 2) (mPk 2)) (mBin gMul (mPk 3) (mPk 3)))))
  (sRet (mCall 5 (mCons (aDat (mBin gSub (mBin gMul (mBin gMul (mBin gMul (mPk 8) (mPk 11)) (mPk 7)) (mPk 7)) (mBin gMul (mBin gMul (mPk 10) (mPk 10)) (mPk 9)))) (mCons (aDat (mBin gMul (mBin gMul (mBin gMul (mPk 9) (mPk 11)) (mPk 7)) (mPk 7))) mNil)))))))
/-! root_of -/
abbrev N22 : List Str := ["number", "low", "high", "middle"]
abbrev F22 : SS := (sSeq (sIf (mBin gLt (mPk 0) (mLit (.int 0))) (sRet (mLit .none)) sNil)
  (sSeq (sPar2 1 2 (mSh (mLit (.int 0))) (mSh (mBin gAdd (mPk 0) (mLit (.int 1)))))
  (sSeq (sWhile 1000000 (mBin gGt (mBin gSub (mPk 2) (mPk 1)) (mLit (.int 1))) (sSeq (sSet 3 (mSh (mBin gDiv (mBin gAdd (mPk 1) (mPk 2)) (mLit (.int 2)))))
  (sAsg (mIf (mBin gLe (mBin gMul (mPk 3) (mPk 3)) (mPk 0)) (mTup (mCons (mVar 3) (mCons (mVar 2) mNil))) (mTup (mCons (mVar 1) (mCons (mVar 3) mNil)))) (gTp (gCs (gNm 1) (gCs (gNm 2) gNl))))))
  (sRet (mIf (mBin gEq (mBin gMul (mPk 1) (mPk 1)) (mPk 0)) (mVar 1) (mLit .none))))))
/-! meets_in -/
abbrev N23 : List Str := ["line", "circle", "a", "b", "c", "x", "y", "z", "top", "bottom", "whole", "over", "under", "far", "near", "found", "sign", "step", "point"]
abbrev F23 : SS := (sSeq (sAsg (mTup (mCons (mVar 0) (mCons (mBin gIx (mPk 1) (mLit (.int 0))) mNil))) (gTp (gCs (gTp (gCs (gNm 2) (gCs (gNm 3) (gCs (gNm 4) gNl)))) (gCs (gTp (gCs (gNm 5) (gCs (gNm 6) (gCs (gNm 7) gNl)))) gNl))))
  (sSeq (sAsg (mCall 21 (mCons (aDat (mVar 0)) (mCons (aDat (mVar 1)) mNil))) (gTp (gCs (gNm 8) (gCs (gNm 9) gNl))))
  (sSeq (sSet 10 (mSh (mBin gAdd (mBin gMul (mPk 2) (mPk 2)) (mBin gMul (mPk 3) (mPk 3)))))
  (sSeq (sAsg (mCall 5 (mCons (aDat (mVar 8)) (mCons (aDat (mBin gMul (mPk 9) (mPk 10))) mNil))) (gTp (gCs (gNm 8) (gCs (gNm 9) gNl))))
  (sSeq (sPar2 11 12 (mSh (mCall 22 (mCons (aDat (mVar 8)) mNil))) (mSh (mCall 22 (mCons (aDat (mVar 9)) mNil))))
  (sSeq (sIf (mOr (mBin gIs (mPk 11) (mLit .none)) (mBin gIs (mPk 12) (mLit .none))) (sRet (mLst mNil)) sNil)
  (sSeq (sSet 13 (mSh (mBin gAdd (mBin gAdd (mBin gMul (mPk 2) (mPk 5)) (mBin gMul (mPk 3) (mPk 6))) (mBin gMul (mPk 4) (mPk 7)))))
  (sSeq (sSet 14 (mSh (mTup (mCons (mBin gSub (mBin gMul (mPk 5) (mPk 10)) (mBin gMul (mPk 2) (mPk 13))) (mCons (mBin gSub (mBin gMul (mPk 6) (mPk 10)) (mBin gMul (mPk 3) (mPk 13))) (mCons (mBin gMul (mPk 7) (mPk 10)) mNil))))))
  (sSeq (sSet 15 mDR0)
  (sSeq (sFor (mSeq (mTup (mCons (mLit (.int 1)) (mCons (mNeg (mLit (.int 1))) mNil)))) (gNm 16) (sSeq (sSet 17 (mSh (mBin gMul (mPk 16) (mPk 11))))
  (sSeq (sSet 18 (mSh (mTup (mCons (mBin gSub (mBin gMul (mBin gIx (mPk 14) (mLit (.int 0))) (mPk 12)) (mBin gMul (mBin gMul (mPk 3) (mPk 17)) (mBin gIx (mPk 14) (mLit (.int 2))))) (mCons (mBin gAdd (mBin gMul (mBin gIx (mPk 14) (mLit (.int 1))) (mPk 12)) (mBin gMul (mBin gMul (mPk 2) (mPk 17)) (mBin gIx (mPk 14) (mLit (.int 2))))) (mCons (mBin gMul (mBin gIx (mPk 14) (mLit (.int 2))) (mPk 12)) mNil))))))
  (sPutR 15 (mCall 10 (mCons (aDat (mVar 18)) mNil)) (mLit (.bool true))))))
  (sRet (mSortR 15))))))))))))
/-! is_circle -/
abbrev N24 : List Str := ["value"]
abbrev F24 : SS := (sRet (mCall 17 (mCons (aDat (mVar 0)) mNil)))
/-! lead_of -/
abbrev N25 : List Str := ["line", "circle"]
abbrev F25 : SS := (sSeq (sDrop (mCall 19 (mCons (aDat (mVar 0)) mNil)))
  (sSeq (sDrop (mCall 18 (mCons (aDat (mVar 1)) mNil)))
  (sRet (mCall 21 (mCons (aDat (mVar 0)) (mCons (aDat (mVar 1)) mNil))))))
/-! meets_of -/
abbrev N26 : List Str := ["line", "circle"]
abbrev F26 : SS := (sSeq (sDrop (mCall 19 (mCons (aDat (mVar 0)) mNil)))
  (sSeq (sDrop (mCall 18 (mCons (aDat (mVar 1)) mNil)))
  (sRet (mBI gTuple (mCons (mCall 23 (mCons (aDat (mVar 0)) (mCons (aDat (mVar 1)) mNil))) mNil)))))
/-! primes_of -/
abbrev N27 : List Str := ["number", "left", "found", "prime"]
abbrev F27 : SS := (sSeq (sPar3 1 2 3 (mSh (mBI gAbs (mCons (mPk 0) mNil))) (mOw (mLst mNil)) (mSh (mLit (.int 2))))
  (sSeq (sWhile 1000000 (mBin gLe (mBin gMul (mPk 3) (mPk 3)) (mPk 1)) (sSeq (sIf (mBin gEq (mBin gMod (mPk 1) (mPk 3)) (mLit (.int 0))) (sSeq (sApp 2 (mVar 3))
  (sWhile 1000000 (mBin gEq (mBin gMod (mPk 1) (mPk 3)) (mLit (.int 0))) (sSet 1 (mSh (mBin gDiv (mPk 1) (mPk 3)))))) sNil)
  (sSet 3 (mSh (mBin gAdd (mPk 3) (mLit (.int 1)))))))
  (sRet (mBin gAdd (mPk 2) (mIf (mBin gGt (mPk 1) (mLit (.int 1))) (mLst (mCons (mVar 1) mNil)) (mLst mNil))))))
/-! parted -/
abbrev N28 : List Str := ["number", "prime", "times"]
abbrev F28 : SS := (sSeq (sSet 2 (mSh (mLit (.int 0))))
  (sSeq (sWhile 1000000 (mBin gEq (mBin gMod (mPk 0) (mPk 1)) (mLit (.int 0))) (sPar2 0 2 (mSh (mBin gDiv (mPk 0) (mPk 1))) (mSh (mBin gAdd (mPk 2) (mLit (.int 1))))))
  (sRet (mTup (mCons (mVar 2) (mCons (mVar 0) mNil))))))
/-! powered -/
abbrev N29 : List Str := ["base", "times", "prime", "found"]
abbrev F29 : SS := (sSeq (sPar2 3 0 (mSh (mLit (.int 1))) (mSh (mBin gMod (mPk 0) (mPk 2))))
  (sSeq (sWhile 1000000 (mBin gGt (mPk 1) (mLit (.int 0))) (sSeq (sIf (mBin gEq (mBin gMod (mPk 1) (mLit (.int 2))) (mLit (.int 1))) (sSet 3 (mSh (mBin gMod (mBin gMul (mPk 3) (mPk 0)) (mPk 2)))) sNil)
  (sPar2 0 1 (mSh (mBin gMod (mBin gMul (mPk 0) (mPk 0)) (mPk 2))) (mSh (mBin gDiv (mPk 1) (mLit (.int 2)))))))
  (sRet (mVar 3))))
/-! is_rest -/
abbrev N30 : List Str := ["number", "prime"]
abbrev F30 : SS := (sRet (mOr (mBin gEq (mPk 1) (mLit (.int 2))) (mOr (mBin gEq (mBin gMod (mPk 0) (mPk 1)) (mLit (.int 0))) (mBin gEq (mCall 29 (mCons (aDat (mVar 0)) (mCons (aDat (mBin gDiv (mBin gSub (mPk 1) (mLit (.int 1))) (mLit (.int 2)))) (mCons (aDat (mVar 1)) mNil)))) (mLit (.int 1))))))
/-! is_barred -/
abbrev N31 : List Str := ["one", "other", "place", "i", "u", "j", "v", "number"]
abbrev F31 : SS := (sSeq (sIf (mBin gEq (mPk 2) (mNeg (mLit (.int 1)))) (sRet (mAnd (mBin gLt (mPk 0) (mLit (.int 0))) (mBin gLt (mPk 1) (mLit (.int 0))))) sNil)
  (sSeq (sAsg (mCall 28 (mCons (aDat (mVar 0)) (mCons (aDat (mVar 2)) mNil))) (gTp (gCs (gNm 3) (gCs (gNm 4) gNl))))
  (sSeq (sAsg (mCall 28 (mCons (aDat (mVar 1)) (mCons (aDat (mVar 2)) mNil))) (gTp (gCs (gNm 5) (gCs (gNm 6) gNl))))
  (sSeq (sIf (mBin gEq (mPk 2) (mLit (.int 2))) (sRet (mBin gEq (mBin gMod (mBin gAdd (mBin gAdd (mBin gMul (mBin gDiv (mBin gSub (mPk 4) (mLit (.int 1))) (mLit (.int 2))) (mBin gDiv (mBin gSub (mPk 6) (mLit (.int 1))) (mLit (.int 2)))) (mBin gMul (mPk 3) (mBin gDiv (mBin gSub (mBin gMul (mPk 6) (mPk 6)) (mLit (.int 1))) (mLit (.int 8))))) (mBin gMul (mPk 5) (mBin gDiv (mBin gSub (mBin gMul (mPk 4) (mPk 4)) (mLit (.int 1))) (mLit (.int 8))))) (mLit (.int 2))) (mLit (.int 1)))) sNil)
  (sSeq (sSet 7 (mSh (mIf (mBin gEq (mBin gMod (mBin gMul (mPk 3) (mPk 5)) (mLit (.int 2))) (mLit (.int 1))) (mNeg (mLit (.int 1))) (mLit (.int 1)))))
  (sSeq (sSet 7 (mSh (mBin gMul (mBin gMul (mPk 7) (mIf (mBin gEq (mBin gMod (mPk 5) (mLit (.int 2))) (mLit (.int 1))) (mVar 4) (mLit (.int 1)))) (mIf (mBin gEq (mBin gMod (mPk 3) (mLit (.int 2))) (mLit (.int 1))) (mVar 6) (mLit (.int 1))))))
  (sRet (mNot (mCall 30 (mCons (aDat (mVar 7)) (mCons (aDat (mVar 2)) mNil)))))))))))
/-! bars_between -/
abbrev N32 : List Str := ["one", "other", "primes", "prime", "place"]
abbrev F32 : SS := (sSeq (sSet 2 (mDcI (mCons (mLc [3] (mSeq (mBin gAdd (mBin gAdd (mLst (mCons (mLit (.int 2)) mNil)) (mCall 27 (mCons (aDat (mVar 0)) mNil))) (mCall 27 (mCons (aDat (mVar 1)) mNil)))) (gNm 3) (mLit (.bool true)) (mTup (mCons (mVar 3) (mCons (mLit (.bool true)) mNil)))) mNil)))
  (sRet (mLc [4] (mSeq (mBin gAdd (mLst (mCons (mNeg (mLit (.int 1))) mNil)) (mSortI 2))) (gNm 4) (mCall 31 (mCons (aDat (mVar 0)) (mCons (aDat (mVar 1)) (mCons (aDat (mVar 4)) mNil)))) (mVar 4))))
/-! bars_in -/
abbrev N33 : List Str := ["weights", "a", "b", "c"]
abbrev F33 : SS := (sSeq (sAsg (mVar 0) (gTp (gCs (gNm 1) (gCs (gNm 2) (gCs (gNm 3) gNl)))))
  (sRet (mCall 32 (mCons (aDat (mBin gMul (mNeg (mVar 1)) (mPk 3))) (mCons (aDat (mBin gMul (mNeg (mVar 2)) (mPk 3))) mNil)))))
/-! lean_and_shared -/
abbrev N34 : List Str := ["numbers", "found", "shared", "number", "primes", "prime", "odd"]
abbrev F34 : SS := (sSeq (sPar2 1 2 (mOw (mLc [3] (mSeq (mPk 0)) (gNm 3) (mLit (.bool true)) (mIf (mBin gGt (mPk 3) (mLit (.int 0))) (mLit (.int 1)) (mNeg (mLit (.int 1)))))) (mSh (mLit (.int 1))))
  (sSeq (sSet 4 (mDcI (mCons (mLc2 [3, 5] [5] (mSeq (mPk 0)) (gNm 3) (mLit (.bool true)) (mSeq (mCall 27 (mCons (aDat (mVar 3)) mNil))) (gNm 5) (mLit (.bool true)) (mTup (mCons (mVar 5) (mCons (mLit (.bool true)) mNil)))) mNil)))
  (sSeq (sFor (mSeq (mSortI 4)) (gNm 5) (sSeq (sSet 6 (mSh (mLc [3] (mSeq (mPk 0)) (gNm 3) (mLit (.bool true)) (mBin gMod (mBin gIx (mCall 28 (mCons (aDat (mVar 3)) (mCons (aDat (mVar 5)) mNil))) (mLit (.int 0))) (mLit (.int 2))))))
  (sSeq (sIf (mBin gEq (mBI gSum (mCons (mPk 6) mNil)) (mLit (.int 1))) (sSto 1 (mBin gIndex (mPk 6) (mLit (.int 1))) (mBin gMul (mBin gIx (mPk 1) (mBin gIndex (mPk 6) (mLit (.int 1)))) (mPk 5))) (sIf (mBin gEq (mBI gSum (mCons (mPk 6) mNil)) (mLit (.int 2))) (sSto 1 (mBin gIndex (mPk 6) (mLit (.int 0))) (mBin gMul (mBin gIx (mPk 1) (mBin gIndex (mPk 6) (mLit (.int 0)))) (mPk 5))) sNil))
  (sSet 2 (mSh (mIf (mBin gGt (mBI gSum (mCons (mPk 6) mNil)) (mLit (.int 1))) (mBin gMul (mPk 2) (mPk 5)) (mVar 2)))))))
  (sRet (mTup (mCons (mBI gTuple (mCons (mPk 1) mNil)) (mCons (mVar 2) mNil)))))))
/-! roots_of -/
abbrev N35 : List Str := ["numbers", "lean", "shared", "found", "number", "own", "top", "bottom", "common"]
abbrev F35 : SS := (sSeq (sAsg (mCall 34 (mCons (aDat (mVar 0)) mNil)) (gTp (gCs (gNm 1) (gCs (gNm 2) gNl))))
  (sSeq (sSet 3 (mOw (mLst mNil)))
  (sSeq (sFor (mIter zipL (mCons (mVar 0) (mCons (mVar 1) mNil))) (gTp (gCs (gNm 4) (gCs (gNm 5) gNl))) (sSeq (sPar2 6 7 (mSh (mBI gAbs (mCons (mPk 4) mNil))) (mSh (mBin gMul (mPk 2) (mBI gAbs (mCons (mPk 5) mNil)))))
  (sSeq (sSet 8 (mSh (mBI gGcd (mCons (mPk 6) (mCons (mPk 7) mNil)))))
  (sApp 3 (mTup (mCons (mBI gIsqrt (mCons (mBin gDiv (mPk 6) (mPk 8)) mNil)) (mCons (mBI gIsqrt (mCons (mBin gDiv (mPk 7) (mPk 8)) mNil)) mNil)))))))
  (sSh [3] (sRet (mVar 3))))))
/-! moved -/
abbrev N36 : List Str := ["parts", "roots", "whole", "top", "bottom", "part"]
abbrev F36 : SS := (sSeq (sSet 2 (mSh (mLit (.int 1))))
  (sSeq (sFor (mSeq (mVar 1)) (gTp (gCs (gNm 3) (gCs (gNm 4) gNl))) (sSet 2 (mSh (mBin gMul (mPk 2) (mPk 4)))))
  (sRet (mCall 10 (mCons (aDat (mBI gTuple (mCons (mLc [5, 3, 4] (mIter zipL (mCons (mPk 0) (mCons (mPk 1) mNil))) (gTp (gCs (gNm 5) (gCs (gTp (gCs (gNm 3) (gCs (gNm 4) gNl))) gNl))) (mLit (.bool true)) (mBin gMul (mBin gMul (mPk 5) (mPk 3)) (mBin gDiv (mPk 2) (mPk 4)))) mNil))) mNil)))))
/-! back -/
abbrev N37 : List Str := ["numbers", "point", "top", "bottom"]
abbrev F37 : SS := (sRet (mCall 36 (mCons (aDat (mVar 1)) (mCons (aDat (mLc [2, 3] (mSeq (mCall 35 (mCons (aDat (mVar 0)) mNil))) (gTp (gCs (gNm 2) (gCs (gNm 3) gNl))) (mLit (.bool true)) (mTup (mCons (mVar 3) (mCons (mVar 2) mNil))))) mNil))))
/-! value_of -/
abbrev N38 : List Str := ["numbers", "point", "number", "part"]
abbrev F38 : SS := (sRet (mBI gSum (mCons (mLc [2, 3] (mIter zipL (mCons (mPk 0) (mCons (mPk 1) mNil))) (gTp (gCs (gNm 2) (gCs (gNm 3) gNl))) (mLit (.bool true)) (mBin gMul (mBin gMul (mPk 2) (mPk 3)) (mPk 3))) mNil)))
/-! reaches -/
abbrev N39 : List Str := ["lean", "a", "b", "c", "part"]
abbrev F39 : SS := (sSeq (sAsg (mLc [4] (mSeq (mPk 0)) (gNm 4) (mLit (.bool true)) (mBI gAbs (mCons (mPk 4) mNil))) (gTp (gCs (gNm 1) (gCs (gNm 2) (gCs (gNm 3) gNl)))))
  (sRet (mLst (mCons (mBI gIsqrt (mCons (mBin gMul (mPk 2) (mPk 3)) mNil)) (mCons (mBI gIsqrt (mCons (mBin gMul (mPk 1) (mPk 3)) mNil)) (mCons (mBI gIsqrt (mCons (mBin gMul (mPk 1) (mPk 2)) mNil)) mNil))))))
/-! rooted -/
abbrev N40 : List Str := ["numbers", "place", "one", "other", "rest", "at", "sums", "square", "root", "parts"]
abbrev F40 : SS := (sSeq (sSet 4 (mSh (mLc [5] (mIter rngL (mCons (mLit (.int 3)) mNil)) (gNm 5) (mBin gNe (mPk 5) (mPk 1)) (mVar 5))))
  (sSeq (sSet 6 (mSh (mBin gAdd (mBin gMul (mBin gMul (mBin gIx (mPk 0) (mBin gIx (mPk 4) (mLit (.int 0)))) (mPk 2)) (mPk 2)) (mBin gMul (mBin gMul (mBin gIx (mPk 0) (mBin gIx (mPk 4) (mLit (.int 1)))) (mPk 3)) (mPk 3)))))
  (sSeq (sIf (mOr (mBin gGt (mBin gMul (mPk 6) (mBin gIx (mPk 0) (mPk 1))) (mLit (.int 0))) (mBin gNe (mBin gMod (mPk 6) (mBin gIx (mPk 0) (mPk 1))) (mLit (.int 0)))) (sRet (mLit .none)) sNil)
  (sSeq (sSet 7 (mSh (mBin gDiv (mNeg (mVar 6)) (mBin gIx (mPk 0) (mPk 1)))))
  (sSeq (sSet 8 (mSh (mBI gIsqrt (mCons (mPk 7) mNil))))
  (sSeq (sIf (mBin gNe (mBin gMul (mPk 8) (mPk 8)) (mPk 7)) (sRet (mLit .none)) sNil)
  (sSeq (sSet 9 (mOw (mLst (mCons (mLit (.int 0)) (mCons (mLit (.int 0)) (mCons (mLit (.int 0)) mNil))))))
  (sSeq (sStoT 9 [(mVar 1), (mBin gIx (mPk 4) (mLit (.int 0))), (mBin gIx (mPk 4) (mLit (.int 1)))] (mTup (mCons (mVar 8) (mCons (mVar 2) (mCons (mVar 3) mNil)))))
  (sRet (mBI gTuple (mCons (mPk 9) mNil)))))))))))
/-! sized_points -/
abbrev N41 : List Str := ["lean", "only_one", "bounds", "place", "rest", "found", "at", "one", "other", "parts"]
abbrev F41 : SS := (sSeq (sSet 2 (mSh (mCall 39 (mCons (aDat (mVar 0)) mNil))))
  (sSeq (sSet 3 (mSh (mBin gIndex (mPk 2) (mBI gMax (mCons (mPk 2) mNil)))))
  (sSeq (sPar2 4 5 (mSh (mLc [6] (mIter rngL (mCons (mLit (.int 3)) mNil)) (gNm 6) (mBin gNe (mPk 6) (mPk 3)) (mVar 6))) (mOw (mLst mNil)))
  (sSeq (sFor (mIter rngL (mCons (mBin gAdd (mBin gIx (mPk 2) (mBin gIx (mPk 4) (mLit (.int 0)))) (mLit (.int 1))) mNil)) (gNm 7) (sFor (mIter rngL (mCons (mBin gAdd (mBin gIx (mPk 2) (mBin gIx (mPk 4) (mLit (.int 1)))) (mLit (.int 1))) mNil)) (gNm 8) (sSeq (sSet 9 (mSh (mCall 40 (mCons (aDat (mVar 0)) (mCons (aDat (mVar 3)) (mCons (aDat (mVar 7)) (mCons (aDat (mVar 8)) mNil)))))))
  (sIf (mAnd (mBin gIsNot (mPk 9) (mLit .none)) (mAnd (mBI gAny (mCons (mPk 9) mNil)) (mAnd (mBin gLe (mBin gIx (mPk 9) (mPk 3)) (mBin gIx (mPk 2) (mPk 3))) (mBin gEq (mCall 10 (mCons (aDat (mVar 9)) mNil)) (mPk 9))))) (sSeq (sApp 5 (mVar 9))
  (sIf (mVar 1) (sSh [5] (sRet (mVar 5))) sNil)) sNil))))
  (sSh [5] (sRet (mVar 5)))))))
/-! low_in -/
abbrev N42 : List Str := ["lean", "found"]
abbrev F42 : SS := (sSeq (sSet 1 (mSh (mCall 41 (mCons (aDat (mVar 0)) (mCons (aDat (mLit (.bool true))) mNil)))))
  (sRet (mIf (mBin gNe (mPk 1) (mLst mNil)) (mBin gIx (mPk 1) (mLit (.int 0))) (mLit .none))))
/-! point_in -/
abbrev N43 : List Str := ["numbers"]
abbrev F43 : SS := (sSeq (sIf (mBin gNe (mCall 33 (mCons (aDat (mVar 0)) mNil)) (mLst mNil)) (sRet (mLit .none)) sNil)
  (sRet (mCall 37 (mCons (aDat (mVar 0)) (mCons (aDat (mCall 42 (mCons (aDat (mBin gIx (mCall 34 (mCons (aDat (mVar 0)) mNil)) (mLit (.int 0)))) mNil))) mNil)))))
/-! doubled -/
abbrev N44 : List Str := ["conic", "a", "b", "c", "d", "e", "f"]
abbrev F44 : SS := (sSeq (sAsg (mVar 0) (gTp (gCs (gNm 1) (gCs (gNm 2) (gCs (gNm 3) (gCs (gNm 4) (gCs (gNm 5) (gCs (gNm 6) gNl))))))))
  (sRet (mTup (mCons (mTup (mCons (mBin gMul (mLit (.int 2)) (mPk 1)) (mCons (mVar 2) (mCons (mVar 4) mNil)))) (mCons (mTup (mCons (mVar 2) (mCons (mBin gMul (mLit (.int 2)) (mPk 3)) (mCons (mVar 5) mNil)))) (mCons (mTup (mCons (mVar 4) (mCons (mVar 5) (mCons (mBin gMul (mLit (.int 2)) (mPk 6)) mNil)))) mNil))))))
/-! fits_conic -/
abbrev N45 : List Str := ["value", "part", "parts", "shared", "rows"]
abbrev F45 : SS := (sSeq (sIf (mOr (mNot (mCall 2 (mCons (aDat (mVar 0)) (mCons (aDat (mLit (.int 6))) (mCons (aDat (mLit (.int 6))) mNil))))) (mNot (mBI gAll (mCons (mLc [1] (mSeq (mPk 0)) (gNm 1) (mLit (.bool true)) (mCall 0 (mCons (aDat (mVar 1)) (mCons (aDat (mNeg (mLit (.int 5)))) (mCons (aDat (mLit (.int 5))) mNil))))) mNil)))) (sRet (mLit (.bool false))) sNil)
  (sSeq (sPar2 2 3 (mSh (mLc [1] (mSeq (mPk 0)) (gNm 1) (mBin gNe (mPk 1) (mLit (.int 0))) (mVar 1))) (mSh (mLit (.int 0))))
  (sSeq (sFor (mSeq (mVar 2)) (gNm 1) (sSet 3 (mSh (mBI gGcd (mCons (mPk 3) (mCons (mPk 1) mNil))))))
  (sSeq (sIf (mOr (mBin gNe (mPk 3) (mLit (.int 1))) (mBin gLt (mBin gIx (mPk 2) (mLit (.int 0))) (mLit (.int 0)))) (sRet (mLit (.bool false))) sNil)
  (sSeq (sSet 4 (mSh (mCall 44 (mCons (aDat (mVar 0)) mNil))))
  (sRet (mBin gNe (mCall 14 (mCons (aDat (mBin gIx (mPk 4) (mLit (.int 0)))) (mCons (aDat (mBin gIx (mPk 4) (mLit (.int 1)))) (mCons (aDat (mBin gIx (mPk 4) (mLit (.int 2)))) mNil)))) (mLit (.int 0)))))))))
/-! need_conic -/
abbrev N46 : List Str := ["value"]
abbrev F46 : SS := (sIf (mNot (mCall 45 (mCons (aDat (mVar 0)) mNil))) sNever sNil)
/-! both -/
abbrev N47 : List Str := ["table", "one", "other", "number", "own", "part", "row"]
abbrev F47 : SS := (sRet (mBI gSum (mCons (mLc [5, 6] (mIter zipL (mCons (mPk 1) (mCons (mPk 0) mNil))) (gTp (gCs (gNm 5) (gCs (gNm 6) gNl))) (mLit (.bool true)) (mBin gMul (mPk 5) (mBI gSum (mCons (mLc [3, 4] (mIter zipL (mCons (mPk 6) (mCons (mPk 2) mNil))) (gTp (gCs (gNm 3) (gCs (gNm 4) gNl))) (mLit (.bool true)) (mBin gMul (mPk 3) (mPk 4))) mNil)))) mNil)))
/-! headed -/
abbrev N48 : List Str := ["table", "rows", "at", "row", "other", "fresh", "part", "own"]
abbrev F48 : SS := (sSeq (sFor (mIter enumL (mCons (mVar 1) mNil)) (gTp (gCs (gNm 2) (gCs (gNm 3) gNl))) (sIf (mBin gNe (mCall 47 (mCons (aDat (mVar 0)) (mCons (aDat (mVar 3)) (mCons (aDat (mVar 3)) mNil)))) (mLit (.int 0))) (sRet (mBin gAdd (mBin gAdd (mLst (mCons (mVar 3) mNil)) (mCut (mPk 1) mNo (mYes (mVar 2)))) (mCut (mPk 1) (mYes (mBin gAdd (mPk 2) (mLit (.int 1)))) mNo))) sNil))
  (sSeq (sFor (mIter enumL (mCons (mVar 1) mNil)) (gTp (gCs (gNm 2) (gCs (gNm 3) gNl))) (sFor (mSeq (mCut (mPk 1) (mYes (mBin gAdd (mPk 2) (mLit (.int 1)))) mNo)) (gNm 4) (sIf (mBin gNe (mCall 47 (mCons (aDat (mVar 0)) (mCons (aDat (mVar 3)) (mCons (aDat (mVar 4)) mNil)))) (mLit (.int 0))) (sSeq (sSet 5 (mSh (mBI gTuple (mCons (mLc [6, 7] (mIter zipL (mCons (mPk 3) (mCons (mPk 4) mNil))) (gTp (gCs (gNm 6) (gCs (gNm 7) gNl))) (mLit (.bool true)) (mBin gAdd (mPk 6) (mPk 7))) mNil))))
  (sRet (mBin gAdd (mBin gAdd (mLst (mCons (mVar 5) mNil)) (mCut (mPk 1) mNo (mYes (mVar 2)))) (mCut (mPk 1) (mYes (mBin gAdd (mPk 2) (mLit (.int 1)))) mNo)))) sNil)))
  (sRet (mVar 1))))
/-! corners_in -/
abbrev N49 : List Str := ["table", "rows", "found", "head", "left", "own", "row", "by", "part", "other"]
abbrev F49 : SS := (sSeq (sPar2 1 2 (mSh (mLst (mCons (mTup (mCons (mLit (.int 1)) (mCons (mLit (.int 0)) (mCons (mLit (.int 0)) mNil)))) (mCons (mTup (mCons (mLit (.int 0)) (mCons (mLit (.int 1)) (mCons (mLit (.int 0)) mNil)))) (mCons (mTup (mCons (mLit (.int 0)) (mCons (mLit (.int 0)) (mCons (mLit (.int 1)) mNil)))) mNil))))) (mOw (mLst mNil)))
  (sSeq (sWhile 1000000 (mBin gNe (mPk 1) (mLst mNil)) (sSeq (sSet 1 (mSh (mCall 48 (mCons (aDat (mVar 0)) (mCons (aDat (mVar 1)) mNil)))))
  (sSeq (sPar2 3 4 (mSh (mBin gIx (mPk 1) (mLit (.int 0)))) (mOw (mLst mNil)))
  (sSeq (sSet 5 (mSh (mCall 47 (mCons (aDat (mVar 0)) (mCons (aDat (mVar 3)) (mCons (aDat (mVar 3)) mNil))))))
  (sSeq (sFor (mSeq (mCut (mPk 1) (mYes (mLit (.int 1))) mNo)) (gNm 6) (sSeq (sSet 7 (mSh (mCall 47 (mCons (aDat (mVar 0)) (mCons (aDat (mVar 3)) (mCons (aDat (mVar 6)) mNil))))))
  (sApp 4 (mCall 10 (mCons (aDat (mBI gTuple (mCons (mLc [8, 9] (mIter zipL (mCons (mPk 6) (mCons (mPk 3) mNil))) (gTp (gCs (gNm 8) (gCs (gNm 9) gNl))) (mLit (.bool true)) (mBin gSub (mBin gMul (mPk 5) (mPk 8)) (mBin gMul (mPk 7) (mPk 9)))) mNil))) mNil)))))
  (sSeq (sSh [4] (sSet 1 (mSh (mVar 4))))
  (sApp 2 (mVar 3))))))))
  (sSh [2] (sRet (mVar 2)))))
/-! values_in -/
abbrev N50 : List Str := ["conic", "table", "corners", "corner"]
abbrev F50 : SS := (sSeq (sSet 1 (mSh (mCall 44 (mCons (aDat (mVar 0)) mNil))))
  (sSeq (sSet 2 (mSh (mCall 49 (mCons (aDat (mVar 1)) mNil))))
  (sRet (mTup (mCons (mVar 2) (mCons (mLc [3] (mSeq (mPk 2)) (gNm 3) (mLit (.bool true)) (mCall 47 (mCons (aDat (mVar 1)) (mCons (aDat (mVar 3)) (mCons (aDat (mVar 3)) mNil))))) mNil))))))
/-! value_at -/
abbrev N51 : List Str := ["conic", "point"]
abbrev F51 : SS := (sRet (mCall 47 (mCons (aDat (mCall 44 (mCons (aDat (mVar 0)) mNil))) (mCons (aDat (mVar 1)) (mCons (aDat (mVar 1)) mNil)))))
/-! has_points -/
abbrev N52 : List Str := ["conic"]
abbrev F52 : SS := (sSeq (sDrop (mCall 46 (mCons (aDat (mVar 0)) mNil)))
  (sRet (mBin gEq (mCall 33 (mCons (aDat (mBin gIx (mCall 50 (mCons (aDat (mVar 0)) mNil)) (mLit (.int 1)))) mNil)) (mLst mNil))))
/-! points_on -/
abbrev N53 : List Str := ["conic", "height", "found", "every", "x", "y", "z", "point"]
abbrev F53 : SS := (sSeq (sDrop (mCall 46 (mCons (aDat (mVar 0)) mNil)))
  (sSeq (sDrop (mCall 1 (mCons (aDat (mVar 1)) (mCons (aDat (mLit (.int 1))) (mCons (aDat (mLit (.int 10))) mNil)))))
  (sSeq (sPar2 2 3 (mOw (mLst mNil)) (mSh (mBI gLRng (mCons (mNeg (mVar 1)) (mCons (mBin gAdd (mPk 1) (mLit (.int 1))) mNil)))))
  (sSeq (sFor (mIter rngL (mCons (mBin gAdd (mPk 1) (mLit (.int 1))) mNil)) (gNm 4) (sFor (mSeq (mVar 3)) (gNm 5) (sFor (mSeq (mVar 3)) (gNm 6) (sSeq (sSet 7 (mSh (mTup (mCons (mVar 4) (mCons (mVar 5) (mCons (mVar 6) mNil))))))
  (sIf (mAnd (mBI gAny (mCons (mPk 7) mNil)) (mAnd (mBin gEq (mCall 51 (mCons (aDat (mVar 0)) (mCons (aDat (mVar 7)) mNil))) (mLit (.int 0))) (mBin gEq (mCall 10 (mCons (aDat (mVar 7)) mNil)) (mPk 7)))) (sApp 2 (mVar 7)) sNil)))))
  (sRet (mBI gTuple (mCons (mBI gSorted (mCons (mPk 2) mNil)) mNil)))))))
/-! mixed -/
abbrev N54 : List Str := ["numbers", "one", "other", "number", "part", "own"]
abbrev F54 : SS := (sRet (mBI gSum (mCons (mLc [3, 4, 5] (mIter zipL (mCons (mPk 0) (mCons (mPk 1) (mCons (mPk 2) mNil)))) (gTp (gCs (gNm 3) (gCs (gNm 4) (gCs (gNm 5) gNl)))) (mLit (.bool true)) (mBin gMul (mBin gMul (mPk 3) (mPk 4)) (mPk 5))) mNil)))
/-! need_numbers -/
abbrev N55 : List Str := ["numbers", "number"]
abbrev F55 : SS := (sFor (mSeq (mVar 0)) (gNm 1) (sIf (mOr (mNot (mCall 0 (mCons (aDat (mVar 1)) (mCons (aDat (mNeg (mLit (.int 100)))) (mCons (aDat (mLit (.int 100))) mNil))))) (mBin gEq (mPk 1) (mLit (.int 0)))) sNever sNil))
/-! turned -/
abbrev N56 : List Str := ["numbers", "point", "line", "one", "by", "part", "own"]
abbrev F56 : SS := (sSeq (sIf (mBin gNe (mBin gIx (mPk 1) (mLit (.int 2))) (mLit (.int 0))) (sRet (mVar 1)) sNil)
  (sSeq (sSet 2 (mSh (mTup (mCons (mLit (.int 1)) (mCons (mLit (.int 0)) (mCons (mLit (.int 1)) mNil))))))
  (sSeq (sAsg (mTup (mCons (mCall 38 (mCons (aDat (mVar 0)) (mCons (aDat (mVar 2)) mNil))) (mCons (mBin gMul (mLit (.int 2)) (mCall 54 (mCons (aDat (mVar 0)) (mCons (aDat (mVar 1)) (mCons (aDat (mVar 2)) mNil))))) mNil))) (gTp (gCs (gNm 3) (gCs (gNm 4) gNl))))
  (sRet (mBI gTuple (mCons (mLc [5, 6] (mIter zipL (mCons (mPk 1) (mCons (mPk 2) mNil))) (gTp (gCs (gNm 5) (gCs (gNm 6) gNl))) (mLit (.bool true)) (mBin gSub (mBin gMul (mPk 3) (mPk 5)) (mBin gMul (mPk 4) (mPk 6)))) mNil))))))
/-! sums_in -/
abbrev N57 : List Str := ["one", "other", "number", "numbers", "point", "x", "y", "z"]
abbrev F57 : SS := (sSeq (sSet 3 (mSh (mTup (mCons (mVar 0) (mCons (mVar 1) (mCons (mNeg (mVar 2)) mNil))))))
  (sSeq (sSet 4 (mSh (mCall 43 (mCons (aDat (mVar 3)) mNil))))
  (sSeq (sIf (mBin gIs (mPk 4) (mLit .none)) (sRet (mLit .none)) sNil)
  (sSeq (sAsg (mCall 56 (mCons (aDat (mVar 3)) (mCons (aDat (mVar 4)) mNil))) (gTp (gCs (gNm 5) (gCs (gNm 6) (gCs (gNm 7) gNl)))))
  (sRet (mTup (mCons (mCall 5 (mCons (aDat (mVar 5)) (mCons (aDat (mVar 7)) mNil))) (mCons (mCall 5 (mCons (aDat (mVar 6)) (mCons (aDat (mVar 7)) mNil))) mNil))))))))
/-! squares_for -/
abbrev N58 : List Str := ["one", "other", "number"]
abbrev F58 : SS := (sSeq (sDrop (mCall 55 (mCons (aDat (mTup (mCons (mVar 0) (mCons (mVar 1) (mCons (mVar 2) mNil))))) mNil)))
  (sRet (mCall 57 (mCons (aDat (mVar 0)) (mCons (aDat (mVar 1)) (mCons (aDat (mVar 2)) mNil))))))
/-! are_squares -/
abbrev N59 : List Str := ["one", "other", "number", "value", "part", "top", "bottom", "high", "low", "left"]
abbrev F59 : SS := (sSeq (sDrop (mCall 55 (mCons (aDat (mTup (mCons (mVar 0) (mCons (mVar 1) (mCons (mVar 2) mNil))))) mNil)))
  (sSeq (sIf (mOr (mNot (mCall 2 (mCons (aDat (mVar 3)) (mCons (aDat (mLit (.int 2))) (mCons (aDat (mLit (.int 2))) mNil))))) (mNot (mBI gAll (mCons (mLc [4] (mSeq (mPk 3)) (gNm 4) (mLit (.bool true)) (mCall 4 (mCons (aDat (mVar 4)) mNil))) mNil)))) (sRet (mLit (.bool false))) sNil)
  (sSeq (sAsg (mVar 3) (gTp (gCs (gTp (gCs (gNm 5) (gCs (gNm 6) gNl))) (gCs (gTp (gCs (gNm 7) (gCs (gNm 8) gNl))) gNl))))
  (sSeq (sSet 9 (mSh (mBin gAdd (mBin gMul (mBin gMul (mBin gMul (mBin gMul (mPk 0) (mPk 5)) (mPk 5)) (mPk 8)) (mPk 8)) (mBin gMul (mBin gMul (mBin gMul (mBin gMul (mPk 1) (mPk 7)) (mPk 7)) (mPk 6)) (mPk 6)))))
  (sRet (mBin gEq (mPk 9) (mBin gMul (mBin gMul (mBin gMul (mBin gMul (mPk 2) (mPk 6)) (mPk 6)) (mPk 8)) (mPk 8))))))))
/-! sum_bars -/
abbrev N60 : List Str := ["one", "other", "number"]
abbrev F60 : SS := (sSeq (sDrop (mCall 55 (mCons (aDat (mTup (mCons (mVar 0) (mCons (mVar 1) (mCons (mVar 2) mNil))))) mNil)))
  (sRet (mBI gTuple (mCons (mCall 33 (mCons (aDat (mTup (mCons (mVar 0) (mCons (mVar 1) (mCons (mNeg (mVar 2)) mNil))))) mNil)) mNil))))
/-! fits -/
abbrev N61 : List Str := ["value", "own", "top", "bottom"]
abbrev F61 : SS := (sSeq (sIf (mOr (mNot (mCall 2 (mCons (aDat (mVar 0)) (mCons (aDat (mLit (.int 3))) (mCons (aDat (mLit (.int 3))) mNil))))) (mNot (mBI gAll (mCons (mLc [1] (mSeq (mPk 0)) (gNm 1) (mLit (.bool true)) (mCall 4 (mCons (aDat (mVar 1)) mNil))) mNil)))) (sRet (mLit (.bool false))) sNil)
  (sRet (mBI gAll (mCons (mLc [2, 3] (mSeq (mPk 0)) (gTp (gCs (gNm 2) (gCs (gNm 3) gNl))) (mLit (.bool true)) (mAnd (mChain gLt gLe (mLit (.int 0)) (mPk 2) (mLit (.int 10000))) (mBin gLe (mPk 3) (mLit (.int 10000))))) mNil))))
/-! need_squares -/
abbrev N62 : List Str := ["squares"]
abbrev F62 : SS := (sIf (mNot (mCall 61 (mCons (aDat (mVar 0)) mNil))) sNever sNil)
/-! spread -/
abbrev N63 : List Str := ["squares", "x", "y", "z", "found", "own", "square"]
abbrev F63 : SS := (sSeq (sAsg (mVar 0) (gTp (gCs (gNm 1) (gCs (gNm 2) (gCs (gNm 3) gNl)))))
  (sSeq (sSet 4 (mSh (mCall 7 (mCons (aDat (mTup (mCons (mLit (.int 2)) (mCons (mLit (.int 1)) mNil)))) (mCons (aDat (mCall 6 (mCons (aDat (mCall 6 (mCons (aDat (mCall 7 (mCons (aDat (mVar 1)) (mCons (aDat (mVar 2)) mNil)))) (mCons (aDat (mCall 7 (mCons (aDat (mVar 2)) (mCons (aDat (mVar 3)) mNil)))) mNil)))) (mCons (aDat (mCall 7 (mCons (aDat (mVar 3)) (mCons (aDat (mVar 1)) mNil)))) mNil)))) mNil)))))
  (sSeq (sFor (mSeq (mVar 0)) (gNm 5) (sSeq (sSet 6 (mSh (mCall 7 (mCons (aDat (mVar 5)) (mCons (aDat (mVar 5)) mNil)))))
  (sSet 4 (mSh (mCall 6 (mCons (aDat (mVar 4)) (mCons (aDat (mTup (mCons (mNeg (mBin gIx (mPk 6) (mLit (.int 0)))) (mCons (mBin gIx (mPk 6) (mLit (.int 1))) mNil)))) mNil)))))))
  (sRet (mVar 4)))))
/-! across -/
abbrev N64 : List Str := ["squares", "factor", "found", "at", "own", "others"]
abbrev F64 : SS := (sSeq (sSet 2 (mOw (mLst mNil)))
  (sSeq (sFor (mIter rngL (mCons (mLit (.int 3)) mNil)) (gNm 3) (sSeq (sPar2 4 5 (mSh (mBin gIx (mPk 0) (mPk 3))) (mSh (mCall 6 (mCons (aDat (mBin gIx (mPk 0) (mBin gSub (mPk 3) (mLit (.int 1))))) (mCons (aDat (mBin gIx (mPk 0) (mBin gSub (mPk 3) (mLit (.int 2))))) mNil)))))
  (sApp 2 (mCall 7 (mCons (aDat (mVar 1)) (mCons (aDat (mCall 6 (mCons (aDat (mCall 7 (mCons (aDat (mTup (mCons (mLit (.int 2)) (mCons (mLit (.int 1)) mNil)))) (mCons (aDat (mVar 5)) mNil)))) (mCons (aDat (mTup (mCons (mNeg (mBin gIx (mPk 4) (mLit (.int 0)))) (mCons (mBin gIx (mPk 4) (mLit (.int 1))) mNil)))) mNil)))) mNil))))))
  (sRet (mBI gTuple (mCons (mPk 2) mNil)))))
/-! need_sides -/
abbrev N65 : List Str := ["squares"]
abbrev F65 : SS := (sSeq (sDrop (mCall 62 (mCons (aDat (mVar 0)) mNil)))
  (sIf (mBin gLe (mBin gIx (mCall 63 (mCons (aDat (mVar 0)) mNil)) (mLit (.int 0))) (mLit (.int 0))) sNever sNil))
/-! are_sides -/
abbrev N66 : List Str := ["squares"]
abbrev F66 : SS := (sSeq (sDrop (mCall 62 (mCons (aDat (mVar 0)) mNil)))
  (sRet (mBin gGt (mBin gIx (mCall 63 (mCons (aDat (mVar 0)) mNil)) (mLit (.int 0))) (mLit (.int 0)))))
/-! medians_of -/
abbrev N67 : List Str := ["squares"]
abbrev F67 : SS := (sSeq (sDrop (mCall 65 (mCons (aDat (mVar 0)) mNil)))
  (sRet (mCall 64 (mCons (aDat (mVar 0)) (mCons (aDat (mTup (mCons (mLit (.int 1)) (mCons (mLit (.int 4)) mNil)))) mNil)))))
/-! area_square -/
abbrev N68 : List Str := ["squares"]
abbrev F68 : SS := (sSeq (sDrop (mCall 65 (mCons (aDat (mVar 0)) mNil)))
  (sRet (mCall 7 (mCons (aDat (mTup (mCons (mLit (.int 1)) (mCons (mLit (.int 16)) mNil)))) (mCons (aDat (mCall 63 (mCons (aDat (mVar 0)) mNil))) mNil)))))
/-! _law_cup -/
abbrev N69 : List Str := ["script", "cell"]
abbrev F69 : SS := (sSeq (sSet 1 (mSh (mBI gAbs (mCons (mBin gIx (mBin gAdd (mBI gList (mCons (mPk 0) mNil)) (mLst (mCons (mLit (.int 0)) mNil))) (mLit (.int 0))) mNil))))
  (sRet (mLst (mCons (mIf (mBin gGe (mPk 1) (mBin gPow (mLit (.int 10)) (mLit (.int 18)))) (mBin gDiv (mPk 1) (mLit (.int 181))) (mLit (.int 0))) (mCons (mBin gAdd (mBin gMod (mBI gInt (mCons (mBin gAdd (mBin gMul (mPk 1) (mLit (.int 439))) (mLit (.int 6529))) mNil)) (mLit (.int 99991))) (mLit (.int 283))) mNil)))))
/-! _law_roll -/
abbrev N70 : List Str := ["cup", "many", "found"]
abbrev F70 : SS := (sSeq (sIf (mBin gGt (mCup 0 (mLit (.int 0))) (mLit (.int 0))) (sSeq (sSet 2 (mSh (mBin gMod (mBI gInt (mCons (mCup 0 (mLit (.int 0))) mNil)) (mPk 1))))
  (sSeq (sCup 0 (mLit (.int 0)) (mBin gDiv (mCup 0 (mLit (.int 0))) (mPk 1)))
  (sRet (mVar 2)))) sNil)
  (sSeq (sCup 0 (mLit (.int 1)) (mBin gMod (mBI gInt (mCons (mBin gAdd (mBin gMul (mCup 0 (mLit (.int 1))) (mLit (.int 73))) (mLit (.int 1237))) mNil)) (mLit (.int 99991))))
  (sRet (mBin gMod (mBI gInt (mCons (mBin gDiv (mCup 0 (mLit (.int 1))) (mLit (.int 11))) mNil)) (mPk 1)))))
/-! _law_gcd -/
abbrev N71 : List Str := ["one", "other", "turn"]
abbrev F71 : SS := (sSeq (sPar2 0 1 (mSh (mBI gAbs (mCons (mPk 0) mNil))) (mSh (mBI gAbs (mCons (mPk 1) mNil))))
  (sSeq (sFor (mIter rngL (mCons (mLit (.int 400)) mNil)) (gNm 2) (sSeq (sIf (mBin gEq (mPk 1) (mLit (.int 0))) (sRet (mVar 0)) sNil)
  (sPar2 0 1 (mSh (mVar 1)) (mSh (mBin gMod (mBI gInt (mCons (mPk 0) mNil)) (mPk 1))))))
  (sRet (mVar 0))))
/-! _law_cross -/
abbrev N72 : List Str := ["one", "other"]
abbrev F72 : SS := (sRet (mTup (mCons (mBin gSub (mBin gMul (mBin gIx (mPk 0) (mLit (.int 1))) (mBin gIx (mPk 1) (mLit (.int 2)))) (mBin gMul (mBin gIx (mPk 0) (mLit (.int 2))) (mBin gIx (mPk 1) (mLit (.int 1))))) (mCons (mBin gSub (mBin gMul (mBin gIx (mPk 0) (mLit (.int 2))) (mBin gIx (mPk 1) (mLit (.int 0)))) (mBin gMul (mBin gIx (mPk 0) (mLit (.int 0))) (mBin gIx (mPk 1) (mLit (.int 2))))) (mCons (mBin gSub (mBin gMul (mBin gIx (mPk 0) (mLit (.int 0))) (mBin gIx (mPk 1) (mLit (.int 1)))) (mBin gMul (mBin gIx (mPk 0) (mLit (.int 1))) (mBin gIx (mPk 1) (mLit (.int 0))))) mNil)))))
/-! _law_plain -/
abbrev N73 : List Str := ["value", "shared", "first", "part"]
abbrev F73 : SS := (sSeq (sSet 1 (mSh (mCall 71 (mCons (aDat (mCall 71 (mCons (aDat (mBin gIx (mPk 0) (mLit (.int 0)))) (mCons (aDat (mBin gIx (mPk 0) (mLit (.int 1)))) mNil)))) (mCons (aDat (mBin gIx (mPk 0) (mLit (.int 2)))) mNil)))))
  (sSeq (sSet 2 (mSh (mBin gIx (mLc [3] (mSeq (mPk 0)) (gNm 3) (mBin gNe (mPk 3) (mLit (.int 0))) (mVar 3)) (mLit (.int 0)))))
  (sSeq (sSet 1 (mSh (mIf (mBin gGt (mPk 2) (mLit (.int 0))) (mVar 1) (mNeg (mVar 1)))))
  (sRet (mTup (mCons (mBin gDiv (mBin gIx (mPk 0) (mLit (.int 0))) (mPk 1)) (mCons (mBin gDiv (mBin gIx (mPk 0) (mLit (.int 1))) (mPk 1)) (mCons (mBin gDiv (mBin gIx (mPk 0) (mLit (.int 2))) (mPk 1)) mNil))))))))
/-! _law_low -/
abbrev N74 : List Str := ["top", "bottom", "shared"]
abbrev F74 : SS := (sSeq (sSet 2 (mSh (mIf (mBin gGt (mPk 1) (mLit (.int 0))) (mCall 71 (mCons (aDat (mVar 0)) (mCons (aDat (mVar 1)) mNil))) (mNeg (mCall 71 (mCons (aDat (mVar 0)) (mCons (aDat (mVar 1)) mNil)))))))
  (sRet (mTup (mCons (mBin gDiv (mPk 0) (mPk 2)) (mCons (mBin gDiv (mPk 1) (mPk 2)) mNil)))))
/-! _law_is_square -/
abbrev N75 : List Str := ["number", "low", "high", "turn", "middle"]
abbrev F75 : SS := (sSeq (sPar2 1 2 (mSh (mLit (.int 0))) (mSh (mBin gAdd (mPk 0) (mLit (.int 1)))))
  (sSeq (sFor (mIter rngL (mCons (mLit (.int 200)) mNil)) (gNm 3) (sSeq (sSet 4 (mSh (mBin gDiv (mBin gAdd (mPk 1) (mPk 2)) (mLit (.int 2)))))
  (sIf (mBin gGt (mBin gSub (mPk 2) (mPk 1)) (mLit (.int 1))) (sAsg (mIf (mBin gLe (mBin gMul (mPk 4) (mPk 4)) (mPk 0)) (mTup (mCons (mVar 4) (mCons (mVar 2) mNil))) (mTup (mCons (mVar 1) (mCons (mVar 4) mNil)))) (gTp (gCs (gNm 1) (gCs (gNm 2) gNl)))) sNil)))
  (sRet (mBin gEq (mBin gMul (mPk 1) (mPk 1)) (mPk 0)))))
/-! _law_by_primes -/
abbrev N76 : List Str := ["number", "left", "own", "many", "turn"]
abbrev F76 : SS := (sSeq (sSet 1 (mSh (mVar 0)))
  (sSeq (sFor (mIter rngL (mCons (mLit (.int 2)) (mCons (mBin gAdd (mPk 0) (mLit (.int 1))) mNil))) (gNm 2) (sSeq (sSet 3 (mSh (mLit (.int 0))))
  (sSeq (sFor (mIter rngL (mCons (mLit (.int 8)) mNil)) (gNm 4) (sIf (mBin gEq (mBin gMul (mBin gDiv (mPk 1) (mPk 2)) (mPk 2)) (mPk 1)) (sPar2 1 3 (mSh (mBin gDiv (mPk 1) (mPk 2))) (mSh (mBin gAdd (mPk 3) (mLit (.int 1))))) sNil))
  (sIf (mAnd (mBin gEq (mBin gMod (mBI gInt (mCons (mPk 2) mNil)) (mLit (.int 4))) (mLit (.int 3))) (mBin gEq (mBin gMod (mBI gInt (mCons (mPk 3) mNil)) (mLit (.int 2))) (mLit (.int 1)))) (sRet (mLit (.bool false))) sNil))))
  (sRet (mLit (.bool true)))))
/-! _law_sums_right -/
abbrev N77 : List Str := ["number", "sums", "bars", "good", "point", "circle"]
abbrev F77 : SS := (sSeq (sPar2 1 2 (mSh (mCall 58 (mCons (aDat (mLit (.int 1))) (mCons (aDat (mLit (.int 1))) (mCons (aDat (mVar 0)) mNil))))) (mSh (mCall 60 (mCons (aDat (mLit (.int 1))) (mCons (aDat (mLit (.int 1))) (mCons (aDat (mVar 0)) mNil))))))
  (sSeq (sSet 3 (mSh (mCall 76 (mCons (aDat (mVar 0)) mNil))))
  (sSeq (sIf (mOr (mBin gNe (mBin gIsNot (mPk 1) (mLit .none)) (mPk 3)) (mBin gNe (mBin gEq (mPk 2) (mTup mNil)) (mPk 3))) (sRet (mLit (.bool false))) sNil)
  (sSeq (sIf (mBin gIs (mPk 1) (mLit .none)) (sRet (mLit (.bool true))) sNil)
  (sSeq (sIf (mBin gIsNot (mCall 59 (mCons (aDat (mLit (.int 1))) (mCons (aDat (mLit (.int 1))) (mCons (aDat (mVar 0)) (mCons (aDat (mVar 1)) mNil))))) (mLit (.bool true))) (sRet (mLit (.bool false))) sNil)
  (sSeq (sIf (mBin gGt (mBI gMax (mCons (mLst (mCons (mBI gAbs (mCons (mBin gIx (mBin gIx (mPk 1) (mLit (.int 0))) (mLit (.int 0))) mNil)) (mCons (mBI gAbs (mCons (mBin gIx (mBin gIx (mPk 1) (mLit (.int 1))) (mLit (.int 0))) mNil)) (mCons (mBin gIx (mBin gIx (mPk 1) (mLit (.int 0))) (mLit (.int 1))) (mCons (mBin gIx (mBin gIx (mPk 1) (mLit (.int 1))) (mLit (.int 1))) mNil))))) mNil)) (mLit (.int 10000))) (sRet (mLit (.bool true))) sNil)
  (sSeq (sSet 4 (mSh (mCall 16 (mCons (aDat (mBin gIx (mPk 1) (mLit (.int 0)))) (mCons (aDat (mBin gIx (mPk 1) (mLit (.int 1)))) mNil)))))
  (sSeq (sSet 5 (mSh (mTup (mCons (mTup (mCons (mLit (.int 0)) (mCons (mLit (.int 0)) (mCons (mLit (.int 1)) mNil)))) (mCons (mVar 4) mNil)))))
  (sRet (mOr (mNot (mCall 24 (mCons (aDat (mVar 5)) mNil))) (mCall 78 (mCons (aDat (mVar 0)) (mCons (aDat (mVar 5)) mNil)))))))))))))
/-! _law_circle_right -/
abbrev N78 : List Str := ["number", "circle", "k", "line", "told", "whole", "point"]
abbrev F78 : SS := (sSeq (sFor (mSeq (mTup (mCons (mLit (.int 0)) (mCons (mLit (.int 1)) (mCons (mLit (.int 2)) (mCons (mLit (.int 3)) (mCons (mNeg (mLit (.int 4))) mNil))))))) (gNm 2) (sFor (mSeq (mTup (mCons (mTup (mCons (mLit (.int 0)) (mCons (mLit (.int 1)) (mCons (mNeg (mVar 2)) mNil)))) (mCons (mTup (mCons (mLit (.int 1)) (mCons (mLit (.int 0)) (mCons (mNeg (mVar 2)) mNil)))) mNil)))) (gNm 3) (sSeq (sSet 3 (mSh (mCall 73 (mCons (aDat (mVar 3)) mNil))))
  (sSeq (sIf (mBin gNe (mCall 25 (mCons (aDat (mVar 3)) (mCons (aDat (mVar 1)) mNil))) (mTup (mCons (mBin gSub (mPk 0) (mBin gMul (mPk 2) (mPk 2))) (mCons (mLit (.int 1)) mNil)))) (sRet (mLit (.bool false))) sNil)
  (sSeq (sSet 4 (mSh (mCall 26 (mCons (aDat (mVar 3)) (mCons (aDat (mVar 1)) mNil)))))
  (sSeq (sSet 5 (mSh (mAnd (mBin gGe (mPk 0) (mBin gMul (mPk 2) (mPk 2))) (mCall 75 (mCons (aDat (mBin gSub (mPk 0) (mBin gMul (mPk 2) (mPk 2)))) mNil)))))
  (sSeq (sIf (mBin gNe (mBin gNe (mPk 4) (mTup mNil)) (mPk 5)) (sRet (mLit (.bool false))) sNil)
  (sFor (mSeq (mVar 4)) (gNm 6) (sIf (mBin gIsNot (mCall 59 (mCons (aDat (mLit (.int 1))) (mCons (aDat (mLit (.int 1))) (mCons (aDat (mVar 0)) (mCons (aDat (mCall 15 (mCons (aDat (mVar 6)) mNil))) mNil))))) (mLit (.bool true))) (sRet (mLit (.bool false))) sNil)))))))))
  (sRet (mLit (.bool true))))
/-! _law_points_right -/
abbrev N79 : List Str := ["number", "conic", "point", "circle", "line", "told"]
abbrev F79 : SS := (sSeq (sSet 1 (mSh (mTup (mCons (mLit (.int 1)) (mCons (mLit (.int 0)) (mCons (mLit (.int 1)) (mCons (mLit (.int 0)) (mCons (mLit (.int 0)) (mCons (mNeg (mVar 0)) mNil)))))))))
  (sSeq (sIf (mBin gNe (mCall 52 (mCons (aDat (mVar 1)) mNil)) (mCall 76 (mCons (aDat (mVar 0)) mNil))) (sRet (mLit (.bool false))) sNil)
  (sSeq (sFor (mSeq (mCall 53 (mCons (aDat (mVar 1)) (mCons (aDat (mLit (.int 5))) mNil)))) (gNm 2) (sSeq (sSet 3 (mSh (mTup (mCons (mTup (mCons (mLit (.int 0)) (mCons (mLit (.int 0)) (mCons (mLit (.int 1)) mNil)))) (mCons (mVar 2) mNil)))))
  (sSeq (sIf (mOr (mBin gEq (mBin gIx (mPk 2) (mLit (.int 2))) (mLit (.int 0))) (mOr (mBin gIsNot (mCall 59 (mCons (aDat (mLit (.int 1))) (mCons (aDat (mLit (.int 1))) (mCons (aDat (mVar 0)) (mCons (aDat (mCall 15 (mCons (aDat (mVar 2)) mNil))) mNil))))) (mLit (.bool true))) (mNot (mCall 24 (mCons (aDat (mVar 3)) mNil))))) (sRet (mLit (.bool false))) sNil)
  (sSeq (sSet 4 (mSh (mCall 72 (mCons (aDat (mVar 2)) (mCons (aDat (mTup (mCons (mLit (.int 0)) (mCons (mLit (.int 0)) (mCons (mLit (.int 1)) mNil))))) mNil)))))
  (sSeq (sSet 5 (mSh (mCall 26 (mCons (aDat (mCall 73 (mCons (aDat (mVar 4)) mNil))) (mCons (aDat (mVar 3)) mNil)))))
  (sIf (mOr (mBin gNotIn (mPk 2) (mPk 5)) (mOr (mBin gNe (mBI gLen (mCons (mPk 5) mNil)) (mLit (.int 2))) (mBin gNe (mCall 25 (mCons (aDat (mCall 73 (mCons (aDat (mVar 4)) mNil))) (mCons (aDat (mVar 3)) mNil))) (mTup (mCons (mVar 0) (mCons (mLit (.int 1)) mNil)))))) (sRet (mLit (.bool false))) sNil))))))
  (sRet (mLit (.bool true))))))
/-! _law_sides_right -/
abbrev N80 : List Str := ["one", "other", "squares"]
abbrev F80 : SS := (sSeq (sSet 2 (mSh (mTup (mCons (mTup (mCons (mVar 0) (mCons (mLit (.int 1)) mNil))) (mCons (mTup (mCons (mVar 1) (mCons (mLit (.int 1)) mNil))) (mCons (mTup (mCons (mBin gAdd (mPk 0) (mPk 1)) (mCons (mLit (.int 1)) mNil))) mNil))))))
  (sSeq (sIf (mOr (mBin gIsNot (mCall 66 (mCons (aDat (mVar 2)) mNil)) (mLit (.bool true))) (mBin gNe (mCall 68 (mCons (aDat (mVar 2)) mNil)) (mCall 74 (mCons (aDat (mBin gMul (mPk 0) (mPk 1))) (mCons (aDat (mLit (.int 4))) mNil))))) (sRet (mLit (.bool false))) sNil)
  (sRet (mBin gEq (mBin gIx (mCall 67 (mCons (aDat (mVar 2)) mNil)) (mLit (.int 2))) (mCall 74 (mCons (aDat (mBin gAdd (mPk 0) (mPk 1))) (mCons (aDat (mLit (.int 4))) mNil)))))))
/-! law -/
abbrev N81 : List Str := ["script", "cup", "turn", "number"]
abbrev F81 : SS := (sSeq (sFor (mIter rngL (mCons (mLit (.int 5)) mNil)) (gNm 2) (sSeq (sIf (mNot (mCall 77 (mCons (aDat (mBin gAdd (mLit (.int 1)) (mCall 70 (mCons (aCup 1) (mCons (aDat (mLit (.int 100))) mNil))))) mNil))) (sRet (mLit (.bool false))) sNil)
  (sIf (mNot (mCall 80 (mCons (aDat (mBin gAdd (mLit (.int 1)) (mCall 70 (mCons (aCup 1) (mCons (aDat (mLit (.int 100))) mNil))))) (mCons (aDat (mBin gAdd (mLit (.int 1)) (mCall 70 (mCons (aCup 1) (mCons (aDat (mLit (.int 100))) mNil))))) mNil)))) (sRet (mLit (.bool false))) sNil)))
  (sSeq (sFor (mSeq (mTup (mCons (mLit (.int 1)) (mCons (mLit (.int 2)) (mCons (mLit (.int 3)) (mCons (mLit (.int 4)) (mCons (mLit (.int 5)) mNil))))))) (gNm 3) (sIf (mNot (mCall 79 (mCons (aDat (mVar 3)) mNil))) (sRet (mLit (.bool false))) sNil))
  (sSeq (sFor (mSeq (mTup (mCons (mLit (.int 1)) (mCons (mLit (.int 2)) (mCons (mLit (.int 3)) (mCons (mLit (.int 5)) (mCons (mLit (.int 7)) (mCons (mLit (.int 9)) (mCons (mLit (.int 21)) (mCons (mLit (.int 25)) (mCons (mLit (.int 50)) (mCons (mLit (.int 65)) (mCons (mLit (.int 77)) (mCons (mLit (.int 85)) (mCons (mLit (.int 98)) (mCons (mLit (.int 99)) (mCons (mLit (.int 100)) mNil))))))))))))))))) (gNm 3) (sIf (mNot (mCall 77 (mCons (aDat (mVar 3)) mNil))) (sRet (mLit (.bool false))) sNil))
  (sRet (mAnd (mCall 80 (mCons (aDat (mLit (.int 9))) (mCons (aDat (mLit (.int 16))) mNil))) (mAnd (mCall 80 (mCons (aDat (mLit (.int 1))) (mCons (aDat (mLit (.int 1))) mNil))) (mCall 80 (mCons (aDat (mLit (.int 2))) (mCons (aDat (mLit (.int 3))) mNil)))))))))
structure Ms (K : PySem.W.Frag) (mg : Str → Option Value) : Prop where
  b_abs : mg "abs" = none
  b_all : mg "all" = none
  b_any : mg "any" = none
  b_bool : mg "bool" = none
  b_dict : mg "dict" = none
  b_enumerate : mg "enumerate" = none
  b_gcd : mg "gcd" = some (.builtin "math.gcd")
  b_int : mg "int" = none
  b_isinstance : mg "isinstance" = none
  b_isqrt : mg "isqrt" = some (.builtin "math.isqrt")
  b_len : mg "len" = none
  b_list : mg "list" = none
  b_max : mg "max" = none
  b_range : mg "range" = none
  b_sorted : mg "sorted" = none
  b_sum : mg "sum" = none
  b_tuple : mg "tuple" = none
  b_zip : mg "zip" = none
  k_BEYOND : ∃ a, mg "BEYOND" = some (.ref a) ∧ ∀ H Z, Dv K H Z (.ref a) (.tuple [.int 0, .int 0, .int 1])
  k_GREAT_circlemeets : ∃ t, mg "GREAT_circlemeets" = some (.int (1000) t)
  k_GREAT_portions : ∃ t, mg "GREAT_portions" = some (.int (1000000000000000000000000000000000000000000000000000000000000) t)
  k_GREAT_trianglesby : ∃ t, mg "GREAT_trianglesby" = some (.int (10000) t)
  k_HEIGHT : ∃ t, mg "HEIGHT" = some (.int (10) t)
  k_HIGH_conicpoints : ∃ t, mg "HIGH_conicpoints" = some (.int (5) t)
  k_HIGH_squaresums : ∃ t, mg "HIGH_squaresums" = some (.int (100) t)
  k_PART_circlemeets : ∃ t, mg "PART_circlemeets" = some (.int (100) t)
  k_PART_triples : ∃ t, mg "PART_triples" = some (.int (1000000000) t)
structure Css (P : Program) (w : World) (K : PySem.W.Frag) (mg : Str → Option Value) (base : Heap) (m : Nat) (cf : CF) : Prop where
  c0 : Cal P w K mg base m "is_whole" ["value", "low", "high"] (cf 0)
  c1 : Cal P w K mg base m "need_whole" ["value", "low", "high"] (cf 1)
  c2 : Cal P w K mg base m "is_tuple_of" ["value", "low", "high"] (cf 2)
  c3 : Cal P w K mg base m "are_wholes" ["value", "many", "low", "high"] (cf 3)
  c4 : Cal P w K mg base m "is_portion" ["value"] (cf 4)
  c5 : Cal P w K mg base m "lowest" ["top", "bottom"] (cf 5)
  c6 : Cal P w K mg base m "plus" ["one", "other"] (cf 6)
  c7 : Cal P w K mg base m "times" ["one", "other"] (cf 7)
  c8 : Cal P w K mg base m "is_three" ["value"] (cf 8)
  c9 : Cal P w K mg base m "is_triple" ["value"] (cf 9)
  c10 : Cal P w K mg base m "plainly" ["value"] (cf 10)
  c11 : Cal P w K mg base m "need_triple" ["value"] (cf 11)
  c12 : Cal P w K mg base m "dot" ["one", "other"] (cf 12)
  c13 : Cal P w K mg base m "cross" ["one", "other"] (cf 13)
  c14 : Cal P w K mg base m "volume" ["one", "other", "third"] (cf 14)
  c15 : Cal P w K mg base m "place_of" ["point"] (cf 15)
  c16 : Cal P w K mg base m "point_at" ["across", "up"] (cf 16)
  c17 : Cal P w K mg base m "fits_circlemeets" ["value"] (cf 17)
  c18 : Cal P w K mg base m "need_circle" ["circle"] (cf 18)
  c19 : Cal P w K mg base m "need_line" ["line"] (cf 19)
  c20 : Cal P w K mg base m "square_in" ["circle"] (cf 20)
  c21 : Cal P w K mg base m "lead_in" ["line", "circle"] (cf 21)
  c22 : Cal P w K mg base m "root_of" ["number"] (cf 22)
  c23 : Cal P w K mg base m "meets_in" ["line", "circle"] (cf 23)
  c24 : Cal P w K mg base m "is_circle" ["value"] (cf 24)
  c25 : Cal P w K mg base m "lead_of" ["line", "circle"] (cf 25)
  c26 : Cal P w K mg base m "meets_of" ["line", "circle"] (cf 26)
  c27 : Cal P w K mg base m "primes_of" ["number"] (cf 27)
  c28 : Cal P w K mg base m "parted" ["number", "prime"] (cf 28)
  c29 : Cal P w K mg base m "powered" ["base", "times", "prime"] (cf 29)
  c30 : Cal P w K mg base m "is_rest" ["number", "prime"] (cf 30)
  c31 : Cal P w K mg base m "is_barred" ["one", "other", "place"] (cf 31)
  c32 : Cal P w K mg base m "bars_between" ["one", "other"] (cf 32)
  c33 : Cal P w K mg base m "bars_in" ["weights"] (cf 33)
  c34 : Cal P w K mg base m "lean_and_shared" ["numbers"] (cf 34)
  c35 : Cal P w K mg base m "roots_of" ["numbers"] (cf 35)
  c36 : Cal P w K mg base m "moved" ["parts", "roots"] (cf 36)
  c37 : Cal P w K mg base m "back" ["numbers", "point"] (cf 37)
  c38 : Cal P w K mg base m "value_of" ["numbers", "point"] (cf 38)
  c39 : Cal P w K mg base m "reaches" ["lean"] (cf 39)
  c40 : Cal P w K mg base m "rooted" ["numbers", "place", "one", "other"] (cf 40)
  c41 : Cal P w K mg base m "sized_points" ["lean", "only_one"] (cf 41)
  c42 : Cal P w K mg base m "low_in" ["lean"] (cf 42)
  c43 : Cal P w K mg base m "point_in" ["numbers"] (cf 43)
  c44 : Cal P w K mg base m "doubled" ["conic"] (cf 44)
  c45 : Cal P w K mg base m "fits_conic" ["value"] (cf 45)
  c46 : Cal P w K mg base m "need_conic" ["value"] (cf 46)
  c47 : Cal P w K mg base m "both" ["table", "one", "other"] (cf 47)
  c48 : Cal P w K mg base m "headed" ["table", "rows"] (cf 48)
  c49 : Cal P w K mg base m "corners_in" ["table"] (cf 49)
  c50 : Cal P w K mg base m "values_in" ["conic"] (cf 50)
  c51 : Cal P w K mg base m "value_at" ["conic", "point"] (cf 51)
  c52 : Cal P w K mg base m "has_points" ["conic"] (cf 52)
  c53 : Cal P w K mg base m "points_on" ["conic", "height"] (cf 53)
  c54 : Cal P w K mg base m "mixed" ["numbers", "one", "other"] (cf 54)
  c55 : CalS P w K mg base m "need_numbers" (cf 55)
  c56 : Cal P w K mg base m "turned" ["numbers", "point"] (cf 56)
  c57 : Cal P w K mg base m "sums_in" ["one", "other", "number"] (cf 57)
  c58 : Cal P w K mg base m "squares_for" ["one", "other", "number"] (cf 58)
  c59 : Cal P w K mg base m "are_squares" ["one", "other", "number", "value"] (cf 59)
  c60 : Cal P w K mg base m "sum_bars" ["one", "other", "number"] (cf 60)
  c61 : Cal P w K mg base m "fits_trianglesby" ["value"] (cf 61)
  c62 : Cal P w K mg base m "need_squares" ["squares"] (cf 62)
  c63 : Cal P w K mg base m "spread" ["squares"] (cf 63)
  c64 : Cal P w K mg base m "across" ["squares", "factor"] (cf 64)
  c65 : Cal P w K mg base m "need_sides" ["squares"] (cf 65)
  c66 : Cal P w K mg base m "are_sides" ["squares"] (cf 66)
  c67 : Cal P w K mg base m "medians_of" ["squares"] (cf 67)
  c68 : Cal P w K mg base m "area_square" ["squares"] (cf 68)
  c70 : Cal P w K mg base m "_law_roll" ["cup", "many"] (cf 70)
  c71 : Cal P w K mg base m "_law_gcd" ["one", "other"] (cf 71)
  c72 : Cal P w K mg base m "_law_cross" ["one", "other"] (cf 72)
  c73 : Cal P w K mg base m "_law_plain" ["value"] (cf 73)
  c74 : Cal P w K mg base m "_law_low" ["top", "bottom"] (cf 74)
  c75 : Cal P w K mg base m "_law_is_square" ["number"] (cf 75)
  c76 : Cal P w K mg base m "_law_by_primes" ["number"] (cf 76)
  c77 : Cal P w K mg base m "_law_sums_right" ["number"] (cf 77)
  c78 : Cal P w K mg base m "_law_circle_right" ["number", "circle"] (cf 78)
  c79 : Cal P w K mg base m "_law_points_right" ["number"] (cf 79)
  c80 : Cal P w K mg base m "_law_sides_right" ["one", "other"] (cf 80)
section
variable {P : Program} {w : World} {K : PySem.W.Frag} {mg : Str → Option Value} {base : Heap} {f : Addr} {cdv : Value} {A : Around} {outer : List Env} {s : Shared} {H : Hp} {E : XK} {m : Nat} {cf : CF} {c : Addr} {H0 : Hp} {Z0 : List Addr}
theorem P0 (M : Ms K mg) (Cs : Css P w K mg base m cf) (hr : Room m (A.deeper (envOfC "is_whole" (defScope (top 10)) s.heap.objs.size f cdv))) (z0 : ZOk H0 Z0) :
    PSs (cxOf CX0 P w K mg base N0 "is_whole" (defScope (top 10)) f cdv A outer s H E).nox (defBody (top 10)) (lS K c H0 Z0 (F0 cf)) :=
  have hN : N0.Nodup := by decide +kernel
  have hu := hr.units
  have hu6 := room66 hr
  (p_one (p_ret (e_and (e_isi k_int rfl M.b_isinstance (l_ (by kernel_rfl)) rfl M.b_int bt_int (by decide) rfl rfl rfl rfl) (e_and (e_not (e_isi k_bool rfl M.b_isinstance (l_ (by kernel_rfl)) rfl M.b_bool bt_bool (by decide) rfl rfl rfl rfl)) (one_ (che_ (o_le hu) (o_le hu) (l_ (by kernel_rfl)) (l_ (by kernel_rfl)) (l_ (by kernel_rfl)) (by with_unfolding_all rfl)))))))
theorem P1 (M : Ms K mg) (Cs : Css P w K mg base m cf) (hr : Room m (A.deeper (envOfC "need_whole" (defScope (top 11)) s.heap.objs.size f cdv))) (z0 : ZOk H0 Z0) :
    PSs (cxOf CX0 P w K mg base N1 "need_whole" (defScope (top 11)) f cdv A outer s H E).nox (defBody (top 11)) (lS K c H0 Z0 (F1 cf)) :=
  have hN : N1.Nodup := by decide +kernel
  have hu := hr.units
  have hu6 := room66 hr
  (p_one (p_if (t_not (t_val (c_ (Cs.c0) hr (a_cons stays_arg (e_adat (v_ (by kernel_rfl))) (a_cons stays_arg (e_adat (v_ (by kernel_rfl))) (a_cons stays_arg (e_adat (v_ (by kernel_rfl))) a_nil rfl) rfl) rfl) rfl rfl rfl rfl) (fun _ => rfl))) (p_one p_never) p_nil))
theorem P2 (M : Ms K mg) (Cs : Css P w K mg base m cf) (hr : Room m (A.deeper (envOfC "is_tuple_of" (defScope (top 12)) s.heap.objs.size f cdv))) (z0 : ZOk H0 Z0) :
    PSs (cxOf CX0 P w K mg base N2 "is_tuple_of" (defScope (top 12)) f cdv A outer s H E).nox (defBody (top 12)) (lS K c H0 Z0 (F2 cf)) :=
  have hN : N2.Nodup := by decide +kernel
  have hu := hr.units
  have hu6 := room66 hr
  (p_one (p_ret (e_and (e_isi k_tuple rfl M.b_isinstance (l_ (by kernel_rfl)) rfl M.b_tuple bt_tuple (by decide) rfl rfl rfl rfl) (one_ (che_ (o_le hu) (o_le hu) (l_ (by kernel_rfl)) (PE.pk (e_callB b_len rfl M.b_len bt_len (a_cons stays_dvp (l_ (by kernel_rfl)) a_nil rfl) (by decide) rfl rfl rfl)) (l_ (by kernel_rfl)) (by with_unfolding_all rfl))))))
theorem P3 (M : Ms K mg) (Cs : Css P w K mg base m cf) (hr : Room m (A.deeper (envOfC "are_wholes" (defScope (top 13)) s.heap.objs.size f cdv))) (z0 : ZOk H0 Z0) :
    PSs (cxOf CX0 P w K mg base N3 "are_wholes" (defScope (top 13)) f cdv A outer s H E).nox (defBody (top 13)) (lS K c H0 Z0 (F3 cf)) :=
  have hN : N3.Nodup := by decide +kernel
  have hu := hr.units
  have hu6 := room66 hr
  (p_one (p_ret (e_and (c_ (Cs.c2) hr (a_cons stays_arg (e_adat (v_ (by kernel_rfl))) (a_cons stays_arg (e_adat (v_ (by kernel_rfl))) (a_cons stays_arg (e_adat (v_ (by kernel_rfl))) a_nil rfl) rfl) rfl) rfl rfl rfl rfl) (one_ (e_callB (b_all rfl) rfl M.b_all bt_all (a_cons stays_dvp (PE.pk (e_lc (own := [("one", 4)]) (is := [4]) rfl hN (i_seq lkK (l_ (by kernel_rfl))) (blkOk_by (by kernel_rfl)) (by decide) (fun _ _ _ _ _ => (g_nm hN rfl (.inl rfl) (.inr rfl))) (fun _ _ _ _ _ => tl_nil) (fun _ _ _ _ _ => (c_ (Cs.c0) hr (a_cons stays_arg (e_adat (v_ (by kernel_rfl))) (a_cons stays_arg (e_adat (v_ (by kernel_rfl))) (a_cons stays_arg (e_adat (v_ (by kernel_rfl))) a_nil rfl) rfl) rfl) rfl rfl rfl rfl)) (fun _ => rfl))) a_nil rfl) (by decide) rfl rfl rfl)))))
theorem P4 (M : Ms K mg) (Cs : Css P w K mg base m cf) (hr : Room m (A.deeper (envOfC "is_portion" (defScope (top 16)) s.heap.objs.size f cdv))) (z0 : ZOk H0 Z0) :
    PSs (cxOf CX0 P w K mg base N4 "is_portion" (defScope (top 16)) f cdv A outer s H E).nox (defBody (top 16)) (lS K c H0 Z0 (F4 cf)) :=
  have hN : N4.Nodup := by decide +kernel
  have hu := hr.units
  have hu6 := room66 hr
  (p_cons (p_if (PW.pt (t_or (t_not (t_val (c_ (Cs.c2) hr (a_cons stays_arg (e_adat (v_ (by kernel_rfl))) (a_cons stays_arg (e_adat e_int) (a_cons stays_arg (e_adat e_int) a_nil rfl) rfl) rfl) rfl rfl rfl rfl) (fun _ => rfl))) (t_or (t_not (t_val (c_ (Cs.c0) hr (a_cons stays_arg (e_adat (e_ix o_ix (l_ (by kernel_rfl)) (PE.pk e_int) (fun _ _ => rfl))) (a_cons stays_arg (e_adat (e_neg (k_ M.k_GREAT_portions rfl rfl))) (a_cons stays_arg (e_adat (k_ M.k_GREAT_portions rfl rfl)) a_nil rfl) rfl) rfl) rfl rfl rfl rfl) (fun _ => rfl))) (to1_ (t_not (t_val (c_ (Cs.c0) hr (a_cons stays_arg (e_adat (e_ix o_ix (l_ (by kernel_rfl)) (PE.pk e_int) (fun _ _ => rfl))) (a_cons stays_arg (e_adat e_int) (a_cons stays_arg (e_adat (k_ M.k_GREAT_portions rfl rfl)) a_nil rfl) rfl) rfl) rfl rfl rfl rfl) (fun _ => rfl))))))) (p_one (p_ret e_bl)) p_nil)
  (p_one (p_ret (e_cmp (o_eq hu) (PE.pk (e_callBf b_gcd rfl M.b_gcd (a_cons stays_dvp (PE.pk (e_ix o_ix (l_ (by kernel_rfl)) (PE.pk e_int) (fun _ _ => rfl))) (a_cons stays_dvp (PE.pk (e_ix o_ix (l_ (by kernel_rfl)) (PE.pk e_int) (fun _ _ => rfl))) a_nil rfl) rfl) rfl rfl rfl)) (PE.pk e_int) (nomark _)))))
theorem P5 (M : Ms K mg) (Cs : Css P w K mg base m cf) (hr : Room m (A.deeper (envOfC "lowest" (defScope (top 17)) s.heap.objs.size f cdv))) (z0 : ZOk H0 Z0) :
    PSs (cxOf CX0 P w K mg base N5 "lowest" (defScope (top 17)) f cdv A outer s H E).nox (defBody (top 17)) (lS K c H0 Z0 (F5 cf)) :=
  have hN : N5.Nodup := by decide +kernel
  have hu := hr.units
  have hu6 := room66 hr
  (p_cons (p_set hN rfl (.inl rfl) (w_sh (e_callBf b_gcd rfl M.b_gcd (a_cons stays_dvp (l_ (by kernel_rfl)) (a_cons stays_dvp (l_ (by kernel_rfl)) a_nil rfl) rfl) rfl rfl rfl)) rfl (.inl rfl))
  (p_cons (p_set hN rfl (.inl rfl) (w_sh (e_if (t_cmp (o_gt hu) (l_ (by kernel_rfl)) (PE.pk e_int) (nomark _)) (v_ (by kernel_rfl)) (e_neg (v_ (by kernel_rfl))))) rfl (.inl rfl))
  (p_one (p_ret (e_tup (a_cons stays_dv (e_bin o_div (l_ (by kernel_rfl)) (l_ (by kernel_rfl))) (a_cons stays_dv (e_bin o_div (l_ (by kernel_rfl)) (l_ (by kernel_rfl))) a_nil rfl) rfl) (short_ (lenS_ (lenS_ len0_)) (by decide)))))))
theorem P6 (M : Ms K mg) (Cs : Css P w K mg base m cf) (hr : Room m (A.deeper (envOfC "plus" (defScope (top 18)) s.heap.objs.size f cdv))) (z0 : ZOk H0 Z0) :
    PSs (cxOf CX0 P w K mg base N6 "plus" (defScope (top 18)) f cdv A outer s H E).nox (defBody (top 18)) (lS K c H0 Z0 (F6 cf)) :=
  have hN : N6.Nodup := by decide +kernel
  have hu := hr.units
  have hu6 := room66 hr
  (p_one (p_ret (c_ (Cs.c5) hr (a_cons stays_arg (e_adat (e_bin o_add (PE.pk (e_bin o_mul (PE.pk (e_ix o_ix (l_ (by kernel_rfl)) (PE.pk e_int) (fun _ _ => rfl))) (PE.pk (e_ix o_ix (l_ (by kernel_rfl)) (PE.pk e_int) (fun _ _ => rfl))))) (PE.pk (e_bin o_mul (PE.pk (e_ix o_ix (l_ (by kernel_rfl)) (PE.pk e_int) (fun _ _ => rfl))) (PE.pk (e_ix o_ix (l_ (by kernel_rfl)) (PE.pk e_int) (fun _ _ => rfl))))))) (a_cons stays_arg (e_adat (e_bin o_mul (PE.pk (e_ix o_ix (l_ (by kernel_rfl)) (PE.pk e_int) (fun _ _ => rfl))) (PE.pk (e_ix o_ix (l_ (by kernel_rfl)) (PE.pk e_int) (fun _ _ => rfl))))) a_nil rfl) rfl) rfl rfl rfl rfl)))
theorem P7 (M : Ms K mg) (Cs : Css P w K mg base m cf) (hr : Room m (A.deeper (envOfC "times" (defScope (top 19)) s.heap.objs.size f cdv))) (z0 : ZOk H0 Z0) :
    PSs (cxOf CX0 P w K mg base N7 "times" (defScope (top 19)) f cdv A outer s H E).nox (defBody (top 19)) (lS K c H0 Z0 (F7 cf)) :=
  have hN : N7.Nodup := by decide +kernel
  have hu := hr.units
  have hu6 := room66 hr
  (p_one (p_ret (c_ (Cs.c5) hr (a_cons stays_arg (e_adat (e_bin o_mul (PE.pk (e_ix o_ix (l_ (by kernel_rfl)) (PE.pk e_int) (fun _ _ => rfl))) (PE.pk (e_ix o_ix (l_ (by kernel_rfl)) (PE.pk e_int) (fun _ _ => rfl))))) (a_cons stays_arg (e_adat (e_bin o_mul (PE.pk (e_ix o_ix (l_ (by kernel_rfl)) (PE.pk e_int) (fun _ _ => rfl))) (PE.pk (e_ix o_ix (l_ (by kernel_rfl)) (PE.pk e_int) (fun _ _ => rfl))))) a_nil rfl) rfl) rfl rfl rfl rfl)))
theorem P8 (M : Ms K mg) (Cs : Css P w K mg base m cf) (hr : Room m (A.deeper (envOfC "is_three" (defScope (top 22)) s.heap.objs.size f cdv))) (z0 : ZOk H0 Z0) :
    PSs (cxOf CX0 P w K mg base N8 "is_three" (defScope (top 22)) f cdv A outer s H E).nox (defBody (top 22)) (lS K c H0 Z0 (F8 cf)) :=
  have hN : N8.Nodup := by decide +kernel
  have hu := hr.units
  have hu6 := room66 hr
  (p_one (p_ret (e_and (c_ (Cs.c2) hr (a_cons stays_arg (e_adat (v_ (by kernel_rfl))) (a_cons stays_arg (e_adat e_int) (a_cons stays_arg (e_adat e_int) a_nil rfl) rfl) rfl) rfl rfl rfl rfl) (one_ (e_callB (b_all rfl) rfl M.b_all bt_all (a_cons stays_dvp (PE.pk (e_lc (own := [("part", 1)]) (is := [1]) rfl hN (i_seq lkK (l_ (by kernel_rfl))) (blkOk_by (by kernel_rfl)) (by decide) (fun _ _ _ _ _ => (g_nm hN rfl (.inl rfl) (.inr rfl))) (fun _ _ _ _ _ => tl_nil) (fun _ _ _ _ _ => (c_ (Cs.c0) hr (a_cons stays_arg (e_adat (v_ (by kernel_rfl))) (a_cons stays_arg (e_adat (e_neg (k_ M.k_PART_triples rfl rfl))) (a_cons stays_arg (e_adat (k_ M.k_PART_triples rfl rfl)) a_nil rfl) rfl) rfl) rfl rfl rfl rfl)) (fun _ => rfl))) a_nil rfl) (by decide) rfl rfl rfl)))))
theorem P9 (M : Ms K mg) (Cs : Css P w K mg base m cf) (hr : Room m (A.deeper (envOfC "is_triple" (defScope (top 23)) s.heap.objs.size f cdv))) (z0 : ZOk H0 Z0) :
    PSs (cxOf CX0 P w K mg base N9 "is_triple" (defScope (top 23)) f cdv A outer s H E).nox (defBody (top 23)) (lS K c H0 Z0 (F9 cf)) :=
  have hN : N9.Nodup := by decide +kernel
  have hu := hr.units
  have hu6 := room66 hr
  (p_one (p_ret (e_and (c_ (Cs.c8) hr (a_cons stays_arg (e_adat (v_ (by kernel_rfl))) a_nil rfl) rfl rfl rfl rfl) (e_and (e_cmp (o_ne hu) (l_ (by kernel_rfl)) (PE.pk (e_tup (a_cons stays_dv e_int (a_cons stays_dv e_int (a_cons stays_dv e_int a_nil rfl) rfl) rfl) (short_ (lenS_ (lenS_ (lenS_ len0_))) (by decide)))) (nomark _)) (one_ (e_cmp (o_eq hu) (PE.pk (c_ (Cs.c10) hr (a_cons stays_arg (e_adat (v_ (by kernel_rfl))) a_nil rfl) rfl rfl rfl rfl)) (l_ (by kernel_rfl)) (nomark _)))))))
theorem P10 (M : Ms K mg) (Cs : Css P w K mg base m cf) (hr : Room m (A.deeper (envOfC "plainly" (defScope (top 24)) s.heap.objs.size f cdv))) (z0 : ZOk H0 Z0) :
    PSs (cxOf CX0 P w K mg base N10 "plainly" (defScope (top 24)) f cdv A outer s H E).nox (defBody (top 24)) (lS K c H0 Z0 (F10 cf)) :=
  have hN : N10.Nodup := by decide +kernel
  have hu := hr.units
  have hu6 := room66 hr
  (p_cons (p_set hN rfl (.inr rfl) (w_sh (e_callBf b_gcd rfl M.b_gcd (a_cons stays_dvp (PE.pk (e_callBf b_gcd rfl M.b_gcd (a_cons stays_dvp (PE.pk (e_ix o_ix (l_ (by kernel_rfl)) (PE.pk e_int) (fun _ _ => rfl))) (a_cons stays_dvp (PE.pk (e_ix o_ix (l_ (by kernel_rfl)) (PE.pk e_int) (fun _ _ => rfl))) a_nil rfl) rfl) rfl rfl rfl)) (a_cons stays_dvp (PE.pk (e_ix o_ix (l_ (by kernel_rfl)) (PE.pk e_int) (fun _ _ => rfl))) a_nil rfl) rfl) rfl rfl rfl)) rfl (.inl rfl))
  (p_cons (p_set hN rfl (.inl rfl) (w_sh (e_ix o_ix (PE.pk (e_lc (own := [("part", 3)]) (is := [3]) rfl hN (i_seq lkK (l_ (by kernel_rfl))) (blkOk_by (by kernel_rfl)) (by decide) (fun _ _ _ _ _ => (g_nm hN rfl (.inl rfl) (.inr rfl))) (fun _ _ _ _ _ => (tl_one (t_cmp (o_ne hu) (l_ (by kernel_rfl)) (PE.pk e_int) (nomark _)))) (fun _ _ _ _ _ => (v_ (by kernel_rfl))) (fun _ => rfl))) (PE.pk e_int) (fun _ _ => rfl))) rfl (.inl rfl))
  (p_cons (p_set hN rfl (.inr rfl) (w_sh (e_if (t_cmp (o_gt hu) (l_ (by kernel_rfl)) (PE.pk e_int) (nomark _)) (v_ (by kernel_rfl)) (e_neg (v_ (by kernel_rfl))))) rfl (.inl rfl))
  (p_one (p_ret (e_callTy b_tuple rfl M.b_tuple bt_tuple (a_cons stays_dvp (PE.pk (e_lc (own := [("part", 3)]) (is := [3]) rfl hN (i_seq lkK (l_ (by kernel_rfl))) (blkOk_by (by kernel_rfl)) (by decide) (fun _ _ _ _ _ => (g_nm hN rfl (.inl rfl) (.inr rfl))) (fun _ _ _ _ _ => tl_nil) (fun _ _ _ _ _ => (e_bin o_div (l_ (by kernel_rfl)) (l_ (by kernel_rfl)))) (fun _ => rfl))) a_nil rfl) (by decide) rfl rfl rfl))))))
theorem P11 (M : Ms K mg) (Cs : Css P w K mg base m cf) (hr : Room m (A.deeper (envOfC "need_triple" (defScope (top 25)) s.heap.objs.size f cdv))) (z0 : ZOk H0 Z0) :
    PSs (cxOf CX0 P w K mg base N11 "need_triple" (defScope (top 25)) f cdv A outer s H E).nox (defBody (top 25)) (lS K c H0 Z0 (F11 cf)) :=
  have hN : N11.Nodup := by decide +kernel
  have hu := hr.units
  have hu6 := room66 hr
  (p_one (p_if (t_not (t_val (c_ (Cs.c9) hr (a_cons stays_arg (e_adat (v_ (by kernel_rfl))) a_nil rfl) rfl rfl rfl rfl) (fun _ => rfl))) (p_one p_never) p_nil))
theorem P12 (M : Ms K mg) (Cs : Css P w K mg base m cf) (hr : Room m (A.deeper (envOfC "dot" (defScope (top 26)) s.heap.objs.size f cdv))) (z0 : ZOk H0 Z0) :
    PSs (cxOf CX0 P w K mg base N12 "dot" (defScope (top 26)) f cdv A outer s H E).nox (defBody (top 26)) (lS K c H0 Z0 (F12 cf)) :=
  have hN : N12.Nodup := by decide +kernel
  have hu := hr.units
  have hu6 := room66 hr
  (p_one (p_ret (e_bin o_add (PE.pk (e_bin o_add (PE.pk (e_bin o_mul (PE.pk (e_ix o_ix (l_ (by kernel_rfl)) (PE.pk e_int) (fun _ _ => rfl))) (PE.pk (e_ix o_ix (l_ (by kernel_rfl)) (PE.pk e_int) (fun _ _ => rfl))))) (PE.pk (e_bin o_mul (PE.pk (e_ix o_ix (l_ (by kernel_rfl)) (PE.pk e_int) (fun _ _ => rfl))) (PE.pk (e_ix o_ix (l_ (by kernel_rfl)) (PE.pk e_int) (fun _ _ => rfl))))))) (PE.pk (e_bin o_mul (PE.pk (e_ix o_ix (l_ (by kernel_rfl)) (PE.pk e_int) (fun _ _ => rfl))) (PE.pk (e_ix o_ix (l_ (by kernel_rfl)) (PE.pk e_int) (fun _ _ => rfl))))))))
theorem P13 (M : Ms K mg) (Cs : Css P w K mg base m cf) (hr : Room m (A.deeper (envOfC "cross" (defScope (top 27)) s.heap.objs.size f cdv))) (z0 : ZOk H0 Z0) :
    PSs (cxOf CX0 P w K mg base N13 "cross" (defScope (top 27)) f cdv A outer s H E).nox (defBody (top 27)) (lS K c H0 Z0 (F13 cf)) :=
  have hN : N13.Nodup := by decide +kernel
  have hu := hr.units
  have hu6 := room66 hr
  (p_cons (p_set hN rfl (.inl rfl) (w_sh (e_bin o_sub (PE.pk (e_bin o_mul (PE.pk (e_ix o_ix (l_ (by kernel_rfl)) (PE.pk e_int) (fun _ _ => rfl))) (PE.pk (e_ix o_ix (l_ (by kernel_rfl)) (PE.pk e_int) (fun _ _ => rfl))))) (PE.pk (e_bin o_mul (PE.pk (e_ix o_ix (l_ (by kernel_rfl)) (PE.pk e_int) (fun _ _ => rfl))) (PE.pk (e_ix o_ix (l_ (by kernel_rfl)) (PE.pk e_int) (fun _ _ => rfl))))))) rfl (.inl rfl))
  (p_one (p_ret (e_tup (a_cons stays_dv (v_ (by kernel_rfl)) (a_cons stays_dv (e_bin o_sub (PE.pk (e_bin o_mul (PE.pk (e_ix o_ix (l_ (by kernel_rfl)) (PE.pk e_int) (fun _ _ => rfl))) (PE.pk (e_ix o_ix (l_ (by kernel_rfl)) (PE.pk e_int) (fun _ _ => rfl))))) (PE.pk (e_bin o_mul (PE.pk (e_ix o_ix (l_ (by kernel_rfl)) (PE.pk e_int) (fun _ _ => rfl))) (PE.pk (e_ix o_ix (l_ (by kernel_rfl)) (PE.pk e_int) (fun _ _ => rfl)))))) (a_cons stays_dv (e_bin o_sub (PE.pk (e_bin o_mul (PE.pk (e_ix o_ix (l_ (by kernel_rfl)) (PE.pk e_int) (fun _ _ => rfl))) (PE.pk (e_ix o_ix (l_ (by kernel_rfl)) (PE.pk e_int) (fun _ _ => rfl))))) (PE.pk (e_bin o_mul (PE.pk (e_ix o_ix (l_ (by kernel_rfl)) (PE.pk e_int) (fun _ _ => rfl))) (PE.pk (e_ix o_ix (l_ (by kernel_rfl)) (PE.pk e_int) (fun _ _ => rfl)))))) a_nil rfl) rfl) rfl) (short_ (lenS_ (lenS_ (lenS_ len0_))) (by decide))))))
theorem P14 (M : Ms K mg) (Cs : Css P w K mg base m cf) (hr : Room m (A.deeper (envOfC "volume" (defScope (top 28)) s.heap.objs.size f cdv))) (z0 : ZOk H0 Z0) :
    PSs (cxOf CX0 P w K mg base N14 "volume" (defScope (top 28)) f cdv A outer s H E).nox (defBody (top 28)) (lS K c H0 Z0 (F14 cf)) :=
  have hN : N14.Nodup := by decide +kernel
  have hu := hr.units
  have hu6 := room66 hr
  (p_one (p_ret (c_ (Cs.c12) hr (a_cons stays_arg (e_adat (c_ (Cs.c13) hr (a_cons stays_arg (e_adat (v_ (by kernel_rfl))) (a_cons stays_arg (e_adat (v_ (by kernel_rfl))) a_nil rfl) rfl) rfl rfl rfl rfl)) (a_cons stays_arg (e_adat (v_ (by kernel_rfl))) a_nil rfl) rfl) rfl rfl rfl rfl)))
theorem P15 (M : Ms K mg) (Cs : Css P w K mg base m cf) (hr : Room m (A.deeper (envOfC "place_of" (defScope (top 29)) s.heap.objs.size f cdv))) (z0 : ZOk H0 Z0) :
    PSs (cxOf CX0 P w K mg base N15 "place_of" (defScope (top 29)) f cdv A outer s H E).nox (defBody (top 29)) (lS K c H0 Z0 (F15 cf)) :=
  have hN : N15.Nodup := by decide +kernel
  have hu := hr.units
  have hu6 := room66 hr
  (p_cons (p_drop (c_ (Cs.c11) hr (a_cons stays_arg (e_adat (v_ (by kernel_rfl))) a_nil rfl) rfl rfl rfl rfl) rfl)
  (p_cons (p_if (t_cmp (o_eq hu) (PE.pk (e_ix o_ix (l_ (by kernel_rfl)) (PE.pk e_int) (fun _ _ => rfl))) (PE.pk e_int) (nomark _)) (p_one (p_ret e_non)) p_nil)
  (p_one (p_ret (e_tup (a_cons stays_dv (c_ (Cs.c5) hr (a_cons stays_arg (e_adat (e_ix o_ix (l_ (by kernel_rfl)) (PE.pk e_int) (fun _ _ => rfl))) (a_cons stays_arg (e_adat (e_ix o_ix (l_ (by kernel_rfl)) (PE.pk e_int) (fun _ _ => rfl))) a_nil rfl) rfl) rfl rfl rfl rfl) (a_cons stays_dv (c_ (Cs.c5) hr (a_cons stays_arg (e_adat (e_ix o_ix (l_ (by kernel_rfl)) (PE.pk e_int) (fun _ _ => rfl))) (a_cons stays_arg (e_adat (e_ix o_ix (l_ (by kernel_rfl)) (PE.pk e_int) (fun _ _ => rfl))) a_nil rfl) rfl) rfl rfl rfl rfl) a_nil rfl) rfl) (short_ (lenS_ (lenS_ len0_)) (by decide)))))))
theorem P16 (M : Ms K mg) (Cs : Css P w K mg base m cf) (hr : Room m (A.deeper (envOfC "point_at" (defScope (top 30)) s.heap.objs.size f cdv))) (z0 : ZOk H0 Z0) :
    PSs (cxOf CX0 P w K mg base N16 "point_at" (defScope (top 30)) f cdv A outer s H E).nox (defBody (top 30)) (lS K c H0 Z0 (F16 cf)) :=
  have hN : N16.Nodup := by decide +kernel
  have hu := hr.units
  have hu6 := room66 hr
  (p_cons (p_for .never rfl (i_seq lkL (e_tup (a_cons stays_dv (v_ (by kernel_rfl)) (a_cons stays_dv (v_ (by kernel_rfl)) a_nil rfl) rfl) (short_ (lenS_ (lenS_ len0_)) (by decide)))) (g_nm hN rfl (.inl rfl) (.inl rfl)) (p_one (p_if (PW.pt (t_or (t_not (t_val (c_ (Cs.c4) hr (a_cons stays_arg (e_adat (v_ (by kernel_rfl))) a_nil rfl) rfl rfl rfl rfl) (fun _ => rfl))) (t_or (t_cmp (o_gt hu) (PE.pk (e_ix o_ix (l_ (by kernel_rfl)) (PE.pk e_int) (fun _ _ => rfl))) (PE.pk (e_bin o_pow (PE.pk e_int) (PE.pk e_int))) (nomark _)) (to1_ (t_cmp (o_gt hu) (PE.pk (e_callB b_abs rfl M.b_abs bt_abs (a_cons stays_dvp (PE.pk (e_ix o_ix (l_ (by kernel_rfl)) (PE.pk e_int) (fun _ _ => rfl))) a_nil rfl) (by decide) rfl rfl rfl)) (PE.pk (e_bin o_pow (PE.pk e_int) (PE.pk e_int))) (nomark _)))))) (p_one p_never) p_nil)) (fun _ => rfl))
  (p_one (p_ret (c_ (Cs.c10) hr (a_cons stays_arg (e_adat (e_tup (a_cons stays_dv (e_bin o_mul (PE.pk (e_ix o_ix (l_ (by kernel_rfl)) (PE.pk e_int) (fun _ _ => rfl))) (PE.pk (e_ix o_ix (l_ (by kernel_rfl)) (PE.pk e_int) (fun _ _ => rfl)))) (a_cons stays_dv (e_bin o_mul (PE.pk (e_ix o_ix (l_ (by kernel_rfl)) (PE.pk e_int) (fun _ _ => rfl))) (PE.pk (e_ix o_ix (l_ (by kernel_rfl)) (PE.pk e_int) (fun _ _ => rfl)))) (a_cons stays_dv (e_bin o_mul (PE.pk (e_ix o_ix (l_ (by kernel_rfl)) (PE.pk e_int) (fun _ _ => rfl))) (PE.pk (e_ix o_ix (l_ (by kernel_rfl)) (PE.pk e_int) (fun _ _ => rfl)))) a_nil rfl) rfl) rfl) (short_ (lenS_ (lenS_ (lenS_ len0_))) (by decide)))) a_nil rfl) rfl rfl rfl rfl))))
theorem P17 (M : Ms K mg) (Cs : Css P w K mg base m cf) (hr : Room m (A.deeper (envOfC "fits" (defScope (top 35)) s.heap.objs.size f cdv))) (z0 : ZOk H0 Z0) :
    PSs (cxOf CX0 P w K mg base N17 "fits" (defScope (top 35)) f cdv A outer s H E).nox (defBody (top 35)) (lS K c H0 Z0 (F17 cf)) :=
  have hN : N17.Nodup := by decide +kernel
  have hu := hr.units
  have hu6 := room66 hr
  (p_cons (p_if (PW.pt (t_or (t_not (t_val (c_ (Cs.c2) hr (a_cons stays_arg (e_adat (v_ (by kernel_rfl))) (a_cons stays_arg (e_adat e_int) (a_cons stays_arg (e_adat e_int) a_nil rfl) rfl) rfl) rfl rfl rfl rfl) (fun _ => rfl))) (to1_ (t_not (t_val (e_callB (b_all rfl) rfl M.b_all bt_all (a_cons stays_dvp (PE.pk (e_lc (own := [("own", 1)]) (is := [1]) rfl hN (i_seq lkK (l_ (by kernel_rfl))) (blkOk_by (by kernel_rfl)) (by decide) (fun _ _ _ _ _ => (g_nm hN rfl (.inl rfl) (.inr rfl))) (fun _ _ _ _ _ => tl_nil) (fun _ _ _ _ _ => (e_and (c_ (Cs.c9) hr (a_cons stays_arg (e_adat (v_ (by kernel_rfl))) a_nil rfl) rfl rfl rfl rfl) (one_ (c_ (Cs.c3) hr (a_cons stays_arg (e_adat (v_ (by kernel_rfl))) (a_cons stays_arg (e_adat e_int) (a_cons stays_arg (e_adat (e_neg (k_ M.k_PART_circlemeets rfl rfl))) (a_cons stays_arg (e_adat (k_ M.k_PART_circlemeets rfl rfl)) a_nil rfl) rfl) rfl) rfl) rfl rfl rfl rfl)))) (fun _ => rfl))) a_nil rfl) (by decide) rfl rfl rfl) (fun _ => rfl)))))) (p_one (p_ret e_bl)) p_nil)
  (p_one (p_ret (e_and (e_cmp (o_ne hu) (PE.pk (e_ix o_ix (PE.pk (e_ix o_ix (l_ (by kernel_rfl)) (PE.pk e_int) (fun _ _ => rfl))) (PE.pk e_int) (fun _ _ => rfl))) (PE.pk e_int) (nomark _)) (e_and (e_cmp (o_ne hu) (PE.pk (e_ix o_ix (PE.pk (e_ix o_ix (l_ (by kernel_rfl)) (PE.pk e_int) (fun _ _ => rfl))) (PE.pk e_int) (fun _ _ => rfl))) (PE.pk e_int) (nomark _)) (one_ (e_cmp (o_ne hu) (PE.pk (e_ix o_ix (l_ (by kernel_rfl)) (PE.pk e_int) (fun _ _ => rfl))) (PE.pk (e_ix o_ix (l_ (by kernel_rfl)) (PE.pk e_int) (fun _ _ => rfl))) (nomark _))))))))
theorem P18 (M : Ms K mg) (Cs : Css P w K mg base m cf) (hr : Room m (A.deeper (envOfC "need_circle" (defScope (top 37)) s.heap.objs.size f cdv))) (z0 : ZOk H0 Z0) :
    PSs (cxOf CX0 P w K mg base N18 "need_circle" (defScope (top 37)) f cdv A outer s H E).nox (defBody (top 37)) (lS K c H0 Z0 (F18 cf)) :=
  have hN : N18.Nodup := by decide +kernel
  have hu := hr.units
  have hu6 := room66 hr
  (p_one (p_if (t_not (t_val (c_ (Cs.c17) hr (a_cons stays_arg (e_adat (v_ (by kernel_rfl))) a_nil rfl) rfl rfl rfl rfl) (fun _ => rfl))) (p_one p_never) p_nil))
theorem P19 (M : Ms K mg) (Cs : Css P w K mg base m cf) (hr : Room m (A.deeper (envOfC "need_line" (defScope (top 38)) s.heap.objs.size f cdv))) (z0 : ZOk H0 Z0) :
    PSs (cxOf CX0 P w K mg base N19 "need_line" (defScope (top 38)) f cdv A outer s H E).nox (defBody (top 38)) (lS K c H0 Z0 (F19 cf)) :=
  have hN : N19.Nodup := by decide +kernel
  have hu := hr.units
  have hu6 := room66 hr
  (p_one (p_if (PW.pt (t_or (t_not (t_val (c_ (Cs.c9) hr (a_cons stays_arg (e_adat (v_ (by kernel_rfl))) a_nil rfl) rfl rfl rfl rfl) (fun _ => rfl))) (t_or (t_not (t_val (c_ (Cs.c3) hr (a_cons stays_arg (e_adat (v_ (by kernel_rfl))) (a_cons stays_arg (e_adat e_int) (a_cons stays_arg (e_adat (e_neg (k_ M.k_GREAT_circlemeets rfl rfl))) (a_cons stays_arg (e_adat (k_ M.k_GREAT_circlemeets rfl rfl)) a_nil rfl) rfl) rfl) rfl) rfl rfl rfl rfl) (fun _ => rfl))) (to1_ (t_cmp (o_eq hu) (l_ (by kernel_rfl)) (PE.pk (kt_ M.k_BEYOND rfl rfl)) (nomark _)))))) (p_one p_never) p_nil))
theorem P20 (M : Ms K mg) (Cs : Css P w K mg base m cf) (hr : Room m (A.deeper (envOfC "square_in" (defScope (top 39)) s.heap.objs.size f cdv))) (z0 : ZOk H0 Z0) :
    PSs (cxOf CX0 P w K mg base N20 "square_in" (defScope (top 39)) f cdv A outer s H E).nox (defBody (top 39)) (lS K c H0 Z0 (F20 cf)) :=
  have hN : N20.Nodup := by decide +kernel
  have hu := hr.units
  have hu6 := room66 hr
  (p_cons (p_asg (v_ (by kernel_rfl)) (g_tp rfl (g_cs (g_tp rfl (g_cs (g_nm hN rfl (.inl rfl) (.inl rfl)) (g_cs (g_nm hN rfl (.inl rfl) (.inl rfl)) (g_cs (g_nm hN rfl (.inl rfl) (.inl rfl)) g_nl rfl) rfl) rfl) (gCs_len (gCs_len (gCs_len gNl_len))) rfl rfl) (g_cs (g_tp rfl (g_cs (g_nm hN rfl (.inl rfl) (.inl rfl)) (g_cs (g_nm hN rfl (.inl rfl) (.inl rfl)) (g_cs (g_nm hN rfl (.inl rfl) (.inl rfl)) g_nl rfl) rfl) rfl) (gCs_len (gCs_len (gCs_len gNl_len))) rfl rfl) g_nl rfl) rfl) (gCs_len (gCs_len gNl_len)) rfl rfl) rfl rfl rfl)
  (p_cons (p_par2 rfl hN rfl rfl (by decide) rfl rfl (w_sh (e_bin o_sub (PE.pk (e_bin o_mul (l_ (by kernel_rfl)) (l_ (by kernel_rfl)))) (PE.pk (e_bin o_mul (l_ (by kernel_rfl)) (l_ (by kernel_rfl)))))) (w_sh (e_bin o_sub (PE.pk (e_bin o_mul (l_ (by kernel_rfl)) (l_ (by kernel_rfl)))) (PE.pk (e_bin o_mul (l_ (by kernel_rfl)) (l_ (by kernel_rfl)))))) rfl rfl rfl rfl)
  (p_one (p_ret (e_tup (a_cons stays_dv (e_bin o_add (PE.pk (e_bin o_mul (l_ (by kernel_rfl)) (l_ (by kernel_rfl)))) (PE.pk (e_bin o_mul (l_ (by kernel_rfl)) (l_ (by kernel_rfl))))) (a_cons stays_dv (e_bin o_mul (PE.pk (e_bin o_mul (PE.pk (e_bin o_mul (l_ (by kernel_rfl)) (l_ (by kernel_rfl)))) (l_ (by kernel_rfl)))) (l_ (by kernel_rfl))) a_nil rfl) rfl) (short_ (lenS_ (lenS_ len0_)) (by decide)))))))
theorem P21 (M : Ms K mg) (Cs : Css P w K mg base m cf) (hr : Room m (A.deeper (envOfC "lead_in" (defScope (top 40)) s.heap.objs.size f cdv))) (z0 : ZOk H0 Z0) :
    PSs (cxOf CX0 P w K mg base N21 "lead_in" (defScope (top 40)) f cdv A outer s H E).nox (defBody (top 40)) (lS K c H0 Z0 (F21 cf)) :=
  have hN : N21.Nodup := by decide +kernel
  have hu := hr.units
  have hu6 := room66 hr
  (p_cons (p_asg (e_tup (a_cons stays_dv (v_ (by kernel_rfl)) (a_cons stays_dv (e_ix o_ix (l_ (by kernel_rfl)) (PE.pk e_int) (fun _ _ => rfl)) a_nil rfl) rfl) (short_ (lenS_ (lenS_ len0_)) (by decide))) (g_tp rfl (g_cs (g_tp rfl (g_cs (g_nm hN rfl (.inl rfl) (.inl rfl)) (g_cs (g_nm hN rfl (.inl rfl) (.inl rfl)) (g_cs (g_nm hN rfl (.inl rfl) (.inl rfl)) g_nl rfl) rfl) rfl) (gCs_len (gCs_len (gCs_len gNl_len))) rfl rfl) (g_cs (g_tp rfl (g_cs (g_nm hN rfl (.inl rfl) (.inl rfl)) (g_cs (g_nm hN rfl (.inl rfl) (.inl rfl)) (g_cs (g_nm hN rfl (.inl rfl) (.inl rfl)) g_nl rfl) rfl) rfl) (gCs_len (gCs_len (gCs_len gNl_len))) rfl rfl) g_nl rfl) rfl) (gCs_len (gCs_len gNl_len)) rfl rfl) rfl rfl rfl)
  (p_cons (p_asg (c_ (Cs.c20) hr (a_cons stays_arg (e_adat (v_ (by kernel_rfl))) a_nil rfl) rfl rfl rfl rfl) (g_tp rfl (g_cs (g_nm hN rfl (.inl rfl) (.inl rfl)) (g_cs (g_nm hN rfl (.inl rfl) (.inl rfl)) g_nl rfl) rfl) (gCs_len (gCs_len gNl_len)) rfl rfl) rfl rfl rfl)
  (p_cons (p_par2 rfl hN rfl rfl (by decide) rfl rfl (w_sh (e_bin o_add (PE.pk (e_bin o_add (PE.pk (e_bin o_mul (l_ (by kernel_rfl)) (l_ (by kernel_rfl)))) (PE.pk (e_bin o_mul (l_ (by kernel_rfl)) (l_ (by kernel_rfl)))))) (PE.pk (e_bin o_mul (l_ (by kernel_rfl)) (l_ (by kernel_rfl)))))) (w_sh (e_bin o_add (PE.pk (e_bin o_mul (l_ (by kernel_rfl)) (l_ (by kernel_rfl)))) (PE.pk (e_bin o_mul (l_ (by kernel_rfl)) (l_ (by kernel_rfl)))))) rfl rfl rfl rfl)
  (p_one (p_ret (c_ (Cs.c5) hr (a_cons stays_arg (e_adat (e_bin o_sub (PE.pk (e_bin o_mul (PE.pk (e_bin o_mul (PE.pk (e_bin o_mul (l_ (by kernel_rfl)) (l_ (by kernel_rfl)))) (l_ (by kernel_rfl)))) (l_ (by kernel_rfl)))) (PE.pk (e_bin o_mul (PE.pk (e_bin o_mul (l_ (by kernel_rfl)) (l_ (by kernel_rfl)))) (l_ (by kernel_rfl)))))) (a_cons stays_arg (e_adat (e_bin o_mul (PE.pk (e_bin o_mul (PE.pk (e_bin o_mul (l_ (by kernel_rfl)) (l_ (by kernel_rfl)))) (l_ (by kernel_rfl)))) (l_ (by kernel_rfl)))) a_nil rfl) rfl) rfl rfl rfl rfl))))))
theorem P22 (M : Ms K mg) (Cs : Css P w K mg base m cf) (hr : Room m (A.deeper (envOfC "root_of" (defScope (top 41)) s.heap.objs.size f cdv))) (z0 : ZOk H0 Z0) :
    PSs (cxOf CX0 P w K mg base N22 "root_of" (defScope (top 41)) f cdv A outer s H E).nox (defBody (top 41)) (lS K c H0 Z0 (F22 cf)) :=
  have hN : N22.Nodup := by decide +kernel
  have hu := hr.units
  have hu6 := room66 hr
  (p_cons (p_if (t_cmp (o_lt hu) (l_ (by kernel_rfl)) (PE.pk e_int) (nomark _)) (p_one (p_ret e_non)) p_nil)
  (p_cons (p_par2 rfl hN rfl rfl (by decide) rfl rfl (w_sh e_int) (w_sh (e_bin o_add (l_ (by kernel_rfl)) (PE.pk e_int))) rfl rfl rfl rfl)
  (p_cons (p_while .never (t_cmp (o_gt hu) (PE.pk (e_bin o_sub (l_ (by kernel_rfl)) (l_ (by kernel_rfl)))) (PE.pk e_int) (nomark _)) (p_cons (p_set hN rfl (.inl rfl) (w_sh (e_bin o_div (PE.pk (e_bin o_add (l_ (by kernel_rfl)) (l_ (by kernel_rfl)))) (PE.pk e_int))) rfl (.inl rfl))
  (p_one (p_asg (e_if (t_cmp (o_le hu) (PE.pk (e_bin o_mul (l_ (by kernel_rfl)) (l_ (by kernel_rfl)))) (l_ (by kernel_rfl)) (nomark _)) (e_tup (a_cons stays_dv (v_ (by kernel_rfl)) (a_cons stays_dv (v_ (by kernel_rfl)) a_nil rfl) rfl) (short_ (lenS_ (lenS_ len0_)) (by decide))) (e_tup (a_cons stays_dv (v_ (by kernel_rfl)) (a_cons stays_dv (v_ (by kernel_rfl)) a_nil rfl) rfl) (short_ (lenS_ (lenS_ len0_)) (by decide)))) (g_tp rfl (g_cs (g_nm hN rfl (.inl rfl) (.inl rfl)) (g_cs (g_nm hN rfl (.inl rfl) (.inl rfl)) g_nl rfl) rfl) (gCs_len (gCs_len gNl_len)) rfl rfl) rfl rfl rfl))))
  (p_one (p_ret (e_if (t_cmp (o_eq hu) (PE.pk (e_bin o_mul (l_ (by kernel_rfl)) (l_ (by kernel_rfl)))) (l_ (by kernel_rfl)) (nomark _)) (v_ (by kernel_rfl)) e_non))))))
theorem P23 (M : Ms K mg) (Cs : Css P w K mg base m cf) (hr : Room m (A.deeper (envOfC "meets_in" (defScope (top 42)) s.heap.objs.size f cdv))) (z0 : ZOk H0 Z0) :
    PSs (cxOf CX0 P w K mg base N23 "meets_in" (defScope (top 42)) f cdv A outer s H E).nox (defBody (top 42)) (lS K c H0 Z0 (F23 cf)) :=
  have hN : N23.Nodup := by decide +kernel
  have hu := hr.units
  have hu6 := room66 hr
  (p_cons (p_asg (e_tup (a_cons stays_dv (v_ (by kernel_rfl)) (a_cons stays_dv (e_ix o_ix (l_ (by kernel_rfl)) (PE.pk e_int) (fun _ _ => rfl)) a_nil rfl) rfl) (short_ (lenS_ (lenS_ len0_)) (by decide))) (g_tp rfl (g_cs (g_tp rfl (g_cs (g_nm hN rfl (.inl rfl) (.inl rfl)) (g_cs (g_nm hN rfl (.inl rfl) (.inl rfl)) (g_cs (g_nm hN rfl (.inl rfl) (.inl rfl)) g_nl rfl) rfl) rfl) (gCs_len (gCs_len (gCs_len gNl_len))) rfl rfl) (g_cs (g_tp rfl (g_cs (g_nm hN rfl (.inl rfl) (.inl rfl)) (g_cs (g_nm hN rfl (.inl rfl) (.inl rfl)) (g_cs (g_nm hN rfl (.inl rfl) (.inl rfl)) g_nl rfl) rfl) rfl) (gCs_len (gCs_len (gCs_len gNl_len))) rfl rfl) g_nl rfl) rfl) (gCs_len (gCs_len gNl_len)) rfl rfl) rfl rfl rfl)
  (p_cons (p_asg (c_ (Cs.c21) hr (a_cons stays_arg (e_adat (v_ (by kernel_rfl))) (a_cons stays_arg (e_adat (v_ (by kernel_rfl))) a_nil rfl) rfl) rfl rfl rfl rfl) (g_tp rfl (g_cs (g_nm hN rfl (.inl rfl) (.inl rfl)) (g_cs (g_nm hN rfl (.inl rfl) (.inl rfl)) g_nl rfl) rfl) (gCs_len (gCs_len gNl_len)) rfl rfl) rfl rfl rfl)
  (p_cons (p_set hN rfl (.inl rfl) (w_sh (e_bin o_add (PE.pk (e_bin o_mul (l_ (by kernel_rfl)) (l_ (by kernel_rfl)))) (PE.pk (e_bin o_mul (l_ (by kernel_rfl)) (l_ (by kernel_rfl)))))) rfl (.inl rfl))
  (p_cons (p_asg (c_ (Cs.c5) hr (a_cons stays_arg (e_adat (v_ (by kernel_rfl))) (a_cons stays_arg (e_adat (e_bin o_mul (l_ (by kernel_rfl)) (l_ (by kernel_rfl)))) a_nil rfl) rfl) rfl rfl rfl rfl) (g_tp rfl (g_cs (g_nm hN rfl (.inl rfl) (.inl rfl)) (g_cs (g_nm hN rfl (.inl rfl) (.inl rfl)) g_nl rfl) rfl) (gCs_len (gCs_len gNl_len)) rfl rfl) rfl rfl rfl)
  (p_cons (p_par2 rfl hN rfl rfl (by decide) rfl rfl (w_sh (c_ (Cs.c22) hr (a_cons stays_arg (e_adat (v_ (by kernel_rfl))) a_nil rfl) rfl rfl rfl rfl)) (w_sh (c_ (Cs.c22) hr (a_cons stays_arg (e_adat (v_ (by kernel_rfl))) a_nil rfl) rfl rfl rfl rfl)) rfl rfl rfl rfl)
  (p_cons (p_if (PW.pt (t_or (t_cmp o_is (l_ (by kernel_rfl)) (PE.pk e_non) (nomark _)) (to1_ (t_cmp o_is (l_ (by kernel_rfl)) (PE.pk e_non) (nomark _))))) (p_one (p_ret (e_lst a_nil (short_ len0_ (by decide))))) p_nil)
  (p_cons (p_set hN rfl (.inl rfl) (w_sh (e_bin o_add (PE.pk (e_bin o_add (PE.pk (e_bin o_mul (l_ (by kernel_rfl)) (l_ (by kernel_rfl)))) (PE.pk (e_bin o_mul (l_ (by kernel_rfl)) (l_ (by kernel_rfl)))))) (PE.pk (e_bin o_mul (l_ (by kernel_rfl)) (l_ (by kernel_rfl)))))) rfl (.inl rfl))
  (p_cons (p_set hN rfl (.inl rfl) (w_sh (e_tup (a_cons stays_dv (e_bin o_sub (PE.pk (e_bin o_mul (l_ (by kernel_rfl)) (l_ (by kernel_rfl)))) (PE.pk (e_bin o_mul (l_ (by kernel_rfl)) (l_ (by kernel_rfl))))) (a_cons stays_dv (e_bin o_sub (PE.pk (e_bin o_mul (l_ (by kernel_rfl)) (l_ (by kernel_rfl)))) (PE.pk (e_bin o_mul (l_ (by kernel_rfl)) (l_ (by kernel_rfl))))) (a_cons stays_dv (e_bin o_mul (l_ (by kernel_rfl)) (l_ (by kernel_rfl))) a_nil rfl) rfl) rfl) (short_ (lenS_ (lenS_ (lenS_ len0_))) (by decide)))) rfl (.inl rfl))
  (p_cons (p_set hN rfl (.inl rfl) w_dR0 rfl (.inl rfl))
  (p_cons (p_for .never rfl (i_seq lkL (e_tup (a_cons stays_dv e_int (a_cons stays_dv (e_neg e_int) a_nil rfl) rfl) (short_ (lenS_ (lenS_ len0_)) (by decide)))) (g_nm hN rfl (.inl rfl) (.inl rfl)) (p_cons (p_set hN rfl (.inl rfl) (w_sh (e_bin o_mul (l_ (by kernel_rfl)) (l_ (by kernel_rfl)))) rfl (.inl rfl))
  (p_cons (p_set hN rfl (.inl rfl) (w_sh (e_tup (a_cons stays_dv (e_bin o_sub (PE.pk (e_bin o_mul (PE.pk (e_ix o_ix (l_ (by kernel_rfl)) (PE.pk e_int) (fun _ _ => rfl))) (l_ (by kernel_rfl)))) (PE.pk (e_bin o_mul (PE.pk (e_bin o_mul (l_ (by kernel_rfl)) (l_ (by kernel_rfl)))) (PE.pk (e_ix o_ix (l_ (by kernel_rfl)) (PE.pk e_int) (fun _ _ => rfl)))))) (a_cons stays_dv (e_bin o_add (PE.pk (e_bin o_mul (PE.pk (e_ix o_ix (l_ (by kernel_rfl)) (PE.pk e_int) (fun _ _ => rfl))) (l_ (by kernel_rfl)))) (PE.pk (e_bin o_mul (PE.pk (e_bin o_mul (l_ (by kernel_rfl)) (l_ (by kernel_rfl)))) (PE.pk (e_ix o_ix (l_ (by kernel_rfl)) (PE.pk e_int) (fun _ _ => rfl)))))) (a_cons stays_dv (e_bin o_mul (PE.pk (e_ix o_ix (l_ (by kernel_rfl)) (PE.pk e_int) (fun _ _ => rfl))) (l_ (by kernel_rfl))) a_nil rfl) rfl) rfl) (short_ (lenS_ (lenS_ (lenS_ len0_))) (by decide)))) rfl (.inl rfl))
  (p_one (putR_ hu6 (by kernel_rfl) (c_ (Cs.c10) hr (a_cons stays_arg (e_adat (v_ (by kernel_rfl))) a_nil rfl) rfl rfl rfl rfl) e_bl (fun _ => rfl) rfl rfl rfl)))) (fun _ => rfl))
  (p_one (p_ret (sortR_ rfl hu6 rfl M.b_sorted (by kernel_rfl) rfl rfl)))))))))))))
theorem P24 (M : Ms K mg) (Cs : Css P w K mg base m cf) (hr : Room m (A.deeper (envOfC "is_circle" (defScope (top 43)) s.heap.objs.size f cdv))) (z0 : ZOk H0 Z0) :
    PSs (cxOf CX0 P w K mg base N24 "is_circle" (defScope (top 43)) f cdv A outer s H E).nox (defBody (top 43)) (lS K c H0 Z0 (F24 cf)) :=
  have hN : N24.Nodup := by decide +kernel
  have hu := hr.units
  have hu6 := room66 hr
  (p_one (p_ret (c_ (Cs.c17) hr (a_cons stays_arg (e_adat (v_ (by kernel_rfl))) a_nil rfl) rfl rfl rfl rfl)))
theorem P25 (M : Ms K mg) (Cs : Css P w K mg base m cf) (hr : Room m (A.deeper (envOfC "lead_of" (defScope (top 44)) s.heap.objs.size f cdv))) (z0 : ZOk H0 Z0) :
    PSs (cxOf CX0 P w K mg base N25 "lead_of" (defScope (top 44)) f cdv A outer s H E).nox (defBody (top 44)) (lS K c H0 Z0 (F25 cf)) :=
  have hN : N25.Nodup := by decide +kernel
  have hu := hr.units
  have hu6 := room66 hr
  (p_cons (p_drop (c_ (Cs.c19) hr (a_cons stays_arg (e_adat (v_ (by kernel_rfl))) a_nil rfl) rfl rfl rfl rfl) rfl)
  (p_cons (p_drop (c_ (Cs.c18) hr (a_cons stays_arg (e_adat (v_ (by kernel_rfl))) a_nil rfl) rfl rfl rfl rfl) rfl)
  (p_one (p_ret (c_ (Cs.c21) hr (a_cons stays_arg (e_adat (v_ (by kernel_rfl))) (a_cons stays_arg (e_adat (v_ (by kernel_rfl))) a_nil rfl) rfl) rfl rfl rfl rfl)))))
theorem P26 (M : Ms K mg) (Cs : Css P w K mg base m cf) (hr : Room m (A.deeper (envOfC "meets_of" (defScope (top 45)) s.heap.objs.size f cdv))) (z0 : ZOk H0 Z0) :
    PSs (cxOf CX0 P w K mg base N26 "meets_of" (defScope (top 45)) f cdv A outer s H E).nox (defBody (top 45)) (lS K c H0 Z0 (F26 cf)) :=
  have hN : N26.Nodup := by decide +kernel
  have hu := hr.units
  have hu6 := room66 hr
  (p_cons (p_drop (c_ (Cs.c19) hr (a_cons stays_arg (e_adat (v_ (by kernel_rfl))) a_nil rfl) rfl rfl rfl rfl) rfl)
  (p_cons (p_drop (c_ (Cs.c18) hr (a_cons stays_arg (e_adat (v_ (by kernel_rfl))) a_nil rfl) rfl rfl rfl rfl) rfl)
  (p_one (p_ret (e_callTy b_tuple rfl M.b_tuple bt_tuple (a_cons stays_dvp (PE.pk (c_ (Cs.c23) hr (a_cons stays_arg (e_adat (v_ (by kernel_rfl))) (a_cons stays_arg (e_adat (v_ (by kernel_rfl))) a_nil rfl) rfl) rfl rfl rfl rfl)) a_nil rfl) (by decide) rfl rfl rfl)))))
theorem P27 (M : Ms K mg) (Cs : Css P w K mg base m cf) (hr : Room m (A.deeper (envOfC "primes_of" (defScope (top 47)) s.heap.objs.size f cdv))) (z0 : ZOk H0 Z0) :
    PSs (cxOf CX0 P w K mg base N27 "primes_of" (defScope (top 47)) f cdv A outer s H E).nox (defBody (top 47)) (lS K c H0 Z0 (F27 cf)) :=
  have hN : N27.Nodup := by decide +kernel
  have hu := hr.units
  have hu6 := room66 hr
  (p_cons (p_par3 rfl hN rfl rfl rfl (by decide) (by decide) (by decide) rfl rfl rfl (w_sh (e_callB b_abs rfl M.b_abs bt_abs (a_cons stays_dvp (l_ (by kernel_rfl)) a_nil rfl) (by decide) rfl rfl rfl)) (w_lst a_nil (short_ len0_ (by decide))) (w_sh e_int) rfl rfl rfl rfl rfl)
  (p_cons (p_while .never (t_cmp (o_le hu) (PE.pk (e_bin o_mul (l_ (by kernel_rfl)) (l_ (by kernel_rfl)))) (l_ (by kernel_rfl)) (nomark _)) (p_cons (p_if (t_cmp (o_eq hu) (PE.pk (e_bin o_mod (l_ (by kernel_rfl)) (l_ (by kernel_rfl)))) (PE.pk e_int) (nomark _)) (p_cons (app_ (by kernel_rfl) (v_ (by kernel_rfl)) rfl rfl (by rfl) rfl rfl rfl)
  (p_one (p_while .never (t_cmp (o_eq hu) (PE.pk (e_bin o_mod (l_ (by kernel_rfl)) (l_ (by kernel_rfl)))) (PE.pk e_int) (nomark _)) (p_one (p_set hN rfl (.inl rfl) (w_sh (e_bin o_div (l_ (by kernel_rfl)) (l_ (by kernel_rfl)))) rfl (.inl rfl)))))) p_nil)
  (p_one (p_set hN rfl (.inl rfl) (w_sh (e_bin o_add (l_ (by kernel_rfl)) (PE.pk e_int))) rfl (.inl rfl)))))
  (p_one (p_ret (e_bin o_add (l_ (by kernel_rfl)) (PE.pk (e_if (t_cmp (o_gt hu) (l_ (by kernel_rfl)) (PE.pk e_int) (nomark _)) (e_lst (a_cons stays_dv (v_ (by kernel_rfl)) a_nil rfl) (short_ (lenS_ len0_) (by decide))) (e_lst a_nil (short_ len0_ (by decide))))))))))
theorem P28 (M : Ms K mg) (Cs : Css P w K mg base m cf) (hr : Room m (A.deeper (envOfC "parted" (defScope (top 48)) s.heap.objs.size f cdv))) (z0 : ZOk H0 Z0) :
    PSs (cxOf CX0 P w K mg base N28 "parted" (defScope (top 48)) f cdv A outer s H E).nox (defBody (top 48)) (lS K c H0 Z0 (F28 cf)) :=
  have hN : N28.Nodup := by decide +kernel
  have hu := hr.units
  have hu6 := room66 hr
  (p_cons (p_set hN rfl (.inl rfl) (w_sh e_int) rfl (.inl rfl))
  (p_cons (p_while .never (t_cmp (o_eq hu) (PE.pk (e_bin o_mod (l_ (by kernel_rfl)) (l_ (by kernel_rfl)))) (PE.pk e_int) (nomark _)) (p_one (p_par2 rfl hN rfl rfl (by decide) rfl rfl (w_sh (e_bin o_div (l_ (by kernel_rfl)) (l_ (by kernel_rfl)))) (w_sh (e_bin o_add (l_ (by kernel_rfl)) (PE.pk e_int))) rfl rfl rfl rfl)))
  (p_one (p_ret (e_tup (a_cons stays_dv (v_ (by kernel_rfl)) (a_cons stays_dv (v_ (by kernel_rfl)) a_nil rfl) rfl) (short_ (lenS_ (lenS_ len0_)) (by decide)))))))
theorem P29 (M : Ms K mg) (Cs : Css P w K mg base m cf) (hr : Room m (A.deeper (envOfC "powered" (defScope (top 49)) s.heap.objs.size f cdv))) (z0 : ZOk H0 Z0) :
    PSs (cxOf CX0 P w K mg base N29 "powered" (defScope (top 49)) f cdv A outer s H E).nox (defBody (top 49)) (lS K c H0 Z0 (F29 cf)) :=
  have hN : N29.Nodup := by decide +kernel
  have hu := hr.units
  have hu6 := room66 hr
  (p_cons (p_par2 rfl hN rfl rfl (by decide) rfl rfl (w_sh e_int) (w_sh (e_bin o_mod (l_ (by kernel_rfl)) (l_ (by kernel_rfl)))) rfl rfl rfl rfl)
  (p_cons (p_while .never (t_cmp (o_gt hu) (l_ (by kernel_rfl)) (PE.pk e_int) (nomark _)) (p_cons (p_if (t_cmp (o_eq hu) (PE.pk (e_bin o_mod (l_ (by kernel_rfl)) (PE.pk e_int))) (PE.pk e_int) (nomark _)) (p_one (p_set hN rfl (.inl rfl) (w_sh (e_bin o_mod (PE.pk (e_bin o_mul (l_ (by kernel_rfl)) (l_ (by kernel_rfl)))) (l_ (by kernel_rfl)))) rfl (.inl rfl))) p_nil)
  (p_one (p_par2 rfl hN rfl rfl (by decide) rfl rfl (w_sh (e_bin o_mod (PE.pk (e_bin o_mul (l_ (by kernel_rfl)) (l_ (by kernel_rfl)))) (l_ (by kernel_rfl)))) (w_sh (e_bin o_div (l_ (by kernel_rfl)) (PE.pk e_int))) rfl rfl rfl rfl))))
  (p_one (p_ret (v_ (by kernel_rfl))))))
theorem P30 (M : Ms K mg) (Cs : Css P w K mg base m cf) (hr : Room m (A.deeper (envOfC "is_rest" (defScope (top 50)) s.heap.objs.size f cdv))) (z0 : ZOk H0 Z0) :
    PSs (cxOf CX0 P w K mg base N30 "is_rest" (defScope (top 50)) f cdv A outer s H E).nox (defBody (top 50)) (lS K c H0 Z0 (F30 cf)) :=
  have hN : N30.Nodup := by decide +kernel
  have hu := hr.units
  have hu6 := room66 hr
  (p_one (p_ret (e_or (e_cmp (o_eq hu) (l_ (by kernel_rfl)) (PE.pk e_int) (nomark _)) (e_or (e_cmp (o_eq hu) (PE.pk (e_bin o_mod (l_ (by kernel_rfl)) (l_ (by kernel_rfl)))) (PE.pk e_int) (nomark _)) (one_ (e_cmp (o_eq hu) (PE.pk (c_ (Cs.c29) hr (a_cons stays_arg (e_adat (v_ (by kernel_rfl))) (a_cons stays_arg (e_adat (e_bin o_div (PE.pk (e_bin o_sub (l_ (by kernel_rfl)) (PE.pk e_int))) (PE.pk e_int))) (a_cons stays_arg (e_adat (v_ (by kernel_rfl))) a_nil rfl) rfl) rfl) rfl rfl rfl rfl)) (PE.pk e_int) (nomark _)))))))
theorem P31 (M : Ms K mg) (Cs : Css P w K mg base m cf) (hr : Room m (A.deeper (envOfC "is_barred" (defScope (top 51)) s.heap.objs.size f cdv))) (z0 : ZOk H0 Z0) :
    PSs (cxOf CX0 P w K mg base N31 "is_barred" (defScope (top 51)) f cdv A outer s H E).nox (defBody (top 51)) (lS K c H0 Z0 (F31 cf)) :=
  have hN : N31.Nodup := by decide +kernel
  have hu := hr.units
  have hu6 := room66 hr
  (p_cons (p_if (t_cmp (o_eq hu) (l_ (by kernel_rfl)) (PE.pk (e_neg e_int)) (nomark _)) (p_one (p_ret (e_and (e_cmp (o_lt hu) (l_ (by kernel_rfl)) (PE.pk e_int) (nomark _)) (one_ (e_cmp (o_lt hu) (l_ (by kernel_rfl)) (PE.pk e_int) (nomark _)))))) p_nil)
  (p_cons (p_asg (c_ (Cs.c28) hr (a_cons stays_arg (e_adat (v_ (by kernel_rfl))) (a_cons stays_arg (e_adat (v_ (by kernel_rfl))) a_nil rfl) rfl) rfl rfl rfl rfl) (g_tp rfl (g_cs (g_nm hN rfl (.inl rfl) (.inl rfl)) (g_cs (g_nm hN rfl (.inl rfl) (.inl rfl)) g_nl rfl) rfl) (gCs_len (gCs_len gNl_len)) rfl rfl) rfl rfl rfl)
  (p_cons (p_asg (c_ (Cs.c28) hr (a_cons stays_arg (e_adat (v_ (by kernel_rfl))) (a_cons stays_arg (e_adat (v_ (by kernel_rfl))) a_nil rfl) rfl) rfl rfl rfl rfl) (g_tp rfl (g_cs (g_nm hN rfl (.inl rfl) (.inl rfl)) (g_cs (g_nm hN rfl (.inl rfl) (.inl rfl)) g_nl rfl) rfl) (gCs_len (gCs_len gNl_len)) rfl rfl) rfl rfl rfl)
  (p_cons (p_if (t_cmp (o_eq hu) (l_ (by kernel_rfl)) (PE.pk e_int) (nomark _)) (p_one (p_ret (e_cmp (o_eq hu) (PE.pk (e_bin o_mod (PE.pk (e_bin o_add (PE.pk (e_bin o_add (PE.pk (e_bin o_mul (PE.pk (e_bin o_div (PE.pk (e_bin o_sub (l_ (by kernel_rfl)) (PE.pk e_int))) (PE.pk e_int))) (PE.pk (e_bin o_div (PE.pk (e_bin o_sub (l_ (by kernel_rfl)) (PE.pk e_int))) (PE.pk e_int))))) (PE.pk (e_bin o_mul (l_ (by kernel_rfl)) (PE.pk (e_bin o_div (PE.pk (e_bin o_sub (PE.pk (e_bin o_mul (l_ (by kernel_rfl)) (l_ (by kernel_rfl)))) (PE.pk e_int))) (PE.pk e_int))))))) (PE.pk (e_bin o_mul (l_ (by kernel_rfl)) (PE.pk (e_bin o_div (PE.pk (e_bin o_sub (PE.pk (e_bin o_mul (l_ (by kernel_rfl)) (l_ (by kernel_rfl)))) (PE.pk e_int))) (PE.pk e_int))))))) (PE.pk e_int))) (PE.pk e_int) (nomark _)))) p_nil)
  (p_cons (p_set hN rfl (.inl rfl) (w_sh (e_if (t_cmp (o_eq hu) (PE.pk (e_bin o_mod (PE.pk (e_bin o_mul (l_ (by kernel_rfl)) (l_ (by kernel_rfl)))) (PE.pk e_int))) (PE.pk e_int) (nomark _)) (e_neg e_int) e_int)) rfl (.inl rfl))
  (p_cons (p_set hN rfl (.inl rfl) (w_sh (e_bin o_mul (PE.pk (e_bin o_mul (l_ (by kernel_rfl)) (PE.pk (e_if (t_cmp (o_eq hu) (PE.pk (e_bin o_mod (l_ (by kernel_rfl)) (PE.pk e_int))) (PE.pk e_int) (nomark _)) (v_ (by kernel_rfl)) e_int)))) (PE.pk (e_if (t_cmp (o_eq hu) (PE.pk (e_bin o_mod (l_ (by kernel_rfl)) (PE.pk e_int))) (PE.pk e_int) (nomark _)) (v_ (by kernel_rfl)) e_int)))) rfl (.inl rfl))
  (p_one (p_ret (e_not (c_ (Cs.c30) hr (a_cons stays_arg (e_adat (v_ (by kernel_rfl))) (a_cons stays_arg (e_adat (v_ (by kernel_rfl))) a_nil rfl) rfl) rfl rfl rfl rfl))))))))))
theorem P32 (M : Ms K mg) (Cs : Css P w K mg base m cf) (hr : Room m (A.deeper (envOfC "bars_between" (defScope (top 52)) s.heap.objs.size f cdv))) (z0 : ZOk H0 Z0) :
    PSs (cxOf CX0 P w K mg base N32 "bars_between" (defScope (top 52)) f cdv A outer s H E).nox (defBody (top 52)) (lS K c H0 Z0 (F32 cf)) :=
  have hN : N32.Nodup := by decide +kernel
  have hu := hr.units
  have hu6 := room66 hr
  (p_cons (p_set hN rfl (.inl rfl) (w_dcI rfl rfl M.b_dict (a_cons stays_dvp (PE.pk (e_lc (own := [("prime", 3)]) (is := [3]) rfl hN (i_seq lkK (PE.pk (e_bin o_add (PE.pk (e_bin o_add (PE.pk (e_lst (a_cons stays_dv e_int a_nil rfl) (short_ (lenS_ len0_) (by decide)))) (PE.pk (c_ (Cs.c27) hr (a_cons stays_arg (e_adat (v_ (by kernel_rfl))) a_nil rfl) rfl rfl rfl rfl)))) (PE.pk (c_ (Cs.c27) hr (a_cons stays_arg (e_adat (v_ (by kernel_rfl))) a_nil rfl) rfl rfl rfl rfl))))) (blkOk_by (by kernel_rfl)) (by decide) (fun _ _ _ _ _ => (g_nm hN rfl (.inl rfl) (.inr rfl))) (fun _ _ _ _ _ => tl_nil) (fun _ _ _ _ _ => (e_tup (a_cons stays_dv (v_ (by kernel_rfl)) (a_cons stays_dv e_bl a_nil rfl) rfl) (short_ (lenS_ (lenS_ len0_)) (by decide)))) (fun _ => rfl))) a_nil rfl) rfl rfl) rfl (.inl rfl))
  (p_one (p_ret (e_lc (own := [("place", 4)]) (is := [4]) rfl hN (i_seq lkK (PE.pk (e_bin o_add (PE.pk (e_lst (a_cons stays_dv (e_neg e_int) a_nil rfl) (short_ (lenS_ len0_) (by decide)))) (PE.pk (sortI_ rfl rfl M.b_sorted (by kernel_rfl) rfl rfl))))) (blkOk_by (by kernel_rfl)) (by decide) (fun _ _ _ _ _ => (g_nm hN rfl (.inl rfl) (.inr rfl))) (fun _ _ _ _ _ => (tl_one (t_val (c_ (Cs.c31) hr (a_cons stays_arg (e_adat (v_ (by kernel_rfl))) (a_cons stays_arg (e_adat (v_ (by kernel_rfl))) (a_cons stays_arg (e_adat (v_ (by kernel_rfl))) a_nil rfl) rfl) rfl) rfl rfl rfl rfl) (fun _ => rfl)))) (fun _ _ _ _ _ => (v_ (by kernel_rfl))) (fun _ => rfl)))))
theorem P33 (M : Ms K mg) (Cs : Css P w K mg base m cf) (hr : Room m (A.deeper (envOfC "bars_in" (defScope (top 53)) s.heap.objs.size f cdv))) (z0 : ZOk H0 Z0) :
    PSs (cxOf CX0 P w K mg base N33 "bars_in" (defScope (top 53)) f cdv A outer s H E).nox (defBody (top 53)) (lS K c H0 Z0 (F33 cf)) :=
  have hN : N33.Nodup := by decide +kernel
  have hu := hr.units
  have hu6 := room66 hr
  (p_cons (p_asg (v_ (by kernel_rfl)) (g_tp rfl (g_cs (g_nm hN rfl (.inl rfl) (.inl rfl)) (g_cs (g_nm hN rfl (.inl rfl) (.inl rfl)) (g_cs (g_nm hN rfl (.inl rfl) (.inl rfl)) g_nl rfl) rfl) rfl) (gCs_len (gCs_len (gCs_len gNl_len))) rfl rfl) rfl rfl rfl)
  (p_one (p_ret (c_ (Cs.c32) hr (a_cons stays_arg (e_adat (e_bin o_mul (PE.pk (e_neg (v_ (by kernel_rfl)))) (l_ (by kernel_rfl)))) (a_cons stays_arg (e_adat (e_bin o_mul (PE.pk (e_neg (v_ (by kernel_rfl)))) (l_ (by kernel_rfl)))) a_nil rfl) rfl) rfl rfl rfl rfl))))
theorem P34 (M : Ms K mg) (Cs : Css P w K mg base m cf) (hr : Room m (A.deeper (envOfC "lean_and_shared" (defScope (top 55)) s.heap.objs.size f cdv))) (z0 : ZOk H0 Z0) :
    PSs (cxOf CX0 P w K mg base N34 "lean_and_shared" (defScope (top 55)) f cdv A outer s H E).nox (defBody (top 55)) (lS K c H0 Z0 (F34 cf)) :=
  have hN : N34.Nodup := by decide +kernel
  have hu := hr.units
  have hu6 := room66 hr
  (p_cons (p_par2 rfl hN rfl rfl (by decide) rfl rfl (w_lc (own := [("number", 3)]) (is := [3]) rfl hN (i_seq lkK (l_ (by kernel_rfl))) (blkOk_by (by kernel_rfl)) (by decide) (fun _ _ _ _ _ => (g_nm hN rfl (.inl rfl) (.inr rfl))) (fun _ _ _ _ _ => tl_nil) (fun _ _ _ _ _ => (e_if (t_cmp (o_gt hu) (l_ (by kernel_rfl)) (PE.pk e_int) (nomark _)) e_int (e_neg e_int))) (fun _ => rfl)) (w_sh e_int) rfl rfl rfl rfl)
  (p_cons (p_set hN rfl (.inl rfl) (w_dcI rfl rfl M.b_dict (a_cons stays_dvp (PE.pk (e_lc2 (own := [("number", 3), ("prime", 5)]) (vs1 := [5]) (is := [3]) (is1 := [5]) (by decide) rfl hN (i_seq lkK (l_ (by kernel_rfl))) (blkOk_by (by kernel_rfl)) (by decide) (by decide) (fun _ _ _ _ _ => (g_nm hN rfl (.inl rfl) (.inr rfl))) (fun _ _ _ _ _ => tl_nil) (fun _ _ _ _ _ => (i_seq lkL (c_ (Cs.c27) hr (a_cons stays_arg (e_adat (v_ (by kernel_rfl))) a_nil rfl) rfl rfl rfl rfl))) (fun _ _ _ _ _ => (g_nm hN rfl (.inl rfl) (.inr rfl))) (fun _ _ _ _ _ => tl_nil) (fun _ _ _ _ _ => (e_tup (a_cons stays_dv (v_ (by kernel_rfl)) (a_cons stays_dv e_bl a_nil rfl) rfl) (short_ (lenS_ (lenS_ len0_)) (by decide)))) (fun _ => rfl) (fun _ _ => rfl))) a_nil rfl) rfl rfl) rfl (.inl rfl))
  (p_cons (p_for .never rfl (i_seq lkL (sortI_ rfl rfl M.b_sorted (by kernel_rfl) rfl rfl)) (g_nm hN rfl (.inr rfl) (.inl rfl)) (p_cons (p_setLc (own := [("number", 3)]) (is := [3]) rfl hN rfl rfl (sw_true rfl rfl rfl (by kernel_rfl)) (i_seq lkK (l_ (by kernel_rfl))) (blkOk_by (by kernel_rfl)) (by decide) (fun _ _ _ _ _ => (g_nm hN rfl (.inl rfl) (.inr rfl))) (fun _ _ _ _ _ => tl_nil) (fun _ _ _ _ _ => (e_bin o_mod (PE.pk (e_ix o_ix (PE.pk (c_ (Cs.c28) hr (a_cons stays_arg (e_adat (v_ (by kernel_rfl))) (a_cons stays_arg (e_adat (v_ (by kernel_rfl))) a_nil rfl) rfl) rfl rfl rfl rfl)) (PE.pk e_int) (fun _ _ => rfl))) (PE.pk e_int))) (fun _ => rfl))
  (p_cons (p_if (t_cmp (o_eq hu) (PE.pk (e_callB (b_sum rfl) rfl M.b_sum bt_sum (a_cons stays_dvp (l_ (by kernel_rfl)) a_nil rfl) (by decide) rfl rfl rfl)) (PE.pk e_int) (nomark _)) (p_one (sto_ (by kernel_rfl) (e_index hu6 (l_ (by kernel_rfl)) (PE.pk e_int) rfl rfl (by rfl) rfl rfl) (e_bin o_mul (PE.pk (e_ix o_ix (l_ (by kernel_rfl)) (PE.pk (e_index hu6 (l_ (by kernel_rfl)) (PE.pk e_int) rfl rfl (by rfl) rfl rfl)) (fun _ _ => rfl))) (l_ (by kernel_rfl))) (fun _ => rfl) rfl rfl rfl)) (p_one (p_if (t_cmp (o_eq hu) (PE.pk (e_callB (b_sum rfl) rfl M.b_sum bt_sum (a_cons stays_dvp (l_ (by kernel_rfl)) a_nil rfl) (by decide) rfl rfl rfl)) (PE.pk e_int) (nomark _)) (p_one (sto_ (by kernel_rfl) (e_index hu6 (l_ (by kernel_rfl)) (PE.pk e_int) rfl rfl (by rfl) rfl rfl) (e_bin o_mul (PE.pk (e_ix o_ix (l_ (by kernel_rfl)) (PE.pk (e_index hu6 (l_ (by kernel_rfl)) (PE.pk e_int) rfl rfl (by rfl) rfl rfl)) (fun _ _ => rfl))) (l_ (by kernel_rfl))) (fun _ => rfl) rfl rfl rfl)) p_nil)))
  (p_one (p_set hN rfl (.inl rfl) (w_sh (e_if (t_cmp (o_gt hu) (PE.pk (e_callB (b_sum rfl) rfl M.b_sum bt_sum (a_cons stays_dvp (l_ (by kernel_rfl)) a_nil rfl) (by decide) rfl rfl rfl)) (PE.pk e_int) (nomark _)) (e_bin o_mul (l_ (by kernel_rfl)) (l_ (by kernel_rfl))) (v_ (by kernel_rfl)))) rfl (.inl rfl))))) (fun _ => rfl))
  (p_one (p_ret (e_tup (a_cons stays_dv (e_callTy b_tuple rfl M.b_tuple bt_tuple (a_cons stays_dvp (l_ (by kernel_rfl)) a_nil rfl) (by decide) rfl rfl rfl) (a_cons stays_dv (v_ (by kernel_rfl)) a_nil rfl) rfl) (short_ (lenS_ (lenS_ len0_)) (by decide))))))))
theorem P35 (M : Ms K mg) (Cs : Css P w K mg base m cf) (hr : Room m (A.deeper (envOfC "roots_of" (defScope (top 56)) s.heap.objs.size f cdv))) (z0 : ZOk H0 Z0) :
    PSs (cxOf CX0 P w K mg base N35 "roots_of" (defScope (top 56)) f cdv A outer s H E).nox (defBody (top 56)) (lS K c H0 Z0 (F35 cf)) :=
  have hN : N35.Nodup := by decide +kernel
  have hu := hr.units
  have hu6 := room66 hr
  (p_cons (p_asg (c_ (Cs.c34) hr (a_cons stays_arg (e_adat (v_ (by kernel_rfl))) a_nil rfl) rfl rfl rfl rfl) (g_tp rfl (g_cs (g_nm hN rfl (.inl rfl) (.inl rfl)) (g_cs (g_nm hN rfl (.inl rfl) (.inl rfl)) g_nl rfl) rfl) (gCs_len (gCs_len gNl_len)) rfl rfl) rfl rfl rfl)
  (p_cons (p_set hN rfl (.inl rfl) (w_lst a_nil (short_ len0_ (by decide))) rfl (.inl rfl))
  (p_cons (p_for .never rfl (i_zip2 lkL rfl M.b_zip (a_cons stays_dv (v_ (by kernel_rfl)) (a_cons stays_dv (v_ (by kernel_rfl)) a_nil rfl) rfl) (lenS_ (lenS_ len0_)) rfl rfl) (g_tp rfl (g_cs (g_nm hN rfl (.inl rfl) (.inl rfl)) (g_cs (g_nm hN rfl (.inl rfl) (.inl rfl)) g_nl rfl) rfl) (gCs_len (gCs_len gNl_len)) rfl rfl) (p_cons (p_par2 rfl hN rfl rfl (by decide) rfl rfl (w_sh (e_callB b_abs rfl M.b_abs bt_abs (a_cons stays_dvp (l_ (by kernel_rfl)) a_nil rfl) (by decide) rfl rfl rfl)) (w_sh (e_bin o_mul (l_ (by kernel_rfl)) (PE.pk (e_callB b_abs rfl M.b_abs bt_abs (a_cons stays_dvp (l_ (by kernel_rfl)) a_nil rfl) (by decide) rfl rfl rfl)))) rfl rfl rfl rfl)
  (p_cons (p_set hN rfl (.inl rfl) (w_sh (e_callBf b_gcd rfl M.b_gcd (a_cons stays_dvp (l_ (by kernel_rfl)) (a_cons stays_dvp (l_ (by kernel_rfl)) a_nil rfl) rfl) rfl rfl rfl)) rfl (.inl rfl))
  (p_one (app_ (by kernel_rfl) (e_tup (a_cons stays_dv (e_callBf b_isqrt rfl M.b_isqrt (a_cons stays_dvp (PE.pk (e_bin o_div (l_ (by kernel_rfl)) (l_ (by kernel_rfl)))) a_nil rfl) rfl rfl rfl) (a_cons stays_dv (e_callBf b_isqrt rfl M.b_isqrt (a_cons stays_dvp (PE.pk (e_bin o_div (l_ (by kernel_rfl)) (l_ (by kernel_rfl)))) a_nil rfl) rfl rfl rfl) a_nil rfl) rfl) (short_ (lenS_ (lenS_ len0_)) (by decide))) rfl rfl (by rfl) rfl rfl rfl)))) (fun _ => rfl))
  (p_one (p_sh z0 (p_ret (v_ (by kernel_rfl))))))))
theorem P36 (M : Ms K mg) (Cs : Css P w K mg base m cf) (hr : Room m (A.deeper (envOfC "moved" (defScope (top 57)) s.heap.objs.size f cdv))) (z0 : ZOk H0 Z0) :
    PSs (cxOf CX0 P w K mg base N36 "moved" (defScope (top 57)) f cdv A outer s H E).nox (defBody (top 57)) (lS K c H0 Z0 (F36 cf)) :=
  have hN : N36.Nodup := by decide +kernel
  have hu := hr.units
  have hu6 := room66 hr
  (p_cons (p_set hN rfl (.inr rfl) (w_sh e_int) rfl (.inl rfl))
  (p_cons (p_for .never rfl (i_seq lkL (v_ (by kernel_rfl))) (g_tp rfl (g_cs (g_nm hN rfl (.inl rfl) (.inl rfl)) (g_cs (g_nm hN rfl (.inl rfl) (.inl rfl)) g_nl rfl) rfl) (gCs_len (gCs_len gNl_len)) rfl rfl) (p_one (p_set hN rfl (.inr rfl) (w_sh (e_bin o_mul (l_ (by kernel_rfl)) (l_ (by kernel_rfl)))) rfl (.inl rfl))) (fun _ => rfl))
  (p_one (p_ret (c_ (Cs.c10) hr (a_cons stays_arg (e_adat (e_callTy b_tuple rfl M.b_tuple bt_tuple (a_cons stays_dvp (PE.pk (e_lc (own := [("part", 5), ("top", 3), ("bottom", 4)]) (is := [5, 3, 4]) rfl hN (i_zip2 lkK rfl M.b_zip (a_cons stays_dvp (l_ (by kernel_rfl)) (a_cons stays_dvp (l_ (by kernel_rfl)) a_nil rfl) rfl) (lenS_ (lenS_ len0_)) rfl rfl) (blkOk_by (by kernel_rfl)) (by decide) (fun _ _ _ _ _ => (g_tp rfl (g_cs (g_nm hN rfl (.inl rfl) (.inr rfl)) (g_cs (g_tp rfl (g_cs (g_nm hN rfl (.inl rfl) (.inr rfl)) (g_cs (g_nm hN rfl (.inl rfl) (.inr rfl)) g_nl rfl) rfl) (gCs_len (gCs_len gNl_len)) rfl rfl) g_nl rfl) rfl) (gCs_len (gCs_len gNl_len)) rfl rfl)) (fun _ _ _ _ _ => tl_nil) (fun _ _ _ _ _ => (e_bin o_mul (PE.pk (e_bin o_mul (l_ (by kernel_rfl)) (l_ (by kernel_rfl)))) (PE.pk (e_bin o_div (l_ (by kernel_rfl)) (l_ (by kernel_rfl)))))) (fun _ => rfl))) a_nil rfl) (by decide) rfl rfl rfl)) a_nil rfl) rfl rfl rfl rfl)))))
theorem P37 (M : Ms K mg) (Cs : Css P w K mg base m cf) (hr : Room m (A.deeper (envOfC "back" (defScope (top 58)) s.heap.objs.size f cdv))) (z0 : ZOk H0 Z0) :
    PSs (cxOf CX0 P w K mg base N37 "back" (defScope (top 58)) f cdv A outer s H E).nox (defBody (top 58)) (lS K c H0 Z0 (F37 cf)) :=
  have hN : N37.Nodup := by decide +kernel
  have hu := hr.units
  have hu6 := room66 hr
  (p_one (p_ret (c_ (Cs.c36) hr (a_cons stays_arg (e_adat (v_ (by kernel_rfl))) (a_cons stays_arg (e_adat (e_lc (own := [("top", 2), ("bottom", 3)]) (is := [2, 3]) rfl hN (i_seq lkK (PE.pk (c_ (Cs.c35) hr (a_cons stays_arg (e_adat (v_ (by kernel_rfl))) a_nil rfl) rfl rfl rfl rfl))) (blkOk_by (by kernel_rfl)) (by decide) (fun _ _ _ _ _ => (g_tp rfl (g_cs (g_nm hN rfl (.inl rfl) (.inr rfl)) (g_cs (g_nm hN rfl (.inl rfl) (.inr rfl)) g_nl rfl) rfl) (gCs_len (gCs_len gNl_len)) rfl rfl)) (fun _ _ _ _ _ => tl_nil) (fun _ _ _ _ _ => (e_tup (a_cons stays_dv (v_ (by kernel_rfl)) (a_cons stays_dv (v_ (by kernel_rfl)) a_nil rfl) rfl) (short_ (lenS_ (lenS_ len0_)) (by decide)))) (fun _ => rfl))) a_nil rfl) rfl) rfl rfl rfl rfl)))
theorem P38 (M : Ms K mg) (Cs : Css P w K mg base m cf) (hr : Room m (A.deeper (envOfC "value_of" (defScope (top 59)) s.heap.objs.size f cdv))) (z0 : ZOk H0 Z0) :
    PSs (cxOf CX0 P w K mg base N38 "value_of" (defScope (top 59)) f cdv A outer s H E).nox (defBody (top 59)) (lS K c H0 Z0 (F38 cf)) :=
  have hN : N38.Nodup := by decide +kernel
  have hu := hr.units
  have hu6 := room66 hr
  (p_one (p_ret (e_callB (b_sum rfl) rfl M.b_sum bt_sum (a_cons stays_dvp (PE.pk (e_lc (own := [("number", 2), ("part", 3)]) (is := [2, 3]) rfl hN (i_zip2 lkK rfl M.b_zip (a_cons stays_dvp (l_ (by kernel_rfl)) (a_cons stays_dvp (l_ (by kernel_rfl)) a_nil rfl) rfl) (lenS_ (lenS_ len0_)) rfl rfl) (blkOk_by (by kernel_rfl)) (by decide) (fun _ _ _ _ _ => (g_tp rfl (g_cs (g_nm hN rfl (.inl rfl) (.inr rfl)) (g_cs (g_nm hN rfl (.inl rfl) (.inr rfl)) g_nl rfl) rfl) (gCs_len (gCs_len gNl_len)) rfl rfl)) (fun _ _ _ _ _ => tl_nil) (fun _ _ _ _ _ => (e_bin o_mul (PE.pk (e_bin o_mul (l_ (by kernel_rfl)) (l_ (by kernel_rfl)))) (l_ (by kernel_rfl)))) (fun _ => rfl))) a_nil rfl) (by decide) rfl rfl rfl)))
theorem P39 (M : Ms K mg) (Cs : Css P w K mg base m cf) (hr : Room m (A.deeper (envOfC "reaches" (defScope (top 61)) s.heap.objs.size f cdv))) (z0 : ZOk H0 Z0) :
    PSs (cxOf CX0 P w K mg base N39 "reaches" (defScope (top 61)) f cdv A outer s H E).nox (defBody (top 61)) (lS K c H0 Z0 (F39 cf)) :=
  have hN : N39.Nodup := by decide +kernel
  have hu := hr.units
  have hu6 := room66 hr
  (p_cons (p_asg (e_lc (own := [("part", 4)]) (is := [4]) rfl hN (i_seq lkK (l_ (by kernel_rfl))) (blkOk_by (by kernel_rfl)) (by decide) (fun _ _ _ _ _ => (g_nm hN rfl (.inl rfl) (.inr rfl))) (fun _ _ _ _ _ => tl_nil) (fun _ _ _ _ _ => (e_callB b_abs rfl M.b_abs bt_abs (a_cons stays_dvp (l_ (by kernel_rfl)) a_nil rfl) (by decide) rfl rfl rfl)) (fun _ => rfl)) (g_tp rfl (g_cs (g_nm hN rfl (.inl rfl) (.inl rfl)) (g_cs (g_nm hN rfl (.inl rfl) (.inl rfl)) (g_cs (g_nm hN rfl (.inl rfl) (.inl rfl)) g_nl rfl) rfl) rfl) (gCs_len (gCs_len (gCs_len gNl_len))) rfl rfl) rfl rfl rfl)
  (p_one (p_ret (e_lst (a_cons stays_dv (e_callBf b_isqrt rfl M.b_isqrt (a_cons stays_dvp (PE.pk (e_bin o_mul (l_ (by kernel_rfl)) (l_ (by kernel_rfl)))) a_nil rfl) rfl rfl rfl) (a_cons stays_dv (e_callBf b_isqrt rfl M.b_isqrt (a_cons stays_dvp (PE.pk (e_bin o_mul (l_ (by kernel_rfl)) (l_ (by kernel_rfl)))) a_nil rfl) rfl rfl rfl) (a_cons stays_dv (e_callBf b_isqrt rfl M.b_isqrt (a_cons stays_dvp (PE.pk (e_bin o_mul (l_ (by kernel_rfl)) (l_ (by kernel_rfl)))) a_nil rfl) rfl rfl rfl) a_nil rfl) rfl) rfl) (short_ (lenS_ (lenS_ (lenS_ len0_))) (by decide))))))
theorem P40 (M : Ms K mg) (Cs : Css P w K mg base m cf) (hr : Room m (A.deeper (envOfC "rooted" (defScope (top 62)) s.heap.objs.size f cdv))) (z0 : ZOk H0 Z0) :
    PSs (cxOf CX0 P w K mg base N40 "rooted" (defScope (top 62)) f cdv A outer s H E).nox (defBody (top 62)) (lS K c H0 Z0 (F40 cf)) :=
  have hN : N40.Nodup := by decide +kernel
  have hu := hr.units
  have hu6 := room66 hr
  (p_cons (p_setLc (own := [("at", 5)]) (is := [5]) rfl hN rfl rfl (sw_true rfl rfl rfl (by kernel_rfl)) (i_rng1 rfl M.b_range (a_cons stays_dvp (PE.pk e_int) a_nil rfl) (lenS_ len0_) rfl) (blkOk_by (by kernel_rfl)) (by decide) (fun _ _ _ _ _ => (g_nm hN rfl (.inl rfl) (.inr rfl))) (fun _ _ _ _ _ => (tl_one (t_cmp (o_ne hu) (l_ (by kernel_rfl)) (l_ (by kernel_rfl)) (nomark _)))) (fun _ _ _ _ _ => (v_ (by kernel_rfl))) (fun _ => rfl))
  (p_cons (p_set hN rfl (.inl rfl) (w_sh (e_bin o_add (PE.pk (e_bin o_mul (PE.pk (e_bin o_mul (PE.pk (e_ix o_ix (l_ (by kernel_rfl)) (PE.pk (e_ix o_ix (l_ (by kernel_rfl)) (PE.pk e_int) (fun _ _ => rfl))) (fun _ _ => rfl))) (l_ (by kernel_rfl)))) (l_ (by kernel_rfl)))) (PE.pk (e_bin o_mul (PE.pk (e_bin o_mul (PE.pk (e_ix o_ix (l_ (by kernel_rfl)) (PE.pk (e_ix o_ix (l_ (by kernel_rfl)) (PE.pk e_int) (fun _ _ => rfl))) (fun _ _ => rfl))) (l_ (by kernel_rfl)))) (l_ (by kernel_rfl)))))) rfl (.inl rfl))
  (p_cons (p_if (PW.pt (t_or (t_cmp (o_gt hu) (PE.pk (e_bin o_mul (l_ (by kernel_rfl)) (PE.pk (e_ix o_ix (l_ (by kernel_rfl)) (l_ (by kernel_rfl)) (fun _ _ => rfl))))) (PE.pk e_int) (nomark _)) (to1_ (t_cmp (o_ne hu) (PE.pk (e_bin o_mod (l_ (by kernel_rfl)) (PE.pk (e_ix o_ix (l_ (by kernel_rfl)) (l_ (by kernel_rfl)) (fun _ _ => rfl))))) (PE.pk e_int) (nomark _))))) (p_one (p_ret e_non)) p_nil)
  (p_cons (p_set hN rfl (.inl rfl) (w_sh (e_bin o_div (PE.pk (e_neg (v_ (by kernel_rfl)))) (PE.pk (e_ix o_ix (l_ (by kernel_rfl)) (l_ (by kernel_rfl)) (fun _ _ => rfl))))) rfl (.inl rfl))
  (p_cons (p_set hN rfl (.inl rfl) (w_sh (e_callBf b_isqrt rfl M.b_isqrt (a_cons stays_dvp (l_ (by kernel_rfl)) a_nil rfl) rfl rfl rfl)) rfl (.inl rfl))
  (p_cons (p_if (t_cmp (o_ne hu) (PE.pk (e_bin o_mul (l_ (by kernel_rfl)) (l_ (by kernel_rfl)))) (l_ (by kernel_rfl)) (nomark _)) (p_one (p_ret e_non)) p_nil)
  (p_cons (p_set hN rfl (.inl rfl) (w_lst (a_cons stays_dv e_int (a_cons stays_dv e_int (a_cons stays_dv e_int a_nil rfl) rfl) rfl) (short_ (lenS_ (lenS_ (lenS_ len0_))) (by decide))) rfl (.inl rfl))
  (p_cons (p_stoT rfl (e_tup (a_cons stays_dv (v_ (by kernel_rfl)) (a_cons stays_dv (v_ (by kernel_rfl)) (a_cons stays_dv (v_ (by kernel_rfl)) a_nil rfl) rfl) rfl) (short_ (lenS_ (lenS_ (lenS_ len0_))) (by decide))) (gms_cons (gsto_ (by kernel_rfl) (v_ (by kernel_rfl)) (fun _ => rfl)) (gms_cons (gsto_ (by kernel_rfl) (e_ix o_ix (l_ (by kernel_rfl)) (PE.pk e_int) (fun _ _ => rfl)) (fun _ => rfl)) (gms_cons (gsto_ (by kernel_rfl) (e_ix o_ix (l_ (by kernel_rfl)) (PE.pk e_int) (fun _ _ => rfl)) (fun _ => rfl)) gms_nil rfl) rfl) rfl) rfl rfl rfl rfl rfl rfl)
  (p_one (p_ret (e_callTy b_tuple rfl M.b_tuple bt_tuple (a_cons stays_dvp (l_ (by kernel_rfl)) a_nil rfl) (by decide) rfl rfl rfl)))))))))))
theorem P41 (M : Ms K mg) (Cs : Css P w K mg base m cf) (hr : Room m (A.deeper (envOfC "sized_points" (defScope (top 63)) s.heap.objs.size f cdv))) (z0 : ZOk H0 Z0) :
    PSs (cxOf CX0 P w K mg base N41 "sized_points" (defScope (top 63)) f cdv A outer s H E).nox (defBody (top 63)) (lS K c H0 Z0 (F41 cf)) :=
  have hN : N41.Nodup := by decide +kernel
  have hu := hr.units
  have hu6 := room66 hr
  (p_cons (p_set hN rfl (.inl rfl) (w_sh (c_ (Cs.c39) hr (a_cons stays_arg (e_adat (v_ (by kernel_rfl))) a_nil rfl) rfl rfl rfl rfl)) rfl (.inl rfl))
  (p_cons (p_set hN rfl (.inr rfl) (w_sh (e_index hu6 (l_ (by kernel_rfl)) (PE.pk (e_callB (b_max rfl) rfl M.b_max bt_max (a_cons stays_dvp (l_ (by kernel_rfl)) a_nil rfl) (by decide) rfl rfl rfl)) rfl rfl (by rfl) rfl rfl)) rfl (.inl rfl))
  (p_cons (p_par2 rfl hN rfl rfl (by decide) rfl rfl (w_sh (e_lc (own := [("at", 6)]) (is := [6]) rfl hN (i_rng1 rfl M.b_range (a_cons stays_dvp (PE.pk e_int) a_nil rfl) (lenS_ len0_) rfl) (blkOk_by (by kernel_rfl)) (by decide) (fun _ _ _ _ _ => (g_nm hN rfl (.inl rfl) (.inr rfl))) (fun _ _ _ _ _ => (tl_one (t_cmp (o_ne hu) (l_ (by kernel_rfl)) (l_ (by kernel_rfl)) (nomark _)))) (fun _ _ _ _ _ => (v_ (by kernel_rfl))) (fun _ => rfl))) (w_lst a_nil (short_ len0_ (by decide))) rfl rfl rfl rfl)
  (p_cons (p_for .never rfl (i_rng1 rfl M.b_range (a_cons stays_dvp (PE.pk (e_bin o_add (PE.pk (e_ix o_ix (l_ (by kernel_rfl)) (PE.pk (e_ix o_ix (l_ (by kernel_rfl)) (PE.pk e_int) (fun _ _ => rfl))) (fun _ _ => rfl))) (PE.pk e_int))) a_nil rfl) (lenS_ len0_) rfl) (g_nm hN rfl (.inl rfl) (.inl rfl)) (p_one (p_for .never rfl (i_rng1 rfl M.b_range (a_cons stays_dvp (PE.pk (e_bin o_add (PE.pk (e_ix o_ix (l_ (by kernel_rfl)) (PE.pk (e_ix o_ix (l_ (by kernel_rfl)) (PE.pk e_int) (fun _ _ => rfl))) (fun _ _ => rfl))) (PE.pk e_int))) a_nil rfl) (lenS_ len0_) rfl) (g_nm hN rfl (.inl rfl) (.inl rfl)) (p_cons (p_set hN rfl (.inl rfl) (w_sh (c_ (Cs.c40) hr (a_cons stays_arg (e_adat (v_ (by kernel_rfl))) (a_cons stays_arg (e_adat (v_ (by kernel_rfl))) (a_cons stays_arg (e_adat (v_ (by kernel_rfl))) (a_cons stays_arg (e_adat (v_ (by kernel_rfl))) a_nil rfl) rfl) rfl) rfl) rfl rfl rfl rfl)) rfl (.inl rfl))
  (p_one (p_if (PW.pt (t_and (t_cmp o_isNot (l_ (by kernel_rfl)) (PE.pk e_non) (nomark _)) (t_and (t_val (e_callB (b_any rfl) rfl M.b_any bt_any (a_cons stays_dvp (l_ (by kernel_rfl)) a_nil rfl) (by decide) rfl rfl rfl) (fun _ => rfl)) (t_and (t_cmp (o_le hu) (PE.pk (e_ix o_ix (l_ (by kernel_rfl)) (l_ (by kernel_rfl)) (fun _ _ => rfl))) (PE.pk (e_ix o_ix (l_ (by kernel_rfl)) (l_ (by kernel_rfl)) (fun _ _ => rfl))) (nomark _)) (ta1_ (t_cmp (o_eq hu) (PE.pk (c_ (Cs.c10) hr (a_cons stays_arg (e_adat (v_ (by kernel_rfl))) a_nil rfl) rfl rfl rfl rfl)) (l_ (by kernel_rfl)) (nomark _))))))) (p_cons (app_ (by kernel_rfl) (v_ (by kernel_rfl)) rfl rfl (by rfl) rfl rfl rfl)
  (p_one (p_if (t_val (v_ (by kernel_rfl)) (fun _ => rfl)) (p_one (p_sh z0 (p_ret (v_ (by kernel_rfl))))) p_nil))) p_nil))) (fun _ => rfl))) (fun _ => rfl))
  (p_one (p_sh z0 (p_ret (v_ (by kernel_rfl)))))))))
theorem P42 (M : Ms K mg) (Cs : Css P w K mg base m cf) (hr : Room m (A.deeper (envOfC "low_in" (defScope (top 64)) s.heap.objs.size f cdv))) (z0 : ZOk H0 Z0) :
    PSs (cxOf CX0 P w K mg base N42 "low_in" (defScope (top 64)) f cdv A outer s H E).nox (defBody (top 64)) (lS K c H0 Z0 (F42 cf)) :=
  have hN : N42.Nodup := by decide +kernel
  have hu := hr.units
  have hu6 := room66 hr
  (p_cons (p_set hN rfl (.inl rfl) (w_sh (c_ (Cs.c41) hr (a_cons stays_arg (e_adat (v_ (by kernel_rfl))) (a_cons stays_arg (e_adat e_bl) a_nil rfl) rfl) rfl rfl rfl rfl)) rfl (.inl rfl))
  (p_one (p_ret (e_if (t_cmp (o_ne hu) (l_ (by kernel_rfl)) (PE.pk (e_lst a_nil (short_ len0_ (by decide)))) (nomark _)) (e_ix o_ix (l_ (by kernel_rfl)) (PE.pk e_int) (fun _ _ => rfl)) e_non))))
theorem P43 (M : Ms K mg) (Cs : Css P w K mg base m cf) (hr : Room m (A.deeper (envOfC "point_in" (defScope (top 66)) s.heap.objs.size f cdv))) (z0 : ZOk H0 Z0) :
    PSs (cxOf CX0 P w K mg base N43 "point_in" (defScope (top 66)) f cdv A outer s H E).nox (defBody (top 66)) (lS K c H0 Z0 (F43 cf)) :=
  have hN : N43.Nodup := by decide +kernel
  have hu := hr.units
  have hu6 := room66 hr
  (p_cons (p_if (t_cmp (o_ne hu) (PE.pk (c_ (Cs.c33) hr (a_cons stays_arg (e_adat (v_ (by kernel_rfl))) a_nil rfl) rfl rfl rfl rfl)) (PE.pk (e_lst a_nil (short_ len0_ (by decide)))) (nomark _)) (p_one (p_ret e_non)) p_nil)
  (p_one (p_ret (c_ (Cs.c37) hr (a_cons stays_arg (e_adat (v_ (by kernel_rfl))) (a_cons stays_arg (e_adat (c_ (Cs.c42) hr (a_cons stays_arg (e_adat (e_ix o_ix (PE.pk (c_ (Cs.c34) hr (a_cons stays_arg (e_adat (v_ (by kernel_rfl))) a_nil rfl) rfl rfl rfl rfl)) (PE.pk e_int) (fun _ _ => rfl))) a_nil rfl) rfl rfl rfl rfl)) a_nil rfl) rfl) rfl rfl rfl rfl))))
theorem P44 (M : Ms K mg) (Cs : Css P w K mg base m cf) (hr : Room m (A.deeper (envOfC "doubled" (defScope (top 70)) s.heap.objs.size f cdv))) (z0 : ZOk H0 Z0) :
    PSs (cxOf CX0 P w K mg base N44 "doubled" (defScope (top 70)) f cdv A outer s H E).nox (defBody (top 70)) (lS K c H0 Z0 (F44 cf)) :=
  have hN : N44.Nodup := by decide +kernel
  have hu := hr.units
  have hu6 := room66 hr
  (p_cons (p_asg (v_ (by kernel_rfl)) (g_tp rfl (g_cs (g_nm hN rfl (.inl rfl) (.inl rfl)) (g_cs (g_nm hN rfl (.inl rfl) (.inl rfl)) (g_cs (g_nm hN rfl (.inl rfl) (.inl rfl)) (g_cs (g_nm hN rfl (.inl rfl) (.inl rfl)) (g_cs (g_nm hN rfl (.inl rfl) (.inl rfl)) (g_cs (g_nm hN rfl (.inl rfl) (.inl rfl)) g_nl rfl) rfl) rfl) rfl) rfl) rfl) (gCs_len (gCs_len (gCs_len (gCs_len (gCs_len (gCs_len gNl_len)))))) rfl rfl) rfl rfl rfl)
  (p_one (p_ret (e_tup (a_cons stays_dv (e_tup (a_cons stays_dv (e_bin o_mul (PE.pk e_int) (l_ (by kernel_rfl))) (a_cons stays_dv (v_ (by kernel_rfl)) (a_cons stays_dv (v_ (by kernel_rfl)) a_nil rfl) rfl) rfl) (short_ (lenS_ (lenS_ (lenS_ len0_))) (by decide))) (a_cons stays_dv (e_tup (a_cons stays_dv (v_ (by kernel_rfl)) (a_cons stays_dv (e_bin o_mul (PE.pk e_int) (l_ (by kernel_rfl))) (a_cons stays_dv (v_ (by kernel_rfl)) a_nil rfl) rfl) rfl) (short_ (lenS_ (lenS_ (lenS_ len0_))) (by decide))) (a_cons stays_dv (e_tup (a_cons stays_dv (v_ (by kernel_rfl)) (a_cons stays_dv (v_ (by kernel_rfl)) (a_cons stays_dv (e_bin o_mul (PE.pk e_int) (l_ (by kernel_rfl))) a_nil rfl) rfl) rfl) (short_ (lenS_ (lenS_ (lenS_ len0_))) (by decide))) a_nil rfl) rfl) rfl) (short_ (lenS_ (lenS_ (lenS_ len0_))) (by decide))))))
theorem P45 (M : Ms K mg) (Cs : Css P w K mg base m cf) (hr : Room m (A.deeper (envOfC "fits_conic" (defScope (top 71)) s.heap.objs.size f cdv))) (z0 : ZOk H0 Z0) :
    PSs (cxOf CX0 P w K mg base N45 "fits_conic" (defScope (top 71)) f cdv A outer s H E).nox (defBody (top 71)) (lS K c H0 Z0 (F45 cf)) :=
  have hN : N45.Nodup := by decide +kernel
  have hu := hr.units
  have hu6 := room66 hr
  (p_cons (p_if (PW.pt (t_or (t_not (t_val (c_ (Cs.c2) hr (a_cons stays_arg (e_adat (v_ (by kernel_rfl))) (a_cons stays_arg (e_adat e_int) (a_cons stays_arg (e_adat e_int) a_nil rfl) rfl) rfl) rfl rfl rfl rfl) (fun _ => rfl))) (to1_ (t_not (t_val (e_callB (b_all rfl) rfl M.b_all bt_all (a_cons stays_dvp (PE.pk (e_lc (own := [("part", 1)]) (is := [1]) rfl hN (i_seq lkK (l_ (by kernel_rfl))) (blkOk_by (by kernel_rfl)) (by decide) (fun _ _ _ _ _ => (g_nm hN rfl (.inl rfl) (.inr rfl))) (fun _ _ _ _ _ => tl_nil) (fun _ _ _ _ _ => (c_ (Cs.c0) hr (a_cons stays_arg (e_adat (v_ (by kernel_rfl))) (a_cons stays_arg (e_adat (e_neg (k_ M.k_HIGH_conicpoints rfl rfl))) (a_cons stays_arg (e_adat (k_ M.k_HIGH_conicpoints rfl rfl)) a_nil rfl) rfl) rfl) rfl rfl rfl rfl)) (fun _ => rfl))) a_nil rfl) (by decide) rfl rfl rfl) (fun _ => rfl)))))) (p_one (p_ret e_bl)) p_nil)
  (p_cons (p_par2 rfl hN rfl rfl (by decide) rfl rfl (w_sh (e_lc (own := [("part", 1)]) (is := [1]) rfl hN (i_seq lkK (l_ (by kernel_rfl))) (blkOk_by (by kernel_rfl)) (by decide) (fun _ _ _ _ _ => (g_nm hN rfl (.inl rfl) (.inr rfl))) (fun _ _ _ _ _ => (tl_one (t_cmp (o_ne hu) (l_ (by kernel_rfl)) (PE.pk e_int) (nomark _)))) (fun _ _ _ _ _ => (v_ (by kernel_rfl))) (fun _ => rfl))) (w_sh e_int) rfl rfl rfl rfl)
  (p_cons (p_for .never rfl (i_seq lkL (v_ (by kernel_rfl))) (g_nm hN rfl (.inl rfl) (.inl rfl)) (p_one (p_set hN rfl (.inl rfl) (w_sh (e_callBf b_gcd rfl M.b_gcd (a_cons stays_dvp (l_ (by kernel_rfl)) (a_cons stays_dvp (l_ (by kernel_rfl)) a_nil rfl) rfl) rfl rfl rfl)) rfl (.inl rfl))) (fun _ => rfl))
  (p_cons (p_if (PW.pt (t_or (t_cmp (o_ne hu) (l_ (by kernel_rfl)) (PE.pk e_int) (nomark _)) (to1_ (t_cmp (o_lt hu) (PE.pk (e_ix o_ix (l_ (by kernel_rfl)) (PE.pk e_int) (fun _ _ => rfl))) (PE.pk e_int) (nomark _))))) (p_one (p_ret e_bl)) p_nil)
  (p_cons (p_set hN rfl (.inl rfl) (w_sh (c_ (Cs.c44) hr (a_cons stays_arg (e_adat (v_ (by kernel_rfl))) a_nil rfl) rfl rfl rfl rfl)) rfl (.inl rfl))
  (p_one (p_ret (e_cmp (o_ne hu) (PE.pk (c_ (Cs.c14) hr (a_cons stays_arg (e_adat (e_ix o_ix (l_ (by kernel_rfl)) (PE.pk e_int) (fun _ _ => rfl))) (a_cons stays_arg (e_adat (e_ix o_ix (l_ (by kernel_rfl)) (PE.pk e_int) (fun _ _ => rfl))) (a_cons stays_arg (e_adat (e_ix o_ix (l_ (by kernel_rfl)) (PE.pk e_int) (fun _ _ => rfl))) a_nil rfl) rfl) rfl) rfl rfl rfl rfl)) (PE.pk e_int) (nomark _)))))))))
theorem P46 (M : Ms K mg) (Cs : Css P w K mg base m cf) (hr : Room m (A.deeper (envOfC "need_conic" (defScope (top 72)) s.heap.objs.size f cdv))) (z0 : ZOk H0 Z0) :
    PSs (cxOf CX0 P w K mg base N46 "need_conic" (defScope (top 72)) f cdv A outer s H E).nox (defBody (top 72)) (lS K c H0 Z0 (F46 cf)) :=
  have hN : N46.Nodup := by decide +kernel
  have hu := hr.units
  have hu6 := room66 hr
  (p_one (p_if (t_not (t_val (c_ (Cs.c45) hr (a_cons stays_arg (e_adat (v_ (by kernel_rfl))) a_nil rfl) rfl rfl rfl rfl) (fun _ => rfl))) (p_one p_never) p_nil))
theorem P47 (M : Ms K mg) (Cs : Css P w K mg base m cf) (hr : Room m (A.deeper (envOfC "both" (defScope (top 73)) s.heap.objs.size f cdv))) (z0 : ZOk H0 Z0) :
    PSs (cxOf CX0 P w K mg base N47 "both" (defScope (top 73)) f cdv A outer s H E).nox (defBody (top 73)) (lS K c H0 Z0 (F47 cf)) :=
  have hN : N47.Nodup := by decide +kernel
  have hu := hr.units
  have hu6 := room66 hr
  (p_one (p_ret (e_callB (b_sum rfl) rfl M.b_sum bt_sum (a_cons stays_dvp (PE.pk (e_lc (own := [("part", 5), ("row", 6)]) (is := [5, 6]) rfl hN (i_zip2 lkK rfl M.b_zip (a_cons stays_dvp (l_ (by kernel_rfl)) (a_cons stays_dvp (l_ (by kernel_rfl)) a_nil rfl) rfl) (lenS_ (lenS_ len0_)) rfl rfl) (blkOk_by (by kernel_rfl)) (by decide) (fun _ _ _ _ _ => (g_tp rfl (g_cs (g_nm hN rfl (.inl rfl) (.inr rfl)) (g_cs (g_nm hN rfl (.inl rfl) (.inr rfl)) g_nl rfl) rfl) (gCs_len (gCs_len gNl_len)) rfl rfl)) (fun _ _ _ _ _ => tl_nil) (fun _ _ _ _ _ => (e_bin o_mul (l_ (by kernel_rfl)) (PE.pk (e_callB (b_sum rfl) rfl M.b_sum bt_sum (a_cons stays_dvp (PE.pk (e_lc (own := [("number", 3), ("own", 4)]) (is := [3, 4]) rfl hN (i_zip2 lkK rfl M.b_zip (a_cons stays_dvp (l_ (by kernel_rfl)) (a_cons stays_dvp (l_ (by kernel_rfl)) a_nil rfl) rfl) (lenS_ (lenS_ len0_)) rfl rfl) (blkOk_by (by kernel_rfl)) (by decide) (fun _ _ _ _ _ => (g_tp rfl (g_cs (g_nm hN rfl (.inl rfl) (.inr rfl)) (g_cs (g_nm hN rfl (.inl rfl) (.inr rfl)) g_nl rfl) rfl) (gCs_len (gCs_len gNl_len)) rfl rfl)) (fun _ _ _ _ _ => tl_nil) (fun _ _ _ _ _ => (e_bin o_mul (l_ (by kernel_rfl)) (l_ (by kernel_rfl)))) (fun _ => rfl))) a_nil rfl) (by decide) rfl rfl rfl)))) (fun _ => rfl))) a_nil rfl) (by decide) rfl rfl rfl)))
theorem P48 (M : Ms K mg) (Cs : Css P w K mg base m cf) (hr : Room m (A.deeper (envOfC "headed" (defScope (top 74)) s.heap.objs.size f cdv))) (z0 : ZOk H0 Z0) :
    PSs (cxOf CX0 P w K mg base N48 "headed" (defScope (top 74)) f cdv A outer s H E).nox (defBody (top 74)) (lS K c H0 Z0 (F48 cf)) :=
  have hN : N48.Nodup := by decide +kernel
  have hu := hr.units
  have hu6 := room66 hr
  (p_cons (p_for .never rfl (i_enum lkL rfl M.b_enumerate (a_cons stays_dv (v_ (by kernel_rfl)) a_nil rfl) rfl) (g_tp rfl (g_cs (g_nm hN rfl (.inl rfl) (.inl rfl)) (g_cs (g_nm hN rfl (.inl rfl) (.inl rfl)) g_nl rfl) rfl) (gCs_len (gCs_len gNl_len)) rfl rfl) (p_one (p_if (t_cmp (o_ne hu) (PE.pk (c_ (Cs.c47) hr (a_cons stays_arg (e_adat (v_ (by kernel_rfl))) (a_cons stays_arg (e_adat (v_ (by kernel_rfl))) (a_cons stays_arg (e_adat (v_ (by kernel_rfl))) a_nil rfl) rfl) rfl) rfl rfl rfl rfl)) (PE.pk e_int) (nomark _)) (p_one (p_ret (e_bin o_add (PE.pk (e_bin o_add (PE.pk (e_lst (a_cons stays_dv (v_ (by kernel_rfl)) a_nil rfl) (short_ (lenS_ len0_) (by decide)))) (PE.pk (e_cut (l_ (by kernel_rfl)) o_no (o_yes (v_ (by kernel_rfl))))))) (PE.pk (e_cut (l_ (by kernel_rfl)) (o_yes (e_bin o_add (l_ (by kernel_rfl)) (PE.pk e_int))) o_no))))) p_nil)) (fun _ => rfl))
  (p_cons (p_for .never rfl (i_enum lkL rfl M.b_enumerate (a_cons stays_dv (v_ (by kernel_rfl)) a_nil rfl) rfl) (g_tp rfl (g_cs (g_nm hN rfl (.inl rfl) (.inl rfl)) (g_cs (g_nm hN rfl (.inl rfl) (.inl rfl)) g_nl rfl) rfl) (gCs_len (gCs_len gNl_len)) rfl rfl) (p_one (p_for .never rfl (i_seq lkL (e_cut (l_ (by kernel_rfl)) (o_yes (e_bin o_add (l_ (by kernel_rfl)) (PE.pk e_int))) o_no)) (g_nm hN rfl (.inl rfl) (.inl rfl)) (p_one (p_if (t_cmp (o_ne hu) (PE.pk (c_ (Cs.c47) hr (a_cons stays_arg (e_adat (v_ (by kernel_rfl))) (a_cons stays_arg (e_adat (v_ (by kernel_rfl))) (a_cons stays_arg (e_adat (v_ (by kernel_rfl))) a_nil rfl) rfl) rfl) rfl rfl rfl rfl)) (PE.pk e_int) (nomark _)) (p_cons (p_set hN rfl (.inl rfl) (w_sh (e_callTy b_tuple rfl M.b_tuple bt_tuple (a_cons stays_dvp (PE.pk (e_lc (own := [("part", 6), ("own", 7)]) (is := [6, 7]) rfl hN (i_zip2 lkK rfl M.b_zip (a_cons stays_dvp (l_ (by kernel_rfl)) (a_cons stays_dvp (l_ (by kernel_rfl)) a_nil rfl) rfl) (lenS_ (lenS_ len0_)) rfl rfl) (blkOk_by (by kernel_rfl)) (by decide) (fun _ _ _ _ _ => (g_tp rfl (g_cs (g_nm hN rfl (.inl rfl) (.inr rfl)) (g_cs (g_nm hN rfl (.inl rfl) (.inr rfl)) g_nl rfl) rfl) (gCs_len (gCs_len gNl_len)) rfl rfl)) (fun _ _ _ _ _ => tl_nil) (fun _ _ _ _ _ => (e_bin o_add (l_ (by kernel_rfl)) (l_ (by kernel_rfl)))) (fun _ => rfl))) a_nil rfl) (by decide) rfl rfl rfl)) rfl (.inl rfl))
  (p_one (p_ret (e_bin o_add (PE.pk (e_bin o_add (PE.pk (e_lst (a_cons stays_dv (v_ (by kernel_rfl)) a_nil rfl) (short_ (lenS_ len0_) (by decide)))) (PE.pk (e_cut (l_ (by kernel_rfl)) o_no (o_yes (v_ (by kernel_rfl))))))) (PE.pk (e_cut (l_ (by kernel_rfl)) (o_yes (e_bin o_add (l_ (by kernel_rfl)) (PE.pk e_int))) o_no)))))) p_nil)) (fun _ => rfl))) (fun _ => rfl))
  (p_one (p_ret (v_ (by kernel_rfl))))))
theorem P49 (M : Ms K mg) (Cs : Css P w K mg base m cf) (hr : Room m (A.deeper (envOfC "corners_in" (defScope (top 75)) s.heap.objs.size f cdv))) (z0 : ZOk H0 Z0) :
    PSs (cxOf CX0 P w K mg base N49 "corners_in" (defScope (top 75)) f cdv A outer s H E).nox (defBody (top 75)) (lS K c H0 Z0 (F49 cf)) :=
  have hN : N49.Nodup := by decide +kernel
  have hu := hr.units
  have hu6 := room66 hr
  (p_cons (p_par2 rfl hN rfl rfl (by decide) rfl rfl (w_sh (e_lst (a_cons stays_dv (e_tup (a_cons stays_dv e_int (a_cons stays_dv e_int (a_cons stays_dv e_int a_nil rfl) rfl) rfl) (short_ (lenS_ (lenS_ (lenS_ len0_))) (by decide))) (a_cons stays_dv (e_tup (a_cons stays_dv e_int (a_cons stays_dv e_int (a_cons stays_dv e_int a_nil rfl) rfl) rfl) (short_ (lenS_ (lenS_ (lenS_ len0_))) (by decide))) (a_cons stays_dv (e_tup (a_cons stays_dv e_int (a_cons stays_dv e_int (a_cons stays_dv e_int a_nil rfl) rfl) rfl) (short_ (lenS_ (lenS_ (lenS_ len0_))) (by decide))) a_nil rfl) rfl) rfl) (short_ (lenS_ (lenS_ (lenS_ len0_))) (by decide)))) (w_lst a_nil (short_ len0_ (by decide))) rfl rfl rfl rfl)
  (p_cons (p_while .never (t_cmp (o_ne hu) (l_ (by kernel_rfl)) (PE.pk (e_lst a_nil (short_ len0_ (by decide)))) (nomark _)) (p_cons (p_set hN rfl (.inl rfl) (w_sh (c_ (Cs.c48) hr (a_cons stays_arg (e_adat (v_ (by kernel_rfl))) (a_cons stays_arg (e_adat (v_ (by kernel_rfl))) a_nil rfl) rfl) rfl rfl rfl rfl)) rfl (.inl rfl))
  (p_cons (p_par2 rfl hN rfl rfl (by decide) rfl rfl (w_sh (e_ix o_ix (l_ (by kernel_rfl)) (PE.pk e_int) (fun _ _ => rfl))) (w_lst a_nil (short_ len0_ (by decide))) rfl rfl rfl rfl)
  (p_cons (p_set hN rfl (.inr rfl) (w_sh (c_ (Cs.c47) hr (a_cons stays_arg (e_adat (v_ (by kernel_rfl))) (a_cons stays_arg (e_adat (v_ (by kernel_rfl))) (a_cons stays_arg (e_adat (v_ (by kernel_rfl))) a_nil rfl) rfl) rfl) rfl rfl rfl rfl)) rfl (.inl rfl))
  (p_cons (p_for .never rfl (i_seq lkL (e_cut (l_ (by kernel_rfl)) (o_yes e_int) o_no)) (g_nm hN rfl (.inl rfl) (.inl rfl)) (p_cons (p_set hN rfl (.inr rfl) (w_sh (c_ (Cs.c47) hr (a_cons stays_arg (e_adat (v_ (by kernel_rfl))) (a_cons stays_arg (e_adat (v_ (by kernel_rfl))) (a_cons stays_arg (e_adat (v_ (by kernel_rfl))) a_nil rfl) rfl) rfl) rfl rfl rfl rfl)) rfl (.inl rfl))
  (p_one (app_ (by kernel_rfl) (c_ (Cs.c10) hr (a_cons stays_arg (e_adat (e_callTy b_tuple rfl M.b_tuple bt_tuple (a_cons stays_dvp (PE.pk (e_lc (own := [("part", 8), ("other", 9)]) (is := [8, 9]) rfl hN (i_zip2 lkK rfl M.b_zip (a_cons stays_dvp (l_ (by kernel_rfl)) (a_cons stays_dvp (l_ (by kernel_rfl)) a_nil rfl) rfl) (lenS_ (lenS_ len0_)) rfl rfl) (blkOk_by (by kernel_rfl)) (by decide) (fun _ _ _ _ _ => (g_tp rfl (g_cs (g_nm hN rfl (.inl rfl) (.inr rfl)) (g_cs (g_nm hN rfl (.inl rfl) (.inr rfl)) g_nl rfl) rfl) (gCs_len (gCs_len gNl_len)) rfl rfl)) (fun _ _ _ _ _ => tl_nil) (fun _ _ _ _ _ => (e_bin o_sub (PE.pk (e_bin o_mul (l_ (by kernel_rfl)) (l_ (by kernel_rfl)))) (PE.pk (e_bin o_mul (l_ (by kernel_rfl)) (l_ (by kernel_rfl)))))) (fun _ => rfl))) a_nil rfl) (by decide) rfl rfl rfl)) a_nil rfl) rfl rfl rfl rfl) rfl rfl (by rfl) rfl rfl rfl))) (fun _ => rfl))
  (p_cons (p_sh z0 (p_set hN rfl (.inl rfl) (w_sh (v_ (by kernel_rfl))) rfl (.inl rfl)))
  (p_one (app_ (by kernel_rfl) (v_ (by kernel_rfl)) rfl rfl (by rfl) rfl rfl rfl))))))))
  (p_one (p_sh z0 (p_ret (v_ (by kernel_rfl)))))))
theorem P50 (M : Ms K mg) (Cs : Css P w K mg base m cf) (hr : Room m (A.deeper (envOfC "values_in" (defScope (top 76)) s.heap.objs.size f cdv))) (z0 : ZOk H0 Z0) :
    PSs (cxOf CX0 P w K mg base N50 "values_in" (defScope (top 76)) f cdv A outer s H E).nox (defBody (top 76)) (lS K c H0 Z0 (F50 cf)) :=
  have hN : N50.Nodup := by decide +kernel
  have hu := hr.units
  have hu6 := room66 hr
  (p_cons (p_set hN rfl (.inr rfl) (w_sh (c_ (Cs.c44) hr (a_cons stays_arg (e_adat (v_ (by kernel_rfl))) a_nil rfl) rfl rfl rfl rfl)) rfl (.inl rfl))
  (p_cons (p_set hN rfl (.inl rfl) (w_sh (c_ (Cs.c49) hr (a_cons stays_arg (e_adat (v_ (by kernel_rfl))) a_nil rfl) rfl rfl rfl rfl)) rfl (.inl rfl))
  (p_one (p_ret (e_tup (a_cons stays_dv (v_ (by kernel_rfl)) (a_cons stays_dv (e_lc (own := [("corner", 3)]) (is := [3]) rfl hN (i_seq lkK (l_ (by kernel_rfl))) (blkOk_by (by kernel_rfl)) (by decide) (fun _ _ _ _ _ => (g_nm hN rfl (.inl rfl) (.inr rfl))) (fun _ _ _ _ _ => tl_nil) (fun _ _ _ _ _ => (c_ (Cs.c47) hr (a_cons stays_arg (e_adat (v_ (by kernel_rfl))) (a_cons stays_arg (e_adat (v_ (by kernel_rfl))) (a_cons stays_arg (e_adat (v_ (by kernel_rfl))) a_nil rfl) rfl) rfl) rfl rfl rfl rfl)) (fun _ => rfl)) a_nil rfl) rfl) (short_ (lenS_ (lenS_ len0_)) (by decide)))))))
theorem P51 (M : Ms K mg) (Cs : Css P w K mg base m cf) (hr : Room m (A.deeper (envOfC "value_at" (defScope (top 77)) s.heap.objs.size f cdv))) (z0 : ZOk H0 Z0) :
    PSs (cxOf CX0 P w K mg base N51 "value_at" (defScope (top 77)) f cdv A outer s H E).nox (defBody (top 77)) (lS K c H0 Z0 (F51 cf)) :=
  have hN : N51.Nodup := by decide +kernel
  have hu := hr.units
  have hu6 := room66 hr
  (p_one (p_ret (c_ (Cs.c47) hr (a_cons stays_arg (e_adat (c_ (Cs.c44) hr (a_cons stays_arg (e_adat (v_ (by kernel_rfl))) a_nil rfl) rfl rfl rfl rfl)) (a_cons stays_arg (e_adat (v_ (by kernel_rfl))) (a_cons stays_arg (e_adat (v_ (by kernel_rfl))) a_nil rfl) rfl) rfl) rfl rfl rfl rfl)))
theorem P52 (M : Ms K mg) (Cs : Css P w K mg base m cf) (hr : Room m (A.deeper (envOfC "has_points" (defScope (top 78)) s.heap.objs.size f cdv))) (z0 : ZOk H0 Z0) :
    PSs (cxOf CX0 P w K mg base N52 "has_points" (defScope (top 78)) f cdv A outer s H E).nox (defBody (top 78)) (lS K c H0 Z0 (F52 cf)) :=
  have hN : N52.Nodup := by decide +kernel
  have hu := hr.units
  have hu6 := room66 hr
  (p_cons (p_drop (c_ (Cs.c46) hr (a_cons stays_arg (e_adat (v_ (by kernel_rfl))) a_nil rfl) rfl rfl rfl rfl) rfl)
  (p_one (p_ret (e_cmp (o_eq hu) (PE.pk (c_ (Cs.c33) hr (a_cons stays_arg (e_adat (e_ix o_ix (PE.pk (c_ (Cs.c50) hr (a_cons stays_arg (e_adat (v_ (by kernel_rfl))) a_nil rfl) rfl rfl rfl rfl)) (PE.pk e_int) (fun _ _ => rfl))) a_nil rfl) rfl rfl rfl rfl)) (PE.pk (e_lst a_nil (short_ len0_ (by decide)))) (nomark _)))))
theorem P53 (M : Ms K mg) (Cs : Css P w K mg base m cf) (hr : Room m (A.deeper (envOfC "points_on" (defScope (top 79)) s.heap.objs.size f cdv))) (z0 : ZOk H0 Z0) :
    PSs (cxOf CX0 P w K mg base N53 "points_on" (defScope (top 79)) f cdv A outer s H E).nox (defBody (top 79)) (lS K c H0 Z0 (F53 cf)) :=
  have hN : N53.Nodup := by decide +kernel
  have hu := hr.units
  have hu6 := room66 hr
  (p_cons (p_drop (c_ (Cs.c46) hr (a_cons stays_arg (e_adat (v_ (by kernel_rfl))) a_nil rfl) rfl rfl rfl rfl) rfl)
  (p_cons (p_drop (c_ (Cs.c1) hr (a_cons stays_arg (e_adat (v_ (by kernel_rfl))) (a_cons stays_arg (e_adat e_int) (a_cons stays_arg (e_adat (k_ M.k_HEIGHT rfl rfl)) a_nil rfl) rfl) rfl) rfl rfl rfl rfl) rfl)
  (p_cons (p_par2 rfl hN rfl rfl (by decide) rfl rfl (w_lst a_nil (short_ len0_ (by decide))) (w_sh (e_lrng2 rfl rfl M.b_list rfl M.b_range (PE.pk (e_neg (v_ (by kernel_rfl)))) (PE.pk (e_bin o_add (l_ (by kernel_rfl)) (PE.pk e_int))) rfl rfl rfl rfl)) rfl rfl rfl rfl)
  (p_cons (p_for .never rfl (i_rng1 rfl M.b_range (a_cons stays_dvp (PE.pk (e_bin o_add (l_ (by kernel_rfl)) (PE.pk e_int))) a_nil rfl) (lenS_ len0_) rfl) (g_nm hN rfl (.inl rfl) (.inl rfl)) (p_one (p_for .never rfl (i_seq lkL (v_ (by kernel_rfl))) (g_nm hN rfl (.inl rfl) (.inl rfl)) (p_one (p_for .never rfl (i_seq lkL (v_ (by kernel_rfl))) (g_nm hN rfl (.inl rfl) (.inl rfl)) (p_cons (p_set hN rfl (.inl rfl) (w_sh (e_tup (a_cons stays_dv (v_ (by kernel_rfl)) (a_cons stays_dv (v_ (by kernel_rfl)) (a_cons stays_dv (v_ (by kernel_rfl)) a_nil rfl) rfl) rfl) (short_ (lenS_ (lenS_ (lenS_ len0_))) (by decide)))) rfl (.inl rfl))
  (p_one (p_if (PW.pt (t_and (t_val (e_callB (b_any rfl) rfl M.b_any bt_any (a_cons stays_dvp (l_ (by kernel_rfl)) a_nil rfl) (by decide) rfl rfl rfl) (fun _ => rfl)) (t_and (t_cmp (o_eq hu) (PE.pk (c_ (Cs.c51) hr (a_cons stays_arg (e_adat (v_ (by kernel_rfl))) (a_cons stays_arg (e_adat (v_ (by kernel_rfl))) a_nil rfl) rfl) rfl rfl rfl rfl)) (PE.pk e_int) (nomark _)) (ta1_ (t_cmp (o_eq hu) (PE.pk (c_ (Cs.c10) hr (a_cons stays_arg (e_adat (v_ (by kernel_rfl))) a_nil rfl) rfl rfl rfl rfl)) (l_ (by kernel_rfl)) (nomark _)))))) (p_one (app_ (by kernel_rfl) (v_ (by kernel_rfl)) rfl rfl (by rfl) rfl rfl rfl)) p_nil))) (fun _ => rfl))) (fun _ => rfl))) (fun _ => rfl))
  (p_one (p_ret (e_callTy b_tuple rfl M.b_tuple bt_tuple (a_cons stays_dvp (PE.pk (e_callB (b_sorted hu6) rfl M.b_sorted bt_sorted (a_cons stays_dvp (l_ (by kernel_rfl)) a_nil rfl) (by decide) rfl rfl rfl)) a_nil rfl) (by decide) rfl rfl rfl)))))))
theorem P54 (M : Ms K mg) (Cs : Css P w K mg base m cf) (hr : Room m (A.deeper (envOfC "mixed" (defScope (top 81)) s.heap.objs.size f cdv))) (z0 : ZOk H0 Z0) :
    PSs (cxOf CX0 P w K mg base N54 "mixed" (defScope (top 81)) f cdv A outer s H E).nox (defBody (top 81)) (lS K c H0 Z0 (F54 cf)) :=
  have hN : N54.Nodup := by decide +kernel
  have hu := hr.units
  have hu6 := room66 hr
  (p_one (p_ret (e_callB (b_sum rfl) rfl M.b_sum bt_sum (a_cons stays_dvp (PE.pk (e_lc (own := [("number", 3), ("part", 4), ("own", 5)]) (is := [3, 4, 5]) rfl hN (i_zip3 lkK rfl M.b_zip (a_cons stays_dvp (l_ (by kernel_rfl)) (a_cons stays_dvp (l_ (by kernel_rfl)) (a_cons stays_dvp (l_ (by kernel_rfl)) a_nil rfl) rfl) rfl) (lenS_ (lenS_ (lenS_ len0_))) rfl rfl) (blkOk_by (by kernel_rfl)) (by decide) (fun _ _ _ _ _ => (g_tp rfl (g_cs (g_nm hN rfl (.inl rfl) (.inr rfl)) (g_cs (g_nm hN rfl (.inl rfl) (.inr rfl)) (g_cs (g_nm hN rfl (.inl rfl) (.inr rfl)) g_nl rfl) rfl) rfl) (gCs_len (gCs_len (gCs_len gNl_len))) rfl rfl)) (fun _ _ _ _ _ => tl_nil) (fun _ _ _ _ _ => (e_bin o_mul (PE.pk (e_bin o_mul (l_ (by kernel_rfl)) (l_ (by kernel_rfl)))) (l_ (by kernel_rfl)))) (fun _ => rfl))) a_nil rfl) (by decide) rfl rfl rfl)))
theorem P55 (M : Ms K mg) (Cs : Css P w K mg base m cf) (hr : Room m (A.deeper (envOfC "need_numbers" (defScope (top 84)) s.heap.objs.size f cdv))) (z0 : ZOk H0 Z0) :
    PSs (cxOf CX0 P w K mg base N55 "need_numbers" (defScope (top 84)) f cdv A outer s H E).nox (defBody (top 84)) (lS K c H0 Z0 (F55 cf)) :=
  have hN : N55.Nodup := by decide +kernel
  have hu := hr.units
  have hu6 := room66 hr
  (p_one (p_for .never rfl (i_seq lkL (v_ (by kernel_rfl))) (g_nm hN rfl (.inl rfl) (.inl rfl)) (p_one (p_if (PW.pt (t_or (t_not (t_val (c_ (Cs.c0) hr (a_cons stays_arg (e_adat (v_ (by kernel_rfl))) (a_cons stays_arg (e_adat (e_neg (k_ M.k_HIGH_squaresums rfl rfl))) (a_cons stays_arg (e_adat (k_ M.k_HIGH_squaresums rfl rfl)) a_nil rfl) rfl) rfl) rfl rfl rfl rfl) (fun _ => rfl))) (to1_ (t_cmp (o_eq hu) (l_ (by kernel_rfl)) (PE.pk e_int) (nomark _))))) (p_one p_never) p_nil)) (fun _ => rfl)))
theorem P56 (M : Ms K mg) (Cs : Css P w K mg base m cf) (hr : Room m (A.deeper (envOfC "turned" (defScope (top 85)) s.heap.objs.size f cdv))) (z0 : ZOk H0 Z0) :
    PSs (cxOf CX0 P w K mg base N56 "turned" (defScope (top 85)) f cdv A outer s H E).nox (defBody (top 85)) (lS K c H0 Z0 (F56 cf)) :=
  have hN : N56.Nodup := by decide +kernel
  have hu := hr.units
  have hu6 := room66 hr
  (p_cons (p_if (t_cmp (o_ne hu) (PE.pk (e_ix o_ix (l_ (by kernel_rfl)) (PE.pk e_int) (fun _ _ => rfl))) (PE.pk e_int) (nomark _)) (p_one (p_ret (v_ (by kernel_rfl)))) p_nil)
  (p_cons (p_set hN rfl (.inl rfl) (w_sh (e_tup (a_cons stays_dv e_int (a_cons stays_dv e_int (a_cons stays_dv e_int a_nil rfl) rfl) rfl) (short_ (lenS_ (lenS_ (lenS_ len0_))) (by decide)))) rfl (.inl rfl))
  (p_cons (p_asg (e_tup (a_cons stays_dv (c_ (Cs.c38) hr (a_cons stays_arg (e_adat (v_ (by kernel_rfl))) (a_cons stays_arg (e_adat (v_ (by kernel_rfl))) a_nil rfl) rfl) rfl rfl rfl rfl) (a_cons stays_dv (e_bin o_mul (PE.pk e_int) (PE.pk (c_ (Cs.c54) hr (a_cons stays_arg (e_adat (v_ (by kernel_rfl))) (a_cons stays_arg (e_adat (v_ (by kernel_rfl))) (a_cons stays_arg (e_adat (v_ (by kernel_rfl))) a_nil rfl) rfl) rfl) rfl rfl rfl rfl))) a_nil rfl) rfl) (short_ (lenS_ (lenS_ len0_)) (by decide))) (g_tp rfl (g_cs (g_nm hN rfl (.inr rfl) (.inl rfl)) (g_cs (g_nm hN rfl (.inr rfl) (.inl rfl)) g_nl rfl) rfl) (gCs_len (gCs_len gNl_len)) rfl rfl) rfl rfl rfl)
  (p_one (p_ret (e_callTy b_tuple rfl M.b_tuple bt_tuple (a_cons stays_dvp (PE.pk (e_lc (own := [("part", 5), ("own", 6)]) (is := [5, 6]) rfl hN (i_zip2 lkK rfl M.b_zip (a_cons stays_dvp (l_ (by kernel_rfl)) (a_cons stays_dvp (l_ (by kernel_rfl)) a_nil rfl) rfl) (lenS_ (lenS_ len0_)) rfl rfl) (blkOk_by (by kernel_rfl)) (by decide) (fun _ _ _ _ _ => (g_tp rfl (g_cs (g_nm hN rfl (.inl rfl) (.inr rfl)) (g_cs (g_nm hN rfl (.inl rfl) (.inr rfl)) g_nl rfl) rfl) (gCs_len (gCs_len gNl_len)) rfl rfl)) (fun _ _ _ _ _ => tl_nil) (fun _ _ _ _ _ => (e_bin o_sub (PE.pk (e_bin o_mul (l_ (by kernel_rfl)) (l_ (by kernel_rfl)))) (PE.pk (e_bin o_mul (l_ (by kernel_rfl)) (l_ (by kernel_rfl)))))) (fun _ => rfl))) a_nil rfl) (by decide) rfl rfl rfl))))))
theorem P57 (M : Ms K mg) (Cs : Css P w K mg base m cf) (hr : Room m (A.deeper (envOfC "sums_in" (defScope (top 86)) s.heap.objs.size f cdv))) (z0 : ZOk H0 Z0) :
    PSs (cxOf CX0 P w K mg base N57 "sums_in" (defScope (top 86)) f cdv A outer s H E).nox (defBody (top 86)) (lS K c H0 Z0 (F57 cf)) :=
  have hN : N57.Nodup := by decide +kernel
  have hu := hr.units
  have hu6 := room66 hr
  (p_cons (p_set hN rfl (.inl rfl) (w_sh (e_tup (a_cons stays_dv (v_ (by kernel_rfl)) (a_cons stays_dv (v_ (by kernel_rfl)) (a_cons stays_dv (e_neg (v_ (by kernel_rfl))) a_nil rfl) rfl) rfl) (short_ (lenS_ (lenS_ (lenS_ len0_))) (by decide)))) rfl (.inl rfl))
  (p_cons (p_set hN rfl (.inl rfl) (w_sh (c_ (Cs.c43) hr (a_cons stays_arg (e_adat (v_ (by kernel_rfl))) a_nil rfl) rfl rfl rfl rfl)) rfl (.inl rfl))
  (p_cons (p_if (t_cmp o_is (l_ (by kernel_rfl)) (PE.pk e_non) (nomark _)) (p_one (p_ret e_non)) p_nil)
  (p_cons (p_asg (c_ (Cs.c56) hr (a_cons stays_arg (e_adat (v_ (by kernel_rfl))) (a_cons stays_arg (e_adat (v_ (by kernel_rfl))) a_nil rfl) rfl) rfl rfl rfl rfl) (g_tp rfl (g_cs (g_nm hN rfl (.inl rfl) (.inl rfl)) (g_cs (g_nm hN rfl (.inl rfl) (.inl rfl)) (g_cs (g_nm hN rfl (.inl rfl) (.inl rfl)) g_nl rfl) rfl) rfl) (gCs_len (gCs_len (gCs_len gNl_len))) rfl rfl) rfl rfl rfl)
  (p_one (p_ret (e_tup (a_cons stays_dv (c_ (Cs.c5) hr (a_cons stays_arg (e_adat (v_ (by kernel_rfl))) (a_cons stays_arg (e_adat (v_ (by kernel_rfl))) a_nil rfl) rfl) rfl rfl rfl rfl) (a_cons stays_dv (c_ (Cs.c5) hr (a_cons stays_arg (e_adat (v_ (by kernel_rfl))) (a_cons stays_arg (e_adat (v_ (by kernel_rfl))) a_nil rfl) rfl) rfl rfl rfl rfl) a_nil rfl) rfl) (short_ (lenS_ (lenS_ len0_)) (by decide)))))))))
theorem P58 (M : Ms K mg) (Cs : Css P w K mg base m cf) (hr : Room m (A.deeper (envOfC "squares_for" (defScope (top 87)) s.heap.objs.size f cdv))) (z0 : ZOk H0 Z0) :
    PSs (cxOf CX0 P w K mg base N58 "squares_for" (defScope (top 87)) f cdv A outer s H E).nox (defBody (top 87)) (lS K c H0 Z0 (F58 cf)) :=
  have hN : N58.Nodup := by decide +kernel
  have hu := hr.units
  have hu6 := room66 hr
  (p_cons (p_drop (cs_ (Cs.c55) hr (a_cons stays_dv (v_ (by kernel_rfl)) (a_cons stays_dv (v_ (by kernel_rfl)) (a_cons stays_dv (v_ (by kernel_rfl)) a_nil rfl) rfl) rfl) (short_ (lenS_ (lenS_ (lenS_ len0_))) (by decide)) rfl rfl rfl rfl) rfl)
  (p_one (p_ret (c_ (Cs.c57) hr (a_cons stays_arg (e_adat (v_ (by kernel_rfl))) (a_cons stays_arg (e_adat (v_ (by kernel_rfl))) (a_cons stays_arg (e_adat (v_ (by kernel_rfl))) a_nil rfl) rfl) rfl) rfl rfl rfl rfl))))
theorem P59 (M : Ms K mg) (Cs : Css P w K mg base m cf) (hr : Room m (A.deeper (envOfC "are_squares" (defScope (top 88)) s.heap.objs.size f cdv))) (z0 : ZOk H0 Z0) :
    PSs (cxOf CX0 P w K mg base N59 "are_squares" (defScope (top 88)) f cdv A outer s H E).nox (defBody (top 88)) (lS K c H0 Z0 (F59 cf)) :=
  have hN : N59.Nodup := by decide +kernel
  have hu := hr.units
  have hu6 := room66 hr
  (p_cons (p_drop (cs_ (Cs.c55) hr (a_cons stays_dv (v_ (by kernel_rfl)) (a_cons stays_dv (v_ (by kernel_rfl)) (a_cons stays_dv (v_ (by kernel_rfl)) a_nil rfl) rfl) rfl) (short_ (lenS_ (lenS_ (lenS_ len0_))) (by decide)) rfl rfl rfl rfl) rfl)
  (p_cons (p_if (PW.pt (t_or (t_not (t_val (c_ (Cs.c2) hr (a_cons stays_arg (e_adat (v_ (by kernel_rfl))) (a_cons stays_arg (e_adat e_int) (a_cons stays_arg (e_adat e_int) a_nil rfl) rfl) rfl) rfl rfl rfl rfl) (fun _ => rfl))) (to1_ (t_not (t_val (e_callB (b_all rfl) rfl M.b_all bt_all (a_cons stays_dvp (PE.pk (e_lc (own := [("part", 4)]) (is := [4]) rfl hN (i_seq lkK (l_ (by kernel_rfl))) (blkOk_by (by kernel_rfl)) (by decide) (fun _ _ _ _ _ => (g_nm hN rfl (.inl rfl) (.inr rfl))) (fun _ _ _ _ _ => tl_nil) (fun _ _ _ _ _ => (c_ (Cs.c4) hr (a_cons stays_arg (e_adat (v_ (by kernel_rfl))) a_nil rfl) rfl rfl rfl rfl)) (fun _ => rfl))) a_nil rfl) (by decide) rfl rfl rfl) (fun _ => rfl)))))) (p_one (p_ret e_bl)) p_nil)
  (p_cons (p_asg (v_ (by kernel_rfl)) (g_tp rfl (g_cs (g_tp rfl (g_cs (g_nm hN rfl (.inl rfl) (.inl rfl)) (g_cs (g_nm hN rfl (.inl rfl) (.inl rfl)) g_nl rfl) rfl) (gCs_len (gCs_len gNl_len)) rfl rfl) (g_cs (g_tp rfl (g_cs (g_nm hN rfl (.inl rfl) (.inl rfl)) (g_cs (g_nm hN rfl (.inl rfl) (.inl rfl)) g_nl rfl) rfl) (gCs_len (gCs_len gNl_len)) rfl rfl) g_nl rfl) rfl) (gCs_len (gCs_len gNl_len)) rfl rfl) rfl rfl rfl)
  (p_cons (p_set hN rfl (.inl rfl) (w_sh (e_bin o_add (PE.pk (e_bin o_mul (PE.pk (e_bin o_mul (PE.pk (e_bin o_mul (PE.pk (e_bin o_mul (l_ (by kernel_rfl)) (l_ (by kernel_rfl)))) (l_ (by kernel_rfl)))) (l_ (by kernel_rfl)))) (l_ (by kernel_rfl)))) (PE.pk (e_bin o_mul (PE.pk (e_bin o_mul (PE.pk (e_bin o_mul (PE.pk (e_bin o_mul (l_ (by kernel_rfl)) (l_ (by kernel_rfl)))) (l_ (by kernel_rfl)))) (l_ (by kernel_rfl)))) (l_ (by kernel_rfl)))))) rfl (.inl rfl))
  (p_one (p_ret (e_cmp (o_eq hu) (l_ (by kernel_rfl)) (PE.pk (e_bin o_mul (PE.pk (e_bin o_mul (PE.pk (e_bin o_mul (PE.pk (e_bin o_mul (l_ (by kernel_rfl)) (l_ (by kernel_rfl)))) (l_ (by kernel_rfl)))) (l_ (by kernel_rfl)))) (l_ (by kernel_rfl)))) (nomark _))))))))
theorem P60 (M : Ms K mg) (Cs : Css P w K mg base m cf) (hr : Room m (A.deeper (envOfC "sum_bars" (defScope (top 89)) s.heap.objs.size f cdv))) (z0 : ZOk H0 Z0) :
    PSs (cxOf CX0 P w K mg base N60 "sum_bars" (defScope (top 89)) f cdv A outer s H E).nox (defBody (top 89)) (lS K c H0 Z0 (F60 cf)) :=
  have hN : N60.Nodup := by decide +kernel
  have hu := hr.units
  have hu6 := room66 hr
  (p_cons (p_drop (cs_ (Cs.c55) hr (a_cons stays_dv (v_ (by kernel_rfl)) (a_cons stays_dv (v_ (by kernel_rfl)) (a_cons stays_dv (v_ (by kernel_rfl)) a_nil rfl) rfl) rfl) (short_ (lenS_ (lenS_ (lenS_ len0_))) (by decide)) rfl rfl rfl rfl) rfl)
  (p_one (p_ret (e_callTy b_tuple rfl M.b_tuple bt_tuple (a_cons stays_dvp (PE.pk (c_ (Cs.c33) hr (a_cons stays_arg (e_adat (e_tup (a_cons stays_dv (v_ (by kernel_rfl)) (a_cons stays_dv (v_ (by kernel_rfl)) (a_cons stays_dv (e_neg (v_ (by kernel_rfl))) a_nil rfl) rfl) rfl) (short_ (lenS_ (lenS_ (lenS_ len0_))) (by decide)))) a_nil rfl) rfl rfl rfl rfl)) a_nil rfl) (by decide) rfl rfl rfl))))
theorem P61 (M : Ms K mg) (Cs : Css P w K mg base m cf) (hr : Room m (A.deeper (envOfC "fits" (defScope (top 92)) s.heap.objs.size f cdv))) (z0 : ZOk H0 Z0) :
    PSs (cxOf CX0 P w K mg base N61 "fits" (defScope (top 92)) f cdv A outer s H E).nox (defBody (top 92)) (lS K c H0 Z0 (F61 cf)) :=
  have hN : N61.Nodup := by decide +kernel
  have hu := hr.units
  have hu6 := room66 hr
  (p_cons (p_if (PW.pt (t_or (t_not (t_val (c_ (Cs.c2) hr (a_cons stays_arg (e_adat (v_ (by kernel_rfl))) (a_cons stays_arg (e_adat e_int) (a_cons stays_arg (e_adat e_int) a_nil rfl) rfl) rfl) rfl rfl rfl rfl) (fun _ => rfl))) (to1_ (t_not (t_val (e_callB (b_all rfl) rfl M.b_all bt_all (a_cons stays_dvp (PE.pk (e_lc (own := [("own", 1)]) (is := [1]) rfl hN (i_seq lkK (l_ (by kernel_rfl))) (blkOk_by (by kernel_rfl)) (by decide) (fun _ _ _ _ _ => (g_nm hN rfl (.inl rfl) (.inr rfl))) (fun _ _ _ _ _ => tl_nil) (fun _ _ _ _ _ => (c_ (Cs.c4) hr (a_cons stays_arg (e_adat (v_ (by kernel_rfl))) a_nil rfl) rfl rfl rfl rfl)) (fun _ => rfl))) a_nil rfl) (by decide) rfl rfl rfl) (fun _ => rfl)))))) (p_one (p_ret e_bl)) p_nil)
  (p_one (p_ret (e_callB (b_all rfl) rfl M.b_all bt_all (a_cons stays_dvp (PE.pk (e_lc (own := [("top", 2), ("bottom", 3)]) (is := [2, 3]) rfl hN (i_seq lkK (l_ (by kernel_rfl))) (blkOk_by (by kernel_rfl)) (by decide) (fun _ _ _ _ _ => (g_tp rfl (g_cs (g_nm hN rfl (.inl rfl) (.inr rfl)) (g_cs (g_nm hN rfl (.inl rfl) (.inr rfl)) g_nl rfl) rfl) (gCs_len (gCs_len gNl_len)) rfl rfl)) (fun _ _ _ _ _ => tl_nil) (fun _ _ _ _ _ => (e_and (che_ (o_lt hu) (o_le hu) (PE.pk e_int) (l_ (by kernel_rfl)) (PE.pk (k_ M.k_GREAT_trianglesby rfl rfl)) (by with_unfolding_all rfl)) (one_ (e_cmp (o_le hu) (l_ (by kernel_rfl)) (PE.pk (k_ M.k_GREAT_trianglesby rfl rfl)) (nomark _))))) (fun _ => rfl))) a_nil rfl) (by decide) rfl rfl rfl))))
theorem P62 (M : Ms K mg) (Cs : Css P w K mg base m cf) (hr : Room m (A.deeper (envOfC "need_squares" (defScope (top 94)) s.heap.objs.size f cdv))) (z0 : ZOk H0 Z0) :
    PSs (cxOf CX0 P w K mg base N62 "need_squares" (defScope (top 94)) f cdv A outer s H E).nox (defBody (top 94)) (lS K c H0 Z0 (F62 cf)) :=
  have hN : N62.Nodup := by decide +kernel
  have hu := hr.units
  have hu6 := room66 hr
  (p_one (p_if (t_not (t_val (c_ (Cs.c61) hr (a_cons stays_arg (e_adat (v_ (by kernel_rfl))) a_nil rfl) rfl rfl rfl rfl) (fun _ => rfl))) (p_one p_never) p_nil))
theorem P63 (M : Ms K mg) (Cs : Css P w K mg base m cf) (hr : Room m (A.deeper (envOfC "spread" (defScope (top 95)) s.heap.objs.size f cdv))) (z0 : ZOk H0 Z0) :
    PSs (cxOf CX0 P w K mg base N63 "spread" (defScope (top 95)) f cdv A outer s H E).nox (defBody (top 95)) (lS K c H0 Z0 (F63 cf)) :=
  have hN : N63.Nodup := by decide +kernel
  have hu := hr.units
  have hu6 := room66 hr
  (p_cons (p_asg (v_ (by kernel_rfl)) (g_tp rfl (g_cs (g_nm hN rfl (.inl rfl) (.inl rfl)) (g_cs (g_nm hN rfl (.inl rfl) (.inl rfl)) (g_cs (g_nm hN rfl (.inl rfl) (.inl rfl)) g_nl rfl) rfl) rfl) (gCs_len (gCs_len (gCs_len gNl_len))) rfl rfl) rfl rfl rfl)
  (p_cons (p_set hN rfl (.inl rfl) (w_sh (c_ (Cs.c7) hr (a_cons stays_arg (e_adat (e_tup (a_cons stays_dv e_int (a_cons stays_dv e_int a_nil rfl) rfl) (short_ (lenS_ (lenS_ len0_)) (by decide)))) (a_cons stays_arg (e_adat (c_ (Cs.c6) hr (a_cons stays_arg (e_adat (c_ (Cs.c6) hr (a_cons stays_arg (e_adat (c_ (Cs.c7) hr (a_cons stays_arg (e_adat (v_ (by kernel_rfl))) (a_cons stays_arg (e_adat (v_ (by kernel_rfl))) a_nil rfl) rfl) rfl rfl rfl rfl)) (a_cons stays_arg (e_adat (c_ (Cs.c7) hr (a_cons stays_arg (e_adat (v_ (by kernel_rfl))) (a_cons stays_arg (e_adat (v_ (by kernel_rfl))) a_nil rfl) rfl) rfl rfl rfl rfl)) a_nil rfl) rfl) rfl rfl rfl rfl)) (a_cons stays_arg (e_adat (c_ (Cs.c7) hr (a_cons stays_arg (e_adat (v_ (by kernel_rfl))) (a_cons stays_arg (e_adat (v_ (by kernel_rfl))) a_nil rfl) rfl) rfl rfl rfl rfl)) a_nil rfl) rfl) rfl rfl rfl rfl)) a_nil rfl) rfl) rfl rfl rfl rfl)) rfl (.inl rfl))
  (p_cons (p_for .never rfl (i_seq lkL (v_ (by kernel_rfl))) (g_nm hN rfl (.inl rfl) (.inl rfl)) (p_cons (p_set hN rfl (.inl rfl) (w_sh (c_ (Cs.c7) hr (a_cons stays_arg (e_adat (v_ (by kernel_rfl))) (a_cons stays_arg (e_adat (v_ (by kernel_rfl))) a_nil rfl) rfl) rfl rfl rfl rfl)) rfl (.inl rfl))
  (p_one (p_set hN rfl (.inl rfl) (w_sh (c_ (Cs.c6) hr (a_cons stays_arg (e_adat (v_ (by kernel_rfl))) (a_cons stays_arg (e_adat (e_tup (a_cons stays_dv (e_neg (e_ix o_ix (l_ (by kernel_rfl)) (PE.pk e_int) (fun _ _ => rfl))) (a_cons stays_dv (e_ix o_ix (l_ (by kernel_rfl)) (PE.pk e_int) (fun _ _ => rfl)) a_nil rfl) rfl) (short_ (lenS_ (lenS_ len0_)) (by decide)))) a_nil rfl) rfl) rfl rfl rfl rfl)) rfl (.inl rfl)))) (fun _ => rfl))
  (p_one (p_ret (v_ (by kernel_rfl)))))))
theorem P64 (M : Ms K mg) (Cs : Css P w K mg base m cf) (hr : Room m (A.deeper (envOfC "across" (defScope (top 96)) s.heap.objs.size f cdv))) (z0 : ZOk H0 Z0) :
    PSs (cxOf CX0 P w K mg base N64 "across" (defScope (top 96)) f cdv A outer s H E).nox (defBody (top 96)) (lS K c H0 Z0 (F64 cf)) :=
  have hN : N64.Nodup := by decide +kernel
  have hu := hr.units
  have hu6 := room66 hr
  (p_cons (p_set hN rfl (.inl rfl) (w_lst a_nil (short_ len0_ (by decide))) rfl (.inl rfl))
  (p_cons (p_for .never rfl (i_rng1 rfl M.b_range (a_cons stays_dvp (PE.pk e_int) a_nil rfl) (lenS_ len0_) rfl) (g_nm hN rfl (.inl rfl) (.inl rfl)) (p_cons (p_par2 rfl hN rfl rfl (by decide) rfl rfl (w_sh (e_ix o_ix (l_ (by kernel_rfl)) (l_ (by kernel_rfl)) (fun _ _ => rfl))) (w_sh (c_ (Cs.c6) hr (a_cons stays_arg (e_adat (e_ix o_ix (l_ (by kernel_rfl)) (PE.pk (e_bin o_sub (l_ (by kernel_rfl)) (PE.pk e_int))) (fun _ _ => rfl))) (a_cons stays_arg (e_adat (e_ix o_ix (l_ (by kernel_rfl)) (PE.pk (e_bin o_sub (l_ (by kernel_rfl)) (PE.pk e_int))) (fun _ _ => rfl))) a_nil rfl) rfl) rfl rfl rfl rfl)) rfl rfl rfl rfl)
  (p_one (app_ (by kernel_rfl) (c_ (Cs.c7) hr (a_cons stays_arg (e_adat (v_ (by kernel_rfl))) (a_cons stays_arg (e_adat (c_ (Cs.c6) hr (a_cons stays_arg (e_adat (c_ (Cs.c7) hr (a_cons stays_arg (e_adat (e_tup (a_cons stays_dv e_int (a_cons stays_dv e_int a_nil rfl) rfl) (short_ (lenS_ (lenS_ len0_)) (by decide)))) (a_cons stays_arg (e_adat (v_ (by kernel_rfl))) a_nil rfl) rfl) rfl rfl rfl rfl)) (a_cons stays_arg (e_adat (e_tup (a_cons stays_dv (e_neg (e_ix o_ix (l_ (by kernel_rfl)) (PE.pk e_int) (fun _ _ => rfl))) (a_cons stays_dv (e_ix o_ix (l_ (by kernel_rfl)) (PE.pk e_int) (fun _ _ => rfl)) a_nil rfl) rfl) (short_ (lenS_ (lenS_ len0_)) (by decide)))) a_nil rfl) rfl) rfl rfl rfl rfl)) a_nil rfl) rfl) rfl rfl rfl rfl) rfl rfl (by rfl) rfl rfl rfl))) (fun _ => rfl))
  (p_one (p_ret (e_callTy b_tuple rfl M.b_tuple bt_tuple (a_cons stays_dvp (l_ (by kernel_rfl)) a_nil rfl) (by decide) rfl rfl rfl)))))
theorem P65 (M : Ms K mg) (Cs : Css P w K mg base m cf) (hr : Room m (A.deeper (envOfC "need_sides" (defScope (top 97)) s.heap.objs.size f cdv))) (z0 : ZOk H0 Z0) :
    PSs (cxOf CX0 P w K mg base N65 "need_sides" (defScope (top 97)) f cdv A outer s H E).nox (defBody (top 97)) (lS K c H0 Z0 (F65 cf)) :=
  have hN : N65.Nodup := by decide +kernel
  have hu := hr.units
  have hu6 := room66 hr
  (p_cons (p_drop (c_ (Cs.c62) hr (a_cons stays_arg (e_adat (v_ (by kernel_rfl))) a_nil rfl) rfl rfl rfl rfl) rfl)
  (p_one (p_if (t_cmp (o_le hu) (PE.pk (e_ix o_ix (PE.pk (c_ (Cs.c63) hr (a_cons stays_arg (e_adat (v_ (by kernel_rfl))) a_nil rfl) rfl rfl rfl rfl)) (PE.pk e_int) (fun _ _ => rfl))) (PE.pk e_int) (nomark _)) (p_one p_never) p_nil)))
theorem P66 (M : Ms K mg) (Cs : Css P w K mg base m cf) (hr : Room m (A.deeper (envOfC "are_sides" (defScope (top 98)) s.heap.objs.size f cdv))) (z0 : ZOk H0 Z0) :
    PSs (cxOf CX0 P w K mg base N66 "are_sides" (defScope (top 98)) f cdv A outer s H E).nox (defBody (top 98)) (lS K c H0 Z0 (F66 cf)) :=
  have hN : N66.Nodup := by decide +kernel
  have hu := hr.units
  have hu6 := room66 hr
  (p_cons (p_drop (c_ (Cs.c62) hr (a_cons stays_arg (e_adat (v_ (by kernel_rfl))) a_nil rfl) rfl rfl rfl rfl) rfl)
  (p_one (p_ret (e_cmp (o_gt hu) (PE.pk (e_ix o_ix (PE.pk (c_ (Cs.c63) hr (a_cons stays_arg (e_adat (v_ (by kernel_rfl))) a_nil rfl) rfl rfl rfl rfl)) (PE.pk e_int) (fun _ _ => rfl))) (PE.pk e_int) (nomark _)))))
theorem P67 (M : Ms K mg) (Cs : Css P w K mg base m cf) (hr : Room m (A.deeper (envOfC "medians_of" (defScope (top 99)) s.heap.objs.size f cdv))) (z0 : ZOk H0 Z0) :
    PSs (cxOf CX0 P w K mg base N67 "medians_of" (defScope (top 99)) f cdv A outer s H E).nox (defBody (top 99)) (lS K c H0 Z0 (F67 cf)) :=
  have hN : N67.Nodup := by decide +kernel
  have hu := hr.units
  have hu6 := room66 hr
  (p_cons (p_drop (c_ (Cs.c65) hr (a_cons stays_arg (e_adat (v_ (by kernel_rfl))) a_nil rfl) rfl rfl rfl rfl) rfl)
  (p_one (p_ret (c_ (Cs.c64) hr (a_cons stays_arg (e_adat (v_ (by kernel_rfl))) (a_cons stays_arg (e_adat (e_tup (a_cons stays_dv e_int (a_cons stays_dv e_int a_nil rfl) rfl) (short_ (lenS_ (lenS_ len0_)) (by decide)))) a_nil rfl) rfl) rfl rfl rfl rfl))))
theorem P68 (M : Ms K mg) (Cs : Css P w K mg base m cf) (hr : Room m (A.deeper (envOfC "area_square" (defScope (top 100)) s.heap.objs.size f cdv))) (z0 : ZOk H0 Z0) :
    PSs (cxOf CX0 P w K mg base N68 "area_square" (defScope (top 100)) f cdv A outer s H E).nox (defBody (top 100)) (lS K c H0 Z0 (F68 cf)) :=
  have hN : N68.Nodup := by decide +kernel
  have hu := hr.units
  have hu6 := room66 hr
  (p_cons (p_drop (c_ (Cs.c65) hr (a_cons stays_arg (e_adat (v_ (by kernel_rfl))) a_nil rfl) rfl rfl rfl rfl) rfl)
  (p_one (p_ret (c_ (Cs.c7) hr (a_cons stays_arg (e_adat (e_tup (a_cons stays_dv e_int (a_cons stays_dv e_int a_nil rfl) rfl) (short_ (lenS_ (lenS_ len0_)) (by decide)))) (a_cons stays_arg (e_adat (c_ (Cs.c63) hr (a_cons stays_arg (e_adat (v_ (by kernel_rfl))) a_nil rfl) rfl rfl rfl rfl)) a_nil rfl) rfl) rfl rfl rfl rfl))))
theorem P69 (M : Ms K mg) (Cs : Css P w K mg base m cf) (hr : Room m (A.deeper (envOfC "_law_cup" (defScope (top 102)) s.heap.objs.size f cdv))) (z0 : ZOk H0 Z0) :
    PSs (cxOf CX0 P w K mg base N69 "_law_cup" (defScope (top 102)) f cdv A outer s H E).nox (defBody (top 102)) (lS K c H0 Z0 (F69 cf)) :=
  have hN : N69.Nodup := by decide +kernel
  have hu := hr.units
  have hu6 := room66 hr
  (p_cons (p_set hN rfl (.inl rfl) (w_sh (e_callB b_abs rfl M.b_abs bt_abs (a_cons stays_dvp (PE.pk (e_ix o_ix (PE.pk (e_bin o_add (PE.pk (e_callTy b_list rfl M.b_list bt_list (a_cons stays_dvp (l_ (by kernel_rfl)) a_nil rfl) (by decide) rfl rfl rfl)) (PE.pk (e_lst (a_cons stays_dv e_int a_nil rfl) (short_ (lenS_ len0_) (by decide)))))) (PE.pk e_int) (fun _ _ => rfl))) a_nil rfl) (by decide) rfl rfl rfl)) rfl (.inl rfl))
  (p_one (p_ret (e_lst (a_cons stays_dv (e_if (t_cmp (o_ge hu) (l_ (by kernel_rfl)) (PE.pk (e_bin o_pow (PE.pk e_int) (PE.pk e_int))) (nomark _)) (e_bin o_div (l_ (by kernel_rfl)) (PE.pk e_int)) e_int) (a_cons stays_dv (e_bin o_add (PE.pk (e_bin o_mod (PE.pk (e_callTy b_int rfl M.b_int bt_int (a_cons stays_dvp (PE.pk (e_bin o_add (PE.pk (e_bin o_mul (l_ (by kernel_rfl)) (PE.pk e_int))) (PE.pk e_int))) a_nil rfl) (by decide) rfl rfl rfl)) (PE.pk e_int))) (PE.pk e_int)) a_nil rfl) rfl) (short_ (lenS_ (lenS_ len0_)) (by decide))))))
theorem P70 (M : Ms K mg) (Cs : Css P w K mg base m cf) (hr : Room m (A.deeper (envOfC "_law_roll" (defScope (top 103)) s.heap.objs.size f cdv))) (z0 : ZOk H0 Z0) :
    PSs (cxOf CX0 P w K mg base N70 "_law_roll" (defScope (top 103)) f cdv A outer s H E).nox (defBody (top 103)) (lS K c H0 Z0 (F70 cf)) :=
  have hN : N70.Nodup := by decide +kernel
  have hu := hr.units
  have hu6 := room66 hr
  (p_cons (p_if (t_cmp (o_gt hu) (PE.pk (cup_ (by kernel_rfl) e_int (fun _ _ => rfl))) (PE.pk e_int) (nomark _)) (p_cons (p_set hN rfl (.inl rfl) (w_sh (e_bin o_mod (PE.pk (e_callTy b_int rfl M.b_int bt_int (a_cons stays_dvp (PE.pk (cup_ (by kernel_rfl) e_int (fun _ _ => rfl))) a_nil rfl) (by decide) rfl rfl rfl)) (l_ (by kernel_rfl)))) rfl (.inl rfl))
  (p_cons (cupst_ (by kernel_rfl) e_int (e_bin o_div (PE.pk (cup_ (by kernel_rfl) e_int (fun _ _ => rfl))) (l_ (by kernel_rfl))) (fun _ => rfl) rfl rfl rfl)
  (p_one (p_ret (v_ (by kernel_rfl)))))) p_nil)
  (p_cons (cupst_ (by kernel_rfl) e_int (e_bin o_mod (PE.pk (e_callTy b_int rfl M.b_int bt_int (a_cons stays_dvp (PE.pk (e_bin o_add (PE.pk (e_bin o_mul (PE.pk (cup_ (by kernel_rfl) e_int (fun _ _ => rfl))) (PE.pk e_int))) (PE.pk e_int))) a_nil rfl) (by decide) rfl rfl rfl)) (PE.pk e_int)) (fun _ => rfl) rfl rfl rfl)
  (p_one (p_ret (e_bin o_mod (PE.pk (e_callTy b_int rfl M.b_int bt_int (a_cons stays_dvp (PE.pk (e_bin o_div (PE.pk (cup_ (by kernel_rfl) e_int (fun _ _ => rfl))) (PE.pk e_int))) a_nil rfl) (by decide) rfl rfl rfl)) (l_ (by kernel_rfl)))))))
theorem P71 (M : Ms K mg) (Cs : Css P w K mg base m cf) (hr : Room m (A.deeper (envOfC "_law_gcd" (defScope (top 104)) s.heap.objs.size f cdv))) (z0 : ZOk H0 Z0) :
    PSs (cxOf CX0 P w K mg base N71 "_law_gcd" (defScope (top 104)) f cdv A outer s H E).nox (defBody (top 104)) (lS K c H0 Z0 (F71 cf)) :=
  have hN : N71.Nodup := by decide +kernel
  have hu := hr.units
  have hu6 := room66 hr
  (p_cons (p_par2 rfl hN rfl rfl (by decide) rfl rfl (w_sh (e_callB b_abs rfl M.b_abs bt_abs (a_cons stays_dvp (l_ (by kernel_rfl)) a_nil rfl) (by decide) rfl rfl rfl)) (w_sh (e_callB b_abs rfl M.b_abs bt_abs (a_cons stays_dvp (l_ (by kernel_rfl)) a_nil rfl) (by decide) rfl rfl rfl)) rfl rfl rfl rfl)
  (p_cons (p_for .never rfl (i_rng1 rfl M.b_range (a_cons stays_dvp (PE.pk e_int) a_nil rfl) (lenS_ len0_) rfl) (g_nm hN rfl (.inl rfl) (.inl rfl)) (p_cons (p_if (t_cmp (o_eq hu) (l_ (by kernel_rfl)) (PE.pk e_int) (nomark _)) (p_one (p_ret (v_ (by kernel_rfl)))) p_nil)
  (p_one (p_par2 rfl hN rfl rfl (by decide) rfl rfl (w_sh (v_ (by kernel_rfl))) (w_sh (e_bin o_mod (PE.pk (e_callTy b_int rfl M.b_int bt_int (a_cons stays_dvp (l_ (by kernel_rfl)) a_nil rfl) (by decide) rfl rfl rfl)) (l_ (by kernel_rfl)))) rfl rfl rfl rfl))) (fun _ => rfl))
  (p_one (p_ret (v_ (by kernel_rfl))))))
theorem P72 (M : Ms K mg) (Cs : Css P w K mg base m cf) (hr : Room m (A.deeper (envOfC "_law_cross" (defScope (top 105)) s.heap.objs.size f cdv))) (z0 : ZOk H0 Z0) :
    PSs (cxOf CX0 P w K mg base N72 "_law_cross" (defScope (top 105)) f cdv A outer s H E).nox (defBody (top 105)) (lS K c H0 Z0 (F72 cf)) :=
  have hN : N72.Nodup := by decide +kernel
  have hu := hr.units
  have hu6 := room66 hr
  (p_one (p_ret (e_tup (a_cons stays_dv (e_bin o_sub (PE.pk (e_bin o_mul (PE.pk (e_ix o_ix (l_ (by kernel_rfl)) (PE.pk e_int) (fun _ _ => rfl))) (PE.pk (e_ix o_ix (l_ (by kernel_rfl)) (PE.pk e_int) (fun _ _ => rfl))))) (PE.pk (e_bin o_mul (PE.pk (e_ix o_ix (l_ (by kernel_rfl)) (PE.pk e_int) (fun _ _ => rfl))) (PE.pk (e_ix o_ix (l_ (by kernel_rfl)) (PE.pk e_int) (fun _ _ => rfl)))))) (a_cons stays_dv (e_bin o_sub (PE.pk (e_bin o_mul (PE.pk (e_ix o_ix (l_ (by kernel_rfl)) (PE.pk e_int) (fun _ _ => rfl))) (PE.pk (e_ix o_ix (l_ (by kernel_rfl)) (PE.pk e_int) (fun _ _ => rfl))))) (PE.pk (e_bin o_mul (PE.pk (e_ix o_ix (l_ (by kernel_rfl)) (PE.pk e_int) (fun _ _ => rfl))) (PE.pk (e_ix o_ix (l_ (by kernel_rfl)) (PE.pk e_int) (fun _ _ => rfl)))))) (a_cons stays_dv (e_bin o_sub (PE.pk (e_bin o_mul (PE.pk (e_ix o_ix (l_ (by kernel_rfl)) (PE.pk e_int) (fun _ _ => rfl))) (PE.pk (e_ix o_ix (l_ (by kernel_rfl)) (PE.pk e_int) (fun _ _ => rfl))))) (PE.pk (e_bin o_mul (PE.pk (e_ix o_ix (l_ (by kernel_rfl)) (PE.pk e_int) (fun _ _ => rfl))) (PE.pk (e_ix o_ix (l_ (by kernel_rfl)) (PE.pk e_int) (fun _ _ => rfl)))))) a_nil rfl) rfl) rfl) (short_ (lenS_ (lenS_ (lenS_ len0_))) (by decide)))))
theorem P73 (M : Ms K mg) (Cs : Css P w K mg base m cf) (hr : Room m (A.deeper (envOfC "_law_plain" (defScope (top 106)) s.heap.objs.size f cdv))) (z0 : ZOk H0 Z0) :
    PSs (cxOf CX0 P w K mg base N73 "_law_plain" (defScope (top 106)) f cdv A outer s H E).nox (defBody (top 106)) (lS K c H0 Z0 (F73 cf)) :=
  have hN : N73.Nodup := by decide +kernel
  have hu := hr.units
  have hu6 := room66 hr
  (p_cons (p_set hN rfl (.inl rfl) (w_sh (c_ (Cs.c71) hr (a_cons stays_arg (e_adat (c_ (Cs.c71) hr (a_cons stays_arg (e_adat (e_ix o_ix (l_ (by kernel_rfl)) (PE.pk e_int) (fun _ _ => rfl))) (a_cons stays_arg (e_adat (e_ix o_ix (l_ (by kernel_rfl)) (PE.pk e_int) (fun _ _ => rfl))) a_nil rfl) rfl) rfl rfl rfl rfl)) (a_cons stays_arg (e_adat (e_ix o_ix (l_ (by kernel_rfl)) (PE.pk e_int) (fun _ _ => rfl))) a_nil rfl) rfl) rfl rfl rfl rfl)) rfl (.inl rfl))
  (p_cons (p_set hN rfl (.inl rfl) (w_sh (e_ix o_ix (PE.pk (e_lc (own := [("part", 3)]) (is := [3]) rfl hN (i_seq lkK (l_ (by kernel_rfl))) (blkOk_by (by kernel_rfl)) (by decide) (fun _ _ _ _ _ => (g_nm hN rfl (.inl rfl) (.inr rfl))) (fun _ _ _ _ _ => (tl_one (t_cmp (o_ne hu) (l_ (by kernel_rfl)) (PE.pk e_int) (nomark _)))) (fun _ _ _ _ _ => (v_ (by kernel_rfl))) (fun _ => rfl))) (PE.pk e_int) (fun _ _ => rfl))) rfl (.inl rfl))
  (p_cons (p_set hN rfl (.inl rfl) (w_sh (e_if (t_cmp (o_gt hu) (l_ (by kernel_rfl)) (PE.pk e_int) (nomark _)) (v_ (by kernel_rfl)) (e_neg (v_ (by kernel_rfl))))) rfl (.inl rfl))
  (p_one (p_ret (e_tup (a_cons stays_dv (e_bin o_div (PE.pk (e_ix o_ix (l_ (by kernel_rfl)) (PE.pk e_int) (fun _ _ => rfl))) (l_ (by kernel_rfl))) (a_cons stays_dv (e_bin o_div (PE.pk (e_ix o_ix (l_ (by kernel_rfl)) (PE.pk e_int) (fun _ _ => rfl))) (l_ (by kernel_rfl))) (a_cons stays_dv (e_bin o_div (PE.pk (e_ix o_ix (l_ (by kernel_rfl)) (PE.pk e_int) (fun _ _ => rfl))) (l_ (by kernel_rfl))) a_nil rfl) rfl) rfl) (short_ (lenS_ (lenS_ (lenS_ len0_))) (by decide))))))))
theorem P74 (M : Ms K mg) (Cs : Css P w K mg base m cf) (hr : Room m (A.deeper (envOfC "_law_low" (defScope (top 107)) s.heap.objs.size f cdv))) (z0 : ZOk H0 Z0) :
    PSs (cxOf CX0 P w K mg base N74 "_law_low" (defScope (top 107)) f cdv A outer s H E).nox (defBody (top 107)) (lS K c H0 Z0 (F74 cf)) :=
  have hN : N74.Nodup := by decide +kernel
  have hu := hr.units
  have hu6 := room66 hr
  (p_cons (p_set hN rfl (.inl rfl) (w_sh (e_if (t_cmp (o_gt hu) (l_ (by kernel_rfl)) (PE.pk e_int) (nomark _)) (c_ (Cs.c71) hr (a_cons stays_arg (e_adat (v_ (by kernel_rfl))) (a_cons stays_arg (e_adat (v_ (by kernel_rfl))) a_nil rfl) rfl) rfl rfl rfl rfl) (e_neg (c_ (Cs.c71) hr (a_cons stays_arg (e_adat (v_ (by kernel_rfl))) (a_cons stays_arg (e_adat (v_ (by kernel_rfl))) a_nil rfl) rfl) rfl rfl rfl rfl)))) rfl (.inl rfl))
  (p_one (p_ret (e_tup (a_cons stays_dv (e_bin o_div (l_ (by kernel_rfl)) (l_ (by kernel_rfl))) (a_cons stays_dv (e_bin o_div (l_ (by kernel_rfl)) (l_ (by kernel_rfl))) a_nil rfl) rfl) (short_ (lenS_ (lenS_ len0_)) (by decide))))))
theorem P75 (M : Ms K mg) (Cs : Css P w K mg base m cf) (hr : Room m (A.deeper (envOfC "_law_is_square" (defScope (top 108)) s.heap.objs.size f cdv))) (z0 : ZOk H0 Z0) :
    PSs (cxOf CX0 P w K mg base N75 "_law_is_square" (defScope (top 108)) f cdv A outer s H E).nox (defBody (top 108)) (lS K c H0 Z0 (F75 cf)) :=
  have hN : N75.Nodup := by decide +kernel
  have hu := hr.units
  have hu6 := room66 hr
  (p_cons (p_par2 rfl hN rfl rfl (by decide) rfl rfl (w_sh e_int) (w_sh (e_bin o_add (l_ (by kernel_rfl)) (PE.pk e_int))) rfl rfl rfl rfl)
  (p_cons (p_for .never rfl (i_rng1 rfl M.b_range (a_cons stays_dvp (PE.pk e_int) a_nil rfl) (lenS_ len0_) rfl) (g_nm hN rfl (.inl rfl) (.inl rfl)) (p_cons (p_set hN rfl (.inl rfl) (w_sh (e_bin o_div (PE.pk (e_bin o_add (l_ (by kernel_rfl)) (l_ (by kernel_rfl)))) (PE.pk e_int))) rfl (.inl rfl))
  (p_one (p_if (t_cmp (o_gt hu) (PE.pk (e_bin o_sub (l_ (by kernel_rfl)) (l_ (by kernel_rfl)))) (PE.pk e_int) (nomark _)) (p_one (p_asg (e_if (t_cmp (o_le hu) (PE.pk (e_bin o_mul (l_ (by kernel_rfl)) (l_ (by kernel_rfl)))) (l_ (by kernel_rfl)) (nomark _)) (e_tup (a_cons stays_dv (v_ (by kernel_rfl)) (a_cons stays_dv (v_ (by kernel_rfl)) a_nil rfl) rfl) (short_ (lenS_ (lenS_ len0_)) (by decide))) (e_tup (a_cons stays_dv (v_ (by kernel_rfl)) (a_cons stays_dv (v_ (by kernel_rfl)) a_nil rfl) rfl) (short_ (lenS_ (lenS_ len0_)) (by decide)))) (g_tp rfl (g_cs (g_nm hN rfl (.inl rfl) (.inl rfl)) (g_cs (g_nm hN rfl (.inl rfl) (.inl rfl)) g_nl rfl) rfl) (gCs_len (gCs_len gNl_len)) rfl rfl) rfl rfl rfl)) p_nil))) (fun _ => rfl))
  (p_one (p_ret (e_cmp (o_eq hu) (PE.pk (e_bin o_mul (l_ (by kernel_rfl)) (l_ (by kernel_rfl)))) (l_ (by kernel_rfl)) (nomark _))))))
theorem P76 (M : Ms K mg) (Cs : Css P w K mg base m cf) (hr : Room m (A.deeper (envOfC "_law_by_primes" (defScope (top 109)) s.heap.objs.size f cdv))) (z0 : ZOk H0 Z0) :
    PSs (cxOf CX0 P w K mg base N76 "_law_by_primes" (defScope (top 109)) f cdv A outer s H E).nox (defBody (top 109)) (lS K c H0 Z0 (F76 cf)) :=
  have hN : N76.Nodup := by decide +kernel
  have hu := hr.units
  have hu6 := room66 hr
  (p_cons (p_set hN rfl (.inl rfl) (w_sh (v_ (by kernel_rfl))) rfl (.inl rfl))
  (p_cons (p_for .never rfl (i_rng2 rfl M.b_range (a_cons stays_dvp (PE.pk e_int) (a_cons stays_dvp (PE.pk (e_bin o_add (l_ (by kernel_rfl)) (PE.pk e_int))) a_nil rfl) rfl) (lenS_ (lenS_ len0_)) rfl rfl) (g_nm hN rfl (.inl rfl) (.inl rfl)) (p_cons (p_set hN rfl (.inl rfl) (w_sh e_int) rfl (.inl rfl))
  (p_cons (p_for .never rfl (i_rng1 rfl M.b_range (a_cons stays_dvp (PE.pk e_int) a_nil rfl) (lenS_ len0_) rfl) (g_nm hN rfl (.inl rfl) (.inl rfl)) (p_one (p_if (t_cmp (o_eq hu) (PE.pk (e_bin o_mul (PE.pk (e_bin o_div (l_ (by kernel_rfl)) (l_ (by kernel_rfl)))) (l_ (by kernel_rfl)))) (l_ (by kernel_rfl)) (nomark _)) (p_one (p_par2 rfl hN rfl rfl (by decide) rfl rfl (w_sh (e_bin o_div (l_ (by kernel_rfl)) (l_ (by kernel_rfl)))) (w_sh (e_bin o_add (l_ (by kernel_rfl)) (PE.pk e_int))) rfl rfl rfl rfl)) p_nil)) (fun _ => rfl))
  (p_one (p_if (PW.pt (t_and (t_cmp (o_eq hu) (PE.pk (e_bin o_mod (PE.pk (e_callTy b_int rfl M.b_int bt_int (a_cons stays_dvp (l_ (by kernel_rfl)) a_nil rfl) (by decide) rfl rfl rfl)) (PE.pk e_int))) (PE.pk e_int) (nomark _)) (ta1_ (t_cmp (o_eq hu) (PE.pk (e_bin o_mod (PE.pk (e_callTy b_int rfl M.b_int bt_int (a_cons stays_dvp (l_ (by kernel_rfl)) a_nil rfl) (by decide) rfl rfl rfl)) (PE.pk e_int))) (PE.pk e_int) (nomark _))))) (p_one (p_ret e_bl)) p_nil)))) (fun _ => rfl))
  (p_one (p_ret e_bl))))
theorem P77 (M : Ms K mg) (Cs : Css P w K mg base m cf) (hr : Room m (A.deeper (envOfC "_law_sums_right" (defScope (top 110)) s.heap.objs.size f cdv))) (z0 : ZOk H0 Z0) :
    PSs (cxOf CX0 P w K mg base N77 "_law_sums_right" (defScope (top 110)) f cdv A outer s H E).nox (defBody (top 110)) (lS K c H0 Z0 (F77 cf)) :=
  have hN : N77.Nodup := by decide +kernel
  have hu := hr.units
  have hu6 := room66 hr
  (p_cons (p_par2 rfl hN rfl rfl (by decide) rfl rfl (w_sh (c_ (Cs.c58) hr (a_cons stays_arg (e_adat e_int) (a_cons stays_arg (e_adat e_int) (a_cons stays_arg (e_adat (v_ (by kernel_rfl))) a_nil rfl) rfl) rfl) rfl rfl rfl rfl)) (w_sh (c_ (Cs.c60) hr (a_cons stays_arg (e_adat e_int) (a_cons stays_arg (e_adat e_int) (a_cons stays_arg (e_adat (v_ (by kernel_rfl))) a_nil rfl) rfl) rfl) rfl rfl rfl rfl)) rfl rfl rfl rfl)
  (p_cons (p_set hN rfl (.inl rfl) (w_sh (c_ (Cs.c76) hr (a_cons stays_arg (e_adat (v_ (by kernel_rfl))) a_nil rfl) rfl rfl rfl rfl)) rfl (.inl rfl))
  (p_cons (p_if (PW.pt (t_or (t_cmp (o_ne hu) (PE.pk (e_cmp o_isNot (l_ (by kernel_rfl)) (PE.pk e_non) (nomark _))) (l_ (by kernel_rfl)) (nomark _)) (to1_ (t_cmp (o_ne hu) (PE.pk (e_cmp (o_eq hu) (l_ (by kernel_rfl)) (PE.pk (e_tup a_nil (short_ len0_ (by decide)))) (nomark _))) (l_ (by kernel_rfl)) (nomark _))))) (p_one (p_ret e_bl)) p_nil)
  (p_cons (p_if (t_cmp o_is (l_ (by kernel_rfl)) (PE.pk e_non) (nomark _)) (p_one (p_ret e_bl)) p_nil)
  (p_cons (p_if (t_cmp o_isNot (PE.pk (c_ (Cs.c59) hr (a_cons stays_arg (e_adat e_int) (a_cons stays_arg (e_adat e_int) (a_cons stays_arg (e_adat (v_ (by kernel_rfl))) (a_cons stays_arg (e_adat (v_ (by kernel_rfl))) a_nil rfl) rfl) rfl) rfl) rfl rfl rfl rfl)) (PE.pk e_bl) (nomark _)) (p_one (p_ret e_bl)) p_nil)
  (p_cons (p_if (t_cmp (o_gt hu) (PE.pk (e_callB (b_max rfl) rfl M.b_max bt_max (a_cons stays_dvp (PE.pk (e_lst (a_cons stays_dv (e_callB b_abs rfl M.b_abs bt_abs (a_cons stays_dvp (PE.pk (e_ix o_ix (PE.pk (e_ix o_ix (l_ (by kernel_rfl)) (PE.pk e_int) (fun _ _ => rfl))) (PE.pk e_int) (fun _ _ => rfl))) a_nil rfl) (by decide) rfl rfl rfl) (a_cons stays_dv (e_callB b_abs rfl M.b_abs bt_abs (a_cons stays_dvp (PE.pk (e_ix o_ix (PE.pk (e_ix o_ix (l_ (by kernel_rfl)) (PE.pk e_int) (fun _ _ => rfl))) (PE.pk e_int) (fun _ _ => rfl))) a_nil rfl) (by decide) rfl rfl rfl) (a_cons stays_dv (e_ix o_ix (PE.pk (e_ix o_ix (l_ (by kernel_rfl)) (PE.pk e_int) (fun _ _ => rfl))) (PE.pk e_int) (fun _ _ => rfl)) (a_cons stays_dv (e_ix o_ix (PE.pk (e_ix o_ix (l_ (by kernel_rfl)) (PE.pk e_int) (fun _ _ => rfl))) (PE.pk e_int) (fun _ _ => rfl)) a_nil rfl) rfl) rfl) rfl) (short_ (lenS_ (lenS_ (lenS_ (lenS_ len0_)))) (by decide)))) a_nil rfl) (by decide) rfl rfl rfl)) (PE.pk e_int) (nomark _)) (p_one (p_ret e_bl)) p_nil)
  (p_cons (p_set hN rfl (.inl rfl) (w_sh (c_ (Cs.c16) hr (a_cons stays_arg (e_adat (e_ix o_ix (l_ (by kernel_rfl)) (PE.pk e_int) (fun _ _ => rfl))) (a_cons stays_arg (e_adat (e_ix o_ix (l_ (by kernel_rfl)) (PE.pk e_int) (fun _ _ => rfl))) a_nil rfl) rfl) rfl rfl rfl rfl)) rfl (.inl rfl))
  (p_cons (p_set hN rfl (.inl rfl) (w_sh (e_tup (a_cons stays_dv (e_tup (a_cons stays_dv e_int (a_cons stays_dv e_int (a_cons stays_dv e_int a_nil rfl) rfl) rfl) (short_ (lenS_ (lenS_ (lenS_ len0_))) (by decide))) (a_cons stays_dv (v_ (by kernel_rfl)) a_nil rfl) rfl) (short_ (lenS_ (lenS_ len0_)) (by decide)))) rfl (.inl rfl))
  (p_one (p_ret (e_or (e_not (c_ (Cs.c24) hr (a_cons stays_arg (e_adat (v_ (by kernel_rfl))) a_nil rfl) rfl rfl rfl rfl)) (one_ (c_ (Cs.c78) hr (a_cons stays_arg (e_adat (v_ (by kernel_rfl))) (a_cons stays_arg (e_adat (v_ (by kernel_rfl))) a_nil rfl) rfl) rfl rfl rfl rfl)))))))))))))
theorem P78 (M : Ms K mg) (Cs : Css P w K mg base m cf) (hr : Room m (A.deeper (envOfC "_law_circle_right" (defScope (top 111)) s.heap.objs.size f cdv))) (z0 : ZOk H0 Z0) :
    PSs (cxOf CX0 P w K mg base N78 "_law_circle_right" (defScope (top 111)) f cdv A outer s H E).nox (defBody (top 111)) (lS K c H0 Z0 (F78 cf)) :=
  have hN : N78.Nodup := by decide +kernel
  have hu := hr.units
  have hu6 := room66 hr
  (p_cons (p_for .never rfl (i_seq lkL (e_tup (a_cons stays_dv e_int (a_cons stays_dv e_int (a_cons stays_dv e_int (a_cons stays_dv e_int (a_cons stays_dv (e_neg e_int) a_nil rfl) rfl) rfl) rfl) rfl) (short_ (lenS_ (lenS_ (lenS_ (lenS_ (lenS_ len0_))))) (by decide)))) (g_nm hN rfl (.inl rfl) (.inl rfl)) (p_one (p_for .never rfl (i_seq lkL (e_tup (a_cons stays_dv (e_tup (a_cons stays_dv e_int (a_cons stays_dv e_int (a_cons stays_dv (e_neg (v_ (by kernel_rfl))) a_nil rfl) rfl) rfl) (short_ (lenS_ (lenS_ (lenS_ len0_))) (by decide))) (a_cons stays_dv (e_tup (a_cons stays_dv e_int (a_cons stays_dv e_int (a_cons stays_dv (e_neg (v_ (by kernel_rfl))) a_nil rfl) rfl) rfl) (short_ (lenS_ (lenS_ (lenS_ len0_))) (by decide))) a_nil rfl) rfl) (short_ (lenS_ (lenS_ len0_)) (by decide)))) (g_nm hN rfl (.inl rfl) (.inl rfl)) (p_cons (p_set hN rfl (.inl rfl) (w_sh (c_ (Cs.c73) hr (a_cons stays_arg (e_adat (v_ (by kernel_rfl))) a_nil rfl) rfl rfl rfl rfl)) rfl (.inl rfl))
  (p_cons (p_if (t_cmp (o_ne hu) (PE.pk (c_ (Cs.c25) hr (a_cons stays_arg (e_adat (v_ (by kernel_rfl))) (a_cons stays_arg (e_adat (v_ (by kernel_rfl))) a_nil rfl) rfl) rfl rfl rfl rfl)) (PE.pk (e_tup (a_cons stays_dv (e_bin o_sub (l_ (by kernel_rfl)) (PE.pk (e_bin o_mul (l_ (by kernel_rfl)) (l_ (by kernel_rfl))))) (a_cons stays_dv e_int a_nil rfl) rfl) (short_ (lenS_ (lenS_ len0_)) (by decide)))) (nomark _)) (p_one (p_ret e_bl)) p_nil)
  (p_cons (p_set hN rfl (.inl rfl) (w_sh (c_ (Cs.c26) hr (a_cons stays_arg (e_adat (v_ (by kernel_rfl))) (a_cons stays_arg (e_adat (v_ (by kernel_rfl))) a_nil rfl) rfl) rfl rfl rfl rfl)) rfl (.inl rfl))
  (p_cons (p_set hN rfl (.inl rfl) (w_sh (e_and (e_cmp (o_ge hu) (l_ (by kernel_rfl)) (PE.pk (e_bin o_mul (l_ (by kernel_rfl)) (l_ (by kernel_rfl)))) (nomark _)) (one_ (c_ (Cs.c75) hr (a_cons stays_arg (e_adat (e_bin o_sub (l_ (by kernel_rfl)) (PE.pk (e_bin o_mul (l_ (by kernel_rfl)) (l_ (by kernel_rfl)))))) a_nil rfl) rfl rfl rfl rfl)))) rfl (.inl rfl))
  (p_cons (p_if (t_cmp (o_ne hu) (PE.pk (e_cmp (o_ne hu) (l_ (by kernel_rfl)) (PE.pk (e_tup a_nil (short_ len0_ (by decide)))) (nomark _))) (l_ (by kernel_rfl)) (nomark _)) (p_one (p_ret e_bl)) p_nil)
  (p_one (p_for .never rfl (i_seq lkL (v_ (by kernel_rfl))) (g_nm hN rfl (.inl rfl) (.inl rfl)) (p_one (p_if (t_cmp o_isNot (PE.pk (c_ (Cs.c59) hr (a_cons stays_arg (e_adat e_int) (a_cons stays_arg (e_adat e_int) (a_cons stays_arg (e_adat (v_ (by kernel_rfl))) (a_cons stays_arg (e_adat (c_ (Cs.c15) hr (a_cons stays_arg (e_adat (v_ (by kernel_rfl))) a_nil rfl) rfl rfl rfl rfl)) a_nil rfl) rfl) rfl) rfl) rfl rfl rfl rfl)) (PE.pk e_bl) (nomark _)) (p_one (p_ret e_bl)) p_nil)) (fun _ => rfl)))))))) (fun _ => rfl))) (fun _ => rfl))
  (p_one (p_ret e_bl)))
theorem P79 (M : Ms K mg) (Cs : Css P w K mg base m cf) (hr : Room m (A.deeper (envOfC "_law_points_right" (defScope (top 112)) s.heap.objs.size f cdv))) (z0 : ZOk H0 Z0) :
    PSs (cxOf CX0 P w K mg base N79 "_law_points_right" (defScope (top 112)) f cdv A outer s H E).nox (defBody (top 112)) (lS K c H0 Z0 (F79 cf)) :=
  have hN : N79.Nodup := by decide +kernel
  have hu := hr.units
  have hu6 := room66 hr
  (p_cons (p_set hN rfl (.inl rfl) (w_sh (e_tup (a_cons stays_dv e_int (a_cons stays_dv e_int (a_cons stays_dv e_int (a_cons stays_dv e_int (a_cons stays_dv e_int (a_cons stays_dv (e_neg (v_ (by kernel_rfl))) a_nil rfl) rfl) rfl) rfl) rfl) rfl) (short_ (lenS_ (lenS_ (lenS_ (lenS_ (lenS_ (lenS_ len0_)))))) (by decide)))) rfl (.inl rfl))
  (p_cons (p_if (t_cmp (o_ne hu) (PE.pk (c_ (Cs.c52) hr (a_cons stays_arg (e_adat (v_ (by kernel_rfl))) a_nil rfl) rfl rfl rfl rfl)) (PE.pk (c_ (Cs.c76) hr (a_cons stays_arg (e_adat (v_ (by kernel_rfl))) a_nil rfl) rfl rfl rfl rfl)) (nomark _)) (p_one (p_ret e_bl)) p_nil)
  (p_cons (p_for .never rfl (i_seq lkL (c_ (Cs.c53) hr (a_cons stays_arg (e_adat (v_ (by kernel_rfl))) (a_cons stays_arg (e_adat e_int) a_nil rfl) rfl) rfl rfl rfl rfl)) (g_nm hN rfl (.inl rfl) (.inl rfl)) (p_cons (p_set hN rfl (.inl rfl) (w_sh (e_tup (a_cons stays_dv (e_tup (a_cons stays_dv e_int (a_cons stays_dv e_int (a_cons stays_dv e_int a_nil rfl) rfl) rfl) (short_ (lenS_ (lenS_ (lenS_ len0_))) (by decide))) (a_cons stays_dv (v_ (by kernel_rfl)) a_nil rfl) rfl) (short_ (lenS_ (lenS_ len0_)) (by decide)))) rfl (.inl rfl))
  (p_cons (p_if (PW.pt (t_or (t_cmp (o_eq hu) (PE.pk (e_ix o_ix (l_ (by kernel_rfl)) (PE.pk e_int) (fun _ _ => rfl))) (PE.pk e_int) (nomark _)) (t_or (t_cmp o_isNot (PE.pk (c_ (Cs.c59) hr (a_cons stays_arg (e_adat e_int) (a_cons stays_arg (e_adat e_int) (a_cons stays_arg (e_adat (v_ (by kernel_rfl))) (a_cons stays_arg (e_adat (c_ (Cs.c15) hr (a_cons stays_arg (e_adat (v_ (by kernel_rfl))) a_nil rfl) rfl rfl rfl rfl)) a_nil rfl) rfl) rfl) rfl) rfl rfl rfl rfl)) (PE.pk e_bl) (nomark _)) (to1_ (t_not (t_val (c_ (Cs.c24) hr (a_cons stays_arg (e_adat (v_ (by kernel_rfl))) a_nil rfl) rfl rfl rfl rfl) (fun _ => rfl))))))) (p_one (p_ret e_bl)) p_nil)
  (p_cons (p_set hN rfl (.inl rfl) (w_sh (c_ (Cs.c72) hr (a_cons stays_arg (e_adat (v_ (by kernel_rfl))) (a_cons stays_arg (e_adat (e_tup (a_cons stays_dv e_int (a_cons stays_dv e_int (a_cons stays_dv e_int a_nil rfl) rfl) rfl) (short_ (lenS_ (lenS_ (lenS_ len0_))) (by decide)))) a_nil rfl) rfl) rfl rfl rfl rfl)) rfl (.inl rfl))
  (p_cons (p_set hN rfl (.inl rfl) (w_sh (c_ (Cs.c26) hr (a_cons stays_arg (e_adat (c_ (Cs.c73) hr (a_cons stays_arg (e_adat (v_ (by kernel_rfl))) a_nil rfl) rfl rfl rfl rfl)) (a_cons stays_arg (e_adat (v_ (by kernel_rfl))) a_nil rfl) rfl) rfl rfl rfl rfl)) rfl (.inl rfl))
  (p_one (p_if (PW.pt (t_or (t_cmp (o_notIn hu6) (l_ (by kernel_rfl)) (l_ (by kernel_rfl)) rfl) (t_or (t_cmp (o_ne hu) (PE.pk (e_callB b_len rfl M.b_len bt_len (a_cons stays_dvp (l_ (by kernel_rfl)) a_nil rfl) (by decide) rfl rfl rfl)) (PE.pk e_int) (nomark _)) (to1_ (t_cmp (o_ne hu) (PE.pk (c_ (Cs.c25) hr (a_cons stays_arg (e_adat (c_ (Cs.c73) hr (a_cons stays_arg (e_adat (v_ (by kernel_rfl))) a_nil rfl) rfl rfl rfl rfl)) (a_cons stays_arg (e_adat (v_ (by kernel_rfl))) a_nil rfl) rfl) rfl rfl rfl rfl)) (PE.pk (e_tup (a_cons stays_dv (v_ (by kernel_rfl)) (a_cons stays_dv e_int a_nil rfl) rfl) (short_ (lenS_ (lenS_ len0_)) (by decide)))) (nomark _)))))) (p_one (p_ret e_bl)) p_nil)))))) (fun _ => rfl))
  (p_one (p_ret e_bl)))))
theorem P80 (M : Ms K mg) (Cs : Css P w K mg base m cf) (hr : Room m (A.deeper (envOfC "_law_sides_right" (defScope (top 113)) s.heap.objs.size f cdv))) (z0 : ZOk H0 Z0) :
    PSs (cxOf CX0 P w K mg base N80 "_law_sides_right" (defScope (top 113)) f cdv A outer s H E).nox (defBody (top 113)) (lS K c H0 Z0 (F80 cf)) :=
  have hN : N80.Nodup := by decide +kernel
  have hu := hr.units
  have hu6 := room66 hr
  (p_cons (p_set hN rfl (.inl rfl) (w_sh (e_tup (a_cons stays_dv (e_tup (a_cons stays_dv (v_ (by kernel_rfl)) (a_cons stays_dv e_int a_nil rfl) rfl) (short_ (lenS_ (lenS_ len0_)) (by decide))) (a_cons stays_dv (e_tup (a_cons stays_dv (v_ (by kernel_rfl)) (a_cons stays_dv e_int a_nil rfl) rfl) (short_ (lenS_ (lenS_ len0_)) (by decide))) (a_cons stays_dv (e_tup (a_cons stays_dv (e_bin o_add (l_ (by kernel_rfl)) (l_ (by kernel_rfl))) (a_cons stays_dv e_int a_nil rfl) rfl) (short_ (lenS_ (lenS_ len0_)) (by decide))) a_nil rfl) rfl) rfl) (short_ (lenS_ (lenS_ (lenS_ len0_))) (by decide)))) rfl (.inl rfl))
  (p_cons (p_if (PW.pt (t_or (t_cmp o_isNot (PE.pk (c_ (Cs.c66) hr (a_cons stays_arg (e_adat (v_ (by kernel_rfl))) a_nil rfl) rfl rfl rfl rfl)) (PE.pk e_bl) (nomark _)) (to1_ (t_cmp (o_ne hu) (PE.pk (c_ (Cs.c68) hr (a_cons stays_arg (e_adat (v_ (by kernel_rfl))) a_nil rfl) rfl rfl rfl rfl)) (PE.pk (c_ (Cs.c74) hr (a_cons stays_arg (e_adat (e_bin o_mul (l_ (by kernel_rfl)) (l_ (by kernel_rfl)))) (a_cons stays_arg (e_adat e_int) a_nil rfl) rfl) rfl rfl rfl rfl)) (nomark _))))) (p_one (p_ret e_bl)) p_nil)
  (p_one (p_ret (e_cmp (o_eq hu) (PE.pk (e_ix o_ix (PE.pk (c_ (Cs.c67) hr (a_cons stays_arg (e_adat (v_ (by kernel_rfl))) a_nil rfl) rfl rfl rfl rfl)) (PE.pk e_int) (fun _ _ => rfl))) (PE.pk (c_ (Cs.c74) hr (a_cons stays_arg (e_adat (e_bin o_add (l_ (by kernel_rfl)) (l_ (by kernel_rfl)))) (a_cons stays_arg (e_adat e_int) a_nil rfl) rfl) rfl rfl rfl rfl)) (nomark _))))))
theorem P81 (M : Ms K mg) (Cs : Css P w K mg base m cf) (hr : Room m (A.deeper (envOfC "law" (defScope (top 114)) s.heap.objs.size f cdv))) (z0 : ZOk H0 Z0) :
    PSs (cxOf CX0 P w K mg base N81 "law" (defScope (top 114)) f cdv A outer s H E).nox (defBody (top 114)).tail (lS K c H0 Z0 (F81 cf)) :=
  have hN : N81.Nodup := by decide +kernel
  have hu := hr.units
  have hu6 := room66 hr
  (p_cons (p_for .never rfl (i_rng1 rfl M.b_range (a_cons stays_dvp (PE.pk e_int) a_nil rfl) (lenS_ len0_) rfl) (g_nm hN rfl (.inl rfl) (.inl rfl)) (p_cons (p_if (t_not (t_val (c_ (Cs.c77) hr (a_cons stays_arg (e_adat (e_bin o_add (PE.pk e_int) (PE.pk (c_ (Cs.c70) hr (a_cons stays_arg (u_ (by kernel_rfl)) (a_cons stays_arg (e_adat e_int) a_nil rfl) rfl) rfl rfl rfl rfl)))) a_nil rfl) rfl rfl rfl rfl) (fun _ => rfl))) (p_one (p_ret e_bl)) p_nil)
  (p_one (p_if (t_not (t_val (c_ (Cs.c80) hr (a_cons stays_arg (e_adat (e_bin o_add (PE.pk e_int) (PE.pk (c_ (Cs.c70) hr (a_cons stays_arg (u_ (by kernel_rfl)) (a_cons stays_arg (e_adat e_int) a_nil rfl) rfl) rfl rfl rfl rfl)))) (a_cons stays_arg (e_adat (e_bin o_add (PE.pk e_int) (PE.pk (c_ (Cs.c70) hr (a_cons stays_arg (u_ (by kernel_rfl)) (a_cons stays_arg (e_adat e_int) a_nil rfl) rfl) rfl rfl rfl rfl)))) a_nil rfl) rfl) rfl rfl rfl rfl) (fun _ => rfl))) (p_one (p_ret e_bl)) p_nil))) (fun _ => rfl))
  (p_cons (p_for .never rfl (i_seq lkL (e_tup (a_cons stays_dv e_int (a_cons stays_dv e_int (a_cons stays_dv e_int (a_cons stays_dv e_int (a_cons stays_dv e_int a_nil rfl) rfl) rfl) rfl) rfl) (short_ (lenS_ (lenS_ (lenS_ (lenS_ (lenS_ len0_))))) (by decide)))) (g_nm hN rfl (.inl rfl) (.inl rfl)) (p_one (p_if (t_not (t_val (c_ (Cs.c79) hr (a_cons stays_arg (e_adat (v_ (by kernel_rfl))) a_nil rfl) rfl rfl rfl rfl) (fun _ => rfl))) (p_one (p_ret e_bl)) p_nil)) (fun _ => rfl))
  (p_cons (p_for .never rfl (i_seq lkL (e_tup (a_cons stays_dv e_int (a_cons stays_dv e_int (a_cons stays_dv e_int (a_cons stays_dv e_int (a_cons stays_dv e_int (a_cons stays_dv e_int (a_cons stays_dv e_int (a_cons stays_dv e_int (a_cons stays_dv e_int (a_cons stays_dv e_int (a_cons stays_dv e_int (a_cons stays_dv e_int (a_cons stays_dv e_int (a_cons stays_dv e_int (a_cons stays_dv e_int a_nil rfl) rfl) rfl) rfl) rfl) rfl) rfl) rfl) rfl) rfl) rfl) rfl) rfl) rfl) rfl) (short_ (lenS_ (lenS_ (lenS_ (lenS_ (lenS_ (lenS_ (lenS_ (lenS_ (lenS_ (lenS_ (lenS_ (lenS_ (lenS_ (lenS_ (lenS_ len0_))))))))))))))) (by decide)))) (g_nm hN rfl (.inl rfl) (.inl rfl)) (p_one (p_if (t_not (t_val (c_ (Cs.c77) hr (a_cons stays_arg (e_adat (v_ (by kernel_rfl))) a_nil rfl) rfl rfl rfl rfl) (fun _ => rfl))) (p_one (p_ret e_bl)) p_nil)) (fun _ => rfl))
  (p_one (p_ret (e_and (c_ (Cs.c80) hr (a_cons stays_arg (e_adat e_int) (a_cons stays_arg (e_adat e_int) a_nil rfl) rfl) rfl rfl rfl rfl) (e_and (c_ (Cs.c80) hr (a_cons stays_arg (e_adat e_int) (a_cons stays_arg (e_adat e_int) a_nil rfl) rfl) rfl rfl rfl rfl) (one_ (c_ (Cs.c80) hr (a_cons stays_arg (e_adat e_int) (a_cons stays_arg (e_adat e_int) a_nil rfl) rfl) rfl rfl rfl rfl)))))))))
end
end Wk
end
section
set_option Elab.async false
set_option linter.all false
set_option maxRecDepth 100000
set_option maxHeartbeats 4000000
namespace Wk
open PySem PySem.Spec PyProof.Rows L2 Se
theorem sc0 : FnScope N0 ["value", "low", "high"] (defScope (top 10)) := ⟨rfl, rfl, rfl, by decide +kernel, rfl, by decide +kernel, by decide +kernel⟩
theorem sc1 : FnScope N1 ["value", "low", "high"] (defScope (top 11)) := ⟨rfl, rfl, rfl, by decide +kernel, rfl, by decide +kernel, by decide +kernel⟩
theorem sc2 : FnScope N2 ["value", "low", "high"] (defScope (top 12)) := ⟨rfl, rfl, rfl, by decide +kernel, rfl, by decide +kernel, by decide +kernel⟩
theorem sc3 : FnScope N3 ["value", "many", "low", "high"] (defScope (top 13)) := ⟨rfl, rfl, rfl, by decide +kernel, rfl, by decide +kernel, by decide +kernel⟩
theorem sc4 : FnScope N4 ["value"] (defScope (top 16)) := ⟨rfl, rfl, rfl, by decide +kernel, rfl, by decide +kernel, by decide +kernel⟩
theorem sc5 : FnScope N5 ["top", "bottom"] (defScope (top 17)) := ⟨rfl, rfl, rfl, by decide +kernel, rfl, by decide +kernel, by decide +kernel⟩
theorem sc6 : FnScope N6 ["one", "other"] (defScope (top 18)) := ⟨rfl, rfl, rfl, by decide +kernel, rfl, by decide +kernel, by decide +kernel⟩
theorem sc7 : FnScope N7 ["one", "other"] (defScope (top 19)) := ⟨rfl, rfl, rfl, by decide +kernel, rfl, by decide +kernel, by decide +kernel⟩
theorem sc8 : FnScope N8 ["value"] (defScope (top 22)) := ⟨rfl, rfl, rfl, by decide +kernel, rfl, by decide +kernel, by decide +kernel⟩
theorem sc9 : FnScope N9 ["value"] (defScope (top 23)) := ⟨rfl, rfl, rfl, by decide +kernel, rfl, by decide +kernel, by decide +kernel⟩
theorem sc10 : FnScope N10 ["value"] (defScope (top 24)) := ⟨rfl, rfl, rfl, by decide +kernel, rfl, by decide +kernel, by decide +kernel⟩
theorem sc11 : FnScope N11 ["value"] (defScope (top 25)) := ⟨rfl, rfl, rfl, by decide +kernel, rfl, by decide +kernel, by decide +kernel⟩
theorem sc12 : FnScope N12 ["one", "other"] (defScope (top 26)) := ⟨rfl, rfl, rfl, by decide +kernel, rfl, by decide +kernel, by decide +kernel⟩
theorem sc13 : FnScope N13 ["one", "other"] (defScope (top 27)) := ⟨rfl, rfl, rfl, by decide +kernel, rfl, by decide +kernel, by decide +kernel⟩
theorem sc14 : FnScope N14 ["one", "other", "third"] (defScope (top 28)) := ⟨rfl, rfl, rfl, by decide +kernel, rfl, by decide +kernel, by decide +kernel⟩
theorem sc15 : FnScope N15 ["point"] (defScope (top 29)) := ⟨rfl, rfl, rfl, by decide +kernel, rfl, by decide +kernel, by decide +kernel⟩
theorem sc16 : FnScope N16 ["across", "up"] (defScope (top 30)) := ⟨rfl, rfl, rfl, by decide +kernel, rfl, by decide +kernel, by decide +kernel⟩
theorem sc17 : FnScope N17 ["value"] (defScope (top 35)) := ⟨rfl, rfl, rfl, by decide +kernel, rfl, by decide +kernel, by decide +kernel⟩
theorem sc18 : FnScope N18 ["circle"] (defScope (top 37)) := ⟨rfl, rfl, rfl, by decide +kernel, rfl, by decide +kernel, by decide +kernel⟩
theorem sc19 : FnScope N19 ["line"] (defScope (top 38)) := ⟨rfl, rfl, rfl, by decide +kernel, rfl, by decide +kernel, by decide +kernel⟩
theorem sc20 : FnScope N20 ["circle"] (defScope (top 39)) := ⟨rfl, rfl, rfl, by decide +kernel, rfl, by decide +kernel, by decide +kernel⟩
theorem sc21 : FnScope N21 ["line", "circle"] (defScope (top 40)) := ⟨rfl, rfl, rfl, by decide +kernel, rfl, by decide +kernel, by decide +kernel⟩
theorem sc22 : FnScope N22 ["number"] (defScope (top 41)) := ⟨rfl, rfl, rfl, by decide +kernel, rfl, by decide +kernel, by decide +kernel⟩
theorem sc23 : FnScope N23 ["line", "circle"] (defScope (top 42)) := ⟨rfl, rfl, rfl, by decide +kernel, rfl, by decide +kernel, by decide +kernel⟩
theorem sc24 : FnScope N24 ["value"] (defScope (top 43)) := ⟨rfl, rfl, rfl, by decide +kernel, rfl, by decide +kernel, by decide +kernel⟩
theorem sc25 : FnScope N25 ["line", "circle"] (defScope (top 44)) := ⟨rfl, rfl, rfl, by decide +kernel, rfl, by decide +kernel, by decide +kernel⟩
theorem sc26 : FnScope N26 ["line", "circle"] (defScope (top 45)) := ⟨rfl, rfl, rfl, by decide +kernel, rfl, by decide +kernel, by decide +kernel⟩
theorem sc27 : FnScope N27 ["number"] (defScope (top 47)) := ⟨rfl, rfl, rfl, by decide +kernel, rfl, by decide +kernel, by decide +kernel⟩
theorem sc28 : FnScope N28 ["number", "prime"] (defScope (top 48)) := ⟨rfl, rfl, rfl, by decide +kernel, rfl, by decide +kernel, by decide +kernel⟩
theorem sc29 : FnScope N29 ["base", "times", "prime"] (defScope (top 49)) := ⟨rfl, rfl, rfl, by decide +kernel, rfl, by decide +kernel, by decide +kernel⟩
theorem sc30 : FnScope N30 ["number", "prime"] (defScope (top 50)) := ⟨rfl, rfl, rfl, by decide +kernel, rfl, by decide +kernel, by decide +kernel⟩
theorem sc31 : FnScope N31 ["one", "other", "place"] (defScope (top 51)) := ⟨rfl, rfl, rfl, by decide +kernel, rfl, by decide +kernel, by decide +kernel⟩
theorem sc32 : FnScope N32 ["one", "other"] (defScope (top 52)) := ⟨rfl, rfl, rfl, by decide +kernel, rfl, by decide +kernel, by decide +kernel⟩
theorem sc33 : FnScope N33 ["weights"] (defScope (top 53)) := ⟨rfl, rfl, rfl, by decide +kernel, rfl, by decide +kernel, by decide +kernel⟩
theorem sc34 : FnScope N34 ["numbers"] (defScope (top 55)) := ⟨rfl, rfl, rfl, by decide +kernel, rfl, by decide +kernel, by decide +kernel⟩
theorem sc35 : FnScope N35 ["numbers"] (defScope (top 56)) := ⟨rfl, rfl, rfl, by decide +kernel, rfl, by decide +kernel, by decide +kernel⟩
theorem sc36 : FnScope N36 ["parts", "roots"] (defScope (top 57)) := ⟨rfl, rfl, rfl, by decide +kernel, rfl, by decide +kernel, by decide +kernel⟩
theorem sc37 : FnScope N37 ["numbers", "point"] (defScope (top 58)) := ⟨rfl, rfl, rfl, by decide +kernel, rfl, by decide +kernel, by decide +kernel⟩
theorem sc38 : FnScope N38 ["numbers", "point"] (defScope (top 59)) := ⟨rfl, rfl, rfl, by decide +kernel, rfl, by decide +kernel, by decide +kernel⟩
theorem sc39 : FnScope N39 ["lean"] (defScope (top 61)) := ⟨rfl, rfl, rfl, by decide +kernel, rfl, by decide +kernel, by decide +kernel⟩
theorem sc40 : FnScope N40 ["numbers", "place", "one", "other"] (defScope (top 62)) := ⟨rfl, rfl, rfl, by decide +kernel, rfl, by decide +kernel, by decide +kernel⟩
theorem sc41 : FnScope N41 ["lean", "only_one"] (defScope (top 63)) := ⟨rfl, rfl, rfl, by decide +kernel, rfl, by decide +kernel, by decide +kernel⟩
theorem sc42 : FnScope N42 ["lean"] (defScope (top 64)) := ⟨rfl, rfl, rfl, by decide +kernel, rfl, by decide +kernel, by decide +kernel⟩
theorem sc43 : FnScope N43 ["numbers"] (defScope (top 66)) := ⟨rfl, rfl, rfl, by decide +kernel, rfl, by decide +kernel, by decide +kernel⟩
theorem sc44 : FnScope N44 ["conic"] (defScope (top 70)) := ⟨rfl, rfl, rfl, by decide +kernel, rfl, by decide +kernel, by decide +kernel⟩
theorem sc45 : FnScope N45 ["value"] (defScope (top 71)) := ⟨rfl, rfl, rfl, by decide +kernel, rfl, by decide +kernel, by decide +kernel⟩
theorem sc46 : FnScope N46 ["value"] (defScope (top 72)) := ⟨rfl, rfl, rfl, by decide +kernel, rfl, by decide +kernel, by decide +kernel⟩
theorem sc47 : FnScope N47 ["table", "one", "other"] (defScope (top 73)) := ⟨rfl, rfl, rfl, by decide +kernel, rfl, by decide +kernel, by decide +kernel⟩
theorem sc48 : FnScope N48 ["table", "rows"] (defScope (top 74)) := ⟨rfl, rfl, rfl, by decide +kernel, rfl, by decide +kernel, by decide +kernel⟩
theorem sc49 : FnScope N49 ["table"] (defScope (top 75)) := ⟨rfl, rfl, rfl, by decide +kernel, rfl, by decide +kernel, by decide +kernel⟩
theorem sc50 : FnScope N50 ["conic"] (defScope (top 76)) := ⟨rfl, rfl, rfl, by decide +kernel, rfl, by decide +kernel, by decide +kernel⟩
theorem sc51 : FnScope N51 ["conic", "point"] (defScope (top 77)) := ⟨rfl, rfl, rfl, by decide +kernel, rfl, by decide +kernel, by decide +kernel⟩
theorem sc52 : FnScope N52 ["conic"] (defScope (top 78)) := ⟨rfl, rfl, rfl, by decide +kernel, rfl, by decide +kernel, by decide +kernel⟩
theorem sc53 : FnScope N53 ["conic", "height"] (defScope (top 79)) := ⟨rfl, rfl, rfl, by decide +kernel, rfl, by decide +kernel, by decide +kernel⟩
theorem sc54 : FnScope N54 ["numbers", "one", "other"] (defScope (top 81)) := ⟨rfl, rfl, rfl, by decide +kernel, rfl, by decide +kernel, by decide +kernel⟩
theorem sc55 : FnScope N55 ["numbers"] (defScope (top 84)) := ⟨rfl, rfl, rfl, by decide +kernel, rfl, by decide +kernel, by decide +kernel⟩
theorem sc56 : FnScope N56 ["numbers", "point"] (defScope (top 85)) := ⟨rfl, rfl, rfl, by decide +kernel, rfl, by decide +kernel, by decide +kernel⟩
theorem sc57 : FnScope N57 ["one", "other", "number"] (defScope (top 86)) := ⟨rfl, rfl, rfl, by decide +kernel, rfl, by decide +kernel, by decide +kernel⟩
theorem sc58 : FnScope N58 ["one", "other", "number"] (defScope (top 87)) := ⟨rfl, rfl, rfl, by decide +kernel, rfl, by decide +kernel, by decide +kernel⟩
theorem sc59 : FnScope N59 ["one", "other", "number", "value"] (defScope (top 88)) := ⟨rfl, rfl, rfl, by decide +kernel, rfl, by decide +kernel, by decide +kernel⟩
theorem sc60 : FnScope N60 ["one", "other", "number"] (defScope (top 89)) := ⟨rfl, rfl, rfl, by decide +kernel, rfl, by decide +kernel, by decide +kernel⟩
theorem sc61 : FnScope N61 ["value"] (defScope (top 92)) := ⟨rfl, rfl, rfl, by decide +kernel, rfl, by decide +kernel, by decide +kernel⟩
theorem sc62 : FnScope N62 ["squares"] (defScope (top 94)) := ⟨rfl, rfl, rfl, by decide +kernel, rfl, by decide +kernel, by decide +kernel⟩
theorem sc63 : FnScope N63 ["squares"] (defScope (top 95)) := ⟨rfl, rfl, rfl, by decide +kernel, rfl, by decide +kernel, by decide +kernel⟩
theorem sc64 : FnScope N64 ["squares", "factor"] (defScope (top 96)) := ⟨rfl, rfl, rfl, by decide +kernel, rfl, by decide +kernel, by decide +kernel⟩
theorem sc65 : FnScope N65 ["squares"] (defScope (top 97)) := ⟨rfl, rfl, rfl, by decide +kernel, rfl, by decide +kernel, by decide +kernel⟩
theorem sc66 : FnScope N66 ["squares"] (defScope (top 98)) := ⟨rfl, rfl, rfl, by decide +kernel, rfl, by decide +kernel, by decide +kernel⟩
theorem sc67 : FnScope N67 ["squares"] (defScope (top 99)) := ⟨rfl, rfl, rfl, by decide +kernel, rfl, by decide +kernel, by decide +kernel⟩
theorem sc68 : FnScope N68 ["squares"] (defScope (top 100)) := ⟨rfl, rfl, rfl, by decide +kernel, rfl, by decide +kernel, by decide +kernel⟩
theorem sc69 : FnScope N69 ["script"] (defScope (top 102)) := ⟨rfl, rfl, rfl, by decide +kernel, rfl, by decide +kernel, by decide +kernel⟩
theorem sc70 : FnScope N70 ["cup", "many"] (defScope (top 103)) := ⟨rfl, rfl, rfl, by decide +kernel, rfl, by decide +kernel, by decide +kernel⟩
theorem sc71 : FnScope N71 ["one", "other"] (defScope (top 104)) := ⟨rfl, rfl, rfl, by decide +kernel, rfl, by decide +kernel, by decide +kernel⟩
theorem sc72 : FnScope N72 ["one", "other"] (defScope (top 105)) := ⟨rfl, rfl, rfl, by decide +kernel, rfl, by decide +kernel, by decide +kernel⟩
theorem sc73 : FnScope N73 ["value"] (defScope (top 106)) := ⟨rfl, rfl, rfl, by decide +kernel, rfl, by decide +kernel, by decide +kernel⟩
theorem sc74 : FnScope N74 ["top", "bottom"] (defScope (top 107)) := ⟨rfl, rfl, rfl, by decide +kernel, rfl, by decide +kernel, by decide +kernel⟩
theorem sc75 : FnScope N75 ["number"] (defScope (top 108)) := ⟨rfl, rfl, rfl, by decide +kernel, rfl, by decide +kernel, by decide +kernel⟩
theorem sc76 : FnScope N76 ["number"] (defScope (top 109)) := ⟨rfl, rfl, rfl, by decide +kernel, rfl, by decide +kernel, by decide +kernel⟩
theorem sc77 : FnScope N77 ["number"] (defScope (top 110)) := ⟨rfl, rfl, rfl, by decide +kernel, rfl, by decide +kernel, by decide +kernel⟩
theorem sc78 : FnScope N78 ["number", "circle"] (defScope (top 111)) := ⟨rfl, rfl, rfl, by decide +kernel, rfl, by decide +kernel, by decide +kernel⟩
theorem sc79 : FnScope N79 ["number"] (defScope (top 112)) := ⟨rfl, rfl, rfl, by decide +kernel, rfl, by decide +kernel, by decide +kernel⟩
theorem sc80 : FnScope N80 ["one", "other"] (defScope (top 113)) := ⟨rfl, rfl, rfl, by decide +kernel, rfl, by decide +kernel, by decide +kernel⟩
theorem sc81 : FnScope N81 ["script"] (defScope (top 114)) := ⟨rfl, rfl, rfl, by decide +kernel, rfl, by decide +kernel, by decide +kernel⟩
def bod (j : Nat) (cf : CF) : List Se.Arg → M PyData := match j with
  | 0 => runB F0 3 3 cf
  | 1 => runB F1 3 3 cf
  | 2 => runB F2 3 3 cf
  | 3 => runB F3 5 4 cf
  | 4 => runB F4 1 1 cf
  | 5 => runB F5 3 2 cf
  | 6 => runB F6 2 2 cf
  | 7 => runB F7 2 2 cf
  | 8 => runB F8 2 1 cf
  | 9 => runB F9 1 1 cf
  | 10 => runB F10 4 1 cf
  | 11 => runB F11 1 1 cf
  | 12 => runB F12 2 2 cf
  | 13 => runB F13 3 2 cf
  | 14 => runB F14 3 3 cf
  | 15 => runB F15 1 1 cf
  | 16 => runB F16 3 2 cf
  | 17 => runB F17 2 1 cf
  | 18 => runB F18 1 1 cf
  | 19 => runB F19 1 1 cf
  | 20 => runB F20 9 1 cf
  | 21 => runB F21 12 2 cf
  | 22 => runB F22 4 1 cf
  | 23 => runB F23 19 2 cf
  | 24 => runB F24 1 1 cf
  | 25 => runB F25 2 2 cf
  | 26 => runB F26 2 2 cf
  | 27 => runB F27 4 1 cf
  | 28 => runB F28 3 2 cf
  | 29 => runB F29 4 3 cf
  | 30 => runB F30 2 2 cf
  | 31 => runB F31 8 3 cf
  | 32 => runB F32 5 2 cf
  | 33 => runB F33 4 1 cf
  | 34 => runB F34 7 1 cf
  | 35 => runB F35 9 1 cf
  | 36 => runB F36 6 2 cf
  | 37 => runB F37 4 2 cf
  | 38 => runB F38 4 2 cf
  | 39 => runB F39 5 1 cf
  | 40 => runB F40 10 4 cf
  | 41 => runB F41 10 2 cf
  | 42 => runB F42 2 1 cf
  | 43 => runB F43 1 1 cf
  | 44 => runB F44 7 1 cf
  | 45 => runB F45 5 1 cf
  | 46 => runB F46 1 1 cf
  | 47 => runB F47 7 3 cf
  | 48 => runB F48 8 2 cf
  | 49 => runB F49 10 1 cf
  | 50 => runB F50 4 1 cf
  | 51 => runB F51 2 2 cf
  | 52 => runB F52 1 1 cf
  | 53 => runB F53 8 2 cf
  | 54 => runB F54 6 3 cf
  | 55 => runB F55 2 1 cf
  | 56 => runB F56 7 2 cf
  | 57 => runB F57 8 3 cf
  | 58 => runB F58 3 3 cf
  | 59 => runB F59 10 4 cf
  | 60 => runB F60 3 3 cf
  | 61 => runB F61 4 1 cf
  | 62 => runB F62 1 1 cf
  | 63 => runB F63 7 1 cf
  | 64 => runB F64 6 2 cf
  | 65 => runB F65 1 1 cf
  | 66 => runB F66 1 1 cf
  | 67 => runB F67 1 1 cf
  | 68 => runB F68 1 1 cf
  | 70 => runB F70 3 2 cf
  | 71 => runB F71 3 2 cf
  | 72 => runB F72 2 2 cf
  | 73 => runB F73 4 1 cf
  | 74 => runB F74 3 2 cf
  | 75 => runB F75 5 1 cf
  | 76 => runB F76 5 1 cf
  | 77 => runB F77 6 1 cf
  | 78 => runB F78 7 2 cf
  | 79 => runB F79 6 1 cf
  | 80 => runB F80 3 2 cf
  | _ => fun _ => M.of none
def runFn : Nat → CF
  | 0 => fun _ _ => M.of none
  | n + 1 => fun j => bod j (runFn n)
structure Dfs (K : PySem.W.Frag) (mg : Str → Option Value) : Prop where
  d0 : Dfn K mg "is_whole" "is_whole" (top 10)
  d1 : Dfn K mg "need_whole" "need_whole" (top 11)
  d2 : Dfn K mg "is_tuple_of" "is_tuple_of" (top 12)
  d3 : Dfn K mg "are_wholes" "are_wholes" (top 13)
  d4 : Dfn K mg "is_portion" "is_portion" (top 16)
  d5 : Dfn K mg "lowest" "lowest" (top 17)
  d6 : Dfn K mg "plus" "plus" (top 18)
  d7 : Dfn K mg "times" "times" (top 19)
  d8 : Dfn K mg "is_three" "is_three" (top 22)
  d9 : Dfn K mg "is_triple" "is_triple" (top 23)
  d10 : Dfn K mg "plainly" "plainly" (top 24)
  d11 : Dfn K mg "need_triple" "need_triple" (top 25)
  d12 : Dfn K mg "dot" "dot" (top 26)
  d13 : Dfn K mg "cross" "cross" (top 27)
  d14 : Dfn K mg "volume" "volume" (top 28)
  d15 : Dfn K mg "place_of" "place_of" (top 29)
  d16 : Dfn K mg "point_at" "point_at" (top 30)
  d17 : Dfn K mg "fits_circlemeets" "fits" (top 35)
  d18 : Dfn K mg "need_circle" "need_circle" (top 37)
  d19 : Dfn K mg "need_line" "need_line" (top 38)
  d20 : Dfn K mg "square_in" "square_in" (top 39)
  d21 : Dfn K mg "lead_in" "lead_in" (top 40)
  d22 : Dfn K mg "root_of" "root_of" (top 41)
  d23 : Dfn K mg "meets_in" "meets_in" (top 42)
  d24 : Dfn K mg "is_circle" "is_circle" (top 43)
  d25 : Dfn K mg "lead_of" "lead_of" (top 44)
  d26 : Dfn K mg "meets_of" "meets_of" (top 45)
  d27 : Dfn K mg "primes_of" "primes_of" (top 47)
  d28 : Dfn K mg "parted" "parted" (top 48)
  d29 : Dfn K mg "powered" "powered" (top 49)
  d30 : Dfn K mg "is_rest" "is_rest" (top 50)
  d31 : Dfn K mg "is_barred" "is_barred" (top 51)
  d32 : Dfn K mg "bars_between" "bars_between" (top 52)
  d33 : Dfn K mg "bars_in" "bars_in" (top 53)
  d34 : Dfn K mg "lean_and_shared" "lean_and_shared" (top 55)
  d35 : Dfn K mg "roots_of" "roots_of" (top 56)
  d36 : Dfn K mg "moved" "moved" (top 57)
  d37 : Dfn K mg "back" "back" (top 58)
  d38 : Dfn K mg "value_of" "value_of" (top 59)
  d39 : Dfn K mg "reaches" "reaches" (top 61)
  d40 : Dfn K mg "rooted" "rooted" (top 62)
  d41 : Dfn K mg "sized_points" "sized_points" (top 63)
  d42 : Dfn K mg "low_in" "low_in" (top 64)
  d43 : Dfn K mg "point_in" "point_in" (top 66)
  d44 : Dfn K mg "doubled" "doubled" (top 70)
  d45 : Dfn K mg "fits_conic" "fits_conic" (top 71)
  d46 : Dfn K mg "need_conic" "need_conic" (top 72)
  d47 : Dfn K mg "both" "both" (top 73)
  d48 : Dfn K mg "headed" "headed" (top 74)
  d49 : Dfn K mg "corners_in" "corners_in" (top 75)
  d50 : Dfn K mg "values_in" "values_in" (top 76)
  d51 : Dfn K mg "value_at" "value_at" (top 77)
  d52 : Dfn K mg "has_points" "has_points" (top 78)
  d53 : Dfn K mg "points_on" "points_on" (top 79)
  d54 : Dfn K mg "mixed" "mixed" (top 81)
  d55 : Dfn K mg "need_numbers" "need_numbers" (top 84)
  d56 : Dfn K mg "turned" "turned" (top 85)
  d57 : Dfn K mg "sums_in" "sums_in" (top 86)
  d58 : Dfn K mg "squares_for" "squares_for" (top 87)
  d59 : Dfn K mg "are_squares" "are_squares" (top 88)
  d60 : Dfn K mg "sum_bars" "sum_bars" (top 89)
  d61 : Dfn K mg "fits_trianglesby" "fits" (top 92)
  d62 : Dfn K mg "need_squares" "need_squares" (top 94)
  d63 : Dfn K mg "spread" "spread" (top 95)
  d64 : Dfn K mg "across" "across" (top 96)
  d65 : Dfn K mg "need_sides" "need_sides" (top 97)
  d66 : Dfn K mg "are_sides" "are_sides" (top 98)
  d67 : Dfn K mg "medians_of" "medians_of" (top 99)
  d68 : Dfn K mg "area_square" "area_square" (top 100)
  d70 : Dfn K mg "_law_roll" "_law_roll" (top 103)
  d71 : Dfn K mg "_law_gcd" "_law_gcd" (top 104)
  d72 : Dfn K mg "_law_cross" "_law_cross" (top 105)
  d73 : Dfn K mg "_law_plain" "_law_plain" (top 106)
  d74 : Dfn K mg "_law_low" "_law_low" (top 107)
  d75 : Dfn K mg "_law_is_square" "_law_is_square" (top 108)
  d76 : Dfn K mg "_law_by_primes" "_law_by_primes" (top 109)
  d77 : Dfn K mg "_law_sums_right" "_law_sums_right" (top 110)
  d78 : Dfn K mg "_law_circle_right" "_law_circle_right" (top 111)
  d79 : Dfn K mg "_law_points_right" "_law_points_right" (top 112)
  d80 : Dfn K mg "_law_sides_right" "_law_sides_right" (top 113)
section
variable {P : Program} {w : World} {K : PySem.W.Frag} {mg : Str → Option Value} {base : Heap}
theorem cz0 (D : Dfn K mg "is_whole" "is_whole" (top 10)) : Cal P w K mg base 1 "is_whole" ["value", "low", "high"] (runFn 0 0) :=
  let ⟨f, fd, F, g⟩ := D.ex
  ⟨f, fd, fn_no F sc0 (fun _ _ => rfl), g, F.kp, F.bindsN fun _ _ _ _ _ _ us hl => match us, hl with | [_, _, _], _ => rfl⟩
theorem rn0 (n : Nat) : runFn (n + 1) 0 = runB F0 N0.length (List.length ["value", "low", "high"]) (runFn n) := by kernel_rfl
theorem cy0 {n : Nat} (M : Ms K mg) (Cs : ∀ base, Css P w K mg base (n + 1) (runFn n)) (D : Dfn K mg "is_whole" "is_whole" (top 10)) : Cal P w K mg base (n + 2) "is_whole" ["value", "low", "high"] (runFn (n + 1) 0) := by
  rw [rn0 n]
  exact let ⟨f, fd, F, g⟩ := D.ex
    ⟨f, fd, fn_ok (Fi := F0) F sc0 (fun cdv A outer s H E c H0 Z0 hr z0 => P0 M (Cs base) hr z0), g, F.kp, F.bindsN fun _ _ _ _ _ _ us hl => match us, hl with | [_, _, _], _ => rfl⟩
theorem cz1 (D : Dfn K mg "need_whole" "need_whole" (top 11)) : Cal P w K mg base 1 "need_whole" ["value", "low", "high"] (runFn 0 1) :=
  let ⟨f, fd, F, g⟩ := D.ex
  ⟨f, fd, fn_no F sc1 (fun _ _ => rfl), g, F.kp, F.bindsN fun _ _ _ _ _ _ us hl => match us, hl with | [_, _, _], _ => rfl⟩
theorem rn1 (n : Nat) : runFn (n + 1) 1 = runB F1 N1.length (List.length ["value", "low", "high"]) (runFn n) := by kernel_rfl
theorem cy1 {n : Nat} (M : Ms K mg) (Cs : ∀ base, Css P w K mg base (n + 1) (runFn n)) (D : Dfn K mg "need_whole" "need_whole" (top 11)) : Cal P w K mg base (n + 2) "need_whole" ["value", "low", "high"] (runFn (n + 1) 1) := by
  rw [rn1 n]
  exact let ⟨f, fd, F, g⟩ := D.ex
    ⟨f, fd, fn_ok (Fi := F1) F sc1 (fun cdv A outer s H E c H0 Z0 hr z0 => P1 M (Cs base) hr z0), g, F.kp, F.bindsN fun _ _ _ _ _ _ us hl => match us, hl with | [_, _, _], _ => rfl⟩
theorem cz2 (D : Dfn K mg "is_tuple_of" "is_tuple_of" (top 12)) : Cal P w K mg base 1 "is_tuple_of" ["value", "low", "high"] (runFn 0 2) :=
  let ⟨f, fd, F, g⟩ := D.ex
  ⟨f, fd, fn_no F sc2 (fun _ _ => rfl), g, F.kp, F.bindsN fun _ _ _ _ _ _ us hl => match us, hl with | [_, _, _], _ => rfl⟩
theorem rn2 (n : Nat) : runFn (n + 1) 2 = runB F2 N2.length (List.length ["value", "low", "high"]) (runFn n) := by kernel_rfl
theorem cy2 {n : Nat} (M : Ms K mg) (Cs : ∀ base, Css P w K mg base (n + 1) (runFn n)) (D : Dfn K mg "is_tuple_of" "is_tuple_of" (top 12)) : Cal P w K mg base (n + 2) "is_tuple_of" ["value", "low", "high"] (runFn (n + 1) 2) := by
  rw [rn2 n]
  exact let ⟨f, fd, F, g⟩ := D.ex
    ⟨f, fd, fn_ok (Fi := F2) F sc2 (fun cdv A outer s H E c H0 Z0 hr z0 => P2 M (Cs base) hr z0), g, F.kp, F.bindsN fun _ _ _ _ _ _ us hl => match us, hl with | [_, _, _], _ => rfl⟩
theorem cz3 (D : Dfn K mg "are_wholes" "are_wholes" (top 13)) : Cal P w K mg base 1 "are_wholes" ["value", "many", "low", "high"] (runFn 0 3) :=
  let ⟨f, fd, F, g⟩ := D.ex
  ⟨f, fd, fn_no F sc3 (fun _ _ => rfl), g, F.kp, F.bindsN fun _ _ _ _ _ _ us hl => match us, hl with | [_, _, _, _], _ => rfl⟩
theorem rn3 (n : Nat) : runFn (n + 1) 3 = runB F3 N3.length (List.length ["value", "many", "low", "high"]) (runFn n) := by kernel_rfl
theorem cy3 {n : Nat} (M : Ms K mg) (Cs : ∀ base, Css P w K mg base (n + 1) (runFn n)) (D : Dfn K mg "are_wholes" "are_wholes" (top 13)) : Cal P w K mg base (n + 2) "are_wholes" ["value", "many", "low", "high"] (runFn (n + 1) 3) := by
  rw [rn3 n]
  exact let ⟨f, fd, F, g⟩ := D.ex
    ⟨f, fd, fn_ok (Fi := F3) F sc3 (fun cdv A outer s H E c H0 Z0 hr z0 => P3 M (Cs base) hr z0), g, F.kp, F.bindsN fun _ _ _ _ _ _ us hl => match us, hl with | [_, _, _, _], _ => rfl⟩
theorem cz4 (D : Dfn K mg "is_portion" "is_portion" (top 16)) : Cal P w K mg base 1 "is_portion" ["value"] (runFn 0 4) :=
  let ⟨f, fd, F, g⟩ := D.ex
  ⟨f, fd, fn_no F sc4 (fun _ _ => rfl), g, F.kp, F.bindsN fun _ _ _ _ _ _ us hl => match us, hl with | [_], _ => rfl⟩
theorem rn4 (n : Nat) : runFn (n + 1) 4 = runB F4 N4.length (List.length ["value"]) (runFn n) := by kernel_rfl
theorem cy4 {n : Nat} (M : Ms K mg) (Cs : ∀ base, Css P w K mg base (n + 1) (runFn n)) (D : Dfn K mg "is_portion" "is_portion" (top 16)) : Cal P w K mg base (n + 2) "is_portion" ["value"] (runFn (n + 1) 4) := by
  rw [rn4 n]
  exact let ⟨f, fd, F, g⟩ := D.ex
    ⟨f, fd, fn_ok (Fi := F4) F sc4 (fun cdv A outer s H E c H0 Z0 hr z0 => P4 M (Cs base) hr z0), g, F.kp, F.bindsN fun _ _ _ _ _ _ us hl => match us, hl with | [_], _ => rfl⟩
theorem cz5 (D : Dfn K mg "lowest" "lowest" (top 17)) : Cal P w K mg base 1 "lowest" ["top", "bottom"] (runFn 0 5) :=
  let ⟨f, fd, F, g⟩ := D.ex
  ⟨f, fd, fn_no F sc5 (fun _ _ => rfl), g, F.kp, F.bindsN fun _ _ _ _ _ _ us hl => match us, hl with | [_, _], _ => rfl⟩
theorem rn5 (n : Nat) : runFn (n + 1) 5 = runB F5 N5.length (List.length ["top", "bottom"]) (runFn n) := by kernel_rfl
theorem cy5 {n : Nat} (M : Ms K mg) (Cs : ∀ base, Css P w K mg base (n + 1) (runFn n)) (D : Dfn K mg "lowest" "lowest" (top 17)) : Cal P w K mg base (n + 2) "lowest" ["top", "bottom"] (runFn (n + 1) 5) := by
  rw [rn5 n]
  exact let ⟨f, fd, F, g⟩ := D.ex
    ⟨f, fd, fn_ok (Fi := F5) F sc5 (fun cdv A outer s H E c H0 Z0 hr z0 => P5 M (Cs base) hr z0), g, F.kp, F.bindsN fun _ _ _ _ _ _ us hl => match us, hl with | [_, _], _ => rfl⟩
theorem cz6 (D : Dfn K mg "plus" "plus" (top 18)) : Cal P w K mg base 1 "plus" ["one", "other"] (runFn 0 6) :=
  let ⟨f, fd, F, g⟩ := D.ex
  ⟨f, fd, fn_no F sc6 (fun _ _ => rfl), g, F.kp, F.bindsN fun _ _ _ _ _ _ us hl => match us, hl with | [_, _], _ => rfl⟩
theorem rn6 (n : Nat) : runFn (n + 1) 6 = runB F6 N6.length (List.length ["one", "other"]) (runFn n) := by kernel_rfl
theorem cy6 {n : Nat} (M : Ms K mg) (Cs : ∀ base, Css P w K mg base (n + 1) (runFn n)) (D : Dfn K mg "plus" "plus" (top 18)) : Cal P w K mg base (n + 2) "plus" ["one", "other"] (runFn (n + 1) 6) := by
  rw [rn6 n]
  exact let ⟨f, fd, F, g⟩ := D.ex
    ⟨f, fd, fn_ok (Fi := F6) F sc6 (fun cdv A outer s H E c H0 Z0 hr z0 => P6 M (Cs base) hr z0), g, F.kp, F.bindsN fun _ _ _ _ _ _ us hl => match us, hl with | [_, _], _ => rfl⟩
theorem cz7 (D : Dfn K mg "times" "times" (top 19)) : Cal P w K mg base 1 "times" ["one", "other"] (runFn 0 7) :=
  let ⟨f, fd, F, g⟩ := D.ex
  ⟨f, fd, fn_no F sc7 (fun _ _ => rfl), g, F.kp, F.bindsN fun _ _ _ _ _ _ us hl => match us, hl with | [_, _], _ => rfl⟩
theorem rn7 (n : Nat) : runFn (n + 1) 7 = runB F7 N7.length (List.length ["one", "other"]) (runFn n) := by kernel_rfl
theorem cy7 {n : Nat} (M : Ms K mg) (Cs : ∀ base, Css P w K mg base (n + 1) (runFn n)) (D : Dfn K mg "times" "times" (top 19)) : Cal P w K mg base (n + 2) "times" ["one", "other"] (runFn (n + 1) 7) := by
  rw [rn7 n]
  exact let ⟨f, fd, F, g⟩ := D.ex
    ⟨f, fd, fn_ok (Fi := F7) F sc7 (fun cdv A outer s H E c H0 Z0 hr z0 => P7 M (Cs base) hr z0), g, F.kp, F.bindsN fun _ _ _ _ _ _ us hl => match us, hl with | [_, _], _ => rfl⟩
theorem cz8 (D : Dfn K mg "is_three" "is_three" (top 22)) : Cal P w K mg base 1 "is_three" ["value"] (runFn 0 8) :=
  let ⟨f, fd, F, g⟩ := D.ex
  ⟨f, fd, fn_no F sc8 (fun _ _ => rfl), g, F.kp, F.bindsN fun _ _ _ _ _ _ us hl => match us, hl with | [_], _ => rfl⟩
theorem rn8 (n : Nat) : runFn (n + 1) 8 = runB F8 N8.length (List.length ["value"]) (runFn n) := by kernel_rfl
theorem cy8 {n : Nat} (M : Ms K mg) (Cs : ∀ base, Css P w K mg base (n + 1) (runFn n)) (D : Dfn K mg "is_three" "is_three" (top 22)) : Cal P w K mg base (n + 2) "is_three" ["value"] (runFn (n + 1) 8) := by
  rw [rn8 n]
  exact let ⟨f, fd, F, g⟩ := D.ex
    ⟨f, fd, fn_ok (Fi := F8) F sc8 (fun cdv A outer s H E c H0 Z0 hr z0 => P8 M (Cs base) hr z0), g, F.kp, F.bindsN fun _ _ _ _ _ _ us hl => match us, hl with | [_], _ => rfl⟩
theorem cz9 (D : Dfn K mg "is_triple" "is_triple" (top 23)) : Cal P w K mg base 1 "is_triple" ["value"] (runFn 0 9) :=
  let ⟨f, fd, F, g⟩ := D.ex
  ⟨f, fd, fn_no F sc9 (fun _ _ => rfl), g, F.kp, F.bindsN fun _ _ _ _ _ _ us hl => match us, hl with | [_], _ => rfl⟩
theorem rn9 (n : Nat) : runFn (n + 1) 9 = runB F9 N9.length (List.length ["value"]) (runFn n) := by kernel_rfl
theorem cy9 {n : Nat} (M : Ms K mg) (Cs : ∀ base, Css P w K mg base (n + 1) (runFn n)) (D : Dfn K mg "is_triple" "is_triple" (top 23)) : Cal P w K mg base (n + 2) "is_triple" ["value"] (runFn (n + 1) 9) := by
  rw [rn9 n]
  exact let ⟨f, fd, F, g⟩ := D.ex
    ⟨f, fd, fn_ok (Fi := F9) F sc9 (fun cdv A outer s H E c H0 Z0 hr z0 => P9 M (Cs base) hr z0), g, F.kp, F.bindsN fun _ _ _ _ _ _ us hl => match us, hl with | [_], _ => rfl⟩
theorem cz10 (D : Dfn K mg "plainly" "plainly" (top 24)) : Cal P w K mg base 1 "plainly" ["value"] (runFn 0 10) :=
  let ⟨f, fd, F, g⟩ := D.ex
  ⟨f, fd, fn_no F sc10 (fun _ _ => rfl), g, F.kp, F.bindsN fun _ _ _ _ _ _ us hl => match us, hl with | [_], _ => rfl⟩
theorem rn10 (n : Nat) : runFn (n + 1) 10 = runB F10 N10.length (List.length ["value"]) (runFn n) := by kernel_rfl
theorem cy10 {n : Nat} (M : Ms K mg) (Cs : ∀ base, Css P w K mg base (n + 1) (runFn n)) (D : Dfn K mg "plainly" "plainly" (top 24)) : Cal P w K mg base (n + 2) "plainly" ["value"] (runFn (n + 1) 10) := by
  rw [rn10 n]
  exact let ⟨f, fd, F, g⟩ := D.ex
    ⟨f, fd, fn_ok (Fi := F10) F sc10 (fun cdv A outer s H E c H0 Z0 hr z0 => P10 M (Cs base) hr z0), g, F.kp, F.bindsN fun _ _ _ _ _ _ us hl => match us, hl with | [_], _ => rfl⟩
theorem cz11 (D : Dfn K mg "need_triple" "need_triple" (top 25)) : Cal P w K mg base 1 "need_triple" ["value"] (runFn 0 11) :=
  let ⟨f, fd, F, g⟩ := D.ex
  ⟨f, fd, fn_no F sc11 (fun _ _ => rfl), g, F.kp, F.bindsN fun _ _ _ _ _ _ us hl => match us, hl with | [_], _ => rfl⟩
theorem rn11 (n : Nat) : runFn (n + 1) 11 = runB F11 N11.length (List.length ["value"]) (runFn n) := by kernel_rfl
theorem cy11 {n : Nat} (M : Ms K mg) (Cs : ∀ base, Css P w K mg base (n + 1) (runFn n)) (D : Dfn K mg "need_triple" "need_triple" (top 25)) : Cal P w K mg base (n + 2) "need_triple" ["value"] (runFn (n + 1) 11) := by
  rw [rn11 n]
  exact let ⟨f, fd, F, g⟩ := D.ex
    ⟨f, fd, fn_ok (Fi := F11) F sc11 (fun cdv A outer s H E c H0 Z0 hr z0 => P11 M (Cs base) hr z0), g, F.kp, F.bindsN fun _ _ _ _ _ _ us hl => match us, hl with | [_], _ => rfl⟩
theorem cz12 (D : Dfn K mg "dot" "dot" (top 26)) : Cal P w K mg base 1 "dot" ["one", "other"] (runFn 0 12) :=
  let ⟨f, fd, F, g⟩ := D.ex
  ⟨f, fd, fn_no F sc12 (fun _ _ => rfl), g, F.kp, F.bindsN fun _ _ _ _ _ _ us hl => match us, hl with | [_, _], _ => rfl⟩
theorem rn12 (n : Nat) : runFn (n + 1) 12 = runB F12 N12.length (List.length ["one", "other"]) (runFn n) := by kernel_rfl
theorem cy12 {n : Nat} (M : Ms K mg) (Cs : ∀ base, Css P w K mg base (n + 1) (runFn n)) (D : Dfn K mg "dot" "dot" (top 26)) : Cal P w K mg base (n + 2) "dot" ["one", "other"] (runFn (n + 1) 12) := by
  rw [rn12 n]
  exact let ⟨f, fd, F, g⟩ := D.ex
    ⟨f, fd, fn_ok (Fi := F12) F sc12 (fun cdv A outer s H E c H0 Z0 hr z0 => P12 M (Cs base) hr z0), g, F.kp, F.bindsN fun _ _ _ _ _ _ us hl => match us, hl with | [_, _], _ => rfl⟩
theorem cz13 (D : Dfn K mg "cross" "cross" (top 27)) : Cal P w K mg base 1 "cross" ["one", "other"] (runFn 0 13) :=
  let ⟨f, fd, F, g⟩ := D.ex
  ⟨f, fd, fn_no F sc13 (fun _ _ => rfl), g, F.kp, F.bindsN fun _ _ _ _ _ _ us hl => match us, hl with | [_, _], _ => rfl⟩
theorem rn13 (n : Nat) : runFn (n + 1) 13 = runB F13 N13.length (List.length ["one", "other"]) (runFn n) := by kernel_rfl
theorem cy13 {n : Nat} (M : Ms K mg) (Cs : ∀ base, Css P w K mg base (n + 1) (runFn n)) (D : Dfn K mg "cross" "cross" (top 27)) : Cal P w K mg base (n + 2) "cross" ["one", "other"] (runFn (n + 1) 13) := by
  rw [rn13 n]
  exact let ⟨f, fd, F, g⟩ := D.ex
    ⟨f, fd, fn_ok (Fi := F13) F sc13 (fun cdv A outer s H E c H0 Z0 hr z0 => P13 M (Cs base) hr z0), g, F.kp, F.bindsN fun _ _ _ _ _ _ us hl => match us, hl with | [_, _], _ => rfl⟩
theorem cz14 (D : Dfn K mg "volume" "volume" (top 28)) : Cal P w K mg base 1 "volume" ["one", "other", "third"] (runFn 0 14) :=
  let ⟨f, fd, F, g⟩ := D.ex
  ⟨f, fd, fn_no F sc14 (fun _ _ => rfl), g, F.kp, F.bindsN fun _ _ _ _ _ _ us hl => match us, hl with | [_, _, _], _ => rfl⟩
theorem rn14 (n : Nat) : runFn (n + 1) 14 = runB F14 N14.length (List.length ["one", "other", "third"]) (runFn n) := by kernel_rfl
theorem cy14 {n : Nat} (M : Ms K mg) (Cs : ∀ base, Css P w K mg base (n + 1) (runFn n)) (D : Dfn K mg "volume" "volume" (top 28)) : Cal P w K mg base (n + 2) "volume" ["one", "other", "third"] (runFn (n + 1) 14) := by
  rw [rn14 n]
  exact let ⟨f, fd, F, g⟩ := D.ex
    ⟨f, fd, fn_ok (Fi := F14) F sc14 (fun cdv A outer s H E c H0 Z0 hr z0 => P14 M (Cs base) hr z0), g, F.kp, F.bindsN fun _ _ _ _ _ _ us hl => match us, hl with | [_, _, _], _ => rfl⟩
theorem cz15 (D : Dfn K mg "place_of" "place_of" (top 29)) : Cal P w K mg base 1 "place_of" ["point"] (runFn 0 15) :=
  let ⟨f, fd, F, g⟩ := D.ex
  ⟨f, fd, fn_no F sc15 (fun _ _ => rfl), g, F.kp, F.bindsN fun _ _ _ _ _ _ us hl => match us, hl with | [_], _ => rfl⟩
theorem rn15 (n : Nat) : runFn (n + 1) 15 = runB F15 N15.length (List.length ["point"]) (runFn n) := by kernel_rfl
theorem cy15 {n : Nat} (M : Ms K mg) (Cs : ∀ base, Css P w K mg base (n + 1) (runFn n)) (D : Dfn K mg "place_of" "place_of" (top 29)) : Cal P w K mg base (n + 2) "place_of" ["point"] (runFn (n + 1) 15) := by
  rw [rn15 n]
  exact let ⟨f, fd, F, g⟩ := D.ex
    ⟨f, fd, fn_ok (Fi := F15) F sc15 (fun cdv A outer s H E c H0 Z0 hr z0 => P15 M (Cs base) hr z0), g, F.kp, F.bindsN fun _ _ _ _ _ _ us hl => match us, hl with | [_], _ => rfl⟩
theorem cz16 (D : Dfn K mg "point_at" "point_at" (top 30)) : Cal P w K mg base 1 "point_at" ["across", "up"] (runFn 0 16) :=
  let ⟨f, fd, F, g⟩ := D.ex
  ⟨f, fd, fn_no F sc16 (fun _ _ => rfl), g, F.kp, F.bindsN fun _ _ _ _ _ _ us hl => match us, hl with | [_, _], _ => rfl⟩
theorem rn16 (n : Nat) : runFn (n + 1) 16 = runB F16 N16.length (List.length ["across", "up"]) (runFn n) := by kernel_rfl
theorem cy16 {n : Nat} (M : Ms K mg) (Cs : ∀ base, Css P w K mg base (n + 1) (runFn n)) (D : Dfn K mg "point_at" "point_at" (top 30)) : Cal P w K mg base (n + 2) "point_at" ["across", "up"] (runFn (n + 1) 16) := by
  rw [rn16 n]
  exact let ⟨f, fd, F, g⟩ := D.ex
    ⟨f, fd, fn_ok (Fi := F16) F sc16 (fun cdv A outer s H E c H0 Z0 hr z0 => P16 M (Cs base) hr z0), g, F.kp, F.bindsN fun _ _ _ _ _ _ us hl => match us, hl with | [_, _], _ => rfl⟩
theorem cz17 (D : Dfn K mg "fits_circlemeets" "fits" (top 35)) : Cal P w K mg base 1 "fits_circlemeets" ["value"] (runFn 0 17) :=
  let ⟨f, fd, F, g⟩ := D.ex
  ⟨f, fd, fn_no F sc17 (fun _ _ => rfl), g, F.kp, F.bindsN fun _ _ _ _ _ _ us hl => match us, hl with | [_], _ => rfl⟩
theorem rn17 (n : Nat) : runFn (n + 1) 17 = runB F17 N17.length (List.length ["value"]) (runFn n) := by kernel_rfl
theorem cy17 {n : Nat} (M : Ms K mg) (Cs : ∀ base, Css P w K mg base (n + 1) (runFn n)) (D : Dfn K mg "fits_circlemeets" "fits" (top 35)) : Cal P w K mg base (n + 2) "fits_circlemeets" ["value"] (runFn (n + 1) 17) := by
  rw [rn17 n]
  exact let ⟨f, fd, F, g⟩ := D.ex
    ⟨f, fd, fn_ok (Fi := F17) F sc17 (fun cdv A outer s H E c H0 Z0 hr z0 => P17 M (Cs base) hr z0), g, F.kp, F.bindsN fun _ _ _ _ _ _ us hl => match us, hl with | [_], _ => rfl⟩
theorem cz18 (D : Dfn K mg "need_circle" "need_circle" (top 37)) : Cal P w K mg base 1 "need_circle" ["circle"] (runFn 0 18) :=
  let ⟨f, fd, F, g⟩ := D.ex
  ⟨f, fd, fn_no F sc18 (fun _ _ => rfl), g, F.kp, F.bindsN fun _ _ _ _ _ _ us hl => match us, hl with | [_], _ => rfl⟩
theorem rn18 (n : Nat) : runFn (n + 1) 18 = runB F18 N18.length (List.length ["circle"]) (runFn n) := by kernel_rfl
theorem cy18 {n : Nat} (M : Ms K mg) (Cs : ∀ base, Css P w K mg base (n + 1) (runFn n)) (D : Dfn K mg "need_circle" "need_circle" (top 37)) : Cal P w K mg base (n + 2) "need_circle" ["circle"] (runFn (n + 1) 18) := by
  rw [rn18 n]
  exact let ⟨f, fd, F, g⟩ := D.ex
    ⟨f, fd, fn_ok (Fi := F18) F sc18 (fun cdv A outer s H E c H0 Z0 hr z0 => P18 M (Cs base) hr z0), g, F.kp, F.bindsN fun _ _ _ _ _ _ us hl => match us, hl with | [_], _ => rfl⟩
theorem cz19 (D : Dfn K mg "need_line" "need_line" (top 38)) : Cal P w K mg base 1 "need_line" ["line"] (runFn 0 19) :=
  let ⟨f, fd, F, g⟩ := D.ex
  ⟨f, fd, fn_no F sc19 (fun _ _ => rfl), g, F.kp, F.bindsN fun _ _ _ _ _ _ us hl => match us, hl with | [_], _ => rfl⟩
theorem rn19 (n : Nat) : runFn (n + 1) 19 = runB F19 N19.length (List.length ["line"]) (runFn n) := by kernel_rfl
theorem cy19 {n : Nat} (M : Ms K mg) (Cs : ∀ base, Css P w K mg base (n + 1) (runFn n)) (D : Dfn K mg "need_line" "need_line" (top 38)) : Cal P w K mg base (n + 2) "need_line" ["line"] (runFn (n + 1) 19) := by
  rw [rn19 n]
  exact let ⟨f, fd, F, g⟩ := D.ex
    ⟨f, fd, fn_ok (Fi := F19) F sc19 (fun cdv A outer s H E c H0 Z0 hr z0 => P19 M (Cs base) hr z0), g, F.kp, F.bindsN fun _ _ _ _ _ _ us hl => match us, hl with | [_], _ => rfl⟩
theorem cz20 (D : Dfn K mg "square_in" "square_in" (top 39)) : Cal P w K mg base 1 "square_in" ["circle"] (runFn 0 20) :=
  let ⟨f, fd, F, g⟩ := D.ex
  ⟨f, fd, fn_no F sc20 (fun _ _ => rfl), g, F.kp, F.bindsN fun _ _ _ _ _ _ us hl => match us, hl with | [_], _ => rfl⟩
theorem rn20 (n : Nat) : runFn (n + 1) 20 = runB F20 N20.length (List.length ["circle"]) (runFn n) := by kernel_rfl
theorem cy20 {n : Nat} (M : Ms K mg) (Cs : ∀ base, Css P w K mg base (n + 1) (runFn n)) (D : Dfn K mg "square_in" "square_in" (top 39)) : Cal P w K mg base (n + 2) "square_in" ["circle"] (runFn (n + 1) 20) := by
  rw [rn20 n]
  exact let ⟨f, fd, F, g⟩ := D.ex
    ⟨f, fd, fn_ok (Fi := F20) F sc20 (fun cdv A outer s H E c H0 Z0 hr z0 => P20 M (Cs base) hr z0), g, F.kp, F.bindsN fun _ _ _ _ _ _ us hl => match us, hl with | [_], _ => rfl⟩
theorem cz21 (D : Dfn K mg "lead_in" "lead_in" (top 40)) : Cal P w K mg base 1 "lead_in" ["line", "circle"] (runFn 0 21) :=
  let ⟨f, fd, F, g⟩ := D.ex
  ⟨f, fd, fn_no F sc21 (fun _ _ => rfl), g, F.kp, F.bindsN fun _ _ _ _ _ _ us hl => match us, hl with | [_, _], _ => rfl⟩
theorem rn21 (n : Nat) : runFn (n + 1) 21 = runB F21 N21.length (List.length ["line", "circle"]) (runFn n) := by kernel_rfl
theorem cy21 {n : Nat} (M : Ms K mg) (Cs : ∀ base, Css P w K mg base (n + 1) (runFn n)) (D : Dfn K mg "lead_in" "lead_in" (top 40)) : Cal P w K mg base (n + 2) "lead_in" ["line", "circle"] (runFn (n + 1) 21) := by
  rw [rn21 n]
  exact let ⟨f, fd, F, g⟩ := D.ex
    ⟨f, fd, fn_ok (Fi := F21) F sc21 (fun cdv A outer s H E c H0 Z0 hr z0 => P21 M (Cs base) hr z0), g, F.kp, F.bindsN fun _ _ _ _ _ _ us hl => match us, hl with | [_, _], _ => rfl⟩
theorem cz22 (D : Dfn K mg "root_of" "root_of" (top 41)) : Cal P w K mg base 1 "root_of" ["number"] (runFn 0 22) :=
  let ⟨f, fd, F, g⟩ := D.ex
  ⟨f, fd, fn_no F sc22 (fun _ _ => rfl), g, F.kp, F.bindsN fun _ _ _ _ _ _ us hl => match us, hl with | [_], _ => rfl⟩
theorem rn22 (n : Nat) : runFn (n + 1) 22 = runB F22 N22.length (List.length ["number"]) (runFn n) := by kernel_rfl
theorem cy22 {n : Nat} (M : Ms K mg) (Cs : ∀ base, Css P w K mg base (n + 1) (runFn n)) (D : Dfn K mg "root_of" "root_of" (top 41)) : Cal P w K mg base (n + 2) "root_of" ["number"] (runFn (n + 1) 22) := by
  rw [rn22 n]
  exact let ⟨f, fd, F, g⟩ := D.ex
    ⟨f, fd, fn_ok (Fi := F22) F sc22 (fun cdv A outer s H E c H0 Z0 hr z0 => P22 M (Cs base) hr z0), g, F.kp, F.bindsN fun _ _ _ _ _ _ us hl => match us, hl with | [_], _ => rfl⟩
theorem cz23 (D : Dfn K mg "meets_in" "meets_in" (top 42)) : Cal P w K mg base 1 "meets_in" ["line", "circle"] (runFn 0 23) :=
  let ⟨f, fd, F, g⟩ := D.ex
  ⟨f, fd, fn_no F sc23 (fun _ _ => rfl), g, F.kp, F.bindsN fun _ _ _ _ _ _ us hl => match us, hl with | [_, _], _ => rfl⟩
theorem rn23 (n : Nat) : runFn (n + 1) 23 = runB F23 N23.length (List.length ["line", "circle"]) (runFn n) := by kernel_rfl
theorem cy23 {n : Nat} (M : Ms K mg) (Cs : ∀ base, Css P w K mg base (n + 1) (runFn n)) (D : Dfn K mg "meets_in" "meets_in" (top 42)) : Cal P w K mg base (n + 2) "meets_in" ["line", "circle"] (runFn (n + 1) 23) := by
  rw [rn23 n]
  exact let ⟨f, fd, F, g⟩ := D.ex
    ⟨f, fd, fn_ok (Fi := F23) F sc23 (fun cdv A outer s H E c H0 Z0 hr z0 => P23 M (Cs base) hr z0), g, F.kp, F.bindsN fun _ _ _ _ _ _ us hl => match us, hl with | [_, _], _ => rfl⟩
theorem cz24 (D : Dfn K mg "is_circle" "is_circle" (top 43)) : Cal P w K mg base 1 "is_circle" ["value"] (runFn 0 24) :=
  let ⟨f, fd, F, g⟩ := D.ex
  ⟨f, fd, fn_no F sc24 (fun _ _ => rfl), g, F.kp, F.bindsN fun _ _ _ _ _ _ us hl => match us, hl with | [_], _ => rfl⟩
theorem rn24 (n : Nat) : runFn (n + 1) 24 = runB F24 N24.length (List.length ["value"]) (runFn n) := by kernel_rfl
theorem cy24 {n : Nat} (M : Ms K mg) (Cs : ∀ base, Css P w K mg base (n + 1) (runFn n)) (D : Dfn K mg "is_circle" "is_circle" (top 43)) : Cal P w K mg base (n + 2) "is_circle" ["value"] (runFn (n + 1) 24) := by
  rw [rn24 n]
  exact let ⟨f, fd, F, g⟩ := D.ex
    ⟨f, fd, fn_ok (Fi := F24) F sc24 (fun cdv A outer s H E c H0 Z0 hr z0 => P24 M (Cs base) hr z0), g, F.kp, F.bindsN fun _ _ _ _ _ _ us hl => match us, hl with | [_], _ => rfl⟩
theorem cz25 (D : Dfn K mg "lead_of" "lead_of" (top 44)) : Cal P w K mg base 1 "lead_of" ["line", "circle"] (runFn 0 25) :=
  let ⟨f, fd, F, g⟩ := D.ex
  ⟨f, fd, fn_no F sc25 (fun _ _ => rfl), g, F.kp, F.bindsN fun _ _ _ _ _ _ us hl => match us, hl with | [_, _], _ => rfl⟩
theorem rn25 (n : Nat) : runFn (n + 1) 25 = runB F25 N25.length (List.length ["line", "circle"]) (runFn n) := by kernel_rfl
theorem cy25 {n : Nat} (M : Ms K mg) (Cs : ∀ base, Css P w K mg base (n + 1) (runFn n)) (D : Dfn K mg "lead_of" "lead_of" (top 44)) : Cal P w K mg base (n + 2) "lead_of" ["line", "circle"] (runFn (n + 1) 25) := by
  rw [rn25 n]
  exact let ⟨f, fd, F, g⟩ := D.ex
    ⟨f, fd, fn_ok (Fi := F25) F sc25 (fun cdv A outer s H E c H0 Z0 hr z0 => P25 M (Cs base) hr z0), g, F.kp, F.bindsN fun _ _ _ _ _ _ us hl => match us, hl with | [_, _], _ => rfl⟩
theorem cz26 (D : Dfn K mg "meets_of" "meets_of" (top 45)) : Cal P w K mg base 1 "meets_of" ["line", "circle"] (runFn 0 26) :=
  let ⟨f, fd, F, g⟩ := D.ex
  ⟨f, fd, fn_no F sc26 (fun _ _ => rfl), g, F.kp, F.bindsN fun _ _ _ _ _ _ us hl => match us, hl with | [_, _], _ => rfl⟩
theorem rn26 (n : Nat) : runFn (n + 1) 26 = runB F26 N26.length (List.length ["line", "circle"]) (runFn n) := by kernel_rfl
theorem cy26 {n : Nat} (M : Ms K mg) (Cs : ∀ base, Css P w K mg base (n + 1) (runFn n)) (D : Dfn K mg "meets_of" "meets_of" (top 45)) : Cal P w K mg base (n + 2) "meets_of" ["line", "circle"] (runFn (n + 1) 26) := by
  rw [rn26 n]
  exact let ⟨f, fd, F, g⟩ := D.ex
    ⟨f, fd, fn_ok (Fi := F26) F sc26 (fun cdv A outer s H E c H0 Z0 hr z0 => P26 M (Cs base) hr z0), g, F.kp, F.bindsN fun _ _ _ _ _ _ us hl => match us, hl with | [_, _], _ => rfl⟩
theorem cz27 (D : Dfn K mg "primes_of" "primes_of" (top 47)) : Cal P w K mg base 1 "primes_of" ["number"] (runFn 0 27) :=
  let ⟨f, fd, F, g⟩ := D.ex
  ⟨f, fd, fn_no F sc27 (fun _ _ => rfl), g, F.kp, F.bindsN fun _ _ _ _ _ _ us hl => match us, hl with | [_], _ => rfl⟩
theorem rn27 (n : Nat) : runFn (n + 1) 27 = runB F27 N27.length (List.length ["number"]) (runFn n) := by kernel_rfl
theorem cy27 {n : Nat} (M : Ms K mg) (Cs : ∀ base, Css P w K mg base (n + 1) (runFn n)) (D : Dfn K mg "primes_of" "primes_of" (top 47)) : Cal P w K mg base (n + 2) "primes_of" ["number"] (runFn (n + 1) 27) := by
  rw [rn27 n]
  exact let ⟨f, fd, F, g⟩ := D.ex
    ⟨f, fd, fn_ok (Fi := F27) F sc27 (fun cdv A outer s H E c H0 Z0 hr z0 => P27 M (Cs base) hr z0), g, F.kp, F.bindsN fun _ _ _ _ _ _ us hl => match us, hl with | [_], _ => rfl⟩
theorem cz28 (D : Dfn K mg "parted" "parted" (top 48)) : Cal P w K mg base 1 "parted" ["number", "prime"] (runFn 0 28) :=
  let ⟨f, fd, F, g⟩ := D.ex
  ⟨f, fd, fn_no F sc28 (fun _ _ => rfl), g, F.kp, F.bindsN fun _ _ _ _ _ _ us hl => match us, hl with | [_, _], _ => rfl⟩
theorem rn28 (n : Nat) : runFn (n + 1) 28 = runB F28 N28.length (List.length ["number", "prime"]) (runFn n) := by kernel_rfl
theorem cy28 {n : Nat} (M : Ms K mg) (Cs : ∀ base, Css P w K mg base (n + 1) (runFn n)) (D : Dfn K mg "parted" "parted" (top 48)) : Cal P w K mg base (n + 2) "parted" ["number", "prime"] (runFn (n + 1) 28) := by
  rw [rn28 n]
  exact let ⟨f, fd, F, g⟩ := D.ex
    ⟨f, fd, fn_ok (Fi := F28) F sc28 (fun cdv A outer s H E c H0 Z0 hr z0 => P28 M (Cs base) hr z0), g, F.kp, F.bindsN fun _ _ _ _ _ _ us hl => match us, hl with | [_, _], _ => rfl⟩
theorem cz29 (D : Dfn K mg "powered" "powered" (top 49)) : Cal P w K mg base 1 "powered" ["base", "times", "prime"] (runFn 0 29) :=
  let ⟨f, fd, F, g⟩ := D.ex
  ⟨f, fd, fn_no F sc29 (fun _ _ => rfl), g, F.kp, F.bindsN fun _ _ _ _ _ _ us hl => match us, hl with | [_, _, _], _ => rfl⟩
theorem rn29 (n : Nat) : runFn (n + 1) 29 = runB F29 N29.length (List.length ["base", "times", "prime"]) (runFn n) := by kernel_rfl
theorem cy29 {n : Nat} (M : Ms K mg) (Cs : ∀ base, Css P w K mg base (n + 1) (runFn n)) (D : Dfn K mg "powered" "powered" (top 49)) : Cal P w K mg base (n + 2) "powered" ["base", "times", "prime"] (runFn (n + 1) 29) := by
  rw [rn29 n]
  exact let ⟨f, fd, F, g⟩ := D.ex
    ⟨f, fd, fn_ok (Fi := F29) F sc29 (fun cdv A outer s H E c H0 Z0 hr z0 => P29 M (Cs base) hr z0), g, F.kp, F.bindsN fun _ _ _ _ _ _ us hl => match us, hl with | [_, _, _], _ => rfl⟩
theorem cz30 (D : Dfn K mg "is_rest" "is_rest" (top 50)) : Cal P w K mg base 1 "is_rest" ["number", "prime"] (runFn 0 30) :=
  let ⟨f, fd, F, g⟩ := D.ex
  ⟨f, fd, fn_no F sc30 (fun _ _ => rfl), g, F.kp, F.bindsN fun _ _ _ _ _ _ us hl => match us, hl with | [_, _], _ => rfl⟩
theorem rn30 (n : Nat) : runFn (n + 1) 30 = runB F30 N30.length (List.length ["number", "prime"]) (runFn n) := by kernel_rfl
theorem cy30 {n : Nat} (M : Ms K mg) (Cs : ∀ base, Css P w K mg base (n + 1) (runFn n)) (D : Dfn K mg "is_rest" "is_rest" (top 50)) : Cal P w K mg base (n + 2) "is_rest" ["number", "prime"] (runFn (n + 1) 30) := by
  rw [rn30 n]
  exact let ⟨f, fd, F, g⟩ := D.ex
    ⟨f, fd, fn_ok (Fi := F30) F sc30 (fun cdv A outer s H E c H0 Z0 hr z0 => P30 M (Cs base) hr z0), g, F.kp, F.bindsN fun _ _ _ _ _ _ us hl => match us, hl with | [_, _], _ => rfl⟩
theorem cz31 (D : Dfn K mg "is_barred" "is_barred" (top 51)) : Cal P w K mg base 1 "is_barred" ["one", "other", "place"] (runFn 0 31) :=
  let ⟨f, fd, F, g⟩ := D.ex
  ⟨f, fd, fn_no F sc31 (fun _ _ => rfl), g, F.kp, F.bindsN fun _ _ _ _ _ _ us hl => match us, hl with | [_, _, _], _ => rfl⟩
theorem rn31 (n : Nat) : runFn (n + 1) 31 = runB F31 N31.length (List.length ["one", "other", "place"]) (runFn n) := by kernel_rfl
theorem cy31 {n : Nat} (M : Ms K mg) (Cs : ∀ base, Css P w K mg base (n + 1) (runFn n)) (D : Dfn K mg "is_barred" "is_barred" (top 51)) : Cal P w K mg base (n + 2) "is_barred" ["one", "other", "place"] (runFn (n + 1) 31) := by
  rw [rn31 n]
  exact let ⟨f, fd, F, g⟩ := D.ex
    ⟨f, fd, fn_ok (Fi := F31) F sc31 (fun cdv A outer s H E c H0 Z0 hr z0 => P31 M (Cs base) hr z0), g, F.kp, F.bindsN fun _ _ _ _ _ _ us hl => match us, hl with | [_, _, _], _ => rfl⟩
theorem cz32 (D : Dfn K mg "bars_between" "bars_between" (top 52)) : Cal P w K mg base 1 "bars_between" ["one", "other"] (runFn 0 32) :=
  let ⟨f, fd, F, g⟩ := D.ex
  ⟨f, fd, fn_no F sc32 (fun _ _ => rfl), g, F.kp, F.bindsN fun _ _ _ _ _ _ us hl => match us, hl with | [_, _], _ => rfl⟩
theorem rn32 (n : Nat) : runFn (n + 1) 32 = runB F32 N32.length (List.length ["one", "other"]) (runFn n) := by kernel_rfl
theorem cy32 {n : Nat} (M : Ms K mg) (Cs : ∀ base, Css P w K mg base (n + 1) (runFn n)) (D : Dfn K mg "bars_between" "bars_between" (top 52)) : Cal P w K mg base (n + 2) "bars_between" ["one", "other"] (runFn (n + 1) 32) := by
  rw [rn32 n]
  exact let ⟨f, fd, F, g⟩ := D.ex
    ⟨f, fd, fn_ok (Fi := F32) F sc32 (fun cdv A outer s H E c H0 Z0 hr z0 => P32 M (Cs base) hr z0), g, F.kp, F.bindsN fun _ _ _ _ _ _ us hl => match us, hl with | [_, _], _ => rfl⟩
theorem cz33 (D : Dfn K mg "bars_in" "bars_in" (top 53)) : Cal P w K mg base 1 "bars_in" ["weights"] (runFn 0 33) :=
  let ⟨f, fd, F, g⟩ := D.ex
  ⟨f, fd, fn_no F sc33 (fun _ _ => rfl), g, F.kp, F.bindsN fun _ _ _ _ _ _ us hl => match us, hl with | [_], _ => rfl⟩
theorem rn33 (n : Nat) : runFn (n + 1) 33 = runB F33 N33.length (List.length ["weights"]) (runFn n) := by kernel_rfl
theorem cy33 {n : Nat} (M : Ms K mg) (Cs : ∀ base, Css P w K mg base (n + 1) (runFn n)) (D : Dfn K mg "bars_in" "bars_in" (top 53)) : Cal P w K mg base (n + 2) "bars_in" ["weights"] (runFn (n + 1) 33) := by
  rw [rn33 n]
  exact let ⟨f, fd, F, g⟩ := D.ex
    ⟨f, fd, fn_ok (Fi := F33) F sc33 (fun cdv A outer s H E c H0 Z0 hr z0 => P33 M (Cs base) hr z0), g, F.kp, F.bindsN fun _ _ _ _ _ _ us hl => match us, hl with | [_], _ => rfl⟩
theorem cz34 (D : Dfn K mg "lean_and_shared" "lean_and_shared" (top 55)) : Cal P w K mg base 1 "lean_and_shared" ["numbers"] (runFn 0 34) :=
  let ⟨f, fd, F, g⟩ := D.ex
  ⟨f, fd, fn_no F sc34 (fun _ _ => rfl), g, F.kp, F.bindsN fun _ _ _ _ _ _ us hl => match us, hl with | [_], _ => rfl⟩
theorem rn34 (n : Nat) : runFn (n + 1) 34 = runB F34 N34.length (List.length ["numbers"]) (runFn n) := by kernel_rfl
theorem cy34 {n : Nat} (M : Ms K mg) (Cs : ∀ base, Css P w K mg base (n + 1) (runFn n)) (D : Dfn K mg "lean_and_shared" "lean_and_shared" (top 55)) : Cal P w K mg base (n + 2) "lean_and_shared" ["numbers"] (runFn (n + 1) 34) := by
  rw [rn34 n]
  exact let ⟨f, fd, F, g⟩ := D.ex
    ⟨f, fd, fn_ok (Fi := F34) F sc34 (fun cdv A outer s H E c H0 Z0 hr z0 => P34 M (Cs base) hr z0), g, F.kp, F.bindsN fun _ _ _ _ _ _ us hl => match us, hl with | [_], _ => rfl⟩
theorem cz35 (D : Dfn K mg "roots_of" "roots_of" (top 56)) : Cal P w K mg base 1 "roots_of" ["numbers"] (runFn 0 35) :=
  let ⟨f, fd, F, g⟩ := D.ex
  ⟨f, fd, fn_no F sc35 (fun _ _ => rfl), g, F.kp, F.bindsN fun _ _ _ _ _ _ us hl => match us, hl with | [_], _ => rfl⟩
theorem rn35 (n : Nat) : runFn (n + 1) 35 = runB F35 N35.length (List.length ["numbers"]) (runFn n) := by kernel_rfl
theorem cy35 {n : Nat} (M : Ms K mg) (Cs : ∀ base, Css P w K mg base (n + 1) (runFn n)) (D : Dfn K mg "roots_of" "roots_of" (top 56)) : Cal P w K mg base (n + 2) "roots_of" ["numbers"] (runFn (n + 1) 35) := by
  rw [rn35 n]
  exact let ⟨f, fd, F, g⟩ := D.ex
    ⟨f, fd, fn_ok (Fi := F35) F sc35 (fun cdv A outer s H E c H0 Z0 hr z0 => P35 M (Cs base) hr z0), g, F.kp, F.bindsN fun _ _ _ _ _ _ us hl => match us, hl with | [_], _ => rfl⟩
theorem cz36 (D : Dfn K mg "moved" "moved" (top 57)) : Cal P w K mg base 1 "moved" ["parts", "roots"] (runFn 0 36) :=
  let ⟨f, fd, F, g⟩ := D.ex
  ⟨f, fd, fn_no F sc36 (fun _ _ => rfl), g, F.kp, F.bindsN fun _ _ _ _ _ _ us hl => match us, hl with | [_, _], _ => rfl⟩
theorem rn36 (n : Nat) : runFn (n + 1) 36 = runB F36 N36.length (List.length ["parts", "roots"]) (runFn n) := by kernel_rfl
theorem cy36 {n : Nat} (M : Ms K mg) (Cs : ∀ base, Css P w K mg base (n + 1) (runFn n)) (D : Dfn K mg "moved" "moved" (top 57)) : Cal P w K mg base (n + 2) "moved" ["parts", "roots"] (runFn (n + 1) 36) := by
  rw [rn36 n]
  exact let ⟨f, fd, F, g⟩ := D.ex
    ⟨f, fd, fn_ok (Fi := F36) F sc36 (fun cdv A outer s H E c H0 Z0 hr z0 => P36 M (Cs base) hr z0), g, F.kp, F.bindsN fun _ _ _ _ _ _ us hl => match us, hl with | [_, _], _ => rfl⟩
theorem cz37 (D : Dfn K mg "back" "back" (top 58)) : Cal P w K mg base 1 "back" ["numbers", "point"] (runFn 0 37) :=
  let ⟨f, fd, F, g⟩ := D.ex
  ⟨f, fd, fn_no F sc37 (fun _ _ => rfl), g, F.kp, F.bindsN fun _ _ _ _ _ _ us hl => match us, hl with | [_, _], _ => rfl⟩
theorem rn37 (n : Nat) : runFn (n + 1) 37 = runB F37 N37.length (List.length ["numbers", "point"]) (runFn n) := by kernel_rfl
theorem cy37 {n : Nat} (M : Ms K mg) (Cs : ∀ base, Css P w K mg base (n + 1) (runFn n)) (D : Dfn K mg "back" "back" (top 58)) : Cal P w K mg base (n + 2) "back" ["numbers", "point"] (runFn (n + 1) 37) := by
  rw [rn37 n]
  exact let ⟨f, fd, F, g⟩ := D.ex
    ⟨f, fd, fn_ok (Fi := F37) F sc37 (fun cdv A outer s H E c H0 Z0 hr z0 => P37 M (Cs base) hr z0), g, F.kp, F.bindsN fun _ _ _ _ _ _ us hl => match us, hl with | [_, _], _ => rfl⟩
theorem cz38 (D : Dfn K mg "value_of" "value_of" (top 59)) : Cal P w K mg base 1 "value_of" ["numbers", "point"] (runFn 0 38) :=
  let ⟨f, fd, F, g⟩ := D.ex
  ⟨f, fd, fn_no F sc38 (fun _ _ => rfl), g, F.kp, F.bindsN fun _ _ _ _ _ _ us hl => match us, hl with | [_, _], _ => rfl⟩
theorem rn38 (n : Nat) : runFn (n + 1) 38 = runB F38 N38.length (List.length ["numbers", "point"]) (runFn n) := by kernel_rfl
theorem cy38 {n : Nat} (M : Ms K mg) (Cs : ∀ base, Css P w K mg base (n + 1) (runFn n)) (D : Dfn K mg "value_of" "value_of" (top 59)) : Cal P w K mg base (n + 2) "value_of" ["numbers", "point"] (runFn (n + 1) 38) := by
  rw [rn38 n]
  exact let ⟨f, fd, F, g⟩ := D.ex
    ⟨f, fd, fn_ok (Fi := F38) F sc38 (fun cdv A outer s H E c H0 Z0 hr z0 => P38 M (Cs base) hr z0), g, F.kp, F.bindsN fun _ _ _ _ _ _ us hl => match us, hl with | [_, _], _ => rfl⟩
theorem cz39 (D : Dfn K mg "reaches" "reaches" (top 61)) : Cal P w K mg base 1 "reaches" ["lean"] (runFn 0 39) :=
  let ⟨f, fd, F, g⟩ := D.ex
  ⟨f, fd, fn_no F sc39 (fun _ _ => rfl), g, F.kp, F.bindsN fun _ _ _ _ _ _ us hl => match us, hl with | [_], _ => rfl⟩
theorem rn39 (n : Nat) : runFn (n + 1) 39 = runB F39 N39.length (List.length ["lean"]) (runFn n) := by kernel_rfl
theorem cy39 {n : Nat} (M : Ms K mg) (Cs : ∀ base, Css P w K mg base (n + 1) (runFn n)) (D : Dfn K mg "reaches" "reaches" (top 61)) : Cal P w K mg base (n + 2) "reaches" ["lean"] (runFn (n + 1) 39) := by
  rw [rn39 n]
  exact let ⟨f, fd, F, g⟩ := D.ex
    ⟨f, fd, fn_ok (Fi := F39) F sc39 (fun cdv A outer s H E c H0 Z0 hr z0 => P39 M (Cs base) hr z0), g, F.kp, F.bindsN fun _ _ _ _ _ _ us hl => match us, hl with | [_], _ => rfl⟩
theorem cz40 (D : Dfn K mg "rooted" "rooted" (top 62)) : Cal P w K mg base 1 "rooted" ["numbers", "place", "one", "other"] (runFn 0 40) :=
  let ⟨f, fd, F, g⟩ := D.ex
  ⟨f, fd, fn_no F sc40 (fun _ _ => rfl), g, F.kp, F.bindsN fun _ _ _ _ _ _ us hl => match us, hl with | [_, _, _, _], _ => rfl⟩
theorem rn40 (n : Nat) : runFn (n + 1) 40 = runB F40 N40.length (List.length ["numbers", "place", "one", "other"]) (runFn n) := by kernel_rfl
theorem cy40 {n : Nat} (M : Ms K mg) (Cs : ∀ base, Css P w K mg base (n + 1) (runFn n)) (D : Dfn K mg "rooted" "rooted" (top 62)) : Cal P w K mg base (n + 2) "rooted" ["numbers", "place", "one", "other"] (runFn (n + 1) 40) := by
  rw [rn40 n]
  exact let ⟨f, fd, F, g⟩ := D.ex
    ⟨f, fd, fn_ok (Fi := F40) F sc40 (fun cdv A outer s H E c H0 Z0 hr z0 => P40 M (Cs base) hr z0), g, F.kp, F.bindsN fun _ _ _ _ _ _ us hl => match us, hl with | [_, _, _, _], _ => rfl⟩
theorem cz41 (D : Dfn K mg "sized_points" "sized_points" (top 63)) : Cal P w K mg base 1 "sized_points" ["lean", "only_one"] (runFn 0 41) :=
  let ⟨f, fd, F, g⟩ := D.ex
  ⟨f, fd, fn_no F sc41 (fun _ _ => rfl), g, F.kp, F.bindsN fun _ _ _ _ _ _ us hl => match us, hl with | [_, _], _ => rfl⟩
theorem rn41 (n : Nat) : runFn (n + 1) 41 = runB F41 N41.length (List.length ["lean", "only_one"]) (runFn n) := by kernel_rfl
theorem cy41 {n : Nat} (M : Ms K mg) (Cs : ∀ base, Css P w K mg base (n + 1) (runFn n)) (D : Dfn K mg "sized_points" "sized_points" (top 63)) : Cal P w K mg base (n + 2) "sized_points" ["lean", "only_one"] (runFn (n + 1) 41) := by
  rw [rn41 n]
  exact let ⟨f, fd, F, g⟩ := D.ex
    ⟨f, fd, fn_ok (Fi := F41) F sc41 (fun cdv A outer s H E c H0 Z0 hr z0 => P41 M (Cs base) hr z0), g, F.kp, F.bindsN fun _ _ _ _ _ _ us hl => match us, hl with | [_, _], _ => rfl⟩
theorem cz42 (D : Dfn K mg "low_in" "low_in" (top 64)) : Cal P w K mg base 1 "low_in" ["lean"] (runFn 0 42) :=
  let ⟨f, fd, F, g⟩ := D.ex
  ⟨f, fd, fn_no F sc42 (fun _ _ => rfl), g, F.kp, F.bindsN fun _ _ _ _ _ _ us hl => match us, hl with | [_], _ => rfl⟩
theorem rn42 (n : Nat) : runFn (n + 1) 42 = runB F42 N42.length (List.length ["lean"]) (runFn n) := by kernel_rfl
theorem cy42 {n : Nat} (M : Ms K mg) (Cs : ∀ base, Css P w K mg base (n + 1) (runFn n)) (D : Dfn K mg "low_in" "low_in" (top 64)) : Cal P w K mg base (n + 2) "low_in" ["lean"] (runFn (n + 1) 42) := by
  rw [rn42 n]
  exact let ⟨f, fd, F, g⟩ := D.ex
    ⟨f, fd, fn_ok (Fi := F42) F sc42 (fun cdv A outer s H E c H0 Z0 hr z0 => P42 M (Cs base) hr z0), g, F.kp, F.bindsN fun _ _ _ _ _ _ us hl => match us, hl with | [_], _ => rfl⟩
theorem cz43 (D : Dfn K mg "point_in" "point_in" (top 66)) : Cal P w K mg base 1 "point_in" ["numbers"] (runFn 0 43) :=
  let ⟨f, fd, F, g⟩ := D.ex
  ⟨f, fd, fn_no F sc43 (fun _ _ => rfl), g, F.kp, F.bindsN fun _ _ _ _ _ _ us hl => match us, hl with | [_], _ => rfl⟩
theorem rn43 (n : Nat) : runFn (n + 1) 43 = runB F43 N43.length (List.length ["numbers"]) (runFn n) := by kernel_rfl
theorem cy43 {n : Nat} (M : Ms K mg) (Cs : ∀ base, Css P w K mg base (n + 1) (runFn n)) (D : Dfn K mg "point_in" "point_in" (top 66)) : Cal P w K mg base (n + 2) "point_in" ["numbers"] (runFn (n + 1) 43) := by
  rw [rn43 n]
  exact let ⟨f, fd, F, g⟩ := D.ex
    ⟨f, fd, fn_ok (Fi := F43) F sc43 (fun cdv A outer s H E c H0 Z0 hr z0 => P43 M (Cs base) hr z0), g, F.kp, F.bindsN fun _ _ _ _ _ _ us hl => match us, hl with | [_], _ => rfl⟩
theorem cz44 (D : Dfn K mg "doubled" "doubled" (top 70)) : Cal P w K mg base 1 "doubled" ["conic"] (runFn 0 44) :=
  let ⟨f, fd, F, g⟩ := D.ex
  ⟨f, fd, fn_no F sc44 (fun _ _ => rfl), g, F.kp, F.bindsN fun _ _ _ _ _ _ us hl => match us, hl with | [_], _ => rfl⟩
theorem rn44 (n : Nat) : runFn (n + 1) 44 = runB F44 N44.length (List.length ["conic"]) (runFn n) := by kernel_rfl
theorem cy44 {n : Nat} (M : Ms K mg) (Cs : ∀ base, Css P w K mg base (n + 1) (runFn n)) (D : Dfn K mg "doubled" "doubled" (top 70)) : Cal P w K mg base (n + 2) "doubled" ["conic"] (runFn (n + 1) 44) := by
  rw [rn44 n]
  exact let ⟨f, fd, F, g⟩ := D.ex
    ⟨f, fd, fn_ok (Fi := F44) F sc44 (fun cdv A outer s H E c H0 Z0 hr z0 => P44 M (Cs base) hr z0), g, F.kp, F.bindsN fun _ _ _ _ _ _ us hl => match us, hl with | [_], _ => rfl⟩
theorem cz45 (D : Dfn K mg "fits_conic" "fits_conic" (top 71)) : Cal P w K mg base 1 "fits_conic" ["value"] (runFn 0 45) :=
  let ⟨f, fd, F, g⟩ := D.ex
  ⟨f, fd, fn_no F sc45 (fun _ _ => rfl), g, F.kp, F.bindsN fun _ _ _ _ _ _ us hl => match us, hl with | [_], _ => rfl⟩
theorem rn45 (n : Nat) : runFn (n + 1) 45 = runB F45 N45.length (List.length ["value"]) (runFn n) := by kernel_rfl
theorem cy45 {n : Nat} (M : Ms K mg) (Cs : ∀ base, Css P w K mg base (n + 1) (runFn n)) (D : Dfn K mg "fits_conic" "fits_conic" (top 71)) : Cal P w K mg base (n + 2) "fits_conic" ["value"] (runFn (n + 1) 45) := by
  rw [rn45 n]
  exact let ⟨f, fd, F, g⟩ := D.ex
    ⟨f, fd, fn_ok (Fi := F45) F sc45 (fun cdv A outer s H E c H0 Z0 hr z0 => P45 M (Cs base) hr z0), g, F.kp, F.bindsN fun _ _ _ _ _ _ us hl => match us, hl with | [_], _ => rfl⟩
theorem cz46 (D : Dfn K mg "need_conic" "need_conic" (top 72)) : Cal P w K mg base 1 "need_conic" ["value"] (runFn 0 46) :=
  let ⟨f, fd, F, g⟩ := D.ex
  ⟨f, fd, fn_no F sc46 (fun _ _ => rfl), g, F.kp, F.bindsN fun _ _ _ _ _ _ us hl => match us, hl with | [_], _ => rfl⟩
theorem rn46 (n : Nat) : runFn (n + 1) 46 = runB F46 N46.length (List.length ["value"]) (runFn n) := by kernel_rfl
theorem cy46 {n : Nat} (M : Ms K mg) (Cs : ∀ base, Css P w K mg base (n + 1) (runFn n)) (D : Dfn K mg "need_conic" "need_conic" (top 72)) : Cal P w K mg base (n + 2) "need_conic" ["value"] (runFn (n + 1) 46) := by
  rw [rn46 n]
  exact let ⟨f, fd, F, g⟩ := D.ex
    ⟨f, fd, fn_ok (Fi := F46) F sc46 (fun cdv A outer s H E c H0 Z0 hr z0 => P46 M (Cs base) hr z0), g, F.kp, F.bindsN fun _ _ _ _ _ _ us hl => match us, hl with | [_], _ => rfl⟩
theorem cz47 (D : Dfn K mg "both" "both" (top 73)) : Cal P w K mg base 1 "both" ["table", "one", "other"] (runFn 0 47) :=
  let ⟨f, fd, F, g⟩ := D.ex
  ⟨f, fd, fn_no F sc47 (fun _ _ => rfl), g, F.kp, F.bindsN fun _ _ _ _ _ _ us hl => match us, hl with | [_, _, _], _ => rfl⟩
theorem rn47 (n : Nat) : runFn (n + 1) 47 = runB F47 N47.length (List.length ["table", "one", "other"]) (runFn n) := by kernel_rfl
theorem cy47 {n : Nat} (M : Ms K mg) (Cs : ∀ base, Css P w K mg base (n + 1) (runFn n)) (D : Dfn K mg "both" "both" (top 73)) : Cal P w K mg base (n + 2) "both" ["table", "one", "other"] (runFn (n + 1) 47) := by
  rw [rn47 n]
  exact let ⟨f, fd, F, g⟩ := D.ex
    ⟨f, fd, fn_ok (Fi := F47) F sc47 (fun cdv A outer s H E c H0 Z0 hr z0 => P47 M (Cs base) hr z0), g, F.kp, F.bindsN fun _ _ _ _ _ _ us hl => match us, hl with | [_, _, _], _ => rfl⟩
theorem cz48 (D : Dfn K mg "headed" "headed" (top 74)) : Cal P w K mg base 1 "headed" ["table", "rows"] (runFn 0 48) :=
  let ⟨f, fd, F, g⟩ := D.ex
  ⟨f, fd, fn_no F sc48 (fun _ _ => rfl), g, F.kp, F.bindsN fun _ _ _ _ _ _ us hl => match us, hl with | [_, _], _ => rfl⟩
theorem rn48 (n : Nat) : runFn (n + 1) 48 = runB F48 N48.length (List.length ["table", "rows"]) (runFn n) := by kernel_rfl
theorem cy48 {n : Nat} (M : Ms K mg) (Cs : ∀ base, Css P w K mg base (n + 1) (runFn n)) (D : Dfn K mg "headed" "headed" (top 74)) : Cal P w K mg base (n + 2) "headed" ["table", "rows"] (runFn (n + 1) 48) := by
  rw [rn48 n]
  exact let ⟨f, fd, F, g⟩ := D.ex
    ⟨f, fd, fn_ok (Fi := F48) F sc48 (fun cdv A outer s H E c H0 Z0 hr z0 => P48 M (Cs base) hr z0), g, F.kp, F.bindsN fun _ _ _ _ _ _ us hl => match us, hl with | [_, _], _ => rfl⟩
theorem cz49 (D : Dfn K mg "corners_in" "corners_in" (top 75)) : Cal P w K mg base 1 "corners_in" ["table"] (runFn 0 49) :=
  let ⟨f, fd, F, g⟩ := D.ex
  ⟨f, fd, fn_no F sc49 (fun _ _ => rfl), g, F.kp, F.bindsN fun _ _ _ _ _ _ us hl => match us, hl with | [_], _ => rfl⟩
theorem rn49 (n : Nat) : runFn (n + 1) 49 = runB F49 N49.length (List.length ["table"]) (runFn n) := by kernel_rfl
theorem cy49 {n : Nat} (M : Ms K mg) (Cs : ∀ base, Css P w K mg base (n + 1) (runFn n)) (D : Dfn K mg "corners_in" "corners_in" (top 75)) : Cal P w K mg base (n + 2) "corners_in" ["table"] (runFn (n + 1) 49) := by
  rw [rn49 n]
  exact let ⟨f, fd, F, g⟩ := D.ex
    ⟨f, fd, fn_ok (Fi := F49) F sc49 (fun cdv A outer s H E c H0 Z0 hr z0 => P49 M (Cs base) hr z0), g, F.kp, F.bindsN fun _ _ _ _ _ _ us hl => match us, hl with | [_], _ => rfl⟩
theorem cz50 (D : Dfn K mg "values_in" "values_in" (top 76)) : Cal P w K mg base 1 "values_in" ["conic"] (runFn 0 50) :=
  let ⟨f, fd, F, g⟩ := D.ex
  ⟨f, fd, fn_no F sc50 (fun _ _ => rfl), g, F.kp, F.bindsN fun _ _ _ _ _ _ us hl => match us, hl with | [_], _ => rfl⟩
theorem rn50 (n : Nat) : runFn (n + 1) 50 = runB F50 N50.length (List.length ["conic"]) (runFn n) := by kernel_rfl
theorem cy50 {n : Nat} (M : Ms K mg) (Cs : ∀ base, Css P w K mg base (n + 1) (runFn n)) (D : Dfn K mg "values_in" "values_in" (top 76)) : Cal P w K mg base (n + 2) "values_in" ["conic"] (runFn (n + 1) 50) := by
  rw [rn50 n]
  exact let ⟨f, fd, F, g⟩ := D.ex
    ⟨f, fd, fn_ok (Fi := F50) F sc50 (fun cdv A outer s H E c H0 Z0 hr z0 => P50 M (Cs base) hr z0), g, F.kp, F.bindsN fun _ _ _ _ _ _ us hl => match us, hl with | [_], _ => rfl⟩
theorem cz51 (D : Dfn K mg "value_at" "value_at" (top 77)) : Cal P w K mg base 1 "value_at" ["conic", "point"] (runFn 0 51) :=
  let ⟨f, fd, F, g⟩ := D.ex
  ⟨f, fd, fn_no F sc51 (fun _ _ => rfl), g, F.kp, F.bindsN fun _ _ _ _ _ _ us hl => match us, hl with | [_, _], _ => rfl⟩
theorem rn51 (n : Nat) : runFn (n + 1) 51 = runB F51 N51.length (List.length ["conic", "point"]) (runFn n) := by kernel_rfl
theorem cy51 {n : Nat} (M : Ms K mg) (Cs : ∀ base, Css P w K mg base (n + 1) (runFn n)) (D : Dfn K mg "value_at" "value_at" (top 77)) : Cal P w K mg base (n + 2) "value_at" ["conic", "point"] (runFn (n + 1) 51) := by
  rw [rn51 n]
  exact let ⟨f, fd, F, g⟩ := D.ex
    ⟨f, fd, fn_ok (Fi := F51) F sc51 (fun cdv A outer s H E c H0 Z0 hr z0 => P51 M (Cs base) hr z0), g, F.kp, F.bindsN fun _ _ _ _ _ _ us hl => match us, hl with | [_, _], _ => rfl⟩
theorem cz52 (D : Dfn K mg "has_points" "has_points" (top 78)) : Cal P w K mg base 1 "has_points" ["conic"] (runFn 0 52) :=
  let ⟨f, fd, F, g⟩ := D.ex
  ⟨f, fd, fn_no F sc52 (fun _ _ => rfl), g, F.kp, F.bindsN fun _ _ _ _ _ _ us hl => match us, hl with | [_], _ => rfl⟩
theorem rn52 (n : Nat) : runFn (n + 1) 52 = runB F52 N52.length (List.length ["conic"]) (runFn n) := by kernel_rfl
theorem cy52 {n : Nat} (M : Ms K mg) (Cs : ∀ base, Css P w K mg base (n + 1) (runFn n)) (D : Dfn K mg "has_points" "has_points" (top 78)) : Cal P w K mg base (n + 2) "has_points" ["conic"] (runFn (n + 1) 52) := by
  rw [rn52 n]
  exact let ⟨f, fd, F, g⟩ := D.ex
    ⟨f, fd, fn_ok (Fi := F52) F sc52 (fun cdv A outer s H E c H0 Z0 hr z0 => P52 M (Cs base) hr z0), g, F.kp, F.bindsN fun _ _ _ _ _ _ us hl => match us, hl with | [_], _ => rfl⟩
theorem cz53 (D : Dfn K mg "points_on" "points_on" (top 79)) : Cal P w K mg base 1 "points_on" ["conic", "height"] (runFn 0 53) :=
  let ⟨f, fd, F, g⟩ := D.ex
  ⟨f, fd, fn_no F sc53 (fun _ _ => rfl), g, F.kp, F.bindsN fun _ _ _ _ _ _ us hl => match us, hl with | [_, _], _ => rfl⟩
theorem rn53 (n : Nat) : runFn (n + 1) 53 = runB F53 N53.length (List.length ["conic", "height"]) (runFn n) := by kernel_rfl
theorem cy53 {n : Nat} (M : Ms K mg) (Cs : ∀ base, Css P w K mg base (n + 1) (runFn n)) (D : Dfn K mg "points_on" "points_on" (top 79)) : Cal P w K mg base (n + 2) "points_on" ["conic", "height"] (runFn (n + 1) 53) := by
  rw [rn53 n]
  exact let ⟨f, fd, F, g⟩ := D.ex
    ⟨f, fd, fn_ok (Fi := F53) F sc53 (fun cdv A outer s H E c H0 Z0 hr z0 => P53 M (Cs base) hr z0), g, F.kp, F.bindsN fun _ _ _ _ _ _ us hl => match us, hl with | [_, _], _ => rfl⟩
theorem cz54 (D : Dfn K mg "mixed" "mixed" (top 81)) : Cal P w K mg base 1 "mixed" ["numbers", "one", "other"] (runFn 0 54) :=
  let ⟨f, fd, F, g⟩ := D.ex
  ⟨f, fd, fn_no F sc54 (fun _ _ => rfl), g, F.kp, F.bindsN fun _ _ _ _ _ _ us hl => match us, hl with | [_, _, _], _ => rfl⟩
theorem rn54 (n : Nat) : runFn (n + 1) 54 = runB F54 N54.length (List.length ["numbers", "one", "other"]) (runFn n) := by kernel_rfl
theorem cy54 {n : Nat} (M : Ms K mg) (Cs : ∀ base, Css P w K mg base (n + 1) (runFn n)) (D : Dfn K mg "mixed" "mixed" (top 81)) : Cal P w K mg base (n + 2) "mixed" ["numbers", "one", "other"] (runFn (n + 1) 54) := by
  rw [rn54 n]
  exact let ⟨f, fd, F, g⟩ := D.ex
    ⟨f, fd, fn_ok (Fi := F54) F sc54 (fun cdv A outer s H E c H0 Z0 hr z0 => P54 M (Cs base) hr z0), g, F.kp, F.bindsN fun _ _ _ _ _ _ us hl => match us, hl with | [_, _, _], _ => rfl⟩
theorem cz55 (D : Dfn K mg "need_numbers" "need_numbers" (top 84)) : CalS P w K mg base 1 "need_numbers" (runFn 0 55) :=
  let ⟨f, fd, F, g⟩ := D.ex
  ⟨f, fn_noS F sc55 (fun _ _ => rfl) (fun _ _ _ _ _ _ rest => match rest with | [] => by kernel_rfl | _ :: _ => by kernel_rfl), g, F.kp⟩
theorem rn55 (n : Nat) : runFn (n + 1) 55 = runB F55 N55.length 1 (runFn n) := by kernel_rfl
theorem cy55 {n : Nat} (M : Ms K mg) (Cs : ∀ base, Css P w K mg base (n + 1) (runFn n)) (D : Dfn K mg "need_numbers" "need_numbers" (top 84)) : CalS P w K mg base (n + 2) "need_numbers" (runFn (n + 1) 55) := by
  rw [rn55 n]
  exact let ⟨f, fd, F, g⟩ := D.ex
    ⟨f, fn_okS (Fi := F55) F sc55 (fun _ _ _ _ _ _ rest => match rest with | [] => by kernel_rfl | _ :: _ => by kernel_rfl) (fun cdv A outer s H E c H0 Z0 hr z0 => P55 M (Cs base) hr z0), g, F.kp⟩
theorem cz56 (D : Dfn K mg "turned" "turned" (top 85)) : Cal P w K mg base 1 "turned" ["numbers", "point"] (runFn 0 56) :=
  let ⟨f, fd, F, g⟩ := D.ex
  ⟨f, fd, fn_no F sc56 (fun _ _ => rfl), g, F.kp, F.bindsN fun _ _ _ _ _ _ us hl => match us, hl with | [_, _], _ => rfl⟩
theorem rn56 (n : Nat) : runFn (n + 1) 56 = runB F56 N56.length (List.length ["numbers", "point"]) (runFn n) := by kernel_rfl
theorem cy56 {n : Nat} (M : Ms K mg) (Cs : ∀ base, Css P w K mg base (n + 1) (runFn n)) (D : Dfn K mg "turned" "turned" (top 85)) : Cal P w K mg base (n + 2) "turned" ["numbers", "point"] (runFn (n + 1) 56) := by
  rw [rn56 n]
  exact let ⟨f, fd, F, g⟩ := D.ex
    ⟨f, fd, fn_ok (Fi := F56) F sc56 (fun cdv A outer s H E c H0 Z0 hr z0 => P56 M (Cs base) hr z0), g, F.kp, F.bindsN fun _ _ _ _ _ _ us hl => match us, hl with | [_, _], _ => rfl⟩
theorem cz57 (D : Dfn K mg "sums_in" "sums_in" (top 86)) : Cal P w K mg base 1 "sums_in" ["one", "other", "number"] (runFn 0 57) :=
  let ⟨f, fd, F, g⟩ := D.ex
  ⟨f, fd, fn_no F sc57 (fun _ _ => rfl), g, F.kp, F.bindsN fun _ _ _ _ _ _ us hl => match us, hl with | [_, _, _], _ => rfl⟩
theorem rn57 (n : Nat) : runFn (n + 1) 57 = runB F57 N57.length (List.length ["one", "other", "number"]) (runFn n) := by kernel_rfl
theorem cy57 {n : Nat} (M : Ms K mg) (Cs : ∀ base, Css P w K mg base (n + 1) (runFn n)) (D : Dfn K mg "sums_in" "sums_in" (top 86)) : Cal P w K mg base (n + 2) "sums_in" ["one", "other", "number"] (runFn (n + 1) 57) := by
  rw [rn57 n]
  exact let ⟨f, fd, F, g⟩ := D.ex
    ⟨f, fd, fn_ok (Fi := F57) F sc57 (fun cdv A outer s H E c H0 Z0 hr z0 => P57 M (Cs base) hr z0), g, F.kp, F.bindsN fun _ _ _ _ _ _ us hl => match us, hl with | [_, _, _], _ => rfl⟩
theorem cz58 (D : Dfn K mg "squares_for" "squares_for" (top 87)) : Cal P w K mg base 1 "squares_for" ["one", "other", "number"] (runFn 0 58) :=
  let ⟨f, fd, F, g⟩ := D.ex
  ⟨f, fd, fn_no F sc58 (fun _ _ => rfl), g, F.kp, F.bindsN fun _ _ _ _ _ _ us hl => match us, hl with | [_, _, _], _ => rfl⟩
theorem rn58 (n : Nat) : runFn (n + 1) 58 = runB F58 N58.length (List.length ["one", "other", "number"]) (runFn n) := by kernel_rfl
theorem cy58 {n : Nat} (M : Ms K mg) (Cs : ∀ base, Css P w K mg base (n + 1) (runFn n)) (D : Dfn K mg "squares_for" "squares_for" (top 87)) : Cal P w K mg base (n + 2) "squares_for" ["one", "other", "number"] (runFn (n + 1) 58) := by
  rw [rn58 n]
  exact let ⟨f, fd, F, g⟩ := D.ex
    ⟨f, fd, fn_ok (Fi := F58) F sc58 (fun cdv A outer s H E c H0 Z0 hr z0 => P58 M (Cs base) hr z0), g, F.kp, F.bindsN fun _ _ _ _ _ _ us hl => match us, hl with | [_, _, _], _ => rfl⟩
theorem cz59 (D : Dfn K mg "are_squares" "are_squares" (top 88)) : Cal P w K mg base 1 "are_squares" ["one", "other", "number", "value"] (runFn 0 59) :=
  let ⟨f, fd, F, g⟩ := D.ex
  ⟨f, fd, fn_no F sc59 (fun _ _ => rfl), g, F.kp, F.bindsN fun _ _ _ _ _ _ us hl => match us, hl with | [_, _, _, _], _ => rfl⟩
theorem rn59 (n : Nat) : runFn (n + 1) 59 = runB F59 N59.length (List.length ["one", "other", "number", "value"]) (runFn n) := by kernel_rfl
theorem cy59 {n : Nat} (M : Ms K mg) (Cs : ∀ base, Css P w K mg base (n + 1) (runFn n)) (D : Dfn K mg "are_squares" "are_squares" (top 88)) : Cal P w K mg base (n + 2) "are_squares" ["one", "other", "number", "value"] (runFn (n + 1) 59) := by
  rw [rn59 n]
  exact let ⟨f, fd, F, g⟩ := D.ex
    ⟨f, fd, fn_ok (Fi := F59) F sc59 (fun cdv A outer s H E c H0 Z0 hr z0 => P59 M (Cs base) hr z0), g, F.kp, F.bindsN fun _ _ _ _ _ _ us hl => match us, hl with | [_, _, _, _], _ => rfl⟩
theorem cz60 (D : Dfn K mg "sum_bars" "sum_bars" (top 89)) : Cal P w K mg base 1 "sum_bars" ["one", "other", "number"] (runFn 0 60) :=
  let ⟨f, fd, F, g⟩ := D.ex
  ⟨f, fd, fn_no F sc60 (fun _ _ => rfl), g, F.kp, F.bindsN fun _ _ _ _ _ _ us hl => match us, hl with | [_, _, _], _ => rfl⟩
theorem rn60 (n : Nat) : runFn (n + 1) 60 = runB F60 N60.length (List.length ["one", "other", "number"]) (runFn n) := by kernel_rfl
theorem cy60 {n : Nat} (M : Ms K mg) (Cs : ∀ base, Css P w K mg base (n + 1) (runFn n)) (D : Dfn K mg "sum_bars" "sum_bars" (top 89)) : Cal P w K mg base (n + 2) "sum_bars" ["one", "other", "number"] (runFn (n + 1) 60) := by
  rw [rn60 n]
  exact let ⟨f, fd, F, g⟩ := D.ex
    ⟨f, fd, fn_ok (Fi := F60) F sc60 (fun cdv A outer s H E c H0 Z0 hr z0 => P60 M (Cs base) hr z0), g, F.kp, F.bindsN fun _ _ _ _ _ _ us hl => match us, hl with | [_, _, _], _ => rfl⟩
theorem cz61 (D : Dfn K mg "fits_trianglesby" "fits" (top 92)) : Cal P w K mg base 1 "fits_trianglesby" ["value"] (runFn 0 61) :=
  let ⟨f, fd, F, g⟩ := D.ex
  ⟨f, fd, fn_no F sc61 (fun _ _ => rfl), g, F.kp, F.bindsN fun _ _ _ _ _ _ us hl => match us, hl with | [_], _ => rfl⟩
theorem rn61 (n : Nat) : runFn (n + 1) 61 = runB F61 N61.length (List.length ["value"]) (runFn n) := by kernel_rfl
theorem cy61 {n : Nat} (M : Ms K mg) (Cs : ∀ base, Css P w K mg base (n + 1) (runFn n)) (D : Dfn K mg "fits_trianglesby" "fits" (top 92)) : Cal P w K mg base (n + 2) "fits_trianglesby" ["value"] (runFn (n + 1) 61) := by
  rw [rn61 n]
  exact let ⟨f, fd, F, g⟩ := D.ex
    ⟨f, fd, fn_ok (Fi := F61) F sc61 (fun cdv A outer s H E c H0 Z0 hr z0 => P61 M (Cs base) hr z0), g, F.kp, F.bindsN fun _ _ _ _ _ _ us hl => match us, hl with | [_], _ => rfl⟩
theorem cz62 (D : Dfn K mg "need_squares" "need_squares" (top 94)) : Cal P w K mg base 1 "need_squares" ["squares"] (runFn 0 62) :=
  let ⟨f, fd, F, g⟩ := D.ex
  ⟨f, fd, fn_no F sc62 (fun _ _ => rfl), g, F.kp, F.bindsN fun _ _ _ _ _ _ us hl => match us, hl with | [_], _ => rfl⟩
theorem rn62 (n : Nat) : runFn (n + 1) 62 = runB F62 N62.length (List.length ["squares"]) (runFn n) := by kernel_rfl
theorem cy62 {n : Nat} (M : Ms K mg) (Cs : ∀ base, Css P w K mg base (n + 1) (runFn n)) (D : Dfn K mg "need_squares" "need_squares" (top 94)) : Cal P w K mg base (n + 2) "need_squares" ["squares"] (runFn (n + 1) 62) := by
  rw [rn62 n]
  exact let ⟨f, fd, F, g⟩ := D.ex
    ⟨f, fd, fn_ok (Fi := F62) F sc62 (fun cdv A outer s H E c H0 Z0 hr z0 => P62 M (Cs base) hr z0), g, F.kp, F.bindsN fun _ _ _ _ _ _ us hl => match us, hl with | [_], _ => rfl⟩
theorem cz63 (D : Dfn K mg "spread" "spread" (top 95)) : Cal P w K mg base 1 "spread" ["squares"] (runFn 0 63) :=
  let ⟨f, fd, F, g⟩ := D.ex
  ⟨f, fd, fn_no F sc63 (fun _ _ => rfl), g, F.kp, F.bindsN fun _ _ _ _ _ _ us hl => match us, hl with | [_], _ => rfl⟩
theorem rn63 (n : Nat) : runFn (n + 1) 63 = runB F63 N63.length (List.length ["squares"]) (runFn n) := by kernel_rfl
theorem cy63 {n : Nat} (M : Ms K mg) (Cs : ∀ base, Css P w K mg base (n + 1) (runFn n)) (D : Dfn K mg "spread" "spread" (top 95)) : Cal P w K mg base (n + 2) "spread" ["squares"] (runFn (n + 1) 63) := by
  rw [rn63 n]
  exact let ⟨f, fd, F, g⟩ := D.ex
    ⟨f, fd, fn_ok (Fi := F63) F sc63 (fun cdv A outer s H E c H0 Z0 hr z0 => P63 M (Cs base) hr z0), g, F.kp, F.bindsN fun _ _ _ _ _ _ us hl => match us, hl with | [_], _ => rfl⟩
theorem cz64 (D : Dfn K mg "across" "across" (top 96)) : Cal P w K mg base 1 "across" ["squares", "factor"] (runFn 0 64) :=
  let ⟨f, fd, F, g⟩ := D.ex
  ⟨f, fd, fn_no F sc64 (fun _ _ => rfl), g, F.kp, F.bindsN fun _ _ _ _ _ _ us hl => match us, hl with | [_, _], _ => rfl⟩
theorem rn64 (n : Nat) : runFn (n + 1) 64 = runB F64 N64.length (List.length ["squares", "factor"]) (runFn n) := by kernel_rfl
theorem cy64 {n : Nat} (M : Ms K mg) (Cs : ∀ base, Css P w K mg base (n + 1) (runFn n)) (D : Dfn K mg "across" "across" (top 96)) : Cal P w K mg base (n + 2) "across" ["squares", "factor"] (runFn (n + 1) 64) := by
  rw [rn64 n]
  exact let ⟨f, fd, F, g⟩ := D.ex
    ⟨f, fd, fn_ok (Fi := F64) F sc64 (fun cdv A outer s H E c H0 Z0 hr z0 => P64 M (Cs base) hr z0), g, F.kp, F.bindsN fun _ _ _ _ _ _ us hl => match us, hl with | [_, _], _ => rfl⟩
theorem cz65 (D : Dfn K mg "need_sides" "need_sides" (top 97)) : Cal P w K mg base 1 "need_sides" ["squares"] (runFn 0 65) :=
  let ⟨f, fd, F, g⟩ := D.ex
  ⟨f, fd, fn_no F sc65 (fun _ _ => rfl), g, F.kp, F.bindsN fun _ _ _ _ _ _ us hl => match us, hl with | [_], _ => rfl⟩
theorem rn65 (n : Nat) : runFn (n + 1) 65 = runB F65 N65.length (List.length ["squares"]) (runFn n) := by kernel_rfl
theorem cy65 {n : Nat} (M : Ms K mg) (Cs : ∀ base, Css P w K mg base (n + 1) (runFn n)) (D : Dfn K mg "need_sides" "need_sides" (top 97)) : Cal P w K mg base (n + 2) "need_sides" ["squares"] (runFn (n + 1) 65) := by
  rw [rn65 n]
  exact let ⟨f, fd, F, g⟩ := D.ex
    ⟨f, fd, fn_ok (Fi := F65) F sc65 (fun cdv A outer s H E c H0 Z0 hr z0 => P65 M (Cs base) hr z0), g, F.kp, F.bindsN fun _ _ _ _ _ _ us hl => match us, hl with | [_], _ => rfl⟩
theorem cz66 (D : Dfn K mg "are_sides" "are_sides" (top 98)) : Cal P w K mg base 1 "are_sides" ["squares"] (runFn 0 66) :=
  let ⟨f, fd, F, g⟩ := D.ex
  ⟨f, fd, fn_no F sc66 (fun _ _ => rfl), g, F.kp, F.bindsN fun _ _ _ _ _ _ us hl => match us, hl with | [_], _ => rfl⟩
theorem rn66 (n : Nat) : runFn (n + 1) 66 = runB F66 N66.length (List.length ["squares"]) (runFn n) := by kernel_rfl
theorem cy66 {n : Nat} (M : Ms K mg) (Cs : ∀ base, Css P w K mg base (n + 1) (runFn n)) (D : Dfn K mg "are_sides" "are_sides" (top 98)) : Cal P w K mg base (n + 2) "are_sides" ["squares"] (runFn (n + 1) 66) := by
  rw [rn66 n]
  exact let ⟨f, fd, F, g⟩ := D.ex
    ⟨f, fd, fn_ok (Fi := F66) F sc66 (fun cdv A outer s H E c H0 Z0 hr z0 => P66 M (Cs base) hr z0), g, F.kp, F.bindsN fun _ _ _ _ _ _ us hl => match us, hl with | [_], _ => rfl⟩
theorem cz67 (D : Dfn K mg "medians_of" "medians_of" (top 99)) : Cal P w K mg base 1 "medians_of" ["squares"] (runFn 0 67) :=
  let ⟨f, fd, F, g⟩ := D.ex
  ⟨f, fd, fn_no F sc67 (fun _ _ => rfl), g, F.kp, F.bindsN fun _ _ _ _ _ _ us hl => match us, hl with | [_], _ => rfl⟩
theorem rn67 (n : Nat) : runFn (n + 1) 67 = runB F67 N67.length (List.length ["squares"]) (runFn n) := by kernel_rfl
theorem cy67 {n : Nat} (M : Ms K mg) (Cs : ∀ base, Css P w K mg base (n + 1) (runFn n)) (D : Dfn K mg "medians_of" "medians_of" (top 99)) : Cal P w K mg base (n + 2) "medians_of" ["squares"] (runFn (n + 1) 67) := by
  rw [rn67 n]
  exact let ⟨f, fd, F, g⟩ := D.ex
    ⟨f, fd, fn_ok (Fi := F67) F sc67 (fun cdv A outer s H E c H0 Z0 hr z0 => P67 M (Cs base) hr z0), g, F.kp, F.bindsN fun _ _ _ _ _ _ us hl => match us, hl with | [_], _ => rfl⟩
theorem cz68 (D : Dfn K mg "area_square" "area_square" (top 100)) : Cal P w K mg base 1 "area_square" ["squares"] (runFn 0 68) :=
  let ⟨f, fd, F, g⟩ := D.ex
  ⟨f, fd, fn_no F sc68 (fun _ _ => rfl), g, F.kp, F.bindsN fun _ _ _ _ _ _ us hl => match us, hl with | [_], _ => rfl⟩
theorem rn68 (n : Nat) : runFn (n + 1) 68 = runB F68 N68.length (List.length ["squares"]) (runFn n) := by kernel_rfl
theorem cy68 {n : Nat} (M : Ms K mg) (Cs : ∀ base, Css P w K mg base (n + 1) (runFn n)) (D : Dfn K mg "area_square" "area_square" (top 100)) : Cal P w K mg base (n + 2) "area_square" ["squares"] (runFn (n + 1) 68) := by
  rw [rn68 n]
  exact let ⟨f, fd, F, g⟩ := D.ex
    ⟨f, fd, fn_ok (Fi := F68) F sc68 (fun cdv A outer s H E c H0 Z0 hr z0 => P68 M (Cs base) hr z0), g, F.kp, F.bindsN fun _ _ _ _ _ _ us hl => match us, hl with | [_], _ => rfl⟩
theorem cz70 (D : Dfn K mg "_law_roll" "_law_roll" (top 103)) : Cal P w K mg base 1 "_law_roll" ["cup", "many"] (runFn 0 70) :=
  let ⟨f, fd, F, g⟩ := D.ex
  ⟨f, fd, fn_no F sc70 (fun _ _ => rfl), g, F.kp, F.bindsN fun _ _ _ _ _ _ us hl => match us, hl with | [_, _], _ => rfl⟩
theorem rn70 (n : Nat) : runFn (n + 1) 70 = runB F70 N70.length (List.length ["cup", "many"]) (runFn n) := by kernel_rfl
theorem cy70 {n : Nat} (M : Ms K mg) (Cs : ∀ base, Css P w K mg base (n + 1) (runFn n)) (D : Dfn K mg "_law_roll" "_law_roll" (top 103)) : Cal P w K mg base (n + 2) "_law_roll" ["cup", "many"] (runFn (n + 1) 70) := by
  rw [rn70 n]
  exact let ⟨f, fd, F, g⟩ := D.ex
    ⟨f, fd, fn_ok (Fi := F70) F sc70 (fun cdv A outer s H E c H0 Z0 hr z0 => P70 M (Cs base) hr z0), g, F.kp, F.bindsN fun _ _ _ _ _ _ us hl => match us, hl with | [_, _], _ => rfl⟩
theorem cz71 (D : Dfn K mg "_law_gcd" "_law_gcd" (top 104)) : Cal P w K mg base 1 "_law_gcd" ["one", "other"] (runFn 0 71) :=
  let ⟨f, fd, F, g⟩ := D.ex
  ⟨f, fd, fn_no F sc71 (fun _ _ => rfl), g, F.kp, F.bindsN fun _ _ _ _ _ _ us hl => match us, hl with | [_, _], _ => rfl⟩
theorem rn71 (n : Nat) : runFn (n + 1) 71 = runB F71 N71.length (List.length ["one", "other"]) (runFn n) := by kernel_rfl
theorem cy71 {n : Nat} (M : Ms K mg) (Cs : ∀ base, Css P w K mg base (n + 1) (runFn n)) (D : Dfn K mg "_law_gcd" "_law_gcd" (top 104)) : Cal P w K mg base (n + 2) "_law_gcd" ["one", "other"] (runFn (n + 1) 71) := by
  rw [rn71 n]
  exact let ⟨f, fd, F, g⟩ := D.ex
    ⟨f, fd, fn_ok (Fi := F71) F sc71 (fun cdv A outer s H E c H0 Z0 hr z0 => P71 M (Cs base) hr z0), g, F.kp, F.bindsN fun _ _ _ _ _ _ us hl => match us, hl with | [_, _], _ => rfl⟩
theorem cz72 (D : Dfn K mg "_law_cross" "_law_cross" (top 105)) : Cal P w K mg base 1 "_law_cross" ["one", "other"] (runFn 0 72) :=
  let ⟨f, fd, F, g⟩ := D.ex
  ⟨f, fd, fn_no F sc72 (fun _ _ => rfl), g, F.kp, F.bindsN fun _ _ _ _ _ _ us hl => match us, hl with | [_, _], _ => rfl⟩
theorem rn72 (n : Nat) : runFn (n + 1) 72 = runB F72 N72.length (List.length ["one", "other"]) (runFn n) := by kernel_rfl
theorem cy72 {n : Nat} (M : Ms K mg) (Cs : ∀ base, Css P w K mg base (n + 1) (runFn n)) (D : Dfn K mg "_law_cross" "_law_cross" (top 105)) : Cal P w K mg base (n + 2) "_law_cross" ["one", "other"] (runFn (n + 1) 72) := by
  rw [rn72 n]
  exact let ⟨f, fd, F, g⟩ := D.ex
    ⟨f, fd, fn_ok (Fi := F72) F sc72 (fun cdv A outer s H E c H0 Z0 hr z0 => P72 M (Cs base) hr z0), g, F.kp, F.bindsN fun _ _ _ _ _ _ us hl => match us, hl with | [_, _], _ => rfl⟩
theorem cz73 (D : Dfn K mg "_law_plain" "_law_plain" (top 106)) : Cal P w K mg base 1 "_law_plain" ["value"] (runFn 0 73) :=
  let ⟨f, fd, F, g⟩ := D.ex
  ⟨f, fd, fn_no F sc73 (fun _ _ => rfl), g, F.kp, F.bindsN fun _ _ _ _ _ _ us hl => match us, hl with | [_], _ => rfl⟩
theorem rn73 (n : Nat) : runFn (n + 1) 73 = runB F73 N73.length (List.length ["value"]) (runFn n) := by kernel_rfl
theorem cy73 {n : Nat} (M : Ms K mg) (Cs : ∀ base, Css P w K mg base (n + 1) (runFn n)) (D : Dfn K mg "_law_plain" "_law_plain" (top 106)) : Cal P w K mg base (n + 2) "_law_plain" ["value"] (runFn (n + 1) 73) := by
  rw [rn73 n]
  exact let ⟨f, fd, F, g⟩ := D.ex
    ⟨f, fd, fn_ok (Fi := F73) F sc73 (fun cdv A outer s H E c H0 Z0 hr z0 => P73 M (Cs base) hr z0), g, F.kp, F.bindsN fun _ _ _ _ _ _ us hl => match us, hl with | [_], _ => rfl⟩
theorem cz74 (D : Dfn K mg "_law_low" "_law_low" (top 107)) : Cal P w K mg base 1 "_law_low" ["top", "bottom"] (runFn 0 74) :=
  let ⟨f, fd, F, g⟩ := D.ex
  ⟨f, fd, fn_no F sc74 (fun _ _ => rfl), g, F.kp, F.bindsN fun _ _ _ _ _ _ us hl => match us, hl with | [_, _], _ => rfl⟩
theorem rn74 (n : Nat) : runFn (n + 1) 74 = runB F74 N74.length (List.length ["top", "bottom"]) (runFn n) := by kernel_rfl
theorem cy74 {n : Nat} (M : Ms K mg) (Cs : ∀ base, Css P w K mg base (n + 1) (runFn n)) (D : Dfn K mg "_law_low" "_law_low" (top 107)) : Cal P w K mg base (n + 2) "_law_low" ["top", "bottom"] (runFn (n + 1) 74) := by
  rw [rn74 n]
  exact let ⟨f, fd, F, g⟩ := D.ex
    ⟨f, fd, fn_ok (Fi := F74) F sc74 (fun cdv A outer s H E c H0 Z0 hr z0 => P74 M (Cs base) hr z0), g, F.kp, F.bindsN fun _ _ _ _ _ _ us hl => match us, hl with | [_, _], _ => rfl⟩
theorem cz75 (D : Dfn K mg "_law_is_square" "_law_is_square" (top 108)) : Cal P w K mg base 1 "_law_is_square" ["number"] (runFn 0 75) :=
  let ⟨f, fd, F, g⟩ := D.ex
  ⟨f, fd, fn_no F sc75 (fun _ _ => rfl), g, F.kp, F.bindsN fun _ _ _ _ _ _ us hl => match us, hl with | [_], _ => rfl⟩
theorem rn75 (n : Nat) : runFn (n + 1) 75 = runB F75 N75.length (List.length ["number"]) (runFn n) := by kernel_rfl
theorem cy75 {n : Nat} (M : Ms K mg) (Cs : ∀ base, Css P w K mg base (n + 1) (runFn n)) (D : Dfn K mg "_law_is_square" "_law_is_square" (top 108)) : Cal P w K mg base (n + 2) "_law_is_square" ["number"] (runFn (n + 1) 75) := by
  rw [rn75 n]
  exact let ⟨f, fd, F, g⟩ := D.ex
    ⟨f, fd, fn_ok (Fi := F75) F sc75 (fun cdv A outer s H E c H0 Z0 hr z0 => P75 M (Cs base) hr z0), g, F.kp, F.bindsN fun _ _ _ _ _ _ us hl => match us, hl with | [_], _ => rfl⟩
theorem cz76 (D : Dfn K mg "_law_by_primes" "_law_by_primes" (top 109)) : Cal P w K mg base 1 "_law_by_primes" ["number"] (runFn 0 76) :=
  let ⟨f, fd, F, g⟩ := D.ex
  ⟨f, fd, fn_no F sc76 (fun _ _ => rfl), g, F.kp, F.bindsN fun _ _ _ _ _ _ us hl => match us, hl with | [_], _ => rfl⟩
theorem rn76 (n : Nat) : runFn (n + 1) 76 = runB F76 N76.length (List.length ["number"]) (runFn n) := by kernel_rfl
theorem cy76 {n : Nat} (M : Ms K mg) (Cs : ∀ base, Css P w K mg base (n + 1) (runFn n)) (D : Dfn K mg "_law_by_primes" "_law_by_primes" (top 109)) : Cal P w K mg base (n + 2) "_law_by_primes" ["number"] (runFn (n + 1) 76) := by
  rw [rn76 n]
  exact let ⟨f, fd, F, g⟩ := D.ex
    ⟨f, fd, fn_ok (Fi := F76) F sc76 (fun cdv A outer s H E c H0 Z0 hr z0 => P76 M (Cs base) hr z0), g, F.kp, F.bindsN fun _ _ _ _ _ _ us hl => match us, hl with | [_], _ => rfl⟩
theorem cz77 (D : Dfn K mg "_law_sums_right" "_law_sums_right" (top 110)) : Cal P w K mg base 1 "_law_sums_right" ["number"] (runFn 0 77) :=
  let ⟨f, fd, F, g⟩ := D.ex
  ⟨f, fd, fn_no F sc77 (fun _ _ => rfl), g, F.kp, F.bindsN fun _ _ _ _ _ _ us hl => match us, hl with | [_], _ => rfl⟩
theorem rn77 (n : Nat) : runFn (n + 1) 77 = runB F77 N77.length (List.length ["number"]) (runFn n) := by kernel_rfl
theorem cy77 {n : Nat} (M : Ms K mg) (Cs : ∀ base, Css P w K mg base (n + 1) (runFn n)) (D : Dfn K mg "_law_sums_right" "_law_sums_right" (top 110)) : Cal P w K mg base (n + 2) "_law_sums_right" ["number"] (runFn (n + 1) 77) := by
  rw [rn77 n]
  exact let ⟨f, fd, F, g⟩ := D.ex
    ⟨f, fd, fn_ok (Fi := F77) F sc77 (fun cdv A outer s H E c H0 Z0 hr z0 => P77 M (Cs base) hr z0), g, F.kp, F.bindsN fun _ _ _ _ _ _ us hl => match us, hl with | [_], _ => rfl⟩
theorem cz78 (D : Dfn K mg "_law_circle_right" "_law_circle_right" (top 111)) : Cal P w K mg base 1 "_law_circle_right" ["number", "circle"] (runFn 0 78) :=
  let ⟨f, fd, F, g⟩ := D.ex
  ⟨f, fd, fn_no F sc78 (fun _ _ => rfl), g, F.kp, F.bindsN fun _ _ _ _ _ _ us hl => match us, hl with | [_, _], _ => rfl⟩
theorem rn78 (n : Nat) : runFn (n + 1) 78 = runB F78 N78.length (List.length ["number", "circle"]) (runFn n) := by kernel_rfl
theorem cy78 {n : Nat} (M : Ms K mg) (Cs : ∀ base, Css P w K mg base (n + 1) (runFn n)) (D : Dfn K mg "_law_circle_right" "_law_circle_right" (top 111)) : Cal P w K mg base (n + 2) "_law_circle_right" ["number", "circle"] (runFn (n + 1) 78) := by
  rw [rn78 n]
  exact let ⟨f, fd, F, g⟩ := D.ex
    ⟨f, fd, fn_ok (Fi := F78) F sc78 (fun cdv A outer s H E c H0 Z0 hr z0 => P78 M (Cs base) hr z0), g, F.kp, F.bindsN fun _ _ _ _ _ _ us hl => match us, hl with | [_, _], _ => rfl⟩
theorem cz79 (D : Dfn K mg "_law_points_right" "_law_points_right" (top 112)) : Cal P w K mg base 1 "_law_points_right" ["number"] (runFn 0 79) :=
  let ⟨f, fd, F, g⟩ := D.ex
  ⟨f, fd, fn_no F sc79 (fun _ _ => rfl), g, F.kp, F.bindsN fun _ _ _ _ _ _ us hl => match us, hl with | [_], _ => rfl⟩
theorem rn79 (n : Nat) : runFn (n + 1) 79 = runB F79 N79.length (List.length ["number"]) (runFn n) := by kernel_rfl
theorem cy79 {n : Nat} (M : Ms K mg) (Cs : ∀ base, Css P w K mg base (n + 1) (runFn n)) (D : Dfn K mg "_law_points_right" "_law_points_right" (top 112)) : Cal P w K mg base (n + 2) "_law_points_right" ["number"] (runFn (n + 1) 79) := by
  rw [rn79 n]
  exact let ⟨f, fd, F, g⟩ := D.ex
    ⟨f, fd, fn_ok (Fi := F79) F sc79 (fun cdv A outer s H E c H0 Z0 hr z0 => P79 M (Cs base) hr z0), g, F.kp, F.bindsN fun _ _ _ _ _ _ us hl => match us, hl with | [_], _ => rfl⟩
theorem cz80 (D : Dfn K mg "_law_sides_right" "_law_sides_right" (top 113)) : Cal P w K mg base 1 "_law_sides_right" ["one", "other"] (runFn 0 80) :=
  let ⟨f, fd, F, g⟩ := D.ex
  ⟨f, fd, fn_no F sc80 (fun _ _ => rfl), g, F.kp, F.bindsN fun _ _ _ _ _ _ us hl => match us, hl with | [_, _], _ => rfl⟩
theorem rn80 (n : Nat) : runFn (n + 1) 80 = runB F80 N80.length (List.length ["one", "other"]) (runFn n) := by kernel_rfl
theorem cy80 {n : Nat} (M : Ms K mg) (Cs : ∀ base, Css P w K mg base (n + 1) (runFn n)) (D : Dfn K mg "_law_sides_right" "_law_sides_right" (top 113)) : Cal P w K mg base (n + 2) "_law_sides_right" ["one", "other"] (runFn (n + 1) 80) := by
  rw [rn80 n]
  exact let ⟨f, fd, F, g⟩ := D.ex
    ⟨f, fd, fn_ok (Fi := F80) F sc80 (fun cdv A outer s H E c H0 Z0 hr z0 => P80 M (Cs base) hr z0), g, F.kp, F.bindsN fun _ _ _ _ _ _ us hl => match us, hl with | [_, _], _ => rfl⟩
theorem css (M : Ms K mg) (D : Dfs K mg) : ∀ (n : Nat) (base : Heap), Css P w K mg base (n + 1) (runFn n)
  | 0, base => ⟨cz0 D.d0, cz1 D.d1, cz2 D.d2, cz3 D.d3, cz4 D.d4, cz5 D.d5, cz6 D.d6, cz7 D.d7, cz8 D.d8, cz9 D.d9, cz10 D.d10, cz11 D.d11, cz12 D.d12, cz13 D.d13, cz14 D.d14, cz15 D.d15, cz16 D.d16, cz17 D.d17, cz18 D.d18, cz19 D.d19, cz20 D.d20, cz21 D.d21, cz22 D.d22, cz23 D.d23, cz24 D.d24, cz25 D.d25, cz26 D.d26, cz27 D.d27, cz28 D.d28, cz29 D.d29, cz30 D.d30, cz31 D.d31, cz32 D.d32, cz33 D.d33, cz34 D.d34, cz35 D.d35, cz36 D.d36, cz37 D.d37, cz38 D.d38, cz39 D.d39, cz40 D.d40, cz41 D.d41, cz42 D.d42, cz43 D.d43, cz44 D.d44, cz45 D.d45, cz46 D.d46, cz47 D.d47, cz48 D.d48, cz49 D.d49, cz50 D.d50, cz51 D.d51, cz52 D.d52, cz53 D.d53, cz54 D.d54, cz55 D.d55, cz56 D.d56, cz57 D.d57, cz58 D.d58, cz59 D.d59, cz60 D.d60, cz61 D.d61, cz62 D.d62, cz63 D.d63, cz64 D.d64, cz65 D.d65, cz66 D.d66, cz67 D.d67, cz68 D.d68, cz70 D.d70, cz71 D.d71, cz72 D.d72, cz73 D.d73, cz74 D.d74, cz75 D.d75, cz76 D.d76, cz77 D.d77, cz78 D.d78, cz79 D.d79, cz80 D.d80⟩
  | n + 1, base => ⟨cy0 M (css M D n) D.d0, cy1 M (css M D n) D.d1, cy2 M (css M D n) D.d2, cy3 M (css M D n) D.d3, cy4 M (css M D n) D.d4, cy5 M (css M D n) D.d5, cy6 M (css M D n) D.d6, cy7 M (css M D n) D.d7, cy8 M (css M D n) D.d8, cy9 M (css M D n) D.d9, cy10 M (css M D n) D.d10, cy11 M (css M D n) D.d11, cy12 M (css M D n) D.d12, cy13 M (css M D n) D.d13, cy14 M (css M D n) D.d14, cy15 M (css M D n) D.d15, cy16 M (css M D n) D.d16, cy17 M (css M D n) D.d17, cy18 M (css M D n) D.d18, cy19 M (css M D n) D.d19, cy20 M (css M D n) D.d20, cy21 M (css M D n) D.d21, cy22 M (css M D n) D.d22, cy23 M (css M D n) D.d23, cy24 M (css M D n) D.d24, cy25 M (css M D n) D.d25, cy26 M (css M D n) D.d26, cy27 M (css M D n) D.d27, cy28 M (css M D n) D.d28, cy29 M (css M D n) D.d29, cy30 M (css M D n) D.d30, cy31 M (css M D n) D.d31, cy32 M (css M D n) D.d32, cy33 M (css M D n) D.d33, cy34 M (css M D n) D.d34, cy35 M (css M D n) D.d35, cy36 M (css M D n) D.d36, cy37 M (css M D n) D.d37, cy38 M (css M D n) D.d38, cy39 M (css M D n) D.d39, cy40 M (css M D n) D.d40, cy41 M (css M D n) D.d41, cy42 M (css M D n) D.d42, cy43 M (css M D n) D.d43, cy44 M (css M D n) D.d44, cy45 M (css M D n) D.d45, cy46 M (css M D n) D.d46, cy47 M (css M D n) D.d47, cy48 M (css M D n) D.d48, cy49 M (css M D n) D.d49, cy50 M (css M D n) D.d50, cy51 M (css M D n) D.d51, cy52 M (css M D n) D.d52, cy53 M (css M D n) D.d53, cy54 M (css M D n) D.d54, cy55 M (css M D n) D.d55, cy56 M (css M D n) D.d56, cy57 M (css M D n) D.d57, cy58 M (css M D n) D.d58, cy59 M (css M D n) D.d59, cy60 M (css M D n) D.d60, cy61 M (css M D n) D.d61, cy62 M (css M D n) D.d62, cy63 M (css M D n) D.d63, cy64 M (css M D n) D.d64, cy65 M (css M D n) D.d65, cy66 M (css M D n) D.d66, cy67 M (css M D n) D.d67, cy68 M (css M D n) D.d68, cy70 M (css M D n) D.d70, cy71 M (css M D n) D.d71, cy72 M (css M D n) D.d72, cy73 M (css M D n) D.d73, cy74 M (css M D n) D.d74, cy75 M (css M D n) D.d75, cy76 M (css M D n) D.d76, cy77 M (css M D n) D.d77, cy78 M (css M D n) D.d78, cy79 M (css M D n) D.d79, cy80 M (css M D n) D.d80⟩
theorem ok_cup {f : Addr} {fd : FuncData} (M : Ms K mg) (F : FunD K "_law_cup" "_law_cup" (defArgs (top 102)) (defBody (top 102)) (defScope (top 102)) [] [] f fd) : FnOk P w K mg base CX0 1 f fd ["script"] (spCup K) := by
  refine F.ok sc69 (fun vs H Q E h => ?_) (fun cdv A outer s H vs Q E hr h => ⟨tCup K, PSs.nox (pss_cons (ps_set (i := 1) sc69.nd rfl (Or.inl rfl) (pe_callB call_abs rfl M.b_abs bt_abs (pa_cons (pe_ix ix_list (pe_op op_cat (pe_callTy call_list_of rfl M.b_list bt_list (pa_cons (pv 0) pa_nil)) (pe_lst (pa_cons pe_int pa_nil))) pe_int (fun _ _ => rfl)) pa_nil)))
    (pss_one (ps_ret (pe_lst (pa_cons (pe_ifExp (pt_cmpR op_ge (pv 1) (pe_op op_pow pe_int pe_int) (nomark _)) (pe_op op_fdivA (pv 1) pe_int) pe_int) (pa_cons (pe_op op_add (pe_op op_modN (pe_callTy call_int1 rfl M.b_int bt_int (pa_cons (pe_op op_add (pe_op op_mul64 (pv 1) pe_int) pe_int) pa_nil)) pe_int) pe_int) pa_nil)))))), cup_pure vs H Q E h⟩)
  obtain ⟨a, ns, rfl, _⟩ := h
  rfl
theorem ok_law {f : Addr} {fd : FuncData} {k : Nat} (M : Ms K mg) (D : Dfs K mg) (Dc : Dfn K mg "_law_cup" "_law_cup" (top 102)) (F : FunD K "law" "law" (defArgs (top 114)) (defBody (top 114)) (defScope (top 114)) [] [] f fd)
    (hl : ∀ ns : List Int, ∃ cs', F81 (runFn k) (envL 4 1) (cupOf ns) = some (.ret (.bool true), cs')) : FnOk P w K mg base CX0 (k + 2) f fd ["script"] (spLaw K) := by
  obtain ⟨fC, fdC, FC, gC⟩ := Dc.ex
  have bC : Binds K fdC ["script"] [] := FC.bindsN fun _ _ _ _ _ _ us hl => match us, hl with | [_], _ => rfl
  refine F.ok sc81 (fun vs H Q E h => ?_) (fun cdv A outer s H vs Q E hr h => ⟨tSeq (tAsg (tCall (spCup K) [] E0 (tCons (tVar 0) tNil)) (gName 1)) (lL K (F81 (runFn k))), PSs.nox (pss_cons (ps_set (i := 1) sc81.nd rfl (Or.inl rfl) (pe_call (ok_cup M FC) (hr.mono (by omega)) rfl gC FC.kp bC .nil pass0 (pa_cons (pv 0) pa_nil))) (p_law fun c H0 Z0 z => P81 M (css M D k base) hr z)), ?_⟩)
  · obtain ⟨a, ns, rfl, _⟩ := h
    rfl
  · obtain ⟨a, ns, rfl, hS, hn, hQ⟩ := h
    obtain ⟨cs', he⟩ := hl ns
    exact ⟨.ref a, rfl, a, ns, rfl, hS, hn, fun l H' hx h1 h2 => law_enters (n := 4) (i := 1) rfl (by decide) h1 he hQ⟩
end
end Wk
end
section
set_option Elab.async false
set_option linter.all false
set_option maxRecDepth 100000
set_option maxHeartbeats 4000000
namespace Wk
open PySem PySem.Spec PyProof.Rows L2 Se
/-! ### behind the head -/
section
variable {P : Program} {w : World} {K : PySem.W.Frag} {h : Heap} {mg : Str → Option Value}
theorem ms_ok (X : K.In h) (G : h.Ns mainGlobals mg) (c : He.SaysD fa fn K) (ce : ex K = true) : Ms K mg :=
  ⟨He.free_ok X G (c.fact 82 (f := .free "abs") rfl),
    He.free_ok X G (c.fact 83 (f := .free "all") rfl),
    He.free_ok X G (c.fact 84 (f := .free "any") rfl),
    He.free_ok X G (c.fact 85 (f := .free "bool") rfl),
    He.free_ok X G (c.fact 86 (f := .free "dict") rfl),
    He.free_ok X G (c.fact 87 (f := .free "enumerate") rfl),
    bltG_ok X G (ex_at ce 0 rfl),
    He.free_ok X G (c.fact 88 (f := .free "int") rfl),
    He.free_ok X G (c.fact 89 (f := .free "isinstance") rfl),
    bltG_ok X G (ex_at ce 1 rfl),
    He.free_ok X G (c.fact 90 (f := .free "len") rfl),
    He.free_ok X G (c.fact 91 (f := .free "list") rfl),
    He.free_ok X G (c.fact 92 (f := .free "max") rfl),
    He.free_ok X G (c.fact 93 (f := .free "range") rfl),
    He.free_ok X G (c.fact 94 (f := .free "sorted") rfl),
    He.free_ok X G (c.fact 95 (f := .free "sum") rfl),
    He.free_ok X G (c.fact 96 (f := .free "tuple") rfl),
    He.free_ok X G (c.fact 97 (f := .free "zip") rfl),
    cstG_ok X G (ex_at ce 2 rfl),
    He.int_ok X G (c.fact 98 (f := .int "GREAT_circlemeets" (1000)) rfl),
    He.int_ok X G (c.fact 99 (f := .int "GREAT_portions" (1000000000000000000000000000000000000000000000000000000000000)) rfl),
    He.int_ok X G (c.fact 100 (f := .int "GREAT_trianglesby" (10000)) rfl),
    He.int_ok X G (c.fact 101 (f := .int "HEIGHT" (10)) rfl),
    He.int_ok X G (c.fact 102 (f := .int "HIGH_conicpoints" (5)) rfl),
    He.int_ok X G (c.fact 103 (f := .int "HIGH_squaresums" (100)) rfl),
    He.int_ok X G (c.fact 104 (f := .int "PART_circlemeets" (100)) rfl),
    He.int_ok X G (c.fact 105 (f := .int "PART_triples" (1000000000)) rfl)⟩
theorem df0 (X : K.In h) (G : h.Ns mainGlobals mg) (c : He.SaysD fa fn K) : Dfn K mg "is_whole" "is_whole" (top 10) :=
  let ⟨fd, F⟩ := c.def_ 0 (d := dd0) rfl
  ⟨_, fd, F, He.glo_ok X G (c.fact 0 (f := .glo "is_whole") rfl)⟩
theorem df1 (X : K.In h) (G : h.Ns mainGlobals mg) (c : He.SaysD fa fn K) : Dfn K mg "need_whole" "need_whole" (top 11) :=
  let ⟨fd, F⟩ := c.def_ 1 (d := dd1) rfl
  ⟨_, fd, F, He.glo_ok X G (c.fact 1 (f := .glo "need_whole") rfl)⟩
theorem df2 (X : K.In h) (G : h.Ns mainGlobals mg) (c : He.SaysD fa fn K) : Dfn K mg "is_tuple_of" "is_tuple_of" (top 12) :=
  let ⟨fd, F⟩ := c.def_ 2 (d := dd2) rfl
  ⟨_, fd, F, He.glo_ok X G (c.fact 2 (f := .glo "is_tuple_of") rfl)⟩
theorem df3 (X : K.In h) (G : h.Ns mainGlobals mg) (c : He.SaysD fa fn K) : Dfn K mg "are_wholes" "are_wholes" (top 13) :=
  let ⟨fd, F⟩ := c.def_ 3 (d := dd3) rfl
  ⟨_, fd, F, He.glo_ok X G (c.fact 3 (f := .glo "are_wholes") rfl)⟩
theorem df4 (X : K.In h) (G : h.Ns mainGlobals mg) (c : He.SaysD fa fn K) : Dfn K mg "is_portion" "is_portion" (top 16) :=
  let ⟨fd, F⟩ := c.def_ 4 (d := dd4) rfl
  ⟨_, fd, F, He.glo_ok X G (c.fact 4 (f := .glo "is_portion") rfl)⟩
theorem df5 (X : K.In h) (G : h.Ns mainGlobals mg) (c : He.SaysD fa fn K) : Dfn K mg "lowest" "lowest" (top 17) :=
  let ⟨fd, F⟩ := c.def_ 5 (d := dd5) rfl
  ⟨_, fd, F, He.glo_ok X G (c.fact 5 (f := .glo "lowest") rfl)⟩
theorem df6 (X : K.In h) (G : h.Ns mainGlobals mg) (c : He.SaysD fa fn K) : Dfn K mg "plus" "plus" (top 18) :=
  let ⟨fd, F⟩ := c.def_ 6 (d := dd6) rfl
  ⟨_, fd, F, He.glo_ok X G (c.fact 6 (f := .glo "plus") rfl)⟩
theorem df7 (X : K.In h) (G : h.Ns mainGlobals mg) (c : He.SaysD fa fn K) : Dfn K mg "times" "times" (top 19) :=
  let ⟨fd, F⟩ := c.def_ 7 (d := dd7) rfl
  ⟨_, fd, F, He.glo_ok X G (c.fact 7 (f := .glo "times") rfl)⟩
theorem df8 (X : K.In h) (G : h.Ns mainGlobals mg) (c : He.SaysD fa fn K) : Dfn K mg "is_three" "is_three" (top 22) :=
  let ⟨fd, F⟩ := c.def_ 8 (d := dd8) rfl
  ⟨_, fd, F, He.glo_ok X G (c.fact 8 (f := .glo "is_three") rfl)⟩
theorem df9 (X : K.In h) (G : h.Ns mainGlobals mg) (c : He.SaysD fa fn K) : Dfn K mg "is_triple" "is_triple" (top 23) :=
  let ⟨fd, F⟩ := c.def_ 9 (d := dd9) rfl
  ⟨_, fd, F, He.glo_ok X G (c.fact 9 (f := .glo "is_triple") rfl)⟩
theorem df10 (X : K.In h) (G : h.Ns mainGlobals mg) (c : He.SaysD fa fn K) : Dfn K mg "plainly" "plainly" (top 24) :=
  let ⟨fd, F⟩ := c.def_ 10 (d := dd10) rfl
  ⟨_, fd, F, He.glo_ok X G (c.fact 10 (f := .glo "plainly") rfl)⟩
theorem df11 (X : K.In h) (G : h.Ns mainGlobals mg) (c : He.SaysD fa fn K) : Dfn K mg "need_triple" "need_triple" (top 25) :=
  let ⟨fd, F⟩ := c.def_ 11 (d := dd11) rfl
  ⟨_, fd, F, He.glo_ok X G (c.fact 11 (f := .glo "need_triple") rfl)⟩
theorem df12 (X : K.In h) (G : h.Ns mainGlobals mg) (c : He.SaysD fa fn K) : Dfn K mg "dot" "dot" (top 26) :=
  let ⟨fd, F⟩ := c.def_ 12 (d := dd12) rfl
  ⟨_, fd, F, He.glo_ok X G (c.fact 12 (f := .glo "dot") rfl)⟩
theorem df13 (X : K.In h) (G : h.Ns mainGlobals mg) (c : He.SaysD fa fn K) : Dfn K mg "cross" "cross" (top 27) :=
  let ⟨fd, F⟩ := c.def_ 13 (d := dd13) rfl
  ⟨_, fd, F, He.glo_ok X G (c.fact 13 (f := .glo "cross") rfl)⟩
theorem df14 (X : K.In h) (G : h.Ns mainGlobals mg) (c : He.SaysD fa fn K) : Dfn K mg "volume" "volume" (top 28) :=
  let ⟨fd, F⟩ := c.def_ 14 (d := dd14) rfl
  ⟨_, fd, F, He.glo_ok X G (c.fact 14 (f := .glo "volume") rfl)⟩
theorem df15 (X : K.In h) (G : h.Ns mainGlobals mg) (c : He.SaysD fa fn K) : Dfn K mg "place_of" "place_of" (top 29) :=
  let ⟨fd, F⟩ := c.def_ 15 (d := dd15) rfl
  ⟨_, fd, F, He.glo_ok X G (c.fact 15 (f := .glo "place_of") rfl)⟩
theorem df16 (X : K.In h) (G : h.Ns mainGlobals mg) (c : He.SaysD fa fn K) : Dfn K mg "point_at" "point_at" (top 30) :=
  let ⟨fd, F⟩ := c.def_ 16 (d := dd16) rfl
  ⟨_, fd, F, He.glo_ok X G (c.fact 16 (f := .glo "point_at") rfl)⟩
theorem df17 (X : K.In h) (G : h.Ns mainGlobals mg) (c : He.SaysD fa fn K) : Dfn K mg "fits_circlemeets" "fits" (top 35) :=
  let ⟨fd, F⟩ := c.def_ 17 (d := dd17) rfl
  ⟨_, fd, F, He.glo_ok X G (c.fact 17 (f := .glo "fits_circlemeets") rfl)⟩
theorem df18 (X : K.In h) (G : h.Ns mainGlobals mg) (c : He.SaysD fa fn K) : Dfn K mg "need_circle" "need_circle" (top 37) :=
  let ⟨fd, F⟩ := c.def_ 18 (d := dd18) rfl
  ⟨_, fd, F, He.glo_ok X G (c.fact 18 (f := .glo "need_circle") rfl)⟩
theorem df19 (X : K.In h) (G : h.Ns mainGlobals mg) (c : He.SaysD fa fn K) : Dfn K mg "need_line" "need_line" (top 38) :=
  let ⟨fd, F⟩ := c.def_ 19 (d := dd19) rfl
  ⟨_, fd, F, He.glo_ok X G (c.fact 19 (f := .glo "need_line") rfl)⟩
theorem df20 (X : K.In h) (G : h.Ns mainGlobals mg) (c : He.SaysD fa fn K) : Dfn K mg "square_in" "square_in" (top 39) :=
  let ⟨fd, F⟩ := c.def_ 20 (d := dd20) rfl
  ⟨_, fd, F, He.glo_ok X G (c.fact 20 (f := .glo "square_in") rfl)⟩
theorem df21 (X : K.In h) (G : h.Ns mainGlobals mg) (c : He.SaysD fa fn K) : Dfn K mg "lead_in" "lead_in" (top 40) :=
  let ⟨fd, F⟩ := c.def_ 21 (d := dd21) rfl
  ⟨_, fd, F, He.glo_ok X G (c.fact 21 (f := .glo "lead_in") rfl)⟩
theorem df22 (X : K.In h) (G : h.Ns mainGlobals mg) (c : He.SaysD fa fn K) : Dfn K mg "root_of" "root_of" (top 41) :=
  let ⟨fd, F⟩ := c.def_ 22 (d := dd22) rfl
  ⟨_, fd, F, He.glo_ok X G (c.fact 22 (f := .glo "root_of") rfl)⟩
theorem df23 (X : K.In h) (G : h.Ns mainGlobals mg) (c : He.SaysD fa fn K) : Dfn K mg "meets_in" "meets_in" (top 42) :=
  let ⟨fd, F⟩ := c.def_ 23 (d := dd23) rfl
  ⟨_, fd, F, He.glo_ok X G (c.fact 23 (f := .glo "meets_in") rfl)⟩
theorem df24 (X : K.In h) (G : h.Ns mainGlobals mg) (c : He.SaysD fa fn K) : Dfn K mg "is_circle" "is_circle" (top 43) :=
  let ⟨fd, F⟩ := c.def_ 24 (d := dd24) rfl
  ⟨_, fd, F, He.glo_ok X G (c.fact 24 (f := .glo "is_circle") rfl)⟩
theorem df25 (X : K.In h) (G : h.Ns mainGlobals mg) (c : He.SaysD fa fn K) : Dfn K mg "lead_of" "lead_of" (top 44) :=
  let ⟨fd, F⟩ := c.def_ 25 (d := dd25) rfl
  ⟨_, fd, F, He.glo_ok X G (c.fact 25 (f := .glo "lead_of") rfl)⟩
theorem df26 (X : K.In h) (G : h.Ns mainGlobals mg) (c : He.SaysD fa fn K) : Dfn K mg "meets_of" "meets_of" (top 45) :=
  let ⟨fd, F⟩ := c.def_ 26 (d := dd26) rfl
  ⟨_, fd, F, He.glo_ok X G (c.fact 26 (f := .glo "meets_of") rfl)⟩
theorem df27 (X : K.In h) (G : h.Ns mainGlobals mg) (c : He.SaysD fa fn K) : Dfn K mg "primes_of" "primes_of" (top 47) :=
  let ⟨fd, F⟩ := c.def_ 27 (d := dd27) rfl
  ⟨_, fd, F, He.glo_ok X G (c.fact 27 (f := .glo "primes_of") rfl)⟩
theorem df28 (X : K.In h) (G : h.Ns mainGlobals mg) (c : He.SaysD fa fn K) : Dfn K mg "parted" "parted" (top 48) :=
  let ⟨fd, F⟩ := c.def_ 28 (d := dd28) rfl
  ⟨_, fd, F, He.glo_ok X G (c.fact 28 (f := .glo "parted") rfl)⟩
theorem df29 (X : K.In h) (G : h.Ns mainGlobals mg) (c : He.SaysD fa fn K) : Dfn K mg "powered" "powered" (top 49) :=
  let ⟨fd, F⟩ := c.def_ 29 (d := dd29) rfl
  ⟨_, fd, F, He.glo_ok X G (c.fact 29 (f := .glo "powered") rfl)⟩
theorem df30 (X : K.In h) (G : h.Ns mainGlobals mg) (c : He.SaysD fa fn K) : Dfn K mg "is_rest" "is_rest" (top 50) :=
  let ⟨fd, F⟩ := c.def_ 30 (d := dd30) rfl
  ⟨_, fd, F, He.glo_ok X G (c.fact 30 (f := .glo "is_rest") rfl)⟩
theorem df31 (X : K.In h) (G : h.Ns mainGlobals mg) (c : He.SaysD fa fn K) : Dfn K mg "is_barred" "is_barred" (top 51) :=
  let ⟨fd, F⟩ := c.def_ 31 (d := dd31) rfl
  ⟨_, fd, F, He.glo_ok X G (c.fact 31 (f := .glo "is_barred") rfl)⟩
theorem df32 (X : K.In h) (G : h.Ns mainGlobals mg) (c : He.SaysD fa fn K) : Dfn K mg "bars_between" "bars_between" (top 52) :=
  let ⟨fd, F⟩ := c.def_ 32 (d := dd32) rfl
  ⟨_, fd, F, He.glo_ok X G (c.fact 32 (f := .glo "bars_between") rfl)⟩
theorem df33 (X : K.In h) (G : h.Ns mainGlobals mg) (c : He.SaysD fa fn K) : Dfn K mg "bars_in" "bars_in" (top 53) :=
  let ⟨fd, F⟩ := c.def_ 33 (d := dd33) rfl
  ⟨_, fd, F, He.glo_ok X G (c.fact 33 (f := .glo "bars_in") rfl)⟩
theorem df34 (X : K.In h) (G : h.Ns mainGlobals mg) (c : He.SaysD fa fn K) : Dfn K mg "lean_and_shared" "lean_and_shared" (top 55) :=
  let ⟨fd, F⟩ := c.def_ 34 (d := dd34) rfl
  ⟨_, fd, F, He.glo_ok X G (c.fact 34 (f := .glo "lean_and_shared") rfl)⟩
theorem df35 (X : K.In h) (G : h.Ns mainGlobals mg) (c : He.SaysD fa fn K) : Dfn K mg "roots_of" "roots_of" (top 56) :=
  let ⟨fd, F⟩ := c.def_ 35 (d := dd35) rfl
  ⟨_, fd, F, He.glo_ok X G (c.fact 35 (f := .glo "roots_of") rfl)⟩
theorem df36 (X : K.In h) (G : h.Ns mainGlobals mg) (c : He.SaysD fa fn K) : Dfn K mg "moved" "moved" (top 57) :=
  let ⟨fd, F⟩ := c.def_ 36 (d := dd36) rfl
  ⟨_, fd, F, He.glo_ok X G (c.fact 36 (f := .glo "moved") rfl)⟩
theorem df37 (X : K.In h) (G : h.Ns mainGlobals mg) (c : He.SaysD fa fn K) : Dfn K mg "back" "back" (top 58) :=
  let ⟨fd, F⟩ := c.def_ 37 (d := dd37) rfl
  ⟨_, fd, F, He.glo_ok X G (c.fact 37 (f := .glo "back") rfl)⟩
theorem df38 (X : K.In h) (G : h.Ns mainGlobals mg) (c : He.SaysD fa fn K) : Dfn K mg "value_of" "value_of" (top 59) :=
  let ⟨fd, F⟩ := c.def_ 38 (d := dd38) rfl
  ⟨_, fd, F, He.glo_ok X G (c.fact 38 (f := .glo "value_of") rfl)⟩
theorem df39 (X : K.In h) (G : h.Ns mainGlobals mg) (c : He.SaysD fa fn K) : Dfn K mg "reaches" "reaches" (top 61) :=
  let ⟨fd, F⟩ := c.def_ 39 (d := dd39) rfl
  ⟨_, fd, F, He.glo_ok X G (c.fact 39 (f := .glo "reaches") rfl)⟩
theorem df40 (X : K.In h) (G : h.Ns mainGlobals mg) (c : He.SaysD fa fn K) : Dfn K mg "rooted" "rooted" (top 62) :=
  let ⟨fd, F⟩ := c.def_ 40 (d := dd40) rfl
  ⟨_, fd, F, He.glo_ok X G (c.fact 40 (f := .glo "rooted") rfl)⟩
theorem df41 (X : K.In h) (G : h.Ns mainGlobals mg) (c : He.SaysD fa fn K) : Dfn K mg "sized_points" "sized_points" (top 63) :=
  let ⟨fd, F⟩ := c.def_ 41 (d := dd41) rfl
  ⟨_, fd, F, He.glo_ok X G (c.fact 41 (f := .glo "sized_points") rfl)⟩
theorem df42 (X : K.In h) (G : h.Ns mainGlobals mg) (c : He.SaysD fa fn K) : Dfn K mg "low_in" "low_in" (top 64) :=
  let ⟨fd, F⟩ := c.def_ 42 (d := dd42) rfl
  ⟨_, fd, F, He.glo_ok X G (c.fact 42 (f := .glo "low_in") rfl)⟩
theorem df43 (X : K.In h) (G : h.Ns mainGlobals mg) (c : He.SaysD fa fn K) : Dfn K mg "point_in" "point_in" (top 66) :=
  let ⟨fd, F⟩ := c.def_ 43 (d := dd43) rfl
  ⟨_, fd, F, He.glo_ok X G (c.fact 43 (f := .glo "point_in") rfl)⟩
theorem df44 (X : K.In h) (G : h.Ns mainGlobals mg) (c : He.SaysD fa fn K) : Dfn K mg "doubled" "doubled" (top 70) :=
  let ⟨fd, F⟩ := c.def_ 44 (d := dd44) rfl
  ⟨_, fd, F, He.glo_ok X G (c.fact 44 (f := .glo "doubled") rfl)⟩
theorem df45 (X : K.In h) (G : h.Ns mainGlobals mg) (c : He.SaysD fa fn K) : Dfn K mg "fits_conic" "fits_conic" (top 71) :=
  let ⟨fd, F⟩ := c.def_ 45 (d := dd45) rfl
  ⟨_, fd, F, He.glo_ok X G (c.fact 45 (f := .glo "fits_conic") rfl)⟩
theorem df46 (X : K.In h) (G : h.Ns mainGlobals mg) (c : He.SaysD fa fn K) : Dfn K mg "need_conic" "need_conic" (top 72) :=
  let ⟨fd, F⟩ := c.def_ 46 (d := dd46) rfl
  ⟨_, fd, F, He.glo_ok X G (c.fact 46 (f := .glo "need_conic") rfl)⟩
theorem df47 (X : K.In h) (G : h.Ns mainGlobals mg) (c : He.SaysD fa fn K) : Dfn K mg "both" "both" (top 73) :=
  let ⟨fd, F⟩ := c.def_ 47 (d := dd47) rfl
  ⟨_, fd, F, He.glo_ok X G (c.fact 47 (f := .glo "both") rfl)⟩
theorem df48 (X : K.In h) (G : h.Ns mainGlobals mg) (c : He.SaysD fa fn K) : Dfn K mg "headed" "headed" (top 74) :=
  let ⟨fd, F⟩ := c.def_ 48 (d := dd48) rfl
  ⟨_, fd, F, He.glo_ok X G (c.fact 48 (f := .glo "headed") rfl)⟩
theorem df49 (X : K.In h) (G : h.Ns mainGlobals mg) (c : He.SaysD fa fn K) : Dfn K mg "corners_in" "corners_in" (top 75) :=
  let ⟨fd, F⟩ := c.def_ 49 (d := dd49) rfl
  ⟨_, fd, F, He.glo_ok X G (c.fact 49 (f := .glo "corners_in") rfl)⟩
theorem df50 (X : K.In h) (G : h.Ns mainGlobals mg) (c : He.SaysD fa fn K) : Dfn K mg "values_in" "values_in" (top 76) :=
  let ⟨fd, F⟩ := c.def_ 50 (d := dd50) rfl
  ⟨_, fd, F, He.glo_ok X G (c.fact 50 (f := .glo "values_in") rfl)⟩
theorem df51 (X : K.In h) (G : h.Ns mainGlobals mg) (c : He.SaysD fa fn K) : Dfn K mg "value_at" "value_at" (top 77) :=
  let ⟨fd, F⟩ := c.def_ 51 (d := dd51) rfl
  ⟨_, fd, F, He.glo_ok X G (c.fact 51 (f := .glo "value_at") rfl)⟩
theorem df52 (X : K.In h) (G : h.Ns mainGlobals mg) (c : He.SaysD fa fn K) : Dfn K mg "has_points" "has_points" (top 78) :=
  let ⟨fd, F⟩ := c.def_ 52 (d := dd52) rfl
  ⟨_, fd, F, He.glo_ok X G (c.fact 52 (f := .glo "has_points") rfl)⟩
theorem df53 (X : K.In h) (G : h.Ns mainGlobals mg) (c : He.SaysD fa fn K) : Dfn K mg "points_on" "points_on" (top 79) :=
  let ⟨fd, F⟩ := c.def_ 53 (d := dd53) rfl
  ⟨_, fd, F, He.glo_ok X G (c.fact 53 (f := .glo "points_on") rfl)⟩
theorem df54 (X : K.In h) (G : h.Ns mainGlobals mg) (c : He.SaysD fa fn K) : Dfn K mg "mixed" "mixed" (top 81) :=
  let ⟨fd, F⟩ := c.def_ 54 (d := dd54) rfl
  ⟨_, fd, F, He.glo_ok X G (c.fact 54 (f := .glo "mixed") rfl)⟩
theorem df55 (X : K.In h) (G : h.Ns mainGlobals mg) (c : He.SaysD fa fn K) : Dfn K mg "need_numbers" "need_numbers" (top 84) :=
  let ⟨fd, F⟩ := c.def_ 55 (d := dd55) rfl
  ⟨_, fd, F, He.glo_ok X G (c.fact 55 (f := .glo "need_numbers") rfl)⟩
theorem df56 (X : K.In h) (G : h.Ns mainGlobals mg) (c : He.SaysD fa fn K) : Dfn K mg "turned" "turned" (top 85) :=
  let ⟨fd, F⟩ := c.def_ 56 (d := dd56) rfl
  ⟨_, fd, F, He.glo_ok X G (c.fact 56 (f := .glo "turned") rfl)⟩
theorem df57 (X : K.In h) (G : h.Ns mainGlobals mg) (c : He.SaysD fa fn K) : Dfn K mg "sums_in" "sums_in" (top 86) :=
  let ⟨fd, F⟩ := c.def_ 57 (d := dd57) rfl
  ⟨_, fd, F, He.glo_ok X G (c.fact 57 (f := .glo "sums_in") rfl)⟩
theorem df58 (X : K.In h) (G : h.Ns mainGlobals mg) (c : He.SaysD fa fn K) : Dfn K mg "squares_for" "squares_for" (top 87) :=
  let ⟨fd, F⟩ := c.def_ 58 (d := dd58) rfl
  ⟨_, fd, F, He.glo_ok X G (c.fact 58 (f := .glo "squares_for") rfl)⟩
theorem df59 (X : K.In h) (G : h.Ns mainGlobals mg) (c : He.SaysD fa fn K) : Dfn K mg "are_squares" "are_squares" (top 88) :=
  let ⟨fd, F⟩ := c.def_ 59 (d := dd59) rfl
  ⟨_, fd, F, He.glo_ok X G (c.fact 59 (f := .glo "are_squares") rfl)⟩
theorem df60 (X : K.In h) (G : h.Ns mainGlobals mg) (c : He.SaysD fa fn K) : Dfn K mg "sum_bars" "sum_bars" (top 89) :=
  let ⟨fd, F⟩ := c.def_ 60 (d := dd60) rfl
  ⟨_, fd, F, He.glo_ok X G (c.fact 60 (f := .glo "sum_bars") rfl)⟩
theorem df61 (X : K.In h) (G : h.Ns mainGlobals mg) (c : He.SaysD fa fn K) : Dfn K mg "fits_trianglesby" "fits" (top 92) :=
  let ⟨fd, F⟩ := c.def_ 61 (d := dd61) rfl
  ⟨_, fd, F, He.glo_ok X G (c.fact 61 (f := .glo "fits_trianglesby") rfl)⟩
theorem df62 (X : K.In h) (G : h.Ns mainGlobals mg) (c : He.SaysD fa fn K) : Dfn K mg "need_squares" "need_squares" (top 94) :=
  let ⟨fd, F⟩ := c.def_ 62 (d := dd62) rfl
  ⟨_, fd, F, He.glo_ok X G (c.fact 62 (f := .glo "need_squares") rfl)⟩
theorem df63 (X : K.In h) (G : h.Ns mainGlobals mg) (c : He.SaysD fa fn K) : Dfn K mg "spread" "spread" (top 95) :=
  let ⟨fd, F⟩ := c.def_ 63 (d := dd63) rfl
  ⟨_, fd, F, He.glo_ok X G (c.fact 63 (f := .glo "spread") rfl)⟩
theorem df64 (X : K.In h) (G : h.Ns mainGlobals mg) (c : He.SaysD fa fn K) : Dfn K mg "across" "across" (top 96) :=
  let ⟨fd, F⟩ := c.def_ 64 (d := dd64) rfl
  ⟨_, fd, F, He.glo_ok X G (c.fact 64 (f := .glo "across") rfl)⟩
theorem df65 (X : K.In h) (G : h.Ns mainGlobals mg) (c : He.SaysD fa fn K) : Dfn K mg "need_sides" "need_sides" (top 97) :=
  let ⟨fd, F⟩ := c.def_ 65 (d := dd65) rfl
  ⟨_, fd, F, He.glo_ok X G (c.fact 65 (f := .glo "need_sides") rfl)⟩
theorem df66 (X : K.In h) (G : h.Ns mainGlobals mg) (c : He.SaysD fa fn K) : Dfn K mg "are_sides" "are_sides" (top 98) :=
  let ⟨fd, F⟩ := c.def_ 66 (d := dd66) rfl
  ⟨_, fd, F, He.glo_ok X G (c.fact 66 (f := .glo "are_sides") rfl)⟩
theorem df67 (X : K.In h) (G : h.Ns mainGlobals mg) (c : He.SaysD fa fn K) : Dfn K mg "medians_of" "medians_of" (top 99) :=
  let ⟨fd, F⟩ := c.def_ 67 (d := dd67) rfl
  ⟨_, fd, F, He.glo_ok X G (c.fact 67 (f := .glo "medians_of") rfl)⟩
theorem df68 (X : K.In h) (G : h.Ns mainGlobals mg) (c : He.SaysD fa fn K) : Dfn K mg "area_square" "area_square" (top 100) :=
  let ⟨fd, F⟩ := c.def_ 68 (d := dd68) rfl
  ⟨_, fd, F, He.glo_ok X G (c.fact 68 (f := .glo "area_square") rfl)⟩
theorem df70 (X : K.In h) (G : h.Ns mainGlobals mg) (c : He.SaysD fa fn K) : Dfn K mg "_law_roll" "_law_roll" (top 103) :=
  let ⟨fd, F⟩ := c.def_ 69 (d := dd70) rfl
  ⟨_, fd, F, He.glo_ok X G (c.fact 69 (f := .glo "_law_roll") rfl)⟩
theorem df71 (X : K.In h) (G : h.Ns mainGlobals mg) (c : He.SaysD fa fn K) : Dfn K mg "_law_gcd" "_law_gcd" (top 104) :=
  let ⟨fd, F⟩ := c.def_ 70 (d := dd71) rfl
  ⟨_, fd, F, He.glo_ok X G (c.fact 70 (f := .glo "_law_gcd") rfl)⟩
theorem df72 (X : K.In h) (G : h.Ns mainGlobals mg) (c : He.SaysD fa fn K) : Dfn K mg "_law_cross" "_law_cross" (top 105) :=
  let ⟨fd, F⟩ := c.def_ 71 (d := dd72) rfl
  ⟨_, fd, F, He.glo_ok X G (c.fact 71 (f := .glo "_law_cross") rfl)⟩
theorem df73 (X : K.In h) (G : h.Ns mainGlobals mg) (c : He.SaysD fa fn K) : Dfn K mg "_law_plain" "_law_plain" (top 106) :=
  let ⟨fd, F⟩ := c.def_ 72 (d := dd73) rfl
  ⟨_, fd, F, He.glo_ok X G (c.fact 72 (f := .glo "_law_plain") rfl)⟩
theorem df74 (X : K.In h) (G : h.Ns mainGlobals mg) (c : He.SaysD fa fn K) : Dfn K mg "_law_low" "_law_low" (top 107) :=
  let ⟨fd, F⟩ := c.def_ 73 (d := dd74) rfl
  ⟨_, fd, F, He.glo_ok X G (c.fact 73 (f := .glo "_law_low") rfl)⟩
theorem df75 (X : K.In h) (G : h.Ns mainGlobals mg) (c : He.SaysD fa fn K) : Dfn K mg "_law_is_square" "_law_is_square" (top 108) :=
  let ⟨fd, F⟩ := c.def_ 74 (d := dd75) rfl
  ⟨_, fd, F, He.glo_ok X G (c.fact 74 (f := .glo "_law_is_square") rfl)⟩
theorem df76 (X : K.In h) (G : h.Ns mainGlobals mg) (c : He.SaysD fa fn K) : Dfn K mg "_law_by_primes" "_law_by_primes" (top 109) :=
  let ⟨fd, F⟩ := c.def_ 75 (d := dd76) rfl
  ⟨_, fd, F, He.glo_ok X G (c.fact 75 (f := .glo "_law_by_primes") rfl)⟩
theorem df77 (X : K.In h) (G : h.Ns mainGlobals mg) (c : He.SaysD fa fn K) : Dfn K mg "_law_sums_right" "_law_sums_right" (top 110) :=
  let ⟨fd, F⟩ := c.def_ 76 (d := dd77) rfl
  ⟨_, fd, F, He.glo_ok X G (c.fact 76 (f := .glo "_law_sums_right") rfl)⟩
theorem df78 (X : K.In h) (G : h.Ns mainGlobals mg) (c : He.SaysD fa fn K) : Dfn K mg "_law_circle_right" "_law_circle_right" (top 111) :=
  let ⟨fd, F⟩ := c.def_ 77 (d := dd78) rfl
  ⟨_, fd, F, He.glo_ok X G (c.fact 77 (f := .glo "_law_circle_right") rfl)⟩
theorem df79 (X : K.In h) (G : h.Ns mainGlobals mg) (c : He.SaysD fa fn K) : Dfn K mg "_law_points_right" "_law_points_right" (top 112) :=
  let ⟨fd, F⟩ := c.def_ 78 (d := dd79) rfl
  ⟨_, fd, F, He.glo_ok X G (c.fact 78 (f := .glo "_law_points_right") rfl)⟩
theorem df80 (X : K.In h) (G : h.Ns mainGlobals mg) (c : He.SaysD fa fn K) : Dfn K mg "_law_sides_right" "_law_sides_right" (top 113) :=
  let ⟨fd, F⟩ := c.def_ 79 (d := dd80) rfl
  ⟨_, fd, F, He.glo_ok X G (c.fact 79 (f := .glo "_law_sides_right") rfl)⟩
theorem df69 (X : K.In h) (G : h.Ns mainGlobals mg) (c : He.SaysD fa fn K) : Dfn K mg "_law_cup" "_law_cup" (top 102) :=
  let ⟨fd, F⟩ := c.def_ 80 (d := dd69) rfl
  ⟨_, fd, F, He.glo_ok X G (c.fact 80 (f := .glo "_law_cup") rfl)⟩
theorem dfs_ok (X : K.In h) (G : h.Ns mainGlobals mg) (c : He.SaysD fa fn K) : Dfs K mg := ⟨df0 X G c, df1 X G c, df2 X G c, df3 X G c, df4 X G c, df5 X G c, df6 X G c, df7 X G c, df8 X G c, df9 X G c, df10 X G c, df11 X G c, df12 X G c, df13 X G c, df14 X G c, df15 X G c, df16 X G c, df17 X G c, df18 X G c, df19 X G c, df20 X G c, df21 X G c, df22 X G c, df23 X G c, df24 X G c, df25 X G c, df26 X G c, df27 X G c, df28 X G c, df29 X G c, df30 X G c, df31 X G c, df32 X G c, df33 X G c, df34 X G c, df35 X G c, df36 X G c, df37 X G c, df38 X G c, df39 X G c, df40 X G c, df41 X G c, df42 X G c, df43 X G c, df44 X G c, df45 X G c, df46 X G c, df47 X G c, df48 X G c, df49 X G c, df50 X G c, df51 X G c, df52 X G c, df53 X G c, df54 X G c, df55 X G c, df56 X G c, df57 X G c, df58 X G c, df59 X G c, df60 X G c, df61 X G c, df62 X G c, df63 X G c, df64 X G c, df65 X G c, df66 X G c, df67 X G c, df68 X G c, df70 X G c, df71 X G c, df72 X G c, df73 X G c, df74 X G c, df75 X G c, df76 X G c, df77 X G c, df78 X G c, df79 X G c, df80 X G c⟩
theorem facts {f : Addr} (hl : ∀ ns : List Int, ∃ cs', F81 (runFn 40) (envL 4 1) (cupOf ns) = some (.ret (.bool true), cs')) (X : K.In h) (G : h.Ns mainGlobals mg) (hfa : mg ("law" : Str) = some (.ref f)) (c : He.SaysD fa fn K) (ce : ex K = true) :
    ∃ fd : FuncData, (∀ (s : Shared) (v : Value), BindsTo s fd ⟨[v], []⟩ [("script", v)]) ∧ ∀ base : Heap, K.In base → base.Ns mainGlobals mg → FnOk P w K mg base CX0 42 f fd ["script"] (spLaw K) := by
  obtain ⟨fd, F⟩ := c.def_ 81 (d := dd81) rfl
  have e := hfa.symm.trans (He.glo_ok X G (c.fact 81 (f := .glo "law") rfl))
  cases e
  have b := FunD.bindsA (ps := ["script"]) F fun _ _ _ _ _ _ us hl => match us, hl with | [_], _ => rfl
  exact ⟨fd, fun s v => b s [v] rfl, fun base _ _ => ok_law (ms_ok X G c ce) (dfs_ok X G c) (df69 X G c) F hl⟩
end
end Wk
open PySem PySem.W PySem.Calls PyProof.Rows
theorem PySem.Challenge.rw_linesruled_k93_whole_circles_and_sums_of_of (hl : ∀ ns : List Int, ∃ cs', Wk.F81 (Wk.runFn 40) (Se.envL 4 1) (Se.cupOf ns) = some (.ret (.bool true), cs')) : PySem.Challenge.rw_linesruled_k93_whole_circles_and_sums_of.Holds := by
  w_on; o_law
  refine HandSHeadRun.head_imp (r := OpenLaw.row PySem.Challenge.rw_linesruled_k93_whole_circles_and_sums_of) (q := view (OpenLaw.row PySem.Challenge.rw_linesruled_k93_whole_circles_and_sums_of).prog [0, 114]) (H := Wk.hk) (ob := Wk.ob) (M := 8000) (loose := Wk.nms) (d := HandSHeadRun.topDef (OpenLaw.row PySem.Challenge.rw_linesruled_k93_whole_circles_and_sums_of).prog 114) (kwd := []) Wk.ob_eq
    Wk.run (by kernel_rfl) (by kernel_rfl) (by kernel_rfl) (by rfl) (by first | assumption | decide +kernel) (by decide +kernel) ⟨rfl, rfl, rfl, rfl, rfl, by decide +kernel⟩ ?hw ?hc
  case hw => w_witness2
  case hc =>
    refine L2.walk_ofE (l := PySem.Challenge.rw_linesruled_k93_whole_circles_and_sums_of) (n := 63) (k := 42) (x := "script") (CX := L2.CX0) rfl (by decide) (by kernel_rfl) ⟨rfl, by decide, by decide⟩ ?F (fun _ _ _ _ z => z)
    intro w mg fa h Y G hmg0
    obtain ⟨K, KX, c, ce⟩ := Y
    have hmg : mg ("law" : PySem.Str) = some (.ref fa) := by
      have e : (HandSHeadRun.topDef (OpenLaw.row PySem.Challenge.rw_linesruled_k93_whole_circles_and_sums_of).prog 114).name = ("law" : PySem.Str) := by kernel_rfl
      rw [← e]
      exact hmg0
    obtain ⟨fd, hb, hF⟩ := Wk.facts (P := (PySem.Challenge.rw_linesruled_k93_whole_circles_and_sums_of).prog) (w := w) hl KX G hmg c ce
    exact ⟨K, fd, Se.spLaw K, KX, hb, fun H a ns hl _ hS => ⟨a, ns, rfl, hS, by omega, fun _ => rfl⟩, hF⟩
end
section
set_option Elab.async false
set_option linter.all false
set_option maxRecDepth 100000
set_option maxHeartbeats 400000
namespace T
open PySem hiding Flow Arg
open Se Wk Ev Nm
local macro_rules | `(tactic| walk_at "lv") => `(tactic| (repeat' (first | exact Lv.mono (by assumption) (Nat.le_of_ble_eq_true rfl) | exact Lv.mono (Bd.lv (by assumption) (Nat.le_of_ble_eq_true rfl)) (Nat.le_of_ble_eq_true rfl) | apply Lv.mul | apply Lv.add | apply Lv.sub | apply Lv.neg)))
local macro_rules | `(tactic| walk_at "w") => `(tactic| first
  | ((with_reducible apply exI); first | assumption | exact rfl)
  | ((with_reducible apply Op.head); assumption) | ((with_reducible apply Op.of (o := gIx _ _)); exact rfl) | ((with_reducible refine And.intro (And.intro ?_ ?_) ?_); (focus walk_at "lv"); (focus walk_at "lv"))
  | ((with_reducible apply Op.of (o := gLen _)); exact rfl) | ((with_reducible apply Op.of (o := gAll _)); exact rfl) | ((with_reducible apply Op.of (o := gAny _)); exact rfl) | ((with_reducible apply Op.of (o := gSum _)); exact rfl) | ((with_reducible apply Op.of (o := gTuple _)); exact rfl) | ((with_reducible apply Op.of (o := gAbs _)); exact rfl) | ((with_reducible apply Op.of (o := gInt _)); exact rfl) | ((with_reducible apply Op.of (o := gCut _ _ _)); exact rfl)
  | ((with_reducible first | apply W.nz2 | apply W.nz3 | apply W.nz4 | apply W.nz6 | apply W.nz9); exact Nat.le_of_ble_eq_true rfl)
  | (with_reducible first | apply W.stepC | apply W.stepN | apply W.stepMC | apply W.stepMN | apply W.forC | apply W.forN)
  | ((with_reducible refine And.intro ?_ ?_); first | exact Nat.le_of_ble_eq_true rfl | exact rfl) | (with_reducible refine Bo.t ?_) | (with_reducible refine Bo.f ?_) | (with_reducible refine Bo.d (fun _ => ?_) (fun h => absurd (by assumption) h)) | (with_reducible refine Bo.d (fun h => absurd h (by assumption)) (fun _ => ?_)) | (with_reducible refine Bo.nd (fun _ => ?_) (fun h => absurd h (by assumption))) | (with_reducible refine Bo.nd (fun h => absurd (by assumption) h) (fun _ => ?_)) | ((with_reducible apply Op.divE); assumption; assumption; assumption) | (refine Bo.t ?_) | (refine Bo.f ?_))
local macro_rules | `(tactic| walk_at "e") => `(tactic| repeat (first | (with_reducible apply W.setN) | (with_reducible refine St.ok ?_) | (with_reducible refine OS.ok ?_) | walk_at "w"))
local macro_rules | `(tactic| walk_at "i") => `(tactic| ((with_reducible apply W.iteI); (exact rfl); (exact rfl); exact rfl))
local macro_rules | `(tactic| walk_at "t") => `(tactic| repeat (first | (with_reducible apply W.setN) | (with_reducible refine St.ok ?_) | (with_reducible refine OS.ok ?_) | (with_reducible apply W.ite) | walk_at "w"))
local macro_rules | `(tactic| walk_at "p") => `(tactic| repeat (first | (with_reducible apply W.setN) | ((fail_if_success (with_reducible apply stopSt)); (fail_if_success (with_reducible apply stopMt)); (fail_if_success (with_reducible apply stopFo)); first | (with_reducible refine St.ok ?_) | (with_reducible refine OS.ok ?_) | walk_at "w")))
theorem rr0 (n : Nat) : runFn (n + 1) 0 = runB F0 3 3 (runFn n) := rn0 n
theorem rr1 (n : Nat) : runFn (n + 1) 1 = runB F1 3 3 (runFn n) := rn1 n
theorem rr2 (n : Nat) : runFn (n + 1) 2 = runB F2 3 3 (runFn n) := rn2 n
theorem rr3 (n : Nat) : runFn (n + 1) 3 = runB F3 5 4 (runFn n) := rn3 n
theorem rr4 (n : Nat) : runFn (n + 1) 4 = runB F4 1 1 (runFn n) := rn4 n
theorem rr5 (n : Nat) : runFn (n + 1) 5 = runB F5 3 2 (runFn n) := rn5 n
theorem rr6 (n : Nat) : runFn (n + 1) 6 = runB F6 2 2 (runFn n) := rn6 n
theorem rr7 (n : Nat) : runFn (n + 1) 7 = runB F7 2 2 (runFn n) := rn7 n
theorem rr8 (n : Nat) : runFn (n + 1) 8 = runB F8 2 1 (runFn n) := rn8 n
theorem rr9 (n : Nat) : runFn (n + 1) 9 = runB F9 1 1 (runFn n) := rn9 n
theorem rr10 (n : Nat) : runFn (n + 1) 10 = runB F10 4 1 (runFn n) := rn10 n
theorem rr11 (n : Nat) : runFn (n + 1) 11 = runB F11 1 1 (runFn n) := rn11 n
theorem rr12 (n : Nat) : runFn (n + 1) 12 = runB F12 2 2 (runFn n) := rn12 n
theorem rr13 (n : Nat) : runFn (n + 1) 13 = runB F13 3 2 (runFn n) := rn13 n
theorem rr14 (n : Nat) : runFn (n + 1) 14 = runB F14 3 3 (runFn n) := rn14 n
theorem rr15 (n : Nat) : runFn (n + 1) 15 = runB F15 1 1 (runFn n) := rn15 n
theorem rr16 (n : Nat) : runFn (n + 1) 16 = runB F16 3 2 (runFn n) := rn16 n
theorem rr17 (n : Nat) : runFn (n + 1) 17 = runB F17 2 1 (runFn n) := rn17 n
theorem rr18 (n : Nat) : runFn (n + 1) 18 = runB F18 1 1 (runFn n) := rn18 n
theorem rr19 (n : Nat) : runFn (n + 1) 19 = runB F19 1 1 (runFn n) := rn19 n
theorem rr20 (n : Nat) : runFn (n + 1) 20 = runB F20 9 1 (runFn n) := rn20 n
theorem rr21 (n : Nat) : runFn (n + 1) 21 = runB F21 12 2 (runFn n) := rn21 n
theorem rr22 (n : Nat) : runFn (n + 1) 22 = runB F22 4 1 (runFn n) := rn22 n
theorem rr23 (n : Nat) : runFn (n + 1) 23 = runB F23 19 2 (runFn n) := rn23 n
theorem rr24 (n : Nat) : runFn (n + 1) 24 = runB F24 1 1 (runFn n) := rn24 n
theorem rr25 (n : Nat) : runFn (n + 1) 25 = runB F25 2 2 (runFn n) := rn25 n
theorem rr26 (n : Nat) : runFn (n + 1) 26 = runB F26 2 2 (runFn n) := rn26 n
theorem rr27 (n : Nat) : runFn (n + 1) 27 = runB F27 4 1 (runFn n) := rn27 n
theorem rr28 (n : Nat) : runFn (n + 1) 28 = runB F28 3 2 (runFn n) := rn28 n
theorem rr29 (n : Nat) : runFn (n + 1) 29 = runB F29 4 3 (runFn n) := rn29 n
theorem rr30 (n : Nat) : runFn (n + 1) 30 = runB F30 2 2 (runFn n) := rn30 n
theorem rr31 (n : Nat) : runFn (n + 1) 31 = runB F31 8 3 (runFn n) := rn31 n
theorem rr32 (n : Nat) : runFn (n + 1) 32 = runB F32 5 2 (runFn n) := rn32 n
theorem rr33 (n : Nat) : runFn (n + 1) 33 = runB F33 4 1 (runFn n) := rn33 n
theorem rr34 (n : Nat) : runFn (n + 1) 34 = runB F34 7 1 (runFn n) := rn34 n
theorem rr35 (n : Nat) : runFn (n + 1) 35 = runB F35 9 1 (runFn n) := rn35 n
theorem rr36 (n : Nat) : runFn (n + 1) 36 = runB F36 6 2 (runFn n) := rn36 n
theorem rr37 (n : Nat) : runFn (n + 1) 37 = runB F37 4 2 (runFn n) := rn37 n
theorem rr38 (n : Nat) : runFn (n + 1) 38 = runB F38 4 2 (runFn n) := rn38 n
theorem rr39 (n : Nat) : runFn (n + 1) 39 = runB F39 5 1 (runFn n) := rn39 n
theorem rr40 (n : Nat) : runFn (n + 1) 40 = runB F40 10 4 (runFn n) := rn40 n
theorem rr41 (n : Nat) : runFn (n + 1) 41 = runB F41 10 2 (runFn n) := rn41 n
theorem rr42 (n : Nat) : runFn (n + 1) 42 = runB F42 2 1 (runFn n) := rn42 n
theorem rr43 (n : Nat) : runFn (n + 1) 43 = runB F43 1 1 (runFn n) := rn43 n
theorem rr44 (n : Nat) : runFn (n + 1) 44 = runB F44 7 1 (runFn n) := rn44 n
theorem rr45 (n : Nat) : runFn (n + 1) 45 = runB F45 5 1 (runFn n) := rn45 n
theorem rr46 (n : Nat) : runFn (n + 1) 46 = runB F46 1 1 (runFn n) := rn46 n
theorem rr47 (n : Nat) : runFn (n + 1) 47 = runB F47 7 3 (runFn n) := rn47 n
theorem rr48 (n : Nat) : runFn (n + 1) 48 = runB F48 8 2 (runFn n) := rn48 n
theorem rr49 (n : Nat) : runFn (n + 1) 49 = runB F49 10 1 (runFn n) := rn49 n
theorem rr50 (n : Nat) : runFn (n + 1) 50 = runB F50 4 1 (runFn n) := rn50 n
theorem rr51 (n : Nat) : runFn (n + 1) 51 = runB F51 2 2 (runFn n) := rn51 n
theorem rr52 (n : Nat) : runFn (n + 1) 52 = runB F52 1 1 (runFn n) := rn52 n
theorem rr53 (n : Nat) : runFn (n + 1) 53 = runB F53 8 2 (runFn n) := rn53 n
theorem rr54 (n : Nat) : runFn (n + 1) 54 = runB F54 6 3 (runFn n) := rn54 n
theorem rr55 (n : Nat) : runFn (n + 1) 55 = runB F55 2 1 (runFn n) := rn55 n
theorem rr56 (n : Nat) : runFn (n + 1) 56 = runB F56 7 2 (runFn n) := rn56 n
theorem rr57 (n : Nat) : runFn (n + 1) 57 = runB F57 8 3 (runFn n) := rn57 n
theorem rr58 (n : Nat) : runFn (n + 1) 58 = runB F58 3 3 (runFn n) := rn58 n
theorem rr59 (n : Nat) : runFn (n + 1) 59 = runB F59 10 4 (runFn n) := rn59 n
theorem rr60 (n : Nat) : runFn (n + 1) 60 = runB F60 3 3 (runFn n) := rn60 n
theorem rr61 (n : Nat) : runFn (n + 1) 61 = runB F61 4 1 (runFn n) := rn61 n
theorem rr62 (n : Nat) : runFn (n + 1) 62 = runB F62 1 1 (runFn n) := rn62 n
theorem rr63 (n : Nat) : runFn (n + 1) 63 = runB F63 7 1 (runFn n) := rn63 n
theorem rr64 (n : Nat) : runFn (n + 1) 64 = runB F64 6 2 (runFn n) := rn64 n
theorem rr65 (n : Nat) : runFn (n + 1) 65 = runB F65 1 1 (runFn n) := rn65 n
theorem rr66 (n : Nat) : runFn (n + 1) 66 = runB F66 1 1 (runFn n) := rn66 n
theorem rr67 (n : Nat) : runFn (n + 1) 67 = runB F67 1 1 (runFn n) := rn67 n
theorem rr68 (n : Nat) : runFn (n + 1) 68 = runB F68 1 1 (runFn n) := rn68 n
theorem rr70 (n : Nat) : runFn (n + 1) 70 = runB F70 3 2 (runFn n) := rn70 n
theorem rr71 (n : Nat) : runFn (n + 1) 71 = runB F71 3 2 (runFn n) := rn71 n
theorem rr72 (n : Nat) : runFn (n + 1) 72 = runB F72 2 2 (runFn n) := rn72 n
theorem rr73 (n : Nat) : runFn (n + 1) 73 = runB F73 4 1 (runFn n) := rn73 n
theorem rr74 (n : Nat) : runFn (n + 1) 74 = runB F74 3 2 (runFn n) := rn74 n
theorem rr75 (n : Nat) : runFn (n + 1) 75 = runB F75 5 1 (runFn n) := rn75 n
theorem rr76 (n : Nat) : runFn (n + 1) 76 = runB F76 5 1 (runFn n) := rn76 n
theorem rr77 (n : Nat) : runFn (n + 1) 77 = runB F77 6 1 (runFn n) := rn77 n
theorem rr78 (n : Nat) : runFn (n + 1) 78 = runB F78 7 2 (runFn n) := rn78 n
theorem rr79 (n : Nat) : runFn (n + 1) 79 = runB F79 6 1 (runFn n) := rn79 n
theorem rr80 (n : Nat) : runFn (n + 1) 80 = runB F80 3 2 (runFn n) := rn80 n
/-! basics -/
theorem s_is_whole {n : Nat} {m : Nat} {i lo hi : Int} {cs : Cs} {Q : PyData → Cs → Prop} (hb : Bd m i) (h : lo ≤ -(m : Int) ∧ (m : Int) ≤ hi) (q : Q (.bool true) cs) : W (runFn (n + 1) 0 [.dat (.int i), .dat (.int lo), .dat (.int hi)]) cs Q := by
  rw [rr0]
  have := hb.le
  refine W.run' rfl ?_
  walk_at "e"
  refine Bo.d (fun _ => ?_) (fun g => absurd (by omega) g)
  walk_at "e"
  rw [decide_eq_true (by omega)]
  exact q
theorem s_is_whole0 {n : Nat} {i lo hi : Int} {cs : Cs} {Q : PyData → Cs → Prop} (h : lo ≤ i ∧ i ≤ hi) (q : Q (.bool true) cs) : W (runFn (n + 1) 0 [.dat (.int i), .dat (.int lo), .dat (.int hi)]) cs Q := by
  rw [rr0]
  refine W.run' rfl ?_
  walk_at "e"
  refine Bo.d (fun _ => ?_) (fun g => absurd h.1 g)
  walk_at "e"
  rw [decide_eq_true h.2]
  exact q
theorem s_is_tuple_of {n m : Nat} {ds : List PyData} {lo hi : Int} {cs : Cs} {Q : PyData → Cs → Prop} (hl : ds.length = m) (h : lo ≤ (m : Int) ∧ (m : Int) ≤ hi) (q : Q (.bool true) cs) : W (runFn (n + 1) 2 [.dat (.tuple ds), .dat (.int lo), .dat (.int hi)]) cs Q := by
  rw [rr2]
  refine W.run' rfl ?_
  walk_at "e"
  rw [hl]
  refine Bo.d (fun _ => ?_) (fun g => absurd h.1 g)
  walk_at "e"
  rw [decide_eq_true h.2]
  exact q
/-! triples -/
theorem s_is_three {n : Nat} {a b c : Int} {cs : Cs} {Q : PyData → Cs → Prop} (ha : Bd 1000000000 a) (hb : Bd 1000000000 b) (hc : Bd 1000000000 c) (q : Q (.bool true) cs) : W (runFn (n + 2) 8 [.dat (t3 a b c)]) cs Q := by
  rw [rr8]
  refine W.run' rfl ?_
  walk_at "e"
  refine s_is_tuple_of (m := 3) rfl (by decide) ?_
  walk_at "e"
  refine s_is_whole ha ⟨by decide, by decide⟩ ?_
  walk_at "e"
  refine s_is_whole hb ⟨by decide, by decide⟩ ?_
  walk_at "e"
  refine s_is_whole hc ⟨by decide, by decide⟩ ?_
  walk_at "e"
  exact q
theorem fac_lv {k : Nat} {l : List Int} (hk : ∀ x ∈ l, Lv k x) (h : NZ l) : Lv k (fac l) := by
  have h1 := fac_mul (fnz_mem h)
  have h2 := hk _ (fnz_mem h)
  unfold Lv at *
  rw [h1, Int.natAbs_mul] at h2
  refine Nat.lt_of_le_of_lt ?_ h2
  refine Nat.le_mul_of_pos_right _ (Nat.pos_of_ne_zero fun z => ?_)
  rw [Int.natAbs_eq_zero.mp z, Int.mul_zero] at h1
  exact h h1
theorem s_plainly {n : Nat} {a b c : Int} {cs : Cs} {Q : PyData → Cs → Prop} (hz : NZ [a, b, c]) (ha : Lv 12 a) (hb : Lv 12 b) (hc : Lv 12 c) (q : ∀ A B C k, k ≠ 0 → a = k * A → b = k * B → c = k * C → Nrm [A, B, C] → Q (t3 A B C) cs) : W (runFn (n + 1) 10 [.dat (t3 a b c)]) cs Q := by
  rw [rr10]
  have h0 := fac_ne hz
  have h1 : Lv 13 (fac [a, b, c]) := (fac_lv (k := 12) (by simp [ha, hb, hc]) hz).mono (by decide)
  have ea := fac_mul (l := [a, b, c]) (x := a) (by simp)
  have eb := fac_mul (l := [a, b, c]) (x := b) (by simp)
  have ec := fac_mul (l := [a, b, c]) (x := c) (by simp)
  refine W.run' rfl ?_
  walk_at "e"
  rw [gcd3]
  walk_at "i"
  rw [show (if 0 < fnz [a, b, c] then ((gcdL [a, b, c] : Nat) : Int) else -((gcdL [a, b, c] : Nat) : Int)) = fac [a, b, c] from rfl]
  walk_at "e"
  exact q _ _ _ _ h0 ea eb ec (fac_nrm hz (by rw [List.map_cons, List.map_cons, List.map_cons, List.map_nil, ← ea, ← eb, ← ec]))
/-- a ratio of two integers, in lowest terms -/
def prD (x y : Int) : PyData := t2 (x.fdiv (fac [y, x])) (y.fdiv (fac [y, x]))
theorem prD_pl {x y : Int} (hz : NZ [y, x]) : ∃ A B k, k ≠ 0 ∧ x = k * A ∧ y = k * B ∧ Pl A B ∧ prD x y = t2 A B := by
  have ex := fac_mul (l := [y, x]) (x := x) (by simp)
  have ey := fac_mul (l := [y, x]) (x := y) (by simp)
  exact ⟨_, _, _, fac_ne hz, ex, ey, ⟨fac_nrm hz (by rw [List.map_cons, List.map_cons, List.map_nil, ← ex, ← ey])⟩, rfl⟩
/-! the law's own functions -/
/-- the cup: two integers, the second one small -/
def Cu (cs : Cs) : Prop := ∃ d l, cs = [d, l] ∧ Bd 200000 l
theorem fmod_bd {a b : Int} (h : 0 < b) : 0 ≤ a.fmod b ∧ a.fmod b < b := ⟨Int.fmod_nonneg_of_pos a h, Int.fmod_lt_of_pos a h⟩
theorem bd_lv {i : Int} {k : Nat} (h : Lv k i) (hk : k ≤ 18) : Lv 18 i := h.mono hk
theorem s_roll {n : Nat} {m : Int} {cs : Cs} {Q : PyData → Cs → Prop} (hc : Cu cs) (hm : 0 < m) (hl : Lv 12 m) (q : ∀ r cs', 0 ≤ r → r < m → Cu cs' → Q (.int r) cs') : W (runFn (n + 1) 70 [.cup, .dat (.int m)]) cs Q := by
  rw [rr70]
  obtain ⟨d, l, rfl, hb⟩ := hc
  have l6 : Lv 6 l := hb.lv (by decide)
  have hm0 : m ≠ 0 := by omega
  have h11 : Lv 12 (11 : Int) := (Bd.lv (n := 11) (show (11 : Int).natAbs ≤ 11 from by decide) (by decide)).mono (by decide)
  have h73 : Lv 12 (73 : Int) := (Bd.lv (n := 73) (show (73 : Int).natAbs ≤ 73 from by decide) (by decide)).mono (by decide)
  refine W.run' rfl ?_
  by_cases hd : 0 < d
  · walk_at "e"
    refine Op.mod hm0 ?_
    walk_at "e"
    refine Op.div hm0 (hl.mono (by decide)) ?_
    walk_at "e"
    exact q _ _ (fmod_bd hm).1 (fmod_bd hm).2 ⟨_, _, rfl, hb⟩
  · walk_at "e"
    refine Op.mod (by decide) ?_
    walk_at "e"
    refine Op.div (by decide) (h11.mono (by decide)) ?_
    walk_at "e"
    refine Op.mod hm0 ?_
    walk_at "e"
    refine q _ _ (fmod_bd hm).1 (fmod_bd hm).2 ⟨_, _, rfl, ?_⟩
    have := fmod_bd (a := l * 73 + 1237) (b := 99991) (by decide)
    exact Bd.of (by omega)
theorem atI_of {xs : List PyData} {r : Int} (h0 : 0 ≤ r) (h1 : r < xs.length) : ∃ d, d ∈ xs ∧ gIx (.list xs) (.int r) = some d := by
  have hlt : r.toNat < xs.length := by omega
  refine ⟨xs[r.toNat], List.getElem_mem hlt, ?_⟩
  show L2.atI xs r = _
  unfold L2.atI L2.ixN
  rw [if_pos h0, if_pos h1]
  simp [hlt]
/-- data that is like itself -/
def lk : Nat → PyData → Bool
  | _, .none => true
  | _, .bool _ => true
  | _, .int _ => true
  | k + 1, .tuple ds => decide (ds.length ≤ line) && ds.all (lk k)
  | k + 1, .list ds => decide (ds.length ≤ line) && ds.all (lk k)
  | _, _ => false
def srt : PyData → Int
  | .none => 0
  | .bool _ => 1
  | .int _ => 2
  | .str _ => 3
  | .tuple _ => 4
  | .list _ => 5
  | _ => 6
theorem nil_eq {Q : PyData → Prop} (q : Q (.bool true)) : Op (gEq (.list []) (.list [])) Q := ⟨_, rfl, q⟩
theorem s_like_steps {cs : Cs} {F : PyData → M (Option PyData)} : ∀ {ds : List PyData} {S : List PyData → Cs → Prop}, (∀ d ∈ ds, W (F (.tuple [d, d])) cs fun o c => o = none ∧ c = cs) → S [] cs → W (stepL F (zipD ds ds)) cs S
  | [], S, _, q => W.stepN q
  | d :: ds, S, h, q => by
    refine W.stepC ((h d (by simp)).mono fun o c z => ?_)
    obtain ⟨rfl, rfl⟩ := z
    exact s_like_steps (fun x hx => h x (by simp [hx])) q
theorem zip_le : ∀ ds : List PyData, (zipD ds ds).length ≤ ds.length
  | [] => Nat.le_refl _
  | _ :: ds => Nat.succ_le_succ (zip_le ds)
/-! the greatest common divisor by turns -/
theorem absI (i : Int) : (if i < 0 then -i else i) = (i.natAbs : Int) := by omega
theorem half {b c : Nat} (h : c ≠ 0) (hc : c < b) : 2 * (b % c) < b := by
  have h1 := Nat.mod_lt b (Nat.pos_of_ne_zero h)
  by_cases g : 2 * c ≤ b
  · omega
  · have : b % c = b - c := by
      rw [Nat.mod_eq_sub_mod (by omega), Nat.mod_eq_of_lt (by omega)]
    omega
theorem nz_img2 {a b c d x y : Int} (hd : a * d - b * c ≠ 0) (hp : x ≠ 0 ∨ y ≠ 0) : a * x + b * y ≠ 0 ∨ c * x + d * y ≠ 0 := by
  by_cases h1 : a * x + b * y = 0
  · by_cases h2 : c * x + d * y = 0
    · exfalso
      have z1 : (a * d - b * c) * x = 0 := by grind
      have z2 : (a * d - b * c) * y = 0 := by grind
      rcases Int.mul_eq_zero.mp z1 with h | h
      · exact hd h
      · rcases Int.mul_eq_zero.mp z2 with h' | h'
        · exact hd h'
        · rcases hp with hp | hp
          · exact hp h
          · exact hp h'
    · exact .inr h2
  · exact .inl h1
/-! places, swings and maps of the law -/
theorem bd_of {n : Nat} {x : Int} (h1 : -(n : Int) ≤ x) (h2 : x ≤ n) : Bd n x := Bd.of ⟨h1, h2⟩
/-! fixed places and factors -/
theorem s_is_portion {n m : Nat} {a b : Int} {cs : Cs} {Q : PyData → Cs → Prop} (h : Pl a b) (hb : 0 < b) (ba : Bd m a) (bb : Bd m b) (hm : m ≤ 1000000000) (q : Q (.bool true) cs) : W (runFn (n + 2) 4 [.dat (t2 a b)]) cs Q := by
  rw [rr4]
  obtain ⟨g1, g2⟩ := h.cases
  have hq := bb.le
  refine W.run' rfl ?_
  walk_at "e"
  refine s_is_tuple_of (m := 2) rfl (by decide) ?_
  walk_at "e"
  refine s_is_whole ba (by omega) ?_
  walk_at "e"
  refine s_is_whole0 (by omega) ?_
  walk_at "e"
  rw [g1]
  walk_at "e"
  exact q
theorem s_lowest {n : Nat} {x y : Int} {cs : Cs} {Q : PyData → Cs → Prop} (hy : y ≠ 0) (lx : Lv 12 x) (ly : Lv 12 y) (q : ∀ A B k, k ≠ 0 → x = k * A → y = k * B → Pl A B → Q (t2 A B) cs) : W (runFn (n + 1) 5 [.dat (.int x), .dat (.int y)]) cs Q := by
  rw [rr5]
  have nz : NZ [y, x] := by rw [NZ2]; exact .inl hy
  have h0 := fac_ne nz
  have hf : fnz [y, x] = y := by simp [fnz, hy]
  have hg : Nat.gcd x.natAbs y.natAbs = gcdL [y, x] := by rw [Nat.gcd_comm]; simp [gcdL]
  have l13 : Lv 13 (fac [y, x]) := (fac_lv (k := 12) (by simp [lx, ly]) nz).mono (by decide)
  have fin : Q (prD x y) cs := by
    obtain ⟨A, B, k, hk, i1, i2, hp, e⟩ := prD_pl nz
    rw [e]
    exact q A B k hk i1 i2 hp
  refine W.run' rfl ?_
  by_cases hs : 0 < y
  · walk_at "t"
    rw [hg]
    rw [show ((gcdL [y, x] : Nat) : Int) = fac [y, x] from by unfold fac; rw [hf, if_pos hs]]
    walk_at "e"
    refine Op.div h0 l13 ?_
    walk_at "e"
    refine Op.div h0 l13 ?_
    walk_at "e"
    exact fin
  · walk_at "t"
    rw [hg]
    rw [show -((gcdL [y, x] : Nat) : Int) = fac [y, x] from by unfold fac; rw [hf, if_neg hs]]
    walk_at "e"
    refine Op.div h0 l13 ?_
    walk_at "e"
    refine Op.div h0 l13 ?_
    walk_at "e"
    exact fin
theorem mul3 {k1 k2 k3 A U1 U2 E1 E3 u1 u2 e1 e3 : Int} (i : U1 * E1 + U2 * E3 = k3 * A) (h1 : u1 = k2 * U1) (h2 : u2 = k2 * U2) (g1 : e1 = k1 * E1) (g3 : e3 = k1 * E3) : k1 * k2 * k3 * A = u1 * e1 + u2 * e3 := by
  rw [Int.mul_assoc, ← i, h1, h2, g1, g3]
  clear i h1 h2 g1 g3
  grind
/-- what fixes two places -/
structure Fx (p r s t f0 f1 k A B C D : Int) : Prop where
  hk : k ≠ 0
  e1 : k * A = f1 * (p * t) - f0 * (s * r)
  e2 : k * B = (f0 - f1) * (p * s)
  e3 : k * C = (f1 - f0) * (r * t)
  e4 : k * D = f0 * (p * t) - f1 * (r * s)
theorem Fx.at1 {p r s t f0 f1 k A B C D : Int} (h : Fx p r s t f0 f1 k A B C D) : k * (A * p + B * r) = f1 * (p * t - s * r) * p ∧ k * (C * p + D * r) = f1 * (p * t - s * r) * r := by
  obtain ⟨_, e1, e2, e3, e4⟩ := h
  constructor
  · have : k * (A * p + B * r) = (k * A) * p + (k * B) * r := by
      clear e1 e2 e3 e4
      grind
    rw [this, e1, e2]
    clear this e1 e2 e3 e4
    grind
  · have : k * (C * p + D * r) = (k * C) * p + (k * D) * r := by
      clear e1 e2 e3 e4
      grind
    rw [this, e3, e4]
    clear this e1 e2 e3 e4
    grind
theorem Fx.at2 {p r s t f0 f1 k A B C D : Int} (h : Fx p r s t f0 f1 k A B C D) : k * (A * s + B * t) = f0 * (p * t - s * r) * s ∧ k * (C * s + D * t) = f0 * (p * t - s * r) * t := by
  obtain ⟨_, e1, e2, e3, e4⟩ := h
  constructor
  · have : k * (A * s + B * t) = (k * A) * s + (k * B) * t := by
      clear e1 e2 e3 e4
      grind
    rw [this, e1, e2]
    clear this e1 e2 e3 e4
    grind
  · have : k * (C * s + D * t) = (k * C) * s + (k * D) * t := by
      clear e1 e2 e3 e4
      grind
    rw [this, e3, e4]
    clear this e1 e2 e3 e4
    grind
theorem fixed_at {k A B C D p r l I1 I2 m : Int} (hk : k ≠ 0) (hl : l ≠ 0) (hm : m ≠ 0) (g : k * (A * p + B * r) = l * p ∧ k * (C * p + D * r) = l * r) (e1 : A * p + B * r = m * I1) (e2 : C * p + D * r = m * I2) (hp : Pl p r) (hI : Pl I1 I2) : I1 = p ∧ I2 = r := by
  rw [e1, e2, ← Int.mul_assoc, ← Int.mul_assoc] at g
  exact hI.eq hp (Int.mul_ne_zero hk hm) hl g.1 g.2
theorem fe_in {k k2 k4 A B U1 U3 u1 u3 V1 : Int} (v1 : A * U1 + B * U3 = k4 * V1) (e1 : u1 = k2 * U1) (e3 : u3 = k2 * U3) : k * k2 * k4 * V1 = (k * A) * u1 + (k * B) * u3 := by
  rw [Int.mul_assoc (k * k2), ← v1, e1, e3]
  clear v1 e1 e3
  grind
theorem fe_out {k k2 k4 k5 r p V1 V3 F1 : Int} (w1 : r * V1 + -p * V3 = k5 * F1) : k * k2 * k4 * k5 * F1 = r * (k * k2 * k4 * V1) - p * (k * k2 * k4 * V3) := by
  rw [Int.mul_assoc (k * k2 * k4), ← w1]
  clear w1
  grind
theorem factor_eq {p r s t f0 f1 k A B C D k2 k4 k5 U1 U2 U3 U4 V1 V2 V3 V4 F1 F4 : Int} (fx : Fx p r s t f0 f1 k A B C D) (u1 : -s = k2 * U1) (u2 : - -p = k2 * U2) (u3 : -t = k2 * U3) (u4 : r = k2 * U4)
    (v1 : A * U1 + B * U3 = k4 * V1) (v2 : A * U2 + B * U4 = k4 * V2) (v3 : C * U1 + D * U3 = k4 * V3) (v4 : C * U2 + D * U4 = k4 * V4) (w1 : r * V1 + -p * V3 = k5 * F1) (w4 : t * V2 + -s * V4 = k5 * F4) :
    k * k2 * k4 * k5 * F1 = (p * t - s * r) * (p * t - s * r) * f0 ∧ k * k2 * k4 * k5 * F4 = (p * t - s * r) * (p * t - s * r) * f1 := by
  obtain ⟨_, e1, e2, e3, e4⟩ := fx
  constructor
  · rw [fe_out w1, fe_in v1 u1 u3, fe_in v3 u1 u3, e1, e2, e3, e4]
    clear e1 e2 e3 e4 u1 u2 u3 u4 v1 v2 v3 v4 w1 w4
    grind
  · rw [fe_out w4, fe_in v2 u2 u4, fe_in v4 u2 u4, e1, e2, e3, e4]
    clear e1 e2 e3 e4 u1 u2 u3 u4 v1 v2 v3 v4 w1 w4
    grind
/-! the greatest common divisor by a for with a return -/
abbrev gTu : SS := sSeq (sIf (mBin gEq (mPk 1) (mLit (.int 0))) (sRet (mVar 0)) sNil) (sPar2 0 1 (mSh (mVar 1)) (mSh (mBin gMod (mBI gInt (mCons (mPk 0) mNil)) (mPk 1))))
theorem gcd_for {cf : CF} {cs : Cs} {R : Se.Flow → Cs → Prop} : ∀ {k : Nat} {ds : List PyData} {a b : Nat} {s : Se.Slot}, b < 2 ^ k → 2 * k < ds.length → (∀ g : Nat, g = Nat.gcd a b → R (.ret (.int (g : Int))) cs) → W (forL (forT (gNm 2) gTu cf) ds [.sh (.int (a : Int)), .sh (.int (b : Int)), s]) cs R := by
  intro k
  induction k with
  | zero =>
    intro ds a b s h hN q
    have hb : b = 0 := by simpa using h
    subst hb
    match ds, hN with
    | d :: ds, _ =>
      walk_at "e"
      exact q a (by simp)
  | succ k ih =>
    intro ds a b s h hN q
    match ds, hN with
    | d :: d2 :: ds, hN =>
      by_cases hb : b = 0
      · subst hb
        walk_at "e"
        exact q a (by simp)
      · have hb' : (b : Int) ≠ 0 := by omega
        walk_at "e"
        refine Op.mod hb' ?_
        have e1 : ((a : Int).fmod (b : Int)) = ((a % b : Nat) : Int) := by
          rw [Int.fmod_eq_emod_of_nonneg _ (by omega)]; rfl
        rw [e1]
        by_cases hc : a % b = 0
        · rw [hc]
          walk_at "e"
          exact q b (Nat.gcd_eq_right (Nat.dvd_of_mod_eq_zero hc)).symm
        · have hc' : ((a % b : Nat) : Int) ≠ 0 := by omega
          walk_at "e"
          refine Op.mod hc' ?_
          walk_at "e"
          have e2 : ((b : Int).fmod ((a % b : Nat) : Int)) = ((b % (a % b) : Nat) : Int) := by
            rw [Int.fmod_eq_emod_of_nonneg _ (by omega)]; rfl
          rw [e2]
          refine ih (a := a % b) (b := b % (a % b)) ?_ (by simp at hN; omega) fun g hg => q g ?_
          · have := half hc (Nat.mod_lt a (Nat.pos_of_ne_zero hb))
            rw [Nat.pow_succ] at h
            omega
          · rw [hg, Nat.gcd_comm a b, Nat.gcd_rec b a, Nat.gcd_rec (a % b) b, Nat.gcd_comm]
theorem rngD_len : ∀ (m : Nat) (i : Int), (rngD i m).length = m
  | 0, _ => rfl
  | m + 1, i => by simp [rngD, rngD_len m]
theorem s_gcdF {n : Nat} {a b : Int} {cs : Cs} {Q : PyData → Cs → Prop} (hb : b.natAbs < 2 ^ 150) (q : Q (.int ((Nat.gcd a.natAbs b.natAbs : Nat) : Int)) cs) : W (runFn (n + 1) 71 [.dat (.int a), .dat (.int b)]) cs Q := by
  rw [rr71]
  refine W.run' rfl ?_
  walk_at "p"
  rw [absI, absI]
  refine gcd_for (k := 150) hb (by rw [rngD_len]; decide) fun g hg => ?_
  rw [hg]
  exact q
theorem s_lowF {n : Nat} {x y : Int} {cs : Cs} {Q : PyData → Cs → Prop} (hy : 0 < y) (lx : Lv 12 x) (ly : y ≤ 1000000000) (q : ∀ A B k, k ≠ 0 → x = k * A → y = k * B → Pl A B → Q (t2 A B) cs) : W (runFn (n + 2) 74 [.dat (.int x), .dat (.int y)]) cs Q := by
  rw [rr74]
  have nz : NZ [y, x] := by rw [NZ2]; exact .inl (by omega)
  have h0 := fac_ne nz
  have hf : fnz [y, x] = y := by simp [fnz, show y ≠ 0 by omega]
  have hg : Nat.gcd x.natAbs y.natAbs = gcdL [y, x] := by rw [Nat.gcd_comm]; simp [gcdL]
  have l12 : Lv 12 y := (Bd.lv (n := 1000000000) (Bd.of (by omega)) (by decide)).mono (by decide)
  have l13 : Lv 13 (fac [y, x]) := (fac_lv (k := 12) (by simp [lx, l12]) nz).mono (by decide)
  have fin : Q (prD x y) cs := by
    obtain ⟨A, B, k, hk, i1, i2, hp, e⟩ := prD_pl nz
    rw [e]
    exact q A B k hk i1 i2 hp
  refine W.run' rfl ?_
  walk_at "t"
  refine s_gcdF (by omega) ?_
  rw [hg]
  rw [show ((gcdL [y, x] : Nat) : Int) = fac [y, x] from by unfold fac; rw [hf, if_pos hy]]
  walk_at "e"
  refine Op.div h0 l13 ?_
  walk_at "e"
  refine Op.div h0 l13 ?_
  walk_at "e"
  exact fin
/-! sides -/
theorem pl1 (x : Int) : Pl x 1 := Pl.of (by simp) (.inl (by decide))
theorem l1 : Lv 6 (1 : Int) := Bd.lv (n := 1) (show (1 : Int).natAbs ≤ 1 from by decide) (by decide)
theorem s_low1 {n : Nat} {x : Int} {cs : Cs} {Q : PyData → Cs → Prop} (lx : Lv 12 x) (q : Q (t2 x 1) cs) : W (runFn (n + 1) 5 [.dat (.int x), .dat (.int 1)]) cs Q := by
  refine s_lowest (by decide) lx (l1.mono (by decide)) fun A B k hk e1 e2 hp => ?_
  obtain ⟨rfl, rfl⟩ := (pl1 x).eq hp (k := 1) (m := k) (by decide) hk (by omega) (by omega)
  exact q
theorem s_times1 {n : Nat} {x y : Int} {cs : Cs} {Q : PyData → Cs → Prop} (lx : Lv 10 x) (ly : Lv 10 y) (q : Q (t2 (x * y) 1) cs) : W (runFn (n + 2) 7 [.dat (t2 x 1), .dat (t2 y 1)]) cs Q := by
  rw [rr7]
  have l1 := l1
  refine W.run' rfl ?_
  walk_at "e"
  refine s_low1 (by walk_at "lv") ?_
  exact q
theorem s_plus1 {n : Nat} {x y : Int} {cs : Cs} {Q : PyData → Cs → Prop} (lx : Lv 10 x) (ly : Lv 10 y) (q : Q (t2 (x + y) 1) cs) : W (runFn (n + 2) 6 [.dat (t2 x 1), .dat (t2 y 1)]) cs Q := by
  rw [rr6]
  have l1 := l1
  refine W.run' rfl ?_
  walk_at "e"
  rw [Int.mul_one, Int.mul_one]
  refine s_low1 (by walk_at "lv") ?_
  exact q
theorem s_timesB {n : Nat} {b y : Int} {cs : Cs} {Q : PyData → Cs → Prop} (hb : b ≠ 0) (lb : Lv 10 b) (ly : Lv 10 y) (q : ∀ A B k, k ≠ 0 → y = k * A → b = k * B → Pl A B → Q (t2 A B) cs) : W (runFn (n + 2) 7 [.dat (t2 1 b), .dat (t2 y 1)]) cs Q := by
  rw [rr7]
  have l1 := l1
  refine W.run' rfl ?_
  walk_at "e"
  rw [Int.one_mul, Int.mul_one]
  exact s_lowest hb (ly.mono (by decide)) (lb.mono (by decide)) q
theorem lvn {a : Int} (h : a.natAbs < 256) : Lv 3 a := Nat.lt_of_lt_of_le h (by decide)
theorem lv3 {a : Int} (h : 0 < a) (h2 : a ≤ 200) : Lv 3 a := lvn (by omega)
abbrev sq3 (x y z : Int) : PyData := .tuple [t2 x 1, t2 y 1, t2 z 1]
theorem bd1 {m : Nat} (h : 1 ≤ m) : Bd m (1 : Int) := h
theorem s_need_squares {n : Nat} {x y z : Int} {cs : Cs} {Q : PyData → Cs → Prop} (hx : 0 < x) (hy : 0 < y) (hz : 0 < z) (bx : x ≤ 200) (by' : y ≤ 200) (bz : z ≤ 200) (q : Q .none cs) : W (runFn (n + 4) 62 [.dat (sq3 x y z)]) cs Q := by
  rw [rr62]
  refine W.run' rfl ?_
  walk_at "e"
  rw [rr61]
  refine W.run' rfl ?_
  walk_at "e"
  refine s_is_tuple_of (m := 3) rfl (by decide) ?_
  walk_at "e"
  refine s_is_portion (m := 200) (pl1 x) (by decide) (Bd.of (by omega)) (bd1 (by decide)) (by decide) ?_
  walk_at "e"
  refine s_is_portion (m := 200) (pl1 y) (by decide) (Bd.of (by omega)) (bd1 (by decide)) (by decide) ?_
  walk_at "e"
  refine s_is_portion (m := 200) (pl1 z) (by decide) (Bd.of (by omega)) (bd1 (by decide)) (by decide) ?_
  have b1 : x ≤ 10000 := by omega
  have b2 : y ≤ 10000 := by omega
  have b3 : z ≤ 10000 := by omega
  walk_at "e"
  exact q
theorem s_spread {n : Nat} {a b : Int} {cs : Cs} {Q : PyData → Cs → Prop} (la : Lv 3 a) (lb : Lv 3 b) (q : Q (t2 (4 * (a * b)) 1) cs) : W (runFn (n + 3) 63 [.dat (sq3 a b (a + b))]) cs Q := by
  rw [rr63]
  have l2 : Lv 3 (2 : Int) := lvn (by decide)
  have key : 2 * (a * b + b * (a + b) + (a + b) * a) + -(a * a) + -(b * b) + -((a + b) * (a + b)) = 4 * (a * b) := by grind
  refine W.run' rfl ?_
  walk_at "e"
  refine s_times1 (by walk_at "lv") (by walk_at "lv") ?_
  walk_at "e"
  refine s_times1 (by walk_at "lv") (by walk_at "lv") ?_
  walk_at "e"
  refine s_plus1 (by walk_at "lv") (by walk_at "lv") ?_
  walk_at "e"
  refine s_times1 (by walk_at "lv") (by walk_at "lv") ?_
  walk_at "e"
  refine s_plus1 (by walk_at "lv") (by walk_at "lv") ?_
  walk_at "e"
  refine s_times1 (by walk_at "lv") (by walk_at "lv") ?_
  walk_at "e"
  refine s_times1 (by walk_at "lv") (by walk_at "lv") ?_
  walk_at "e"
  refine s_plus1 (by walk_at "lv") (by walk_at "lv") ?_
  walk_at "e"
  refine s_times1 (by walk_at "lv") (by walk_at "lv") ?_
  walk_at "e"
  refine s_plus1 (by walk_at "lv") (by walk_at "lv") ?_
  walk_at "e"
  refine s_times1 (by walk_at "lv") (by walk_at "lv") ?_
  walk_at "e"
  refine s_plus1 (by walk_at "lv") (by walk_at "lv") ?_
  rw [key]
  walk_at "e"
  exact q
theorem s_need_sides {n : Nat} {a b : Int} {cs : Cs} {Q : PyData → Cs → Prop} (ha : 0 < a) (hb : 0 < b) (ba : a ≤ 100) (bb : b ≤ 100) (q : Q .none cs) : W (runFn (n + 5) 65 [.dat (sq3 a b (a + b))]) cs Q := by
  rw [rr65]
  have hp : 0 < 4 * (a * b) := by have := Int.mul_pos ha hb; omega
  refine W.run' rfl ?_
  walk_at "e"
  refine s_need_squares ha hb (by omega) (by omega) (by omega) (by omega) ?_
  walk_at "e"
  refine s_spread (lv3 ha (by omega)) (lv3 hb (by omega)) ?_
  have hn : ¬ 4 * (a * b) ≤ 0 := by omega
  walk_at "e"
  exact q
theorem s_are_sides {n : Nat} {a b : Int} {cs : Cs} {Q : PyData → Cs → Prop} (ha : 0 < a) (hb : 0 < b) (ba : a ≤ 100) (bb : b ≤ 100) (q : Q (.bool true) cs) : W (runFn (n + 5) 66 [.dat (sq3 a b (a + b))]) cs Q := by
  rw [rr66]
  have hp : 0 < 4 * (a * b) := by have := Int.mul_pos ha hb; omega
  refine W.run' rfl ?_
  walk_at "e"
  refine s_need_squares ha hb (by omega) (by omega) (by omega) (by omega) ?_
  walk_at "e"
  refine s_spread (lv3 ha (by omega)) (lv3 hb (by omega)) ?_
  walk_at "e"
  rw [decide_eq_true hp]
  exact q
theorem s_area_square {n : Nat} {a b : Int} {cs : Cs} {Q : PyData → Cs → Prop} (ha : 0 < a) (hb : 0 < b) (ba : a ≤ 100) (bb : b ≤ 100) (q : ∀ A B k, k ≠ 0 → a * b = k * A → 4 = k * B → Pl A B → Q (t2 A B) cs) : W (runFn (n + 6) 68 [.dat (sq3 a b (a + b))]) cs Q := by
  rw [rr68]
  have la := lv3 ha (by omega)
  have lb := lv3 hb (by omega)
  have l4 : Lv 3 (4 : Int) := lvn (by decide)
  have l16 : Lv 3 (16 : Int) := lvn (by decide)
  refine W.run' rfl ?_
  walk_at "e"
  refine s_need_sides ha hb ba bb ?_
  walk_at "e"
  refine s_spread la lb ?_
  walk_at "e"
  refine s_timesB (by decide) (by walk_at "lv") (by walk_at "lv") fun A B k hk e1 e2 hp => ?_
  -- 4ab = kA, 16 = kB
  obtain ⟨g, hg⟩ : ∃ g : Int, k = 4 * g := by
    have hd : (4 : Int) ∣ k := by
      have h1 : (4 : Int) ∣ k * A := ⟨a * b, e1.symm⟩
      have h2 : (4 : Int) ∣ k * B := ⟨4, by omega⟩
      obtain ⟨gg, _⟩ := hp.cases
      have h3 := Int.dvd_gcd h1 h2
      rw [Int.gcd_mul_left] at h3
      have h4 : Int.gcd A B = 1 := gg
      rw [h4, Nat.mul_one] at h3
      exact Int.ofNat_dvd_left.mpr h3
    obtain ⟨g, e⟩ := hd
    exact ⟨g, e⟩
  subst hg
  refine q A B g (by omega) ?_ ?_ hp
  · have : 4 * (a * b) = 4 * (g * A) := by rw [e1, Int.mul_assoc]
    omega
  · have : (4 : Int) * 4 = 4 * (g * B) := by rw [← Int.mul_assoc, ← e2]; rfl
    omega
theorem s_medians {n : Nat} {a b : Int} {cs : Cs} {Q : PyData → Cs → Prop} (ha : 0 < a) (hb : 0 < b) (ba : a ≤ 100) (bb : b ≤ 100) (q : ∀ x y A B k, k ≠ 0 → a + b = k * A → 4 = k * B → Pl A B → Q (.tuple [x, y, t2 A B]) cs) : W (runFn (n + 6) 67 [.dat (sq3 a b (a + b))]) cs Q := by
  rw [rr67]
  have la := lv3 ha (by omega)
  have lb := lv3 hb (by omega)
  have l2 : Lv 3 (2 : Int) := lvn (by decide)
  have l4 : Lv 3 (4 : Int) := lvn (by decide)
  refine W.run' rfl ?_
  walk_at "e"
  refine s_need_sides ha hb ba bb ?_
  walk_at "e"
  rw [rr64]
  refine W.run' rfl ?_
  walk_at "e"
  rw [show rngD 0 (Int.toNat 3) = [.int 0, .int 1, .int 2] from rfl]
  walk_at "e"
  refine s_plus1 (by walk_at "lv") (by walk_at "lv") ?_
  walk_at "e"
  refine s_times1 (by walk_at "lv") (by walk_at "lv") ?_
  walk_at "e"
  refine s_plus1 (by walk_at "lv") (by walk_at "lv") ?_
  walk_at "e"
  refine s_timesB (by decide) (by walk_at "lv") (by walk_at "lv") fun A0 B0 k0 _ _ _ _ => ?_
  walk_at "e"
  refine s_plus1 (by walk_at "lv") (by walk_at "lv") ?_
  walk_at "e"
  refine s_times1 (by walk_at "lv") (by walk_at "lv") ?_
  walk_at "e"
  refine s_plus1 (by walk_at "lv") (by walk_at "lv") ?_
  walk_at "e"
  refine s_timesB (by decide) (by walk_at "lv") (by walk_at "lv") fun A1 B1 k1 _ _ _ _ => ?_
  walk_at "e"
  refine s_plus1 (by walk_at "lv") (by walk_at "lv") ?_
  walk_at "e"
  refine s_times1 (by walk_at "lv") (by walk_at "lv") ?_
  walk_at "e"
  refine s_plus1 (by walk_at "lv") (by walk_at "lv") ?_
  walk_at "e"
  refine s_timesB (by decide) (by walk_at "lv") (by walk_at "lv") fun A B k hk e1 e2 hp => ?_
  walk_at "e"
  exact q _ _ A B k hk (by omega) e2 hp
theorem s_sides {n : Nat} {a b : Int} {cs : Cs} {Q : PyData → Cs → Prop} (ha : 0 < a) (hb : 0 < b) (ba : a ≤ 100) (bb : b ≤ 100) (q : Q (.bool true) cs) : W (runFn (n + 7) 80 [.dat (.int a), .dat (.int b)]) cs Q := by
  rw [rr80]
  have la := lv3 ha (by omega)
  have lb := lv3 hb (by omega)
  have l4 : Lv 3 (4 : Int) := lvn (by decide)
  refine W.run' rfl ?_
  walk_at "e"
  refine s_are_sides ha hb ba bb ?_
  walk_at "e"
  refine Op.of (z := .bool false) rfl ?_
  walk_at "e"
  refine s_area_square ha hb ba bb fun A B k hk e1 e2 hp => ?_
  walk_at "e"
  refine s_lowF (by decide) (by walk_at "lv") (by decide) fun A' B' k' hk' e1' e2' hp' => ?_
  obtain ⟨rfl, rfl⟩ := hp.eq hp' hk hk' (e1.symm.trans e1') (e2.symm.trans e2')
  walk_at "e"
  refine Op.ne2 ?_
  rw [decide_eq_true ⟨rfl, rfl⟩]
  walk_at "e"
  refine s_medians ha hb ba bb fun x y C D m hm g1 g2 hC => ?_
  walk_at "e"
  refine s_lowF (by decide) (by walk_at "lv") (by decide) fun C' D' m' hm' g1' g2' hC' => ?_
  obtain ⟨rfl, rfl⟩ := hC.eq hC' hm hm' (g1.symm.trans g1') (g2.symm.trans g2')
  walk_at "e"
  refine Op.eqT rfl rfl ?_
  exact q

end T
end
section
set_option Elab.async false
set_option linter.all false
set_option maxRecDepth 100000
set_option maxHeartbeats 400000
namespace T
open PySem hiding Flow Arg
open Se Wk Ev Nm
local macro_rules | `(tactic| walk_at "lv") => `(tactic| (repeat' (first | exact Lv.mono (by assumption) (Nat.le_of_ble_eq_true rfl) | exact Lv.mono (Bd.lv (by assumption) (Nat.le_of_ble_eq_true rfl)) (Nat.le_of_ble_eq_true rfl) | apply Lv.mul | apply Lv.add | apply Lv.sub | apply Lv.neg)))
local macro_rules | `(tactic| walk_at "w") => `(tactic| first
  | ((with_reducible apply exI); first | assumption | exact rfl)
  | ((with_reducible apply Op.head); assumption) | ((with_reducible apply Op.of (o := gIx _ _)); exact rfl) | ((with_reducible refine And.intro (And.intro ?_ ?_) ?_); (focus walk_at "lv"); (focus walk_at "lv"))
  | ((with_reducible apply Op.of (o := gLen _)); exact rfl) | ((with_reducible apply Op.of (o := gAll _)); exact rfl) | ((with_reducible apply Op.of (o := gAny _)); exact rfl) | ((with_reducible apply Op.of (o := gSum _)); exact rfl) | ((with_reducible apply Op.of (o := gTuple _)); exact rfl) | ((with_reducible apply Op.of (o := gAbs _)); exact rfl) | ((with_reducible apply Op.of (o := gInt _)); exact rfl) | ((with_reducible apply Op.of (o := gCut _ _ _)); exact rfl)
  | ((with_reducible first | apply W.nz2 | apply W.nz3 | apply W.nz4 | apply W.nz6 | apply W.nz9); exact Nat.le_of_ble_eq_true rfl)
  | (with_reducible first | apply W.stepC | apply W.stepN | apply W.stepMC | apply W.stepMN | apply W.forC | apply W.forN)
  | ((with_reducible refine And.intro ?_ ?_); first | exact Nat.le_of_ble_eq_true rfl | exact rfl) | (with_reducible refine Bo.t ?_) | (with_reducible refine Bo.f ?_) | (with_reducible refine Bo.d (fun _ => ?_) (fun h => absurd (by assumption) h)) | (with_reducible refine Bo.d (fun h => absurd h (by assumption)) (fun _ => ?_)) | (with_reducible refine Bo.nd (fun _ => ?_) (fun h => absurd h (by assumption))) | (with_reducible refine Bo.nd (fun h => absurd (by assumption) h) (fun _ => ?_)) | ((with_reducible apply Op.divE); assumption; assumption; assumption) | (refine Bo.t ?_) | (refine Bo.f ?_))
local macro_rules | `(tactic| walk_at "e") => `(tactic| repeat (first | (with_reducible apply W.setN) | (with_reducible refine St.ok ?_) | (with_reducible refine OS.ok ?_) | walk_at "w"))
local macro_rules | `(tactic| walk_at "i") => `(tactic| ((with_reducible apply W.iteI); (exact rfl); (exact rfl); exact rfl))
local macro_rules | `(tactic| walk_at "t") => `(tactic| repeat (first | (with_reducible apply W.setN) | (with_reducible refine St.ok ?_) | (with_reducible refine OS.ok ?_) | (with_reducible apply W.ite) | walk_at "w"))
local macro_rules | `(tactic| walk_at "p") => `(tactic| repeat (first | (with_reducible apply W.setN) | ((fail_if_success (with_reducible apply stopSt)); (fail_if_success (with_reducible apply stopMt)); (fail_if_success (with_reducible apply stopFo)); first | (with_reducible refine St.ok ?_) | (with_reducible refine OS.ok ?_) | walk_at "w")))
/-! the closed runs -/
theorem su1 {n : Nat} {cs : Cs} : runFn (n + 20) 77 [.dat (.int 1)] cs = some (.bool true, cs) := by kernel_rfl
theorem su2 {n : Nat} {cs : Cs} : runFn (n + 20) 77 [.dat (.int 2)] cs = some (.bool true, cs) := by kernel_rfl
theorem su3 {n : Nat} {cs : Cs} : runFn (n + 20) 77 [.dat (.int 3)] cs = some (.bool true, cs) := by kernel_rfl
theorem su4 {n : Nat} {cs : Cs} : runFn (n + 20) 77 [.dat (.int 4)] cs = some (.bool true, cs) := by kernel_rfl
theorem su5 {n : Nat} {cs : Cs} : runFn (n + 20) 77 [.dat (.int 5)] cs = some (.bool true, cs) := by kernel_rfl
theorem su6 {n : Nat} {cs : Cs} : runFn (n + 20) 77 [.dat (.int 6)] cs = some (.bool true, cs) := by kernel_rfl
theorem su7 {n : Nat} {cs : Cs} : runFn (n + 20) 77 [.dat (.int 7)] cs = some (.bool true, cs) := by kernel_rfl
theorem su8 {n : Nat} {cs : Cs} : runFn (n + 20) 77 [.dat (.int 8)] cs = some (.bool true, cs) := by kernel_rfl
theorem su9 {n : Nat} {cs : Cs} : runFn (n + 20) 77 [.dat (.int 9)] cs = some (.bool true, cs) := by kernel_rfl
theorem su10 {n : Nat} {cs : Cs} : runFn (n + 20) 77 [.dat (.int 10)] cs = some (.bool true, cs) := by kernel_rfl
theorem su11 {n : Nat} {cs : Cs} : runFn (n + 20) 77 [.dat (.int 11)] cs = some (.bool true, cs) := by kernel_rfl
theorem su12 {n : Nat} {cs : Cs} : runFn (n + 20) 77 [.dat (.int 12)] cs = some (.bool true, cs) := by kernel_rfl
theorem su13 {n : Nat} {cs : Cs} : runFn (n + 20) 77 [.dat (.int 13)] cs = some (.bool true, cs) := by kernel_rfl
theorem su14 {n : Nat} {cs : Cs} : runFn (n + 20) 77 [.dat (.int 14)] cs = some (.bool true, cs) := by kernel_rfl
theorem su15 {n : Nat} {cs : Cs} : runFn (n + 20) 77 [.dat (.int 15)] cs = some (.bool true, cs) := by kernel_rfl
theorem su16 {n : Nat} {cs : Cs} : runFn (n + 20) 77 [.dat (.int 16)] cs = some (.bool true, cs) := by kernel_rfl
theorem su17 {n : Nat} {cs : Cs} : runFn (n + 20) 77 [.dat (.int 17)] cs = some (.bool true, cs) := by kernel_rfl
theorem su18 {n : Nat} {cs : Cs} : runFn (n + 20) 77 [.dat (.int 18)] cs = some (.bool true, cs) := by kernel_rfl
theorem su19 {n : Nat} {cs : Cs} : runFn (n + 20) 77 [.dat (.int 19)] cs = some (.bool true, cs) := by kernel_rfl
theorem su20 {n : Nat} {cs : Cs} : runFn (n + 20) 77 [.dat (.int 20)] cs = some (.bool true, cs) := by kernel_rfl
theorem su21 {n : Nat} {cs : Cs} : runFn (n + 20) 77 [.dat (.int 21)] cs = some (.bool true, cs) := by kernel_rfl
theorem su22 {n : Nat} {cs : Cs} : runFn (n + 20) 77 [.dat (.int 22)] cs = some (.bool true, cs) := by kernel_rfl
theorem su23 {n : Nat} {cs : Cs} : runFn (n + 20) 77 [.dat (.int 23)] cs = some (.bool true, cs) := by kernel_rfl
theorem su24 {n : Nat} {cs : Cs} : runFn (n + 20) 77 [.dat (.int 24)] cs = some (.bool true, cs) := by kernel_rfl
theorem su25 {n : Nat} {cs : Cs} : runFn (n + 20) 77 [.dat (.int 25)] cs = some (.bool true, cs) := by kernel_rfl
theorem su26 {n : Nat} {cs : Cs} : runFn (n + 20) 77 [.dat (.int 26)] cs = some (.bool true, cs) := by kernel_rfl
theorem su27 {n : Nat} {cs : Cs} : runFn (n + 20) 77 [.dat (.int 27)] cs = some (.bool true, cs) := by kernel_rfl
theorem su28 {n : Nat} {cs : Cs} : runFn (n + 20) 77 [.dat (.int 28)] cs = some (.bool true, cs) := by kernel_rfl
theorem su29 {n : Nat} {cs : Cs} : runFn (n + 20) 77 [.dat (.int 29)] cs = some (.bool true, cs) := by kernel_rfl
theorem su30 {n : Nat} {cs : Cs} : runFn (n + 20) 77 [.dat (.int 30)] cs = some (.bool true, cs) := by kernel_rfl
theorem su31 {n : Nat} {cs : Cs} : runFn (n + 20) 77 [.dat (.int 31)] cs = some (.bool true, cs) := by kernel_rfl
theorem su32 {n : Nat} {cs : Cs} : runFn (n + 20) 77 [.dat (.int 32)] cs = some (.bool true, cs) := by kernel_rfl
theorem su33 {n : Nat} {cs : Cs} : runFn (n + 20) 77 [.dat (.int 33)] cs = some (.bool true, cs) := by kernel_rfl
theorem su34 {n : Nat} {cs : Cs} : runFn (n + 20) 77 [.dat (.int 34)] cs = some (.bool true, cs) := by kernel_rfl
theorem su35 {n : Nat} {cs : Cs} : runFn (n + 20) 77 [.dat (.int 35)] cs = some (.bool true, cs) := by kernel_rfl
theorem su36 {n : Nat} {cs : Cs} : runFn (n + 20) 77 [.dat (.int 36)] cs = some (.bool true, cs) := by kernel_rfl
theorem su37 {n : Nat} {cs : Cs} : runFn (n + 20) 77 [.dat (.int 37)] cs = some (.bool true, cs) := by kernel_rfl
theorem su38 {n : Nat} {cs : Cs} : runFn (n + 20) 77 [.dat (.int 38)] cs = some (.bool true, cs) := by kernel_rfl
theorem su39 {n : Nat} {cs : Cs} : runFn (n + 20) 77 [.dat (.int 39)] cs = some (.bool true, cs) := by kernel_rfl
theorem su40 {n : Nat} {cs : Cs} : runFn (n + 20) 77 [.dat (.int 40)] cs = some (.bool true, cs) := by kernel_rfl
theorem su41 {n : Nat} {cs : Cs} : runFn (n + 20) 77 [.dat (.int 41)] cs = some (.bool true, cs) := by kernel_rfl
theorem su42 {n : Nat} {cs : Cs} : runFn (n + 20) 77 [.dat (.int 42)] cs = some (.bool true, cs) := by kernel_rfl
theorem su43 {n : Nat} {cs : Cs} : runFn (n + 20) 77 [.dat (.int 43)] cs = some (.bool true, cs) := by kernel_rfl
theorem su44 {n : Nat} {cs : Cs} : runFn (n + 20) 77 [.dat (.int 44)] cs = some (.bool true, cs) := by kernel_rfl
theorem su45 {n : Nat} {cs : Cs} : runFn (n + 20) 77 [.dat (.int 45)] cs = some (.bool true, cs) := by kernel_rfl
theorem su46 {n : Nat} {cs : Cs} : runFn (n + 20) 77 [.dat (.int 46)] cs = some (.bool true, cs) := by kernel_rfl
theorem su47 {n : Nat} {cs : Cs} : runFn (n + 20) 77 [.dat (.int 47)] cs = some (.bool true, cs) := by kernel_rfl
theorem su48 {n : Nat} {cs : Cs} : runFn (n + 20) 77 [.dat (.int 48)] cs = some (.bool true, cs) := by kernel_rfl
theorem su49 {n : Nat} {cs : Cs} : runFn (n + 20) 77 [.dat (.int 49)] cs = some (.bool true, cs) := by kernel_rfl
theorem su50 {n : Nat} {cs : Cs} : runFn (n + 20) 77 [.dat (.int 50)] cs = some (.bool true, cs) := by kernel_rfl
theorem su51 {n : Nat} {cs : Cs} : runFn (n + 20) 77 [.dat (.int 51)] cs = some (.bool true, cs) := by kernel_rfl
theorem su52 {n : Nat} {cs : Cs} : runFn (n + 20) 77 [.dat (.int 52)] cs = some (.bool true, cs) := by kernel_rfl
theorem su53 {n : Nat} {cs : Cs} : runFn (n + 20) 77 [.dat (.int 53)] cs = some (.bool true, cs) := by kernel_rfl
theorem su54 {n : Nat} {cs : Cs} : runFn (n + 20) 77 [.dat (.int 54)] cs = some (.bool true, cs) := by kernel_rfl
theorem su55 {n : Nat} {cs : Cs} : runFn (n + 20) 77 [.dat (.int 55)] cs = some (.bool true, cs) := by kernel_rfl
theorem su56 {n : Nat} {cs : Cs} : runFn (n + 20) 77 [.dat (.int 56)] cs = some (.bool true, cs) := by kernel_rfl
theorem su57 {n : Nat} {cs : Cs} : runFn (n + 20) 77 [.dat (.int 57)] cs = some (.bool true, cs) := by kernel_rfl
theorem su58 {n : Nat} {cs : Cs} : runFn (n + 20) 77 [.dat (.int 58)] cs = some (.bool true, cs) := by kernel_rfl
theorem su59 {n : Nat} {cs : Cs} : runFn (n + 20) 77 [.dat (.int 59)] cs = some (.bool true, cs) := by kernel_rfl
theorem su60 {n : Nat} {cs : Cs} : runFn (n + 20) 77 [.dat (.int 60)] cs = some (.bool true, cs) := by kernel_rfl
theorem su61 {n : Nat} {cs : Cs} : runFn (n + 20) 77 [.dat (.int 61)] cs = some (.bool true, cs) := by kernel_rfl
theorem su62 {n : Nat} {cs : Cs} : runFn (n + 20) 77 [.dat (.int 62)] cs = some (.bool true, cs) := by kernel_rfl
theorem su63 {n : Nat} {cs : Cs} : runFn (n + 20) 77 [.dat (.int 63)] cs = some (.bool true, cs) := by kernel_rfl
theorem su64 {n : Nat} {cs : Cs} : runFn (n + 20) 77 [.dat (.int 64)] cs = some (.bool true, cs) := by kernel_rfl
theorem su65 {n : Nat} {cs : Cs} : runFn (n + 20) 77 [.dat (.int 65)] cs = some (.bool true, cs) := by kernel_rfl
theorem su66 {n : Nat} {cs : Cs} : runFn (n + 20) 77 [.dat (.int 66)] cs = some (.bool true, cs) := by kernel_rfl
theorem su67 {n : Nat} {cs : Cs} : runFn (n + 20) 77 [.dat (.int 67)] cs = some (.bool true, cs) := by kernel_rfl
theorem su68 {n : Nat} {cs : Cs} : runFn (n + 20) 77 [.dat (.int 68)] cs = some (.bool true, cs) := by kernel_rfl
theorem su69 {n : Nat} {cs : Cs} : runFn (n + 20) 77 [.dat (.int 69)] cs = some (.bool true, cs) := by kernel_rfl
theorem su70 {n : Nat} {cs : Cs} : runFn (n + 20) 77 [.dat (.int 70)] cs = some (.bool true, cs) := by kernel_rfl
theorem su71 {n : Nat} {cs : Cs} : runFn (n + 20) 77 [.dat (.int 71)] cs = some (.bool true, cs) := by kernel_rfl
theorem su72 {n : Nat} {cs : Cs} : runFn (n + 20) 77 [.dat (.int 72)] cs = some (.bool true, cs) := by kernel_rfl
theorem su73 {n : Nat} {cs : Cs} : runFn (n + 20) 77 [.dat (.int 73)] cs = some (.bool true, cs) := by kernel_rfl
theorem su74 {n : Nat} {cs : Cs} : runFn (n + 20) 77 [.dat (.int 74)] cs = some (.bool true, cs) := by kernel_rfl
theorem su75 {n : Nat} {cs : Cs} : runFn (n + 20) 77 [.dat (.int 75)] cs = some (.bool true, cs) := by kernel_rfl
theorem su76 {n : Nat} {cs : Cs} : runFn (n + 20) 77 [.dat (.int 76)] cs = some (.bool true, cs) := by kernel_rfl
theorem su77 {n : Nat} {cs : Cs} : runFn (n + 20) 77 [.dat (.int 77)] cs = some (.bool true, cs) := by kernel_rfl
theorem su78 {n : Nat} {cs : Cs} : runFn (n + 20) 77 [.dat (.int 78)] cs = some (.bool true, cs) := by kernel_rfl
theorem su79 {n : Nat} {cs : Cs} : runFn (n + 20) 77 [.dat (.int 79)] cs = some (.bool true, cs) := by kernel_rfl
theorem su80 {n : Nat} {cs : Cs} : runFn (n + 20) 77 [.dat (.int 80)] cs = some (.bool true, cs) := by kernel_rfl
theorem su81 {n : Nat} {cs : Cs} : runFn (n + 20) 77 [.dat (.int 81)] cs = some (.bool true, cs) := by kernel_rfl
theorem su82 {n : Nat} {cs : Cs} : runFn (n + 20) 77 [.dat (.int 82)] cs = some (.bool true, cs) := by kernel_rfl
theorem su83 {n : Nat} {cs : Cs} : runFn (n + 20) 77 [.dat (.int 83)] cs = some (.bool true, cs) := by kernel_rfl
theorem su84 {n : Nat} {cs : Cs} : runFn (n + 20) 77 [.dat (.int 84)] cs = some (.bool true, cs) := by kernel_rfl
theorem su85 {n : Nat} {cs : Cs} : runFn (n + 20) 77 [.dat (.int 85)] cs = some (.bool true, cs) := by kernel_rfl
theorem su86 {n : Nat} {cs : Cs} : runFn (n + 20) 77 [.dat (.int 86)] cs = some (.bool true, cs) := by kernel_rfl
theorem su87 {n : Nat} {cs : Cs} : runFn (n + 20) 77 [.dat (.int 87)] cs = some (.bool true, cs) := by kernel_rfl
theorem su88 {n : Nat} {cs : Cs} : runFn (n + 20) 77 [.dat (.int 88)] cs = some (.bool true, cs) := by kernel_rfl
theorem su89 {n : Nat} {cs : Cs} : runFn (n + 20) 77 [.dat (.int 89)] cs = some (.bool true, cs) := by kernel_rfl
theorem su90 {n : Nat} {cs : Cs} : runFn (n + 20) 77 [.dat (.int 90)] cs = some (.bool true, cs) := by kernel_rfl
theorem su91 {n : Nat} {cs : Cs} : runFn (n + 20) 77 [.dat (.int 91)] cs = some (.bool true, cs) := by kernel_rfl
theorem su92 {n : Nat} {cs : Cs} : runFn (n + 20) 77 [.dat (.int 92)] cs = some (.bool true, cs) := by kernel_rfl
theorem su93 {n : Nat} {cs : Cs} : runFn (n + 20) 77 [.dat (.int 93)] cs = some (.bool true, cs) := by kernel_rfl
theorem su94 {n : Nat} {cs : Cs} : runFn (n + 20) 77 [.dat (.int 94)] cs = some (.bool true, cs) := by kernel_rfl
theorem su95 {n : Nat} {cs : Cs} : runFn (n + 20) 77 [.dat (.int 95)] cs = some (.bool true, cs) := by kernel_rfl
theorem su96 {n : Nat} {cs : Cs} : runFn (n + 20) 77 [.dat (.int 96)] cs = some (.bool true, cs) := by kernel_rfl
theorem su97 {n : Nat} {cs : Cs} : runFn (n + 20) 77 [.dat (.int 97)] cs = some (.bool true, cs) := by kernel_rfl
theorem su98 {n : Nat} {cs : Cs} : runFn (n + 20) 77 [.dat (.int 98)] cs = some (.bool true, cs) := by kernel_rfl
theorem su99 {n : Nat} {cs : Cs} : runFn (n + 20) 77 [.dat (.int 99)] cs = some (.bool true, cs) := by kernel_rfl
theorem su100 {n : Nat} {cs : Cs} : runFn (n + 20) 77 [.dat (.int 100)] cs = some (.bool true, cs) := by kernel_rfl
theorem su {n : Nat} {cs : Cs} (v : Int) (h1 : 1 ≤ v) (h2 : v ≤ 100) : runFn (n + 20) 77 [.dat (.int v)] cs = some (.bool true, cs) := by
  by_cases h1 : v ≤ 50
  · have hi1 : v ≤ 50 := h1
    by_cases h2 : v ≤ 25
    · have hi2 : v ≤ 25 := h2
      by_cases h3 : v ≤ 13
      · have hi3 : v ≤ 13 := h3
        by_cases h4 : v ≤ 7
        · have hi4 : v ≤ 7 := h4
          by_cases h5 : v ≤ 4
          · have hi5 : v ≤ 4 := h5
            by_cases h6 : v ≤ 2
            · have hi6 : v ≤ 2 := h6
              by_cases h7 : v ≤ 1
              · have hi7 : v ≤ 1 := h7
                obtain rfl : v = 1 := by omega
                exact su1
              · have lo7 : 2 ≤ v := by omega
                obtain rfl : v = 2 := by omega
                exact su2
            · have lo6 : 3 ≤ v := by omega
              by_cases h7 : v ≤ 3
              · have hi7 : v ≤ 3 := h7
                obtain rfl : v = 3 := by omega
                exact su3
              · have lo7 : 4 ≤ v := by omega
                obtain rfl : v = 4 := by omega
                exact su4
          · have lo5 : 5 ≤ v := by omega
            by_cases h6 : v ≤ 6
            · have hi6 : v ≤ 6 := h6
              by_cases h7 : v ≤ 5
              · have hi7 : v ≤ 5 := h7
                obtain rfl : v = 5 := by omega
                exact su5
              · have lo7 : 6 ≤ v := by omega
                obtain rfl : v = 6 := by omega
                exact su6
            · have lo6 : 7 ≤ v := by omega
              obtain rfl : v = 7 := by omega
              exact su7
        · have lo4 : 8 ≤ v := by omega
          by_cases h5 : v ≤ 10
          · have hi5 : v ≤ 10 := h5
            by_cases h6 : v ≤ 9
            · have hi6 : v ≤ 9 := h6
              by_cases h7 : v ≤ 8
              · have hi7 : v ≤ 8 := h7
                obtain rfl : v = 8 := by omega
                exact su8
              · have lo7 : 9 ≤ v := by omega
                obtain rfl : v = 9 := by omega
                exact su9
            · have lo6 : 10 ≤ v := by omega
              obtain rfl : v = 10 := by omega
              exact su10
          · have lo5 : 11 ≤ v := by omega
            by_cases h6 : v ≤ 12
            · have hi6 : v ≤ 12 := h6
              by_cases h7 : v ≤ 11
              · have hi7 : v ≤ 11 := h7
                obtain rfl : v = 11 := by omega
                exact su11
              · have lo7 : 12 ≤ v := by omega
                obtain rfl : v = 12 := by omega
                exact su12
            · have lo6 : 13 ≤ v := by omega
              obtain rfl : v = 13 := by omega
              exact su13
      · have lo3 : 14 ≤ v := by omega
        by_cases h4 : v ≤ 19
        · have hi4 : v ≤ 19 := h4
          by_cases h5 : v ≤ 16
          · have hi5 : v ≤ 16 := h5
            by_cases h6 : v ≤ 15
            · have hi6 : v ≤ 15 := h6
              by_cases h7 : v ≤ 14
              · have hi7 : v ≤ 14 := h7
                obtain rfl : v = 14 := by omega
                exact su14
              · have lo7 : 15 ≤ v := by omega
                obtain rfl : v = 15 := by omega
                exact su15
            · have lo6 : 16 ≤ v := by omega
              obtain rfl : v = 16 := by omega
              exact su16
          · have lo5 : 17 ≤ v := by omega
            by_cases h6 : v ≤ 18
            · have hi6 : v ≤ 18 := h6
              by_cases h7 : v ≤ 17
              · have hi7 : v ≤ 17 := h7
                obtain rfl : v = 17 := by omega
                exact su17
              · have lo7 : 18 ≤ v := by omega
                obtain rfl : v = 18 := by omega
                exact su18
            · have lo6 : 19 ≤ v := by omega
              obtain rfl : v = 19 := by omega
              exact su19
        · have lo4 : 20 ≤ v := by omega
          by_cases h5 : v ≤ 22
          · have hi5 : v ≤ 22 := h5
            by_cases h6 : v ≤ 21
            · have hi6 : v ≤ 21 := h6
              by_cases h7 : v ≤ 20
              · have hi7 : v ≤ 20 := h7
                obtain rfl : v = 20 := by omega
                exact su20
              · have lo7 : 21 ≤ v := by omega
                obtain rfl : v = 21 := by omega
                exact su21
            · have lo6 : 22 ≤ v := by omega
              obtain rfl : v = 22 := by omega
              exact su22
          · have lo5 : 23 ≤ v := by omega
            by_cases h6 : v ≤ 24
            · have hi6 : v ≤ 24 := h6
              by_cases h7 : v ≤ 23
              · have hi7 : v ≤ 23 := h7
                obtain rfl : v = 23 := by omega
                exact su23
              · have lo7 : 24 ≤ v := by omega
                obtain rfl : v = 24 := by omega
                exact su24
            · have lo6 : 25 ≤ v := by omega
              obtain rfl : v = 25 := by omega
              exact su25
    · have lo2 : 26 ≤ v := by omega
      by_cases h3 : v ≤ 38
      · have hi3 : v ≤ 38 := h3
        by_cases h4 : v ≤ 32
        · have hi4 : v ≤ 32 := h4
          by_cases h5 : v ≤ 29
          · have hi5 : v ≤ 29 := h5
            by_cases h6 : v ≤ 27
            · have hi6 : v ≤ 27 := h6
              by_cases h7 : v ≤ 26
              · have hi7 : v ≤ 26 := h7
                obtain rfl : v = 26 := by omega
                exact su26
              · have lo7 : 27 ≤ v := by omega
                obtain rfl : v = 27 := by omega
                exact su27
            · have lo6 : 28 ≤ v := by omega
              by_cases h7 : v ≤ 28
              · have hi7 : v ≤ 28 := h7
                obtain rfl : v = 28 := by omega
                exact su28
              · have lo7 : 29 ≤ v := by omega
                obtain rfl : v = 29 := by omega
                exact su29
          · have lo5 : 30 ≤ v := by omega
            by_cases h6 : v ≤ 31
            · have hi6 : v ≤ 31 := h6
              by_cases h7 : v ≤ 30
              · have hi7 : v ≤ 30 := h7
                obtain rfl : v = 30 := by omega
                exact su30
              · have lo7 : 31 ≤ v := by omega
                obtain rfl : v = 31 := by omega
                exact su31
            · have lo6 : 32 ≤ v := by omega
              obtain rfl : v = 32 := by omega
              exact su32
        · have lo4 : 33 ≤ v := by omega
          by_cases h5 : v ≤ 35
          · have hi5 : v ≤ 35 := h5
            by_cases h6 : v ≤ 34
            · have hi6 : v ≤ 34 := h6
              by_cases h7 : v ≤ 33
              · have hi7 : v ≤ 33 := h7
                obtain rfl : v = 33 := by omega
                exact su33
              · have lo7 : 34 ≤ v := by omega
                obtain rfl : v = 34 := by omega
                exact su34
            · have lo6 : 35 ≤ v := by omega
              obtain rfl : v = 35 := by omega
              exact su35
          · have lo5 : 36 ≤ v := by omega
            by_cases h6 : v ≤ 37
            · have hi6 : v ≤ 37 := h6
              by_cases h7 : v ≤ 36
              · have hi7 : v ≤ 36 := h7
                obtain rfl : v = 36 := by omega
                exact su36
              · have lo7 : 37 ≤ v := by omega
                obtain rfl : v = 37 := by omega
                exact su37
            · have lo6 : 38 ≤ v := by omega
              obtain rfl : v = 38 := by omega
              exact su38
      · have lo3 : 39 ≤ v := by omega
        by_cases h4 : v ≤ 44
        · have hi4 : v ≤ 44 := h4
          by_cases h5 : v ≤ 41
          · have hi5 : v ≤ 41 := h5
            by_cases h6 : v ≤ 40
            · have hi6 : v ≤ 40 := h6
              by_cases h7 : v ≤ 39
              · have hi7 : v ≤ 39 := h7
                obtain rfl : v = 39 := by omega
                exact su39
              · have lo7 : 40 ≤ v := by omega
                obtain rfl : v = 40 := by omega
                exact su40
            · have lo6 : 41 ≤ v := by omega
              obtain rfl : v = 41 := by omega
              exact su41
          · have lo5 : 42 ≤ v := by omega
            by_cases h6 : v ≤ 43
            · have hi6 : v ≤ 43 := h6
              by_cases h7 : v ≤ 42
              · have hi7 : v ≤ 42 := h7
                obtain rfl : v = 42 := by omega
                exact su42
              · have lo7 : 43 ≤ v := by omega
                obtain rfl : v = 43 := by omega
                exact su43
            · have lo6 : 44 ≤ v := by omega
              obtain rfl : v = 44 := by omega
              exact su44
        · have lo4 : 45 ≤ v := by omega
          by_cases h5 : v ≤ 47
          · have hi5 : v ≤ 47 := h5
            by_cases h6 : v ≤ 46
            · have hi6 : v ≤ 46 := h6
              by_cases h7 : v ≤ 45
              · have hi7 : v ≤ 45 := h7
                obtain rfl : v = 45 := by omega
                exact su45
              · have lo7 : 46 ≤ v := by omega
                obtain rfl : v = 46 := by omega
                exact su46
            · have lo6 : 47 ≤ v := by omega
              obtain rfl : v = 47 := by omega
              exact su47
          · have lo5 : 48 ≤ v := by omega
            by_cases h6 : v ≤ 49
            · have hi6 : v ≤ 49 := h6
              by_cases h7 : v ≤ 48
              · have hi7 : v ≤ 48 := h7
                obtain rfl : v = 48 := by omega
                exact su48
              · have lo7 : 49 ≤ v := by omega
                obtain rfl : v = 49 := by omega
                exact su49
            · have lo6 : 50 ≤ v := by omega
              obtain rfl : v = 50 := by omega
              exact su50
  · have lo1 : 51 ≤ v := by omega
    by_cases h2 : v ≤ 75
    · have hi2 : v ≤ 75 := h2
      by_cases h3 : v ≤ 63
      · have hi3 : v ≤ 63 := h3
        by_cases h4 : v ≤ 57
        · have hi4 : v ≤ 57 := h4
          by_cases h5 : v ≤ 54
          · have hi5 : v ≤ 54 := h5
            by_cases h6 : v ≤ 52
            · have hi6 : v ≤ 52 := h6
              by_cases h7 : v ≤ 51
              · have hi7 : v ≤ 51 := h7
                obtain rfl : v = 51 := by omega
                exact su51
              · have lo7 : 52 ≤ v := by omega
                obtain rfl : v = 52 := by omega
                exact su52
            · have lo6 : 53 ≤ v := by omega
              by_cases h7 : v ≤ 53
              · have hi7 : v ≤ 53 := h7
                obtain rfl : v = 53 := by omega
                exact su53
              · have lo7 : 54 ≤ v := by omega
                obtain rfl : v = 54 := by omega
                exact su54
          · have lo5 : 55 ≤ v := by omega
            by_cases h6 : v ≤ 56
            · have hi6 : v ≤ 56 := h6
              by_cases h7 : v ≤ 55
              · have hi7 : v ≤ 55 := h7
                obtain rfl : v = 55 := by omega
                exact su55
              · have lo7 : 56 ≤ v := by omega
                obtain rfl : v = 56 := by omega
                exact su56
            · have lo6 : 57 ≤ v := by omega
              obtain rfl : v = 57 := by omega
              exact su57
        · have lo4 : 58 ≤ v := by omega
          by_cases h5 : v ≤ 60
          · have hi5 : v ≤ 60 := h5
            by_cases h6 : v ≤ 59
            · have hi6 : v ≤ 59 := h6
              by_cases h7 : v ≤ 58
              · have hi7 : v ≤ 58 := h7
                obtain rfl : v = 58 := by omega
                exact su58
              · have lo7 : 59 ≤ v := by omega
                obtain rfl : v = 59 := by omega
                exact su59
            · have lo6 : 60 ≤ v := by omega
              obtain rfl : v = 60 := by omega
              exact su60
          · have lo5 : 61 ≤ v := by omega
            by_cases h6 : v ≤ 62
            · have hi6 : v ≤ 62 := h6
              by_cases h7 : v ≤ 61
              · have hi7 : v ≤ 61 := h7
                obtain rfl : v = 61 := by omega
                exact su61
              · have lo7 : 62 ≤ v := by omega
                obtain rfl : v = 62 := by omega
                exact su62
            · have lo6 : 63 ≤ v := by omega
              obtain rfl : v = 63 := by omega
              exact su63
      · have lo3 : 64 ≤ v := by omega
        by_cases h4 : v ≤ 69
        · have hi4 : v ≤ 69 := h4
          by_cases h5 : v ≤ 66
          · have hi5 : v ≤ 66 := h5
            by_cases h6 : v ≤ 65
            · have hi6 : v ≤ 65 := h6
              by_cases h7 : v ≤ 64
              · have hi7 : v ≤ 64 := h7
                obtain rfl : v = 64 := by omega
                exact su64
              · have lo7 : 65 ≤ v := by omega
                obtain rfl : v = 65 := by omega
                exact su65
            · have lo6 : 66 ≤ v := by omega
              obtain rfl : v = 66 := by omega
              exact su66
          · have lo5 : 67 ≤ v := by omega
            by_cases h6 : v ≤ 68
            · have hi6 : v ≤ 68 := h6
              by_cases h7 : v ≤ 67
              · have hi7 : v ≤ 67 := h7
                obtain rfl : v = 67 := by omega
                exact su67
              · have lo7 : 68 ≤ v := by omega
                obtain rfl : v = 68 := by omega
                exact su68
            · have lo6 : 69 ≤ v := by omega
              obtain rfl : v = 69 := by omega
              exact su69
        · have lo4 : 70 ≤ v := by omega
          by_cases h5 : v ≤ 72
          · have hi5 : v ≤ 72 := h5
            by_cases h6 : v ≤ 71
            · have hi6 : v ≤ 71 := h6
              by_cases h7 : v ≤ 70
              · have hi7 : v ≤ 70 := h7
                obtain rfl : v = 70 := by omega
                exact su70
              · have lo7 : 71 ≤ v := by omega
                obtain rfl : v = 71 := by omega
                exact su71
            · have lo6 : 72 ≤ v := by omega
              obtain rfl : v = 72 := by omega
              exact su72
          · have lo5 : 73 ≤ v := by omega
            by_cases h6 : v ≤ 74
            · have hi6 : v ≤ 74 := h6
              by_cases h7 : v ≤ 73
              · have hi7 : v ≤ 73 := h7
                obtain rfl : v = 73 := by omega
                exact su73
              · have lo7 : 74 ≤ v := by omega
                obtain rfl : v = 74 := by omega
                exact su74
            · have lo6 : 75 ≤ v := by omega
              obtain rfl : v = 75 := by omega
              exact su75
    · have lo2 : 76 ≤ v := by omega
      by_cases h3 : v ≤ 88
      · have hi3 : v ≤ 88 := h3
        by_cases h4 : v ≤ 82
        · have hi4 : v ≤ 82 := h4
          by_cases h5 : v ≤ 79
          · have hi5 : v ≤ 79 := h5
            by_cases h6 : v ≤ 77
            · have hi6 : v ≤ 77 := h6
              by_cases h7 : v ≤ 76
              · have hi7 : v ≤ 76 := h7
                obtain rfl : v = 76 := by omega
                exact su76
              · have lo7 : 77 ≤ v := by omega
                obtain rfl : v = 77 := by omega
                exact su77
            · have lo6 : 78 ≤ v := by omega
              by_cases h7 : v ≤ 78
              · have hi7 : v ≤ 78 := h7
                obtain rfl : v = 78 := by omega
                exact su78
              · have lo7 : 79 ≤ v := by omega
                obtain rfl : v = 79 := by omega
                exact su79
          · have lo5 : 80 ≤ v := by omega
            by_cases h6 : v ≤ 81
            · have hi6 : v ≤ 81 := h6
              by_cases h7 : v ≤ 80
              · have hi7 : v ≤ 80 := h7
                obtain rfl : v = 80 := by omega
                exact su80
              · have lo7 : 81 ≤ v := by omega
                obtain rfl : v = 81 := by omega
                exact su81
            · have lo6 : 82 ≤ v := by omega
              obtain rfl : v = 82 := by omega
              exact su82
        · have lo4 : 83 ≤ v := by omega
          by_cases h5 : v ≤ 85
          · have hi5 : v ≤ 85 := h5
            by_cases h6 : v ≤ 84
            · have hi6 : v ≤ 84 := h6
              by_cases h7 : v ≤ 83
              · have hi7 : v ≤ 83 := h7
                obtain rfl : v = 83 := by omega
                exact su83
              · have lo7 : 84 ≤ v := by omega
                obtain rfl : v = 84 := by omega
                exact su84
            · have lo6 : 85 ≤ v := by omega
              obtain rfl : v = 85 := by omega
              exact su85
          · have lo5 : 86 ≤ v := by omega
            by_cases h6 : v ≤ 87
            · have hi6 : v ≤ 87 := h6
              by_cases h7 : v ≤ 86
              · have hi7 : v ≤ 86 := h7
                obtain rfl : v = 86 := by omega
                exact su86
              · have lo7 : 87 ≤ v := by omega
                obtain rfl : v = 87 := by omega
                exact su87
            · have lo6 : 88 ≤ v := by omega
              obtain rfl : v = 88 := by omega
              exact su88
      · have lo3 : 89 ≤ v := by omega
        by_cases h4 : v ≤ 94
        · have hi4 : v ≤ 94 := h4
          by_cases h5 : v ≤ 91
          · have hi5 : v ≤ 91 := h5
            by_cases h6 : v ≤ 90
            · have hi6 : v ≤ 90 := h6
              by_cases h7 : v ≤ 89
              · have hi7 : v ≤ 89 := h7
                obtain rfl : v = 89 := by omega
                exact su89
              · have lo7 : 90 ≤ v := by omega
                obtain rfl : v = 90 := by omega
                exact su90
            · have lo6 : 91 ≤ v := by omega
              obtain rfl : v = 91 := by omega
              exact su91
          · have lo5 : 92 ≤ v := by omega
            by_cases h6 : v ≤ 93
            · have hi6 : v ≤ 93 := h6
              by_cases h7 : v ≤ 92
              · have hi7 : v ≤ 92 := h7
                obtain rfl : v = 92 := by omega
                exact su92
              · have lo7 : 93 ≤ v := by omega
                obtain rfl : v = 93 := by omega
                exact su93
            · have lo6 : 94 ≤ v := by omega
              obtain rfl : v = 94 := by omega
              exact su94
        · have lo4 : 95 ≤ v := by omega
          by_cases h5 : v ≤ 97
          · have hi5 : v ≤ 97 := h5
            by_cases h6 : v ≤ 96
            · have hi6 : v ≤ 96 := h6
              by_cases h7 : v ≤ 95
              · have hi7 : v ≤ 95 := h7
                obtain rfl : v = 95 := by omega
                exact su95
              · have lo7 : 96 ≤ v := by omega
                obtain rfl : v = 96 := by omega
                exact su96
            · have lo6 : 97 ≤ v := by omega
              obtain rfl : v = 97 := by omega
              exact su97
          · have lo5 : 98 ≤ v := by omega
            by_cases h6 : v ≤ 99
            · have hi6 : v ≤ 99 := h6
              by_cases h7 : v ≤ 98
              · have hi7 : v ≤ 98 := h7
                obtain rfl : v = 98 := by omega
                exact su98
              · have lo7 : 99 ≤ v := by omega
                obtain rfl : v = 99 := by omega
                exact su99
            · have lo6 : 100 ≤ v := by omega
              obtain rfl : v = 100 := by omega
              exact su100

end T
end
section
set_option Elab.async false
set_option linter.all false
set_option maxRecDepth 100000
set_option maxHeartbeats 400000
namespace T
open PySem hiding Flow Arg
open Se Wk Ev Nm
local macro_rules | `(tactic| walk_at "lv") => `(tactic| (repeat' (first | exact Lv.mono (by assumption) (Nat.le_of_ble_eq_true rfl) | exact Lv.mono (Bd.lv (by assumption) (Nat.le_of_ble_eq_true rfl)) (Nat.le_of_ble_eq_true rfl) | apply Lv.mul | apply Lv.add | apply Lv.sub | apply Lv.neg)))
local macro_rules | `(tactic| walk_at "w") => `(tactic| first
  | ((with_reducible apply exI); first | assumption | exact rfl)
  | ((with_reducible apply Op.head); assumption) | ((with_reducible apply Op.of (o := gIx _ _)); exact rfl) | ((with_reducible refine And.intro (And.intro ?_ ?_) ?_); (focus walk_at "lv"); (focus walk_at "lv"))
  | ((with_reducible apply Op.of (o := gLen _)); exact rfl) | ((with_reducible apply Op.of (o := gAll _)); exact rfl) | ((with_reducible apply Op.of (o := gAny _)); exact rfl) | ((with_reducible apply Op.of (o := gSum _)); exact rfl) | ((with_reducible apply Op.of (o := gTuple _)); exact rfl) | ((with_reducible apply Op.of (o := gAbs _)); exact rfl) | ((with_reducible apply Op.of (o := gInt _)); exact rfl) | ((with_reducible apply Op.of (o := gCut _ _ _)); exact rfl)
  | ((with_reducible first | apply W.nz2 | apply W.nz3 | apply W.nz4 | apply W.nz6 | apply W.nz9); exact Nat.le_of_ble_eq_true rfl)
  | (with_reducible first | apply W.stepC | apply W.stepN | apply W.stepMC | apply W.stepMN | apply W.forC | apply W.forN)
  | ((with_reducible refine And.intro ?_ ?_); first | exact Nat.le_of_ble_eq_true rfl | exact rfl) | (with_reducible refine Bo.t ?_) | (with_reducible refine Bo.f ?_) | (with_reducible refine Bo.d (fun _ => ?_) (fun h => absurd (by assumption) h)) | (with_reducible refine Bo.d (fun h => absurd h (by assumption)) (fun _ => ?_)) | (with_reducible refine Bo.nd (fun _ => ?_) (fun h => absurd h (by assumption))) | (with_reducible refine Bo.nd (fun h => absurd (by assumption) h) (fun _ => ?_)) | ((with_reducible apply Op.divE); assumption; assumption; assumption) | (refine Bo.t ?_) | (refine Bo.f ?_))
local macro_rules | `(tactic| walk_at "e") => `(tactic| repeat (first | (with_reducible apply W.setN) | (with_reducible refine St.ok ?_) | (with_reducible refine OS.ok ?_) | walk_at "w"))
local macro_rules | `(tactic| walk_at "i") => `(tactic| ((with_reducible apply W.iteI); (exact rfl); (exact rfl); exact rfl))
local macro_rules | `(tactic| walk_at "t") => `(tactic| repeat (first | (with_reducible apply W.setN) | (with_reducible refine St.ok ?_) | (with_reducible refine OS.ok ?_) | (with_reducible apply W.ite) | walk_at "w"))
local macro_rules | `(tactic| walk_at "p") => `(tactic| repeat (first | (with_reducible apply W.setN) | ((fail_if_success (with_reducible apply stopSt)); (fail_if_success (with_reducible apply stopMt)); (fail_if_success (with_reducible apply stopFo)); first | (with_reducible refine St.ok ?_) | (with_reducible refine OS.ok ?_) | walk_at "w")))
theorem po1 {n : Nat} {cs : Cs} : runFn (n + 20) 79 [.dat (.int 1)] cs = some (.bool true, cs) := by kernel_rfl
theorem po2 {n : Nat} {cs : Cs} : runFn (n + 20) 79 [.dat (.int 2)] cs = some (.bool true, cs) := by kernel_rfl
theorem po3 {n : Nat} {cs : Cs} : runFn (n + 20) 79 [.dat (.int 3)] cs = some (.bool true, cs) := by kernel_rfl
theorem po4 {n : Nat} {cs : Cs} : runFn (n + 20) 79 [.dat (.int 4)] cs = some (.bool true, cs) := by kernel_rfl
theorem po5 {n : Nat} {cs : Cs} : runFn (n + 20) 79 [.dat (.int 5)] cs = some (.bool true, cs) := by kernel_rfl

end T
end
section
set_option Elab.async false
set_option linter.all false
set_option maxRecDepth 100000
set_option maxHeartbeats 400000
namespace T
open PySem hiding Flow Arg
open Se Wk Ev Nm
local macro_rules | `(tactic| walk_at "lv") => `(tactic| (repeat' (first | exact Lv.mono (by assumption) (Nat.le_of_ble_eq_true rfl) | exact Lv.mono (Bd.lv (by assumption) (Nat.le_of_ble_eq_true rfl)) (Nat.le_of_ble_eq_true rfl) | apply Lv.mul | apply Lv.add | apply Lv.sub | apply Lv.neg)))
local macro_rules | `(tactic| walk_at "w") => `(tactic| first
  | ((with_reducible apply exI); first | assumption | exact rfl)
  | ((with_reducible apply Op.head); assumption) | ((with_reducible apply Op.of (o := gIx _ _)); exact rfl) | ((with_reducible refine And.intro (And.intro ?_ ?_) ?_); (focus walk_at "lv"); (focus walk_at "lv"))
  | ((with_reducible apply Op.of (o := gLen _)); exact rfl) | ((with_reducible apply Op.of (o := gAll _)); exact rfl) | ((with_reducible apply Op.of (o := gAny _)); exact rfl) | ((with_reducible apply Op.of (o := gSum _)); exact rfl) | ((with_reducible apply Op.of (o := gTuple _)); exact rfl) | ((with_reducible apply Op.of (o := gAbs _)); exact rfl) | ((with_reducible apply Op.of (o := gInt _)); exact rfl) | ((with_reducible apply Op.of (o := gCut _ _ _)); exact rfl)
  | ((with_reducible first | apply W.nz2 | apply W.nz3 | apply W.nz4 | apply W.nz6 | apply W.nz9); exact Nat.le_of_ble_eq_true rfl)
  | (with_reducible first | apply W.stepTr | apply W.stepC | apply W.stepN | apply W.stepMC | apply W.stepMN | apply W.forC | apply W.forN)
  | ((with_reducible refine And.intro ?_ ?_); first | exact Nat.le_of_ble_eq_true rfl | exact rfl) | (with_reducible refine Bo.t ?_) | (with_reducible refine Bo.f ?_) | (with_reducible refine Bo.d (fun _ => ?_) (fun h => absurd (by assumption) h)) | (with_reducible refine Bo.d (fun h => absurd h (by assumption)) (fun _ => ?_)) | (with_reducible refine Bo.nd (fun _ => ?_) (fun h => absurd h (by assumption))) | (with_reducible refine Bo.nd (fun h => absurd (by assumption) h) (fun _ => ?_)) | ((with_reducible apply Op.divE); assumption; assumption; assumption) | (refine Bo.t ?_) | (refine Bo.f ?_))
local macro_rules | `(tactic| walk_at "e") => `(tactic| repeat (first | (with_reducible apply W.setN) | (with_reducible refine St.ok ?_) | (with_reducible refine OS.ok ?_) | walk_at "w"))
local macro_rules | `(tactic| walk_at "i") => `(tactic| ((with_reducible apply W.iteI); (exact rfl); (exact rfl); exact rfl))
local macro_rules | `(tactic| walk_at "t") => `(tactic| repeat (first | (with_reducible apply W.setN) | (with_reducible refine St.ok ?_) | (with_reducible refine OS.ok ?_) | (with_reducible apply W.ite) | walk_at "w"))
local macro_rules | `(tactic| walk_at "p") => `(tactic| repeat (first | (with_reducible apply W.setN) | ((fail_if_success (with_reducible apply stopSt)); (fail_if_success (with_reducible apply stopMt)); (fail_if_success (with_reducible apply stopFo)); first | (with_reducible refine St.ok ?_) | (with_reducible refine OS.ok ?_) | walk_at "w")))
theorem s_sums {n : Nat} {v : Int} {cs : Cs} {Q : PyData → Cs → Prop} (h1 : 1 ≤ v) (h2 : v ≤ 100) (q : Q (.bool true) cs) : W (runFn (n + 20) 77 [.dat (.int v)]) cs Q := by
  exact ⟨_, _, su v h1 h2, q⟩
def LwI (ds : List PyData) (e : Ev) (c : Cs) : Prop := Cu c ∧ ∃ s0 s2 s3, e = [s0, .cup, s2, s3]
theorem cell_cu (ns : List Int) : Cu (cupOf ns) := by
  refine ⟨_, _, rfl, ?_⟩
  have := fmod_bd (a := cellOf ns * 439 + 6529) (b := 99991) (by decide)
  exact Bd.of (by omega)
theorem hl (ns : List Int) : ∃ cs', F81 (runFn 40) (envL 4 1) (cupOf ns) = some (.ret (.bool true), cs') := by
  have key : W (F81 (runFn 40) (envL 4 1)) (cupOf ns) fun fl _ => fl = .ret (.bool true) := by
    rw [show envL 4 1 = [.no, .cup, .no, .no] from rfl]
    have hc := cell_cu ns
    generalize cupOf ns = cs at hc
    walk_at "p"
    refine W.forI LwI ⟨hc, _, _, _, rfl⟩ ?_ ?_
    · clear hc
      rintro d ds e c ⟨hc, s0, s2, s3, rfl⟩
      have l100 : Lv 3 (100 : Int) := lvn (by decide)
      walk_at "e"
      refine s_roll (n := 39) hc (by decide) (l100.mono (by decide)) fun r1 c1 a0 a1 hc1 => ?_
      walk_at "e"
      refine s_sums (n := 20) (by omega) (by omega) ?_
      walk_at "e"
      refine s_roll (n := 39) hc1 (by decide) (l100.mono (by decide)) fun r2 c2 b0 b1 hc2 => ?_
      walk_at "e"
      refine s_roll (n := 39) hc2 (by decide) (l100.mono (by decide)) fun r3 c3 d0 d1 hc3 => ?_
      walk_at "e"
      refine s_sides (n := 33) (by omega) (by omega) (by omega) (by omega) ?_
      walk_at "e"
      exact ⟨hc3, _, _, _, rfl⟩
    · rintro e c ⟨hc, s0, s2, s3, rfl⟩
      walk_at "e"
      refine W.eq (po1 (n := 20)) ?_
      walk_at "e"
      refine W.eq (po2 (n := 20)) ?_
      walk_at "e"
      refine W.eq (po3 (n := 20)) ?_
      walk_at "e"
      refine W.eq (po4 (n := 20)) ?_
      walk_at "e"
      refine W.eq (po5 (n := 20)) ?_
      walk_at "e"
      iterate 15
        refine s_sums (n := 20) (by decide) (by decide) ?_
        walk_at "e"
      refine s_sides (n := 33) (by decide) (by decide) (by decide) (by decide) ?_
      walk_at "e"
      refine s_sides (n := 33) (by decide) (by decide) (by decide) (by decide) ?_
      walk_at "e"
      refine s_sides (n := 33) (by decide) (by decide) (by decide) (by decide) ?_
      walk_at "e"
      rfl
  obtain ⟨fl, cs', e, h⟩ := key
  exact ⟨cs', by rw [e, h]⟩

end T
end
theorem PySem.Challenge.cw_linesruled_k93_whole_circles_and_sums_of_holds : PySem.Challenge.rw_linesruled_k93_whole_circles_and_sums_of.Holds := by
  exact PySem.Challenge.rw_linesruled_k93_whole_circles_and_sums_of_of T.hl
