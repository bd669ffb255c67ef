import PyProof.Rows.All
import Wide.All
import OpenK.AllK
import Wide.FinOn
import HandS.ForMost
import HandS.ForExc
import HandS.Deep
import HandS.Style
import HandS.Conv
import HandS.IsInst
import HandS.Set
import HandS.SetTxt0
import HandS.Strs
import PySem.Challenge.RW_soonsaid_k03_what_it_hangs_on
set_option Elab.async false
set_option linter.all false
set_option maxRecDepth 100000
set_option maxHeartbeats 4000000
/-! PyA: data, how the heap bears it, steps, slots -/
namespace Py
open PySem PySem.Spec PyProof.Rows L2

abbrev D := PyData
structure Pm where
  ci : Str → Option (Addr × List Str)
  exc : Str → Value

mutual
/-- the value v stands for the datum d in the (frozen) heap G -/
inductive R (K : PySem.W.Frag) (M : Pm) (G : Hp) : V → D → Prop
  | non : R K M G .non .none
  | bl (b : Bool) : R K M G (.bl b) (.bool b)
  | int (i : Int) : R K M G (.int i) (.int i)
  | str (x : Str) : R K M G (.str x) (.str x)
  | lst {a : Addr} {xs : List V} {ds : List D} : SqL K G a xs → RA K M G xs ds → R K M G (.ref a) (.list ds)
  | tup {a : Addr} {xs : List V} {ds : List D} : SqT K G a xs → RA K M G xs ds → R K M G (.ref a) (.tuple ds)
  | ins {a C dx : Addr} {fs : List (Str × V)} {c : Str} {ns : List Str} {ds : List D} : G a = some (.ins C dx fs) → M.ci c = some (C, ns) → fs.map (·.1) = ns → RA K M G (fs.map (·.2)) ds → R K M G (.ref a) (.dict [(.str c, .list ds)])
  | edict {a : Addr} : G a = some (.dK []) → R K M G (.ref a) (.dict [])
inductive RA (K : PySem.W.Frag) (M : Pm) (G : Hp) : List V → List D → Prop
  | nil : RA K M G [] []
  | cons {v : V} {vs : List V} {d : D} {ds : List D} : R K M G v d → RA K M G vs ds → RA K M G (v :: vs) (d :: ds)
end

section
variable {K : PySem.W.Frag} {M : Pm} {G G' H H' : Hp}
theorem same_T {a : Addr} {xs : List V} (e : Same H H') (h : SqT K H a xs) : SqT K H' a xs := by
  rcases h with (h | ⟨o, h⟩) | h
  · exact .inl (.inl (e _ _ h))
  · exact .inl (.inr ⟨o, e _ _ h⟩)
  · exact .inr h
mutual
theorem R.mono (e : Same G G') : ∀ {v : V} {d : D}, R K M G v d → R K M G' v d
  | _, _, .non => .non
  | _, _, .bl b => .bl b
  | _, _, .int i => .int i
  | _, _, .str x => .str x
  | _, _, .lst h r => .lst (e.seq h) (RA.mono e r)
  | _, _, .tup h r => .tup (same_T e h) (RA.mono e r)
  | _, _, .ins h c n r => .ins (e _ _ h) c n (RA.mono e r)
  | _, _, .edict h => .edict (e _ _ h)
theorem RA.mono (e : Same G G') : ∀ {vs : List V} {ds : List D}, RA K M G vs ds → RA K M G' vs ds
  | _, _, .nil => .nil
  | _, _, .cons r t => .cons (R.mono e r) (RA.mono e t)
end
theorem RA.len : ∀ {vs : List V} {ds : List D}, RA K M G vs ds → vs.length = ds.length
  | _, _, .nil => rfl
  | _, _, .cons _ t => congrArg (· + 1) (RA.len t)
theorem RA.get : ∀ {vs : List V} {ds : List D} {i : Nat} {d : D}, RA K M G vs ds → ds[i]? = some d → ∃ v, vs[i]? = some v ∧ R K M G v d
  | _, _, _, _, .nil, e => by simp at e
  | _, _, 0, _, .cons r _, e => by simp at e; subst e; exact ⟨_, rfl, r⟩
  | _, _, i + 1, _, .cons _ t, e => by
    obtain ⟨v, h1, h2⟩ := RA.get (i := i) t (by simpa using e)
    exact ⟨v, by simpa using h1, h2⟩
theorem RA.app : ∀ {vs ws : List V} {ds es : List D}, RA K M G vs ds → RA K M G ws es → RA K M G (vs ++ ws) (ds ++ es)
  | _, _, _, _, .nil, s => s
  | _, _, _, _, .cons r t, s => .cons r (RA.app t s)
theorem RA.take : ∀ {vs : List V} {ds : List D} (n : Nat), RA K M G vs ds → RA K M G (vs.take n) (ds.take n)
  | _, _, 0, _ => .nil
  | _, _, _ + 1, .nil => .nil
  | _, _, n + 1, .cons r t => .cons r (RA.take n t)
theorem RA.drop : ∀ {vs : List V} {ds : List D} (n : Nat), RA K M G vs ds → RA K M G (vs.drop n) (ds.drop n)
  | _, _, 0, r => r
  | _, _, _ + 1, .nil => .nil
  | _, _, n + 1, .cons _ t => RA.drop n t
theorem RA.rev : ∀ {vs : List V} {ds : List D}, RA K M G vs ds → RA K M G vs.reverse ds.reverse
  | _, _, .nil => .nil
  | _, _, .cons r t => by
    rw [List.reverse_cons, List.reverse_cons]
    exact RA.app (RA.rev t) (.cons r .nil)
theorem RA.set {v : V} {d : D} (r : R K M G v d) : ∀ {vs : List V} {ds : List D} (i : Nat), RA K M G vs ds → RA K M G (vs.set i v) (ds.set i d)
  | _, _, _, .nil => .nil
  | _, _, 0, .cons _ t => .cons r t
  | _, _, i + 1, .cons q t => .cons q (RA.set r i t)
theorem RA.one {v : V} {d : D} (r : R K M G v d) : RA K M G [v] [d] := .cons r .nil
theorem RA.bools : ∀ {vs : List V} {bs : List Bool}, RA K M G vs (bs.map PyData.bool) → vs = bs.map V.bl
  | _, [], .nil => rfl
  | _, b :: r, .cons (.bl _) t => by rw [RA.bools t]; rfl
theorem RA.strs : ∀ {vs : List V} {bs : List Str}, RA K M G vs (bs.map PyData.str) → vs = bs.map V.str
  | _, [], .nil => rfl
  | _, b :: r, .cons (.str _) t => by rw [RA.strs t]; rfl
theorem RA.ints : ∀ {vs : List V} {bs : List Int}, RA K M G vs (bs.map PyData.int) → vs = bs.map V.int
  | _, [], .nil => rfl
  | _, b :: r, .cons (.int _) t => by rw [RA.ints t]; rfl
theorem RA.of_ints : ∀ (bs : List Int), RA K M G (bs.map V.int) (bs.map PyData.int)
  | [] => .nil
  | b :: r => .cons (.int b) (RA.of_ints r)
theorem RA.of_strs : ∀ (bs : List Str), RA K M G (bs.map V.str) (bs.map PyData.str)
  | [] => .nil
  | b :: r => .cons (.str b) (RA.of_strs r)

mutual
theorem R.dp : ∀ {v : V} {d : D}, R K M G v d → d.canLay0 = true → Dp K G v d
  | _, _, .non, _ => .non
  | _, _, .bl b, _ => .bl b
  | _, _, .int i, _ => .int i
  | _, _, .str x, _ => .str x
  | _, _, .lst h r, c => .lst h (RA.dp r (by simpa only [PyData.canLay0] using c))
  | _, _, .tup h r, c => .tup h (RA.dp r (by simpa only [PyData.canLay0] using c))
  | _, _, .ins h _ n r, c => by simp only [PyData.canLay0] at c; cases c
  | _, _, .edict h, c => by simp only [PyData.canLay0] at c; cases c
theorem RA.dp : ∀ {vs : List V} {ds : List D}, RA K M G vs ds → PyData.canLayAll0 ds = true → DpAll K G vs ds
  | _, _, .nil, _ => .nil
  | _, _, .cons r t, c => by
    simp only [PyData.canLayAll0, Bool.and_eq_true] at c
    exact .cons (R.dp r c.1) (RA.dp t c.2)
end

/-! ### steps of the heap: all stays; G is what is frozen of it -/
structure Stp (H G H' G' : Hp) : Prop where
  ex : Same H H'
  eg : Same G G'
  sub : Same G' H'
  nw : ∀ p o, H p = some o → G p = none → G' p = none
theorem Stp.refl (h : Same G H) : Stp H G H G := ⟨Same.refl _, Same.refl _, h, fun _ _ _ q => q⟩
theorem Stp.trans {H1 G1 H2 G2 : Hp} (a : Stp H G H1 G1) (b : Stp H1 G1 H2 G2) : Stp H G H2 G2 :=
  ⟨a.ex.trans b.ex, a.eg.trans b.eg, b.sub, fun p o e q => b.nw p o (a.ex p o e) (a.nw p o e q)⟩
theorem same_new {p : Addr} {o : HO} (h : H p = none) : Same H (upd H p o) := fun b u q => by rw [upd_ne (ne_of_none q h)]; exact q
theorem same_upd2 {p : Addr} {o : HO} (e : Same G H) : Same (upd G p o) (upd H p o) := fun b u q => by
  by_cases hb : b = p
  · subst hb; rw [upd_same] at q ⊢; exact q
  · rw [upd_ne hb] at q ⊢; exact e b u q
/-- a new object, frozen at once -/
theorem Stp.new {p : Addr} {o : HO} (h : Same G H) (hp : H p = none) : Stp H G (upd H p o) (upd G p o) :=
  ⟨same_new hp, same_new (h.free hp), same_upd2 h, fun q u e n => by rw [upd_ne (ne_of_none e hp)]; exact n⟩
/-- a new object, not frozen -/
theorem Stp.newO {p : Addr} {o : HO} (h : Same G H) (hp : H p = none) : Stp H G (upd H p o) G :=
  ⟨same_new hp, Same.refl _, h.trans (same_new hp), fun _ _ _ n => n⟩

/-! ### results -/
inductive Md | cl | op | fr
def RO (K : PySem.W.Frag) (M : Pm) (H G : Hp) (v : V) : D → Prop
  | .list ds => ∃ a xs, v = .ref a ∧ SqL K H a xs ∧ RA K M G xs ds
  | d => R K M G v d
def RF (K : PySem.W.Frag) (M : Pm) (H0 H G : Hp) (v : V) : D → Prop
  | .list ds => ∃ a xs, v = .ref a ∧ H0 a = none ∧ G a = none ∧ H a = some (.lst xs) ∧ RA K M G xs ds
  | d => R K M G v d
def Res (K : PySem.W.Frag) (M : Pm) : Md → Hp → Hp → Hp → V → D → Prop
  | .cl, _, _, G', v, d => R K M G' v d
  | .op, _, H', G', v, d => RO K M H' G' v d
  | .fr, H, H', G', v, d => RF K M H H' G' v d
theorem R.ro {v : V} {d : D} (r : R K M G v d) (e : Same G H) : RO K M H G v d := by
  cases r with
  | lst h r => exact ⟨_, _, rfl, e.seq h, r⟩
  | _ => first | exact .non | exact .bl _ | exact .int _ | exact .str _ | (exact .tup (by assumption) (by assumption)) | (exact .ins (by assumption) (by assumption) (by assumption) (by assumption)) | (exact .edict (by assumption))
theorem RF.ro {H0 : Hp} {v : V} {d : D} (r : RF K M H0 H G v d) : RO K M H G v d := by
  cases d with
  | list ds => obtain ⟨a, xs, e, _, _, h, r⟩ := r; exact ⟨a, xs, e, .of h, r⟩
  | _ => exact r
theorem RO.mono {v : V} {d : D} (r : RO K M H G v d) (e : Same H H') (g : Same G G') : RO K M H' G' v d := by
  cases d with
  | list ds => obtain ⟨a, xs, e1, h, r⟩ := r; exact ⟨a, xs, e1, e.seq h, r.mono g⟩
  | _ => exact R.mono g r
theorem RO.r {v : V} {d : D} (r : RO K M H G v d) (e : Same G H) : R K M H v d := by
  cases d with
  | list ds => obtain ⟨a, xs, e1, h, r⟩ := r; subst e1; exact .lst h (r.mono e)
  | _ => exact R.mono e r
theorem RF.up {H0 H1 : Hp} {v : V} {d : D} (r : RF K M H1 H G v d) (e : Same H0 H1) : RF K M H0 H G v d := by
  cases d with
  | list ds => obtain ⟨a, xs, e1, h0, hg, h, r⟩ := r; exact ⟨a, xs, e1, e.free h0, hg, h, r⟩
  | _ => exact r
/-- d is no list: frozen, operand and fresh are one -/
def nolist : D → Bool
  | .list _ => false
  | _ => true
theorem Res.of_nolist {m : Md} {H0 : Hp} {v : V} {d : D} (r : R K M G v d) (n : nolist d = true) : Res K M m H0 H G v d := by
  cases m with
  | cl => exact r
  | op => cases d with
    | list ds => cases n
    | _ => exact r
  | fr => cases d with
    | list ds => cases n
    | _ => exact r
theorem RO.nolist {v : V} {d : D} (r : RO K M H G v d) (n : nolist d = true) : R K M G v d := by
  cases d with
  | list ds => cases n
  | _ => exact r

/-! ### slots -/
inductive Sl | no | va (d : D) | ow (ds : List D)
abbrev Ge := List Sl
def SlR (K : PySem.W.Frag) (M : Pm) (H0 H G : Hp) : Sl → Option V → Prop
  | .no, _ => True
  | .va d, x => ∃ v, x = some v ∧ R K M G v d
  | .ow ds, x => ∃ o vs, x = some (.ref o) ∧ G o = none ∧ H0 o = none ∧ H o = some (.lst vs) ∧ RA K M G vs ds
def isO : Sl → Option V → Addr → Prop
  | .ow _, x, o => x = some (.ref o)
  | _, _, _ => False
structure EnvR (K : PySem.W.Frag) (M : Pm) (H0 G0 : Hp) (γ : Ge) (σ : L2.St) (H G : Hp) : Prop where
  st : Stp H0 G0 H G
  len : σ.length = γ.length
  sl : ∀ (i : Nat) (s : Sl) (x : Option V), γ[i]? = some s → σ[i]? = some x → SlR K M H0 H G s x
  ap : ∀ (i j : Nat) (si sj : Sl) (xi xj : Option V) (o : Addr), γ[i]? = some si → γ[j]? = some sj → σ[i]? = some xi → σ[j]? = some xj → isO si xi o → isO sj xj o → i = j
theorem EnvR.sub {H0 G0 : Hp} {γ : Ge} {σ : L2.St} (e : EnvR K M H0 G0 γ σ H G) : Same G H := e.st.sub
theorem EnvR.stp {H0 G0 H1 G1 : Hp} {γ : Ge} {σ : L2.St} (e : EnvR K M H0 G0 γ σ H G) (s : Stp H G H1 G1) : EnvR K M H0 G0 γ σ H1 G1 := by
  refine ⟨e.st.trans s, e.len, fun i sl x h1 h2 => ?_, e.ap⟩
  have q := e.sl i sl x h1 h2
  cases sl with
  | no => trivial
  | va d => obtain ⟨v, e1, r⟩ := q; exact ⟨v, e1, r.mono s.eg⟩
  | ow ds => obtain ⟨o, vs, e1, g, h0, h, r⟩ := q; exact ⟨o, vs, e1, s.nw _ _ h g, h0, s.ex _ _ h, r.mono s.eg⟩
theorem EnvR.at {H0 G0 : Hp} {γ : Ge} {σ : L2.St} {i : Nat} {s : Sl} (e : EnvR K M H0 G0 γ σ H G) (h : γ[i]? = some s) : ∃ x, σ[i]? = some x ∧ SlR K M H0 H G s x := by
  have hi : i < γ.length := (List.getElem?_eq_some_iff.mp h).1
  have hj : i < σ.length := by rw [e.len]; exact hi
  have q : σ[i]? = some σ[i] := List.getElem?_eq_getElem hj
  exact ⟨_, q, e.sl _ _ _ h q⟩
theorem EnvR.va {H0 G0 : Hp} {γ : Ge} {σ : L2.St} {i : Nat} {d : D} (e : EnvR K M H0 G0 γ σ H G) (h : γ[i]? = some (.va d)) : ∃ v, σ[i]? = some (some v) ∧ R K M G v d := by
  obtain ⟨x, h1, v, e1, r⟩ := e.at h
  subst e1
  exact ⟨v, h1, r⟩
theorem EnvR.ow {H0 G0 : Hp} {γ : Ge} {σ : L2.St} {i : Nat} {ds : List D} (e : EnvR K M H0 G0 γ σ H G) (h : γ[i]? = some (.ow ds)) :
    ∃ o vs, σ[i]? = some (some (.ref o)) ∧ G o = none ∧ H0 o = none ∧ H o = some (.lst vs) ∧ RA K M G vs ds := by
  obtain ⟨x, h1, o, vs, e1, q⟩ := e.at h
  subst e1
  exact ⟨o, vs, h1, q⟩
/-- a slot stored: a frozen datum -/
theorem EnvR.setv {H0 G0 : Hp} {γ : Ge} {σ : L2.St} {i : Nat} {v : V} {d : D} (e : EnvR K M H0 G0 γ σ H G) (r : R K M G v d) : EnvR K M H0 G0 (γ.set i (.va d)) (σ.set i (some v)) H G := by
  have key : ∀ (j : Nat) (s : Sl) (x : Option V), (γ.set i (.va d))[j]? = some s → (σ.set i (some v))[j]? = some x → (j = i ∧ s = .va d ∧ x = some v) ∨ (j ≠ i ∧ γ[j]? = some s ∧ σ[j]? = some x) := by
    intro j s x h1 h2
    by_cases hj : i = j
    · subst hj
      rw [List.getElem?_set] at h1 h2
      simp only [if_true] at h1 h2
      split at h1
      · split at h2
        · exact .inl ⟨rfl, (Option.some.inj h1).symm, (Option.some.inj h2).symm⟩
        · cases h2
      · cases h1
    · rw [List.getElem?_set_ne hj] at h1 h2
      exact .inr ⟨Ne.symm hj, h1, h2⟩
  refine ⟨e.st, by rw [List.length_set, List.length_set]; exact e.len, fun j s x h1 h2 => ?_, fun j k sj sk xj xk o h1 h2 h3 h4 h5 h6 => ?_⟩
  · rcases key j s x h1 h2 with ⟨_, e1, e2⟩ | ⟨_, q1, q2⟩
    · subst e1; subst e2; exact ⟨v, rfl, r⟩
    · exact e.sl j s x q1 q2
  · rcases key j sj xj h1 h3 with ⟨_, e1, _⟩ | ⟨n1, q1, q2⟩
    · subst e1; exact h5.elim
    · rcases key k sk xk h2 h4 with ⟨_, e1, _⟩ | ⟨n2, q3, q4⟩
      · subst e1; exact h6.elim
      · exact e.ap j k sj sk xj xk o q1 q3 q2 q4 h5 h6
/-- a slot stored: an own list, new since HS -/
theorem EnvR.seto {H0 G0 HS : Hp} {γ : Ge} {σ : L2.St} {i : Nat} {o : Addr} {vs : List V} {ds : List D} (e : EnvR K M H0 G0 γ σ H G) (old : ∀ (j : Nat) (dj : List D) (p : Addr), j ≠ i → γ[j]? = some (.ow dj) → σ[j]? = some (some (.ref p)) → p ≠ o)
    (g : G o = none) (h0 : H0 o = none) (h : H o = some (.lst vs)) (r : RA K M G vs ds) : EnvR K M H0 G0 (γ.set i (.ow ds)) (σ.set i (some (.ref o))) H G := by
  have key : ∀ (j : Nat) (s : Sl) (x : Option V), (γ.set i (.ow ds))[j]? = some s → (σ.set i (some (.ref o)))[j]? = some x → (j = i ∧ s = .ow ds ∧ x = some (.ref o)) ∨ (j ≠ i ∧ γ[j]? = some s ∧ σ[j]? = some x) := by
    intro j s x h1 h2
    by_cases hj : i = j
    · subst hj
      rw [List.getElem?_set] at h1 h2
      simp only [if_true] at h1 h2
      split at h1
      · split at h2
        · exact .inl ⟨rfl, (Option.some.inj h1).symm, (Option.some.inj h2).symm⟩
        · cases h2
      · cases h1
    · rw [List.getElem?_set_ne hj] at h1 h2
      exact .inr ⟨Ne.symm hj, h1, h2⟩
  refine ⟨e.st, by rw [List.length_set, List.length_set]; exact e.len, fun j s x h1 h2 => ?_, fun j k sj sk xj xk p h1 h2 h3 h4 h5 h6 => ?_⟩
  · rcases key j s x h1 h2 with ⟨_, e1, e2⟩ | ⟨_, q1, q2⟩
    · subst e1; subst e2; exact ⟨o, vs, rfl, g, h0, h, r⟩
    · exact e.sl j s x q1 q2
  · rcases key j sj xj h1 h3 with ⟨ej, e1, e2⟩ | ⟨n1, q1, q2⟩
    · rcases key k sk xk h2 h4 with ⟨ek, _, _⟩ | ⟨n2, q3, q4⟩
      · rw [ej, ek]
      · subst e1; subst e2
        have ep : (some (V.ref o) : Option V) = some (.ref p) := h5
        cases ep
        cases sk with
        | ow dk =>
          have ek : xk = some (.ref o) := h6
          subst ek
          exact absurd rfl (old k dk o n2 q3 q4)
        | _ => exact h6.elim
    · rcases key k sk xk h2 h4 with ⟨_, e1, e2⟩ | ⟨n2, q3, q4⟩
      · subst e1; subst e2
        have ep : (some (V.ref o) : Option V) = some (.ref p) := h6
        cases ep
        cases sj with
        | ow dj =>
          have ek : xj = some (.ref o) := h5
          subst ek
          exact absurd rfl (old j dj o n1 q1 q2)
        | _ => exact h5.elim
      · exact e.ap j k sj sk xj xk p q1 q3 q2 q4 h5 h6
/-- an own list changed -/
theorem EnvR.wr {H0 G0 : Hp} {γ : Ge} {σ : L2.St} {i : Nat} {o : Addr} {vs ws : List V} {ds es : List D} (e : EnvR K M H0 G0 γ σ H G) (hi : γ[i]? = some (.ow ds)) (hs : σ[i]? = some (some (.ref o))) (h : H o = some (.lst vs))
    (r : RA K M G ws es) : EnvR K M H0 G0 (γ.set i (.ow es)) σ (upd H o (.lst ws)) G := by
  obtain ⟨o', vs', h1, g, h0, _, _⟩ := e.ow hi
  rw [hs] at h1; cases h1
  have hil : i < γ.length := (List.getElem?_eq_some_iff.mp hi).1
  refine ⟨⟨fun b u q => by rw [upd_ne (ne_of_none q h0)]; exact e.st.ex b u q, e.st.eg, fun b u q => by rw [upd_ne (ne_of_none q g)]; exact e.st.sub b u q, e.st.nw⟩, by rw [List.length_set]; exact e.len, fun j s x q1 q2 => ?_, fun j k sj sk xj xk p h1 h2 h3 h4 h5 h6 => ?_⟩
  · by_cases hj : i = j
    · subst hj
      rw [List.getElem?_set_self hil] at q1
      rw [hs] at q2
      cases q1; cases q2
      exact ⟨o, ws, rfl, g, h0, upd_same, r⟩
    · rw [List.getElem?_set_ne hj] at q1
      have q := e.sl j s x q1 q2
      cases s with
      | no => trivial
      | va d => exact q
      | ow dj =>
        obtain ⟨p, vp, e1, gp, hp0, hp, rp⟩ := q
        subst e1
        refine ⟨p, vp, rfl, gp, hp0, ?_, rp⟩
        rw [upd_ne]
        · exact hp
        · intro ep
          subst ep
          exact hj (e.ap i j _ _ _ _ p hi q1 hs q2 rfl rfl)
  · have key : ∀ (j : Nat) (s : Sl) (x : Option V), (γ.set i (.ow es))[j]? = some s → σ[j]? = some x → isO s x p → ∃ s', γ[j]? = some s' ∧ isO s' x p := by
      intro j s x q1 q2 q3
      by_cases hj : i = j
      · subst hj
        rw [List.getElem?_set_self hil] at q1
        cases q1
        exact ⟨_, hi, q3⟩
      · rw [List.getElem?_set_ne hj] at q1
        exact ⟨s, q1, q3⟩
    obtain ⟨s1, a1, b1⟩ := key j sj xj h1 h3 h5
    obtain ⟨s2, a2, b2⟩ := key k sk xk h2 h4 h6
    exact e.ap j k s1 s2 xj xk p a1 a2 h3 h4 b1 b2
end
end Py

/-! PyB: judgements; expressions -/
namespace Py
open PySem PySem.Spec PyProof.Rows L2

inductive Rs | ok (d : D) | er (c : Str)
abbrev Fe := Ge → Option Rs
def bR (x : Option Rs) (k : D → Option Rs) : Option Rs := match x with
  | some (.ok d) => k d
  | some (.er c) => some (.er c)
  | none => none
inductive Rl | ok (ds : List D) | er (c : Str)
abbrev Fa := Ge → Option Rl
inductive Rb | ok (b : Bool) | er (c : Str)
abbrev Ft := Ge → Option Rb

section
variable (K : PySem.W.Frag) (M : Pm) (E : XK)
def PostE (m : Md) (H G : Hp) (Q : VK) : Rs → Prop
  | .ok d => ∀ v H' G', Stp H G H' G' → Res K M m H H' G' v d → Q v H'
  | .er c => ∀ H' G', Stp H G H' G' → E (M.exc c) none H'
def EO (m : Md) (t : TE) (f : Fe) : Prop := ∀ (H0 G0 : Hp) (γ : Ge) (σ : L2.St) (H G : Hp) (Q : VK) (r : Rs), EnvR K M H0 G0 γ σ H G → f γ = some r → PostE K M E m H G Q r → t σ H Q
def ROs (H G : Hp) : List V → List D → Prop := Paired fun v d => RO K M H G v d
def PostA (H G : Hp) (Q : List V → Hp → Prop) : Rl → Prop
  | .ok ds => ∀ vs H' G', Stp H G H' G' → ROs K M H' G' vs ds → Q vs H'
  | .er c => ∀ H' G', Stp H G H' G' → E (M.exc c) none H'
def PostC (H G : Hp) (Q : List V → Hp → Prop) : Rl → Prop
  | .ok ds => ∀ vs H' G', Stp H G H' G' → RA K M G' vs ds → Q vs H'
  | .er c => ∀ H' G', Stp H G H' G' → E (M.exc c) none H'
/-- arguments: operands; clean -/
def AO (t : TA) (f : Fa) : Prop := ∀ (H0 G0 : Hp) (γ : Ge) (σ : L2.St) (H G : Hp) (Q : List V → Hp → Prop) (r : Rl), EnvR K M H0 G0 γ σ H G → f γ = some r → PostA K M E H G Q r → t σ H Q
def AC (t : TA) (f : Fa) : Prop := ∀ (H0 G0 : Hp) (γ : Ge) (σ : L2.St) (H G : Hp) (Q : List V → Hp → Prop) (r : Rl), EnvR K M H0 G0 γ σ H G → f γ = some r → PostC K M E H G Q r → t σ H Q
def PostT (H G : Hp) (Q : Bool → Hp → Prop) : Rb → Prop
  | .ok b => ∀ H' G', Stp H G H' G' → Q b H'
  | .er c => ∀ H' G', Stp H G H' G' → E (M.exc c) none H'
def TO' (t : TT) (f : Ft) : Prop := ∀ (H0 G0 : Hp) (γ : Ge) (σ : L2.St) (H G : Hp) (Q : Bool → Hp → Prop) (r : Rb), EnvR K M H0 G0 γ σ H G → f γ = some r → PostT M E H G Q r → t σ H Q
end

structure JE (K : PySem.W.Frag) (X : Cx) (M : Pm) (E : XK) (m : Md) (e : Expr) (t : TE) (f : Fe) : Prop where
  pe : PE X e t
  eo : EO K M E m t f
structure JT (K : PySem.W.Frag) (X : Cx) (M : Pm) (E : XK) (e : Expr) (t : TT) (f : Ft) : Prop where
  pt : PT X e t
  to : TO' K M E t f
structure JW (K : PySem.W.Frag) (X : Cx) (M : Pm) (E : XK) (e : Expr) (t : TT) (f : Ft) : Prop where
  pw : PW X e t
  to : TO' K M E t f
/-- arguments as operands -/
structure JA (K : PySem.W.Frag) (X : Cx) (M : Pm) (E : XK) (es : List Expr) (t : TA) (f : Fa) : Prop where
  pa : PA X es t
  ao : AO K M E t f
/-- arguments, clean -/
structure JC (K : PySem.W.Frag) (X : Cx) (M : Pm) (E : XK) (es : List Expr) (t : TA) (f : Fa) : Prop where
  pa : PA X es t
  ac : AC K M E t f

/-- what a context must have -/
structure CxF (K : PySem.W.Frag) (X : Cx) (E : XK) (k : Nat) : Prop where
  hK : X.K = K
  calm : X.calm = true
  nd : X.N.Nodup
  pas : Passes (L2.CX X.prog X.w) X E
  own : PassesOwn (model X.prog X.w) X.A X.env X.xe
  room : Room k X.A

/-! ### what they reckon -/
def fVar (i : Nat) : Fe := fun γ => match γ[i]? with
  | some (.va d) => some (.ok d)
  | _ => none
def fOpd (i : Nat) : Fe := fun γ => match γ[i]? with
  | some (.va d) => some (.ok d)
  | some (.ow ds) => some (.ok (.list ds))
  | _ => none
def fCon (d : D) : Fe := fun _ => some (.ok d)
def oR (x : Option D) : Option Rs := match x with
  | some d => some (.ok d)
  | none => none
def f2 (o : D → D → Option D) (a b : Fe) : Fe := fun γ => bR (a γ) fun x => bR (b γ) fun y => oR (o x y)
def f1 (o : D → Option D) (a : Fe) : Fe := fun γ => bR (a γ) fun x => oR (o x)
def bL (x : Option Rs) (k : D → Option Rl) : Option Rl := match x with
  | some (.ok d) => k d
  | some (.er c) => some (.er c)
  | none => none
def bA (x : Option Rl) (k : List D → Option Rs) : Option Rs := match x with
  | some (.ok d) => k d
  | some (.er c) => some (.er c)
  | none => none
def bLL (x : Option Rl) (k : List D → Option Rl) : Option Rl := match x with
  | some (.ok d) => k d
  | some (.er c) => some (.er c)
  | none => none
def fNil : Fa := fun _ => some (.ok [])
def fCons (a : Fe) (r : Fa) : Fa := fun γ => bL (a γ) fun d => bLL (r γ) fun ds => some (.ok (d :: ds))
def big : Nat := 10000000
theorem big_line {n : Nat} (h : n ≤ big) : n ≤ sizeLine := Nat.le_trans h (by rw [sizeLine_eq]; decide)
theorem big_line' {n : Nat} (h : n ≤ big) : n < sizeLine := Nat.lt_of_le_of_lt h (by rw [sizeLine_eq]; decide)

section
variable {K : PySem.W.Frag} {X : Cx} {M : Pm} {E : XK} {k : Nat} {m : Md} {a b e : Expr} {ta tb te : TE} {fa fb fe : Fe} {pos : Pos}

theorem JE.c2o (h : JE K X M E .cl e te fe) : JE K X M E .op e te fe := ⟨h.pe, fun H0 G0 γ σ H G Q r ev hf p => h.eo H0 G0 γ σ H G Q r ev hf (by
  cases r with
  | ok d => exact fun v H' G' s r => p v H' G' s (R.ro r s.sub)
  | er c => exact p)⟩
theorem JE.f2o (h : JE K X M E .fr e te fe) : JE K X M E .op e te fe := ⟨h.pe, fun H0 G0 γ σ H G Q r ev hf p => h.eo H0 G0 γ σ H G Q r ev hf (by
  cases r with
  | ok d => exact fun v H' G' s r => p v H' G' s (RF.ro r)
  | er c => exact p)⟩
theorem freeze {K : PySem.W.Frag} {H G H' G' : Hp} {v : V} {d : D} (s : Stp H G H' G') (r : RF K M H H' G' v d) : ∃ G2, Stp H G H' G2 ∧ Same G' G2 ∧ R K M G2 v d := by
  cases d with
  | list ds =>
    obtain ⟨a, xs, e1, h0, hg, h, r⟩ := r
    subst e1
    have sg : Same G' (upd G' a (.lst xs)) := same_new hg
    refine ⟨upd G' a (.lst xs), ⟨s.ex, s.eg.trans sg, fun b u q => ?_, fun p o q n => ?_⟩, sg, .lst (.of upd_same) (r.mono sg)⟩
    · by_cases hb : b = a
      · subst hb; rw [upd_same] at q; cases q; exact h
      · rw [upd_ne hb] at q; exact s.sub b u q
    · rw [upd_ne (ne_of_none q h0)]; exact s.nw p o q n
  | _ => exact ⟨G', s, Same.refl _, r⟩
theorem JE.f2c (h : JE K X M E .fr e te fe) : JE K X M E .cl e te fe := ⟨h.pe, fun H0 G0 γ σ H G Q r ev hf p => h.eo H0 G0 γ σ H G Q r ev hf (by
  cases r with
  | ok d => exact fun v H' G' s r => let ⟨G2, s2, _, r2⟩ := freeze s r; p v H' G2 s2 r2
  | er c => exact p)⟩

theorem je_var {i : Nat} {x : Str} (hN : X.N[i]? = some x := by rfl) (hv : Vis X.env.scope x := by first | exact Or.inl rfl | exact Or.inr (Or.inl rfl) | exact Or.inr (Or.inr rfl)) (hd : (x == ("__debug__" : Str)) = false := by decide)
    (hcd : (x == ("__classdict__" : Str)) = false := by decide) : JE K X M E .cl (.Name x pos) (tVar i) (fVar i) := ⟨pe_var hN hv hd hcd, fun H0 G0 γ σ H G Q r ev hf p => by
  unfold fVar at hf
  split at hf
  · rename_i d hd
    cases hf
    obtain ⟨v, h1, h2⟩ := ev.va hd
    exact ⟨v, h1, p v H G (Stp.refl ev.sub) h2⟩
  · cases hf⟩
theorem jo_var {i : Nat} {x : Str} (hN : X.N[i]? = some x := by rfl) (hv : Vis X.env.scope x := by first | exact Or.inl rfl | exact Or.inr (Or.inl rfl) | exact Or.inr (Or.inr rfl)) (hd : (x == ("__debug__" : Str)) = false := by decide)
    (hcd : (x == ("__classdict__" : Str)) = false := by decide) : JE K X M E .op (.Name x pos) (tVar i) (fOpd i) := ⟨pe_var hN hv hd hcd, fun H0 G0 γ σ H G Q r ev hf p => by
  unfold fOpd at hf
  split at hf
  · rename_i d hd
    cases hf
    obtain ⟨v, h1, h2⟩ := ev.va hd
    exact ⟨v, h1, p v H G (Stp.refl ev.sub) (h2.ro ev.sub)⟩
  · rename_i ds hd
    cases hf
    obtain ⟨o, vs, h1, _, _, h2, h3⟩ := ev.ow hd
    exact ⟨_, h1, p _ H G (Stp.refl ev.sub) ⟨o, vs, rfl, .of h2, h3⟩⟩
  · cases hf⟩
theorem eo_con {K : PySem.W.Frag} {v : V} {d : D} (r : ∀ G, R K M G v d) : EO K M E .cl (tC v) (fCon d) := fun H0 G0 γ σ H G Q r' ev hf p => by
  cases hf
  exact p v H G (Stp.refl ev.sub) (r G)
theorem je_int {i : Int} {j : Nat} : JE K X M E .cl (.Constant (.int i) j pos) (tC (.int i)) (fCon (.int i)) := ⟨pe_int, eo_con fun _ => .int i⟩
theorem je_bl {i : Bool} {j : Nat} : JE K X M E .cl (.Constant (.bool i) j pos) (tC (.bl i)) (fCon (.bool i)) := ⟨pe_bl, eo_con fun _ => .bl i⟩
theorem je_non {j : Nat} : JE K X M E .cl (.Constant .none j pos) (tC .non) (fCon .none) := ⟨pe_non, eo_con fun _ => .non⟩
theorem je_str {x : Str} {j : Nat} : JE K X M E .cl (.Constant (.str x) j pos) (tC (.str x)) (fCon (.str x)) := ⟨pe_str, eo_con fun _ => .str x⟩

/-! ### operations of two values -/
def OpS (K : PySem.W.Frag) (M : Pm) (m : Md) (r : R2) (o : D → D → Option D) : Prop :=
  ∀ (H G : Hp) (x y : V) (dx dy dz : D) (Q : VK), Same G H → RO K M H G x dx → RO K M H G y dy → o dx dy = some dz → (∀ v H' G', Stp H G H' G' → Res K M m H H' G' v dz → Q v H') → r x y H Q
theorem Res.up {K : PySem.W.Frag} {H0 H H' G' : Hp} {v : V} {d : D} (r : Res K M m H H' G' v d) (e : Same H0 H) : Res K M m H0 H' G' v d := by
  cases m with
  | cl => exact r
  | op => exact r
  | fr => exact RF.up r e
theorem eo_op2 {K : PySem.W.Frag} {r : R2} {o : D → D → Option D} (ho : OpS K M m r o) (ha : EO K M E .op ta fa) (hb : EO K M E .op tb fb) : EO K M E m (tOp r ta tb) (f2 o fa fb) := by
  intro H0 G0 γ σ H G Q q ev hf p
  unfold f2 at hf
  cases e1 : fa γ with
  | none => rw [e1] at hf; cases hf
  | some q1 =>
    rw [e1] at hf
    cases q1 with
    | er c =>
      cases hf
      exact ha H0 G0 γ σ H G _ _ ev e1 p
    | ok dx =>
      refine ha H0 G0 γ σ H G _ _ ev e1 fun x H1 G1 s1 r1 => ?_
      have ev1 := ev.stp s1
      have hf : (bR (fb γ) fun y => oR (o dx y)) = some q := hf
      cases e2 : fb γ with
      | none => rw [e2] at hf; cases hf
      | some q2 =>
        rw [e2] at hf
        cases q2 with
        | er c =>
          cases hf
          exact hb H0 G0 γ σ H1 G1 _ _ ev1 e2 fun H' G' s' => p H' G' (s1.trans s')
        | ok dy =>
          refine hb H0 G0 γ σ H1 G1 _ _ ev1 e2 fun y H2 G2 s2 r2 => ?_
          have hf : oR (o dx dy) = some q := hf
          cases e3 : o dx dy with
          | none => rw [e3] at hf; cases hf
          | some dz =>
            rw [e3] at hf
            cases hf
            exact ho H2 G2 x y dx dy dz Q s2.sub (RO.mono r1 s2.ex s2.eg) r2 e3 fun v H' G' s3 r3 => p v H' G' ((s1.trans s2).trans s3) (r3.up (s1.ex.trans s2.ex))
theorem je_op {op : Operator} {r : R2} {o : D → D → Option D} (hr : OpR X (binaryOp op) r) (ho : OpS K M m r o) (ha : JE K X M E .op a ta fa) (hb : JE K X M E .op b tb fb) : JE K X M E m (.BinOp a op b pos) (tOp r ta tb) (f2 o fa fb) :=
  ⟨pe_op hr ha.pe hb.pe, eo_op2 ho ha.eo hb.eo⟩
theorem je_cmpR {op : CmpOp} {r : R2} {o : D → D → Option D} (hr : OpR X (compareOp op) r) (ho : OpS K M m r o) (ha : JE K X M E .op a ta fa) (hb : JE K X M E .op b tb fb) (hm : behindInMarks op b = false) : JE K X M E m (.Compare a [op] [b] pos) (tOp r ta tb) (f2 o fa fb) :=
  ⟨pe_cmpR hr ha.pe hb.pe hm, eo_op2 ho ha.eo hb.eo⟩
theorem je_ixR {r : R2} {o : D → D → Option D} (hr : IxR X r) (ho : OpS K M m r o) (ha : JE K X M E .op a ta fa) (hb : JE K X M E .op b tb fb) (hs : PlainIx b) : JE K X M E m (.Subscript a b pos) (tOp r ta tb) (f2 o fa fb) :=
  ⟨pe_ix hr ha.pe hb.pe hs, eo_op2 ho ha.eo hb.eo⟩

/-! ints -/
def oI (g : Int → Int → D) : D → D → Option D
  | .int i, .int j => some (g i j)
  | _, _ => none
def oIc (C : Int → Int → Bool) (g : Int → Int → D) : D → D → Option D
  | .int i, .int j => if C i j = true then some (g i j) else none
  | _, _ => none
theorem ops_I0 {K : PySem.W.Frag} {gV : Int → Int → V} {g : Int → Int → D} (h : ∀ i j G, R K M G (gV i j) (g i j)) : OpS K M .cl (rI0 gV) (oI g) := by
  intro H G x y dx dy dz Q e rx ry ho q
  cases dx with
  | int i =>
    cases dy with
    | int j =>
      cases ho
      cases (show R K M G x (.int i) from rx)
      cases (show R K M G y (.int j) from ry)
      exact ⟨i, j, rfl, rfl, q _ H G (Stp.refl e) (h i j G)⟩
    | _ => cases ho
  | _ => cases ho
theorem ops_I {K : PySem.W.Frag} {C : Int → Int → Prop} {c : Int → Int → Bool} {gV : Int → Int → V} {g : Int → Int → D} (hc : ∀ i j, c i j = true → C i j) (h : ∀ i j G, R K M G (gV i j) (g i j)) : OpS K M .cl (rI C gV) (oIc c g) := by
  intro H G x y dx dy dz Q e rx ry ho q
  cases dx with
  | int i =>
    cases dy with
    | int j =>
      unfold oIc at ho
      dsimp only at ho
      split at ho
      · rename_i hcc
        cases ho
        cases (show R K M G x (.int i) from rx)
        cases (show R K M G y (.int j) from ry)
        exact ⟨i, j, rfl, rfl, hc i j hcc, q _ H G (Stp.refl e) (h i j G)⟩
      · cases ho
    | _ => cases ho
  | _ => cases ho
def oSub : D → D → Option D := oI fun i j => .int (i - j)
def cMul (i j : Int) : Bool := (decide (-(2 ^ 64) < i) && decide (i < 2 ^ 64)) || (decide (-(2 ^ 64) < j) && decide (j < 2 ^ 64))
def oMul : D → D → Option D := oIc cMul fun i j => .int (i * j)
def cDiv (_ j : Int) : Bool := decide (0 < j) && decide (j < 1073741824)
def oDiv : D → D → Option D := oIc cDiv fun i j => .int (i / j)
def cMod (_ j : Int) : Bool := decide (0 < j)
def oMod : D → D → Option D := oIc cMod fun i j => .int (i % j)
def oLt : D → D → Option D := oI fun i j => .bool (decide (i < j))
def oLe : D → D → Option D := oI fun i j => .bool (decide (i ≤ j))
def oGt : D → D → Option D := oI fun i j => .bool (decide (j < i))
def oGe : D → D → Option D := oI fun i j => .bool (decide (j ≤ i))
theorem je_sub (ha : JE K X M E .op a ta fa) (hb : JE K X M E .op b tb fb) : JE K X M E .cl (.BinOp a .Sub b pos) (tOp (rI0 fun i j => .int (i - j)) ta tb) (f2 oSub fa fb) := je_op op_sub (ops_I0 fun _ _ _ => .int _) ha hb
theorem je_mul (ha : JE K X M E .op a ta fa) (hb : JE K X M E .op b tb fb) : JE K X M E .cl (.BinOp a .Mult b pos) (tOp (rI CMul fun i j => .int (i * j)) ta tb) (f2 oMul fa fb) := je_op op_mul (ops_I (fun i j h => by
  unfold cMul at h
  simp only [Bool.or_eq_true, Bool.and_eq_true, decide_eq_true_eq] at h
  exact h) fun _ _ _ => .int _) ha hb
theorem je_div (ha : JE K X M E .op a ta fa) (hb : JE K X M E .op b tb fb) : JE K X M E .cl (.BinOp a .FloorDiv b pos) (tOp (rI CDiv fun i j => .int (i / j)) ta tb) (f2 oDiv fa fb) := je_op op_fdiv (ops_I (fun i j h => by
  unfold cDiv at h
  simp only [Bool.and_eq_true, decide_eq_true_eq] at h
  exact h) fun _ _ _ => .int _) ha hb
theorem je_mod (ha : JE K X M E .op a ta fa) (hb : JE K X M E .op b tb fb) : JE K X M E .cl (.BinOp a .Mod b pos) (tOp (rI (fun _ j => 0 < j) fun i j => .int (i % j)) ta tb) (f2 oMod fa fb) := je_op op_mod (ops_I (fun i j h => by
  unfold cMod at h
  simpa using h) fun _ _ _ => .int _) ha hb
theorem je_lt (ha : JE K X M E .op a ta fa) (hb : JE K X M E .op b tb fb) : JE K X M E .cl (.Compare a [.Lt] [b] pos) (tOp (rI0 fun i j => .bl (decide (i < j))) ta tb) (f2 oLt fa fb) := je_cmpR op_lt (ops_I0 fun _ _ _ => .bl _) ha hb (nomark _)
theorem je_le (ha : JE K X M E .op a ta fa) (hb : JE K X M E .op b tb fb) : JE K X M E .cl (.Compare a [.LtE] [b] pos) (tOp (rI0 fun i j => .bl (decide (i ≤ j))) ta tb) (f2 oLe fa fb) := je_cmpR op_le (ops_I0 fun _ _ _ => .bl _) ha hb (nomark _)
theorem je_gt (ha : JE K X M E .op a ta fa) (hb : JE K X M E .op b tb fb) : JE K X M E .cl (.Compare a [.Gt] [b] pos) (tOp (rI0 fun i j => .bl (decide (j < i))) ta tb) (f2 oGt fa fb) := je_cmpR op_gt (ops_I0 fun _ _ _ => .bl _) ha hb (nomark _)
theorem je_ge (ha : JE K X M E .op a ta fa) (hb : JE K X M E .op b tb fb) : JE K X M E .cl (.Compare a [.GtE] [b] pos) (tOp (rI0 fun i j => .bl (decide (j ≤ i))) ta tb) (f2 oGe fa fb) := je_cmpR op_ge (ops_I0 fun _ _ _ => .bl _) ha hb (nomark _)

/-! a + b -/
def rCatL (K : PySem.W.Frag) : R2 := fun x y H Q => ∃ l b xs zs, x = .ref l ∧ y = .ref b ∧ SqL K H l xs ∧ SqL K H b zs ∧ xs.length + zs.length ≤ sizeLine ∧ ∀ p, H p = none → Q (.ref p) (upd H p (.lst (xs ++ zs)))
theorem op_catL : OpR X (binaryOp .Add) (rCatL X.K) := by
  intro pins s σ H x y v u Q I rx ry h
  obtain ⟨l, b, xs, zs, rfl, rfl, hH, hB, hz, q⟩ := h
  cases rx
  cases ry
  obtain ⟨its, r, pl, _⟩ := I.list hH
  obtain ⟨its2, r2, pl2, _⟩ := I.list hB
  have l1 := r.length
  have l2 := r2.length
  obtain ⟨⟨cls, dd, data, sl⟩, ho, hc, n, hd⟩ := id pl.isList
  obtain ⟨⟨cls2, dd2, data2, sl2⟩, ho2, hc2, n2, hd2⟩ := id pl2.isList
  simp only at hc hd hc2 hd2
  subst hc hd hc2 hd2
  refine concat_meets ⟨_, ho, rfl⟩ ⟨_, ho2, rfl⟩ noFill_list_add seq_list_add PySem.F.slot_list_add PySem.F.entry_list_add (PySem.F.args_list_add_2 _ _) (list_addW l b its.toArray its2.toArray n n2 dd dd2 sl sl2 (by simp only [List.size_toArray]; omega)) ⟨ho, ho2, ?_⟩
  have ea : its.toArray ++ its2.toArray = (its ++ its2).toArray := by simp
  rw [ea]
  exact ⟨.ref _, _, I.lnew (t' := s.toks) (r.append r2) (by rw [List.length_append]; omega), rfl, q _ I.fresh⟩
def rAddI : R2 := rI0 fun i j => .int (i + j)
def rAddSt : R2 := fun x y H Q => ∃ i j, x = .str i ∧ y = .str j ∧ i.length + j.length ≤ sizeLine ∧ Q (.str (i ++ j)) H
def rAddAll (K : PySem.W.Frag) : R2 := fun x y H Q => ((rAddI x y H Q ∨ rAddSt x y H Q) ∨ rCatL K x y H Q) ∨ rCatT K x y H Q
theorem op_addAll : OpR X (binaryOp .Add) (rAddAll X.K) := OpR.or (OpR.or (OpR.or op_add op_add_str) op_catL) op_catT
def oAdd : D → D → Option D
  | .int i, .int j => some (.int (i + j))
  | .str i, .str j => if i.length + j.length ≤ big then some (.str (i ++ j)) else none
  | .list x, .list y => if x.length + y.length ≤ big then some (.list (x ++ y)) else none
  | .tuple x, .tuple y => if x.length + y.length ≤ big ∧ x ≠ [] ∧ y ≠ [] then some (.tuple (x ++ y)) else none
  | _, _ => none
theorem ops_add {K : PySem.W.Frag} : OpS K M .fr (rAddAll K) oAdd := by
  intro H G x y dx dy dz Q e rx ry ho q
  unfold oAdd at ho
  split at ho
  · rename_i i j
    cases ho
    cases (show R K M G x (.int i) from rx)
    cases (show R K M G y (.int j) from ry)
    exact .inl (.inl (.inl ⟨i, j, rfl, rfl, q _ H G (Stp.refl e) (R.int _)⟩))
  · rename_i i j
    split at ho
    · rename_i hz
      cases ho
      cases (show R K M G x (.str i) from rx)
      cases (show R K M G y (.str j) from ry)
      exact .inl (.inl (.inr ⟨i, j, rfl, rfl, big_line hz, q _ H G (Stp.refl e) (R.str _)⟩))
    · cases ho
  · rename_i xs ys
    split at ho
    · rename_i hz
      cases ho
      obtain ⟨l, us, e1, h1, r1⟩ := rx
      obtain ⟨l', us', e2, h2, r2⟩ := ry
      subst e1; subst e2
      have n1 := r1.len
      have n2 := r2.len
      refine .inl (.inr ⟨l, l', us, us', rfl, rfl, h1, h2, by rw [n1, n2]; exact big_line hz, fun p hp => ?_⟩)
      exact q _ _ G (Stp.newO e hp) ⟨p, us ++ us', rfl, hp, e.free hp, upd_same, r1.app r2⟩
    · cases ho
  · rename_i xs ys
    split at ho
    · rename_i hz
      cases ho
      cases (show R K M G x (.tuple xs) from rx) with
      | tup h1 r1 =>
        rename_i l us
        cases (show R K M G y (.tuple ys) from ry) with
        | tup h2 r2 =>
          rename_i l' us'
          have n1 := r1.len
          have n2 := r2.len
          refine .inr ⟨l, l', us, us', rfl, rfl, same_T e h1, same_T e h2, fun z => ?_, by rw [n1, n2]; exact big_line hz.1, fun z => ?_, fun z p hp => ?_⟩
          · subst z; cases r1; exact hz.2.1 rfl
          · subst z; cases r2; exact (hz.2.2 rfl).elim
          · have s := Stp.new (o := .tup (us ++ us')) e hp
            exact q _ _ _ s (R.tup (.of upd_same) ((r1.app r2).mono s.eg))
    · cases ho
  · cases ho
theorem je_add (C : CxF K X E k) (ha : JE K X M E .op a ta fa) (hb : JE K X M E .op b tb fb) : JE K X M E .fr (.BinOp a .Add b pos) (tOp (rAddAll K) ta tb) (f2 oAdd fa fb) := by
  have hK := C.hK
  subst hK
  exact je_op op_addAll ops_add ha hb
/-! == and != of data -/
def scalD : D → D → Bool
  | .none, .none => true | .none, .int _ => true | .int _, .none => true | .none, .bool _ => true | .bool _, .none => true | .none, .str _ => true | .str _, .none => true
  | .int _, .int _ => true | .bool _, .bool _ => true | .str _, .str _ => true
  | .int _, .str _ => true | .str _, .int _ => true | .bool _, .str _ => true | .str _, .bool _ => true
  | _, _ => false
def oEq (x y : D) : Option D := if scalD x y = true ∨ (SeqAt.shaped x = true ∧ SeqAt.shaped y = true) then some (.bool (PyData.eqv x y)) else none
def oNe (x y : D) : Option D := if scalD x y = true ∨ (SeqAt.shaped x = true ∧ SeqAt.shaped y = true) then some (.bool (!PyData.eqv x y)) else none
theorem RO.dp {K : PySem.W.Frag} {H G : Hp} {v : V} {d : D} (r : RO K M H G v d) (e : Same G H) (c : SeqAt.shaped d = true) : Dp K H v d := R.dp (r.r e) (SeqAt.canLay_of_shaped c)
theorem scal_of {K : PySem.W.Frag} {H G : Hp} {x y : V} {dx dy : D} (rx : RO K M H G x dx) (ry : RO K M H G y dy) (h : scalD dx dy = true) : scal x y = true ∧ decide (x = y) = PyData.eqv dx dy := by
  unfold scalD at h
  split at h
  all_goals first
    | cases h; done
    | skip
  all_goals
    first
      | (rename_i i j
         first
           | (cases (show R K M G x (.int i) from rx))
           | (cases (show R K M G x (.bool i) from rx))
           | (cases (show R K M G x (.str i) from rx))
         first
           | (cases (show R K M G y (.int j) from ry))
           | (cases (show R K M G y (.bool j) from ry))
           | (cases (show R K M G y (.str j) from ry))
         refine ⟨rfl, ?_⟩
         simp only [PyData.eqv]
         first
           | exact dec_int
           | exact dec_bl
           | exact dec_str
           | simp)
      | (rename_i i
         first
           | (cases (show R K M G x .none from rx))
           | (cases (show R K M G x (.int i) from rx))
           | (cases (show R K M G x (.bool i) from rx))
           | (cases (show R K M G x (.str i) from rx))
         first
           | (cases (show R K M G y .none from ry))
           | (cases (show R K M G y (.int i) from ry))
           | (cases (show R K M G y (.bool i) from ry))
           | (cases (show R K M G y (.str i) from ry))
         refine ⟨rfl, ?_⟩
         simp [PyData.eqv])
      | (cases (show R K M G x .none from rx)
         cases (show R K M G y .none from ry)
         refine ⟨rfl, ?_⟩
         simp [PyData.eqv])
def rEqAll (K : PySem.W.Frag) : R2 := fun x y H Q => rEq x y H Q ∨ rEqD K x y H Q
def rNeAll (K : PySem.W.Frag) : R2 := fun x y H Q => rNe x y H Q ∨ rNeD K x y H Q
theorem ops_eq {K : PySem.W.Frag} : OpS K M .cl (rEqAll K) oEq := by
  intro H G x y dx dy dz Q e rx ry ho q
  unfold oEq at ho
  split at ho
  · rename_i hc
    cases ho
    have q' := q _ H G (Stp.refl e) (R.bl (PyData.eqv dx dy))
    rcases hc with hc | ⟨h1, h2⟩
    · obtain ⟨s, d⟩ := scal_of rx ry hc
      exact .inl ⟨s, by rw [d]; exact q'⟩
    · exact .inr ⟨dx, dy, rx.dp e h1, ry.dp e h2, h1, h2, q'⟩
  · cases ho
theorem ops_ne {K : PySem.W.Frag} : OpS K M .cl (rNeAll K) oNe := by
  intro H G x y dx dy dz Q e rx ry ho q
  unfold oNe at ho
  split at ho
  · rename_i hc
    cases ho
    have q' := q _ H G (Stp.refl e) (R.bl (!PyData.eqv dx dy))
    rcases hc with hc | ⟨h1, h2⟩
    · obtain ⟨s, d⟩ := scal_of rx ry hc
      exact .inl ⟨s, by rw [d]; exact q'⟩
    · exact .inr ⟨dx, dy, rx.dp e h1, ry.dp e h2, h1, h2, q'⟩
  · cases ho
theorem je_eq (C : CxF K X E k) (ha : JE K X M E .op a ta fa) (hb : JE K X M E .op b tb fb) : JE K X M E .cl (.Compare a [.Eq] [b] pos) (tOp (rEqAll K) ta tb) (f2 oEq fa fb) := by
  have hK := C.hK
  subst hK
  exact je_cmpR (OpR.or op_eq (op_eqD C.room.units)) ops_eq ha hb (nomark _)
theorem je_ne (C : CxF K X E k) (ha : JE K X M E .op a ta fa) (hb : JE K X M E .op b tb fb) : JE K X M E .cl (.Compare a [.NotEq] [b] pos) (tOp (rNeAll K) ta tb) (f2 oNe fa fb) := by
  have hK := C.hK
  subst hK
  exact je_cmpR (OpR.or op_ne (op_neD C.room.units)) ops_ne ha hb (nomark _)
end
end Py


/-! PyC: in, index, slices, displays, arguments, calls, tests -/
namespace Py
open PySem PySem.Spec PyProof.Rows L2

section
variable {K : PySem.W.Frag} {X : Cx} {M : Pm} {E : XK} {k : Nat} {m : Md} {a b e c : Expr} {ta tb te tc : TE} {fa fb fe fc : Fe} {pos : Pos}

theorem R.tupI {K : PySem.W.Frag} {G : Hp} {v : V} {ds : List D} (r : R K M G v (.tuple ds)) : ∃ p us, v = .ref p ∧ SqT K G p us ∧ RA K M G us ds := by
  cases r with
  | tup h r => exact ⟨_, _, rfl, h, r⟩
/-! ### in, not in -/
def flatD : D → Bool
  | .none => true | .bool _ => true | .int _ => true | .str _ => true
  | _ => false
theorem flat_of {K : PySem.W.Frag} {G : Hp} {v : V} {d : D} (r : R K M G v d) (h : flatD d = true) : flatV v = true ∧ nolist d = true := by
  cases r <;> first | exact ⟨rfl, rfl⟩ | cases h
theorem eqV_of {K : PySem.W.Frag} {G : Hp} {v w : V} {d e : D} (r : R K M G v d) (s : R K M G w e) (h : flatD d = true) (h' : flatD e = true) : eqV v w = PyData.eqv d e := by
  cases r <;> cases s <;> first | (simp only [eqV, PyData.eqv]; done) | cases h; done | cases h'; done
theorem flats_of {K : PySem.W.Frag} {G : Hp} : ∀ {vs : List V} {ds : List D}, RA K M G vs ds → ds.all flatD = true → vs.all flatV = true
  | _, _, .nil, _ => rfl
  | _, _, .cons r t, h => by
    rw [List.all_cons, Bool.and_eq_true] at h
    rw [List.all_cons, (flat_of r h.1).1, flats_of t h.2]
    rfl
theorem inV_of {K : PySem.W.Frag} {G : Hp} {x : V} {dx : D} (rx : R K M G x dx) (hx : flatD dx = true) : ∀ {vs : List V} {ds : List D}, RA K M G vs ds → ds.all flatD = true → inV x vs = ds.any fun z => PyData.eqv z dx
  | _, _, .nil, _ => rfl
  | _, _, .cons (v := v) (vs := vs) (d := d) (ds := ds) r t, h => by
    rw [List.all_cons, Bool.and_eq_true] at h
    have ih := inV_of rx hx t h.2
    show (eqV v x || inV x vs) = (PyData.eqv d dx || ds.any fun z => PyData.eqv z dx)
    rw [eqV_of r rx h.1 hx, ih]
def oIn (neg : Bool) (x : D) : D → Option D
  | .list ds => if SeqAt.shaped x = true ∧ SeqAt.shaped (.list ds) = true then some (.bool (if neg = true then !(ds.any fun z => PyData.eqv z x) else ds.any fun z => PyData.eqv z x)) else none
  | .tuple ds => if flatD x = true ∧ ds.all flatD = true then some (.bool (if neg = true then !(ds.any fun z => PyData.eqv z x) else ds.any fun z => PyData.eqv z x)) else none
  | .str z => match x with
    | .str y => if y.cps.size = 1 then some (.bool (if neg = true then !(decide (y.cps.getD 0 0 ∈ z.cps.toList)) else decide (y.cps.getD 0 0 ∈ z.cps.toList))) else none
    | _ => none
  | _ => none
def rInS1 : R2 := fun x y H Q => ∃ (c : Nat) (z : Str), x = .str ⟨#[c]⟩ ∧ y = .str z ∧ Q (.bl (decide (c ∈ z.cps.toList))) H
def rNiS1 : R2 := fun x y H Q => ∃ (c : Nat) (z : Str), x = .str ⟨#[c]⟩ ∧ y = .str z ∧ Q (.bl (!decide (c ∈ z.cps.toList))) H
def rInAll (K : PySem.W.Frag) : R2 := fun x y H Q => (rIn K false x y H Q ∨ rInD K x y H Q) ∨ rInS1 x y H Q
def rNiAll (K : PySem.W.Frag) : R2 := fun x y H Q => (rIn K true x y H Q ∨ rNotInD K x y H Q) ∨ rNiS1 x y H Q
theorem one_sign {y : Str} (h : y.cps.size = 1) : y = ⟨#[y.cps.getD 0 0]⟩ := by
  obtain ⟨cps⟩ := y
  congr 1
  apply Array.ext
  · simpa using h
  · intro i h1 h2
    have e : i = 0 := by simp at h2; exact h2
    subst e
    simp [Array.getD, h1]
theorem ops_in {K : PySem.W.Frag} : OpS K M .cl (rInAll K) (oIn false) := by
  intro H G x y dx dy dz Q e rx ry ho q
  unfold oIn at ho
  split at ho
  · rename_i ds
    split at ho
    · rename_i hc
      cases ho
      exact .inl (.inr ⟨dx, ds, rx.dp e hc.1, RO.dp ry e hc.2, hc.1, hc.2, q _ H G (Stp.refl e) (R.bl _)⟩)
    · cases ho
  · rename_i ds
    split at ho
    · rename_i hc
      cases ho
      cases (show R K M G y (.tuple ds) from ry) with
      | tup h r =>
        rename_i p us
        have nl : nolist dx = true := by
          have := hc.1
          cases dx <;> first | rfl | cases this
        have rx' := rx.nolist nl
        have q' := q _ H G (Stp.refl e) (R.bl (ds.any fun z => PyData.eqv z dx))
        refine .inl (.inl ⟨p, us, rfl, .inr (same_T e h), (flat_of rx' hc.1).1, flats_of r hc.2, ?_⟩)
        show Q (.bl (inV x us)) H
        rw [inV_of rx' hc.1 r hc.2]
        exact q'
    · cases ho
  · rename_i z
    split at ho
    · rename_i w
      split at ho
      · rename_i hw
        cases ho
        cases (show R K M G y (.str z) from ry)
        cases (show R K M G x (.str w) from rx)
        exact .inr ⟨_, z, congrArg V.str (one_sign hw), rfl, q _ H G (Stp.refl e) (R.bl _)⟩
      · cases ho
    · cases ho
  · cases ho
theorem ops_ni {K : PySem.W.Frag} : OpS K M .cl (rNiAll K) (oIn true) := by
  intro H G x y dx dy dz Q e rx ry ho q
  unfold oIn at ho
  split at ho
  · rename_i ds
    split at ho
    · rename_i hc
      cases ho
      exact .inl (.inr ⟨dx, ds, rx.dp e hc.1, RO.dp ry e hc.2, hc.1, hc.2, q _ H G (Stp.refl e) (R.bl _)⟩)
    · cases ho
  · rename_i ds
    split at ho
    · rename_i hc
      cases ho
      cases (show R K M G y (.tuple ds) from ry) with
      | tup h r =>
        rename_i p us
        have nl : nolist dx = true := by
          have := hc.1
          cases dx <;> first | rfl | cases this
        have rx' := rx.nolist nl
        have q' := q _ H G (Stp.refl e) (R.bl (!ds.any fun z => PyData.eqv z dx))
        refine .inl (.inl ⟨p, us, rfl, .inr (same_T e h), (flat_of rx' hc.1).1, flats_of r hc.2, ?_⟩)
        show Q (.bl (!inV x us)) H
        rw [inV_of rx' hc.1 r hc.2]
        exact q'
    · cases ho
  · rename_i z
    split at ho
    · rename_i w
      split at ho
      · rename_i hw
        cases ho
        cases (show R K M G y (.str z) from ry)
        cases (show R K M G x (.str w) from rx)
        exact .inr ⟨_, z, congrArg V.str (one_sign hw), rfl, q _ H G (Stp.refl e) (R.bl _)⟩
      · cases ho
    · cases ho
  · cases ho
theorem je_in (C : CxF K X E k) (ha : JE K X M E .op a ta fa) (hb : JE K X M E .op b tb fb) (hm : behindInMarks .In b = false := by rfl) : JE K X M E .cl (.Compare a [.In] [b] pos) (tOp (rInAll K) ta tb) (f2 (oIn false) fa fb) := by
  have hK := C.hK
  subst hK
  exact je_cmpR (OpR.or (OpR.or op_in_seq (op_inD (by have := C.room.un; omega))) op_in_sign) ops_in ha hb hm
theorem je_ni (C : CxF K X E k) (ha : JE K X M E .op a ta fa) (hb : JE K X M E .op b tb fb) (hm : behindInMarks .NotIn b = false := by rfl) : JE K X M E .cl (.Compare a [.NotIn] [b] pos) (tOp (rNiAll K) ta tb) (f2 (oIn true) fa fb) := by
  have hK := C.hK
  subst hK
  exact je_cmpR (OpR.or (OpR.or op_notIn_seq (op_notInD (by have := C.room.un; omega))) op_notIn_sign) ops_ni ha hb hm
/-! ### an item -/
def oIx : D → D → Option D
  | .list ds, .int i => atI ds i
  | .tuple ds, .int i => atI ds i
  | .str z, .int i => if z.length ≤ big then (match atI z.cps.toList i with | some c => some (.str ⟨#[c]⟩) | none => none) else none
  | _, _ => none
theorem RA.at {K : PySem.W.Frag} {G : Hp} {vs : List V} {ds : List D} {i : Int} {d : D} (r : RA K M G vs ds) (h : atI ds i = some d) : ∃ v, atI vs i = some v ∧ R K M G v d := by
  unfold atI at h ⊢
  rw [r.len]
  cases e : ixN ds.length i with
  | none => rw [e] at h; cases h
  | some j =>
    rw [e] at h
    exact r.get (show ds[j]? = some d from h)
theorem ops_ix {K : PySem.W.Frag} : OpS K M .cl (rIx K) oIx := by
  intro H G x y dx dy dz Q e rx ry ho q
  unfold oIx at ho
  split at ho
  · rename_i ds i
    obtain ⟨p, us, e1, h, r⟩ := rx
    subst e1
    cases (show R K M G y (.int i) from ry)
    obtain ⟨v, h1, h2⟩ := r.at ho
    exact .inl ⟨p, us, i, v, rfl, rfl, h, h1, q v H G (Stp.refl e) h2⟩
  · rename_i ds i
    cases (show R K M G x (.tuple ds) from rx) with
    | tup h r =>
      rename_i p us
      cases (show R K M G y (.int i) from ry)
      obtain ⟨v, h1, h2⟩ := r.at ho
      exact .inr (.inl ⟨p, us, i, v, rfl, rfl, same_T e h, h1, q v H G (Stp.refl e) h2⟩)
  · rename_i z i
    split at ho
    · rename_i hz
      cases hc : atI z.cps.toList i with
      | none => rw [hc] at ho; cases ho
      | some c =>
        rw [hc] at ho
        cases ho
        cases (show R K M G x (.str z) from rx)
        cases (show R K M G y (.int i) from ry)
        exact .inr (.inr ⟨z, i, c, rfl, rfl, big_line hz, hc, q _ H G (Stp.refl e) (R.str _)⟩)
    · cases ho
  · cases ho
theorem je_ix (C : CxF K X E k) (ha : JE K X M E .op a ta fa) (hb : JE K X M E .op b tb fb) (hs : PlainIx b := by exact fun _ _ => rfl) : JE K X M E .cl (.Subscript a b pos) (tOp (rIx K) ta tb) (f2 oIx fa fb) := by
  have hK := C.hK
  subst hK
  exact je_ixR ix_seq ops_ix ha hb hs
/-! ### slices -/
inductive Ri | ok (o : Option Int) | er (c : Str)
abbrev Fi := Ge → Option Ri
def PostI (M : Pm) (E : XK) (H G : Hp) (Q : Option Int → Hp → Prop) : Ri → Prop
  | .ok o => ∀ H' G', Stp H G H' G' → Q o H'
  | .er c => ∀ H' G', Stp H G H' G' → E (M.exc c) none H'
def IO (K : PySem.W.Frag) (M : Pm) (E : XK) (t : L2.TO) (f : Fi) : Prop := ∀ (H0 G0 : Hp) (γ : Ge) (σ : L2.St) (H G : Hp) (Q : Option Int → Hp → Prop) (r : Ri), EnvR K M H0 G0 γ σ H G → f γ = some r → PostI M E H G Q r → t σ H Q
structure JI' (K : PySem.W.Frag) (X : Cx) (M : Pm) (E : XK) (e : Option Expr) (t : L2.TO) (f : Fi) : Prop where
  po : PO X e t
  io : IO K M E t f
def fiNo : Fi := fun _ => some (.ok none)
def fiSm (a : Fe) : Fi := fun γ => match a γ with
  | some (.ok (.int i)) => some (.ok (some i))
  | some (.er c) => some (.er c)
  | _ => none
theorem ji_no : JI' K X M E none tNoPart fiNo := ⟨po_none, fun H0 G0 γ σ H G Q r ev hf p => by cases hf; exact p H G (Stp.refl ev.sub)⟩
theorem ji_sm (ha : JE K X M E .op a ta fa) : JI' K X M E (some a) (tPart ta) (fiSm fa) := ⟨po_some ha.pe, fun H0 G0 γ σ H G Q r ev hf p => by
  unfold fiSm at hf
  split at hf
  · rename_i i e1
    cases hf
    refine ha.eo H0 G0 γ σ H G _ _ ev e1 fun v H1 G1 s r => ?_
    cases (show R K M G1 v (.int i) from r)
    exact ⟨i, rfl, p H1 G1 s⟩
  · rename_i c e1
    cases hf
    exact ha.eo H0 G0 γ σ H G _ _ ev e1 p
  · cases hf⟩
def cutD (xs : List D) (lo hi : Option Int) : List D := (xs.drop (HT.sIx xs.length 0 lo)).take (HT.sIx xs.length xs.length hi - HT.sIx xs.length 0 lo)
def oSl (lo hi : Option Int) : D → Option D
  | .list ds => some (.list (cutD ds lo hi))
  | .tuple ds => if HT.sIx ds.length 0 lo = 0 ∧ HT.sIx ds.length ds.length hi = ds.length then none else some (.tuple (cutD ds lo hi))
  | .str z => if z.length ≤ big then some (.str (cutS z lo hi)) else none
  | _ => none
def rSlAll (K : PySem.W.Frag) : V → Option Int → Option Int → Hp → VK → Prop := fun x lo hi H Q => (rSlL K x lo hi H Q ∨ rSlT K x lo hi H Q) ∨ rSlS x lo hi H Q
theorem sl_all : L2.SlR X (rSlAll X.K) := L2.SlR.or (L2.SlR.or sl_list sl_tup) sl_str
theorem RA.cut {K : PySem.W.Frag} {G : Hp} {vs : List V} {ds : List D} (r : RA K M G vs ds) (lo hi : Option Int) : RA K M G (cutV vs lo hi) (cutD ds lo hi) := by
  unfold cutV cutD
  rw [r.len]
  exact (r.drop _).take _
theorem sl_snd {K : PySem.W.Frag} {H G : Hp} {x : V} {dx dz : D} {lo hi : Option Int} {Q : VK} (e : Same G H) (rx : RO K M H G x dx) (ho : oSl lo hi dx = some dz) (q : ∀ v H' G', Stp H G H' G' → Res K M .fr H H' G' v dz → Q v H') : rSlAll K x lo hi H Q := by
  unfold oSl at ho
  split at ho
  · rename_i ds
    cases ho
    obtain ⟨p, us, e1, h, r⟩ := rx
    subst e1
    exact .inl (.inl ⟨p, us, rfl, h, fun p hp => q _ _ G (Stp.newO e hp) ⟨p, _, rfl, hp, e.free hp, upd_same, r.cut lo hi⟩⟩)
  · rename_i ds
    split at ho
    · cases ho
    · rename_i hc
      cases ho
      cases (show R K M G x (.tuple ds) from rx) with
      | tup h r =>
        rename_i p us
        refine .inl (.inr ⟨p, us, rfl, same_T e h, by rw [r.len]; exact hc, fun p hp => ?_⟩)
        have s := Stp.new (o := .tup (cutV us lo hi)) e hp
        exact q _ _ _ s (R.tup (.of upd_same) ((r.cut lo hi).mono s.eg))
  · rename_i z
    split at ho
    · rename_i hz
      cases ho
      cases (show R K M G x (.str z) from rx)
      exact .inr ⟨z, rfl, big_line hz, q _ H G (Stp.refl e) (R.str _)⟩
    · cases ho
  · cases ho
def fSl (a : Fe) (lo hi : Fi) : Fe := fun γ => bR (a γ) fun x => match lo γ with
  | some (.ok l) => (match hi γ with
    | some (.ok u) => oR (oSl l u x)
    | some (.er c) => some (.er c)
    | none => none)
  | some (.er c) => some (.er c)
  | none => none
theorem je_slice {lo hi : Option Expr} {tl th : L2.TO} {fl fh : Fi} {p2 : Pos} (C : CxF K X E k) (ha : JE K X M E .op a ta fa) (hl : JI' K X M E lo tl fl) (hh : JI' K X M E hi th fh) : JE K X M E .fr (.Subscript a (.Slice lo hi none p2) pos) (tSl (rSlAll K) ta tl th) (fSl fa fl fh) := by
  have hK := C.hK
  subst hK
  refine ⟨pe_slice sl_all ha.pe hl.po hh.po, fun H0 G0 γ σ H G Q r ev hf p => ?_⟩
  unfold fSl at hf
  cases e1 : fa γ with
  | none => rw [e1] at hf; cases hf
  | some q1 =>
    rw [e1] at hf
    cases q1 with
    | er c =>
      cases hf
      exact ha.eo H0 G0 γ σ H G _ _ ev e1 p
    | ok dx =>
      refine ha.eo H0 G0 γ σ H G _ _ ev e1 fun x H1 G1 s1 r1 => ?_
      have ev1 := ev.stp s1
      simp only [bR] at hf
      cases e2 : fl γ with
      | none => rw [e2] at hf; cases hf
      | some q2 =>
        rw [e2] at hf
        cases q2 with
        | er c =>
          cases hf
          exact hl.io H0 G0 γ σ H1 G1 _ _ ev1 e2 fun H' G' s' => p H' G' (s1.trans s')
        | ok l =>
          refine hl.io H0 G0 γ σ H1 G1 _ _ ev1 e2 fun H2 G2 s2 => ?_
          have ev2 := ev1.stp s2
          simp only at hf
          cases e3 : fh γ with
          | none => rw [e3] at hf; cases hf
          | some q3 =>
            rw [e3] at hf
            cases q3 with
            | er c =>
              cases hf
              exact hh.io H0 G0 γ σ H2 G2 _ _ ev2 e3 fun H' G' s' => p H' G' ((s1.trans s2).trans s')
            | ok u =>
              refine hh.io H0 G0 γ σ H2 G2 _ _ ev2 e3 fun H3 G3 s3 => ?_
              simp only at hf
              cases e4 : oSl l u dx with
              | none => rw [e4] at hf; cases hf
              | some dz =>
                rw [e4] at hf
                cases hf
                have s23 := s2.trans s3
                exact sl_snd s3.sub (r1.mono s23.ex s23.eg) e4 fun v H' G' s' r' => p v H' G' ((s1.trans s23).trans s') (Res.up (m := .fr) r' (s1.ex.trans s23.ex))
/-- xs[::-1] -/
def oRev : D → Option D
  | .list ds => some (.list ds.reverse)
  | _ => none
theorem je_rev {k1 : Nat} {p1 p2 p3 : Pos} (C : CxF K X E k) (ha : JE K X M E .op a ta fa) : JE K X M E .fr (.Subscript a (.Slice none none (some (.UnaryOp .USub (.Constant (.int 1) k1 p1) p2)) p3) pos) (tRevL K ta) (f1 oRev fa) := by
  have hK := C.hK
  subst hK
  refine ⟨pe_revL ha.pe, fun H0 G0 γ σ H G Q r ev hf p => ?_⟩
  unfold f1 at hf
  cases e1 : fa γ with
  | none => rw [e1] at hf; cases hf
  | some q1 =>
    rw [e1] at hf
    cases q1 with
    | er c =>
      cases hf
      exact ha.eo H0 G0 γ σ H G _ _ ev e1 p
    | ok dx =>
      refine ha.eo H0 G0 γ σ H G _ _ ev e1 fun x H1 G1 s1 r1 => ?_
      cases dx with
      | list ds =>
        cases hf
        obtain ⟨l, us, e2, h, r⟩ := r1
        refine ⟨l, us, e2, h, fun q hq => ?_⟩
        exact p _ _ G1 (s1.trans (Stp.newO s1.sub hq)) ⟨q, _, rfl, s1.ex.free hq, s1.sub.free hq, upd_same, r.rev⟩
      | _ => cases hf

/-! ### arguments, displays -/
theorem ja_nil : JA K X M E [] tNil fNil := ⟨pa_nil, fun H0 G0 γ σ H G Q r ev hf p => by cases hf; exact p [] H G (Stp.refl ev.sub) .nil⟩
theorem jc_nil : JC K X M E [] tNil fNil := ⟨pa_nil, fun H0 G0 γ σ H G Q r ev hf p => by cases hf; exact p [] H G (Stp.refl ev.sub) .nil⟩
theorem ROs.mono {K : PySem.W.Frag} {H H' G G' : Hp} (e : Same H H') (g : Same G G') : ∀ {vs : List V} {ds : List D}, ROs K M H G vs ds → ROs K M H' G' vs ds
  | _, _, .nil => .nil
  | _, _, .cons r t => .cons (RO.mono r e g) (ROs.mono e g t)
theorem ja_cons {es : List Expr} {t : TA} {fr : Fa} (ha : JE K X M E .op a ta fa) (hr : JA K X M E es t fr) (hs : starEach (a :: es) X.env = (false, eval a X.env) :: starEach es X.env := by rfl) : JA K X M E (a :: es) (tCons ta t) (fCons fa fr) := by
  refine ⟨pa_cons ha.pe hr.pa hs, fun H0 G0 γ σ H G Q r ev hf p => ?_⟩
  unfold fCons at hf
  cases e1 : fa γ with
  | none => rw [e1] at hf; cases hf
  | some q1 =>
    rw [e1] at hf
    cases q1 with
    | er c => cases hf; exact ha.eo H0 G0 γ σ H G _ _ ev e1 p
    | ok d =>
      refine ha.eo H0 G0 γ σ H G _ _ ev e1 fun x H1 G1 s1 r1 => ?_
      simp only [bL] at hf
      cases e2 : fr γ with
      | none => rw [e2] at hf; cases hf
      | some q2 =>
        rw [e2] at hf
        cases q2 with
        | er c => cases hf; exact hr.ao H0 G0 γ σ H1 G1 _ _ (ev.stp s1) e2 fun H' G' s' => p H' G' (s1.trans s')
        | ok ds =>
          cases hf
          exact hr.ao H0 G0 γ σ H1 G1 _ _ (ev.stp s1) e2 fun vs H2 G2 s2 r2 => p _ H2 G2 (s1.trans s2) (.cons (r1.mono s2.ex s2.eg) r2)
theorem jc_cons {es : List Expr} {t : TA} {fr : Fa} (ha : JE K X M E .cl a ta fa) (hr : JC K X M E es t fr) (hs : starEach (a :: es) X.env = (false, eval a X.env) :: starEach es X.env := by rfl) : JC K X M E (a :: es) (tCons ta t) (fCons fa fr) := by
  refine ⟨pa_cons ha.pe hr.pa hs, fun H0 G0 γ σ H G Q r ev hf p => ?_⟩
  unfold fCons at hf
  cases e1 : fa γ with
  | none => rw [e1] at hf; cases hf
  | some q1 =>
    rw [e1] at hf
    cases q1 with
    | er c => cases hf; exact ha.eo H0 G0 γ σ H G _ _ ev e1 p
    | ok d =>
      refine ha.eo H0 G0 γ σ H G _ _ ev e1 fun x H1 G1 s1 r1 => ?_
      simp only [bL] at hf
      cases e2 : fr γ with
      | none => rw [e2] at hf; cases hf
      | some q2 =>
        rw [e2] at hf
        cases q2 with
        | er c => cases hf; exact hr.ac H0 G0 γ σ H1 G1 _ _ (ev.stp s1) e2 fun H' G' s' => p H' G' (s1.trans s')
        | ok ds =>
          cases hf
          exact hr.ac H0 G0 γ σ H1 G1 _ _ (ev.stp s1) e2 fun vs H2 G2 s2 r2 => p _ H2 G2 (s1.trans s2) (.cons (R.mono s2.eg r1) r2)
def fTup (a : Fa) : Fe := fun γ => bA (a γ) fun ds => if ds.length ≤ big then some (.ok (.tuple ds)) else none
def fLst (a : Fa) : Fe := fun γ => bA (a γ) fun ds => if ds.length ≤ big then some (.ok (.list ds)) else none
theorem je_tup {es : List Expr} {t : TA} {fr : Fa} {x1 : Nat} (h : JC K X M E es t fr) : JE K X M E .cl (.Tuple es x1 pos) (tTup t) (fTup fr) := by
  refine ⟨pe_tup h.pa, fun H0 G0 γ σ H G Q r ev hf p => ?_⟩
  unfold fTup at hf
  cases e1 : fr γ with
  | none => rw [e1] at hf; cases hf
  | some q1 =>
    rw [e1] at hf
    cases q1 with
    | er c => cases hf; exact h.ac H0 G0 γ σ H G _ _ ev e1 p
    | ok ds =>
      simp only [bA] at hf
      split at hf
      · rename_i hz
        cases hf
        refine h.ac H0 G0 γ σ H G _ _ ev e1 fun vs H1 G1 s1 r1 => ⟨by rw [r1.len]; exact big_line hz, fun q hq => ?_⟩
        have s := Stp.new (o := .tup vs) s1.sub hq
        exact p _ _ _ (s1.trans s) (R.tup (.of upd_same) (r1.mono s.eg))
      · cases hf
theorem je_lst {es : List Expr} {t : TA} {fr : Fa} (h : JC K X M E es t fr) : JE K X M E .fr (.List es pos) (tLst t) (fLst fr) := by
  refine ⟨pe_lst h.pa, fun H0 G0 γ σ H G Q r ev hf p => ?_⟩
  unfold fLst at hf
  cases e1 : fr γ with
  | none => rw [e1] at hf; cases hf
  | some q1 =>
    rw [e1] at hf
    cases q1 with
    | er c => cases hf; exact h.ac H0 G0 γ σ H G _ _ ev e1 p
    | ok ds =>
      simp only [bA] at hf
      split at hf
      · rename_i hz
        cases hf
        refine h.ac H0 G0 γ σ H G _ _ ev e1 fun vs H1 G1 s1 r1 => ⟨by rw [r1.len]; exact big_line hz, fun q hq => ?_⟩
        exact p _ _ _ (s1.trans (Stp.newO s1.sub hq)) ⟨q, vs, rfl, s1.ex.free hq, s1.sub.free hq, upd_same, r1⟩
      · cases hf

/-! ### calls of the text's own defs -/
def spF (K : PySem.W.Frag) (M : Pm) (φ : List D → Option Rs) : Sp := fun vs H Q E => ∃ (G : Hp) (ds : List D) (r : Rs), Same G H ∧ RA K M G vs ds ∧ φ ds = some r ∧ PostE K M E .cl H G Q r
def fCall (φ : List D → Option Rs) (a : Fa) : Fe := fun γ => bA (a γ) φ
theorem passesAt_of {E' : XK} (h : Passes (L2.CX X.prog X.w) X E') : ∀ σ, PassesAt (L2.CX X.prog X.w) X σ ((fun _ => E') σ) := fun σ pins H s e s' I c => h pins σ H s e s' I c
theorem je_call {φ : List D → Option Rs} {j : Nat} {f : Addr} {fd : FuncData} {ps : List Str} {x : Str} {p : Pos} {es : List Expr} {t : TA} {fr : Fa} (C : CxF K X E k)
    (F : FnOk X.prog X.w X.K X.mg X.base (L2.CX X.prog X.w) j f fd ps (spF K M φ)) (hj : j ≤ k) (hb : Binds X.K fd ps []) (hm : X.mg x = some (.ref f)) (hk : PySem.W.keepIn X.K (.ref f) = true) (hg : Gl X x) (ha : JC K X M E (a :: es) t fr)
    (hdb : (x == ("__debug__" : Str)) = false := by decide) (he : starEach (a :: es) X.env = (false, eval a X.env) :: starEach es X.env := by rfl) (hpl : (backTo pos (starEach es X.env)).any (·.1) = false := by rfl) :
    JE K X M E .cl (.Call (.Name x p) (a :: es) [] pos) (tCallS (spF K M φ) (fun _ => E) t) (fCall φ fr) := by
  have hK := C.hK
  subst hK
  refine ⟨pe_callS F (C.room.mono hj) hg hm hk hb (passesAt_of C.pas) ha.pa hdb he hpl, fun H0 G0 γ σ H G Q r ev hf p => ?_⟩
  unfold fCall at hf
  cases e1 : fr γ with
  | none => rw [e1] at hf; cases hf
  | some q1 =>
    rw [e1] at hf
    cases q1 with
    | er c => cases hf; exact ha.ac H0 G0 γ σ H G _ _ ev e1 p
    | ok ds =>
      refine ha.ac H0 G0 γ σ H G _ _ ev e1 fun vs H1 G1 s1 r1 => ⟨G1, ds, r, s1.sub, r1, hf, ?_⟩
      cases r with
      | ok d => exact fun v H' G' s' r' => p v H' G' (s1.trans s') r'
      | er c => exact fun H' G' s' => p H' G' (s1.trans s')
/-- .. its arguments operands (an own list), where a flat datum comes back -/
def fCallO (φ : List D → Option Rs) (a : Fa) : Fe := fun γ => bA (a γ) fun ds => match φ ds with
  | some (.ok d) => if flatD d = true then some (.ok d) else none
  | some (.er c) => some (.er c)
  | none => none
theorem ROs.ra {K : PySem.W.Frag} {H G : Hp} (e : Same G H) : ∀ {vs : List V} {ds : List D}, ROs K M H G vs ds → RA K M H vs ds
  | _, _, .nil => .nil
  | _, _, .cons r t => .cons (RO.r r e) (ROs.ra e t)
theorem flat_any {K : PySem.W.Frag} {G G' : Hp} {v : V} {d : D} (r : R K M G v d) (h : flatD d = true) : R K M G' v d := by
  cases r <;> first | exact .non | exact .bl _ | exact .int _ | exact .str _ | cases h
theorem je_callO {φ : List D → Option Rs} {j : Nat} {f : Addr} {fd : FuncData} {ps : List Str} {x : Str} {p : Pos} {es : List Expr} {t : TA} {fr : Fa} (C : CxF K X E k)
    (F : FnOk X.prog X.w X.K X.mg X.base (L2.CX X.prog X.w) j f fd ps (spF K M φ)) (hj : j ≤ k) (hb : Binds X.K fd ps []) (hm : X.mg x = some (.ref f)) (hk : PySem.W.keepIn X.K (.ref f) = true) (hg : Gl X x) (ha : JA K X M E (a :: es) t fr)
    (hdb : (x == ("__debug__" : Str)) = false := by decide) (he : starEach (a :: es) X.env = (false, eval a X.env) :: starEach es X.env := by rfl) (hpl : (backTo pos (starEach es X.env)).any (·.1) = false := by rfl) :
    JE K X M E .cl (.Call (.Name x p) (a :: es) [] pos) (tCallS (spF K M φ) (fun _ => E) t) (fCallO φ fr) := by
  have hK := C.hK
  subst hK
  refine ⟨pe_callS F (C.room.mono hj) hg hm hk hb (passesAt_of C.pas) ha.pa hdb he hpl, fun H0 G0 γ σ H G Q r ev hf p => ?_⟩
  unfold fCallO at hf
  cases e1 : fr γ with
  | none => rw [e1] at hf; cases hf
  | some q1 =>
    rw [e1] at hf
    cases q1 with
    | er c => cases hf; exact ha.ao H0 G0 γ σ H G _ _ ev e1 p
    | ok ds =>
      refine ha.ao H0 G0 γ σ H G _ _ ev e1 fun vs H1 G1 s1 r1 => ?_
      simp only [bA] at hf
      split at hf
      · rename_i d ed
        split at hf
        · rename_i hfl
          cases hf
          refine ⟨H1, ds, .ok d, Same.refl _, r1.ra s1.sub, ed, fun v H' G' s' r' => ?_⟩
          exact p v H' G1 (s1.trans ⟨s'.ex, Same.refl _, s1.sub.trans s'.ex, fun _ _ _ n => n⟩) (flat_any r' hfl)
        · cases hf
      · rename_i c ed
        cases hf
        exact ⟨H1, ds, .er c, Same.refl _, r1.ra s1.sub, ed, fun H' G' s' => p H' G1 (s1.trans ⟨s'.ex, Same.refl _, s1.sub.trans s'.ex, fun _ _ _ n => n⟩)⟩
      · cases hf

/-! ### calls of built-ins, by values -/
def CallS (K : PySem.W.Frag) (M : Pm) (m : Md) (r : List V → Hp → VK → Prop) (o : List D → Option D) : Prop :=
  ∀ (H G : Hp) (vs : List V) (ds : List D) (dz : D) (Q : VK), Same G H → ROs K M H G vs ds → o ds = some dz → (∀ v H' G', Stp H G H' G' → Res K M m H H' G' v dz → Q v H') → r vs H Q
def fB (o : List D → Option D) (a : Fa) : Fe := fun γ => bA (a γ) fun ds => oR (o ds)
theorem eo_blt {K : PySem.W.Frag} {r : List V → Hp → VK → Prop} {o : List D → Option D} {t : TA} {fr : Fa} (ho : CallS K M m r o) (ha : AO K M E t fr) : EO K M E m (tCB r t) (fB o fr) := by
  intro H0 G0 γ σ H G Q q ev hf p
  unfold fB at hf
  cases e1 : fr γ with
  | none => rw [e1] at hf; cases hf
  | some q1 =>
    rw [e1] at hf
    cases q1 with
    | er c => cases hf; exact ha H0 G0 γ σ H G _ _ ev e1 p
    | ok ds =>
      refine ha H0 G0 γ σ H G _ _ ev e1 fun vs H1 G1 s1 r1 => ?_
      simp only [bA] at hf
      cases e2 : o ds with
      | none => rw [e2] at hf; cases hf
      | some dz =>
        rw [e2] at hf
        cases hf
        exact ho H1 G1 vs ds dz Q s1.sub r1 e2 fun v H' G' s' r' => p v H' G' (s1.trans s') (r'.up s1.ex)
theorem je_callB {r : List V → Hp → VK → Prop} {o : List D → Option D} {t : TA} {fr : Fa} {es : List Expr} {id : String} {x : Str} {p : Pos} (hc : CallR X (.builtin id) r) (ho : CallS K M m r o) (hm : X.mg x = none) (hv : bootBuiltins x = some (.builtin id)) (hg : Gl X x) (ha : JA K X M E (a :: es) t fr)
    (hn : x ≠ "__name__" := by decide) (hdb : (x == ("__debug__" : Str)) = false := by decide)
    (he : starEach (a :: es) X.env = (false, eval a X.env) :: starEach es X.env := by rfl) (hpl : (backTo pos (starEach es X.env)).any (·.1) = false := by rfl) : JE K X M E m (.Call (.Name x p) (a :: es) [] pos) (tCB r t) (fB o fr) :=
  ⟨pe_callB hc hg hm hv ha.pa hn hdb he hpl, eo_blt ho ha.ao⟩
theorem je_callTy {r : List V → Hp → VK → Prop} {o : List D → Option D} {t : TA} {fr : Fa} {es : List Expr} {T : String} {x : Str} {p : Pos} (hc : CallR X (.type T) r) (ho : CallS K M m r o) (hm : X.mg x = none) (hv : bootBuiltins x = some (.type T)) (hg : Gl X x) (ha : JA K X M E (a :: es) t fr)
    (hn : x ≠ "__name__" := by decide) (hdb : (x == ("__debug__" : Str)) = false := by decide)
    (he : starEach (a :: es) X.env = (false, eval a X.env) :: starEach es X.env := by rfl) (hpl : (backTo pos (starEach es X.env)).any (·.1) = false := by rfl) : JE K X M E m (.Call (.Name x p) (a :: es) [] pos) (tCB r t) (fB o fr) :=
  ⟨pe_callTy hc hg hm hv ha.pa hn hdb he hpl, eo_blt ho ha.ao⟩
/-! len -/
def rLenA (K : PySem.W.Frag) : List V → Hp → VK → Prop := fun xs H Q => ∃ x n, xs = [x] ∧ LenV K x H n ∧ Q (.int n) H
def oLen : List D → Option D
  | [.list ds] => some (.int ds.length)
  | [.tuple ds] => some (.int ds.length)
  | [.str z] => if z.length ≤ big then some (.int z.length) else none
  | _ => none
theorem cs_len {K : PySem.W.Frag} : CallS K M .cl (rLenA K) oLen := by
  intro H G vs ds dz Q e r ho q
  unfold oLen at ho
  split at ho
  · rename_i ds
    cases ho
    cases r with
    | cons r t =>
      cases t
      obtain ⟨p, us, e1, h, r⟩ := r
      subst e1
      exact ⟨_, ds.length, rfl, .inl ⟨us, h, r.len.symm⟩, q _ H G (Stp.refl e) (R.int _)⟩
  · rename_i ds
    cases ho
    cases r with
    | cons r t =>
      cases t
      obtain ⟨p, us, e1, h, r2⟩ := R.tupI (show R K M G _ (.tuple ds) from r)
      subst e1
      exact ⟨_, ds.length, rfl, .inr ⟨us, same_T e h, r2.len.symm⟩, q _ H G (Stp.refl e) (R.int _)⟩
  · rename_i z
    split at ho
    · rename_i hz
      cases ho
      cases r with
      | cons r t =>
        cases t
        cases (show R K M G _ (.str z) from r)
        exact ⟨_, z.length, rfl, ⟨big_line hz, rfl⟩, q _ H G (Stp.refl e) (R.int _)⟩
    · cases ho
  · cases ho
theorem je_len {p : Pos} (C : CxF K X E k) (hm : X.mg "len" = none) (hg : Gl X "len") (ha : JE K X M E .op a ta fa) (hs : starEach [a] X.env = (false, eval a X.env) :: starEach [] X.env := by rfl) : JE K X M E .cl (.Call (.Name "len" p) [a] [] pos) (tCB (rLenA K) (tCons ta tNil)) (fB oLen (fCons fa fNil)) := by
  have hK := C.hK
  subst hK
  exact je_callB call_len cs_len hm PySem.boot_len hg (ja_cons ha ja_nil hs) (by decide) (by decide) hs rfl
end
end Py


/-! PyD: tests, truth values, walks, comprehensions -/
namespace Py
open PySem PySem.Spec PyProof.Rows L2

section
variable {K : PySem.W.Frag} {X : Cx} {M : Pm} {E : XK} {k : Nat} {m : Md} {a b e c : Expr} {ta tb te tc : TE} {fa fb fe fc : Fe} {pos : Pos}

/-! ### tests -/
def fT (f : Fe) : Ft := fun γ => match f γ with
  | some (.ok (.bool b)) => some (.ok b)
  | some (.er c) => some (.er c)
  | _ => none
theorem Res.bool {K : PySem.W.Frag} {H0 H G : Hp} {v : V} {b : Bool} (r : Res K M m H0 H G v (.bool b)) : v = .bl b := by
  cases m <;> exact (by cases (show R K M G v (.bool b) from r); rfl)
theorem to_val {K : PySem.W.Frag} (h : EO K M E m ta fa) : TO' K M E (tTest ta) (fT fa) := by
  intro H0 G0 γ σ H G Q r ev hf p
  unfold fT at hf
  split at hf
  · rename_i b e1
    cases hf
    exact h H0 G0 γ σ H G _ _ ev e1 fun v H' G' s r => ⟨b, r.bool, p H' G' s⟩
  · rename_i c e1
    cases hf
    exact h H0 G0 γ σ H G _ _ ev e1 p
  · cases hf
theorem jt_val (h : JE K X M E m a ta fa) (he : ∀ whole, isTrue a X.env whole = (do let v ← whole; standAt a.pos; holding [v] (truthy v)) := by intro _; rfl) : JT K X M E a (tTest ta) (fT fa) := ⟨pt_val h.pe he, to_val h.eo⟩
theorem jt_cmpR {op : CmpOp} {r : R2} {o : D → D → Option D} (hr : OpR X (compareOp op) r) (ho : OpS K M m r o) (ha : JE K X M E .op a ta fa) (hb : JE K X M E .op b tb fb) (hm : behindInMarks op b = false) : JT K X M E (.Compare a [op] [b] pos) (tTest (tOp r ta tb)) (fT (f2 o fa fb)) :=
  ⟨pt_cmpR hr ha.pe hb.pe hm, to_val (eo_op2 ho ha.eo hb.eo)⟩
theorem jt_lt (ha : JE K X M E .op a ta fa) (hb : JE K X M E .op b tb fb) : JT K X M E (.Compare a [.Lt] [b] pos) (tTest (tOp (rI0 fun i j => .bl (decide (i < j))) ta tb)) (fT (f2 oLt fa fb)) := jt_cmpR op_lt (ops_I0 fun _ _ _ => .bl _) ha hb (nomark _)
theorem jt_le (ha : JE K X M E .op a ta fa) (hb : JE K X M E .op b tb fb) : JT K X M E (.Compare a [.LtE] [b] pos) (tTest (tOp (rI0 fun i j => .bl (decide (i ≤ j))) ta tb)) (fT (f2 oLe fa fb)) := jt_cmpR op_le (ops_I0 fun _ _ _ => .bl _) ha hb (nomark _)
theorem jt_gt (ha : JE K X M E .op a ta fa) (hb : JE K X M E .op b tb fb) : JT K X M E (.Compare a [.Gt] [b] pos) (tTest (tOp (rI0 fun i j => .bl (decide (j < i))) ta tb)) (fT (f2 oGt fa fb)) := jt_cmpR op_gt (ops_I0 fun _ _ _ => .bl _) ha hb (nomark _)
theorem jt_ge (ha : JE K X M E .op a ta fa) (hb : JE K X M E .op b tb fb) : JT K X M E (.Compare a [.GtE] [b] pos) (tTest (tOp (rI0 fun i j => .bl (decide (j ≤ i))) ta tb)) (fT (f2 oGe fa fb)) := jt_cmpR op_ge (ops_I0 fun _ _ _ => .bl _) ha hb (nomark _)
theorem jt_eq (C : CxF K X E k) (ha : JE K X M E .op a ta fa) (hb : JE K X M E .op b tb fb) : JT K X M E (.Compare a [.Eq] [b] pos) (tTest (tOp (rEqAll K) ta tb)) (fT (f2 oEq fa fb)) := by
  have hK := C.hK
  subst hK
  exact jt_cmpR (OpR.or op_eq (op_eqD C.room.units)) ops_eq ha hb (nomark _)
theorem jt_ne (C : CxF K X E k) (ha : JE K X M E .op a ta fa) (hb : JE K X M E .op b tb fb) : JT K X M E (.Compare a [.NotEq] [b] pos) (tTest (tOp (rNeAll K) ta tb)) (fT (f2 oNe fa fb)) := by
  have hK := C.hK
  subst hK
  exact jt_cmpR (OpR.or op_ne (op_neD C.room.units)) ops_ne ha hb (nomark _)
theorem jt_in (C : CxF K X E k) (ha : JE K X M E .op a ta fa) (hb : JE K X M E .op b tb fb) (hm : behindInMarks .In b = false := by rfl) : JT K X M E (.Compare a [.In] [b] pos) (tTest (tOp (rInAll K) ta tb)) (fT (f2 (oIn false) fa fb)) := by
  have hK := C.hK
  subst hK
  exact jt_cmpR (OpR.or (OpR.or op_in_seq (op_inD (by have := C.room.un; omega))) op_in_sign) ops_in ha hb hm
theorem jt_ni (C : CxF K X E k) (ha : JE K X M E .op a ta fa) (hb : JE K X M E .op b tb fb) (hm : behindInMarks .NotIn b = false := by rfl) : JT K X M E (.Compare a [.NotIn] [b] pos) (tTest (tOp (rNiAll K) ta tb)) (fT (f2 (oIn true) fa fb)) := by
  have hK := C.hK
  subst hK
  exact jt_cmpR (OpR.or (OpR.or op_notIn_seq (op_notInD (by have := C.room.un; omega))) op_notIn_sign) ops_ni ha hb hm
def gAnd (f g : Ft) : Ft := fun γ => match f γ with
  | some (.ok true) => g γ
  | some (.ok false) => some (.ok false)
  | some (.er c) => some (.er c)
  | none => none
def gOr (f g : Ft) : Ft := fun γ => match f γ with
  | some (.ok false) => g γ
  | some (.ok true) => some (.ok true)
  | some (.er c) => some (.er c)
  | none => none
def gNot (f : Ft) : Ft := fun γ => match f γ with
  | some (.ok b) => some (.ok (!b))
  | some (.er c) => some (.er c)
  | none => none
theorem PostT.up {H G H1 G1 : Hp} {Q : Bool → Hp → Prop} {r : Rb} (s : Stp H G H1 G1) (p : PostT M E H G Q r) : PostT M E H1 G1 Q r := by
  cases r with
  | ok b => exact fun H' G' s' => p H' G' (s.trans s')
  | er c => exact fun H' G' s' => p H' G' (s.trans s')
theorem to_and {K : PySem.W.Frag} {t u : TT} {f g : Ft} (h1 : TO' K M E t f) (h2 : TO' K M E u g) : TO' K M E (tAnd t u) (gAnd f g) := by
  intro H0 G0 γ σ H G Q r ev hf p
  unfold gAnd at hf
  split at hf
  · rename_i e1
    refine h1 H0 G0 γ σ H G _ _ ev e1 fun H' G' s => ?_
    rw [if_pos rfl]
    exact h2 H0 G0 γ σ H' G' Q r (ev.stp s) hf (p.up s)
  · rename_i e1
    cases hf
    refine h1 H0 G0 γ σ H G _ _ ev e1 fun H' G' s => ?_
    rw [if_neg Bool.false_ne_true]
    exact p H' G' s
  · rename_i e1
    cases hf
    exact h1 H0 G0 γ σ H G _ _ ev e1 p
  · cases hf
theorem to_or {K : PySem.W.Frag} {t u : TT} {f g : Ft} (h1 : TO' K M E t f) (h2 : TO' K M E u g) : TO' K M E (tOr t u) (gOr f g) := by
  intro H0 G0 γ σ H G Q r ev hf p
  unfold gOr at hf
  split at hf
  · rename_i e1
    refine h1 H0 G0 γ σ H G _ _ ev e1 fun H' G' s => ?_
    rw [if_neg Bool.false_ne_true]
    exact h2 H0 G0 γ σ H' G' Q r (ev.stp s) hf (p.up s)
  · rename_i e1
    cases hf
    refine h1 H0 G0 γ σ H G _ _ ev e1 fun H' G' s => ?_
    rw [if_pos rfl]
    exact p H' G' s
  · rename_i e1
    cases hf
    exact h1 H0 G0 γ σ H G _ _ ev e1 p
  · cases hf
theorem jt_not {t : TT} {f : Ft} (h : JT K X M E a t f) : JT K X M E (.UnaryOp .Not a pos) (tNot t) (gNot f) := ⟨pt_not h.pt, fun H0 G0 γ σ H G Q r ev hf p => by
  unfold gNot at hf
  split at hf
  · rename_i b e1
    cases hf
    exact h.to H0 G0 γ σ H G _ _ ev e1 p
  · rename_i e1
    cases hf
    exact h.to H0 G0 γ σ H G _ _ ev e1 p
  · cases hf⟩
theorem JW.jt {t : TT} {f : Ft} (h : JW K X M E a t f) : JT K X M E a t f := ⟨h.pw.pt, h.to⟩
theorem jw_and1 {t : TT} {f : Ft} (h : JT K X M E a t f) : JW K X M E (.BoolOp .And [a] pos) t f := ⟨pw_and1 h.pt, h.to⟩
theorem jw_or1 {t : TT} {f : Ft} (h : JT K X M E a t f) : JW K X M E (.BoolOp .Or [a] pos) t f := ⟨pw_or1 h.pt, h.to⟩
theorem jw_and {t u : TT} {f g : Ft} {rest : List Expr} (h : JT K X M E a t f) (h2 : JW K X M E (.BoolOp .And (b :: rest) pos) u g) : JW K X M E (.BoolOp .And (a :: b :: rest) pos) (tAnd t u) (gAnd f g) := ⟨pw_and h.pt h2.pw, to_and h.to h2.to⟩
theorem jw_or {t u : TT} {f g : Ft} {rest : List Expr} (h : JT K X M E a t f) (h2 : JW K X M E (.BoolOp .Or (b :: rest) pos) u g) : JW K X M E (.BoolOp .Or (a :: b :: rest) pos) (tOr t u) (gOr f g) := ⟨pw_or h.pt h2.pw, to_or h.to h2.to⟩

/-! ### and, or, not, if as values -/
def fAnd (f g : Fe) : Fe := fun γ => match f γ with
  | some (.ok (.bool true)) => g γ
  | some (.ok (.bool false)) => some (.ok (.bool false))
  | some (.er c) => some (.er c)
  | _ => none
def fOr (f g : Fe) : Fe := fun γ => match f γ with
  | some (.ok (.bool false)) => g γ
  | some (.ok (.bool true)) => some (.ok (.bool true))
  | some (.er c) => some (.er c)
  | _ => none
def fNot (f : Fe) : Fe := fun γ => match f γ with
  | some (.ok (.bool b)) => some (.ok (.bool (!b)))
  | some (.er c) => some (.er c)
  | _ => none
def fIte (t : Ft) (f g : Fe) : Fe := fun γ => match t γ with
  | some (.ok true) => f γ
  | some (.ok false) => g γ
  | some (.er c) => some (.er c)
  | none => none
theorem PostE.up {K : PySem.W.Frag} {H G H1 G1 : Hp} {Q : VK} {r : Rs} (s : Stp H G H1 G1) (p : PostE K M E m H G Q r) : PostE K M E m H1 G1 Q r := by
  cases r with
  | ok b => exact fun v H' G' s' r' => p v H' G' (s.trans s') (r'.up s.ex)
  | er c => exact fun H' G' s' => p H' G' (s.trans s')
theorem je_one {op : PySem.BoolOp} (h : JE K X M E m a ta fa) : JE K X M E m (.BoolOp op [a] pos) ta fa := ⟨pe_one h.pe, h.eo⟩
theorem je_and {rest : List Expr} (ha : JE K X M E .cl a ta fa) (hb : JE K X M E .cl (.BoolOp .And (b :: rest) pos) tb fb) : JE K X M E .cl (.BoolOp .And (a :: b :: rest) pos) (tAndV ta tb) (fAnd fa fb) := by
  refine ⟨pe_and ha.pe hb.pe, fun H0 G0 γ σ H G Q r ev hf p => ?_⟩
  unfold fAnd at hf
  split at hf
  · rename_i e1
    refine ha.eo H0 G0 γ σ H G _ _ ev e1 fun v H' G' s r' => ⟨true, Res.bool (m := .cl) r', ?_⟩
    rw [if_pos rfl]
    exact hb.eo H0 G0 γ σ H' G' Q r (ev.stp s) hf (p.up s)
  · rename_i e1
    cases hf
    refine ha.eo H0 G0 γ σ H G _ _ ev e1 fun v H' G' s r' => ⟨false, Res.bool (m := .cl) r', ?_⟩
    rw [if_neg Bool.false_ne_true]
    exact p _ H' G' s (R.bl false)
  · rename_i e1
    cases hf
    exact ha.eo H0 G0 γ σ H G _ _ ev e1 p
  · cases hf
theorem je_or {rest : List Expr} (ha : JE K X M E .cl a ta fa) (hb : JE K X M E .cl (.BoolOp .Or (b :: rest) pos) tb fb) : JE K X M E .cl (.BoolOp .Or (a :: b :: rest) pos) (tOrV ta tb) (fOr fa fb) := by
  refine ⟨pe_or ha.pe hb.pe, fun H0 G0 γ σ H G Q r ev hf p => ?_⟩
  unfold fOr at hf
  split at hf
  · rename_i e1
    refine ha.eo H0 G0 γ σ H G _ _ ev e1 fun v H' G' s r' => ⟨false, Res.bool (m := .cl) r', ?_⟩
    rw [if_neg Bool.false_ne_true]
    exact hb.eo H0 G0 γ σ H' G' Q r (ev.stp s) hf (p.up s)
  · rename_i e1
    cases hf
    refine ha.eo H0 G0 γ σ H G _ _ ev e1 fun v H' G' s r' => ⟨true, Res.bool (m := .cl) r', ?_⟩
    rw [if_pos rfl]
    exact p _ H' G' s (R.bl true)
  · rename_i e1
    cases hf
    exact ha.eo H0 G0 γ σ H G _ _ ev e1 p
  · cases hf
theorem je_not (ha : JE K X M E .cl a ta fa) : JE K X M E .cl (.UnaryOp .Not a pos) (tNotV ta) (fNot fa) := by
  refine ⟨pe_not ha.pe, fun H0 G0 γ σ H G Q r ev hf p => ?_⟩
  unfold fNot at hf
  split at hf
  · rename_i b e1
    cases hf
    exact ha.eo H0 G0 γ σ H G _ _ ev e1 fun v H' G' s r' => ⟨b, Res.bool (m := .cl) r', p _ H' G' s (R.bl (!b))⟩
  · rename_i e1
    cases hf
    exact ha.eo H0 G0 γ σ H G _ _ ev e1 p
  · cases hf
theorem je_if {t : TT} {f : Ft} (ht : JT K X M E c t f) (ha : JE K X M E m a ta fa) (hb : JE K X M E m b tb fb) : JE K X M E m (.IfExp c a b pos) (tIf t ta tb) (fIte f fa fb) := by
  refine ⟨pe_ifExp ht.pt ha.pe hb.pe, fun H0 G0 γ σ H G Q r ev hf p => ?_⟩
  unfold fIte at hf
  split at hf
  · rename_i e1
    refine ht.to H0 G0 γ σ H G _ _ ev e1 fun H' G' s => ?_
    rw [if_pos rfl]
    exact ha.eo H0 G0 γ σ H' G' Q r (ev.stp s) hf (p.up s)
  · rename_i e1
    refine ht.to H0 G0 γ σ H G _ _ ev e1 fun H' G' s => ?_
    rw [if_neg Bool.false_ne_true]
    exact hb.eo H0 G0 γ σ H' G' Q r (ev.stp s) hf (p.up s)
  · rename_i e1
    cases hf
    exact ht.to H0 G0 γ σ H G _ _ ev e1 p
  · cases hf
/-- -i of a written number -/
def oNeg : D → Option D
  | .int i => some (.int (-i))
  | _ => none
theorem je_neg (ha : JE K X M E .op a ta fa) : JE K X M E .cl (.UnaryOp .USub a pos) (tUn (rU fun i => .int (-i)) ta) (f1 oNeg fa) := by
  refine ⟨pe_un un_neg ha.pe, fun H0 G0 γ σ H G Q r ev hf p => ?_⟩
  unfold f1 at hf
  cases e1 : fa γ with
  | none => rw [e1] at hf; cases hf
  | some q1 =>
    rw [e1] at hf
    cases q1 with
    | er c => cases hf; exact ha.eo H0 G0 γ σ H G _ _ ev e1 p
    | ok d =>
      refine ha.eo H0 G0 γ σ H G _ _ ev e1 fun v H' G' s r' => ?_
      cases d with
      | int i =>
        cases hf
        cases (show R K M G' v (.int i) from r')
        exact ⟨i, rfl, p _ H' G' s (R.int _)⟩
      | _ => cases hf

/-! ### what is walked -/
def ItR (K : PySem.W.Frag) (M : Pm) (J : It) (G1 : Hp) (ds : List D) : Prop := ∀ (H2 G2 : Hp), Same G1 G2 → Same G2 H2 → ∀ i : Nat,
  (i < ds.length → J.go i H2) ∧ (∀ (x : V) (H3 : Hp) (d : D), ds[i]? = some d → J.yld i H2 x H3 → ∃ G3, Stp H2 G2 H3 G3 ∧ R K M G3 x d) ∧ (ds.length ≤ i → J.stop i H2)
def PostR (K : PySem.W.Frag) (M : Pm) (E : XK) (H G : Hp) (Q : It → Hp → Prop) : Rl → Prop
  | .ok ds => ∀ J H' G', Stp H G H' G' → ItR K M J G' ds → Q J H'
  | .er c => ∀ H' G', Stp H G H' G' → E (M.exc c) none H'
def WO (K : PySem.W.Frag) (M : Pm) (E : XK) (t : TI) (f : Fa) : Prop := ∀ (H0 G0 : Hp) (γ : Ge) (σ : L2.St) (H G : Hp) (Q : It → Hp → Prop) (r : Rl), EnvR K M H0 G0 γ σ H G → f γ = some r → PostR K M E H G Q r → t σ H Q
structure JI (K : PySem.W.Frag) (X : Cx) (M : Pm) (E : XK) (tg e : Expr) (t : TI) (f : Fa) : Prop where
  pi : PI X tg e t
  wo : WO K M E t f
def wLst (a : Fe) : Fa := fun γ => match a γ with
  | some (.ok (.list ds)) => some (.ok ds)
  | some (.er c) => some (.er c)
  | _ => none
def wTup (a : Fe) : Fa := fun γ => match a γ with
  | some (.ok (.tuple ds)) => some (.ok ds)
  | some (.er c) => some (.er c)
  | _ => none
def wStr (a : Fe) : Fa := fun γ => match a γ with
  | some (.ok (.str z)) => some (.ok (z.cps.toList.map fun c => .str ⟨#[c]⟩))
  | some (.er c) => some (.er c)
  | _ => none
theorem get_lt {ds : List D} {i : Nat} {d : D} (h : ds[i]? = some d) : i < ds.length := (List.getElem?_eq_some_iff.mp h).1
theorem ji_list {tg : Expr} (C : CxF K X E k) (ha : JE K X M E .cl a ta fa) : JI K X M E tg a (iList K ta) (wLst fa) := by
  have hK := C.hK
  subst hK
  refine ⟨pi_list ha.pe, fun H0 G0 γ σ H G Q r ev hf p => ?_⟩
  unfold wLst at hf
  split at hf
  · rename_i ds e1
    cases hf
    refine ha.eo H0 G0 γ σ H G _ _ ev e1 fun v H1 G1 s1 r1 => ?_
    cases (show R X.K M G1 v (.list ds) from r1) with
    | lst h r =>
      rename_i l us
      refine ⟨l, rfl, ⟨us, s1.sub.seq h⟩, p _ H1 G1 s1 fun H2 G2 g1 g2 i => ⟨fun hi => ?_, fun x H3 d hd y => ?_, fun hi => ?_⟩⟩
      · have hu : i < us.length := by rw [r.len]; exact hi
        exact ⟨us, us[i], (g1.trans g2).seq h, List.getElem?_eq_getElem hu⟩
      · obtain ⟨e3, y⟩ := y
        subst e3
        obtain ⟨v, h1, h2⟩ := r.get hd
        have := y us ((g1.trans g2).seq h)
        rw [h1] at this
        cases this
        exact ⟨G2, Stp.refl g2, h2.mono g1⟩
      · exact ⟨us, (g1.trans g2).seq h, by rw [r.len]; exact hi⟩
  · rename_i e1
    cases hf
    exact ha.eo H0 G0 γ σ H G _ _ ev e1 p
  · cases hf
theorem ji_tup {tg : Expr} (C : CxF K X E k) (ha : JE K X M E .cl a ta fa) : JI K X M E tg a (iTup K ta) (wTup fa) := by
  have hK := C.hK
  subst hK
  refine ⟨pi_tup ha.pe, fun H0 G0 γ σ H G Q r ev hf p => ?_⟩
  unfold wTup at hf
  split at hf
  · rename_i ds e1
    cases hf
    refine ha.eo H0 G0 γ σ H G _ _ ev e1 fun v H1 G1 s1 r1 => ?_
    cases (show R X.K M G1 v (.tuple ds) from r1) with
    | tup h r =>
      rename_i l us
      refine ⟨l, rfl, ⟨us, same_T s1.sub h⟩, p _ H1 G1 s1 fun H2 G2 g1 g2 i => ⟨fun hi => ?_, fun x H3 d hd y => ?_, fun hi => ?_⟩⟩
      · have hu : i < us.length := by rw [r.len]; exact hi
        exact ⟨us, us[i], same_T (g1.trans g2) h, List.getElem?_eq_getElem hu⟩
      · obtain ⟨e3, y⟩ := y
        subst e3
        obtain ⟨v, h1, h2⟩ := r.get hd
        have := y us (same_T (g1.trans g2) h)
        rw [h1] at this
        cases this
        exact ⟨G2, Stp.refl g2, h2.mono g1⟩
      · exact ⟨us, same_T (g1.trans g2) h, by rw [r.len]; exact hi⟩
  · rename_i e1
    cases hf
    exact ha.eo H0 G0 γ σ H G _ _ ev e1 p
  · cases hf
theorem ji_str {tg : Expr} (ha : JE K X M E .cl a ta fa) : JI K X M E tg a (iStr ta) (wStr fa) := by
  refine ⟨pi_str ha.pe, fun H0 G0 γ σ H G Q r ev hf p => ?_⟩
  unfold wStr at hf
  split at hf
  · rename_i z e1
    cases hf
    refine ha.eo H0 G0 γ σ H G _ _ ev e1 fun v H1 G1 s1 r1 => ?_
    cases (show R K M G1 v (.str z) from r1)
    refine ⟨z, rfl, p _ H1 G1 s1 fun H2 G2 g1 g2 i => ⟨fun hi => ?_, fun x H3 d hd y => ?_, fun hi => ?_⟩⟩
    · simpa [Its] using hi
    · obtain ⟨e3, c, hc, e4⟩ := y
      subst e3; subst e4
      rw [List.getElem?_map, Array.getElem?_toList, hc] at hd
      cases hd
      exact ⟨G2, Stp.refl g2, .str _⟩
    · simpa [Its] using hi
  · rename_i e1
    cases hf
    exact ha.eo H0 G0 γ σ H G _ _ ev e1 p
  · cases hf
/-- range(n), range(a, b) -/
def rgD (lo hi : Int) : List D := (List.range (hi - lo).toNat).map fun i => .int (lo + (i : Nat))
def rgOk (lo hi : Int) : Bool := decide (-8000000 ≤ lo) && decide (lo ≤ 8000000) && decide (-8000000 ≤ hi) && decide (hi ≤ 8000000)
theorem rgD_len (lo hi : Int) : (rgD lo hi).length = (hi - lo).toNat := by unfold rgD; rw [List.length_map, List.length_range]
theorem rgD_get {lo hi : Int} {i : Nat} {d : D} (h : (rgD lo hi)[i]? = some d) : d = .int (lo + (i : Nat)) := by
  unfold rgD at h
  rw [List.getElem?_map] at h
  cases e : (List.range (hi - lo).toNat)[i]? with
  | none => rw [e] at h; cases h
  | some j =>
    rw [e] at h
    have hj : i < (List.range (hi - lo).toNat).length := (List.getElem?_eq_some_iff.mp e).1
    rw [List.getElem?_eq_getElem hj] at e
    rw [List.getElem_range] at e
    cases e
    exact (Option.some.inj h).symm
theorem itr_range {K : PySem.W.Frag} {G1 : Hp} (lo hi : Int) : ItR K M (Itr lo (hi - lo).toNat) G1 (rgD lo hi) := by
  intro H2 G2 g1 g2 i
  refine ⟨fun h => by rw [rgD_len] at h; exact h, fun x H3 d hd y => ?_, fun h => by rw [rgD_len] at h; exact h⟩
  obtain ⟨e1, e2⟩ := y
  subst e1; subst e2
  rw [rgD_get hd]
  exact ⟨G2, Stp.refl g2, .int _⟩
def wRg1 (a : Fa) : Fa := fun γ => match a γ with
  | some (.ok [.int j]) => if rgOk 0 j = true then some (.ok (rgD 0 j)) else none
  | some (.er c) => some (.er c)
  | _ => none
def wRg2 (a : Fa) : Fa := fun γ => match a γ with
  | some (.ok [.int i, .int j]) => if rgOk i j = true then some (.ok (rgD i j)) else none
  | some (.er c) => some (.er c)
  | _ => none
theorem rgOk_of {lo hi : Int} (h : rgOk lo hi = true) : -(2 ^ 62) ≤ lo ∧ lo < 2 ^ 62 ∧ -(2 ^ 62) ≤ hi ∧ hi < 2 ^ 62 := by
  unfold rgOk at h
  simp only [Bool.and_eq_true, decide_eq_true_eq] at h
  omega
theorem ji_rg1 {tg : Expr} {p : Pos} (hm : X.mg "range" = none) (hg : Gl X "range") (ha : JE K X M E .op a ta fa) (hs : starEach [a] X.env = [(false, eval a X.env)] := by rfl) (hs2 : starEach [a] X.env = (false, eval a X.env) :: starEach [] X.env := by rfl) :
    JI K X M E tg (.Call (.Name "range" p) [a] [] pos) (iRng1 (tCons ta tNil)) (wRg1 (fCons fa fNil)) := by
  have A := ja_cons ha (ja_nil (K := K) (X := X) (M := M) (E := E)) hs2
  refine ⟨pi_range1 hg hm A.pa hs, fun H0 G0 γ σ H G Q r ev hf p => ?_⟩
  unfold wRg1 at hf
  split at hf
  · rename_i j e1
    split at hf
    · rename_i hr
      cases hf
      refine A.ao H0 G0 γ σ H G _ _ ev e1 fun vs H1 G1 s1 r1 => ?_
      cases r1 with
      | cons r t =>
        cases t
        cases (show R K M G1 _ (.int j) from r)
        obtain ⟨_, _, h3, h4⟩ := rgOk_of hr
        refine ⟨j, rfl, h3, h4, p _ H1 G1 s1 ?_⟩
        have := itr_range (K := K) (M := M) (G1 := G1) 0 j
        rw [Int.sub_zero] at this
        exact this
    · cases hf
  · rename_i e1
    cases hf
    exact A.ao H0 G0 γ σ H G _ _ ev e1 p
  · cases hf
theorem ji_rg2 {tg : Expr} {p : Pos} (hm : X.mg "range" = none) (hg : Gl X "range") (ha : JE K X M E .op a ta fa) (hb : JE K X M E .op b tb fb) (hs : starEach [a, b] X.env = [(false, eval a X.env), (false, eval b X.env)] := by rfl) (hs2 : starEach [b] X.env = [(false, eval b X.env)] := by rfl)
    (hs3 : starEach [a, b] X.env = (false, eval a X.env) :: starEach [b] X.env := by rfl) (hs4 : starEach [b] X.env = (false, eval b X.env) :: starEach [] X.env := by rfl) :
    JI K X M E tg (.Call (.Name "range" p) [a, b] [] pos) (iRng2 (tCons ta (tCons tb tNil))) (wRg2 (fCons fa (fCons fb fNil))) := by
  have A := ja_cons ha (ja_cons hb (ja_nil (K := K) (X := X) (M := M) (E := E)) hs4) hs3
  refine ⟨pi_range2 hg hm A.pa hs hs2, fun H0 G0 γ σ H G Q r ev hf p => ?_⟩
  unfold wRg2 at hf
  split at hf
  · rename_i i j e1
    split at hf
    · rename_i hr
      cases hf
      refine A.ao H0 G0 γ σ H G _ _ ev e1 fun vs H1 G1 s1 r1 => ?_
      cases r1 with
      | cons r t =>
        cases t with
        | cons r' t =>
          cases t
          cases (show R K M G1 _ (.int i) from r)
          cases (show R K M G1 _ (.int j) from r')
          exact ⟨i, j, rfl, rgOk_of hr, p _ H1 G1 s1 (itr_range i j)⟩
    · cases hf
  · rename_i e1
    cases hf
    exact A.ao H0 G0 γ σ H G _ _ ev e1 p
  · cases hf
/-- zip(xs, ys) -/
def wZip (a : Fa) : Fa := fun γ => match a γ with
  | some (.ok [.list xs, .list ys]) => some (.ok ((xs.zip ys).map fun p => .tuple [p.1, p.2]))
  | some (.er c) => some (.er c)
  | _ => none
theorem zip_get {xs ys : List D} {i : Nat} {d : D} (h : ((xs.zip ys).map fun p => PyData.tuple [p.1, p.2])[i]? = some d) : ∃ x y, xs[i]? = some x ∧ ys[i]? = some y ∧ d = .tuple [x, y] := by
  rw [List.getElem?_map] at h
  cases e : (xs.zip ys)[i]? with
  | none => rw [e] at h; cases h
  | some q =>
    rw [e] at h
    obtain ⟨x, y⟩ := q
    rw [List.getElem?_zip_eq_some] at e
    exact ⟨x, y, e.1, e.2, (Option.some.inj h).symm⟩
end
end Py


/-! PyE: zip, enumerate, targets, comprehensions -/
namespace Py
open PySem PySem.Spec PyProof.Rows L2

section
variable {K : PySem.W.Frag} {X : Cx} {M : Pm} {E : XK} {k : Nat} {m : Md} {a b e c : Expr} {ta tb te tc : TE} {fa fb fe fc : Fe} {pos : Pos}
theorem ji_zip {es : List Expr} {kk : Nat} {tpos p : Pos} (C : CxF K X E k) (hm : X.mg "zip" = none) (hg : Gl X "zip") (ha : JE K X M E .cl a ta fa) (hb : JE K X M E .cl b tb fb)
    (hs3 : starEach [a, b] X.env = (false, eval a X.env) :: starEach [b] X.env := by rfl) (hs4 : starEach [b] X.env = (false, eval b X.env) :: starEach [] X.env := by rfl) (hpl : (backTo pos (starEach [b] X.env)).any (·.1) = false := by rfl) :
    JI K X M E (.Tuple es kk tpos) (.Call (.Name "zip" p) [a, b] [] pos) (iZip K (tCons ta (tCons tb tNil))) (wZip (fCons fa (fCons fb fNil))) := by
  have hK := C.hK
  subst hK
  have A := jc_cons ha (jc_cons hb (jc_nil (K := X.K) (X := X) (M := M) (E := E)) hs4) hs3
  refine ⟨pi_zip hg hm A.pa hs3 hpl, fun H0 G0 γ σ H G Q r ev hf p => ?_⟩
  unfold wZip at hf
  split at hf
  · rename_i xs ys e1
    cases hf
    refine A.ac H0 G0 γ σ H G _ _ ev e1 fun vs H1 G1 s1 r1 => ?_
    cases r1 with
    | cons r t =>
      cases t with
      | cons r' t =>
        cases t
        cases (show R X.K M G1 _ (.list xs) from r) with
        | lst h rx =>
          rename_i l us
          cases (show R X.K M G1 _ (.list ys) from r') with
          | lst h' ry =>
            rename_i l' us'
            refine ⟨l, l', us, us', rfl, s1.sub.seq h, s1.sub.seq h', p _ H1 G1 s1 fun H2 G2 g1 g2 i => ⟨fun hi => ?_, fun x H3 d hd y => ?_, fun hi => ?_⟩⟩
            · rw [List.length_map, List.length_zip] at hi
              have hu : i < us.length := by rw [rx.len]; omega
              have hu' : i < us'.length := by rw [ry.len]; omega
              exact ⟨us, us', us[i], us'[i], (g1.trans g2).seq h, (g1.trans g2).seq h', List.getElem?_eq_getElem hu, List.getElem?_eq_getElem hu'⟩
            · obtain ⟨T, x1, y1, e2, nT, e3, f1, f2⟩ := y
              subst e2; subst e3
              obtain ⟨dx, dy, h1, h2, e4⟩ := zip_get hd
              subst e4
              obtain ⟨v, q1, q2⟩ := rx.get h1
              obtain ⟨v', q1', q2'⟩ := ry.get h2
              have z1 := f1 us ((g1.trans g2).seq h)
              have z2 := f2 us' ((g1.trans g2).seq h')
              obtain rfl : v = x1 := Option.some.inj (q1.symm.trans z1)
              obtain rfl : v' = y1 := Option.some.inj (q1'.symm.trans z2)
              have s := Stp.new (o := .tup [v, v']) g2 nT
              exact ⟨_, s, R.tup (.of upd_same) (.cons (R.mono s.eg (q2.mono g1)) (.cons (R.mono s.eg (q2'.mono g1)) .nil))⟩
            · rw [List.length_map, List.length_zip] at hi
              refine ⟨us, us', (g1.trans g2).seq h, (g1.trans g2).seq h', ?_⟩
              rw [rx.len, ry.len]
              omega
  · rename_i e1
    cases hf
    exact A.ac H0 G0 γ σ H G _ _ ev e1 p
  · cases hf
def enD (ds : List D) : List D := (List.range ds.length).map fun i => .tuple [.int (i : Nat), ds.getD i .none]
def wEnum (a : Fa) : Fa := fun γ => match a γ with
  | some (.ok [.list xs]) => some (.ok (enD xs))
  | some (.er c) => some (.er c)
  | _ => none
theorem enD_get {ds : List D} {i : Nat} {d : D} (h : (enD ds)[i]? = some d) : ∃ x, ds[i]? = some x ∧ d = .tuple [.int (i : Nat), x] := by
  unfold enD at h
  rw [List.getElem?_map] at h
  cases e : (List.range ds.length)[i]? with
  | none => rw [e] at h; cases h
  | some j =>
    rw [e] at h
    have hj : i < (List.range ds.length).length := (List.getElem?_eq_some_iff.mp e).1
    rw [List.getElem?_eq_getElem hj, List.getElem_range] at e
    cases e
    rw [List.length_range] at hj
    refine ⟨ds[i], List.getElem?_eq_getElem hj, ?_⟩
    have h := (Option.some.inj h).symm
    rw [h]
    simp [List.getD, hj]
theorem ji_enum {es : List Expr} {kk : Nat} {tpos p : Pos} (C : CxF K X E k) (hm : X.mg "enumerate" = none) (hg : Gl X "enumerate") (ha : JE K X M E .cl a ta fa)
    (hs : starEach [a] X.env = [(false, eval a X.env)] := by rfl) (hs4 : starEach [a] X.env = (false, eval a X.env) :: starEach [] X.env := by rfl) :
    JI K X M E (.Tuple es kk tpos) (.Call (.Name "enumerate" p) [a] [] pos) (iEnum K (tCons ta tNil)) (wEnum (fCons fa fNil)) := by
  have hK := C.hK
  subst hK
  have A := jc_cons ha (jc_nil (K := X.K) (X := X) (M := M) (E := E)) hs4
  refine ⟨pi_enum hg hm A.pa hs, fun H0 G0 γ σ H G Q r ev hf p => ?_⟩
  unfold wEnum at hf
  split at hf
  · rename_i xs e1
    cases hf
    refine A.ac H0 G0 γ σ H G _ _ ev e1 fun vs H1 G1 s1 r1 => ?_
    cases r1 with
    | cons r t =>
      cases t
      cases (show R X.K M G1 _ (.list xs) from r) with
      | lst h rx =>
        rename_i l us
        have hlen : (enD xs).length = xs.length := by unfold enD; rw [List.length_map, List.length_range]
        refine ⟨l, us, rfl, s1.sub.seq h, p _ H1 G1 s1 fun H2 G2 g1 g2 i => ⟨fun hi => ?_, fun x H3 d hd y => ?_, fun hi => ?_⟩⟩
        · rw [hlen] at hi
          have hu : i < us.length := by rw [rx.len]; omega
          exact ⟨us, us[i], (g1.trans g2).seq h, List.getElem?_eq_getElem hu⟩
        · obtain ⟨T, x1, e2, nT, e3, f1⟩ := y
          subst e2; subst e3
          obtain ⟨dx, h1, e4⟩ := enD_get hd
          subst e4
          obtain ⟨v, q1, q2⟩ := rx.get h1
          have z1 := f1 us ((g1.trans g2).seq h)
          obtain rfl : v = x1 := Option.some.inj (q1.symm.trans z1)
          have s := Stp.new (o := .tup [.int (i : Nat), v]) g2 nT
          exact ⟨_, s, R.tup (.of upd_same) (.cons (R.int _) (.cons (R.mono s.eg (q2.mono g1)) .nil))⟩
        · rw [hlen] at hi
          exact ⟨us, (g1.trans g2).seq h, by rw [rx.len]; exact hi⟩
  · rename_i e1
    cases hf
    exact A.ac H0 G0 γ σ H G _ _ ev e1 p
  · cases hf

/-! ### targets -/
def Sets (js : List Nat) (σ σ' : L2.St) : Prop := ∀ vs : List Nat, (∀ j ∈ js, j ∈ vs) → wipe σ' vs = wipe σ vs
def GO (K : PySem.W.Frag) (M : Pm) (js : List Nat) (g : TG) (gf : D → Ge → Option Ge) : Prop := ∀ (H0 G0 : Hp) (γ γ' : Ge) (σ : L2.St) (H G : Hp) (v : V) (d : D) (Q : L2.St → Hp → Prop), EnvR K M H0 G0 γ σ H G → R K M G v d → gf d γ = some γ' →
  (∀ σ', EnvR K M H0 G0 γ' σ' H G → Sets js σ σ' → Q σ' H) → g v σ H Q
structure JG (K : PySem.W.Frag) (X : Cx) (M : Pm) (tg : Expr) (js : List Nat) (g : TG) (gf : D → Ge → Option Ge) : Prop where
  pg : PG X tg g
  go : GO K M js g gf
def gfN (i : Nat) : D → Ge → Option Ge := fun d γ => some (γ.set i (.va d))
theorem wipe_set {σ : L2.St} {j : Nat} {x : Option V} : ∀ {vs : List Nat}, j ∈ vs → wipe (σ.set j x) vs = wipe σ vs
  | [], h => by cases h
  | v :: vs, h => by
    unfold wipe
    by_cases e : v = j
    · subst e
      by_cases hm : v ∈ vs
      · rw [wipe_set hm]
      · have key : ∀ (vs : List Nat), v ∉ vs → ((wipe (σ.set v x) vs).set v none) = ((wipe σ vs).set v none) := by
          intro vs
          induction vs with
          | nil => intro _; show (σ.set v x).set v none = σ.set v none; rw [List.set_set]
          | cons w ws ih =>
            intro hn
            have h1 : v ≠ w := fun z => hn (z ▸ List.mem_cons_self)
            have h2 : v ∉ ws := fun z => hn (List.mem_cons_of_mem _ z)
            show ((wipe (σ.set v x) ws).set w none).set v none = ((wipe σ ws).set w none).set v none
            rw [List.set_comm _ _ (Ne.symm h1), ih h2, List.set_comm _ _ h1]
        exact key vs hm
    · rcases List.mem_cons.mp h with z | z
      · exact absurd z.symm e
      · rw [wipe_set z]
theorem wipe_wipe (σ : L2.St) : ∀ vs : List Nat, wipe (wipe σ vs) vs = wipe σ vs := by
  have key : ∀ (ws vs : List Nat), (∀ w ∈ ws, w ∈ vs) → wipe (wipe σ ws) vs = wipe σ vs := by
    intro ws
    induction ws with
    | nil => intro vs _; rfl
    | cons w ws ih =>
      intro vs h
      show wipe ((wipe σ ws).set w none) vs = wipe σ vs
      rw [wipe_set (h w List.mem_cons_self), ih vs fun z hz => h z (List.mem_cons_of_mem _ hz)]
  intro vs
  exact key vs vs fun _ h => h
theorem jg_name {i : Nat} {x : Str} (hN : X.N.Nodup) (hi : X.N[i]? = some x := by rfl) (hx : Loc X.env.scope x := by first | exact Or.inl rfl | exact Or.inr rfl) (hf : X.fn x = true ∨ X.env.scope.names.lookup x = some .local := by first | exact .inl rfl | exact .inr rfl) : JG K X M (.Name x pos) [i] (gName i) (gfN i) :=
  ⟨pg_name hN hi hx hf, fun H0 G0 γ γ' σ H G v d Q ev r hg q => by
    cases hg
    exact q _ (ev.setv r) fun vs h => wipe_set (h i (by simp))⟩
def GsO (K : PySem.W.Frag) (M : Pm) (js : List Nat) (g : TGs) (gf : List D → Ge → Option Ge) : Prop := ∀ (H0 G0 : Hp) (γ γ' : Ge) (σ : L2.St) (H G : Hp) (vs : List V) (ds : List D) (Q : L2.St → Hp → Prop), EnvR K M H0 G0 γ σ H G → RA K M G vs ds → gf ds γ = some γ' →
  (∀ σ', EnvR K M H0 G0 γ' σ' H G → Sets js σ σ' → Q σ' H) → g vs σ H Q
structure JGs (K : PySem.W.Frag) (X : Cx) (M : Pm) (tgs : List Expr) (js : List Nat) (g : TGs) (gf : List D → Ge → Option Ge) : Prop where
  pg : PGs X tgs g
  go : GsO K M js g gf
def gsNil : List D → Ge → Option Ge
  | [], γ => some γ
  | _ :: _, _ => none
def gsCons (g : D → Ge → Option Ge) (h : List D → Ge → Option Ge) : List D → Ge → Option Ge
  | [], _ => none
  | d :: ds, γ => match g d γ with
    | some γ1 => h ds γ1
    | none => none
def gfTup (g : List D → Ge → Option Ge) : D → Ge → Option Ge
  | .tuple ds, γ => g ds γ
  | _, _ => none
theorem jgs_nil : JGs K X M [] [] gNil gsNil := ⟨pgs_nil, fun H0 G0 γ γ' σ H G vs ds Q ev r hg q => by
  cases r with
  | nil => cases hg; exact ⟨rfl, q σ ev fun _ _ => rfl⟩
  | cons _ _ => cases hg⟩
theorem jgs_cons {tg : Expr} {tgs : List Expr} {js js' : List Nat} {g : TG} {gs : TGs} {gf : D → Ge → Option Ge} {gfs : List D → Ge → Option Ge} (h1 : JG K X M tg js g gf) (h2 : JGs K X M tgs js' gs gfs)
    (hs : (assignEach (tg :: tgs) X.env).map (·.2) = assign tg X.env :: (assignEach tgs X.env).map (·.2) := by rfl) : JGs K X M (tg :: tgs) (js ++ js') (gCons g gs) (gsCons gf gfs) := ⟨pgs_cons h1.pg h2.pg hs, fun H0 G0 γ γ' σ H G vs ds Q ev r hg q => by
  cases r with
  | nil => cases hg
  | cons r t =>
    unfold gsCons at hg
    simp only at hg
    split at hg
    · rename_i γ1 e1
      refine ⟨_, _, rfl, h1.go H0 G0 γ γ1 σ H G _ _ _ ev r e1 fun σ1 ev1 s1 => ?_⟩
      exact h2.go H0 G0 γ1 γ' σ1 H G _ _ _ ev1 t hg fun σ2 ev2 s2 => q σ2 ev2 fun ws h => by
        rw [s2 ws fun j hj => h j (List.mem_append_right _ hj), s1 ws fun j hj => h j (List.mem_append_left _ hj)]
    · cases hg⟩
theorem jg_tup {es : List Expr} {kk : Nat} {js : List Nat} {g : TGs} {gf : List D → Ge → Option Ge} {n : Nat} (C : CxF K X E k) (h : JGs K X M es js g gf)
    (hl : ∀ ds γ γ', gf ds γ = some γ' → ds.length = n) (hn : (assignEach es X.env).length = n := by rfl) (hst : (assignEach es X.env).findIdx? (·.1) = none := by rfl) : JG K X M (.Tuple es kk pos) js (gTup K n g) (gfTup gf) := by
  have hK := C.hK
  subst hK
  exact ⟨pg_tup C.calm h.pg hn hst, fun H0 G0 γ γ' σ H G v d Q ev r hg q => by
  unfold gfTup at hg
  split at hg
  · rename_i ds
    cases r with
    | tup hs rs =>
      exact ⟨_, _, rfl, same_T ev.sub hs, by rw [rs.len]; exact hl _ _ _ hg, h.go H0 G0 γ γ' σ H G _ _ Q ev rs hg q⟩
  · cases hg⟩
theorem gs2_len {g h : D → Ge → Option Ge} (ds : List D) (γ γ' : Ge) (e : gsCons g (gsCons h gsNil) ds γ = some γ') : ds.length = 2 := by
  cases ds with
  | nil => cases e
  | cons d ds =>
    simp only [gsCons] at e
    cases h1 : g d γ with
    | none => rw [h1] at e; cases e
    | some γ1 =>
      rw [h1] at e
      cases ds with
      | nil => cases e
      | cons d2 ds =>
        simp only at e
        cases h2 : h d2 γ1 with
        | none => rw [h2] at e; cases e
        | some γ2 =>
          rw [h2] at e
          cases ds with
          | nil => rfl
          | cons _ _ => cases e
/-- (a, b) = two names -/
theorem jg_two {i j : Nat} {x y : Str} {kk : Nat} {px py : Pos} (C : CxF K X E k) (h1 : JG K X M (.Name x px) [i] (gName i) (gfN i)) (h2 : JG K X M (.Name y py) [j] (gName j) (gfN j))
    (hs1 : (assignEach [.Name x px, .Name y py] X.env).map (·.2) = assign (.Name x px) X.env :: (assignEach [.Name y py] X.env).map (·.2) := by rfl) (hs2 : (assignEach [.Name y py] X.env).map (·.2) = assign (.Name y py) X.env :: (assignEach [] X.env).map (·.2) := by rfl)
    (hn : (assignEach [.Name x px, .Name y py] X.env).length = 2 := by rfl) (hst : (assignEach [.Name x px, .Name y py] X.env).findIdx? (·.1) = none := by rfl) :
    JG K X M (.Tuple [.Name x px, .Name y py] kk pos) [i, j] (gTup K 2 (gCons (gName i) (gCons (gName j) gNil))) (gfTup (gsCons (gfN i) (gsCons (gfN j) gsNil))) := by
  have hK := C.hK
  subst hK
  exact jg_tup C (jgs_cons h1 (jgs_cons h2 jgs_nil hs2) hs1) (fun ds γ γ' h => gs2_len ds γ γ' h) hn hst
/-! ### comprehensions -/
theorem CxF.blk (C : CxF K X E k) (s : Shared) (H : Hp) (scope : Scope) (cenv : Env) (fp : List Addr) : CxF K (X.blk s H scope cenv fp) E0 k := ⟨C.hK, C.calm, C.nd, passL, PassesOwn.never, C.room⟩
structure JTs (K : PySem.W.Frag) (X : Cx) (M : Pm) (E : XK) (es : List Expr) (t : TT) (f : Ft) : Prop where
  pts : PTs X es t
  to : TO' K M E t f
def gYes : Ft := fun _ => some (.ok true)
theorem jts_nil : JTs K X M E [] tYes gYes := ⟨pts_nil, fun H0 G0 γ σ H G Q r ev hf p => by cases hf; exact p H G (Stp.refl ev.sub)⟩
theorem jts_one {t : TT} {f : Ft} (h : JT K X M E c t f) : JTs K X M E [c] t f := ⟨pts_one h.pt, h.to⟩
def wipeG (γ : Ge) : List Nat → Ge
  | [] => γ
  | v :: vs => (wipeG γ vs).set v .no
theorem EnvR.setn {K : PySem.W.Frag} {H0 G0 H G : Hp} {γ : Ge} {σ : L2.St} {i : Nat} (e : EnvR K M H0 G0 γ σ H G) : EnvR K M H0 G0 (γ.set i .no) (σ.set i none) H G := by
  have key : ∀ (j : Nat) (s : Sl) (x : Option V), (γ.set i .no)[j]? = some s → (σ.set i none)[j]? = some x → (s = .no) ∨ (γ[j]? = some s ∧ σ[j]? = some x) := by
    intro j s x h1 h2
    by_cases hj : i = j
    · subst hj
      rw [List.getElem?_set] at h1
      simp only [if_true] at h1
      split at h1
      · exact .inl (Option.some.inj h1).symm
      · cases h1
    · rw [List.getElem?_set_ne hj] at h1 h2
      exact .inr ⟨h1, h2⟩
  refine ⟨e.st, by rw [List.length_set, List.length_set]; exact e.len, fun j s x h1 h2 => ?_, fun j k sj sk xj xk o h1 h2 h3 h4 h5 h6 => ?_⟩
  · rcases key j s x h1 h2 with e1 | ⟨q1, q2⟩
    · subst e1; trivial
    · exact e.sl j s x q1 q2
  · rcases key j sj xj h1 h3 with e1 | ⟨q1, q2⟩
    · subst e1; exact h5.elim
    · rcases key k sk xk h2 h4 with e1 | ⟨q3, q4⟩
      · subst e1; exact h6.elim
      · exact e.ap j k sj sk xj xk o q1 q3 q2 q4 h5 h6
theorem EnvR.wipe {K : PySem.W.Frag} {H0 G0 H G : Hp} {γ : Ge} {σ : L2.St} (e : EnvR K M H0 G0 γ σ H G) : ∀ vs : List Nat, EnvR K M H0 G0 (wipeG γ vs) (L2.wipe σ vs) H G
  | [] => e
  | _ :: vs => (EnvR.wipe e vs).setn
def lcF (gf : D → Ge → Option Ge) (cf : Ft) (ef : Fe) (γ : Ge) : List D → Option (List D)
  | [] => some []
  | d :: ds => match gf d γ with
    | none => none
    | some γ1 => match cf γ1 with
      | some (.ok true) => (match ef γ1 with
        | some (.ok x) => (match lcF gf cf ef γ ds with
          | some xs => some (x :: xs)
          | none => none)
        | _ => none)
      | some (.ok false) => lcF gf cf ef γ ds
      | _ => none
def fLc (w : Fa) (gf : D → Ge → Option Ge) (cf : Ft) (ef : Fe) (vs : List Nat) : Fe := fun γ => match w γ with
  | some (.ok ds) => if ds.length ≤ big then (match lcF gf cf ef (wipeG γ vs) ds with
    | some xs => some (.ok (.list xs))
    | none => none) else none
  | some (.er c) => some (.er c)
  | none => none
theorem eo_lc {K : PySem.W.Frag} {wi : TI} {g : TG} {tt : TT} {te : TE} {vs js : List Nat} {w : Fa} {gf : D → Ge → Option Ge} {cf : Ft} {ef : Fe} (hw : WO K M E wi w) (hg : GO K M js g gf) (hj : ∀ j ∈ js, j ∈ vs) (hc : TO' K M E0 tt cf) (he : EO K M E0 .cl te ef) :
    EO K M E .fr (tLc wi g tt te vs) (fLc w gf cf ef vs) := by
  intro H0 G0 γ σ H G Q r ev hf p
  unfold fLc at hf
  split at hf
  · rename_i ds e1
    split at hf
    · rename_i hz
      split at hf
      · rename_i es e2
        cases hf
        refine hw H0 G0 γ σ H G _ _ ev e1 fun J H1 G1 s1 itr Dl hD => ?_
        have ev1 := ev.stp s1
        have nG1 : G1 Dl = none := s1.sub.free hD
        refine ⟨fun i mm H' => mm = ds.length - i ∧ i ≤ ds.length ∧ ∃ G' acc accD rest, Stp H1 G1 H' G' ∧ G' Dl = none ∧ H' Dl = some (.lst acc) ∧ RA K M G' acc accD ∧ lcF gf cf ef (wipeG γ vs) (ds.drop i) = some rest ∧ accD ++ rest = es ∧ acc.length ≤ i,
          ⟨ds.length, by simp, Nat.zero_le _, G1, [], [], es, Stp.newO s1.sub hD, nG1, upd_same, .nil, e2, rfl, Nat.le_refl _⟩, ?_⟩
        rintro i mm H2 ⟨rfl, hi, G2, acc, accD, rest, st, gD, hDl, ra, el, ee, al⟩
        have ev2 := (ev1.stp st).wipe vs
        obtain ⟨go, yl, sp⟩ := itr H2 G2 st.eg st.sub i
        by_cases hlt : i < ds.length
        · refine .inr ⟨go hlt, fun H' => ∃ m', m' < ds.length - i ∧ m' = ds.length - (i + 1) ∧ i + 1 ≤ ds.length ∧ ∃ G' acc accD rest, Stp H1 G1 H' G' ∧ G' Dl = none ∧ H' Dl = some (.lst acc) ∧ RA K M G' acc accD ∧ lcF gf cf ef (wipeG γ vs) (ds.drop (i + 1)) = some rest ∧ accD ++ rest = es ∧ acc.length ≤ i + 1,
            fun H' ⟨m', h1, h2⟩ => ⟨m', h1, h2⟩, fun x H3 hy => ?_⟩
          have hd : ds[i]? = some ds[i] := List.getElem?_eq_getElem hlt
          obtain ⟨G3, s3, rx⟩ := yl x H3 _ hd hy
          rw [List.drop_eq_getElem_cons hlt] at el
          unfold lcF at el
          split at el
          · cases el
          · rename_i γ1 eg
            refine hg H0 G0 (wipeG γ vs) γ1 (L2.wipe σ vs) H3 G3 x ds[i] _ (ev2.stp s3) rx eg fun σ2 ev3 sets => ⟨?_, ?_⟩
            · rw [sets vs hj, wipe_wipe]
            · split at el
              · rename_i ec
                split at el
                · rename_i y ey
                  split at el
                  · rename_i ys eys
                    cases el
                    refine hc H0 G0 γ1 σ2 H3 G3 _ _ ev3 ec fun H4 G4 s4 => ?_
                    rw [if_pos rfl]
                    refine he H0 G0 γ1 σ2 H4 G4 _ _ (ev3.stp s4) ey fun yv H5 G5 s5 ry => ?_
                    have s25 := (s3.trans s4).trans s5
                    have ry' : R K M G5 yv y := ry
                    have g5 : G5 Dl = none := s25.nw _ _ hDl gD
                    have h5 : H5 Dl = some (.lst acc) := s25.ex _ _ hDl
                    refine ⟨acc, h5, big_line' (by omega), ds.length - (i + 1), by omega, rfl, hlt, G5, acc ++ [yv], accD ++ [y], ys, ?_, g5, upd_same, (ra.mono s25.eg).app (.one ry'), eys, by rw [List.append_assoc]; exact ee, by rw [List.length_append]; simp; omega⟩
                    have sA := st.trans s25
                    exact ⟨fun b u q => by rw [upd_ne (ne_of_none q hD)]; exact sA.ex b u q, sA.eg, fun b u q => by rw [upd_ne (ne_of_none q g5)]; exact sA.sub b u q, sA.nw⟩
                  · cases el
                · cases el
              · rename_i ec
                refine hc H0 G0 γ1 σ2 H3 G3 _ _ ev3 ec fun H4 G4 s4 => ?_
                rw [if_neg Bool.false_ne_true]
                have s24 := s3.trans s4
                exact ⟨ds.length - (i + 1), by omega, rfl, hlt, G4, acc, accD, rest, st.trans s24, s24.nw _ _ hDl gD, s24.ex _ _ hDl, ra.mono s24.eg, el, ee, by omega⟩
              · cases el
        · have ei : i = ds.length := by omega
          subst ei
          rw [List.drop_length] at el
          cases el
          rw [List.append_nil] at ee
          subst ee
          refine .inl ⟨sp (Nat.le_refl _), p _ H2 G2 (s1.trans st) ⟨Dl, acc, rfl, s1.ex.free hD, gD, hDl, ra⟩⟩
      · cases hf
    · cases hf
  · rename_i e1
    cases hf
    exact hw H0 G0 γ σ H G _ _ ev e1 p
  · cases hf
theorem je_lc {elt tg iter : Expr} {ifs : List Expr} {scope : Scope} {own : List (Str × Nat)} {js : List Nat} {wi : TI} {g : TG} {tt : TT} {te : TE} {w : Fa} {gf : D → Ge → Option Ge} {cf : Ft} {ef : Fe} (C : CxF K X E k) (hi : JI K X M E tg iter wi w) (ok : BlkOk X.N X.env.scope scope own)
    (hg : ∀ (s : Shared) (H : Hp) (Cc : Addr) (cl : List (Str × Addr)) (fp : List Addr), JG K (X.blk s H scope (compEnvC scope cl Cc X.env) fp) M tg js g gf) (ht : ∀ (s : Shared) (H : Hp) (Cc : Addr) (cl : List (Str × Addr)) (fp : List Addr), JTs K (X.blk s H scope (compEnvC scope cl Cc X.env) fp) M E0 ifs tt cf)
    (he : ∀ (s : Shared) (H : Hp) (Cc : Addr) (cl : List (Str × Addr)) (fp : List Addr), JE K (X.blk s H scope (compEnvC scope cl Cc X.env) fp) M E0 .cl elt te ef) (hj : ∀ j ∈ js, j ∈ own.map (·.2) := by decide) (hs : ∀ x, foldedSetIterable iter X.env x = pure x := by intro _; rfl) :
    JE K X M E .fr (.ListComp elt [⟨tg, iter, ifs, 0⟩] scope pos) (tLc wi g tt te (own.map (·.2))) (fLc w gf cf ef (own.map (·.2))) :=
  ⟨pe_lc C.calm C.nd hi.pi ok (fun s H Cc cl fp => (hg s H Cc cl fp).pg) (fun s H Cc cl fp => (ht s H Cc cl fp).pts) (fun s H Cc cl fp => (he s H Cc cl fp).pe) hs,
    eo_lc hi.wo (hg ({} : Shared) (fun _ => none) 0 [] []).go hj (ht ({} : Shared) (fun _ => none) 0 [] []).to (he ({} : Shared) (fun _ => none) 0 [] []).eo⟩
end
end Py


/-! PyF: statements, the rule of a def -/
namespace Py
open PySem PySem.Spec PyProof.Rows L2

inductive Out | nx (γ : Ge) | rt (d : D) | er (c : Str) | bk (γ : Ge) | ct (γ : Ge)
abbrev Fs := Ge → Option Out
section
variable (K : PySem.W.Frag) (M : Pm) (E : XK)
def PostS (H0 G0 : Hp) (De : Ends) : Out → Prop
  | .nx γ => ∀ σ H G, EnvR K M H0 G0 γ σ H G → De.nx σ H
  | .bk γ => ∀ σ H G, EnvR K M H0 G0 γ σ H G → De.bk σ H
  | .ct γ => ∀ σ H G, EnvR K M H0 G0 γ σ H G → De.ct σ H
  | .rt d => ∀ v H G, Stp H0 G0 H G → R K M G v d → De.rt v H
  | .er c => ∀ H G, Stp H0 G0 H G → E (M.exc c) none H
def SO (t : TS) (f : Fs) : Prop := ∀ (H0 G0 : Hp) (γ : Ge) (σ : L2.St) (H G : Hp) (De : Ends) (o : Out), EnvR K M H0 G0 γ σ H G → f γ = some o → PostS K M E H0 G0 De o → t De σ H
end
structure JS (K : PySem.W.Frag) (X : Cx) (M : Pm) (E : XK) (st : Stmt) (t : TS) (f : Fs) : Prop where
  ps : PS X st t
  so : SO K M E t f
structure JB (K : PySem.W.Frag) (X : Cx) (M : Pm) (E : XK) (st : List Stmt) (t : TS) (f : Fs) : Prop where
  ps : PSs X st t
  so : SO K M E t f

def fNext : Fs := fun γ => some (.nx γ)
def fSeq (f g : Fs) : Fs := fun γ => match f γ with
  | some (.nx γ1) => g γ1
  | o => o
def sRet (a : Fe) : Fs := fun γ => match a γ with
  | some (.ok d) => some (.rt d)
  | some (.er c) => some (.er c)
  | none => none
def sRetN : Fs := fun _ => some (.rt .none)
def sIf (c : Ft) (f g : Fs) : Fs := fun γ => match c γ with
  | some (.ok true) => f γ
  | some (.ok false) => g γ
  | some (.er c) => some (.er c)
  | none => none
def sSet (i : Nat) (a : Fe) : Fs := fun γ => match a γ with
  | some (.ok d) => some (.nx (γ.set i (.va d)))
  | some (.er c) => some (.er c)
  | none => none
def sSetO (i : Nat) (a : Fe) : Fs := fun γ => match a γ with
  | some (.ok (.list ds)) => some (.nx (γ.set i (.ow ds)))
  | some (.er c) => some (.er c)
  | _ => none
def sAsg (a : Fe) (g : D → Ge → Option Ge) : Fs := fun γ => match a γ with
  | some (.ok d) => (match g d γ with
    | some γ1 => some (.nx γ1)
    | none => none)
  | some (.er c) => some (.er c)
  | none => none
def sApp (i : Nat) (a : Fe) : Fs := fun γ => match γ[i]? with
  | some (.ow ds) => (match a γ with
    | some (.ok d) => if ds.length ≤ big then some (.nx (γ.set i (.ow (ds ++ [d])))) else none
    | some (.er c) => some (.er c)
    | none => none)
  | _ => none
def sRaise (c : Str) : Fs := fun _ => some (.er c)
def forF (gf : D → Ge → Option Ge) (body : Fs) : List D → Ge → Option Out
  | [], γ => some (.nx γ)
  | d :: ds, γ => match gf d γ with
    | none => none
    | some γ1 => match body γ1 with
      | some (.nx γ2) => forF gf body ds γ2
      | some (.ct γ2) => forF gf body ds γ2
      | some (.bk γ2) => some (.nx γ2)
      | some (.rt d) => some (.rt d)
      | some (.er c) => some (.er c)
      | none => none
def sFor (w : Fa) (gf : D → Ge → Option Ge) (body : Fs) : Fs := fun γ => match w γ with
  | some (.ok ds) => forF gf body ds γ
  | some (.er c) => some (.er c)
  | none => none
def whF (c : Ft) (body : Fs) : Nat → Ge → Option Out
  | 0, _ => none
  | n + 1, γ => match c γ with
    | some (.ok true) => (match body γ with
      | some (.nx γ2) => whF c body n γ2
      | some (.ct γ2) => whF c body n γ2
      | some (.bk γ2) => some (.nx γ2)
      | some (.rt d) => some (.rt d)
      | some (.er c) => some (.er c)
      | none => none)
    | some (.ok false) => some (.nx γ)
    | some (.er c) => some (.er c)
    | none => none
/-- the fuel of a while: any number would do -/
def fuel : Nat := 2 ^ 40
def sWh (c : Ft) (body : Fs) : Fs := fun γ => whF c body fuel γ

section
variable {K : PySem.W.Frag} {X : Cx} {M : Pm} {E : XK} {k : Nat} {m : Md} {a b e c : Expr} {ta tb te tc : TE} {fa fb fe fc : Fe} {pos : Pos} {t u : TS} {f g : Fs} {st : Stmt} {rest : List Stmt}

theorem EnvR.er {K : PySem.W.Frag} {H0 G0 H G : Hp} {γ : Ge} {σ : L2.St} {De : Ends} {c : Str} {m : Md} {Q : VK} (ev : EnvR K M H0 G0 γ σ H G) (p : PostS K M E H0 G0 De (.er c)) : PostE K M E m H G Q (.er c) := fun H' G' s => p H' G' (ev.st.trans s)
theorem so_next {K : PySem.W.Frag} : SO K M E tNext fNext := fun H0 G0 γ σ H G De o ev hf p => by cases hf; exact p σ H G ev
theorem jb_nil : JB K X M E [] tNext fNext := ⟨pss_nil, so_next⟩
theorem so_seq {K : PySem.W.Frag} (h1 : SO K M E t f) (h2 : SO K M E u g) : SO K M E (tSeq t u) (fSeq f g) := fun H0 G0 γ σ H G De o ev hf p => by
  unfold fSeq at hf
  split at hf
  · rename_i γ1 e1
    exact h1 H0 G0 γ σ H G { De with nx := u De } _ ev e1 fun σ' H' G' ev' => h2 H0 G0 γ1 σ' H' G' De o ev' hf p
  · rename_i hn
    refine h1 H0 G0 γ σ H G { De with nx := u De } o ev hf ?_
    cases o with
    | nx γ1 => exact absurd hf (hn γ1)
    | _ => exact p
theorem jb_cons (h1 : JS K X M E st t f) (h2 : JB K X M E rest u g) : JB K X M E (st :: rest) (tSeq t u) (fSeq f g) := ⟨pss_cons h1.ps h2.ps, so_seq h1.so h2.so⟩
theorem jb_one (h1 : JS K X M E st t f) : JB K X M E [st] t f := ⟨pss_one h1.ps, h1.so⟩
theorem js_ret (ha : JE K X M E .cl a ta fa) : JS K X M E (.Return (some a) pos) (tRet ta) (sRet fa) := ⟨ps_ret ha.pe, fun H0 G0 γ σ H G De o ev hf p => by
  unfold sRet at hf
  split at hf
  · rename_i d e1
    cases hf
    exact ha.eo H0 G0 γ σ H G _ _ ev e1 fun v H' G' s r => p v H' G' (ev.st.trans s) r
  · rename_i c e1
    cases hf
    exact ha.eo H0 G0 γ σ H G _ _ ev e1 (ev.er p)
  · cases hf⟩
theorem js_retN : JS K X M E (.Return none pos) tRetN sRetN := ⟨ps_retN, fun H0 G0 γ σ H G De o ev hf p => by cases hf; exact p .non H G ev.st .non⟩
/-- return of a name that may hold an own list -/
theorem js_retV {i : Nat} {x : Str} {p0 : Pos} (h : JE K X M E .op (.Name x p0) (tVar i) (fOpd i)) : JS K X M E (.Return (some (.Name x p0)) pos) (tRet (tVar i)) (sRet (fOpd i)) := ⟨ps_ret h.pe, fun H0 G0 γ σ H G De o ev hf p => by
  unfold sRet fOpd at hf
  split at hf
  · rename_i d e1
    split at e1
    · rename_i d' e2
      cases e1
      cases hf
      obtain ⟨v, h1, h2⟩ := ev.va e2
      exact ⟨v, h1, p v H G ev.st h2⟩
    · rename_i ds e2
      cases e1
      cases hf
      obtain ⟨o, vs, h1, hg, h0, h2, h3⟩ := ev.ow e2
      have sg : Same G (upd G o (.lst vs)) := same_new hg
      refine ⟨_, h1, p _ H (upd G o (.lst vs)) ⟨ev.st.ex, ev.st.eg.trans sg, fun b u q => ?_, fun q u hq n => ?_⟩ (R.lst (.of upd_same) (h3.mono sg))⟩
      · by_cases hb : b = o
        · subst hb; rw [upd_same] at q; cases q; exact h2
        · rw [upd_ne hb] at q; exact ev.st.sub b u q
      · rw [upd_ne (ne_of_none hq h0)]; exact ev.st.nw q u hq n
    · cases e1
  · rename_i c e1
    split at e1
    · cases e1
    · cases e1
    · cases e1
  · cases hf⟩
theorem js_if {tt : TT} {ft : Ft} {as bs : List Stmt} (hc : JT K X M E c tt ft) (ha : JB K X M E as t f) (hb : JB K X M E bs u g) : JS K X M E (.If c as bs pos) (tIfS tt t u) (sIf ft f g) := ⟨ps_if hc.pt ha.ps hb.ps, fun H0 G0 γ σ H G De o ev hf p => by
  unfold sIf at hf
  split at hf
  · rename_i e1
    refine hc.to H0 G0 γ σ H G _ _ ev e1 fun H' G' s => ?_
    rw [if_pos rfl]
    exact ha.so H0 G0 γ σ H' G' De o (ev.stp s) hf p
  · rename_i e1
    refine hc.to H0 G0 γ σ H G _ _ ev e1 fun H' G' s => ?_
    rw [if_neg Bool.false_ne_true]
    exact hb.so H0 G0 γ σ H' G' De o (ev.stp s) hf p
  · rename_i e1
    cases hf
    exact hc.to H0 G0 γ σ H G _ _ ev e1 fun H' G' s => p H' G' (ev.st.trans s)
  · cases hf⟩
theorem so_set {K : PySem.W.Frag} {i : Nat} (ha : EO K M E .cl ta fa) : SO K M E (tAsg ta (gName i)) (sSet i fa) := fun H0 G0 γ σ H G De o ev hf p => by
  unfold sSet at hf
  split at hf
  · rename_i d e1
    cases hf
    exact ha H0 G0 γ σ H G _ _ ev e1 fun v H' G' s r => p _ H' G' ((ev.stp s).setv r)
  · rename_i c e1
    cases hf
    exact ha H0 G0 γ σ H G _ _ ev e1 (ev.er p)
  · cases hf
theorem so_setO {K : PySem.W.Frag} {i : Nat} (ha : EO K M E .fr ta fa) : SO K M E (tAsg ta (gName i)) (sSetO i fa) := fun H0 G0 γ σ H G De o ev hf p => by
  unfold sSetO at hf
  split at hf
  · rename_i ds e1
    cases hf
    refine ha H0 G0 γ σ H G _ _ ev e1 fun v H' G' s r => ?_
    obtain ⟨l, us, e2, h0, hg, hl, ra⟩ := r
    subst e2
    refine p _ H' G' ((ev.stp s).seto (HS := H) (fun j dj q _ h1 h2 => ?_) hg (ev.st.ex.free h0) hl ra)
    obtain ⟨o', vs', h3, _, _, h4, _⟩ := ev.ow h1
    rw [h2] at h3
    cases h3
    exact ne_of_none h4 h0
  · rename_i c e1
    cases hf
    exact ha H0 G0 γ σ H G _ _ ev e1 (ev.er p)
  · cases hf
theorem js_set {i : Nat} {x : Str} {p0 : Pos} (hN : X.N.Nodup) (ha : JE K X M E .cl a ta fa) (hi : X.N[i]? = some x := by rfl) (hx : Loc X.env.scope x := by first | exact Or.inl rfl | exact Or.inr rfl) (hs : swapsWith a (some (.Name x p0)) pos.line X.env = pure false := by rfl) (hf : X.fn x = true ∨ X.env.scope.names.lookup x = some .local := by first | exact .inl rfl | exact .inr rfl) :
    JS K X M E (.Assign [.Name x p0] a pos) (tAsg ta (gName i)) (sSet i fa) := ⟨ps_set hN hi hx ha.pe hs hf, so_set ha.eo⟩
theorem js_setO {i : Nat} {x : Str} {p0 : Pos} (hN : X.N.Nodup) (ha : JE K X M E .fr a ta fa) (hi : X.N[i]? = some x := by rfl) (hx : Loc X.env.scope x := by first | exact Or.inl rfl | exact Or.inr rfl) (hs : swapsWith a (some (.Name x p0)) pos.line X.env = pure false := by rfl) (hf : X.fn x = true ∨ X.env.scope.names.lookup x = some .local := by first | exact .inl rfl | exact .inr rfl) :
    JS K X M E (.Assign [.Name x p0] a pos) (tAsg ta (gName i)) (sSetO i fa) := ⟨ps_set hN hi hx ha.pe hs hf, so_setO ha.eo⟩
/-- target = e, any target -/
theorem so_asg {K : PySem.W.Frag} {js : List Nat} {gg : TG} {gf : D → Ge → Option Ge} (ha : EO K M E .cl ta fa) (hg : GO K M js gg gf) : SO K M E (tAsg ta gg) (sAsg fa gf) := fun H0 G0 γ σ H G De o ev hf p => by
  unfold sAsg at hf
  split at hf
  · rename_i d e1
    split at hf
    · rename_i γ1 e2
      cases hf
      exact ha H0 G0 γ σ H G _ _ ev e1 fun v H' G' s r => hg H0 G0 γ γ1 σ H' G' v d _ (ev.stp s) r e2 fun σ' ev' _ => p σ' H' G' ev'
    · cases hf
  · rename_i c e1
    cases hf
    exact ha H0 G0 γ σ H G _ _ ev e1 (ev.er p)
  · cases hf
theorem js_asg {tg : Expr} {js : List Nat} {gg : TG} {gf : D → Ge → Option Ge} (ha : JE K X M E .cl a ta fa) (hg : JG K X M tg js gg gf) (hs : swapsWithSole [tg] a pos.line X.env = pure false := by rfl) (hw : swappedStores [tg] a X.env = pure none := by rfl)
    (h1 : (assignEach [tg] X.env).map (·.2) = [assign tg X.env] := by rfl) : JS K X M E (.Assign [tg] a pos) (tAsg ta gg) (sAsg fa gf) := ⟨ps_asg ha.pe hg.pg hs hw h1, so_asg ha.eo hg.go⟩
/-- y = [.. for ..] on one line, y a local -/
theorem ps_lcset {i : Nat} {y : Str} {py : Pos} {elt tg iter : Expr} {ifs : List Expr} {scope : Scope} {own : List (Str × Nat)} {js : List Nat} {wi : TI} {g : TG} {tt : TT} {te : TE} {w : Fa} {gf : D → Ge → Option Ge} {cf : Ft} {ef : Fe} {spos : Pos} (C : CxF K X E k) (hi : JI K X M E tg iter wi w) (ok : BlkOk X.N X.env.scope scope own)
    (hg : ∀ (s : Shared) (H : Hp) (Cc : Addr) (cl : List (Str × Addr)) (fp : List Addr), JG K (X.blk s H scope (compEnvC scope cl Cc X.env) fp) M tg js g gf) (ht : ∀ (s : Shared) (H : Hp) (Cc : Addr) (cl : List (Str × Addr)) (fp : List Addr), JTs K (X.blk s H scope (compEnvC scope cl Cc X.env) fp) M E0 ifs tt cf)
    (he : ∀ (s : Shared) (H : Hp) (Cc : Addr) (cl : List (Str × Addr)) (fp : List Addr), JE K (X.blk s H scope (compEnvC scope cl Cc X.env) fp) M E0 .cl elt te ef)
    (hy : X.N[i]? = some y) (hyl : X.env.scope.names.lookup y = some .local)
    (hsw : swapsWith (.ListComp elt [⟨tg, iter, ifs, 0⟩] scope pos) (some (.Name y py)) spos.line X.env = pure true) (hs : ∀ x, foldedSetIterable iter X.env x = pure x) :
    PS X (.Assign [.Name y py] (.ListComp elt [⟨tg, iter, ifs, 0⟩] scope pos) spos) (tAsg (tLc wi g tt te (own.map (·.2))) (gName i)) :=
  ps_setLc C.calm C.nd hy hyl hsw hi.pi ok (fun s H Cc cl fp => (hg s H Cc cl fp).pg) (fun s H Cc cl fp => (ht s H Cc cl fp).pts) (fun s H Cc cl fp => (he s H Cc cl fp).pe) hs
theorem so_f2c {K : PySem.W.Frag} {te : TE} {fe : Fe} (h : EO K M E .fr te fe) : EO K M E .cl te fe := fun H0 G0 γ σ H G Q r ev hf p => h H0 G0 γ σ H G Q r ev hf (by
  cases r with
  | ok d => exact fun v H' G' s r => let ⟨G2, s2, _, r2⟩ := freeze s r; p v H' G2 s2 r2
  | er c => exact p)
theorem js_setLc {i : Nat} {y : Str} {py : Pos} {elt tg iter : Expr} {ifs : List Expr} {scope : Scope} {own : List (Str × Nat)} {js : List Nat} {wi : TI} {g : TG} {tt : TT} {te : TE} {w : Fa} {gf : D → Ge → Option Ge} {cf : Ft} {ef : Fe} {spos : Pos} (C : CxF K X E k) (hi : JI K X M E tg iter wi w) (ok : BlkOk X.N X.env.scope scope own)
    (hg : ∀ (s : Shared) (H : Hp) (Cc : Addr) (cl : List (Str × Addr)) (fp : List Addr), JG K (X.blk s H scope (compEnvC scope cl Cc X.env) fp) M tg js g gf) (ht : ∀ (s : Shared) (H : Hp) (Cc : Addr) (cl : List (Str × Addr)) (fp : List Addr), JTs K (X.blk s H scope (compEnvC scope cl Cc X.env) fp) M E0 ifs tt cf)
    (he : ∀ (s : Shared) (H : Hp) (Cc : Addr) (cl : List (Str × Addr)) (fp : List Addr), JE K (X.blk s H scope (compEnvC scope cl Cc X.env) fp) M E0 .cl elt te ef)
    (hsw : swapsWith (.ListComp elt [⟨tg, iter, ifs, 0⟩] scope pos) (some (.Name y py)) spos.line X.env = pure true) (hy : X.N[i]? = some y := by rfl) (hyl : X.env.scope.names.lookup y = some .local := by rfl) (hj : ∀ j ∈ js, j ∈ own.map (·.2) := by decide) (hs : ∀ x, foldedSetIterable iter X.env x = pure x := by intro _; rfl) :
    JS K X M E (.Assign [.Name y py] (.ListComp elt [⟨tg, iter, ifs, 0⟩] scope pos) spos) (tAsg (tLc wi g tt te (own.map (·.2))) (gName i)) (sSet i (fLc w gf cf ef (own.map (·.2)))) :=
  ⟨ps_lcset C hi ok hg ht he hy hyl hsw hs, so_set (so_f2c (eo_lc hi.wo (hg ({} : Shared) (fun _ => none) 0 [] []).go hj (ht ({} : Shared) (fun _ => none) 0 [] []).to (he ({} : Shared) (fun _ => none) 0 [] []).eo))⟩
theorem js_setLcO {i : Nat} {y : Str} {py : Pos} {elt tg iter : Expr} {ifs : List Expr} {scope : Scope} {own : List (Str × Nat)} {js : List Nat} {wi : TI} {g : TG} {tt : TT} {te : TE} {w : Fa} {gf : D → Ge → Option Ge} {cf : Ft} {ef : Fe} {spos : Pos} (C : CxF K X E k) (hi : JI K X M E tg iter wi w) (ok : BlkOk X.N X.env.scope scope own)
    (hg : ∀ (s : Shared) (H : Hp) (Cc : Addr) (cl : List (Str × Addr)) (fp : List Addr), JG K (X.blk s H scope (compEnvC scope cl Cc X.env) fp) M tg js g gf) (ht : ∀ (s : Shared) (H : Hp) (Cc : Addr) (cl : List (Str × Addr)) (fp : List Addr), JTs K (X.blk s H scope (compEnvC scope cl Cc X.env) fp) M E0 ifs tt cf)
    (he : ∀ (s : Shared) (H : Hp) (Cc : Addr) (cl : List (Str × Addr)) (fp : List Addr), JE K (X.blk s H scope (compEnvC scope cl Cc X.env) fp) M E0 .cl elt te ef)
    (hsw : swapsWith (.ListComp elt [⟨tg, iter, ifs, 0⟩] scope pos) (some (.Name y py)) spos.line X.env = pure true) (hy : X.N[i]? = some y := by rfl) (hyl : X.env.scope.names.lookup y = some .local := by rfl) (hj : ∀ j ∈ js, j ∈ own.map (·.2) := by decide) (hs : ∀ x, foldedSetIterable iter X.env x = pure x := by intro _; rfl) :
    JS K X M E (.Assign [.Name y py] (.ListComp elt [⟨tg, iter, ifs, 0⟩] scope pos) spos) (tAsg (tLc wi g tt te (own.map (·.2))) (gName i)) (sSetO i (fLc w gf cf ef (own.map (·.2)))) :=
  ⟨ps_lcset C hi ok hg ht he hy hyl hsw hs, so_setO (eo_lc hi.wo (hg ({} : Shared) (fun _ => none) 0 [] []).go hj (ht ({} : Shared) (fun _ => none) 0 [] []).to (he ({} : Shared) (fun _ => none) 0 [] []).eo)⟩
/-- x.append(e), x an own list -/
theorem js_app {i : Nat} {x : Str} {p0 apos cpos : Pos} (C : CxF K X E k) (ho : PE X (.Name x p0) (tVar i)) (ha : JE K X M E .cl a ta fa)
    (hp : PE X (.Call (.Attribute (.Name x p0) "append" apos) [a] [] cpos) (tBM K "list" rAppend (tVar i) (tCons ta tNil))) (hs : swapsWith (.Call (.Attribute (.Name x p0) "append" apos) [a] [] cpos) none pos.line X.env = pure false := by rfl) :
    JS K X M E (.Expr (.Call (.Attribute (.Name x p0) "append" apos) [a] [] cpos) pos) (tDrop (tBM K "list" rAppend (tVar i) (tCons ta tNil))) (sApp i fa) := by
  have hK := C.hK
  subst hK
  exact ⟨ps_expr hp hs, fun H0 G0 γ σ H G De o ev hf p => by
  unfold sApp at hf
  split at hf
  · rename_i ds e1
    obtain ⟨l, vs, h1, hg, h0, h2, h3⟩ := ev.ow e1
    split at hf
    · rename_i d e2
      split at hf
      · rename_i hz
        cases hf
        refine ⟨_, h1, .inl ⟨rfl, vs, .of h2⟩, ?_⟩
        refine ha.eo H0 G0 γ σ H G _ _ ev e2 fun v H' G' s r => ?_
        have hl : H' l = some (.lst vs) := s.ex _ _ h2
        have r' : R X.K M G' v d := r
        exact ⟨l, vs, v, rfl, rfl, hl, by rw [h3.len]; exact big_line' hz, p _ _ G' ((ev.stp s).wr e1 h1 hl ((h3.mono s.eg).app (.one r')))⟩
      · cases hf
    · rename_i c e2
      cases hf
      refine ⟨_, h1, .inl ⟨rfl, vs, .of h2⟩, ?_⟩
      exact ha.eo H0 G0 γ σ H G _ _ ev e2 (ev.er p)
    · cases hf
  · cases hf⟩
/-- .. its rule from its parts -/
theorem js_appX {i : Nat} {x : Str} {p0 apos cpos : Pos} (C : CxF K X E k) (ho : JE K X M E .op (.Name x p0) (tVar i) (fOpd i)) (ha : JE K X M E .cl a ta fa)
    (hbase : attributeBase (.Name x p0) "append" X.env (eval (.Name x p0) X.env) = eval (.Name x p0) X.env := by rfl)
    (hfew : ((backTo cpos (starEach [a] X.env)).all (fun x => !x.1) && (backToKw cpos (keywordEach [] X.env)).all (fun x => x.1.isSome)
      && decide ([a].length + ([] : List Keyword).length + (if ([] : List Keyword).isEmpty then 0 else 1) < 30)) = true := by rfl)
    (hline : (apos.endLine == cpos.line) = true := by rfl) (hst : starEach [a] X.env = (false, eval a X.env) :: starEach [] X.env := by rfl) (hs : swapsWith (.Call (.Attribute (.Name x p0) "append" apos) [a] [] cpos) none pos.line X.env = pure false := by rfl) :
    JS K X M E (.Expr (.Call (.Attribute (.Name x p0) "append" apos) [a] [] cpos) pos) (tDrop (tBM K "list" rAppend (tVar i) (tCons ta tNil))) (sApp i fa) := by
  have hK := C.hK
  subst hK
  exact js_app C ho.pe ha (pe_bm PySem.F.plainAttrs_list PySem.F.slot_list_append PySem.F.type_list_append mt_append ho.pe (pa_cons ha.pe pa_nil hst) hbase hfew hline hst rfl) hs
/-! ### loops -/
theorem EnvR.reG {K : PySem.W.Frag} {H0 G0 H G H1 G1 : Hp} {γ γ1 : Ge} {σ σ1 : L2.St} (e : EnvR K M H0 G0 γ σ H G) (e1 : EnvR K M H0 G γ1 σ1 H1 G1) : EnvR K M H0 G0 γ1 σ1 H1 G1 :=
  ⟨⟨e1.st.ex, e.st.eg.trans e1.st.eg, e1.st.sub, fun p o h n => e1.st.nw p o h (e.st.nw p o h n)⟩, e1.len, e1.sl, e1.ap⟩
theorem EnvR.toG {K : PySem.W.Frag} {H0 G0 H G : Hp} {γ : Ge} {σ : L2.St} (e : EnvR K M H0 G0 γ σ H G) : EnvR K M H0 G γ σ H G :=
  ⟨⟨e.st.ex, Same.refl _, e.st.sub, fun _ _ _ n => n⟩, e.len, e.sl, e.ap⟩
theorem Stp.reG {H0 G0 H G H1 G1 : Hp} (e : Stp H0 G0 H G) (e1 : Stp H0 G H1 G1) : Stp H0 G0 H1 G1 := ⟨e1.ex, e.eg.trans e1.eg, e1.sub, fun p o h n => e1.nw p o h (e.nw p o h n)⟩
theorem PostS.reG {K : PySem.W.Frag} {H0 G0 H G : Hp} {γ : Ge} {σ : L2.St} {De : Ends} {o : Out} (e : EnvR K M H0 G0 γ σ H G) (p : PostS K M E H0 G0 De o) : PostS K M E H0 G De o := by
  cases o with
  | nx γ1 => exact fun σ' H' G' e' => p σ' H' G' (e.reG e')
  | bk γ1 => exact fun σ' H' G' e' => p σ' H' G' (e.reG e')
  | ct γ1 => exact fun σ' H' G' e' => p σ' H' G' (e.reG e')
  | rt d => exact fun v H' G' s r => p v H' G' (e.st.reG s) r
  | er c => exact fun H' G' s => p H' G' (e.st.reG s)
theorem so_for {K : PySem.W.Frag} {wi : TI} {js : List Nat} {gg : TG} {gf : D → Ge → Option Ge} {w : Fa} (hw : WO K M E wi w) (hg : GO K M js gg gf) (hb : SO K M E t f) : SO K M E (tFor wi gg t) (sFor w gf f) := fun H0 G0 γ σ H G De o ev hf p => by
  unfold sFor at hf
  split at hf
  · rename_i ds e1
    refine hw H0 G0 γ σ H G _ _ ev e1 fun J H1 G1 s1 itr => ?_
    have ev1 := ev.stp s1
    have p1 := p.reG ev1
    refine ⟨fun i mm σ' H' => mm = ds.length - i ∧ i ≤ ds.length ∧ ∃ γ' G', EnvR K M H0 G1 γ' σ' H' G' ∧ forF gf f (ds.drop i) γ' = some o, ⟨ds.length, by simp, Nat.zero_le _, γ, G1, ev1.toG, hf⟩, ?_⟩
    rintro i mm σ2 H2 ⟨rfl, hi, γ2, G2, ev2, el⟩
    obtain ⟨go, yl, sp⟩ := itr H2 G2 ev2.st.eg ev2.st.sub i
    by_cases hlt : i < ds.length
    · refine .inr ⟨go hlt, fun σ' H' => ∃ γ' G', EnvR K M H0 G1 γ' σ' H' G' ∧ forF gf f (ds.drop (i + 1)) γ' = some o, fun σ' H' ⟨γ', G', q1, q2⟩ => ⟨ds.length - (i + 1), by omega, rfl, hlt, γ', G', q1, q2⟩, fun x H3 hy => ?_⟩
      have hd : ds[i]? = some ds[i] := List.getElem?_eq_getElem hlt
      obtain ⟨G3, s3, rx⟩ := yl x H3 _ hd hy
      rw [List.drop_eq_getElem_cons hlt] at el
      unfold forF at el
      split at el
      · cases el
      · rename_i γ3 eg
        refine hg H0 G1 γ2 γ3 σ2 H3 G3 x ds[i] _ (ev2.stp s3) rx eg fun σ3 ev3 _ => ?_
        split at el
        · rename_i γ4 eb
          exact hb H0 G1 γ3 σ3 H3 G3 _ _ ev3 eb fun σ' H' G' q => ⟨γ4, G', q, el⟩
        · rename_i γ4 eb
          exact hb H0 G1 γ3 σ3 H3 G3 _ _ ev3 eb fun σ' H' G' q => ⟨γ4, G', q, el⟩
        · rename_i γ4 eb
          cases el
          exact hb H0 G1 γ3 σ3 H3 G3 _ _ ev3 eb fun σ' H' G' q => p1 σ' H' G' q
        · rename_i d eb
          cases el
          exact hb H0 G1 γ3 σ3 H3 G3 _ _ ev3 eb p1
        · rename_i c eb
          cases el
          exact hb H0 G1 γ3 σ3 H3 G3 _ _ ev3 eb p1
        · cases el
    · have ei : i = ds.length := by omega
      subst ei
      rw [List.drop_length] at el
      cases el
      exact .inl ⟨sp (Nat.le_refl _), p1 σ2 H2 G2 ev2⟩
  · rename_i e1
    cases hf
    exact hw H0 G0 γ σ H G _ _ ev e1 fun H' G' s => p H' G' (ev.st.trans s)
  · cases hf
theorem js_for {tg iter : Expr} {body : List Stmt} {wi : TI} {js : List Nat} {gg : TG} {gf : D → Ge → Option Ge} {w : Fa} (C : CxF K X E k) (hi : JI K X M E tg iter wi w) (hg : JG K X M tg js gg gf) (hb : JB K X M E body t f)
    (hs : ∀ x, foldedSetIterable iter X.env x = pure x := by intro _; rfl) : JS K X M E (.For tg iter body [] pos) (tFor wi gg t) (sFor w gf f) := ⟨ps_for C.own C.calm hi.pi hg.pg hb.ps hs, so_for hi.wo hg.go hb.so⟩
theorem so_wh {K : PySem.W.Frag} {tt : TT} {ft : Ft} (hc : TO' K M E tt ft) (hb : SO K M E t f) : SO K M E (tWhile tt t) (sWh ft f) := fun H0 G0 γ σ H G De o ev hf p => by
  refine ⟨fun m σ' H' => ∃ γ' G', EnvR K M H0 G0 γ' σ' H' G' ∧ whF ft f m γ' = some o, ⟨fuel, γ, G, ev, hf⟩, ?_⟩
  rintro m σ2 H2 ⟨γ2, G2, ev2, el⟩
  cases m with
  | zero => cases el
  | succ m =>
    unfold whF at el
    split at el
    · rename_i ec
      refine hc H0 G0 γ2 σ2 H2 G2 _ _ ev2 ec fun H3 G3 s3 => ?_
      rw [if_pos rfl]
      have ev3 := ev2.stp s3
      refine ⟨fun σ' H' => ∃ γ' G', EnvR K M H0 G0 γ' σ' H' G' ∧ whF ft f m γ' = some o, fun σ' H' q => ⟨m, Nat.lt_succ_self _, q⟩, ?_⟩
      split at el
      · rename_i γ4 eb
        exact hb H0 G0 γ2 σ2 H3 G3 _ _ ev3 eb fun σ' H' G' q => ⟨γ4, G', q, el⟩
      · rename_i γ4 eb
        exact hb H0 G0 γ2 σ2 H3 G3 _ _ ev3 eb fun σ' H' G' q => ⟨γ4, G', q, el⟩
      · rename_i γ4 eb
        cases el
        exact hb H0 G0 γ2 σ2 H3 G3 _ _ ev3 eb fun σ' H' G' q => p σ' H' G' q
      · rename_i d eb
        cases el
        exact hb H0 G0 γ2 σ2 H3 G3 _ _ ev3 eb p
      · rename_i c eb
        cases el
        exact hb H0 G0 γ2 σ2 H3 G3 _ _ ev3 eb p
      · cases el
    · rename_i ec
      cases el
      refine hc H0 G0 γ2 σ2 H2 G2 _ _ ev2 ec fun H3 G3 s3 => ?_
      rw [if_neg Bool.false_ne_true]
      exact p σ2 H3 G3 (ev2.stp s3)
    · rename_i ec
      cases el
      exact hc H0 G0 γ2 σ2 H2 G2 _ _ ev2 ec fun H' G' s => p H' G' (ev2.st.trans s)
    · cases el
theorem js_wh {body : List Stmt} {tt : TT} {ft : Ft} (C : CxF K X E k) (hc : JT K X M E c tt ft) (hb : JB K X M E body t f) : JS K X M E (.While c body [] pos) (tWhile tt t) (sWh ft f) := ⟨ps_while C.own hc.pt hb.ps, so_wh hc.to hb.so⟩
/-- raise X('..') -/
theorem js_raise {x : Str} {t : L2.St → Hp → XK → Prop} {cn : Str} (C : CxF K X E k) (tk : Takes X (fun cls d _ H => E cls d H)) (he : PMk X a t) (ht : ∀ σ H (Q : XK), Q (M.exc cn) none H → t σ H Q) : JS K X M E (.Raise (some a) none pos) (fun _ σ H => t σ H fun cls d H' => E cls d H') (sRaise cn) :=
  ⟨ps_raise C.calm tk he, fun H0 G0 γ σ H G De o ev hf p => by cases hf; exact ht σ H _ (p H G ev.st)⟩
end

/-! ### the rule of a def -/
def entry (n : Nat) (ds : List D) : Ge := ds.map Sl.va ++ List.replicate (n - ds.length) .no
def runF (np n : Nat) (f : Fs) : List D → Option Rs := fun ds => if ds.length = np then (match f (entry n ds) with
  | some (.nx _) => some (.ok .none)
  | some (.rt d) => some (.ok d)
  | some (.er c) => some (.er c)
  | _ => none) else none
theorem env_entry {K : PySem.W.Frag} {M : Pm} {H G : Hp} {N : List Str} {vs : List V} {ds : List D} (e : Same G H) (r : RA K M G vs ds) : EnvR K M H G (entry N.length ds) (L2.start N vs) H G := by
  refine ⟨Stp.refl e, by unfold L2.start entry; simp [r.len], fun i s x h1 h2 => ?_, fun i j si sj xi xj o h1 h2 h3 h4 h5 h6 => ?_⟩
  · unfold entry at h1
    unfold L2.start at h2
    by_cases hi : i < ds.length
    · rw [List.getElem?_append_left (by simpa using hi), List.getElem?_map, List.getElem?_eq_getElem hi] at h1
      cases h1
      obtain ⟨v, q1, q2⟩ := r.get (List.getElem?_eq_getElem hi)
      rw [List.getElem?_append_left (by rw [List.length_map, r.len]; exact hi), List.getElem?_map, q1] at h2
      cases h2
      exact ⟨v, rfl, q2⟩
    · rw [List.getElem?_append_right (by simpa using hi), List.getElem?_replicate] at h1
      split at h1
      · cases h1; trivial
      · cases h1
  · exfalso
    unfold entry at h1
    by_cases hi : i < ds.length
    · rw [List.getElem?_append_left (by simpa using hi), List.getElem?_map, List.getElem?_eq_getElem hi] at h1
      cases h1
      exact h5
    · rw [List.getElem?_append_right (by simpa using hi), List.getElem?_replicate] at h1
      split at h1
      · cases h1; exact h5
      · cases h1
/-- what the body of a def stands in -/
theorem cxf_of {P : Program} {w : World} {K : PySem.W.Frag} {mg : Str → Option Value} {base : Heap} {N ps : List Str} {qual : Str} {scope : Scope} {f : Addr} {cd : Value} {A : Around} {outer : List Env} {s : Shared} {H : Hp} {E : XK} {k : Nat} (S : FnScope N ps scope)
    (hr : Room k (A.deeper (envOfC qual scope s.heap.objs.size f cd))) : CxF K (cxOf (L2.CX P w) P w K mg base N qual scope f cd A outer s H E) E k ∧ Takes (cxOf (L2.CX P w) P w K mg base N qual scope f cd A outer s H E) (fun cls d _ H => E cls d H) := by
  have tk : Takes (cxOf (L2.CX P w) P w K mg base N qual scope f cd A outer s H E) (fun cls d _ H => E cls d H) := takes_of rfl rfl rfl rfl
  exact ⟨⟨rfl, rfl, S.nd, passes_call tk fun _ _ _ _ h => h, passes_of (K := fun e s'' => L2.CX P w outer H s E e s'') rfl, hr⟩, tk⟩
theorem fn_ok {P : Program} {w : World} {K : PySem.W.Frag} {mg : Str → Option Value} {base : Heap} {M : Pm} {x qual : Str} {st : Stmt} {f : Addr} {fd : FuncData} {N ps : List Str} {k : Nat} {g : Fs} (F : Fun K x qual st f fd) (S : FnScope N ps (defScope st))
    (hb : ∀ (cdv : Value) (A : Around) (outer : List Env) (s : Shared) (H : Hp) (E : XK), CxF K (cxOf (L2.CX P w) P w K mg base N qual (defScope st) f cdv A outer s H E) E k → Takes (cxOf (L2.CX P w) P w K mg base N qual (defScope st) f cdv A outer s H E) (fun cls d _ H => E cls d H) →
      ∃ t, JB K (cxOf (L2.CX P w) P w K mg base N qual (defScope st) f cdv A outer s H E) M E (defBody st) t g) : FnOk P w K mg base (L2.CX P w) (k + 1) f fd ps (spF K M (runF ps.length N.length g)) := by
  have len : ∀ vs H Q E, spF K M (runF ps.length N.length g) vs H Q E → vs.length = ps.length := by
    rintro vs H Q E ⟨G, ds, r, _, ra, e, _⟩
    unfold runF at e
    split at e
    · rename_i hl
      rw [ra.len]; exact hl
    · cases e
  refine F.okX S len fun cdv A outer s H vs Q E hr h => ?_
  obtain ⟨C, tk⟩ := cxf_of (P := P) (w := w) (K := K) (mg := mg) (base := base) (qual := qual) (s := s) (H := H) (E := E) (outer := outer) S hr
  obtain ⟨t, J⟩ := hb cdv A outer s H E C tk
  refine ⟨t, J.ps, ?_⟩
  obtain ⟨G, ds, r, e, ra, er, p⟩ := h
  unfold runF at er
  split at er
  · split at er
    · rename_i γ1 ef
      cases er
      exact J.so H G _ _ H G _ _ (env_entry e ra) ef fun σ' H' G' ev => p .non H' G' ev.st .non
    · rename_i d ef
      cases er
      exact J.so H G _ _ H G _ _ (env_entry e ra) ef fun v H' G' s r => p v H' G' s r
    · rename_i c ef
      cases er
      exact J.so H G _ _ H G _ _ (env_entry e ra) ef fun H' G' s => p H' G' s
    · cases er
  · cases er
/-- a def of the text, where it stands -/
structure Df (K : PySem.W.Frag) (mg : Str → Option Value) (x : Str) (st : Stmt) (ps : List Str) (f : Addr) (fd : FuncData) : Prop where
  F : Fun K x x st f fd
  b : Binds K fd ps []
  m : mg x = some (.ref f)
/-- with no level nothing is told -/
theorem fn_zero {P : Program} {w : World} {K : PySem.W.Frag} {mg : Str → Option Value} {base : Heap} {M : Pm} {f : Addr} {fd : FuncData} {ps : List Str} : FnOk P w K mg base (L2.CX P w) 0 f fd ps (spF K M fun _ => none) := by
  have no : ∀ vs H Q E, ¬ spF K M (fun _ => none) vs H Q E := by
    rintro vs H Q E ⟨_, _, _, _, _, e, _⟩
    cases e
  exact ⟨fun vs H Q E h => absurd h (no vs H Q E), fun A outer s H args us vs Q E _ _ _ _ h => absurd h (no vs H Q E)⟩
end Py


/-! PyG: built-ins -/
namespace Py
open PySem PySem.Spec PyProof.Rows L2

section
variable {K : PySem.W.Frag} {X : Cx} {M : Pm} {E : XK} {k : Nat} {m : Md} {a b e c : Expr} {ta tb te tc : TE} {fa fb fe fc : Fe} {pos : Pos}

/-! min of two ints -/
def rMin2 : List V → Hp → VK → Prop := fun xs H Q => ∃ i j, xs = [.int i, .int j] ∧ Q (.int (if j < i then j else i)) H
def oMin2 : List D → Option D
  | [.int i, .int j] => some (.int (if j < i then j else i))
  | _ => none
theorem cs_min2 {K : PySem.W.Frag} : CallS K M .cl rMin2 oMin2 := by
  intro H G vs ds dz Q e r ho q
  unfold oMin2 at ho
  split at ho
  · rename_i i j
    cases ho
    cases r with
    | cons r t =>
      cases t with
      | cons r' t =>
        cases t
        cases (show R K M G _ (.int i) from r)
        cases (show R K M G _ (.int j) from r')
        exact ⟨i, j, rfl, q _ H G (Stp.refl e) (R.int _)⟩
  · cases ho
theorem je_min2 {p : Pos} (C : CxF K X E k) (hm : X.mg "min" = none) (hg : Gl X "min") (ha : JE K X M E .op a ta fa) (hb : JE K X M E .op b tb fb)
    (hs3 : starEach [a, b] X.env = (false, eval a X.env) :: starEach [b] X.env := by rfl) (hs4 : starEach [b] X.env = (false, eval b X.env) :: starEach [] X.env := by rfl) (hpl : (backTo pos (starEach [b] X.env)).any (·.1) = false := by rfl) :
    JE K X M E .cl (.Call (.Name "min" p) [a, b] [] pos) (tCB rMin2 (tCons ta (tCons tb tNil))) (fB oMin2 (fCons fa (fCons fb fNil))) :=
  je_callB (call_min2 C.calm) cs_min2 hm (by decide +kernel) hg (ja_cons ha (ja_cons hb ja_nil hs4) hs3) (by decide) (by decide) hs3 hpl

/-! any, all of a list of truths -/
def boolsOf : List D → Option (List Bool)
  | [] => some []
  | .bool b :: r => (match boolsOf r with
    | some bs => some (b :: bs)
    | none => none)
  | _ :: _ => none
theorem boolsOf_eq : ∀ {ds : List D} {bs : List Bool}, boolsOf ds = some bs → ds = bs.map PyData.bool
  | [], bs, h => by cases h; rfl
  | d :: r, bs, h => by
    cases d with
    | bool b =>
      unfold boolsOf at h
      split at h
      · rename_i bs' e
        cases h
        rw [boolsOf_eq e]
        rfl
      · cases h
    | _ => cases h
theorem boolsOf_map : ∀ (bs : List Bool), boolsOf (bs.map PyData.bool) = some bs
  | [] => rfl
  | b :: r => by
    show (match boolsOf (r.map PyData.bool) with | some bs => some (b :: bs) | none => none) = _
    rw [boolsOf_map r]
def oAny : List D → Option D
  | [.list ds] => (match boolsOf ds with
    | some bs => some (.bool (bs.any id))
    | none => none)
  | _ => none
def oAll : List D → Option D
  | [.list ds] => (match boolsOf ds with
    | some bs => some (.bool (bs.all id))
    | none => none)
  | _ => none
theorem cs_any {K : PySem.W.Frag} : CallS K M .cl (rAny K) oAny := by
  intro H G vs ds dz Q e r ho q
  unfold oAny at ho
  split at ho
  · split at ho
    · rename_i bs eb
      cases ho
      have eb := boolsOf_eq eb
      subst eb
      cases r with
      | cons r t =>
        cases t
        obtain ⟨l, us, e1, h, ra⟩ := r
        subst e1
        exact ⟨l, bs, rfl, by rw [← ra.bools]; exact h, q _ H G (Stp.refl e) (R.bl _)⟩
    · cases ho
  · cases ho
theorem cs_all {K : PySem.W.Frag} : CallS K M .cl (rAll K) oAll := by
  intro H G vs ds dz Q e r ho q
  unfold oAll at ho
  split at ho
  · split at ho
    · rename_i bs eb
      cases ho
      have eb := boolsOf_eq eb
      subst eb
      cases r with
      | cons r t =>
        cases t
        obtain ⟨l, us, e1, h, ra⟩ := r
        subst e1
        exact ⟨l, bs, rfl, by rw [← ra.bools]; exact h, q _ H G (Stp.refl e) (R.bl _)⟩
    · cases ho
  · cases ho
theorem je_any {p : Pos} (C : CxF K X E k) (hm : X.mg "any" = none) (hg : Gl X "any") (ha : JE K X M E .op a ta fa) (hs : starEach [a] X.env = (false, eval a X.env) :: starEach [] X.env := by rfl) : JE K X M E .cl (.Call (.Name "any" p) [a] [] pos) (tCB (rAny K) (tCons ta tNil)) (fB oAny (fCons fa fNil)) := by
  have hK := C.hK
  subst hK
  exact je_callB (cr_any C.calm) cs_any hm (by decide +kernel) hg (ja_cons ha ja_nil hs) (by decide) (by decide) hs rfl
theorem je_all {p : Pos} (C : CxF K X E k) (hm : X.mg "all" = none) (hg : Gl X "all") (ha : JE K X M E .op a ta fa) (hs : starEach [a] X.env = (false, eval a X.env) :: starEach [] X.env := by rfl) : JE K X M E .cl (.Call (.Name "all" p) [a] [] pos) (tCB (rAll K) (tCons ta tNil)) (fB oAll (fCons fa fNil)) := by
  have hK := C.hK
  subst hK
  exact je_callB (cr_all C.calm) cs_all hm (by decide +kernel) hg (ja_cons ha ja_nil hs) (by decide) (by decide) hs rfl
/-! list(xs), tuple(xs), int(flag) -/
def rListA (K : PySem.W.Frag) : List V → Hp → VK → Prop := fun xs H Q => ∃ p ys, xs = [.ref p] ∧ (SqL K H p ys ∨ SqT K H p ys) ∧ ∀ l, H l = none → Q (.ref l) (upd H l (.lst ys))
def oList : List D → Option D
  | [.list ds] => some (.list ds)
  | [.tuple ds] => some (.list ds)
  | _ => none
theorem cs_list {K : PySem.W.Frag} : CallS K M .fr (rListA K) oList := by
  intro H G vs ds dz Q e r ho q
  unfold oList at ho
  split at ho
  · rename_i ds
    cases ho
    cases r with
    | cons r t =>
      cases t
      obtain ⟨l, us, e1, h, ra⟩ := r
      subst e1
      exact ⟨l, us, rfl, .inl h, fun p hp => q _ _ G (Stp.newO e hp) ⟨p, us, rfl, hp, e.free hp, upd_same, ra⟩⟩
  · rename_i ds
    cases ho
    cases r with
    | cons r t =>
      cases t
      obtain ⟨l, us, e1, h, ra⟩ := R.tupI (show R K M G _ (.tuple ds) from r)
      subst e1
      exact ⟨l, us, rfl, .inr (same_T e h), fun p hp => q _ _ G (Stp.newO e hp) ⟨p, us, rfl, hp, e.free hp, upd_same, ra⟩⟩
  · cases ho
theorem je_list {p : Pos} (C : CxF K X E k) (hm : X.mg "list" = none) (hg : Gl X "list") (ha : JE K X M E .op a ta fa) (hs : starEach [a] X.env = (false, eval a X.env) :: starEach [] X.env := by rfl) : JE K X M E .fr (.Call (.Name "list" p) [a] [] pos) (tCB (rListA K) (tCons ta tNil)) (fB oList (fCons fa fNil)) := by
  have hK := C.hK
  subst hK
  exact je_callTy call_list_of cs_list hm (by decide +kernel) hg (ja_cons ha ja_nil hs) (by decide) (by decide) hs rfl
def rTupleA (K : PySem.W.Frag) : List V → Hp → VK → Prop := fun xs H Q => ∃ p ys, xs = [.ref p] ∧ ((SqL K H p ys ∧ ∀ l, H l = none → Q (.ref l) (upd H l (.tup ys))) ∨ (SqT K H p ys ∧ Q (.ref p) H))
def oTuple : List D → Option D
  | [.list ds] => some (.tuple ds)
  | _ => none
theorem cs_tuple {K : PySem.W.Frag} : CallS K M .cl (rTupleA K) oTuple := by
  intro H G vs ds dz Q e r ho q
  unfold oTuple at ho
  split at ho
  · rename_i ds
    cases ho
    cases r with
    | cons r t =>
      cases t
      obtain ⟨l, us, e1, h, ra⟩ := r
      subst e1
      refine ⟨l, us, rfl, .inl ⟨h, fun p hp => ?_⟩⟩
      have s := Stp.new (o := .tup us) e hp
      exact q _ _ _ s (R.tup (.of upd_same) (ra.mono s.eg))
  · cases ho
theorem je_tuple {p : Pos} (C : CxF K X E k) (hm : X.mg "tuple" = none) (hg : Gl X "tuple") (ha : JE K X M E .op a ta fa) (hs : starEach [a] X.env = (false, eval a X.env) :: starEach [] X.env := by rfl) : JE K X M E .cl (.Call (.Name "tuple" p) [a] [] pos) (tCB (rTupleA K) (tCons ta tNil)) (fB oTuple (fCons fa fNil)) := by
  have hK := C.hK
  subst hK
  exact je_callTy call_tuple_of cs_tuple hm (by decide +kernel) hg (ja_cons ha ja_nil hs) (by decide) (by decide) hs rfl
def rInt1 : List V → Hp → VK → Prop := fun xs H Q => (∃ i, xs = [.int i] ∧ Q (.int i) H) ∨ ∃ k, xs = [.bl k] ∧ Q (.int (if k then 1 else 0)) H
def oInt1 : List D → Option D
  | [.bool b] => some (.int (if b then 1 else 0))
  | [.int i] => some (.int i)
  | _ => none
theorem cs_int1 {K : PySem.W.Frag} : CallS K M .cl rInt1 oInt1 := by
  intro H G vs ds dz Q e r ho q
  unfold oInt1 at ho
  split at ho
  · rename_i b
    cases ho
    cases r with
    | cons r t =>
      cases t
      cases (show R K M G _ (.bool b) from r)
      exact .inr ⟨b, rfl, q _ H G (Stp.refl e) (R.int _)⟩
  · rename_i i
    cases ho
    cases r with
    | cons r t =>
      cases t
      cases (show R K M G _ (.int i) from r)
      exact .inl ⟨i, rfl, q _ H G (Stp.refl e) (R.int _)⟩
  · cases ho
theorem je_int1 {p : Pos} (hm : X.mg "int" = none) (hg : Gl X "int") (ha : JE K X M E .op a ta fa) (hs : starEach [a] X.env = (false, eval a X.env) :: starEach [] X.env := by rfl) : JE K X M E .cl (.Call (.Name "int" p) [a] [] pos) (tCB rInt1 (tCons ta tNil)) (fB oInt1 (fCons fa fNil)) :=
  je_callTy call_int1 cs_int1 hm (by decide +kernel) hg (ja_cons ha ja_nil hs) (by decide) (by decide) hs rfl

/-! list(range(a, b)), list(range(a, b, -1)) -/
theorem RA.rg {K : PySem.W.Frag} {G : Hp} (f : Nat → Int) : ∀ l : List Nat, RA K M G (l.map fun i => V.int (f i)) (l.map fun i => PyData.int (f i))
  | [] => .nil
  | i :: r => .cons (.int _) (RA.rg f r)
def fLrg (a : Fa) : Fe := fun γ => match a γ with
  | some (.ok [.int i, .int j]) => if rgOk i j = true then some (.ok (.list (rgD i j))) else none
  | some (.er c) => some (.er c)
  | _ => none
theorem je_listRg {p p2 pos2 : Pos} (C : CxF K X E k) (hm : X.mg "list" = none) (hg : Gl X "list") (hm2 : X.mg "range" = none) (hg2 : Gl X "range") (ha : JE K X M E .op a ta fa) (hb : JE K X M E .op b tb fb)
    (hs3 : starEach [a, b] X.env = (false, eval a X.env) :: starEach [b] X.env := by rfl) (hs4 : starEach [b] X.env = (false, eval b X.env) :: starEach [] X.env := by rfl) (hpl : (backTo pos2 (starEach [b] X.env)).any (·.1) = false := by rfl)
    (na : starEach [Expr.Call (.Name "range" p2) [a, b] [] pos2] X.env = (false, eval (Expr.Call (.Name "range" p2) [a, b] [] pos2) X.env) :: starEach [] X.env := by rfl) :
    JE K X M E .fr (.Call (.Name "list" p) [.Call (.Name "range" p2) [a, b] [] pos2] [] pos) (tLstRg (tRg2 ta tb)) (fLrg (fCons fa (fCons fb fNil))) := by
  have A := ja_cons ha (ja_cons hb (ja_nil (K := K) (X := X) (M := M) (E := E)) hs4) hs3
  refine ⟨pe_listRg C.calm hg hm (prg_2 hg2 hm2 ha.pe hb.pe hs3 hs4 hpl) na, fun H0 G0 γ σ H G Q r ev hf p => ?_⟩
  unfold fLrg at hf
  have key : ∀ (z : Rl), fCons fa (fCons fb fNil) γ = some z → PostA K M E H G (fun vs H1 => ∃ i j, vs = [V.int i, V.int j] ∧ RgOk i j ∧ ∀ q, H1 q = none → Q (.ref q) (upd H1 q (.lst (rgV i j)))) z → tLstRg (tRg2 ta tb) σ H Q := by
    intro z ez pz
    unfold tLstRg tRg2
    cases e1 : fa γ with
    | none => simp only [fCons, e1, bL] at ez; cases ez
    | some q1 =>
      cases q1 with
      | er cc =>
        have ez' : z = .er cc := by simp only [fCons, e1, bL] at ez; cases ez; rfl
        subst ez'
        exact ha.eo H0 G0 γ σ H G _ _ ev e1 pz
      | ok dx =>
        refine ha.eo H0 G0 γ σ H G _ _ ev e1 fun x H1 G1 s1 r1 => ?_
        cases e2 : fb γ with
        | none => simp only [fCons, e1, e2, bL, bLL] at ez; cases ez
        | some q2 =>
          cases q2 with
          | er cc =>
            have ez' : z = .er cc := by simp only [fCons, e1, e2, bL, bLL, fNil] at ez; cases ez; rfl
            subst ez'
            exact hb.eo H0 G0 γ σ H1 G1 _ _ (ev.stp s1) e2 fun H' G' s => pz H' G' (s1.trans s)
          | ok dy =>
            have ez' : z = .ok [dx, dy] := by simp only [fCons, e1, e2, bL, bLL, fNil] at ez; cases ez; rfl
            subst ez'
            refine hb.eo H0 G0 γ σ H1 G1 _ _ (ev.stp s1) e2 fun y H2 G2 s2 r2 => ?_
            obtain ⟨i, j, e3, ok, q⟩ := pz [x, y] H2 G2 (s1.trans s2) (.cons (r1.mono s2.ex s2.eg) (.cons r2 .nil))
            cases e3
            exact ⟨i, j, rfl, rfl, ok, q⟩
  split at hf
  · rename_i i j e1
    split at hf
    · rename_i hr
      cases hf
      refine key _ e1 fun vs H1 G1 s1 r1 => ?_
      cases r1 with
      | cons r t =>
        cases t with
        | cons r' t =>
          cases t
          cases (show R K M G1 _ (.int i) from r)
          cases (show R K M G1 _ (.int j) from r')
          have hz := hr
          unfold rgOk at hz
          simp only [Bool.and_eq_true, decide_eq_true_eq] at hz
          obtain ⟨b1, b2, b3, b4⟩ := rgOk_of hr
          refine ⟨i, j, rfl, ⟨b1, b2, b3, b4, by omega⟩, fun q hq => ?_⟩
          exact p _ _ G1 (s1.trans (Stp.newO s1.sub hq)) ⟨q, _, rfl, s1.ex.free hq, s1.sub.free hq, upd_same, RA.rg _ _⟩
    · cases hf
  · rename_i e1
    cases hf
    exact key _ e1 p
  · cases hf
def tLrg3 (ta : TA) : TE := fun σ H Q => ta σ H fun vs H1 => ∃ i j : Int, vs = [.int i, .int j, .int (-1)] ∧ (-(2 ^ 62) ≤ i ∧ i < 2 ^ 62 ∧ -(2 ^ 62) ≤ j ∧ j < 2 ^ 62 ∧ (i - j).toNat ≤ 2 ^ 24) ∧ ∀ q, H1 q = none → Q (.ref q) (upd H1 q (.lst ((List.range (i - j).toNat).map fun n => V.int (i + (n : Nat) * (-1)))))
theorem pe_listRg3 {ta : TA} {p p2 pos2 : Pos} (hc : X.calm = true) (hg : Gl X "list") (hm : X.mg "list" = none) (hg2 : Gl X "range") (hm2 : X.mg "range" = none) (ha : PA X [a, b, c] ta) (hs : starEach [a, b, c] X.env = (false, eval a X.env) :: starEach [b, c] X.env) (hpl : (backTo pos2 (starEach [b, c] X.env)).any (·.1) = false)
    (na : starEach [Expr.Call (.Name "range" p2) [a, b, c] [] pos2] X.env = (false, eval (Expr.Call (.Name "range" p2) [a, b, c] [] pos2) X.env) :: starEach [] X.env) : PE X (.Call (.Name "list" p) [.Call (.Name "range" p2) [a, b, c] [] pos2] [] pos) (tLrg3 ta) := by
  refine ⟨fun pins s σ H Q I h => ?_⟩
  refine Call_ (ld_blt I hg hm boot_list (PyProof.Rows.callWith_type1 (args_cons ?_ na) na))
  refine Call_ (ld_blt I hg2 hm2 boot_range (PyProof.Rows.callWith_type1 (thn (ha.run pos2 pins s σ H _ I h) fun us s1 ⟨vs, H1, I1, r1, q1⟩ => ?_) hs hpl))
  obtain ⟨i, j, e, ⟨b1, b2, b3, b4, b5⟩, q⟩ := q1
  subst e
  cases r1 with
  | cons r rr =>
    cases rr with
    | cons r' rr =>
      cases rr with
      | cons r'' rr =>
        cases rr
        obtain ⟨t, rfl⟩ := r
        obtain ⟨t', rfl⟩ := r'
        obtain ⟨t'', rfl⟩ := r''
        refine call_range_3 (by decide) (args_nil ?_) (.inl (PyProof.noPylong_small (by decide)))
        obtain ⟨c0, c1, c2, c3⟩ := RgC.neg b1 b2 b3 b4
        have I2 : Inv X pins σ H1 { s1 with heap := s1.heap.push { cls := .type "range", data := .fields #[.int i t, .int j t', .int (-1) t''] } } := I1.kept (t' := s1.toks) fun b o e => Heap.get?_push_of_some _ e
        refine call_list_range (n := (i - j).toNat) (I1.ok.hd hc) (IsRange.new ..) c2 c3 b5 fun h' tk acc c' hk e' hi => ?_
        refine ⟨.ref _, upd H1 _ (.lst ((List.range (i - j).toNat).map fun n => V.int (i + (n : Nat) * (-1)))), I2.laid hk (Nat.le_refl _) (show ObjOk X.prog X.w _ _ _ (.lst _) from ⟨?_, acc.toList, c', ?_, ?_⟩), rfl, q _ (I2.hok.fresh (Nat.le_refl _))⟩
        · rw [List.length_map, List.length_range, sizeLine_eq]; omega
        · have e : acc.toList.length = (i - j).toNat := by rw [Array.length_toList]; exact hi.1
          rw [← e]
          refine vals_of_get acc.toList _ fun n u hj => ?_
          obtain ⟨t, rfl⟩ := hi.2 n u (by rw [← hj, Array.getElem?_toList])
          exact ⟨t, rfl⟩
        · rw [Array.toArray_toList]; exact e'
def rgDn (i j : Int) : List D := (List.range (i - j).toNat).map fun n => .int (i + (n : Nat) * (-1))
def fLrg3 (a : Fa) : Fe := fun γ => match a γ with
  | some (.ok [.int i, .int j, .int (-1)]) => if rgOk i j = true then some (.ok (.list (rgDn i j))) else none
  | some (.er c) => some (.er c)
  | _ => none
theorem je_listRg3 {p p2 pos2 : Pos} (C : CxF K X E k) (hm : X.mg "list" = none) (hg : Gl X "list") (hm2 : X.mg "range" = none) (hg2 : Gl X "range") (ha : JE K X M E .op a ta fa) (hb : JE K X M E .op b tb fb) (hc : JE K X M E .op c tc fc)
    (hs2 : starEach [a, b, c] X.env = (false, eval a X.env) :: starEach [b, c] X.env := by rfl) (hs3 : starEach [b, c] X.env = (false, eval b X.env) :: starEach [c] X.env := by rfl) (hs4 : starEach [c] X.env = (false, eval c X.env) :: starEach [] X.env := by rfl) (hpl : (backTo pos2 (starEach [b, c] X.env)).any (·.1) = false := by rfl)
    (na : starEach [Expr.Call (.Name "range" p2) [a, b, c] [] pos2] X.env = (false, eval (Expr.Call (.Name "range" p2) [a, b, c] [] pos2) X.env) :: starEach [] X.env := by rfl) :
    JE K X M E .fr (.Call (.Name "list" p) [.Call (.Name "range" p2) [a, b, c] [] pos2] [] pos) (tLrg3 (tCons ta (tCons tb (tCons tc tNil)))) (fLrg3 (fCons fa (fCons fb (fCons fc fNil)))) := by
  have A := ja_cons ha (ja_cons hb (ja_cons hc (ja_nil (K := K) (X := X) (M := M) (E := E)) hs4) hs3) hs2
  refine ⟨pe_listRg3 C.calm hg hm hg2 hm2 A.pa hs2 hpl na, fun H0 G0 γ σ H G Q r ev hf p => ?_⟩
  unfold fLrg3 at hf
  split at hf
  · rename_i i j e1
    split at hf
    · rename_i hr
      cases hf
      refine A.ao H0 G0 γ σ H G _ _ ev e1 fun vs H1 G1 s1 r1 => ?_
      cases r1 with
      | cons r t =>
        cases t with
        | cons r' t =>
          cases t with
          | cons r'' t =>
            cases t
            cases (show R K M G1 _ (.int i) from r)
            cases (show R K M G1 _ (.int j) from r')
            cases (show R K M G1 _ (.int (-1)) from r'')
            have hz := hr
            unfold rgOk at hz
            simp only [Bool.and_eq_true, decide_eq_true_eq] at hz
            obtain ⟨b1, b2, b3, b4⟩ := rgOk_of hr
            refine ⟨i, j, rfl, ⟨b1, b2, b3, b4, by omega⟩, fun q hq => ?_⟩
            exact p _ _ G1 (s1.trans (Stp.newO s1.sub hq)) ⟨q, _, rfl, s1.ex.free hq, s1.sub.free hq, upd_same, RA.rg _ _⟩
    · cases hf
  · rename_i e1
    cases hf
    exact A.ao H0 G0 γ σ H G _ _ ev e1 p
  · cases hf

/-! isinstance(x, T), T a built-in type -/
def tyN : D → Option String
  | .none => some "NoneType"
  | .bool _ => some "bool"
  | .int _ => some "int"
  | .str _ => some "str"
  | .list _ => some "list"
  | .tuple _ => some "tuple"
  | .dict [] => some "dict"
  | .dict _ => none
def isT (T : String) (d : D) : Option Bool := match tyN d with
  | some n => some (n == T || (n == "bool" && T == "int"))
  | none => none
def oIsi (T : String) (d : D) : Option D := match isT T d with
  | some b => some (.bool b)
  | none => none
theorem kit_isT {T : String} (hT : T = "str" ∨ T = "int" ∨ T = "bool" ∨ T = "tuple" ∨ T = "list") {n : String} (hn : n = "NoneType" ∨ n = "bool" ∨ n = "int" ∨ n = "str" ∨ n = "list" ∨ n = "tuple" ∨ n = "dict") : kitB n T = some (n == T || (n == "bool" && T == "int")) := by
  rcases hT with rfl | rfl | rfl | rfl | rfl <;> rcases hn with rfl | rfl | rfl | rfl | rfl | rfl | rfl <;> decide +kernel
theorem tyx_of {K : PySem.W.Frag} {H G : Hp} {v : V} {d : D} {n : String} (e : Same G H) (r : RO K M H G v d) (h : tyN d = some n) : TyX K H v (.type n) := by
  cases d with
  | none => cases h; cases (show R K M G v .none from r); exact .base .non
  | bool b => cases h; cases (show R K M G v (.bool b) from r); exact .base (.bl b)
  | int b => cases h; cases (show R K M G v (.int b) from r); exact .base (.int b)
  | str b => cases h; cases (show R K M G v (.str b) from r); exact .base (.str b)
  | list ds =>
    cases h
    obtain ⟨l, us, e1, h, ra⟩ := r
    subst e1
    rcases h with (h | ⟨o, h⟩) | ⟨o, its, n, h, c, _⟩
    · exact .base (.lst h)
    · exact .base (.frz h)
    · exact .kList h c
  | tuple ds =>
    cases h
    obtain ⟨l, us, e1, h, ra⟩ := R.tupI (show R K M G v (.tuple ds) from r)
    subst e1
    rcases same_T e h with (h | ⟨o, h⟩) | ⟨o, its, n, h, c, _⟩
    · exact .base (.tup h)
    · exact .fTuple h
    · exact .kTuple h c
  | dict kvs =>
    cases kvs with
    | nil =>
      cases h
      cases (show R K M G v (.dict []) from r) with
      | edict h => exact .base (.dK (e _ _ h))
    | cons _ _ => cases h
theorem tyN_ok {d : D} {n : String} (h : tyN d = some n) : n = "NoneType" ∨ n = "bool" ∨ n = "int" ∨ n = "str" ∨ n = "list" ∨ n = "tuple" ∨ n = "dict" := by
  cases d with
  | dict kvs =>
    cases kvs with
    | nil => cases h; simp
    | cons _ _ => cases h
  | _ => cases h; simp
def rIsiA (K : PySem.W.Frag) : List V → Hp → VK → Prop := fun xs H Q => ∃ (x c : V) (t u : Value) (b : Bool), xs = [x, c] ∧ ClsV c u ∧ TyX K H x t ∧ PySem.W.kitOne K t u = some b ∧ Q (.bl b) H
theorem je_isi {T : String} {y : Str} {p p2 : Pos} (C : CxF K X E k) (hm : X.mg "isinstance" = none) (hg : Gl X "isinstance") (hm2 : X.mg y = none) (hg2 : Gl X y) (hv : bootBuiltins y = some (.type T)) (hT : T = "str" ∨ T = "int" ∨ T = "bool" ∨ T = "tuple" ∨ T = "list") (ha : JE K X M E .op a ta fa)
    (hn : y ≠ "__name__" := by decide) (hdb : (y == ("__debug__" : Str)) = false := by decide) (hs3 : starEach [a, .Name y p2] X.env = (false, eval a X.env) :: starEach [.Name y p2] X.env := by rfl) (hs4 : starEach [.Name y p2] X.env = (false, eval (.Name y p2) X.env) :: starEach [] X.env := by rfl) (hpl : (backTo pos (starEach [.Name y p2] X.env)).any (·.1) = false := by rfl) :
    JE K X M E .cl (.Call (.Name "isinstance" p) [a, .Name y p2] [] pos) (tCB (rIsiA K) (tCons ta (tCons (tC (.ty T)) tNil))) (f1 (oIsi T) fa) := by
  have hK := C.hK
  subst hK
  refine ⟨pe_callB call_isi hg hm (by decide +kernel) (pa_cons ha.pe (pa_cons (pe_bltn (v := .ty T) hg2 hm2 hv rfl hn hdb) pa_nil hs4) hs3) (by decide) (by decide) hs3 hpl, fun H0 G0 γ σ H G Q r ev hf p' => ?_⟩
  unfold f1 at hf
  cases e1 : fa γ with
  | none => rw [e1] at hf; cases hf
  | some q1 =>
    rw [e1] at hf
    cases q1 with
    | er c => cases hf; exact ha.eo H0 G0 γ σ H G _ _ ev e1 p'
    | ok d =>
      refine ha.eo H0 G0 γ σ H G _ _ ev e1 fun v H1 G1 s r1 => ?_
      simp only [bR, oIsi, isT] at hf
      cases e2 : tyN d with
      | none => rw [e2] at hf; cases hf
      | some n =>
        rw [e2] at hf
        cases hf
        exact ⟨v, .ty T, .type n, .type T, _, rfl, .ty T, tyx_of s.sub r1 e2, kit_ty (kit_isT hT (tyN_ok e2)), p' _ H1 G1 s (R.bl _)⟩

/-! texts -/
def strsOf : List D → Option (List Str)
  | [] => some []
  | .str b :: r => (match strsOf r with
    | some bs => some (b :: bs)
    | none => none)
  | _ :: _ => none
theorem strsOf_eq : ∀ {ds : List D} {bs : List Str}, strsOf ds = some bs → ds = bs.map PyData.str
  | [], bs, h => by cases h; rfl
  | d :: r, bs, h => by
    cases d with
    | str b =>
      unfold strsOf at h
      split at h
      · rename_i bs' e
        cases h
        rw [strsOf_eq e]
        rfl
      · cases h
    | _ => cases h
theorem strsOf_map : ∀ (bs : List Str), strsOf (bs.map PyData.str) = some bs
  | [] => rfl
  | b :: r => by
    show (match strsOf (r.map PyData.str) with | some bs => some (b :: bs) | none => none) = _
    rw [strsOf_map r]
def rJoinA (K : PySem.W.Frag) : V → List V → Hp → VK → Prop := fun x xs H Q => ∃ a p, ∃ ys : List Str, x = .str a ∧ xs = [.ref p] ∧ (SqL K H p (ys.map V.str) ∨ SqT K H p (ys.map V.str)) ∧
    (ys.map (·.length)).sum + ys.length * a.length ≤ 16777216 ∧ Q (.str (Txt.join a ys)) H
def fM1 (o : Str → D → Option D) (a b : Fe) : Fe := fun γ => match a γ with
  | some (.ok (.str z)) => bR (b γ) fun y => oR (o z y)
  | some (.er c) => some (.er c)
  | _ => none
/-- a method of texts with one argument, by values -/
def Mt1S (K : PySem.W.Frag) (M : Pm) (m : Md) (r : V → List V → Hp → VK → Prop) (o : Str → D → Option D) : Prop :=
  ∀ (H G : Hp) (z : Str) (y : V) (dy dz : D) (Q : VK), Same G H → RO K M H G y dy → o z dy = some dz → (∀ v H' G', Stp H G H' G' → Res K M m H H' G' v dz → Q v H') → r (.str z) [y] H Q
theorem eo_m1 {K : PySem.W.Frag} {r : V → List V → Hp → VK → Prop} {o : Str → D → Option D} (ho : Mt1S K M m r o) (ha : EO K M E .op ta fa) (hb : EO K M E .op tb fb) : EO K M E m (tM1 r ta tb) (fM1 o fa fb) := by
  intro H0 G0 γ σ H G Q q ev hf p
  unfold fM1 at hf
  split at hf
  · rename_i z e1
    refine ha H0 G0 γ σ H G _ _ ev e1 fun x H1 G1 s1 r1 => ?_
    cases (show R K M G1 x (.str z) from r1)
    refine ⟨⟨z, rfl⟩, ?_⟩
    cases e2 : fb γ with
    | none => rw [e2] at hf; cases hf
    | some q2 =>
      rw [e2] at hf
      cases q2 with
      | er c => cases hf; exact hb H0 G0 γ σ H1 G1 _ _ (ev.stp s1) e2 fun H' G' s' => p H' G' (s1.trans s')
      | ok dy =>
        refine hb H0 G0 γ σ H1 G1 _ _ (ev.stp s1) e2 fun y H2 G2 s2 r2 => ?_
        simp only [bR] at hf
        cases e3 : o z dy with
        | none => rw [e3] at hf; cases hf
        | some dz =>
          rw [e3] at hf
          cases hf
          exact ho H2 G2 z y dy dz Q s2.sub r2 e3 fun v H' G' s3 r3 => p v H' G' ((s1.trans s2).trans s3) (r3.up (s1.ex.trans s2.ex))
  · rename_i c e1
    cases hf
    exact ha H0 G0 γ σ H G _ _ ev e1 p
  · cases hf
def oJoin (a : Str) : D → Option D
  | .list ds => (match strsOf ds with
    | some ys => if (ys.map (·.length)).sum + ys.length * a.length ≤ big then some (.str (Txt.join a ys)) else none
    | none => none)
  | _ => none
theorem ms_join {K : PySem.W.Frag} : Mt1S K M .cl (rJoinA K) oJoin := by
  intro H G z y dy dz Q e r ho q
  unfold oJoin at ho
  split at ho
  · split at ho
    · rename_i ys es
      split at ho
      · rename_i hz
        cases ho
        have es := strsOf_eq es
        subst es
        obtain ⟨l, us, e3, h, ra⟩ := r
        subst e3
        exact ⟨z, l, ys, rfl, rfl, .inl (by rw [← ra.strs]; exact h), Nat.le_trans hz (by decide), q _ H G (Stp.refl e) (R.str _)⟩
      · cases ho
    · cases ho
  · cases ho
theorem je_join {apos : Pos} (C : CxF K X E k) (ha : JE K X M E .op a ta fa) (hb : JE K X M E .op b tb fb) (hs : starEach [b] X.env = [(false, eval b X.env)] := by rfl) (hbase : attributeBase a "join" X.env (eval a X.env) = eval a X.env := by rfl) (hline : (apos.endLine == pos.line) = true := by rfl) :
    JE K X M E .cl (.Call (.Attribute a "join" apos) [b] [] pos) (tM1 (rJoinA K) ta tb) (fM1 oJoin fa fb) := by
  have hK := C.hK
  subst hK
  exact ⟨pe_join ha.pe hb.pe hs hbase hline, eo_m1 ms_join ha.eo hb.eo⟩
def rSplitA : V → List V → Hp → VK → Prop := fun x xs H Q => ∃ a b, x = .str a ∧ xs = [.str b] ∧ (b.length == 0) = false ∧ a.length + 2 ≤ sizeLine ∧ rNewStrs (Txt.split a b) H Q
def oSplit (a : Str) : D → Option D
  | .str b => if (b.length == 0) = false ∧ a.length + 2 ≤ big then some (.list ((Txt.split a b).map .str)) else none
  | _ => none
theorem ms_split {K : PySem.W.Frag} : Mt1S K M .fr rSplitA oSplit := by
  intro H G z y dy dz Q e r ho q
  unfold oSplit at ho
  split at ho
  · rename_i b
    split at ho
    · rename_i hz
      cases ho
      cases (show R K M G y (.str b) from r)
      exact ⟨z, b, rfl, rfl, hz.1, big_line hz.2, fun p hp => q _ _ G (Stp.newO e hp) ⟨p, _, rfl, hp, e.free hp, upd_same, RA.of_strs _⟩⟩
    · cases ho
  · cases ho
theorem je_split {apos : Pos} (ha : JE K X M E .op a ta fa) (hb : JE K X M E .op b tb fb) (hs : starEach [b] X.env = [(false, eval b X.env)] := by rfl) (hbase : attributeBase a "split" X.env (eval a X.env) = eval a X.env := by rfl) (hline : (apos.endLine == pos.line) = true := by rfl) :
    JE K X M E .fr (.Call (.Attribute a "split" apos) [b] [] pos) (tM1 rSplitA ta tb) (fM1 oSplit fa fb) := ⟨pe_split ha.pe hb.pe hs hbase hline, eo_m1 ms_split ha.eo hb.eo⟩
end
end Py

namespace Py
open PySem PySem.Spec PyProof.Rows L2
/-- at the law's end -/
theorem law_end {K : PySem.W.Frag} {M : Pm} {φ : List D → Option Rs} {H : Hp} {a : Addr} {ns : List Int} (hS : SqL K H a (ns.map V.int)) (h : φ [.list (ns.map .int)] = some (.ok (.bool true))) : spF K M φ [.ref a] H (fun v _ => v = .bl true) fun _ _ _ => False :=
  ⟨H, _, _, Same.refl _, .cons (.lst hS (RA.of_ints ns)) .nil, h, fun v H' G' _ r => by
    cases (show R K M G' v (.bool true) from r)
    rfl⟩
theorem no_exc {P : Program} {w : World} {H : Hp} {s : Shared} {e : Value} {s' : Shared} (z : L2.CX P w [] H s (fun _ _ _ => False) e s') : False := by
  obtain ⟨_, _, _, _, _, _, _, _, _, _, _, _, z⟩ := z
  exact z.elim
end Py

/-! PyX: defs that share one list of one number -/
namespace Py
open PySem PySem.Spec PyProof.Rows L2

/-- a step of the heap that may change the list at o -/
structure StpX (o : Addr) (H G H' G' : Hp) : Prop where
  ex : ∀ (p : Addr) (u : HO), p ≠ o → H p = some u → H' p = some u
  eg : Same G G'
  sub : Same G' H'
  nw : ∀ (p : Addr) (u : HO), H p = some u → G p = none → G' p = none
/-- slot i is the shared list at o -/
structure EnvX (K : PySem.W.Frag) (M : Pm) (i : Nat) (o : Addr) (H0 G0 : Hp) (γ : Ge) (σ : L2.St) (H G : Hp) : Prop where
  ev : EnvR K M H0 G0 γ σ H G
  sp : σ[i]? = some (some (.ref o))
section
variable {K : PySem.W.Frag} {M : Pm} {H0 G0 H G H' G' : Hp} {γ : Ge} {σ : L2.St} {i : Nat} {o : Addr}
theorem EnvX.stp {H1 G1 : Hp} (e : EnvX K M i o H0 G0 γ σ H G) (s : Stp H G H1 G1) : EnvX K M i o H0 G0 γ σ H1 G1 := ⟨e.ev.stp s, e.sp⟩
theorem EnvX.setv {j : Nat} {v : V} {d : D} (e : EnvX K M i o H0 G0 γ σ H G) (hj : j ≠ i) (r : R K M G v d) : EnvX K M i o H0 G0 (γ.set j (.va d)) (σ.set j (some v)) H G :=
  ⟨e.ev.setv r, by rw [List.getElem?_set_ne hj]; exact e.sp⟩
theorem EnvX.own {ds : List D} (e : EnvX K M i o H0 G0 γ σ H G) (h : γ[i]? = some (.ow ds)) : ∃ vs, G o = none ∧ H0 o = none ∧ H o = some (.lst vs) ∧ RA K M G vs ds := by
  obtain ⟨p, vs, h1, h2⟩ := e.ev.ow h
  have q := e.sp
  rw [h1] at q
  cases q
  exact ⟨vs, h2⟩
theorem EnvX.call {ds es : List D} {ws : List V} (e : EnvX K M i o H0 G0 γ σ H G) (h : γ[i]? = some (.ow ds)) (s : StpX o H G H' G') (hw : H' o = some (.lst ws)) (rw_ : RA K M G' ws es) : EnvX K M i o H0 G0 (γ.set i (.ow es)) σ H' G' := by
  obtain ⟨vs, g, h0, hh, r⟩ := e.own h
  have hil : i < γ.length := (List.getElem?_eq_some_iff.mp h).1
  refine ⟨⟨⟨fun b u q => s.ex b u (ne_of_none q h0) (e.ev.st.ex b u q), e.ev.st.eg.trans s.eg, s.sub, fun p u q n => s.nw p _ (e.ev.st.ex p u q) (e.ev.st.nw p u q n)⟩, by rw [List.length_set]; exact e.ev.len, fun j t x q1 q2 => ?_, fun j k sj sk xj xk p h1 h2 h3 h4 h5 h6 => ?_⟩, e.sp⟩
  · by_cases hj : i = j
    · subst hj
      rw [List.getElem?_set_self hil] at q1
      rw [e.sp] at q2
      cases q1; cases q2
      exact ⟨o, ws, rfl, s.nw _ _ hh g, h0, hw, rw_⟩
    · rw [List.getElem?_set_ne hj] at q1
      have q := e.ev.sl j t x q1 q2
      cases t with
      | no => trivial
      | va d => obtain ⟨v, e1, rv⟩ := q; exact ⟨v, e1, rv.mono s.eg⟩
      | ow dj =>
        obtain ⟨p, vp, e1, gp, hp0, hp, rp⟩ := q
        subst e1
        have hpo : p ≠ o := by
          intro ep
          subst ep
          exact hj (e.ev.ap i j _ _ _ _ p h q1 e.sp q2 rfl rfl)
        exact ⟨p, vp, rfl, s.nw _ _ hp gp, hp0, s.ex _ _ hpo hp, rp.mono s.eg⟩
  · have key : ∀ (j : Nat) (t : Sl) (x : Option V), (γ.set i (.ow es))[j]? = some t → σ[j]? = some x → isO t x p → ∃ t', γ[j]? = some t' ∧ isO t' x p := by
      intro j t x q1 q2 q3
      by_cases hj : i = j
      · subst hj
        rw [List.getElem?_set_self hil] at q1
        cases q1
        exact ⟨_, h, q3⟩
      · rw [List.getElem?_set_ne hj] at q1
        exact ⟨t, q1, q3⟩
    obtain ⟨s1, a1, b1⟩ := key j sj xj h1 h3 h5
    obtain ⟨s2, a2, b2⟩ := key k sk xk h2 h4 h6
    exact e.ev.ap j k s1 s2 xj xk p a1 a2 h3 h4 b1 b2
end

/-! ### reckonings, judgements -/
abbrev Fx := Ge → Option (D × Ge)
abbrev Fxa := Ge → Option (List D × Ge)
inductive Ox | nx (γ : Ge) | rt (d : D) (γ : Ge)
abbrev Fxs := Ge → Option Ox
section
variable (K : PySem.W.Frag) (M : Pm) (i : Nat)
def XE (t : TE) (f : Fx) : Prop := ∀ (o : Addr) (H0 G0 : Hp) (γ : Ge) (σ : L2.St) (H G : Hp) (Q : VK) (d : D) (γ' : Ge), EnvX K M i o H0 G0 γ σ H G → f γ = some (d, γ') →
  (∀ v H' G', Same G G' → EnvX K M i o H0 G0 γ' σ H' G' → R K M G' v d → Q v H') → t σ H Q
def XA (t : TA) (f : Fxa) : Prop := ∀ (o : Addr) (H0 G0 : Hp) (γ : Ge) (σ : L2.St) (H G : Hp) (Q : List V → Hp → Prop) (ds : List D) (γ' : Ge), EnvX K M i o H0 G0 γ σ H G → f γ = some (ds, γ') →
  (∀ vs H' G', Same G G' → EnvX K M i o H0 G0 γ' σ H' G' → RA K M G' vs ds → Q vs H') → t σ H Q
def PostX (o : Addr) (H0 G0 : Hp) (De : Ends) : Ox → Prop
  | .nx γ => ∀ σ H G, EnvX K M i o H0 G0 γ σ H G → De.nx σ H
  | .rt d γ => ∀ v σ H G, EnvX K M i o H0 G0 γ σ H G → R K M G v d → De.rt v H
def XO (t : TS) (f : Fxs) : Prop := ∀ (o : Addr) (H0 G0 : Hp) (γ : Ge) (σ : L2.St) (H G : Hp) (De : Ends) (r : Ox), EnvX K M i o H0 G0 γ σ H G → f γ = some r → PostX K M i o H0 G0 De r → t De σ H
end
structure JXE (K : PySem.W.Frag) (X : Cx) (M : Pm) (i : Nat) (e : Expr) (t : TE) (f : Fx) : Prop where
  pe : PE X e t
  xe : XE K M i t f
structure JXA (K : PySem.W.Frag) (X : Cx) (M : Pm) (i : Nat) (es : List Expr) (t : TA) (f : Fxa) : Prop where
  pa : PA X es t
  xa : XA K M i t f
structure JXS (K : PySem.W.Frag) (X : Cx) (M : Pm) (i : Nat) (st : Stmt) (t : TS) (f : Fxs) : Prop where
  ps : PS X st t
  xo : XO K M i t f
structure JXB (K : PySem.W.Frag) (X : Cx) (M : Pm) (i : Nat) (st : List Stmt) (t : TS) (f : Fxs) : Prop where
  ps : PSs X st t
  xo : XO K M i t f
def xOf (f : Fe) : Fx := fun γ => match f γ with
  | some (.ok d) => some (d, γ)
  | _ => none
def xNil : Fxa := fun γ => some ([], γ)
def xCons (f : Fx) (g : Fxa) : Fxa := fun γ => match f γ with
  | some (d, γ1) => (match g γ1 with
    | some (ds, γ2) => some (d :: ds, γ2)
    | none => none)
  | none => none
def xTup (f : Fxa) : Fx := fun γ => match f γ with
  | some (ds, γ1) => if ds.length ≤ big then some (.tuple ds, γ1) else none
  | none => none
def xCallP (φ : List D → Option Rs) (f : Fxa) : Fx := fun γ => match f γ with
  | some (ds, γ1) => (match φ ds with
    | some (.ok d) => some (d, γ1)
    | _ => none)
  | none => none
abbrev Phx := D → Int → List D → Option (D × Int)
def xCall (i : Nat) (φ : Phx) (f0 : Fe) (fr : Fa) : Fx := fun γ => match f0 γ with
  | some (.ok d0) => (match γ[i]? with
    | some (.ow [.int k]) => (match fr γ with
      | some (.ok ds) => (match φ d0 k ds with
        | some (d, k') => some (d, γ.set i (.ow [.int k']))
        | none => none)
      | _ => none)
    | _ => none)
  | _ => none
def xSet (j : Nat) (f : Fx) : Fxs := fun γ => match f γ with
  | some (d, γ1) => some (.nx (γ1.set j (.va d)))
  | none => none
def xRet (f : Fx) : Fxs := fun γ => match f γ with
  | some (d, γ1) => some (.rt d γ1)
  | none => none
def xIf (c : Ft) (f g : Fxs) : Fxs := fun γ => match c γ with
  | some (.ok true) => f γ
  | some (.ok false) => g γ
  | _ => none
def xNext : Fxs := fun γ => some (.nx γ)
def xSeq (f g : Fxs) : Fxs := fun γ => match f γ with
  | some (.nx γ1) => g γ1
  | r => r
def xPut (i : Nat) (fi : Fe) (fa : Fe) : Fxs := fun γ => match fa γ with
  | some (.ok d) => (match γ[i]? with
    | some (.ow ds) => (match fi γ with
      | some (.ok (.int k)) => (match ixN ds.length k with
        | some j => some (.nx (γ.set i (.ow (ds.set j d))))
        | none => none)
      | _ => none)
    | _ => none)
  | _ => none
/-- the promise of a def with the shared list -/
def spS (K : PySem.W.Frag) (M : Pm) (φ : Phx) : Sp := fun vs H Q E => ∃ (G : Hp) (o : Addr) (k : Int) (v0 : V) (d0 : D) (vr : List V) (ds : List D) (d : D) (k' : Int), vs = v0 :: .ref o :: vr ∧ Same G H ∧ G o = none ∧ H o = some (.lst [.int k]) ∧
  R K M G v0 d0 ∧ RA K M G vr ds ∧ φ d0 k ds = some (d, k') ∧ ∀ v H' G', StpX o H G H' G' → H' o = some (.lst [.int k']) → R K M G' v d → Q v H'
def entryX (n : Nat) (d0 : D) (k : Int) (ds : List D) : Ge := (entry n (d0 :: .none :: ds)).set 1 (.ow [.int k])
def runX (np n : Nat) (f : Fxs) : Phx := fun d0 k ds => if ds.length + 2 = np then (match f (entryX n d0 k ds) with
  | some (Ox.rt d γ) => (match (γ[1]? : Option Sl) with
    | some (Sl.ow [PyData.int k']) => some (d, k')
    | _ => none)
  | _ => none) else none

section
variable {K : PySem.W.Frag} {X : Cx} {M : Pm} {E : XK} {k : Nat} {i : Nat} {a b e c : Expr} {ta tb te : TE} {fa fb : Fe} {Fa_ Fb_ : Fx} {pos : Pos} {t u : TS} {f g : Fxs} {st : Stmt} {rest : List Stmt}
theorem xe_of (h : JE K X M E .cl a ta fa) : JXE K X M i a ta (xOf fa) := ⟨h.pe, fun o H0 G0 γ σ H G Q d γ' ev hf p => by
  unfold xOf at hf
  split at hf
  · rename_i d' e1
    cases hf
    exact h.eo H0 G0 γ σ H G _ _ ev.ev e1 fun v H' G' s r => p v H' G' s.eg (ev.stp s) r
  · cases hf⟩
theorem xa_nil : JXA K X M i [] tNil xNil := ⟨pa_nil, fun o H0 G0 γ σ H G Q ds γ' ev hf p => by cases hf; exact p [] H G (Same.refl _) ev .nil⟩
theorem xa_cons {es : List Expr} {tr : TA} {fr : Fxa} (ha : JXE K X M i a ta Fa_) (hr : JXA K X M i es tr fr) (hs : starEach (a :: es) X.env = (false, eval a X.env) :: starEach es X.env := by rfl) : JXA K X M i (a :: es) (tCons ta tr) (xCons Fa_ fr) :=
  ⟨pa_cons ha.pe hr.pa hs, fun o H0 G0 γ σ H G Q ds γ' ev hf p => by
    unfold xCons at hf
    split at hf
    · rename_i d γ1 e1
      split at hf
      · rename_i ds' γ2 e2
        cases hf
        exact ha.xe o H0 G0 γ σ H G _ _ _ ev e1 fun v H1 G1 s1 ev1 r1 => hr.xa o H0 G0 γ1 σ H1 G1 _ _ _ ev1 e2 fun vs H2 G2 s2 ev2 r2 => p _ H2 G2 (s1.trans s2) ev2 (.cons (r1.mono s2) r2)
      · cases hf
    · cases hf⟩
theorem xe_tup {es : List Expr} {tr : TA} {fr : Fxa} {x1 : Nat} (h : JXA K X M i es tr fr) : JXE K X M i (.Tuple es x1 pos) (tTup tr) (xTup fr) :=
  ⟨pe_tup h.pa, fun o H0 G0 γ σ H G Q d γ' ev hf p => by
    unfold xTup at hf
    split at hf
    · rename_i ds γ1 e1
      split at hf
      · rename_i hz
        cases hf
        refine h.xa o H0 G0 γ σ H G _ _ _ ev e1 fun vs H1 G1 s1 ev1 r1 => ⟨by rw [r1.len]; exact big_line hz, fun q hq => ?_⟩
        have s := Stp.new (o := .tup vs) ev1.ev.sub hq
        exact p _ _ _ (s1.trans s.eg) (ev1.stp s) (R.tup (.of upd_same) (r1.mono s.eg))
      · cases hf
    · cases hf⟩
theorem xe_callP {φ : List D → Option Rs} {j : Nat} {fd : FuncData} {fn : Addr} {ps : List Str} {x : Str} {p : Pos} {es : List Expr} {tr : TA} {fr : Fxa} (C : CxF K X E k)
    (F : FnOk X.prog X.w X.K X.mg X.base (L2.CX X.prog X.w) j fn fd ps (spF K M φ)) (hj : j ≤ k) (hb : Binds X.K fd ps []) (hm : X.mg x = some (.ref fn)) (hk : PySem.W.keepIn X.K (.ref fn) = true) (hg : Gl X x) (ha : JXA K X M i (a :: es) tr fr)
    (hdb : (x == ("__debug__" : Str)) = false := by decide) (he : starEach (a :: es) X.env = (false, eval a X.env) :: starEach es X.env := by rfl) (hpl : (backTo pos (starEach es X.env)).any (·.1) = false := by rfl) :
    JXE K X M i (.Call (.Name x p) (a :: es) [] pos) (tCallS (spF K M φ) (fun _ => E) tr) (xCallP φ fr) := by
  have hK := C.hK
  subst hK
  refine ⟨pe_callS F (C.room.mono hj) hg hm hk hb (passesAt_of C.pas) ha.pa hdb he hpl, fun o H0 G0 γ σ H G Q d γ' ev hf p => ?_⟩
  unfold xCallP at hf
  split at hf
  · rename_i ds γ1 e1
    split at hf
    · rename_i d' e2
      cases hf
      exact ha.xa o H0 G0 γ σ H G _ _ _ ev e1 fun vs H1 G1 s1 ev1 r1 => ⟨G1, ds, .ok d, ev1.ev.sub, r1, e2, fun v H' G' s' r' => p v H' G' (s1.trans s'.eg) (ev1.stp s') r'⟩
    · cases hf
  · cases hf
theorem xe_call {φ : Phx} {j : Nat} {fd : FuncData} {fn : Addr} {ps : List Str} {x y : Str} {p py : Pos} {es : List Expr} {tr : TA} {fr : Fa} (C : CxF K X E k)
    (F : FnOk X.prog X.w X.K X.mg X.base (L2.CX X.prog X.w) j fn fd ps (spS K M φ)) (hj : j ≤ k) (hb : Binds X.K fd ps []) (hm : X.mg x = some (.ref fn)) (hk : PySem.W.keepIn X.K (.ref fn) = true) (hg : Gl X x)
    (h0 : JE K X M E .cl a ta fa) (hy : PE X (.Name y py) (tVar i)) (ha : JC K X M E es tr fr)
    (hdb : (x == ("__debug__" : Str)) = false := by decide) (hs : starEach (.Name y py :: es) X.env = (false, eval (.Name y py) X.env) :: starEach es X.env := by rfl) (he : starEach (a :: .Name y py :: es) X.env = (false, eval a X.env) :: starEach (.Name y py :: es) X.env := by rfl)
    (hpl : (backTo pos (starEach (.Name y py :: es) X.env)).any (·.1) = false := by rfl) :
    JXE K X M i (.Call (.Name x p) (a :: .Name y py :: es) [] pos) (tCallS (spS K M φ) (fun _ => E) (tCons ta (tCons (tVar i) tr))) (xCall i φ fa fr) := by
  have hK := C.hK
  subst hK
  refine ⟨pe_callS F (C.room.mono hj) hg hm hk hb (passesAt_of C.pas) (pa_cons h0.pe (pa_cons hy ha.pa hs) he) hdb he hpl, fun o H0 G0 γ σ H G Q d γ' ev hf p => ?_⟩
  unfold xCall at hf
  split at hf
  · rename_i d0 e0
    split at hf
    · rename_i n e1
      split at hf
      · rename_i ds e2
        split at hf
        · rename_i d' n' e3
          cases hf
          refine h0.eo H0 G0 γ σ H G _ _ ev.ev e0 fun v0 H1 G1 s1 r1 => ?_
          refine ⟨.ref o, ev.sp, ?_⟩
          refine ha.ac H0 G0 γ σ H1 G1 _ _ (ev.ev.stp s1) e2 fun vr H2 G2 s2 r2 => ?_
          have ev2 := (ev.stp s1).stp s2
          obtain ⟨vs, hgo, h0o, ho, rv⟩ := ev2.own e1
          have evs : vs = [.int n] := by
            have q := RA.ints (bs := [n]) rv
            simpa using q
          subst evs
          refine ⟨G2, o, n, v0, d0, vr, ds, d, n', rfl, s2.sub, hgo, ho, r1.mono s2.eg, r2, e3, fun v H' G' s' ho' r' => ?_⟩
          exact p v H' G' ((s1.eg.trans s2.eg).trans s'.eg) (ev2.call e1 s' ho' (RA.of_ints [n'])) r'
        · cases hf
      · cases hf
    · cases hf
  · cases hf
theorem xb_nil : JXB K X M i [] tNext xNext := ⟨pss_nil, fun o H0 G0 γ σ H G De r ev hf p => by cases hf; exact p σ H G ev⟩
theorem xb_one (h : JXS K X M i st t f) : JXB K X M i [st] t f := ⟨pss_one h.ps, h.xo⟩
theorem xb_cons (h1 : JXS K X M i st t f) (h2 : JXB K X M i rest u g) : JXB K X M i (st :: rest) (tSeq t u) (xSeq f g) := ⟨pss_cons h1.ps h2.ps, fun o H0 G0 γ σ H G De r ev hf p => by
  unfold xSeq at hf
  split at hf
  · rename_i γ1 e1
    exact h1.xo o H0 G0 γ σ H G { De with nx := u De } _ ev e1 fun σ' H' G' ev' => h2.xo o H0 G0 γ1 σ' H' G' De r ev' hf p
  · rename_i hn
    refine h1.xo o H0 G0 γ σ H G { De with nx := u De } r ev hf ?_
    cases r with
    | nx γ1 => exact absurd hf (hn γ1)
    | rt d γ1 => exact p⟩
theorem xs_ret (ha : JXE K X M i a ta Fa_) : JXS K X M i (.Return (some a) pos) (tRet ta) (xRet Fa_) := ⟨ps_ret ha.pe, fun o H0 G0 γ σ H G De r ev hf p => by
  unfold xRet at hf
  split at hf
  · rename_i d γ1 e1
    cases hf
    exact ha.xe o H0 G0 γ σ H G _ _ _ ev e1 fun v H' G' s ev' rv => p v σ H' G' ev' rv
  · cases hf⟩
theorem xs_if {tt : TT} {ft : Ft} {as bs : List Stmt} (hc : JT K X M E c tt ft) (ha : JXB K X M i as t f) (hb : JXB K X M i bs u g) : JXS K X M i (.If c as bs pos) (tIfS tt t u) (xIf ft f g) := ⟨ps_if hc.pt ha.ps hb.ps, fun o H0 G0 γ σ H G De r ev hf p => by
  unfold xIf at hf
  split at hf
  · rename_i e1
    refine hc.to H0 G0 γ σ H G _ _ ev.ev e1 fun H' G' s => ?_
    rw [if_pos rfl]
    exact ha.xo o H0 G0 γ σ H' G' De r (ev.stp s) hf p
  · rename_i e1
    refine hc.to H0 G0 γ σ H G _ _ ev.ev e1 fun H' G' s => ?_
    rw [if_neg Bool.false_ne_true]
    exact hb.xo o H0 G0 γ σ H' G' De r (ev.stp s) hf p
  · cases hf⟩
theorem xs_set {j : Nat} {x : Str} {p0 : Pos} (hN : X.N.Nodup) (ha : JXE K X M i a ta Fa_) (hj : j ≠ i := by decide) (hi : X.N[j]? = some x := by rfl) (hx : Loc X.env.scope x := by first | exact Or.inl rfl | exact Or.inr rfl) (hs : swapsWith a (some (.Name x p0)) pos.line X.env = pure false := by rfl) (hf : X.fn x = true ∨ X.env.scope.names.lookup x = some .local := by first | exact .inl rfl | exact .inr rfl) :
    JXS K X M i (.Assign [.Name x p0] a pos) (tAsg ta (gName j)) (xSet j Fa_) := ⟨ps_set hN hi hx ha.pe hs hf, fun o H0 G0 γ σ H G De r ev hfx p => by
  unfold xSet at hfx
  split at hfx
  · rename_i d γ1 e1
    cases hfx
    exact ha.xe o H0 G0 γ σ H G _ _ _ ev e1 fun v H' G' s ev' rv => p _ H' G' (ev'.setv hj rv)
  · cases hfx⟩
theorem xs_put {y : Str} {p0 : Pos} {ti : TE} {fi : Fe} {pos' : Pos} (ha : JE K X M E .cl a ta fa) (hy : PE X (.Name y p0) (tVar i)) (hi : JE K X M E .op b ti fi)
    (hs : swapsWithSole [.Subscript (.Name y p0) b pos'] a pos.line X.env = pure false := by rfl) (hw : swappedStores [.Subscript (.Name y p0) b pos'] a X.env = pure none := by rfl) (h1 : (assignEach [.Subscript (.Name y p0) b pos'] X.env).map (·.2) = [assign (.Subscript (.Name y p0) b pos') X.env] := by rfl)
    (hgg : ∀ v, assign (.Subscript (.Name y p0) b pos') X.env v = (do
      let ov ← holding [v] (eval (.Name y p0) X.env)
      let iv ← holding [v, ov] (eval b X.env)
      standAt pos'
      holding [v, ov, iv] (setItem ov iv v)
      release [v, ov, iv] []) := by intro _; rfl) :
    JXS K X M i (.Assign [.Subscript (.Name y p0) b pos'] a pos) (tAsg ta (gSub (tVar i) ti rSetL)) (xPut i fi fa) := ⟨ps_asg ha.pe (pg_sub hy hi.pe set_list hgg) hs hw h1, fun o H0 G0 γ σ H G De r ev hf p => by
  unfold xPut at hf
  split at hf
  · rename_i d e0
    split at hf
    · rename_i ds e1
      split at hf
      · rename_i n e2
        split at hf
        · rename_i j e3
          cases hf
          refine ha.eo H0 G0 γ σ H G _ _ ev.ev e0 fun v H1 G1 s1 r1 => ?_
          refine ⟨.ref o, ev.sp, ?_⟩
          refine hi.eo H0 G0 γ σ H1 G1 _ _ (ev.ev.stp s1) e2 fun w H2 G2 s2 r2 => ?_
          cases (show R K M G2 w (.int n) from r2)
          have ev2 := (ev.stp s1).stp s2
          obtain ⟨vs, hgo, h0o, ho, rv⟩ := ev2.own e1
          refine ⟨o, vs, n, j, rfl, rfl, ho, by rw [rv.len]; exact e3, ?_⟩
          exact p σ _ G2 ⟨ev2.ev.wr e1 ev.sp ho (RA.set (r1.mono s2.eg) j rv), ev.sp⟩
        · cases hf
      · cases hf
    · cases hf
  · cases hf⟩
/-- in a plain body: return of such an expression -/
def sRetX (f : Fx) : Fs := fun γ => match f γ with
  | some (d, _) => some (.rt d)
  | none => none
/-- what it reckons needs the shared list -/
def Us (i : Nat) (f : Fx) : Prop := ∀ (γ : Ge) (d : D) (γ' : Ge), f γ = some (d, γ') → ∃ ds, γ[i]? = some (.ow ds)
def Usa (i : Nat) (f : Fxa) : Prop := ∀ (γ : Ge) (d : List D) (γ' : Ge), f γ = some (d, γ') → ∃ ds, γ[i]? = some (.ow ds)
theorem us_call {φ : Phx} {fr : Fa} : Us i (xCall i φ fa fr) := fun γ d γ' h => by
  unfold xCall at h
  split at h
  · split at h
    · rename_i n e1; exact ⟨_, e1⟩
    · cases h
  · cases h
theorem usa_cons {fr : Fxa} (h1 : Us i Fa_) : Usa i (xCons Fa_ fr) := fun γ d γ' h => by
  unfold xCons at h
  split at h
  · rename_i e1; exact h1 _ _ _ e1
  · cases h
theorem us_callP {φ : List D → Option Rs} {fr : Fxa} (h1 : Usa i fr) : Us i (xCallP φ fr) := fun γ d γ' h => by
  unfold xCallP at h
  split at h
  · rename_i e1; exact h1 _ _ _ e1
  · cases h
theorem js_retX (i : Nat) (ha : JXE K X M i a ta Fa_) (hw : Us i Fa_) : JS K X M E (.Return (some a) pos) (tRet ta) (sRetX Fa_) := ⟨ps_ret ha.pe, fun H0 G0 γ σ H G De o ev hf p => by
  unfold sRetX at hf
  split at hf
  · rename_i d γ1 e1
    cases hf
    obtain ⟨ds, e2⟩ := hw _ _ _ e1
    obtain ⟨q, vs, h1, _⟩ := ev.ow e2
    exact ha.xe q H0 G0 γ σ H G _ _ _ ⟨ev, h1⟩ e1 fun v H' G' s ev' rv => p v H' G' ev'.ev.st rv
  · cases hf⟩
end
/-! ### the rule of such a def -/
theorem EnvR.base {K : PySem.W.Frag} {M : Pm} {H0 G0 H1 G1 H G : Hp} {γ : Ge} {σ : L2.St} (e : EnvR K M H1 G1 γ σ H G) (n : ∀ (j : Nat) (ds : List D), γ[j]? ≠ some (.ow ds)) (s : Stp H0 G0 H G) : EnvR K M H0 G0 γ σ H G :=
  ⟨s, e.len, fun i sl x h1 h2 => by
    have q := e.sl i sl x h1 h2
    cases sl with
    | no => trivial
    | va d => exact q
    | ow ds => exact absurd h1 (n i ds), e.ap⟩
theorem entry_noow {n : Nat} {ds : List D} (j : Nat) (es : List D) : (entry n ds)[j]? ≠ some (.ow es) := by
  intro h
  have m := List.mem_of_getElem? h
  unfold entry at m
  rcases List.mem_append.mp m with q | q
  · obtain ⟨d, _, e⟩ := List.mem_map.mp q; cases e
  · have := (List.mem_replicate.mp q).2; cases this
def eraseH (o : Addr) (H : Hp) : Hp := fun p => if p = o then none else H p
theorem erase_o {o : Addr} {H : Hp} : eraseH o H o = none := by unfold eraseH; rw [if_pos rfl]
theorem erase_ne {o p : Addr} {H : Hp} {u : HO} (h : eraseH o H p = some u) : p ≠ o ∧ H p = some u := by
  unfold eraseH at h
  split at h
  · cases h
  · rename_i n; exact ⟨n, h⟩
theorem env_entryX {K : PySem.W.Frag} {M : Pm} {H G : Hp} {N : List Str} {v0 : V} {o : Addr} {vr : List V} {d0 : D} {k : Int} {ds : List D} (e : Same G H) (hg : G o = none) (ho : H o = some (.lst [.int k])) (r0 : R K M G v0 d0) (rr : RA K M G vr ds) :
    EnvX K M 1 o (eraseH o H) G (entryX N.length d0 k ds) (L2.start N (v0 :: .ref o :: vr)) H G := by
  have e1 := env_entry (N := N) e (RA.cons r0 (RA.cons .non rr))
  have st : Stp (eraseH o H) G H G := ⟨fun p u q => (erase_ne q).2, Same.refl _, e, fun _ _ _ n => n⟩
  have e2 := e1.base entry_noow st
  have e3 := e2.seto (i := 1) (HS := H) (o := o) (vs := [.int k]) (ds := [.int k]) (fun j dj p _ h => absurd h (entry_noow j dj)) hg erase_o ho (RA.of_ints [k])
  have es : (L2.start N (v0 :: .non :: vr)).set 1 (some (.ref o)) = L2.start N (v0 :: .ref o :: vr) := by unfold L2.start; rfl
  rw [es] at e3
  exact ⟨e3, by unfold L2.start; rfl⟩
theorem fnX_ok {P : Program} {w : World} {K : PySem.W.Frag} {mg : Str → Option Value} {base : Heap} {M : Pm} {x qual : Str} {st : Stmt} {f : Addr} {fd : FuncData} {N ps : List Str} {k : Nat} {g : Fxs} (F : Fun K x qual st f fd) (S : FnScope N ps (defScope st))
    (hb : ∀ (cdv : Value) (A : Around) (outer : List Env) (s : Shared) (H : Hp) (E : XK), CxF K (cxOf (L2.CX P w) P w K mg base N qual (defScope st) f cdv A outer s H E) E k → Takes (cxOf (L2.CX P w) P w K mg base N qual (defScope st) f cdv A outer s H E) (fun cls d _ H => E cls d H) →
      ∃ t, JXB K (cxOf (L2.CX P w) P w K mg base N qual (defScope st) f cdv A outer s H E) M 1 (defBody st) t g) : FnOk P w K mg base (L2.CX P w) (k + 1) f fd ps (spS K M (runX ps.length N.length g)) := by
  have len : ∀ vs H Q E, spS K M (runX ps.length N.length g) vs H Q E → vs.length = ps.length := by
    rintro vs H Q E ⟨G, o, n, v0, d0, vr, ds, d, n', rfl, _, _, _, _, ra, e, _⟩
    unfold runX at e
    split at e
    · rename_i hl
      simp only [List.length_cons, ra.len]
      omega
    · cases e
  refine F.okX S len fun cdv A outer s H vs Q E hr h => ?_
  obtain ⟨C, tk⟩ := cxf_of (P := P) (w := w) (K := K) (mg := mg) (base := base) (qual := qual) (s := s) (H := H) (E := E) (outer := outer) S hr
  obtain ⟨t, J⟩ := hb cdv A outer s H E C tk
  refine ⟨t, J.ps, ?_⟩
  obtain ⟨G, o, n, v0, d0, vr, ds, d, n', rfl, e, hg, ho, r0, ra, er, p⟩ := h
  unfold runX at er
  split at er
  · split at er
    · rename_i d1 γ1 ef
      split at er
      · rename_i k1 ek
        cases er
        refine J.xo o (eraseH o H) G _ _ H G _ _ (env_entryX e hg ho r0 ra) ef fun v σ' H' G' ev rv => ?_
        obtain ⟨vs, hgo, h0o, ho', rv'⟩ := ev.own ek
        have evs : vs = [.int n'] := by
          have q := RA.ints (bs := [n']) rv'
          simpa using q
        subst evs
        refine p v H' G' ⟨fun q u hq h => ev.ev.st.ex q u (by unfold eraseH; rw [if_neg hq]; exact h), ev.ev.st.eg, ev.ev.st.sub, fun q u h n => ?_⟩ ho' rv
        by_cases hq : q = o
        · subst hq; exact hgo
        · exact ev.ev.st.nw q u (by unfold eraseH; rw [if_neg hq]; exact h) n
      · cases er
    · cases er
  · cases er
/-- of a def of which nothing is told -/
theorem fn_none {P : Program} {w : World} {K : PySem.W.Frag} {mg : Str → Option Value} {base : Heap} {M : Pm} {f : Addr} {fd : FuncData} {ps : List Str} {k : Nat} : FnOk P w K mg base (L2.CX P w) k f fd ps (spF K M fun _ => none) := by
  have no : ∀ vs H Q E, ¬ spF K M (fun _ => none) vs H Q E := by
    rintro vs H Q E ⟨_, _, _, _, _, e, _⟩
    cases e
  exact ⟨fun vs H Q E h => absurd h (no vs H Q E), fun A outer s H args us vs Q E _ _ _ _ h => absurd h (no vs H Q E)⟩
theorem fnX_zero {P : Program} {w : World} {K : PySem.W.Frag} {mg : Str → Option Value} {base : Heap} {M : Pm} {f : Addr} {fd : FuncData} {ps : List Str} {k : Nat} : FnOk P w K mg base (L2.CX P w) k f fd ps (spS K M fun _ _ _ => none) := by
  have no : ∀ vs H Q E, ¬ spS K M (fun _ _ _ => none) vs H Q E := by
    rintro vs H Q E ⟨_, _, _, _, _, _, _, _, _, _, _, _, _, _, _, e, _⟩
    cases e
  exact ⟨fun vs H Q E h => absurd h (no vs H Q E), fun A outer s H args us vs Q E _ _ _ _ h => absurd h (no vs H Q E)⟩
end Py

/-! PyS: statements as data; what evaluates -/
namespace Py
open PySem PySem.Spec PyProof.Rows L2

inductive Sta
  | mark (m : Str) | yes | nt (s : Sta) | an (s t : Sta) | or (s t : Sta) | nx (s : Sta) | un (s t : Sta) | wi (k : Nat) (s : Sta) | bf (s : Sta) | si (s t : Sta)
  deriving DecidableEq
def enc : Sta → D
  | .mark m => .tuple [.str "mark", .str m]
  | .yes => .tuple [.str "yes"]
  | .nt s => .tuple [.str "not", enc s]
  | .an s t => .tuple [.str "and", enc s, enc t]
  | .or s t => .tuple [.str "or", enc s, enc t]
  | .nx s => .tuple [.str "next", enc s]
  | .un s t => .tuple [.str "until", enc s, enc t]
  | .wi k s => .tuple [.str "within", .int k, enc s]
  | .bf s => .tuple [.str "before", enc s]
  | .si s t => .tuple [.str "since", enc s, enc t]
def Sta.depth : Sta → Nat
  | .mark _ => 1
  | .yes => 1
  | .nt s => s.depth + 1
  | .an s t => max s.depth t.depth + 1
  | .or s t => max s.depth t.depth + 1
  | .nx s => s.depth + 1
  | .un s t => max s.depth t.depth + 1
  | .wi _ s => s.depth + 1
  | .bf s => s.depth + 1
  | .si s t => max s.depth t.depth + 1
/-- every mark in it keeps p -/
def Sta.Marks (p : Str → Prop) : Sta → Prop
  | .mark m => p m
  | .yes => True
  | .nt s => s.Marks p
  | .an s t => s.Marks p ∧ t.Marks p
  | .or s t => s.Marks p ∧ t.Marks p
  | .nx s => s.Marks p
  | .un s t => s.Marks p ∧ t.Marks p
  | .wi _ s => s.Marks p
  | .bf s => s.Marks p
  | .si s t => s.Marks p ∧ t.Marks p
theorem Sta.depth_pos (s : Sta) : 1 ≤ s.depth := by cases s <;> simp [Sta.depth]
theorem enc_depth : ∀ s : Sta, (enc s).depth ≤ s.depth
  | .mark m => by simp [enc, PyData.depth, PyData.depthAll, Sta.depth]
  | .yes => by simp [enc, PyData.depth, PyData.depthAll, Sta.depth]
  | .nt s => by have := enc_depth s; simp [enc, PyData.depth, PyData.depthAll, Sta.depth]; omega
  | .an s t => by have := enc_depth s; have := enc_depth t; simp [enc, PyData.depth, PyData.depthAll, Sta.depth]; omega
  | .or s t => by have := enc_depth s; have := enc_depth t; simp [enc, PyData.depth, PyData.depthAll, Sta.depth]; omega
  | .nx s => by have := enc_depth s; simp [enc, PyData.depth, PyData.depthAll, Sta.depth]; omega
  | .un s t => by have := enc_depth s; have := enc_depth t; simp [enc, PyData.depth, PyData.depthAll, Sta.depth]; omega
  | .wi k s => by have := enc_depth s; simp [enc, PyData.depth, PyData.depthAll, Sta.depth]; omega
  | .bf s => by have := enc_depth s; simp [enc, PyData.depth, PyData.depthAll, Sta.depth]; omega
  | .si s t => by have := enc_depth s; have := enc_depth t; simp [enc, PyData.depth, PyData.depthAll, Sta.depth]; omega
theorem ok_words : PyData.strOk "mark" = true ∧ PyData.strOk "yes" = true ∧ PyData.strOk "not" = true ∧ PyData.strOk "and" = true ∧ PyData.strOk "or" = true ∧ PyData.strOk "next" = true ∧ PyData.strOk "until" = true ∧ PyData.strOk "within" = true ∧ PyData.strOk "before" = true ∧ PyData.strOk "since" = true := by decide +kernel
def okM (m : Str) : Prop := PyData.strOk m = true
theorem enc_lay : ∀ {s : Sta}, s.Marks okM → (enc s).canLay0 = true
  | .mark m, h => by simp only [enc, PyData.canLay0, PyData.canLayAll0, ok_words]; simpa [Sta.Marks, okM] using h
  | .yes, h => by simp only [enc, PyData.canLay0, PyData.canLayAll0, ok_words]; rfl
  | .nt s, h => by simp only [enc, PyData.canLay0, PyData.canLayAll0, ok_words, enc_lay (s := s) h]; rfl
  | .an s t, h => by simp only [enc, PyData.canLay0, PyData.canLayAll0, ok_words, enc_lay (s := s) h.1, enc_lay (s := t) h.2]; rfl
  | .or s t, h => by simp only [enc, PyData.canLay0, PyData.canLayAll0, ok_words, enc_lay (s := s) h.1, enc_lay (s := t) h.2]; rfl
  | .nx s, h => by simp only [enc, PyData.canLay0, PyData.canLayAll0, ok_words, enc_lay (s := s) h]; rfl
  | .un s t, h => by simp only [enc, PyData.canLay0, PyData.canLayAll0, ok_words, enc_lay (s := s) h.1, enc_lay (s := t) h.2]; rfl
  | .wi k s, h => by simp only [enc, PyData.canLay0, PyData.canLayAll0, ok_words, enc_lay (s := s) h]; rfl
  | .bf s, h => by simp only [enc, PyData.canLay0, PyData.canLayAll0, ok_words, enc_lay (s := s) h]; rfl
  | .si s t, h => by simp only [enc, PyData.canLay0, PyData.canLayAll0, ok_words, enc_lay (s := s) h.1, enc_lay (s := t) h.2]; rfl
theorem enc_shaped {s : Sta} (h : s.Marks okM) (hd : s.depth ≤ 60) : SeqAt.shaped (enc s) = true := by
  have := enc_depth s
  show ((enc s).canLay0 && decide ((enc s).depth ≤ 64)) = true
  rw [enc_lay h, Bool.true_and]
  exact decide_eq_true (by omega)
theorem encs_lay : ∀ {l : List Sta}, (∀ s ∈ l, s.Marks okM) → PyData.canLayAll0 (l.map enc) = true
  | [], _ => by simp [PyData.canLayAll0]
  | s :: l, h => by
    simp only [List.map_cons, PyData.canLayAll0, enc_lay (h s List.mem_cons_self), encs_lay fun t ht => h t (List.mem_cons_of_mem _ ht)]
    rfl
theorem encs_depth : ∀ {l : List Sta}, (∀ s ∈ l, s.depth ≤ 60) → PyData.depthAll (l.map enc) ≤ 60
  | [], _ => by simp [PyData.depthAll]
  | s :: l, h => by
    have h1 := enc_depth s
    have h2 := h s List.mem_cons_self
    have h3 := encs_depth (l := l) fun t ht => h t (List.mem_cons_of_mem _ ht)
    simp only [List.map_cons, PyData.depthAll]
    omega
theorem encs_shaped {l : List Sta} (h : ∀ s ∈ l, s.Marks okM) (hd : ∀ s ∈ l, s.depth ≤ 60) : SeqAt.shaped (.list (l.map enc)) = true := by
  have h1 := encs_depth hd
  show ((PyData.list (l.map enc)).canLay0 && decide ((PyData.list (l.map enc)).depth ≤ 64)) = true
  have e : (PyData.list (l.map enc)).canLay0 = true := by simp only [PyData.canLay0]; exact encs_lay h
  rw [e, Bool.true_and]
  refine decide_eq_true ?_
  simp only [PyData.depth]
  omega
/-! equal statements -/
theorem W_ne : (("mark" : Str) == "yes") = false := by decide +kernel
def word : Sta → Str
  | .mark _ => "mark" | .yes => "yes" | .nt _ => "not" | .an _ _ => "and" | .or _ _ => "or" | .nx _ => "next" | .un _ _ => "until" | .wi _ _ => "within" | .bf _ => "before" | .si _ _ => "since"
def tag : Sta → Nat
  | .mark _ => 0 | .yes => 1 | .nt _ => 2 | .an _ _ => 3 | .or _ _ => 4 | .nx _ => 5 | .un _ _ => 6 | .wi _ _ => 7 | .bf _ => 8 | .si _ _ => 9
def wordAt : Nat → Str
  | 0 => "mark" | 1 => "yes" | 2 => "not" | 3 => "and" | 4 => "or" | 5 => "next" | 6 => "until" | 7 => "within" | 8 => "before" | _ => "since"
theorem word_at (s : Sta) : word s = wordAt (tag s) := by cases s <;> rfl
theorem tag_lt (s : Sta) : tag s < 10 := by cases s <;> simp [tag]
theorem wordAt_eq : ∀ i, i < 10 → ∀ j, j < 10 → (wordAt i == wordAt j) = decide (i = j) := by decide +kernel
theorem word_eq (s t : Sta) : (word s == word t) = decide (tag s = tag t) := by rw [word_at, word_at]; exact wordAt_eq _ (tag_lt s) _ (tag_lt t)
theorem enc_word (s : Sta) : ∃ r, enc s = .tuple (.str (word s) :: r) := by cases s <;> exact ⟨_, rfl⟩
theorem enc_tag {s t : Sta} (h : tag s ≠ tag t) : PyData.eqv (enc s) (enc t) = false := by
  obtain ⟨r, e⟩ := enc_word s
  obtain ⟨q, f⟩ := enc_word t
  rw [e, f]
  simp only [PyData.eqv, PyData.eqvAll, word_eq, decide_eq_false h, Bool.false_and]
theorem ww (i : Nat) (h : i < 10) : (wordAt i == wordAt i) = true := by rw [wordAt_eq i h i h]; simp
theorem enc_eqv : ∀ s t : Sta, PyData.eqv (enc s) (enc t) = decide (s = t) := by
  intro s
  induction s with
  | mark m =>
    intro t
    cases t with
    | mark n => simp [enc, PyData.eqv, PyData.eqvAll, Bool.beq_eq_decide_eq]
    | _ => rw [enc_tag (by simp [tag])]; simp
  | yes =>
    intro t
    cases t with
    | yes => simp [enc, PyData.eqv, PyData.eqvAll]
    | _ => rw [enc_tag (by simp [tag])]; simp
  | nt s ih =>
    intro t
    cases t with
    | nt u => simp [enc, PyData.eqv, PyData.eqvAll, ih]
    | _ => rw [enc_tag (by simp [tag])]; simp
  | an s s' ih ih' =>
    intro t
    cases t with
    | an u u' => simp [enc, PyData.eqv, PyData.eqvAll, ih, ih']
    | _ => rw [enc_tag (by simp [tag])]; simp
  | or s s' ih ih' =>
    intro t
    cases t with
    | or u u' => simp [enc, PyData.eqv, PyData.eqvAll, ih, ih']
    | _ => rw [enc_tag (by simp [tag])]; simp
  | nx s ih =>
    intro t
    cases t with
    | nx u => simp [enc, PyData.eqv, PyData.eqvAll, ih]
    | _ => rw [enc_tag (by simp [tag])]; simp
  | un s s' ih ih' =>
    intro t
    cases t with
    | un u u' => simp [enc, PyData.eqv, PyData.eqvAll, ih, ih']
    | _ => rw [enc_tag (by simp [tag])]; simp
  | wi k s ih =>
    intro t
    cases t with
    | wi j u =>
      simp [enc, PyData.eqv, PyData.eqvAll, ih]
      by_cases h : k = j
      · subst h; simp
      · have : ((k : Int) == (j : Int)) = false := beq_eq_false_iff_ne.mpr (by omega)
        simp [h, this]
    | _ => rw [enc_tag (by simp [tag])]; simp
  | bf s ih =>
    intro t
    cases t with
    | bf u => simp [enc, PyData.eqv, PyData.eqvAll, ih]
    | _ => rw [enc_tag (by simp [tag])]; simp
  | si s s' ih ih' =>
    intro t
    cases t with
    | si u u' => simp [enc, PyData.eqv, PyData.eqvAll, ih, ih']
    | _ => rw [enc_tag (by simp [tag])]; simp
theorem encs_any (l : List Sta) (s : Sta) : ((l.map enc).any fun z => PyData.eqv z (enc s)) = decide (s ∈ l) := by
  induction l with
  | nil => simp
  | cons t l ih =>
    rw [List.map_cons, List.any_cons, ih, enc_eqv]
    by_cases h : t = s
    · subst h; simp
    · by_cases h2 : s ∈ l
      · simp [h2]
      · have : ¬ s = t := fun e => h e.symm
        simp [h, h2, this]
theorem in_encs {l : List Sta} {s : Sta} (h : ∀ t ∈ l, t.Marks okM) (hd : ∀ t ∈ l, t.depth ≤ 60) (hs : s.Marks okM) (hsd : s.depth ≤ 60) (neg : Bool) :
    oIn neg (enc s) (.list (l.map enc)) = some (.bool (if neg = true then !decide (s ∈ l) else decide (s ∈ l))) := by
  show (if SeqAt.shaped (enc s) = true ∧ SeqAt.shaped (.list (l.map enc)) = true then some (PyData.bool (if neg = true then !((l.map enc).any fun z => PyData.eqv z (enc s)) else (l.map enc).any fun z => PyData.eqv z (enc s))) else none) = _
  rw [if_pos ⟨enc_shaped hs hsd, encs_shaped h hd⟩, encs_any]

/-! the words differ -/
@[simp] theorem w_mark_yes : (("mark" : Str) == "yes") = false := by decide +kernel
@[simp] theorem w_mark_not : (("mark" : Str) == "not") = false := by decide +kernel
@[simp] theorem w_mark_and : (("mark" : Str) == "and") = false := by decide +kernel
@[simp] theorem w_mark_or : (("mark" : Str) == "or") = false := by decide +kernel
@[simp] theorem w_mark_next : (("mark" : Str) == "next") = false := by decide +kernel
@[simp] theorem w_mark_until : (("mark" : Str) == "until") = false := by decide +kernel
@[simp] theorem w_mark_within : (("mark" : Str) == "within") = false := by decide +kernel
@[simp] theorem w_mark_before : (("mark" : Str) == "before") = false := by decide +kernel
@[simp] theorem w_mark_since : (("mark" : Str) == "since") = false := by decide +kernel
@[simp] theorem w_yes_mark : (("yes" : Str) == "mark") = false := by decide +kernel
@[simp] theorem w_yes_not : (("yes" : Str) == "not") = false := by decide +kernel
@[simp] theorem w_yes_and : (("yes" : Str) == "and") = false := by decide +kernel
@[simp] theorem w_yes_or : (("yes" : Str) == "or") = false := by decide +kernel
@[simp] theorem w_yes_next : (("yes" : Str) == "next") = false := by decide +kernel
@[simp] theorem w_yes_until : (("yes" : Str) == "until") = false := by decide +kernel
@[simp] theorem w_yes_within : (("yes" : Str) == "within") = false := by decide +kernel
@[simp] theorem w_yes_before : (("yes" : Str) == "before") = false := by decide +kernel
@[simp] theorem w_yes_since : (("yes" : Str) == "since") = false := by decide +kernel
@[simp] theorem w_not_mark : (("not" : Str) == "mark") = false := by decide +kernel
@[simp] theorem w_not_yes : (("not" : Str) == "yes") = false := by decide +kernel
@[simp] theorem w_not_and : (("not" : Str) == "and") = false := by decide +kernel
@[simp] theorem w_not_or : (("not" : Str) == "or") = false := by decide +kernel
@[simp] theorem w_not_next : (("not" : Str) == "next") = false := by decide +kernel
@[simp] theorem w_not_until : (("not" : Str) == "until") = false := by decide +kernel
@[simp] theorem w_not_within : (("not" : Str) == "within") = false := by decide +kernel
@[simp] theorem w_not_before : (("not" : Str) == "before") = false := by decide +kernel
@[simp] theorem w_not_since : (("not" : Str) == "since") = false := by decide +kernel
@[simp] theorem w_and_mark : (("and" : Str) == "mark") = false := by decide +kernel
@[simp] theorem w_and_yes : (("and" : Str) == "yes") = false := by decide +kernel
@[simp] theorem w_and_not : (("and" : Str) == "not") = false := by decide +kernel
@[simp] theorem w_and_or : (("and" : Str) == "or") = false := by decide +kernel
@[simp] theorem w_and_next : (("and" : Str) == "next") = false := by decide +kernel
@[simp] theorem w_and_until : (("and" : Str) == "until") = false := by decide +kernel
@[simp] theorem w_and_within : (("and" : Str) == "within") = false := by decide +kernel
@[simp] theorem w_and_before : (("and" : Str) == "before") = false := by decide +kernel
@[simp] theorem w_and_since : (("and" : Str) == "since") = false := by decide +kernel
@[simp] theorem w_or_mark : (("or" : Str) == "mark") = false := by decide +kernel
@[simp] theorem w_or_yes : (("or" : Str) == "yes") = false := by decide +kernel
@[simp] theorem w_or_not : (("or" : Str) == "not") = false := by decide +kernel
@[simp] theorem w_or_and : (("or" : Str) == "and") = false := by decide +kernel
@[simp] theorem w_or_next : (("or" : Str) == "next") = false := by decide +kernel
@[simp] theorem w_or_until : (("or" : Str) == "until") = false := by decide +kernel
@[simp] theorem w_or_within : (("or" : Str) == "within") = false := by decide +kernel
@[simp] theorem w_or_before : (("or" : Str) == "before") = false := by decide +kernel
@[simp] theorem w_or_since : (("or" : Str) == "since") = false := by decide +kernel
@[simp] theorem w_next_mark : (("next" : Str) == "mark") = false := by decide +kernel
@[simp] theorem w_next_yes : (("next" : Str) == "yes") = false := by decide +kernel
@[simp] theorem w_next_not : (("next" : Str) == "not") = false := by decide +kernel
@[simp] theorem w_next_and : (("next" : Str) == "and") = false := by decide +kernel
@[simp] theorem w_next_or : (("next" : Str) == "or") = false := by decide +kernel
@[simp] theorem w_next_until : (("next" : Str) == "until") = false := by decide +kernel
@[simp] theorem w_next_within : (("next" : Str) == "within") = false := by decide +kernel
@[simp] theorem w_next_before : (("next" : Str) == "before") = false := by decide +kernel
@[simp] theorem w_next_since : (("next" : Str) == "since") = false := by decide +kernel
@[simp] theorem w_until_mark : (("until" : Str) == "mark") = false := by decide +kernel
@[simp] theorem w_until_yes : (("until" : Str) == "yes") = false := by decide +kernel
@[simp] theorem w_until_not : (("until" : Str) == "not") = false := by decide +kernel
@[simp] theorem w_until_and : (("until" : Str) == "and") = false := by decide +kernel
@[simp] theorem w_until_or : (("until" : Str) == "or") = false := by decide +kernel
@[simp] theorem w_until_next : (("until" : Str) == "next") = false := by decide +kernel
@[simp] theorem w_until_within : (("until" : Str) == "within") = false := by decide +kernel
@[simp] theorem w_until_before : (("until" : Str) == "before") = false := by decide +kernel
@[simp] theorem w_until_since : (("until" : Str) == "since") = false := by decide +kernel
@[simp] theorem w_within_mark : (("within" : Str) == "mark") = false := by decide +kernel
@[simp] theorem w_within_yes : (("within" : Str) == "yes") = false := by decide +kernel
@[simp] theorem w_within_not : (("within" : Str) == "not") = false := by decide +kernel
@[simp] theorem w_within_and : (("within" : Str) == "and") = false := by decide +kernel
@[simp] theorem w_within_or : (("within" : Str) == "or") = false := by decide +kernel
@[simp] theorem w_within_next : (("within" : Str) == "next") = false := by decide +kernel
@[simp] theorem w_within_until : (("within" : Str) == "until") = false := by decide +kernel
@[simp] theorem w_within_before : (("within" : Str) == "before") = false := by decide +kernel
@[simp] theorem w_within_since : (("within" : Str) == "since") = false := by decide +kernel
@[simp] theorem w_before_mark : (("before" : Str) == "mark") = false := by decide +kernel
@[simp] theorem w_before_yes : (("before" : Str) == "yes") = false := by decide +kernel
@[simp] theorem w_before_not : (("before" : Str) == "not") = false := by decide +kernel
@[simp] theorem w_before_and : (("before" : Str) == "and") = false := by decide +kernel
@[simp] theorem w_before_or : (("before" : Str) == "or") = false := by decide +kernel
@[simp] theorem w_before_next : (("before" : Str) == "next") = false := by decide +kernel
@[simp] theorem w_before_until : (("before" : Str) == "until") = false := by decide +kernel
@[simp] theorem w_before_within : (("before" : Str) == "within") = false := by decide +kernel
@[simp] theorem w_before_since : (("before" : Str) == "since") = false := by decide +kernel
@[simp] theorem w_since_mark : (("since" : Str) == "mark") = false := by decide +kernel
@[simp] theorem w_since_yes : (("since" : Str) == "yes") = false := by decide +kernel
@[simp] theorem w_since_not : (("since" : Str) == "not") = false := by decide +kernel
@[simp] theorem w_since_and : (("since" : Str) == "and") = false := by decide +kernel
@[simp] theorem w_since_or : (("since" : Str) == "or") = false := by decide +kernel
@[simp] theorem w_since_next : (("since" : Str) == "next") = false := by decide +kernel
@[simp] theorem w_since_until : (("since" : Str) == "until") = false := by decide +kernel
@[simp] theorem w_since_within : (("since" : Str) == "within") = false := by decide +kernel
@[simp] theorem w_since_before : (("since" : Str) == "before") = false := by decide +kernel
/-! small sizes -/
@[simp] theorem big_0 : 0 ≤ big := by decide
@[simp] theorem big_1 : 1 ≤ big := by decide
@[simp] theorem big_2 : 2 ≤ big := by decide
@[simp] theorem big_3 : 3 ≤ big := by decide
@[simp] theorem big_4 : 4 ≤ big := by decide
@[simp] theorem big_5 : 5 ≤ big := by decide
@[simp] theorem big_6 : 6 ≤ big := by decide
@[simp] theorem big_7 : 7 ≤ big := by decide
@[simp] theorem big_8 : 8 ≤ big := by decide
@[simp] theorem big_9 : 9 ≤ big := by decide
@[simp] theorem big_10 : 10 ≤ big := by decide
@[simp] theorem big_11 : 11 ≤ big := by decide
@[simp] theorem big_12 : 12 ≤ big := by decide
@[simp] theorem big_13 : 13 ≤ big := by decide
@[simp] theorem big_14 : 14 ≤ big := by decide
@[simp] theorem big_15 : 15 ≤ big := by decide
@[simp] theorem big_16 : 16 ≤ big := by decide
@[simp] theorem big_17 : 17 ≤ big := by decide
@[simp] theorem big_18 : 18 ≤ big := by decide
@[simp] theorem big_19 : 19 ≤ big := by decide
@[simp] theorem big_20 : 20 ≤ big := by decide
@[simp] theorem big_21 : 21 ≤ big := by decide
@[simp] theorem big_22 : 22 ≤ big := by decide
@[simp] theorem big_23 : 23 ≤ big := by decide
@[simp] theorem big_24 : 24 ≤ big := by decide
@[simp] theorem big_25 : 25 ≤ big := by decide
@[simp] theorem big_26 : 26 ≤ big := by decide
@[simp] theorem big_27 : 27 ≤ big := by decide
@[simp] theorem big_28 : 28 ≤ big := by decide
@[simp] theorem big_29 : 29 ≤ big := by decide
@[simp] theorem big_30 : 30 ≤ big := by decide
@[simp] theorem big_40 : 40 ≤ big := by decide
@[simp] theorem big_64 : 64 ≤ big := by decide
/-! ### readers -/
@[simp] theorem atI_0 {α : Type} (a : α) (l : List α) : atI (a :: l) 0 = some a := atI_nat (j := 0) rfl
@[simp] theorem atI_1 {α : Type} (a b : α) (l : List α) : atI (a :: b :: l) 1 = some b := atI_nat (j := 1) rfl
@[simp] theorem atI_2 {α : Type} (a b c : α) (l : List α) : atI (a :: b :: c :: l) 2 = some c := atI_nat (j := 2) rfl
theorem atI_neg1 {α : Type} (l : List α) (a : α) (h : l.getLast? = some a) : atI l (-1) = some a := by
  cases l with
  | nil => simp at h
  | cons b r =>
    have e : (b :: r) = (b :: r).dropLast ++ [a] := by
      have h' : (b :: r).getLast (by simp) = a := by
        rw [List.getLast?_eq_getLast (by simp)] at h
        exact Option.some.inj h
      rw [← h', List.dropLast_concat_getLast]
    rw [e]
    exact atI_last _ _
theorem atI_cast {α : Type} {l : List α} {i : Nat} {a : α} (h : l[i]? = some a) : atI l (i : Int) = some a := atI_nat h
@[simp] theorem bR_ok (d : D) (k : D → Option Rs) : bR (some (.ok d)) k = k d := rfl
@[simp] theorem bR_er (c : Str) (k : D → Option Rs) : bR (some (.er c)) k = some (.er c) := rfl
@[simp] theorem bL_ok (d : D) (k : D → Option Rl) : bL (some (.ok d)) k = k d := rfl
@[simp] theorem bA_ok (d : List D) (k : List D → Option Rs) : bA (some (.ok d)) k = k d := rfl
@[simp] theorem bLL_ok (d : List D) (k : List D → Option Rl) : bLL (some (.ok d)) k = k d := rfl
@[simp] theorem oR_some (d : D) : oR (some d) = some (.ok d) := rfl
@[simp] theorem oIx_tup (ds : List D) (i : Int) : oIx (.tuple ds) (.int i) = atI ds i := rfl
@[simp] theorem oIx_lst (ds : List D) (i : Int) : oIx (.list ds) (.int i) = atI ds i := rfl
@[simp] theorem oEq_str (x y : Str) : oEq (.str x) (.str y) = some (.bool (x == y)) := by simp [oEq, scalD, PyData.eqv]
@[simp] theorem oEq_int (x y : Int) : oEq (.int x) (.int y) = some (.bool (x == y)) := by simp [oEq, scalD, PyData.eqv]
@[simp] theorem oEq_bool (x y : Bool) : oEq (.bool x) (.bool y) = some (.bool (x == y)) := by simp [oEq, scalD, PyData.eqv]
@[simp] theorem oNe_str (x y : Str) : oNe (.str x) (.str y) = some (.bool (!(x == y))) := by simp [oNe, scalD, PyData.eqv]
@[simp] theorem oNe_int (x y : Int) : oNe (.int x) (.int y) = some (.bool (!(x == y))) := by simp [oNe, scalD, PyData.eqv]
@[simp] theorem oNe_bool (x y : Bool) : oNe (.bool x) (.bool y) = some (.bool (!(x == y))) := by simp [oNe, scalD, PyData.eqv]
@[simp] theorem oAdd_int (x y : Int) : oAdd (.int x) (.int y) = some (.int (x + y)) := rfl
@[simp] theorem oSub_int (x y : Int) : oSub (.int x) (.int y) = some (.int (x - y)) := rfl
@[simp] theorem oLt_int (x y : Int) : oLt (.int x) (.int y) = some (.bool (decide (x < y))) := rfl
@[simp] theorem oLe_int (x y : Int) : oLe (.int x) (.int y) = some (.bool (decide (x ≤ y))) := rfl
@[simp] theorem oGt_int (x y : Int) : oGt (.int x) (.int y) = some (.bool (decide (y < x))) := rfl
@[simp] theorem oGe_int (x y : Int) : oGe (.int x) (.int y) = some (.bool (decide (y ≤ x))) := rfl
@[simp] theorem oNeg_int (x : Int) : oNeg (.int x) = some (.int (-x)) := rfl
@[simp] theorem oLen_list (ds : List D) : oLen [.list ds] = some (.int ds.length) := rfl
@[simp] theorem oLen_tup (ds : List D) : oLen [.tuple ds] = some (.int ds.length) := rfl
@[simp] theorem oMin2_int (x y : Int) : oMin2 [.int x, .int y] = some (.int (if y < x then y else x)) := rfl
@[simp] theorem oAny_bools (bs : List Bool) : oAny [.list (bs.map .bool)] = some (.bool (bs.any id)) := by
  show (match boolsOf (bs.map PyData.bool) with | some bs => some (PyData.bool (bs.any id)) | none => none) = _
  rw [boolsOf_map]
@[simp] theorem oAll_bools (bs : List Bool) : oAll [.list (bs.map .bool)] = some (.bool (bs.all id)) := by
  show (match boolsOf (bs.map PyData.bool) with | some bs => some (PyData.bool (bs.all id)) | none => none) = _
  rw [boolsOf_map]
@[simp] theorem oMod_int (x y : Int) (h : 0 < y) : oMod (.int x) (.int y) = some (.int (x % y)) := by unfold oMod oIc; simp [cMod, h]
@[simp] theorem oDiv_int (x y : Int) (h : 0 < y) (h2 : y < 1073741824) : oDiv (.int x) (.int y) = some (.int (x / y)) := by unfold oDiv oIc; simp [cDiv, h, h2]
theorem oMul_int (x y : Int) (h : (-(2 ^ 64) < x ∧ x < 2 ^ 64) ∨ (-(2 ^ 64) < y ∧ y < 2 ^ 64)) : oMul (.int x) (.int y) = some (.int (x * y)) := by
  unfold oMul oIc
  have : cMul x y = true := by
    unfold cMul
    simp only [Bool.or_eq_true, Bool.and_eq_true, decide_eq_true_eq]
    exact h
  simp [this]
@[simp] theorem oSl_list (ds : List D) (lo hi : Option Int) : oSl lo hi (.list ds) = some (.list (cutD ds lo hi)) := rfl
theorem lcF_map {gf : D → Ge → Option Ge} {cf : Ft} {ef : Fe} {γ : Ge} {α : Type} (e : α → D) (g : α → D) : ∀ (l : List α), (∀ x ∈ l, ∃ γ1, gf (e x) γ = some γ1 ∧ cf γ1 = some (.ok true) ∧ ef γ1 = some (.ok (g x))) → lcF gf cf ef γ (l.map e) = some (l.map g)
  | [], _ => rfl
  | x :: l, h => by
    obtain ⟨γ1, h1, h2, h3⟩ := h x List.mem_cons_self
    simp only [List.map_cons, lcF, h1, h2, h3, lcF_map e g l fun y hy => h y (List.mem_cons_of_mem _ hy)]
theorem lcF_filter {gf : D → Ge → Option Ge} {cf : Ft} {ef : Fe} {γ : Ge} {α : Type} (e : α → D) (p : α → Bool) (g : α → D) : ∀ (l : List α), (∀ x ∈ l, ∃ γ1, gf (e x) γ = some γ1 ∧ cf γ1 = some (.ok (p x)) ∧ (p x = true → ef γ1 = some (.ok (g x)))) → lcF gf cf ef γ (l.map e) = some ((l.filter p).map g)
  | [], _ => rfl
  | x :: l, h => by
    obtain ⟨γ1, h1, h2, h3⟩ := h x List.mem_cons_self
    have ih := lcF_filter e p g l fun y hy => h y (List.mem_cons_of_mem _ hy)
    cases hp : p x with
    | true =>
      have hf : (x :: l).filter p = x :: l.filter p := by rw [List.filter_cons, if_pos hp]
      simp only [List.map_cons, lcF, h1, h2, hp, h3 hp, ih, hf]
    | false =>
      have hf : (x :: l).filter p = l.filter p := by rw [List.filter_cons, if_neg (by rw [hp]; decide)]
      simp only [List.map_cons, lcF, h1, h2, hp, ih, hf]
end Py

/-! PyT: sorted(set(texts)) -/
namespace Py
open PySem PySem.Spec PyProof.Rows L2 PySem.Froz

def keyS (e : Int × Value) : Str := match e.2 with | .str k _ => k | _ => Str.empty
/-- the payload of a set of the texts l, walkable -/
structure TxR (P : Program) (w : World) (d : SD) (l : List Str) : Prop where
  F : TxOk P w d l
  ks : (d.1.toList.map keyS).Perm l
  st : ∀ e ∈ d.1.toList, ∃ (k : Str) (u : Tok), e.2 = Value.str k u
  ris : L2.Ris d.2.2.place.toList
  led : w.params.followText "set-order" = true ∨ d.2.2.led = true
theorem off_ris {t : SetTable} : (if t.plain = true then { t with plain := false } else t).place = t.place := by split <;> rfl
theorem off_led {t : SetTable} : (if t.plain = true then { t with plain := false } else t).led = t.led := by split <;> rfl
theorem tail_r {P : Program} {w : World} {ep : Nat} {es1 : Array (Int × Value)} {t2 : SetTable} {wd : Bool} {l : List Str} (R : TxR P w (es1, ep, t2) l) : TxR P w (tailTx ep es1 t2 wd) l := by
  refine ⟨tail_ok R.F, ?_, ?_, ?_, ?_⟩ <;> unfold tailTx <;> split
  · exact ((relayAll_perm t2 es1 _).map keyS).trans R.ks
  · exact R.ks
  · exact fun e he => R.st e ((relayAll_perm t2 es1 _).mem_iff.mp he)
  · exact R.st
  · exact L2.relayAll_ris t2 es1 _
  · exact R.ris
  · exact R.led.imp id fun z => (L2.relayAll_led t2 es1 _).trans z
  · exact R.led
theorem add_r {P : Program} {w : World} {d : SD} {l : List Str} (k : Str) (u : Tok) (R : TxR P w d l) : TxR P w (addTx (hashStr w k) (.str k u) d) (k :: l) := by
  obtain ⟨es, ep, t⟩ := d
  have pm := layNew_perm t es (hashStr w k) (.str k u)
  rw [Array.toList_push] at pm
  have pc := pm.trans (List.perm_append_singleton _ _)
  have F2 := add_ok u R.F (k := k)
  refine tail_r (ep := ep) ⟨?_, ?_, ?_, ?_, ?_⟩
  · refine R.F.push (layNew_perm t es (hashStr w k) (.str k u)) ?_
    have hf := layNew_fits t es (hashStr w k) (.str k u)
    split
    · exact SetTable.fits_plain_off hf
    · exact hf
  · exact (pc.map keyS).trans ((List.perm_cons k).mpr R.ks)
  · intro e he
    rcases List.mem_cons.mp (pc.mem_iff.mp he) with z | z
    · exact ⟨k, u, by rw [z]⟩
    · exact R.st e z
  · show L2.Ris (if _ then _ else _ : SetTable).place.toList
    rw [off_ris]
    exact L2.layNew_ris t es _ _ R.ris
  · refine R.led.imp id fun z => ?_
    show (if _ then _ else _ : SetTable).led = true
    rw [off_led, L2.layNew_led]
    exact z
section
variable {P : Program} {w : World} {A : Around} {E : Value → Shared → Prop} {s : Shared}
/-- a text that is there already -/
theorem dup_x {a : Addr} {T : String} {d : SD} {l : List Str} {k : Str} {u : Tok} {Q : Bool → Shared → Prop} (ho : s.heap.get? a = some (sObj T d)) (F : TxOk P w d l) (hk : k ∈ l) (hb : l.length < scanBound) (h : Q false s) :
    wpAny (model P w) A (setAddHashed a (.str k u) (hashStr w k)) Q E s := by
  obtain ⟨es, ep, t⟩ := d
  have hsz : es.size = l.length := F.sz
  have hel : ElemsOf (strKind P w) es.toList := F.el
  have hd : (sObj T (es, ep, t)).data = .set es ep t := rfl
  obtain ⟨e, he, ie⟩ := (F.mem k).mp hk
  unfold setAddHashed
  unfold setAddHashedIn
  refine wpAny_holding (wpAny_bind (wpAny_setState_of ho hd F.fit ?_))
  show wpAny _ _ (if _ then _ else _) _ _ _
  rw [byScan_of rfl (by omega) hel, if_pos rfl]
  unfold setAddByScan
  refine wpAny_bind (wpAny_bind (wpAny_rule (wpAny_bind (wpAny_setScan_of (knd := strKind P w) (k := k) (is_str k u) ho hd F.fit hel ?_))))
  cases hf : List.findIdx? (fun q => (strKind P w).is k q.2) es.toList with
  | none =>
    have c := List.findIdx?_eq_none_iff.mp hf e he
    rw [ie] at c
    cases c
  | some j => exact wpAny_pure (wpAny_pure h)
/-- the set of texts at a -/
def TxH (P : Program) (w : World) (h : Heap) (a : Addr) (l : List Str) : Prop := ∃ d, h.get? a = some (sObj "set" d) ∧ TxR P w d l
theorem TxH.at {h h' : Heap} {a : Addr} {l : List Str} (x : TxH P w h a l) (k : ∀ o, h.get? a = some o → h'.get? a = some o) : TxH P w h' a l := by
  obtain ⟨d, e, r⟩ := x
  exact ⟨d, k _ e, r⟩
def addL (l : List Str) (k : Str) : List Str := if k ∈ l then l else k :: l
theorem addL_len (l : List Str) (k : Str) : (addL l k).length ≤ l.length + 1 := by unfold addL; split <;> simp <;> omega
theorem add_any {a : Addr} {l : List Str} {k : Str} {u : Tok} {Q : Bool → Shared → Prop} (x : TxH P w s.heap a l) (hb : l.length + 1 < scanBound)
    (h : ∀ b h', (∀ c o, c ≠ a → s.heap.get? c = some o → h'.get? c = some o) → TxH P w h' a (addL l k) → Q b { s with heap := h' }) :
    wpAny (model P w) A (setAddHashed a (.str k u) (hashStr w k)) Q E s := by
  obtain ⟨d, e, r⟩ := x
  by_cases hk : k ∈ l
  · refine dup_x e r.F hk (by omega) ?_
    exact h false s.heap (fun _ _ _ q => q) (by unfold addL; rw [if_pos hk]; exact ⟨d, e, r⟩)
  · refine add_x e r.F hk hb ?_
    exact h true _ (fun c o hc q => PySem.Heap.get?_update_of_ne _ (Ne.symm hc) q) (by unfold addL; rw [if_neg hk]; exact ⟨_, get_upd _ e rfl, add_r k u r⟩)
end
section
variable {P : Program} {w : World} {A : Around} {R : Result → Shared → Prop} {I : Addr} {fp wr : List Addr} {n : Nat} {Pv : Nat → Value → Prop} {St : Nat → Heap → Prop}
theorem loop_txs (W : Walks P w A.in1 I fp wr n Pv St) (S : Addr) (hSf : S ∉ fp) (xs : List Str) (hsz : xs.length = n) (hn1 : n + 1 < scanBound) (hval : ∀ i v, Pv i v → ∃ t, v = Value.str (xs.getD i Str.empty) t) :
    ∀ (k i : Nat) (l : List Str) (s : Shared), n - i = k → i ≤ n → St i s.heap → l.length ≤ i → TxH P w s.heap S l →
      (∀ h' tk, (∀ b o, b ∉ S :: wr → s.heap.get? b = some o → h'.get? b = some o) → TxH P w h' S ((xs.drop i).foldl addL l) → R (.ok (.ret .none)) { s with heap := h', toks := tk }) →
      codeAny (model P w) A (.builtin "set.update.loop" ⟨[.ref S, .ref I], []⟩) R s := by
  have hSw : S ∉ wr := fun h => hSf (W.sub _ h)
  intro k
  induction k with
  | zero =>
    intro i l s hk hi hst hl hS hR
    have hin : i = n := by omega
    subst hin
    refine codeAny_builtin PyProof.Rows.F.entry_set_update_loop ?_
    rw [Around.under_plainId PyProof.Rows.F.plain_set_update_loop _]
    show wpAny _ A.in1 (pyNext (.ref I) >>= _) _ _ s
    refine wpAny_bind (W.done s _ _ hst fun h' tk hm => ?_)
    show wpAny _ A.in1 (ret Value.none) _ _ _
    refine wpAny_pure (hR h' tk (fun b o hb e => hm b o (fun z => hb (List.mem_cons_of_mem _ z)) e) ?_)
    rw [List.drop_eq_nil_of_le (by omega)]
    exact hS.at (hm S · hSw)
  | succ k ih =>
    intro i l s hk hi hst hl hS hR
    have hlt : i < n := by omega
    refine codeAny_builtin PyProof.Rows.F.entry_set_update_loop ?_
    rw [Around.under_plainId PyProof.Rows.F.plain_set_update_loop _]
    show wpAny _ A.in1 (pyNext (.ref I) >>= _) _ _ s
    refine wpAny_bind (W.item i s _ _ hlt hst fun v h1 tk1 hP hst1 hm => ?_)
    obtain ⟨t, rfl⟩ := hval i v hP
    have hS1 : TxH P w h1 S l := hS.at (hm S · hSw)
    show wpAny _ A.in1 (holding [Value.str (xs.getD i Str.empty) t] (setAdd S (.str (xs.getD i Str.empty) t)) >>= _) _ _ _
    refine wpAny_bind (wpAny_holding ?_)
    unfold setAdd
    refine wpAny_holding (wpAny_bind ((strKind P w).pyHash (k := xs.getD i Str.empty) (is_str _ _) ?_))
    refine add_any (s := { s with heap := h1, toks := tk1 + 1 }) hS1 (by omega) fun b h2 hk2 hS2 => ?_
    have hd : xs.drop i = xs.getD i Str.empty :: xs.drop (i + 1) := by
      rw [List.getD_eq_getElem?_getD, List.getElem?_eq_getElem (by omega)]
      exact List.drop_eq_getElem_cons (by omega)
    refine wpAny_pure ⟨plainId_quiet PyProof.Rows.F.plain_set_update_loop _, ih (i + 1) (addL l (xs.getD i Str.empty)) _ (by omega) hlt (W.frame _ h1 h2 hst1 fun b hb o e => hk2 b o (fun z => hSf (z ▸ hb)) e) (by have := addL_len l (xs.getD i Str.empty); omega) hS2 fun h3 tk3 hk3 hS3 => ?_⟩
    refine hR h3 tk3 (fun b o hb e => hk3 b o hb (hk2 b o (fun z => hb (z ▸ List.mem_cons_self)) (hm b o (fun z => hb (List.mem_cons_of_mem _ z)) e))) ?_
    rw [hd]
    exact hS3
end
end Py

namespace Py
open PySem PySem.Spec PyProof.Rows L2 PySem.Froz
section
variable {prog : Program} {w : World} {A : Around} {E : Value → Shared → Prop} {s : Shared}
theorem set_new_led (a : Value) {Q₁ : Value → Shared → Prop}
    (h : Q₁ (.ref s.heap.objs.size) { s with heap := s.heap.push { cls := .type "set", dict := none, data := .set #[] 0 (.fresh 0 0 (!w.params.followText "set-order")) } }) :
    codeAny (model prog w) A (.call (.builtin "set.__new__") ⟨[.type "set", a], []⟩) (wants Q₁ E) s := by
  refine codeAny_of_tree ?_
  show wpAny _ A.in1 (checkBuiltinCall "set.__new__" ⟨[.type "set", a], []⟩ >>= fun _ => again (.builtin "set.__new__" ⟨[.type "set", a], []⟩)) _ _ s
  refine wpAny_bind (wpAny_of_eq (PySem.F.newCall_set_1 a) (wpAny_pure ⟨plainId_quiet PySem.F.plain_set_new _, codeAny_builtin PySem.F.entry_set_new ?_⟩))
  rw [Around.under_plainId PySem.F.plain_set_new _]
  unfold Builtin.«set.__new__» Builtin.Frozenset.newClass
  have hsub := sub_set_self
  obtain ⟨hp, g, d, tk, os⟩ := s
  dsimp only
  wp_walk
  refine wpAny_askSetting (wpAny_pure ?_)
  dsimp only
  simp only [newObj]
  exact wpAny_bind (wpAny_alloc (wpAny_pure (wpAny_pure h)))
theorem fresh_h (P : Program) (w : World) (h : Heap) : TxH P w (h.push { cls := .type "set", dict := none, data := .set #[] 0 (.fresh 0 0 (!w.params.followText "set-order")) }) h.objs.size [] := by
  refine ⟨(#[], 0, .fresh 0 0 (!w.params.followText "set-order")), Heap.get?_push_size _ rfl, TxOk.nil (by rfl), List.Perm.refl _, fun e he => by simp at he, List.Pairwise.nil, ?_⟩
  show _ ∨ (!w.params.followText "set-order") = true
  cases w.params.followText "set-order"
  · exact .inr rfl
  · exact .inl rfl
theorem call_set_txs {l : Addr} {items : Array Value} {xs : List Str} {Q : Value → Shared → Prop}
    (hh : A.handled = none) (hl : s.heap.IsList l items) (hi : PyProof.Rows.StrsAre items.toList xs) (hn1 : xs.length + 1 < scanBound)
    (h : ∀ (h' : Heap) (tk : Nat), TxH prog w h' s.heap.objs.size (xs.foldl addL []) → (∀ b o, b < s.heap.objs.size → s.heap.get? b = some o → h'.get? b = some o) → Q (.ref s.heap.objs.size) { s with heap := h', toks := tk }) :
    wpAny (model prog w) A (call (.type "set") [.ref l]) Q E s := by
  obtain ⟨c, tl, hmro⟩ := PySem.F.called_set.mro
  have hmade := PySem.F.called_set.made
  have hsub := PySem.F.called_set.sub
  refine wpAny_call (codeAny_of_tree ?_)
  show wpAny _ _ (callAny (.type "set") _) _ _ _
  refine wpAny_pure ⟨Code.quiet_builtin _ (by decide +kernel), codeAny_builtin PySem.F.entry_type_call ?_⟩
  rw [Around.under_plain (weight_type_call_type "set" [.ref l] []) rfl]
  have h1 := PySem.F.called_set.notType
  have h2 := PySem.F.called_set.canCreate
  have hct := PySem.F.typeCall_set_1 (.ref l)
  repeat (any_goals (first | assumption | wp_step))

  generalize hled : (!w.params.followText "set-order") = led
  refine codeAny_mono (set_new_led (.ref l) (E := E) (Q₁ := fun obj s₁ => obj = .ref s.heap.objs.size ∧ s₁ = { s with heap := s.heap.push { cls := .type "set", dict := none, data := .set #[] 0 (.fresh 0 0 led) } }) ⟨rfl, by rw [hled]⟩) fun r s₁ hr => ?_
  cases r with
  | error e => exact hr
  | ok fl =>
    cases fl with
    | ret obj =>
      obtain ⟨rfl, rfl⟩ := hr
      have hS : (s.heap.push { cls := .type "set", dict := none, data := .set #[] 0 (.fresh 0 0 led) }).get? s.heap.objs.size = some { cls := .type "set", dict := none, data := .set #[] 0 (.fresh 0 0 led) } := Heap.get?_push_size _ rfl
      have hT : Shared.TypeIs { s with heap := s.heap.push { cls := .type "set", dict := none, data := .set #[] 0 (.fresh 0 0 led) } } (.ref s.heap.objs.size) "set" := ⟨_, hS, rfl⟩
      have hli := PySem.F.called_set.init.lookup
      have hbi := PySem.F.called_set.init.bind (.ref s.heap.objs.size)
      repeat (any_goals (first | assumption | wp_step))

      refine codeAny_mono (codeAny_call_builtin (R := wants (fun r s₂ => r = .none ∧ ∃ h' tk, s₂ = { s with heap := h', toks := tk } ∧ TxH prog w h' s.heap.objs.size (xs.foldl addL []) ∧
          (∀ b o, b < s.heap.objs.size → s.heap.get? b = some o → h'.get? b = some o)) E) PySem.F.called_set.init.plain PySem.F.entry_set_init (check_set_init_1 hT ?_)) fun r₂ s₂ hr₂ => ?_
      · obtain ⟨ol, hol, hcl, nl, hdl⟩ := hl
        obtain ⟨ocls, odict, odata, oslots⟩ := ol
        simp only at hcl hdl
        subst hcl; subst hdl
        have hol' : (s.heap.push { cls := .type "set", dict := none, data := .set #[] 0 (.fresh 0 0 led) }).get? l = some { cls := .type "list", dict := odict, data := .seq items nl, slots := oslots } := Heap.get?_push_of_some _ hol
        have hsls := PySem.F.sub_list_set
        have hslf := PySem.F.sub_list_frozenset
        have hne : (Value.type "list" == Value.type "dict") = false := by decide
        have hl1 : (s.heap.push { cls := .type "set", dict := none, data := .set #[] 0 (.fresh 0 0 led) }).IsList l items := ⟨_, hol', rfl, nl, rfl⟩
        unfold Builtin.«set.__init__» noKeywords Builtin.Frozenset.updateFrom
        generalize hPI : pyIter = PI
        wp_walk
        subst hPI

        refine wpAny_pyIter_list hl1 ?_
        refine wpAny_bind (wpAny_runValue ?_)
        have hlS : l < s.heap.objs.size := Heap.lt_size hol
        have hh3 : A.in1.in1.in1.handled = none := by simp [hh]
        have hneI : l ≠ (s.heap.push { cls := .type "set", dict := none, data := .set #[] 0 (.fresh 0 0 led) }).objs.size := by
          rw [Heap.size_push]; exact Nat.ne_of_lt (Nat.lt_succ_of_lt hlS)
        have hSf : s.heap.objs.size ∉ [(s.heap.push { cls := .type "set", dict := none, data := .set #[] 0 (.fresh 0 0 led) }).objs.size, l] := by
          rw [Heap.size_push]; simp only [List.mem_cons, List.not_mem_nil, or_false, not_or]
          exact ⟨Nat.ne_of_lt (Nat.lt_succ_self _), Nat.ne_of_gt hlS⟩
        have hsz : xs.length = items.size := by rw [← StrsAre.len_eq hi, Array.length_toList]
        have hval : ∀ (i : Nat) (v : Value), items[i]? = some v → ∃ t, v = .str (xs.getD i Str.empty) t := fun i v hv => SS.strs_at hi i v (by rw [Array.getElem?_toList]; exact hv)
        refine loop_txs (Walks.list hh3 _ l hneI items) s.heap.objs.size hSf xs hsz (by rw [← hsz]; exact hn1) hval (items.size - 0) 0 [] _ (by omega) (Nat.zero_le _) ⟨⟨_, Heap.get?_push_size _ rfl, rfl, rfl⟩, (hl1.push _)⟩ (Nat.le_refl _) ?hS0 ?hR
        case hS0 =>
          have q := fresh_h prog w s.heap
          rw [hled] at q
          exact q.at fun o e => Heap.get?_push_of_some _ e
        case hR =>
          intro h' tk hm hS'
          refine wpAny_pure ?_
          show wpAny _ _ (ret Value.none) _ _ _
          refine wpAny_pure ⟨rfl, h', tk, rfl, hS', fun b o hb e => ?_⟩
          have hb1 : b ≠ s.heap.objs.size := Nat.ne_of_lt hb
          have hb2 : b ≠ (s.heap.push { cls := .type "set", dict := none, data := .set #[] 0 (.fresh 0 0 led) }).objs.size := by
            rw [Heap.size_push]; exact Nat.ne_of_lt (Nat.lt_succ_of_lt hb)
          exact hm b o (by simp only [List.mem_cons, List.not_mem_nil, or_false, not_or]; exact ⟨hb1, hb2⟩) (Heap.get?_push_of_some _ (Heap.get?_push_of_some _ e))
      · cases r₂ with
        | error e => exact hr₂
        | ok fl₂ =>
          cases fl₂ with
          | ret r =>
            obtain ⟨rfl, h', tk, rfl, hS', hk'⟩ := hr₂
            repeat (any_goals (first | assumption | wp_step))
            exact h _ _ hS' hk'
          | _ => exact hr₂.elim
    | _ => exact hr.elim
end
end Py

namespace Py
open PySem PySem.Spec PyProof.Rows L2 PySem.Froz
/-! ### texts in order -/
def leB (a b : Str) : Bool := !ltCps b.cps.toList a.cps.toList
theorem leB_iff (a b : Str) : leB a b = true ↔ a.cps.toList ≤ b.cps.toList := by
  unfold leB
  rw [ltCps_eq, Bool.not_eq_true', decide_eq_false_iff_not]
  exact List.not_lt
theorem leB_trans (a b c : Str) (h : leB a b = true) (h2 : leB b c = true) : leB a c = true := by
  rw [leB_iff] at h h2 ⊢
  exact List.le_trans h h2
theorem leB_total (a b : Str) : (leB a b || leB b a) = true := by
  rw [Bool.or_eq_true, leB_iff, leB_iff]
  exact List.le_total _ _
theorem leB_anti (a b : Str) (h : leB a b = true) (h2 : leB b a = true) : a = b := by
  rw [leB_iff] at h h2
  exact Str.ext' (Array.toList_inj.mp (List.le_antisymm h h2))
theorem pair_of_rising : ∀ (l : List Str) (p : Str), risingS p l = true → (p :: l).Pairwise fun a b => leB a b = true
  | [], p, _ => List.pairwise_singleton _ _
  | x :: r, p, h => by
    have h' : (!ltCps x.cps.toList p.cps.toList && risingS x r) = true := h
    rw [Bool.and_eq_true] at h'
    have ih := pair_of_rising r x h'.2
    refine List.pairwise_cons.mpr ⟨fun y hy => ?_, ih⟩
    rcases List.mem_cons.mp hy with e | e
    · rw [e]; exact h'.1
    · exact leB_trans p x y h'.1 ((List.pairwise_cons.mp ih).1 y e)
theorem pair_of_sorted : ∀ {l : List Str}, sortedS l = true → l.Pairwise fun a b => leB a b = true
  | [], _ => List.Pairwise.nil
  | x :: r, h => pair_of_rising r x h
def sortT (l : List Str) : List Str := l.mergeSort leB
theorem sortT_perm (l : List Str) : (sortT l).Perm l := List.mergeSort_perm l leB
theorem sortT_pair (l : List Str) : (sortT l).Pairwise fun a b => leB a b = true := List.pairwise_mergeSort leB_trans leB_total l
theorem sortT_uniq {l ys : List Str} (p : ys.Perm l) (h : ys.Pairwise fun a b => leB a b = true) : ys = sortT l :=
  List.Perm.eq_of_pairwise (fun a b _ _ => leB_anti a b) h (sortT_pair l) (p.trans (sortT_perm l).symm)
section
variable {prog : Program} {w : World} {A : Around} {E : Value → Shared → Prop} {s : Shared}
theorem sorted_txs {a : Addr} {l : List Str} {Q : Value → Shared → Prop} (x : TxH prog w s.heap a l) (hh : A.handled = none) (h64 : l.length < 64)
    (hQ : ∀ s' p (out : Array Value) (c : Nat), (∀ b o, s.heap.get? b = some o → s'.heap.get? b = some o) → s'.gens = s.gens → s'.os = s.os → s.heap.objs.size ≤ p →
      s'.heap.get? p = some (seqObj "list" out c) → StrsAre out.toList (sortT l) → Q (.ref p) s') : wpAny (model prog w) A (call (.builtin "sorted") [.ref a]) Q E s := by
  obtain ⟨d, ho, R⟩ := x
  have hsz : d.1.size = l.length := R.F.sz
  have sb : scanBound = scanBound := rfl
  refine Calls.call_function_entry PyProof.Rows.kind_sorted PyProof.Rows.plain_sorted PyProof.Rows.entry_sorted (PyProof.Rows.args_sorted1 _) ?_
  unfold Builtin.«sorted»
  refine wpAny_bind (m := checkCount "sorted" 1 1 _) (wpAny_pure ?_)
  refine wpAny_bind (L2.collect_set (A := A.in1) (es := d.1) (ep := d.2.1) (t := d.2.2) hh ⟨_, ho, rfl, rfl⟩ R.F.fit (by rw [hsz]; unfold scanBound; omega) R.ris R.led fun s1 vs k1 hz g1 o1 pm => ?_)
  have hS : StrsAre vs (vs.map strOf) := strsAre_map vs fun v hv => by
    obtain ⟨e, he, q⟩ := List.mem_map.mp (pm.mem_iff.mp hv)
    obtain ⟨k, u, q2⟩ := R.st e he
    exact ⟨k, u, q ▸ q2⟩
  have pk : (vs.map strOf).Perm l := by
    refine (pm.map strOf).trans ?_
    rw [List.map_map]
    refine List.Perm.trans (List.Perm.of_eq (List.map_congr_left fun e he => ?_)) R.ks
    obtain ⟨k, u, q2⟩ := R.st e he
    show strOf e.2 = keyS e
    unfold keyS
    rw [q2]
    rfl
  have hvl : vs.length = l.length := by rw [← pk.length_eq, List.length_map]
  refine wpAny_bind (wpAny_newList ?_ (by rw [hvl, sizeLine_eq]; omega))
  have hoL : (s1.heap.push (seqObj "list" vs.toArray 0)).get? s1.heap.objs.size = some (seqObj "list" vs.toArray 0) := Heap.get?_push_size _ rfl
  refine wpAny_bind (wpAny_holding (wpAny_call_entry PyProof.Rows.slot_list_sort ⟨_, hoL, rfl⟩ PyProof.Rows.entry_list_sort (PyProof.Rows.list_sort_treeK strKind_oneLt hoL hS.keysOf (fun v₁ v₂ rest e => keyKind_strs (by rw [← e]; exact hS)) (by rw [hvl]; exact h64) fun st' a1 a2 => ⟨_, rfl, ?_⟩) (PyProof.Rows.args_list_sort _)))
  obtain ⟨ss', b1, b2, b3⟩ := sorted_out_str hS a1 a2
  obtain ⟨c, hc⟩ := sortedHeap_at (vs := vs) (out := (arrOf st').map (·.2)) hoL
  have e := sortT_uniq (b2.trans pk) (pair_of_sorted b3)
  subst e
  refine wpAny_pure ⟨_, rfl, hQ _ s1.heap.objs.size _ c (fun b u e => ?_) g1 o1 hz hc b1⟩
  have hlt := Heap.lt_size (k1 b u e)
  show (sortedHeap (s1.heap.push (seqObj "list" vs.toArray 0)) s1.heap.objs.size vs _).get? b = some u
  rw [sortedHeap_old (Nat.ne_of_lt hlt) (by rw [size_push']; exact Nat.lt_succ_of_lt hlt)]
  exact Heap.get?_push_of_some _ (k1 b u e)
end
/-! ### sorted(set(xs)), sorted(xs) -/
theorem foldL_len (xs : List Str) : ∀ l : List Str, (xs.foldl addL l).length ≤ l.length + xs.length := by
  induction xs with
  | nil => intro l; simp
  | cons x r ih =>
    intro l
    have h1 := ih (addL l x)
    have h2 := addL_len l x
    simp only [List.foldl_cons, List.length_cons]
    omega
def tSortSet (K : PySem.W.Frag) (ta : TE) : TE := fun σ H Q => ta σ H fun x H1 => ∃ (l : Addr) (xs : List Str), x = .ref l ∧ SqL K H1 l (xs.map V.str) ∧ xs.length < 64 ∧ ∀ p, H1 p = none → Q (.ref p) (upd H1 p (.lst ((sortT (xs.foldl addL [])).map V.str)))
theorem pe_sortset {X : Cx} {a : Expr} {ta : TE} {p p2 q pos : Pos} (hc : X.calm = true) (hm : X.mg "sorted" = none) (hg : Gl X "sorted") (hm2 : X.mg "set" = none) (hg2 : Gl X "set") (ha : PE X a ta)
    (na : starEach [a] X.env = (false, eval a X.env) :: starEach [] X.env := by rfl) : PE X (.Call (.Name "sorted" p) [.Call (.Name "set" p2) [a] [] q] [] pos) (tSortSet X.K ta) := by
  refine ⟨fun pins s σ H Q I h => ?_⟩
  refine Call_ (ld_blt I hg hm (show bootBuiltins "sorted" = some (.builtin "sorted") by decide +kernel) ?_)
  refine PyProof.Rows.callWith_builtin1 (PyProof.Rows.args_cons ?_ rfl) rfl rfl
  refine Call_ (ld_blt I hg2 hm2 (show bootBuiltins "set" = some (.type "set") by decide +kernel) ?_)
  refine PyProof.Rows.callWith_type1 (PyProof.Rows.args_cons (thn (ha.run pins s σ H _ I h) fun v s1 ⟨x, H1, I1, r1, q1⟩ => PyProof.Rows.args_nil ?_) na) na rfl
  obtain ⟨l, xs, rfl, hq, h64, q1⟩ := q1
  cases r1
  obtain ⟨its, r, pl, hz⟩ := I1.list hq
  have hll := foldL_len xs []
  simp only [List.length_nil, Nat.zero_add] at hll
  refine call_set_txs (I1.ok.hd hc) pl.isList (by simpa using strsAre_of r) (by unfold scanBound; omega) fun h' tk hS hk => ?_
  refine PyProof.Rows.args_nil ?_
  have I2 : Inv X pins σ H1 { s1 with heap := h', toks := tk } := I1.kept fun b o e => hk b o (Heap.lt_size e) e
  refine sorted_txs (s := { s1 with heap := h', toks := tk }) hS (I2.ok.hd hc) (by omega) fun s2 p out c k2 g2 o2 hp ho hs => ?_
  have hlen : ((sortT (xs.foldl addL [])).map V.str).length ≤ sizeLine := by rw [List.length_map, (sortT_perm _).length_eq, sizeLine_eq]; omega
  have hn : H1 p = none := I2.hok.fresh hp
  have J : Inv X pins σ (upd H1 p (.lst ((sortT (xs.foldl addL [])).map V.str))) { ({ s1 with heap := h', toks := tk } : Shared) with heap := s2.heap, gens := s2.gens, drawn := s2.drawn, toks := s2.toks } :=
    I2.call (ch := []) (Un.laid k2 hp hn) (I2.hok.laid k2 hp ⟨hlen, out.toList, c, vals_of_strs hs, ho⟩) (by rw [g2]; exact I2.bare) (fun _ z => nomatch z)
  have e : s2 = { ({ s1 with heap := h', toks := tk } : Shared) with heap := s2.heap, gens := s2.gens, drawn := s2.drawn, toks := s2.toks } := by
    cases s2
    cases o2
    rfl
  rw [e]
  exact ⟨.ref p, _, J, rfl, q1 p hn⟩
def oSortSet : List D → Option D
  | [.list ds] => (match strsOf ds with
    | some xs => if xs.length < 64 then some (.list ((sortT (xs.foldl addL [])).map .str)) else none
    | none => none)
  | _ => none
section
variable {K : PySem.W.Frag} {X : Cx} {M : Pm} {E : XK} {k : Nat} {a : Expr} {ta : TE} {fa : Fe} {pos : Pos}
theorem je_sortset {p p2 q : Pos} (C : CxF K X E k) (hm : X.mg "sorted" = none) (hg : Gl X "sorted") (hm2 : X.mg "set" = none) (hg2 : Gl X "set") (ha : JE K X M E .op a ta fa)
    (na : starEach [a] X.env = (false, eval a X.env) :: starEach [] X.env := by rfl) : JE K X M E .fr (.Call (.Name "sorted" p) [.Call (.Name "set" p2) [a] [] q] [] pos) (tSortSet K ta) (fB oSortSet (fCons fa fNil)) := by
  have hK := C.hK
  subst hK
  refine ⟨pe_sortset C.calm hm hg hm2 hg2 ha.pe na, fun H0 G0 γ σ H G Q r ev hf p => ?_⟩
  unfold fB fCons fNil at hf
  cases e1 : fa γ with
  | none => simp only [e1, bL, bA] at hf; cases hf
  | some q1 =>
    cases q1 with
    | er c => simp only [e1, bL, bA] at hf; cases hf; exact ha.eo H0 G0 γ σ H G _ _ ev e1 p
    | ok d =>
      simp only [e1, bL, bLL, bA] at hf
      refine ha.eo H0 G0 γ σ H G _ _ ev e1 fun v H1 G1 s1 r1 => ?_
      cases e2 : oSortSet [d] with
      | none => rw [e2] at hf; cases hf
      | some dz =>
        rw [e2] at hf
        cases hf
        unfold oSortSet at e2
        split at e2
        · rename_i ds hd
          cases hd
          split at e2
          · rename_i xs hx
            split at e2
            · rename_i h64
              cases e2
              obtain ⟨l, us, e3, hs, ra⟩ := r1
              subst e3
              have ed := strsOf_eq hx
              subst ed
              refine ⟨l, xs, rfl, by rw [← ra.strs]; exact hs, h64, fun p' hp => ?_⟩
              exact p _ _ G1 (s1.trans (Stp.newO s1.sub hp)) ⟨p', _, rfl, s1.ex.free hp, s1.sub.free hp, upd_same, RA.of_strs _⟩
            · cases e2
          · cases e2
        · cases e2
end
end Py

/-! PyP: plans: their fields, their methods, their making -/
namespace Py
open PySem PySem.Spec PyProof.Rows L2
abbrev plNs : List Str := ["wishes", "pasts", "marks", "weights"]
def MP (C : Addr) : Pm := ⟨fun c => if c = "Plan" then some (C, plNs) else none, fun _ => .none⟩
/-- what is asked of the class -/
structure CP (K : PySem.W.Frag) (mg : Str → Option Value) (M : Pm) (C : Addr) : Prop where
  ci : M.ci "Plan" = some (C, plNs)
  cl : Cls K C
  na : ∀ f ∈ plNs, NoAttr K C f
  mg : mg "Plan" = some (.ref C)
def planD (ds : List D) : D := .dict [(.str "Plan", .list ds)]
def oFld (f : Str) : D → Option D
  | .dict [(.str c, .list ds)] => if c = "Plan" then (plNs.zip ds).lookup f else none
  | _ => none
theorem lookup_fs {K : PySem.W.Frag} {M : Pm} {G : Hp} {f : Str} : ∀ {fs : List (Str × V)} {ds : List D} {d : D}, RA K M G (fs.map (·.2)) ds → ((fs.map (·.1)).zip ds).lookup f = some d → ∃ v, fs.lookup f = some v ∧ R K M G v d
  | [], _, _, _, h => by cases h
  | (g, v) :: fs, _, d, .cons r t, h => by
    simp only [List.map_cons, List.zip_cons_cons, List.lookup_cons] at h ⊢
    cases e : (f == g) with
    | true => rw [e] at h; cases h; exact ⟨v, rfl, r⟩
    | false => rw [e] at h; exact lookup_fs t h
theorem lookup_no {f : Str} : ∀ {fs : List (Str × V)}, f ∉ fs.map (·.1) → fs.lookup f = none
  | [], _ => rfl
  | (g, v) :: fs, h => by
    simp only [List.map_cons, List.mem_cons, not_or] at h
    rw [List.lookup_cons, beq_eq_false_iff_ne.mpr h.1]
    exact lookup_no h.2
theorem mem_of_zip {f : Str} {d : D} : ∀ {ns : List Str} {ds : List D}, (ns.zip ds).lookup f = some d → f ∈ ns
  | [], _, h => by cases h
  | _ :: _, [], h => by cases h
  | n :: ns, x :: ds, h => by
    simp only [List.zip_cons_cons, List.lookup_cons] at h
    cases e : (f == n) with
    | true => rw [beq_iff_eq.mp e]; exact List.mem_cons_self
    | false => rw [e] at h; exact List.mem_cons_of_mem _ (mem_of_zip h)
section
variable {K : PySem.W.Frag} {X : Cx} {M : Pm} {E : XK} {k : Nat} {a o : Expr} {ta to : TE} {fa fo : Fe} {pos apos : Pos} {Cc : Addr}
theorem je_fld {f : Str} (C : CxF K X E k) (P : CP K X.mg M Cc) (ha : JE K X M E .op a ta fa) (hb : attributeBase a f X.env (eval a X.env) = eval a X.env := by rfl) : JE K X M E .cl (.Attribute a f pos) (tFld K ta f) (f1 (oFld f) fa) := by
  have hK := C.hK
  subst hK
  refine ⟨pe_fld ha.pe hb, fun H0 G0 γ σ H G Q r ev hf p => ?_⟩
  unfold f1 at hf
  cases e1 : fa γ with
  | none => rw [e1] at hf; cases hf
  | some q =>
    rw [e1] at hf
    cases q with
    | er c => cases hf; exact ha.eo H0 G0 γ σ H G _ _ ev e1 p
    | ok d =>
      simp only [bR] at hf
      refine ha.eo H0 G0 γ σ H G _ _ ev e1 fun v H1 G1 s1 r1 => ?_
      cases e2 : oFld f d with
      | none => rw [e2] at hf; cases hf
      | some dz =>
        rw [e2] at hf
        cases hf
        unfold oFld at e2
        split at e2
        · rename_i c ds
          split at e2
          · rename_i hc
            subst hc
            have rr : R X.K M G1 v (.dict [(.str "Plan", .list ds)]) := r1
            cases rr with
            | ins hg hci hns hra =>
              rename_i b C' dx fs ns
              have e3 := P.ci
              rw [hci] at e3
              cases e3
              rw [← hns] at e2
              have hm : f ∈ plNs := by rw [← hns]; exact mem_of_zip e2
              obtain ⟨w, h1, h2⟩ := lookup_fs hra e2
              exact ⟨b, _, dx, fs, w, rfl, s1.sub _ _ hg, P.cl, P.na f hm, h1, p w H1 G1 s1 h2⟩
          · cases e2
        · cases e2
/-- a plan's method -/
def isPlan : D → Bool
  | .dict [(.str c, .list _)] => decide (c = "Plan")
  | _ => false
def fMeth (φ : List D → Option Rs) (a : Fe) (b : Fa) : Fe := fun γ => bR (a γ) fun d => if isPlan d = true then bA (b γ) fun ds => φ (d :: ds) else none
theorem je_meth {φ : List D → Option Rs} {j : Nat} {m : Str} {f : Addr} {fd : FuncData} {ps : List Str} {e : Expr} {es : List Expr} {t : TA} {fr : Fa} {pl : Sem Bool} (C : CxF K X E k) (P : CP K X.mg M Cc) (hm : Meth X.K Cc m f) (hn : m ∉ plNs)
    (F : FnOk X.prog X.w X.K X.mg X.base (L2.CX X.prog X.w) j f fd ps (spF K M φ)) (hj : j ≤ k) (hb : Binds X.K fd ps []) (ho : JE K X M E .op o to fo) (ha : JC K X M E (e :: es) t fr)
    (hst : starEach (e :: es) X.env = (false, eval e X.env) :: starEach es X.env := by rfl) (hpl : (backTo pos (starEach es X.env)).any (·.1) = false := by rfl)
    (ht : eval (.Call (.Attribute o m apos) (e :: es) [] pos) X.env = (do
      let ov ← eval o X.env
      standAt apos.atName
      let (g, first) ← holding [ov] (getMethod ov m pl)
      callWith pos g first (backTo pos (starEach (e :: es) X.env)) (backToKw pos (keywordEach [] X.env))) := by rfl) :
    JE K X M E .cl (.Call (.Attribute o m apos) (e :: es) [] pos) (tMeth Cc m (spF K M φ) [] E to t) (fMeth φ fo fr) := by
  have hK := C.hK
  subst hK
  refine ⟨pe_meth ho.pe P.cl hm F (C.room.mono hj) hb .nil C.pas ha.pa hst hpl ht, fun H0 G0 γ σ H G Q r ev hf p => ?_⟩
  unfold fMeth at hf
  cases e1 : fo γ with
  | none => rw [e1] at hf; cases hf
  | some q =>
    rw [e1] at hf
    cases q with
    | er c => cases hf; exact ho.eo H0 G0 γ σ H G _ _ ev e1 p
    | ok d =>
      simp only [bR] at hf
      refine ho.eo H0 G0 γ σ H G _ _ ev e1 fun v H1 G1 s1 r1 => ?_
      split at hf
      case isFalse => cases hf
      rename_i hp
      have key : (∃ b dx fs, v = .ref b ∧ H1 b = some (.ins Cc dx fs) ∧ fs.lookup m = none) ∧ R X.K M G1 v d := by
        unfold isPlan at hp
        split at hp
        · rename_i c ds
          have hc := of_decide_eq_true hp
          subst hc
          have rr : R X.K M G1 v (.dict [(.str "Plan", .list ds)]) := r1
          refine ⟨?_, rr⟩
          cases rr with
          | ins hg hci hns hra =>
            rename_i b C' dx fs ns
            have e3 := P.ci
            rw [hci] at e3
            cases e3
            exact ⟨b, dx, fs, rfl, s1.sub _ _ hg, lookup_no (by rw [hns]; exact hn)⟩
        · cases hp
      obtain ⟨⟨b, dx, fs, e3, h1, h2⟩, rd⟩ := key
      refine ⟨b, dx, fs, e3, h1, h2, ?_⟩
      cases e2 : fr γ with
      | none => rw [e2] at hf; cases hf
      | some q2 =>
        rw [e2] at hf
        cases q2 with
        | er c => cases hf; exact ha.ac H0 G0 γ σ H1 G1 _ _ (ev.stp s1) e2 fun H' G' s' => p H' G' (s1.trans s')
        | ok ds =>
          refine ha.ac H0 G0 γ σ H1 G1 _ _ (ev.stp s1) e2 fun vs H2 G2 s2 r2 => ?_
          rw [List.append_nil]
          refine ⟨G2, d :: ds, r, s2.sub, .cons (rd.mono s2.eg) r2, hf, ?_⟩
          cases r with
          | ok d' => exact fun v' H' G' s' r' => p v' H' G' ((s1.trans s2).trans s') r'
          | er c => exact fun H' G' s' => p H' G' ((s1.trans s2).trans s')
/-! ### the making -/
/-- a step of the heap that leaves x free to change, and to be frozen -/
structure StpN (x : Addr) (H G H' G' : Hp) : Prop where
  ex : ∀ (p : Addr) (u : HO), p ≠ x → H p = some u → H' p = some u
  eg : Same G G'
  sub : Same G' H'
  nw : ∀ (p : Addr) (u : HO), p ≠ x → H p = some u → G p = none → G' p = none
theorem StpN.step {x : Addr} {H G H1 G1 H2 G2 : Hp} (a : StpN x H G H1 G1) (b : Stp H1 G1 H2 G2) : StpN x H G H2 G2 :=
  ⟨fun p u n q => b.ex p u (a.ex p u n q), a.eg.trans b.eg, b.sub, fun p u n q z => b.nw p u (a.ex p u n q) (a.nw p u n q z)⟩
theorem StpN.wr {x : Addr} {H G H1 G1 : Hp} {o : HO} (a : StpN x H G H1 G1) (g : G1 x = none) : StpN x H G (upd H1 x o) G1 :=
  ⟨fun p u n q => by rw [upd_ne n]; exact a.ex p u n q, a.eg, fun p u q => by rw [upd_ne (ne_of_none q g)]; exact a.sub p u q, a.nw⟩
/-- a new list written -/
theorem StpN.wrN {x l : Addr} {H G H1 G1 : Hp} {o : HO} (a : StpN x H G H1 G1) (n0 : H l = none) (g : G1 l = none) : StpN x H G (upd H1 l o) G1 :=
  ⟨fun p u n q => by rw [upd_ne (ne_of_none q n0)]; exact a.ex p u n q, a.eg, fun p u q => by rw [upd_ne (ne_of_none q g)]; exact a.sub p u q, a.nw⟩
/-- the promise of __init__: a plan's datum, and the instance stands for it -/
def spI (K : PySem.W.Frag) (M : Pm) (Cc : Addr) (φ : D → Option D) : Sp := fun vs H Q E => ∃ (G : Hp) (x dx : Addr) (v : V) (d pd : D), vs = [.ref x, v] ∧ Same G H ∧ G x = none ∧ H x = some (.ins Cc dx []) ∧ R K M G v d ∧ φ d = some pd ∧
  ∀ H' G', StpN x H G H' G' → R K M G' (.ref x) pd → Q .non H'
def fMake (φ : D → Option D) (b : Fa) : Fe := fun γ => match b γ with
  | some (.ok [d]) => oR (φ d)
  | some (.er c) => some (.er c)
  | _ => none
theorem je_make {φ : D → Option D} {j : Nat} {f : Addr} {fd : FuncData} {ps : List Str} {x : Str} {p : Pos} {t : TA} {fr : Fa} (C : CxF K X E k) (hm : X.mg x = some (.ref Cc)) (mk : Mk X.K Cc f)
    (F : FnOk X.prog X.w X.K X.mg X.base (L2.CX X.prog X.w) j f fd ps (spI K M Cc φ)) (hj : j + 1 ≤ k) (hb : Binds X.K fd ps []) (hg : Gl X x) (ha : JC K X M E [a] t fr)
    (hdb : (x == ("__debug__" : Str)) = false := by decide) (he : starEach [a] X.env = (false, eval a X.env) :: starEach [] X.env := by rfl) (hpl : (backTo pos (starEach [] X.env)).any (·.1) = false := by rfl) :
    JE K X M E .cl (.Call (.Name x p) [a] [] pos) (tMake Cc (spI K M Cc φ) [] E t) (fMake φ fr) := by
  have hK := C.hK
  subst hK
  refine ⟨pe_make mk F (C.room.mono hj) hg hm hb .nil C.pas ha.pa hdb he hpl, fun H0 G0 γ σ H G Q r ev hf p => ?_⟩
  unfold fMake at hf
  split at hf
  · rename_i d e1
    refine ha.ac H0 G0 γ σ H G _ _ ev e1 fun vs H1 G1 s1 r1 => ?_
    intro y dx hy hdx hne
    cases e2 : φ d with
    | none => rw [e2] at hf; cases hf
    | some pd =>
      rw [e2] at hf
      cases hf
      cases r1 with
      | cons r1 r2 =>
        cases r2
        rename_i v
        have gy : G1 y = none := s1.sub.free hy
        have gdx : G1 dx = none := s1.sub.free hdx
        refine ⟨G1, y, dx, v, d, pd, rfl, fun q u z => ?_, gy, upd_same, r1, e2, fun H' G' st rp => ⟨rfl, ?_⟩⟩
        · rw [upd_ne (ne_of_none z gy), upd_ne (ne_of_none z gdx)]; exact s1.sub q u z
        · refine p _ H' G' (s1.trans ⟨fun q u z => ?_, st.eg, st.sub, fun q u z n => ?_⟩) rp
          · exact st.ex q u (ne_of_none z hy) (by rw [upd_ne (ne_of_none z hy), upd_ne (ne_of_none z hdx)]; exact z)
          · exact st.nw q u (ne_of_none z hy) (by rw [upd_ne (ne_of_none z hy), upd_ne (ne_of_none z hdx)]; exact z) n
  · rename_i c e1
    cases hf
    exact ha.ac H0 G0 γ σ H G _ _ ev e1 p
  · cases hf
end
end Py

/-! PyI: the making of a plan, its __init__ -/
namespace Py
open PySem PySem.Spec PyProof.Rows L2
def wts (n : Nat) : List D := (List.range (n + 1)).map fun i => .int (2 ^ i : Nat)
theorem wts_succ (n : Nat) : wts (n + 1) = wts n ++ [.int (2 ^ (n + 1) : Nat)] := by unfold wts; rw [List.range_succ (n := n + 1), List.map_append]; rfl
theorem wts_len (n : Nat) : (wts n).length = n + 1 := by unfold wts; simp
theorem EnvR.re {K : PySem.W.Frag} {M : Pm} {H0 G0 H G H2 : Hp} {γ : Ge} {σ : L2.St} (e : EnvR K M H0 G0 γ σ H G) (n : ∀ (j : Nat) (ds : List D), γ[j]? ≠ some (.ow ds)) (s : Same G H2) : EnvR K M H2 G γ σ H2 G :=
  ⟨Stp.refl s, e.len, fun i sl x h1 h2 => by
    have q := e.sl i sl x h1 h2
    cases sl with
    | no => trivial
    | va d => exact q
    | ow ds => exact absurd h1 (n i ds), e.ap⟩
theorem noow3 (d : D) (j : Nat) (ds : List D) : ([.no, .va d, .no] : Ge)[j]? ≠ some (.ow ds) := by
  intro h
  have m := List.mem_of_getElem? h
  simp at m
structure IV (K : PySem.W.Frag) (M : Pm) (Cc x dx : Addr) (Hs Gs : Hp) (d : D) (fs : List (Str × V)) (σ : L2.St) (H G : Hp) : Prop where
  ev : EnvR K M H G [.no, .va d, .no] σ H G
  sx : σ[0]? = some (some (.ref x))
  hx : H x = some (.ins Cc dx fs)
  gx : G x = none
  fr : StpN x Hs Gs H G
section
variable {K : PySem.W.Frag} {M : Pm} {E : XK} {Cc x dx : Addr} {Hs Gs : Hp} {d : D} {fs : List (Str × V)} {σ : L2.St} {H G : Hp} {De : Ends}
theorem fld_step {t : TE} {fa : Fe} {nm : Str} {dv : D} {y : V} {H1 G1 : Hp} (I : IV K M Cc x dx Hs Gs d fs σ H G) (s1 : Stp H G H1 G1) : IV K M Cc x dx Hs Gs d (putF nm y fs) σ (upd H1 x (.ins Cc dx (putF nm y fs))) G1 := by
  have hx1 : H1 x = some (.ins Cc dx fs) := s1.ex _ _ I.hx
  have gx1 : G1 x = none := s1.nw _ _ I.hx I.gx
  have fr1 := (I.fr.step s1).wr (o := .ins Cc dx (putF nm y fs)) gx1
  exact ⟨(I.ev.stp s1).re (noow3 d) fr1.sub, I.sx, upd_same, gx1, fr1⟩
theorem set_cl {t : TE} {fa : Fe} {nm : Str} {dv : D} (cl : Cls K Cc) (na : NoAttr K Cc nm) (hl : fs.length < 1000) (I : IV K M Cc x dx Hs Gs d fs σ H G) (ha : EO K M E .cl t fa) (hf : fa [.no, .va d, .no] = some (.ok dv))
    (p : ∀ y H1 G1, Same G G1 → R K M G1 y dv → IV K M Cc x dx Hs Gs d (putF nm y fs) σ H1 G1 → De.nx σ H1) : sFld K (tVar 0) t nm De σ H := by
  refine ha H G _ σ H G _ _ I.ev hf fun y H1 G1 s1 r1 => ?_
  refine ⟨.ref x, I.sx, x, Cc, dx, fs, rfl, s1.ex _ _ I.hx, cl, na, hl, ?_⟩
  exact p y _ G1 s1.eg r1 (fld_step (t := t) (fa := fa) (dv := dv) I s1)
theorem set_fr {t : TE} {fa : Fe} {nm : Str} {dl : List D} (cl : Cls K Cc) (na : NoAttr K Cc nm) (hl : fs.length < 1000) (I : IV K M Cc x dx Hs Gs d fs σ H G) (ha : EO K M E .fr t fa) (hf : fa [.no, .va d, .no] = some (.ok (.list dl)))
    (p : ∀ l ws H1 G1, Same G G1 → l ≠ x → Hs l = none → H1 l = some (.lst ws) → G1 l = none → RA K M G1 ws dl → IV K M Cc x dx Hs Gs d (putF nm (.ref l) fs) σ H1 G1 → De.nx σ H1) : sFld K (tVar 0) t nm De σ H := by
  refine ha H G _ σ H G _ _ I.ev hf fun y H1 G1 s1 r1 => ?_
  obtain ⟨l, ws, rfl, h0, g1, h1, ra⟩ := r1
  have lx : l ≠ x := fun e => by rw [e, I.hx] at h0; cases h0
  have hs : Hs l = none := by
    cases q : Hs l with
    | none => rfl
    | some u => have := I.fr.ex l u lx q; rw [h0] at this; cases this
  refine ⟨.ref x, I.sx, x, Cc, dx, fs, rfl, s1.ex _ _ I.hx, cl, na, hl, ?_⟩
  exact p l ws _ G1 s1.eg lx hs (by rw [upd_ne lx]; exact h1) g1 ra (fld_step (t := t) (fa := fa) (dv := .none) I s1)
end
/-- the loop of the weights -/
structure LW (K : PySem.W.Frag) (M : Pm) (Cc x dx l : Addr) (Hs Gs : Hp) (d : D) (fs : List (Str × V)) (i : Nat) (σ : L2.St) (H G : Hp) : Prop where
  I : IV K M Cc x dx Hs Gs d fs σ H G
  wl : ∃ ws, H l = some (.lst ws) ∧ RA K M G ws (wts i)
  gl : G l = none
theorem two_pow (i : Nat) : (2 : Int) * ((2 ^ i : Nat) : Int) = ((2 ^ (i + 1) : Nat) : Int) := by rw [Nat.pow_succ]; omega
theorem loop_w {K : PySem.W.Frag} {M : Pm} {E : XK} {Cc x dx l : Addr} {Hs Gs : Hp} {d : D} {fs : List (Str × V)} {σ : L2.St} {H G : Hp} {De : Ends} {tn : TE} {fn : Fe} {W : List D} {vW : V} (cl : Cls K Cc) (naW : NoAttr K Cc "wishes") (naT : NoAttr K Cc "weights")
    (fW : fs.lookup ("wishes" : Str) = some vW) (fT : fs.lookup ("weights" : Str) = some (V.ref l)) (lx : l ≠ x) (hsl : Hs l = none) (rW : R K M G vW (.list W)) (hn : W.length ≤ 1000) (I : LW K M Cc x dx l Hs Gs d fs 0 σ H G) (en : EO K M E .cl tn fn) (hf : ∀ γ, fn γ = some (.ok (.int (-1))))
    (p : ∀ σ' H' G', Same G G' → LW K M Cc x dx l Hs Gs d fs W.length σ' H' G' → De.nx σ' H') :
    tFor (iList K (tFld K (tVar 0) "wishes")) (gName 2) (tDrop (tBM K "list" rAppend (tFld K (tVar 0) "weights") (tCons (tOp (rI CMul fun i j => .int (i * j)) (tC (.int 2)) (tOp (rIx K) (tFld K (tVar 0) "weights") tn)) tNil))) De σ H := by
  cases rW with
  | lst hsq hra =>
    rename_i lw us
    refine ⟨.ref x, I.I.sx, x, Cc, dx, fs, _, rfl, I.I.hx, cl, naW, fW, lw, rfl, ⟨us, I.I.ev.sub.seq hsq⟩, ?_⟩
    refine ⟨fun i m σ' H' => m = W.length - i ∧ i ≤ W.length ∧ ∃ G', Same G G' ∧ LW K M Cc x dx l Hs Gs d fs i σ' H' G', ⟨W.length, by simp, Nat.zero_le _, G, Same.refl _, I⟩, ?_⟩
    rintro i m σ2 H2 ⟨rfl, hi, G2, g2, L⟩
    by_cases hlt : i < W.length
    · have hu : i < us.length := by rw [hra.len]; exact hlt
      have hs2 : SqL K H2 lw us := (g2.trans L.I.ev.sub).seq hsq
      refine .inr ⟨⟨us, us[i], hs2, List.getElem?_eq_getElem hu⟩, fun σ' H' => ∃ G', Same G G' ∧ LW K M Cc x dx l Hs Gs d fs (i + 1) σ' H' G', fun σ' H' ⟨G', q1, q2⟩ => ⟨W.length - (i + 1), by omega, rfl, hlt, G', q1, q2⟩, fun y H3 hy => ?_⟩
      obtain ⟨e3, hy⟩ := hy
      subst e3
      obtain ⟨ws, hl, rw_⟩ := L.wl
      have sx2 : (σ2.set 2 (some y))[0]? = some (some (.ref x)) := by rw [List.getElem?_set_ne (by decide)]; exact L.I.sx
      have ev2 : EnvR K M H3 G2 [.no, .va d, .no] (σ2.set 2 (some y)) H3 G2 := by
        have e := L.I.ev
        refine ⟨e.st, by rw [List.length_set]; exact e.len, fun j sl xx h1 h2 => ?_, fun j k sj sk xj xk q h1 h2 h3 h4 h5 h6 => ?_⟩
        · by_cases hj : j = 2
          · subst hj; cases h1; trivial
          · rw [List.getElem?_set_ne (Ne.symm hj)] at h2; exact e.sl j sl xx h1 h2
        · cases sj with
          | ow ds => exact absurd h1 (noow3 d j ds)
          | _ => exact h5.elim
      have hlen : ws.length = i + 1 := by rw [rw_.len, wts_len]
      refine ⟨.ref x, sx2, x, Cc, dx, fs, V.ref l, rfl, L.I.hx, cl, naT, fT, (show tyV K "list" (V.ref l) H3 from Or.inl ⟨rfl, ws, .of hl⟩), ?_⟩
      show tOp (rI CMul fun i j => .int (i * j)) (tC (.int 2)) _ (σ2.set 2 (some y)) H3 _
      refine ⟨.ref x, sx2, x, Cc, dx, fs, _, rfl, L.I.hx, cl, naT, fT, ?_⟩
      refine en H3 G2 _ _ H3 G2 _ _ ev2 (hf _) fun w H4 G4 s4 r4 => ?_
      cases (show R K M G4 w (.int (-1)) from r4)
      have hl4 : H4 l = some (.lst ws) := s4.ex _ _ hl
      have last : atI (wts i) (-1) = some (.int (2 ^ i : Nat)) := by
        cases i with
        | zero => rfl
        | succ i => rw [wts_succ]; exact atI_last _ _
      obtain ⟨v, hv1, hv2⟩ := (rw_.mono s4.eg).at last
      cases (show R K M G4 v (.int (2 ^ i : Nat)) from hv2)
      refine .inl ⟨l, ws, -1, _, rfl, rfl, .of hl4, hv1, 2, ((2 ^ i : Nat) : Int), rfl, rfl, .inl ⟨by decide, by decide⟩, ?_⟩
      refine ⟨l, ws, _, rfl, rfl, hl4, by rw [hlen, sizeLine_eq]; omega, ?_⟩
      have g4l : G4 l = none := s4.nw _ _ hl L.gl
      have g4x : G4 x = none := s4.nw _ _ L.I.hx L.I.gx
      have fr4 := ((L.I.fr.step s4).wrN (o := .lst (ws ++ [.int (2 * ((2 ^ i : Nat) : Int))])) hsl g4l)
      refine ⟨G4, g2.trans s4.eg, ⟨(ev2.stp s4).re (noow3 d) fr4.sub, sx2, by rw [upd_ne (Ne.symm lx)]; exact s4.ex _ _ L.I.hx, g4x, fr4⟩, ⟨_, upd_same, ?_⟩, g4l⟩
      rw [wts_succ, ← two_pow]
      exact (rw_.mono s4.eg).app (.one (.int _))
    · have hie : i = W.length := by omega
      subst hie
      exact .inl ⟨⟨us, (g2.trans L.I.ev.sub).seq hsq, by rw [hra.len]; omega⟩, p σ2 H2 G2 g2 L⟩
/-- self.nm = e -/
structure JF (K : PySem.W.Frag) (X : Cx) (M : Pm) (E : XK) (m : Md) (st : Stmt) (nm : Str) (t : TE) (f : Fe) : Prop where
  ps : PS X st (sFld K (tVar 0) t nm)
  eo : EO K M E m t f
/-- the loop of the weights -/
structure JL (K : PySem.W.Frag) (X : Cx) (M : Pm) (E : XK) (st : Stmt) (tn : TE) (fn : Fe) : Prop where
  ps : PS X st (tFor (iList K (tFld K (tVar 0) "wishes")) (gName 2) (tDrop (tBM K "list" rAppend (tFld K (tVar 0) "weights") (tCons (tOp (rI CMul fun i j => .int (i * j)) (tC (.int 2)) (tOp (rIx K) (tFld K (tVar 0) "weights") tn)) tNil))))
  eo : EO K M E .cl tn fn
section
variable {K : PySem.W.Frag} {X : Cx} {M : Pm} {E : XK} {k : Nat} {a : Expr} {ta : TE} {fa : Fe} {m : Md}
theorem js_fld {nm x : Str} {p0 p' pos : Pos} (C : CxF K X E k) (ha : JE K X M E m a ta fa) (ho : PE X (.Name x p0) (tVar 0)) (hs : swapsWith a (some (.Attribute (.Name x p0) nm p')) pos.line X.env = pure false := by rfl) :
    JF K X M E m (.Assign [.Attribute (.Name x p0) nm p'] a pos) nm ta fa := by
  have hK := C.hK
  subst hK
  exact ⟨ps_fld ho ha.pe hs, ha.eo⟩
theorem js_loop {x w : Str} {p1 p2 p3 p4 p5 p6 p7 p8 p9 p10 pos : Pos} {j2 : Nat} (C : CxF K X E k) (ho : ∀ p, PE X (.Name x p) (tVar 0)) (hi : X.N[2]? = some w) (hx : Loc X.env.scope w) (hf : X.fn w = true ∨ X.env.scope.names.lookup w = some .local) (ha : JE K X M E .cl a ta fa)
    (hs : PlainIx a) (hb1 : attributeBase (.Name x p1) "wishes" X.env (eval (.Name x p1) X.env) = eval (.Name x p1) X.env) (hb2 : ∀ p, attributeBase (.Name x p) "weights" X.env (eval (.Name x p) X.env) = eval (.Name x p) X.env)
    (he : PE X (.Call (.Attribute (.Attribute (.Name x p3) "weights" p4) "append" p5) [.BinOp (.Constant (.int 2) j2 p6) .Mult (.Subscript (.Attribute (.Name x p7) "weights" p8) a p9) p10] [] p2) (tBM K "list" rAppend (tFld K (tVar 0) "weights") (tCons (tOp (rI CMul fun i j => .int (i * j)) (tC (.int 2)) (tOp (rIx K) (tFld K (tVar 0) "weights") ta)) tNil)))
    (hsw : swapsWith (.Call (.Attribute (.Attribute (.Name x p3) "weights" p4) "append" p5) [.BinOp (.Constant (.int 2) j2 p6) .Mult (.Subscript (.Attribute (.Name x p7) "weights" p8) a p9) p10] [] p2) none pos.line X.env = pure false)
    {pt pa pfor : Pos} (hfo : ∀ y, foldedSetIterable (.Attribute (.Name x p1) "wishes" pa) X.env y = pure y) :
    JL K X M E (.For (.Name w pt) (.Attribute (.Name x p1) "wishes" pa) [.Expr (.Call (.Attribute (.Attribute (.Name x p3) "weights" p4) "append" p5) [.BinOp (.Constant (.int 2) j2 p6) .Mult (.Subscript (.Attribute (.Name x p7) "weights" p8) a p9) p10] [] p2) pos] [] pfor) ta fa := by
  have hK := C.hK
  subst hK
  exact ⟨ps_for C.own C.calm (pi_list (pe_fld (ho _) hb1)) (pg_name C.nd hi hx hf) (pss_one (ps_expr he hsw)) hfo, ha.eo⟩
/-- __init__'s body -/
structure JN (K : PySem.W.Frag) (X : Cx) (M : Pm) (E : XK) (body : List Stmt) (tW tP tM tL tn : TE) (fW fP fM fL fn : Fe) : Prop where
  ps : PSs X body (tSeq (sFld K (tVar 0) tW "wishes") (tSeq (sFld K (tVar 0) tP "pasts") (tSeq (sFld K (tVar 0) tM "marks") (tSeq (sFld K (tVar 0) tL "weights")
    (tFor (iList K (tFld K (tVar 0) "wishes")) (gName 2) (tDrop (tBM K "list" rAppend (tFld K (tVar 0) "weights") (tCons (tOp (rI CMul fun i j => .int (i * j)) (tC (.int 2)) (tOp (rIx K) (tFld K (tVar 0) "weights") tn)) tNil))))))))
  w : EO K M E .cl tW fW
  p : EO K M E .cl tP fP
  m : EO K M E .cl tM fM
  l : EO K M E .fr tL fL
  n : EO K M E .cl tn fn
theorem jn_of {s1 s2 s3 s4 s5 : Stmt} {tW tP tM tL tn : TE} {fW fP fM fL fn : Fe} (h1 : JF K X M E .cl s1 "wishes" tW fW) (h2 : JF K X M E .cl s2 "pasts" tP fP) (h3 : JF K X M E .cl s3 "marks" tM fM) (h4 : JF K X M E .fr s4 "weights" tL fL) (h5 : JL K X M E s5 tn fn) :
    JN K X M E [s1, s2, s3, s4, s5] tW tP tM tL tn fW fP fM fL fn := ⟨pss_cons h1.ps (pss_cons h2.ps (pss_cons h3.ps (pss_cons h4.ps (pss_one h5.ps)))), h1.eo, h2.eo, h3.eo, h4.eo, h5.eo⟩
end
def initT (φW φP φM : List D → Option Rs) (d : D) : Option D := match φW [d], φP [d], φM [d] with
  | some (.ok (.list W)), some (.ok Pd), some (.ok Md) => if W.length ≤ 1000 then some (planD [.list W, Pd, Md, .list (wts W.length)]) else none
  | _, _, _ => none
theorem putF_len (f : Str) (v : V) : ∀ fs : List (Str × V), (putF f v fs).length ≤ fs.length + 1
  | [] => Nat.le_refl _
  | (g, x) :: r => by
    unfold putF
    split
    · simp
    · simp only [List.length_cons]; have := putF_len f v r; omega
theorem init_ok {P : Program} {w : World} {K : PySem.W.Frag} {mg : Str → Option Value} {base : Heap} {M : Pm} {st : Stmt} {f : Addr} {fd : FuncData} {N : List Str} {k : Nat} {Cc : Addr} {φW φP φM : List D → Option Rs} (F : Fun K "__init__" "Plan.__init__" st f fd) (S : FnScope N ["self", "statement"] (defScope st)) (hN : N.length = 3) (cp : CP K mg M Cc)
    (hb : ∀ (cdv : Value) (A : Around) (outer : List Env) (s : Shared) (H : Hp) (E : XK), CxF K (cxOf (L2.CX P w) P w K mg base N "Plan.__init__" (defScope st) f cdv A outer s H E) E k → Takes (cxOf (L2.CX P w) P w K mg base N "Plan.__init__" (defScope st) f cdv A outer s H E) (fun cls d _ H => E cls d H) →
      ∃ tW tP tM tL tn, JN K (cxOf (L2.CX P w) P w K mg base N "Plan.__init__" (defScope st) f cdv A outer s H E) M E (defBody st) tW tP tM tL tn (fCall φW (fCons (fVar 1) fNil)) (fCall φP (fCons (fVar 1) fNil)) (fCall φM (fCons (fVar 1) fNil)) (fLst (fCons (fCon (.int 1)) fNil)) (f1 oNeg (fCon (.int 1)))) :
    FnOk P w K mg base (L2.CX P w) (k + 1) f fd ["self", "statement"] (spI K M Cc (initT φW φP φM)) := by
  have len : ∀ vs H Q E, spI K M Cc (initT φW φP φM) vs H Q E → vs.length = (["self", "statement"] : List Str).length := by
    rintro vs H Q E ⟨G, x, dx, v, d, pd, rfl, _⟩
    rfl
  refine F.okX S len fun cdv A outer s H vs Q E hr h => ?_
  obtain ⟨C, tk⟩ := cxf_of (P := P) (w := w) (K := K) (mg := mg) (base := base) (qual := "Plan.__init__") (s := s) (H := H) (E := E) (outer := outer) S hr
  obtain ⟨tW, tP, tM, tL, tn, J⟩ := hb cdv A outer s H E C tk
  refine ⟨_, J.ps, ?_⟩
  obtain ⟨G, x, dx, v, d, pd, rfl, e, gx, hx, r, hi, p⟩ := h
  unfold initT at hi
  split at hi
  case h_2 => cases hi
  rename_i W Pd Md eW eP eM
  split at hi
  case isFalse => cases hi
  rename_i hW
  cases hi
  obtain ⟨n0, n1, n2, rfl⟩ : ∃ a b c, N = [a, b, c] := by
    match N, hN with
    | [a, b, c], _ => exact ⟨a, b, c, rfl⟩
  have I0 : IV K M Cc x dx H G d [] (L2.start [n0, n1, n2] [.ref x, v]) H G := by
    refine ⟨⟨Stp.refl e, rfl, fun j sl y h1 h2 => ?_, fun j k sj sk xj xk q h1 h2 h3 h4 h5 h6 => ?_⟩, rfl, hx, gx, ⟨fun _ _ _ q => q, Same.refl _, e, fun _ _ _ _ n => n⟩⟩
    · match j, h1, h2 with
      | 0, h1, h2 => cases h1; trivial
      | 1, h1, h2 => cases h1; cases h2; exact ⟨v, rfl, r⟩
      | 2, h1, h2 => cases h1; trivial
      | j + 3, h1, _ => simp at h1
    · cases sj with
      | ow ds => exact absurd h1 (noow3 d j ds)
      | _ => exact h5.elim
  have na : ∀ f ∈ plNs, NoAttr K Cc f := cp.na
  have ev : ∀ φ : List D → Option Rs, (fCall φ (fCons (fVar 1) fNil)) [.no, .va d, .no] = φ [d] := fun φ => rfl
  refine set_cl cp.cl (na "wishes" (by simp)) (by decide) I0 J.w ((ev φW).trans eW) fun vW H1 G1 g1 rW I1 => ?_
  have l1 := putF_len "wishes" vW []
  simp only [List.length_nil] at l1
  refine set_cl cp.cl (na "pasts" (by simp)) (by omega) I1 J.p ((ev φP).trans eP) fun vP H2 G2 g2 rP I2 => ?_
  have l2 := putF_len "pasts" vP (putF "wishes" vW [])
  refine set_cl cp.cl (na "marks" (by simp)) (by omega) I2 J.m ((ev φM).trans eM) fun vM H3 G3 g3 rM I3 => ?_
  have l3 := putF_len "marks" vM (putF "pasts" vP (putF "wishes" vW []))
  refine set_fr cp.cl (na "weights" (by simp)) (by omega) I3 J.l (dl := [.int 1]) rfl fun l ws H4 G4 g4 lx hsl hl gl ra I4 => ?_
  have L0 : LW K M Cc x dx l H G d _ 0 (L2.start [n0, n1, n2] [.ref x, v]) H4 G4 := ⟨I4, ⟨ws, hl, ra⟩, gl⟩
  refine loop_w cp.cl (na "wishes" (by simp)) (na "weights" (by simp)) (vW := vW) (W := W) rfl rfl lx hsl (rW.mono ((g2.trans g3).trans g4)) hW L0 J.n (fun _ => rfl) fun σ5 H5 G5 g5 L5 => ?_
  obtain ⟨wl, hwl, rwl⟩ := L5.wl
  have gl5 : G5 l = none := L5.gl
  have gx5 : G5 x = none := L5.I.gx
  have e1 : Same G5 (upd G5 l (.lst wl)) := same_new gl5
  have gx6 : (upd G5 l (.lst wl)) x = none := by rw [upd_ne (Ne.symm lx)]; exact gx5
  have e2 : Same (upd G5 l (.lst wl)) (upd (upd G5 l (.lst wl)) x (.ins Cc dx [("wishes", vW), ("pasts", vP), ("marks", vM), ("weights", .ref l)])) := same_new gx6
  have e3 := e1.trans e2
  refine p H5 (upd (upd G5 l (.lst wl)) x (.ins Cc dx [("wishes", vW), ("pasts", vP), ("marks", vM), ("weights", .ref l)])) ⟨L5.I.fr.ex, L5.I.fr.eg.trans e3, fun q u z => ?_, fun q u nq z n => ?_⟩ ?_
  · by_cases hq : q = x
    · subst hq; rw [upd_same] at z; cases z; exact L5.I.hx
    · rw [upd_ne hq] at z
      by_cases hq2 : q = l
      · subst hq2; rw [upd_same] at z; cases z; exact hwl
      · rw [upd_ne hq2] at z; exact L5.I.ev.sub q u z
  · rw [upd_ne nq, upd_ne (ne_of_none z hsl)]
    exact L5.I.fr.nw q u nq z n
  · refine .ins upd_same cp.ci rfl ?_
    refine .cons (rW.mono ((((g2.trans g3).trans g4).trans g5).trans e3)) (.cons (rP.mono (((g3.trans g4).trans g5).trans e3)) (.cons (rM.mono ((g4.trans g5).trans e3)) (.one (.lst (.of (e2 _ _ upd_same)) (rwl.mono e3)))))
end Py

/-! PyJ: xs.index(x), sorted(xs) -/
namespace Py
open PySem PySem.Spec PyProof.Rows L2
def oIndex : D → D → Option D
  | .list ds, d => if SeqAt.shaped (.list ds) = true ∧ SeqAt.shaped d = true then (match ds.findIdx? fun z => PyData.eqv z d with
    | some j => some (.int (j : Nat))
    | none => none) else none
  | _, _ => none
def oSorted : List D → Option D
  | [.list ds] => (match strsOf ds with
    | some xs => if xs.length < 64 then some (.list ((sortT xs).map .str)) else none
    | none => none)
  | _ => none
def fIdx (a b : Fe) : Fe := fun γ => match a γ with
  | some (.ok (.list ds)) => (match b γ with
    | some (.ok d) => oR (oIndex (.list ds) d)
    | _ => none)
  | some (.er c) => some (.er c)
  | _ => none
theorem cs_sorted {K : PySem.W.Frag} {M : Pm} : CallS K M .fr (rSortedS K) oSorted := by
  intro H G vs ds dz Q e r ho q
  unfold oSorted at ho
  split at ho
  · rename_i ds
    split at ho
    · rename_i xs hx
      split at ho
      · rename_i h64
        cases ho
        cases r with
        | cons r t =>
          cases t
          obtain ⟨l, us, e1, h, ra⟩ := r
          subst e1
          have es := strsOf_eq hx
          subst es
          refine ⟨l, xs, rfl, by rw [← ra.strs]; exact h, h64, fun ys p hp hs hn => ?_⟩
          have eu := sortT_uniq hp (pair_of_sorted hs)
          subst eu
          exact q _ _ G (Stp.newO e hn) ⟨p, _, rfl, hn, e.free hn, upd_same, RA.of_strs _⟩
      · cases ho
    · cases ho
  · cases ho
section
variable {K : PySem.W.Frag} {X : Cx} {M : Pm} {E : XK} {k : Nat} {a b : Expr} {ta tb : TE} {fa fb : Fe} {pos apos : Pos}
theorem je_sorted {p : Pos} (C : CxF K X E k) (hm : X.mg "sorted" = none) (hg : Gl X "sorted") (ha : JE K X M E .op a ta fa) (hs : starEach [a] X.env = (false, eval a X.env) :: starEach [] X.env := by rfl) : JE K X M E .fr (.Call (.Name "sorted" p) [a] [] pos) (tCB (rSortedS K) (tCons ta tNil)) (fB oSorted (fCons fa fNil)) := by
  have hK := C.hK
  subst hK
  exact je_callB cr_sortedS cs_sorted hm (by decide +kernel) hg (ja_cons ha ja_nil hs) (by decide) (by decide) hs rfl
theorem je_index (C : CxF K X E k) (ha : JE K X M E .op a ta fa) (hb : JE K X M E .op b tb fb)
    (hbase : attributeBase a "index" X.env (eval a X.env) = eval a X.env := by rfl)
    (hfew : ((backTo pos (starEach [b] X.env)).all (fun x => !x.1) && (backToKw pos (keywordEach [] X.env)).all (fun x => x.1.isSome)
      && decide ([b].length + ([] : List Keyword).length + (if ([] : List Keyword).isEmpty then 0 else 1) < 30)) = true := by rfl)
    (hline : (apos.endLine == pos.line) = true := by rfl) (hst : starEach [b] X.env = (false, eval b X.env) :: starEach [] X.env := by rfl) :
    JE K X M E .cl (.Call (.Attribute a "index" apos) [b] [] pos) (tBM K "list" (rIndexD K) ta (tCons tb tNil)) (fIdx fa fb) := by
  have hK := C.hK
  subst hK
  refine ⟨pe_bm PySem.F.plainAttrs_list PySem.F.slot_list_index PySem.F.type_list_index (mt_indexD (by have := C.room.un; omega)) ha.pe (pa_cons hb.pe pa_nil hst) hbase hfew hline hst rfl, fun H0 G0 γ σ H G Q r ev hf p => ?_⟩
  unfold fIdx at hf
  split at hf
  · rename_i ds e1
    refine ha.eo H0 G0 γ σ H G _ _ ev e1 fun x H1 G1 s1 r1 => ?_
    split at hf
    · rename_i d e2
      cases e3 : oIndex (.list ds) d with
      | none => rw [e3] at hf; cases hf
      | some dz =>
        rw [e3] at hf
        cases hf
        unfold oIndex at e3
        simp only at e3
        split at e3
        · rename_i hsh
          split at e3
          · rename_i j hj
            cases e3
            obtain ⟨l, us, e4, hs, ra⟩ := id r1
            subst e4
            refine ⟨(show tyV X.K "list" (V.ref l) H1 from Or.inl ⟨rfl, us, hs⟩), ?_⟩
            refine hb.eo H0 G0 γ σ H1 G1 _ _ (ev.stp s1) e2 fun y H2 G2 s2 r2 => ?_
            obtain ⟨hlt, hz, hno⟩ := List.findIdx?_eq_some_iff_getElem.mp hj
            have r3 : RO X.K M H2 G2 (.ref l) (.list ds) := RO.mono (d := .list ds) r1 s2.ex s2.eg
            have d1 : Dp X.K H2 (.ref l) (.list ds) := RO.dp r3 s2.sub hsh.1
            have d2 : Dp X.K H2 y d := RO.dp r2 s2.sub hsh.2
            refine ⟨l, y, d, ds, j, ds[j], rfl, rfl, d1, d2, hsh.1, hsh.2, List.getElem?_eq_getElem hlt, hz, fun m z' hm hz' => ?_, p _ H2 G2 (s1.trans s2) (R.int _)⟩
            obtain ⟨hml, rfl⟩ := List.getElem?_eq_some_iff.mp hz'
            have := hno m hm
            simpa using this
          · cases e3
        · cases e3
    · cases hf
  · rename_i c e1
    cases hf
    exact ha.eo H0 G0 γ σ H G _ _ ev e1 p
  · cases hf
end
/-! ### in a plain body: a name stored from an expression that uses the shared list -/
section
variable {K : PySem.W.Frag} {X : Cx} {M : Pm} {E : XK} {k : Nat} {a : Expr} {ta : TE} {fa : Fe} {pos : Pos} {i : Nat} {F_ : Fx}
theorem usa_consO {fr : Fxa} (h : Usa i fr) : Usa i (xCons (xOf fa) fr) := fun γ d γ' e => by
  unfold xCons xOf at e
  split at e
  · rename_i d1 γ1 e1
    split at e1
    · cases e1
      split at e
      · rename_i ds γ2 e2; exact h _ _ _ e2
      · cases e
    · cases e1
  · cases e
theorem us_tup {fr : Fxa} (h : Usa i fr) : Us i (xTup fr) := fun γ d γ' e => by
  unfold xTup at e
  split at e
  · rename_i e1; exact h _ _ _ e1
  · cases e
def sSetX (j : Nat) (f : Fx) : Fs := fun γ => match f γ with
  | some (d, γ1) => some (.nx (γ1.set j (.va d)))
  | none => none
theorem js_setX {j : Nat} {x : Str} {p0 : Pos} (i : Nat) (hN : X.N.Nodup) (ha : JXE K X M i a ta F_) (hw : Us i F_) (hi : X.N[j]? = some x := by rfl) (hx : Loc X.env.scope x := by first | exact Or.inl rfl | exact Or.inr rfl) (hs : swapsWith a (some (.Name x p0)) pos.line X.env = pure false := by rfl) (hf : X.fn x = true ∨ X.env.scope.names.lookup x = some .local := by first | exact .inl rfl | exact .inr rfl) :
    JS K X M E (.Assign [.Name x p0] a pos) (tAsg ta (gName j)) (sSetX j F_) := ⟨ps_set hN hi hx ha.pe hs hf, fun H0 G0 γ σ H G De o ev hfx p => by
  unfold sSetX at hfx
  split at hfx
  · rename_i d γ1 e1
    cases hfx
    obtain ⟨ds, e2⟩ := hw _ _ _ e1
    obtain ⟨q, vs, h1, _⟩ := ev.ow e2
    exact ha.xe q H0 G0 γ σ H G _ _ _ ⟨ev, h1⟩ e1 fun v H' G' s ev' rv => p _ H' G' (ev'.ev.setv rv)
  · cases hfx⟩
end
end Py

/-! PyU: defs whose result is a new list -/
namespace Py
open PySem PySem.Spec PyProof.Rows L2
section
variable (K : PySem.W.Frag) (M : Pm) (E : XK)
def PostF (H0 G0 : Hp) (De : Ends) : Out → Prop
  | .rt d => ∀ v H G, Stp H0 G0 H G → RF K M H0 H G v d → De.rt v H
  | o => PostS K M E H0 G0 De o
def SOF (t : TS) (f : Fs) : Prop := ∀ (H0 G0 : Hp) (γ : Ge) (σ : L2.St) (H G : Hp) (De : Ends) (o : Out), EnvR K M H0 G0 γ σ H G → f γ = some o → PostF K M E H0 G0 De o → t De σ H
end
/-- an own list, nothing else -/
def fOwn (i : Nat) : Fe := fun γ => match γ[i]? with
  | some (.ow ds) => some (.ok (.list ds))
  | _ => none
/-- it never returns -/
def NoRt (f : Fs) : Prop := ∀ γ d, f γ ≠ some (.rt d)
section
variable {K : PySem.W.Frag} {X : Cx} {M : Pm} {E : XK} {k : Nat} {a : Expr} {ta : TE} {fa : Fe} {t u : TS} {f g : Fs} {pos : Pos} {st : Stmt} {rest : List Stmt}
theorem uf_lift (h : SO K M E t f) (n : NoRt f) : SOF K M E t f := fun H0 G0 γ σ H G De o ev hf p => by
  refine h H0 G0 γ σ H G De o ev hf ?_
  cases o with
  | rt d => exact absurd hf (n γ d)
  | _ => exact p
theorem uf_seq (h1 : SO K M E t f) (n : NoRt f) (h2 : SOF K M E u g) : SOF K M E (tSeq t u) (fSeq f g) := fun H0 G0 γ σ H G De o ev hf p => by
  unfold fSeq at hf
  split at hf
  · rename_i γ1 e1
    exact h1 H0 G0 γ σ H G { De with nx := u De } _ ev e1 fun σ' H' G' ev' => h2 H0 G0 γ1 σ' H' G' De o ev' hf p
  · rename_i hn
    refine h1 H0 G0 γ σ H G { De with nx := u De } o ev hf ?_
    cases o with
    | nx γ1 => exact absurd hf (hn γ1)
    | rt d => exact absurd hf (n γ d)
    | _ => exact p
/-- return of an own list -/
theorem uf_retO {i : Nat} : SOF K M E (tRet (tVar i)) (sRet (fOwn i)) := fun H0 G0 γ σ H G De o ev hf p => by
  unfold sRet at hf
  split at hf
  · rename_i d e1
    unfold fOwn at e1
    split at e1
    · rename_i ds e2
      cases e1
      cases hf
      obtain ⟨l, vs, h1, hg, h0, h2, h3⟩ := ev.ow e2
      exact ⟨_, h1, p _ H G ev.st ⟨l, vs, rfl, h0, hg, h2, h3⟩⟩
    · cases e1
  · rename_i c e1
    unfold fOwn at e1
    split at e1 <;> cases e1
  · cases hf
/-- return of an expression that makes a new list -/
theorem uf_retF (ha : EO K M E .fr ta fa) : SOF K M E (tRet ta) (sRet fa) := fun H0 G0 γ σ H G De o ev hf p => by
  unfold sRet at hf
  split at hf
  · rename_i d e1
    cases hf
    exact ha H0 G0 γ σ H G _ _ ev e1 fun v H' G' s r => p v H' G' (ev.st.trans s) (RF.up r ev.st.ex)
  · rename_i c e1
    cases hf
    exact ha H0 G0 γ σ H G _ _ ev e1 fun H' G' s => p H' G' (ev.st.trans s)
  · cases hf
theorem nr_set (i : Nat) : NoRt (sSet i fa) := fun γ d h => by unfold sSet at h; split at h <;> cases h
theorem nr_setO (i : Nat) : NoRt (sSetO i fa) := fun γ d h => by unfold sSetO at h; split at h <;> cases h
theorem nr_app (i : Nat) : NoRt (sApp i fa) := fun γ d h => by
  unfold sApp at h
  split at h
  · split at h
    · split at h <;> cases h
    · cases h
    · cases h
  · cases h
theorem nr_next : NoRt fNext := fun γ d h => by cases h
theorem nr_if {c : Ft} (h1 : NoRt f) (h2 : NoRt g) : NoRt (sIf c f g) := fun γ d h => by
  unfold sIf at h
  split at h
  · exact h1 _ _ h
  · exact h2 _ _ h
  · cases h
  · cases h
theorem nr_seq (h1 : NoRt f) (h2 : NoRt g) : NoRt (fSeq f g) := fun γ d h => by
  unfold fSeq at h
  split at h
  · exact h2 _ _ h
  · exact h1 _ _ h
theorem nr_forF {gf : D → Ge → Option Ge} (h1 : NoRt f) : ∀ (ds : List D) (γ : Ge) (d : D), forF gf f ds γ ≠ some (.rt d)
  | [], γ, d, h => by cases h
  | x :: ds, γ, d, h => by
    unfold forF at h
    split at h
    · cases h
    · split at h
      · exact nr_forF h1 ds _ d h
      · exact nr_forF h1 ds _ d h
      · cases h
      · rename_i e; exact h1 _ _ e
      · cases h
      · cases h
theorem nr_for {w : Fa} {gf : D → Ge → Option Ge} (h1 : NoRt f) : NoRt (sFor w gf f) := fun γ d h => by
  unfold sFor at h
  split at h
  · exact nr_forF h1 _ _ _ h
  · cases h
  · cases h
end
end Py

namespace Py
open PySem PySem.Spec PyProof.Rows L2
/-- the promise of a def whose result is a new list -/
def spFr (K : PySem.W.Frag) (M : Pm) (φ : List D → Option Rs) : Sp := fun vs H Q E => ∃ (G : Hp) (ds : List D) (r : Rs), Same G H ∧ RA K M G vs ds ∧ φ ds = some r ∧ PostE K M E .fr H G Q r
theorem fnFr_ok {P : Program} {w : World} {K : PySem.W.Frag} {mg : Str → Option Value} {base : Heap} {M : Pm} {x qual : Str} {st : Stmt} {f : Addr} {fd : FuncData} {N ps : List Str} {k : Nat} {g : Fs} (F : Fun K x qual st f fd) (S : FnScope N ps (defScope st)) (hnx : ∀ γ γ', g γ ≠ some (.nx γ'))
    (hb : ∀ (cdv : Value) (A : Around) (outer : List Env) (s : Shared) (H : Hp) (E : XK), CxF K (cxOf (L2.CX P w) P w K mg base N qual (defScope st) f cdv A outer s H E) E k → Takes (cxOf (L2.CX P w) P w K mg base N qual (defScope st) f cdv A outer s H E) (fun cls d _ H => E cls d H) →
      ∃ t, PSs (cxOf (L2.CX P w) P w K mg base N qual (defScope st) f cdv A outer s H E) (defBody st) t ∧ SOF K M E t g) : FnOk P w K mg base (L2.CX P w) (k + 1) f fd ps (spFr K M (runF ps.length N.length g)) := by
  have len : ∀ vs H Q E, spFr K M (runF ps.length N.length g) vs H Q E → vs.length = ps.length := by
    rintro vs H Q E ⟨G, ds, r, _, ra, e, _⟩
    unfold runF at e
    split at e
    · rename_i hl
      rw [ra.len]; exact hl
    · cases e
  refine F.okX S len fun cdv A outer s H vs Q E hr h => ?_
  obtain ⟨C, tk⟩ := cxf_of (P := P) (w := w) (K := K) (mg := mg) (base := base) (qual := qual) (s := s) (H := H) (E := E) (outer := outer) S hr
  obtain ⟨t, Jp, Jo⟩ := hb cdv A outer s H E C tk
  refine ⟨t, Jp, ?_⟩
  obtain ⟨G, ds, r, e, ra, er, p⟩ := h
  unfold runF at er
  split at er
  · split at er
    · rename_i γ1 ef
      exact absurd ef (hnx _ _)
    · rename_i d ef
      cases er
      exact Jo H G _ _ H G _ _ (env_entry e ra) ef fun v H' G' s r => p v H' G' s r
    · rename_i c ef
      cases er
      exact Jo H G _ _ H G _ _ (env_entry e ra) ef fun H' G' s => p H' G' s
    · cases er
  · cases er
end Py

/-! PyU3: bodies whose result is a new list; calls of them -/
namespace Py
open PySem PySem.Spec PyProof.Rows L2
structure JSF (K : PySem.W.Frag) (X : Cx) (M : Pm) (E : XK) (st : Stmt) (t : TS) (f : Fs) : Prop where
  ps : PS X st t
  so : SOF K M E t f
structure JBF (K : PySem.W.Frag) (X : Cx) (M : Pm) (E : XK) (st : List Stmt) (t : TS) (f : Fs) : Prop where
  ps : PSs X st t
  so : SOF K M E t f
section
variable {K : PySem.W.Frag} {X : Cx} {M : Pm} {E : XK} {k : Nat} {a c : Expr} {ta : TE} {fa : Fe} {t u : TS} {f g : Fs} {pos : Pos} {st : Stmt} {rest : List Stmt}
theorem uf_seqF (h1 : SOF K M E t f) (h2 : SOF K M E u g) : SOF K M E (tSeq t u) (fSeq f g) := fun H0 G0 γ σ H G De o ev hf p => by
  unfold fSeq at hf
  split at hf
  · rename_i γ1 e1
    exact h1 H0 G0 γ σ H G { De with nx := u De } _ ev e1 fun σ' H' G' ev' => h2 H0 G0 γ1 σ' H' G' De o ev' hf p
  · rename_i hn
    refine h1 H0 G0 γ σ H G { De with nx := u De } o ev hf ?_
    cases o with
    | nx γ1 => exact absurd hf (hn γ1)
    | _ => exact p
theorem jbf_nil : JBF K X M E [] tNext fNext := ⟨pss_nil, uf_lift so_next nr_next⟩
theorem jbf_one (h : JSF K X M E st t f) : JBF K X M E [st] t f := ⟨pss_one h.ps, h.so⟩
theorem jbf_cons (h1 : JSF K X M E st t f) (h2 : JBF K X M E rest u g) : JBF K X M E (st :: rest) (tSeq t u) (fSeq f g) := ⟨pss_cons h1.ps h2.ps, uf_seqF h1.so h2.so⟩
theorem jsf_lift (h : JS K X M E st t f) (n : NoRt f) : JSF K X M E st t f := ⟨h.ps, uf_lift h.so n⟩
theorem jsf_if {tt : TT} {ft : Ft} {as bs : List Stmt} (hc : JT K X M E c tt ft) (ha : JBF K X M E as t f) (hb : JBF K X M E bs u g) : JSF K X M E (.If c as bs pos) (tIfS tt t u) (sIf ft f g) := ⟨ps_if hc.pt ha.ps hb.ps, fun H0 G0 γ σ H G De o ev hf p => by
  unfold sIf at hf
  split at hf
  · rename_i e1
    refine hc.to H0 G0 γ σ H G _ _ ev e1 fun H' G' s => ?_
    rw [if_pos rfl]
    exact ha.so H0 G0 γ σ H' G' De o (ev.stp s) hf p
  · rename_i e1
    refine hc.to H0 G0 γ σ H G _ _ ev e1 fun H' G' s => ?_
    rw [if_neg Bool.false_ne_true]
    exact hb.so H0 G0 γ σ H' G' De o (ev.stp s) hf p
  · rename_i e1
    cases hf
    exact hc.to H0 G0 γ σ H G _ _ ev e1 fun H' G' s => p H' G' (ev.st.trans s)
  · cases hf⟩
theorem jsf_retO {i : Nat} {x : Str} {p0 : Pos} (h : JE K X M E .op (.Name x p0) (tVar i) (fOpd i)) : JSF K X M E (.Return (some (.Name x p0)) pos) (tRet (tVar i)) (sRet (fOwn i)) := ⟨ps_ret h.pe, uf_retO⟩
theorem jsf_retF (ha : JE K X M E .fr a ta fa) : JSF K X M E (.Return (some a) pos) (tRet ta) (sRet fa) := ⟨ps_ret ha.pe, uf_retF ha.eo⟩
theorem fOwn_opd {i : Nat} {γ : Ge} {r : Rs} (h : fOwn i γ = some r) : fOpd i γ = some r := by
  unfold fOwn at h
  unfold fOpd
  split at h
  · rename_i ds e
    rw [e]
    exact h
  · cases h
/-- return of an own list, as a frozen one -/
theorem js_retVO {i : Nat} {x : Str} {p0 : Pos} (h : JE K X M E .op (.Name x p0) (tVar i) (fOpd i)) : JS K X M E (.Return (some (.Name x p0)) pos) (tRet (tVar i)) (sRet (fOwn i)) := ⟨ps_ret h.pe, fun H0 G0 γ σ H G De o ev hf p => (js_retV (pos := pos) h).so H0 G0 γ σ H G De o ev (by
  unfold sRet at hf ⊢
  split at hf
  · rename_i d e; rw [fOwn_opd e]; exact hf
  · rename_i d e; rw [fOwn_opd e]; exact hf
  · cases hf) p⟩
/-- the call of a def whose result is a new list -/
theorem je_callF {φ : List D → Option Rs} {j : Nat} {f : Addr} {fd : FuncData} {ps : List Str} {x : Str} {p : Pos} {es : List Expr} {t : TA} {fr : Fa} (C : CxF K X E k)
    (F : FnOk X.prog X.w X.K X.mg X.base (L2.CX X.prog X.w) j f fd ps (spFr K M φ)) (hj : j ≤ k) (hb : Binds X.K fd ps []) (hm : X.mg x = some (.ref f)) (hk : PySem.W.keepIn X.K (.ref f) = true) (hg : Gl X x) (ha : JC K X M E (a :: es) t fr)
    (hdb : (x == ("__debug__" : Str)) = false := by decide) (he : starEach (a :: es) X.env = (false, eval a X.env) :: starEach es X.env := by rfl) (hpl : (backTo pos (starEach es X.env)).any (·.1) = false := by rfl) :
    JE K X M E .fr (.Call (.Name x p) (a :: es) [] pos) (tCallS (spFr K M φ) (fun _ => E) t) (fCall φ fr) := by
  have hK := C.hK
  subst hK
  refine ⟨pe_callS F (C.room.mono hj) hg hm hk hb (passesAt_of C.pas) ha.pa hdb he hpl, fun H0 G0 γ σ H G Q r ev hf p => ?_⟩
  unfold fCall at hf
  cases e1 : fr γ with
  | none => rw [e1] at hf; cases hf
  | some q1 =>
    rw [e1] at hf
    cases q1 with
    | er c => cases hf; exact ha.ac H0 G0 γ σ H G _ _ ev e1 p
    | ok ds =>
      refine ha.ac H0 G0 γ σ H G _ _ ev e1 fun vs H1 G1 s1 r1 => ⟨G1, ds, r, s1.sub, r1, hf, ?_⟩
      cases r with
      | ok d => exact fun v H' G' s' r' => p v H' G' (s1.trans s') (Res.up (m := .fr) r' s1.ex)
      | er c => exact fun H' G' s' => p H' G' (s1.trans s')
theorem nr_whF {c : Ft} (h1 : NoRt f) : ∀ (n : Nat) (γ : Ge) (d : D), whF c f n γ ≠ some (.rt d)
  | 0, γ, d, h => by cases h
  | n + 1, γ, d, h => by
    unfold whF at h
    split at h
    · split at h
      · exact nr_whF h1 n _ d h
      · exact nr_whF h1 n _ d h
      · cases h
      · rename_i e; exact h1 _ _ e
      · cases h
      · cases h
    · cases h
    · cases h
    · cases h
theorem nr_wh {c : Ft} (h1 : NoRt f) : NoRt (sWh c f) := fun γ d h => nr_whF h1 fuel γ d h
theorem nr_asg {g : D → Ge → Option Ge} : NoRt (sAsg fa g) := fun γ d h => by
  unfold sAsg at h
  split at h
  · split at h <;> cases h
  · cases h
  · cases h
/-- it always returns -/
def NoNx (f : Fs) : Prop := ∀ γ γ', f γ ≠ some (.nx γ')
theorem nn_ret : NoNx (sRet fa) := fun γ γ' h => by unfold sRet at h; split at h <;> cases h
theorem nn_seq (h2 : NoNx g) : NoNx (fSeq f g) := fun γ γ' h => by
  unfold fSeq at h
  split at h
  · exact h2 _ _ h
  · rename_i hn; exact hn _ h
end
end Py

/-! PyV: lists in a list: copied, and each made longer -/
namespace Py
open PySem PySem.Spec PyProof.Rows L2
/-- lists at addresses -/
inductive LsAt (H : Hp) : List Addr → List (List V) → Prop
  | nil : LsAt H [] []
  | cons {a : Addr} {as : List Addr} {c : List V} {cs : List (List V)} : H a = some (.lst c) → LsAt H as cs → LsAt H (a :: as) (c :: cs)
theorem LsAt.len {H : Hp} : ∀ {as : List Addr} {cs : List (List V)}, LsAt H as cs → as.length = cs.length
  | _, _, .nil => rfl
  | _, _, .cons _ t => congrArg (· + 1) (LsAt.len t)
theorem LsAt.get {H : Hp} : ∀ {as : List Addr} {cs : List (List V)} {i : Nat} {a : Addr}, LsAt H as cs → as[i]? = some a → ∃ c, cs[i]? = some c ∧ H a = some (.lst c)
  | _, _, _, _, .nil, e => by simp at e
  | _, _, 0, _, .cons h _, e => by simp at e; subst e; exact ⟨_, rfl, h⟩
  | _, _, i + 1, _, .cons _ t, e => by
    obtain ⟨v, h1, h2⟩ := LsAt.get (i := i) t (by simpa using e)
    exact ⟨v, by simpa using h1, h2⟩
theorem LsAt.snoc {H : Hp} {a : Addr} {c : List V} (h : H a = some (.lst c)) : ∀ {as : List Addr} {cs : List (List V)}, LsAt H as cs → LsAt H (as ++ [a]) (cs ++ [c])
  | _, _, .nil => .cons h .nil
  | _, _, .cons q t => .cons q (LsAt.snoc h t)
theorem LsAt.mono {H H' : Hp} : ∀ {as : List Addr} {cs : List (List V)}, (∀ a ∈ as, ∀ o, H a = some o → H' a = some o) → LsAt H as cs → LsAt H' as cs
  | _, _, _, .nil => .nil
  | _, _, h, .cons q t => .cons (h _ List.mem_cons_self _ q) (LsAt.mono (fun a m => h a (List.mem_cons_of_mem _ m)) t)
theorem LsAt.of_get {H : Hp} : ∀ {as : List Addr} {cs : List (List V)}, as.length = cs.length → (∀ (i : Nat) (a : Addr) (c : List V), as[i]? = some a → cs[i]? = some c → H a = some (.lst c)) → LsAt H as cs
  | [], [], _, _ => .nil
  | a :: as, c :: cs, hl, h => .cons (h 0 a c rfl rfl) (LsAt.of_get (by simpa using hl) fun i a c q r => h (i + 1) a c (by simpa using q) (by simpa using r))
  | [], _ :: _, hl, _ => by cases hl
  | _ :: _, [], hl, _ => by cases hl
section
variable {K : PySem.W.Frag}
theorem copy_lists {i j : Nat} {σ : L2.St} {H : Hp} {Q : VK} {T : Addr} {refs : List Addr} {cs : List (List V)} (hij : i ≠ j) (hj : j < σ.length) (hi : σ[i]? = some (some (.ref T))) (hT : H T = some (.lst (refs.map V.ref))) (L : LsAt H refs cs) (hz : refs.length < sizeLine)
    (p : ∀ (D : Addr) (ks : List Addr) (H' : Hp), Same H H' → H D = none → (∀ a ∈ ks, H a = none) → H' D = some (.lst (ks.map V.ref)) → LsAt H' ks cs → Q (.ref D) H') :
    tLc (iList K (tVar i)) (gName j) tYes (tCB (rListA K) (tCons (tVar j) tNil)) [j] σ H Q := by
  refine ⟨.ref T, hi, T, rfl, ⟨_, .of hT⟩, fun D hD => ?_⟩
  refine ⟨fun q m H' => m = refs.length - q ∧ q ≤ refs.length ∧ Same H H' ∧ ∃ ks : List Addr, ks.length = q ∧ (∀ a ∈ ks, H a = none ∧ a ≠ D) ∧ H' D = some (.lst (ks.map V.ref)) ∧ LsAt H' ks (cs.take q),
    ⟨refs.length, by simp, Nat.zero_le _, same_new hD, [], rfl, (fun a ha => by cases ha), upd_same, by rw [List.take_zero]; exact .nil⟩, ?_⟩
  rintro q m H2 ⟨rfl, hq, sm, ks, lk, nk, hk, lsk⟩
  have hT2 : SqL K H2 T (refs.map V.ref) := .of (sm _ _ hT)
  by_cases hlt : q < refs.length
  · refine .inr ⟨⟨_, (refs.map V.ref)[q]'(by rw [List.length_map]; exact hlt), hT2, List.getElem?_eq_getElem (by rw [List.length_map]; exact hlt)⟩, fun H' => q + 1 ≤ refs.length ∧ Same H H' ∧ ∃ ks : List Addr, ks.length = q + 1 ∧ (∀ a ∈ ks, H a = none ∧ a ≠ D) ∧ H' D = some (.lst (ks.map V.ref)) ∧ LsAt H' ks (cs.take (q + 1)),
      fun H' ⟨h1, h2⟩ => ⟨refs.length - (q + 1), by omega, rfl, h1, h2⟩, fun x H3 hy => ?_⟩
    obtain ⟨e3, hy⟩ := hy
    subst e3
    have hx := hy _ hT2
    rw [List.getElem?_map, List.getElem?_eq_getElem hlt] at hx
    cases hx
    obtain ⟨c, hc, ha⟩ := L.get (List.getElem?_eq_getElem hlt)
    have ha3 := sm _ _ ha
    refine ⟨by rw [wipe_set (by simp)]; exact wipe_wipe σ [j], ?_⟩
    show tYes _ _ _
    unfold tYes
    dsimp only
    rw [if_pos rfl]
    refine ⟨.ref refs[q], by rw [List.getElem?_set_self (by unfold wipe; simp [L2.wipe]; exact hj)], ?_⟩
    refine ⟨refs[q], c, rfl, .inl (.of ha3), fun l hl => ?_⟩
    have lD : l ≠ D := fun e => by rw [e, hk] at hl; cases hl
    have hl0 : H l = none := by
      cases e : H l with
      | none => rfl
      | some o => have := sm _ _ e; rw [hl] at this; cases this
    refine ⟨ks.map V.ref, by rw [upd_ne (Ne.symm lD)]; exact hk, by rw [List.length_map, lk]; omega, hlt, ?_, ks ++ [l], by rw [List.length_append, lk]; rfl, fun a ha => ?_, ?_, ?_⟩
    · exact fun b u e => by
        rw [upd_ne (ne_of_none e hD), upd_ne (ne_of_none e hl0)]
        exact sm b u e
    · rcases List.mem_append.mp ha with z | z
      · exact nk a z
      · simp at z; subst z; exact ⟨hl0, lD⟩
    · rw [upd_same, List.map_append]; rfl
    · have e : cs.take (q + 1) = cs.take q ++ [c] := by
        have hql : q < cs.length := (List.getElem?_eq_some_iff.mp hc).1
        rw [List.take_succ_eq_append_getElem hql]
        have := (List.getElem?_eq_some_iff.mp hc).2
        rw [this]
      rw [e]
      refine LsAt.snoc (by rw [upd_ne lD, upd_same]) (lsk.mono fun a ha o e => ?_)
      have : a ≠ l := fun z => by rw [z] at e; rw [hl] at e; cases e
      rw [upd_ne (nk a ha).2, upd_ne this]
      exact e
  · have ei : q = refs.length := by omega
    refine .inl ⟨⟨_, hT2, by rw [List.length_map]; omega⟩, p D ks H2 sm hD (fun a ha => (nk a ha).1) hk ?_⟩
    have : cs.take q = cs := List.take_of_length_le (by rw [← L.len]; omega)
    rw [this] at lsk
    exact lsk
/-- each made longer by one text -/
def longer (m : Str) (q : Nat) (cs : List (List V)) : List (List V) := (cs.take q).map (· ++ [V.str m]) ++ cs.drop q
theorem longer_get {m : Str} {q : Nat} {cs : List (List V)} {i : Nat} {c : List V} (h : cs[i]? = some c) : (longer m q cs)[i]? = some (if i < q then c ++ [V.str m] else c) := by
  unfold longer
  have hi : i < cs.length := (List.getElem?_eq_some_iff.mp h).1
  by_cases hq : i < q
  · rw [if_pos hq, List.getElem?_append_left (by simp; omega), List.getElem?_map, List.getElem?_take, if_pos hq, h]
    rfl
  · rw [if_neg hq, List.getElem?_append_right (by simp; omega), List.getElem?_drop]
    simp only [List.length_map, List.length_take]
    rw [Nat.min_eq_left (by omega), show q + (i - q) = i by omega]
    exact h
theorem longer_len {m : Str} {q : Nat} {cs : List (List V)} : (longer m q cs).length = cs.length := by unfold longer; simp; omega
theorem append_all {i j : Nat} {σ : L2.St} {H : Hp} {De : Ends} {T : Addr} {refs : List Addr} {cs : List (List V)} {m : Str} (hij : i ≠ j) (hj : j < σ.length) (hi : σ[i]? = some (some (.ref T))) (hT : H T = some (.lst (refs.map V.ref))) (nT : T ∉ refs) (nd : refs.Nodup) (L : LsAt H refs cs) (hz : ∀ c ∈ cs, c.length < sizeLine)
    (p : ∀ (σ' : L2.St) (H' : Hp), σ'.length = σ.length → (∀ k, k ≠ j → σ'[k]? = σ[k]?) → (∀ b, b ∉ refs → H' b = H b) → LsAt H' refs (cs.map (· ++ [V.str m])) → De.nx σ' H') :
    tFor (iList K (tVar i)) (gName j) (tDrop (tBM K "list" rAppend (tVar j) (tCons (tC (.str m)) tNil))) De σ H := by
  refine ⟨.ref T, hi, T, rfl, ⟨_, .of hT⟩, ?_⟩
  refine ⟨fun q mm σ' H' => mm = refs.length - q ∧ q ≤ refs.length ∧ σ'.length = σ.length ∧ (∀ k, k ≠ j → σ'[k]? = σ[k]?) ∧ (∀ b, b ∉ refs → H' b = H b) ∧ LsAt H' refs (longer m q cs),
    ⟨refs.length, by simp, Nat.zero_le _, rfl, fun _ _ => rfl, fun _ _ => rfl, by unfold longer; simpa using L⟩, ?_⟩
  rintro q mm σ2 H2 ⟨rfl, hq, l2, s2, b2, L2'⟩
  have hT2 : SqL K H2 T (refs.map V.ref) := .of (by rw [b2 T nT]; exact hT)
  by_cases hlt : q < refs.length
  · refine .inr ⟨⟨_, (refs.map V.ref)[q]'(by rw [List.length_map]; exact hlt), hT2, List.getElem?_eq_getElem (by rw [List.length_map]; exact hlt)⟩, fun σ' H' => q + 1 ≤ refs.length ∧ σ'.length = σ.length ∧ (∀ k, k ≠ j → σ'[k]? = σ[k]?) ∧ (∀ b, b ∉ refs → H' b = H b) ∧ LsAt H' refs (longer m (q + 1) cs),
      fun σ' H' h => ⟨refs.length - (q + 1), by omega, rfl, h⟩, fun x H3 hy => ?_⟩
    obtain ⟨e3, hy⟩ := hy
    subst e3
    have hx := hy _ hT2
    rw [List.getElem?_map, List.getElem?_eq_getElem hlt] at hx
    cases hx
    have hqr : refs[q]? = some refs[q] := List.getElem?_eq_getElem hlt
    obtain ⟨c, hc, ha⟩ := L2'.get hqr
    obtain ⟨c0, hc0, _⟩ := L.get hqr
    have hcc := longer_get (m := m) (q := q) hc0
    rw [if_neg (Nat.lt_irrefl q)] at hcc
    rw [hc] at hcc
    cases hcc
    have hjl : (σ2.set j (some (V.ref refs[q])))[j]? = some (some (V.ref refs[q])) := by rw [List.getElem?_set_self (by rw [l2]; exact hj)]
    refine ⟨.ref refs[q], hjl, (show tyV K "list" (V.ref refs[q]) H3 from Or.inl ⟨rfl, c, .of ha⟩), ?_⟩
    refine ⟨refs[q], c, .str m, rfl, rfl, ha, hz c (List.mem_of_getElem? hc0), hlt, by rw [List.length_set]; exact l2, fun k hk => by rw [List.getElem?_set_ne (Ne.symm hk)]; exact s2 k hk, fun b hb => ?_, ?_⟩
    · have : b ≠ refs[q] := fun e => hb (e ▸ List.getElem_mem hlt)
      rw [upd_ne this]
      exact b2 b hb
    · refine LsAt.of_get (by rw [longer_len]; exact L.len) fun n a c hn hcn => ?_
      obtain ⟨cn, hcn0, _⟩ := L.get hn
      obtain ⟨cn2, hcn2, han⟩ := L2'.get hn
      have e1 := longer_get (m := m) (q := q + 1) hcn0
      have e2 := longer_get (m := m) (q := q) hcn0
      rw [hcn] at e1
      rw [hcn2] at e2
      by_cases hnq : n = q
      · subst hnq
        rw [hqr] at hn
        cases hn
        rw [hc0] at hcn0
        cases hcn0
        rw [if_pos (Nat.lt_succ_self _)] at e1
        cases e1
        exact upd_same
      · have hna : a ≠ refs[q] := fun e => hnq (by
          have h1 : n < refs.length := (List.getElem?_eq_some_iff.mp hn).1
          have h2 := (List.getElem?_eq_some_iff.mp hn).2
          exact (List.getElem_inj nd).mp (h2.trans e))
        rw [upd_ne hna]
        by_cases hlt2 : n < q
        · rw [if_pos (by omega)] at e1
          rw [if_pos hlt2] at e2
          cases e1; cases e2
          exact han
        · rw [if_neg (by omega)] at e1
          rw [if_neg hlt2] at e2
          cases e1; cases e2
          exact han
  · have ei : q = refs.length := by omega
    refine .inl ⟨⟨_, hT2, by rw [List.length_map]; omega⟩, p σ2 H2 l2 s2 b2 ?_⟩
    have e : longer m q cs = cs.map (· ++ [V.str m]) := by
      unfold longer
      rw [List.take_of_length_le (by rw [← L.len]; omega), List.drop_eq_nil_of_le (by rw [← L.len]; omega), List.append_nil]
    rw [e] at L2'
    exact L2'
/-! data without lists -/
mutual
def nol : D → Bool
  | .list _ => false
  | .tuple ds => nols ds
  | .dict _ => false
  | _ => true
def nols : List D → Bool
  | [] => true
  | d :: ds => nol d && nols ds
end
variable {M : Pm} {G G' : Hp}
theorem tup_keep {a : Addr} {xs : List V} (e : ∀ p o, G p = some o → (∀ ys, o ≠ .lst ys) → G' p = some o) (h : SqT K G a xs) : SqT K G' a xs := by
  rcases h with (h | ⟨o, h⟩) | h
  · exact .inl (.inl (e _ _ h fun _ z => by cases z))
  · exact .inl (.inr ⟨o, e _ _ h fun _ z => by cases z⟩)
  · exact .inr h
mutual
theorem R.keep (e : ∀ p o, G p = some o → (∀ ys, o ≠ .lst ys) → G' p = some o) : ∀ {v : V} {d : D}, R K M G v d → nol d = true → R K M G' v d
  | _, _, .non, _ => .non
  | _, _, .bl b, _ => .bl b
  | _, _, .int i, _ => .int i
  | _, _, .str x, _ => .str x
  | _, _, .lst h r, n => by simp only [nol] at n; cases n
  | _, _, .tup h r, n => .tup (tup_keep e h) (RA.keep e r (by simpa only [nol] using n))
  | _, _, .ins h c m r, n => by simp only [nol] at n; cases n
  | _, _, .edict h, n => by simp only [nol] at n; cases n
theorem RA.keep (e : ∀ p o, G p = some o → (∀ ys, o ≠ .lst ys) → G' p = some o) : ∀ {vs : List V} {ds : List D}, RA K M G vs ds → nols ds = true → RA K M G' vs ds
  | _, _, .nil, _ => .nil
  | _, _, .cons r t, n => by
    simp only [nols, Bool.and_eq_true] at n
    exact .cons (R.keep e r n.1) (RA.keep e t n.2)
end
theorem nol_enc : ∀ s : Sta, nol (enc s) = true
  | .mark m => by simp [enc, nol, nols]
  | .yes => by simp [enc, nol, nols]
  | .nt s => by simp [enc, nol, nols, nol_enc s]
  | .an s t => by simp [enc, nol, nols, nol_enc s, nol_enc t]
  | .or s t => by simp [enc, nol, nols, nol_enc s, nol_enc t]
  | .nx s => by simp [enc, nol, nols, nol_enc s]
  | .un s t => by simp [enc, nol, nols, nol_enc s, nol_enc t]
  | .wi k s => by simp [enc, nol, nols, nol_enc s]
  | .bf s => by simp [enc, nol, nols, nol_enc s]
  | .si s t => by simp [enc, nol, nols, nol_enc s, nol_enc t]
theorem nols_enc : ∀ l : List Sta, nols (l.map enc) = true
  | [] => rfl
  | s :: l => by simp [nols, nol_enc s, nols_enc l]
theorem nols_str : ∀ l : List Str, nols (l.map PyData.str) = true
  | [] => rfl
  | s :: l => by simp [nols, nol, nols_str l]
end
end Py

/-! PyW: the law of k03: what is told is told in new lists -/
namespace Py
open PySem PySem.Spec PyProof.Rows L2
def tKept (K : PySem.W.Frag) : TS := tAsg (tLc (iList K (tVar 3)) (gName 5) tYes (tCB (rListA K) (tCons (tVar 5) tNil)) [5]) (gName 4)
def tMore (K : PySem.W.Frag) : TS := tFor (iList K (tVar 3)) (gName 5) (tDrop (tBM K "list" rAppend (tVar 5) (tCons (tC (.str "more")) tNil)))
/-- the law's body in its parts -/
structure J3 (K : PySem.W.Frag) (X : Cx) (M : Pm) (E : XK) (body : List Stmt) (t0 t1 b3 b4 b5 tz : TS) (tW tP tM : TE) (t3 t4 t5 : TT) (f0 f1 fz : Fs) (fW fP fM : Fe) (f3 f4 f5 : Ft) : Prop where
  ps : PSs X body (tSeq t0 (tSeq t1 (tSeq (tAsg (tLst (tCons tW (tCons tP (tCons tM tNil)))) (gName 3)) (tSeq (tIfS t3 b3 tNext) (tSeq (tIfS t4 b4 tNext) (tSeq (tIfS t5 b5 tNext) (tSeq (tKept K) (tSeq (tMore K) tz))))))))
  o0 : SO K M E t0 f0
  o1 : SO K M E t1 f1
  oW : EO K M E .fr tW fW
  oP : EO K M E .fr tP fP
  oM : EO K M E .fr tM fM
  o3 : TO' K M E t3 f3
  o4 : TO' K M E t4 f4
  o5 : TO' K M E t5 f5
  oz : SO K M E tz fz
section
variable {K : PySem.W.Frag} {X : Cx} {M : Pm} {E : XK} {k : Nat}
theorem j3_of {s0 s1 s6 s7 : Stmt} {x : Str} {p0 p1 p2 p3 p4 p5 : Pos} {eW eP eM c3 c4 c5 : Expr} {a3 a4 a5 sz : List Stmt} {t0 t1 b3 b4 b5 tz : TS} {tW tP tM : TE} {t3 t4 t5 : TT} {f0 f1 fz g3 g4 g5 f6 : Fs} {fW fP fM : Fe} {f3 f4 f5 : Ft} (hN : X.N.Nodup)
    (h0 : JS K X M E s0 t0 f0) (h1 : JS K X M E s1 t1 f1) (hW : JE K X M E .fr eW tW fW) (hP : JE K X M E .fr eP tP fP) (hM : JE K X M E .fr eM tM fM) (h3 : JT K X M E c3 t3 f3) (h3b : JB K X M E a3 b3 g3) (h4 : JT K X M E c4 t4 f4) (h4b : JB K X M E a4 b4 g4) (h5 : JT K X M E c5 t5 f5) (h5b : JB K X M E a5 b5 g5)
    (h6 : JS K X M E s6 (tKept K) f6) (h7 : PS X s7 (tMore K)) (hz : JB K X M E sz tz fz)
    (hi : X.N[3]? = some x := by rfl) (hx : Loc X.env.scope x := by first | exact Or.inl rfl | exact Or.inr rfl) (hs : swapsWith (.List [eW, eP, eM] p1) (some (.Name x p0)) p2.line X.env = pure false := by rfl) (hf : X.fn x = true ∨ X.env.scope.names.lookup x = some .local := by first | exact .inl rfl | exact .inr rfl)
    (he : starEach [eW, eP, eM] X.env = (false, eval eW X.env) :: starEach [eP, eM] X.env := by rfl) (he2 : starEach [eP, eM] X.env = (false, eval eP X.env) :: starEach [eM] X.env := by rfl) (he3 : starEach [eM] X.env = (false, eval eM X.env) :: starEach [] X.env := by rfl) :
    J3 K X M E (s0 :: s1 :: .Assign [.Name x p0] (.List [eW, eP, eM] p1) p2 :: .If c3 a3 [] p3 :: .If c4 a4 [] p4 :: .If c5 a5 [] p5 :: s6 :: s7 :: sz) t0 t1 b3 b4 b5 tz tW tP tM t3 t4 t5 f0 f1 fz fW fP fM f3 f4 f5 :=
  ⟨pss_cons h0.ps (pss_cons h1.ps (pss_cons (ps_set hN hi hx (pe_lst (pa_cons hW.pe (pa_cons hP.pe (pa_cons hM.pe pa_nil he3) he2) he)) hs hf) (pss_cons (ps_if h3.pt h3b.ps pss_nil) (pss_cons (ps_if h4.pt h4b.ps pss_nil) (pss_cons (ps_if h5.pt h5b.ps pss_nil) (pss_cons h6.ps (pss_cons h7 hz.ps))))))),
    h0.so, h1.so, hW.eo, hP.eo, hM.eo, h3.to, h4.to, h5.to, hz.so⟩
/-- for one in told: one.append('more') -/
theorem ps_more {x y : Str} {p0 p1 p2 p3 p4 p5 p6 p7 : Pos} {k1 : Nat} (C : CxF K X E k) (ho : ∀ p : Pos, PE X (.Name x p) (tVar 3)) (hj : X.N[5]? = some y) (hx : Loc X.env.scope y) (hf : X.fn y = true ∨ X.env.scope.names.lookup y = some .local)
    (hfo : ∀ z, foldedSetIterable (.Name x p1) X.env z = pure z) (he : PE X (.Call (.Attribute (.Name y p3) "append" p4) [.Constant (.str "more") k1 p5] [] p2) (tBM K "list" rAppend (tVar 5) (tCons (tC (.str "more")) tNil)))
    (hsw : swapsWith (.Call (.Attribute (.Name y p3) "append" p4) [.Constant (.str "more") k1 p5] [] p2) none p6.line X.env = pure false) :
    PS X (.For (.Name y p0) (.Name x p1) [.Expr (.Call (.Attribute (.Name y p3) "append" p4) [.Constant (.str "more") k1 p5] [] p2) p6] [] p7) (tMore K) := by
  have hK := C.hK
  subst hK
  exact ps_for C.own C.calm (pi_list (ho p1)) (pg_name C.nd hj hx hf) (pss_one (ps_expr he hsw)) hfo
theorem sem3 {body : List Stmt} {t0 t1 b3 b4 b5 tz : TS} {tW tP tM : TE} {t3 t4 t5 : TT} {f0 f1 fz : Fs} {fW fP fM : Fe} {f3 f4 f5 : Ft} (J : J3 K X M E body t0 t1 b3 b4 b5 tz tW tP tM t3 t4 t5 f0 f1 fz fW fP fM f3 f4 f5)
    {γ0 γ1 : Ge} {ns nm : D} {S : Sta} {W P : List Sta} {Ms : List Str} (e0 : f0 γ0 = some (.nx γ1)) (e1 : f1 γ1 = some (.nx [.va ns, .va nm, .va (enc S), .no, .no, .no, .no, .no]))
    (eW : fW [.va ns, .va nm, .va (enc S), .no, .no, .no, .no, .no] = some (.ok (.list (W.map enc)))) (eP : fP [.va ns, .va nm, .va (enc S), .no, .no, .no, .no, .no] = some (.ok (.list (P.map enc)))) (eM : fM [.va ns, .va nm, .va (enc S), .no, .no, .no, .no, .no] = some (.ok (.list (Ms.map .str))))
    (e3 : f3 [.va ns, .va nm, .va (enc S), .va (.list [.list (W.map enc), .list (P.map enc), .list (Ms.map .str)]), .no, .no, .no, .no] = some (.ok false)) (e4 : f4 [.va ns, .va nm, .va (enc S), .va (.list [.list (W.map enc), .list (P.map enc), .list (Ms.map .str)]), .no, .no, .no, .no] = some (.ok false)) (e5 : f5 [.va ns, .va nm, .va (enc S), .va (.list [.list (W.map enc), .list (P.map enc), .list (Ms.map .str)]), .no, .no, .no, .no] = some (.ok false))
    (zW : W.length ≤ big) (zP : P.length ≤ big) (zM : Ms.length ≤ big)
    (ez : fz [.no, .no, .va (enc S), .va (.list [.list (W.map enc ++ [.str "more"]), .list (P.map enc ++ [.str "more"]), .list (Ms.map PyData.str ++ [.str "more"])]), .va (.list [.list (W.map enc), .list (P.map enc), .list (Ms.map .str)]), .no, .no, .no] = some (.rt (.bool true)))
    {H0 G0 H G : Hp} {σ : L2.St} {De : Ends} (ev : EnvR K M H0 G0 γ0 σ H G) (q : ∀ H, De.rt (.bl true) H) :
    tSeq t0 (tSeq t1 (tSeq (tAsg (tLst (tCons tW (tCons tP (tCons tM tNil)))) (gName 3)) (tSeq (tIfS t3 b3 tNext) (tSeq (tIfS t4 b4 tNext) (tSeq (tIfS t5 b5 tNext) (tSeq (tKept K) (tSeq (tMore K) tz))))))) De σ H := by
  refine J.o0 H0 G0 γ0 σ H G { De with nx := _ } (.nx γ1) ev e0 fun σ1 H1 G1 ev1 => ?_
  refine J.o1 H0 G0 γ1 σ1 H1 G1 { De with nx := _ } _ ev1 e1 fun σ2 H2 G2 ev2 => ?_
  -- the three lists
  refine J.oW H0 G0 _ σ2 H2 G2 _ _ ev2 eW fun vW H3 G3 s3 rW => ?_
  obtain ⟨a, xa, rfl, ha0, ga, ha, raW⟩ := rW
  have ev3 := ev2.stp s3
  refine J.oP H0 G0 _ σ2 H3 G3 _ _ ev3 eP fun vP H4 G4 s4 rP => ?_
  obtain ⟨b, xb, rfl, hb0, gb, hb, raP⟩ := rP
  have ev4 := ev3.stp s4
  refine J.oM H0 G0 _ σ2 H4 G4 _ _ ev4 eM fun vM H5 G5 s5 rM => ?_
  obtain ⟨c, xc, rfl, hc0, gc, hc, raM⟩ := rM
  refine ⟨by simp [sizeLine_eq], fun T hT => ?_⟩
  have ha4 := s4.ex _ _ ha
  have ha5 := s5.ex _ _ ha4
  have hb5 := s5.ex _ _ hb
  have nab : a ≠ b := fun e => by rw [e, hb0] at ha; cases ha
  have nac : a ≠ c := fun e => by rw [e, hc0] at ha4; cases ha4
  have nbc : b ≠ c := fun e => by rw [e, hc0] at hb; cases hb
  have naT : a ≠ T := fun e => by rw [e, hT] at ha5; cases ha5
  have nbT : b ≠ T := fun e => by rw [e, hT] at hb5; cases hb5
  have ncT : c ≠ T := fun e => by rw [e, hT] at hc; cases hc
  have s25 := (s3.trans s4).trans s5
  have ga5 : G5 a = none := s5.nw _ _ ha4 (s4.nw _ _ ha ga)
  have gb5 : G5 b = none := s5.nw _ _ hb gb
  have gT5 : G5 T = none := s25.sub.free hT
  -- all is frozen
  have sub5 : Same G5 H5 := s5.sub
  have oT : (upd H5 T (.lst [.ref a, .ref b, .ref c])) T = some (.lst [.ref a, .ref b, .ref c]) := upd_same
  generalize hH6 : upd H5 T (.lst [.ref a, .ref b, .ref c]) = H6
  have same56 : Same H5 H6 := by rw [← hH6]; exact same_new hT
  have hT6 : H6 T = some (.lst [.ref a, .ref b, .ref c]) := by rw [← hH6]; exact upd_same
  have ha6 := same56 _ _ ha5
  have hb6 := same56 _ _ hb5
  have hc6 := same56 _ _ hc
  let G6 : Hp := fun p => if p = a ∨ p = b ∨ p = c ∨ p = T then H6 p else G5 p
  have G6in : ∀ p, (p = a ∨ p = b ∨ p = c ∨ p = T) → G6 p = H6 p := fun p h => if_pos h
  have G6out : ∀ p, ¬ (p = a ∨ p = b ∨ p = c ∨ p = T) → G6 p = G5 p := fun p h => if_neg h
  have eg56 : Same G5 G6 := fun p u e => by
    by_cases h : p = a ∨ p = b ∨ p = c ∨ p = T
    · exfalso
      rcases h with rfl | rfl | rfl | rfl
      · rw [ga5] at e; cases e
      · rw [gb5] at e; cases e
      · rw [gc] at e; cases e
      · rw [gT5] at e; cases e
    · rw [G6out p h]; exact e
  have sub6 : Same G6 H6 := fun p u e => by
    by_cases h : p = a ∨ p = b ∨ p = c ∨ p = T
    · rw [G6in p h] at e; exact e
    · rw [G6out p h] at e; exact same56 _ _ (sub5 _ _ e)
  have nh : ∀ p u, H2 p = some u → ¬ (p = a ∨ p = b ∨ p = c ∨ p = T) := fun p u e h => by
    rcases h with rfl | rfl | rfl | rfl
    · rw [ha0] at e; cases e
    · have := s3.ex _ _ e; rw [hb0] at this; cases this
    · have := s4.ex _ _ (s3.ex _ _ e); rw [hc0] at this; cases this
    · have := s25.ex _ _ e; rw [hT] at this; cases this
  have st26 : Stp H2 G2 H6 G6 := ⟨s25.ex.trans same56, s25.eg.trans eg56, sub6, fun p u e n => by rw [G6out p (nh p u e)]; exact s25.nw p u e n⟩
  have r4 : R K M G6 (.ref T) (.list [.list (W.map enc), .list (P.map enc), .list (Ms.map .str)]) :=
    .lst (.of ((G6in T (by simp)).trans hT6)) (.cons (.lst (.of ((G6in a (by simp)).trans ha6)) (raW.mono ((s4.eg.trans s5.eg).trans eg56))) (.cons (.lst (.of ((G6in b (by simp)).trans hb6)) (raP.mono (s5.eg.trans eg56))) (.cons (.lst (.of ((G6in c (by simp)).trans hc6)) (raM.mono eg56)) .nil)))
  have ev6 := (ev2.stp st26).setv (i := 3) r4
  simp only [List.set_cons_succ, List.set_cons_zero] at ev6
  have lσ : σ2.length = 8 := ev2.len
  -- the three questions
  refine J.o3 H0 G0 _ _ H6 G6 _ _ ev6 e3 fun H7 G7 s7 => ?_
  rw [if_neg Bool.false_ne_true]
  refine J.o4 H0 G0 _ _ H7 G7 _ _ (ev6.stp s7) e4 fun H8 G8 s8 => ?_
  rw [if_neg Bool.false_ne_true]
  refine J.o5 H0 G0 _ _ H8 G8 _ _ ((ev6.stp s7).stp s8) e5 fun H9 G9 s9 => ?_
  rw [if_neg Bool.false_ne_true]
  have s69 := (s7.trans s8).trans s9
  have ev9 := ev6.stp s69
  obtain ⟨vS, hvS, rS⟩ := ev9.va (i := 2) rfl
  have hs3 : (σ2.set 3 (some (V.ref T)))[3]? = some (some (.ref T)) := by rw [List.getElem?_set_self (by omega)]
  have hT9 := s69.ex _ _ hT6
  have L9 : LsAt H9 [a, b, c] [xa, xb, xc] := .cons (s69.ex _ _ ha6) (.cons (s69.ex _ _ hb6) (.cons (s69.ex _ _ hc6) .nil))
  have eg9 := s69.eg
  have la := raW.len
  have lb := raP.len
  have lc := raM.len
  simp only [List.length_map] at la lb lc
  -- they are copied
  show tKept K { De with nx := tSeq (tMore K) tz De } (σ2.set 3 (some (V.ref T))) H9
  unfold tKept tAsg
  refine copy_lists (K := K) (i := 3) (j := 5) (refs := [a, b, c]) (cs := [xa, xb, xc]) (by decide) (by rw [List.length_set]; omega) hs3 hT9 L9 (by simp [sizeLine_eq]) fun D ks H10 sm hD nk hk lk => ?_
  -- they are made longer
  have lks := lk.len
  have nDT : D ≠ T := fun e => by rw [e] at hD; rw [hD] at hT9; cases hT9
  have hσ4 : ((σ2.set 3 (some (V.ref T))).set 4 (some (V.ref D)))[3]? = some (some (.ref T)) := by rw [List.getElem?_set_ne (by decide)]; exact hs3
  show tFor (iList K (tVar 3)) (gName 5) (tDrop (tBM K "list" rAppend (tVar 5) (tCons (tC (.str "more")) tNil))) { De with nx := tz De } ((σ2.set 3 (some (V.ref T))).set 4 (some (V.ref D))) H10
  refine append_all (K := K) (i := 3) (j := 5) (T := T) (refs := [a, b, c]) (cs := [xa, xb, xc]) (m := "more") (by decide) (by rw [List.length_set, List.length_set]; omega) hσ4 (sm _ _ hT9) (by simp; exact ⟨Ne.symm naT, Ne.symm nbT, Ne.symm ncT⟩) (by simp [nab, nac, nbc]) (L9.mono fun p _ o e => sm _ _ e) (fun z hz => by
    simp only [List.mem_cons, List.not_mem_nil, or_false] at hz
    have hbig : big < sizeLine := by decide
    rcases hz with rfl | rfl | rfl <;> omega) fun σ11 H11 l11 sl11 out11 L11 => ?_
  -- all that stands is frozen
  have keep : ∀ p o, G9 p = some o → (∀ ys, o ≠ .lst ys) → H11 p = some o := fun p o e n => by
    have h9 := s9.sub _ _ e
    have hp : p ∉ [a, b, c] := fun z => by
      simp only [List.mem_cons, List.not_mem_nil, or_false] at z
      rcases z with rfl | rfl | rfl
      · have := s69.ex _ _ ha6; rw [h9] at this; cases this; exact n _ rfl
      · have := s69.ex _ _ hb6; rw [h9] at this; cases this; exact n _ rfl
      · have := s69.ex _ _ hc6; rw [h9] at this; cases this; exact n _ rfl
    rw [out11 p hp]
    exact sm _ _ h9
  have g59 : Same G5 G9 := eg56.trans eg9
  have kW : RA K M H11 xa (W.map enc) := RA.keep keep (raW.mono ((s4.eg.trans s5.eg).trans g59)) (nols_enc W)
  have kP : RA K M H11 xb (P.map enc) := RA.keep keep (raP.mono (s5.eg.trans g59)) (nols_enc P)
  have kM : RA K M H11 xc (Ms.map .str) := RA.keep keep (raM.mono g59) (nols_str Ms)
  have kS : R K M H11 vS (enc S) := R.keep keep rS (nol_enc S)
  have hT11 : H11 T = some (.lst [.ref a, .ref b, .ref c]) := by
    rw [out11 T (by simp; exact ⟨Ne.symm naT, Ne.symm nbT, Ne.symm ncT⟩)]
    exact sm _ _ hT9
  have oks : ∀ k ∈ ks, k ∉ [a, b, c] := fun k hk z => by
    simp only [List.mem_cons, List.not_mem_nil, or_false] at z
    have := nk k hk
    rcases z with rfl | rfl | rfl
    · rw [s69.ex _ _ ha6] at this; cases this
    · rw [s69.ex _ _ hb6] at this; cases this
    · rw [s69.ex _ _ hc6] at this; cases this
  have hD11 : H11 D = some (.lst (ks.map V.ref)) := by
    rw [out11 D (by
      intro z
      simp only [List.mem_cons, List.not_mem_nil, or_false] at z
      rcases z with rfl | rfl | rfl
      · rw [s69.ex _ _ ha6] at hD; cases hD
      · rw [s69.ex _ _ hb6] at hD; cases hD
      · rw [s69.ex _ _ hc6] at hD; cases hD)]
    exact hk
  have kTold : R K M H11 (.ref T) (.list [.list (W.map enc ++ [.str "more"]), .list (P.map enc ++ [.str "more"]), .list (Ms.map PyData.str ++ [.str "more"])]) := by
    cases L11 with
    | cons q1 L11 =>
      cases L11 with
      | cons q2 L11 =>
        cases L11 with
        | cons q3 L11 =>
          exact .lst (.of hT11) (.cons (.lst (.of q1) (kW.app (.one (.str _)))) (.cons (.lst (.of q2) (kP.app (.one (.str _)))) (.cons (.lst (.of q3) (kM.app (.one (.str _)))) .nil)))
  have kKept : R K M H11 (.ref D) (.list [.list (W.map enc), .list (P.map enc), .list (Ms.map .str)]) := by
    have lk11 : LsAt H11 ks [xa, xb, xc] := lk.mono fun p hp o e => by rw [out11 p (oks p hp)]; exact e
    cases lk11 with
    | cons q1 lk11 =>
      cases lk11 with
      | cons q2 lk11 =>
        cases lk11 with
        | cons q3 lk11 =>
          cases lk11
          exact .lst (.of hD11) (.cons (.lst (.of q1) kW) (.cons (.lst (.of q2) kP) (.cons (.lst (.of q3) kM) .nil)))
  have l11' : σ11.length = 8 := by rw [l11, List.length_set, List.length_set]; exact lσ
  have g3 : σ11[3]? = some (some (.ref T)) := (sl11 3 (by decide)).trans hσ4
  have g4 : σ11[4]? = some (some (.ref D)) := by
    rw [sl11 4 (by decide), List.getElem?_set_self (by rw [List.length_set]; omega)]
  have g2 : σ11[2]? = some (some vS) := by
    rw [sl11 2 (by decide), List.getElem?_set_ne (by decide)]
    exact hvS
  refine J.oz H11 H11 [.no, .no, .va (enc S), .va (.list [.list (W.map enc ++ [.str "more"]), .list (P.map enc ++ [.str "more"]), .list (Ms.map PyData.str ++ [.str "more"])]), .va (.list [.list (W.map enc), .list (P.map enc), .list (Ms.map .str)]), .no, .no, .no] σ11 H11 H11 De (.rt (.bool true)) ⟨Stp.refl (Same.refl _), l11', fun i sl x h1 h2 => ?_, fun i j si sj xi xj o h1 h2 h3 h4 h5 h6 => ?_⟩ ez fun v H' G' _ r => ?_
  · match i, h1 with
    | 0, h1 => cases h1; trivial
    | 1, h1 => cases h1; trivial
    | 2, h1 => cases h1; rw [g2] at h2; cases h2; exact ⟨_, rfl, kS⟩
    | 3, h1 => cases h1; rw [g3] at h2; cases h2; exact ⟨_, rfl, kTold⟩
    | 4, h1 => cases h1; rw [g4] at h2; cases h2; exact ⟨_, rfl, kKept⟩
    | 5, h1 => cases h1; trivial
    | 6, h1 => cases h1; trivial
    | 7, h1 => cases h1; trivial
    | n + 8, h1 => simp at h1
  · exfalso
    match i, h1 with
    | 0, h1 => cases h1; exact h5
    | 1, h1 => cases h1; exact h5
    | 2, h1 => cases h1; exact h5
    | 3, h1 => cases h1; exact h5
    | 4, h1 => cases h1; exact h5
    | 5, h1 => cases h1; exact h5
    | 6, h1 => cases h1; exact h5
    | 7, h1 => cases h1; exact h5
    | n + 8, h1 => simp at h1
  · cases (show R K M G' v (.bool true) from r)
    exact q H'
end
end Py

namespace K03
open PySem PySem.Spec PyProof.Rows L2 Py
def topS (i : Nat) : Stmt := PySem.Challenge.pw_soonsaid_k03_what_it_hangs_on.main.body.getD i (.Pass ⟨0, 0, 0, 0⟩)
inductive Nm | parts_of | wished | wishes_in | pasts_in | marks_in | l_cell_at | l_names | l_all | l_wishes | l_fit | l_built | l_whole | l_once | l_pasts | l_marks | l_inner_first | l_draw | l_made
abbrev s_parts_of : Stmt := topS 2
abbrev N_parts_of : List Str := ["statement", "part"]
abbrev P_parts_of : List Str := ["statement"]
theorem sc_parts_of : FnScope N_parts_of P_parts_of (defScope s_parts_of) := ⟨rfl, rfl, rfl, by decide +kernel, rfl, by decide +kernel, by decide +kernel⟩
abbrev s_wished : Stmt := topS 3
abbrev N_wished : List Str := ["statement", "found", "part"]
abbrev P_wished : List Str := ["statement"]
theorem sc_wished : FnScope N_wished P_wished (defScope s_wished) := ⟨rfl, rfl, rfl, by decide +kernel, rfl, by decide +kernel, by decide +kernel⟩
abbrev s_wishes_in : Stmt := topS 4
abbrev N_wishes_in : List Str := ["statement", "found", "at", "other"]
abbrev P_wishes_in : List Str := ["statement"]
theorem sc_wishes_in : FnScope N_wishes_in P_wishes_in (defScope s_wishes_in) := ⟨rfl, rfl, rfl, by decide +kernel, rfl, by decide +kernel, by decide +kernel⟩
abbrev s_pasts_in : Stmt := topS 5
abbrev N_pasts_in : List Str := ["statement", "found", "part", "past"]
abbrev P_pasts_in : List Str := ["statement"]
theorem sc_pasts_in : FnScope N_pasts_in P_pasts_in (defScope s_pasts_in) := ⟨rfl, rfl, rfl, by decide +kernel, rfl, by decide +kernel, by decide +kernel⟩
abbrev s_marks_in : Stmt := topS 6
abbrev N_marks_in : List Str := ["statement", "found", "part"]
abbrev P_marks_in : List Str := ["statement"]
theorem sc_marks_in : FnScope N_marks_in P_marks_in (defScope s_marks_in) := ⟨rfl, rfl, rfl, by decide +kernel, rfl, by decide +kernel, by decide +kernel⟩
abbrev s_l_cell_at : Stmt := topS 10
abbrev N_l_cell_at : List Str := ["_law_script", "_law_k"]
abbrev P_l_cell_at : List Str := ["_law_script", "_law_k"]
theorem sc_l_cell_at : FnScope N_l_cell_at P_l_cell_at (defScope s_l_cell_at) := ⟨rfl, rfl, rfl, by decide +kernel, rfl, by decide +kernel, by decide +kernel⟩
abbrev s_l_names : Stmt := topS 12
abbrev N_l_names : List Str := ["_law_cell", "_law_letters", "_law_rest", "_law_size", "_law_at", "_law_found", "_law_k", "_law_letter", "_law_j"]
abbrev P_l_names : List Str := ["_law_cell"]
theorem sc_l_names : FnScope N_l_names P_l_names (defScope s_l_names) := ⟨rfl, rfl, rfl, by decide +kernel, rfl, by decide +kernel, by decide +kernel⟩
abbrev s_l_all : Stmt := topS 14
abbrev N_l_all : List Str := ["_law_statement", "_law_found", "_law_part"]
abbrev P_l_all : List Str := ["_law_statement"]
theorem sc_l_all : FnScope N_l_all P_l_all (defScope s_l_all) := ⟨rfl, rfl, rfl, by decide +kernel, rfl, by decide +kernel, by decide +kernel⟩
abbrev s_l_wishes : Stmt := topS 15
abbrev N_l_wishes : List Str := ["_law_statement", "_law_found", "_law_one", "_law_more", "_law_other", "_law_k"]
abbrev P_l_wishes : List Str := ["_law_statement"]
theorem sc_l_wishes : FnScope N_l_wishes P_l_wishes (defScope s_l_wishes) := ⟨rfl, rfl, rfl, by decide +kernel, rfl, by decide +kernel, by decide +kernel⟩
abbrev s_l_fit : Stmt := topS 16
abbrev N_l_fit : List Str := ["_law_statement", "_law_most"]
abbrev P_l_fit : List Str := ["_law_statement", "_law_most"]
theorem sc_l_fit : FnScope N_l_fit P_l_fit (defScope s_l_fit) := ⟨rfl, rfl, rfl, by decide +kernel, rfl, by decide +kernel, by decide +kernel⟩
abbrev s_l_built : Stmt := topS 17
abbrev N_l_built : List Str := ["_law_script", "_law_names_here", "_law_most", "_law_spot", "_law_deep"]
abbrev P_l_built : List Str := ["_law_script", "_law_names_here", "_law_most"]
theorem sc_l_built : FnScope N_l_built P_l_built (defScope s_l_built) := ⟨rfl, rfl, rfl, by decide +kernel, rfl, by decide +kernel, by decide +kernel⟩
abbrev s_l_whole : Stmt := topS 18
abbrev N_l_whole : List Str := ["_law_found"]
abbrev P_l_whole : List Str := ["_law_found"]
theorem sc_l_whole : FnScope N_l_whole P_l_whole (defScope s_l_whole) := ⟨rfl, rfl, rfl, by decide +kernel, rfl, by decide +kernel, by decide +kernel⟩
abbrev s_l_once : Stmt := topS 19
abbrev N_l_once : List Str := ["_law_found", "_law_due", "_law_k", "_law_one"]
abbrev P_l_once : List Str := ["_law_found", "_law_due"]
theorem sc_l_once : FnScope N_l_once P_l_once (defScope s_l_once) := ⟨rfl, rfl, rfl, by decide +kernel, rfl, by decide +kernel, by decide +kernel⟩
abbrev s_l_pasts : Stmt := topS 20
abbrev N_l_pasts : List Str := ["_law_statement", "_law_found", "_law_one"]
abbrev P_l_pasts : List Str := ["_law_statement"]
theorem sc_l_pasts : FnScope N_l_pasts P_l_pasts (defScope s_l_pasts) := ⟨rfl, rfl, rfl, by decide +kernel, rfl, by decide +kernel, by decide +kernel⟩
abbrev s_l_marks : Stmt := topS 21
abbrev N_l_marks : List Str := ["_law_statement", "_law_found", "_law_one"]
abbrev P_l_marks : List Str := ["_law_statement"]
theorem sc_l_marks : FnScope N_l_marks P_l_marks (defScope s_l_marks) := ⟨rfl, rfl, rfl, by decide +kernel, rfl, by decide +kernel, by decide +kernel⟩
abbrev s_l_inner_first : Stmt := topS 22
abbrev N_l_inner_first : List Str := ["_law_found", "_law_k", "_law_one"]
abbrev P_l_inner_first : List Str := ["_law_found"]
theorem sc_l_inner_first : FnScope N_l_inner_first P_l_inner_first (defScope s_l_inner_first) := ⟨rfl, rfl, rfl, by decide +kernel, rfl, by decide +kernel, by decide +kernel⟩
abbrev s_l_draw : Stmt := topS 11
abbrev N_l_draw : List Str := ["_law_script", "_law_spot", "_law_k"]
abbrev P_l_draw : List Str := ["_law_script", "_law_spot"]
theorem sc_l_draw : FnScope N_l_draw P_l_draw (defScope s_l_draw) := ⟨rfl, rfl, rfl, by decide +kernel, rfl, by decide +kernel, by decide +kernel⟩
abbrev s_l_made : Stmt := topS 13
abbrev N_l_made : List Str := ["_law_script", "_law_spot", "_law_names_here", "_law_deep", "_law_ahead", "_law_cell", "_law_more", "_law_kinds", "_law_kind", "_law_one"]
abbrev P_l_made : List Str := ["_law_script", "_law_spot", "_law_names_here", "_law_deep", "_law_ahead"]
theorem sc_l_made : FnScope N_l_made P_l_made (defScope s_l_made) := ⟨rfl, rfl, rfl, by decide +kernel, rfl, by decide +kernel, by decide +kernel⟩
abbrev s_Plan___init__ : Stmt := inClass (topS 8) 0
abbrev N_Plan___init__ : List Str := ["self", "statement", "wish"]
abbrev P_Plan___init__ : List Str := ["self", "statement"]
theorem sc_Plan___init__ : FnScope N_Plan___init__ P_Plan___init__ (defScope s_Plan___init__) := ⟨rfl, rfl, rfl, by decide +kernel, rfl, by decide +kernel, by decide +kernel⟩
abbrev s_law : Stmt := topS 23
abbrev N_law : List Str := ["_law_script", "_law_names_here", "_law_statement", "_law_told", "_law_kept", "_law_one", "_law_plan", "_law_k"]
abbrev P_law : List Str := ["_law_script"]
theorem sc_law : FnScope N_law P_law (defScope s_law) := ⟨rfl, rfl, rfl, by decide +kernel, rfl, by decide +kernel, by decide +kernel⟩
def nmS : Nm → Str
  | .parts_of => "parts_of"
  | .wished => "wished"
  | .wishes_in => "wishes_in"
  | .pasts_in => "pasts_in"
  | .marks_in => "marks_in"
  | .l_cell_at => "_law_cell_at"
  | .l_names => "_law_names"
  | .l_all => "_law_all"
  | .l_wishes => "_law_wishes"
  | .l_fit => "_law_fit"
  | .l_built => "_law_built"
  | .l_whole => "_law_whole"
  | .l_once => "_law_once"
  | .l_pasts => "_law_pasts"
  | .l_marks => "_law_marks"
  | .l_inner_first => "_law_inner_first"
  | .l_draw => "_law_draw"
  | .l_made => "_law_made"
def qlS : Nm → Str
  | .parts_of => "parts_of"
  | .wished => "wished"
  | .wishes_in => "wishes_in"
  | .pasts_in => "pasts_in"
  | .marks_in => "marks_in"
  | .l_cell_at => "_law_cell_at"
  | .l_names => "_law_names"
  | .l_all => "_law_all"
  | .l_wishes => "_law_wishes"
  | .l_fit => "_law_fit"
  | .l_built => "_law_built"
  | .l_whole => "_law_whole"
  | .l_once => "_law_once"
  | .l_pasts => "_law_pasts"
  | .l_marks => "_law_marks"
  | .l_inner_first => "_law_inner_first"
  | .l_draw => "_law_draw"
  | .l_made => "_law_made"
def tpS : Nm → Bool
  | .parts_of => true
  | .wished => true
  | .wishes_in => true
  | .pasts_in => true
  | .marks_in => true
  | .l_cell_at => true
  | .l_names => true
  | .l_all => true
  | .l_wishes => true
  | .l_fit => true
  | .l_built => true
  | .l_whole => true
  | .l_once => true
  | .l_pasts => true
  | .l_marks => true
  | .l_inner_first => true
  | .l_draw => true
  | .l_made => true
def stm : Nm → Stmt
  | .parts_of => s_parts_of
  | .wished => s_wished
  | .wishes_in => s_wishes_in
  | .pasts_in => s_pasts_in
  | .marks_in => s_marks_in
  | .l_cell_at => s_l_cell_at
  | .l_names => s_l_names
  | .l_all => s_l_all
  | .l_wishes => s_l_wishes
  | .l_fit => s_l_fit
  | .l_built => s_l_built
  | .l_whole => s_l_whole
  | .l_once => s_l_once
  | .l_pasts => s_l_pasts
  | .l_marks => s_l_marks
  | .l_inner_first => s_l_inner_first
  | .l_draw => s_l_draw
  | .l_made => s_l_made
def psN : Nm → List Str
  | .parts_of => P_parts_of
  | .wished => P_wished
  | .wishes_in => P_wishes_in
  | .pasts_in => P_pasts_in
  | .marks_in => P_marks_in
  | .l_cell_at => P_l_cell_at
  | .l_names => P_l_names
  | .l_all => P_l_all
  | .l_wishes => P_l_wishes
  | .l_fit => P_l_fit
  | .l_built => P_l_built
  | .l_whole => P_l_whole
  | .l_once => P_l_once
  | .l_pasts => P_l_pasts
  | .l_marks => P_l_marks
  | .l_inner_first => P_l_inner_first
  | .l_draw => P_l_draw
  | .l_made => P_l_made
structure Dm (K : PySem.W.Frag) (mg : Str → Option Value) (i : Nm) (f : Addr) (fd : FuncData) : Prop where
  F : Fun K (nmS i) (qlS i) (stm i) f fd
  b : Binds K fd (psN i) []
  mm : tpS i = true → mg (nmS i) = some (.ref f)
theorem Dm.m_parts_of {K : PySem.W.Frag} {mg : Str → Option Value} {f : Addr} {fd : FuncData} (d : Dm K mg .parts_of f fd) : mg "parts_of" = some (.ref f) := d.mm rfl
theorem Dm.m_wished {K : PySem.W.Frag} {mg : Str → Option Value} {f : Addr} {fd : FuncData} (d : Dm K mg .wished f fd) : mg "wished" = some (.ref f) := d.mm rfl
theorem Dm.m_wishes_in {K : PySem.W.Frag} {mg : Str → Option Value} {f : Addr} {fd : FuncData} (d : Dm K mg .wishes_in f fd) : mg "wishes_in" = some (.ref f) := d.mm rfl
theorem Dm.m_pasts_in {K : PySem.W.Frag} {mg : Str → Option Value} {f : Addr} {fd : FuncData} (d : Dm K mg .pasts_in f fd) : mg "pasts_in" = some (.ref f) := d.mm rfl
theorem Dm.m_marks_in {K : PySem.W.Frag} {mg : Str → Option Value} {f : Addr} {fd : FuncData} (d : Dm K mg .marks_in f fd) : mg "marks_in" = some (.ref f) := d.mm rfl
theorem Dm.m_l_cell_at {K : PySem.W.Frag} {mg : Str → Option Value} {f : Addr} {fd : FuncData} (d : Dm K mg .l_cell_at f fd) : mg "_law_cell_at" = some (.ref f) := d.mm rfl
theorem Dm.m_l_names {K : PySem.W.Frag} {mg : Str → Option Value} {f : Addr} {fd : FuncData} (d : Dm K mg .l_names f fd) : mg "_law_names" = some (.ref f) := d.mm rfl
theorem Dm.m_l_all {K : PySem.W.Frag} {mg : Str → Option Value} {f : Addr} {fd : FuncData} (d : Dm K mg .l_all f fd) : mg "_law_all" = some (.ref f) := d.mm rfl
theorem Dm.m_l_wishes {K : PySem.W.Frag} {mg : Str → Option Value} {f : Addr} {fd : FuncData} (d : Dm K mg .l_wishes f fd) : mg "_law_wishes" = some (.ref f) := d.mm rfl
theorem Dm.m_l_fit {K : PySem.W.Frag} {mg : Str → Option Value} {f : Addr} {fd : FuncData} (d : Dm K mg .l_fit f fd) : mg "_law_fit" = some (.ref f) := d.mm rfl
theorem Dm.m_l_built {K : PySem.W.Frag} {mg : Str → Option Value} {f : Addr} {fd : FuncData} (d : Dm K mg .l_built f fd) : mg "_law_built" = some (.ref f) := d.mm rfl
theorem Dm.m_l_whole {K : PySem.W.Frag} {mg : Str → Option Value} {f : Addr} {fd : FuncData} (d : Dm K mg .l_whole f fd) : mg "_law_whole" = some (.ref f) := d.mm rfl
theorem Dm.m_l_once {K : PySem.W.Frag} {mg : Str → Option Value} {f : Addr} {fd : FuncData} (d : Dm K mg .l_once f fd) : mg "_law_once" = some (.ref f) := d.mm rfl
theorem Dm.m_l_pasts {K : PySem.W.Frag} {mg : Str → Option Value} {f : Addr} {fd : FuncData} (d : Dm K mg .l_pasts f fd) : mg "_law_pasts" = some (.ref f) := d.mm rfl
theorem Dm.m_l_marks {K : PySem.W.Frag} {mg : Str → Option Value} {f : Addr} {fd : FuncData} (d : Dm K mg .l_marks f fd) : mg "_law_marks" = some (.ref f) := d.mm rfl
theorem Dm.m_l_inner_first {K : PySem.W.Frag} {mg : Str → Option Value} {f : Addr} {fd : FuncData} (d : Dm K mg .l_inner_first f fd) : mg "_law_inner_first" = some (.ref f) := d.mm rfl
theorem Dm.m_l_draw {K : PySem.W.Frag} {mg : Str → Option Value} {f : Addr} {fd : FuncData} (d : Dm K mg .l_draw f fd) : mg "_law_draw" = some (.ref f) := d.mm rfl
theorem Dm.m_l_made {K : PySem.W.Frag} {mg : Str → Option Value} {f : Addr} {fd : FuncData} (d : Dm K mg .l_made f fd) : mg "_law_made" = some (.ref f) := d.mm rfl
structure DD (K : PySem.W.Frag) (mg : Str → Option Value) (Cc : Addr) (fa : Nm → Addr) (fdd : Nm → FuncData) : Prop where
  d : ∀ i : Nm, Dm K mg i (fa i) (fdd i)
inductive Nx | l_draw | l_made
def Nx.n : Nx → Nm
  | .l_draw => .l_draw
  | .l_made => .l_made
def f_l_draw (Psy : Nx → Phx) : Fxs :=
    (xSeq (xPut 1 (fCon (.int 0)) (f2 oAdd (f2 oIx (fOpd 1) (fCon (.int 0))) (fCon (.int 1))))
    (xSeq (xSet 2 (xOf (f2 oSub (f2 oIx (fOpd 1) (fCon (.int 0))) (fCon (.int 1)))))
    (xSeq (xIf (fT (f2 oLt (fOpd 2) (fB oLen (fCons (fOpd 0) fNil)))) (xRet (xOf (f2 oIx (fOpd 0) (fOpd 2)))) xNext)
    (xSeq (xIf (gAnd (fT (f2 oGt (fB oLen (fCons (fOpd 0) fNil)) (fCon (.int 4)))) (fT (f2 oLt (fOpd 2) (fCon (.int 40))))) (xRet (xOf (f2 oMod (f2 oMul (f2 oAdd (f2 oIx (fOpd 0) (f2 oMod (fOpd 2) (fB oLen (fCons (fOpd 0) fNil)))) (f2 oMul (fCon (.int 7919)) (fOpd 2))) (fCon (.int 48271))) (fCon (.int 1000003))))) xNext)
    (xRet (xOf (fCon (.int 0))))))))
def f_l_made (Psy : Nx → Phx) : Fxs :=
    (xSeq (xSet 5 (xCall 1 (Psy .l_draw) (fVar 0) fNil))
    (xSeq (xSet 6 (xOf (f2 oDiv (fOpd 5) (fCon (.int 14)))))
    (xSeq (xIf (gOr (fT (f2 oLt (fOpd 3) (fCon (.int 2)))) (fT (f2 oLt (f2 oMod (fOpd 5) (fCon (.int 14))) (fCon (.int 2))))) (xSeq (xIf (fT (f2 oEq (f2 oMod (fOpd 6) (fCon (.int 9))) (fCon (.int 4)))) (xRet (xOf (fTup (fCons (fCon (.str "yes")) fNil)))) xNext)
    (xRet (xOf (fTup (fCons (fCon (.str "mark")) (fCons (f2 oIx (fOpd 2) (f2 oMod (fOpd 6) (fCon (.int 3)))) fNil)))))) xNext)
    (xSeq (xSet 7 (xOf (fCon (.str "not and or before since not and before since or since before"))))
    (xSeq (xIf (fT (fVar 4)) (xSet 7 (xOf (fCon (.str "not and or next until within until next since before until within")))) xNext)
    (xSeq (xSet 8 (xOf (f2 oIx (fM1 oSplit (fOpd 7) (fCon (.str " "))) (f2 oSub (f2 oMod (fOpd 5) (fCon (.int 14))) (fCon (.int 2))))))
    (xSeq (xSet 4 (xOf (fAnd (fVar 4) (f2 (oIn true) (fOpd 8) (fTup (fCons (fCon (.str "before")) (fCons (fCon (.str "since")) fNil)))))))
    (xSeq (xSet 9 (xCall 1 (Psy .l_made) (fVar 0) (fCons (fVar 2) (fCons (f2 oSub (fOpd 3) (fCon (.int 1))) (fCons (fVar 4) fNil)))))
    (xSeq (xIf (fT (f2 oEq (fOpd 8) (fCon (.str "within")))) (xRet (xOf (fTup (fCons (fVar 8) (fCons (f2 oIx (fLst (fCons (fCon (.int 1)) (fCons (fCon (.int 2)) (fCons (fCon (.int 0)) (fCons (fCon (.int 1)) (fCons (f2 oMod (f2 oDiv (fOpd 6) (fCon (.int 6))) (fCon (.int 5))) fNil)))))) (f2 oMod (fOpd 6) (fCon (.int 5)))) (fCons (fVar 9) fNil)))))) xNext)
    (xSeq (xIf (fT (f2 (oIn false) (fOpd 8) (fTup (fCons (fCon (.str "not")) (fCons (fCon (.str "next")) (fCons (fCon (.str "before")) fNil)))))) (xRet (xOf (fTup (fCons (fVar 8) (fCons (fVar 9) fNil))))) xNext)
    (xRet (xTup (xCons (xOf (fVar 8)) (xCons (xOf (fVar 9)) (xCons (xCall 1 (Psy .l_made) (fVar 0) (fCons (fVar 2) (fCons (f2 oSub (fOpd 3) (fCon (.int 1))) (fCons (fVar 4) fNil)))) xNil)))))))))))))))
def Psi : Nat → Nx → Phx
  | 0 => fun _ _ _ _ => none
  | n + 1 => fun i => match i with
    | .l_draw => runX 2 3 (f_l_draw (Psi n))
    | .l_made => runX 5 10 (f_l_made (Psi n))
theorem psi_l_draw (n : Nat) : Psi (n + 1) .l_draw = runX 2 3 (f_l_draw (Psi n)) := rfl
theorem psi_l_made (n : Nat) : Psi (n + 1) .l_made = runX 5 10 (f_l_made (Psi n)) := rfl
def f_parts_of (Phi : Nm → List D → Option Rs) : Fs :=
    (sRet (fLc (wTup (fSl (fOpd 0) (fiSm (fCon (.int 1))) fiNo)) (gfN 1) (fT (f1 (oIsi "tuple") (fOpd 1))) (fVar 1) [1]))
def f_wished (Phi : Nm → List D → Option Rs) : Fs :=
    (fSeq (sSetO 1 (fLst fNil))
    (fSeq (sFor (wLst (fCall (Phi .parts_of) (fCons (fVar 0) fNil))) (gfN 2) (sIf (fT (f2 oNe (f2 oIx (fOpd 0) (fCon (.int 0))) (fCon (.str "next")))) (sSetO 1 (f2 oAdd (fOpd 1) (fCall (Phi .wished) (fCons (fVar 2) fNil)))) fNext))
    (fSeq (sIf (fT (f2 oEq (f2 oIx (fOpd 0) (fCon (.int 0))) (fCon (.str "next")))) (sSetO 1 (fLst (fCons (f2 oIx (fOpd 0) (fCon (.int 1))) fNil))) (sIf (fT (f2 oEq (f2 oIx (fOpd 0) (fCon (.int 0))) (fCon (.str "until")))) (sApp 1 (fVar 0)) (sIf (gAnd (fT (f2 oEq (f2 oIx (fOpd 0) (fCon (.int 0))) (fCon (.str "within")))) (fT (f2 oGt (f2 oIx (fOpd 0) (fCon (.int 1))) (fCon (.int 0))))) (sApp 1 (fTup (fCons (fCon (.str "within")) (fCons (f2 oSub (f2 oIx (fOpd 0) (fCon (.int 1))) (fCon (.int 1))) (fCons (f2 oIx (fOpd 0) (fCon (.int 2))) fNil))))) fNext)))
    (sRet (fOpd 1)))))
def f_wishes_in (Phi : Nm → List D → Option Rs) : Fs :=
    (fSeq (sSetO 1 (fLst (fCons (fVar 0) fNil)))
    (fSeq (sSet 2 (fCon (.int 0)))
    (fSeq (sWh (fT (f2 oLt (fOpd 2) (fB oLen (fCons (fOpd 1) fNil)))) (fSeq (sFor (wLst (fCall (Phi .wished) (fCons (f2 oIx (fOpd 1) (fOpd 2)) fNil))) (gfN 3) (sIf (fT (f2 (oIn true) (fOpd 3) (fOpd 1))) (sApp 1 (fVar 3)) fNext))
    (sSet 2 (f2 oAdd (fOpd 2) (fCon (.int 1))))))
    (sRet (fOwn 1)))))
def f_pasts_in (Phi : Nm → List D → Option Rs) : Fs :=
    (fSeq (sSetO 1 (fLst fNil))
    (fSeq (sFor (wLst (fCall (Phi .parts_of) (fCons (fVar 0) fNil))) (gfN 2) (sFor (wLst (fCall (Phi .pasts_in) (fCons (fVar 2) fNil))) (gfN 3) (sIf (fT (f2 (oIn true) (fOpd 3) (fOpd 1))) (sApp 1 (fVar 3)) fNext)))
    (fSeq (sIf (gAnd (fT (f2 (oIn false) (f2 oIx (fOpd 0) (fCon (.int 0))) (fTup (fCons (fCon (.str "before")) (fCons (fCon (.str "since")) fNil))))) (fT (f2 (oIn true) (fOpd 0) (fOpd 1)))) (sApp 1 (fVar 0)) fNext)
    (sRet (fOwn 1)))))
def f_marks_in (Phi : Nm → List D → Option Rs) : Fs :=
    (fSeq (sIf (fT (f2 oEq (f2 oIx (fOpd 0) (fCon (.int 0))) (fCon (.str "mark")))) (sRet (fLst (fCons (fCon (.str "")) (fCons (f2 oIx (fOpd 0) (fCon (.int 1))) fNil)))) fNext)
    (fSeq (sSetO 1 (fLst (fCons (fCon (.str "")) fNil)))
    (fSeq (sFor (wLst (fCall (Phi .parts_of) (fCons (fVar 0) fNil))) (gfN 2) (sSetO 1 (fB oSortSet (fCons (f2 oAdd (fOpd 1) (fCall (Phi .marks_in) (fCons (fVar 2) fNil))) fNil))))
    (sRet (fOwn 1)))))
def f_l_cell_at (Phi : Nm → List D → Option Rs) : Fs :=
    (fSeq (sIf (fT (f2 oLt (fOpd 1) (fB oLen (fCons (fOpd 0) fNil)))) (sRet (f2 oIx (fOpd 0) (fOpd 1))) fNext)
    (sRet (fCon (.int 0))))
def f_l_names (Phi : Nm → List D → Option Rs) : Fs :=
    (fSeq (sSet 1 (fCon (.str "abcdefghijklmnopqrstuvwxyz")))
    (fSeq (sSet 2 (fM1 oJoin (fCon (.str "")) (fLc (wRg1 (fCons (fCon (.int 6)) fNil)) (gfN 8) gYes (f2 oIx (fOpd 1) (f2 oMod (f2 oAdd (f2 oDiv (fOpd 0) (fCon (.int 7))) (f2 oMul (fCon (.int 5)) (fOpd 8))) (fCon (.int 26)))) [8])))
    (fSeq (sIf (fT (f2 oEq (f2 oMod (fOpd 0) (fCon (.int 3))) (fCon (.int 2)))) (fSeq (sSet 3 (f2 oAdd (fCon (.int 1)) (f2 oMod (f2 oDiv (fOpd 0) (fCon (.int 3))) (fCon (.int 4)))))
    (sRet (fLc (wRg1 (fCons (fCon (.int 3)) fNil)) (gfN 6) gYes (fSl (fOpd 2) fiNo (fiSm (f2 oAdd (fOpd 3) (fOpd 6)))) [6]))) fNext)
    (fSeq (sSet 3 (f2 oMod (f2 oDiv (fOpd 0) (fCon (.int 3))) (fCon (.int 6))))
    (fSeq (sSet 4 (f2 oMod (f2 oDiv (fOpd 0) (fCon (.int 18))) (f2 oAdd (fOpd 3) (fCon (.int 1)))))
    (fSeq (sSetO 5 (fLst fNil))
    (fSeq (sFor (wRg1 (fCons (fCon (.int 3)) fNil)) (gfN 6) (fSeq (sSet 7 (f2 oIx (fOpd 1) (f2 oMod (f2 oAdd (f2 oDiv (fOpd 0) (fCon (.int 90))) (f2 oMul (fCon (.int 7)) (fOpd 6))) (fCon (.int 26)))))
    (sApp 5 (f2 oAdd (f2 oAdd (fSl (fOpd 2) fiNo (fiSm (fOpd 4))) (fOpd 7)) (fSl (fOpd 2) (fiSm (fOpd 4)) (fiSm (fOpd 3)))))))
    (sRet (fOpd 5)))))))))
def f_l_all (Phi : Nm → List D → Option Rs) : Fs :=
    (fSeq (sSet 1 (fLst (fCons (fVar 0) fNil)))
    (fSeq (sFor (wTup (fSl (fOpd 0) (fiSm (fCon (.int 1))) fiNo)) (gfN 2) (sIf (fT (f1 (oIsi "tuple") (fOpd 2))) (sSet 1 (f2 oAdd (fOpd 1) (fCall (Phi .l_all) (fCons (fVar 2) fNil)))) fNext))
    (sRet (fVar 1))))
def f_l_wishes (Phi : Nm → List D → Option Rs) : Fs :=
    (fSeq (sSet 1 (fLst (fCons (fVar 0) fNil)))
    (fSeq (sFor (wLst (fCall (Phi .l_all) (fCons (fVar 0) fNil))) (gfN 2) (fSeq (sSet 3 (fLst fNil))
    (fSeq (sIf (fT (f2 oEq (f2 oIx (fOpd 2) (fCon (.int 0))) (fCon (.str "next")))) (sSet 3 (fLst (fCons (f2 oIx (fOpd 2) (fCon (.int 1))) fNil))) (sIf (fT (f2 oEq (f2 oIx (fOpd 2) (fCon (.int 0))) (fCon (.str "until")))) (sSet 3 (fLst (fCons (fVar 2) fNil))) (sIf (fT (f2 oEq (f2 oIx (fOpd 2) (fCon (.int 0))) (fCon (.str "within")))) (sSet 3 (fLc (wRg1 (fCons (f2 oIx (fOpd 2) (fCon (.int 1))) fNil)) (gfN 5) gYes (fTup (fCons (fCon (.str "within")) (fCons (fVar 5) (fCons (f2 oIx (fOpd 2) (fCon (.int 2))) fNil)))) [5])) fNext)))
    (sSet 1 (f2 oAdd (fOpd 1) (fLc (wLst (fVar 3)) (gfN 4) (fT (f2 (oIn true) (fOpd 4) (fOpd 1))) (fVar 4) [4]))))))
    (sRet (fVar 1))))
def f_l_fit (Phi : Nm → List D → Option Rs) : Fs :=
    (fSeq (sWh (fT (f2 oGt (fB oLen (fCons (fCall (Phi .l_wishes) (fCons (fVar 0) fNil)) fNil)) (fOpd 1))) (sSet 0 (f2 oIx (fOpd 0) (f1 oNeg (fCon (.int 1))))))
    (sRet (fVar 0)))
def f_l_built (Phi : Nm → List D → Option Rs) (Psy : Nx → Phx) : Fs :=
    (fSeq (sSetO 3 (fLst (fCons (fCon (.int 2)) fNil)))
    (fSeq (sSet 4 (f2 oAdd (fCon (.int 5)) (fB oInt1 (fCons (f2 oEq (f2 oMod (fCall (Phi .l_cell_at) (fCons (fVar 0) (fCons (fCon (.int 1)) fNil))) (fCon (.int 8))) (fCon (.int 5))) fNil))))
    (sRetX (xCallP (Phi .l_fit) (xCons (xCall 3 (Psy .l_made) (fVar 0) (fCons (fVar 1) (fCons (fVar 4) (fCons (fCon (.bool true)) fNil)))) (xCons (xOf (fVar 2)) xNil))))))
def f_l_whole (Phi : Nm → List D → Option Rs) : Fs :=
    (sRet (fAnd (f1 (oIsi "int") (fOpd 0)) (fNot (f1 (oIsi "bool") (fOpd 0)))))
def f_l_once (Phi : Nm → List D → Option Rs) : Fs :=
    (fSeq (sIf (gOr (gNot (fT (f1 (oIsi "list") (fOpd 0)))) (fT (f2 oNe (fB oLen (fCons (fOpd 0) fNil)) (fB oLen (fCons (fOpd 1) fNil))))) (sRet (fCon (.bool false))) fNext)
    (sRet (fB oAll (fCons (fLc (wEnum (fCons (fVar 0) fNil)) (gfTup (gsCons (gfN 2) (gsCons (gfN 3) gsNil))) gYes (fAnd (f2 (oIn false) (fOpd 3) (fOpd 1)) (f2 oEq (fIdx (fOpd 0) (fOpd 3)) (fOpd 2))) [2, 3]) fNil))))
def f_l_pasts (Phi : Nm → List D → Option Rs) : Fs :=
    (fSeq (sSetO 1 (fLst fNil))
    (fSeq (sFor (wLst (fCall (Phi .l_all) (fCons (fVar 0) fNil))) (gfN 2) (sIf (gAnd (fT (f2 (oIn false) (f2 oIx (fOpd 2) (fCon (.int 0))) (fTup (fCons (fCon (.str "before")) (fCons (fCon (.str "since")) fNil))))) (fT (f2 (oIn true) (fOpd 2) (fOpd 1)))) (sApp 1 (fVar 2)) fNext))
    (sRet (fOpd 1))))
def f_l_marks (Phi : Nm → List D → Option Rs) : Fs :=
    (fSeq (sSetO 1 (fLst (fCons (fCon (.str "")) fNil)))
    (fSeq (sFor (wLst (fCall (Phi .l_all) (fCons (fVar 0) fNil))) (gfN 2) (sIf (gAnd (fT (f2 oEq (f2 oIx (fOpd 2) (fCon (.int 0))) (fCon (.str "mark")))) (fT (f2 (oIn true) (f2 oIx (fOpd 2) (fCon (.int 1))) (fOpd 1)))) (sApp 1 (f2 oIx (fOpd 2) (fCon (.int 1)))) fNext))
    (sRet (fB oSorted (fCons (fOpd 1) fNil)))))
def f_l_inner_first (Phi : Nm → List D → Option Rs) : Fs :=
    (fSeq (sFor (wRg1 (fCons (fB oLen (fCons (fOpd 0) fNil)) fNil)) (gfN 1) (sFor (wLst (fSl (fCall (Phi .l_all) (fCons (f2 oIx (fOpd 0) (fOpd 1)) fNil)) (fiSm (fCon (.int 1))) fiNo)) (gfN 2) (sIf (gAnd (fT (f2 (oIn false) (fOpd 2) (fOpd 0))) (fT (f2 oGt (fIdx (fOpd 0) (fOpd 2)) (fOpd 1)))) (sRet (fCon (.bool false))) fNext)))
    (sRet (fCon (.bool true))))
def f_law0 (Phi : Nm → List D → Option Rs) (psi_ : D → Option D) : Fs :=
    (sSet 1 (fCall (Phi .l_names) (fCons (fCall (Phi .l_cell_at) (fCons (fVar 0) (fCons (fCon (.int 0)) fNil))) fNil)))
def f_law1 (Phi : Nm → List D → Option Rs) (psi_ : D → Option D) : Fs :=
    (sSet 2 (fCall (Phi .l_built) (fCons (fVar 0) (fCons (fVar 1) (fCons (fCon (.int 6)) fNil)))))
def f_lawW (Phi : Nm → List D → Option Rs) (psi_ : D → Option D) : Fe :=
    (fCall (Phi .wishes_in) (fCons (fVar 2) fNil))
def f_lawP (Phi : Nm → List D → Option Rs) (psi_ : D → Option D) : Fe :=
    (fCall (Phi .pasts_in) (fCons (fVar 2) fNil))
def f_lawM (Phi : Nm → List D → Option Rs) (psi_ : D → Option D) : Fe :=
    (fCall (Phi .marks_in) (fCons (fVar 2) fNil))
def f_law3 (Phi : Nm → List D → Option Rs) (psi_ : D → Option D) : Ft :=
    (gOr (gNot (fT (fCall (Phi .l_once) (fCons (f2 oIx (fOpd 3) (fCon (.int 0))) (fCons (fCall (Phi .l_wishes) (fCons (fVar 2) fNil)) fNil))))) (fT (f2 oNe (f2 oIx (f2 oIx (fOpd 3) (fCon (.int 0))) (fCon (.int 0))) (fOpd 2))))
def f_law4 (Phi : Nm → List D → Option Rs) (psi_ : D → Option D) : Ft :=
    (gOr (gNot (fT (fCall (Phi .l_once) (fCons (f2 oIx (fOpd 3) (fCon (.int 1))) (fCons (fCall (Phi .l_pasts) (fCons (fVar 2) fNil)) fNil))))) (gNot (fT (fCall (Phi .l_inner_first) (fCons (f2 oIx (fOpd 3) (fCon (.int 1))) fNil)))))
def f_law5 (Phi : Nm → List D → Option Rs) (psi_ : D → Option D) : Ft :=
    (gOr (gNot (fT (f1 (oIsi "list") (f2 oIx (fOpd 3) (fCon (.int 2)))))) (fT (f2 oNe (f2 oIx (fOpd 3) (fCon (.int 2))) (fCall (Phi .l_marks) (fCons (fVar 2) fNil)))))
def f_lawz (Phi : Nm → List D → Option Rs) (psi_ : D → Option D) : Fs :=
    (fSeq (sIf (fT (f2 oNe (fLst (fCons (fCall (Phi .wishes_in) (fCons (fVar 2) fNil)) (fCons (fCall (Phi .pasts_in) (fCons (fVar 2) fNil)) (fCons (fCall (Phi .marks_in) (fCons (fVar 2) fNil)) fNil)))) (fOpd 4))) (sRet (fCon (.bool false))) fNext)
    (fSeq (sSet 6 (fMake psi_ (fCons (fVar 2) fNil)))
    (fSeq (sIf (gOr (fT (f2 oNe (fLst (fCons (f1 (oFld "wishes") (fOpd 6)) (fCons (f1 (oFld "pasts") (fOpd 6)) (fCons (f1 (oFld "marks") (fOpd 6)) fNil)))) (fOpd 4))) (gNot (fT (f1 (oIsi "list") (f1 (oFld "weights") (fOpd 6)))))) (sRet (fCon (.bool false))) fNext)
    (fSeq (sIf (gOr (fT (f2 oNe (fB oLen (fCons (f1 (oFld "weights") (fOpd 6)) fNil)) (f2 oAdd (fB oLen (fCons (f2 oIx (fOpd 4) (fCon (.int 0))) fNil)) (fCon (.int 1))))) (fT (f2 oNe (f2 oIx (f1 (oFld "weights") (fOpd 6)) (fCon (.int 0))) (fCon (.int 1))))) (sRet (fCon (.bool false))) fNext)
    (fSeq (sFor (wRg1 (fCons (fB oLen (fCons (f2 oIx (fOpd 4) (fCon (.int 0))) fNil)) fNil)) (gfN 7) (sIf (gOr (gNot (fT (fCall (Phi .l_whole) (fCons (f2 oIx (f1 (oFld "weights") (fOpd 6)) (f2 oAdd (fOpd 7) (fCon (.int 1)))) fNil)))) (fT (f2 oNe (f2 oIx (f1 (oFld "weights") (fOpd 6)) (f2 oAdd (fOpd 7) (fCon (.int 1)))) (f2 oMul (fCon (.int 2)) (f2 oIx (f1 (oFld "weights") (fOpd 6)) (fOpd 7)))))) (sRet (fCon (.bool false))) fNext))
    (sRet (f2 oEq (fLc (wLst (fVar 4)) (gfN 5) gYes (f2 oAdd (fOpd 5) (fLst (fCons (fCon (.str "more")) fNil))) [5]) (fOpd 3))))))))
def Phi : Nat → Nm → List D → Option Rs
  | 0 => fun _ _ => none
  | n + 1 => fun i => match i with
    | .parts_of => runF 1 2 (f_parts_of (Phi n))
    | .wished => runF 1 3 (f_wished (Phi n))
    | .wishes_in => runF 1 4 (f_wishes_in (Phi n))
    | .pasts_in => runF 1 4 (f_pasts_in (Phi n))
    | .marks_in => runF 1 3 (f_marks_in (Phi n))
    | .l_cell_at => runF 2 2 (f_l_cell_at (Phi n))
    | .l_names => runF 1 9 (f_l_names (Phi n))
    | .l_all => runF 1 3 (f_l_all (Phi n))
    | .l_wishes => runF 1 6 (f_l_wishes (Phi n))
    | .l_fit => runF 2 2 (f_l_fit (Phi n))
    | .l_built => runF 3 5 (f_l_built (Phi n) (Psi n))
    | .l_whole => runF 1 1 (f_l_whole (Phi n))
    | .l_once => runF 2 4 (f_l_once (Phi n))
    | .l_pasts => runF 1 3 (f_l_pasts (Phi n))
    | .l_marks => runF 1 3 (f_l_marks (Phi n))
    | .l_inner_first => runF 1 3 (f_l_inner_first (Phi n))
    | .l_draw => fun _ => none
    | .l_made => fun _ => none
theorem phi_parts_of (n : Nat) : Phi (n + 1) .parts_of = runF 1 2 (f_parts_of (Phi n)) := rfl
theorem phi_wished (n : Nat) : Phi (n + 1) .wished = runF 1 3 (f_wished (Phi n)) := rfl
theorem phi_wishes_in (n : Nat) : Phi (n + 1) .wishes_in = runF 1 4 (f_wishes_in (Phi n)) := rfl
theorem phi_pasts_in (n : Nat) : Phi (n + 1) .pasts_in = runF 1 4 (f_pasts_in (Phi n)) := rfl
theorem phi_marks_in (n : Nat) : Phi (n + 1) .marks_in = runF 1 3 (f_marks_in (Phi n)) := rfl
theorem phi_l_cell_at (n : Nat) : Phi (n + 1) .l_cell_at = runF 2 2 (f_l_cell_at (Phi n)) := rfl
theorem phi_l_names (n : Nat) : Phi (n + 1) .l_names = runF 1 9 (f_l_names (Phi n)) := rfl
theorem phi_l_all (n : Nat) : Phi (n + 1) .l_all = runF 1 3 (f_l_all (Phi n)) := rfl
theorem phi_l_wishes (n : Nat) : Phi (n + 1) .l_wishes = runF 1 6 (f_l_wishes (Phi n)) := rfl
theorem phi_l_fit (n : Nat) : Phi (n + 1) .l_fit = runF 2 2 (f_l_fit (Phi n)) := rfl
theorem phi_l_built (n : Nat) : Phi (n + 1) .l_built = runF 3 5 (f_l_built (Phi n) (Psi n)) := rfl
theorem phi_l_whole (n : Nat) : Phi (n + 1) .l_whole = runF 1 1 (f_l_whole (Phi n)) := rfl
theorem phi_l_once (n : Nat) : Phi (n + 1) .l_once = runF 2 4 (f_l_once (Phi n)) := rfl
theorem phi_l_pasts (n : Nat) : Phi (n + 1) .l_pasts = runF 1 3 (f_l_pasts (Phi n)) := rfl
theorem phi_l_marks (n : Nat) : Phi (n + 1) .l_marks = runF 1 3 (f_l_marks (Phi n)) := rfl
theorem phi_l_inner_first (n : Nat) : Phi (n + 1) .l_inner_first = runF 1 3 (f_l_inner_first (Phi n)) := rfl
/-- the plan of a statement, calls at level n -/
def plT (n : Nat) : D → Option D := initT (Phi n .wishes_in) (Phi n .pasts_in) (Phi n .marks_in)
/-- a def whose result is a new list -/
def frs : Nm → Bool
  | .wishes_in => true
  | .pasts_in => true
  | .marks_in => true
  | _ => false
structure ZZ (mg : Str → Option Value) : Prop where
  len : mg "len" = none
  isinstance : mg "isinstance" = none
  tuple : mg "tuple" = none
  sorted : mg "sorted" = none
  set : mg "set" = none
  range : mg "range" = none
  int : mg "int" = none
  bool : mg "bool" = none
  list : mg "list" = none
  enumerate : mg "enumerate" = none
  all : mg "all" = none
section
variable {P : Program} {w : World} {K : PySem.W.Frag} {mg : Str → Option Value} {base : Heap} {M : Pm} {Cc fI : Addr} {fdI : FuncData} {fa : Nm → Addr} {fdd : Nm → FuncData} {Phi : Nm → List D → Option Rs} {Psy : Nx → Phx} {psi_ : D → Option D} {j ji k : Nat}
theorem d_l_draw (D : DD K mg Cc fa fdd) (Z : ZZ mg) (CP_ : CP K mg M Cc) (OX : ∀ i : Nx, FnOk P w K mg base (L2.CX P w) j (fa i.n) (fdd i.n) (psN i.n) (spS K M (Psy i))) (hk : j ≤ k) (cdv : Value) (A : Around) (outer : List Env) (s : Shared) (H : Hp) (E : XK) (C : CxF K (cxOf (L2.CX P w) P w K mg base N_l_draw (qlS .l_draw) (defScope s_l_draw) (fa .l_draw) cdv A outer s H E) E k)
    (tk : Takes (cxOf (L2.CX P w) P w K mg base N_l_draw (qlS .l_draw) (defScope s_l_draw) (fa .l_draw) cdv A outer s H E) (fun cls d _ H => E cls d H)) : ∃ t, JXB K (cxOf (L2.CX P w) P w K mg base N_l_draw (qlS .l_draw) (defScope s_l_draw) (fa .l_draw) cdv A outer s H E) M 1 (defBody s_l_draw) t (f_l_draw Psy) := ⟨_,
    (xb_cons (xs_put (E := E) (JE.f2c (je_add C (JE.c2o (je_ix C (jo_var (i := 1)) (JE.c2o je_int))) (JE.c2o je_int))) (JE.pe (K := K) (M := M) (E := E) (jo_var (i := 1))) (JE.c2o je_int))
    (xb_cons (xs_set (j := 2) C.nd (xe_of (E := E) (je_sub (JE.c2o (je_ix C (jo_var (i := 1)) (JE.c2o je_int))) (JE.c2o je_int))))
    (xb_cons (xs_if (E := E) (jt_lt (jo_var (i := 2)) (JE.c2o (je_len C Z.len (by rfl) (jo_var (i := 0))))) (xb_one (xs_ret (xe_of (E := E) (je_ix C (jo_var (i := 0)) (jo_var (i := 2)))))) xb_nil)
    (xb_cons (xs_if (E := E) (JW.jt (jw_and (jt_gt (JE.c2o (je_len C Z.len (by rfl) (jo_var (i := 0)))) (JE.c2o je_int)) (jw_and1 (jt_lt (jo_var (i := 2)) (JE.c2o je_int))))) (xb_one (xs_ret (xe_of (E := E) (je_mod (JE.c2o (je_mul (JE.f2o (je_add C (JE.c2o (je_ix C (jo_var (i := 0)) (JE.c2o (je_mod (jo_var (i := 2)) (JE.c2o (je_len C Z.len (by rfl) (jo_var (i := 0)))))))) (JE.c2o (je_mul (JE.c2o je_int) (jo_var (i := 2)))))) (JE.c2o je_int))) (JE.c2o je_int))))) xb_nil)
    (xb_one (xs_ret (xe_of (E := E) je_int)))))))⟩
theorem d_l_made (D : DD K mg Cc fa fdd) (Z : ZZ mg) (CP_ : CP K mg M Cc) (OX : ∀ i : Nx, FnOk P w K mg base (L2.CX P w) j (fa i.n) (fdd i.n) (psN i.n) (spS K M (Psy i))) (hk : j ≤ k) (cdv : Value) (A : Around) (outer : List Env) (s : Shared) (H : Hp) (E : XK) (C : CxF K (cxOf (L2.CX P w) P w K mg base N_l_made (qlS .l_made) (defScope s_l_made) (fa .l_made) cdv A outer s H E) E k)
    (tk : Takes (cxOf (L2.CX P w) P w K mg base N_l_made (qlS .l_made) (defScope s_l_made) (fa .l_made) cdv A outer s H E) (fun cls d _ H => E cls d H)) : ∃ t, JXB K (cxOf (L2.CX P w) P w K mg base N_l_made (qlS .l_made) (defScope s_l_made) (fa .l_made) cdv A outer s H E) M 1 (defBody s_l_made) t (f_l_made Psy) := ⟨_,
    (xb_cons (xs_set (j := 5) C.nd (xe_call C (OX .l_draw) hk (D.d .l_draw).b (D.d .l_draw).m_l_draw (D.d .l_draw).F.kp  (by rfl) (je_var (i := 0)) (JE.pe (K := K) (M := M) (E := E) (jo_var (i := 1))) jc_nil))
    (xb_cons (xs_set (j := 6) C.nd (xe_of (E := E) (je_div (jo_var (i := 5)) (JE.c2o je_int))))
    (xb_cons (xs_if (E := E) (JW.jt (jw_or (jt_lt (jo_var (i := 3)) (JE.c2o je_int)) (jw_or1 (jt_lt (JE.c2o (je_mod (jo_var (i := 5)) (JE.c2o je_int))) (JE.c2o je_int))))) (xb_cons (xs_if (E := E) (jt_eq C (JE.c2o (je_mod (jo_var (i := 6)) (JE.c2o je_int))) (JE.c2o je_int)) (xb_one (xs_ret (xe_of (E := E) (je_tup (jc_cons je_str jc_nil))))) xb_nil)
    (xb_one (xs_ret (xe_of (E := E) (je_tup (jc_cons je_str (jc_cons (je_ix C (jo_var (i := 2)) (JE.c2o (je_mod (jo_var (i := 6)) (JE.c2o je_int)))) jc_nil))))))) xb_nil)
    (xb_cons (xs_set (j := 7) C.nd (xe_of (E := E) je_str))
    (xb_cons (xs_if (E := E) (jt_val (je_var (i := 4))) (xb_one (xs_set (j := 7) C.nd (xe_of (E := E) je_str))) xb_nil)
    (xb_cons (xs_set (j := 8) C.nd (xe_of (E := E) (je_ix C (JE.f2o (je_split (jo_var (i := 7)) (JE.c2o je_str))) (JE.c2o (je_sub (JE.c2o (je_mod (jo_var (i := 5)) (JE.c2o je_int))) (JE.c2o je_int))))))
    (xb_cons (xs_set (j := 4) C.nd (xe_of (E := E) (je_and (je_var (i := 4)) (je_one (je_ni C (jo_var (i := 8)) (JE.c2o (je_tup (jc_cons je_str (jc_cons je_str jc_nil)))))))))
    (xb_cons (xs_set (j := 9) C.nd (xe_call C (OX .l_made) hk (D.d .l_made).b (D.d .l_made).m_l_made (D.d .l_made).F.kp  (by rfl) (je_var (i := 0)) (JE.pe (K := K) (M := M) (E := E) (jo_var (i := 1))) (jc_cons (je_var (i := 2)) (jc_cons (je_sub (jo_var (i := 3)) (JE.c2o je_int)) (jc_cons (je_var (i := 4)) jc_nil)))))
    (xb_cons (xs_if (E := E) (jt_eq C (jo_var (i := 8)) (JE.c2o je_str)) (xb_one (xs_ret (xe_of (E := E) (je_tup (jc_cons (je_var (i := 8)) (jc_cons (je_ix C (JE.f2o (je_lst (jc_cons je_int (jc_cons je_int (jc_cons je_int (jc_cons je_int (jc_cons (je_mod (JE.c2o (je_div (jo_var (i := 6)) (JE.c2o je_int))) (JE.c2o je_int)) jc_nil))))))) (JE.c2o (je_mod (jo_var (i := 6)) (JE.c2o je_int)))) (jc_cons (je_var (i := 9)) jc_nil))))))) xb_nil)
    (xb_cons (xs_if (E := E) (jt_in C (jo_var (i := 8)) (JE.c2o (je_tup (jc_cons je_str (jc_cons je_str (jc_cons je_str jc_nil)))))) (xb_one (xs_ret (xe_of (E := E) (je_tup (jc_cons (je_var (i := 8)) (jc_cons (je_var (i := 9)) jc_nil)))))) xb_nil)
    (xb_one (xs_ret (xe_tup (xa_cons (xe_of (E := E) (je_var (i := 8))) (xa_cons (xe_of (E := E) (je_var (i := 9))) (xa_cons (xe_call C (OX .l_made) hk (D.d .l_made).b (D.d .l_made).m_l_made (D.d .l_made).F.kp  (by rfl) (je_var (i := 0)) (JE.pe (K := K) (M := M) (E := E) (jo_var (i := 1))) (jc_cons (je_var (i := 2)) (jc_cons (je_sub (jo_var (i := 3)) (JE.c2o je_int)) (jc_cons (je_var (i := 4)) jc_nil)))) xa_nil))))))))))))))))⟩
theorem d_parts_of (D : DD K mg Cc fa fdd) (Z : ZZ mg) (CP_ : CP K mg M Cc) (OK : ∀ i : Nm, FnOk P w K mg base (L2.CX P w) j (fa i) (fdd i) (psN i) (spF K M (Phi i))) (hk : j ≤ k) (cdv : Value) (A : Around) (outer : List Env) (s : Shared) (H : Hp) (E : XK) (C : CxF K (cxOf (L2.CX P w) P w K mg base N_parts_of (qlS .parts_of) (defScope s_parts_of) (fa .parts_of) cdv A outer s H E) E k)
    (tk : Takes (cxOf (L2.CX P w) P w K mg base N_parts_of (qlS .parts_of) (defScope s_parts_of) (fa .parts_of) cdv A outer s H E) (fun cls d _ H => E cls d H)) : ∃ t, JB K (cxOf (L2.CX P w) P w K mg base N_parts_of (qlS .parts_of) (defScope s_parts_of) (fa .parts_of) cdv A outer s H E) M E (defBody s_parts_of) t (f_parts_of Phi) := ⟨_,
    (jb_one (js_ret (JE.f2c (je_lc (own := [("part", 1)]) C (ji_tup C (JE.f2c (je_slice C (jo_var (i := 0)) (ji_sm (JE.c2o je_int)) ji_no))) (blkOk_by (N := N_parts_of) (sc := defScope s_parts_of) (by decide +kernel)) (by exact fun s1 H1 Cc1 cl1 fp1 => (jg_name (i := 1) (CxF.blk C s1 H1 _ (compEnvC _ cl1 Cc1 _) fp1).nd)) (by exact fun s1 H1 Cc1 cl1 fp1 => (jts_one (jt_val (je_isi (T := "tuple") (CxF.blk C s1 H1 _ (compEnvC _ cl1 Cc1 _) fp1) Z.isinstance (by rfl) Z.tuple (by rfl) (by decide +kernel) (by decide) (jo_var (i := 1)))))) (by exact fun s1 H1 Cc1 cl1 fp1 => (je_var (i := 1)))))))⟩
theorem d_wished (D : DD K mg Cc fa fdd) (Z : ZZ mg) (CP_ : CP K mg M Cc) (OK : ∀ i : Nm, FnOk P w K mg base (L2.CX P w) j (fa i) (fdd i) (psN i) (spF K M (Phi i))) (hk : j ≤ k) (cdv : Value) (A : Around) (outer : List Env) (s : Shared) (H : Hp) (E : XK) (C : CxF K (cxOf (L2.CX P w) P w K mg base N_wished (qlS .wished) (defScope s_wished) (fa .wished) cdv A outer s H E) E k)
    (tk : Takes (cxOf (L2.CX P w) P w K mg base N_wished (qlS .wished) (defScope s_wished) (fa .wished) cdv A outer s H E) (fun cls d _ H => E cls d H)) : ∃ t, JB K (cxOf (L2.CX P w) P w K mg base N_wished (qlS .wished) (defScope s_wished) (fa .wished) cdv A outer s H E) M E (defBody s_wished) t (f_wished Phi) := ⟨_,
    (jb_cons (js_setO (i := 1) C.nd (je_lst jc_nil))
    (jb_cons (js_for C (ji_list C (je_call C (OK .parts_of) hk (D.d .parts_of).b (D.d .parts_of).m_parts_of (D.d .parts_of).F.kp  (by rfl) (jc_cons (je_var (i := 0)) jc_nil))) (jg_name (i := 2) C.nd) (jb_one (js_if (jt_ne C (JE.c2o (je_ix C (jo_var (i := 0)) (JE.c2o je_int))) (JE.c2o je_str)) (jb_one (js_setO (i := 1) C.nd (je_add C (jo_var (i := 1)) (JE.c2o (je_call C (OK .wished) hk (D.d .wished).b (D.d .wished).m_wished (D.d .wished).F.kp  (by rfl) (jc_cons (je_var (i := 2)) jc_nil)))))) jb_nil)))
    (jb_cons (js_if (jt_eq C (JE.c2o (je_ix C (jo_var (i := 0)) (JE.c2o je_int))) (JE.c2o je_str)) (jb_one (js_setO (i := 1) C.nd (je_lst (jc_cons (je_ix C (jo_var (i := 0)) (JE.c2o je_int)) jc_nil)))) (jb_one (js_if (jt_eq C (JE.c2o (je_ix C (jo_var (i := 0)) (JE.c2o je_int))) (JE.c2o je_str)) (jb_one (js_appX (i := 1) C (jo_var (i := 1)) (je_var (i := 0)))) (jb_one (js_if (JW.jt (jw_and (jt_eq C (JE.c2o (je_ix C (jo_var (i := 0)) (JE.c2o je_int))) (JE.c2o je_str)) (jw_and1 (jt_gt (JE.c2o (je_ix C (jo_var (i := 0)) (JE.c2o je_int))) (JE.c2o je_int))))) (jb_one (js_appX (i := 1) C (jo_var (i := 1)) (je_tup (jc_cons je_str (jc_cons (je_sub (JE.c2o (je_ix C (jo_var (i := 0)) (JE.c2o je_int))) (JE.c2o je_int)) (jc_cons (je_ix C (jo_var (i := 0)) (JE.c2o je_int)) jc_nil)))))) jb_nil)))))
    (jb_one (js_retV (jo_var (i := 1)))))))⟩
theorem d_wishes_in (D : DD K mg Cc fa fdd) (Z : ZZ mg) (CP_ : CP K mg M Cc) (OK : ∀ i : Nm, FnOk P w K mg base (L2.CX P w) j (fa i) (fdd i) (psN i) (spF K M (Phi i))) (hk : j ≤ k) (cdv : Value) (A : Around) (outer : List Env) (s : Shared) (H : Hp) (E : XK) (C : CxF K (cxOf (L2.CX P w) P w K mg base N_wishes_in (qlS .wishes_in) (defScope s_wishes_in) (fa .wishes_in) cdv A outer s H E) E k)
    (tk : Takes (cxOf (L2.CX P w) P w K mg base N_wishes_in (qlS .wishes_in) (defScope s_wishes_in) (fa .wishes_in) cdv A outer s H E) (fun cls d _ H => E cls d H)) : ∃ t, JB K (cxOf (L2.CX P w) P w K mg base N_wishes_in (qlS .wishes_in) (defScope s_wishes_in) (fa .wishes_in) cdv A outer s H E) M E (defBody s_wishes_in) t (f_wishes_in Phi) := ⟨_,
    (jb_cons (js_setO (i := 1) C.nd (je_lst (jc_cons (je_var (i := 0)) jc_nil)))
    (jb_cons (js_set (i := 2) C.nd je_int)
    (jb_cons (js_wh C (jt_lt (jo_var (i := 2)) (JE.c2o (je_len C Z.len (by rfl) (jo_var (i := 1))))) (jb_cons (js_for C (ji_list C (je_call C (OK .wished) hk (D.d .wished).b (D.d .wished).m_wished (D.d .wished).F.kp  (by rfl) (jc_cons (je_ix C (jo_var (i := 1)) (jo_var (i := 2))) jc_nil))) (jg_name (i := 3) C.nd) (jb_one (js_if (jt_ni C (jo_var (i := 3)) (jo_var (i := 1))) (jb_one (js_appX (i := 1) C (jo_var (i := 1)) (je_var (i := 3)))) jb_nil)))
    (jb_one (js_set (i := 2) C.nd (JE.f2c (je_add C (jo_var (i := 2)) (JE.c2o je_int)))))))
    (jb_one (js_retVO (jo_var (i := 1)))))))⟩
theorem d_pasts_in (D : DD K mg Cc fa fdd) (Z : ZZ mg) (CP_ : CP K mg M Cc) (OK : ∀ i : Nm, FnOk P w K mg base (L2.CX P w) j (fa i) (fdd i) (psN i) (spF K M (Phi i))) (hk : j ≤ k) (cdv : Value) (A : Around) (outer : List Env) (s : Shared) (H : Hp) (E : XK) (C : CxF K (cxOf (L2.CX P w) P w K mg base N_pasts_in (qlS .pasts_in) (defScope s_pasts_in) (fa .pasts_in) cdv A outer s H E) E k)
    (tk : Takes (cxOf (L2.CX P w) P w K mg base N_pasts_in (qlS .pasts_in) (defScope s_pasts_in) (fa .pasts_in) cdv A outer s H E) (fun cls d _ H => E cls d H)) : ∃ t, JB K (cxOf (L2.CX P w) P w K mg base N_pasts_in (qlS .pasts_in) (defScope s_pasts_in) (fa .pasts_in) cdv A outer s H E) M E (defBody s_pasts_in) t (f_pasts_in Phi) := ⟨_,
    (jb_cons (js_setO (i := 1) C.nd (je_lst jc_nil))
    (jb_cons (js_for C (ji_list C (je_call C (OK .parts_of) hk (D.d .parts_of).b (D.d .parts_of).m_parts_of (D.d .parts_of).F.kp  (by rfl) (jc_cons (je_var (i := 0)) jc_nil))) (jg_name (i := 2) C.nd) (jb_one (js_for C (ji_list C (je_call C (OK .pasts_in) hk (D.d .pasts_in).b (D.d .pasts_in).m_pasts_in (D.d .pasts_in).F.kp  (by rfl) (jc_cons (je_var (i := 2)) jc_nil))) (jg_name (i := 3) C.nd) (jb_one (js_if (jt_ni C (jo_var (i := 3)) (jo_var (i := 1))) (jb_one (js_appX (i := 1) C (jo_var (i := 1)) (je_var (i := 3)))) jb_nil)))))
    (jb_cons (js_if (JW.jt (jw_and (jt_in C (JE.c2o (je_ix C (jo_var (i := 0)) (JE.c2o je_int))) (JE.c2o (je_tup (jc_cons je_str (jc_cons je_str jc_nil))))) (jw_and1 (jt_ni C (jo_var (i := 0)) (jo_var (i := 1)))))) (jb_one (js_appX (i := 1) C (jo_var (i := 1)) (je_var (i := 0)))) jb_nil)
    (jb_one (js_retVO (jo_var (i := 1)))))))⟩
theorem d_marks_in (D : DD K mg Cc fa fdd) (Z : ZZ mg) (CP_ : CP K mg M Cc) (OK : ∀ i : Nm, FnOk P w K mg base (L2.CX P w) j (fa i) (fdd i) (psN i) (spF K M (Phi i))) (hk : j ≤ k) (cdv : Value) (A : Around) (outer : List Env) (s : Shared) (H : Hp) (E : XK) (C : CxF K (cxOf (L2.CX P w) P w K mg base N_marks_in (qlS .marks_in) (defScope s_marks_in) (fa .marks_in) cdv A outer s H E) E k)
    (tk : Takes (cxOf (L2.CX P w) P w K mg base N_marks_in (qlS .marks_in) (defScope s_marks_in) (fa .marks_in) cdv A outer s H E) (fun cls d _ H => E cls d H)) : ∃ t, JB K (cxOf (L2.CX P w) P w K mg base N_marks_in (qlS .marks_in) (defScope s_marks_in) (fa .marks_in) cdv A outer s H E) M E (defBody s_marks_in) t (f_marks_in Phi) := ⟨_,
    (jb_cons (js_if (jt_eq C (JE.c2o (je_ix C (jo_var (i := 0)) (JE.c2o je_int))) (JE.c2o je_str)) (jb_one (js_ret (JE.f2c (je_lst (jc_cons je_str (jc_cons (je_ix C (jo_var (i := 0)) (JE.c2o je_int)) jc_nil)))))) jb_nil)
    (jb_cons (js_setO (i := 1) C.nd (je_lst (jc_cons je_str jc_nil)))
    (jb_cons (js_for C (ji_list C (je_call C (OK .parts_of) hk (D.d .parts_of).b (D.d .parts_of).m_parts_of (D.d .parts_of).F.kp  (by rfl) (jc_cons (je_var (i := 0)) jc_nil))) (jg_name (i := 2) C.nd) (jb_one (js_setO (i := 1) C.nd (je_sortset C Z.sorted (by rfl) Z.set (by rfl) (JE.f2o (je_add C (jo_var (i := 1)) (JE.c2o (je_call C (OK .marks_in) hk (D.d .marks_in).b (D.d .marks_in).m_marks_in (D.d .marks_in).F.kp  (by rfl) (jc_cons (je_var (i := 2)) jc_nil)))))))))
    (jb_one (js_retVO (jo_var (i := 1)))))))⟩
theorem d_l_cell_at (D : DD K mg Cc fa fdd) (Z : ZZ mg) (CP_ : CP K mg M Cc) (OK : ∀ i : Nm, FnOk P w K mg base (L2.CX P w) j (fa i) (fdd i) (psN i) (spF K M (Phi i))) (hk : j ≤ k) (cdv : Value) (A : Around) (outer : List Env) (s : Shared) (H : Hp) (E : XK) (C : CxF K (cxOf (L2.CX P w) P w K mg base N_l_cell_at (qlS .l_cell_at) (defScope s_l_cell_at) (fa .l_cell_at) cdv A outer s H E) E k)
    (tk : Takes (cxOf (L2.CX P w) P w K mg base N_l_cell_at (qlS .l_cell_at) (defScope s_l_cell_at) (fa .l_cell_at) cdv A outer s H E) (fun cls d _ H => E cls d H)) : ∃ t, JB K (cxOf (L2.CX P w) P w K mg base N_l_cell_at (qlS .l_cell_at) (defScope s_l_cell_at) (fa .l_cell_at) cdv A outer s H E) M E (defBody s_l_cell_at) t (f_l_cell_at Phi) := ⟨_,
    (jb_cons (js_if (jt_lt (jo_var (i := 1)) (JE.c2o (je_len C Z.len (by rfl) (jo_var (i := 0))))) (jb_one (js_ret (je_ix C (jo_var (i := 0)) (jo_var (i := 1))))) jb_nil)
    (jb_one (js_ret je_int)))⟩
theorem d_l_names (D : DD K mg Cc fa fdd) (Z : ZZ mg) (CP_ : CP K mg M Cc) (OK : ∀ i : Nm, FnOk P w K mg base (L2.CX P w) j (fa i) (fdd i) (psN i) (spF K M (Phi i))) (hk : j ≤ k) (cdv : Value) (A : Around) (outer : List Env) (s : Shared) (H : Hp) (E : XK) (C : CxF K (cxOf (L2.CX P w) P w K mg base N_l_names (qlS .l_names) (defScope s_l_names) (fa .l_names) cdv A outer s H E) E k)
    (tk : Takes (cxOf (L2.CX P w) P w K mg base N_l_names (qlS .l_names) (defScope s_l_names) (fa .l_names) cdv A outer s H E) (fun cls d _ H => E cls d H)) : ∃ t, JB K (cxOf (L2.CX P w) P w K mg base N_l_names (qlS .l_names) (defScope s_l_names) (fa .l_names) cdv A outer s H E) M E (defBody s_l_names) t (f_l_names Phi) := ⟨_,
    (jb_cons (js_set (i := 1) C.nd je_str)
    (jb_cons (js_set (i := 2) C.nd (je_join C (JE.c2o je_str) (JE.f2o (je_lc (own := [("_law_j", 8)]) C (ji_rg1 Z.range (by rfl) (JE.c2o je_int)) (blkOk_by (N := N_l_names) (sc := defScope s_l_names) (by decide +kernel)) (by exact fun s1 H1 Cc1 cl1 fp1 => (jg_name (i := 8) (CxF.blk C s1 H1 _ (compEnvC _ cl1 Cc1 _) fp1).nd)) (by exact fun s1 H1 Cc1 cl1 fp1 => jts_nil) (by exact fun s1 H1 Cc1 cl1 fp1 => (je_ix (CxF.blk C s1 H1 _ (compEnvC _ cl1 Cc1 _) fp1) (jo_var (i := 1)) (JE.c2o (je_mod (JE.f2o (je_add (CxF.blk C s1 H1 _ (compEnvC _ cl1 Cc1 _) fp1) (JE.c2o (je_div (jo_var (i := 0)) (JE.c2o je_int))) (JE.c2o (je_mul (JE.c2o je_int) (jo_var (i := 8)))))) (JE.c2o je_int)))))))))
    (jb_cons (js_if (jt_eq C (JE.c2o (je_mod (jo_var (i := 0)) (JE.c2o je_int))) (JE.c2o je_int)) (jb_cons (js_set (i := 3) C.nd (JE.f2c (je_add C (JE.c2o je_int) (JE.c2o (je_mod (JE.c2o (je_div (jo_var (i := 0)) (JE.c2o je_int))) (JE.c2o je_int))))))
    (jb_one (js_ret (JE.f2c (je_lc (own := [("_law_k", 6)]) C (ji_rg1 Z.range (by rfl) (JE.c2o je_int)) (blkOk_by (N := N_l_names) (sc := defScope s_l_names) (by decide +kernel)) (by exact fun s2 H2 Cc2 cl2 fp2 => (jg_name (i := 6) (CxF.blk C s2 H2 _ (compEnvC _ cl2 Cc2 _) fp2).nd)) (by exact fun s2 H2 Cc2 cl2 fp2 => jts_nil) (by exact fun s2 H2 Cc2 cl2 fp2 => (JE.f2c (je_slice (CxF.blk C s2 H2 _ (compEnvC _ cl2 Cc2 _) fp2) (jo_var (i := 2)) ji_no (ji_sm (JE.f2o (je_add (CxF.blk C s2 H2 _ (compEnvC _ cl2 Cc2 _) fp2) (jo_var (i := 3)) (jo_var (i := 6))))))))))))) jb_nil)
    (jb_cons (js_set (i := 3) C.nd (je_mod (JE.c2o (je_div (jo_var (i := 0)) (JE.c2o je_int))) (JE.c2o je_int)))
    (jb_cons (js_set (i := 4) C.nd (je_mod (JE.c2o (je_div (jo_var (i := 0)) (JE.c2o je_int))) (JE.f2o (je_add C (jo_var (i := 3)) (JE.c2o je_int)))))
    (jb_cons (js_setO (i := 5) C.nd (je_lst jc_nil))
    (jb_cons (js_for C (ji_rg1 Z.range (by rfl) (JE.c2o je_int)) (jg_name (i := 6) C.nd) (jb_cons (js_set (i := 7) C.nd (je_ix C (jo_var (i := 1)) (JE.c2o (je_mod (JE.f2o (je_add C (JE.c2o (je_div (jo_var (i := 0)) (JE.c2o je_int))) (JE.c2o (je_mul (JE.c2o je_int) (jo_var (i := 6)))))) (JE.c2o je_int)))))
    (jb_one (js_appX (i := 5) C (jo_var (i := 5)) (JE.f2c (je_add C (JE.f2o (je_add C (JE.f2o (je_slice C (jo_var (i := 2)) ji_no (ji_sm (jo_var (i := 4))))) (jo_var (i := 7)))) (JE.f2o (je_slice C (jo_var (i := 2)) (ji_sm (jo_var (i := 4))) (ji_sm (jo_var (i := 3)))))))))))
    (jb_one (js_retV (jo_var (i := 5)))))))))))⟩
theorem d_l_all (D : DD K mg Cc fa fdd) (Z : ZZ mg) (CP_ : CP K mg M Cc) (OK : ∀ i : Nm, FnOk P w K mg base (L2.CX P w) j (fa i) (fdd i) (psN i) (spF K M (Phi i))) (hk : j ≤ k) (cdv : Value) (A : Around) (outer : List Env) (s : Shared) (H : Hp) (E : XK) (C : CxF K (cxOf (L2.CX P w) P w K mg base N_l_all (qlS .l_all) (defScope s_l_all) (fa .l_all) cdv A outer s H E) E k)
    (tk : Takes (cxOf (L2.CX P w) P w K mg base N_l_all (qlS .l_all) (defScope s_l_all) (fa .l_all) cdv A outer s H E) (fun cls d _ H => E cls d H)) : ∃ t, JB K (cxOf (L2.CX P w) P w K mg base N_l_all (qlS .l_all) (defScope s_l_all) (fa .l_all) cdv A outer s H E) M E (defBody s_l_all) t (f_l_all Phi) := ⟨_,
    (jb_cons (js_set (i := 1) C.nd (JE.f2c (je_lst (jc_cons (je_var (i := 0)) jc_nil))))
    (jb_cons (js_for C (ji_tup C (JE.f2c (je_slice C (jo_var (i := 0)) (ji_sm (JE.c2o je_int)) ji_no))) (jg_name (i := 2) C.nd) (jb_one (js_if (jt_val (je_isi (T := "tuple") C Z.isinstance (by rfl) Z.tuple (by rfl) (by decide +kernel) (by decide) (jo_var (i := 2)))) (jb_one (js_set (i := 1) C.nd (JE.f2c (je_add C (jo_var (i := 1)) (JE.c2o (je_call C (OK .l_all) hk (D.d .l_all).b (D.d .l_all).m_l_all (D.d .l_all).F.kp  (by rfl) (jc_cons (je_var (i := 2)) jc_nil))))))) jb_nil)))
    (jb_one (js_ret (je_var (i := 1))))))⟩
theorem d_l_wishes (D : DD K mg Cc fa fdd) (Z : ZZ mg) (CP_ : CP K mg M Cc) (OK : ∀ i : Nm, FnOk P w K mg base (L2.CX P w) j (fa i) (fdd i) (psN i) (spF K M (Phi i))) (hk : j ≤ k) (cdv : Value) (A : Around) (outer : List Env) (s : Shared) (H : Hp) (E : XK) (C : CxF K (cxOf (L2.CX P w) P w K mg base N_l_wishes (qlS .l_wishes) (defScope s_l_wishes) (fa .l_wishes) cdv A outer s H E) E k)
    (tk : Takes (cxOf (L2.CX P w) P w K mg base N_l_wishes (qlS .l_wishes) (defScope s_l_wishes) (fa .l_wishes) cdv A outer s H E) (fun cls d _ H => E cls d H)) : ∃ t, JB K (cxOf (L2.CX P w) P w K mg base N_l_wishes (qlS .l_wishes) (defScope s_l_wishes) (fa .l_wishes) cdv A outer s H E) M E (defBody s_l_wishes) t (f_l_wishes Phi) := ⟨_,
    (jb_cons (js_set (i := 1) C.nd (JE.f2c (je_lst (jc_cons (je_var (i := 0)) jc_nil))))
    (jb_cons (js_for C (ji_list C (je_call C (OK .l_all) hk (D.d .l_all).b (D.d .l_all).m_l_all (D.d .l_all).F.kp  (by rfl) (jc_cons (je_var (i := 0)) jc_nil))) (jg_name (i := 2) C.nd) (jb_cons (js_set (i := 3) C.nd (JE.f2c (je_lst jc_nil)))
    (jb_cons (js_if (jt_eq C (JE.c2o (je_ix C (jo_var (i := 2)) (JE.c2o je_int))) (JE.c2o je_str)) (jb_one (js_set (i := 3) C.nd (JE.f2c (je_lst (jc_cons (je_ix C (jo_var (i := 2)) (JE.c2o je_int)) jc_nil))))) (jb_one (js_if (jt_eq C (JE.c2o (je_ix C (jo_var (i := 2)) (JE.c2o je_int))) (JE.c2o je_str)) (jb_one (js_set (i := 3) C.nd (JE.f2c (je_lst (jc_cons (je_var (i := 2)) jc_nil))))) (jb_one (js_if (jt_eq C (JE.c2o (je_ix C (jo_var (i := 2)) (JE.c2o je_int))) (JE.c2o je_str)) (jb_one (js_setLc (i := 3) (own := [("_law_k", 5)]) C (ji_rg1 Z.range (by rfl) (JE.c2o (je_ix C (jo_var (i := 2)) (JE.c2o je_int)))) (blkOk_by (N := N_l_wishes) (sc := defScope s_l_wishes) (by decide +kernel)) (by exact fun s1 H1 Cc1 cl1 fp1 => (jg_name (i := 5) (CxF.blk C s1 H1 _ (compEnvC _ cl1 Cc1 _) fp1).nd)) (by exact fun s1 H1 Cc1 cl1 fp1 => jts_nil) (by exact fun s1 H1 Cc1 cl1 fp1 => (je_tup (jc_cons je_str (jc_cons (je_var (i := 5)) (jc_cons (je_ix (CxF.blk C s1 H1 _ (compEnvC _ cl1 Cc1 _) fp1) (jo_var (i := 2)) (JE.c2o je_int)) jc_nil))))) (sw_true rfl rfl rfl (by decide +kernel)))) jb_nil)))))
    (jb_one (js_set (i := 1) C.nd (JE.f2c (je_add C (jo_var (i := 1)) (JE.f2o (je_lc (own := [("_law_other", 4)]) C (ji_list C (je_var (i := 3))) (blkOk_by (N := N_l_wishes) (sc := defScope s_l_wishes) (by decide +kernel)) (by exact fun s2 H2 Cc2 cl2 fp2 => (jg_name (i := 4) (CxF.blk C s2 H2 _ (compEnvC _ cl2 Cc2 _) fp2).nd)) (by exact fun s2 H2 Cc2 cl2 fp2 => (jts_one (jt_ni (CxF.blk C s2 H2 _ (compEnvC _ cl2 Cc2 _) fp2) (jo_var (i := 4)) (jo_var (i := 1))))) (by exact fun s2 H2 Cc2 cl2 fp2 => (je_var (i := 4))))))))))))
    (jb_one (js_ret (je_var (i := 1))))))⟩
theorem d_l_fit (D : DD K mg Cc fa fdd) (Z : ZZ mg) (CP_ : CP K mg M Cc) (OK : ∀ i : Nm, FnOk P w K mg base (L2.CX P w) j (fa i) (fdd i) (psN i) (spF K M (Phi i))) (hk : j ≤ k) (cdv : Value) (A : Around) (outer : List Env) (s : Shared) (H : Hp) (E : XK) (C : CxF K (cxOf (L2.CX P w) P w K mg base N_l_fit (qlS .l_fit) (defScope s_l_fit) (fa .l_fit) cdv A outer s H E) E k)
    (tk : Takes (cxOf (L2.CX P w) P w K mg base N_l_fit (qlS .l_fit) (defScope s_l_fit) (fa .l_fit) cdv A outer s H E) (fun cls d _ H => E cls d H)) : ∃ t, JB K (cxOf (L2.CX P w) P w K mg base N_l_fit (qlS .l_fit) (defScope s_l_fit) (fa .l_fit) cdv A outer s H E) M E (defBody s_l_fit) t (f_l_fit Phi) := ⟨_,
    (jb_cons (js_wh C (jt_gt (JE.c2o (je_len C Z.len (by rfl) (JE.c2o (je_call C (OK .l_wishes) hk (D.d .l_wishes).b (D.d .l_wishes).m_l_wishes (D.d .l_wishes).F.kp  (by rfl) (jc_cons (je_var (i := 0)) jc_nil))))) (jo_var (i := 1))) (jb_one (js_set (i := 0) C.nd (je_ix C (jo_var (i := 0)) (JE.c2o (je_neg (JE.c2o je_int)))))))
    (jb_one (js_ret (je_var (i := 0)))))⟩
theorem d_l_built (D : DD K mg Cc fa fdd) (Z : ZZ mg) (CP_ : CP K mg M Cc) (OK : ∀ i : Nm, FnOk P w K mg base (L2.CX P w) j (fa i) (fdd i) (psN i) (spF K M (Phi i))) (OX : ∀ i : Nx, FnOk P w K mg base (L2.CX P w) j (fa i.n) (fdd i.n) (psN i.n) (spS K M (Psy i))) (hk : j ≤ k) (cdv : Value) (A : Around) (outer : List Env) (s : Shared) (H : Hp) (E : XK) (C : CxF K (cxOf (L2.CX P w) P w K mg base N_l_built (qlS .l_built) (defScope s_l_built) (fa .l_built) cdv A outer s H E) E k)
    (tk : Takes (cxOf (L2.CX P w) P w K mg base N_l_built (qlS .l_built) (defScope s_l_built) (fa .l_built) cdv A outer s H E) (fun cls d _ H => E cls d H)) : ∃ t, JB K (cxOf (L2.CX P w) P w K mg base N_l_built (qlS .l_built) (defScope s_l_built) (fa .l_built) cdv A outer s H E) M E (defBody s_l_built) t (f_l_built Phi Psy) := ⟨_,
    (jb_cons (js_setO (i := 3) C.nd (je_lst (jc_cons je_int jc_nil)))
    (jb_cons (js_set (i := 4) C.nd (JE.f2c (je_add C (JE.c2o je_int) (JE.c2o (je_int1 Z.int (by rfl) (JE.c2o (je_eq C (JE.c2o (je_mod (JE.c2o (je_call C (OK .l_cell_at) hk (D.d .l_cell_at).b (D.d .l_cell_at).m_l_cell_at (D.d .l_cell_at).F.kp  (by rfl) (jc_cons (je_var (i := 0)) (jc_cons je_int jc_nil)))) (JE.c2o je_int))) (JE.c2o je_int))))))))
    (jb_one (js_retX 3 (xe_callP C (OK .l_fit) hk (D.d .l_fit).b (D.d .l_fit).m_l_fit (D.d .l_fit).F.kp  (by rfl) (xa_cons (xe_call C (OX .l_made) hk (D.d .l_made).b (D.d .l_made).m_l_made (D.d .l_made).F.kp  (by rfl) (je_var (i := 0)) (JE.pe (K := K) (M := M) (E := E) (jo_var (i := 3))) (jc_cons (je_var (i := 1)) (jc_cons (je_var (i := 4)) (jc_cons je_bl jc_nil)))) (xa_cons (xe_of (E := E) (je_var (i := 2))) xa_nil))) (us_callP (usa_cons us_call))))))⟩
theorem d_l_whole (D : DD K mg Cc fa fdd) (Z : ZZ mg) (CP_ : CP K mg M Cc) (OK : ∀ i : Nm, FnOk P w K mg base (L2.CX P w) j (fa i) (fdd i) (psN i) (spF K M (Phi i))) (hk : j ≤ k) (cdv : Value) (A : Around) (outer : List Env) (s : Shared) (H : Hp) (E : XK) (C : CxF K (cxOf (L2.CX P w) P w K mg base N_l_whole (qlS .l_whole) (defScope s_l_whole) (fa .l_whole) cdv A outer s H E) E k)
    (tk : Takes (cxOf (L2.CX P w) P w K mg base N_l_whole (qlS .l_whole) (defScope s_l_whole) (fa .l_whole) cdv A outer s H E) (fun cls d _ H => E cls d H)) : ∃ t, JB K (cxOf (L2.CX P w) P w K mg base N_l_whole (qlS .l_whole) (defScope s_l_whole) (fa .l_whole) cdv A outer s H E) M E (defBody s_l_whole) t (f_l_whole Phi) := ⟨_,
    (jb_one (js_ret (je_and (je_isi (T := "int") C Z.isinstance (by rfl) Z.int (by rfl) (by decide +kernel) (by decide) (jo_var (i := 0))) (je_one (je_not (je_isi (T := "bool") C Z.isinstance (by rfl) Z.bool (by rfl) (by decide +kernel) (by decide) (jo_var (i := 0))))))))⟩
theorem d_l_once (D : DD K mg Cc fa fdd) (Z : ZZ mg) (CP_ : CP K mg M Cc) (OK : ∀ i : Nm, FnOk P w K mg base (L2.CX P w) j (fa i) (fdd i) (psN i) (spF K M (Phi i))) (hk : j ≤ k) (cdv : Value) (A : Around) (outer : List Env) (s : Shared) (H : Hp) (E : XK) (C : CxF K (cxOf (L2.CX P w) P w K mg base N_l_once (qlS .l_once) (defScope s_l_once) (fa .l_once) cdv A outer s H E) E k)
    (tk : Takes (cxOf (L2.CX P w) P w K mg base N_l_once (qlS .l_once) (defScope s_l_once) (fa .l_once) cdv A outer s H E) (fun cls d _ H => E cls d H)) : ∃ t, JB K (cxOf (L2.CX P w) P w K mg base N_l_once (qlS .l_once) (defScope s_l_once) (fa .l_once) cdv A outer s H E) M E (defBody s_l_once) t (f_l_once Phi) := ⟨_,
    (jb_cons (js_if (JW.jt (jw_or (jt_not (jt_val (je_isi (T := "list") C Z.isinstance (by rfl) Z.list (by rfl) (by decide +kernel) (by decide) (jo_var (i := 0))))) (jw_or1 (jt_ne C (JE.c2o (je_len C Z.len (by rfl) (jo_var (i := 0)))) (JE.c2o (je_len C Z.len (by rfl) (jo_var (i := 1)))))))) (jb_one (js_ret je_bl)) jb_nil)
    (jb_one (js_ret (je_all C Z.all (by rfl) (JE.f2o (je_lc (own := [("_law_k", 2), ("_law_one", 3)]) C (ji_enum C Z.enumerate (by rfl) (je_var (i := 0))) (blkOk_by (N := N_l_once) (sc := defScope s_l_once) (by decide +kernel)) (by exact fun s1 H1 Cc1 cl1 fp1 => (jg_two (CxF.blk C s1 H1 _ (compEnvC _ cl1 Cc1 _) fp1) (jg_name (i := 2) (CxF.blk C s1 H1 _ (compEnvC _ cl1 Cc1 _) fp1).nd) (jg_name (i := 3) (CxF.blk C s1 H1 _ (compEnvC _ cl1 Cc1 _) fp1).nd))) (by exact fun s1 H1 Cc1 cl1 fp1 => jts_nil) (by exact fun s1 H1 Cc1 cl1 fp1 => (je_and (je_in (CxF.blk C s1 H1 _ (compEnvC _ cl1 Cc1 _) fp1) (jo_var (i := 3)) (jo_var (i := 1))) (je_one (je_eq (CxF.blk C s1 H1 _ (compEnvC _ cl1 Cc1 _) fp1) (JE.c2o (je_index (CxF.blk C s1 H1 _ (compEnvC _ cl1 Cc1 _) fp1) (jo_var (i := 0)) (jo_var (i := 3)))) (jo_var (i := 2))))))))))))⟩
theorem d_l_pasts (D : DD K mg Cc fa fdd) (Z : ZZ mg) (CP_ : CP K mg M Cc) (OK : ∀ i : Nm, FnOk P w K mg base (L2.CX P w) j (fa i) (fdd i) (psN i) (spF K M (Phi i))) (hk : j ≤ k) (cdv : Value) (A : Around) (outer : List Env) (s : Shared) (H : Hp) (E : XK) (C : CxF K (cxOf (L2.CX P w) P w K mg base N_l_pasts (qlS .l_pasts) (defScope s_l_pasts) (fa .l_pasts) cdv A outer s H E) E k)
    (tk : Takes (cxOf (L2.CX P w) P w K mg base N_l_pasts (qlS .l_pasts) (defScope s_l_pasts) (fa .l_pasts) cdv A outer s H E) (fun cls d _ H => E cls d H)) : ∃ t, JB K (cxOf (L2.CX P w) P w K mg base N_l_pasts (qlS .l_pasts) (defScope s_l_pasts) (fa .l_pasts) cdv A outer s H E) M E (defBody s_l_pasts) t (f_l_pasts Phi) := ⟨_,
    (jb_cons (js_setO (i := 1) C.nd (je_lst jc_nil))
    (jb_cons (js_for C (ji_list C (je_call C (OK .l_all) hk (D.d .l_all).b (D.d .l_all).m_l_all (D.d .l_all).F.kp  (by rfl) (jc_cons (je_var (i := 0)) jc_nil))) (jg_name (i := 2) C.nd) (jb_one (js_if (JW.jt (jw_and (jt_in C (JE.c2o (je_ix C (jo_var (i := 2)) (JE.c2o je_int))) (JE.c2o (je_tup (jc_cons je_str (jc_cons je_str jc_nil))))) (jw_and1 (jt_ni C (jo_var (i := 2)) (jo_var (i := 1)))))) (jb_one (js_appX (i := 1) C (jo_var (i := 1)) (je_var (i := 2)))) jb_nil)))
    (jb_one (js_retV (jo_var (i := 1))))))⟩
theorem d_l_marks (D : DD K mg Cc fa fdd) (Z : ZZ mg) (CP_ : CP K mg M Cc) (OK : ∀ i : Nm, FnOk P w K mg base (L2.CX P w) j (fa i) (fdd i) (psN i) (spF K M (Phi i))) (hk : j ≤ k) (cdv : Value) (A : Around) (outer : List Env) (s : Shared) (H : Hp) (E : XK) (C : CxF K (cxOf (L2.CX P w) P w K mg base N_l_marks (qlS .l_marks) (defScope s_l_marks) (fa .l_marks) cdv A outer s H E) E k)
    (tk : Takes (cxOf (L2.CX P w) P w K mg base N_l_marks (qlS .l_marks) (defScope s_l_marks) (fa .l_marks) cdv A outer s H E) (fun cls d _ H => E cls d H)) : ∃ t, JB K (cxOf (L2.CX P w) P w K mg base N_l_marks (qlS .l_marks) (defScope s_l_marks) (fa .l_marks) cdv A outer s H E) M E (defBody s_l_marks) t (f_l_marks Phi) := ⟨_,
    (jb_cons (js_setO (i := 1) C.nd (je_lst (jc_cons je_str jc_nil)))
    (jb_cons (js_for C (ji_list C (je_call C (OK .l_all) hk (D.d .l_all).b (D.d .l_all).m_l_all (D.d .l_all).F.kp  (by rfl) (jc_cons (je_var (i := 0)) jc_nil))) (jg_name (i := 2) C.nd) (jb_one (js_if (JW.jt (jw_and (jt_eq C (JE.c2o (je_ix C (jo_var (i := 2)) (JE.c2o je_int))) (JE.c2o je_str)) (jw_and1 (jt_ni C (JE.c2o (je_ix C (jo_var (i := 2)) (JE.c2o je_int))) (jo_var (i := 1)))))) (jb_one (js_appX (i := 1) C (jo_var (i := 1)) (je_ix C (jo_var (i := 2)) (JE.c2o je_int)))) jb_nil)))
    (jb_one (js_ret (JE.f2c (je_sorted C Z.sorted (by rfl) (jo_var (i := 1))))))))⟩
theorem d_l_inner_first (D : DD K mg Cc fa fdd) (Z : ZZ mg) (CP_ : CP K mg M Cc) (OK : ∀ i : Nm, FnOk P w K mg base (L2.CX P w) j (fa i) (fdd i) (psN i) (spF K M (Phi i))) (hk : j ≤ k) (cdv : Value) (A : Around) (outer : List Env) (s : Shared) (H : Hp) (E : XK) (C : CxF K (cxOf (L2.CX P w) P w K mg base N_l_inner_first (qlS .l_inner_first) (defScope s_l_inner_first) (fa .l_inner_first) cdv A outer s H E) E k)
    (tk : Takes (cxOf (L2.CX P w) P w K mg base N_l_inner_first (qlS .l_inner_first) (defScope s_l_inner_first) (fa .l_inner_first) cdv A outer s H E) (fun cls d _ H => E cls d H)) : ∃ t, JB K (cxOf (L2.CX P w) P w K mg base N_l_inner_first (qlS .l_inner_first) (defScope s_l_inner_first) (fa .l_inner_first) cdv A outer s H E) M E (defBody s_l_inner_first) t (f_l_inner_first Phi) := ⟨_,
    (jb_cons (js_for C (ji_rg1 Z.range (by rfl) (JE.c2o (je_len C Z.len (by rfl) (jo_var (i := 0))))) (jg_name (i := 1) C.nd) (jb_one (js_for C (ji_list C (JE.f2c (je_slice C (JE.c2o (je_call C (OK .l_all) hk (D.d .l_all).b (D.d .l_all).m_l_all (D.d .l_all).F.kp  (by rfl) (jc_cons (je_ix C (jo_var (i := 0)) (jo_var (i := 1))) jc_nil))) (ji_sm (JE.c2o je_int)) ji_no))) (jg_name (i := 2) C.nd) (jb_one (js_if (JW.jt (jw_and (jt_in C (jo_var (i := 2)) (jo_var (i := 0))) (jw_and1 (jt_gt (JE.c2o (je_index C (jo_var (i := 0)) (jo_var (i := 2)))) (jo_var (i := 1)))))) (jb_one (js_ret je_bl)) jb_nil)))))
    (jb_one (js_ret je_bl)))⟩
theorem dF_wishes_in (D : DD K mg Cc fa fdd) (Z : ZZ mg) (CP_ : CP K mg M Cc) (OK : ∀ i : Nm, FnOk P w K mg base (L2.CX P w) j (fa i) (fdd i) (psN i) (spF K M (Phi i))) (hk : j ≤ k) (cdv : Value) (A : Around) (outer : List Env) (s : Shared) (H : Hp) (E : XK) (C : CxF K (cxOf (L2.CX P w) P w K mg base N_wishes_in (qlS .wishes_in) (defScope s_wishes_in) (fa .wishes_in) cdv A outer s H E) E k)
    (tk : Takes (cxOf (L2.CX P w) P w K mg base N_wishes_in (qlS .wishes_in) (defScope s_wishes_in) (fa .wishes_in) cdv A outer s H E) (fun cls d _ H => E cls d H)) : ∃ t, JBF K (cxOf (L2.CX P w) P w K mg base N_wishes_in (qlS .wishes_in) (defScope s_wishes_in) (fa .wishes_in) cdv A outer s H E) M E (defBody s_wishes_in) t (f_wishes_in Phi) := ⟨_,
    (jbf_cons (jsf_lift (js_setO (i := 1) C.nd (je_lst (jc_cons (je_var (i := 0)) jc_nil))) (nr_setO _))
    (jbf_cons (jsf_lift (js_set (i := 2) C.nd je_int) (nr_set _))
    (jbf_cons (jsf_lift (js_wh C (jt_lt (jo_var (i := 2)) (JE.c2o (je_len C Z.len (by rfl) (jo_var (i := 1))))) (jb_cons (js_for C (ji_list C (je_call C (OK .wished) hk (D.d .wished).b (D.d .wished).m_wished (D.d .wished).F.kp  (by rfl) (jc_cons (je_ix C (jo_var (i := 1)) (jo_var (i := 2))) jc_nil))) (jg_name (i := 3) C.nd) (jb_one (js_if (jt_ni C (jo_var (i := 3)) (jo_var (i := 1))) (jb_one (js_appX (i := 1) C (jo_var (i := 1)) (je_var (i := 3)))) jb_nil)))
    (jb_one (js_set (i := 2) C.nd (JE.f2c (je_add C (jo_var (i := 2)) (JE.c2o je_int))))))) (nr_wh (nr_seq (nr_for (nr_if (nr_app _) nr_next)) (nr_set _))))
    (jbf_one (jsf_retO (jo_var (i := 1)))))))⟩
theorem dF_pasts_in (D : DD K mg Cc fa fdd) (Z : ZZ mg) (CP_ : CP K mg M Cc) (OK : ∀ i : Nm, FnOk P w K mg base (L2.CX P w) j (fa i) (fdd i) (psN i) (spF K M (Phi i))) (hk : j ≤ k) (cdv : Value) (A : Around) (outer : List Env) (s : Shared) (H : Hp) (E : XK) (C : CxF K (cxOf (L2.CX P w) P w K mg base N_pasts_in (qlS .pasts_in) (defScope s_pasts_in) (fa .pasts_in) cdv A outer s H E) E k)
    (tk : Takes (cxOf (L2.CX P w) P w K mg base N_pasts_in (qlS .pasts_in) (defScope s_pasts_in) (fa .pasts_in) cdv A outer s H E) (fun cls d _ H => E cls d H)) : ∃ t, JBF K (cxOf (L2.CX P w) P w K mg base N_pasts_in (qlS .pasts_in) (defScope s_pasts_in) (fa .pasts_in) cdv A outer s H E) M E (defBody s_pasts_in) t (f_pasts_in Phi) := ⟨_,
    (jbf_cons (jsf_lift (js_setO (i := 1) C.nd (je_lst jc_nil)) (nr_setO _))
    (jbf_cons (jsf_lift (js_for C (ji_list C (je_call C (OK .parts_of) hk (D.d .parts_of).b (D.d .parts_of).m_parts_of (D.d .parts_of).F.kp  (by rfl) (jc_cons (je_var (i := 0)) jc_nil))) (jg_name (i := 2) C.nd) (jb_one (js_for C (ji_list C (je_call C (OK .pasts_in) hk (D.d .pasts_in).b (D.d .pasts_in).m_pasts_in (D.d .pasts_in).F.kp  (by rfl) (jc_cons (je_var (i := 2)) jc_nil))) (jg_name (i := 3) C.nd) (jb_one (js_if (jt_ni C (jo_var (i := 3)) (jo_var (i := 1))) (jb_one (js_appX (i := 1) C (jo_var (i := 1)) (je_var (i := 3)))) jb_nil))))) (nr_for (nr_for (nr_if (nr_app _) nr_next))))
    (jbf_cons (jsf_lift (js_if (JW.jt (jw_and (jt_in C (JE.c2o (je_ix C (jo_var (i := 0)) (JE.c2o je_int))) (JE.c2o (je_tup (jc_cons je_str (jc_cons je_str jc_nil))))) (jw_and1 (jt_ni C (jo_var (i := 0)) (jo_var (i := 1)))))) (jb_one (js_appX (i := 1) C (jo_var (i := 1)) (je_var (i := 0)))) jb_nil) (nr_if (nr_app _) nr_next))
    (jbf_one (jsf_retO (jo_var (i := 1)))))))⟩
theorem dF_marks_in (D : DD K mg Cc fa fdd) (Z : ZZ mg) (CP_ : CP K mg M Cc) (OK : ∀ i : Nm, FnOk P w K mg base (L2.CX P w) j (fa i) (fdd i) (psN i) (spF K M (Phi i))) (hk : j ≤ k) (cdv : Value) (A : Around) (outer : List Env) (s : Shared) (H : Hp) (E : XK) (C : CxF K (cxOf (L2.CX P w) P w K mg base N_marks_in (qlS .marks_in) (defScope s_marks_in) (fa .marks_in) cdv A outer s H E) E k)
    (tk : Takes (cxOf (L2.CX P w) P w K mg base N_marks_in (qlS .marks_in) (defScope s_marks_in) (fa .marks_in) cdv A outer s H E) (fun cls d _ H => E cls d H)) : ∃ t, JBF K (cxOf (L2.CX P w) P w K mg base N_marks_in (qlS .marks_in) (defScope s_marks_in) (fa .marks_in) cdv A outer s H E) M E (defBody s_marks_in) t (f_marks_in Phi) := ⟨_,
    (jbf_cons (jsf_if (jt_eq C (JE.c2o (je_ix C (jo_var (i := 0)) (JE.c2o je_int))) (JE.c2o je_str)) (jbf_one (jsf_retF (je_lst (jc_cons je_str (jc_cons (je_ix C (jo_var (i := 0)) (JE.c2o je_int)) jc_nil))))) jbf_nil)
    (jbf_cons (jsf_lift (js_setO (i := 1) C.nd (je_lst (jc_cons je_str jc_nil))) (nr_setO _))
    (jbf_cons (jsf_lift (js_for C (ji_list C (je_call C (OK .parts_of) hk (D.d .parts_of).b (D.d .parts_of).m_parts_of (D.d .parts_of).F.kp  (by rfl) (jc_cons (je_var (i := 0)) jc_nil))) (jg_name (i := 2) C.nd) (jb_one (js_setO (i := 1) C.nd (je_sortset C Z.sorted (by rfl) Z.set (by rfl) (JE.f2o (je_add C (jo_var (i := 1)) (JE.c2o (je_call C (OK .marks_in) hk (D.d .marks_in).b (D.d .marks_in).m_marks_in (D.d .marks_in).F.kp  (by rfl) (jc_cons (je_var (i := 2)) jc_nil))))))))) (nr_for (nr_setO _)))
    (jbf_one (jsf_retO (jo_var (i := 1)))))))⟩
theorem d_law (D : DD K mg Cc fa fdd) (Z : ZZ mg) (CP_ : CP K mg M Cc) {fL : Addr} (OK : ∀ i : Nm, FnOk P w K mg base (L2.CX P w) j (fa i) (fdd i) (psN i) (spF K M (Phi i))) (OF : ∀ i : Nm, frs i = true → FnOk P w K mg base (L2.CX P w) j (fa i) (fdd i) (psN i) (spFr K M (Phi i))) (MK : Mk K Cc fI) (OI : FnOk P w K mg base (L2.CX P w) ji fI fdI P_Plan___init__ (spI K M Cc psi_)) (hI : ji + 1 ≤ k) (bI : Binds K fdI P_Plan___init__ []) (hk : j ≤ k) (cdv : Value) (A : Around) (outer : List Env) (s : Shared) (H : Hp) (E : XK) (C : CxF K (cxOf (L2.CX P w) P w K mg base N_law "law" (defScope s_law) fL cdv A outer s H E) E k)
    (tk : Takes (cxOf (L2.CX P w) P w K mg base N_law "law" (defScope s_law) fL cdv A outer s H E) (fun cls d _ H => E cls d H)) : ∃ t0 t1 b3 b4 b5 tz tW tP tM t3 t4 t5, J3 K (cxOf (L2.CX P w) P w K mg base N_law "law" (defScope s_law) fL cdv A outer s H E) M E (defBody s_law) t0 t1 b3 b4 b5 tz tW tP tM t3 t4 t5 (f_law0 Phi psi_) (f_law1 Phi psi_) (f_lawz Phi psi_) (f_lawW Phi psi_) (f_lawP Phi psi_) (f_lawM Phi psi_) (f_law3 Phi psi_) (f_law4 Phi psi_) (f_law5 Phi psi_) := ⟨_, _, _, _, _, _, _, _, _, _, _, _,
    (j3_of C.nd (js_set (i := 1) C.nd (je_call C (OK .l_names) hk (D.d .l_names).b (D.d .l_names).m_l_names (D.d .l_names).F.kp  (by rfl) (jc_cons (je_call C (OK .l_cell_at) hk (D.d .l_cell_at).b (D.d .l_cell_at).m_l_cell_at (D.d .l_cell_at).F.kp  (by rfl) (jc_cons (je_var (i := 0)) (jc_cons je_int jc_nil))) jc_nil))) (js_set (i := 2) C.nd (je_call C (OK .l_built) hk (D.d .l_built).b (D.d .l_built).m_l_built (D.d .l_built).F.kp  (by rfl) (jc_cons (je_var (i := 0)) (jc_cons (je_var (i := 1)) (jc_cons je_int jc_nil))))) (je_callF C (OF .wishes_in rfl) hk (D.d .wishes_in).b (D.d .wishes_in).m_wishes_in (D.d .wishes_in).F.kp  (by rfl) (jc_cons (je_var (i := 2)) jc_nil)) (je_callF C (OF .pasts_in rfl) hk (D.d .pasts_in).b (D.d .pasts_in).m_pasts_in (D.d .pasts_in).F.kp  (by rfl) (jc_cons (je_var (i := 2)) jc_nil)) (je_callF C (OF .marks_in rfl) hk (D.d .marks_in).b (D.d .marks_in).m_marks_in (D.d .marks_in).F.kp  (by rfl) (jc_cons (je_var (i := 2)) jc_nil)) (JW.jt (jw_or (jt_not (jt_val (je_call C (OK .l_once) hk (D.d .l_once).b (D.d .l_once).m_l_once (D.d .l_once).F.kp  (by rfl) (jc_cons (je_ix C (jo_var (i := 3)) (JE.c2o je_int)) (jc_cons (je_call C (OK .l_wishes) hk (D.d .l_wishes).b (D.d .l_wishes).m_l_wishes (D.d .l_wishes).F.kp  (by rfl) (jc_cons (je_var (i := 2)) jc_nil)) jc_nil))))) (jw_or1 (jt_ne C (JE.c2o (je_ix C (JE.c2o (je_ix C (jo_var (i := 3)) (JE.c2o je_int))) (JE.c2o je_int))) (jo_var (i := 2)))))) (jb_one (js_ret je_bl)) (JW.jt (jw_or (jt_not (jt_val (je_call C (OK .l_once) hk (D.d .l_once).b (D.d .l_once).m_l_once (D.d .l_once).F.kp  (by rfl) (jc_cons (je_ix C (jo_var (i := 3)) (JE.c2o je_int)) (jc_cons (je_call C (OK .l_pasts) hk (D.d .l_pasts).b (D.d .l_pasts).m_l_pasts (D.d .l_pasts).F.kp  (by rfl) (jc_cons (je_var (i := 2)) jc_nil)) jc_nil))))) (jw_or1 (jt_not (jt_val (je_call C (OK .l_inner_first) hk (D.d .l_inner_first).b (D.d .l_inner_first).m_l_inner_first (D.d .l_inner_first).F.kp  (by rfl) (jc_cons (je_ix C (jo_var (i := 3)) (JE.c2o je_int)) jc_nil))))))) (jb_one (js_ret je_bl)) (JW.jt (jw_or (jt_not (jt_val (je_isi (T := "list") C Z.isinstance (by rfl) Z.list (by rfl) (by decide +kernel) (by decide) (JE.c2o (je_ix C (jo_var (i := 3)) (JE.c2o je_int)))))) (jw_or1 (jt_ne C (JE.c2o (je_ix C (jo_var (i := 3)) (JE.c2o je_int))) (JE.c2o (je_call C (OK .l_marks) hk (D.d .l_marks).b (D.d .l_marks).m_l_marks (D.d .l_marks).F.kp  (by rfl) (jc_cons (je_var (i := 2)) jc_nil))))))) (jb_one (js_ret je_bl)) (js_setLc (i := 4) (own := [("_law_one", 5)]) C (ji_list C (je_var (i := 3))) (blkOk_by (N := N_law) (sc := defScope s_law) (by decide +kernel)) (by exact fun s1 H1 Cc1 cl1 fp1 => (jg_name (i := 5) (CxF.blk C s1 H1 _ (compEnvC _ cl1 Cc1 _) fp1).nd)) (by exact fun s1 H1 Cc1 cl1 fp1 => jts_nil) (by exact fun s1 H1 Cc1 cl1 fp1 => (JE.f2c (je_list (CxF.blk C s1 H1 _ (compEnvC _ cl1 Cc1 _) fp1) Z.list (by rfl) (jo_var (i := 5))))) (sw_true rfl rfl rfl (by decide +kernel))) (ps_more C (fun p => (JE.pe (K := K) (M := M) (E := E) (jo_var (i := 3)))) rfl (Or.inl rfl) (Or.inl rfl) (fun _ => rfl) (C.hK ▸ pe_bm PySem.F.plainAttrs_list PySem.F.slot_list_append PySem.F.type_list_append mt_append (JE.pe (K := K) (M := M) (E := E) (jo_var (i := 5))) (pa_cons pe_str pa_nil)) rfl) (jb_cons (js_if (jt_ne C (JE.f2o (je_lst (jc_cons (je_call C (OK .wishes_in) hk (D.d .wishes_in).b (D.d .wishes_in).m_wishes_in (D.d .wishes_in).F.kp  (by rfl) (jc_cons (je_var (i := 2)) jc_nil)) (jc_cons (je_call C (OK .pasts_in) hk (D.d .pasts_in).b (D.d .pasts_in).m_pasts_in (D.d .pasts_in).F.kp  (by rfl) (jc_cons (je_var (i := 2)) jc_nil)) (jc_cons (je_call C (OK .marks_in) hk (D.d .marks_in).b (D.d .marks_in).m_marks_in (D.d .marks_in).F.kp  (by rfl) (jc_cons (je_var (i := 2)) jc_nil)) jc_nil))))) (jo_var (i := 4))) (jb_one (js_ret je_bl)) jb_nil)
    (jb_cons (js_set (i := 6) C.nd (je_make C CP_.mg MK OI hI bI (by rfl) (jc_cons (je_var (i := 2)) jc_nil)))
    (jb_cons (js_if (JW.jt (jw_or (jt_ne C (JE.f2o (je_lst (jc_cons (je_fld C CP_ (jo_var (i := 6))) (jc_cons (je_fld C CP_ (jo_var (i := 6))) (jc_cons (je_fld C CP_ (jo_var (i := 6))) jc_nil))))) (jo_var (i := 4))) (jw_or1 (jt_not (jt_val (je_isi (T := "list") C Z.isinstance (by rfl) Z.list (by rfl) (by decide +kernel) (by decide) (JE.c2o (je_fld C CP_ (jo_var (i := 6)))))))))) (jb_one (js_ret je_bl)) jb_nil)
    (jb_cons (js_if (JW.jt (jw_or (jt_ne C (JE.c2o (je_len C Z.len (by rfl) (JE.c2o (je_fld C CP_ (jo_var (i := 6)))))) (JE.f2o (je_add C (JE.c2o (je_len C Z.len (by rfl) (JE.c2o (je_ix C (jo_var (i := 4)) (JE.c2o je_int))))) (JE.c2o je_int)))) (jw_or1 (jt_ne C (JE.c2o (je_ix C (JE.c2o (je_fld C CP_ (jo_var (i := 6)))) (JE.c2o je_int))) (JE.c2o je_int))))) (jb_one (js_ret je_bl)) jb_nil)
    (jb_cons (js_for C (ji_rg1 Z.range (by rfl) (JE.c2o (je_len C Z.len (by rfl) (JE.c2o (je_ix C (jo_var (i := 4)) (JE.c2o je_int)))))) (jg_name (i := 7) C.nd) (jb_one (js_if (JW.jt (jw_or (jt_not (jt_val (je_call C (OK .l_whole) hk (D.d .l_whole).b (D.d .l_whole).m_l_whole (D.d .l_whole).F.kp  (by rfl) (jc_cons (je_ix C (JE.c2o (je_fld C CP_ (jo_var (i := 6)))) (JE.f2o (je_add C (jo_var (i := 7)) (JE.c2o je_int)))) jc_nil)))) (jw_or1 (jt_ne C (JE.c2o (je_ix C (JE.c2o (je_fld C CP_ (jo_var (i := 6)))) (JE.f2o (je_add C (jo_var (i := 7)) (JE.c2o je_int))))) (JE.c2o (je_mul (JE.c2o je_int) (JE.c2o (je_ix C (JE.c2o (je_fld C CP_ (jo_var (i := 6)))) (jo_var (i := 7)))))))))) (jb_one (js_ret je_bl)) jb_nil)))
    (jb_one (js_ret (je_eq C (JE.f2o (je_lc (own := [("_law_one", 5)]) C (ji_list C (je_var (i := 4))) (blkOk_by (N := N_law) (sc := defScope s_law) (by decide +kernel)) (by exact fun s2 H2 Cc2 cl2 fp2 => (jg_name (i := 5) (CxF.blk C s2 H2 _ (compEnvC _ cl2 Cc2 _) fp2).nd)) (by exact fun s2 H2 Cc2 cl2 fp2 => jts_nil) (by exact fun s2 H2 Cc2 cl2 fp2 => (JE.f2c (je_add (CxF.blk C s2 H2 _ (compEnvC _ cl2 Cc2 _) fp2) (jo_var (i := 5)) (JE.f2o (je_lst (jc_cons je_str jc_nil)))))))) (jo_var (i := 3)))))))))))⟩
theorem d_Plan___init__ (D : DD K mg Cc fa fdd) (Z : ZZ mg) (CP_ : CP K mg M Cc) (OK : ∀ i : Nm, FnOk P w K mg base (L2.CX P w) j (fa i) (fdd i) (psN i) (spF K M (Phi i))) (hk : j ≤ k) (cdv : Value) (A : Around) (outer : List Env) (s : Shared) (H : Hp) (E : XK) (C : CxF K (cxOf (L2.CX P w) P w K mg base N_Plan___init__ "Plan.__init__" (defScope s_Plan___init__) fI cdv A outer s H E) E k)
    (tk : Takes (cxOf (L2.CX P w) P w K mg base N_Plan___init__ "Plan.__init__" (defScope s_Plan___init__) fI cdv A outer s H E) (fun cls d _ H => E cls d H)) : ∃ tW tP tM tL tn, JN K (cxOf (L2.CX P w) P w K mg base N_Plan___init__ "Plan.__init__" (defScope s_Plan___init__) fI cdv A outer s H E) M E (defBody s_Plan___init__) tW tP tM tL tn (fCall (Phi .wishes_in) (fCons (fVar 1) fNil)) (fCall (Phi .pasts_in) (fCons (fVar 1) fNil)) (fCall (Phi .marks_in) (fCons (fVar 1) fNil)) (fLst (fCons (fCon (.int 1)) fNil)) (f1 oNeg (fCon (.int 1))) := ⟨_, _, _, _, _,
    (jn_of (js_fld C (je_call C (OK .wishes_in) hk (D.d .wishes_in).b (D.d .wishes_in).m_wishes_in (D.d .wishes_in).F.kp  (by rfl) (jc_cons (je_var (i := 1)) jc_nil)) (JE.pe (K := K) (M := M) (E := E) (jo_var (i := 0)))) (js_fld C (je_call C (OK .pasts_in) hk (D.d .pasts_in).b (D.d .pasts_in).m_pasts_in (D.d .pasts_in).F.kp  (by rfl) (jc_cons (je_var (i := 1)) jc_nil)) (JE.pe (K := K) (M := M) (E := E) (jo_var (i := 0)))) (js_fld C (je_call C (OK .marks_in) hk (D.d .marks_in).b (D.d .marks_in).m_marks_in (D.d .marks_in).F.kp  (by rfl) (jc_cons (je_var (i := 1)) jc_nil)) (JE.pe (K := K) (M := M) (E := E) (jo_var (i := 0)))) (js_fld C (je_lst (jc_cons je_int jc_nil)) (JE.pe (K := K) (M := M) (E := E) (jo_var (i := 0)))) (js_loop C (fun p => (JE.pe (K := K) (M := M) (E := E) (jo_var (i := 0)))) rfl (Or.inl rfl) (Or.inl rfl) (je_neg (JE.c2o je_int)) (fun _ _ => rfl) rfl (fun p => rfl) (C.hK ▸ pe_bm PySem.F.plainAttrs_list PySem.F.slot_list_append PySem.F.type_list_append mt_append (pe_fld (JE.pe (K := K) (M := M) (E := E) (jo_var (i := 0))) rfl) (pa_cons (pe_op op_mul pe_int (pe_ix ix_seq (pe_fld (JE.pe (K := K) (M := M) (E := E) (jo_var (i := 0))) rfl) (JE.pe (K := K) (M := M) (E := E) (je_neg (JE.c2o je_int))) (fun _ _ => rfl))) pa_nil)) rfl (fun _ => rfl)))⟩
end
end K03

namespace K03
open PySem PySem.Spec PyProof.Rows L2 Py
/-! ### small things -/
def runD (run : List Str) : D := .list (run.map .str)
theorem runD_at {run : List Str} {i : Nat} (h : i < run.length) : atI (run.map PyData.str) (i : Int) = some (.str (run.getD i "")) := by
  refine atI_nat ?_
  rw [List.getElem?_map, List.getElem?_eq_getElem h]
  simp [List.getD, h]
theorem rg_nat (i j : Nat) : rgD (i : Int) (j : Int) = (List.range (j - i)).map fun n => .int ((i + n : Nat) : Int) := by
  unfold rgD
  have e : ((j : Int) - (i : Int)).toNat = j - i := by omega
  rw [e]
  apply List.map_congr_left
  intro n _
  simp
/-- every k of a within is at most 4 -/
def ksOk : Sta → Prop
  | .mark _ => True | .yes => True
  | .nt s => ksOk s | .nx s => ksOk s | .bf s => ksOk s
  | .wi k s => k ≤ 4 ∧ ksOk s
  | .an s t => ksOk s ∧ ksOk t | .or s t => ksOk s ∧ ksOk t | .un s t => ksOk s ∧ ksOk t | .si s t => ksOk s ∧ ksOk t
theorem rgOk_nat {i j : Nat} (h : i ≤ 100000) (h2 : j ≤ 100000) : rgOk (i : Int) (j : Int) = true := by
  unfold rgOk
  simp only [Bool.and_eq_true, decide_eq_true_eq]
  omega
/-- nothing that looks ahead -/
def noFut : Sta → Prop
  | .mark _ => True | .yes => True
  | .nt s => noFut s | .bf s => noFut s
  | .nx _ => False | .wi _ _ => False | .un _ _ => False
  | .an s t => noFut s ∧ noFut t | .or s t => noFut s ∧ noFut t | .si s t => noFut s ∧ noFut t
/-- nothing that looks ahead within before and since -/
def unm : Sta → Prop
  | .mark _ => True | .yes => True
  | .nt s => unm s | .nx s => unm s | .wi _ s => unm s
  | .bf s => noFut s
  | .an s t => unm s ∧ unm t | .or s t => unm s ∧ unm t | .un s t => unm s ∧ unm t
  | .si s t => noFut s ∧ noFut t
end K03

namespace K03
open PySem PySem.Spec PyProof.Rows L2 Py
/-! ### cuts, kinds (for laws without rows) -/
theorem cut_from (ds : List D) (n : Nat) (h : n ≤ ds.length) : Py.cutD ds (some (n : Int)) none = ds.drop n := by
  unfold Py.cutD
  rw [HT.sIx_nat, HT.sIx_none, Nat.min_eq_left h]
  exact List.take_of_length_le (by simp)
theorem cut_to (ds : List D) (n : Nat) : Py.cutD ds none (some (n : Int)) = ds.take n := by
  unfold Py.cutD
  rw [HT.sIx_nat, HT.sIx_none, List.drop_zero, Nat.sub_zero]
  by_cases h : n ≤ ds.length
  · rw [Nat.min_eq_left h]
  · rw [Nat.min_eq_right (by omega), List.take_of_length_le (Nat.le_refl _), List.take_of_length_le (by omega)]
theorem cut_mid (ds : List D) (i j : Nat) (h : i ≤ ds.length) (h2 : i ≤ j) : Py.cutD ds (some (i : Int)) (some (j : Int)) = (ds.drop i).take (j - i) := by
  unfold Py.cutD
  rw [HT.sIx_nat, HT.sIx_nat, Nat.min_eq_left h]
  by_cases h3 : j ≤ ds.length
  · rw [Nat.min_eq_left h3]
  · rw [Nat.min_eq_right (by omega), List.take_of_length_le (by simp), List.take_of_length_le (by simp; omega)]
theorem tail_tup (a b : D) (r : List D) : oSl (some 1) none (.tuple (a :: b :: r)) = some (.tuple (b :: r)) := by
  have h1 : HT.sIx (a :: b :: r).length 0 (some (1 : Int)) = 1 := by
    have := HT.sIx_nat (a :: b :: r).length 0 1
    simp at this
    simpa using this
  have h2 := cut_from (a :: b :: r) 1 (by simp)
  unfold oSl
  simp only [h1, HT.sIx_none]
  simp
  exact h2
theorem tail_one (a : D) : oSl (some 1) none (.tuple [a]) = some (.tuple []) := by
  have h1 : HT.sIx ([a] : List D).length 0 (some (1 : Int)) = 1 := by
    have := HT.sIx_nat ([a] : List D).length 0 1
    simpa using this
  have h2 := cut_from [a] 1 (by simp)
  unfold oSl
  simp only [h1, HT.sIx_none]
  simp
  exact h2
theorem isi_str (x : Str) : oIsi "tuple" (.str x) = some (.bool false) := by simp [oIsi, isT, tyN]
theorem isi_int (x : Int) : oIsi "tuple" (.int x) = some (.bool false) := by simp [oIsi, isT, tyN]
theorem isi_tup (x : List D) : oIsi "tuple" (.tuple x) = some (.bool true) := by simp [oIsi, isT, tyN]
theorem isi_enc (s : Sta) : oIsi "tuple" (enc s) = some (.bool true) := by
  obtain ⟨r, e⟩ := enc_word s
  rw [e]; exact isi_tup _
end K03

namespace K03
open PySem PySem.Spec PyProof.Rows L2 Py
/-! ### a statement's parts, and its wishes as the law counts them -/
def allT : Sta → List Sta
  | .mark m => [.mark m]
  | .yes => [.yes]
  | .nt s => .nt s :: allT s
  | .an s t => .an s t :: (allT s ++ allT t)
  | .or s t => .or s t :: (allT s ++ allT t)
  | .nx s => .nx s :: allT s
  | .un s t => .un s t :: (allT s ++ allT t)
  | .wi k s => .wi k s :: allT s
  | .bf s => .bf s :: allT s
  | .si s t => .si s t :: (allT s ++ allT t)
theorem allT_len : ∀ s : Sta, (allT s).length + 1 ≤ 2 ^ s.depth
  | .mark m => by simp [allT, Sta.depth]
  | .yes => by simp [allT, Sta.depth]
  | .nt s => by have h := allT_len s; simp only [allT, Sta.depth, List.length_cons, Nat.pow_succ]; omega
  | .nx s => by have h := allT_len s; simp only [allT, Sta.depth, List.length_cons, Nat.pow_succ]; omega
  | .wi k s => by have h := allT_len s; simp only [allT, Sta.depth, List.length_cons, Nat.pow_succ]; omega
  | .bf s => by have h := allT_len s; simp only [allT, Sta.depth, List.length_cons, Nat.pow_succ]; omega
  | .an s t => by
    have h := allT_len s; have h2 := allT_len t
    have p1 : 2 ^ s.depth ≤ 2 ^ (max s.depth t.depth) := Nat.pow_le_pow_right (by omega) (by omega)
    have p2 : 2 ^ t.depth ≤ 2 ^ (max s.depth t.depth) := Nat.pow_le_pow_right (by omega) (by omega)
    simp only [allT, Sta.depth, List.length_cons, List.length_append, Nat.pow_succ]; omega
  | .or s t => by
    have h := allT_len s; have h2 := allT_len t
    have p1 : 2 ^ s.depth ≤ 2 ^ (max s.depth t.depth) := Nat.pow_le_pow_right (by omega) (by omega)
    have p2 : 2 ^ t.depth ≤ 2 ^ (max s.depth t.depth) := Nat.pow_le_pow_right (by omega) (by omega)
    simp only [allT, Sta.depth, List.length_cons, List.length_append, Nat.pow_succ]; omega
  | .un s t => by
    have h := allT_len s; have h2 := allT_len t
    have p1 : 2 ^ s.depth ≤ 2 ^ (max s.depth t.depth) := Nat.pow_le_pow_right (by omega) (by omega)
    have p2 : 2 ^ t.depth ≤ 2 ^ (max s.depth t.depth) := Nat.pow_le_pow_right (by omega) (by omega)
    simp only [allT, Sta.depth, List.length_cons, List.length_append, Nat.pow_succ]; omega
  | .si s t => by
    have h := allT_len s; have h2 := allT_len t
    have p1 : 2 ^ s.depth ≤ 2 ^ (max s.depth t.depth) := Nat.pow_le_pow_right (by omega) (by omega)
    have p2 : 2 ^ t.depth ≤ 2 ^ (max s.depth t.depth) := Nat.pow_le_pow_right (by omega) (by omega)
    simp only [allT, Sta.depth, List.length_cons, List.length_append, Nat.pow_succ]; omega
/-- what is so of a statement and all its parts -/
structure Fine (d : Nat) (p : Str → Prop) (s : Sta) : Prop where
  dep : s.depth ≤ d
  mks : s.Marks p
  ks : ksOk s
theorem allT_fine {d : Nat} {p : Str → Prop} : ∀ {s : Sta}, Fine d p s → ∀ t ∈ allT s, Fine d p t := by
  intro s
  induction s with
  | mark m => intro h t ht; simp [allT] at ht; subst ht; exact h
  | yes => intro h t ht; simp [allT] at ht; subst ht; exact h
  | nt s ih =>
    intro h t ht
    rcases List.mem_cons.mp ht with rfl | ht
    · exact h
    · exact ih ⟨by have := h.dep; simp [Sta.depth] at this; omega, h.mks, h.ks⟩ t ht
  | nx s ih =>
    intro h t ht
    rcases List.mem_cons.mp ht with rfl | ht
    · exact h
    · exact ih ⟨by have := h.dep; simp [Sta.depth] at this; omega, h.mks, h.ks⟩ t ht
  | wi k s ih =>
    intro h t ht
    rcases List.mem_cons.mp ht with rfl | ht
    · exact h
    · exact ih ⟨by have := h.dep; simp [Sta.depth] at this; omega, h.mks, h.ks.2⟩ t ht
  | bf s ih =>
    intro h t ht
    rcases List.mem_cons.mp ht with rfl | ht
    · exact h
    · exact ih ⟨by have := h.dep; simp [Sta.depth] at this; omega, h.mks, h.ks⟩ t ht
  | an s s' ih ih' =>
    intro h t ht
    have hd := h.dep
    simp [Sta.depth] at hd
    rcases List.mem_cons.mp ht with rfl | ht
    · exact h
    · rcases List.mem_append.mp ht with ht | ht
      · exact ih ⟨by omega, h.mks.1, h.ks.1⟩ t ht
      · exact ih' ⟨by omega, h.mks.2, h.ks.2⟩ t ht
  | or s s' ih ih' =>
    intro h t ht
    have hd := h.dep
    simp [Sta.depth] at hd
    rcases List.mem_cons.mp ht with rfl | ht
    · exact h
    · rcases List.mem_append.mp ht with ht | ht
      · exact ih ⟨by omega, h.mks.1, h.ks.1⟩ t ht
      · exact ih' ⟨by omega, h.mks.2, h.ks.2⟩ t ht
  | un s s' ih ih' =>
    intro h t ht
    have hd := h.dep
    simp [Sta.depth] at hd
    rcases List.mem_cons.mp ht with rfl | ht
    · exact h
    · rcases List.mem_append.mp ht with ht | ht
      · exact ih ⟨by omega, h.mks.1, h.ks.1⟩ t ht
      · exact ih' ⟨by omega, h.mks.2, h.ks.2⟩ t ht
  | si s s' ih ih' =>
    intro h t ht
    have hd := h.dep
    simp [Sta.depth] at hd
    rcases List.mem_cons.mp ht with rfl | ht
    · exact h
    · rcases List.mem_append.mp ht with ht | ht
      · exact ih ⟨by omega, h.mks.1, h.ks.1⟩ t ht
      · exact ih' ⟨by omega, h.mks.2, h.ks.2⟩ t ht
def encL (l : List Sta) : D := .list (l.map enc)
theorem big_pow {d : Nat} (h : d ≤ 20) : 2 ^ d ≤ big := Nat.le_trans (Nat.pow_le_pow_right (by omega) h) (by decide)
theorem run_all : ∀ (s : Sta) (n : Nat), s.depth ≤ 19 → s.depth ≤ n → Phi n .l_all [enc s] = some (.ok (encL (allT s))) := by
  have one : ∀ (n : Nat) (s t : Sta) (w : Str), enc t = .tuple [.str w, enc s] → Phi n .l_all [enc s] = some (.ok (encL (allT s))) → (allT s).length + 1 ≤ big → Phi (n + 1) .l_all [enc t] = some (.ok (encL (t :: allT s))) := by
    intro n s t w e h hz
    have hz' : 1 + (allT s).length ≤ big := by omega
    rw [phi_l_all]
    simp [runF, entry, f_l_all, e, fOwn, fSeq, fNext, sRet, sRetN, sIf, sSet, sSetO, sAsg, sApp, sFor, forF, fVar, fOpd, fCon, f2, f1, fNil, fCons, bR, bL, bA, bLL, oR, fT, gAnd, gOr, gNot, gYes, fAnd, fOr, fNot, fIte, fTup, fLst, fCall, fCallO, fB, fM1, fSl, fiNo, fiSm, fLc, wLst, wTup, wStr, wRg1, wRg2, wZip, wEnum, gfN, gfTup, gsNil, gsCons, fLrg, fLrg3, wipeG, xSeq, xSet, xOf, xCall, xIf, xRet, xNext, xTup, xCons, xNil, xPut, xCallP, sRetX, sSetX, List.getElem?_cons_zero, List.getElem?_cons_succ, List.set_cons_zero, List.set_cons_succ, tail_tup, isi_enc, h, encL, hz, hz', oAdd]
  have oneK : ∀ (n : Nat) (s t : Sta) (w : Str) (k : Int), enc t = .tuple [.str w, .int k, enc s] → Phi n .l_all [enc s] = some (.ok (encL (allT s))) → (allT s).length + 1 ≤ big → Phi (n + 1) .l_all [enc t] = some (.ok (encL (t :: allT s))) := by
    intro n s t w k e h hz
    have hz' : 1 + (allT s).length ≤ big := by omega
    rw [phi_l_all]
    simp [runF, entry, f_l_all, e, fOwn, fSeq, fNext, sRet, sRetN, sIf, sSet, sSetO, sAsg, sApp, sFor, forF, fVar, fOpd, fCon, f2, f1, fNil, fCons, bR, bL, bA, bLL, oR, fT, gAnd, gOr, gNot, gYes, fAnd, fOr, fNot, fIte, fTup, fLst, fCall, fCallO, fB, fM1, fSl, fiNo, fiSm, fLc, wLst, wTup, wStr, wRg1, wRg2, wZip, wEnum, gfN, gfTup, gsNil, gsCons, fLrg, fLrg3, wipeG, xSeq, xSet, xOf, xCall, xIf, xRet, xNext, xTup, xCons, xNil, xPut, xCallP, sRetX, sSetX, List.getElem?_cons_zero, List.getElem?_cons_succ, List.set_cons_zero, List.set_cons_succ, tail_tup, isi_enc, isi_int, h, encL, hz, hz', oAdd]
  have two : ∀ (n : Nat) (s s' t : Sta) (w : Str), enc t = .tuple [.str w, enc s, enc s'] → Phi n .l_all [enc s] = some (.ok (encL (allT s))) → Phi n .l_all [enc s'] = some (.ok (encL (allT s'))) → (allT s).length + (allT s').length + 1 ≤ big → Phi (n + 1) .l_all [enc t] = some (.ok (encL (t :: (allT s ++ allT s')))) := by
    intro n s s' t w e h h' hz
    have h1 : 1 + (allT s).length ≤ big := by omega
    have h2 : (allT s).length + 1 + (allT s').length ≤ big := by omega
    have h3 : 1 + (allT s).length + (allT s').length ≤ big := by omega
    rw [phi_l_all]
    simp [runF, entry, f_l_all, e, fOwn, fSeq, fNext, sRet, sRetN, sIf, sSet, sSetO, sAsg, sApp, sFor, forF, fVar, fOpd, fCon, f2, f1, fNil, fCons, bR, bL, bA, bLL, oR, fT, gAnd, gOr, gNot, gYes, fAnd, fOr, fNot, fIte, fTup, fLst, fCall, fCallO, fB, fM1, fSl, fiNo, fiSm, fLc, wLst, wTup, wStr, wRg1, wRg2, wZip, wEnum, gfN, gfTup, gsNil, gsCons, fLrg, fLrg3, wipeG, xSeq, xSet, xOf, xCall, xIf, xRet, xNext, xTup, xCons, xNil, xPut, xCallP, sRetX, sSetX, List.getElem?_cons_zero, List.getElem?_cons_succ, List.set_cons_zero, List.set_cons_succ, tail_tup, isi_enc, h, h', encL, h1, h2, h3, oAdd]
  intro s
  induction s with
  | mark m =>
    intro n hd hn
    obtain ⟨n, rfl⟩ : ∃ k, n = k + 1 := ⟨n - 1, by simp [Sta.depth] at hn; omega⟩
    rw [phi_l_all]
    simp [runF, entry, f_l_all, enc, fOwn, fSeq, fNext, sRet, sRetN, sIf, sSet, sSetO, sAsg, sApp, sFor, forF, fVar, fOpd, fCon, f2, f1, fNil, fCons, bR, bL, bA, bLL, oR, fT, gAnd, gOr, gNot, gYes, fAnd, fOr, fNot, fIte, fTup, fLst, fCall, fCallO, fB, fM1, fSl, fiNo, fiSm, fLc, wLst, wTup, wStr, wRg1, wRg2, wZip, wEnum, gfN, gfTup, gsNil, gsCons, fLrg, fLrg3, wipeG, xSeq, xSet, xOf, xCall, xIf, xRet, xNext, xTup, xCons, xNil, xPut, xCallP, sRetX, sSetX, List.getElem?_cons_zero, List.getElem?_cons_succ, List.set_cons_zero, List.set_cons_succ, tail_tup, isi_str, encL, allT]
  | yes =>
    intro n hd hn
    obtain ⟨n, rfl⟩ : ∃ k, n = k + 1 := ⟨n - 1, by simp [Sta.depth] at hn; omega⟩
    rw [phi_l_all]
    simp [runF, entry, f_l_all, enc, fOwn, fSeq, fNext, sRet, sRetN, sIf, sSet, sSetO, sAsg, sApp, sFor, forF, fVar, fOpd, fCon, f2, f1, fNil, fCons, bR, bL, bA, bLL, oR, fT, gAnd, gOr, gNot, gYes, fAnd, fOr, fNot, fIte, fTup, fLst, fCall, fCallO, fB, fM1, fSl, fiNo, fiSm, fLc, wLst, wTup, wStr, wRg1, wRg2, wZip, wEnum, gfN, gfTup, gsNil, gsCons, fLrg, fLrg3, wipeG, xSeq, xSet, xOf, xCall, xIf, xRet, xNext, xTup, xCons, xNil, xPut, xCallP, sRetX, sSetX, List.getElem?_cons_zero, List.getElem?_cons_succ, List.set_cons_zero, List.set_cons_succ, tail_one, encL, allT]
  | nt s ih =>
    intro n hd hn
    simp [Sta.depth] at hn hd
    obtain ⟨n, rfl⟩ : ∃ k, n = k + 1 := ⟨n - 1, by omega⟩
    exact one n s _ _ rfl (ih n (by omega) (by omega)) (Nat.le_trans (allT_len s) (big_pow (by omega)))
  | nx s ih =>
    intro n hd hn
    simp [Sta.depth] at hn hd
    obtain ⟨n, rfl⟩ : ∃ k, n = k + 1 := ⟨n - 1, by omega⟩
    exact one n s _ _ rfl (ih n (by omega) (by omega)) (Nat.le_trans (allT_len s) (big_pow (by omega)))
  | bf s ih =>
    intro n hd hn
    simp [Sta.depth] at hn hd
    obtain ⟨n, rfl⟩ : ∃ k, n = k + 1 := ⟨n - 1, by omega⟩
    exact one n s _ _ rfl (ih n (by omega) (by omega)) (Nat.le_trans (allT_len s) (big_pow (by omega)))
  | wi k s ih =>
    intro n hd hn
    simp [Sta.depth] at hn hd
    obtain ⟨n, rfl⟩ : ∃ k, n = k + 1 := ⟨n - 1, by omega⟩
    exact oneK n s _ _ _ rfl (ih n (by omega) (by omega)) (Nat.le_trans (allT_len s) (big_pow (by omega)))
  | an s t ih ih' =>
    intro n hd hn
    have hl := allT_len (.an s t)
    have hb := big_pow (d := (Sta.an s t).depth) (by omega)
    simp [Sta.depth] at hn hd
    obtain ⟨n, rfl⟩ : ∃ k, n = k + 1 := ⟨n - 1, by omega⟩
    simp only [allT, List.length_cons, List.length_append] at hl
    exact two n s t _ _ rfl (ih n (by omega) (by omega)) (ih' n (by omega) (by omega)) (by omega)
  | or s t ih ih' =>
    intro n hd hn
    have hl := allT_len (.or s t)
    have hb := big_pow (d := (Sta.or s t).depth) (by omega)
    simp [Sta.depth] at hn hd
    obtain ⟨n, rfl⟩ : ∃ k, n = k + 1 := ⟨n - 1, by omega⟩
    simp only [allT, List.length_cons, List.length_append] at hl
    exact two n s t _ _ rfl (ih n (by omega) (by omega)) (ih' n (by omega) (by omega)) (by omega)
  | un s t ih ih' =>
    intro n hd hn
    have hl := allT_len (.un s t)
    have hb := big_pow (d := (Sta.un s t).depth) (by omega)
    simp [Sta.depth] at hn hd
    obtain ⟨n, rfl⟩ : ∃ k, n = k + 1 := ⟨n - 1, by omega⟩
    simp only [allT, List.length_cons, List.length_append] at hl
    exact two n s t _ _ rfl (ih n (by omega) (by omega)) (ih' n (by omega) (by omega)) (by omega)
  | si s t ih ih' =>
    intro n hd hn
    have hl := allT_len (.si s t)
    have hb := big_pow (d := (Sta.si s t).depth) (by omega)
    simp [Sta.depth] at hn hd
    obtain ⟨n, rfl⟩ : ∃ k, n = k + 1 := ⟨n - 1, by omega⟩
    simp only [allT, List.length_cons, List.length_append] at hl
    exact two n s t _ _ rfl (ih n (by omega) (by omega)) (ih' n (by omega) (by omega)) (by omega)
def moreT : Sta → List Sta
  | .nx s => [s]
  | .un s t => [.un s t]
  | .wi k s => (List.range k).map fun j => .wi j s
  | _ => []
def stepW (found : List Sta) (one : Sta) : List Sta := found ++ (moreT one).filter fun o => !decide (o ∈ found)
def wishesT (s : Sta) : List Sta := (allT s).foldl stepW [s]
theorem moreT_fine {d : Nat} {p : Str → Prop} {s : Sta} (h : Fine d p s) : ∀ t ∈ moreT s, Fine d p t := by
  intro t ht
  have hd := h.dep
  cases s with
  | nx s => simp [moreT] at ht; subst ht; exact ⟨by simp [Sta.depth] at hd; omega, h.mks, h.ks⟩
  | un s s' => simp [moreT] at ht; subst ht; exact h
  | wi k s =>
    simp only [moreT, List.mem_map, List.mem_range] at ht
    obtain ⟨j, hj, rfl⟩ := ht
    have hk := h.ks
    exact ⟨by simpa [Sta.depth] using hd, h.mks, by have := hk.1; omega, hk.2⟩
  | _ => simp [moreT] at ht
theorem moreT_len {s : Sta} (h : ksOk s) : (moreT s).length ≤ 4 := by
  cases s with
  | wi k s => simp [moreT]; exact h.1
  | _ => simp [moreT]
theorem stepW_fine {d : Nat} {p : Str → Prop} {found : List Sta} {s : Sta} (hf : ∀ t ∈ found, Fine d p t) (h : Fine d p s) : ∀ t ∈ stepW found s, Fine d p t := by
  intro t ht
  rcases List.mem_append.mp ht with q | q
  · exact hf t q
  · exact moreT_fine h t (List.mem_filter.mp q).1
theorem stepW_len {found : List Sta} {s : Sta} (h : ksOk s) : (stepW found s).length ≤ found.length + 4 := by
  unfold stepW
  have h1 := List.length_filter_le (fun o => !decide (o ∈ found)) (moreT s)
  have h2 := moreT_len h
  rw [List.length_append]
  omega
theorem foldW_fine {d : Nat} {p : Str → Prop} : ∀ {l found : List Sta}, (∀ t ∈ found, Fine d p t) → (∀ t ∈ l, Fine d p t) → ∀ t ∈ l.foldl stepW found, Fine d p t
  | [], _, h, _ => h
  | s :: l, found, h, hl => foldW_fine (l := l) (stepW_fine h (hl s List.mem_cons_self)) fun t ht => hl t (List.mem_cons_of_mem _ ht)
theorem wishesT_fine {d : Nat} {p : Str → Prop} {s : Sta} (h : Fine d p s) : ∀ t ∈ wishesT s, Fine d p t :=
  foldW_fine (by intro t ht; simp at ht; subst ht; exact h) (allT_fine h)
theorem enc_at0 (s : Sta) : ∃ r, enc s = .tuple (.str (word s) :: r) := enc_word s
theorem ix0 (s : Sta) : oIx (enc s) (.int 0) = some (.str (word s)) := by
  obtain ⟨r, e⟩ := enc_word s
  rw [e]; simp
theorem more_part {Phi : Nm → List D → Option Rs} {d : Nat} (hd : d ≤ 18) {s : Sta} (h : Fine d okM s) (P F y z u : Sl) :
    fSeq (sSet 3 (fLst fNil)) (sIf (fT (f2 oEq (f2 oIx (fOpd 2) (fCon (.int 0))) (fCon (.str "next")))) (sSet 3 (fLst (fCons (f2 oIx (fOpd 2) (fCon (.int 1))) fNil))) (sIf (fT (f2 oEq (f2 oIx (fOpd 2) (fCon (.int 0))) (fCon (.str "until")))) (sSet 3 (fLst (fCons (fVar 2) fNil))) (sIf (fT (f2 oEq (f2 oIx (fOpd 2) (fCon (.int 0))) (fCon (.str "within")))) (sSet 3 (fLc (wRg1 (fCons (f2 oIx (fOpd 2) (fCon (.int 1))) fNil)) (gfN 5) gYes (fTup (fCons (fCon (.str "within")) (fCons (fVar 5) (fCons (f2 oIx (fOpd 2) (fCon (.int 2))) fNil)))) [5])) fNext)))
      [P, F, .va (enc s), y, z, u] = some (.nx [P, F, .va (enc s), .va (encL (moreT s)), z, u]) := by
  cases s with
  | wi k s =>
    have hk := h.ks.1
    have rg : rgOk 0 (k : Int) = true := by have := rgOk_nat (i := 0) (j := k) (by omega) (by omega); simpa using this
    have rd : rgD 0 (k : Int) = (List.range k).map fun i => .int ((i : Nat) : Int) := by have := rg_nat 0 k; simpa using this
    have lw : ∀ (a b c : Sl), lcF (gfN 5) gYes (fTup (fCons (fCon (.str "within")) (fCons (fVar 5) (fCons (f2 oIx (fOpd 2) (fCon (.int 2))) fNil)))) [a, b, .va (.tuple [.str "within", .int k, enc s]), .va (.list []), c, .no] ((List.range k).map fun i => .int ((i : Nat) : Int)) = some ((List.range k).map fun i => enc (.wi i s)) := fun a b c =>
      lcF_map (fun i : Nat => .int (i : Int)) (fun i => enc (.wi i s)) _ fun i _ => ⟨_, rfl, rfl, by simp [fOwn, fSeq, fNext, sRet, sRetN, sIf, sSet, sSetO, sAsg, sApp, sFor, forF, fVar, fOpd, fCon, f2, f1, fNil, fCons, bR, bL, bA, bLL, oR, fT, gAnd, gOr, gNot, gYes, fAnd, fOr, fNot, fIte, fTup, fLst, fCall, fCallO, fB, fM1, fSl, fiNo, fiSm, fLc, wLst, wTup, wStr, wRg1, wRg2, wZip, wEnum, gfN, gfTup, gsNil, gsCons, fLrg, fLrg3, wipeG, xSeq, xSet, xOf, xCall, xIf, xRet, xNext, xTup, xCons, xNil, xPut, xCallP, sRetX, sSetX, List.getElem?_cons_zero, List.getElem?_cons_succ, List.set_cons_zero, List.set_cons_succ, enc]⟩
    have kb : k ≤ big := Nat.le_trans hk (by decide)
    simp only [enc] at lw
    simp [fOwn, fSeq, fNext, sRet, sRetN, sIf, sSet, sSetO, sAsg, sApp, sFor, forF, fVar, fOpd, fCon, f2, f1, fNil, fCons, bR, bL, bA, bLL, oR, fT, gAnd, gOr, gNot, gYes, fAnd, fOr, fNot, fIte, fTup, fLst, fCall, fCallO, fB, fM1, fSl, fiNo, fiSm, fLc, wLst, wTup, wStr, wRg1, wRg2, wZip, wEnum, gfN, gfTup, gsNil, gsCons, fLrg, fLrg3, wipeG, xSeq, xSet, xOf, xCall, xIf, xRet, xNext, xTup, xCons, xNil, xPut, xCallP, sRetX, sSetX, List.getElem?_cons_zero, List.getElem?_cons_succ, List.set_cons_zero, List.set_cons_succ, encL, moreT, enc, rg, rd, lw, kb, List.map_map, Function.comp_def]
  | _ => simp [fOwn, fSeq, fNext, sRet, sRetN, sIf, sSet, sSetO, sAsg, sApp, sFor, forF, fVar, fOpd, fCon, f2, f1, fNil, fCons, bR, bL, bA, bLL, oR, fT, gAnd, gOr, gNot, gYes, fAnd, fOr, fNot, fIte, fTup, fLst, fCall, fCallO, fB, fM1, fSl, fiNo, fiSm, fLc, wLst, wTup, wStr, wRg1, wRg2, wZip, wEnum, gfN, gfTup, gsNil, gsCons, fLrg, fLrg3, wipeG, xSeq, xSet, xOf, xCall, xIf, xRet, xNext, xTup, xCons, xNil, xPut, xCallP, sRetX, sSetX, List.getElem?_cons_zero, List.getElem?_cons_succ, List.set_cons_zero, List.set_cons_succ, enc, encL, moreT]
theorem wish_body {Phi : Nm → List D → Option Rs} {d : Nat} (hd : d ≤ 18) {s : Sta} (h : Fine d okM s) {found : List Sta} (hf : ∀ t ∈ found, Fine d okM t) (hz : found.length + 4 ≤ big) (P y z u : Sl) :
    fSeq (sSet 3 (fLst fNil))
        (fSeq (sIf (fT (f2 oEq (f2 oIx (fOpd 2) (fCon (.int 0))) (fCon (.str "next")))) (sSet 3 (fLst (fCons (f2 oIx (fOpd 2) (fCon (.int 1))) fNil))) (sIf (fT (f2 oEq (f2 oIx (fOpd 2) (fCon (.int 0))) (fCon (.str "until")))) (sSet 3 (fLst (fCons (fVar 2) fNil))) (sIf (fT (f2 oEq (f2 oIx (fOpd 2) (fCon (.int 0))) (fCon (.str "within")))) (sSet 3 (fLc (wRg1 (fCons (f2 oIx (fOpd 2) (fCon (.int 1))) fNil)) (gfN 5) gYes (fTup (fCons (fCon (.str "within")) (fCons (fVar 5) (fCons (f2 oIx (fOpd 2) (fCon (.int 2))) fNil)))) [5])) fNext)))
        (sSet 1 (f2 oAdd (fOpd 1) (fLc (wLst (fVar 3)) (gfN 4) (fT (f2 (oIn true) (fOpd 4) (fOpd 1))) (fVar 4) [4])))) [P, .va (encL found), .va (enc s), y, z, u] =
      some (.nx [P, .va (encL (stepW found s)), .va (enc s), .va (encL (moreT s)), z, u]) := by
  have mp := more_part (Phi := Phi) hd h P (.va (encL found)) y z u
  have mf := moreT_fine h
  have ml := moreT_len h.ks
  have lc : ∀ (z u : Sl), lcF (gfN 4) (fT (f2 (oIn true) (fOpd 4) (fOpd 1))) (fVar 4) [P, .va (.list (found.map enc)), .va (enc s), .va (.list ((moreT s).map enc)), z, u] ((moreT s).map enc) = some (((moreT s).filter fun o => !decide (o ∈ found)).map enc) := fun z u =>
    lcF_filter enc (fun o => !decide (o ∈ found)) enc (moreT s) fun o ho => by
      have i := in_encs (l := found) (s := o) (fun t ht => (hf t ht).mks) (fun t ht => by have := (hf t ht).dep; omega) (mf o ho).mks (by have := (mf o ho).dep; omega) true
      refine ⟨_, rfl, ?_, fun _ => ?_⟩
      · simp [fOwn, fSeq, fNext, sRet, sRetN, sIf, sSet, sSetO, sAsg, sApp, sFor, forF, fVar, fOpd, fCon, f2, f1, fNil, fCons, bR, bL, bA, bLL, oR, fT, gAnd, gOr, gNot, gYes, fAnd, fOr, fNot, fIte, fTup, fLst, fCall, fCallO, fB, fM1, fSl, fiNo, fiSm, fLc, wLst, wTup, wStr, wRg1, wRg2, wZip, wEnum, gfN, gfTup, gsNil, gsCons, fLrg, fLrg3, wipeG, xSeq, xSet, xOf, xCall, xIf, xRet, xNext, xTup, xCons, xNil, xPut, xCallP, sRetX, sSetX, List.getElem?_cons_zero, List.getElem?_cons_succ, List.set_cons_zero, List.set_cons_succ, i]
      · simp [fOwn, fSeq, fNext, sRet, sRetN, sIf, sSet, sSetO, sAsg, sApp, sFor, forF, fVar, fOpd, fCon, f2, f1, fNil, fCons, bR, bL, bA, bLL, oR, fT, gAnd, gOr, gNot, gYes, fAnd, fOr, fNot, fIte, fTup, fLst, fCall, fCallO, fB, fM1, fSl, fiNo, fiSm, fLc, wLst, wTup, wStr, wRg1, wRg2, wZip, wEnum, gfN, gfTup, gsNil, gsCons, fLrg, fLrg3, wipeG, xSeq, xSet, xOf, xCall, xIf, xRet, xNext, xTup, xCons, xNil, xPut, xCallP, sRetX, sSetX, List.getElem?_cons_zero, List.getElem?_cons_succ, List.set_cons_zero, List.set_cons_succ]
  have hfl : found.length + ((moreT s).filter fun o => !decide (o ∈ found)).length ≤ big := by
    have := List.length_filter_le (fun o => !decide (o ∈ found)) (moreT s)
    omega
  have hml : (moreT s).length ≤ big := Nat.le_trans ml (by decide)
  have assoc : ∀ (f g h : Fs) (γ : Ge), fSeq f (fSeq g h) γ = fSeq (fSeq f g) h γ := by
    intro f g h γ
    unfold fSeq
    cases f γ with
    | none => rfl
    | some o => cases o <;> rfl
  rw [assoc]
  unfold fSeq at mp ⊢
  rw [mp]
  simp [fOwn, fSeq, fNext, sRet, sRetN, sIf, sSet, sSetO, sAsg, sApp, sFor, forF, fVar, fOpd, fCon, f2, f1, fNil, fCons, bR, bL, bA, bLL, oR, fT, gAnd, gOr, gNot, gYes, fAnd, fOr, fNot, fIte, fTup, fLst, fCall, fCallO, fB, fM1, fSl, fiNo, fiSm, fLc, wLst, wTup, wStr, wRg1, wRg2, wZip, wEnum, gfN, gfTup, gsNil, gsCons, fLrg, fLrg3, wipeG, xSeq, xSet, xOf, xCall, xIf, xRet, xNext, xTup, xCons, xNil, xPut, xCallP, sRetX, sSetX, List.getElem?_cons_zero, List.getElem?_cons_succ, List.set_cons_zero, List.set_cons_succ, encL, lc, hml, oAdd, hfl, stepW]
theorem run_wishes {d : Nat} (hd : d ≤ 18) {s : Sta} (h : Fine d okM s) {n : Nat} (hn : d + 1 ≤ n) : Phi n .l_wishes [enc s] = some (.ok (encL (wishesT s))) := by
  obtain ⟨n, rfl⟩ : ∃ k, n = k + 1 := ⟨n - 1, by omega⟩
  have ha := run_all s n (by have := h.dep; omega) (by have := h.dep; omega)
  have key : ∀ (l found : List Sta) (P x y z u : Sl), (∀ t ∈ found, Fine d okM t) → (∀ t ∈ l, Fine d okM t) → found.length + 4 * l.length ≤ big →
      ∃ x' y', forF (gfN 2) (fSeq (sSet 3 (fLst fNil))
        (fSeq (sIf (fT (f2 oEq (f2 oIx (fOpd 2) (fCon (.int 0))) (fCon (.str "next")))) (sSet 3 (fLst (fCons (f2 oIx (fOpd 2) (fCon (.int 1))) fNil))) (sIf (fT (f2 oEq (f2 oIx (fOpd 2) (fCon (.int 0))) (fCon (.str "until")))) (sSet 3 (fLst (fCons (fVar 2) fNil))) (sIf (fT (f2 oEq (f2 oIx (fOpd 2) (fCon (.int 0))) (fCon (.str "within")))) (sSet 3 (fLc (wRg1 (fCons (f2 oIx (fOpd 2) (fCon (.int 1))) fNil)) (gfN 5) gYes (fTup (fCons (fCon (.str "within")) (fCons (fVar 5) (fCons (f2 oIx (fOpd 2) (fCon (.int 2))) fNil)))) [5])) fNext)))
        (sSet 1 (f2 oAdd (fOpd 1) (fLc (wLst (fVar 3)) (gfN 4) (fT (f2 (oIn true) (fOpd 4) (fOpd 1))) (fVar 4) [4]))))) (l.map enc) [P, .va (encL found), x, y, z, u] =
      some (.nx [P, .va (encL (l.foldl stepW found)), x', y', z, u]) := by
    intro l
    induction l with
    | nil => intro found P x y z u _ _ _; exact ⟨x, y, rfl⟩
    | cons s l ih =>
      intro found P x y z u hf hl hz
      have fs := hl s List.mem_cons_self
      have sl := stepW_len (found := found) fs.ks
      simp only [List.length_cons] at hz
      obtain ⟨x', y', ih'⟩ := ih (stepW found s) P (.va (enc s)) (.va (encL (moreT s))) z u (stepW_fine hf fs) (fun t ht => hl t (List.mem_cons_of_mem _ ht)) (by omega)
      have b := wish_body (Phi := Phi n) hd fs hf (by omega) P y z u
      refine ⟨x', y', ?_⟩
      simp only [List.map_cons, forF, gfN, List.set_cons_zero, List.set_cons_succ, b, List.foldl_cons]
      exact ih'
  have la := allT_len s
  have lb := big_pow (d := 18) (by omega)
  have lp : 2 ^ s.depth ≤ 2 ^ 18 := Nat.pow_le_pow_right (by omega) (by have := h.dep; omega)
  obtain ⟨x', y', k⟩ := key (allT s) [s] (.va (enc s)) .no .no .no .no (by intro t ht; simp at ht; subst ht; exact h) (allT_fine h) (by simp; unfold big; omega)
  rw [phi_l_wishes]
  simp only [encL, List.map_cons, List.map_nil] at k ha
  unfold runF f_l_wishes
  simp only [entry, fSeq, sSet, fLst, fCons, fNil, fVar, bA_ok, bL_ok, bLL_ok, List.getElem?_cons_zero, List.getElem?_cons_succ, List.set_cons_zero, List.set_cons_succ, List.length_cons, List.length_nil, List.map_cons, List.map_nil, List.cons_append, List.nil_append, List.replicate, sFor, wLst, fCall, ha, big_1, if_true, if_pos, sRet, Nat.reduceAdd, Nat.reduceSub]
  rw [k]
  rfl
end K03

namespace K03
open PySem PySem.Spec PyProof.Rows L2 Py
/-! ### the fitting -/
def fitT (most : Nat) : Sta → Sta
  | .mark m => .mark m
  | .yes => .yes
  | .nt s => if (wishesT (.nt s)).length ≤ most then .nt s else fitT most s
  | .an s t => if (wishesT (.an s t)).length ≤ most then .an s t else fitT most t
  | .or s t => if (wishesT (.or s t)).length ≤ most then .or s t else fitT most t
  | .nx s => if (wishesT (.nx s)).length ≤ most then .nx s else fitT most s
  | .un s t => if (wishesT (.un s t)).length ≤ most then .un s t else fitT most t
  | .wi k s => if (wishesT (.wi k s)).length ≤ most then .wi k s else fitT most s
  | .bf s => if (wishesT (.bf s)).length ≤ most then .bf s else fitT most s
  | .si s t => if (wishesT (.si s t)).length ≤ most then .si s t else fitT most t
theorem fitT_len {most : Nat} (h1 : 1 ≤ most) : ∀ s : Sta, (wishesT (fitT most s)).length ≤ most := by
  intro s
  induction s with
  | mark m => simpa [fitT, wishesT, allT, stepW, moreT] using h1
  | yes => simpa [fitT, wishesT, allT, stepW, moreT] using h1
  | nt s ih => unfold fitT; split; assumption; exact ih
  | nx s ih => unfold fitT; split; assumption; exact ih
  | wi k s ih => unfold fitT; split; assumption; exact ih
  | bf s ih => unfold fitT; split; assumption; exact ih
  | an s t ih ih' => unfold fitT; split; assumption; exact ih'
  | or s t ih ih' => unfold fitT; split; assumption; exact ih'
  | un s t ih ih' => unfold fitT; split; assumption; exact ih'
  | si s t ih ih' => unfold fitT; split; assumption; exact ih'
theorem fitT_fine {most d : Nat} {p : Str → Prop} : ∀ {s : Sta}, Fine d p s → Fine d p (fitT most s) := by
  intro s
  induction s with
  | mark m => intro h; exact h
  | yes => intro h; exact h
  | nt s ih => intro h; have hd := h.dep; simp [Sta.depth] at hd; unfold fitT; split; exact h; exact ih ⟨by omega, h.mks, h.ks⟩
  | nx s ih => intro h; have hd := h.dep; simp [Sta.depth] at hd; unfold fitT; split; exact h; exact ih ⟨by omega, h.mks, h.ks⟩
  | wi k s ih => intro h; have hd := h.dep; simp [Sta.depth] at hd; unfold fitT; split; exact h; exact ih ⟨by omega, h.mks, h.ks.2⟩
  | bf s ih => intro h; have hd := h.dep; simp [Sta.depth] at hd; unfold fitT; split; exact h; exact ih ⟨by omega, h.mks, h.ks⟩
  | an s t ih ih' => intro h; have hd := h.dep; simp [Sta.depth] at hd; unfold fitT; split; exact h; exact ih' ⟨by omega, h.mks.2, h.ks.2⟩
  | or s t ih ih' => intro h; have hd := h.dep; simp [Sta.depth] at hd; unfold fitT; split; exact h; exact ih' ⟨by omega, h.mks.2, h.ks.2⟩
  | un s t ih ih' => intro h; have hd := h.dep; simp [Sta.depth] at hd; unfold fitT; split; exact h; exact ih' ⟨by omega, h.mks.2, h.ks.2⟩
  | si s t ih ih' => intro h; have hd := h.dep; simp [Sta.depth] at hd; unfold fitT; split; exact h; exact ih' ⟨by omega, h.mks.2, h.ks.2⟩
theorem foldW_len {l : List Sta} (hl : ∀ t ∈ l, ksOk t) : ∀ found : List Sta, (l.foldl stepW found).length ≤ found.length + 4 * l.length := by
  induction l with
  | nil => intro f; simp
  | cons s l ih =>
    intro f
    have h1 := ih (fun t ht => hl t (List.mem_cons_of_mem _ ht)) (stepW f s)
    have h2 := stepW_len (found := f) (hl s List.mem_cons_self)
    simp only [List.foldl_cons, List.length_cons]
    omega
theorem wishesT_len {d : Nat} {p : Str → Prop} {s : Sta} (hd : d ≤ 18) (h : Fine d p s) : (wishesT s).length ≤ big := by
  have h1 := foldW_len (l := allT s) (fun t ht => (allT_fine h t ht).ks) [s]
  have h2 := allT_len s
  have h3 : 2 ^ s.depth ≤ 2 ^ 18 := Nat.pow_le_pow_right (by omega) (by have := h.dep; omega)
  unfold wishesT
  simp only [List.length_cons, List.length_nil] at h1
  unfold big
  omega
theorem neg1 (ds : List D) (a : D) (h : ds.getLast? = some a) : oIx (.tuple ds) (.int (-1)) = some a := by
  rw [oIx_tup, atI_neg1 ds a h]
theorem fit_loop {d n : Nat} (hd : d ≤ 18) (hn : d + 1 ≤ n) {most : Nat} (h1 : 1 ≤ most) : ∀ {s : Sta}, Fine d okM s → ∀ m, s.depth + 1 ≤ m →
    whF (fT (f2 oGt (fB oLen (fCons (fCall (Phi n .l_wishes) (fCons (fVar 0) fNil)) fNil)) (fOpd 1))) (sSet 0 (f2 oIx (fOpd 0) (f1 oNeg (fCon (.int 1))))) m [.va (enc s), .va (.int most)]
      = some (.nx [.va (enc (fitT most s)), .va (.int most)]) := by
  have stop : ∀ (s : Sta) (m : Nat), Fine d okM s → (wishesT s).length ≤ most → whF (fT (f2 oGt (fB oLen (fCons (fCall (Phi n .l_wishes) (fCons (fVar 0) fNil)) fNil)) (fOpd 1))) (sSet 0 (f2 oIx (fOpd 0) (f1 oNeg (fCon (.int 1))))) (m + 1) [.va (enc s), .va (.int most)] = some (.nx [.va (enc s), .va (.int most)]) := by
    intro s m h hl
    have w := run_wishes hd h hn
    have c : ¬ ((most : Int) < (((wishesT s).length : Nat) : Int)) := by omega
    unfold whF
    simp [fOwn, fSeq, fNext, sRet, sRetN, sIf, sSet, sSetO, sAsg, sApp, sFor, forF, fVar, fOpd, fCon, f2, f1, fNil, fCons, bR, bL, bA, bLL, oR, fT, gAnd, gOr, gNot, gYes, fAnd, fOr, fNot, fIte, fTup, fLst, fCall, fCallO, fB, fM1, fSl, fiNo, fiSm, fLc, wLst, wTup, wStr, wRg1, wRg2, wZip, wEnum, gfN, gfTup, gsNil, gsCons, fLrg, fLrg3, wipeG, xSeq, xSet, xOf, xCall, xIf, xRet, xNext, xTup, xCons, xNil, xPut, xCallP, sRetX, sSetX, List.getElem?_cons_zero, List.getElem?_cons_succ, List.set_cons_zero, List.set_cons_succ, w, encL, c]
  have go : ∀ (s t : Sta) (m : Nat), Fine d okM s → ¬ (wishesT s).length ≤ most → oIx (enc s) (.int (-1)) = some (enc t) → whF (fT (f2 oGt (fB oLen (fCons (fCall (Phi n .l_wishes) (fCons (fVar 0) fNil)) fNil)) (fOpd 1))) (sSet 0 (f2 oIx (fOpd 0) (f1 oNeg (fCon (.int 1))))) (m + 1) [.va (enc s), .va (.int most)] = whF (fT (f2 oGt (fB oLen (fCons (fCall (Phi n .l_wishes) (fCons (fVar 0) fNil)) fNil)) (fOpd 1))) (sSet 0 (f2 oIx (fOpd 0) (f1 oNeg (fCon (.int 1))))) m [.va (enc t), .va (.int most)] := by
    intro s t m h hl e
    have w := run_wishes hd h hn
    have c : (most : Int) < (((wishesT s).length : Nat) : Int) := by omega
    conv => lhs; unfold whF
    simp [fOwn, fSeq, fNext, sRet, sRetN, sIf, sSet, sSetO, sAsg, sApp, sFor, forF, fVar, fOpd, fCon, f2, f1, fNil, fCons, bR, bL, bA, bLL, oR, fT, gAnd, gOr, gNot, gYes, fAnd, fOr, fNot, fIte, fTup, fLst, fCall, fCallO, fB, fM1, fSl, fiNo, fiSm, fLc, wLst, wTup, wStr, wRg1, wRg2, wZip, wEnum, gfN, gfTup, gsNil, gsCons, fLrg, fLrg3, wipeG, xSeq, xSet, xOf, xCall, xIf, xRet, xNext, xTup, xCons, xNil, xPut, xCallP, sRetX, sSetX, List.getElem?_cons_zero, List.getElem?_cons_succ, List.set_cons_zero, List.set_cons_succ, w, encL, c, oNeg, e]
  intro s
  induction s with
  | mark x => intro h m hm; obtain ⟨m, rfl⟩ : ∃ k, m = k + 1 := ⟨m - 1, by omega⟩; exact stop _ m h (by have := fitT_len h1 (.mark x); exact this)
  | yes => intro h m hm; obtain ⟨m, rfl⟩ : ∃ k, m = k + 1 := ⟨m - 1, by omega⟩; exact stop _ m h (by have := fitT_len h1 .yes; exact this)
  | nt s ih =>
    intro h m hm; have hk := h.dep; simp [Sta.depth] at hk hm; obtain ⟨m, rfl⟩ : ∃ k, m = k + 1 := ⟨m - 1, by omega⟩
    unfold fitT; split
    · exact stop _ m h (by assumption)
    · rw [go _ s m h (by assumption) (neg1 _ _ rfl)]; exact ih ⟨by omega, h.mks, h.ks⟩ m (by omega)
  | nx s ih =>
    intro h m hm; have hk := h.dep; simp [Sta.depth] at hk hm; obtain ⟨m, rfl⟩ : ∃ k, m = k + 1 := ⟨m - 1, by omega⟩
    unfold fitT; split
    · exact stop _ m h (by assumption)
    · rw [go _ s m h (by assumption) (neg1 _ _ rfl)]; exact ih ⟨by omega, h.mks, h.ks⟩ m (by omega)
  | bf s ih =>
    intro h m hm; have hk := h.dep; simp [Sta.depth] at hk hm; obtain ⟨m, rfl⟩ : ∃ k, m = k + 1 := ⟨m - 1, by omega⟩
    unfold fitT; split
    · exact stop _ m h (by assumption)
    · rw [go _ s m h (by assumption) (neg1 _ _ rfl)]; exact ih ⟨by omega, h.mks, h.ks⟩ m (by omega)
  | wi k s ih =>
    intro h m hm; have hk := h.dep; simp [Sta.depth] at hk hm; obtain ⟨m, rfl⟩ : ∃ k, m = k + 1 := ⟨m - 1, by omega⟩
    unfold fitT; split
    · exact stop _ m h (by assumption)
    · rw [go _ s m h (by assumption) (neg1 _ _ rfl)]; exact ih ⟨by omega, h.mks, h.ks.2⟩ m (by omega)
  | an s t ih ih' =>
    intro h m hm; have hk := h.dep; simp [Sta.depth] at hk hm; obtain ⟨m, rfl⟩ : ∃ k, m = k + 1 := ⟨m - 1, by omega⟩
    unfold fitT; split
    · exact stop _ m h (by assumption)
    · rw [go _ t m h (by assumption) (neg1 _ _ rfl)]; exact ih' ⟨by omega, h.mks.2, h.ks.2⟩ m (by omega)
  | or s t ih ih' =>
    intro h m hm; have hk := h.dep; simp [Sta.depth] at hk hm; obtain ⟨m, rfl⟩ : ∃ k, m = k + 1 := ⟨m - 1, by omega⟩
    unfold fitT; split
    · exact stop _ m h (by assumption)
    · rw [go _ t m h (by assumption) (neg1 _ _ rfl)]; exact ih' ⟨by omega, h.mks.2, h.ks.2⟩ m (by omega)
  | un s t ih ih' =>
    intro h m hm; have hk := h.dep; simp [Sta.depth] at hk hm; obtain ⟨m, rfl⟩ : ∃ k, m = k + 1 := ⟨m - 1, by omega⟩
    unfold fitT; split
    · exact stop _ m h (by assumption)
    · rw [go _ t m h (by assumption) (neg1 _ _ rfl)]; exact ih' ⟨by omega, h.mks.2, h.ks.2⟩ m (by omega)
  | si s t ih ih' =>
    intro h m hm; have hk := h.dep; simp [Sta.depth] at hk hm; obtain ⟨m, rfl⟩ : ∃ k, m = k + 1 := ⟨m - 1, by omega⟩
    unfold fitT; split
    · exact stop _ m h (by assumption)
    · rw [go _ t m h (by assumption) (neg1 _ _ rfl)]; exact ih' ⟨by omega, h.mks.2, h.ks.2⟩ m (by omega)
theorem run_fit {d n : Nat} (hd : d ≤ 18) (hn : d + 2 ≤ n) {most : Nat} (h1 : 1 ≤ most) {s : Sta} (h : Fine d okM s) : Phi n .l_fit [enc s, .int most] = some (.ok (enc (fitT most s))) := by
  obtain ⟨n, rfl⟩ : ∃ k, n = k + 1 := ⟨n - 1, by omega⟩
  have hf : s.depth + 1 ≤ fuel := Nat.le_trans (show s.depth + 1 ≤ 19 by have := h.dep; omega) (by unfold fuel; decide)
  have k := fit_loop hd (n := n) (by omega) h1 h fuel hf
  rw [phi_l_fit]
  unfold runF f_l_fit
  simp [entry, fSeq, sWh, k, sRet, fVar]
end K03

namespace K03
open PySem PySem.Spec PyProof.Rows L2 Py
/-! ### the names -/
/-- a short text of small letters -/
structure Low (n : Nat) (s : Str) : Prop where
  let_ : ∀ x ∈ s.cps.toList, 97 ≤ x ∧ x ≤ 122
  len : s.length ≤ n
theorem Low.ok {n : Nat} {s : Str} (h : Low n s) : okM s := by
  unfold okM PyData.strOk
  rw [← Array.all_toList, List.all_eq_true]
  intro x hx
  have := h.let_ x hx
  exact decide_eq_true (by omega)
theorem Low.cut {n : Nat} {s : Str} (h : Low n s) (lo hi : Option Int) : Low n (cutS s lo hi) :=
  ⟨fun x hx => by
    unfold cutS at hx
    simp only [List.toList_toArray] at hx
    exact h.let_ x (List.drop_subset _ _ (List.take_subset _ _ hx)), Nat.le_trans (cutS_length s lo hi) h.len⟩
theorem Low.app {n m : Nat} {s t : Str} (h : Low n s) (h2 : Low m t) : Low (n + m) (s ++ t) :=
  ⟨fun x hx => by
    have e : (s ++ t).cps.toList = s.cps.toList ++ t.cps.toList := TL.tl_append s t
    rw [e] at hx
    rcases List.mem_append.mp hx with q | q
    · exact h.let_ x q
    · exact h2.let_ x q, by
    have : (s ++ t).length = s.length + t.length := Str.length_append s t
    have := h.len; have := h2.len; omega⟩
def letS (x : Int) : Str := ⟨#[97 + (x % 26).toNat]⟩
theorem letS_low (x : Int) : Low 1 (letS x) :=
  ⟨fun y hy => by
    unfold letS at hy
    simp only [List.mem_singleton] at hy
    subst hy
    have h1 := Int.emod_nonneg x (show (26 : Int) ≠ 0 by decide)
    have h2 := Int.emod_lt_of_pos x (show (0 : Int) < 26 by decide)
    omega, Nat.le_refl _⟩
theorem letters_at : ∀ j : _root_.Fin 26, atI ("abcdefghijklmnopqrstuvwxyz" : Str).cps.toList (j.val : Int) = some (97 + j.val) := by decide +kernel
theorem letters_len : ("abcdefghijklmnopqrstuvwxyz" : Str).length ≤ big := by decide +kernel
theorem ix_letter (x : Int) : oIx (.str "abcdefghijklmnopqrstuvwxyz") (.int (x % 26)) = some (.str (letS x)) := by
  have h1 := Int.emod_nonneg x (show (26 : Int) ≠ 0 by decide)
  have h2 := Int.emod_lt_of_pos x (show (0 : Int) < 26 by decide)
  have h := letters_at ⟨(x % 26).toNat, by omega⟩
  have e : (((x % 26).toNat : Nat) : Int) = x % 26 := Int.toNat_of_nonneg h1
  simp only [e] at h
  show (if ("abcdefghijklmnopqrstuvwxyz" : Str).length ≤ big then (match atI ("abcdefghijklmnopqrstuvwxyz" : Str).cps.toList (x % 26) with | some c => some (PyData.str ⟨#[c]⟩) | none => none) else none) = _
  rw [if_pos letters_len, h]
  rfl
theorem joinN_low : ∀ l : List Str, (∀ s ∈ l, Low 1 s) → Low l.length (Str.join "" l)
  | [], _ => ⟨fun x hx => (by cases hx), Nat.le_refl _⟩
  | [a], h => h a List.mem_cons_self
  | a :: b :: r, h => by
    have e : Str.join "" (a :: b :: r) = a ++ "" ++ Str.join "" (b :: r) := rfl
    have ih := joinN_low (b :: r) fun s hs => h s (List.mem_cons_of_mem _ hs)
    have he : Low 0 ("" : Str) := ⟨fun x hx => (by cases hx), Nat.le_refl _⟩
    have := ((h a List.mem_cons_self).app he).app ih
    rw [e]
    simp only [List.length_cons] at this ⊢
    exact ⟨this.let_, by have := this.len; omega⟩
theorem join_low (l : List Str) (h : ∀ s ∈ l, Low 1 s) : Low l.length (Txt.join "" l) := by
  rw [TL.join_eq]; exact joinN_low l h
theorem oSl_str {z : Str} (h : z.length ≤ big) (lo hi : Option Int) : oSl lo hi (.str z) = some (.str (cutS z lo hi)) := by
  show (if z.length ≤ big then some (PyData.str (cutS z lo hi)) else none) = _; rw [if_pos h]
theorem oAdd_str {y z : Str} (h : y.length + z.length ≤ big) : oAdd (.str y) (.str z) = some (.str (y ++ z)) := by
  show (if y.length + z.length ≤ big then some (PyData.str (y ++ z)) else none) = _; rw [if_pos h]
theorem oJoin_six {a b c d e f : Str} (h : ∀ s ∈ [a, b, c, d, e, f], Low 1 s) : oJoin "" (.list [.str a, .str b, .str c, .str d, .str e, .str f]) = some (.str (Txt.join "" [a, b, c, d, e, f])) := by
  have hs : strsOf [.str a, .str b, .str c, .str d, .str e, .str f] = some [a, b, c, d, e, f] := rfl
  have z : (([a, b, c, d, e, f] : List Str).map (·.length)).sum + [a, b, c, d, e, f].length * (("" : Str)).length ≤ big := by
    have h1 := (h a (by simp)).len
    have h2 := (h b (by simp)).len
    have h3 := (h c (by simp)).len
    have h4 := (h d (by simp)).len
    have h5 := (h e (by simp)).len
    have h6 := (h f (by simp)).len
    have h0 : ("" : Str).length = 0 := rfl
    rw [h0]
    simp only [List.map_cons, List.map_nil, List.sum_cons, List.sum_nil, big]
    omega
  unfold oJoin
  simp only [hs, if_pos z]
theorem mul5 (j : Int) : oMul (.int 5) (.int j) = some (.int (5 * j)) := oMul_int _ _ (.inl ⟨by decide, by decide⟩)
theorem mul7 (j : Int) : oMul (.int 7) (.int j) = some (.int (7 * j)) := oMul_int _ _ (.inl ⟨by decide, by decide⟩)
theorem rg6 : rgD 0 6 = [.int 0, .int 1, .int 2, .int 3, .int 4, .int 5] := rfl
theorem rg3 : rgD 0 3 = [.int 0, .int 1, .int 2] := rfl
theorem rgo6 : rgOk 0 6 = true := by decide
theorem rgo3 : rgOk 0 3 = true := by decide
theorem run_names (n : Nat) (c : Int) : ∃ a b d : Str, Low 13 a ∧ Low 13 b ∧ Low 13 d ∧ Phi (n + 1) .l_names [.int c] = some (.ok (.list [.str a, .str b, .str d])) := by
  rw [phi_l_names]
  have hl : ∀ s ∈ [letS (c / 7), letS (c / 7 + 5), letS (c / 7 + 10), letS (c / 7 + 15), letS (c / 7 + 20), letS (c / 7 + 25)], Low 1 s := by
    intro s hs
    simp only [List.mem_cons, List.not_mem_nil, or_false] at hs
    rcases hs with rfl | rfl | rfl | rfl | rfl | rfl <;> exact letS_low _
  have hj := oJoin_six hl
  have hr := join_low _ hl
  generalize hz : Txt.join "" [letS (c / 7), letS (c / 7 + 5), letS (c / 7 + 10), letS (c / 7 + 15), letS (c / 7 + 20), letS (c / 7 + 25)] = z at hj hr
  have hr : Low 6 z := hr
  have hb : z.length ≤ big := Nat.le_trans hr.len (by decide)
  have sl := fun lo hi => oSl_str hb lo hi
  have hrest : lcF (gfN 8) gYes (f2 oIx (fOpd 1) (f2 oMod (f2 oAdd (f2 oDiv (fOpd 0) (fCon (.int 7))) (f2 oMul (fCon (.int 5)) (fOpd 8))) (fCon (.int 26)))) [.va (.int c), .va (.str "abcdefghijklmnopqrstuvwxyz"), .no, .no, .no, .no, .no, .no, .no] [.int 0, .int 1, .int 2, .int 3, .int 4, .int 5]
      = some [.str (letS (c / 7)), .str (letS (c / 7 + 5)), .str (letS (c / 7 + 10)), .str (letS (c / 7 + 15)), .str (letS (c / 7 + 20)), .str (letS (c / 7 + 25))] := by
    simp [lcF, fOwn, fSeq, fNext, sRet, sRetN, sIf, sSet, sSetO, sAsg, sApp, sFor, forF, fVar, fOpd, fCon, f2, f1, fNil, fCons, bR, bL, bA, bLL, oR, fT, gAnd, gOr, gNot, gYes, fAnd, fOr, fNot, fIte, fTup, fLst, fCall, fCallO, fB, fM1, fSl, fiNo, fiSm, fLc, wLst, wTup, wStr, wRg1, wRg2, wZip, wEnum, gfN, gfTup, gsNil, gsCons, fLrg, fLrg3, wipeG, xSeq, xSet, xOf, xCall, xIf, xRet, xNext, xTup, xCons, xNil, xPut, xCallP, sRetX, sSetX, List.getElem?_cons_zero, List.getElem?_cons_succ, List.set_cons_zero, List.set_cons_succ, mul5, ix_letter]
  by_cases h2 : c % 3 = 2
  · refine ⟨cutS z none (some (1 + c / 3 % 4 + 0)), cutS z none (some (1 + c / 3 % 4 + 1)), cutS z none (some (1 + c / 3 % 4 + 2)), ?_, ?_, ?_, ?_⟩
    · exact ⟨(hr.cut _ _).let_, Nat.le_trans (hr.cut _ _).len (by decide)⟩
    · exact ⟨(hr.cut _ _).let_, Nat.le_trans (hr.cut _ _).len (by decide)⟩
    · exact ⟨(hr.cut _ _).let_, Nat.le_trans (hr.cut _ _).len (by decide)⟩
    have hsl : lcF (gfN 6) gYes (fSl (fOpd 2) fiNo (fiSm (f2 oAdd (fOpd 3) (fOpd 6)))) [.va (.int c), .va (.str "abcdefghijklmnopqrstuvwxyz"), .va (.str z), .va (.int (1 + c / 3 % 4)), .no, .no, .no, .no, .no] [.int 0, .int 1, .int 2]
        = some [.str (cutS z none (some (1 + c / 3 % 4 + 0))), .str (cutS z none (some (1 + c / 3 % 4 + 1))), .str (cutS z none (some (1 + c / 3 % 4 + 2)))] := by
      simp [lcF, fOwn, fSeq, fNext, sRet, sRetN, sIf, sSet, sSetO, sAsg, sApp, sFor, forF, fVar, fOpd, fCon, f2, f1, fNil, fCons, bR, bL, bA, bLL, oR, fT, gAnd, gOr, gNot, gYes, fAnd, fOr, fNot, fIte, fTup, fLst, fCall, fCallO, fB, fM1, fSl, fiNo, fiSm, fLc, wLst, wTup, wStr, wRg1, wRg2, wZip, wEnum, gfN, gfTup, gsNil, gsCons, fLrg, fLrg3, wipeG, xSeq, xSet, xOf, xCall, xIf, xRet, xNext, xTup, xCons, xNil, xPut, xCallP, sRetX, sSetX, List.getElem?_cons_zero, List.getElem?_cons_succ, List.set_cons_zero, List.set_cons_succ, sl]
    unfold runF f_l_names
    simp [entry, fOwn, fSeq, fNext, sRet, sRetN, sIf, sSet, sSetO, sAsg, sApp, sFor, forF, fVar, fOpd, fCon, f2, f1, fNil, fCons, bR, bL, bA, bLL, oR, fT, gAnd, gOr, gNot, gYes, fAnd, fOr, fNot, fIte, fTup, fLst, fCall, fCallO, fB, fM1, fSl, fiNo, fiSm, fLc, wLst, wTup, wStr, wRg1, wRg2, wZip, wEnum, gfN, gfTup, gsNil, gsCons, fLrg, fLrg3, wipeG, xSeq, xSet, xOf, xCall, xIf, xRet, xNext, xTup, xCons, xNil, xPut, xCallP, sRetX, sSetX, List.getElem?_cons_zero, List.getElem?_cons_succ, List.set_cons_zero, List.set_cons_succ, rg6, rg3, rgo6, rgo3, hrest, hj, h2, List.replicate, hsl]
  · have hs := Int.emod_nonneg (c / 3) (show (6 : Int) ≠ 0 by decide)
    have c2 : (c % 3 == 2) = false := beq_eq_false_iff_ne.mpr h2
    have w1 : ∀ x : Int, (cutS z none (some (c / 18 % (c / 3 % 6 + 1)))).length + (letS x).length ≤ big := fun x => by
      have h1 := (hr.cut none (some (c / 18 % (c / 3 % 6 + 1)))).len
      have h2 := (letS_low x).len
      unfold big; omega
    have w2 : ∀ x : Int, (cutS z none (some (c / 18 % (c / 3 % 6 + 1))) ++ letS x).length + (cutS z (some (c / 18 % (c / 3 % 6 + 1))) (some (c / 3 % 6))).length ≤ big := fun x => by
      have h1 := ((hr.cut none (some (c / 18 % (c / 3 % 6 + 1)))).app (letS_low x)).len
      have h2 := (hr.cut (some (c / 18 % (c / 3 % 6 + 1))) (some (c / 3 % 6))).len
      unfold big; omega
    have low : ∀ x : Int, Low 13 (cutS z none (some (c / 18 % (c / 3 % 6 + 1))) ++ letS x ++ cutS z (some (c / 18 % (c / 3 % 6 + 1))) (some (c / 3 % 6))) := fun x =>
      ((hr.cut none (some (c / 18 % (c / 3 % 6 + 1)))).app (letS_low x)).app (hr.cut (some (c / 18 % (c / 3 % 6 + 1))) (some (c / 3 % 6)))
    refine ⟨_, _, _, low (c / 90 + 7 * 0), low (c / 90 + 7 * 1), low (c / 90 + 7 * 2), ?_⟩
    have pos : (0 : Int) < c / 3 % 6 + 1 := by omega
    unfold runF f_l_names
    simp [entry, fOwn, fSeq, fNext, sRet, sRetN, sIf, sSet, sSetO, sAsg, sApp, sFor, forF, fVar, fOpd, fCon, f2, f1, fNil, fCons, bR, bL, bA, bLL, oR, fT, gAnd, gOr, gNot, gYes, fAnd, fOr, fNot, fIte, fTup, fLst, fCall, fCallO, fB, fM1, fSl, fiNo, fiSm, fLc, wLst, wTup, wStr, wRg1, wRg2, wZip, wEnum, gfN, gfTup, gsNil, gsCons, fLrg, fLrg3, wipeG, xSeq, xSet, xOf, xCall, xIf, xRet, xNext, xTup, xCons, xNil, xPut, xCallP, sRetX, sSetX, List.getElem?_cons_zero, List.getElem?_cons_succ, List.set_cons_zero, List.set_cons_succ, rg6, rg3, rgo6, rgo3, hrest, hj, c2, List.replicate, sl, ix_letter, mul7, oAdd_str (w1 _), oAdd_str (w2 _), oMod_int _ _ pos]
end K03

namespace K03
open PySem PySem.Spec PyProof.Rows L2 Py
/-! ### the cells (for laws without runs) -/
def cellT (ns : List Int) (k : Nat) : Int := ns.getD k 0
def nsD (ns : List Int) : D := .list (ns.map .int)
theorem run_cell (n : Nat) (ns : List Int) (k : Nat) : Phi (n + 1) .l_cell_at [nsD ns, .int k] = some (.ok (.int (cellT ns k))) := by
  rw [phi_l_cell_at]
  unfold runF f_l_cell_at
  by_cases h : k < ns.length
  · have h1 : (k : Int) < (ns.length : Int) := by omega
    have e : atI (ns.map PyData.int) (k : Int) = some (.int (cellT ns k)) := by
      refine atI_cast ?_
      rw [List.getElem?_map, List.getElem?_eq_getElem h]
      simp [cellT, List.getD, List.getElem?_eq_getElem h]
    simp [entry, fOwn, fSeq, fNext, sRet, sRetN, sIf, sSet, sSetO, sAsg, sApp, sFor, forF, fVar, fOpd, fCon, f2, f1, fNil, fCons, bR, bL, bA, bLL, oR, fT, gAnd, gOr, gNot, gYes, fAnd, fOr, fNot, fIte, fTup, fLst, fCall, fCallO, fB, fM1, fSl, fiNo, fiSm, fLc, wLst, wTup, wStr, wRg1, wRg2, wZip, wEnum, gfN, gfTup, gsNil, gsCons, fLrg, fLrg3, wipeG, xSeq, xSet, xOf, xCall, xIf, xRet, xNext, xTup, xCons, xNil, xPut, xCallP, sRetX, sSetX, List.getElem?_cons_zero, List.getElem?_cons_succ, List.set_cons_zero, List.set_cons_succ, nsD, h, e]
  · have h1 : ¬ (k : Int) < (ns.length : Int) := by omega
    have e : cellT ns k = 0 := by unfold cellT; rw [List.getD_eq_getElem?_getD, List.getElem?_eq_none (by omega)]; rfl
    simp [entry, fOwn, fSeq, fNext, sRet, sRetN, sIf, sSet, sSetO, sAsg, sApp, sFor, forF, fVar, fOpd, fCon, f2, f1, fNil, fCons, bR, bL, bA, bLL, oR, fT, gAnd, gOr, gNot, gYes, fAnd, fOr, fNot, fIte, fTup, fLst, fCall, fCallO, fB, fM1, fSl, fiNo, fiSm, fLc, wLst, wTup, wStr, wRg1, wRg2, wZip, wEnum, gfN, gfTup, gsNil, gsCons, fLrg, fLrg3, wipeG, xSeq, xSet, xOf, xCall, xIf, xRet, xNext, xTup, xCons, xNil, xPut, xCallP, sRetX, sSetX, List.getElem?_cons_zero, List.getElem?_cons_succ, List.set_cons_zero, List.set_cons_succ, nsD, h, e]
theorem oAdd_lst (x y : List D) : oAdd (.list x) (.list y) = if x.length + y.length ≤ big then some (.list (x ++ y)) else none := rfl
end K03

namespace K03
open PySem PySem.Spec PyProof.Rows L2 Py
/-! ### the statement that the script makes -/
theorem set_one (d : D) : ([.int 0] : List D).set 0 d = [d] := rfl
theorem run_draw (n : Nat) (ns : List Int) (k : Nat) : ∃ c : Int, Psi (n + 1) .l_draw (nsD ns) (k : Int) [] = some (.int c, ((k + 1 : Nat) : Int)) := by
  have i0 : ixN 1 0 = some 0 := by decide
  have e1 : ((k + 1 : Nat) : Int) = (k : Int) + 1 := by omega
  have e2 : (k : Int) + 1 - 1 = k := by omega
  have at_ : ∀ j : Nat, j < ns.length → atI (ns.map PyData.int) (j : Int) = some (.int (ns.getD j 0)) := fun j h => by
    refine atI_cast ?_
    rw [List.getElem?_map, List.getElem?_eq_getElem h]
    simp [List.getD, List.getElem?_eq_getElem h]
  rw [psi_l_draw, e1]
  unfold runX f_l_draw
  by_cases h : k < ns.length
  · refine ⟨ns.getD k 0, ?_⟩
    have a := at_ k h
    simp [entryX, entry, fOwn, fSeq, fNext, sRet, sRetN, sIf, sSet, sSetO, sAsg, sApp, sFor, forF, fVar, fOpd, fCon, f2, f1, fNil, fCons, bR, bL, bA, bLL, oR, fT, gAnd, gOr, gNot, gYes, fAnd, fOr, fNot, fIte, fTup, fLst, fCall, fCallO, fB, fM1, fSl, fiNo, fiSm, fLc, wLst, wTup, wStr, wRg1, wRg2, wZip, wEnum, gfN, gfTup, gsNil, gsCons, fLrg, fLrg3, wipeG, xSeq, xSet, xOf, xCall, xIf, xRet, xNext, xTup, xCons, xNil, xPut, xCallP, sRetX, sSetX, List.getElem?_cons_zero, List.getElem?_cons_succ, List.set_cons_zero, List.set_cons_succ, nsD, i0, e2, h, a, List.replicate]
  · by_cases h2 : 4 < ns.length ∧ k < 40
    · have hm : k % ns.length < ns.length := Nat.mod_lt _ (by omega)
      have a := at_ (k % ns.length) hm
      have em : (((k % ns.length : Nat)) : Int) = (k : Int) % (ns.length : Int) := by omega
      rw [em] at a
      have m1 : oMul (.int 7919) (.int (k : Int)) = some (.int (7919 * (k : Int))) := oMul_int _ _ (.inl ⟨by decide, by decide⟩)
      have m2 : ∀ x : Int, oMul (.int x) (.int 48271) = some (.int (x * 48271)) := fun x => oMul_int _ _ (.inr ⟨by decide, by decide⟩)
      have pos : (0 : Int) < (ns.length : Int) := by omega
      refine ⟨(ns.getD (k % ns.length) 0 + 7919 * (k : Int)) * 48271 % 1000003, ?_⟩
      have c4 : (4 : Int) < (ns.length : Int) := by omega
      have c40 : (k : Int) < 40 := by omega
      simp [entryX, entry, fOwn, fSeq, fNext, sRet, sRetN, sIf, sSet, sSetO, sAsg, sApp, sFor, forF, fVar, fOpd, fCon, f2, f1, fNil, fCons, bR, bL, bA, bLL, oR, fT, gAnd, gOr, gNot, gYes, fAnd, fOr, fNot, fIte, fTup, fLst, fCall, fCallO, fB, fM1, fSl, fiNo, fiSm, fLc, wLst, wTup, wStr, wRg1, wRg2, wZip, wEnum, gfN, gfTup, gsNil, gsCons, fLrg, fLrg3, wipeG, xSeq, xSet, xOf, xCall, xIf, xRet, xNext, xTup, xCons, xNil, xPut, xCallP, sRetX, sSetX, List.getElem?_cons_zero, List.getElem?_cons_succ, List.set_cons_zero, List.set_cons_succ, nsD, i0, e2, h, a, m1, m2, c4, c40, oMod_int _ _ pos, List.replicate]
    · refine ⟨0, ?_⟩
      by_cases h3 : 4 < ns.length
      · have c4 : (4 : Int) < (ns.length : Int) := by omega
        have c40 : ¬ (k : Int) < 40 := by omega
        simp [entryX, entry, fOwn, fSeq, fNext, sRet, sRetN, sIf, sSet, sSetO, sAsg, sApp, sFor, forF, fVar, fOpd, fCon, f2, f1, fNil, fCons, bR, bL, bA, bLL, oR, fT, gAnd, gOr, gNot, gYes, fAnd, fOr, fNot, fIte, fTup, fLst, fCall, fCallO, fB, fM1, fSl, fiNo, fiSm, fLc, wLst, wTup, wStr, wRg1, wRg2, wZip, wEnum, gfN, gfTup, gsNil, gsCons, fLrg, fLrg3, wipeG, xSeq, xSet, xOf, xCall, xIf, xRet, xNext, xTup, xCons, xNil, xPut, xCallP, sRetX, sSetX, List.getElem?_cons_zero, List.getElem?_cons_succ, List.set_cons_zero, List.set_cons_succ, nsD, i0, e2, h, c4, c40, List.replicate]
      · have c4 : ¬ (4 : Int) < (ns.length : Int) := by omega
        simp [entryX, entry, fOwn, fSeq, fNext, sRet, sRetN, sIf, sSet, sSetO, sAsg, sApp, sFor, forF, fVar, fOpd, fCon, f2, f1, fNil, fCons, bR, bL, bA, bLL, oR, fT, gAnd, gOr, gNot, gYes, fAnd, fOr, fNot, fIte, fTup, fLst, fCall, fCallO, fB, fM1, fSl, fiNo, fiSm, fLc, wLst, wTup, wStr, wRg1, wRg2, wZip, wEnum, gfN, gfTup, gsNil, gsCons, fLrg, fLrg3, wipeG, xSeq, xSet, xOf, xCall, xIf, xRet, xNext, xTup, xCons, xNil, xPut, xCallP, sRetX, sSetX, List.getElem?_cons_zero, List.getElem?_cons_succ, List.set_cons_zero, List.set_cons_succ, nsD, i0, e2, h, c4, List.replicate]
abbrev kindsA : List Str := ["not", "and", "or", "before", "since", "not", "and", "before", "since", "or", "since", "before"]
abbrev kindsB : List Str := ["not", "and", "or", "next", "until", "within", "until", "next", "since", "before", "until", "within"]
def words : List Str := ["not", "and", "or", "next", "until", "within", "before", "since"]
theorem oSplit_str {a b : Str} (g : (b.length == 0) = false ∧ a.length + 2 ≤ big) : oSplit a (.str b) = some (.list ((Txt.split a b).map .str)) := by
  show (if (b.length == 0) = false ∧ a.length + 2 ≤ big then some (PyData.list ((Txt.split a b).map .str)) else none) = _
  rw [if_pos g]
theorem split_a : oSplit "not and or before since not and before since or since before" (.str " ") = some (.list (kindsA.map .str)) := by
  have h : Txt.split "not and or before since not and before since or since before" " " = kindsA := by decide +kernel
  have g : (((" " : Str).length == 0) = false ∧ ("not and or before since not and before since or since before" : Str).length + 2 ≤ big) := by decide +kernel
  rw [oSplit_str g, h]
theorem split_b : oSplit "not and or next until within until next since before until within" (.str " ") = some (.list (kindsB.map .str)) := by
  have h : Txt.split "not and or next until within until next since before until within" " " = kindsB := by decide +kernel
  have g : (((" " : Str).length == 0) = false ∧ ("not and or next until within until next since before until within" : Str).length + 2 ≤ big) := by decide +kernel
  rw [oSplit_str g, h]
def wordsP : List Str := ["not", "and", "or", "before", "since"]
theorem at_words (W l : List Str) (hl : l.length = 12) (hw : ∀ w ∈ l, w ∈ W) (c : Int) (h : ¬ c % 14 < 2) : ∃ w ∈ W, atI (l.map PyData.str) (c % 14 - 2) = some (.str w) := by
  have h1 := Int.emod_nonneg c (show (14 : Int) ≠ 0 by decide)
  have h2 := Int.emod_lt_of_pos c (show (0 : Int) < 14 by decide)
  have hi : (c % 14 - 2).toNat < l.length := by omega
  refine ⟨l[(c % 14 - 2).toNat], hw _ (List.getElem_mem hi), ?_⟩
  have e : (((c % 14 - 2).toNat : Nat) : Int) = c % 14 - 2 := Int.toNat_of_nonneg (by omega)
  have a : atI (l.map PyData.str) (((c % 14 - 2).toNat : Nat) : Int) = some (.str l[(c % 14 - 2).toNat]) := by
    refine atI_cast ?_
    rw [List.getElem?_map, List.getElem?_eq_getElem hi]
    rfl
  rw [e] at a
  exact a
theorem at_ks (x y : Int) : ∃ j : Nat, j ≤ 4 ∧ atI ([.int 1, .int 2, .int 0, .int 1, .int (y % 5)] : List D) (x % 5) = some (.int j) := by
  have h1 := Int.emod_nonneg x (show (5 : Int) ≠ 0 by decide)
  have h2 := Int.emod_lt_of_pos x (show (0 : Int) < 5 by decide)
  have g1 := Int.emod_nonneg y (show (5 : Int) ≠ 0 by decide)
  have g2 := Int.emod_lt_of_pos y (show (0 : Int) < 5 by decide)
  have e : (((x % 5).toNat : Nat) : Int) = x % 5 := Int.toNat_of_nonneg h1
  generalize x % 5 = z at h1 h2 e ⊢
  have hz : z = 0 ∨ z = 1 ∨ z = 2 ∨ z = 3 ∨ z = 4 := by omega
  rcases hz with rfl | rfl | rfl | rfl | rfl
  · exact ⟨1, by decide, rfl⟩
  · exact ⟨2, by decide, rfl⟩
  · exact ⟨0, by decide, rfl⟩
  · exact ⟨1, by decide, rfl⟩
  · refine ⟨(y % 5).toNat, by omega, ?_⟩
    rw [Int.toNat_of_nonneg g1]
    rfl
theorem at_three (x y z : Str) (c : Int) : ∃ w ∈ [x, y, z], atI ([.str x, .str y, .str z] : List D) (c % 3) = some (.str w) := by
  have h1 := Int.emod_nonneg c (show (3 : Int) ≠ 0 by decide)
  have h2 := Int.emod_lt_of_pos c (show (0 : Int) < 3 by decide)
  generalize c % 3 = i at h1 h2 ⊢
  have hz : i = 0 ∨ i = 1 ∨ i = 2 := by omega
  rcases hz with rfl | rfl | rfl
  · exact ⟨x, by simp, rfl⟩
  · exact ⟨y, by simp, rfl⟩
  · exact ⟨z, by simp, rfl⟩
theorem made_leaf {ns : List Int} {x y z : Str} {p : Str → Prop} (hp : ∀ w ∈ [x, y, z], p w) (d : Nat) (D0 K0 K1 : Int) (ahead : Bool) (c : Int) (Psy : Nx → Phx) (hd : Psy .l_draw (nsD ns) K0 [] = some (.int c, K1)) (hc : D0 < 2 ∨ c % 14 < 2) :
      ∃ s : Sta, Fine (d + 1) p s ∧ noFut s ∧ unm s ∧ runX 5 10 (f_l_made Psy) (nsD ns) K0 [.list [.str x, .str y, .str z], .int D0, .bool ahead] = some (enc s, K1) := by
  by_cases h4 : c / 14 % 9 = 4
  · refine ⟨.yes, ⟨by simp [Sta.depth], trivial, trivial⟩, trivial, trivial, ?_⟩
    unfold runX f_l_made
    by_cases h0 : D0 < 2
    · simp [fOwn, fSeq, fNext, sRet, sRetN, sIf, sSet, sSetO, sAsg, sApp, sFor, forF, fVar, fOpd, fCon, f2, f1, fNil, fCons, bR, bL, bA, bLL, oR, fT, gAnd, gOr, gNot, gYes, fAnd, fOr, fNot, fIte, fTup, fLst, fCall, fCallO, fB, fM1, fSl, fiNo, fiSm, fLc, wLst, wTup, wStr, wRg1, wRg2, wZip, wEnum, gfN, gfTup, gsNil, gsCons, fLrg, fLrg3, wipeG, xSeq, xSet, xOf, xCall, xIf, xRet, xNext, xTup, xCons, xNil, xPut, xCallP, sRetX, sSetX, List.getElem?_cons_zero, List.getElem?_cons_succ, List.set_cons_zero, List.set_cons_succ, entryX, entry, List.replicate, hd, h0, h4, enc]
    · have h := hc.resolve_left h0
      simp [fOwn, fSeq, fNext, sRet, sRetN, sIf, sSet, sSetO, sAsg, sApp, sFor, forF, fVar, fOpd, fCon, f2, f1, fNil, fCons, bR, bL, bA, bLL, oR, fT, gAnd, gOr, gNot, gYes, fAnd, fOr, fNot, fIte, fTup, fLst, fCall, fCallO, fB, fM1, fSl, fiNo, fiSm, fLc, wLst, wTup, wStr, wRg1, wRg2, wZip, wEnum, gfN, gfTup, gsNil, gsCons, fLrg, fLrg3, wipeG, xSeq, xSet, xOf, xCall, xIf, xRet, xNext, xTup, xCons, xNil, xPut, xCallP, sRetX, sSetX, List.getElem?_cons_zero, List.getElem?_cons_succ, List.set_cons_zero, List.set_cons_succ, entryX, entry, List.replicate, hd, h, h0, h4, enc]
  · obtain ⟨w, hw, e⟩ := at_three x y z (c / 14)
    have h4b : (c / 14 % 9 == 4) = false := beq_eq_false_iff_ne.mpr h4
    refine ⟨.mark w, ⟨by simp [Sta.depth], hp w hw, trivial⟩, trivial, trivial, ?_⟩
    unfold runX f_l_made
    by_cases h0 : D0 < 2
    · simp [fOwn, fSeq, fNext, sRet, sRetN, sIf, sSet, sSetO, sAsg, sApp, sFor, forF, fVar, fOpd, fCon, f2, f1, fNil, fCons, bR, bL, bA, bLL, oR, fT, gAnd, gOr, gNot, gYes, fAnd, fOr, fNot, fIte, fTup, fLst, fCall, fCallO, fB, fM1, fSl, fiNo, fiSm, fLc, wLst, wTup, wStr, wRg1, wRg2, wZip, wEnum, gfN, gfTup, gsNil, gsCons, fLrg, fLrg3, wipeG, xSeq, xSet, xOf, xCall, xIf, xRet, xNext, xTup, xCons, xNil, xPut, xCallP, sRetX, sSetX, List.getElem?_cons_zero, List.getElem?_cons_succ, List.set_cons_zero, List.set_cons_succ, entryX, entry, List.replicate, hd, h0, h4b, e, enc]
    · have h := hc.resolve_left h0
      simp [fOwn, fSeq, fNext, sRet, sRetN, sIf, sSet, sSetO, sAsg, sApp, sFor, forF, fVar, fOpd, fCon, f2, f1, fNil, fCons, bR, bL, bA, bLL, oR, fT, gAnd, gOr, gNot, gYes, fAnd, fOr, fNot, fIte, fTup, fLst, fCall, fCallO, fB, fM1, fSl, fiNo, fiSm, fLc, wLst, wTup, wStr, wRg1, wRg2, wZip, wEnum, gfN, gfTup, gsNil, gsCons, fLrg, fLrg3, wipeG, xSeq, xSet, xOf, xCall, xIf, xRet, xNext, xTup, xCons, xNil, xPut, xCallP, sRetX, sSetX, List.getElem?_cons_zero, List.getElem?_cons_succ, List.set_cons_zero, List.set_cons_succ, entryX, entry, List.replicate, hd, h, h0, h4b, e, enc]
theorem wordsP_sub : ∀ w ∈ wordsP, w ∈ words := by decide +kernel
/-- the kind's name, as the script draws it -/
theorem kind_at (ahead : Bool) (c : Int) (h : ¬ c % 14 < 2) : ∃ w ∈ words, ∃ l : List D, (ahead = false → w ∈ wordsP) ∧ oSplit (if ahead = true then "not and or next until within until next since before until within" else "not and or before since not and before since or since before") (.str " ") = some (.list l) ∧ atI l (c % 14 - 2) = some (.str w) := by
  cases ahead with
  | true =>
    obtain ⟨w, hw, e⟩ := at_words words kindsB rfl (by decide +kernel) c h
    exact ⟨w, hw, _, (fun z => by cases z), split_b, e⟩
  | false =>
    obtain ⟨w, hw, e⟩ := at_words wordsP kindsA rfl (by decide +kernel) c h
    exact ⟨w, wordsP_sub w hw, _, fun _ => hw, split_a, e⟩
theorem made_node {ns : List Int} {P : D} (D0 K0 K1 : Int) (ahead : Bool) (c : Int) (Psy : Nx → Phx) (hd : Psy .l_draw (nsD ns) K0 [] = some (.int c, K1)) (h0 : ¬ D0 < 2) (hc : ¬ c % 14 < 2) {d : Nat} {p : Str → Prop}
    (hm : ∀ (k : Int) (b : Bool), (∃ j : Nat, k = j) → ∃ (s : Sta) (k' : Int), (∃ j : Nat, k' = j) ∧ Fine (d + 1) p s ∧ (b = false → noFut s) ∧ unm s ∧ Psy .l_made (nsD ns) k [P, .int (D0 - 1), .bool b] = some (enc s, k')) (hk : ∃ j : Nat, K1 = j) :
      ∃ (s : Sta) (k' : Int), (∃ j : Nat, k' = j) ∧ Fine (d + 1 + 1) p s ∧ (ahead = false → noFut s) ∧ unm s ∧ runX 5 10 (f_l_made Psy) (nsD ns) K0 [P, .int D0, .bool ahead] = some (enc s, k') := by
  obtain ⟨w, hw, l, hP, e1, e2⟩ := kind_at ahead c hc
  obtain ⟨s, K2, hk2, fs, ns_, us, es⟩ := hm K1 (ahead && !(w == "before" || w == "since")) hk
  obtain ⟨t, K3, hk3, ft, nt_, ut, et⟩ := hm K2 (ahead && !(w == "before" || w == "since")) hk2
  obtain ⟨j, hj, ej⟩ := at_ks (c / 14) (c / 14 / 6)
  have ds := fs.dep
  have dt := ft.dep
  simp only [words, List.mem_cons, List.not_mem_nil, or_false] at hw
  rcases hw with rfl | rfl | rfl | rfl | rfl | rfl | rfl | rfl
  · refine ⟨.nt s, K2, hk2, ⟨by simp [Sta.depth]; omega, fs.mks, fs.ks⟩, fun z => ns_ (by rw [z]; rfl), us, ?_⟩
    unfold runX f_l_made
    cases ahead <;> simp at e1 es et <;> simp [fOwn, fSeq, fNext, sRet, sRetN, sIf, sSet, sSetO, sAsg, sApp, sFor, forF, fVar, fOpd, fCon, f2, f1, fNil, fCons, bR, bL, bA, bLL, oR, fT, gAnd, gOr, gNot, gYes, fAnd, fOr, fNot, fIte, fTup, fLst, fCall, fCallO, fB, fM1, fSl, fiNo, fiSm, fLc, wLst, wTup, wStr, wRg1, wRg2, wZip, wEnum, gfN, gfTup, gsNil, gsCons, fLrg, fLrg3, wipeG, xSeq, xSet, xOf, xCall, xIf, xRet, xNext, xTup, xCons, xNil, xPut, xCallP, sRetX, sSetX, List.getElem?_cons_zero, List.getElem?_cons_succ, List.set_cons_zero, List.set_cons_succ, entryX, entry, List.replicate, hd, h0, hc, e1, e2, es, et, oIn, flatD, PyData.eqv, enc]
  · refine ⟨.an s t, K3, hk3, ⟨by simp [Sta.depth]; omega, ⟨fs.mks, ft.mks⟩, ⟨fs.ks, ft.ks⟩⟩, fun z => ⟨ns_ (by rw [z]; rfl), nt_ (by rw [z]; rfl)⟩, ⟨us, ut⟩, ?_⟩
    unfold runX f_l_made
    cases ahead <;> simp at e1 es et <;> simp [fOwn, fSeq, fNext, sRet, sRetN, sIf, sSet, sSetO, sAsg, sApp, sFor, forF, fVar, fOpd, fCon, f2, f1, fNil, fCons, bR, bL, bA, bLL, oR, fT, gAnd, gOr, gNot, gYes, fAnd, fOr, fNot, fIte, fTup, fLst, fCall, fCallO, fB, fM1, fSl, fiNo, fiSm, fLc, wLst, wTup, wStr, wRg1, wRg2, wZip, wEnum, gfN, gfTup, gsNil, gsCons, fLrg, fLrg3, wipeG, xSeq, xSet, xOf, xCall, xIf, xRet, xNext, xTup, xCons, xNil, xPut, xCallP, sRetX, sSetX, List.getElem?_cons_zero, List.getElem?_cons_succ, List.set_cons_zero, List.set_cons_succ, entryX, entry, List.replicate, hd, h0, hc, e1, e2, es, et, oIn, flatD, PyData.eqv, enc]
  · refine ⟨.or s t, K3, hk3, ⟨by simp [Sta.depth]; omega, ⟨fs.mks, ft.mks⟩, ⟨fs.ks, ft.ks⟩⟩, fun z => ⟨ns_ (by rw [z]; rfl), nt_ (by rw [z]; rfl)⟩, ⟨us, ut⟩, ?_⟩
    unfold runX f_l_made
    cases ahead <;> simp at e1 es et <;> simp [fOwn, fSeq, fNext, sRet, sRetN, sIf, sSet, sSetO, sAsg, sApp, sFor, forF, fVar, fOpd, fCon, f2, f1, fNil, fCons, bR, bL, bA, bLL, oR, fT, gAnd, gOr, gNot, gYes, fAnd, fOr, fNot, fIte, fTup, fLst, fCall, fCallO, fB, fM1, fSl, fiNo, fiSm, fLc, wLst, wTup, wStr, wRg1, wRg2, wZip, wEnum, gfN, gfTup, gsNil, gsCons, fLrg, fLrg3, wipeG, xSeq, xSet, xOf, xCall, xIf, xRet, xNext, xTup, xCons, xNil, xPut, xCallP, sRetX, sSetX, List.getElem?_cons_zero, List.getElem?_cons_succ, List.set_cons_zero, List.set_cons_succ, entryX, entry, List.replicate, hd, h0, hc, e1, e2, es, et, oIn, flatD, PyData.eqv, enc]
  · refine ⟨.nx s, K2, hk2, ⟨by simp [Sta.depth]; omega, fs.mks, fs.ks⟩, fun z => absurd (hP z) (by decide +kernel), us, ?_⟩
    unfold runX f_l_made
    cases ahead <;> simp at e1 es et <;> simp [fOwn, fSeq, fNext, sRet, sRetN, sIf, sSet, sSetO, sAsg, sApp, sFor, forF, fVar, fOpd, fCon, f2, f1, fNil, fCons, bR, bL, bA, bLL, oR, fT, gAnd, gOr, gNot, gYes, fAnd, fOr, fNot, fIte, fTup, fLst, fCall, fCallO, fB, fM1, fSl, fiNo, fiSm, fLc, wLst, wTup, wStr, wRg1, wRg2, wZip, wEnum, gfN, gfTup, gsNil, gsCons, fLrg, fLrg3, wipeG, xSeq, xSet, xOf, xCall, xIf, xRet, xNext, xTup, xCons, xNil, xPut, xCallP, sRetX, sSetX, List.getElem?_cons_zero, List.getElem?_cons_succ, List.set_cons_zero, List.set_cons_succ, entryX, entry, List.replicate, hd, h0, hc, e1, e2, es, et, oIn, flatD, PyData.eqv, enc]
  · refine ⟨.un s t, K3, hk3, ⟨by simp [Sta.depth]; omega, ⟨fs.mks, ft.mks⟩, ⟨fs.ks, ft.ks⟩⟩, fun z => absurd (hP z) (by decide +kernel), ⟨us, ut⟩, ?_⟩
    unfold runX f_l_made
    cases ahead <;> simp at e1 es et <;> simp [fOwn, fSeq, fNext, sRet, sRetN, sIf, sSet, sSetO, sAsg, sApp, sFor, forF, fVar, fOpd, fCon, f2, f1, fNil, fCons, bR, bL, bA, bLL, oR, fT, gAnd, gOr, gNot, gYes, fAnd, fOr, fNot, fIte, fTup, fLst, fCall, fCallO, fB, fM1, fSl, fiNo, fiSm, fLc, wLst, wTup, wStr, wRg1, wRg2, wZip, wEnum, gfN, gfTup, gsNil, gsCons, fLrg, fLrg3, wipeG, xSeq, xSet, xOf, xCall, xIf, xRet, xNext, xTup, xCons, xNil, xPut, xCallP, sRetX, sSetX, List.getElem?_cons_zero, List.getElem?_cons_succ, List.set_cons_zero, List.set_cons_succ, entryX, entry, List.replicate, hd, h0, hc, e1, e2, es, et, oIn, flatD, PyData.eqv, enc]
  · refine ⟨.wi j s, K2, hk2, ⟨by simp [Sta.depth]; omega, fs.mks, ⟨hj, fs.ks⟩⟩, fun z => absurd (hP z) (by decide +kernel), us, ?_⟩
    unfold runX f_l_made
    cases ahead <;> simp at e1 es et <;> simp [fOwn, fSeq, fNext, sRet, sRetN, sIf, sSet, sSetO, sAsg, sApp, sFor, forF, fVar, fOpd, fCon, f2, f1, fNil, fCons, bR, bL, bA, bLL, oR, fT, gAnd, gOr, gNot, gYes, fAnd, fOr, fNot, fIte, fTup, fLst, fCall, fCallO, fB, fM1, fSl, fiNo, fiSm, fLc, wLst, wTup, wStr, wRg1, wRg2, wZip, wEnum, gfN, gfTup, gsNil, gsCons, fLrg, fLrg3, wipeG, xSeq, xSet, xOf, xCall, xIf, xRet, xNext, xTup, xCons, xNil, xPut, xCallP, sRetX, sSetX, List.getElem?_cons_zero, List.getElem?_cons_succ, List.set_cons_zero, List.set_cons_succ, entryX, entry, List.replicate, hd, h0, hc, e1, e2, es, et, ej, oIn, flatD, PyData.eqv, enc]
  · refine ⟨.bf s, K2, hk2, ⟨by simp [Sta.depth]; omega, fs.mks, fs.ks⟩, fun z => ns_ (by rw [z]; rfl), ns_ (by simp), ?_⟩
    unfold runX f_l_made
    cases ahead <;> simp at e1 es et <;> simp [fOwn, fSeq, fNext, sRet, sRetN, sIf, sSet, sSetO, sAsg, sApp, sFor, forF, fVar, fOpd, fCon, f2, f1, fNil, fCons, bR, bL, bA, bLL, oR, fT, gAnd, gOr, gNot, gYes, fAnd, fOr, fNot, fIte, fTup, fLst, fCall, fCallO, fB, fM1, fSl, fiNo, fiSm, fLc, wLst, wTup, wStr, wRg1, wRg2, wZip, wEnum, gfN, gfTup, gsNil, gsCons, fLrg, fLrg3, wipeG, xSeq, xSet, xOf, xCall, xIf, xRet, xNext, xTup, xCons, xNil, xPut, xCallP, sRetX, sSetX, List.getElem?_cons_zero, List.getElem?_cons_succ, List.set_cons_zero, List.set_cons_succ, entryX, entry, List.replicate, hd, h0, hc, e1, e2, es, et, oIn, flatD, PyData.eqv, enc]
  · refine ⟨.si s t, K3, hk3, ⟨by simp [Sta.depth]; omega, ⟨fs.mks, ft.mks⟩, ⟨fs.ks, ft.ks⟩⟩, fun z => ⟨ns_ (by rw [z]; rfl), nt_ (by rw [z]; rfl)⟩, ⟨ns_ (by simp), nt_ (by simp)⟩, ?_⟩
    unfold runX f_l_made
    cases ahead <;> simp at e1 es et <;> simp [fOwn, fSeq, fNext, sRet, sRetN, sIf, sSet, sSetO, sAsg, sApp, sFor, forF, fVar, fOpd, fCon, f2, f1, fNil, fCons, bR, bL, bA, bLL, oR, fT, gAnd, gOr, gNot, gYes, fAnd, fOr, fNot, fIte, fTup, fLst, fCall, fCallO, fB, fM1, fSl, fiNo, fiSm, fLc, wLst, wTup, wStr, wRg1, wRg2, wZip, wEnum, gfN, gfTup, gsNil, gsCons, fLrg, fLrg3, wipeG, xSeq, xSet, xOf, xCall, xIf, xRet, xNext, xTup, xCons, xNil, xPut, xCallP, sRetX, sSetX, List.getElem?_cons_zero, List.getElem?_cons_succ, List.set_cons_zero, List.set_cons_succ, entryX, entry, List.replicate, hd, h0, hc, e1, e2, es, et, oIn, flatD, PyData.eqv, enc]
theorem run_made {ns : List Int} {x y z : Str} {p : Str → Prop} (hp : ∀ w ∈ [x, y, z], p w) : ∀ (d n : Nat) (k : Int) (ahead : Bool), (∃ j : Nat, k = j) → d + 3 ≤ n →
    ∃ (s : Sta) (k' : Int), (∃ j : Nat, k' = j) ∧ Fine (d + 1) p s ∧ (ahead = false → noFut s) ∧ unm s ∧ Psi n .l_made (nsD ns) k [.list [.str x, .str y, .str z], .int ((d : Int) + 1), .bool ahead] = some (enc s, k') := by
  intro d
  induction d with
  | zero =>
    rintro n k ahead ⟨j, rfl⟩ hn
    obtain ⟨n, rfl⟩ : ∃ m, n = m + 2 := ⟨n - 2, by omega⟩
    obtain ⟨c, hc⟩ := run_draw n ns j
    rw [psi_l_made]
    obtain ⟨s, fs, ns_, us, es⟩ := made_leaf hp 0 (((0 : Nat) : Int) + 1) _ _ ahead c _ hc (.inl (by decide))
    exact ⟨s, _, ⟨_, rfl⟩, fs, fun _ => ns_, us, es⟩
  | succ d ih =>
    rintro n k ahead ⟨j, rfl⟩ hn
    obtain ⟨n, rfl⟩ : ∃ m, n = m + 2 := ⟨n - 2, by omega⟩
    obtain ⟨c, hc⟩ := run_draw n ns j
    rw [psi_l_made]
    by_cases hl : c % 14 < 2
    · obtain ⟨s, fs, ns_, us, es⟩ := made_leaf hp (d + 1) (((d + 1 : Nat) : Int) + 1) _ _ ahead c _ hc (.inr hl)
      exact ⟨s, _, ⟨_, rfl⟩, fs, fun _ => ns_, us, es⟩
    · refine made_node (((d + 1 : Nat) : Int) + 1) _ _ ahead c _ hc (by omega) hl (fun k b hk => ?_) ⟨_, rfl⟩
      have e : ((d + 1 : Nat) : Int) + 1 - 1 = (d : Int) + 1 := by omega
      rw [e]
      exact ih (n + 1) k b hk (by omega)
end K03

namespace K03
open PySem PySem.Spec PyProof.Rows L2 Py
/-! ### what a statement hangs on, as the program gathers it -/
def partsT : Sta → List Sta
  | .mark _ => [] | .yes => []
  | .nt s => [s] | .nx s => [s] | .wi _ s => [s] | .bf s => [s]
  | .an s t => [s, t] | .or s t => [s, t] | .un s t => [s, t] | .si s t => [s, t]
theorem run_parts (n : Nat) (s : Sta) : Phi (n + 1) .parts_of [enc s] = some (.ok (encL (partsT s))) := by
  rw [phi_parts_of]
  cases s <;> simp [runF, entry, f_parts_of, enc, encL, partsT, fOwn, fSeq, fNext, sRet, sRetN, sIf, sSet, sSetO, sAsg, sApp, sFor, forF, fVar, fOpd, fCon, f2, f1, fNil, fCons, bR, bL, bA, bLL, oR, fT, gAnd, gOr, gNot, gYes, fAnd, fOr, fNot, fIte, fTup, fLst, fCall, fCallO, fB, fM1, fSl, fiNo, fiSm, fLc, wLst, wTup, wStr, wRg1, wRg2, wZip, wEnum, gfN, gfTup, gsNil, gsCons, fLrg, fLrg3, wipeG, xSeq, xSet, xOf, xCall, xIf, xRet, xNext, xTup, xCons, xNil, xPut, xCallP, sRetX, sSetX, List.getElem?_cons_zero, List.getElem?_cons_succ, List.set_cons_zero, List.set_cons_succ, tail_tup, tail_one, lcF, isi_enc, isi_str, isi_int]
def wishedT : Sta → List Sta
  | .mark _ => [] | .yes => []
  | .nt s => wishedT s | .bf s => wishedT s
  | .an s t => wishedT s ++ wishedT t | .or s t => wishedT s ++ wishedT t | .si s t => wishedT s ++ wishedT t
  | .nx s => [s]
  | .un s t => wishedT s ++ wishedT t ++ [.un s t]
  | .wi k s => wishedT s ++ (match k with | 0 => [] | k + 1 => [.wi k s])
theorem wishedT_len : ∀ s : Sta, (wishedT s).length + 1 ≤ 2 ^ s.depth := by
  intro s
  induction s with
  | mark m => simp [wishedT, Sta.depth]
  | yes => simp [wishedT, Sta.depth]
  | nt s ih => simp only [wishedT, Sta.depth, Nat.pow_succ]; omega
  | bf s ih => simp only [wishedT, Sta.depth, Nat.pow_succ]; omega
  | nx s ih => have := Nat.one_le_two_pow (n := s.depth); simp only [wishedT, Sta.depth, Nat.pow_succ, List.length_cons, List.length_nil]; omega
  | wi k s ih => cases k <;> simp only [wishedT, Sta.depth, Nat.pow_succ, List.length_append, List.length_cons, List.length_nil] <;> omega
  | an s t ih ih' =>
    have p1 : 2 ^ s.depth ≤ 2 ^ (max s.depth t.depth) := Nat.pow_le_pow_right (by omega) (by omega)
    have p2 : 2 ^ t.depth ≤ 2 ^ (max s.depth t.depth) := Nat.pow_le_pow_right (by omega) (by omega)
    simp only [wishedT, Sta.depth, List.length_append, Nat.pow_succ]; omega
  | or s t ih ih' =>
    have p1 : 2 ^ s.depth ≤ 2 ^ (max s.depth t.depth) := Nat.pow_le_pow_right (by omega) (by omega)
    have p2 : 2 ^ t.depth ≤ 2 ^ (max s.depth t.depth) := Nat.pow_le_pow_right (by omega) (by omega)
    simp only [wishedT, Sta.depth, List.length_append, Nat.pow_succ]; omega
  | si s t ih ih' =>
    have p1 : 2 ^ s.depth ≤ 2 ^ (max s.depth t.depth) := Nat.pow_le_pow_right (by omega) (by omega)
    have p2 : 2 ^ t.depth ≤ 2 ^ (max s.depth t.depth) := Nat.pow_le_pow_right (by omega) (by omega)
    simp only [wishedT, Sta.depth, List.length_append, Nat.pow_succ]; omega
  | un s t ih ih' =>
    have p1 : 2 ^ s.depth ≤ 2 ^ (max s.depth t.depth) := Nat.pow_le_pow_right (by omega) (by omega)
    have p2 : 2 ^ t.depth ≤ 2 ^ (max s.depth t.depth) := Nat.pow_le_pow_right (by omega) (by omega)
    simp only [wishedT, Sta.depth, List.length_append, Nat.pow_succ, List.length_cons, List.length_nil]; omega
theorem run_wished : ∀ (s : Sta) (n : Nat), s.depth ≤ 19 → s.depth + 1 ≤ n → Phi n .wished [enc s] = some (.ok (encL (wishedT s))) := by
  intro s
  induction s with
  | mark m =>
    intro n hd hn
    obtain ⟨n, rfl⟩ : ∃ k, n = k + 2 := ⟨n - 2, by simp [Sta.depth] at hn; omega⟩
    have p := run_parts n (.mark m)
    rw [phi_wished]
    simp only [encL, partsT, List.map_nil, enc] at p
    simp [runF, entry, f_wished, enc, encL, wishedT, fOwn, fSeq, fNext, sRet, sRetN, sIf, sSet, sSetO, sAsg, sApp, sFor, forF, fVar, fOpd, fCon, f2, f1, fNil, fCons, bR, bL, bA, bLL, oR, fT, gAnd, gOr, gNot, gYes, fAnd, fOr, fNot, fIte, fTup, fLst, fCall, fCallO, fB, fM1, fSl, fiNo, fiSm, fLc, wLst, wTup, wStr, wRg1, wRg2, wZip, wEnum, gfN, gfTup, gsNil, gsCons, fLrg, fLrg3, wipeG, xSeq, xSet, xOf, xCall, xIf, xRet, xNext, xTup, xCons, xNil, xPut, xCallP, sRetX, sSetX, List.getElem?_cons_zero, List.getElem?_cons_succ, List.set_cons_zero, List.set_cons_succ, p, List.replicate]
  | yes =>
    intro n hd hn
    obtain ⟨n, rfl⟩ : ∃ k, n = k + 2 := ⟨n - 2, by simp [Sta.depth] at hn; omega⟩
    have p := run_parts n .yes
    rw [phi_wished]
    simp only [encL, partsT, List.map_nil, enc] at p
    simp [runF, entry, f_wished, enc, encL, wishedT, fOwn, fSeq, fNext, sRet, sRetN, sIf, sSet, sSetO, sAsg, sApp, sFor, forF, fVar, fOpd, fCon, f2, f1, fNil, fCons, bR, bL, bA, bLL, oR, fT, gAnd, gOr, gNot, gYes, fAnd, fOr, fNot, fIte, fTup, fLst, fCall, fCallO, fB, fM1, fSl, fiNo, fiSm, fLc, wLst, wTup, wStr, wRg1, wRg2, wZip, wEnum, gfN, gfTup, gsNil, gsCons, fLrg, fLrg3, wipeG, xSeq, xSet, xOf, xCall, xIf, xRet, xNext, xTup, xCons, xNil, xPut, xCallP, sRetX, sSetX, List.getElem?_cons_zero, List.getElem?_cons_succ, List.set_cons_zero, List.set_cons_succ, p, List.replicate]
  | nt s ih =>
    intro n hd hn
    simp [Sta.depth] at hn hd
    obtain ⟨n, rfl⟩ : ∃ k, n = k + 2 := ⟨n - 2, by omega⟩
    have p := run_parts n (.nt s)
    have h := ih (n + 1) (by omega) (by omega)
    have z := Nat.le_trans (wishedT_len s) (big_pow (d := s.depth) (by omega))
    have z0 : (wishedT s).length ≤ big := by omega
    rw [phi_wished]
    simp only [encL, partsT, List.map_cons, List.map_nil, enc] at p h
    simp [runF, entry, f_wished, enc, encL, wishedT, fOwn, fSeq, fNext, sRet, sRetN, sIf, sSet, sSetO, sAsg, sApp, sFor, forF, fVar, fOpd, fCon, f2, f1, fNil, fCons, bR, bL, bA, bLL, oR, fT, gAnd, gOr, gNot, gYes, fAnd, fOr, fNot, fIte, fTup, fLst, fCall, fCallO, fB, fM1, fSl, fiNo, fiSm, fLc, wLst, wTup, wStr, wRg1, wRg2, wZip, wEnum, gfN, gfTup, gsNil, gsCons, fLrg, fLrg3, wipeG, xSeq, xSet, xOf, xCall, xIf, xRet, xNext, xTup, xCons, xNil, xPut, xCallP, sRetX, sSetX, List.getElem?_cons_zero, List.getElem?_cons_succ, List.set_cons_zero, List.set_cons_succ, p, h, List.replicate, oAdd_lst, z0]
  | bf s ih =>
    intro n hd hn
    simp [Sta.depth] at hn hd
    obtain ⟨n, rfl⟩ : ∃ k, n = k + 2 := ⟨n - 2, by omega⟩
    have p := run_parts n (.bf s)
    have h := ih (n + 1) (by omega) (by omega)
    have z := Nat.le_trans (wishedT_len s) (big_pow (d := s.depth) (by omega))
    have z0 : (wishedT s).length ≤ big := by omega
    rw [phi_wished]
    simp only [encL, partsT, List.map_cons, List.map_nil, enc] at p h
    simp [runF, entry, f_wished, enc, encL, wishedT, fOwn, fSeq, fNext, sRet, sRetN, sIf, sSet, sSetO, sAsg, sApp, sFor, forF, fVar, fOpd, fCon, f2, f1, fNil, fCons, bR, bL, bA, bLL, oR, fT, gAnd, gOr, gNot, gYes, fAnd, fOr, fNot, fIte, fTup, fLst, fCall, fCallO, fB, fM1, fSl, fiNo, fiSm, fLc, wLst, wTup, wStr, wRg1, wRg2, wZip, wEnum, gfN, gfTup, gsNil, gsCons, fLrg, fLrg3, wipeG, xSeq, xSet, xOf, xCall, xIf, xRet, xNext, xTup, xCons, xNil, xPut, xCallP, sRetX, sSetX, List.getElem?_cons_zero, List.getElem?_cons_succ, List.set_cons_zero, List.set_cons_succ, p, h, List.replicate, oAdd_lst, z0]
  | nx s ih =>
    intro n hd hn
    simp [Sta.depth] at hn hd
    obtain ⟨n, rfl⟩ : ∃ k, n = k + 2 := ⟨n - 2, by omega⟩
    have p := run_parts n (.nx s)
    rw [phi_wished]
    simp only [encL, partsT, List.map_cons, List.map_nil, enc] at p
    simp [runF, entry, f_wished, enc, encL, wishedT, fOwn, fSeq, fNext, sRet, sRetN, sIf, sSet, sSetO, sAsg, sApp, sFor, forF, fVar, fOpd, fCon, f2, f1, fNil, fCons, bR, bL, bA, bLL, oR, fT, gAnd, gOr, gNot, gYes, fAnd, fOr, fNot, fIte, fTup, fLst, fCall, fCallO, fB, fM1, fSl, fiNo, fiSm, fLc, wLst, wTup, wStr, wRg1, wRg2, wZip, wEnum, gfN, gfTup, gsNil, gsCons, fLrg, fLrg3, wipeG, xSeq, xSet, xOf, xCall, xIf, xRet, xNext, xTup, xCons, xNil, xPut, xCallP, sRetX, sSetX, List.getElem?_cons_zero, List.getElem?_cons_succ, List.set_cons_zero, List.set_cons_succ, p, List.replicate]
  | wi k s ih =>
    intro n hd hn
    simp [Sta.depth] at hn hd
    obtain ⟨n, rfl⟩ : ∃ k, n = k + 2 := ⟨n - 2, by omega⟩
    have p := run_parts n (.wi k s)
    have h := ih (n + 1) (by omega) (by omega)
    have z := Nat.le_trans (wishedT_len s) (big_pow (d := s.depth) (by omega))
    have z0 : (wishedT s).length ≤ big := by omega
    rw [phi_wished]
    simp only [encL, partsT, List.map_cons, List.map_nil, enc] at p h
    cases k with
    | zero => simp [runF, entry, f_wished, enc, encL, wishedT, fOwn, fSeq, fNext, sRet, sRetN, sIf, sSet, sSetO, sAsg, sApp, sFor, forF, fVar, fOpd, fCon, f2, f1, fNil, fCons, bR, bL, bA, bLL, oR, fT, gAnd, gOr, gNot, gYes, fAnd, fOr, fNot, fIte, fTup, fLst, fCall, fCallO, fB, fM1, fSl, fiNo, fiSm, fLc, wLst, wTup, wStr, wRg1, wRg2, wZip, wEnum, gfN, gfTup, gsNil, gsCons, fLrg, fLrg3, wipeG, xSeq, xSet, xOf, xCall, xIf, xRet, xNext, xTup, xCons, xNil, xPut, xCallP, sRetX, sSetX, List.getElem?_cons_zero, List.getElem?_cons_succ, List.set_cons_zero, List.set_cons_succ, p, h, List.replicate, oAdd_lst, z0] at p ⊢
    | succ k =>
      have c : (0 : Int) < (k : Int) + 1 := by omega
      simp [runF, entry, f_wished, enc, encL, wishedT, fOwn, fSeq, fNext, sRet, sRetN, sIf, sSet, sSetO, sAsg, sApp, sFor, forF, fVar, fOpd, fCon, f2, f1, fNil, fCons, bR, bL, bA, bLL, oR, fT, gAnd, gOr, gNot, gYes, fAnd, fOr, fNot, fIte, fTup, fLst, fCall, fCallO, fB, fM1, fSl, fiNo, fiSm, fLc, wLst, wTup, wStr, wRg1, wRg2, wZip, wEnum, gfN, gfTup, gsNil, gsCons, fLrg, fLrg3, wipeG, xSeq, xSet, xOf, xCall, xIf, xRet, xNext, xTup, xCons, xNil, xPut, xCallP, sRetX, sSetX, List.getElem?_cons_zero, List.getElem?_cons_succ, List.set_cons_zero, List.set_cons_succ, p, h, List.replicate, oAdd_lst, z0, c] at p ⊢
  | an s t ih ih' =>
    intro n hd hn
    have z := Nat.le_trans (wishedT_len (.an s t)) (big_pow (d := (Sta.an s t).depth) (by omega))
    simp [Sta.depth] at hn hd
    obtain ⟨n, rfl⟩ : ∃ k, n = k + 2 := ⟨n - 2, by omega⟩
    have p := run_parts n (.an s t)
    have h := ih (n + 1) (by omega) (by omega)
    have h' := ih' (n + 1) (by omega) (by omega)
    simp only [wishedT, List.length_append] at z
    have z0 : (wishedT s).length ≤ big := by omega
    have z1 : (wishedT s).length + (wishedT t).length ≤ big := by omega
    rw [phi_wished]
    simp only [encL, partsT, List.map_cons, List.map_nil, enc] at p h h'
    simp [runF, entry, f_wished, enc, encL, wishedT, fOwn, fSeq, fNext, sRet, sRetN, sIf, sSet, sSetO, sAsg, sApp, sFor, forF, fVar, fOpd, fCon, f2, f1, fNil, fCons, bR, bL, bA, bLL, oR, fT, gAnd, gOr, gNot, gYes, fAnd, fOr, fNot, fIte, fTup, fLst, fCall, fCallO, fB, fM1, fSl, fiNo, fiSm, fLc, wLst, wTup, wStr, wRg1, wRg2, wZip, wEnum, gfN, gfTup, gsNil, gsCons, fLrg, fLrg3, wipeG, xSeq, xSet, xOf, xCall, xIf, xRet, xNext, xTup, xCons, xNil, xPut, xCallP, sRetX, sSetX, List.getElem?_cons_zero, List.getElem?_cons_succ, List.set_cons_zero, List.set_cons_succ, p, h, h', List.replicate, oAdd_lst, z0, z1]
  | or s t ih ih' =>
    intro n hd hn
    have z := Nat.le_trans (wishedT_len (.or s t)) (big_pow (d := (Sta.or s t).depth) (by omega))
    simp [Sta.depth] at hn hd
    obtain ⟨n, rfl⟩ : ∃ k, n = k + 2 := ⟨n - 2, by omega⟩
    have p := run_parts n (.or s t)
    have h := ih (n + 1) (by omega) (by omega)
    have h' := ih' (n + 1) (by omega) (by omega)
    simp only [wishedT, List.length_append] at z
    have z0 : (wishedT s).length ≤ big := by omega
    have z1 : (wishedT s).length + (wishedT t).length ≤ big := by omega
    rw [phi_wished]
    simp only [encL, partsT, List.map_cons, List.map_nil, enc] at p h h'
    simp [runF, entry, f_wished, enc, encL, wishedT, fOwn, fSeq, fNext, sRet, sRetN, sIf, sSet, sSetO, sAsg, sApp, sFor, forF, fVar, fOpd, fCon, f2, f1, fNil, fCons, bR, bL, bA, bLL, oR, fT, gAnd, gOr, gNot, gYes, fAnd, fOr, fNot, fIte, fTup, fLst, fCall, fCallO, fB, fM1, fSl, fiNo, fiSm, fLc, wLst, wTup, wStr, wRg1, wRg2, wZip, wEnum, gfN, gfTup, gsNil, gsCons, fLrg, fLrg3, wipeG, xSeq, xSet, xOf, xCall, xIf, xRet, xNext, xTup, xCons, xNil, xPut, xCallP, sRetX, sSetX, List.getElem?_cons_zero, List.getElem?_cons_succ, List.set_cons_zero, List.set_cons_succ, p, h, h', List.replicate, oAdd_lst, z0, z1]
  | si s t ih ih' =>
    intro n hd hn
    have z := Nat.le_trans (wishedT_len (.si s t)) (big_pow (d := (Sta.si s t).depth) (by omega))
    simp [Sta.depth] at hn hd
    obtain ⟨n, rfl⟩ : ∃ k, n = k + 2 := ⟨n - 2, by omega⟩
    have p := run_parts n (.si s t)
    have h := ih (n + 1) (by omega) (by omega)
    have h' := ih' (n + 1) (by omega) (by omega)
    simp only [wishedT, List.length_append] at z
    have z0 : (wishedT s).length ≤ big := by omega
    have z1 : (wishedT s).length + (wishedT t).length ≤ big := by omega
    rw [phi_wished]
    simp only [encL, partsT, List.map_cons, List.map_nil, enc] at p h h'
    simp [runF, entry, f_wished, enc, encL, wishedT, fOwn, fSeq, fNext, sRet, sRetN, sIf, sSet, sSetO, sAsg, sApp, sFor, forF, fVar, fOpd, fCon, f2, f1, fNil, fCons, bR, bL, bA, bLL, oR, fT, gAnd, gOr, gNot, gYes, fAnd, fOr, fNot, fIte, fTup, fLst, fCall, fCallO, fB, fM1, fSl, fiNo, fiSm, fLc, wLst, wTup, wStr, wRg1, wRg2, wZip, wEnum, gfN, gfTup, gsNil, gsCons, fLrg, fLrg3, wipeG, xSeq, xSet, xOf, xCall, xIf, xRet, xNext, xTup, xCons, xNil, xPut, xCallP, sRetX, sSetX, List.getElem?_cons_zero, List.getElem?_cons_succ, List.set_cons_zero, List.set_cons_succ, p, h, h', List.replicate, oAdd_lst, z0, z1]
  | un s t ih ih' =>
    intro n hd hn
    have z := Nat.le_trans (wishedT_len (.un s t)) (big_pow (d := (Sta.un s t).depth) (by omega))
    simp [Sta.depth] at hn hd
    obtain ⟨n, rfl⟩ : ∃ k, n = k + 2 := ⟨n - 2, by omega⟩
    have p := run_parts n (.un s t)
    have h := ih (n + 1) (by omega) (by omega)
    have h' := ih' (n + 1) (by omega) (by omega)
    simp only [wishedT, List.length_append, List.length_cons, List.length_nil] at z
    have z0 : (wishedT s).length ≤ big := by omega
    have z1 : (wishedT s).length + (wishedT t).length ≤ big := by omega
    rw [phi_wished]
    simp only [encL, partsT, List.map_cons, List.map_nil, enc] at p h h'
    simp [runF, entry, f_wished, enc, encL, wishedT, fOwn, fSeq, fNext, sRet, sRetN, sIf, sSet, sSetO, sAsg, sApp, sFor, forF, fVar, fOpd, fCon, f2, f1, fNil, fCons, bR, bL, bA, bLL, oR, fT, gAnd, gOr, gNot, gYes, fAnd, fOr, fNot, fIte, fTup, fLst, fCall, fCallO, fB, fM1, fSl, fiNo, fiSm, fLc, wLst, wTup, wStr, wRg1, wRg2, wZip, wEnum, gfN, gfTup, gsNil, gsCons, fLrg, fLrg3, wipeG, xSeq, xSet, xOf, xCall, xIf, xRet, xNext, xTup, xCons, xNil, xPut, xCallP, sRetX, sSetX, List.getElem?_cons_zero, List.getElem?_cons_succ, List.set_cons_zero, List.set_cons_succ, p, h, h', List.replicate, oAdd_lst, z0, z1]
end K03

namespace K03
open PySem PySem.Spec PyProof.Rows L2 Py
/-! ### the wishes, gathered one behind the other -/
def addE (l : List Sta) (x : Sta) : List Sta := if x ∈ l then l else l ++ [x]
theorem mem_addE {l : List Sta} {x y : Sta} : y ∈ addE l x ↔ y ∈ l ∨ y = x := by
  unfold addE
  split
  · rename_i h; exact ⟨.inl, fun z => z.elim id fun e => e ▸ h⟩
  · simp
theorem nodup_addE {l : List Sta} {x : Sta} (h : l.Nodup) : (addE l x).Nodup := by
  unfold addE
  split
  · exact h
  · rename_i hx
    exact List.nodup_append.mpr ⟨h, by simp, fun a ha b hb e => hx (by simp at hb; rw [← hb, ← e]; exact ha)⟩
theorem mem_foldE : ∀ {xs l : List Sta} {y : Sta}, y ∈ xs.foldl addE l ↔ y ∈ l ∨ y ∈ xs
  | [], l, y => by simp
  | x :: xs, l, y => by rw [List.foldl_cons, mem_foldE, mem_addE, List.mem_cons]; exact or_assoc
theorem nodup_foldE : ∀ {xs l : List Sta}, l.Nodup → (xs.foldl addE l).Nodup
  | [], _, h => h
  | _ :: xs, _, h => nodup_foldE (xs := xs) (nodup_addE h)
theorem pre_addE (l : List Sta) (x : Sta) : ∃ r, addE l x = l ++ r := by
  unfold addE
  split
  · exact ⟨[], by simp⟩
  · exact ⟨[x], rfl⟩
theorem pre_foldE : ∀ (xs l : List Sta), ∃ r, xs.foldl addE l = l ++ r
  | [], l => ⟨[], by simp⟩
  | x :: xs, l => by
    obtain ⟨r, e⟩ := pre_addE l x
    obtain ⟨r', e'⟩ := pre_foldE xs (addE l x)
    exact ⟨r ++ r', by rw [List.foldl_cons, e', e, List.append_assoc]⟩
theorem nodup_len {α : Type} [DecidableEq α] : ∀ (F U : List α), F.Nodup → (∀ x ∈ F, x ∈ U) → F.length ≤ U.length
  | [], _, _, _ => Nat.zero_le _
  | x :: F, U, h, s => by
    obtain ⟨h1, h2⟩ := List.nodup_cons.mp h
    have hx : x ∈ U := s x List.mem_cons_self
    have ih := nodup_len F (U.erase x) h2 fun y hy => (List.mem_erase_of_ne (a := y) (b := x) (fun e => h1 (by rw [← e]; exact hy))).mpr (s y (List.mem_cons_of_mem _ hy))
    have := List.length_erase_of_mem hx
    have hp := List.length_pos_of_mem hx
    simp only [List.length_cons]
    omega
/-- others added, those that are not in it -/
theorem add_loop {d : Nat} (hd : d ≤ 18) (P A : Sl) : ∀ (l found : List Sta) (x : Sl), (∀ t ∈ found, Fine d okM t) → (∀ t ∈ l, Fine d okM t) → found.length + l.length ≤ big →
    ∃ x', forF (gfN 3) (sIf (fT (f2 (oIn true) (fOpd 3) (fOpd 1))) (sApp 1 (fVar 3)) fNext) (l.map enc) [P, .ow (found.map enc), A, x] = some (.nx [P, .ow ((l.foldl addE found).map enc), A, x']) := by
  intro l
  induction l with
  | nil => intro found x _ _ _; exact ⟨x, rfl⟩
  | cons o l ih =>
    intro found x hf hl hz
    have fo := hl o List.mem_cons_self
    have i := in_encs (l := found) (s := o) (fun t ht => (hf t ht).mks) (fun t ht => by have := (hf t ht).dep; omega) fo.mks (by have := fo.dep; omega) true
    simp only [List.length_cons] at hz
    have hfb : found.length ≤ big := by omega
    by_cases h : o ∈ found
    · have ea : addE found o = found := by unfold addE; rw [if_pos h]
      obtain ⟨x', e⟩ := ih found (.va (enc o)) hf (fun t ht => hl t (List.mem_cons_of_mem _ ht)) (by omega)
      refine ⟨x', ?_⟩
      rw [List.foldl_cons, ea, ← e]
      simp [fOwn, fSeq, fNext, sRet, sRetN, sIf, sSet, sSetO, sAsg, sApp, sFor, forF, fVar, fOpd, fCon, f2, f1, fNil, fCons, bR, bL, bA, bLL, oR, fT, gAnd, gOr, gNot, gYes, fAnd, fOr, fNot, fIte, fTup, fLst, fCall, fCallO, fB, fM1, fSl, fiNo, fiSm, fLc, wLst, wTup, wStr, wRg1, wRg2, wZip, wEnum, gfN, gfTup, gsNil, gsCons, fLrg, fLrg3, wipeG, xSeq, xSet, xOf, xCall, xIf, xRet, xNext, xTup, xCons, xNil, xPut, xCallP, sRetX, sSetX, List.getElem?_cons_zero, List.getElem?_cons_succ, List.set_cons_zero, List.set_cons_succ, i, h]
    · have ea : addE found o = found ++ [o] := by unfold addE; rw [if_neg h]
      obtain ⟨x', e⟩ := ih (found ++ [o]) (.va (enc o)) (fun t ht => by
        rcases List.mem_append.mp ht with q | q
        · exact hf t q
        · simp at q; subst q; exact fo) (fun t ht => hl t (List.mem_cons_of_mem _ ht)) (by simp; omega)
      refine ⟨x', ?_⟩
      rw [List.foldl_cons, ea, ← e]
      simp [fOwn, fSeq, fNext, sRet, sRetN, sIf, sSet, sSetO, sAsg, sApp, sFor, forF, fVar, fOpd, fCon, f2, f1, fNil, fCons, bR, bL, bA, bLL, oR, fT, gAnd, gOr, gNot, gYes, fAnd, fOr, fNot, fIte, fTup, fLst, fCall, fCallO, fB, fM1, fSl, fiNo, fiSm, fLc, wLst, wTup, wStr, wRg1, wRg2, wZip, wEnum, gfN, gfTup, gsNil, gsCons, fLrg, fLrg3, wipeG, xSeq, xSet, xOf, xCall, xIf, xRet, xNext, xTup, xCons, xNil, xPut, xCallP, sRetX, sSetX, List.getElem?_cons_zero, List.getElem?_cons_succ, List.set_cons_zero, List.set_cons_succ, i, h, hfb]
theorem wished_fine {d : Nat} {p : Str → Prop} : ∀ {s : Sta}, Fine d p s → ∀ t ∈ wishedT s, Fine d p t := by
  intro s
  induction s with
  | mark m => intro _ t ht; simp [wishedT] at ht
  | yes => intro _ t ht; simp [wishedT] at ht
  | nt s ih => intro h t ht; exact ih ⟨by have := h.dep; simp [Sta.depth] at this; omega, h.mks, h.ks⟩ t ht
  | bf s ih => intro h t ht; exact ih ⟨by have := h.dep; simp [Sta.depth] at this; omega, h.mks, h.ks⟩ t ht
  | nx s ih => intro h t ht; simp [wishedT] at ht; subst ht; exact ⟨by have := h.dep; simp [Sta.depth] at this; omega, h.mks, h.ks⟩
  | wi k s ih =>
    intro h t ht
    have hd := h.dep
    simp [Sta.depth] at hd
    rcases List.mem_append.mp ht with q | q
    · exact ih ⟨by omega, h.mks, h.ks.2⟩ t q
    · cases k with
      | zero => cases q
      | succ k => simp at q; subst q; exact ⟨by simp [Sta.depth]; omega, h.mks, by have := h.ks.1; omega, h.ks.2⟩
  | an s s' ih ih' =>
    intro h t ht
    have hd := h.dep
    simp [Sta.depth] at hd
    rcases List.mem_append.mp ht with q | q
    · exact ih ⟨by omega, h.mks.1, h.ks.1⟩ t q
    · exact ih' ⟨by omega, h.mks.2, h.ks.2⟩ t q
  | or s s' ih ih' =>
    intro h t ht
    have hd := h.dep
    simp [Sta.depth] at hd
    rcases List.mem_append.mp ht with q | q
    · exact ih ⟨by omega, h.mks.1, h.ks.1⟩ t q
    · exact ih' ⟨by omega, h.mks.2, h.ks.2⟩ t q
  | si s s' ih ih' =>
    intro h t ht
    have hd := h.dep
    simp [Sta.depth] at hd
    rcases List.mem_append.mp ht with q | q
    · exact ih ⟨by omega, h.mks.1, h.ks.1⟩ t q
    · exact ih' ⟨by omega, h.mks.2, h.ks.2⟩ t q
  | un s s' ih ih' =>
    intro h t ht
    have hd := h.dep
    simp [Sta.depth] at hd
    rcases List.mem_append.mp ht with q | q
    · rcases List.mem_append.mp q with q | q
      · exact ih ⟨by omega, h.mks.1, h.ks.1⟩ t q
      · exact ih' ⟨by omega, h.mks.2, h.ks.2⟩ t q
    · simp at q; subst q; exact h
/-- what is gathered stays within U -/
structure Grows (U : List Sta) (s : Sta) (at_ : Nat) (F : List Sta) : Prop where
  nd : F.Nodup
  sub : ∀ x ∈ F, x ∈ U
  hd : F.head? = some s
  done : ∀ i < at_, ∀ w, F[i]? = some w → ∀ o ∈ wishedT w, o ∈ F
  le : at_ ≤ F.length
theorem bfs_loop {d n : Nat} (hd : d ≤ 18) (hn : d + 1 ≤ n) {U : List Sta} {s : Sta} (hU : ∀ w ∈ U, Fine d okM w) (cU : ∀ w ∈ U, ∀ o ∈ wishedT w, o ∈ U) (zU : U.length ≤ 1000000) (P : Sl) : ∀ (k at_ : Nat) (F : List Sta) (x : Sl) (m : Nat), U.length - at_ = k → k + 1 ≤ m → Grows U s at_ F →
    ∃ F' x' a', Grows U s F'.length F' ∧ whF (fT (f2 oLt (fOpd 2) (fB oLen (fCons (fOpd 1) fNil)))) (fSeq (sFor (wLst (fCall (Phi n .wished) (fCons (f2 oIx (fOpd 1) (fOpd 2)) fNil))) (gfN 3) (sIf (fT (f2 (oIn true) (fOpd 3) (fOpd 1))) (sApp 1 (fVar 3)) fNext))
      (sSet 2 (f2 oAdd (fOpd 2) (fCon (.int 1))))) m [P, .ow (F.map enc), .va (.int at_), x] = some (.nx [P, .ow (F'.map enc), a', x']) := by
  intro k
  induction k with
  | zero =>
    intro at_ F x m hk hm g
    obtain ⟨m, rfl⟩ : ∃ q, m = q + 1 := ⟨m - 1, by omega⟩
    have hl := nodup_len F U g.nd g.sub
    have hle := g.le
    have he : at_ = F.length := by omega
    subst he
    refine ⟨F, x, .va (.int F.length), g, ?_⟩
    unfold whF
    simp [fOwn, fSeq, fNext, sRet, sRetN, sIf, sSet, sSetO, sAsg, sApp, sFor, forF, fVar, fOpd, fCon, f2, f1, fNil, fCons, bR, bL, bA, bLL, oR, fT, gAnd, gOr, gNot, gYes, fAnd, fOr, fNot, fIte, fTup, fLst, fCall, fCallO, fB, fM1, fSl, fiNo, fiSm, fLc, wLst, wTup, wStr, wRg1, wRg2, wZip, wEnum, gfN, gfTup, gsNil, gsCons, fLrg, fLrg3, wipeG, xSeq, xSet, xOf, xCall, xIf, xRet, xNext, xTup, xCons, xNil, xPut, xCallP, sRetX, sSetX, List.getElem?_cons_zero, List.getElem?_cons_succ, List.set_cons_zero, List.set_cons_succ]
  | succ k ih =>
    intro at_ F x m hk hm g
    obtain ⟨m, rfl⟩ : ∃ q, m = q + 1 := ⟨m - 1, by omega⟩
    by_cases hlt : at_ < F.length
    · have hw : F[at_]? = some F[at_] := List.getElem?_eq_getElem hlt
      have mw : F[at_] ∈ U := g.sub _ (List.getElem_mem hlt)
      have fw := hU _ mw
      have rw_ := run_wished F[at_] n (by have := fw.dep; omega) (by have := fw.dep; omega)
      have a : atI (F.map enc) (at_ : Int) = some (enc F[at_]) := atI_cast (by rw [List.getElem?_map, hw]; rfl)
      have hl := nodup_len F U g.nd g.sub
      have wl := Nat.le_trans (wishedT_len F[at_]) (big_pow (d := F[at_].depth) (by have := fw.dep; omega))
      have w18 : 2 ^ F[at_].depth ≤ 2 ^ 18 := Nat.pow_le_pow_right (by omega) (by have := fw.dep; omega)
      have w0 := wishedT_len F[at_]
      obtain ⟨x', e⟩ := add_loop hd P (.va (.int at_)) (wishedT F[at_]) F x (fun t ht => hU t (g.sub t ht)) (wished_fine fw) (by unfold big; omega)
      obtain ⟨r, er⟩ := pre_foldE (wishedT F[at_]) F
      have g' : Grows U s (at_ + 1) ((wishedT F[at_]).foldl addE F) := by
        refine ⟨nodup_foldE g.nd, fun y hy => ?_, ?_, fun i hi w hiw o ho => ?_, by rw [er, List.length_append]; omega⟩
        · rcases mem_foldE.mp hy with q | q
          · exact g.sub y q
          · exact cU _ mw y q
        · rw [er, List.head?_append, g.hd]; rfl
        · rw [er] at hiw
          have hil : i < F.length := by omega
          rw [List.getElem?_append_left hil] at hiw
          by_cases hia : i < at_
          · exact mem_foldE.mpr (.inl (g.done i hia w hiw o ho))
          · have : i = at_ := by omega
            subst this
            rw [hw] at hiw
            cases hiw
            exact mem_foldE.mpr (.inr ho)
      obtain ⟨F', x2, a2, g2, e2⟩ := ih (at_ + 1) _ x' m (by omega) (by omega) g'
      refine ⟨F', x2, a2, g2, ?_⟩
      have e1 : ((at_ + 1 : Nat) : Int) = (at_ : Int) + 1 := by omega
      rw [e1] at e2
      rw [← e2]
      conv => lhs; unfold whF
      simp only [encL] at rw_
      simp [fOwn, fSeq, fNext, sRet, sRetN, sIf, sSet, sSetO, sAsg, sApp, sFor, forF, fVar, fOpd, fCon, f2, f1, fNil, fCons, bR, bL, bA, bLL, oR, fT, gAnd, gOr, gNot, gYes, fAnd, fOr, fNot, fIte, fTup, fLst, fCall, fCallO, fB, fM1, fSl, fiNo, fiSm, fLc, wLst, wTup, wStr, wRg1, wRg2, wZip, wEnum, gfN, gfTup, gsNil, gsCons, fLrg, fLrg3, wipeG, xSeq, xSet, xOf, xCall, xIf, xRet, xNext, xTup, xCons, xNil, xPut, xCallP, sRetX, sSetX, List.getElem?_cons_zero, List.getElem?_cons_succ, List.set_cons_zero, List.set_cons_succ, hlt, a, rw_, e]
    · have he : at_ = F.length := by have := g.le; omega
      subst he
      refine ⟨F, x, .va (.int F.length), g, ?_⟩
      unfold whF
      simp [fOwn, fSeq, fNext, sRet, sRetN, sIf, sSet, sSetO, sAsg, sApp, sFor, forF, fVar, fOpd, fCon, f2, f1, fNil, fCons, bR, bL, bA, bLL, oR, fT, gAnd, gOr, gNot, gYes, fAnd, fOr, fNot, fIte, fTup, fLst, fCall, fCallO, fB, fM1, fSl, fiNo, fiSm, fLc, wLst, wTup, wStr, wRg1, wRg2, wZip, wEnum, gfN, gfTup, gsNil, gsCons, fLrg, fLrg3, wipeG, xSeq, xSet, xOf, xCall, xIf, xRet, xNext, xTup, xCons, xNil, xPut, xCallP, sRetX, sSetX, List.getElem?_cons_zero, List.getElem?_cons_succ, List.set_cons_zero, List.set_cons_succ]
theorem run_wishes_in {d n : Nat} (hd : d ≤ 18) (hn : d + 2 ≤ n) {U : List Sta} {s : Sta} (hU : ∀ w ∈ U, Fine d okM w) (cU : ∀ w ∈ U, ∀ o ∈ wishedT w, o ∈ U) (zU : U.length ≤ 1000000) (hs : s ∈ U) :
    ∃ F, Grows U s F.length F ∧ Phi n .wishes_in [enc s] = some (.ok (encL F)) := by
  obtain ⟨n, rfl⟩ : ∃ k, n = k + 1 := ⟨n - 1, by omega⟩
  have hf : U.length - 0 + 1 ≤ fuel := Nat.le_trans (show U.length - 0 + 1 ≤ 1000001 by omega) (by unfold fuel; decide)
  obtain ⟨F, x', a', g, e⟩ := bfs_loop hd (n := n) (by omega) hU cU zU (.va (enc s)) (U.length - 0) 0 [s] .no fuel rfl hf
    ⟨by simp, by simpa using hs, rfl, fun i hi => by omega, Nat.zero_le _⟩
  refine ⟨F, g, ?_⟩
  rw [phi_wishes_in]
  unfold runF f_wishes_in
  simp only [List.map_cons, List.map_nil] at e
  have e0 : ((0 : Nat) : Int) = 0 := rfl
  rw [e0] at e
  simp [entry, fOwn, fSeq, fNext, sRet, sRetN, sIf, sSet, sSetO, sAsg, sApp, sFor, forF, fVar, fOpd, fCon, f2, f1, fNil, fCons, bR, bL, bA, bLL, oR, fT, gAnd, gOr, gNot, gYes, fAnd, fOr, fNot, fIte, fTup, fLst, fCall, fCallO, fB, fM1, fSl, fiNo, fiSm, fLc, wLst, wTup, wStr, wRg1, wRg2, wZip, wEnum, gfN, gfTup, gsNil, gsCons, fLrg, fLrg3, wipeG, xSeq, xSet, xOf, xCall, xIf, xRet, xNext, xTup, xCons, xNil, xPut, xCallP, sRetX, sSetX, List.getElem?_cons_zero, List.getElem?_cons_succ, List.set_cons_zero, List.set_cons_succ, sWh, List.replicate] at e ⊢
  simp [e, encL]
end K03

namespace K03
open PySem PySem.Spec PyProof.Rows L2 Py
/-! ### the befores and sinces, the marks -/
def pastsT : Sta → List Sta
  | .mark _ => [] | .yes => []
  | .nt s => (pastsT s).foldl addE []
  | .nx s => (pastsT s).foldl addE []
  | .wi _ s => (pastsT s).foldl addE []
  | .bf s => addE ((pastsT s).foldl addE []) (.bf s)
  | .an s t => (pastsT t).foldl addE ((pastsT s).foldl addE [])
  | .or s t => (pastsT t).foldl addE ((pastsT s).foldl addE [])
  | .un s t => (pastsT t).foldl addE ((pastsT s).foldl addE [])
  | .si s t => addE ((pastsT t).foldl addE ((pastsT s).foldl addE [])) (.si s t)
def isPast : Sta → Prop
  | .bf _ => True | .si _ _ => True
  | _ => False
instance isPastDec : DecidablePred isPast := fun s => by cases s <;> unfold isPast <;> infer_instance
theorem fSeq_nx {f g : Fs} {γ γ1 : Ge} (h : f γ = some (.nx γ1)) : fSeq f g γ = g γ1 := by unfold fSeq; rw [h]
theorem runF_rt {np n : Nat} {f : Fs} {ds : List D} {d : D} (hl : ds.length = np) (h : f (entry n ds) = some (.rt d)) : runF np n f ds = some (.ok d) := by unfold runF; rw [if_pos hl, h]
theorem mem_pastsT : ∀ {s x : Sta}, x ∈ pastsT s ↔ x ∈ allT s ∧ isPast x := by
  intro s
  induction s with
  | mark m => intro x; simp [pastsT, allT]; intro e; subst e; simp [isPast]
  | yes => intro x; simp [pastsT, allT]; intro e; subst e; simp [isPast]
  | nt s ih => intro x; simp only [pastsT, allT, mem_foldE, List.not_mem_nil, false_or, ih, List.mem_cons]; exact ⟨fun ⟨a, b⟩ => ⟨.inr a, b⟩, fun ⟨a, b⟩ => ⟨a.resolve_left (fun e => by subst e; exact b), b⟩⟩
  | nx s ih => intro x; simp only [pastsT, allT, mem_foldE, List.not_mem_nil, false_or, ih, List.mem_cons]; exact ⟨fun ⟨a, b⟩ => ⟨.inr a, b⟩, fun ⟨a, b⟩ => ⟨a.resolve_left (fun e => by subst e; exact b), b⟩⟩
  | wi k s ih => intro x; simp only [pastsT, allT, mem_foldE, List.not_mem_nil, false_or, ih, List.mem_cons]; exact ⟨fun ⟨a, b⟩ => ⟨.inr a, b⟩, fun ⟨a, b⟩ => ⟨a.resolve_left (fun e => by subst e; exact b), b⟩⟩
  | bf s ih =>
    intro x
    simp only [pastsT, allT, mem_addE, mem_foldE, List.not_mem_nil, false_or, ih, List.mem_cons]
    exact ⟨fun h => h.elim (fun ⟨a, b⟩ => ⟨.inr a, b⟩) (fun e => by subst e; exact ⟨.inl rfl, trivial⟩), fun ⟨a, b⟩ => a.elim (fun e => .inr e) (fun a => .inl ⟨a, b⟩)⟩
  | an s t ih ih' =>
    intro x
    simp only [pastsT, allT, mem_foldE, List.not_mem_nil, false_or, ih, ih', List.mem_cons, List.mem_append]
    exact ⟨fun h => h.elim (fun ⟨a, b⟩ => ⟨.inr (.inl a), b⟩) (fun ⟨a, b⟩ => ⟨.inr (.inr a), b⟩), fun ⟨a, b⟩ => (a.resolve_left (fun e => by subst e; exact b)).elim (fun a => .inl ⟨a, b⟩) (fun a => .inr ⟨a, b⟩)⟩
  | or s t ih ih' =>
    intro x
    simp only [pastsT, allT, mem_foldE, List.not_mem_nil, false_or, ih, ih', List.mem_cons, List.mem_append]
    exact ⟨fun h => h.elim (fun ⟨a, b⟩ => ⟨.inr (.inl a), b⟩) (fun ⟨a, b⟩ => ⟨.inr (.inr a), b⟩), fun ⟨a, b⟩ => (a.resolve_left (fun e => by subst e; exact b)).elim (fun a => .inl ⟨a, b⟩) (fun a => .inr ⟨a, b⟩)⟩
  | un s t ih ih' =>
    intro x
    simp only [pastsT, allT, mem_foldE, List.not_mem_nil, false_or, ih, ih', List.mem_cons, List.mem_append]
    exact ⟨fun h => h.elim (fun ⟨a, b⟩ => ⟨.inr (.inl a), b⟩) (fun ⟨a, b⟩ => ⟨.inr (.inr a), b⟩), fun ⟨a, b⟩ => (a.resolve_left (fun e => by subst e; exact b)).elim (fun a => .inl ⟨a, b⟩) (fun a => .inr ⟨a, b⟩)⟩
  | si s t ih ih' =>
    intro x
    simp only [pastsT, allT, mem_addE, mem_foldE, List.not_mem_nil, false_or, ih, ih', List.mem_cons, List.mem_append]
    exact ⟨fun h => h.elim (fun h => h.elim (fun ⟨a, b⟩ => ⟨.inr (.inl a), b⟩) (fun ⟨a, b⟩ => ⟨.inr (.inr a), b⟩)) (fun e => by subst e; exact ⟨.inl rfl, trivial⟩),
      fun ⟨a, b⟩ => a.elim (fun e => .inr e) (fun a => .inl (a.elim (fun a => .inl ⟨a, b⟩) (fun a => .inr ⟨a, b⟩)))⟩
theorem nodup_pastsT (s : Sta) : (pastsT s).Nodup := by
  cases s <;> simp only [pastsT] <;> first | exact List.nodup_nil | exact nodup_addE (nodup_foldE (nodup_foldE List.nodup_nil)) | exact nodup_addE (nodup_foldE List.nodup_nil) | exact nodup_foldE (nodup_foldE List.nodup_nil) | exact nodup_foldE List.nodup_nil
theorem pastsT_len (s : Sta) : (pastsT s).length ≤ (allT s).length := nodup_len _ _ (nodup_pastsT s) fun x hx => (mem_pastsT.mp hx).1
theorem pasts_fine {d : Nat} {p : Str → Prop} {s : Sta} (h : Fine d p s) : ∀ t ∈ pastsT s, Fine d p t := fun t ht => allT_fine h t (mem_pastsT.mp ht).1
theorem foldE_len (xs : List Sta) : ∀ l : List Sta, (xs.foldl addE l).length ≤ l.length + xs.length := by
  induction xs with
  | nil => intro l; simp
  | cons x r ih =>
    intro l
    have h1 := ih (addE l x)
    have h2 : (addE l x).length ≤ l.length + 1 := by unfold addE; split <;> simp
    simp only [List.foldl_cons, List.length_cons]
    omega
theorem in_bs (s : Sta) : oIn false (.str (word s)) (.tuple [.str "before", .str "since"]) = some (.bool (decide (isPast s))) := by
  cases s <;> simp [word, oIn, flatD, PyData.eqv] <;> first | exact fun z => z | trivial
theorem run_pasts {d : Nat} (hd : d ≤ 18) : ∀ {s : Sta} (n : Nat), Fine d okM s → s.depth + 1 ≤ n → Phi n .pasts_in [enc s] = some (.ok (encL (pastsT s))) := by
  have ends : ∀ (n : Nat) (s : Sta) (l : List Sta) (x y : Sl), Fine d okM s → (∀ t ∈ l, Fine d okM t) → l.length + 1 ≤ big →
      (fSeq (sIf (gAnd (fT (f2 (oIn false) (f2 oIx (fOpd 0) (fCon (.int 0))) (fTup (fCons (fCon (.str "before")) (fCons (fCon (.str "since")) fNil))))) (fT (f2 (oIn true) (fOpd 0) (fOpd 1)))) (sApp 1 (fVar 0)) fNext)
        (sRet (fOwn 1))) [.va (enc s), .ow (l.map enc), x, y] = some (.rt (encL (if isPast s then addE l s else l))) := by
    intro n s l x y fs fl hz
    have i := in_encs (l := l) (s := s) (fun t ht => (fl t ht).mks) (fun t ht => by have := (fl t ht).dep; omega) fs.mks (by have := fs.dep; omega) true
    have hb := in_bs s
    have i0 := ix0 s
    have hl : l.length ≤ big := by omega
    by_cases hp : isPast s
    · by_cases hm : s ∈ l
      · simp [fOwn, fSeq, fNext, sRet, sRetN, sIf, sSet, sSetO, sAsg, sApp, sFor, forF, fVar, fOpd, fCon, f2, f1, fNil, fCons, bR, bL, bA, bLL, oR, fT, gAnd, gOr, gNot, gYes, fAnd, fOr, fNot, fIte, fTup, fLst, fCall, fCallO, fB, fM1, fSl, fiNo, fiSm, fLc, wLst, wTup, wStr, wRg1, wRg2, wZip, wEnum, gfN, gfTup, gsNil, gsCons, fLrg, fLrg3, wipeG, xSeq, xSet, xOf, xCall, xIf, xRet, xNext, xTup, xCons, xNil, xPut, xCallP, sRetX, sSetX, List.getElem?_cons_zero, List.getElem?_cons_succ, List.set_cons_zero, List.set_cons_succ, i0, hb, hp, i, hm, encL, addE]
      · simp [fOwn, fSeq, fNext, sRet, sRetN, sIf, sSet, sSetO, sAsg, sApp, sFor, forF, fVar, fOpd, fCon, f2, f1, fNil, fCons, bR, bL, bA, bLL, oR, fT, gAnd, gOr, gNot, gYes, fAnd, fOr, fNot, fIte, fTup, fLst, fCall, fCallO, fB, fM1, fSl, fiNo, fiSm, fLc, wLst, wTup, wStr, wRg1, wRg2, wZip, wEnum, gfN, gfTup, gsNil, gsCons, fLrg, fLrg3, wipeG, xSeq, xSet, xOf, xCall, xIf, xRet, xNext, xTup, xCons, xNil, xPut, xCallP, sRetX, sSetX, List.getElem?_cons_zero, List.getElem?_cons_succ, List.set_cons_zero, List.set_cons_succ, i0, hb, hp, i, hm, encL, addE, hl]
    · simp [fOwn, fSeq, fNext, sRet, sRetN, sIf, sSet, sSetO, sAsg, sApp, sFor, forF, fVar, fOpd, fCon, f2, f1, fNil, fCons, bR, bL, bA, bLL, oR, fT, gAnd, gOr, gNot, gYes, fAnd, fOr, fNot, fIte, fTup, fLst, fCall, fCallO, fB, fM1, fSl, fiNo, fiSm, fLc, wLst, wTup, wStr, wRg1, wRg2, wZip, wEnum, gfN, gfTup, gsNil, gsCons, fLrg, fLrg3, wipeG, xSeq, xSet, xOf, xCall, xIf, xRet, xNext, xTup, xCons, xNil, xPut, xCallP, sRetX, sSetX, List.getElem?_cons_zero, List.getElem?_cons_succ, List.set_cons_zero, List.set_cons_succ, i0, hb, hp, encL]
  have big2 : ∀ s : Sta, Fine d okM s → (pastsT s).length + 1 ≤ 2 ^ 18 := fun s h => by
    have h1 := pastsT_len s
    have h2 := allT_len s
    have h3 : 2 ^ s.depth ≤ 2 ^ 18 := Nat.pow_le_pow_right (by omega) (by have := h.dep; omega)
    omega
  have one : ∀ (n : Nat) (s t : Sta), Fine d okM s → Fine d okM t → partsT t = [s] → Phi (n + 1) .pasts_in [enc s] = some (.ok (encL (pastsT s))) → Phi (n + 2) .pasts_in [enc t] = some (.ok (encL (if isPast t then addE ((pastsT s).foldl addE []) t else (pastsT s).foldl addE []))) := by
    intro n s t fs ft hp h
    have p := run_parts n t
    rw [hp] at p
    have z := big2 s fs
    have zl := foldE_len (pastsT s) []
    simp only [List.length_nil, Nat.zero_add] at zl
    obtain ⟨x', e⟩ := add_loop hd (.va (enc t)) (.va (enc s)) (pastsT s) [] .no (by intro t ht; cases ht) (pasts_fine fs) (by unfold big; simp; omega)
    have en := ends n t ((pastsT s).foldl addE []) (.va (enc s)) x' ft (fun q hq => by
      rcases mem_foldE.mp hq with q' | q'
      · cases q'
      · exact pasts_fine fs q q') (by unfold big; omega)
    rw [phi_pasts_in]
    refine runF_rt rfl ?_
    unfold f_pasts_in
    rw [fSeq_nx (γ1 := [.va (enc t), .ow [], .no, .no]) (by simp [entry, fOwn, fSeq, fNext, sRet, sRetN, sIf, sSet, sSetO, sAsg, sApp, sFor, forF, fVar, fOpd, fCon, f2, f1, fNil, fCons, bR, bL, bA, bLL, oR, fT, gAnd, gOr, gNot, gYes, fAnd, fOr, fNot, fIte, fTup, fLst, fCall, fCallO, fB, fM1, fSl, fiNo, fiSm, fLc, wLst, wTup, wStr, wRg1, wRg2, wZip, wEnum, gfN, gfTup, gsNil, gsCons, fLrg, fLrg3, wipeG, xSeq, xSet, xOf, xCall, xIf, xRet, xNext, xTup, xCons, xNil, xPut, xCallP, sRetX, sSetX, List.getElem?_cons_zero, List.getElem?_cons_succ, List.set_cons_zero, List.set_cons_succ, List.replicate])]
    rw [fSeq_nx (γ1 := [.va (enc t), .ow (((pastsT s).foldl addE []).map enc), .va (enc s), x']) ?_]
    · exact en
    · simp only [encL, List.map_cons, List.map_nil] at p h e
      simp [fOwn, fSeq, fNext, sRet, sRetN, sIf, sSet, sSetO, sAsg, sApp, sFor, forF, fVar, fOpd, fCon, f2, f1, fNil, fCons, bR, bL, bA, bLL, oR, fT, gAnd, gOr, gNot, gYes, fAnd, fOr, fNot, fIte, fTup, fLst, fCall, fCallO, fB, fM1, fSl, fiNo, fiSm, fLc, wLst, wTup, wStr, wRg1, wRg2, wZip, wEnum, gfN, gfTup, gsNil, gsCons, fLrg, fLrg3, wipeG, xSeq, xSet, xOf, xCall, xIf, xRet, xNext, xTup, xCons, xNil, xPut, xCallP, sRetX, sSetX, List.getElem?_cons_zero, List.getElem?_cons_succ, List.set_cons_zero, List.set_cons_succ, p, h, e]
  have two : ∀ (n : Nat) (s s' t : Sta), Fine d okM s → Fine d okM s' → Fine d okM t → partsT t = [s, s'] → Phi (n + 1) .pasts_in [enc s] = some (.ok (encL (pastsT s))) → Phi (n + 1) .pasts_in [enc s'] = some (.ok (encL (pastsT s'))) →
      Phi (n + 2) .pasts_in [enc t] = some (.ok (encL (if isPast t then addE ((pastsT s').foldl addE ((pastsT s).foldl addE [])) t else (pastsT s').foldl addE ((pastsT s).foldl addE [])))) := by
    intro n s s' t fs fs' ft hp h h'
    have p := run_parts n t
    rw [hp] at p
    have z := big2 s fs
    have z' := big2 s' fs'
    have zl := foldE_len (pastsT s) []
    have zl' := foldE_len (pastsT s') ((pastsT s).foldl addE [])
    simp only [List.length_nil, Nat.zero_add] at zl
    have fl : ∀ q ∈ (pastsT s).foldl addE [], Fine d okM q := fun q hq => by
      rcases mem_foldE.mp hq with q' | q'
      · cases q'
      · exact pasts_fine fs q q'
    obtain ⟨x', e⟩ := add_loop hd (.va (enc t)) (.va (enc s)) (pastsT s) [] .no (by intro t ht; cases ht) (pasts_fine fs) (by unfold big; simp; omega)
    obtain ⟨x2, e2⟩ := add_loop hd (.va (enc t)) (.va (enc s')) (pastsT s') ((pastsT s).foldl addE []) x' fl (pasts_fine fs') (by unfold big; omega)
    have en := ends n t ((pastsT s').foldl addE ((pastsT s).foldl addE [])) (.va (enc s')) x2 ft (fun q hq => by
      rcases mem_foldE.mp hq with q' | q'
      · exact fl q q'
      · exact pasts_fine fs' q q') (by unfold big; omega)
    rw [phi_pasts_in]
    refine runF_rt rfl ?_
    unfold f_pasts_in
    rw [fSeq_nx (γ1 := [.va (enc t), .ow [], .no, .no]) (by simp [entry, fOwn, fSeq, fNext, sRet, sRetN, sIf, sSet, sSetO, sAsg, sApp, sFor, forF, fVar, fOpd, fCon, f2, f1, fNil, fCons, bR, bL, bA, bLL, oR, fT, gAnd, gOr, gNot, gYes, fAnd, fOr, fNot, fIte, fTup, fLst, fCall, fCallO, fB, fM1, fSl, fiNo, fiSm, fLc, wLst, wTup, wStr, wRg1, wRg2, wZip, wEnum, gfN, gfTup, gsNil, gsCons, fLrg, fLrg3, wipeG, xSeq, xSet, xOf, xCall, xIf, xRet, xNext, xTup, xCons, xNil, xPut, xCallP, sRetX, sSetX, List.getElem?_cons_zero, List.getElem?_cons_succ, List.set_cons_zero, List.set_cons_succ, List.replicate])]
    rw [fSeq_nx (γ1 := [.va (enc t), .ow (((pastsT s').foldl addE ((pastsT s).foldl addE [])).map enc), .va (enc s'), x2]) ?_]
    · exact en
    · simp only [encL, List.map_cons, List.map_nil] at p h h' e
      simp [fOwn, fSeq, fNext, sRet, sRetN, sIf, sSet, sSetO, sAsg, sApp, sFor, forF, fVar, fOpd, fCon, f2, f1, fNil, fCons, bR, bL, bA, bLL, oR, fT, gAnd, gOr, gNot, gYes, fAnd, fOr, fNot, fIte, fTup, fLst, fCall, fCallO, fB, fM1, fSl, fiNo, fiSm, fLc, wLst, wTup, wStr, wRg1, wRg2, wZip, wEnum, gfN, gfTup, gsNil, gsCons, fLrg, fLrg3, wipeG, xSeq, xSet, xOf, xCall, xIf, xRet, xNext, xTup, xCons, xNil, xPut, xCallP, sRetX, sSetX, List.getElem?_cons_zero, List.getElem?_cons_succ, List.set_cons_zero, List.set_cons_succ, p, h, h', e, e2]
  intro s
  induction s with
  | mark m =>
    intro n h hn
    obtain ⟨n, rfl⟩ : ∃ k, n = k + 2 := ⟨n - 2, by simp [Sta.depth] at hn; omega⟩
    have p := run_parts n (.mark m)
    have en := ends n (.mark m) [] .no .no h (by intro t ht; cases ht) (by decide)
    rw [phi_pasts_in]
    refine runF_rt rfl ?_
    unfold f_pasts_in
    rw [fSeq_nx (γ1 := [.va (enc (.mark m)), .ow [], .no, .no]) (by simp [entry, fOwn, fSeq, fNext, sRet, sRetN, sIf, sSet, sSetO, sAsg, sApp, sFor, forF, fVar, fOpd, fCon, f2, f1, fNil, fCons, bR, bL, bA, bLL, oR, fT, gAnd, gOr, gNot, gYes, fAnd, fOr, fNot, fIte, fTup, fLst, fCall, fCallO, fB, fM1, fSl, fiNo, fiSm, fLc, wLst, wTup, wStr, wRg1, wRg2, wZip, wEnum, gfN, gfTup, gsNil, gsCons, fLrg, fLrg3, wipeG, xSeq, xSet, xOf, xCall, xIf, xRet, xNext, xTup, xCons, xNil, xPut, xCallP, sRetX, sSetX, List.getElem?_cons_zero, List.getElem?_cons_succ, List.set_cons_zero, List.set_cons_succ, List.replicate])]
    rw [fSeq_nx (γ1 := [.va (enc (.mark m)), .ow [], .no, .no]) (by simp only [encL, partsT, List.map_nil] at p; simp [fOwn, fSeq, fNext, sRet, sRetN, sIf, sSet, sSetO, sAsg, sApp, sFor, forF, fVar, fOpd, fCon, f2, f1, fNil, fCons, bR, bL, bA, bLL, oR, fT, gAnd, gOr, gNot, gYes, fAnd, fOr, fNot, fIte, fTup, fLst, fCall, fCallO, fB, fM1, fSl, fiNo, fiSm, fLc, wLst, wTup, wStr, wRg1, wRg2, wZip, wEnum, gfN, gfTup, gsNil, gsCons, fLrg, fLrg3, wipeG, xSeq, xSet, xOf, xCall, xIf, xRet, xNext, xTup, xCons, xNil, xPut, xCallP, sRetX, sSetX, List.getElem?_cons_zero, List.getElem?_cons_succ, List.set_cons_zero, List.set_cons_succ, p])]
    exact en
  | yes =>
    intro n h hn
    obtain ⟨n, rfl⟩ : ∃ k, n = k + 2 := ⟨n - 2, by simp [Sta.depth] at hn; omega⟩
    have p := run_parts n .yes
    have en := ends n .yes [] .no .no h (by intro t ht; cases ht) (by decide)
    rw [phi_pasts_in]
    refine runF_rt rfl ?_
    unfold f_pasts_in
    rw [fSeq_nx (γ1 := [.va (enc .yes), .ow [], .no, .no]) (by simp [entry, fOwn, fSeq, fNext, sRet, sRetN, sIf, sSet, sSetO, sAsg, sApp, sFor, forF, fVar, fOpd, fCon, f2, f1, fNil, fCons, bR, bL, bA, bLL, oR, fT, gAnd, gOr, gNot, gYes, fAnd, fOr, fNot, fIte, fTup, fLst, fCall, fCallO, fB, fM1, fSl, fiNo, fiSm, fLc, wLst, wTup, wStr, wRg1, wRg2, wZip, wEnum, gfN, gfTup, gsNil, gsCons, fLrg, fLrg3, wipeG, xSeq, xSet, xOf, xCall, xIf, xRet, xNext, xTup, xCons, xNil, xPut, xCallP, sRetX, sSetX, List.getElem?_cons_zero, List.getElem?_cons_succ, List.set_cons_zero, List.set_cons_succ, List.replicate])]
    rw [fSeq_nx (γ1 := [.va (enc .yes), .ow [], .no, .no]) (by simp only [encL, partsT, List.map_nil] at p; simp [fOwn, fSeq, fNext, sRet, sRetN, sIf, sSet, sSetO, sAsg, sApp, sFor, forF, fVar, fOpd, fCon, f2, f1, fNil, fCons, bR, bL, bA, bLL, oR, fT, gAnd, gOr, gNot, gYes, fAnd, fOr, fNot, fIte, fTup, fLst, fCall, fCallO, fB, fM1, fSl, fiNo, fiSm, fLc, wLst, wTup, wStr, wRg1, wRg2, wZip, wEnum, gfN, gfTup, gsNil, gsCons, fLrg, fLrg3, wipeG, xSeq, xSet, xOf, xCall, xIf, xRet, xNext, xTup, xCons, xNil, xPut, xCallP, sRetX, sSetX, List.getElem?_cons_zero, List.getElem?_cons_succ, List.set_cons_zero, List.set_cons_succ, p])]
    exact en
  | nt s ih =>
    intro n h hn
    have hk := h.dep
    simp [Sta.depth] at hn hk
    obtain ⟨n, rfl⟩ : ∃ k, n = k + 2 := ⟨n - 2, by omega⟩
    have fs : Fine d okM s := ⟨by omega, h.mks, h.ks⟩
    have r := one n s _ fs h rfl (ih (n + 1) fs (by omega))
    simpa [isPast, pastsT] using r
  | nx s ih =>
    intro n h hn
    have hk := h.dep
    simp [Sta.depth] at hn hk
    obtain ⟨n, rfl⟩ : ∃ k, n = k + 2 := ⟨n - 2, by omega⟩
    have fs : Fine d okM s := ⟨by omega, h.mks, h.ks⟩
    have r := one n s _ fs h rfl (ih (n + 1) fs (by omega))
    simpa [isPast, pastsT] using r
  | wi k s ih =>
    intro n h hn
    have hk := h.dep
    simp [Sta.depth] at hn hk
    obtain ⟨n, rfl⟩ : ∃ k, n = k + 2 := ⟨n - 2, by omega⟩
    have fs : Fine d okM s := ⟨by omega, h.mks, h.ks.2⟩
    have r := one n s _ fs h rfl (ih (n + 1) fs (by omega))
    simpa [isPast, pastsT] using r
  | bf s ih =>
    intro n h hn
    have hk := h.dep
    simp [Sta.depth] at hn hk
    obtain ⟨n, rfl⟩ : ∃ k, n = k + 2 := ⟨n - 2, by omega⟩
    have fs : Fine d okM s := ⟨by omega, h.mks, h.ks⟩
    have r := one n s _ fs h rfl (ih (n + 1) fs (by omega))
    simpa [isPast, pastsT] using r
  | an s t ih ih' =>
    intro n h hn
    have hk := h.dep
    simp [Sta.depth] at hn hk
    obtain ⟨n, rfl⟩ : ∃ k, n = k + 2 := ⟨n - 2, by omega⟩
    have fs : Fine d okM s := ⟨by omega, h.mks.1, h.ks.1⟩
    have ft : Fine d okM t := ⟨by omega, h.mks.2, h.ks.2⟩
    have r := two n s t _ fs ft h rfl (ih (n + 1) fs (by omega)) (ih' (n + 1) ft (by omega))
    simpa [isPast, pastsT] using r
  | or s t ih ih' =>
    intro n h hn
    have hk := h.dep
    simp [Sta.depth] at hn hk
    obtain ⟨n, rfl⟩ : ∃ k, n = k + 2 := ⟨n - 2, by omega⟩
    have fs : Fine d okM s := ⟨by omega, h.mks.1, h.ks.1⟩
    have ft : Fine d okM t := ⟨by omega, h.mks.2, h.ks.2⟩
    have r := two n s t _ fs ft h rfl (ih (n + 1) fs (by omega)) (ih' (n + 1) ft (by omega))
    simpa [isPast, pastsT] using r
  | un s t ih ih' =>
    intro n h hn
    have hk := h.dep
    simp [Sta.depth] at hn hk
    obtain ⟨n, rfl⟩ : ∃ k, n = k + 2 := ⟨n - 2, by omega⟩
    have fs : Fine d okM s := ⟨by omega, h.mks.1, h.ks.1⟩
    have ft : Fine d okM t := ⟨by omega, h.mks.2, h.ks.2⟩
    have r := two n s t _ fs ft h rfl (ih (n + 1) fs (by omega)) (ih' (n + 1) ft (by omega))
    simpa [isPast, pastsT] using r
  | si s t ih ih' =>
    intro n h hn
    have hk := h.dep
    simp [Sta.depth] at hn hk
    obtain ⟨n, rfl⟩ : ∃ k, n = k + 2 := ⟨n - 2, by omega⟩
    have fs : Fine d okM s := ⟨by omega, h.mks.1, h.ks.1⟩
    have ft : Fine d okM t := ⟨by omega, h.mks.2, h.ks.2⟩
    have r := two n s t _ fs ft h rfl (ih (n + 1) fs (by omega)) (ih' (n + 1) ft (by omega))
    simpa [isPast, pastsT] using r
end K03

namespace K03
open PySem PySem.Spec PyProof.Rows L2 Py
/-! ### the marks -/
def upT (l r : List Str) : List Str := sortT ((l ++ r).foldl addL [])
def marksT : Sta → List Str
  | .mark m => ["", m] | .yes => [""]
  | .nt s => upT [""] (marksT s)
  | .nx s => upT [""] (marksT s)
  | .wi _ s => upT [""] (marksT s)
  | .bf s => upT [""] (marksT s)
  | .an s t => upT (upT [""] (marksT s)) (marksT t)
  | .or s t => upT (upT [""] (marksT s)) (marksT t)
  | .un s t => upT (upT [""] (marksT s)) (marksT t)
  | .si s t => upT (upT [""] (marksT s)) (marksT t)
theorem mem_foldL : ∀ {xs l : List Str} {y : Str}, y ∈ xs.foldl addL l ↔ y ∈ l ∨ y ∈ xs
  | [], l, y => by simp
  | x :: xs, l, y => by
    rw [List.foldl_cons, mem_foldL, List.mem_cons]
    unfold addL
    split
    · rename_i h; exact ⟨fun z => z.elim .inl fun q => .inr (.inr q), fun z => z.elim .inl fun q => q.elim (fun e => .inl (e ▸ h)) .inr⟩
    · rw [List.mem_cons]; exact ⟨fun z => z.elim (fun q => q.elim (fun e => .inr (.inl e)) .inl) fun q => .inr (.inr q), fun z => z.elim (fun q => .inl (.inr q)) fun q => q.elim (fun e => .inl (.inl e)) .inr⟩
theorem nodup_foldL : ∀ {xs l : List Str}, l.Nodup → (xs.foldl addL l).Nodup
  | [], _, h => h
  | x :: xs, l, h => by
    rw [List.foldl_cons]
    refine nodup_foldL ?_
    unfold addL
    split
    · exact h
    · rename_i hx; exact List.nodup_cons.mpr ⟨hx, h⟩
theorem mem_upT {l r : List Str} {y : Str} : y ∈ upT l r ↔ y ∈ l ∨ y ∈ r := by
  unfold upT
  rw [(sortT_perm _).mem_iff, mem_foldL, List.mem_append]
  simp
theorem nodup_upT (l r : List Str) : (upT l r).Nodup := (sortT_perm _).nodup_iff.mpr (nodup_foldL List.nodup_nil)
theorem mem_marksT {V : List Str} (h0 : ("" : Str) ∈ V) : ∀ {s : Sta}, s.Marks (· ∈ V) → ∀ m ∈ marksT s, m ∈ V := by
  intro s
  induction s with
  | mark x => intro h m hm; simp [marksT] at hm; rcases hm with rfl | rfl; exact h0; exact h
  | yes => intro _ m hm; simp [marksT] at hm; subst hm; exact h0
  | nt s ih => intro h m hm; rcases mem_upT.mp hm with q | q; (simp at q; subst q; exact h0); exact ih h m q
  | nx s ih => intro h m hm; rcases mem_upT.mp hm with q | q; (simp at q; subst q; exact h0); exact ih h m q
  | wi k s ih => intro h m hm; rcases mem_upT.mp hm with q | q; (simp at q; subst q; exact h0); exact ih h m q
  | bf s ih => intro h m hm; rcases mem_upT.mp hm with q | q; (simp at q; subst q; exact h0); exact ih h m q
  | an s t ih ih' => intro h m hm; rcases mem_upT.mp hm with q | q; (rcases mem_upT.mp q with q | q; (simp at q; subst q; exact h0); exact ih h.1 m q); exact ih' h.2 m q
  | or s t ih ih' => intro h m hm; rcases mem_upT.mp hm with q | q; (rcases mem_upT.mp q with q | q; (simp at q; subst q; exact h0); exact ih h.1 m q); exact ih' h.2 m q
  | un s t ih ih' => intro h m hm; rcases mem_upT.mp hm with q | q; (rcases mem_upT.mp q with q | q; (simp at q; subst q; exact h0); exact ih h.1 m q); exact ih' h.2 m q
  | si s t ih ih' => intro h m hm; rcases mem_upT.mp hm with q | q; (rcases mem_upT.mp q with q | q; (simp at q; subst q; exact h0); exact ih h.1 m q); exact ih' h.2 m q
theorem marksT_len {V : List Str} (h0 : ("" : Str) ∈ V) (h2 : 2 ≤ V.length) {s : Sta} (h : s.Marks (· ∈ V)) : (marksT s).length ≤ V.length := by
  have sub := mem_marksT h0 h
  cases s with
  | mark x => exact h2
  | yes => simp [marksT]; omega
  | _ => exact nodup_len _ _ (nodup_upT _ _) sub
theorem up_len {V l r : List Str} (hl : ∀ m ∈ l, m ∈ V) (hr : ∀ m ∈ r, m ∈ V) : (upT l r).length ≤ V.length := nodup_len _ _ (nodup_upT _ _) fun m hm => (mem_upT.mp hm).elim (hl m) (hr m)
theorem oSort_up {l r : List Str} (h : l.length + r.length < 64) : oSortSet [.list ((l.map .str) ++ r.map .str)] = some (.list ((upT l r).map .str)) := by
  unfold oSortSet
  rw [← List.map_append]
  simp only [strsOf_map]
  rw [if_pos (by rw [List.length_append]; exact h)]
  rfl
theorem ne_mark {s : Sta} (h : ¬ ∃ m, s = .mark m) : word s ≠ "mark" := by
  cases s with
  | mark m => exact absurd ⟨m, rfl⟩ h
  | yes => exact (show ("yes" : Str) ≠ "mark" by decide +kernel)
  | nt s => exact (show ("not" : Str) ≠ "mark" by decide +kernel)
  | an s t => exact (show ("and" : Str) ≠ "mark" by decide +kernel)
  | or s t => exact (show ("or" : Str) ≠ "mark" by decide +kernel)
  | nx s => exact (show ("next" : Str) ≠ "mark" by decide +kernel)
  | un s t => exact (show ("until" : Str) ≠ "mark" by decide +kernel)
  | wi k s => exact (show ("within" : Str) ≠ "mark" by decide +kernel)
  | bf s => exact (show ("before" : Str) ≠ "mark" by decide +kernel)
  | si s t => exact (show ("since" : Str) ≠ "mark" by decide +kernel)
theorem run_marks {V : List Str} (h0 : ("" : Str) ∈ V) (h2 : 2 ≤ V.length) (hV : V.length ≤ 25) : ∀ {s : Sta} (n : Nat), s.Marks (· ∈ V) → s.depth + 1 ≤ n → Phi n .marks_in [enc s] = some (.ok (.list ((marksT s).map .str))) := by
  have one : ∀ (n : Nat) (s t : Sta), s.Marks (· ∈ V) → partsT t = [s] → word t ≠ "mark" → Phi (n + 1) .marks_in [enc s] = some (.ok (.list ((marksT s).map .str))) → Phi (n + 2) .marks_in [enc t] = some (.ok (.list ((upT [""] (marksT s)).map .str))) := by
    intro n s t hs hp hw h
    have p := run_parts n t
    rw [hp] at p
    have i0 := ix0 t
    have hwb : (word t == ("mark" : Str)) = false := beq_eq_false_iff_ne.mpr hw
    have zl := marksT_len h0 h2 hs
    have so := oSort_up (l := [""]) (r := marksT s) (by simp; omega)
    simp only [List.map_cons, List.map_nil] at so
    have zb : 1 + (marksT s).length ≤ big := by unfold big; omega
    rw [phi_marks_in]
    simp only [encL, List.map_cons, List.map_nil] at p
    simp only [List.cons_append, List.nil_append] at so
    simp [runF, entry, f_marks_in, fOwn, fSeq, fNext, sRet, sRetN, sIf, sSet, sSetO, sAsg, sApp, sFor, forF, fVar, fOpd, fCon, f2, f1, fNil, fCons, bR, bL, bA, bLL, oR, fT, gAnd, gOr, gNot, gYes, fAnd, fOr, fNot, fIte, fTup, fLst, fCall, fCallO, fB, fM1, fSl, fiNo, fiSm, fLc, wLst, wTup, wStr, wRg1, wRg2, wZip, wEnum, gfN, gfTup, gsNil, gsCons, fLrg, fLrg3, wipeG, xSeq, xSet, xOf, xCall, xIf, xRet, xNext, xTup, xCons, xNil, xPut, xCallP, sRetX, sSetX, List.getElem?_cons_zero, List.getElem?_cons_succ, List.set_cons_zero, List.set_cons_succ, i0, hwb, p, h, List.replicate, oAdd_lst, zb, so]
  have two : ∀ (n : Nat) (s s' t : Sta), s.Marks (· ∈ V) → s'.Marks (· ∈ V) → partsT t = [s, s'] → word t ≠ "mark" → Phi (n + 1) .marks_in [enc s] = some (.ok (.list ((marksT s).map .str))) → Phi (n + 1) .marks_in [enc s'] = some (.ok (.list ((marksT s').map .str))) →
      Phi (n + 2) .marks_in [enc t] = some (.ok (.list ((upT (upT [""] (marksT s)) (marksT s')).map .str))) := by
    intro n s s' t hs hs' hp hw h h'
    have p := run_parts n t
    rw [hp] at p
    have i0 := ix0 t
    have hwb : (word t == ("mark" : Str)) = false := beq_eq_false_iff_ne.mpr hw
    have zl := marksT_len h0 h2 hs
    have zl' := marksT_len h0 h2 hs'
    have zu := up_len (V := V) (l := [""]) (r := marksT s) (fun m hm => by simp at hm; subst hm; exact h0) (mem_marksT h0 hs)
    have so := oSort_up (l := [""]) (r := marksT s) (by simp; omega)
    have so' := oSort_up (l := upT [""] (marksT s)) (r := marksT s') (by omega)
    simp only [List.map_cons, List.map_nil] at so
    have zb : 1 + (marksT s).length ≤ big := by unfold big; omega
    have zb' : (upT [""] (marksT s)).length + (marksT s').length ≤ big := by unfold big; omega
    rw [phi_marks_in]
    simp only [encL, List.map_cons, List.map_nil] at p
    simp only [List.cons_append, List.nil_append] at so
    simp [-List.map_append, runF, entry, f_marks_in, fOwn, fSeq, fNext, sRet, sRetN, sIf, sSet, sSetO, sAsg, sApp, sFor, forF, fVar, fOpd, fCon, f2, f1, fNil, fCons, bR, bL, bA, bLL, oR, fT, gAnd, gOr, gNot, gYes, fAnd, fOr, fNot, fIte, fTup, fLst, fCall, fCallO, fB, fM1, fSl, fiNo, fiSm, fLc, wLst, wTup, wStr, wRg1, wRg2, wZip, wEnum, gfN, gfTup, gsNil, gsCons, fLrg, fLrg3, wipeG, xSeq, xSet, xOf, xCall, xIf, xRet, xNext, xTup, xCons, xNil, xPut, xCallP, sRetX, sSetX, List.getElem?_cons_zero, List.getElem?_cons_succ, List.set_cons_zero, List.set_cons_succ, i0, hwb, p, h, h', List.replicate, oAdd_lst, zb, zb', so, so']
  intro s
  induction s with
  | mark m =>
    intro n _ hn
    obtain ⟨n, rfl⟩ : ∃ k, n = k + 1 := ⟨n - 1, by omega⟩
    rw [phi_marks_in]
    simp [runF, entry, f_marks_in, fOwn, fSeq, fNext, sRet, sRetN, sIf, sSet, sSetO, sAsg, sApp, sFor, forF, fVar, fOpd, fCon, f2, f1, fNil, fCons, bR, bL, bA, bLL, oR, fT, gAnd, gOr, gNot, gYes, fAnd, fOr, fNot, fIte, fTup, fLst, fCall, fCallO, fB, fM1, fSl, fiNo, fiSm, fLc, wLst, wTup, wStr, wRg1, wRg2, wZip, wEnum, gfN, gfTup, gsNil, gsCons, fLrg, fLrg3, wipeG, xSeq, xSet, xOf, xCall, xIf, xRet, xNext, xTup, xCons, xNil, xPut, xCallP, sRetX, sSetX, List.getElem?_cons_zero, List.getElem?_cons_succ, List.set_cons_zero, List.set_cons_succ, enc, marksT, List.replicate]
  | yes =>
    intro n _ hn
    obtain ⟨n, rfl⟩ : ∃ k, n = k + 2 := ⟨n - 2, by simp [Sta.depth] at hn; omega⟩
    have p := run_parts n .yes
    rw [phi_marks_in]
    simp only [encL, partsT, List.map_nil, enc] at p
    simp [runF, entry, f_marks_in, fOwn, fSeq, fNext, sRet, sRetN, sIf, sSet, sSetO, sAsg, sApp, sFor, forF, fVar, fOpd, fCon, f2, f1, fNil, fCons, bR, bL, bA, bLL, oR, fT, gAnd, gOr, gNot, gYes, fAnd, fOr, fNot, fIte, fTup, fLst, fCall, fCallO, fB, fM1, fSl, fiNo, fiSm, fLc, wLst, wTup, wStr, wRg1, wRg2, wZip, wEnum, gfN, gfTup, gsNil, gsCons, fLrg, fLrg3, wipeG, xSeq, xSet, xOf, xCall, xIf, xRet, xNext, xTup, xCons, xNil, xPut, xCallP, sRetX, sSetX, List.getElem?_cons_zero, List.getElem?_cons_succ, List.set_cons_zero, List.set_cons_succ, enc, marksT, p, List.replicate]
  | nt s ih => intro n h hn; simp [Sta.depth] at hn; obtain ⟨n, rfl⟩ : ∃ k, n = k + 2 := ⟨n - 2, by omega⟩; exact one n s _ h rfl (ne_mark (by rintro ⟨_, e⟩; cases e)) (ih (n + 1) h (by omega))
  | nx s ih => intro n h hn; simp [Sta.depth] at hn; obtain ⟨n, rfl⟩ : ∃ k, n = k + 2 := ⟨n - 2, by omega⟩; exact one n s _ h rfl (ne_mark (by rintro ⟨_, e⟩; cases e)) (ih (n + 1) h (by omega))
  | wi k s ih => intro n h hn; simp [Sta.depth] at hn; obtain ⟨n, rfl⟩ : ∃ k, n = k + 2 := ⟨n - 2, by omega⟩; exact one n s _ h rfl (ne_mark (by rintro ⟨_, e⟩; cases e)) (ih (n + 1) h (by omega))
  | bf s ih => intro n h hn; simp [Sta.depth] at hn; obtain ⟨n, rfl⟩ : ∃ k, n = k + 2 := ⟨n - 2, by omega⟩; exact one n s _ h rfl (ne_mark (by rintro ⟨_, e⟩; cases e)) (ih (n + 1) h (by omega))
  | an s t ih ih' => intro n h hn; simp [Sta.depth] at hn; obtain ⟨n, rfl⟩ : ∃ k, n = k + 2 := ⟨n - 2, by omega⟩; exact two n s t _ h.1 h.2 rfl (ne_mark (by rintro ⟨_, e⟩; cases e)) (ih (n + 1) h.1 (by omega)) (ih' (n + 1) h.2 (by omega))
  | or s t ih ih' => intro n h hn; simp [Sta.depth] at hn; obtain ⟨n, rfl⟩ : ∃ k, n = k + 2 := ⟨n - 2, by omega⟩; exact two n s t _ h.1 h.2 rfl (ne_mark (by rintro ⟨_, e⟩; cases e)) (ih (n + 1) h.1 (by omega)) (ih' (n + 1) h.2 (by omega))
  | un s t ih ih' => intro n h hn; simp [Sta.depth] at hn; obtain ⟨n, rfl⟩ : ∃ k, n = k + 2 := ⟨n - 2, by omega⟩; exact two n s t _ h.1 h.2 rfl (ne_mark (by rintro ⟨_, e⟩; cases e)) (ih (n + 1) h.1 (by omega)) (ih' (n + 1) h.2 (by omega))
  | si s t ih ih' => intro n h hn; simp [Sta.depth] at hn; obtain ⟨n, rfl⟩ : ∃ k, n = k + 2 := ⟨n - 2, by omega⟩; exact two n s t _ h.1 h.2 rfl (ne_mark (by rintro ⟨_, e⟩; cases e)) (ih (n + 1) h.1 (by omega)) (ih' (n + 1) h.2 (by omega))
/-- the plan's datum -/
def planOf (W P : List Sta) (Ms : List Str) : D := planD [encL W, encL P, .list (Ms.map .str), .list (wts W.length)]
theorem run_plan {d n : Nat} (hd : d ≤ 18) (hn : d + 2 ≤ n) {V : List Str} (h0 : ("" : Str) ∈ V) (h2 : 2 ≤ V.length) (hV : V.length ≤ 25) {U : List Sta} {s : Sta} (fs : Fine d okM s) (hm : s.Marks (· ∈ V)) (hU : ∀ w ∈ U, Fine d okM w) (cU : ∀ w ∈ U, ∀ o ∈ wishedT w, o ∈ U) (zU : U.length ≤ 1000) (hs : s ∈ U) :
    ∃ F, Grows U s F.length F ∧ plT n (enc s) = some (planOf F (pastsT s) (marksT s)) := by
  obtain ⟨F, g, e⟩ := run_wishes_in hd hn hU cU (by omega) hs
  have e2 := run_pasts hd n fs (by have := fs.dep; omega)
  have e3 := run_marks h0 h2 hV n hm (by have := fs.dep; omega)
  refine ⟨F, g, ?_⟩
  have hl := nodup_len F U g.nd g.sub
  unfold plT initT
  rw [e, e2, e3]
  unfold encL
  simp only
  rw [if_pos (by rw [List.length_map]; omega), List.length_map]
  rfl
end K03

namespace K03
open PySem PySem.Spec PyProof.Rows L2 Py
/-! ### parts and wishes (for laws without rows) -/
theorem noFut_all : ∀ {s : Sta}, noFut s → ∀ o ∈ allT s, noFut o := by
  intro s
  induction s with
  | mark m => intro h o ho; simp [allT] at ho; subst ho; exact h
  | yes => intro h o ho; simp [allT] at ho; subst ho; exact h
  | nt s ih => intro h o ho; rcases List.mem_cons.mp ho with rfl | q; exact h; exact ih h o q
  | bf s ih => intro h o ho; rcases List.mem_cons.mp ho with rfl | q; exact h; exact ih h o q
  | nx s ih => intro h; exact h.elim
  | wi k s ih => intro h; exact h.elim
  | un s t ih ih' => intro h; exact h.elim
  | an s t ih ih' => intro h o ho; rcases List.mem_cons.mp ho with rfl | q; exact h; rcases List.mem_append.mp q with q | q; exact ih h.1 o q; exact ih' h.2 o q
  | or s t ih ih' => intro h o ho; rcases List.mem_cons.mp ho with rfl | q; exact h; rcases List.mem_append.mp q with q | q; exact ih h.1 o q; exact ih' h.2 o q
  | si s t ih ih' => intro h o ho; rcases List.mem_cons.mp ho with rfl | q; exact h; rcases List.mem_append.mp q with q | q; exact ih h.1 o q; exact ih' h.2 o q
theorem noFut_unm : ∀ {s : Sta}, noFut s → unm s := by
  intro s
  induction s with
  | mark m => intro h; trivial
  | yes => intro h; trivial
  | nt s ih => intro h; exact ih h
  | bf s ih => intro h; exact h
  | nx s ih => intro h; exact h.elim
  | wi k s ih => intro h; exact h.elim
  | un s t ih ih' => intro h; exact h.elim
  | an s t ih ih' => intro h; exact ⟨ih h.1, ih' h.2⟩
  | or s t ih ih' => intro h; exact ⟨ih h.1, ih' h.2⟩
  | si s t ih ih' => intro h; exact h
theorem past_noFut : ∀ {s : Sta}, unm s → ∀ o ∈ allT s, isPast o → noFut o := by
  intro s
  induction s with
  | mark m => intro h o ho hp; simp [allT] at ho; subst ho; exact hp.elim
  | yes => intro h o ho hp; simp [allT] at ho; subst ho; exact hp.elim
  | nt s ih => intro h o ho hp; rcases List.mem_cons.mp ho with rfl | q; exact hp.elim; exact ih h o q hp
  | nx s ih => intro h o ho hp; rcases List.mem_cons.mp ho with rfl | q; exact hp.elim; exact ih h o q hp
  | wi k s ih => intro h o ho hp; rcases List.mem_cons.mp ho with rfl | q; exact hp.elim; exact ih h o q hp
  | bf s ih => intro h o ho hp; exact noFut_all (s := .bf s) h o ho
  | an s t ih ih' => intro h o ho hp; rcases List.mem_cons.mp ho with rfl | q; exact hp.elim; rcases List.mem_append.mp q with q | q; exact ih h.1 o q hp; exact ih' h.2 o q hp
  | or s t ih ih' => intro h o ho hp; rcases List.mem_cons.mp ho with rfl | q; exact hp.elim; rcases List.mem_append.mp q with q | q; exact ih h.1 o q hp; exact ih' h.2 o q hp
  | un s t ih ih' => intro h o ho hp; rcases List.mem_cons.mp ho with rfl | q; exact hp.elim; rcases List.mem_append.mp q with q | q; exact ih h.1 o q hp; exact ih' h.2 o q hp
  | si s t ih ih' => intro h o ho hp; exact noFut_all (s := .si s t) h o ho
theorem wished_noFut : ∀ {s : Sta}, noFut s → wishedT s = [] := by
  intro s
  induction s with
  | mark m => intro h; rfl
  | yes => intro h; rfl
  | nt s ih => intro h; exact ih h
  | bf s ih => intro h; exact ih h
  | nx s ih => intro h; exact h.elim
  | wi k s ih => intro h; exact h.elim
  | un s t ih ih' => intro h; exact h.elim
  | an s t ih ih' => intro h; simp [wishedT, ih h.1, ih' h.2]
  | or s t ih ih' => intro h; simp [wishedT, ih h.1, ih' h.2]
  | si s t ih ih' => intro h; simp [wishedT, ih h.1, ih' h.2]
theorem allT_self (s : Sta) : s ∈ allT s := by cases s <;> simp [allT]
theorem allT_trans : ∀ {s o p : Sta}, o ∈ allT s → p ∈ allT o → p ∈ allT s := by
  intro s
  induction s with
  | mark m => intro o p ho hp; simp [allT] at ho; subst ho; exact hp
  | yes => intro o p ho hp; simp [allT] at ho; subst ho; exact hp
  | nt s ih => intro o p ho hp; rcases List.mem_cons.mp ho with rfl | q; exact hp; exact List.mem_cons_of_mem _ (ih q hp)
  | nx s ih => intro o p ho hp; rcases List.mem_cons.mp ho with rfl | q; exact hp; exact List.mem_cons_of_mem _ (ih q hp)
  | wi k s ih => intro o p ho hp; rcases List.mem_cons.mp ho with rfl | q; exact hp; exact List.mem_cons_of_mem _ (ih q hp)
  | bf s ih => intro o p ho hp; rcases List.mem_cons.mp ho with rfl | q; exact hp; exact List.mem_cons_of_mem _ (ih q hp)
  | an s t ih ih' => intro o p ho hp; rcases List.mem_cons.mp ho with rfl | q; exact hp; rcases List.mem_append.mp q with q | q; exact List.mem_cons_of_mem _ (List.mem_append_left _ (ih q hp)); exact List.mem_cons_of_mem _ (List.mem_append_right _ (ih' q hp))
  | or s t ih ih' => intro o p ho hp; rcases List.mem_cons.mp ho with rfl | q; exact hp; rcases List.mem_append.mp q with q | q; exact List.mem_cons_of_mem _ (List.mem_append_left _ (ih q hp)); exact List.mem_cons_of_mem _ (List.mem_append_right _ (ih' q hp))
  | un s t ih ih' => intro o p ho hp; rcases List.mem_cons.mp ho with rfl | q; exact hp; rcases List.mem_append.mp q with q | q; exact List.mem_cons_of_mem _ (List.mem_append_left _ (ih q hp)); exact List.mem_cons_of_mem _ (List.mem_append_right _ (ih' q hp))
  | si s t ih ih' => intro o p ho hp; rcases List.mem_cons.mp ho with rfl | q; exact hp; rcases List.mem_append.mp q with q | q; exact List.mem_cons_of_mem _ (List.mem_append_left _ (ih q hp)); exact List.mem_cons_of_mem _ (List.mem_append_right _ (ih' q hp))
/-- the wishes by the parts: who makes which -/
theorem wished_more : ∀ {s o : Sta}, o ∈ wishedT s → ∃ p ∈ allT s, o ∈ moreT p := by
  intro s
  induction s with
  | mark m => intro o ho; simp [wishedT] at ho
  | yes => intro o ho; simp [wishedT] at ho
  | nt s ih => intro o ho; obtain ⟨p, h1, h2⟩ := ih ho; exact ⟨p, by simp [allT, h1], h2⟩
  | bf s ih => intro o ho; obtain ⟨p, h1, h2⟩ := ih ho; exact ⟨p, by simp [allT, h1], h2⟩
  | nx s ih => intro o ho; simp [wishedT] at ho; subst ho; exact ⟨.nx o, by simp [allT], by simp [moreT]⟩
  | wi k s ih =>
    intro o ho
    rcases List.mem_append.mp ho with q | q
    · obtain ⟨p, h1, h2⟩ := ih q; exact ⟨p, by simp [allT, h1], h2⟩
    · cases k with
      | zero => cases q
      | succ k => simp at q; subst q; exact ⟨.wi (k + 1) s, by simp [allT], by simp [moreT]⟩
  | an s t ih ih' => intro o ho; rcases List.mem_append.mp ho with q | q; (obtain ⟨p, h1, h2⟩ := ih q; exact ⟨p, by simp [allT, h1], h2⟩); (obtain ⟨p, h1, h2⟩ := ih' q; exact ⟨p, by simp [allT, h1], h2⟩)
  | or s t ih ih' => intro o ho; rcases List.mem_append.mp ho with q | q; (obtain ⟨p, h1, h2⟩ := ih q; exact ⟨p, by simp [allT, h1], h2⟩); (obtain ⟨p, h1, h2⟩ := ih' q; exact ⟨p, by simp [allT, h1], h2⟩)
  | si s t ih ih' => intro o ho; rcases List.mem_append.mp ho with q | q; (obtain ⟨p, h1, h2⟩ := ih q; exact ⟨p, by simp [allT, h1], h2⟩); (obtain ⟨p, h1, h2⟩ := ih' q; exact ⟨p, by simp [allT, h1], h2⟩)
  | un s t ih ih' =>
    intro o ho
    rcases List.mem_append.mp ho with q | q
    · rcases List.mem_append.mp q with q | q
      · obtain ⟨p, h1, h2⟩ := ih q; exact ⟨p, by simp [allT, h1], h2⟩
      · obtain ⟨p, h1, h2⟩ := ih' q; exact ⟨p, by simp [allT, h1], h2⟩
    · simp at q; subst q; exact ⟨.un s t, by simp [allT], by simp [moreT]⟩
/-- the wishes that s's parts make are closed -/
theorem more_closed {s p w o : Sta} (hp : p ∈ allT s) (hw : w ∈ moreT p) (ho : o ∈ wishedT w) : ∃ p ∈ allT s, o ∈ moreT p := by
  cases p with
  | nx a =>
    simp [moreT] at hw
    subst hw
    obtain ⟨q, h1, h2⟩ := wished_more ho
    exact ⟨q, allT_trans hp (by simp [allT, h1]), h2⟩
  | un a b =>
    simp [moreT] at hw
    subst hw
    obtain ⟨q, h1, h2⟩ := wished_more ho
    exact ⟨q, allT_trans hp h1, h2⟩
  | wi k a =>
    simp [moreT] at hw
    obtain ⟨j, hj, rfl⟩ := hw
    rcases List.mem_append.mp ho with q | q
    · obtain ⟨z, h1, h2⟩ := wished_more q
      exact ⟨z, allT_trans hp (by simp [allT, h1]), h2⟩
    · cases j with
      | zero => cases q
      | succ j => simp at q; subst q; exact ⟨_, hp, by simp [moreT]; omega⟩
  | _ => simp [moreT] at hw
theorem mem_foldW : ∀ {l found : List Sta} {x : Sta}, x ∈ l.foldl stepW found ↔ x ∈ found ∨ ∃ p ∈ l, x ∈ moreT p
  | [], found, x => by simp
  | s :: l, found, x => by
    rw [List.foldl_cons, mem_foldW]
    unfold stepW
    simp only [List.mem_append, List.mem_filter, Bool.not_eq_true', decide_eq_false_iff_not, List.mem_cons, exists_eq_or_imp]
    constructor
    · rintro ((h | h) | h)
      · exact .inl h
      · exact .inr (.inl h.1)
      · exact .inr (.inr h)
    · rintro (h | h | h)
      · exact .inl (.inl h)
      · by_cases hf : x ∈ found
        · exact .inl (.inl hf)
        · exact .inl (.inr ⟨h, hf⟩)
      · exact .inr h
theorem mem_wishesT {s x : Sta} : x ∈ wishesT s ↔ x = s ∨ ∃ p ∈ allT s, x ∈ moreT p := by unfold wishesT; rw [mem_foldW]; simp
/-- the law's wishes are closed under the program's -/
theorem wishesT_closed {s w o : Sta} (hw : w ∈ wishesT s) (ho : o ∈ wishedT w) : o ∈ wishesT s := by
  rcases mem_wishesT.mp hw with rfl | ⟨p, h1, h2⟩
  · exact mem_wishesT.mpr (.inr (wished_more ho))
  · exact mem_wishesT.mpr (.inr (more_closed h1 h2 ho))
end K03

namespace K03
open PySem PySem.Spec PyProof.Rows L2 Py
/-! ### what is gathered is what the law gathers -/
theorem all_more {F : List Sta} (cF : ∀ w ∈ F, ∀ o ∈ wishedT w, o ∈ F) : ∀ q : Sta, (∀ o ∈ wishedT q, o ∈ F) → ∀ p ∈ allT q, ∀ o ∈ moreT p, o ∈ F := by
  intro q
  induction q with
  | mark m => intro _ p hp o ho; simp [allT] at hp; subst hp; simp [moreT] at ho
  | yes => intro _ p hp o ho; simp [allT] at hp; subst hp; simp [moreT] at ho
  | nt s ih => intro h p hp o ho; rcases List.mem_cons.mp hp with rfl | q; (simp [moreT] at ho); exact ih h p q o ho
  | bf s ih => intro h p hp o ho; rcases List.mem_cons.mp hp with rfl | q; (simp [moreT] at ho); exact ih h p q o ho
  | nx s ih =>
    intro h p hp o ho
    have hs : s ∈ F := h s (by simp [wishedT])
    rcases List.mem_cons.mp hp with rfl | q
    · simp [moreT] at ho; subst ho; exact hs
    · exact ih (cF s hs) p q o ho
  | wi k s ih =>
    intro h p hp o ho
    rcases List.mem_cons.mp hp with rfl | q
    · have down : ∀ k, (∀ o ∈ wishedT (.wi k s), o ∈ F) → ∀ j, j < k → Sta.wi j s ∈ F := by
        intro k
        induction k with
        | zero => intro _ j hj; omega
        | succ k ihk =>
          intro hk j hj
          have h1 : Sta.wi k s ∈ F := hk _ (by simp [wishedT])
          by_cases e : j = k
          · subst e; exact h1
          · exact ihk (cF _ h1) j (by omega)
      simp [moreT] at ho
      obtain ⟨j, hj, rfl⟩ := ho
      exact down k h j hj
    · exact ih (fun o ho => h o (by simp [wishedT, ho])) p q o ho
  | an s t ih ih' => intro h p hp o ho; rcases List.mem_cons.mp hp with rfl | q; (simp [moreT] at ho); rcases List.mem_append.mp q with q | q; exact ih (fun o ho => h o (by simp [wishedT, ho])) p q o ho; exact ih' (fun o ho => h o (by simp [wishedT, ho])) p q o ho
  | or s t ih ih' => intro h p hp o ho; rcases List.mem_cons.mp hp with rfl | q; (simp [moreT] at ho); rcases List.mem_append.mp q with q | q; exact ih (fun o ho => h o (by simp [wishedT, ho])) p q o ho; exact ih' (fun o ho => h o (by simp [wishedT, ho])) p q o ho
  | si s t ih ih' => intro h p hp o ho; rcases List.mem_cons.mp hp with rfl | q; (simp [moreT] at ho); rcases List.mem_append.mp q with q | q; exact ih (fun o ho => h o (by simp [wishedT, ho])) p q o ho; exact ih' (fun o ho => h o (by simp [wishedT, ho])) p q o ho
  | un s t ih ih' =>
    intro h p hp o ho
    rcases List.mem_cons.mp hp with rfl | q
    · simp [moreT] at ho; subst ho; exact h _ (by simp [wishedT])
    · rcases List.mem_append.mp q with q | q
      · exact ih (fun o ho => h o (by simp [wishedT, ho])) p q o ho
      · exact ih' (fun o ho => h o (by simp [wishedT, ho])) p q o ho
theorem mem_gathered {F : List Sta} {s : Sta} (hs : s ∈ F) (cF : ∀ w ∈ F, ∀ o ∈ wishedT w, o ∈ F) : ∀ o ∈ wishesT s, o ∈ F := fun o ho => by
  rcases mem_wishesT.mp ho with rfl | ⟨p, h1, h2⟩
  · exact hs
  · exact all_more cF s (cF s hs) p h1 o h2
theorem nodup_stepW {found : List Sta} {s : Sta} (h : found.Nodup) (hm : (moreT s).Nodup) : (stepW found s).Nodup := by
  unfold stepW
  refine List.nodup_append.mpr ⟨h, hm.filter _, fun a ha b hb e => ?_⟩
  have := (List.mem_filter.mp hb).2
  simp at this
  exact this (e ▸ ha)
theorem nodup_moreT (s : Sta) : (moreT s).Nodup := by
  cases s <;> simp [moreT]
  rename_i k s
  refine List.Pairwise.map _ (fun a b h e => h ?_) (List.nodup_range (n := k))
  cases e
  rfl
theorem nodup_foldW : ∀ {l found : List Sta}, found.Nodup → (l.foldl stepW found).Nodup
  | [], _, h => h
  | s :: l, _, h => nodup_foldW (l := l) (nodup_stepW h (nodup_moreT s))
theorem nodup_wishesT (s : Sta) : (wishesT s).Nodup := nodup_foldW (by simp)
/-- two lists without repetition and of the same members are as long -/
theorem same_len {α : Type} [DecidableEq α] {l r : List α} (hl : l.Nodup) (hr : r.Nodup) (h : ∀ x, x ∈ l ↔ x ∈ r) : l.length = r.length :=
  Nat.le_antisymm (nodup_len l r hl fun x hx => (h x).mp hx) (nodup_len r l hr fun x hx => (h x).mpr hx)
/-- inner ones first -/
def OrdL (L : List Sta) : Prop := ∀ k q, L[k]? = some q → ∀ o ∈ allT q, isPast o → o ∈ L.take (k + 1)
theorem ord_addE {l : List Sta} {x : Sta} (h : OrdL l) (hx : ∀ o ∈ allT x, isPast o → o ∈ l ∨ o = x) : OrdL (addE l x) := by
  unfold addE
  split
  · exact h
  · intro k q hq o ho hp
    by_cases hk : k < l.length
    · rw [List.getElem?_append_left hk] at hq
      have := h k q hq o ho hp
      rw [List.take_append_of_le_length (by omega)]
      exact this
    · rw [List.getElem?_append_right (by omega)] at hq
      have hk0 : k - l.length = 0 := by
        rcases Nat.eq_zero_or_pos (k - l.length) with e | e
        · exact e
        · rw [List.getElem?_eq_none (by simp; omega)] at hq; cases hq
      rw [hk0] at hq
      cases hq
      rw [List.take_of_length_le (by simp; omega)]
      rcases hx o ho hp with q | q
      · exact List.mem_append_left _ q
      · subst q; simp
theorem ord_foldE : ∀ (xs acc l : List Sta), OrdL l → (∀ x ∈ acc, x ∈ l) → (∀ k q, xs[k]? = some q → ∀ o ∈ allT q, isPast o → o ∈ acc ∨ o ∈ xs.take (k + 1)) → OrdL (xs.foldl addE l)
  | [], _, l, h, _, _ => h
  | x :: xs, acc, l, h, ha, hx => by
    rw [List.foldl_cons]
    refine ord_foldE xs (x :: acc) (addE l x) (ord_addE h fun o ho hp => ?_) (fun y hy => ?_) fun k q hq o ho hp => ?_
    · rcases hx 0 x rfl o ho hp with q | q
      · exact .inl (ha o q)
      · simp at q; exact .inr q
    · rcases List.mem_cons.mp hy with e | e
      · subst e; exact mem_addE.mpr (.inr rfl)
      · exact mem_addE.mpr (.inl (ha y e))
    · rcases hx (k + 1) q hq o ho hp with z | z
      · exact .inl (List.mem_cons_of_mem _ z)
      · rw [List.take_succ_cons] at z
        rcases List.mem_cons.mp z with e | e
        · exact .inl (e ▸ List.mem_cons_self)
        · exact .inr e
theorem ord_fold2 {xs l : List Sta} (h : OrdL l) (hx : OrdL xs) : OrdL (xs.foldl addE l) := ord_foldE xs [] l h (fun _ z => by cases z) fun k q hq o ho hp => .inr (hx k q hq o ho hp)
theorem ord_nil : OrdL [] := fun k q hq => by simp at hq
theorem ord_pastsT : ∀ s : Sta, OrdL (pastsT s) := by
  intro s
  induction s with
  | mark m => exact ord_nil
  | yes => exact ord_nil
  | nt s ih => exact ord_fold2 ord_nil ih
  | nx s ih => exact ord_fold2 ord_nil ih
  | wi k s ih => exact ord_fold2 ord_nil ih
  | an s t ih ih' => exact ord_fold2 (ord_fold2 ord_nil ih) ih'
  | or s t ih ih' => exact ord_fold2 (ord_fold2 ord_nil ih) ih'
  | un s t ih ih' => exact ord_fold2 (ord_fold2 ord_nil ih) ih'
  | bf s ih =>
    refine ord_addE (ord_fold2 ord_nil ih) fun o ho hp => ?_
    rcases List.mem_cons.mp ho with e | e
    · exact .inr e
    · exact .inl (mem_foldE.mpr (.inr (mem_pastsT.mpr ⟨e, hp⟩)))
  | si s t ih ih' =>
    refine ord_addE (ord_fold2 (ord_fold2 ord_nil ih) ih') fun o ho hp => ?_
    rcases List.mem_cons.mp ho with e | e
    · exact .inr e
    · rcases List.mem_append.mp e with e | e
      · exact .inl (mem_foldE.mpr (.inl (mem_foldE.mpr (.inr (mem_pastsT.mpr ⟨e, hp⟩)))))
      · exact .inl (mem_foldE.mpr (.inr (mem_pastsT.mpr ⟨e, hp⟩)))
end K03

namespace K03
open PySem PySem.Spec PyProof.Rows L2 Py
/-! ### the law's own gatherings -/
def idxT (W : List Sta) (w : Sta) : Nat := W.findIdx fun x => decide (x = w)
theorem idxT_lt {W : List Sta} {w : Sta} (h : w ∈ W) : idxT W w < W.length := List.findIdx_lt_length_of_exists ⟨w, h, by simp⟩
theorem idxT_at {W : List Sta} {w : Sta} (h : w ∈ W) : W[idxT W w]? = some w := by
  have hl := idxT_lt h
  rw [List.getElem?_eq_getElem hl]
  have := List.findIdx_getElem (xs := W) (p := fun x => decide (x = w)) (w := hl)
  simp only [decide_eq_true_eq] at this
  exact congrArg some this
theorem idxT_nodup {W : List Sta} (h : W.Nodup) {k : Nat} {w : Sta} (hk : W[k]? = some w) : idxT W w = k := by
  have hm : w ∈ W := List.mem_of_getElem? hk
  have e := idxT_at hm
  have hl := idxT_lt hm
  have hkl : k < W.length := (List.getElem?_eq_some_iff.mp hk).1
  rw [List.getElem?_eq_getElem hl] at e
  rw [List.getElem?_eq_getElem hkl] at hk
  exact (List.getElem_inj h).mp (Option.some.inj (e.trans hk.symm))
theorem run_idx {d : Nat} (hd : d ≤ 18) {W : List Sta} {w : Sta} (hW : ∀ t ∈ W, Fine d okM t) (h : w ∈ W) : oIndex (encL W) (enc w) = some (.int (idxT W w)) := by
  have s1 := encs_shaped (l := W) (fun t ht => (hW t ht).mks) (fun t ht => by have := (hW t ht).dep; omega)
  have s2 := enc_shaped (s := w) (hW w h).mks (by have := (hW w h).dep; omega)
  have e : (W.map enc).findIdx? (fun z => PyData.eqv z (enc w)) = some (idxT W w) := by
    rw [List.findIdx?_map]
    have e2 : ((fun z => PyData.eqv z (enc w)) ∘ enc) = fun x => decide (x = w) := by
      funext x
      exact enc_eqv x w
    rw [e2, List.findIdx?_eq_some_iff_findIdx_eq]
    exact ⟨idxT_lt h, rfl⟩
  unfold oIndex encL
  simp only
  rw [if_pos ⟨s1, s2⟩, e]
theorem enum_encs (W : List Sta) : enD (W.map enc) = (W.zipIdx 0).map fun p => .tuple [.int (p.2 : Nat), enc p.1] := by
  unfold enD
  refine List.ext_getElem (by simp) fun i h1 h2 => ?_
  have h3 : i < W.length := by simpa using h1
  simp [List.getD_eq_getElem?_getD, h3]
theorem run_once {d : Nat} (hd : d ≤ 18) {F Du : List Sta} (hF : ∀ t ∈ F, Fine d okM t) (hD : ∀ t ∈ Du, Fine d okM t) (nF : F.Nodup) (hl : F.length = Du.length) (hs : ∀ t ∈ F, t ∈ Du) (hz : F.length ≤ 1000000) (n : Nat) : Phi (n + 1) .l_once [encL F, encL Du] = some (.ok (.bool true)) := by
  have isl : ∀ x : List D, oIsi "list" (.list x) = some (.bool true) := fun x => by simp [oIsi, Py.isT, tyN]
  have zF : F.length ≤ big := by unfold big; omega
  have lc : ∀ (y z : Sl), lcF (gfTup (gsCons (gfN 2) (gsCons (gfN 3) gsNil))) gYes (fAnd (f2 (oIn false) (fOpd 3) (fOpd 1)) (f2 oEq (fIdx (fOpd 0) (fOpd 3)) (fOpd 2))) [.va (encL F), .va (encL Du), y, z] ((F.zipIdx 0).map fun p => .tuple [.int (p.2 : Nat), enc p.1]) = some (((F.zipIdx 0).map fun _ => true).map .bool) := fun y z => by
    rw [List.map_map]
    refine lcF_map (fun p : Sta × Nat => .tuple [.int (p.2 : Nat), enc p.1]) (fun _ => .bool true) (F.zipIdx 0) fun p hp => ?_
    have hk : F[p.2]? = some p.1 := by
      have := List.mem_zipIdx hp
      obtain ⟨h1, h2, h3⟩ := this
      rw [h3, List.getElem?_eq_getElem (by omega)]
      simp
    have hm : p.1 ∈ F := List.mem_of_getElem? hk
    have fp := hF p.1 hm
    have i := in_encs (l := Du) (s := p.1) (fun t ht => (hD t ht).mks) (fun t ht => by have := (hD t ht).dep; omega) fp.mks (by have := fp.dep; omega) false
    have ix := run_idx hd hF hm
    rw [idxT_nodup nF hk] at ix
    have hsd := hs p.1 hm
    refine ⟨[.va (encL F), .va (encL Du), .va (.int p.2), .va (enc p.1)], by simp [gfTup, gsCons, gsNil, gfN], rfl, ?_⟩
    unfold encL at ix ⊢
    simp [fOwn, fSeq, fNext, sRet, sRetN, sIf, sSet, sSetO, sAsg, sApp, sFor, forF, fVar, fOpd, fCon, f2, f1, fNil, fCons, bR, bL, bA, bLL, oR, fT, gAnd, gOr, gNot, gYes, fAnd, fOr, fNot, fIte, fTup, fLst, fCall, fCallO, fB, fM1, fSl, fiNo, fiSm, fLc, wLst, wTup, wStr, wRg1, wRg2, wZip, wEnum, gfN, gfTup, gsNil, gsCons, fLrg, fLrg3, wipeG, xSeq, xSet, xOf, xCall, xIf, xRet, xNext, xTup, xCons, xNil, xPut, xCallP, sRetX, sSetX, List.getElem?_cons_zero, List.getElem?_cons_succ, List.set_cons_zero, List.set_cons_succ, fIdx, i, ix, hsd]
  have al := oAll_bools ((F.zipIdx 0).map fun _ => true)
  have at_ : ((F.zipIdx 0).map fun _ => true).all id = true := by simp
  rw [at_] at al
  rw [phi_l_once]
  refine runF_rt rfl ?_
  unfold f_l_once
  rw [fSeq_nx (γ1 := [.va (encL F), .va (encL Du), .no, .no]) (by simp [entry, fOwn, fSeq, fNext, sRet, sRetN, sIf, sSet, sSetO, sAsg, sApp, sFor, forF, fVar, fOpd, fCon, f2, f1, fNil, fCons, bR, bL, bA, bLL, oR, fT, gAnd, gOr, gNot, gYes, fAnd, fOr, fNot, fIte, fTup, fLst, fCall, fCallO, fB, fM1, fSl, fiNo, fiSm, fLc, wLst, wTup, wStr, wRg1, wRg2, wZip, wEnum, gfN, gfTup, gsNil, gsCons, fLrg, fLrg3, wipeG, xSeq, xSet, xOf, xCall, xIf, xRet, xNext, xTup, xCons, xNil, xPut, xCallP, sRetX, sSetX, List.getElem?_cons_zero, List.getElem?_cons_succ, List.set_cons_zero, List.set_cons_succ, List.replicate, encL, isl, hl])]
  have g3 : fLc (wEnum (fCons (fVar 0) fNil)) (gfTup (gsCons (gfN 2) (gsCons (gfN 3) gsNil))) gYes (fAnd (f2 (oIn false) (fOpd 3) (fOpd 1)) (f2 oEq (fIdx (fOpd 0) (fOpd 3)) (fOpd 2))) [2, 3] [.va (encL F), .va (encL Du), .no, .no] = some (.ok (.list (((F.zipIdx 0).map fun _ => true).map .bool))) := by
    have hw : wEnum (fCons (fVar 0) fNil) [.va (encL F), .va (encL Du), .no, .no] = some (.ok ((F.zipIdx 0).map fun p => .tuple [.int (p.2 : Nat), enc p.1])) := by
      rw [← enum_encs]
      rfl
    have e6 : wipeG [.va (encL F), .va (encL Du), .no, .no] [2, 3] = [.va (encL F), .va (encL Du), .no, .no] := rfl
    have zz : ((F.zipIdx 0).map fun p => PyData.tuple [.int (p.2 : Nat), enc p.1]).length ≤ big := by rw [List.length_map, List.length_zipIdx]; exact zF
    unfold fLc
    rw [hw]
    simp only [zz, if_pos, e6, lc]
  unfold sRet fB
  have hc : ∀ (a : Fe) (γ : Ge) (d : D), a γ = some (.ok d) → fCons a fNil γ = some (.ok [d]) := fun a γ d h => by
    unfold fCons fNil
    rw [h]
    rfl
  rw [hc _ _ _ g3]
  simp only [bA_ok, al, oR_some]
end K03

namespace K03
open PySem PySem.Spec PyProof.Rows L2 Py
def lpastsT (s : Sta) : List Sta := (allT s).foldl (fun l x => if isPast x then addE l x else l) []
theorem lp_fold : ∀ (xs l : List Sta), l.Nodup → (xs.foldl (fun l x => if isPast x then addE l x else l) l).Nodup ∧ ∀ y, y ∈ xs.foldl (fun l x => if isPast x then addE l x else l) l ↔ y ∈ l ∨ (y ∈ xs ∧ isPast y)
  | [], l, h => ⟨h, fun y => by simp⟩
  | x :: xs, l, h => by
    rw [List.foldl_cons]
    by_cases hp : isPast x
    · rw [if_pos hp]
      obtain ⟨h1, h2⟩ := lp_fold xs (addE l x) (nodup_addE h)
      refine ⟨h1, fun y => (h2 y).trans ?_⟩
      rw [mem_addE, List.mem_cons]
      constructor
      · rintro ((a | a) | a)
        · exact .inl a
        · exact .inr ⟨.inl a, a ▸ hp⟩
        · exact .inr ⟨.inr a.1, a.2⟩
      · rintro (a | ⟨a | a, b⟩)
        · exact .inl (.inl a)
        · exact .inl (.inr a)
        · exact .inr ⟨a, b⟩
    · rw [if_neg hp]
      obtain ⟨h1, h2⟩ := lp_fold xs l h
      refine ⟨h1, fun y => (h2 y).trans ?_⟩
      rw [List.mem_cons]
      constructor
      · rintro (a | a)
        · exact .inl a
        · exact .inr ⟨.inr a.1, a.2⟩
      · rintro (a | ⟨a | a, b⟩)
        · exact .inl a
        · exact absurd (a ▸ b) hp
        · exact .inr ⟨a, b⟩
theorem lpastsT_nodup (s : Sta) : (lpastsT s).Nodup := (lp_fold (allT s) [] List.nodup_nil).1
theorem mem_lpastsT {s x : Sta} : x ∈ lpastsT s ↔ x ∈ allT s ∧ isPast x := by
  have := (lp_fold (allT s) [] List.nodup_nil).2 x
  simpa [lpastsT] using this
theorem run_lpasts {d : Nat} (hd : d ≤ 18) {s : Sta} (fs : Fine d okM s) {n : Nat} (hn : d + 1 ≤ n) : Phi n .l_pasts [enc s] = some (.ok (encL (lpastsT s))) := by
  obtain ⟨n, rfl⟩ : ∃ k, n = k + 1 := ⟨n - 1, by omega⟩
  have ha := run_all s n (by have := fs.dep; omega) (by have := fs.dep; omega)
  have key : ∀ (l found : List Sta) (P x : Sl), (∀ t ∈ found, Fine d okM t) → (∀ t ∈ l, Fine d okM t) → found.length + l.length ≤ big →
      ∃ x', forF (gfN 2) (sIf (gAnd (fT (f2 (oIn false) (f2 oIx (fOpd 2) (fCon (.int 0))) (fTup (fCons (fCon (.str "before")) (fCons (fCon (.str "since")) fNil))))) (fT (f2 (oIn true) (fOpd 2) (fOpd 1)))) (sApp 1 (fVar 2)) fNext) (l.map enc) [P, .ow (found.map enc), x]
        = some (.nx [P, .ow ((l.foldl (fun l x => if isPast x then addE l x else l) found).map enc), x']) := by
    intro l
    induction l with
    | nil => intro found P x _ _ _; exact ⟨x, rfl⟩
    | cons o l ih =>
      intro found P x hf hl hz
      have fo := hl o List.mem_cons_self
      have i := in_encs (l := found) (s := o) (fun t ht => (hf t ht).mks) (fun t ht => by have := (hf t ht).dep; omega) fo.mks (by have := fo.dep; omega) true
      have hb := in_bs o
      have i0 := ix0 o
      simp only [List.length_cons] at hz
      have hfb : found.length ≤ big := by omega
      rw [List.foldl_cons]
      by_cases hp : isPast o
      · rw [if_pos hp]
        by_cases h : o ∈ found
        · have ea : addE found o = found := by unfold addE; rw [if_pos h]
          obtain ⟨x', e⟩ := ih found P (.va (enc o)) hf (fun t ht => hl t (List.mem_cons_of_mem _ ht)) (by omega)
          refine ⟨x', ?_⟩
          rw [ea, ← e]
          simp [fOwn, fSeq, fNext, sRet, sRetN, sIf, sSet, sSetO, sAsg, sApp, sFor, forF, fVar, fOpd, fCon, f2, f1, fNil, fCons, bR, bL, bA, bLL, oR, fT, gAnd, gOr, gNot, gYes, fAnd, fOr, fNot, fIte, fTup, fLst, fCall, fCallO, fB, fM1, fSl, fiNo, fiSm, fLc, wLst, wTup, wStr, wRg1, wRg2, wZip, wEnum, gfN, gfTup, gsNil, gsCons, fLrg, fLrg3, wipeG, xSeq, xSet, xOf, xCall, xIf, xRet, xNext, xTup, xCons, xNil, xPut, xCallP, sRetX, sSetX, List.getElem?_cons_zero, List.getElem?_cons_succ, List.set_cons_zero, List.set_cons_succ, i0, hb, hp, i, h]
        · have ea : addE found o = found ++ [o] := by unfold addE; rw [if_neg h]
          obtain ⟨x', e⟩ := ih (found ++ [o]) P (.va (enc o)) (fun t ht => by
            rcases List.mem_append.mp ht with q | q
            · exact hf t q
            · simp at q; subst q; exact fo) (fun t ht => hl t (List.mem_cons_of_mem _ ht)) (by simp; omega)
          refine ⟨x', ?_⟩
          rw [ea, ← e]
          simp [fOwn, fSeq, fNext, sRet, sRetN, sIf, sSet, sSetO, sAsg, sApp, sFor, forF, fVar, fOpd, fCon, f2, f1, fNil, fCons, bR, bL, bA, bLL, oR, fT, gAnd, gOr, gNot, gYes, fAnd, fOr, fNot, fIte, fTup, fLst, fCall, fCallO, fB, fM1, fSl, fiNo, fiSm, fLc, wLst, wTup, wStr, wRg1, wRg2, wZip, wEnum, gfN, gfTup, gsNil, gsCons, fLrg, fLrg3, wipeG, xSeq, xSet, xOf, xCall, xIf, xRet, xNext, xTup, xCons, xNil, xPut, xCallP, sRetX, sSetX, List.getElem?_cons_zero, List.getElem?_cons_succ, List.set_cons_zero, List.set_cons_succ, i0, hb, hp, i, h, hfb]
      · rw [if_neg hp]
        obtain ⟨x', e⟩ := ih found P (.va (enc o)) hf (fun t ht => hl t (List.mem_cons_of_mem _ ht)) (by omega)
        refine ⟨x', ?_⟩
        rw [← e]
        simp [fOwn, fSeq, fNext, sRet, sRetN, sIf, sSet, sSetO, sAsg, sApp, sFor, forF, fVar, fOpd, fCon, f2, f1, fNil, fCons, bR, bL, bA, bLL, oR, fT, gAnd, gOr, gNot, gYes, fAnd, fOr, fNot, fIte, fTup, fLst, fCall, fCallO, fB, fM1, fSl, fiNo, fiSm, fLc, wLst, wTup, wStr, wRg1, wRg2, wZip, wEnum, gfN, gfTup, gsNil, gsCons, fLrg, fLrg3, wipeG, xSeq, xSet, xOf, xCall, xIf, xRet, xNext, xTup, xCons, xNil, xPut, xCallP, sRetX, sSetX, List.getElem?_cons_zero, List.getElem?_cons_succ, List.set_cons_zero, List.set_cons_succ, i0, hb, hp]
  have la := allT_len s
  have lb := big_pow (d := s.depth) (by have := fs.dep; omega)
  obtain ⟨x', e⟩ := key (allT s) [] (.va (enc s)) .no (by intro t ht; cases ht) (allT_fine fs) (by simp; omega)
  rw [phi_l_pasts]
  refine runF_rt rfl ?_
  unfold f_l_pasts
  rw [fSeq_nx (γ1 := [.va (enc s), .ow [], .no]) (by simp [entry, fOwn, fSeq, fNext, sRet, sRetN, sIf, sSet, sSetO, sAsg, sApp, sFor, forF, fVar, fOpd, fCon, f2, f1, fNil, fCons, bR, bL, bA, bLL, oR, fT, gAnd, gOr, gNot, gYes, fAnd, fOr, fNot, fIte, fTup, fLst, fCall, fCallO, fB, fM1, fSl, fiNo, fiSm, fLc, wLst, wTup, wStr, wRg1, wRg2, wZip, wEnum, gfN, gfTup, gsNil, gsCons, fLrg, fLrg3, wipeG, xSeq, xSet, xOf, xCall, xIf, xRet, xNext, xTup, xCons, xNil, xPut, xCallP, sRetX, sSetX, List.getElem?_cons_zero, List.getElem?_cons_succ, List.set_cons_zero, List.set_cons_succ, List.replicate])]
  rw [fSeq_nx (γ1 := [.va (enc s), .ow ((lpastsT s).map enc), x']) ?_]
  · rfl
  · simp only [encL, List.map_nil] at ha e
    have hw : wLst (fCall (Phi n .l_all) (fCons (fVar 0) fNil)) [.va (enc s), .ow [], .no] = some (.ok ((allT s).map enc)) := by
      unfold wLst
      simp only [fCall, fCons, fVar, fNil, List.getElem?_cons_zero, bL_ok, bLL_ok, bA_ok, ha]
    unfold sFor
    rw [hw]
    exact e
theorem run_inner {d : Nat} (hd : d ≤ 18) {F : List Sta} (hF : ∀ t ∈ F, Fine d okM t) (nF : F.Nodup) (pF : ∀ t ∈ F, isPast t) (oF : OrdL F) (hz : F.length ≤ 1000000) {n : Nat} (hn : d + 1 ≤ n) : Phi n .l_inner_first [encL F] = some (.ok (.bool true)) := by
  obtain ⟨n, rfl⟩ : ∃ k, n = k + 1 := ⟨n - 1, by omega⟩
  have inner : ∀ (k : Nat) (l : List Sta) (x : Sl), (∀ t ∈ l, Fine d okM t ∧ (t ∈ F → idxT F t ≤ k)) → ∃ x', forF (gfN 2) (sIf (gAnd (fT (f2 (oIn false) (fOpd 2) (fOpd 0))) (fT (f2 oGt (fIdx (fOpd 0) (fOpd 2)) (fOpd 1)))) (sRet (fCon (.bool false))) fNext) (l.map enc) [.va (encL F), .va (.int k), x] = some (.nx [.va (encL F), .va (.int k), x']) := by
    intro k l
    induction l with
    | nil => intro x _; exact ⟨x, rfl⟩
    | cons o l ih =>
      intro x hl
      obtain ⟨fo, ho⟩ := hl o List.mem_cons_self
      have i := in_encs (l := F) (s := o) (fun t ht => (hF t ht).mks) (fun t ht => by have := (hF t ht).dep; omega) fo.mks (by have := fo.dep; omega) false
      obtain ⟨x', e⟩ := ih (.va (enc o)) fun t ht => hl t (List.mem_cons_of_mem _ ht)
      refine ⟨x', ?_⟩
      rw [← e]
      by_cases h : o ∈ F
      · have ix := run_idx hd hF h
        have hk := ho h
        have c : ¬ ((k : Int) < (idxT F o : Int)) := by omega
        unfold encL at ix ⊢
        simp [fOwn, fSeq, fNext, sRet, sRetN, sIf, sSet, sSetO, sAsg, sApp, sFor, forF, fVar, fOpd, fCon, f2, f1, fNil, fCons, bR, bL, bA, bLL, oR, fT, gAnd, gOr, gNot, gYes, fAnd, fOr, fNot, fIte, fTup, fLst, fCall, fCallO, fB, fM1, fSl, fiNo, fiSm, fLc, wLst, wTup, wStr, wRg1, wRg2, wZip, wEnum, gfN, gfTup, gsNil, gsCons, fLrg, fLrg3, wipeG, xSeq, xSet, xOf, xCall, xIf, xRet, xNext, xTup, xCons, xNil, xPut, xCallP, sRetX, sSetX, List.getElem?_cons_zero, List.getElem?_cons_succ, List.set_cons_zero, List.set_cons_succ, fIdx, i, h, ix, c, hk]
      · unfold encL
        simp [fOwn, fSeq, fNext, sRet, sRetN, sIf, sSet, sSetO, sAsg, sApp, sFor, forF, fVar, fOpd, fCon, f2, f1, fNil, fCons, bR, bL, bA, bLL, oR, fT, gAnd, gOr, gNot, gYes, fAnd, fOr, fNot, fIte, fTup, fLst, fCall, fCallO, fB, fM1, fSl, fiNo, fiSm, fLc, wLst, wTup, wStr, wRg1, wRg2, wZip, wEnum, gfN, gfTup, gsNil, gsCons, fLrg, fLrg3, wipeG, xSeq, xSet, xOf, xCall, xIf, xRet, xNext, xTup, xCons, xNil, xPut, xCallP, sRetX, sSetX, List.getElem?_cons_zero, List.getElem?_cons_succ, List.set_cons_zero, List.set_cons_succ, fIdx, i, h]
  have outer : ∀ (j k : Nat) (x y : Sl), k + j = F.length → ∃ x' y', forF (gfN 1) (sFor (wLst (fSl (fCall (Phi n .l_all) (fCons (f2 oIx (fOpd 0) (fOpd 1)) fNil)) (fiSm (fCon (.int 1))) fiNo)) (gfN 2) (sIf (gAnd (fT (f2 (oIn false) (fOpd 2) (fOpd 0))) (fT (f2 oGt (fIdx (fOpd 0) (fOpd 2)) (fOpd 1)))) (sRet (fCon (.bool false))) fNext))
      (((List.range F.length).drop k).map fun i : Nat => .int (i : Int)) [.va (encL F), x, y] = some (.nx [.va (encL F), x', y']) := by
    intro j
    induction j with
    | zero =>
      intro k x y hk
      refine ⟨x, y, ?_⟩
      rw [List.drop_eq_nil_of_le (by rw [List.length_range]; omega)]
      rfl
    | succ j ih =>
      intro k x y hk
      have hlt : k < F.length := by omega
      have hd2 : (List.range F.length).drop k = k :: (List.range F.length).drop (k + 1) := by rw [List.drop_eq_getElem_cons (by rw [List.length_range]; exact hlt), List.getElem_range]
      have fq := hF F[k] (List.getElem_mem hlt)
      have ha := run_all F[k] n (by have := fq.dep; omega) (by have := fq.dep; omega)
      have a : oIx (encL F) (.int (k : Int)) = some (enc F[k]) := by
        unfold encL
        rw [oIx_lst]
        exact atI_cast (by rw [List.getElem?_map, List.getElem?_eq_getElem hlt]; rfl)
      have c1 : oSl (some 1) none (encL (allT F[k])) = some (.list (((allT F[k]).drop 1).map enc)) := by
        unfold encL
        have := cut_from ((allT F[k]).map enc) 1 (by rw [List.length_map]; exact List.length_pos_of_mem (allT_self _))
        rw [oSl_list, List.map_drop]
        exact congrArg (fun z => some (PyData.list z)) this
      obtain ⟨x2, e2⟩ := inner k ((allT F[k]).drop 1) y fun t ht => by
        have hm := List.mem_of_mem_drop ht
        refine ⟨allT_fine fq t hm, fun hF' => ?_⟩
        have := oF k F[k] (List.getElem?_eq_getElem hlt) t hm (pF t hF')
        obtain ⟨i, hi, e⟩ := List.mem_iff_getElem.mp this
        have hi2 : i < k + 1 ∧ i < F.length := by rw [List.length_take] at hi; omega
        have : F[i]? = some t := by rw [List.getElem?_eq_getElem hi2.2, ← e, List.getElem_take]
        rw [idxT_nodup nF this]
        omega
      obtain ⟨x', y', e⟩ := ih (k + 1) (.va (.int k)) x2 (by omega)
      refine ⟨x', y', ?_⟩
      rw [hd2, ← e]
      have hw : wLst (fSl (fCall (Phi n .l_all) (fCons (f2 oIx (fOpd 0) (fOpd 1)) fNil)) (fiSm (fCon (.int 1))) fiNo) [.va (encL F), .va (.int k), y] = some (.ok (((allT F[k]).drop 1).map enc)) := by
        unfold wLst
        simp only [fSl, fCall, fCons, f2, fOpd, fNil, fiSm, fiNo, fCon, List.getElem?_cons_zero, List.getElem?_cons_succ, bR_ok, bL_ok, bLL_ok, bA_ok, oR_some, a, ha, c1]
      simp only [List.map_cons, forF, gfN, List.set_cons_zero, List.set_cons_succ, sFor, hw, e2]
  obtain ⟨x', y', e⟩ := outer F.length 0 .no .no (by omega)
  have rg : rgOk 0 (F.length : Int) = true := by
    unfold rgOk
    simp only [Bool.and_eq_true, decide_eq_true_eq]
    omega
  have rd : rgD 0 (F.length : Int) = (List.range F.length).map fun i => .int ((i : Nat) : Int) := by have := rg_nat 0 F.length; simpa using this
  rw [phi_l_inner_first]
  refine runF_rt rfl ?_
  unfold f_l_inner_first
  rw [fSeq_nx (γ1 := [.va (encL F), x', y']) ?_]
  · rfl
  · have hw : wRg1 (fCons (fB oLen (fCons (fOpd 0) fNil)) fNil) (entry 3 [encL F]) = some (.ok ((List.range F.length).map fun i : Nat => .int (i : Int))) := by
      rw [show entry 3 [encL F] = [.va (encL F), .no, .no] from rfl]
      unfold encL
      simp only [wRg1, fCons, fB, fOpd, fNil, List.getElem?_cons_zero, bL_ok, bLL_ok, bA_ok, oLen_list, List.length_map, oR_some, rg, rd, if_pos]
    simp only [List.drop_zero] at e
    unfold sFor
    rw [hw]
    exact e
end K03

namespace K03
open PySem PySem.Spec PyProof.Rows L2 Py
/-! ### the marks, as the law gathers them -/
def stepM (l : List Str) : Sta → List Str
  | .mark m => if m ∈ l then l else l ++ [m]
  | _ => l
def lmarksT (s : Sta) : List Str := sortT ((allT s).foldl stepM [""])
theorem mem_foldM : ∀ {xs : List Sta} {l : List Str} {y : Str}, y ∈ xs.foldl stepM l ↔ y ∈ l ∨ Sta.mark y ∈ xs
  | [], l, y => by simp
  | x :: xs, l, y => by
    rw [List.foldl_cons, mem_foldM, List.mem_cons]
    cases x with
    | mark m =>
      have e1 : stepM l (.mark m) = if m ∈ l then l else l ++ [m] := rfl
      rw [e1]
      by_cases h : m ∈ l
      · rw [if_pos h]
        constructor
        · rintro (a | a)
          · exact .inl a
          · exact .inr (.inr a)
        · rintro (a | a | a)
          · exact .inl a
          · cases a; exact .inl h
          · exact .inr a
      · rw [if_neg h, List.mem_append, List.mem_singleton]
        constructor
        · rintro ((a | a) | a)
          · exact .inl a
          · subst a; exact .inr (.inl rfl)
          · exact .inr (.inr a)
        · rintro (a | a | a)
          · exact .inl (.inl a)
          · cases a; exact .inl (.inr rfl)
          · exact .inr a
    | _ => simp [stepM]
theorem nodup_foldM : ∀ {xs : List Sta} {l : List Str}, l.Nodup → (xs.foldl stepM l).Nodup
  | [], _, h => h
  | x :: xs, l, h => by
    rw [List.foldl_cons]
    refine nodup_foldM ?_
    cases x with
    | mark m =>
      have e1 : stepM l (.mark m) = if m ∈ l then l else l ++ [m] := rfl
      rw [e1]
      by_cases hm : m ∈ l
      · rw [if_pos hm]; exact h
      · rw [if_neg hm]
        exact List.nodup_append.mpr ⟨h, by simp, fun a ha b hb e => hm (by simp at hb; rw [← hb, ← e]; exact ha)⟩
    | _ => exact h
theorem mem_marks_all : ∀ {s : Sta} {y : Str}, y ∈ marksT s ↔ y = "" ∨ Sta.mark y ∈ allT s := by
  intro s
  induction s with
  | mark m => intro y; simp [marksT, allT]
  | yes => intro y; simp [marksT, allT]
  | nt s ih => intro y; simp [marksT, allT, mem_upT, ih]
  | nx s ih => intro y; simp [marksT, allT, mem_upT, ih]
  | wi k s ih => intro y; simp [marksT, allT, mem_upT, ih]
  | bf s ih => intro y; simp [marksT, allT, mem_upT, ih]
  | an s t ih ih' =>
    intro y
    simp only [marksT, allT, mem_upT, ih, ih', List.mem_singleton, List.mem_cons, List.mem_append, reduceCtorEq, false_or, List.not_mem_nil, or_false]
    constructor
    · rintro ((a | a | a) | a | a)
      · exact .inl a
      · exact .inl a
      · exact .inr (.inl a)
      · exact .inl a
      · exact .inr (.inr a)
    · rintro (a | a | a)
      · exact .inl (.inl a)
      · exact .inl (.inr (.inr a))
      · exact .inr (.inr a)
  | or s t ih ih' =>
    intro y
    simp only [marksT, allT, mem_upT, ih, ih', List.mem_singleton, List.mem_cons, List.mem_append, reduceCtorEq, false_or, List.not_mem_nil, or_false]
    constructor
    · rintro ((a | a | a) | a | a)
      · exact .inl a
      · exact .inl a
      · exact .inr (.inl a)
      · exact .inl a
      · exact .inr (.inr a)
    · rintro (a | a | a)
      · exact .inl (.inl a)
      · exact .inl (.inr (.inr a))
      · exact .inr (.inr a)
  | un s t ih ih' =>
    intro y
    simp only [marksT, allT, mem_upT, ih, ih', List.mem_singleton, List.mem_cons, List.mem_append, reduceCtorEq, false_or, List.not_mem_nil, or_false]
    constructor
    · rintro ((a | a | a) | a | a)
      · exact .inl a
      · exact .inl a
      · exact .inr (.inl a)
      · exact .inl a
      · exact .inr (.inr a)
    · rintro (a | a | a)
      · exact .inl (.inl a)
      · exact .inl (.inr (.inr a))
      · exact .inr (.inr a)
  | si s t ih ih' =>
    intro y
    simp only [marksT, allT, mem_upT, ih, ih', List.mem_singleton, List.mem_cons, List.mem_append, reduceCtorEq, false_or, List.not_mem_nil, or_false]
    constructor
    · rintro ((a | a | a) | a | a)
      · exact .inl a
      · exact .inl a
      · exact .inr (.inl a)
      · exact .inl a
      · exact .inr (.inr a)
    · rintro (a | a | a)
      · exact .inl (.inl a)
      · exact .inl (.inr (.inr a))
      · exact .inr (.inr a)
theorem empty_le (m : Str) : leB "" m = true := by
  rw [leB_iff]
  exact List.nil_le _
theorem marksT_eq {s : Sta} (hne : ∀ m, Sta.mark m ∈ allT s → m ≠ "") : lmarksT s = marksT s := by
  have nl : ((allT s).foldl stepM [""]).Nodup := nodup_foldM (by simp)
  have key : (marksT s).Nodup → (marksT s).Pairwise (fun a b => leB a b = true) → lmarksT s = marksT s := fun h1 h2 => by
    refine (sortT_uniq ?_ h2).symm
    refine (List.perm_ext_iff_of_nodup h1 nl).mpr fun y => ?_
    rw [mem_marks_all, mem_foldM]
    simp
  cases s with
  | mark m => exact key (by simp [marksT]; exact (hne m (by simp [allT])).symm) (by simp [marksT]; exact empty_le m)
  | yes => exact key (by simp [marksT]) (by simp [marksT])
  | _ => exact key (nodup_upT _ _) (sortT_pair _)
end K03

namespace K03
open PySem PySem.Spec PyProof.Rows L2 Py
theorem str_shaped {m : Str} (h : okM m) : SeqAt.shaped (.str m) = true := by
  show ((PyData.str m).canLay0 && decide ((PyData.str m).depth ≤ 64)) = true
  have h' : PyData.strOk m = true := h
  simp [PyData.canLay0, PyData.depth, h']
theorem lstrs_shaped {l : List Str} (h : ∀ s ∈ l, okM s) : SeqAt.shaped (.list (l.map .str)) = true := by
  have h1 : PyData.canLayAll0 (l.map PyData.str) = true := by
    induction l with
    | nil => simp [PyData.canLayAll0]
    | cons b r ih => simp [PyData.canLayAll0, PyData.canLay0, ih fun s hs => h s (List.mem_cons_of_mem _ hs)]; exact h b List.mem_cons_self
  have h2 : PyData.depthAll (l.map PyData.str) = 0 := by
    clear h h1
    induction l with
    | nil => simp [PyData.depthAll]
    | cons b r ih => simp [PyData.depthAll, PyData.depth, ih]
  show ((PyData.list (l.map .str)).canLay0 && decide ((PyData.list (l.map .str)).depth ≤ 64)) = true
  simp [PyData.canLay0, PyData.depth, h1, h2]
theorem in_strs {l : List Str} {m : Str} (hl : ∀ s ∈ l, okM s) (hm : okM m) : oIn true (.str m) (.list (l.map .str)) = some (.bool (!decide (m ∈ l))) := by
  have e : ((l.map PyData.str).any fun z => PyData.eqv z (.str m)) = decide (m ∈ l) := by
    clear hl
    induction l with
    | nil => simp
    | cons b r ih =>
      rw [List.map_cons, List.any_cons, ih]
      have : PyData.eqv (.str b) (.str m) = decide (m = b) := by
        simp [PyData.eqv]
        by_cases h : b = m
        · subst h; simp
        · have h' : ¬ m = b := fun z => h z.symm
          simp [h, h']
      rw [this]
      simp [List.mem_cons]
  show (if SeqAt.shaped (.str m) = true ∧ SeqAt.shaped (.list (l.map PyData.str)) = true then some (PyData.bool (if true = true then !((l.map PyData.str).any fun z => PyData.eqv z (.str m)) else (l.map PyData.str).any fun z => PyData.eqv z (.str m))) else none) = _
  rw [if_pos ⟨str_shaped hm, lstrs_shaped hl⟩, e]
  simp
theorem run_lmarks {d : Nat} (hd : d ≤ 18) {s : Sta} (fs : Fine d okM s) (h0 : okM "") (hz : ((allT s).foldl stepM [""]).length < 64) {n : Nat} (hn : d + 1 ≤ n) : Phi n .l_marks [enc s] = some (.ok (.list ((lmarksT s).map .str))) := by
  obtain ⟨n, rfl⟩ : ∃ k, n = k + 1 := ⟨n - 1, by omega⟩
  have ha := run_all s n (by have := fs.dep; omega) (by have := fs.dep; omega)
  have key : ∀ (l : List Sta) (found : List Str) (P x : Sl), (∀ t ∈ found, okM t) → (∀ t ∈ l, Fine d okM t) → found.length + l.length ≤ big →
      ∃ x', forF (gfN 2) (sIf (gAnd (fT (f2 oEq (f2 oIx (fOpd 2) (fCon (.int 0))) (fCon (.str "mark")))) (fT (f2 (oIn true) (f2 oIx (fOpd 2) (fCon (.int 1))) (fOpd 1)))) (sApp 1 (f2 oIx (fOpd 2) (fCon (.int 1)))) fNext) (l.map enc) [P, .ow (found.map .str), x]
        = some (.nx [P, .ow ((l.foldl stepM found).map .str), x']) := by
    intro l
    induction l with
    | nil => intro found P x _ _ _; exact ⟨x, rfl⟩
    | cons o l ih =>
      intro found P x hf hl hz
      have fo := hl o List.mem_cons_self
      simp only [List.length_cons] at hz
      have hfb : found.length ≤ big := by omega
      rw [List.foldl_cons]
      by_cases hm : ∃ m, o = .mark m
      · obtain ⟨m, rfl⟩ := hm
        have okm : okM m := fo.mks
        have i := in_strs hf okm
        have e1 : stepM found (.mark m) = if m ∈ found then found else found ++ [m] := rfl
        by_cases h : m ∈ found
        · obtain ⟨x', e⟩ := ih found P (.va (enc (.mark m))) hf (fun t ht => hl t (List.mem_cons_of_mem _ ht)) (by omega)
          refine ⟨x', ?_⟩
          rw [e1, if_pos h, ← e]
          simp [fOwn, fSeq, fNext, sRet, sRetN, sIf, sSet, sSetO, sAsg, sApp, sFor, forF, fVar, fOpd, fCon, f2, f1, fNil, fCons, bR, bL, bA, bLL, oR, fT, gAnd, gOr, gNot, gYes, fAnd, fOr, fNot, fIte, fTup, fLst, fCall, fCallO, fB, fM1, fSl, fiNo, fiSm, fLc, wLst, wTup, wStr, wRg1, wRg2, wZip, wEnum, gfN, gfTup, gsNil, gsCons, fLrg, fLrg3, wipeG, xSeq, xSet, xOf, xCall, xIf, xRet, xNext, xTup, xCons, xNil, xPut, xCallP, sRetX, sSetX, List.getElem?_cons_zero, List.getElem?_cons_succ, List.set_cons_zero, List.set_cons_succ, enc, i, h]
        · obtain ⟨x', e⟩ := ih (found ++ [m]) P (.va (enc (.mark m))) (fun t ht => by
            rcases List.mem_append.mp ht with q | q
            · exact hf t q
            · simp at q; subst q; exact okm) (fun t ht => hl t (List.mem_cons_of_mem _ ht)) (by simp; omega)
          refine ⟨x', ?_⟩
          rw [e1, if_neg h, ← e]
          simp [fOwn, fSeq, fNext, sRet, sRetN, sIf, sSet, sSetO, sAsg, sApp, sFor, forF, fVar, fOpd, fCon, f2, f1, fNil, fCons, bR, bL, bA, bLL, oR, fT, gAnd, gOr, gNot, gYes, fAnd, fOr, fNot, fIte, fTup, fLst, fCall, fCallO, fB, fM1, fSl, fiNo, fiSm, fLc, wLst, wTup, wStr, wRg1, wRg2, wZip, wEnum, gfN, gfTup, gsNil, gsCons, fLrg, fLrg3, wipeG, xSeq, xSet, xOf, xCall, xIf, xRet, xNext, xTup, xCons, xNil, xPut, xCallP, sRetX, sSetX, List.getElem?_cons_zero, List.getElem?_cons_succ, List.set_cons_zero, List.set_cons_succ, enc, i, h, hfb]
      · have e1 : stepM found o = found := by
          cases o with
          | mark m => exact absurd ⟨m, rfl⟩ hm
          | _ => rfl
        have hw : (word o == ("mark" : Str)) = false := beq_eq_false_iff_ne.mpr (ne_mark hm)
        have i0 := ix0 o
        obtain ⟨x', e⟩ := ih found P (.va (enc o)) hf (fun t ht => hl t (List.mem_cons_of_mem _ ht)) (by omega)
        refine ⟨x', ?_⟩
        rw [e1, ← e]
        simp [fOwn, fSeq, fNext, sRet, sRetN, sIf, sSet, sSetO, sAsg, sApp, sFor, forF, fVar, fOpd, fCon, f2, f1, fNil, fCons, bR, bL, bA, bLL, oR, fT, gAnd, gOr, gNot, gYes, fAnd, fOr, fNot, fIte, fTup, fLst, fCall, fCallO, fB, fM1, fSl, fiNo, fiSm, fLc, wLst, wTup, wStr, wRg1, wRg2, wZip, wEnum, gfN, gfTup, gsNil, gsCons, fLrg, fLrg3, wipeG, xSeq, xSet, xOf, xCall, xIf, xRet, xNext, xTup, xCons, xNil, xPut, xCallP, sRetX, sSetX, List.getElem?_cons_zero, List.getElem?_cons_succ, List.set_cons_zero, List.set_cons_succ, i0, hw]
  have la := allT_len s
  have l18 : 2 ^ s.depth ≤ 2 ^ 18 := Nat.pow_le_pow_right (by omega) (by have := fs.dep; omega)
  obtain ⟨x', e⟩ := key (allT s) [""] (.va (enc s)) .no (by intro t ht; simp at ht; subst ht; exact h0) (allT_fine fs) (by unfold big; simp; omega)
  have so : oSorted [.list (((allT s).foldl stepM [""]).map .str)] = some (.list ((lmarksT s).map .str)) := by
    unfold oSorted
    simp only [strsOf_map]
    rw [if_pos hz]
    rfl
  rw [phi_l_marks]
  refine runF_rt rfl ?_
  unfold f_l_marks
  rw [fSeq_nx (γ1 := [.va (enc s), .ow [.str ""], .no]) (by simp [entry, fOwn, fSeq, fNext, sRet, sRetN, sIf, sSet, sSetO, sAsg, sApp, sFor, forF, fVar, fOpd, fCon, f2, f1, fNil, fCons, bR, bL, bA, bLL, oR, fT, gAnd, gOr, gNot, gYes, fAnd, fOr, fNot, fIte, fTup, fLst, fCall, fCallO, fB, fM1, fSl, fiNo, fiSm, fLc, wLst, wTup, wStr, wRg1, wRg2, wZip, wEnum, gfN, gfTup, gsNil, gsCons, fLrg, fLrg3, wipeG, xSeq, xSet, xOf, xCall, xIf, xRet, xNext, xTup, xCons, xNil, xPut, xCallP, sRetX, sSetX, List.getElem?_cons_zero, List.getElem?_cons_succ, List.set_cons_zero, List.set_cons_succ, List.replicate])]
  rw [fSeq_nx (γ1 := [.va (enc s), .ow (((allT s).foldl stepM [""]).map .str), x']) ?_]
  · simp [fOwn, fSeq, fNext, sRet, sRetN, sIf, sSet, sSetO, sAsg, sApp, sFor, forF, fVar, fOpd, fCon, f2, f1, fNil, fCons, bR, bL, bA, bLL, oR, fT, gAnd, gOr, gNot, gYes, fAnd, fOr, fNot, fIte, fTup, fLst, fCall, fCallO, fB, fM1, fSl, fiNo, fiSm, fLc, wLst, wTup, wStr, wRg1, wRg2, wZip, wEnum, gfN, gfTup, gsNil, gsCons, fLrg, fLrg3, wipeG, xSeq, xSet, xOf, xCall, xIf, xRet, xNext, xTup, xCons, xNil, xPut, xCallP, sRetX, sSetX, List.getElem?_cons_zero, List.getElem?_cons_succ, List.set_cons_zero, List.set_cons_succ, so]
  · simp only [encL, List.map_cons, List.map_nil] at ha e
    have hw : wLst (fCall (Phi n .l_all) (fCons (fVar 0) fNil)) [.va (enc s), .ow [.str ""], .no] = some (.ok ((allT s).map enc)) := by
      unfold wLst
      simp only [fCall, fCons, fVar, fNil, List.getElem?_cons_zero, bL_ok, bLL_ok, bA_ok, ha]
    unfold sFor
    rw [hw]
    exact e
end K03

namespace K03
open PySem PySem.Spec PyProof.Rows L2 Py
/-! ### the names, none empty -/
theorem join_one (a b : Str) (r : List Str) : a.length ≤ (Txt.join "" (a :: b :: r)).length := by
  rw [TL.join_eq]
  have e : Str.join "" (a :: b :: r) = a ++ "" ++ Str.join "" (b :: r) := rfl
  rw [e, Str.length_append, Str.length_append]
  omega
theorem cut_one {z : Str} {i : Int} (hz : 1 ≤ z.length) (hi : 1 ≤ i) : 1 ≤ (cutS z none (some i)).length := by
  obtain ⟨j, rfl⟩ : ∃ j : Nat, i = j := ⟨i.toNat, by omega⟩
  unfold cutS
  rw [HT.sIx_nat, HT.sIx_none, List.drop_zero, Nat.sub_zero]
  show 1 ≤ (List.toArray _).size
  rw [List.size_toArray, List.length_take, Array.length_toList]
  have : z.length = z.cps.size := rfl
  omega
theorem mid_one (a b : Str) (x : Int) : 1 ≤ (a ++ letS x ++ b).length := by
  rw [Str.length_append, Str.length_append]
  have : (letS x).length = 1 := rfl
  omega
theorem run_names2 (n : Nat) (c : Int) : ∃ a b d : Str, Low 13 a ∧ Low 13 b ∧ Low 13 d ∧ (1 ≤ a.length ∧ 1 ≤ b.length ∧ 1 ≤ d.length) ∧ Phi (n + 1) .l_names [.int c] = some (.ok (.list [.str a, .str b, .str d])) := by
  rw [phi_l_names]
  have hl : ∀ s ∈ [letS (c / 7), letS (c / 7 + 5), letS (c / 7 + 10), letS (c / 7 + 15), letS (c / 7 + 20), letS (c / 7 + 25)], Low 1 s := by
    intro s hs
    simp only [List.mem_cons, List.not_mem_nil, or_false] at hs
    rcases hs with rfl | rfl | rfl | rfl | rfl | rfl <;> exact letS_low _
  have hj := oJoin_six hl
  have hr := join_low _ hl
  generalize hz : Txt.join "" [letS (c / 7), letS (c / 7 + 5), letS (c / 7 + 10), letS (c / 7 + 15), letS (c / 7 + 20), letS (c / 7 + 25)] = z at hj hr
  have hr : Low 6 z := hr
  have hz1 : 1 ≤ z.length := by rw [← hz]; exact Nat.le_trans (show 1 ≤ (letS (c / 7)).length from Nat.le_refl 1) (join_one _ _ _)
  have hb : z.length ≤ big := Nat.le_trans hr.len (by decide)
  have sl := fun lo hi => oSl_str hb lo hi
  have hrest : lcF (gfN 8) gYes (f2 oIx (fOpd 1) (f2 oMod (f2 oAdd (f2 oDiv (fOpd 0) (fCon (.int 7))) (f2 oMul (fCon (.int 5)) (fOpd 8))) (fCon (.int 26)))) [.va (.int c), .va (.str "abcdefghijklmnopqrstuvwxyz"), .no, .no, .no, .no, .no, .no, .no] [.int 0, .int 1, .int 2, .int 3, .int 4, .int 5]
      = some [.str (letS (c / 7)), .str (letS (c / 7 + 5)), .str (letS (c / 7 + 10)), .str (letS (c / 7 + 15)), .str (letS (c / 7 + 20)), .str (letS (c / 7 + 25))] := by
    simp [lcF, fOwn, fSeq, fNext, sRet, sRetN, sIf, sSet, sSetO, sAsg, sApp, sFor, forF, fVar, fOpd, fCon, f2, f1, fNil, fCons, bR, bL, bA, bLL, oR, fT, gAnd, gOr, gNot, gYes, fAnd, fOr, fNot, fIte, fTup, fLst, fCall, fCallO, fB, fM1, fSl, fiNo, fiSm, fLc, wLst, wTup, wStr, wRg1, wRg2, wZip, wEnum, gfN, gfTup, gsNil, gsCons, fLrg, fLrg3, wipeG, xSeq, xSet, xOf, xCall, xIf, xRet, xNext, xTup, xCons, xNil, xPut, xCallP, sRetX, sSetX, List.getElem?_cons_zero, List.getElem?_cons_succ, List.set_cons_zero, List.set_cons_succ, mul5, ix_letter]
  by_cases h2 : c % 3 = 2
  · refine ⟨cutS z none (some (1 + c / 3 % 4 + 0)), cutS z none (some (1 + c / 3 % 4 + 1)), cutS z none (some (1 + c / 3 % 4 + 2)), ?_, ?_, ?_, ?_, ?_⟩
    · exact ⟨(hr.cut _ _).let_, Nat.le_trans (hr.cut _ _).len (by decide)⟩
    · exact ⟨(hr.cut _ _).let_, Nat.le_trans (hr.cut _ _).len (by decide)⟩
    · exact ⟨(hr.cut _ _).let_, Nat.le_trans (hr.cut _ _).len (by decide)⟩
    · have h4 := Int.emod_nonneg (c / 3) (show (4 : Int) ≠ 0 by decide)
      exact ⟨cut_one hz1 (by omega), cut_one hz1 (by omega), cut_one hz1 (by omega)⟩
    have hsl : lcF (gfN 6) gYes (fSl (fOpd 2) fiNo (fiSm (f2 oAdd (fOpd 3) (fOpd 6)))) [.va (.int c), .va (.str "abcdefghijklmnopqrstuvwxyz"), .va (.str z), .va (.int (1 + c / 3 % 4)), .no, .no, .no, .no, .no] [.int 0, .int 1, .int 2]
        = some [.str (cutS z none (some (1 + c / 3 % 4 + 0))), .str (cutS z none (some (1 + c / 3 % 4 + 1))), .str (cutS z none (some (1 + c / 3 % 4 + 2)))] := by
      simp [lcF, fOwn, fSeq, fNext, sRet, sRetN, sIf, sSet, sSetO, sAsg, sApp, sFor, forF, fVar, fOpd, fCon, f2, f1, fNil, fCons, bR, bL, bA, bLL, oR, fT, gAnd, gOr, gNot, gYes, fAnd, fOr, fNot, fIte, fTup, fLst, fCall, fCallO, fB, fM1, fSl, fiNo, fiSm, fLc, wLst, wTup, wStr, wRg1, wRg2, wZip, wEnum, gfN, gfTup, gsNil, gsCons, fLrg, fLrg3, wipeG, xSeq, xSet, xOf, xCall, xIf, xRet, xNext, xTup, xCons, xNil, xPut, xCallP, sRetX, sSetX, List.getElem?_cons_zero, List.getElem?_cons_succ, List.set_cons_zero, List.set_cons_succ, sl]
    unfold runF f_l_names
    simp [entry, fOwn, fSeq, fNext, sRet, sRetN, sIf, sSet, sSetO, sAsg, sApp, sFor, forF, fVar, fOpd, fCon, f2, f1, fNil, fCons, bR, bL, bA, bLL, oR, fT, gAnd, gOr, gNot, gYes, fAnd, fOr, fNot, fIte, fTup, fLst, fCall, fCallO, fB, fM1, fSl, fiNo, fiSm, fLc, wLst, wTup, wStr, wRg1, wRg2, wZip, wEnum, gfN, gfTup, gsNil, gsCons, fLrg, fLrg3, wipeG, xSeq, xSet, xOf, xCall, xIf, xRet, xNext, xTup, xCons, xNil, xPut, xCallP, sRetX, sSetX, List.getElem?_cons_zero, List.getElem?_cons_succ, List.set_cons_zero, List.set_cons_succ, rg6, rg3, rgo6, rgo3, hrest, hj, h2, List.replicate, hsl]
  · have hs := Int.emod_nonneg (c / 3) (show (6 : Int) ≠ 0 by decide)
    have c2 : (c % 3 == 2) = false := beq_eq_false_iff_ne.mpr h2
    have w1 : ∀ x : Int, (cutS z none (some (c / 18 % (c / 3 % 6 + 1)))).length + (letS x).length ≤ big := fun x => by
      have h1 := (hr.cut none (some (c / 18 % (c / 3 % 6 + 1)))).len
      have h2 := (letS_low x).len
      unfold big; omega
    have w2 : ∀ x : Int, (cutS z none (some (c / 18 % (c / 3 % 6 + 1))) ++ letS x).length + (cutS z (some (c / 18 % (c / 3 % 6 + 1))) (some (c / 3 % 6))).length ≤ big := fun x => by
      have h1 := ((hr.cut none (some (c / 18 % (c / 3 % 6 + 1)))).app (letS_low x)).len
      have h2 := (hr.cut (some (c / 18 % (c / 3 % 6 + 1))) (some (c / 3 % 6))).len
      unfold big; omega
    have low : ∀ x : Int, Low 13 (cutS z none (some (c / 18 % (c / 3 % 6 + 1))) ++ letS x ++ cutS z (some (c / 18 % (c / 3 % 6 + 1))) (some (c / 3 % 6))) := fun x =>
      ((hr.cut none (some (c / 18 % (c / 3 % 6 + 1)))).app (letS_low x)).app (hr.cut (some (c / 18 % (c / 3 % 6 + 1))) (some (c / 3 % 6)))
    refine ⟨_, _, _, low (c / 90 + 7 * 0), low (c / 90 + 7 * 1), low (c / 90 + 7 * 2), ⟨mid_one _ _ _, mid_one _ _ _, mid_one _ _ _⟩, ?_⟩
    have pos : (0 : Int) < c / 3 % 6 + 1 := by omega
    unfold runF f_l_names
    simp [entry, fOwn, fSeq, fNext, sRet, sRetN, sIf, sSet, sSetO, sAsg, sApp, sFor, forF, fVar, fOpd, fCon, f2, f1, fNil, fCons, bR, bL, bA, bLL, oR, fT, gAnd, gOr, gNot, gYes, fAnd, fOr, fNot, fIte, fTup, fLst, fCall, fCallO, fB, fM1, fSl, fiNo, fiSm, fLc, wLst, wTup, wStr, wRg1, wRg2, wZip, wEnum, gfN, gfTup, gsNil, gsCons, fLrg, fLrg3, wipeG, xSeq, xSet, xOf, xCall, xIf, xRet, xNext, xTup, xCons, xNil, xPut, xCallP, sRetX, sSetX, List.getElem?_cons_zero, List.getElem?_cons_succ, List.set_cons_zero, List.set_cons_succ, rg6, rg3, rgo6, rgo3, hrest, hj, c2, List.replicate, sl, ix_letter, mul7, oAdd_str (w1 _), oAdd_str (w2 _), oMod_int _ _ pos]
end K03

namespace K03
open PySem PySem.Spec PyProof.Rows L2 Py
/-! ### data alike -/
structure OkD (n : Nat) (d : D) : Prop where
  lay : d.canLay0 = true
  dep : d.depth ≤ n
  self : PyData.eqv d d = true
theorem okD_alls {n : Nat} : ∀ {l : List D}, (∀ x ∈ l, OkD n x) → PyData.canLayAll0 l = true ∧ PyData.depthAll l ≤ n ∧ PyData.eqvAll l l = true
  | [], _ => by simp [PyData.canLayAll0, PyData.depthAll, PyData.eqvAll]
  | x :: l, h => by
    obtain ⟨h1, h2, h3⟩ := okD_alls (l := l) fun y hy => h y (List.mem_cons_of_mem _ hy)
    have hx := h x List.mem_cons_self
    have h4 := hx.dep
    simp only [PyData.canLayAll0, PyData.depthAll, PyData.eqvAll, hx.lay, hx.self, h1, h3, Bool.and_self, and_true, true_and]
    omega
theorem okD_list {n : Nat} {l : List D} (h : ∀ x ∈ l, OkD n x) : OkD (n + 1) (.list l) := by
  obtain ⟨h1, h2, h3⟩ := okD_alls h
  exact ⟨by simp only [PyData.canLay0]; exact h1, by simp only [PyData.depth]; omega, by simp only [PyData.eqv]; exact h3⟩
theorem okD_enc {d : Nat} {s : Sta} (f : Fine d okM s) : OkD d (enc s) := ⟨enc_lay f.mks, Nat.le_trans (enc_depth s) f.dep, by rw [enc_eqv]; simp⟩
theorem okD_str {n : Nat} {m : Str} (h : okM m) : OkD n (.str m) := ⟨by simp only [PyData.canLay0]; exact h, by simp [PyData.depth], by simp [PyData.eqv]⟩
theorem OkD.mono {n m : Nat} {d : D} (h : OkD n d) (e : n ≤ m) : OkD m d := ⟨h.lay, Nat.le_trans h.dep e, h.self⟩
theorem OkD.shaped {n : Nat} {d : D} (h : OkD n d) (e : n ≤ 64) : SeqAt.shaped d = true := by
  show (d.canLay0 && decide (d.depth ≤ 64)) = true
  have := h.dep
  rw [h.lay, Bool.true_and]
  exact decide_eq_true (by omega)
theorem OkD.eq {n : Nat} {d : D} (h : OkD n d) (e : n ≤ 64) : oEq d d = some (.bool true) := by
  unfold oEq
  rw [if_pos (.inr ⟨h.shaped e, h.shaped e⟩), h.self]
theorem OkD.ne {n : Nat} {d : D} (h : OkD n d) (e : n ≤ 64) : oNe d d = some (.bool false) := by
  unfold oNe
  rw [if_pos (.inr ⟨h.shaped e, h.shaped e⟩), h.self]
  rfl
/-! ### the statement built -/
theorem Marks.mono {p q : Str → Prop} (h : ∀ m, p m → q m) : ∀ {s : Sta}, s.Marks p → s.Marks q := by
  intro s
  induction s with
  | mark m => exact h m
  | yes => exact fun _ => trivial
  | nt s ih => exact ih
  | nx s ih => exact ih
  | wi k s ih => exact ih
  | bf s ih => exact ih
  | an s t ih ih' => exact fun a => ⟨ih a.1, ih' a.2⟩
  | or s t ih ih' => exact fun a => ⟨ih a.1, ih' a.2⟩
  | un s t ih ih' => exact fun a => ⟨ih a.1, ih' a.2⟩
  | si s t ih ih' => exact fun a => ⟨ih a.1, ih' a.2⟩
theorem Marks.at {p : Str → Prop} : ∀ {s : Sta}, s.Marks p → ∀ m, Sta.mark m ∈ allT s → p m := by
  intro s
  induction s with
  | mark m => intro h m' hm; simp [allT] at hm; subst hm; exact h
  | yes => intro _ m' hm; simp [allT] at hm
  | nt s ih => intro h m' hm; simp [allT] at hm; exact ih h m' hm
  | nx s ih => intro h m' hm; simp [allT] at hm; exact ih h m' hm
  | wi k s ih => intro h m' hm; simp [allT] at hm; exact ih h m' hm
  | bf s ih => intro h m' hm; simp [allT] at hm; exact ih h m' hm
  | an s t ih ih' => intro h m' hm; simp [allT] at hm; exact hm.elim (ih h.1 m') (ih' h.2 m')
  | or s t ih ih' => intro h m' hm; simp [allT] at hm; exact hm.elim (ih h.1 m') (ih' h.2 m')
  | un s t ih ih' => intro h m' hm; simp [allT] at hm; exact hm.elim (ih h.1 m') (ih' h.2 m')
  | si s t ih ih' => intro h m' hm; simp [allT] at hm; exact hm.elim (ih h.1 m') (ih' h.2 m')
theorem Fine.mono {d d' : Nat} {p q : Str → Prop} {s : Sta} (f : Fine d p s) (hd : d ≤ d') (h : ∀ m, p m → q m) : Fine d' q s := ⟨Nat.le_trans f.dep hd, Marks.mono h f.mks, f.ks⟩
theorem fitT_unm {most : Nat} : ∀ {s : Sta}, unm s → unm (fitT most s) := by
  intro s
  induction s with
  | mark m => intro h; exact h
  | yes => intro h; exact h
  | nt s ih => intro h; unfold fitT; split; exact h; exact ih h
  | nx s ih => intro h; unfold fitT; split; exact h; exact ih h
  | wi k s ih => intro h; unfold fitT; split; exact h; exact ih h
  | bf s ih => intro h; unfold fitT; split; exact h; exact ih (noFut_unm h)
  | an s t ih ih' => intro h; unfold fitT; split; exact h; exact ih' h.2
  | or s t ih ih' => intro h; unfold fitT; split; exact h; exact ih' h.2
  | un s t ih ih' => intro h; unfold fitT; split; exact h; exact ih' h.2
  | si s t ih ih' => intro h; unfold fitT; split; exact h; exact ih' (noFut_unm h.2)
theorem oInt1_bool (b : Bool) : oInt1 [.bool b] = some (.int (if b = true then 1 else 0)) := by cases b <;> rfl
theorem run_built {ns : List Int} {x y z : Str} {p : Str → Prop} (hp : ∀ w ∈ [x, y, z], p w) (hk : ∀ m, p m → okM m) {most : Nat} (h1 : 1 ≤ most) {n : Nat} (hn : 10 ≤ n) : ∃ s : Sta, Fine 6 p s ∧ unm s ∧ (wishesT s).length ≤ most ∧ Phi (n + 1) .l_built [nsD ns, .list [.str x, .str y, .str z], .int most] = some (.ok (enc s)) := by
  obtain ⟨n, rfl⟩ : ∃ m, n = m + 1 := ⟨n - 1, by omega⟩
  have hc : Phi (n + 1) .l_cell_at [nsD ns, .int 1] = some (.ok (.int (cellT ns 1))) := run_cell n ns 1
  have key : ∀ (b : Bool) (s : Sta) (k' : Int), Fine 6 p s → unm s → (cellT ns 1 % 8 == 5) = b → Psi (n + 1) .l_made (nsD ns) 2 [.list [.str x, .str y, .str z], .int (5 + (if b = true then 1 else 0)), .bool true] = some (enc s, k') →
      ∃ s : Sta, Fine 6 p s ∧ unm s ∧ (wishesT s).length ≤ most ∧ Phi (n + 1 + 1) .l_built [nsD ns, .list [.str x, .str y, .str z], .int most] = some (.ok (enc s)) := by
    intro b s k' hs us hb hm
    refine ⟨fitT most s, fitT_fine hs, fitT_unm us, fitT_len h1 s, ?_⟩
    have hf := run_fit (d := 6) (by omega) (n := n + 1) (by omega) h1 (hs.mono (Nat.le_refl _) hk)
    rw [phi_l_built]
    unfold runF f_l_built
    cases b <;> simp at hm <;> simp [entry, fOwn, fSeq, fNext, sRet, sRetN, sIf, sSet, sSetO, sAsg, sApp, sFor, forF, fVar, fOpd, fCon, f2, f1, fNil, fCons, bR, bL, bA, bLL, oR, fT, gAnd, gOr, gNot, gYes, fAnd, fOr, fNot, fIte, fTup, fLst, fCall, fCallO, fB, fM1, fSl, fiNo, fiSm, fLc, wLst, wTup, wStr, wRg1, wRg2, wZip, wEnum, gfN, gfTup, gsNil, gsCons, fLrg, fLrg3, wipeG, xSeq, xSet, xOf, xCall, xIf, xRet, xNext, xTup, xCons, xNil, xPut, xCallP, sRetX, sSetX, List.getElem?_cons_zero, List.getElem?_cons_succ, List.set_cons_zero, List.set_cons_succ, List.replicate, hc, hb, hm, hf, oInt1_bool]
  cases hb : (cellT ns 1 % 8 == 5) with
  | false =>
    obtain ⟨s, k', _, fs, _, us, es⟩ := run_made (ns := ns) hp 4 (n + 1) 2 true ⟨2, rfl⟩ (by omega)
    exact key false s k' ⟨by have := fs.dep; omega, fs.mks, fs.ks⟩ us hb es
  | true =>
    obtain ⟨s, k', _, fs, _, us, es⟩ := run_made (ns := ns) hp 5 (n + 1) 2 true ⟨2, rfl⟩ (by omega)
    exact key true s k' ⟨by have := fs.dep; omega, fs.mks, fs.ks⟩ us hb es
theorem unm_parts : ∀ {s : Sta}, unm s → ∀ o ∈ allT s, unm o := by
  intro s
  induction s with
  | mark m => intro h o ho; simp [allT] at ho; subst ho; exact h
  | yes => intro h o ho; simp [allT] at ho; subst ho; exact h
  | nt s ih => intro h o ho; rcases List.mem_cons.mp ho with rfl | q; exact h; exact ih h o q
  | nx s ih => intro h o ho; rcases List.mem_cons.mp ho with rfl | q; exact h; exact ih h o q
  | wi k s ih => intro h o ho; rcases List.mem_cons.mp ho with rfl | q; exact h; exact ih h o q
  | bf s ih => intro h o ho; exact noFut_unm (noFut_all (s := .bf s) h o ho)
  | an s t ih ih' => intro h o ho; rcases List.mem_cons.mp ho with rfl | q; exact h; rcases List.mem_append.mp q with q | q; exact ih h.1 o q; exact ih' h.2 o q
  | or s t ih ih' => intro h o ho; rcases List.mem_cons.mp ho with rfl | q; exact h; rcases List.mem_append.mp q with q | q; exact ih h.1 o q; exact ih' h.2 o q
  | un s t ih ih' => intro h o ho; rcases List.mem_cons.mp ho with rfl | q; exact h; rcases List.mem_append.mp q with q | q; exact ih h.1 o q; exact ih' h.2 o q
  | si s t ih ih' => intro h o ho; exact noFut_unm (noFut_all (s := .si s t) h o ho)
end K03

namespace K03
open PySem PySem.Spec PyProof.Rows L2 Py
/-! ### the law's parts -/
def toldD (F P : List Sta) (Ms : List Str) : D := .list [encL F, encL P, .list (Ms.map .str)]
def moreD (F P : List Sta) (Ms : List Str) : D := .list [.list (F.map enc ++ [.str "more"]), .list (P.map enc ++ [.str "more"]), .list (Ms.map PyData.str ++ [.str "more"])]
theorem ok_more : okM "more" := by unfold okM; decide +kernel
theorem okD_encs {d : Nat} {l : List Sta} (h : ∀ s ∈ l, Fine d okM s) : ∀ x ∈ l.map enc, OkD d x := fun x hx => by
  obtain ⟨s, hs, rfl⟩ := List.mem_map.mp hx
  exact okD_enc (h s hs)
theorem okD_strs {n : Nat} {l : List Str} (h : ∀ s ∈ l, okM s) : ∀ x ∈ l.map PyData.str, OkD n x := fun x hx => by
  obtain ⟨s, hs, rfl⟩ := List.mem_map.mp hx
  exact okD_str (h s hs)
theorem okD_snoc {n : Nat} {l : List D} (h : ∀ x ∈ l, OkD n x) : ∀ x ∈ l ++ [.str "more"], OkD n x := fun x hx => by
  rcases List.mem_append.mp hx with q | q
  · exact h x q
  · simp at q; subst q; exact okD_str ok_more
theorem okD_told {d : Nat} {F P : List Sta} {Ms : List Str} (hF : ∀ s ∈ F, Fine d okM s) (hP : ∀ s ∈ P, Fine d okM s) (hM : ∀ s ∈ Ms, okM s) : OkD (d + 2) (toldD F P Ms) := by
  refine okD_list fun x hx => ?_
  simp only [List.mem_cons, List.not_mem_nil, or_false] at hx
  rcases hx with rfl | rfl | rfl
  · exact okD_list (okD_encs hF)
  · exact okD_list (okD_encs hP)
  · exact okD_list (okD_strs hM)
theorem okD_more {d : Nat} {F P : List Sta} {Ms : List Str} (hF : ∀ s ∈ F, Fine d okM s) (hP : ∀ s ∈ P, Fine d okM s) (hM : ∀ s ∈ Ms, okM s) : OkD (d + 2) (moreD F P Ms) := by
  refine okD_list fun x hx => ?_
  simp only [List.mem_cons, List.not_mem_nil, or_false] at hx
  rcases hx with rfl | rfl | rfl
  · exact okD_list (okD_snoc (okD_encs hF))
  · exact okD_list (okD_snoc (okD_encs hP))
  · exact okD_list (okD_snoc (okD_strs hM))
theorem run_whole (i : Int) (n : Nat) : Phi (n + 1) .l_whole [.int i] = some (.ok (.bool true)) := by
  have a : oIsi "int" (.int i) = some (.bool true) := by simp [oIsi, Py.isT, tyN]
  have b : oIsi "bool" (.int i) = some (.bool false) := by simp [oIsi, Py.isT, tyN]
  rw [phi_l_whole]
  refine runF_rt rfl ?_
  unfold f_l_whole
  simp [entry, fOwn, fSeq, fNext, sRet, sRetN, sIf, sSet, sSetO, sAsg, sApp, sFor, forF, fVar, fOpd, fCon, f2, f1, fNil, fCons, bR, bL, bA, bLL, oR, fT, gAnd, gOr, gNot, gYes, fAnd, fOr, fNot, fIte, fTup, fLst, fCall, fCallO, fB, fM1, fSl, fiNo, fiSm, fLc, wLst, wTup, wStr, wRg1, wRg2, wZip, wEnum, gfN, gfTup, gsNil, gsCons, fLrg, fLrg3, wipeG, xSeq, xSet, xOf, xCall, xIf, xRet, xNext, xTup, xCons, xNil, xPut, xCallP, sRetX, sSetX, List.getElem?_cons_zero, List.getElem?_cons_succ, List.set_cons_zero, List.set_cons_succ, a, b]
theorem wts_at {n i : Nat} (h : i ≤ n) : atI (wts n) (i : Int) = some (.int (2 ^ i : Nat)) := by
  refine atI_cast ?_
  unfold wts
  rw [List.getElem?_map, List.getElem?_range (by omega)]
  rfl
theorem fldP' (W P M T : D) : oFld "pasts" (planD [W, P, M, T]) = some P := by
  unfold oFld planD
  simp only
  rw [if_pos trivial]
  rfl
theorem fldM' (W P M T : D) : oFld "marks" (planD [W, P, M, T]) = some M := by
  unfold oFld planD
  simp only
  rw [if_pos trivial]
  rfl
theorem fldW' (W P M T : D) : oFld "wishes" (planD [W, P, M, T]) = some W := by
  unfold oFld planD
  simp only
  rw [if_pos trivial]
  rfl
theorem fldT' (W P M T : D) : oFld "weights" (planD [W, P, M, T]) = some T := by
  unfold oFld planD
  simp only
  rw [if_pos trivial]
  rfl
theorem sFor_ok {w : Fa} {gf : D → Ge → Option Ge} {b : Fs} {γ : Ge} {ds : List D} (h : w γ = some (.ok ds)) : sFor w gf b γ = forF gf b ds γ := by unfold sFor; rw [h]
theorem weights_loop (n : Nat) (L : Nat) (hL : L ≤ 1000) (a b c d e f g : Sl) (W P M : D) : ∀ (j i : Nat) (x : Sl), i + j = L → ∃ x', forF (gfN 7) (sIf (gOr (gNot (fT (fCall (Phi (n + 1) .l_whole) (fCons (f2 oIx (f1 (oFld "weights") (fOpd 6)) (f2 oAdd (fOpd 7) (fCon (.int 1)))) fNil)))) (fT (f2 oNe (f2 oIx (f1 (oFld "weights") (fOpd 6)) (f2 oAdd (fOpd 7) (fCon (.int 1)))) (f2 oMul (fCon (.int 2)) (f2 oIx (f1 (oFld "weights") (fOpd 6)) (fOpd 7)))))) (sRet (fCon (.bool false))) fNext)
      (((List.range L).drop i).map fun q : Nat => .int (q : Int)) [a, b, c, d, e, f, .va (planD [W, P, M, .list (wts L)]), x] = some (.nx [a, b, c, d, e, f, .va (planD [W, P, M, .list (wts L)]), x']) := by
  intro j
  induction j with
  | zero =>
    intro i x hi
    refine ⟨x, ?_⟩
    rw [List.drop_eq_nil_of_le (by rw [List.length_range]; omega)]
    rfl
  | succ j ih =>
    intro i x hi
    have hlt : i < L := by omega
    have hd : (List.range L).drop i = i :: (List.range L).drop (i + 1) := by rw [List.drop_eq_getElem_cons (by rw [List.length_range]; exact hlt), List.getElem_range]
    obtain ⟨x', e'⟩ := ih (i + 1) (.va (.int i)) (by omega)
    have fT_ := fldT' W P M (.list (wts L))
    have a1 : oIx (.list (wts L)) (.int ((i : Int) + 1)) = some (.int (2 ^ (i + 1) : Nat)) := by
      rw [oIx_lst]
      exact wts_at (n := L) (i := i + 1) (by omega)
    have a0 : oIx (.list (wts L)) (.int (i : Int)) = some (.int (2 ^ i : Nat)) := by
      rw [oIx_lst]
      exact wts_at (n := L) (i := i) (by omega)
    have w := run_whole ((2 ^ (i + 1) : Nat) : Int) n
    have mu : oMul (.int 2) (.int ((2 ^ i : Nat) : Int)) = some (.int ((2 ^ (i + 1) : Nat) : Int)) := by rw [oMul_int _ _ (.inl ⟨by decide, by decide⟩), two_pow]
    refine ⟨x', ?_⟩
    rw [hd, ← e']
    generalize ((2 ^ (i + 1) : Nat) : Int) = v1 at a1 w mu
    generalize ((2 ^ i : Nat) : Int) = v0 at a0 mu
    generalize wts L = wl at fT_ a1 a0
    simp only [List.map_cons, forF, fOwn, fSeq, fNext, sRet, sRetN, sIf, sSet, sSetO, sAsg, sApp, sFor, forF, fVar, fOpd, fCon, f2, f1, fNil, fCons, bR, bL, bA, bLL, oR, fT, gAnd, gOr, gNot, gYes, fAnd, fOr, fNot, fIte, fTup, fLst, fCall, fCallO, fB, fM1, fSl, fiNo, fiSm, fLc, wLst, wTup, wStr, wRg1, wRg2, wZip, wEnum, gfN, gfTup, gsNil, gsCons, fLrg, fLrg3, wipeG, xSeq, xSet, xOf, xCall, xIf, xRet, xNext, xTup, xCons, xNil, xPut, xCallP, sRetX, sSetX, List.getElem?_cons_zero, List.getElem?_cons_succ, List.set_cons_zero, List.set_cons_succ, fT_, a1, a0, w, mu, bR_ok, bA_ok, bL_ok, bLL_ok, oR_some, oAdd_int, oNe_int, BEq.rfl, Bool.not_true, Bool.not_false, beq_self_eq_true]
theorem law_parts (ns : List Int) (hl : ns.length ≤ 63) : ∃ (γ1 : Ge) (nm : D) (S : Sta) (W P : List Sta) (Ms : List Str), f_law0 (Phi 60) (plT 60) (entry N_law.length [nsD ns]) = some (.nx γ1) ∧ f_law1 (Phi 60) (plT 60) γ1 = some (.nx [.va (nsD ns), .va nm, .va (enc S), .no, .no, .no, .no, .no]) ∧
    f_lawW (Phi 60) (plT 60) [.va (nsD ns), .va nm, .va (enc S), .no, .no, .no, .no, .no] = some (.ok (.list (W.map enc))) ∧ f_lawP (Phi 60) (plT 60) [.va (nsD ns), .va nm, .va (enc S), .no, .no, .no, .no, .no] = some (.ok (.list (P.map enc))) ∧
    f_lawM (Phi 60) (plT 60) [.va (nsD ns), .va nm, .va (enc S), .no, .no, .no, .no, .no] = some (.ok (.list (Ms.map .str))) ∧
    f_law3 (Phi 60) (plT 60) [.va (nsD ns), .va nm, .va (enc S), .va (.list [.list (W.map enc), .list (P.map enc), .list (Ms.map .str)]), .no, .no, .no, .no] = some (.ok false) ∧
    f_law4 (Phi 60) (plT 60) [.va (nsD ns), .va nm, .va (enc S), .va (.list [.list (W.map enc), .list (P.map enc), .list (Ms.map .str)]), .no, .no, .no, .no] = some (.ok false) ∧
    f_law5 (Phi 60) (plT 60) [.va (nsD ns), .va nm, .va (enc S), .va (.list [.list (W.map enc), .list (P.map enc), .list (Ms.map .str)]), .no, .no, .no, .no] = some (.ok false) ∧
    W.length ≤ big ∧ P.length ≤ big ∧ Ms.length ≤ big ∧
    f_lawz (Phi 60) (plT 60) [.no, .no, .va (enc S), .va (.list [.list (W.map enc ++ [.str "more"]), .list (P.map enc ++ [.str "more"]), .list (Ms.map PyData.str ++ [.str "more"])]), .va (.list [.list (W.map enc), .list (P.map enc), .list (Ms.map .str)]), .no, .no, .no] = some (.rt (.bool true)) := by
  obtain ⟨x, y, z, hx, hy, hz, ⟨nx_, ny_, nz_⟩, en⟩ := run_names2 59 (cellT ns 0)
  have en : Phi 60 .l_names [.int (cellT ns 0)] = some (.ok (.list [.str x, .str y, .str z])) := en
  have c0 : Phi 60 .l_cell_at [.list (ns.map .int), .int 0] = some (.ok (.int (cellT ns 0))) := run_cell 59 ns 0
  have hV : ∀ m, m ∈ [x, y, z] → okM m := by
    intro w hw
    simp only [List.mem_cons, List.not_mem_nil, or_false] at hw
    rcases hw with rfl | rfl | rfl
    · exact hx.ok
    · exact hy.ok
    · exact hz.ok
  have hN : ∀ m, m ∈ [x, y, z] → m ≠ "" := by
    intro w hw e
    have e0 : w.length = 0 := by rw [e]; rfl
    simp only [List.mem_cons, List.not_mem_nil, or_false] at hw
    rcases hw with rfl | rfl | rfl <;> omega
  obtain ⟨S, fS', uS, few, eb⟩ := run_built (ns := ns) (p := fun m => m ∈ [x, y, z]) (fun w hw => hw) hV (most := 6) (by omega) (n := 59) (by omega)
  have eb : Phi 60 .l_built [.list (ns.map .int), .list [.str x, .str y, .str z], .int 6] = some (.ok (enc S)) := eb
  have fS : Fine 7 okM S := fS'.mono (by omega) hV
  have mS : S.Marks (· ∈ [("" : Str), x, y, z]) := Marks.mono (fun m hm => List.mem_cons_of_mem _ hm) fS'.mks
  have cU : ∀ w ∈ wishesT S, ∀ o ∈ wishedT w, o ∈ wishesT S := fun w hw o ho => wishesT_closed hw ho
  have fU : ∀ w ∈ wishesT S, Fine 7 okM w := fun w hw => wishesT_fine fS w hw
  obtain ⟨F, g, e⟩ := run_wishes_in (d := 7) (n := 60) (by omega) (by omega) fU cU (by omega) (mem_wishesT.mpr (.inl rfl))
  have e2 := run_pasts (d := 7) (by omega) 60 fS (by have := fS.dep; omega)
  have h0 : okM "" := by unfold okM; decide +kernel
  have e3 := run_marks (V := [("" : Str), x, y, z]) List.mem_cons_self (by simp) (by simp) 60 mS (by have := fS.dep; omega)
  have lF := nodup_len F _ g.nd g.sub
  have fF : ∀ w ∈ F, Fine 7 okM w := fun w hw => fU w (g.sub w hw)
  have fP := pasts_fine fS
  have hM : ∀ s ∈ marksT S, okM s := fun s hs => by
    have := mem_marksT List.mem_cons_self mS s hs
    rcases List.mem_cons.mp this with q | q
    · rw [q]; exact h0
    · exact hV s q
  have lM := marksT_len (V := [("" : Str), x, y, z]) List.mem_cons_self (by simp) mS
  have lP : (pastsT S).length ≤ 1000 := by
    have h1 := pastsT_len S
    have h2 := allT_len S
    have h3 : 2 ^ S.depth ≤ 2 ^ 7 := Nat.pow_le_pow_right (by omega) fS.dep
    omega
  have cw : ∀ w ∈ F, ∀ o ∈ wishedT w, o ∈ F := fun w hw o ho => by
    obtain ⟨i, hi, e⟩ := List.mem_iff_getElem.mp hw
    exact g.done i hi w (by rw [List.getElem?_eq_getElem hi, e]) o ho
  have hS : S ∈ F := by
    have := g.hd
    cases F with
    | nil => cases this
    | cons a r => cases this; exact List.mem_cons_self
  have both : ∀ t, t ∈ F ↔ t ∈ wishesT S := fun t => ⟨g.sub t, mem_gathered hS cw t⟩
  have ew := run_wishes (d := 7) (by omega) fS (n := 60) (by omega)
  have elp := run_lpasts (d := 7) (by omega) fS (n := 60) (by omega)
  have lpF : ∀ t ∈ lpastsT S, Fine 7 okM t := fun t ht => allT_fine fS t (mem_lpastsT.mp ht).1
  have bothP : ∀ t, t ∈ pastsT S ↔ t ∈ lpastsT S := fun t => mem_pastsT.trans mem_lpastsT.symm
  have o1 := run_once (d := 7) (by omega) fF fU g.nd (same_len g.nd (nodup_wishesT S) both) (fun t ht => (both t).mp ht) (by omega) 59
  have o2 := run_once (d := 7) (by omega) fP lpF (nodup_pastsT S) (same_len (nodup_pastsT S) (lpastsT_nodup S) bothP) (fun t ht => (bothP t).mp ht) (by omega) 59
  have inn := run_inner (d := 7) (by omega) fP (nodup_pastsT S) (fun t ht => (mem_pastsT.mp ht).2) (ord_pastsT S) (by omega) (n := 60) (by omega)
  have zl : ((allT S).foldl stepM [""]).length < 64 := by
    have h1 := nodup_foldM (xs := allT S) (l := [""]) (by simp)
    have h2 : ∀ m ∈ (allT S).foldl stepM [""], m ∈ [("" : Str), x, y, z] := fun m hm => by
      rcases mem_foldM.mp hm with q | q
      · simp at q; subst q; exact List.mem_cons_self
      · exact Marks.at mS m q
    have h3 := nodup_len _ _ h1 h2
    simp only [List.length_cons, List.length_nil] at h3
    omega
  have lm := run_lmarks (d := 7) (by omega) fS h0 zl (n := 60) (by omega)
  rw [marksT_eq fun m hm => hN m (Marks.at fS'.mks m hm)] at lm
  have kT := okD_told fF fP hM
  have kM := okD_more fF fP hM
  have neT := kT.ne (by omega)
  have eqM := kM.eq (by omega)
  have isl : ∀ x : List D, oIsi "list" (.list x) = some (.bool true) := fun x => by simp [oIsi, Py.isT, tyN]
  have neM := (okD_list (okD_strs (n := 1) hM)).ne (by omega)
  have neS : oNe (enc S) (enc S) = some (.bool false) := (okD_enc fS).ne (by omega)
  have pl : plT 60 (enc S) = some (planD [encL F, encL (pastsT S), .list ((marksT S).map .str), .list (wts F.length)]) := by
    unfold plT initT
    rw [e, e2, e3]
    unfold encL
    simp only
    rw [if_pos (by rw [List.length_map]; omega), List.length_map]
  have hd0 : atI (F.map enc) 0 = some (enc S) := by
    have := g.hd
    cases F with
    | nil => cases this
    | cons a r => cases this; exact atI_0 _ _
  refine ⟨[.va (nsD ns), .va (.list [.str x, .str y, .str z]), .no, .no, .no, .no, .no, .no], .list [.str x, .str y, .str z], S, F, pastsT S, marksT S, ?_, ?_, ?_, ?_, ?_, ?_, ?_, ?_, ?_, ?_, ?_, ?_⟩
  · unfold f_law0 nsD
    simp [entry, fOwn, fSeq, fNext, sRet, sRetN, sIf, sSet, sSetO, sAsg, sApp, sFor, forF, fVar, fOpd, fCon, f2, f1, fNil, fCons, bR, bL, bA, bLL, oR, fT, gAnd, gOr, gNot, gYes, fAnd, fOr, fNot, fIte, fTup, fLst, fCall, fCallO, fB, fM1, fSl, fiNo, fiSm, fLc, wLst, wTup, wStr, wRg1, wRg2, wZip, wEnum, gfN, gfTup, gsNil, gsCons, fLrg, fLrg3, wipeG, xSeq, xSet, xOf, xCall, xIf, xRet, xNext, xTup, xCons, xNil, xPut, xCallP, sRetX, sSetX, List.getElem?_cons_zero, List.getElem?_cons_succ, List.set_cons_zero, List.set_cons_succ, List.replicate, c0, en]
  · unfold f_law1 nsD
    simp [fOwn, fSeq, fNext, sRet, sRetN, sIf, sSet, sSetO, sAsg, sApp, sFor, forF, fVar, fOpd, fCon, f2, f1, fNil, fCons, bR, bL, bA, bLL, oR, fT, gAnd, gOr, gNot, gYes, fAnd, fOr, fNot, fIte, fTup, fLst, fCall, fCallO, fB, fM1, fSl, fiNo, fiSm, fLc, wLst, wTup, wStr, wRg1, wRg2, wZip, wEnum, gfN, gfTup, gsNil, gsCons, fLrg, fLrg3, wipeG, xSeq, xSet, xOf, xCall, xIf, xRet, xNext, xTup, xCons, xNil, xPut, xCallP, sRetX, sSetX, List.getElem?_cons_zero, List.getElem?_cons_succ, List.set_cons_zero, List.set_cons_succ, eb]
  · unfold f_lawW
    simp [fOwn, fSeq, fNext, sRet, sRetN, sIf, sSet, sSetO, sAsg, sApp, sFor, forF, fVar, fOpd, fCon, f2, f1, fNil, fCons, bR, bL, bA, bLL, oR, fT, gAnd, gOr, gNot, gYes, fAnd, fOr, fNot, fIte, fTup, fLst, fCall, fCallO, fB, fM1, fSl, fiNo, fiSm, fLc, wLst, wTup, wStr, wRg1, wRg2, wZip, wEnum, gfN, gfTup, gsNil, gsCons, fLrg, fLrg3, wipeG, xSeq, xSet, xOf, xCall, xIf, xRet, xNext, xTup, xCons, xNil, xPut, xCallP, sRetX, sSetX, List.getElem?_cons_zero, List.getElem?_cons_succ, List.set_cons_zero, List.set_cons_succ, e, encL]
  · unfold f_lawP
    simp [fOwn, fSeq, fNext, sRet, sRetN, sIf, sSet, sSetO, sAsg, sApp, sFor, forF, fVar, fOpd, fCon, f2, f1, fNil, fCons, bR, bL, bA, bLL, oR, fT, gAnd, gOr, gNot, gYes, fAnd, fOr, fNot, fIte, fTup, fLst, fCall, fCallO, fB, fM1, fSl, fiNo, fiSm, fLc, wLst, wTup, wStr, wRg1, wRg2, wZip, wEnum, gfN, gfTup, gsNil, gsCons, fLrg, fLrg3, wipeG, xSeq, xSet, xOf, xCall, xIf, xRet, xNext, xTup, xCons, xNil, xPut, xCallP, sRetX, sSetX, List.getElem?_cons_zero, List.getElem?_cons_succ, List.set_cons_zero, List.set_cons_succ, e2, encL]
  · unfold f_lawM
    simp [fOwn, fSeq, fNext, sRet, sRetN, sIf, sSet, sSetO, sAsg, sApp, sFor, forF, fVar, fOpd, fCon, f2, f1, fNil, fCons, bR, bL, bA, bLL, oR, fT, gAnd, gOr, gNot, gYes, fAnd, fOr, fNot, fIte, fTup, fLst, fCall, fCallO, fB, fM1, fSl, fiNo, fiSm, fLc, wLst, wTup, wStr, wRg1, wRg2, wZip, wEnum, gfN, gfTup, gsNil, gsCons, fLrg, fLrg3, wipeG, xSeq, xSet, xOf, xCall, xIf, xRet, xNext, xTup, xCons, xNil, xPut, xCallP, sRetX, sSetX, List.getElem?_cons_zero, List.getElem?_cons_succ, List.set_cons_zero, List.set_cons_succ, e3]
  · unfold encL at ew o1
    unfold f_law3
    simp only [fOwn, fSeq, fNext, sRet, sRetN, sIf, sSet, sSetO, sAsg, sApp, sFor, forF, fVar, fOpd, fCon, f2, f1, fNil, fCons, bR, bL, bA, bLL, oR, fT, gAnd, gOr, gNot, gYes, fAnd, fOr, fNot, fIte, fTup, fLst, fCall, fCallO, fB, fM1, fSl, fiNo, fiSm, fLc, wLst, wTup, wStr, wRg1, wRg2, wZip, wEnum, gfN, gfTup, gsNil, gsCons, fLrg, fLrg3, wipeG, xSeq, xSet, xOf, xCall, xIf, xRet, xNext, xTup, xCons, xNil, xPut, xCallP, sRetX, sSetX, List.getElem?_cons_zero, List.getElem?_cons_succ, List.set_cons_zero, List.set_cons_succ, oIx_lst, atI_0, oR_some, bR_ok, bL_ok, bLL_ok, bA_ok, ew, o1, hd0, neS, Bool.not_true]
  · unfold encL at elp o2 inn
    unfold f_law4
    simp only [fOwn, fSeq, fNext, sRet, sRetN, sIf, sSet, sSetO, sAsg, sApp, sFor, forF, fVar, fOpd, fCon, f2, f1, fNil, fCons, bR, bL, bA, bLL, oR, fT, gAnd, gOr, gNot, gYes, fAnd, fOr, fNot, fIte, fTup, fLst, fCall, fCallO, fB, fM1, fSl, fiNo, fiSm, fLc, wLst, wTup, wStr, wRg1, wRg2, wZip, wEnum, gfN, gfTup, gsNil, gsCons, fLrg, fLrg3, wipeG, xSeq, xSet, xOf, xCall, xIf, xRet, xNext, xTup, xCons, xNil, xPut, xCallP, sRetX, sSetX, List.getElem?_cons_zero, List.getElem?_cons_succ, List.set_cons_zero, List.set_cons_succ, oIx_lst, atI_1, oR_some, bR_ok, bL_ok, bLL_ok, bA_ok, elp, o2, inn, Bool.not_true]
  · unfold f_law5
    simp only [fOwn, fSeq, fNext, sRet, sRetN, sIf, sSet, sSetO, sAsg, sApp, sFor, forF, fVar, fOpd, fCon, f2, f1, fNil, fCons, bR, bL, bA, bLL, oR, fT, gAnd, gOr, gNot, gYes, fAnd, fOr, fNot, fIte, fTup, fLst, fCall, fCallO, fB, fM1, fSl, fiNo, fiSm, fLc, wLst, wTup, wStr, wRg1, wRg2, wZip, wEnum, gfN, gfTup, gsNil, gsCons, fLrg, fLrg3, wipeG, xSeq, xSet, xOf, xCall, xIf, xRet, xNext, xTup, xCons, xNil, xPut, xCallP, sRetX, sSetX, List.getElem?_cons_zero, List.getElem?_cons_succ, List.set_cons_zero, List.set_cons_succ, oIx_lst, atI_2, oR_some, bR_ok, bL_ok, bLL_ok, bA_ok, isl, lm, neM, Bool.not_true]
  · unfold big; omega
  · unfold big; omega
  · simp only [List.length_cons, List.length_nil] at lM
    unfold big; omega
  · have b3 : 3 ≤ big := by decide
    have b1 : 1 ≤ big := by decide
    have e' : Phi 60 .wishes_in [enc S] = some (.ok (.list (F.map enc))) := e
    have e2' : Phi 60 .pasts_in [enc S] = some (.ok (.list ((pastsT S).map enc))) := e2
    have nT : oNe (.list [.list (F.map enc), .list ((pastsT S).map enc), .list ((marksT S).map .str)]) (.list [.list (F.map enc), .list ((pastsT S).map enc), .list ((marksT S).map .str)]) = some (.bool false) := neT
    have plD : plT 60 (enc S) = some (planD [.list (F.map enc), .list ((pastsT S).map enc), .list ((marksT S).map .str), .list (wts F.length)]) := pl
    have q1 := fldW' (.list (F.map enc)) (.list ((pastsT S).map enc)) (.list ((marksT S).map .str)) (.list (wts F.length))
    have q2 := fldP' (.list (F.map enc)) (.list ((pastsT S).map enc)) (.list ((marksT S).map .str)) (.list (wts F.length))
    have q3 := fldM' (.list (F.map enc)) (.list ((pastsT S).map enc)) (.list ((marksT S).map .str)) (.list (wts F.length))
    have q4 := fldT' (.list (F.map enc)) (.list ((pastsT S).map enc)) (.list ((marksT S).map .str)) (.list (wts F.length))
    have w0 : atI (wts F.length) 0 = some (.int 1) := wts_at (n := F.length) (i := 0) (by omega)
    have lw := wts_len F.length
    have rg : rgOk 0 (F.length : Int) = true := rgOk_nat (i := 0) (by omega) (by omega)
    have rd : rgD 0 (F.length : Int) = (List.range F.length).map fun i => .int ((i : Nat) : Int) := by have := rg_nat 0 F.length; simpa using this
    have add : ∀ l : List D, l.length ≤ 1000 → oAdd (.list l) (.list [.str "more"]) = some (.list (l ++ [.str "more"])) := fun l hl => by
      rw [oAdd_lst, if_pos (by simp only [List.length_cons, List.length_nil]; unfold big; omega)]
    have a1 := add (F.map enc) (by rw [List.length_map]; omega)
    have a2 := add ((pastsT S).map enc) (by rw [List.length_map]; omega)
    have a3 := add ((marksT S).map .str) (by simp only [List.length_cons, List.length_nil] at lM; rw [List.length_map]; omega)
    have eM' : oEq (moreD F (pastsT S) (marksT S)) (moreD F (pastsT S) (marksT S)) = some (.bool true) := eqM
    unfold moreD at eM'
    generalize hWd : F.map enc = Wd at *
    generalize hPd : (pastsT S).map enc = Pd at *
    generalize hMd : (marksT S).map PyData.str = Md at *
    have lWd : Wd.length = F.length := by rw [← hWd, List.length_map]
    have hcast : ((wts F.length).length : Int) = (F.length : Int) + 1 := by rw [lw]; rfl
    obtain ⟨x7, lp⟩ := weights_loop 59 F.length (by omega) .no .no (.va (enc S)) (.va (.list [.list (Wd ++ [.str "more"]), .list (Pd ++ [.str "more"]), .list (Md ++ [.str "more"])])) (.va (.list [.list Wd, .list Pd, .list Md])) .no .no (.list Wd) (.list Pd) (.list Md) F.length 0 .no (by omega)
    simp only [List.drop_zero, Nat.reduceAdd] at lp
    unfold f_lawz
    rw [fSeq_nx (γ1 := [.no, .no, .va (enc S), .va (.list [.list (Wd ++ [.str "more"]), .list (Pd ++ [.str "more"]), .list (Md ++ [.str "more"])]), .va (.list [.list Wd, .list Pd, .list Md]), .no, .no, .no]) (by
      simp only [fOwn, fSeq, fNext, sRet, sRetN, sIf, sSet, sSetO, sAsg, sApp, sFor, forF, fVar, fOpd, fCon, f2, f1, fNil, fCons, bR, bL, bA, bLL, oR, fT, gAnd, gOr, gNot, gYes, fAnd, fOr, fNot, fIte, fTup, fLst, fCall, fCallO, fB, fM1, fSl, fiNo, fiSm, fLc, wLst, wTup, wStr, wRg1, wRg2, wZip, wEnum, gfN, gfTup, gsNil, gsCons, fLrg, fLrg3, wipeG, xSeq, xSet, xOf, xCall, xIf, xRet, xNext, xTup, xCons, xNil, xPut, xCallP, sRetX, sSetX, List.getElem?_cons_zero, List.getElem?_cons_succ, List.set_cons_zero, List.set_cons_succ, List.length_cons, List.length_nil, Nat.zero_add, Nat.reduceAdd, b3, if_pos, e', e2', e3, nT, bR_ok, bL_ok, bLL_ok, bA_ok, oR_some])]
    rw [fSeq_nx (γ1 := [.no, .no, .va (enc S), .va (.list [.list (Wd ++ [.str "more"]), .list (Pd ++ [.str "more"]), .list (Md ++ [.str "more"])]), .va (.list [.list Wd, .list Pd, .list Md]), .no, .va (planD [.list Wd, .list Pd, .list Md, .list (wts F.length)]), .no]) (by
      simp only [fOwn, fSeq, fNext, sRet, sRetN, sIf, sSet, sSetO, sAsg, sApp, sFor, forF, fVar, fOpd, fCon, f2, f1, fNil, fCons, bR, bL, bA, bLL, oR, fT, gAnd, gOr, gNot, gYes, fAnd, fOr, fNot, fIte, fTup, fLst, fCall, fCallO, fB, fM1, fSl, fiNo, fiSm, fLc, wLst, wTup, wStr, wRg1, wRg2, wZip, wEnum, gfN, gfTup, gsNil, gsCons, fLrg, fLrg3, wipeG, xSeq, xSet, xOf, xCall, xIf, xRet, xNext, xTup, xCons, xNil, xPut, xCallP, sRetX, sSetX, List.getElem?_cons_zero, List.getElem?_cons_succ, List.set_cons_zero, List.set_cons_succ, fMake, plD, bR_ok, bL_ok, bLL_ok, bA_ok, oR_some])]
    generalize hwl : wts F.length = wl at *
    rw [fSeq_nx (γ1 := [.no, .no, .va (enc S), .va (.list [.list (Wd ++ [.str "more"]), .list (Pd ++ [.str "more"]), .list (Md ++ [.str "more"])]), .va (.list [.list Wd, .list Pd, .list Md]), .no, .va (planD [.list Wd, .list Pd, .list Md, .list wl]), .no]) (by
      simp only [fOwn, fSeq, fNext, sRet, sRetN, sIf, sSet, sSetO, sAsg, sApp, sFor, forF, fVar, fOpd, fCon, f2, f1, fNil, fCons, bR, bL, bA, bLL, oR, fT, gAnd, gOr, gNot, gYes, fAnd, fOr, fNot, fIte, fTup, fLst, fCall, fCallO, fB, fM1, fSl, fiNo, fiSm, fLc, wLst, wTup, wStr, wRg1, wRg2, wZip, wEnum, gfN, gfTup, gsNil, gsCons, fLrg, fLrg3, wipeG, xSeq, xSet, xOf, xCall, xIf, xRet, xNext, xTup, xCons, xNil, xPut, xCallP, sRetX, sSetX, List.getElem?_cons_zero, List.getElem?_cons_succ, List.set_cons_zero, List.set_cons_succ, q1, q2, q3, q4, isl, List.length_cons, List.length_nil, Nat.zero_add, Nat.reduceAdd, b3, if_pos, nT, bR_ok, bL_ok, bLL_ok, bA_ok, oR_some, Bool.not_true])]
    rw [fSeq_nx (γ1 := [.no, .no, .va (enc S), .va (.list [.list (Wd ++ [.str "more"]), .list (Pd ++ [.str "more"]), .list (Md ++ [.str "more"])]), .va (.list [.list Wd, .list Pd, .list Md]), .no, .va (planD [.list Wd, .list Pd, .list Md, .list wl]), .no]) (by
      simp only [fOwn, fSeq, fNext, sRet, sRetN, sIf, sSet, sSetO, sAsg, sApp, sFor, forF, fVar, fOpd, fCon, f2, f1, fNil, fCons, bR, bL, bA, bLL, oR, fT, gAnd, gOr, gNot, gYes, fAnd, fOr, fNot, fIte, fTup, fLst, fCall, fCallO, fB, fM1, fSl, fiNo, fiSm, fLc, wLst, wTup, wStr, wRg1, wRg2, wZip, wEnum, gfN, gfTup, gsNil, gsCons, fLrg, fLrg3, wipeG, xSeq, xSet, xOf, xCall, xIf, xRet, xNext, xTup, xCons, xNil, xPut, xCallP, sRetX, sSetX, List.getElem?_cons_zero, List.getElem?_cons_succ, List.set_cons_zero, List.set_cons_succ, q4, oLen_list, oIx_lst, atI_0, hcast, lWd, w0, oAdd_int, oNe_int, beq_self_eq_true, Bool.not_true, bR_ok, bL_ok, bLL_ok, bA_ok, oR_some])]
    rw [fSeq_nx (γ1 := [.no, .no, .va (enc S), .va (.list [.list (Wd ++ [.str "more"]), .list (Pd ++ [.str "more"]), .list (Md ++ [.str "more"])]), .va (.list [.list Wd, .list Pd, .list Md]), .no, .va (planD [.list Wd, .list Pd, .list Md, .list wl]), x7]) (by
      rw [sFor_ok (ds := (List.range F.length).map fun i : Nat => .int (i : Int)) (by
        simp only [wRg1, fOwn, fSeq, fNext, sRet, sRetN, sIf, sSet, sSetO, sAsg, sApp, sFor, forF, fVar, fOpd, fCon, f2, f1, fNil, fCons, bR, bL, bA, bLL, oR, fT, gAnd, gOr, gNot, gYes, fAnd, fOr, fNot, fIte, fTup, fLst, fCall, fCallO, fB, fM1, fSl, fiNo, fiSm, fLc, wLst, wTup, wStr, wRg1, wRg2, wZip, wEnum, gfN, gfTup, gsNil, gsCons, fLrg, fLrg3, wipeG, xSeq, xSet, xOf, xCall, xIf, xRet, xNext, xTup, xCons, xNil, xPut, xCallP, sRetX, sSetX, List.getElem?_cons_zero, List.getElem?_cons_succ, List.set_cons_zero, List.set_cons_succ, oLen_list, oIx_lst, atI_0, lWd, bR_ok, bL_ok, bLL_ok, bA_ok, oR_some, rg, rd, if_pos])]
      exact lp)]
    have lc : lcF (gfN 5) gYes (f2 oAdd (fOpd 5) (fLst (fCons (fCon (.str "more")) fNil))) [.no, .no, .va (enc S), .va (.list [.list (Wd ++ [.str "more"]), .list (Pd ++ [.str "more"]), .list (Md ++ [.str "more"])]), .va (.list [.list Wd, .list Pd, .list Md]), .no, .va (planD [.list Wd, .list Pd, .list Md, .list wl]), x7] [.list Wd, .list Pd, .list Md] = some [.list (Wd ++ [.str "more"]), .list (Pd ++ [.str "more"]), .list (Md ++ [.str "more"])] := by
      simp only [lcF, fOwn, fSeq, fNext, sRet, sRetN, sIf, sSet, sSetO, sAsg, sApp, sFor, forF, fVar, fOpd, fCon, f2, f1, fNil, fCons, bR, bL, bA, bLL, oR, fT, gAnd, gOr, gNot, gYes, fAnd, fOr, fNot, fIte, fTup, fLst, fCall, fCallO, fB, fM1, fSl, fiNo, fiSm, fLc, wLst, wTup, wStr, wRg1, wRg2, wZip, wEnum, gfN, gfTup, gsNil, gsCons, fLrg, fLrg3, wipeG, xSeq, xSet, xOf, xCall, xIf, xRet, xNext, xTup, xCons, xNil, xPut, xCallP, sRetX, sSetX, List.getElem?_cons_zero, List.getElem?_cons_succ, List.set_cons_zero, List.set_cons_succ, List.length_cons, List.length_nil, Nat.zero_add, b1, if_pos, a1, a2, a3, bR_ok, bL_ok, bLL_ok, bA_ok, oR_some]
    simp only [fOwn, fSeq, fNext, sRet, sRetN, sIf, sSet, sSetO, sAsg, sApp, sFor, forF, fVar, fOpd, fCon, f2, f1, fNil, fCons, bR, bL, bA, bLL, oR, fT, gAnd, gOr, gNot, gYes, fAnd, fOr, fNot, fIte, fTup, fLst, fCall, fCallO, fB, fM1, fSl, fiNo, fiSm, fLc, wLst, wTup, wStr, wRg1, wRg2, wZip, wEnum, gfN, gfTup, gsNil, gsCons, fLrg, fLrg3, wipeG, xSeq, xSet, xOf, xCall, xIf, xRet, xNext, xTup, xCons, xNil, xPut, xCallP, sRetX, sSetX, List.getElem?_cons_zero, List.getElem?_cons_succ, List.set_cons_zero, List.set_cons_succ, List.length_cons, List.length_nil, Nat.zero_add, Nat.reduceAdd, b3, if_pos, lc, eM', bR_ok, bL_ok, bLL_ok, bA_ok, oR_some]
end K03

namespace K03
open PySem PySem.Spec PyProof.Rows L2 Py
section
variable {P : Program} {w : World} {K : PySem.W.Frag} {mg : Str → Option Value} {base : Heap} {M : Pm} {Cc fI fL : Addr} {fdI fdL : FuncData} {fa : Nm → Addr} {fdd : Nm → FuncData}
theorem okX_all (D : DD K mg Cc fa fdd) (Z : ZZ mg) (CP_ : CP K mg M Cc) : ∀ (n : Nat) (i : Nx), FnOk P w K mg base (L2.CX P w) n (fa i.n) (fdd i.n) (psN i.n) (spS K M (Psi n i))
  | 0, _ => fnX_zero
  | n + 1, i => by
    have OX := okX_all D Z CP_ n
    cases i with
    | l_draw => exact fnX_ok (D.d .l_draw).F sc_l_draw fun cdv A outer s H E C tk => d_l_draw D Z CP_ OX (Nat.le_refl n) cdv A outer s H E C tk
    | l_made => exact fnX_ok (D.d .l_made).F sc_l_made fun cdv A outer s H E C tk => d_l_made D Z CP_ OX (Nat.le_refl n) cdv A outer s H E C tk
theorem ok_all (D : DD K mg Cc fa fdd) (Z : ZZ mg) (CP_ : CP K mg M Cc) : ∀ (n : Nat) (i : Nm), FnOk P w K mg base (L2.CX P w) n (fa i) (fdd i) (psN i) (spF K M (Phi n i))
  | 0, _ => fn_zero
  | n + 1, i => by
    have OK := ok_all D Z CP_ n
    cases i with
    | parts_of => exact fn_ok (D.d .parts_of).F sc_parts_of fun cdv A outer s H E C tk => d_parts_of D Z CP_ OK (Nat.le_refl n) cdv A outer s H E C tk
    | wished => exact fn_ok (D.d .wished).F sc_wished fun cdv A outer s H E C tk => d_wished D Z CP_ OK (Nat.le_refl n) cdv A outer s H E C tk
    | wishes_in => exact fn_ok (D.d .wishes_in).F sc_wishes_in fun cdv A outer s H E C tk => d_wishes_in D Z CP_ OK (Nat.le_refl n) cdv A outer s H E C tk
    | pasts_in => exact fn_ok (D.d .pasts_in).F sc_pasts_in fun cdv A outer s H E C tk => d_pasts_in D Z CP_ OK (Nat.le_refl n) cdv A outer s H E C tk
    | marks_in => exact fn_ok (D.d .marks_in).F sc_marks_in fun cdv A outer s H E C tk => d_marks_in D Z CP_ OK (Nat.le_refl n) cdv A outer s H E C tk
    | l_cell_at => exact fn_ok (D.d .l_cell_at).F sc_l_cell_at fun cdv A outer s H E C tk => d_l_cell_at D Z CP_ OK (Nat.le_refl n) cdv A outer s H E C tk
    | l_names => exact fn_ok (D.d .l_names).F sc_l_names fun cdv A outer s H E C tk => d_l_names D Z CP_ OK (Nat.le_refl n) cdv A outer s H E C tk
    | l_all => exact fn_ok (D.d .l_all).F sc_l_all fun cdv A outer s H E C tk => d_l_all D Z CP_ OK (Nat.le_refl n) cdv A outer s H E C tk
    | l_wishes => exact fn_ok (D.d .l_wishes).F sc_l_wishes fun cdv A outer s H E C tk => d_l_wishes D Z CP_ OK (Nat.le_refl n) cdv A outer s H E C tk
    | l_fit => exact fn_ok (D.d .l_fit).F sc_l_fit fun cdv A outer s H E C tk => d_l_fit D Z CP_ OK (Nat.le_refl n) cdv A outer s H E C tk
    | l_built => exact fn_ok (D.d .l_built).F sc_l_built fun cdv A outer s H E C tk => d_l_built D Z CP_ OK (okX_all D Z CP_ n) (Nat.le_refl n) cdv A outer s H E C tk
    | l_whole => exact fn_ok (D.d .l_whole).F sc_l_whole fun cdv A outer s H E C tk => d_l_whole D Z CP_ OK (Nat.le_refl n) cdv A outer s H E C tk
    | l_once => exact fn_ok (D.d .l_once).F sc_l_once fun cdv A outer s H E C tk => d_l_once D Z CP_ OK (Nat.le_refl n) cdv A outer s H E C tk
    | l_pasts => exact fn_ok (D.d .l_pasts).F sc_l_pasts fun cdv A outer s H E C tk => d_l_pasts D Z CP_ OK (Nat.le_refl n) cdv A outer s H E C tk
    | l_marks => exact fn_ok (D.d .l_marks).F sc_l_marks fun cdv A outer s H E C tk => d_l_marks D Z CP_ OK (Nat.le_refl n) cdv A outer s H E C tk
    | l_inner_first => exact fn_ok (D.d .l_inner_first).F sc_l_inner_first fun cdv A outer s H E C tk => d_l_inner_first D Z CP_ OK (Nat.le_refl n) cdv A outer s H E C tk
    | l_draw => exact fn_none
    | l_made => exact fn_none
theorem okF (D : DD K mg Cc fa fdd) (Z : ZZ mg) (CP_ : CP K mg M Cc) (n : Nat) : ∀ i : Nm, frs i = true → FnOk P w K mg base (L2.CX P w) (n + 1) (fa i) (fdd i) (psN i) (spFr K M (Phi (n + 1) i)) := by
  intro i h
  cases i with
    | parts_of => cases h
    | wished => cases h
    | wishes_in => exact fnFr_ok (D.d .wishes_in).F sc_wishes_in (by show NoNx (f_wishes_in (Phi n)); unfold f_wishes_in; repeat (first | exact nn_ret | apply nn_seq)) fun cdv A outer s H E C tk => (dF_wishes_in D Z CP_ (ok_all D Z CP_ n) (Nat.le_refl n) cdv A outer s H E C tk).elim fun t J => ⟨t, J.ps, J.so⟩
    | pasts_in => exact fnFr_ok (D.d .pasts_in).F sc_pasts_in (by show NoNx (f_pasts_in (Phi n)); unfold f_pasts_in; repeat (first | exact nn_ret | apply nn_seq)) fun cdv A outer s H E C tk => (dF_pasts_in D Z CP_ (ok_all D Z CP_ n) (Nat.le_refl n) cdv A outer s H E C tk).elim fun t J => ⟨t, J.ps, J.so⟩
    | marks_in => exact fnFr_ok (D.d .marks_in).F sc_marks_in (by show NoNx (f_marks_in (Phi n)); unfold f_marks_in; repeat (first | exact nn_ret | apply nn_seq)) fun cdv A outer s H E C tk => (dF_marks_in D Z CP_ (ok_all D Z CP_ n) (Nat.le_refl n) cdv A outer s H E C tk).elim fun t J => ⟨t, J.ps, J.so⟩
    | l_cell_at => cases h
    | l_names => cases h
    | l_all => cases h
    | l_wishes => cases h
    | l_fit => cases h
    | l_built => cases h
    | l_whole => cases h
    | l_once => cases h
    | l_pasts => cases h
    | l_marks => cases h
    | l_inner_first => cases h
    | l_draw => cases h
    | l_made => cases h
theorem okI (D : DD K mg Cc fa fdd) (Z : ZZ mg) (CP_ : CP K mg M Cc) (FI : Fun K "__init__" "Plan.__init__" s_Plan___init__ fI fdI) (n : Nat) : FnOk P w K mg base (L2.CX P w) (n + 1) fI fdI P_Plan___init__ (spI K M Cc (plT n)) :=
  init_ok FI sc_Plan___init__ rfl CP_ fun cdv A outer s H E C tk => d_Plan___init__ D Z CP_ (ok_all D Z CP_ n) (Nat.le_refl n) cdv A outer s H E C tk
/-- what the law is asked -/
def spLaw (K : PySem.W.Frag) : Sp := fun vs H Q _ => ∃ (a : Addr) (ns : List Int), vs = [.ref a] ∧ SqL K H a (ns.map V.int) ∧ ns.length ≤ 63 ∧ ∀ H', Q (.bl true) H'
theorem okL (D : DD K mg Cc fa fdd) (Z : ZZ mg) (CP_ : CP K mg M Cc) (FI : Fun K "__init__" "Plan.__init__" s_Plan___init__ fI fdI) (MK : Mk K Cc fI) (bI : Binds K fdI P_Plan___init__ []) (FL : Fun K "law" "law" s_law fL fdL) (n : Nat) (hn : n = 60 := by rfl) : FnOk P w K mg base (L2.CX P w) (n + 3) fL fdL P_law (spLaw K) := by
  subst hn
  refine FL.okX sc_law (by rintro vs H Q E ⟨a, ns, rfl, _⟩; rfl) fun cdv A outer s H vs Q E hr h => ?_
  obtain ⟨C, tk⟩ := cxf_of (P := P) (w := w) (K := K) (mg := mg) (base := base) (qual := "law") (s := s) (H := H) (E := E) (outer := outer) sc_law hr
  obtain ⟨t0, t1, b3, b4, b5, tz, tW, tP, tM, t3, t4, t5, J⟩ := d_law D Z CP_ (ok_all D Z CP_ 60) (okF D Z CP_ 59) MK (okI D Z CP_ FI 60) (Nat.le_refl _) bI (by decide) cdv A outer s H E C tk
  obtain ⟨a, ns, rfl, hS, hl, q⟩ := h
  obtain ⟨γ1, nm, S, W, Q_, Ms, e0, e1, eW, eP, eM, e3, e4, e5, zW, zP, zM, ez⟩ := law_parts ns hl
  exact ⟨_, J.ps, sem3 J e0 e1 eW eP eM e3 e4 e5 zW zP zM ez (env_entry (N := N_law) (Same.refl H) (RA.cons (R.lst hS (RA.of_ints ns)) .nil)) q⟩
end
theorem all_mk {l : PySem.W.OpenLaw} {w : World} {K : PySem.W.Frag} {h : Heap} {mg : Str → Option Value} {fl Cc : Addr} (X : K.In h) (G : h.Ns mainGlobals mg) (hfa : mg "law" = some (.ref fl)) {f1 f2 f3 f4 f5 f6 f7 f8 f9 f10 f11 f12 f13 f14 f15 f16 f17 f18 f19 f20 : Addr}
    {od1 an1 od2 an2 od3 an3 od4 an4 od5 an5 od6 an6 od7 an7 od8 an8 od9 an9 od10 an10 od11 an11 od12 an12 od13 an13 od14 an14 od15 an15 od16 an16 od17 an17 od18 an18 od19 an19 od20 an20 : Option Addr} {sl1 sl2 sl3 sl4 sl5 sl6 sl7 sl8 sl9 sl10 sl11 sl12 sl13 sl14 sl15 sl16 sl17 sl18 sl19 sl20 : Array (Option Value)} {oc1 kV1 dc1 pm1 cd1 ct1 oc2 kV2 dc2 pm2 cd2 ct2 oc3 kV3 dc3 pm3 cd3 ct3 oc4 kV4 dc4 pm4 cd4 ct4 oc5 kV5 dc5 pm5 cd5 ct5 oc6 kV6 dc6 pm6 cd6 ct6 oc7 kV7 dc7 pm7 cd7 ct7 oc8 kV8 dc8 pm8 cd8 ct8 oc9 kV9 dc9 pm9 cd9 ct9 oc10 kV10 dc10 pm10 cd10 ct10 oc11 kV11 dc11 pm11 cd11 ct11 oc12 kV12 dc12 pm12 cd12 ct12 oc13 kV13 dc13 pm13 cd13 ct13 oc14 kV14 dc14 pm14 cd14 ct14 oc15 kV15 dc15 pm15 cd15 ct15 oc16 kV16 dc16 pm16 cd16 ct16 oc17 kV17 dc17 pm17 cd17 ct17 oc18 kV18 dc18 pm18 cd18 ct18 oc19 kV19 dc19 pm19 cd19 ct19 oc20 kV20 dc20 pm20 cd20 ct20 : Value}
    (aC : PySem.W.nsIn K mainGlobals "Plan" = some (some (.ref Cc)))
    (a1 : PySem.W.nsIn K mainGlobals "parts_of" = some (some (.ref f1)))
    (l1 : K.lookup f1 = some ⟨oc1, od1, .func (PySem.W.fnOf "parts_of" "parts_of" (defArgs s_parts_of) (defBody s_parts_of) (defScope s_parts_of) .none kV1 dc1 pm1 an1 cd1 ct1), sl1⟩) (c1 : PySem.W.codeIn K cd1 "parts_of" = true) (k1 : PySem.W.keepIn K (.ref f1) = true)
    (a2 : PySem.W.nsIn K mainGlobals "wished" = some (some (.ref f2)))
    (l2 : K.lookup f2 = some ⟨oc2, od2, .func (PySem.W.fnOf "wished" "wished" (defArgs s_wished) (defBody s_wished) (defScope s_wished) .none kV2 dc2 pm2 an2 cd2 ct2), sl2⟩) (c2 : PySem.W.codeIn K cd2 "wished" = true) (k2 : PySem.W.keepIn K (.ref f2) = true)
    (a3 : PySem.W.nsIn K mainGlobals "wishes_in" = some (some (.ref f3)))
    (l3 : K.lookup f3 = some ⟨oc3, od3, .func (PySem.W.fnOf "wishes_in" "wishes_in" (defArgs s_wishes_in) (defBody s_wishes_in) (defScope s_wishes_in) .none kV3 dc3 pm3 an3 cd3 ct3), sl3⟩) (c3 : PySem.W.codeIn K cd3 "wishes_in" = true) (k3 : PySem.W.keepIn K (.ref f3) = true)
    (a4 : PySem.W.nsIn K mainGlobals "pasts_in" = some (some (.ref f4)))
    (l4 : K.lookup f4 = some ⟨oc4, od4, .func (PySem.W.fnOf "pasts_in" "pasts_in" (defArgs s_pasts_in) (defBody s_pasts_in) (defScope s_pasts_in) .none kV4 dc4 pm4 an4 cd4 ct4), sl4⟩) (c4 : PySem.W.codeIn K cd4 "pasts_in" = true) (k4 : PySem.W.keepIn K (.ref f4) = true)
    (a5 : PySem.W.nsIn K mainGlobals "marks_in" = some (some (.ref f5)))
    (l5 : K.lookup f5 = some ⟨oc5, od5, .func (PySem.W.fnOf "marks_in" "marks_in" (defArgs s_marks_in) (defBody s_marks_in) (defScope s_marks_in) .none kV5 dc5 pm5 an5 cd5 ct5), sl5⟩) (c5 : PySem.W.codeIn K cd5 "marks_in" = true) (k5 : PySem.W.keepIn K (.ref f5) = true)
    (a6 : PySem.W.nsIn K mainGlobals "_law_cell_at" = some (some (.ref f6)))
    (l6 : K.lookup f6 = some ⟨oc6, od6, .func (PySem.W.fnOf "_law_cell_at" "_law_cell_at" (defArgs s_l_cell_at) (defBody s_l_cell_at) (defScope s_l_cell_at) .none kV6 dc6 pm6 an6 cd6 ct6), sl6⟩) (c6 : PySem.W.codeIn K cd6 "_law_cell_at" = true) (k6 : PySem.W.keepIn K (.ref f6) = true)
    (a7 : PySem.W.nsIn K mainGlobals "_law_names" = some (some (.ref f7)))
    (l7 : K.lookup f7 = some ⟨oc7, od7, .func (PySem.W.fnOf "_law_names" "_law_names" (defArgs s_l_names) (defBody s_l_names) (defScope s_l_names) .none kV7 dc7 pm7 an7 cd7 ct7), sl7⟩) (c7 : PySem.W.codeIn K cd7 "_law_names" = true) (k7 : PySem.W.keepIn K (.ref f7) = true)
    (a8 : PySem.W.nsIn K mainGlobals "_law_all" = some (some (.ref f8)))
    (l8 : K.lookup f8 = some ⟨oc8, od8, .func (PySem.W.fnOf "_law_all" "_law_all" (defArgs s_l_all) (defBody s_l_all) (defScope s_l_all) .none kV8 dc8 pm8 an8 cd8 ct8), sl8⟩) (c8 : PySem.W.codeIn K cd8 "_law_all" = true) (k8 : PySem.W.keepIn K (.ref f8) = true)
    (a9 : PySem.W.nsIn K mainGlobals "_law_wishes" = some (some (.ref f9)))
    (l9 : K.lookup f9 = some ⟨oc9, od9, .func (PySem.W.fnOf "_law_wishes" "_law_wishes" (defArgs s_l_wishes) (defBody s_l_wishes) (defScope s_l_wishes) .none kV9 dc9 pm9 an9 cd9 ct9), sl9⟩) (c9 : PySem.W.codeIn K cd9 "_law_wishes" = true) (k9 : PySem.W.keepIn K (.ref f9) = true)
    (a10 : PySem.W.nsIn K mainGlobals "_law_fit" = some (some (.ref f10)))
    (l10 : K.lookup f10 = some ⟨oc10, od10, .func (PySem.W.fnOf "_law_fit" "_law_fit" (defArgs s_l_fit) (defBody s_l_fit) (defScope s_l_fit) .none kV10 dc10 pm10 an10 cd10 ct10), sl10⟩) (c10 : PySem.W.codeIn K cd10 "_law_fit" = true) (k10 : PySem.W.keepIn K (.ref f10) = true)
    (a11 : PySem.W.nsIn K mainGlobals "_law_built" = some (some (.ref f11)))
    (l11 : K.lookup f11 = some ⟨oc11, od11, .func (PySem.W.fnOf "_law_built" "_law_built" (defArgs s_l_built) (defBody s_l_built) (defScope s_l_built) .none kV11 dc11 pm11 an11 cd11 ct11), sl11⟩) (c11 : PySem.W.codeIn K cd11 "_law_built" = true) (k11 : PySem.W.keepIn K (.ref f11) = true)
    (a12 : PySem.W.nsIn K mainGlobals "_law_whole" = some (some (.ref f12)))
    (l12 : K.lookup f12 = some ⟨oc12, od12, .func (PySem.W.fnOf "_law_whole" "_law_whole" (defArgs s_l_whole) (defBody s_l_whole) (defScope s_l_whole) .none kV12 dc12 pm12 an12 cd12 ct12), sl12⟩) (c12 : PySem.W.codeIn K cd12 "_law_whole" = true) (k12 : PySem.W.keepIn K (.ref f12) = true)
    (a13 : PySem.W.nsIn K mainGlobals "_law_once" = some (some (.ref f13)))
    (l13 : K.lookup f13 = some ⟨oc13, od13, .func (PySem.W.fnOf "_law_once" "_law_once" (defArgs s_l_once) (defBody s_l_once) (defScope s_l_once) .none kV13 dc13 pm13 an13 cd13 ct13), sl13⟩) (c13 : PySem.W.codeIn K cd13 "_law_once" = true) (k13 : PySem.W.keepIn K (.ref f13) = true)
    (a14 : PySem.W.nsIn K mainGlobals "_law_pasts" = some (some (.ref f14)))
    (l14 : K.lookup f14 = some ⟨oc14, od14, .func (PySem.W.fnOf "_law_pasts" "_law_pasts" (defArgs s_l_pasts) (defBody s_l_pasts) (defScope s_l_pasts) .none kV14 dc14 pm14 an14 cd14 ct14), sl14⟩) (c14 : PySem.W.codeIn K cd14 "_law_pasts" = true) (k14 : PySem.W.keepIn K (.ref f14) = true)
    (a15 : PySem.W.nsIn K mainGlobals "_law_marks" = some (some (.ref f15)))
    (l15 : K.lookup f15 = some ⟨oc15, od15, .func (PySem.W.fnOf "_law_marks" "_law_marks" (defArgs s_l_marks) (defBody s_l_marks) (defScope s_l_marks) .none kV15 dc15 pm15 an15 cd15 ct15), sl15⟩) (c15 : PySem.W.codeIn K cd15 "_law_marks" = true) (k15 : PySem.W.keepIn K (.ref f15) = true)
    (a16 : PySem.W.nsIn K mainGlobals "_law_inner_first" = some (some (.ref f16)))
    (l16 : K.lookup f16 = some ⟨oc16, od16, .func (PySem.W.fnOf "_law_inner_first" "_law_inner_first" (defArgs s_l_inner_first) (defBody s_l_inner_first) (defScope s_l_inner_first) .none kV16 dc16 pm16 an16 cd16 ct16), sl16⟩) (c16 : PySem.W.codeIn K cd16 "_law_inner_first" = true) (k16 : PySem.W.keepIn K (.ref f16) = true)
    (a17 : PySem.W.nsIn K mainGlobals "_law_draw" = some (some (.ref f17)))
    (l17 : K.lookup f17 = some ⟨oc17, od17, .func (PySem.W.fnOf "_law_draw" "_law_draw" (defArgs s_l_draw) (defBody s_l_draw) (defScope s_l_draw) .none kV17 dc17 pm17 an17 cd17 ct17), sl17⟩) (c17 : PySem.W.codeIn K cd17 "_law_draw" = true) (k17 : PySem.W.keepIn K (.ref f17) = true)
    (a18 : PySem.W.nsIn K mainGlobals "_law_made" = some (some (.ref f18)))
    (l18 : K.lookup f18 = some ⟨oc18, od18, .func (PySem.W.fnOf "_law_made" "_law_made" (defArgs s_l_made) (defBody s_l_made) (defScope s_l_made) .none kV18 dc18 pm18 an18 cd18 ct18), sl18⟩) (c18 : PySem.W.codeIn K cd18 "_law_made" = true) (k18 : PySem.W.keepIn K (.ref f18) = true)
    (a19 : PySem.W.findIn K (.ref Cc) "__init__" = some (some (.ref f19))) (i19 : PySem.W.isFn K (.ref f19) = true)
    (l19 : K.lookup f19 = some ⟨oc19, od19, .func (PySem.W.fnOf "__init__" "Plan.__init__" (defArgs s_Plan___init__) (defBody s_Plan___init__) (defScope s_Plan___init__) .none kV19 dc19 pm19 an19 cd19 ct19), sl19⟩) (c19 : PySem.W.codeIn K cd19 "Plan.__init__" = true) (k19 : PySem.W.keepIn K (.ref f19) = true)
    (a20 : PySem.W.nsIn K mainGlobals "law" = some (some (.ref f20)))
    (l20 : K.lookup f20 = some ⟨oc20, od20, .func (PySem.W.fnOf "law" "law" (defArgs s_law) (defBody s_law) (defScope s_law) .none kV20 dc20 pm20 an20 cd20 ct20), sl20⟩) (c20 : PySem.W.codeIn K cd20 "law" = true) (k20 : PySem.W.keepIn K (.ref f20) = true)
    (pg : PySem.W.plainGet K Cc Str.empty = true) (hd : PySem.W.hasDictIn K Cc = true) (po : PySem.W.plainOver K Cc = true) (sa : PySem.W.findIn K (.ref Cc) "__setattr__" = some (some (.builtin "object.__setattr__"))) (mk : PySem.W.makesIn K Cc = true) (kc : PySem.W.keepIn K (.ref Cc) = true)
    (nW : PySem.W.findIn K (.ref Cc) "wishes" = some none) (nP : PySem.W.findIn K (.ref Cc) "pasts" = some none) (nM : PySem.W.findIn K (.ref Cc) "marks" = some none) (nT : PySem.W.findIn K (.ref Cc) "weights" = some none)
    (z1 : PySem.W.nsIn K mainGlobals "len" = some none)
    (z2 : PySem.W.nsIn K mainGlobals "isinstance" = some none)
    (z3 : PySem.W.nsIn K mainGlobals "tuple" = some none)
    (z4 : PySem.W.nsIn K mainGlobals "sorted" = some none)
    (z5 : PySem.W.nsIn K mainGlobals "set" = some none)
    (z6 : PySem.W.nsIn K mainGlobals "range" = some none)
    (z7 : PySem.W.nsIn K mainGlobals "int" = some none)
    (z8 : PySem.W.nsIn K mainGlobals "bool" = some none)
    (z9 : PySem.W.nsIn K mainGlobals "list" = some none)
    (z10 : PySem.W.nsIn K mainGlobals "enumerate" = some none)
    (z11 : PySem.W.nsIn K mainGlobals "all" = some none)
    : ∃ fd : FuncData, (∀ (s : Shared) (v : Value), BindsTo s fd ⟨[v], []⟩ [("_law_script", v)]) ∧ ∀ base : Heap, K.In base → base.Ns mainGlobals mg → FnOk l.prog w K mg base (L2.CX l.prog w) 63 fl fd ["_law_script"] (spLaw K) := by
  have e := hfa.symm.trans (PySem.W.mg_of X G a20)
  cases e
  let fa : Nm → Addr := fun i => match i with
    | .parts_of => f1
    | .wished => f2
    | .wishes_in => f3
    | .pasts_in => f4
    | .marks_in => f5
    | .l_cell_at => f6
    | .l_names => f7
    | .l_all => f8
    | .l_wishes => f9
    | .l_fit => f10
    | .l_built => f11
    | .l_whole => f12
    | .l_once => f13
    | .l_pasts => f14
    | .l_marks => f15
    | .l_inner_first => f16
    | .l_draw => f17
    | .l_made => f18
  let fdd : Nm → FuncData := fun i => match i with
    | .parts_of => PySem.W.fnOf "parts_of" "parts_of" (defArgs s_parts_of) (defBody s_parts_of) (defScope s_parts_of) .none kV1 dc1 pm1 an1 cd1 ct1
    | .wished => PySem.W.fnOf "wished" "wished" (defArgs s_wished) (defBody s_wished) (defScope s_wished) .none kV2 dc2 pm2 an2 cd2 ct2
    | .wishes_in => PySem.W.fnOf "wishes_in" "wishes_in" (defArgs s_wishes_in) (defBody s_wishes_in) (defScope s_wishes_in) .none kV3 dc3 pm3 an3 cd3 ct3
    | .pasts_in => PySem.W.fnOf "pasts_in" "pasts_in" (defArgs s_pasts_in) (defBody s_pasts_in) (defScope s_pasts_in) .none kV4 dc4 pm4 an4 cd4 ct4
    | .marks_in => PySem.W.fnOf "marks_in" "marks_in" (defArgs s_marks_in) (defBody s_marks_in) (defScope s_marks_in) .none kV5 dc5 pm5 an5 cd5 ct5
    | .l_cell_at => PySem.W.fnOf "_law_cell_at" "_law_cell_at" (defArgs s_l_cell_at) (defBody s_l_cell_at) (defScope s_l_cell_at) .none kV6 dc6 pm6 an6 cd6 ct6
    | .l_names => PySem.W.fnOf "_law_names" "_law_names" (defArgs s_l_names) (defBody s_l_names) (defScope s_l_names) .none kV7 dc7 pm7 an7 cd7 ct7
    | .l_all => PySem.W.fnOf "_law_all" "_law_all" (defArgs s_l_all) (defBody s_l_all) (defScope s_l_all) .none kV8 dc8 pm8 an8 cd8 ct8
    | .l_wishes => PySem.W.fnOf "_law_wishes" "_law_wishes" (defArgs s_l_wishes) (defBody s_l_wishes) (defScope s_l_wishes) .none kV9 dc9 pm9 an9 cd9 ct9
    | .l_fit => PySem.W.fnOf "_law_fit" "_law_fit" (defArgs s_l_fit) (defBody s_l_fit) (defScope s_l_fit) .none kV10 dc10 pm10 an10 cd10 ct10
    | .l_built => PySem.W.fnOf "_law_built" "_law_built" (defArgs s_l_built) (defBody s_l_built) (defScope s_l_built) .none kV11 dc11 pm11 an11 cd11 ct11
    | .l_whole => PySem.W.fnOf "_law_whole" "_law_whole" (defArgs s_l_whole) (defBody s_l_whole) (defScope s_l_whole) .none kV12 dc12 pm12 an12 cd12 ct12
    | .l_once => PySem.W.fnOf "_law_once" "_law_once" (defArgs s_l_once) (defBody s_l_once) (defScope s_l_once) .none kV13 dc13 pm13 an13 cd13 ct13
    | .l_pasts => PySem.W.fnOf "_law_pasts" "_law_pasts" (defArgs s_l_pasts) (defBody s_l_pasts) (defScope s_l_pasts) .none kV14 dc14 pm14 an14 cd14 ct14
    | .l_marks => PySem.W.fnOf "_law_marks" "_law_marks" (defArgs s_l_marks) (defBody s_l_marks) (defScope s_l_marks) .none kV15 dc15 pm15 an15 cd15 ct15
    | .l_inner_first => PySem.W.fnOf "_law_inner_first" "_law_inner_first" (defArgs s_l_inner_first) (defBody s_l_inner_first) (defScope s_l_inner_first) .none kV16 dc16 pm16 an16 cd16 ct16
    | .l_draw => PySem.W.fnOf "_law_draw" "_law_draw" (defArgs s_l_draw) (defBody s_l_draw) (defScope s_l_draw) .none kV17 dc17 pm17 an17 cd17 ct17
    | .l_made => PySem.W.fnOf "_law_made" "_law_made" (defArgs s_l_made) (defBody s_l_made) (defScope s_l_made) .none kV18 dc18 pm18 an18 cd18 ct18
  have D : DD K mg Cc fa fdd := ⟨fun i => by
    cases i with
    | parts_of =>
      have F := fun_mk (st := s_parts_of) l1 c1 k1
      exact ⟨F, F.binds fun _ _ _ _ _ _ us hl => match us, hl with | [_], _ => rfl, fun _ => PySem.W.mg_of X G a1⟩
    | wished =>
      have F := fun_mk (st := s_wished) l2 c2 k2
      exact ⟨F, F.binds fun _ _ _ _ _ _ us hl => match us, hl with | [_], _ => rfl, fun _ => PySem.W.mg_of X G a2⟩
    | wishes_in =>
      have F := fun_mk (st := s_wishes_in) l3 c3 k3
      exact ⟨F, F.binds fun _ _ _ _ _ _ us hl => match us, hl with | [_], _ => rfl, fun _ => PySem.W.mg_of X G a3⟩
    | pasts_in =>
      have F := fun_mk (st := s_pasts_in) l4 c4 k4
      exact ⟨F, F.binds fun _ _ _ _ _ _ us hl => match us, hl with | [_], _ => rfl, fun _ => PySem.W.mg_of X G a4⟩
    | marks_in =>
      have F := fun_mk (st := s_marks_in) l5 c5 k5
      exact ⟨F, F.binds fun _ _ _ _ _ _ us hl => match us, hl with | [_], _ => rfl, fun _ => PySem.W.mg_of X G a5⟩
    | l_cell_at =>
      have F := fun_mk (st := s_l_cell_at) l6 c6 k6
      exact ⟨F, F.binds fun _ _ _ _ _ _ us hl => match us, hl with | [_, _], _ => rfl, fun _ => PySem.W.mg_of X G a6⟩
    | l_names =>
      have F := fun_mk (st := s_l_names) l7 c7 k7
      exact ⟨F, F.binds fun _ _ _ _ _ _ us hl => match us, hl with | [_], _ => rfl, fun _ => PySem.W.mg_of X G a7⟩
    | l_all =>
      have F := fun_mk (st := s_l_all) l8 c8 k8
      exact ⟨F, F.binds fun _ _ _ _ _ _ us hl => match us, hl with | [_], _ => rfl, fun _ => PySem.W.mg_of X G a8⟩
    | l_wishes =>
      have F := fun_mk (st := s_l_wishes) l9 c9 k9
      exact ⟨F, F.binds fun _ _ _ _ _ _ us hl => match us, hl with | [_], _ => rfl, fun _ => PySem.W.mg_of X G a9⟩
    | l_fit =>
      have F := fun_mk (st := s_l_fit) l10 c10 k10
      exact ⟨F, F.binds fun _ _ _ _ _ _ us hl => match us, hl with | [_, _], _ => rfl, fun _ => PySem.W.mg_of X G a10⟩
    | l_built =>
      have F := fun_mk (st := s_l_built) l11 c11 k11
      exact ⟨F, F.binds fun _ _ _ _ _ _ us hl => match us, hl with | [_, _, _], _ => rfl, fun _ => PySem.W.mg_of X G a11⟩
    | l_whole =>
      have F := fun_mk (st := s_l_whole) l12 c12 k12
      exact ⟨F, F.binds fun _ _ _ _ _ _ us hl => match us, hl with | [_], _ => rfl, fun _ => PySem.W.mg_of X G a12⟩
    | l_once =>
      have F := fun_mk (st := s_l_once) l13 c13 k13
      exact ⟨F, F.binds fun _ _ _ _ _ _ us hl => match us, hl with | [_, _], _ => rfl, fun _ => PySem.W.mg_of X G a13⟩
    | l_pasts =>
      have F := fun_mk (st := s_l_pasts) l14 c14 k14
      exact ⟨F, F.binds fun _ _ _ _ _ _ us hl => match us, hl with | [_], _ => rfl, fun _ => PySem.W.mg_of X G a14⟩
    | l_marks =>
      have F := fun_mk (st := s_l_marks) l15 c15 k15
      exact ⟨F, F.binds fun _ _ _ _ _ _ us hl => match us, hl with | [_], _ => rfl, fun _ => PySem.W.mg_of X G a15⟩
    | l_inner_first =>
      have F := fun_mk (st := s_l_inner_first) l16 c16 k16
      exact ⟨F, F.binds fun _ _ _ _ _ _ us hl => match us, hl with | [_], _ => rfl, fun _ => PySem.W.mg_of X G a16⟩
    | l_draw =>
      have F := fun_mk (st := s_l_draw) l17 c17 k17
      exact ⟨F, F.binds fun _ _ _ _ _ _ us hl => match us, hl with | [_, _], _ => rfl, fun _ => PySem.W.mg_of X G a17⟩
    | l_made =>
      have F := fun_mk (st := s_l_made) l18 c18 k18
      exact ⟨F, F.binds fun _ _ _ _ _ _ us hl => match us, hl with | [_, _, _, _, _], _ => rfl, fun _ => PySem.W.mg_of X G a18⟩
    ⟩
  have Z : ZZ mg := ⟨PySem.W.mg_none_of X G z1, PySem.W.mg_none_of X G z2, PySem.W.mg_none_of X G z3, PySem.W.mg_none_of X G z4, PySem.W.mg_none_of X G z5, PySem.W.mg_none_of X G z6, PySem.W.mg_none_of X G z7, PySem.W.mg_none_of X G z8, PySem.W.mg_none_of X G z9, PySem.W.mg_none_of X G z10, PySem.W.mg_none_of X G z11⟩
  have CP_ : CP K mg (MP Cc) Cc := ⟨rfl, ⟨pg, hd, po, sa⟩, fun f hf => by
    simp only [plNs, List.mem_cons, List.not_mem_nil, or_false] at hf
    rcases hf with rfl | rfl | rfl | rfl
    · exact nW
    · exact nP
    · exact nM
    · exact nT, PySem.W.mg_of X G aC⟩
  have FI := fun_mk (st := s_Plan___init__) l19 c19 k19
  have FL := fun_mk (st := s_law) l20 c20 k20
  have bI := FI.binds (ps := P_Plan___init__) fun _ _ _ _ _ _ us hl => match us, hl with | [_, _], _ => rfl
  refine ⟨PySem.W.fnOf "law" "law" (defArgs s_law) (defBody s_law) (defScope s_law) .none kV20 dc20 pm20 an20 cd20 ct20, fun s v => .of_eq rfl, fun base _ _ => ?_⟩
  exact (okL (P := l.prog) (w := w) (base := base) D Z CP_ FI ⟨mk, a19, i19, kc⟩ bI FL 60)
end K03
open PySem PySem.W PyProof.Rows
set_option maxRecDepth 100000 in
set_option maxHeartbeats 0 in
theorem PySem.Challenge.cw_soonsaid_k03_what_it_hangs_on_holds : PySem.Challenge.rw_soonsaid_k03_what_it_hangs_on.Holds := by
  w_on; o_law; k_head; (case hw => w_witness2)
  k_fill
  refine L2.walk_of (l := PySem.Challenge.rw_soonsaid_k03_what_it_hangs_on) (n := 63) (k := 63) (x := "_law_script") (CX := fun w => L2.CX PySem.Challenge.rw_soonsaid_k03_what_it_hangs_on.prog w) (sp := fun w => K03.spLaw _) rfl (by decide) rfl ⟨rfl, by decide, by decide⟩ (fun w h Y => PySem.W.kIn_of Y) ?F (fun w H a ns hl _ hS => ⟨a, ns, rfl, hS, hl, fun _ => rfl⟩) (fun _ _ _ _ _ z => Py.no_exc z)
  case F =>
    intro w mg fa h KX G hmg
    refine' K03.all_mk KX G hmg ?aC ?a1 ?l1 ?c1 ?k1 ?a2 ?l2 ?c2 ?k2 ?a3 ?l3 ?c3 ?k3 ?a4 ?l4 ?c4 ?k4 ?a5 ?l5 ?c5 ?k5 ?a6 ?l6 ?c6 ?k6 ?a7 ?l7 ?c7 ?k7 ?a8 ?l8 ?c8 ?k8 ?a9 ?l9 ?c9 ?k9 ?a10 ?l10 ?c10 ?k10 ?a11 ?l11 ?c11 ?k11 ?a12 ?l12 ?c12 ?k12 ?a13 ?l13 ?c13 ?k13 ?a14 ?l14 ?c14 ?k14 ?a15 ?l15 ?c15 ?k15 ?a16 ?l16 ?c16 ?k16 ?a17 ?l17 ?c17 ?k17 ?a18 ?l18 ?c18 ?k18 ?a19 ?i19 ?l19 ?c19 ?k19 ?a20 ?l20 ?c20 ?k20 ?pg ?hd ?po ?sa ?mk ?kc ?nW ?nP ?nM ?nT ?z1 ?z2 ?z3 ?z4 ?z5 ?z6 ?z7 ?z8 ?z9 ?z10 ?z11
    (case aC => k_is)
    (case a1 => k_is)
    (case l1 => k_is)
    (case c1 => k_is)
    (case k1 => k_is)
    (case a2 => k_is)
    (case l2 => k_is)
    (case c2 => k_is)
    (case k2 => k_is)
    (case a3 => k_is)
    (case l3 => k_is)
    (case c3 => k_is)
    (case k3 => k_is)
    (case a4 => k_is)
    (case l4 => k_is)
    (case c4 => k_is)
    (case k4 => k_is)
    (case a5 => k_is)
    (case l5 => k_is)
    (case c5 => k_is)
    (case k5 => k_is)
    (case a6 => k_is)
    (case l6 => k_is)
    (case c6 => k_is)
    (case k6 => k_is)
    (case a7 => k_is)
    (case l7 => k_is)
    (case c7 => k_is)
    (case k7 => k_is)
    (case a8 => k_is)
    (case l8 => k_is)
    (case c8 => k_is)
    (case k8 => k_is)
    (case a9 => k_is)
    (case l9 => k_is)
    (case c9 => k_is)
    (case k9 => k_is)
    (case a10 => k_is)
    (case l10 => k_is)
    (case c10 => k_is)
    (case k10 => k_is)
    (case a11 => k_is)
    (case l11 => k_is)
    (case c11 => k_is)
    (case k11 => k_is)
    (case a12 => k_is)
    (case l12 => k_is)
    (case c12 => k_is)
    (case k12 => k_is)
    (case a13 => k_is)
    (case l13 => k_is)
    (case c13 => k_is)
    (case k13 => k_is)
    (case a14 => k_is)
    (case l14 => k_is)
    (case c14 => k_is)
    (case k14 => k_is)
    (case a15 => k_is)
    (case l15 => k_is)
    (case c15 => k_is)
    (case k15 => k_is)
    (case a16 => k_is)
    (case l16 => k_is)
    (case c16 => k_is)
    (case k16 => k_is)
    (case a17 => k_is)
    (case l17 => k_is)
    (case c17 => k_is)
    (case k17 => k_is)
    (case a18 => k_is)
    (case l18 => k_is)
    (case c18 => k_is)
    (case k18 => k_is)
    (case a19 => k_is)
    (case i19 => k_is)
    (case l19 => k_is)
    (case c19 => k_is)
    (case k19 => k_is)
    (case a20 => k_is)
    (case l20 => k_is)
    (case c20 => k_is)
    (case k20 => k_is)
    (case pg => k_is)
    (case hd => k_is)
    (case po => k_is)
    (case sa => k_is)
    (case mk => k_is)
    (case kc => k_is)
    (case nW => k_is)
    (case nP => k_is)
    (case nM => k_is)
    (case nT => k_is)
    (case z1 => k_is)
    (case z2 => k_is)
    (case z3 => k_is)
    (case z4 => k_is)
    (case z5 => k_is)
    (case z6 => k_is)
    (case z7 => k_is)
    (case z8 => k_is)
    (case z9 => k_is)
    (case z10 => k_is)
    (case z11 => k_is)
