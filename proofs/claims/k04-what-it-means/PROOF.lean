import PyProof.Rows.All
import Wide.All
import OpenK.AllK
import Wide.FinOn
import HandS.ForMost
import HandS.ForExc
import HandS.Deep
import HandS.Style
import HandS.Conv
import HandS.IsInst
import PySem.Challenge.RW_soonsaid_k04_what_it_means
set_option Elab.async false
set_option linter.all false
set_option maxRecDepth 100000
set_option maxHeartbeats 4000000
/-! PyA: data, how the heap bears it, steps, slots -/
namespace Py
open PySem PySem.Spec PyProof.Rows L2

abbrev D := PyData
structure Pm where
  ci : Str → Option (Addr × List Str)
  exc : Str → Value

mutual
/-- the value v stands for the datum d in the (frozen) heap G -/
inductive R (K : PySem.W.Frag) (M : Pm) (G : Hp) : V → D → Prop
  | non : R K M G .non .none
  | bl (b : Bool) : R K M G (.bl b) (.bool b)
  | int (i : Int) : R K M G (.int i) (.int i)
  | str (x : Str) : R K M G (.str x) (.str x)
  | lst {a : Addr} {xs : List V} {ds : List D} : SqL K G a xs → RA K M G xs ds → R K M G (.ref a) (.list ds)
  | tup {a : Addr} {xs : List V} {ds : List D} : SqT K G a xs → RA K M G xs ds → R K M G (.ref a) (.tuple ds)
  | ins {a C dx : Addr} {fs : List (Str × V)} {c : Str} {ns : List Str} {ds : List D} : G a = some (.ins C dx fs) → M.ci c = some (C, ns) → fs.map (·.1) = ns → RA K M G (fs.map (·.2)) ds → R K M G (.ref a) (.dict [(.str c, .list ds)])
  | edict {a : Addr} : G a = some (.dK []) → R K M G (.ref a) (.dict [])
inductive RA (K : PySem.W.Frag) (M : Pm) (G : Hp) : List V → List D → Prop
  | nil : RA K M G [] []
  | cons {v : V} {vs : List V} {d : D} {ds : List D} : R K M G v d → RA K M G vs ds → RA K M G (v :: vs) (d :: ds)
end

section
variable {K : PySem.W.Frag} {M : Pm} {G G' H H' : Hp}
theorem same_T {a : Addr} {xs : List V} (e : Same H H') (h : SqT K H a xs) : SqT K H' a xs := by
  rcases h with (h | ⟨o, h⟩) | h
  · exact .inl (.inl (e _ _ h))
  · exact .inl (.inr ⟨o, e _ _ h⟩)
  · exact .inr h
mutual
theorem R.mono (e : Same G G') : ∀ {v : V} {d : D}, R K M G v d → R K M G' v d
  | _, _, .non => .non
  | _, _, .bl b => .bl b
  | _, _, .int i => .int i
  | _, _, .str x => .str x
  | _, _, .lst h r => .lst (e.seq h) (RA.mono e r)
  | _, _, .tup h r => .tup (same_T e h) (RA.mono e r)
  | _, _, .ins h c n r => .ins (e _ _ h) c n (RA.mono e r)
  | _, _, .edict h => .edict (e _ _ h)
theorem RA.mono (e : Same G G') : ∀ {vs : List V} {ds : List D}, RA K M G vs ds → RA K M G' vs ds
  | _, _, .nil => .nil
  | _, _, .cons r t => .cons (R.mono e r) (RA.mono e t)
end
theorem RA.len : ∀ {vs : List V} {ds : List D}, RA K M G vs ds → vs.length = ds.length
  | _, _, .nil => rfl
  | _, _, .cons _ t => congrArg (· + 1) (RA.len t)
theorem RA.get : ∀ {vs : List V} {ds : List D} {i : Nat} {d : D}, RA K M G vs ds → ds[i]? = some d → ∃ v, vs[i]? = some v ∧ R K M G v d
  | _, _, _, _, .nil, e => by simp at e
  | _, _, 0, _, .cons r _, e => by simp at e; subst e; exact ⟨_, rfl, r⟩
  | _, _, i + 1, _, .cons _ t, e => by
    obtain ⟨v, h1, h2⟩ := RA.get (i := i) t (by simpa using e)
    exact ⟨v, by simpa using h1, h2⟩
theorem RA.app : ∀ {vs ws : List V} {ds es : List D}, RA K M G vs ds → RA K M G ws es → RA K M G (vs ++ ws) (ds ++ es)
  | _, _, _, _, .nil, s => s
  | _, _, _, _, .cons r t, s => .cons r (RA.app t s)
theorem RA.take : ∀ {vs : List V} {ds : List D} (n : Nat), RA K M G vs ds → RA K M G (vs.take n) (ds.take n)
  | _, _, 0, _ => .nil
  | _, _, _ + 1, .nil => .nil
  | _, _, n + 1, .cons r t => .cons r (RA.take n t)
theorem RA.drop : ∀ {vs : List V} {ds : List D} (n : Nat), RA K M G vs ds → RA K M G (vs.drop n) (ds.drop n)
  | _, _, 0, r => r
  | _, _, _ + 1, .nil => .nil
  | _, _, n + 1, .cons _ t => RA.drop n t
theorem RA.rev : ∀ {vs : List V} {ds : List D}, RA K M G vs ds → RA K M G vs.reverse ds.reverse
  | _, _, .nil => .nil
  | _, _, .cons r t => by
    rw [List.reverse_cons, List.reverse_cons]
    exact RA.app (RA.rev t) (.cons r .nil)
theorem RA.set {v : V} {d : D} (r : R K M G v d) : ∀ {vs : List V} {ds : List D} (i : Nat), RA K M G vs ds → RA K M G (vs.set i v) (ds.set i d)
  | _, _, _, .nil => .nil
  | _, _, 0, .cons _ t => .cons r t
  | _, _, i + 1, .cons q t => .cons q (RA.set r i t)
theorem RA.one {v : V} {d : D} (r : R K M G v d) : RA K M G [v] [d] := .cons r .nil
theorem RA.bools : ∀ {vs : List V} {bs : List Bool}, RA K M G vs (bs.map PyData.bool) → vs = bs.map V.bl
  | _, [], .nil => rfl
  | _, b :: r, .cons (.bl _) t => by rw [RA.bools t]; rfl
theorem RA.strs : ∀ {vs : List V} {bs : List Str}, RA K M G vs (bs.map PyData.str) → vs = bs.map V.str
  | _, [], .nil => rfl
  | _, b :: r, .cons (.str _) t => by rw [RA.strs t]; rfl
theorem RA.ints : ∀ {vs : List V} {bs : List Int}, RA K M G vs (bs.map PyData.int) → vs = bs.map V.int
  | _, [], .nil => rfl
  | _, b :: r, .cons (.int _) t => by rw [RA.ints t]; rfl
theorem RA.of_ints : ∀ (bs : List Int), RA K M G (bs.map V.int) (bs.map PyData.int)
  | [] => .nil
  | b :: r => .cons (.int b) (RA.of_ints r)
theorem RA.of_strs : ∀ (bs : List Str), RA K M G (bs.map V.str) (bs.map PyData.str)
  | [] => .nil
  | b :: r => .cons (.str b) (RA.of_strs r)

mutual
theorem R.dp : ∀ {v : V} {d : D}, R K M G v d → d.canLay0 = true → Dp K G v d
  | _, _, .non, _ => .non
  | _, _, .bl b, _ => .bl b
  | _, _, .int i, _ => .int i
  | _, _, .str x, _ => .str x
  | _, _, .lst h r, c => .lst h (RA.dp r (by simpa only [PyData.canLay0] using c))
  | _, _, .tup h r, c => .tup h (RA.dp r (by simpa only [PyData.canLay0] using c))
  | _, _, .ins h _ n r, c => by simp only [PyData.canLay0] at c; cases c
  | _, _, .edict h, c => by simp only [PyData.canLay0] at c; cases c
theorem RA.dp : ∀ {vs : List V} {ds : List D}, RA K M G vs ds → PyData.canLayAll0 ds = true → DpAll K G vs ds
  | _, _, .nil, _ => .nil
  | _, _, .cons r t, c => by
    simp only [PyData.canLayAll0, Bool.and_eq_true] at c
    exact .cons (R.dp r c.1) (RA.dp t c.2)
end

/-! ### steps of the heap: all stays; G is what is frozen of it -/
structure Stp (H G H' G' : Hp) : Prop where
  ex : Same H H'
  eg : Same G G'
  sub : Same G' H'
  nw : ∀ p o, H p = some o → G p = none → G' p = none
theorem Stp.refl (h : Same G H) : Stp H G H G := ⟨Same.refl _, Same.refl _, h, fun _ _ _ q => q⟩
theorem Stp.trans {H1 G1 H2 G2 : Hp} (a : Stp H G H1 G1) (b : Stp H1 G1 H2 G2) : Stp H G H2 G2 :=
  ⟨a.ex.trans b.ex, a.eg.trans b.eg, b.sub, fun p o e q => b.nw p o (a.ex p o e) (a.nw p o e q)⟩
theorem same_new {p : Addr} {o : HO} (h : H p = none) : Same H (upd H p o) := fun b u q => by rw [upd_ne (ne_of_none q h)]; exact q
theorem same_upd2 {p : Addr} {o : HO} (e : Same G H) : Same (upd G p o) (upd H p o) := fun b u q => by
  by_cases hb : b = p
  · subst hb; rw [upd_same] at q ⊢; exact q
  · rw [upd_ne hb] at q ⊢; exact e b u q
/-- a new object, frozen at once -/
theorem Stp.new {p : Addr} {o : HO} (h : Same G H) (hp : H p = none) : Stp H G (upd H p o) (upd G p o) :=
  ⟨same_new hp, same_new (h.free hp), same_upd2 h, fun q u e n => by rw [upd_ne (ne_of_none e hp)]; exact n⟩
/-- a new object, not frozen -/
theorem Stp.newO {p : Addr} {o : HO} (h : Same G H) (hp : H p = none) : Stp H G (upd H p o) G :=
  ⟨same_new hp, Same.refl _, h.trans (same_new hp), fun _ _ _ n => n⟩

/-! ### results -/
inductive Md | cl | op | fr
def RO (K : PySem.W.Frag) (M : Pm) (H G : Hp) (v : V) : D → Prop
  | .list ds => ∃ a xs, v = .ref a ∧ SqL K H a xs ∧ RA K M G xs ds
  | d => R K M G v d
def RF (K : PySem.W.Frag) (M : Pm) (H0 H G : Hp) (v : V) : D → Prop
  | .list ds => ∃ a xs, v = .ref a ∧ H0 a = none ∧ G a = none ∧ H a = some (.lst xs) ∧ RA K M G xs ds
  | d => R K M G v d
def Res (K : PySem.W.Frag) (M : Pm) : Md → Hp → Hp → Hp → V → D → Prop
  | .cl, _, _, G', v, d => R K M G' v d
  | .op, _, H', G', v, d => RO K M H' G' v d
  | .fr, H, H', G', v, d => RF K M H H' G' v d
theorem R.ro {v : V} {d : D} (r : R K M G v d) (e : Same G H) : RO K M H G v d := by
  cases r with
  | lst h r => exact ⟨_, _, rfl, e.seq h, r⟩
  | _ => first | exact .non | exact .bl _ | exact .int _ | exact .str _ | (exact .tup (by assumption) (by assumption)) | (exact .ins (by assumption) (by assumption) (by assumption) (by assumption)) | (exact .edict (by assumption))
theorem RF.ro {H0 : Hp} {v : V} {d : D} (r : RF K M H0 H G v d) : RO K M H G v d := by
  cases d with
  | list ds => obtain ⟨a, xs, e, _, _, h, r⟩ := r; exact ⟨a, xs, e, .of h, r⟩
  | _ => exact r
theorem RO.mono {v : V} {d : D} (r : RO K M H G v d) (e : Same H H') (g : Same G G') : RO K M H' G' v d := by
  cases d with
  | list ds => obtain ⟨a, xs, e1, h, r⟩ := r; exact ⟨a, xs, e1, e.seq h, r.mono g⟩
  | _ => exact R.mono g r
theorem RO.r {v : V} {d : D} (r : RO K M H G v d) (e : Same G H) : R K M H v d := by
  cases d with
  | list ds => obtain ⟨a, xs, e1, h, r⟩ := r; subst e1; exact .lst h (r.mono e)
  | _ => exact R.mono e r
theorem RF.up {H0 H1 : Hp} {v : V} {d : D} (r : RF K M H1 H G v d) (e : Same H0 H1) : RF K M H0 H G v d := by
  cases d with
  | list ds => obtain ⟨a, xs, e1, h0, hg, h, r⟩ := r; exact ⟨a, xs, e1, e.free h0, hg, h, r⟩
  | _ => exact r
/-- d is no list: frozen, operand and fresh are one -/
def nolist : D → Bool
  | .list _ => false
  | _ => true
theorem Res.of_nolist {m : Md} {H0 : Hp} {v : V} {d : D} (r : R K M G v d) (n : nolist d = true) : Res K M m H0 H G v d := by
  cases m with
  | cl => exact r
  | op => cases d with
    | list ds => cases n
    | _ => exact r
  | fr => cases d with
    | list ds => cases n
    | _ => exact r
theorem RO.nolist {v : V} {d : D} (r : RO K M H G v d) (n : nolist d = true) : R K M G v d := by
  cases d with
  | list ds => cases n
  | _ => exact r

/-! ### slots -/
inductive Sl | no | va (d : D) | ow (ds : List D)
abbrev Ge := List Sl
def SlR (K : PySem.W.Frag) (M : Pm) (H0 H G : Hp) : Sl → Option V → Prop
  | .no, _ => True
  | .va d, x => ∃ v, x = some v ∧ R K M G v d
  | .ow ds, x => ∃ o vs, x = some (.ref o) ∧ G o = none ∧ H0 o = none ∧ H o = some (.lst vs) ∧ RA K M G vs ds
def isO : Sl → Option V → Addr → Prop
  | .ow _, x, o => x = some (.ref o)
  | _, _, _ => False
structure EnvR (K : PySem.W.Frag) (M : Pm) (H0 G0 : Hp) (γ : Ge) (σ : L2.St) (H G : Hp) : Prop where
  st : Stp H0 G0 H G
  len : σ.length = γ.length
  sl : ∀ (i : Nat) (s : Sl) (x : Option V), γ[i]? = some s → σ[i]? = some x → SlR K M H0 H G s x
  ap : ∀ (i j : Nat) (si sj : Sl) (xi xj : Option V) (o : Addr), γ[i]? = some si → γ[j]? = some sj → σ[i]? = some xi → σ[j]? = some xj → isO si xi o → isO sj xj o → i = j
theorem EnvR.sub {H0 G0 : Hp} {γ : Ge} {σ : L2.St} (e : EnvR K M H0 G0 γ σ H G) : Same G H := e.st.sub
theorem EnvR.stp {H0 G0 H1 G1 : Hp} {γ : Ge} {σ : L2.St} (e : EnvR K M H0 G0 γ σ H G) (s : Stp H G H1 G1) : EnvR K M H0 G0 γ σ H1 G1 := by
  refine ⟨e.st.trans s, e.len, fun i sl x h1 h2 => ?_, e.ap⟩
  have q := e.sl i sl x h1 h2
  cases sl with
  | no => trivial
  | va d => obtain ⟨v, e1, r⟩ := q; exact ⟨v, e1, r.mono s.eg⟩
  | ow ds => obtain ⟨o, vs, e1, g, h0, h, r⟩ := q; exact ⟨o, vs, e1, s.nw _ _ h g, h0, s.ex _ _ h, r.mono s.eg⟩
theorem EnvR.at {H0 G0 : Hp} {γ : Ge} {σ : L2.St} {i : Nat} {s : Sl} (e : EnvR K M H0 G0 γ σ H G) (h : γ[i]? = some s) : ∃ x, σ[i]? = some x ∧ SlR K M H0 H G s x := by
  have hi : i < γ.length := (List.getElem?_eq_some_iff.mp h).1
  have hj : i < σ.length := by rw [e.len]; exact hi
  have q : σ[i]? = some σ[i] := List.getElem?_eq_getElem hj
  exact ⟨_, q, e.sl _ _ _ h q⟩
theorem EnvR.va {H0 G0 : Hp} {γ : Ge} {σ : L2.St} {i : Nat} {d : D} (e : EnvR K M H0 G0 γ σ H G) (h : γ[i]? = some (.va d)) : ∃ v, σ[i]? = some (some v) ∧ R K M G v d := by
  obtain ⟨x, h1, v, e1, r⟩ := e.at h
  subst e1
  exact ⟨v, h1, r⟩
theorem EnvR.ow {H0 G0 : Hp} {γ : Ge} {σ : L2.St} {i : Nat} {ds : List D} (e : EnvR K M H0 G0 γ σ H G) (h : γ[i]? = some (.ow ds)) :
    ∃ o vs, σ[i]? = some (some (.ref o)) ∧ G o = none ∧ H0 o = none ∧ H o = some (.lst vs) ∧ RA K M G vs ds := by
  obtain ⟨x, h1, o, vs, e1, q⟩ := e.at h
  subst e1
  exact ⟨o, vs, h1, q⟩
/-- a slot stored: a frozen datum -/
theorem EnvR.setv {H0 G0 : Hp} {γ : Ge} {σ : L2.St} {i : Nat} {v : V} {d : D} (e : EnvR K M H0 G0 γ σ H G) (r : R K M G v d) : EnvR K M H0 G0 (γ.set i (.va d)) (σ.set i (some v)) H G := by
  have key : ∀ (j : Nat) (s : Sl) (x : Option V), (γ.set i (.va d))[j]? = some s → (σ.set i (some v))[j]? = some x → (j = i ∧ s = .va d ∧ x = some v) ∨ (j ≠ i ∧ γ[j]? = some s ∧ σ[j]? = some x) := by
    intro j s x h1 h2
    by_cases hj : i = j
    · subst hj
      rw [List.getElem?_set] at h1 h2
      simp only [if_true] at h1 h2
      split at h1
      · split at h2
        · exact .inl ⟨rfl, (Option.some.inj h1).symm, (Option.some.inj h2).symm⟩
        · cases h2
      · cases h1
    · rw [List.getElem?_set_ne hj] at h1 h2
      exact .inr ⟨Ne.symm hj, h1, h2⟩
  refine ⟨e.st, by rw [List.length_set, List.length_set]; exact e.len, fun j s x h1 h2 => ?_, fun j k sj sk xj xk o h1 h2 h3 h4 h5 h6 => ?_⟩
  · rcases key j s x h1 h2 with ⟨_, e1, e2⟩ | ⟨_, q1, q2⟩
    · subst e1; subst e2; exact ⟨v, rfl, r⟩
    · exact e.sl j s x q1 q2
  · rcases key j sj xj h1 h3 with ⟨_, e1, _⟩ | ⟨n1, q1, q2⟩
    · subst e1; exact h5.elim
    · rcases key k sk xk h2 h4 with ⟨_, e1, _⟩ | ⟨n2, q3, q4⟩
      · subst e1; exact h6.elim
      · exact e.ap j k sj sk xj xk o q1 q3 q2 q4 h5 h6
/-- a slot stored: an own list, new since HS -/
theorem EnvR.seto {H0 G0 HS : Hp} {γ : Ge} {σ : L2.St} {i : Nat} {o : Addr} {vs : List V} {ds : List D} (e : EnvR K M H0 G0 γ σ H G) (old : ∀ (j : Nat) (dj : List D) (p : Addr), j ≠ i → γ[j]? = some (.ow dj) → σ[j]? = some (some (.ref p)) → p ≠ o)
    (g : G o = none) (h0 : H0 o = none) (h : H o = some (.lst vs)) (r : RA K M G vs ds) : EnvR K M H0 G0 (γ.set i (.ow ds)) (σ.set i (some (.ref o))) H G := by
  have key : ∀ (j : Nat) (s : Sl) (x : Option V), (γ.set i (.ow ds))[j]? = some s → (σ.set i (some (.ref o)))[j]? = some x → (j = i ∧ s = .ow ds ∧ x = some (.ref o)) ∨ (j ≠ i ∧ γ[j]? = some s ∧ σ[j]? = some x) := by
    intro j s x h1 h2
    by_cases hj : i = j
    · subst hj
      rw [List.getElem?_set] at h1 h2
      simp only [if_true] at h1 h2
      split at h1
      · split at h2
        · exact .inl ⟨rfl, (Option.some.inj h1).symm, (Option.some.inj h2).symm⟩
        · cases h2
      · cases h1
    · rw [List.getElem?_set_ne hj] at h1 h2
      exact .inr ⟨Ne.symm hj, h1, h2⟩
  refine ⟨e.st, by rw [List.length_set, List.length_set]; exact e.len, fun j s x h1 h2 => ?_, fun j k sj sk xj xk p h1 h2 h3 h4 h5 h6 => ?_⟩
  · rcases key j s x h1 h2 with ⟨_, e1, e2⟩ | ⟨_, q1, q2⟩
    · subst e1; subst e2; exact ⟨o, vs, rfl, g, h0, h, r⟩
    · exact e.sl j s x q1 q2
  · rcases key j sj xj h1 h3 with ⟨ej, e1, e2⟩ | ⟨n1, q1, q2⟩
    · rcases key k sk xk h2 h4 with ⟨ek, _, _⟩ | ⟨n2, q3, q4⟩
      · rw [ej, ek]
      · subst e1; subst e2
        have ep : (some (V.ref o) : Option V) = some (.ref p) := h5
        cases ep
        cases sk with
        | ow dk =>
          have ek : xk = some (.ref o) := h6
          subst ek
          exact absurd rfl (old k dk o n2 q3 q4)
        | _ => exact h6.elim
    · rcases key k sk xk h2 h4 with ⟨_, e1, e2⟩ | ⟨n2, q3, q4⟩
      · subst e1; subst e2
        have ep : (some (V.ref o) : Option V) = some (.ref p) := h6
        cases ep
        cases sj with
        | ow dj =>
          have ek : xj = some (.ref o) := h5
          subst ek
          exact absurd rfl (old j dj o n1 q1 q2)
        | _ => exact h5.elim
      · exact e.ap j k sj sk xj xk p q1 q3 q2 q4 h5 h6
/-- an own list changed -/
theorem EnvR.wr {H0 G0 : Hp} {γ : Ge} {σ : L2.St} {i : Nat} {o : Addr} {vs ws : List V} {ds es : List D} (e : EnvR K M H0 G0 γ σ H G) (hi : γ[i]? = some (.ow ds)) (hs : σ[i]? = some (some (.ref o))) (h : H o = some (.lst vs))
    (r : RA K M G ws es) : EnvR K M H0 G0 (γ.set i (.ow es)) σ (upd H o (.lst ws)) G := by
  obtain ⟨o', vs', h1, g, h0, _, _⟩ := e.ow hi
  rw [hs] at h1; cases h1
  have hil : i < γ.length := (List.getElem?_eq_some_iff.mp hi).1
  refine ⟨⟨fun b u q => by rw [upd_ne (ne_of_none q h0)]; exact e.st.ex b u q, e.st.eg, fun b u q => by rw [upd_ne (ne_of_none q g)]; exact e.st.sub b u q, e.st.nw⟩, by rw [List.length_set]; exact e.len, fun j s x q1 q2 => ?_, fun j k sj sk xj xk p h1 h2 h3 h4 h5 h6 => ?_⟩
  · by_cases hj : i = j
    · subst hj
      rw [List.getElem?_set_self hil] at q1
      rw [hs] at q2
      cases q1; cases q2
      exact ⟨o, ws, rfl, g, h0, upd_same, r⟩
    · rw [List.getElem?_set_ne hj] at q1
      have q := e.sl j s x q1 q2
      cases s with
      | no => trivial
      | va d => exact q
      | ow dj =>
        obtain ⟨p, vp, e1, gp, hp0, hp, rp⟩ := q
        subst e1
        refine ⟨p, vp, rfl, gp, hp0, ?_, rp⟩
        rw [upd_ne]
        · exact hp
        · intro ep
          subst ep
          exact hj (e.ap i j _ _ _ _ p hi q1 hs q2 rfl rfl)
  · have key : ∀ (j : Nat) (s : Sl) (x : Option V), (γ.set i (.ow es))[j]? = some s → σ[j]? = some x → isO s x p → ∃ s', γ[j]? = some s' ∧ isO s' x p := by
      intro j s x q1 q2 q3
      by_cases hj : i = j
      · subst hj
        rw [List.getElem?_set_self hil] at q1
        cases q1
        exact ⟨_, hi, q3⟩
      · rw [List.getElem?_set_ne hj] at q1
        exact ⟨s, q1, q3⟩
    obtain ⟨s1, a1, b1⟩ := key j sj xj h1 h3 h5
    obtain ⟨s2, a2, b2⟩ := key k sk xk h2 h4 h6
    exact e.ap j k s1 s2 xj xk p a1 a2 h3 h4 b1 b2
end
end Py

/-! PyB: judgements; expressions -/
namespace Py
open PySem PySem.Spec PyProof.Rows L2

inductive Rs | ok (d : D) | er (c : Str)
abbrev Fe := Ge → Option Rs
def bR (x : Option Rs) (k : D → Option Rs) : Option Rs := match x with
  | some (.ok d) => k d
  | some (.er c) => some (.er c)
  | none => none
inductive Rl | ok (ds : List D) | er (c : Str)
abbrev Fa := Ge → Option Rl
inductive Rb | ok (b : Bool) | er (c : Str)
abbrev Ft := Ge → Option Rb

section
variable (K : PySem.W.Frag) (M : Pm) (E : XK)
def PostE (m : Md) (H G : Hp) (Q : VK) : Rs → Prop
  | .ok d => ∀ v H' G', Stp H G H' G' → Res K M m H H' G' v d → Q v H'
  | .er c => ∀ H' G', Stp H G H' G' → E (M.exc c) none H'
def EO (m : Md) (t : TE) (f : Fe) : Prop := ∀ (H0 G0 : Hp) (γ : Ge) (σ : L2.St) (H G : Hp) (Q : VK) (r : Rs), EnvR K M H0 G0 γ σ H G → f γ = some r → PostE K M E m H G Q r → t σ H Q
def ROs (H G : Hp) : List V → List D → Prop := Paired fun v d => RO K M H G v d
def PostA (H G : Hp) (Q : List V → Hp → Prop) : Rl → Prop
  | .ok ds => ∀ vs H' G', Stp H G H' G' → ROs K M H' G' vs ds → Q vs H'
  | .er c => ∀ H' G', Stp H G H' G' → E (M.exc c) none H'
def PostC (H G : Hp) (Q : List V → Hp → Prop) : Rl → Prop
  | .ok ds => ∀ vs H' G', Stp H G H' G' → RA K M G' vs ds → Q vs H'
  | .er c => ∀ H' G', Stp H G H' G' → E (M.exc c) none H'
/-- arguments: operands; clean -/
def AO (t : TA) (f : Fa) : Prop := ∀ (H0 G0 : Hp) (γ : Ge) (σ : L2.St) (H G : Hp) (Q : List V → Hp → Prop) (r : Rl), EnvR K M H0 G0 γ σ H G → f γ = some r → PostA K M E H G Q r → t σ H Q
def AC (t : TA) (f : Fa) : Prop := ∀ (H0 G0 : Hp) (γ : Ge) (σ : L2.St) (H G : Hp) (Q : List V → Hp → Prop) (r : Rl), EnvR K M H0 G0 γ σ H G → f γ = some r → PostC K M E H G Q r → t σ H Q
def PostT (H G : Hp) (Q : Bool → Hp → Prop) : Rb → Prop
  | .ok b => ∀ H' G', Stp H G H' G' → Q b H'
  | .er c => ∀ H' G', Stp H G H' G' → E (M.exc c) none H'
def TO' (t : TT) (f : Ft) : Prop := ∀ (H0 G0 : Hp) (γ : Ge) (σ : L2.St) (H G : Hp) (Q : Bool → Hp → Prop) (r : Rb), EnvR K M H0 G0 γ σ H G → f γ = some r → PostT M E H G Q r → t σ H Q
end

structure JE (K : PySem.W.Frag) (X : Cx) (M : Pm) (E : XK) (m : Md) (e : Expr) (t : TE) (f : Fe) : Prop where
  pe : PE X e t
  eo : EO K M E m t f
structure JT (K : PySem.W.Frag) (X : Cx) (M : Pm) (E : XK) (e : Expr) (t : TT) (f : Ft) : Prop where
  pt : PT X e t
  to : TO' K M E t f
structure JW (K : PySem.W.Frag) (X : Cx) (M : Pm) (E : XK) (e : Expr) (t : TT) (f : Ft) : Prop where
  pw : PW X e t
  to : TO' K M E t f
/-- arguments as operands -/
structure JA (K : PySem.W.Frag) (X : Cx) (M : Pm) (E : XK) (es : List Expr) (t : TA) (f : Fa) : Prop where
  pa : PA X es t
  ao : AO K M E t f
/-- arguments, clean -/
structure JC (K : PySem.W.Frag) (X : Cx) (M : Pm) (E : XK) (es : List Expr) (t : TA) (f : Fa) : Prop where
  pa : PA X es t
  ac : AC K M E t f

/-- what a context must have -/
structure CxF (K : PySem.W.Frag) (X : Cx) (E : XK) (k : Nat) : Prop where
  hK : X.K = K
  calm : X.calm = true
  nd : X.N.Nodup
  pas : Passes (L2.CX X.prog X.w) X E
  own : PassesOwn (model X.prog X.w) X.A X.env X.xe
  room : Room k X.A

/-! ### what they reckon -/
def fVar (i : Nat) : Fe := fun γ => match γ[i]? with
  | some (.va d) => some (.ok d)
  | _ => none
def fOpd (i : Nat) : Fe := fun γ => match γ[i]? with
  | some (.va d) => some (.ok d)
  | some (.ow ds) => some (.ok (.list ds))
  | _ => none
def fCon (d : D) : Fe := fun _ => some (.ok d)
def oR (x : Option D) : Option Rs := match x with
  | some d => some (.ok d)
  | none => none
def f2 (o : D → D → Option D) (a b : Fe) : Fe := fun γ => bR (a γ) fun x => bR (b γ) fun y => oR (o x y)
def f1 (o : D → Option D) (a : Fe) : Fe := fun γ => bR (a γ) fun x => oR (o x)
def bL (x : Option Rs) (k : D → Option Rl) : Option Rl := match x with
  | some (.ok d) => k d
  | some (.er c) => some (.er c)
  | none => none
def bA (x : Option Rl) (k : List D → Option Rs) : Option Rs := match x with
  | some (.ok d) => k d
  | some (.er c) => some (.er c)
  | none => none
def bLL (x : Option Rl) (k : List D → Option Rl) : Option Rl := match x with
  | some (.ok d) => k d
  | some (.er c) => some (.er c)
  | none => none
def fNil : Fa := fun _ => some (.ok [])
def fCons (a : Fe) (r : Fa) : Fa := fun γ => bL (a γ) fun d => bLL (r γ) fun ds => some (.ok (d :: ds))
def big : Nat := 10000000
theorem big_line {n : Nat} (h : n ≤ big) : n ≤ sizeLine := Nat.le_trans h (by rw [sizeLine_eq]; decide)
theorem big_line' {n : Nat} (h : n ≤ big) : n < sizeLine := Nat.lt_of_le_of_lt h (by rw [sizeLine_eq]; decide)

section
variable {K : PySem.W.Frag} {X : Cx} {M : Pm} {E : XK} {k : Nat} {m : Md} {a b e : Expr} {ta tb te : TE} {fa fb fe : Fe} {pos : Pos}

theorem JE.c2o (h : JE K X M E .cl e te fe) : JE K X M E .op e te fe := ⟨h.pe, fun H0 G0 γ σ H G Q r ev hf p => h.eo H0 G0 γ σ H G Q r ev hf (by
  cases r with
  | ok d => exact fun v H' G' s r => p v H' G' s (R.ro r s.sub)
  | er c => exact p)⟩
theorem JE.f2o (h : JE K X M E .fr e te fe) : JE K X M E .op e te fe := ⟨h.pe, fun H0 G0 γ σ H G Q r ev hf p => h.eo H0 G0 γ σ H G Q r ev hf (by
  cases r with
  | ok d => exact fun v H' G' s r => p v H' G' s (RF.ro r)
  | er c => exact p)⟩
theorem freeze {K : PySem.W.Frag} {H G H' G' : Hp} {v : V} {d : D} (s : Stp H G H' G') (r : RF K M H H' G' v d) : ∃ G2, Stp H G H' G2 ∧ Same G' G2 ∧ R K M G2 v d := by
  cases d with
  | list ds =>
    obtain ⟨a, xs, e1, h0, hg, h, r⟩ := r
    subst e1
    have sg : Same G' (upd G' a (.lst xs)) := same_new hg
    refine ⟨upd G' a (.lst xs), ⟨s.ex, s.eg.trans sg, fun b u q => ?_, fun p o q n => ?_⟩, sg, .lst (.of upd_same) (r.mono sg)⟩
    · by_cases hb : b = a
      · subst hb; rw [upd_same] at q; cases q; exact h
      · rw [upd_ne hb] at q; exact s.sub b u q
    · rw [upd_ne (ne_of_none q h0)]; exact s.nw p o q n
  | _ => exact ⟨G', s, Same.refl _, r⟩
theorem JE.f2c (h : JE K X M E .fr e te fe) : JE K X M E .cl e te fe := ⟨h.pe, fun H0 G0 γ σ H G Q r ev hf p => h.eo H0 G0 γ σ H G Q r ev hf (by
  cases r with
  | ok d => exact fun v H' G' s r => let ⟨G2, s2, _, r2⟩ := freeze s r; p v H' G2 s2 r2
  | er c => exact p)⟩

theorem je_var {i : Nat} {x : Str} (hN : X.N[i]? = some x := by rfl) (hv : Vis X.env.scope x := by first | exact Or.inl rfl | exact Or.inr (Or.inl rfl) | exact Or.inr (Or.inr rfl)) (hd : (x == ("__debug__" : Str)) = false := by decide)
    (hcd : (x == ("__classdict__" : Str)) = false := by decide) : JE K X M E .cl (.Name x pos) (tVar i) (fVar i) := ⟨pe_var hN hv hd hcd, fun H0 G0 γ σ H G Q r ev hf p => by
  unfold fVar at hf
  split at hf
  · rename_i d hd
    cases hf
    obtain ⟨v, h1, h2⟩ := ev.va hd
    exact ⟨v, h1, p v H G (Stp.refl ev.sub) h2⟩
  · cases hf⟩
theorem jo_var {i : Nat} {x : Str} (hN : X.N[i]? = some x := by rfl) (hv : Vis X.env.scope x := by first | exact Or.inl rfl | exact Or.inr (Or.inl rfl) | exact Or.inr (Or.inr rfl)) (hd : (x == ("__debug__" : Str)) = false := by decide)
    (hcd : (x == ("__classdict__" : Str)) = false := by decide) : JE K X M E .op (.Name x pos) (tVar i) (fOpd i) := ⟨pe_var hN hv hd hcd, fun H0 G0 γ σ H G Q r ev hf p => by
  unfold fOpd at hf
  split at hf
  · rename_i d hd
    cases hf
    obtain ⟨v, h1, h2⟩ := ev.va hd
    exact ⟨v, h1, p v H G (Stp.refl ev.sub) (h2.ro ev.sub)⟩
  · rename_i ds hd
    cases hf
    obtain ⟨o, vs, h1, _, _, h2, h3⟩ := ev.ow hd
    exact ⟨_, h1, p _ H G (Stp.refl ev.sub) ⟨o, vs, rfl, .of h2, h3⟩⟩
  · cases hf⟩
theorem eo_con {K : PySem.W.Frag} {v : V} {d : D} (r : ∀ G, R K M G v d) : EO K M E .cl (tC v) (fCon d) := fun H0 G0 γ σ H G Q r' ev hf p => by
  cases hf
  exact p v H G (Stp.refl ev.sub) (r G)
theorem je_int {i : Int} {j : Nat} : JE K X M E .cl (.Constant (.int i) j pos) (tC (.int i)) (fCon (.int i)) := ⟨pe_int, eo_con fun _ => .int i⟩
theorem je_bl {i : Bool} {j : Nat} : JE K X M E .cl (.Constant (.bool i) j pos) (tC (.bl i)) (fCon (.bool i)) := ⟨pe_bl, eo_con fun _ => .bl i⟩
theorem je_non {j : Nat} : JE K X M E .cl (.Constant .none j pos) (tC .non) (fCon .none) := ⟨pe_non, eo_con fun _ => .non⟩
theorem je_str {x : Str} {j : Nat} : JE K X M E .cl (.Constant (.str x) j pos) (tC (.str x)) (fCon (.str x)) := ⟨pe_str, eo_con fun _ => .str x⟩

/-! ### operations of two values -/
def OpS (K : PySem.W.Frag) (M : Pm) (m : Md) (r : R2) (o : D → D → Option D) : Prop :=
  ∀ (H G : Hp) (x y : V) (dx dy dz : D) (Q : VK), Same G H → RO K M H G x dx → RO K M H G y dy → o dx dy = some dz → (∀ v H' G', Stp H G H' G' → Res K M m H H' G' v dz → Q v H') → r x y H Q
theorem Res.up {K : PySem.W.Frag} {H0 H H' G' : Hp} {v : V} {d : D} (r : Res K M m H H' G' v d) (e : Same H0 H) : Res K M m H0 H' G' v d := by
  cases m with
  | cl => exact r
  | op => exact r
  | fr => exact RF.up r e
theorem eo_op2 {K : PySem.W.Frag} {r : R2} {o : D → D → Option D} (ho : OpS K M m r o) (ha : EO K M E .op ta fa) (hb : EO K M E .op tb fb) : EO K M E m (tOp r ta tb) (f2 o fa fb) := by
  intro H0 G0 γ σ H G Q q ev hf p
  unfold f2 at hf
  cases e1 : fa γ with
  | none => rw [e1] at hf; cases hf
  | some q1 =>
    rw [e1] at hf
    cases q1 with
    | er c =>
      cases hf
      exact ha H0 G0 γ σ H G _ _ ev e1 p
    | ok dx =>
      refine ha H0 G0 γ σ H G _ _ ev e1 fun x H1 G1 s1 r1 => ?_
      have ev1 := ev.stp s1
      have hf : (bR (fb γ) fun y => oR (o dx y)) = some q := hf
      cases e2 : fb γ with
      | none => rw [e2] at hf; cases hf
      | some q2 =>
        rw [e2] at hf
        cases q2 with
        | er c =>
          cases hf
          exact hb H0 G0 γ σ H1 G1 _ _ ev1 e2 fun H' G' s' => p H' G' (s1.trans s')
        | ok dy =>
          refine hb H0 G0 γ σ H1 G1 _ _ ev1 e2 fun y H2 G2 s2 r2 => ?_
          have hf : oR (o dx dy) = some q := hf
          cases e3 : o dx dy with
          | none => rw [e3] at hf; cases hf
          | some dz =>
            rw [e3] at hf
            cases hf
            exact ho H2 G2 x y dx dy dz Q s2.sub (RO.mono r1 s2.ex s2.eg) r2 e3 fun v H' G' s3 r3 => p v H' G' ((s1.trans s2).trans s3) (r3.up (s1.ex.trans s2.ex))
theorem je_op {op : Operator} {r : R2} {o : D → D → Option D} (hr : OpR X (binaryOp op) r) (ho : OpS K M m r o) (ha : JE K X M E .op a ta fa) (hb : JE K X M E .op b tb fb) : JE K X M E m (.BinOp a op b pos) (tOp r ta tb) (f2 o fa fb) :=
  ⟨pe_op hr ha.pe hb.pe, eo_op2 ho ha.eo hb.eo⟩
theorem je_cmpR {op : CmpOp} {r : R2} {o : D → D → Option D} (hr : OpR X (compareOp op) r) (ho : OpS K M m r o) (ha : JE K X M E .op a ta fa) (hb : JE K X M E .op b tb fb) (hm : behindInMarks op b = false) : JE K X M E m (.Compare a [op] [b] pos) (tOp r ta tb) (f2 o fa fb) :=
  ⟨pe_cmpR hr ha.pe hb.pe hm, eo_op2 ho ha.eo hb.eo⟩
theorem je_ixR {r : R2} {o : D → D → Option D} (hr : IxR X r) (ho : OpS K M m r o) (ha : JE K X M E .op a ta fa) (hb : JE K X M E .op b tb fb) (hs : PlainIx b) : JE K X M E m (.Subscript a b pos) (tOp r ta tb) (f2 o fa fb) :=
  ⟨pe_ix hr ha.pe hb.pe hs, eo_op2 ho ha.eo hb.eo⟩

/-! ints -/
def oI (g : Int → Int → D) : D → D → Option D
  | .int i, .int j => some (g i j)
  | _, _ => none
def oIc (C : Int → Int → Bool) (g : Int → Int → D) : D → D → Option D
  | .int i, .int j => if C i j = true then some (g i j) else none
  | _, _ => none
theorem ops_I0 {K : PySem.W.Frag} {gV : Int → Int → V} {g : Int → Int → D} (h : ∀ i j G, R K M G (gV i j) (g i j)) : OpS K M .cl (rI0 gV) (oI g) := by
  intro H G x y dx dy dz Q e rx ry ho q
  cases dx with
  | int i =>
    cases dy with
    | int j =>
      cases ho
      cases (show R K M G x (.int i) from rx)
      cases (show R K M G y (.int j) from ry)
      exact ⟨i, j, rfl, rfl, q _ H G (Stp.refl e) (h i j G)⟩
    | _ => cases ho
  | _ => cases ho
theorem ops_I {K : PySem.W.Frag} {C : Int → Int → Prop} {c : Int → Int → Bool} {gV : Int → Int → V} {g : Int → Int → D} (hc : ∀ i j, c i j = true → C i j) (h : ∀ i j G, R K M G (gV i j) (g i j)) : OpS K M .cl (rI C gV) (oIc c g) := by
  intro H G x y dx dy dz Q e rx ry ho q
  cases dx with
  | int i =>
    cases dy with
    | int j =>
      unfold oIc at ho
      dsimp only at ho
      split at ho
      · rename_i hcc
        cases ho
        cases (show R K M G x (.int i) from rx)
        cases (show R K M G y (.int j) from ry)
        exact ⟨i, j, rfl, rfl, hc i j hcc, q _ H G (Stp.refl e) (h i j G)⟩
      · cases ho
    | _ => cases ho
  | _ => cases ho
def oSub : D → D → Option D := oI fun i j => .int (i - j)
def cMul (i j : Int) : Bool := (decide (-(2 ^ 64) < i) && decide (i < 2 ^ 64)) || (decide (-(2 ^ 64) < j) && decide (j < 2 ^ 64))
def oMul : D → D → Option D := oIc cMul fun i j => .int (i * j)
def cDiv (_ j : Int) : Bool := decide (0 < j) && decide (j < 1073741824)
def oDiv : D → D → Option D := oIc cDiv fun i j => .int (i / j)
def cMod (_ j : Int) : Bool := decide (0 < j)
def oMod : D → D → Option D := oIc cMod fun i j => .int (i % j)
def oLt : D → D → Option D := oI fun i j => .bool (decide (i < j))
def oLe : D → D → Option D := oI fun i j => .bool (decide (i ≤ j))
def oGt : D → D → Option D := oI fun i j => .bool (decide (j < i))
def oGe : D → D → Option D := oI fun i j => .bool (decide (j ≤ i))
theorem je_sub (ha : JE K X M E .op a ta fa) (hb : JE K X M E .op b tb fb) : JE K X M E .cl (.BinOp a .Sub b pos) (tOp (rI0 fun i j => .int (i - j)) ta tb) (f2 oSub fa fb) := je_op op_sub (ops_I0 fun _ _ _ => .int _) ha hb
theorem je_mul (ha : JE K X M E .op a ta fa) (hb : JE K X M E .op b tb fb) : JE K X M E .cl (.BinOp a .Mult b pos) (tOp (rI CMul fun i j => .int (i * j)) ta tb) (f2 oMul fa fb) := je_op op_mul (ops_I (fun i j h => by
  unfold cMul at h
  simp only [Bool.or_eq_true, Bool.and_eq_true, decide_eq_true_eq] at h
  exact h) fun _ _ _ => .int _) ha hb
theorem je_div (ha : JE K X M E .op a ta fa) (hb : JE K X M E .op b tb fb) : JE K X M E .cl (.BinOp a .FloorDiv b pos) (tOp (rI CDiv fun i j => .int (i / j)) ta tb) (f2 oDiv fa fb) := je_op op_fdiv (ops_I (fun i j h => by
  unfold cDiv at h
  simp only [Bool.and_eq_true, decide_eq_true_eq] at h
  exact h) fun _ _ _ => .int _) ha hb
theorem je_mod (ha : JE K X M E .op a ta fa) (hb : JE K X M E .op b tb fb) : JE K X M E .cl (.BinOp a .Mod b pos) (tOp (rI (fun _ j => 0 < j) fun i j => .int (i % j)) ta tb) (f2 oMod fa fb) := je_op op_mod (ops_I (fun i j h => by
  unfold cMod at h
  simpa using h) fun _ _ _ => .int _) ha hb
theorem je_lt (ha : JE K X M E .op a ta fa) (hb : JE K X M E .op b tb fb) : JE K X M E .cl (.Compare a [.Lt] [b] pos) (tOp (rI0 fun i j => .bl (decide (i < j))) ta tb) (f2 oLt fa fb) := je_cmpR op_lt (ops_I0 fun _ _ _ => .bl _) ha hb (nomark _)
theorem je_le (ha : JE K X M E .op a ta fa) (hb : JE K X M E .op b tb fb) : JE K X M E .cl (.Compare a [.LtE] [b] pos) (tOp (rI0 fun i j => .bl (decide (i ≤ j))) ta tb) (f2 oLe fa fb) := je_cmpR op_le (ops_I0 fun _ _ _ => .bl _) ha hb (nomark _)
theorem je_gt (ha : JE K X M E .op a ta fa) (hb : JE K X M E .op b tb fb) : JE K X M E .cl (.Compare a [.Gt] [b] pos) (tOp (rI0 fun i j => .bl (decide (j < i))) ta tb) (f2 oGt fa fb) := je_cmpR op_gt (ops_I0 fun _ _ _ => .bl _) ha hb (nomark _)
theorem je_ge (ha : JE K X M E .op a ta fa) (hb : JE K X M E .op b tb fb) : JE K X M E .cl (.Compare a [.GtE] [b] pos) (tOp (rI0 fun i j => .bl (decide (j ≤ i))) ta tb) (f2 oGe fa fb) := je_cmpR op_ge (ops_I0 fun _ _ _ => .bl _) ha hb (nomark _)

/-! a + b -/
def rCatL (K : PySem.W.Frag) : R2 := fun x y H Q => ∃ l b xs zs, x = .ref l ∧ y = .ref b ∧ SqL K H l xs ∧ SqL K H b zs ∧ xs.length + zs.length ≤ sizeLine ∧ ∀ p, H p = none → Q (.ref p) (upd H p (.lst (xs ++ zs)))
theorem op_catL : OpR X (binaryOp .Add) (rCatL X.K) := by
  intro pins s σ H x y v u Q I rx ry h
  obtain ⟨l, b, xs, zs, rfl, rfl, hH, hB, hz, q⟩ := h
  cases rx
  cases ry
  obtain ⟨its, r, pl, _⟩ := I.list hH
  obtain ⟨its2, r2, pl2, _⟩ := I.list hB
  have l1 := r.length
  have l2 := r2.length
  obtain ⟨⟨cls, dd, data, sl⟩, ho, hc, n, hd⟩ := id pl.isList
  obtain ⟨⟨cls2, dd2, data2, sl2⟩, ho2, hc2, n2, hd2⟩ := id pl2.isList
  simp only at hc hd hc2 hd2
  subst hc hd hc2 hd2
  refine concat_meets ⟨_, ho, rfl⟩ ⟨_, ho2, rfl⟩ noFill_list_add seq_list_add PySem.F.slot_list_add PySem.F.entry_list_add (PySem.F.args_list_add_2 _ _) (list_addW l b its.toArray its2.toArray n n2 dd dd2 sl sl2 (by simp only [List.size_toArray]; omega)) ⟨ho, ho2, ?_⟩
  have ea : its.toArray ++ its2.toArray = (its ++ its2).toArray := by simp
  rw [ea]
  exact ⟨.ref _, _, I.lnew (t' := s.toks) (r.append r2) (by rw [List.length_append]; omega), rfl, q _ I.fresh⟩
def rAddI : R2 := rI0 fun i j => .int (i + j)
def rAddSt : R2 := fun x y H Q => ∃ i j, x = .str i ∧ y = .str j ∧ i.length + j.length ≤ sizeLine ∧ Q (.str (i ++ j)) H
def rAddAll (K : PySem.W.Frag) : R2 := fun x y H Q => ((rAddI x y H Q ∨ rAddSt x y H Q) ∨ rCatL K x y H Q) ∨ rCatT K x y H Q
theorem op_addAll : OpR X (binaryOp .Add) (rAddAll X.K) := OpR.or (OpR.or (OpR.or op_add op_add_str) op_catL) op_catT
def oAdd : D → D → Option D
  | .int i, .int j => some (.int (i + j))
  | .str i, .str j => if i.length + j.length ≤ big then some (.str (i ++ j)) else none
  | .list x, .list y => if x.length + y.length ≤ big then some (.list (x ++ y)) else none
  | .tuple x, .tuple y => if x.length + y.length ≤ big ∧ x ≠ [] ∧ y ≠ [] then some (.tuple (x ++ y)) else none
  | _, _ => none
theorem ops_add {K : PySem.W.Frag} : OpS K M .fr (rAddAll K) oAdd := by
  intro H G x y dx dy dz Q e rx ry ho q
  unfold oAdd at ho
  split at ho
  · rename_i i j
    cases ho
    cases (show R K M G x (.int i) from rx)
    cases (show R K M G y (.int j) from ry)
    exact .inl (.inl (.inl ⟨i, j, rfl, rfl, q _ H G (Stp.refl e) (R.int _)⟩))
  · rename_i i j
    split at ho
    · rename_i hz
      cases ho
      cases (show R K M G x (.str i) from rx)
      cases (show R K M G y (.str j) from ry)
      exact .inl (.inl (.inr ⟨i, j, rfl, rfl, big_line hz, q _ H G (Stp.refl e) (R.str _)⟩))
    · cases ho
  · rename_i xs ys
    split at ho
    · rename_i hz
      cases ho
      obtain ⟨l, us, e1, h1, r1⟩ := rx
      obtain ⟨l', us', e2, h2, r2⟩ := ry
      subst e1; subst e2
      have n1 := r1.len
      have n2 := r2.len
      refine .inl (.inr ⟨l, l', us, us', rfl, rfl, h1, h2, by rw [n1, n2]; exact big_line hz, fun p hp => ?_⟩)
      exact q _ _ G (Stp.newO e hp) ⟨p, us ++ us', rfl, hp, e.free hp, upd_same, r1.app r2⟩
    · cases ho
  · rename_i xs ys
    split at ho
    · rename_i hz
      cases ho
      cases (show R K M G x (.tuple xs) from rx) with
      | tup h1 r1 =>
        rename_i l us
        cases (show R K M G y (.tuple ys) from ry) with
        | tup h2 r2 =>
          rename_i l' us'
          have n1 := r1.len
          have n2 := r2.len
          refine .inr ⟨l, l', us, us', rfl, rfl, same_T e h1, same_T e h2, fun z => ?_, by rw [n1, n2]; exact big_line hz.1, fun z => ?_, fun z p hp => ?_⟩
          · subst z; cases r1; exact hz.2.1 rfl
          · subst z; cases r2; exact (hz.2.2 rfl).elim
          · have s := Stp.new (o := .tup (us ++ us')) e hp
            exact q _ _ _ s (R.tup (.of upd_same) ((r1.app r2).mono s.eg))
    · cases ho
  · cases ho
theorem je_add (C : CxF K X E k) (ha : JE K X M E .op a ta fa) (hb : JE K X M E .op b tb fb) : JE K X M E .fr (.BinOp a .Add b pos) (tOp (rAddAll K) ta tb) (f2 oAdd fa fb) := by
  have hK := C.hK
  subst hK
  exact je_op op_addAll ops_add ha hb
/-! == and != of data -/
def scalD : D → D → Bool
  | .none, .none => true | .none, .int _ => true | .int _, .none => true | .none, .bool _ => true | .bool _, .none => true | .none, .str _ => true | .str _, .none => true
  | .int _, .int _ => true | .bool _, .bool _ => true | .str _, .str _ => true
  | .int _, .str _ => true | .str _, .int _ => true | .bool _, .str _ => true | .str _, .bool _ => true
  | _, _ => false
def oEq (x y : D) : Option D := if scalD x y = true ∨ (SeqAt.shaped x = true ∧ SeqAt.shaped y = true) then some (.bool (PyData.eqv x y)) else none
def oNe (x y : D) : Option D := if scalD x y = true ∨ (SeqAt.shaped x = true ∧ SeqAt.shaped y = true) then some (.bool (!PyData.eqv x y)) else none
theorem RO.dp {K : PySem.W.Frag} {H G : Hp} {v : V} {d : D} (r : RO K M H G v d) (e : Same G H) (c : SeqAt.shaped d = true) : Dp K H v d := R.dp (r.r e) (SeqAt.canLay_of_shaped c)
theorem scal_of {K : PySem.W.Frag} {H G : Hp} {x y : V} {dx dy : D} (rx : RO K M H G x dx) (ry : RO K M H G y dy) (h : scalD dx dy = true) : scal x y = true ∧ decide (x = y) = PyData.eqv dx dy := by
  unfold scalD at h
  split at h
  all_goals first
    | cases h; done
    | skip
  all_goals
    first
      | (rename_i i j
         first
           | (cases (show R K M G x (.int i) from rx))
           | (cases (show R K M G x (.bool i) from rx))
           | (cases (show R K M G x (.str i) from rx))
         first
           | (cases (show R K M G y (.int j) from ry))
           | (cases (show R K M G y (.bool j) from ry))
           | (cases (show R K M G y (.str j) from ry))
         refine ⟨rfl, ?_⟩
         simp only [PyData.eqv]
         first
           | exact dec_int
           | exact dec_bl
           | exact dec_str
           | simp)
      | (rename_i i
         first
           | (cases (show R K M G x .none from rx))
           | (cases (show R K M G x (.int i) from rx))
           | (cases (show R K M G x (.bool i) from rx))
           | (cases (show R K M G x (.str i) from rx))
         first
           | (cases (show R K M G y .none from ry))
           | (cases (show R K M G y (.int i) from ry))
           | (cases (show R K M G y (.bool i) from ry))
           | (cases (show R K M G y (.str i) from ry))
         refine ⟨rfl, ?_⟩
         simp [PyData.eqv])
      | (cases (show R K M G x .none from rx)
         cases (show R K M G y .none from ry)
         refine ⟨rfl, ?_⟩
         simp [PyData.eqv])
def rEqAll (K : PySem.W.Frag) : R2 := fun x y H Q => rEq x y H Q ∨ rEqD K x y H Q
def rNeAll (K : PySem.W.Frag) : R2 := fun x y H Q => rNe x y H Q ∨ rNeD K x y H Q
theorem ops_eq {K : PySem.W.Frag} : OpS K M .cl (rEqAll K) oEq := by
  intro H G x y dx dy dz Q e rx ry ho q
  unfold oEq at ho
  split at ho
  · rename_i hc
    cases ho
    have q' := q _ H G (Stp.refl e) (R.bl (PyData.eqv dx dy))
    rcases hc with hc | ⟨h1, h2⟩
    · obtain ⟨s, d⟩ := scal_of rx ry hc
      exact .inl ⟨s, by rw [d]; exact q'⟩
    · exact .inr ⟨dx, dy, rx.dp e h1, ry.dp e h2, h1, h2, q'⟩
  · cases ho
theorem ops_ne {K : PySem.W.Frag} : OpS K M .cl (rNeAll K) oNe := by
  intro H G x y dx dy dz Q e rx ry ho q
  unfold oNe at ho
  split at ho
  · rename_i hc
    cases ho
    have q' := q _ H G (Stp.refl e) (R.bl (!PyData.eqv dx dy))
    rcases hc with hc | ⟨h1, h2⟩
    · obtain ⟨s, d⟩ := scal_of rx ry hc
      exact .inl ⟨s, by rw [d]; exact q'⟩
    · exact .inr ⟨dx, dy, rx.dp e h1, ry.dp e h2, h1, h2, q'⟩
  · cases ho
theorem je_eq (C : CxF K X E k) (ha : JE K X M E .op a ta fa) (hb : JE K X M E .op b tb fb) : JE K X M E .cl (.Compare a [.Eq] [b] pos) (tOp (rEqAll K) ta tb) (f2 oEq fa fb) := by
  have hK := C.hK
  subst hK
  exact je_cmpR (OpR.or op_eq (op_eqD C.room.units)) ops_eq ha hb (nomark _)
theorem je_ne (C : CxF K X E k) (ha : JE K X M E .op a ta fa) (hb : JE K X M E .op b tb fb) : JE K X M E .cl (.Compare a [.NotEq] [b] pos) (tOp (rNeAll K) ta tb) (f2 oNe fa fb) := by
  have hK := C.hK
  subst hK
  exact je_cmpR (OpR.or op_ne (op_neD C.room.units)) ops_ne ha hb (nomark _)
end
end Py


/-! PyC: in, index, slices, displays, arguments, calls, tests -/
namespace Py
open PySem PySem.Spec PyProof.Rows L2

section
variable {K : PySem.W.Frag} {X : Cx} {M : Pm} {E : XK} {k : Nat} {m : Md} {a b e c : Expr} {ta tb te tc : TE} {fa fb fe fc : Fe} {pos : Pos}

theorem R.tupI {K : PySem.W.Frag} {G : Hp} {v : V} {ds : List D} (r : R K M G v (.tuple ds)) : ∃ p us, v = .ref p ∧ SqT K G p us ∧ RA K M G us ds := by
  cases r with
  | tup h r => exact ⟨_, _, rfl, h, r⟩
/-! ### in, not in -/
def flatD : D → Bool
  | .none => true | .bool _ => true | .int _ => true | .str _ => true
  | _ => false
theorem flat_of {K : PySem.W.Frag} {G : Hp} {v : V} {d : D} (r : R K M G v d) (h : flatD d = true) : flatV v = true ∧ nolist d = true := by
  cases r <;> first | exact ⟨rfl, rfl⟩ | cases h
theorem eqV_of {K : PySem.W.Frag} {G : Hp} {v w : V} {d e : D} (r : R K M G v d) (s : R K M G w e) (h : flatD d = true) (h' : flatD e = true) : eqV v w = PyData.eqv d e := by
  cases r <;> cases s <;> first | (simp only [eqV, PyData.eqv]; done) | cases h; done | cases h'; done
theorem flats_of {K : PySem.W.Frag} {G : Hp} : ∀ {vs : List V} {ds : List D}, RA K M G vs ds → ds.all flatD = true → vs.all flatV = true
  | _, _, .nil, _ => rfl
  | _, _, .cons r t, h => by
    rw [List.all_cons, Bool.and_eq_true] at h
    rw [List.all_cons, (flat_of r h.1).1, flats_of t h.2]
    rfl
theorem inV_of {K : PySem.W.Frag} {G : Hp} {x : V} {dx : D} (rx : R K M G x dx) (hx : flatD dx = true) : ∀ {vs : List V} {ds : List D}, RA K M G vs ds → ds.all flatD = true → inV x vs = ds.any fun z => PyData.eqv z dx
  | _, _, .nil, _ => rfl
  | _, _, .cons (v := v) (vs := vs) (d := d) (ds := ds) r t, h => by
    rw [List.all_cons, Bool.and_eq_true] at h
    have ih := inV_of rx hx t h.2
    show (eqV v x || inV x vs) = (PyData.eqv d dx || ds.any fun z => PyData.eqv z dx)
    rw [eqV_of r rx h.1 hx, ih]
def oIn (neg : Bool) (x : D) : D → Option D
  | .list ds => if SeqAt.shaped x = true ∧ SeqAt.shaped (.list ds) = true then some (.bool (if neg = true then !(ds.any fun z => PyData.eqv z x) else ds.any fun z => PyData.eqv z x)) else none
  | .tuple ds => if flatD x = true ∧ ds.all flatD = true then some (.bool (if neg = true then !(ds.any fun z => PyData.eqv z x) else ds.any fun z => PyData.eqv z x)) else none
  | .str z => match x with
    | .str y => if y.cps.size = 1 then some (.bool (if neg = true then !(decide (y.cps.getD 0 0 ∈ z.cps.toList)) else decide (y.cps.getD 0 0 ∈ z.cps.toList))) else none
    | _ => none
  | _ => none
def rInS1 : R2 := fun x y H Q => ∃ (c : Nat) (z : Str), x = .str ⟨#[c]⟩ ∧ y = .str z ∧ Q (.bl (decide (c ∈ z.cps.toList))) H
def rNiS1 : R2 := fun x y H Q => ∃ (c : Nat) (z : Str), x = .str ⟨#[c]⟩ ∧ y = .str z ∧ Q (.bl (!decide (c ∈ z.cps.toList))) H
def rInAll (K : PySem.W.Frag) : R2 := fun x y H Q => (rIn K false x y H Q ∨ rInD K x y H Q) ∨ rInS1 x y H Q
def rNiAll (K : PySem.W.Frag) : R2 := fun x y H Q => (rIn K true x y H Q ∨ rNotInD K x y H Q) ∨ rNiS1 x y H Q
theorem one_sign {y : Str} (h : y.cps.size = 1) : y = ⟨#[y.cps.getD 0 0]⟩ := by
  obtain ⟨cps⟩ := y
  congr 1
  apply Array.ext
  · simpa using h
  · intro i h1 h2
    have e : i = 0 := by simp at h2; exact h2
    subst e
    simp [Array.getD, h1]
theorem ops_in {K : PySem.W.Frag} : OpS K M .cl (rInAll K) (oIn false) := by
  intro H G x y dx dy dz Q e rx ry ho q
  unfold oIn at ho
  split at ho
  · rename_i ds
    split at ho
    · rename_i hc
      cases ho
      exact .inl (.inr ⟨dx, ds, rx.dp e hc.1, RO.dp ry e hc.2, hc.1, hc.2, q _ H G (Stp.refl e) (R.bl _)⟩)
    · cases ho
  · rename_i ds
    split at ho
    · rename_i hc
      cases ho
      cases (show R K M G y (.tuple ds) from ry) with
      | tup h r =>
        rename_i p us
        have nl : nolist dx = true := by
          have := hc.1
          cases dx <;> first | rfl | cases this
        have rx' := rx.nolist nl
        have q' := q _ H G (Stp.refl e) (R.bl (ds.any fun z => PyData.eqv z dx))
        refine .inl (.inl ⟨p, us, rfl, .inr (same_T e h), (flat_of rx' hc.1).1, flats_of r hc.2, ?_⟩)
        show Q (.bl (inV x us)) H
        rw [inV_of rx' hc.1 r hc.2]
        exact q'
    · cases ho
  · rename_i z
    split at ho
    · rename_i w
      split at ho
      · rename_i hw
        cases ho
        cases (show R K M G y (.str z) from ry)
        cases (show R K M G x (.str w) from rx)
        exact .inr ⟨_, z, congrArg V.str (one_sign hw), rfl, q _ H G (Stp.refl e) (R.bl _)⟩
      · cases ho
    · cases ho
  · cases ho
theorem ops_ni {K : PySem.W.Frag} : OpS K M .cl (rNiAll K) (oIn true) := by
  intro H G x y dx dy dz Q e rx ry ho q
  unfold oIn at ho
  split at ho
  · rename_i ds
    split at ho
    · rename_i hc
      cases ho
      exact .inl (.inr ⟨dx, ds, rx.dp e hc.1, RO.dp ry e hc.2, hc.1, hc.2, q _ H G (Stp.refl e) (R.bl _)⟩)
    · cases ho
  · rename_i ds
    split at ho
    · rename_i hc
      cases ho
      cases (show R K M G y (.tuple ds) from ry) with
      | tup h r =>
        rename_i p us
        have nl : nolist dx = true := by
          have := hc.1
          cases dx <;> first | rfl | cases this
        have rx' := rx.nolist nl
        have q' := q _ H G (Stp.refl e) (R.bl (!ds.any fun z => PyData.eqv z dx))
        refine .inl (.inl ⟨p, us, rfl, .inr (same_T e h), (flat_of rx' hc.1).1, flats_of r hc.2, ?_⟩)
        show Q (.bl (!inV x us)) H
        rw [inV_of rx' hc.1 r hc.2]
        exact q'
    · cases ho
  · rename_i z
    split at ho
    · rename_i w
      split at ho
      · rename_i hw
        cases ho
        cases (show R K M G y (.str z) from ry)
        cases (show R K M G x (.str w) from rx)
        exact .inr ⟨_, z, congrArg V.str (one_sign hw), rfl, q _ H G (Stp.refl e) (R.bl _)⟩
      · cases ho
    · cases ho
  · cases ho
theorem je_in (C : CxF K X E k) (ha : JE K X M E .op a ta fa) (hb : JE K X M E .op b tb fb) (hm : behindInMarks .In b = false := by rfl) : JE K X M E .cl (.Compare a [.In] [b] pos) (tOp (rInAll K) ta tb) (f2 (oIn false) fa fb) := by
  have hK := C.hK
  subst hK
  exact je_cmpR (OpR.or (OpR.or op_in_seq (op_inD (by have := C.room.un; omega))) op_in_sign) ops_in ha hb hm
theorem je_ni (C : CxF K X E k) (ha : JE K X M E .op a ta fa) (hb : JE K X M E .op b tb fb) (hm : behindInMarks .NotIn b = false := by rfl) : JE K X M E .cl (.Compare a [.NotIn] [b] pos) (tOp (rNiAll K) ta tb) (f2 (oIn true) fa fb) := by
  have hK := C.hK
  subst hK
  exact je_cmpR (OpR.or (OpR.or op_notIn_seq (op_notInD (by have := C.room.un; omega))) op_notIn_sign) ops_ni ha hb hm
/-! ### an item -/
def oIx : D → D → Option D
  | .list ds, .int i => atI ds i
  | .tuple ds, .int i => atI ds i
  | .str z, .int i => if z.length ≤ big then (match atI z.cps.toList i with | some c => some (.str ⟨#[c]⟩) | none => none) else none
  | _, _ => none
theorem RA.at {K : PySem.W.Frag} {G : Hp} {vs : List V} {ds : List D} {i : Int} {d : D} (r : RA K M G vs ds) (h : atI ds i = some d) : ∃ v, atI vs i = some v ∧ R K M G v d := by
  unfold atI at h ⊢
  rw [r.len]
  cases e : ixN ds.length i with
  | none => rw [e] at h; cases h
  | some j =>
    rw [e] at h
    exact r.get (show ds[j]? = some d from h)
theorem ops_ix {K : PySem.W.Frag} : OpS K M .cl (rIx K) oIx := by
  intro H G x y dx dy dz Q e rx ry ho q
  unfold oIx at ho
  split at ho
  · rename_i ds i
    obtain ⟨p, us, e1, h, r⟩ := rx
    subst e1
    cases (show R K M G y (.int i) from ry)
    obtain ⟨v, h1, h2⟩ := r.at ho
    exact .inl ⟨p, us, i, v, rfl, rfl, h, h1, q v H G (Stp.refl e) h2⟩
  · rename_i ds i
    cases (show R K M G x (.tuple ds) from rx) with
    | tup h r =>
      rename_i p us
      cases (show R K M G y (.int i) from ry)
      obtain ⟨v, h1, h2⟩ := r.at ho
      exact .inr (.inl ⟨p, us, i, v, rfl, rfl, same_T e h, h1, q v H G (Stp.refl e) h2⟩)
  · rename_i z i
    split at ho
    · rename_i hz
      cases hc : atI z.cps.toList i with
      | none => rw [hc] at ho; cases ho
      | some c =>
        rw [hc] at ho
        cases ho
        cases (show R K M G x (.str z) from rx)
        cases (show R K M G y (.int i) from ry)
        exact .inr (.inr ⟨z, i, c, rfl, rfl, big_line hz, hc, q _ H G (Stp.refl e) (R.str _)⟩)
    · cases ho
  · cases ho
theorem je_ix (C : CxF K X E k) (ha : JE K X M E .op a ta fa) (hb : JE K X M E .op b tb fb) (hs : PlainIx b := by exact fun _ _ => rfl) : JE K X M E .cl (.Subscript a b pos) (tOp (rIx K) ta tb) (f2 oIx fa fb) := by
  have hK := C.hK
  subst hK
  exact je_ixR ix_seq ops_ix ha hb hs
/-! ### slices -/
inductive Ri | ok (o : Option Int) | er (c : Str)
abbrev Fi := Ge → Option Ri
def PostI (M : Pm) (E : XK) (H G : Hp) (Q : Option Int → Hp → Prop) : Ri → Prop
  | .ok o => ∀ H' G', Stp H G H' G' → Q o H'
  | .er c => ∀ H' G', Stp H G H' G' → E (M.exc c) none H'
def IO (K : PySem.W.Frag) (M : Pm) (E : XK) (t : L2.TO) (f : Fi) : Prop := ∀ (H0 G0 : Hp) (γ : Ge) (σ : L2.St) (H G : Hp) (Q : Option Int → Hp → Prop) (r : Ri), EnvR K M H0 G0 γ σ H G → f γ = some r → PostI M E H G Q r → t σ H Q
structure JI' (K : PySem.W.Frag) (X : Cx) (M : Pm) (E : XK) (e : Option Expr) (t : L2.TO) (f : Fi) : Prop where
  po : PO X e t
  io : IO K M E t f
def fiNo : Fi := fun _ => some (.ok none)
def fiSm (a : Fe) : Fi := fun γ => match a γ with
  | some (.ok (.int i)) => some (.ok (some i))
  | some (.er c) => some (.er c)
  | _ => none
theorem ji_no : JI' K X M E none tNoPart fiNo := ⟨po_none, fun H0 G0 γ σ H G Q r ev hf p => by cases hf; exact p H G (Stp.refl ev.sub)⟩
theorem ji_sm (ha : JE K X M E .op a ta fa) : JI' K X M E (some a) (tPart ta) (fiSm fa) := ⟨po_some ha.pe, fun H0 G0 γ σ H G Q r ev hf p => by
  unfold fiSm at hf
  split at hf
  · rename_i i e1
    cases hf
    refine ha.eo H0 G0 γ σ H G _ _ ev e1 fun v H1 G1 s r => ?_
    cases (show R K M G1 v (.int i) from r)
    exact ⟨i, rfl, p H1 G1 s⟩
  · rename_i c e1
    cases hf
    exact ha.eo H0 G0 γ σ H G _ _ ev e1 p
  · cases hf⟩
def cutD (xs : List D) (lo hi : Option Int) : List D := (xs.drop (HT.sIx xs.length 0 lo)).take (HT.sIx xs.length xs.length hi - HT.sIx xs.length 0 lo)
def oSl (lo hi : Option Int) : D → Option D
  | .list ds => some (.list (cutD ds lo hi))
  | .tuple ds => if HT.sIx ds.length 0 lo = 0 ∧ HT.sIx ds.length ds.length hi = ds.length then none else some (.tuple (cutD ds lo hi))
  | .str z => if z.length ≤ big then some (.str (cutS z lo hi)) else none
  | _ => none
def rSlAll (K : PySem.W.Frag) : V → Option Int → Option Int → Hp → VK → Prop := fun x lo hi H Q => (rSlL K x lo hi H Q ∨ rSlT K x lo hi H Q) ∨ rSlS x lo hi H Q
theorem sl_all : L2.SlR X (rSlAll X.K) := L2.SlR.or (L2.SlR.or sl_list sl_tup) sl_str
theorem RA.cut {K : PySem.W.Frag} {G : Hp} {vs : List V} {ds : List D} (r : RA K M G vs ds) (lo hi : Option Int) : RA K M G (cutV vs lo hi) (cutD ds lo hi) := by
  unfold cutV cutD
  rw [r.len]
  exact (r.drop _).take _
theorem sl_snd {K : PySem.W.Frag} {H G : Hp} {x : V} {dx dz : D} {lo hi : Option Int} {Q : VK} (e : Same G H) (rx : RO K M H G x dx) (ho : oSl lo hi dx = some dz) (q : ∀ v H' G', Stp H G H' G' → Res K M .fr H H' G' v dz → Q v H') : rSlAll K x lo hi H Q := by
  unfold oSl at ho
  split at ho
  · rename_i ds
    cases ho
    obtain ⟨p, us, e1, h, r⟩ := rx
    subst e1
    exact .inl (.inl ⟨p, us, rfl, h, fun p hp => q _ _ G (Stp.newO e hp) ⟨p, _, rfl, hp, e.free hp, upd_same, r.cut lo hi⟩⟩)
  · rename_i ds
    split at ho
    · cases ho
    · rename_i hc
      cases ho
      cases (show R K M G x (.tuple ds) from rx) with
      | tup h r =>
        rename_i p us
        refine .inl (.inr ⟨p, us, rfl, same_T e h, by rw [r.len]; exact hc, fun p hp => ?_⟩)
        have s := Stp.new (o := .tup (cutV us lo hi)) e hp
        exact q _ _ _ s (R.tup (.of upd_same) ((r.cut lo hi).mono s.eg))
  · rename_i z
    split at ho
    · rename_i hz
      cases ho
      cases (show R K M G x (.str z) from rx)
      exact .inr ⟨z, rfl, big_line hz, q _ H G (Stp.refl e) (R.str _)⟩
    · cases ho
  · cases ho
def fSl (a : Fe) (lo hi : Fi) : Fe := fun γ => bR (a γ) fun x => match lo γ with
  | some (.ok l) => (match hi γ with
    | some (.ok u) => oR (oSl l u x)
    | some (.er c) => some (.er c)
    | none => none)
  | some (.er c) => some (.er c)
  | none => none
theorem je_slice {lo hi : Option Expr} {tl th : L2.TO} {fl fh : Fi} {p2 : Pos} (C : CxF K X E k) (ha : JE K X M E .op a ta fa) (hl : JI' K X M E lo tl fl) (hh : JI' K X M E hi th fh) : JE K X M E .fr (.Subscript a (.Slice lo hi none p2) pos) (tSl (rSlAll K) ta tl th) (fSl fa fl fh) := by
  have hK := C.hK
  subst hK
  refine ⟨pe_slice sl_all ha.pe hl.po hh.po, fun H0 G0 γ σ H G Q r ev hf p => ?_⟩
  unfold fSl at hf
  cases e1 : fa γ with
  | none => rw [e1] at hf; cases hf
  | some q1 =>
    rw [e1] at hf
    cases q1 with
    | er c =>
      cases hf
      exact ha.eo H0 G0 γ σ H G _ _ ev e1 p
    | ok dx =>
      refine ha.eo H0 G0 γ σ H G _ _ ev e1 fun x H1 G1 s1 r1 => ?_
      have ev1 := ev.stp s1
      simp only [bR] at hf
      cases e2 : fl γ with
      | none => rw [e2] at hf; cases hf
      | some q2 =>
        rw [e2] at hf
        cases q2 with
        | er c =>
          cases hf
          exact hl.io H0 G0 γ σ H1 G1 _ _ ev1 e2 fun H' G' s' => p H' G' (s1.trans s')
        | ok l =>
          refine hl.io H0 G0 γ σ H1 G1 _ _ ev1 e2 fun H2 G2 s2 => ?_
          have ev2 := ev1.stp s2
          simp only at hf
          cases e3 : fh γ with
          | none => rw [e3] at hf; cases hf
          | some q3 =>
            rw [e3] at hf
            cases q3 with
            | er c =>
              cases hf
              exact hh.io H0 G0 γ σ H2 G2 _ _ ev2 e3 fun H' G' s' => p H' G' ((s1.trans s2).trans s')
            | ok u =>
              refine hh.io H0 G0 γ σ H2 G2 _ _ ev2 e3 fun H3 G3 s3 => ?_
              simp only at hf
              cases e4 : oSl l u dx with
              | none => rw [e4] at hf; cases hf
              | some dz =>
                rw [e4] at hf
                cases hf
                have s23 := s2.trans s3
                exact sl_snd s3.sub (r1.mono s23.ex s23.eg) e4 fun v H' G' s' r' => p v H' G' ((s1.trans s23).trans s') (Res.up (m := .fr) r' (s1.ex.trans s23.ex))
/-- xs[::-1] -/
def oRev : D → Option D
  | .list ds => some (.list ds.reverse)
  | _ => none
theorem je_rev {k1 : Nat} {p1 p2 p3 : Pos} (C : CxF K X E k) (ha : JE K X M E .op a ta fa) : JE K X M E .fr (.Subscript a (.Slice none none (some (.UnaryOp .USub (.Constant (.int 1) k1 p1) p2)) p3) pos) (tRevL K ta) (f1 oRev fa) := by
  have hK := C.hK
  subst hK
  refine ⟨pe_revL ha.pe, fun H0 G0 γ σ H G Q r ev hf p => ?_⟩
  unfold f1 at hf
  cases e1 : fa γ with
  | none => rw [e1] at hf; cases hf
  | some q1 =>
    rw [e1] at hf
    cases q1 with
    | er c =>
      cases hf
      exact ha.eo H0 G0 γ σ H G _ _ ev e1 p
    | ok dx =>
      refine ha.eo H0 G0 γ σ H G _ _ ev e1 fun x H1 G1 s1 r1 => ?_
      cases dx with
      | list ds =>
        cases hf
        obtain ⟨l, us, e2, h, r⟩ := r1
        refine ⟨l, us, e2, h, fun q hq => ?_⟩
        exact p _ _ G1 (s1.trans (Stp.newO s1.sub hq)) ⟨q, _, rfl, s1.ex.free hq, s1.sub.free hq, upd_same, r.rev⟩
      | _ => cases hf

/-! ### arguments, displays -/
theorem ja_nil : JA K X M E [] tNil fNil := ⟨pa_nil, fun H0 G0 γ σ H G Q r ev hf p => by cases hf; exact p [] H G (Stp.refl ev.sub) .nil⟩
theorem jc_nil : JC K X M E [] tNil fNil := ⟨pa_nil, fun H0 G0 γ σ H G Q r ev hf p => by cases hf; exact p [] H G (Stp.refl ev.sub) .nil⟩
theorem ROs.mono {K : PySem.W.Frag} {H H' G G' : Hp} (e : Same H H') (g : Same G G') : ∀ {vs : List V} {ds : List D}, ROs K M H G vs ds → ROs K M H' G' vs ds
  | _, _, .nil => .nil
  | _, _, .cons r t => .cons (RO.mono r e g) (ROs.mono e g t)
theorem ja_cons {es : List Expr} {t : TA} {fr : Fa} (ha : JE K X M E .op a ta fa) (hr : JA K X M E es t fr) (hs : starEach (a :: es) X.env = (false, eval a X.env) :: starEach es X.env := by rfl) : JA K X M E (a :: es) (tCons ta t) (fCons fa fr) := by
  refine ⟨pa_cons ha.pe hr.pa hs, fun H0 G0 γ σ H G Q r ev hf p => ?_⟩
  unfold fCons at hf
  cases e1 : fa γ with
  | none => rw [e1] at hf; cases hf
  | some q1 =>
    rw [e1] at hf
    cases q1 with
    | er c => cases hf; exact ha.eo H0 G0 γ σ H G _ _ ev e1 p
    | ok d =>
      refine ha.eo H0 G0 γ σ H G _ _ ev e1 fun x H1 G1 s1 r1 => ?_
      simp only [bL] at hf
      cases e2 : fr γ with
      | none => rw [e2] at hf; cases hf
      | some q2 =>
        rw [e2] at hf
        cases q2 with
        | er c => cases hf; exact hr.ao H0 G0 γ σ H1 G1 _ _ (ev.stp s1) e2 fun H' G' s' => p H' G' (s1.trans s')
        | ok ds =>
          cases hf
          exact hr.ao H0 G0 γ σ H1 G1 _ _ (ev.stp s1) e2 fun vs H2 G2 s2 r2 => p _ H2 G2 (s1.trans s2) (.cons (r1.mono s2.ex s2.eg) r2)
theorem jc_cons {es : List Expr} {t : TA} {fr : Fa} (ha : JE K X M E .cl a ta fa) (hr : JC K X M E es t fr) (hs : starEach (a :: es) X.env = (false, eval a X.env) :: starEach es X.env := by rfl) : JC K X M E (a :: es) (tCons ta t) (fCons fa fr) := by
  refine ⟨pa_cons ha.pe hr.pa hs, fun H0 G0 γ σ H G Q r ev hf p => ?_⟩
  unfold fCons at hf
  cases e1 : fa γ with
  | none => rw [e1] at hf; cases hf
  | some q1 =>
    rw [e1] at hf
    cases q1 with
    | er c => cases hf; exact ha.eo H0 G0 γ σ H G _ _ ev e1 p
    | ok d =>
      refine ha.eo H0 G0 γ σ H G _ _ ev e1 fun x H1 G1 s1 r1 => ?_
      simp only [bL] at hf
      cases e2 : fr γ with
      | none => rw [e2] at hf; cases hf
      | some q2 =>
        rw [e2] at hf
        cases q2 with
        | er c => cases hf; exact hr.ac H0 G0 γ σ H1 G1 _ _ (ev.stp s1) e2 fun H' G' s' => p H' G' (s1.trans s')
        | ok ds =>
          cases hf
          exact hr.ac H0 G0 γ σ H1 G1 _ _ (ev.stp s1) e2 fun vs H2 G2 s2 r2 => p _ H2 G2 (s1.trans s2) (.cons (R.mono s2.eg r1) r2)
def fTup (a : Fa) : Fe := fun γ => bA (a γ) fun ds => if ds.length ≤ big then some (.ok (.tuple ds)) else none
def fLst (a : Fa) : Fe := fun γ => bA (a γ) fun ds => if ds.length ≤ big then some (.ok (.list ds)) else none
theorem je_tup {es : List Expr} {t : TA} {fr : Fa} {x1 : Nat} (h : JC K X M E es t fr) : JE K X M E .cl (.Tuple es x1 pos) (tTup t) (fTup fr) := by
  refine ⟨pe_tup h.pa, fun H0 G0 γ σ H G Q r ev hf p => ?_⟩
  unfold fTup at hf
  cases e1 : fr γ with
  | none => rw [e1] at hf; cases hf
  | some q1 =>
    rw [e1] at hf
    cases q1 with
    | er c => cases hf; exact h.ac H0 G0 γ σ H G _ _ ev e1 p
    | ok ds =>
      simp only [bA] at hf
      split at hf
      · rename_i hz
        cases hf
        refine h.ac H0 G0 γ σ H G _ _ ev e1 fun vs H1 G1 s1 r1 => ⟨by rw [r1.len]; exact big_line hz, fun q hq => ?_⟩
        have s := Stp.new (o := .tup vs) s1.sub hq
        exact p _ _ _ (s1.trans s) (R.tup (.of upd_same) (r1.mono s.eg))
      · cases hf
theorem je_lst {es : List Expr} {t : TA} {fr : Fa} (h : JC K X M E es t fr) : JE K X M E .fr (.List es pos) (tLst t) (fLst fr) := by
  refine ⟨pe_lst h.pa, fun H0 G0 γ σ H G Q r ev hf p => ?_⟩
  unfold fLst at hf
  cases e1 : fr γ with
  | none => rw [e1] at hf; cases hf
  | some q1 =>
    rw [e1] at hf
    cases q1 with
    | er c => cases hf; exact h.ac H0 G0 γ σ H G _ _ ev e1 p
    | ok ds =>
      simp only [bA] at hf
      split at hf
      · rename_i hz
        cases hf
        refine h.ac H0 G0 γ σ H G _ _ ev e1 fun vs H1 G1 s1 r1 => ⟨by rw [r1.len]; exact big_line hz, fun q hq => ?_⟩
        exact p _ _ _ (s1.trans (Stp.newO s1.sub hq)) ⟨q, vs, rfl, s1.ex.free hq, s1.sub.free hq, upd_same, r1⟩
      · cases hf

/-! ### calls of the text's own defs -/
def spF (K : PySem.W.Frag) (M : Pm) (φ : List D → Option Rs) : Sp := fun vs H Q E => ∃ (G : Hp) (ds : List D) (r : Rs), Same G H ∧ RA K M G vs ds ∧ φ ds = some r ∧ PostE K M E .cl H G Q r
def fCall (φ : List D → Option Rs) (a : Fa) : Fe := fun γ => bA (a γ) φ
theorem passesAt_of {E' : XK} (h : Passes (L2.CX X.prog X.w) X E') : ∀ σ, PassesAt (L2.CX X.prog X.w) X σ ((fun _ => E') σ) := fun σ pins H s e s' I c => h pins σ H s e s' I c
theorem je_call {φ : List D → Option Rs} {j : Nat} {f : Addr} {fd : FuncData} {ps : List Str} {x : Str} {p : Pos} {es : List Expr} {t : TA} {fr : Fa} (C : CxF K X E k)
    (F : FnOk X.prog X.w X.K X.mg X.base (L2.CX X.prog X.w) j f fd ps (spF K M φ)) (hj : j ≤ k) (hb : Binds X.K fd ps []) (hm : X.mg x = some (.ref f)) (hk : PySem.W.keepIn X.K (.ref f) = true) (hg : Gl X x) (ha : JC K X M E (a :: es) t fr)
    (hdb : (x == ("__debug__" : Str)) = false := by decide) (he : starEach (a :: es) X.env = (false, eval a X.env) :: starEach es X.env := by rfl) (hpl : (backTo pos (starEach es X.env)).any (·.1) = false := by rfl) :
    JE K X M E .cl (.Call (.Name x p) (a :: es) [] pos) (tCallS (spF K M φ) (fun _ => E) t) (fCall φ fr) := by
  have hK := C.hK
  subst hK
  refine ⟨pe_callS F (C.room.mono hj) hg hm hk hb (passesAt_of C.pas) ha.pa hdb he hpl, fun H0 G0 γ σ H G Q r ev hf p => ?_⟩
  unfold fCall at hf
  cases e1 : fr γ with
  | none => rw [e1] at hf; cases hf
  | some q1 =>
    rw [e1] at hf
    cases q1 with
    | er c => cases hf; exact ha.ac H0 G0 γ σ H G _ _ ev e1 p
    | ok ds =>
      refine ha.ac H0 G0 γ σ H G _ _ ev e1 fun vs H1 G1 s1 r1 => ⟨G1, ds, r, s1.sub, r1, hf, ?_⟩
      cases r with
      | ok d => exact fun v H' G' s' r' => p v H' G' (s1.trans s') r'
      | er c => exact fun H' G' s' => p H' G' (s1.trans s')
/-- .. its arguments operands (an own list), where a flat datum comes back -/
def fCallO (φ : List D → Option Rs) (a : Fa) : Fe := fun γ => bA (a γ) fun ds => match φ ds with
  | some (.ok d) => if flatD d = true then some (.ok d) else none
  | some (.er c) => some (.er c)
  | none => none
theorem ROs.ra {K : PySem.W.Frag} {H G : Hp} (e : Same G H) : ∀ {vs : List V} {ds : List D}, ROs K M H G vs ds → RA K M H vs ds
  | _, _, .nil => .nil
  | _, _, .cons r t => .cons (RO.r r e) (ROs.ra e t)
theorem flat_any {K : PySem.W.Frag} {G G' : Hp} {v : V} {d : D} (r : R K M G v d) (h : flatD d = true) : R K M G' v d := by
  cases r <;> first | exact .non | exact .bl _ | exact .int _ | exact .str _ | cases h
theorem je_callO {φ : List D → Option Rs} {j : Nat} {f : Addr} {fd : FuncData} {ps : List Str} {x : Str} {p : Pos} {es : List Expr} {t : TA} {fr : Fa} (C : CxF K X E k)
    (F : FnOk X.prog X.w X.K X.mg X.base (L2.CX X.prog X.w) j f fd ps (spF K M φ)) (hj : j ≤ k) (hb : Binds X.K fd ps []) (hm : X.mg x = some (.ref f)) (hk : PySem.W.keepIn X.K (.ref f) = true) (hg : Gl X x) (ha : JA K X M E (a :: es) t fr)
    (hdb : (x == ("__debug__" : Str)) = false := by decide) (he : starEach (a :: es) X.env = (false, eval a X.env) :: starEach es X.env := by rfl) (hpl : (backTo pos (starEach es X.env)).any (·.1) = false := by rfl) :
    JE K X M E .cl (.Call (.Name x p) (a :: es) [] pos) (tCallS (spF K M φ) (fun _ => E) t) (fCallO φ fr) := by
  have hK := C.hK
  subst hK
  refine ⟨pe_callS F (C.room.mono hj) hg hm hk hb (passesAt_of C.pas) ha.pa hdb he hpl, fun H0 G0 γ σ H G Q r ev hf p => ?_⟩
  unfold fCallO at hf
  cases e1 : fr γ with
  | none => rw [e1] at hf; cases hf
  | some q1 =>
    rw [e1] at hf
    cases q1 with
    | er c => cases hf; exact ha.ao H0 G0 γ σ H G _ _ ev e1 p
    | ok ds =>
      refine ha.ao H0 G0 γ σ H G _ _ ev e1 fun vs H1 G1 s1 r1 => ?_
      simp only [bA] at hf
      split at hf
      · rename_i d ed
        split at hf
        · rename_i hfl
          cases hf
          refine ⟨H1, ds, .ok d, Same.refl _, r1.ra s1.sub, ed, fun v H' G' s' r' => ?_⟩
          exact p v H' G1 (s1.trans ⟨s'.ex, Same.refl _, s1.sub.trans s'.ex, fun _ _ _ n => n⟩) (flat_any r' hfl)
        · cases hf
      · rename_i c ed
        cases hf
        exact ⟨H1, ds, .er c, Same.refl _, r1.ra s1.sub, ed, fun H' G' s' => p H' G1 (s1.trans ⟨s'.ex, Same.refl _, s1.sub.trans s'.ex, fun _ _ _ n => n⟩)⟩
      · cases hf

/-! ### calls of built-ins, by values -/
def CallS (K : PySem.W.Frag) (M : Pm) (m : Md) (r : List V → Hp → VK → Prop) (o : List D → Option D) : Prop :=
  ∀ (H G : Hp) (vs : List V) (ds : List D) (dz : D) (Q : VK), Same G H → ROs K M H G vs ds → o ds = some dz → (∀ v H' G', Stp H G H' G' → Res K M m H H' G' v dz → Q v H') → r vs H Q
def fB (o : List D → Option D) (a : Fa) : Fe := fun γ => bA (a γ) fun ds => oR (o ds)
theorem eo_blt {K : PySem.W.Frag} {r : List V → Hp → VK → Prop} {o : List D → Option D} {t : TA} {fr : Fa} (ho : CallS K M m r o) (ha : AO K M E t fr) : EO K M E m (tCB r t) (fB o fr) := by
  intro H0 G0 γ σ H G Q q ev hf p
  unfold fB at hf
  cases e1 : fr γ with
  | none => rw [e1] at hf; cases hf
  | some q1 =>
    rw [e1] at hf
    cases q1 with
    | er c => cases hf; exact ha H0 G0 γ σ H G _ _ ev e1 p
    | ok ds =>
      refine ha H0 G0 γ σ H G _ _ ev e1 fun vs H1 G1 s1 r1 => ?_
      simp only [bA] at hf
      cases e2 : o ds with
      | none => rw [e2] at hf; cases hf
      | some dz =>
        rw [e2] at hf
        cases hf
        exact ho H1 G1 vs ds dz Q s1.sub r1 e2 fun v H' G' s' r' => p v H' G' (s1.trans s') (r'.up s1.ex)
theorem je_callB {r : List V → Hp → VK → Prop} {o : List D → Option D} {t : TA} {fr : Fa} {es : List Expr} {id : String} {x : Str} {p : Pos} (hc : CallR X (.builtin id) r) (ho : CallS K M m r o) (hm : X.mg x = none) (hv : bootBuiltins x = some (.builtin id)) (hg : Gl X x) (ha : JA K X M E (a :: es) t fr)
    (hn : x ≠ "__name__" := by decide) (hdb : (x == ("__debug__" : Str)) = false := by decide)
    (he : starEach (a :: es) X.env = (false, eval a X.env) :: starEach es X.env := by rfl) (hpl : (backTo pos (starEach es X.env)).any (·.1) = false := by rfl) : JE K X M E m (.Call (.Name x p) (a :: es) [] pos) (tCB r t) (fB o fr) :=
  ⟨pe_callB hc hg hm hv ha.pa hn hdb he hpl, eo_blt ho ha.ao⟩
theorem je_callTy {r : List V → Hp → VK → Prop} {o : List D → Option D} {t : TA} {fr : Fa} {es : List Expr} {T : String} {x : Str} {p : Pos} (hc : CallR X (.type T) r) (ho : CallS K M m r o) (hm : X.mg x = none) (hv : bootBuiltins x = some (.type T)) (hg : Gl X x) (ha : JA K X M E (a :: es) t fr)
    (hn : x ≠ "__name__" := by decide) (hdb : (x == ("__debug__" : Str)) = false := by decide)
    (he : starEach (a :: es) X.env = (false, eval a X.env) :: starEach es X.env := by rfl) (hpl : (backTo pos (starEach es X.env)).any (·.1) = false := by rfl) : JE K X M E m (.Call (.Name x p) (a :: es) [] pos) (tCB r t) (fB o fr) :=
  ⟨pe_callTy hc hg hm hv ha.pa hn hdb he hpl, eo_blt ho ha.ao⟩
/-! len -/
def rLenA (K : PySem.W.Frag) : List V → Hp → VK → Prop := fun xs H Q => ∃ x n, xs = [x] ∧ LenV K x H n ∧ Q (.int n) H
def oLen : List D → Option D
  | [.list ds] => some (.int ds.length)
  | [.tuple ds] => some (.int ds.length)
  | [.str z] => if z.length ≤ big then some (.int z.length) else none
  | _ => none
theorem cs_len {K : PySem.W.Frag} : CallS K M .cl (rLenA K) oLen := by
  intro H G vs ds dz Q e r ho q
  unfold oLen at ho
  split at ho
  · rename_i ds
    cases ho
    cases r with
    | cons r t =>
      cases t
      obtain ⟨p, us, e1, h, r⟩ := r
      subst e1
      exact ⟨_, ds.length, rfl, .inl ⟨us, h, r.len.symm⟩, q _ H G (Stp.refl e) (R.int _)⟩
  · rename_i ds
    cases ho
    cases r with
    | cons r t =>
      cases t
      obtain ⟨p, us, e1, h, r2⟩ := R.tupI (show R K M G _ (.tuple ds) from r)
      subst e1
      exact ⟨_, ds.length, rfl, .inr ⟨us, same_T e h, r2.len.symm⟩, q _ H G (Stp.refl e) (R.int _)⟩
  · rename_i z
    split at ho
    · rename_i hz
      cases ho
      cases r with
      | cons r t =>
        cases t
        cases (show R K M G _ (.str z) from r)
        exact ⟨_, z.length, rfl, ⟨big_line hz, rfl⟩, q _ H G (Stp.refl e) (R.int _)⟩
    · cases ho
  · cases ho
theorem je_len {p : Pos} (C : CxF K X E k) (hm : X.mg "len" = none) (hg : Gl X "len") (ha : JE K X M E .op a ta fa) (hs : starEach [a] X.env = (false, eval a X.env) :: starEach [] X.env := by rfl) : JE K X M E .cl (.Call (.Name "len" p) [a] [] pos) (tCB (rLenA K) (tCons ta tNil)) (fB oLen (fCons fa fNil)) := by
  have hK := C.hK
  subst hK
  exact je_callB call_len cs_len hm PySem.boot_len hg (ja_cons ha ja_nil hs) (by decide) (by decide) hs rfl
end
end Py


/-! PyD: tests, truth values, walks, comprehensions -/
namespace Py
open PySem PySem.Spec PyProof.Rows L2

section
variable {K : PySem.W.Frag} {X : Cx} {M : Pm} {E : XK} {k : Nat} {m : Md} {a b e c : Expr} {ta tb te tc : TE} {fa fb fe fc : Fe} {pos : Pos}

/-! ### tests -/
def fT (f : Fe) : Ft := fun γ => match f γ with
  | some (.ok (.bool b)) => some (.ok b)
  | some (.er c) => some (.er c)
  | _ => none
theorem Res.bool {K : PySem.W.Frag} {H0 H G : Hp} {v : V} {b : Bool} (r : Res K M m H0 H G v (.bool b)) : v = .bl b := by
  cases m <;> exact (by cases (show R K M G v (.bool b) from r); rfl)
theorem to_val {K : PySem.W.Frag} (h : EO K M E m ta fa) : TO' K M E (tTest ta) (fT fa) := by
  intro H0 G0 γ σ H G Q r ev hf p
  unfold fT at hf
  split at hf
  · rename_i b e1
    cases hf
    exact h H0 G0 γ σ H G _ _ ev e1 fun v H' G' s r => ⟨b, r.bool, p H' G' s⟩
  · rename_i c e1
    cases hf
    exact h H0 G0 γ σ H G _ _ ev e1 p
  · cases hf
theorem jt_val (h : JE K X M E m a ta fa) (he : ∀ whole, isTrue a X.env whole = (do let v ← whole; standAt a.pos; holding [v] (truthy v)) := by intro _; rfl) : JT K X M E a (tTest ta) (fT fa) := ⟨pt_val h.pe he, to_val h.eo⟩
theorem jt_cmpR {op : CmpOp} {r : R2} {o : D → D → Option D} (hr : OpR X (compareOp op) r) (ho : OpS K M m r o) (ha : JE K X M E .op a ta fa) (hb : JE K X M E .op b tb fb) (hm : behindInMarks op b = false) : JT K X M E (.Compare a [op] [b] pos) (tTest (tOp r ta tb)) (fT (f2 o fa fb)) :=
  ⟨pt_cmpR hr ha.pe hb.pe hm, to_val (eo_op2 ho ha.eo hb.eo)⟩
theorem jt_lt (ha : JE K X M E .op a ta fa) (hb : JE K X M E .op b tb fb) : JT K X M E (.Compare a [.Lt] [b] pos) (tTest (tOp (rI0 fun i j => .bl (decide (i < j))) ta tb)) (fT (f2 oLt fa fb)) := jt_cmpR op_lt (ops_I0 fun _ _ _ => .bl _) ha hb (nomark _)
theorem jt_le (ha : JE K X M E .op a ta fa) (hb : JE K X M E .op b tb fb) : JT K X M E (.Compare a [.LtE] [b] pos) (tTest (tOp (rI0 fun i j => .bl (decide (i ≤ j))) ta tb)) (fT (f2 oLe fa fb)) := jt_cmpR op_le (ops_I0 fun _ _ _ => .bl _) ha hb (nomark _)
theorem jt_gt (ha : JE K X M E .op a ta fa) (hb : JE K X M E .op b tb fb) : JT K X M E (.Compare a [.Gt] [b] pos) (tTest (tOp (rI0 fun i j => .bl (decide (j < i))) ta tb)) (fT (f2 oGt fa fb)) := jt_cmpR op_gt (ops_I0 fun _ _ _ => .bl _) ha hb (nomark _)
theorem jt_ge (ha : JE K X M E .op a ta fa) (hb : JE K X M E .op b tb fb) : JT K X M E (.Compare a [.GtE] [b] pos) (tTest (tOp (rI0 fun i j => .bl (decide (j ≤ i))) ta tb)) (fT (f2 oGe fa fb)) := jt_cmpR op_ge (ops_I0 fun _ _ _ => .bl _) ha hb (nomark _)
theorem jt_eq (C : CxF K X E k) (ha : JE K X M E .op a ta fa) (hb : JE K X M E .op b tb fb) : JT K X M E (.Compare a [.Eq] [b] pos) (tTest (tOp (rEqAll K) ta tb)) (fT (f2 oEq fa fb)) := by
  have hK := C.hK
  subst hK
  exact jt_cmpR (OpR.or op_eq (op_eqD C.room.units)) ops_eq ha hb (nomark _)
theorem jt_ne (C : CxF K X E k) (ha : JE K X M E .op a ta fa) (hb : JE K X M E .op b tb fb) : JT K X M E (.Compare a [.NotEq] [b] pos) (tTest (tOp (rNeAll K) ta tb)) (fT (f2 oNe fa fb)) := by
  have hK := C.hK
  subst hK
  exact jt_cmpR (OpR.or op_ne (op_neD C.room.units)) ops_ne ha hb (nomark _)
theorem jt_in (C : CxF K X E k) (ha : JE K X M E .op a ta fa) (hb : JE K X M E .op b tb fb) (hm : behindInMarks .In b = false := by rfl) : JT K X M E (.Compare a [.In] [b] pos) (tTest (tOp (rInAll K) ta tb)) (fT (f2 (oIn false) fa fb)) := by
  have hK := C.hK
  subst hK
  exact jt_cmpR (OpR.or (OpR.or op_in_seq (op_inD (by have := C.room.un; omega))) op_in_sign) ops_in ha hb hm
theorem jt_ni (C : CxF K X E k) (ha : JE K X M E .op a ta fa) (hb : JE K X M E .op b tb fb) (hm : behindInMarks .NotIn b = false := by rfl) : JT K X M E (.Compare a [.NotIn] [b] pos) (tTest (tOp (rNiAll K) ta tb)) (fT (f2 (oIn true) fa fb)) := by
  have hK := C.hK
  subst hK
  exact jt_cmpR (OpR.or (OpR.or op_notIn_seq (op_notInD (by have := C.room.un; omega))) op_notIn_sign) ops_ni ha hb hm
def gAnd (f g : Ft) : Ft := fun γ => match f γ with
  | some (.ok true) => g γ
  | some (.ok false) => some (.ok false)
  | some (.er c) => some (.er c)
  | none => none
def gOr (f g : Ft) : Ft := fun γ => match f γ with
  | some (.ok false) => g γ
  | some (.ok true) => some (.ok true)
  | some (.er c) => some (.er c)
  | none => none
def gNot (f : Ft) : Ft := fun γ => match f γ with
  | some (.ok b) => some (.ok (!b))
  | some (.er c) => some (.er c)
  | none => none
theorem PostT.up {H G H1 G1 : Hp} {Q : Bool → Hp → Prop} {r : Rb} (s : Stp H G H1 G1) (p : PostT M E H G Q r) : PostT M E H1 G1 Q r := by
  cases r with
  | ok b => exact fun H' G' s' => p H' G' (s.trans s')
  | er c => exact fun H' G' s' => p H' G' (s.trans s')
theorem to_and {K : PySem.W.Frag} {t u : TT} {f g : Ft} (h1 : TO' K M E t f) (h2 : TO' K M E u g) : TO' K M E (tAnd t u) (gAnd f g) := by
  intro H0 G0 γ σ H G Q r ev hf p
  unfold gAnd at hf
  split at hf
  · rename_i e1
    refine h1 H0 G0 γ σ H G _ _ ev e1 fun H' G' s => ?_
    rw [if_pos rfl]
    exact h2 H0 G0 γ σ H' G' Q r (ev.stp s) hf (p.up s)
  · rename_i e1
    cases hf
    refine h1 H0 G0 γ σ H G _ _ ev e1 fun H' G' s => ?_
    rw [if_neg Bool.false_ne_true]
    exact p H' G' s
  · rename_i e1
    cases hf
    exact h1 H0 G0 γ σ H G _ _ ev e1 p
  · cases hf
theorem to_or {K : PySem.W.Frag} {t u : TT} {f g : Ft} (h1 : TO' K M E t f) (h2 : TO' K M E u g) : TO' K M E (tOr t u) (gOr f g) := by
  intro H0 G0 γ σ H G Q r ev hf p
  unfold gOr at hf
  split at hf
  · rename_i e1
    refine h1 H0 G0 γ σ H G _ _ ev e1 fun H' G' s => ?_
    rw [if_neg Bool.false_ne_true]
    exact h2 H0 G0 γ σ H' G' Q r (ev.stp s) hf (p.up s)
  · rename_i e1
    cases hf
    refine h1 H0 G0 γ σ H G _ _ ev e1 fun H' G' s => ?_
    rw [if_pos rfl]
    exact p H' G' s
  · rename_i e1
    cases hf
    exact h1 H0 G0 γ σ H G _ _ ev e1 p
  · cases hf
theorem jt_not {t : TT} {f : Ft} (h : JT K X M E a t f) : JT K X M E (.UnaryOp .Not a pos) (tNot t) (gNot f) := ⟨pt_not h.pt, fun H0 G0 γ σ H G Q r ev hf p => by
  unfold gNot at hf
  split at hf
  · rename_i b e1
    cases hf
    exact h.to H0 G0 γ σ H G _ _ ev e1 p
  · rename_i e1
    cases hf
    exact h.to H0 G0 γ σ H G _ _ ev e1 p
  · cases hf⟩
theorem JW.jt {t : TT} {f : Ft} (h : JW K X M E a t f) : JT K X M E a t f := ⟨h.pw.pt, h.to⟩
theorem jw_and1 {t : TT} {f : Ft} (h : JT K X M E a t f) : JW K X M E (.BoolOp .And [a] pos) t f := ⟨pw_and1 h.pt, h.to⟩
theorem jw_or1 {t : TT} {f : Ft} (h : JT K X M E a t f) : JW K X M E (.BoolOp .Or [a] pos) t f := ⟨pw_or1 h.pt, h.to⟩
theorem jw_and {t u : TT} {f g : Ft} {rest : List Expr} (h : JT K X M E a t f) (h2 : JW K X M E (.BoolOp .And (b :: rest) pos) u g) : JW K X M E (.BoolOp .And (a :: b :: rest) pos) (tAnd t u) (gAnd f g) := ⟨pw_and h.pt h2.pw, to_and h.to h2.to⟩
theorem jw_or {t u : TT} {f g : Ft} {rest : List Expr} (h : JT K X M E a t f) (h2 : JW K X M E (.BoolOp .Or (b :: rest) pos) u g) : JW K X M E (.BoolOp .Or (a :: b :: rest) pos) (tOr t u) (gOr f g) := ⟨pw_or h.pt h2.pw, to_or h.to h2.to⟩

/-! ### and, or, not, if as values -/
def fAnd (f g : Fe) : Fe := fun γ => match f γ with
  | some (.ok (.bool true)) => g γ
  | some (.ok (.bool false)) => some (.ok (.bool false))
  | some (.er c) => some (.er c)
  | _ => none
def fOr (f g : Fe) : Fe := fun γ => match f γ with
  | some (.ok (.bool false)) => g γ
  | some (.ok (.bool true)) => some (.ok (.bool true))
  | some (.er c) => some (.er c)
  | _ => none
def fNot (f : Fe) : Fe := fun γ => match f γ with
  | some (.ok (.bool b)) => some (.ok (.bool (!b)))
  | some (.er c) => some (.er c)
  | _ => none
def fIte (t : Ft) (f g : Fe) : Fe := fun γ => match t γ with
  | some (.ok true) => f γ
  | some (.ok false) => g γ
  | some (.er c) => some (.er c)
  | none => none
theorem PostE.up {K : PySem.W.Frag} {H G H1 G1 : Hp} {Q : VK} {r : Rs} (s : Stp H G H1 G1) (p : PostE K M E m H G Q r) : PostE K M E m H1 G1 Q r := by
  cases r with
  | ok b => exact fun v H' G' s' r' => p v H' G' (s.trans s') (r'.up s.ex)
  | er c => exact fun H' G' s' => p H' G' (s.trans s')
theorem je_one {op : PySem.BoolOp} (h : JE K X M E m a ta fa) : JE K X M E m (.BoolOp op [a] pos) ta fa := ⟨pe_one h.pe, h.eo⟩
theorem je_and {rest : List Expr} (ha : JE K X M E .cl a ta fa) (hb : JE K X M E .cl (.BoolOp .And (b :: rest) pos) tb fb) : JE K X M E .cl (.BoolOp .And (a :: b :: rest) pos) (tAndV ta tb) (fAnd fa fb) := by
  refine ⟨pe_and ha.pe hb.pe, fun H0 G0 γ σ H G Q r ev hf p => ?_⟩
  unfold fAnd at hf
  split at hf
  · rename_i e1
    refine ha.eo H0 G0 γ σ H G _ _ ev e1 fun v H' G' s r' => ⟨true, Res.bool (m := .cl) r', ?_⟩
    rw [if_pos rfl]
    exact hb.eo H0 G0 γ σ H' G' Q r (ev.stp s) hf (p.up s)
  · rename_i e1
    cases hf
    refine ha.eo H0 G0 γ σ H G _ _ ev e1 fun v H' G' s r' => ⟨false, Res.bool (m := .cl) r', ?_⟩
    rw [if_neg Bool.false_ne_true]
    exact p _ H' G' s (R.bl false)
  · rename_i e1
    cases hf
    exact ha.eo H0 G0 γ σ H G _ _ ev e1 p
  · cases hf
theorem je_or {rest : List Expr} (ha : JE K X M E .cl a ta fa) (hb : JE K X M E .cl (.BoolOp .Or (b :: rest) pos) tb fb) : JE K X M E .cl (.BoolOp .Or (a :: b :: rest) pos) (tOrV ta tb) (fOr fa fb) := by
  refine ⟨pe_or ha.pe hb.pe, fun H0 G0 γ σ H G Q r ev hf p => ?_⟩
  unfold fOr at hf
  split at hf
  · rename_i e1
    refine ha.eo H0 G0 γ σ H G _ _ ev e1 fun v H' G' s r' => ⟨false, Res.bool (m := .cl) r', ?_⟩
    rw [if_neg Bool.false_ne_true]
    exact hb.eo H0 G0 γ σ H' G' Q r (ev.stp s) hf (p.up s)
  · rename_i e1
    cases hf
    refine ha.eo H0 G0 γ σ H G _ _ ev e1 fun v H' G' s r' => ⟨true, Res.bool (m := .cl) r', ?_⟩
    rw [if_pos rfl]
    exact p _ H' G' s (R.bl true)
  · rename_i e1
    cases hf
    exact ha.eo H0 G0 γ σ H G _ _ ev e1 p
  · cases hf
theorem je_not (ha : JE K X M E .cl a ta fa) : JE K X M E .cl (.UnaryOp .Not a pos) (tNotV ta) (fNot fa) := by
  refine ⟨pe_not ha.pe, fun H0 G0 γ σ H G Q r ev hf p => ?_⟩
  unfold fNot at hf
  split at hf
  · rename_i b e1
    cases hf
    exact ha.eo H0 G0 γ σ H G _ _ ev e1 fun v H' G' s r' => ⟨b, Res.bool (m := .cl) r', p _ H' G' s (R.bl (!b))⟩
  · rename_i e1
    cases hf
    exact ha.eo H0 G0 γ σ H G _ _ ev e1 p
  · cases hf
theorem je_if {t : TT} {f : Ft} (ht : JT K X M E c t f) (ha : JE K X M E m a ta fa) (hb : JE K X M E m b tb fb) : JE K X M E m (.IfExp c a b pos) (tIf t ta tb) (fIte f fa fb) := by
  refine ⟨pe_ifExp ht.pt ha.pe hb.pe, fun H0 G0 γ σ H G Q r ev hf p => ?_⟩
  unfold fIte at hf
  split at hf
  · rename_i e1
    refine ht.to H0 G0 γ σ H G _ _ ev e1 fun H' G' s => ?_
    rw [if_pos rfl]
    exact ha.eo H0 G0 γ σ H' G' Q r (ev.stp s) hf (p.up s)
  · rename_i e1
    refine ht.to H0 G0 γ σ H G _ _ ev e1 fun H' G' s => ?_
    rw [if_neg Bool.false_ne_true]
    exact hb.eo H0 G0 γ σ H' G' Q r (ev.stp s) hf (p.up s)
  · rename_i e1
    cases hf
    exact ht.to H0 G0 γ σ H G _ _ ev e1 p
  · cases hf
/-- -i of a written number -/
def oNeg : D → Option D
  | .int i => some (.int (-i))
  | _ => none
theorem je_neg (ha : JE K X M E .op a ta fa) : JE K X M E .cl (.UnaryOp .USub a pos) (tUn (rU fun i => .int (-i)) ta) (f1 oNeg fa) := by
  refine ⟨pe_un un_neg ha.pe, fun H0 G0 γ σ H G Q r ev hf p => ?_⟩
  unfold f1 at hf
  cases e1 : fa γ with
  | none => rw [e1] at hf; cases hf
  | some q1 =>
    rw [e1] at hf
    cases q1 with
    | er c => cases hf; exact ha.eo H0 G0 γ σ H G _ _ ev e1 p
    | ok d =>
      refine ha.eo H0 G0 γ σ H G _ _ ev e1 fun v H' G' s r' => ?_
      cases d with
      | int i =>
        cases hf
        cases (show R K M G' v (.int i) from r')
        exact ⟨i, rfl, p _ H' G' s (R.int _)⟩
      | _ => cases hf

/-! ### what is walked -/
def ItR (K : PySem.W.Frag) (M : Pm) (J : It) (G1 : Hp) (ds : List D) : Prop := ∀ (H2 G2 : Hp), Same G1 G2 → Same G2 H2 → ∀ i : Nat,
  (i < ds.length → J.go i H2) ∧ (∀ (x : V) (H3 : Hp) (d : D), ds[i]? = some d → J.yld i H2 x H3 → ∃ G3, Stp H2 G2 H3 G3 ∧ R K M G3 x d) ∧ (ds.length ≤ i → J.stop i H2)
def PostR (K : PySem.W.Frag) (M : Pm) (E : XK) (H G : Hp) (Q : It → Hp → Prop) : Rl → Prop
  | .ok ds => ∀ J H' G', Stp H G H' G' → ItR K M J G' ds → Q J H'
  | .er c => ∀ H' G', Stp H G H' G' → E (M.exc c) none H'
def WO (K : PySem.W.Frag) (M : Pm) (E : XK) (t : TI) (f : Fa) : Prop := ∀ (H0 G0 : Hp) (γ : Ge) (σ : L2.St) (H G : Hp) (Q : It → Hp → Prop) (r : Rl), EnvR K M H0 G0 γ σ H G → f γ = some r → PostR K M E H G Q r → t σ H Q
structure JI (K : PySem.W.Frag) (X : Cx) (M : Pm) (E : XK) (tg e : Expr) (t : TI) (f : Fa) : Prop where
  pi : PI X tg e t
  wo : WO K M E t f
def wLst (a : Fe) : Fa := fun γ => match a γ with
  | some (.ok (.list ds)) => some (.ok ds)
  | some (.er c) => some (.er c)
  | _ => none
def wTup (a : Fe) : Fa := fun γ => match a γ with
  | some (.ok (.tuple ds)) => some (.ok ds)
  | some (.er c) => some (.er c)
  | _ => none
def wStr (a : Fe) : Fa := fun γ => match a γ with
  | some (.ok (.str z)) => some (.ok (z.cps.toList.map fun c => .str ⟨#[c]⟩))
  | some (.er c) => some (.er c)
  | _ => none
theorem get_lt {ds : List D} {i : Nat} {d : D} (h : ds[i]? = some d) : i < ds.length := (List.getElem?_eq_some_iff.mp h).1
theorem ji_list {tg : Expr} (C : CxF K X E k) (ha : JE K X M E .cl a ta fa) : JI K X M E tg a (iList K ta) (wLst fa) := by
  have hK := C.hK
  subst hK
  refine ⟨pi_list ha.pe, fun H0 G0 γ σ H G Q r ev hf p => ?_⟩
  unfold wLst at hf
  split at hf
  · rename_i ds e1
    cases hf
    refine ha.eo H0 G0 γ σ H G _ _ ev e1 fun v H1 G1 s1 r1 => ?_
    cases (show R X.K M G1 v (.list ds) from r1) with
    | lst h r =>
      rename_i l us
      refine ⟨l, rfl, ⟨us, s1.sub.seq h⟩, p _ H1 G1 s1 fun H2 G2 g1 g2 i => ⟨fun hi => ?_, fun x H3 d hd y => ?_, fun hi => ?_⟩⟩
      · have hu : i < us.length := by rw [r.len]; exact hi
        exact ⟨us, us[i], (g1.trans g2).seq h, List.getElem?_eq_getElem hu⟩
      · obtain ⟨e3, y⟩ := y
        subst e3
        obtain ⟨v, h1, h2⟩ := r.get hd
        have := y us ((g1.trans g2).seq h)
        rw [h1] at this
        cases this
        exact ⟨G2, Stp.refl g2, h2.mono g1⟩
      · exact ⟨us, (g1.trans g2).seq h, by rw [r.len]; exact hi⟩
  · rename_i e1
    cases hf
    exact ha.eo H0 G0 γ σ H G _ _ ev e1 p
  · cases hf
theorem ji_tup {tg : Expr} (C : CxF K X E k) (ha : JE K X M E .cl a ta fa) : JI K X M E tg a (iTup K ta) (wTup fa) := by
  have hK := C.hK
  subst hK
  refine ⟨pi_tup ha.pe, fun H0 G0 γ σ H G Q r ev hf p => ?_⟩
  unfold wTup at hf
  split at hf
  · rename_i ds e1
    cases hf
    refine ha.eo H0 G0 γ σ H G _ _ ev e1 fun v H1 G1 s1 r1 => ?_
    cases (show R X.K M G1 v (.tuple ds) from r1) with
    | tup h r =>
      rename_i l us
      refine ⟨l, rfl, ⟨us, same_T s1.sub h⟩, p _ H1 G1 s1 fun H2 G2 g1 g2 i => ⟨fun hi => ?_, fun x H3 d hd y => ?_, fun hi => ?_⟩⟩
      · have hu : i < us.length := by rw [r.len]; exact hi
        exact ⟨us, us[i], same_T (g1.trans g2) h, List.getElem?_eq_getElem hu⟩
      · obtain ⟨e3, y⟩ := y
        subst e3
        obtain ⟨v, h1, h2⟩ := r.get hd
        have := y us (same_T (g1.trans g2) h)
        rw [h1] at this
        cases this
        exact ⟨G2, Stp.refl g2, h2.mono g1⟩
      · exact ⟨us, same_T (g1.trans g2) h, by rw [r.len]; exact hi⟩
  · rename_i e1
    cases hf
    exact ha.eo H0 G0 γ σ H G _ _ ev e1 p
  · cases hf
theorem ji_str {tg : Expr} (ha : JE K X M E .cl a ta fa) : JI K X M E tg a (iStr ta) (wStr fa) := by
  refine ⟨pi_str ha.pe, fun H0 G0 γ σ H G Q r ev hf p => ?_⟩
  unfold wStr at hf
  split at hf
  · rename_i z e1
    cases hf
    refine ha.eo H0 G0 γ σ H G _ _ ev e1 fun v H1 G1 s1 r1 => ?_
    cases (show R K M G1 v (.str z) from r1)
    refine ⟨z, rfl, p _ H1 G1 s1 fun H2 G2 g1 g2 i => ⟨fun hi => ?_, fun x H3 d hd y => ?_, fun hi => ?_⟩⟩
    · simpa [Its] using hi
    · obtain ⟨e3, c, hc, e4⟩ := y
      subst e3; subst e4
      rw [List.getElem?_map, Array.getElem?_toList, hc] at hd
      cases hd
      exact ⟨G2, Stp.refl g2, .str _⟩
    · simpa [Its] using hi
  · rename_i e1
    cases hf
    exact ha.eo H0 G0 γ σ H G _ _ ev e1 p
  · cases hf
/-- range(n), range(a, b) -/
def rgD (lo hi : Int) : List D := (List.range (hi - lo).toNat).map fun i => .int (lo + (i : Nat))
def rgOk (lo hi : Int) : Bool := decide (-8000000 ≤ lo) && decide (lo ≤ 8000000) && decide (-8000000 ≤ hi) && decide (hi ≤ 8000000)
theorem rgD_len (lo hi : Int) : (rgD lo hi).length = (hi - lo).toNat := by unfold rgD; rw [List.length_map, List.length_range]
theorem rgD_get {lo hi : Int} {i : Nat} {d : D} (h : (rgD lo hi)[i]? = some d) : d = .int (lo + (i : Nat)) := by
  unfold rgD at h
  rw [List.getElem?_map] at h
  cases e : (List.range (hi - lo).toNat)[i]? with
  | none => rw [e] at h; cases h
  | some j =>
    rw [e] at h
    have hj : i < (List.range (hi - lo).toNat).length := (List.getElem?_eq_some_iff.mp e).1
    rw [List.getElem?_eq_getElem hj] at e
    rw [List.getElem_range] at e
    cases e
    exact (Option.some.inj h).symm
theorem itr_range {K : PySem.W.Frag} {G1 : Hp} (lo hi : Int) : ItR K M (Itr lo (hi - lo).toNat) G1 (rgD lo hi) := by
  intro H2 G2 g1 g2 i
  refine ⟨fun h => by rw [rgD_len] at h; exact h, fun x H3 d hd y => ?_, fun h => by rw [rgD_len] at h; exact h⟩
  obtain ⟨e1, e2⟩ := y
  subst e1; subst e2
  rw [rgD_get hd]
  exact ⟨G2, Stp.refl g2, .int _⟩
def wRg1 (a : Fa) : Fa := fun γ => match a γ with
  | some (.ok [.int j]) => if rgOk 0 j = true then some (.ok (rgD 0 j)) else none
  | some (.er c) => some (.er c)
  | _ => none
def wRg2 (a : Fa) : Fa := fun γ => match a γ with
  | some (.ok [.int i, .int j]) => if rgOk i j = true then some (.ok (rgD i j)) else none
  | some (.er c) => some (.er c)
  | _ => none
theorem rgOk_of {lo hi : Int} (h : rgOk lo hi = true) : -(2 ^ 62) ≤ lo ∧ lo < 2 ^ 62 ∧ -(2 ^ 62) ≤ hi ∧ hi < 2 ^ 62 := by
  unfold rgOk at h
  simp only [Bool.and_eq_true, decide_eq_true_eq] at h
  omega
theorem ji_rg1 {tg : Expr} {p : Pos} (hm : X.mg "range" = none) (hg : Gl X "range") (ha : JE K X M E .op a ta fa) (hs : starEach [a] X.env = [(false, eval a X.env)] := by rfl) (hs2 : starEach [a] X.env = (false, eval a X.env) :: starEach [] X.env := by rfl) :
    JI K X M E tg (.Call (.Name "range" p) [a] [] pos) (iRng1 (tCons ta tNil)) (wRg1 (fCons fa fNil)) := by
  have A := ja_cons ha (ja_nil (K := K) (X := X) (M := M) (E := E)) hs2
  refine ⟨pi_range1 hg hm A.pa hs, fun H0 G0 γ σ H G Q r ev hf p => ?_⟩
  unfold wRg1 at hf
  split at hf
  · rename_i j e1
    split at hf
    · rename_i hr
      cases hf
      refine A.ao H0 G0 γ σ H G _ _ ev e1 fun vs H1 G1 s1 r1 => ?_
      cases r1 with
      | cons r t =>
        cases t
        cases (show R K M G1 _ (.int j) from r)
        obtain ⟨_, _, h3, h4⟩ := rgOk_of hr
        refine ⟨j, rfl, h3, h4, p _ H1 G1 s1 ?_⟩
        have := itr_range (K := K) (M := M) (G1 := G1) 0 j
        rw [Int.sub_zero] at this
        exact this
    · cases hf
  · rename_i e1
    cases hf
    exact A.ao H0 G0 γ σ H G _ _ ev e1 p
  · cases hf
theorem ji_rg2 {tg : Expr} {p : Pos} (hm : X.mg "range" = none) (hg : Gl X "range") (ha : JE K X M E .op a ta fa) (hb : JE K X M E .op b tb fb) (hs : starEach [a, b] X.env = [(false, eval a X.env), (false, eval b X.env)] := by rfl) (hs2 : starEach [b] X.env = [(false, eval b X.env)] := by rfl)
    (hs3 : starEach [a, b] X.env = (false, eval a X.env) :: starEach [b] X.env := by rfl) (hs4 : starEach [b] X.env = (false, eval b X.env) :: starEach [] X.env := by rfl) :
    JI K X M E tg (.Call (.Name "range" p) [a, b] [] pos) (iRng2 (tCons ta (tCons tb tNil))) (wRg2 (fCons fa (fCons fb fNil))) := by
  have A := ja_cons ha (ja_cons hb (ja_nil (K := K) (X := X) (M := M) (E := E)) hs4) hs3
  refine ⟨pi_range2 hg hm A.pa hs hs2, fun H0 G0 γ σ H G Q r ev hf p => ?_⟩
  unfold wRg2 at hf
  split at hf
  · rename_i i j e1
    split at hf
    · rename_i hr
      cases hf
      refine A.ao H0 G0 γ σ H G _ _ ev e1 fun vs H1 G1 s1 r1 => ?_
      cases r1 with
      | cons r t =>
        cases t with
        | cons r' t =>
          cases t
          cases (show R K M G1 _ (.int i) from r)
          cases (show R K M G1 _ (.int j) from r')
          exact ⟨i, j, rfl, rgOk_of hr, p _ H1 G1 s1 (itr_range i j)⟩
    · cases hf
  · rename_i e1
    cases hf
    exact A.ao H0 G0 γ σ H G _ _ ev e1 p
  · cases hf
/-- zip(xs, ys) -/
def wZip (a : Fa) : Fa := fun γ => match a γ with
  | some (.ok [.list xs, .list ys]) => some (.ok ((xs.zip ys).map fun p => .tuple [p.1, p.2]))
  | some (.er c) => some (.er c)
  | _ => none
theorem zip_get {xs ys : List D} {i : Nat} {d : D} (h : ((xs.zip ys).map fun p => PyData.tuple [p.1, p.2])[i]? = some d) : ∃ x y, xs[i]? = some x ∧ ys[i]? = some y ∧ d = .tuple [x, y] := by
  rw [List.getElem?_map] at h
  cases e : (xs.zip ys)[i]? with
  | none => rw [e] at h; cases h
  | some q =>
    rw [e] at h
    obtain ⟨x, y⟩ := q
    rw [List.getElem?_zip_eq_some] at e
    exact ⟨x, y, e.1, e.2, (Option.some.inj h).symm⟩
end
end Py


/-! PyE: zip, enumerate, targets, comprehensions -/
namespace Py
open PySem PySem.Spec PyProof.Rows L2

section
variable {K : PySem.W.Frag} {X : Cx} {M : Pm} {E : XK} {k : Nat} {m : Md} {a b e c : Expr} {ta tb te tc : TE} {fa fb fe fc : Fe} {pos : Pos}
theorem ji_zip {es : List Expr} {kk : Nat} {tpos p : Pos} (C : CxF K X E k) (hm : X.mg "zip" = none) (hg : Gl X "zip") (ha : JE K X M E .cl a ta fa) (hb : JE K X M E .cl b tb fb)
    (hs3 : starEach [a, b] X.env = (false, eval a X.env) :: starEach [b] X.env := by rfl) (hs4 : starEach [b] X.env = (false, eval b X.env) :: starEach [] X.env := by rfl) (hpl : (backTo pos (starEach [b] X.env)).any (·.1) = false := by rfl) :
    JI K X M E (.Tuple es kk tpos) (.Call (.Name "zip" p) [a, b] [] pos) (iZip K (tCons ta (tCons tb tNil))) (wZip (fCons fa (fCons fb fNil))) := by
  have hK := C.hK
  subst hK
  have A := jc_cons ha (jc_cons hb (jc_nil (K := X.K) (X := X) (M := M) (E := E)) hs4) hs3
  refine ⟨pi_zip hg hm A.pa hs3 hpl, fun H0 G0 γ σ H G Q r ev hf p => ?_⟩
  unfold wZip at hf
  split at hf
  · rename_i xs ys e1
    cases hf
    refine A.ac H0 G0 γ σ H G _ _ ev e1 fun vs H1 G1 s1 r1 => ?_
    cases r1 with
    | cons r t =>
      cases t with
      | cons r' t =>
        cases t
        cases (show R X.K M G1 _ (.list xs) from r) with
        | lst h rx =>
          rename_i l us
          cases (show R X.K M G1 _ (.list ys) from r') with
          | lst h' ry =>
            rename_i l' us'
            refine ⟨l, l', us, us', rfl, s1.sub.seq h, s1.sub.seq h', p _ H1 G1 s1 fun H2 G2 g1 g2 i => ⟨fun hi => ?_, fun x H3 d hd y => ?_, fun hi => ?_⟩⟩
            · rw [List.length_map, List.length_zip] at hi
              have hu : i < us.length := by rw [rx.len]; omega
              have hu' : i < us'.length := by rw [ry.len]; omega
              exact ⟨us, us', us[i], us'[i], (g1.trans g2).seq h, (g1.trans g2).seq h', List.getElem?_eq_getElem hu, List.getElem?_eq_getElem hu'⟩
            · obtain ⟨T, x1, y1, e2, nT, e3, f1, f2⟩ := y
              subst e2; subst e3
              obtain ⟨dx, dy, h1, h2, e4⟩ := zip_get hd
              subst e4
              obtain ⟨v, q1, q2⟩ := rx.get h1
              obtain ⟨v', q1', q2'⟩ := ry.get h2
              have z1 := f1 us ((g1.trans g2).seq h)
              have z2 := f2 us' ((g1.trans g2).seq h')
              obtain rfl : v = x1 := Option.some.inj (q1.symm.trans z1)
              obtain rfl : v' = y1 := Option.some.inj (q1'.symm.trans z2)
              have s := Stp.new (o := .tup [v, v']) g2 nT
              exact ⟨_, s, R.tup (.of upd_same) (.cons (R.mono s.eg (q2.mono g1)) (.cons (R.mono s.eg (q2'.mono g1)) .nil))⟩
            · rw [List.length_map, List.length_zip] at hi
              refine ⟨us, us', (g1.trans g2).seq h, (g1.trans g2).seq h', ?_⟩
              rw [rx.len, ry.len]
              omega
  · rename_i e1
    cases hf
    exact A.ac H0 G0 γ σ H G _ _ ev e1 p
  · cases hf
def enD (ds : List D) : List D := (List.range ds.length).map fun i => .tuple [.int (i : Nat), ds.getD i .none]
def wEnum (a : Fa) : Fa := fun γ => match a γ with
  | some (.ok [.list xs]) => some (.ok (enD xs))
  | some (.er c) => some (.er c)
  | _ => none
theorem enD_get {ds : List D} {i : Nat} {d : D} (h : (enD ds)[i]? = some d) : ∃ x, ds[i]? = some x ∧ d = .tuple [.int (i : Nat), x] := by
  unfold enD at h
  rw [List.getElem?_map] at h
  cases e : (List.range ds.length)[i]? with
  | none => rw [e] at h; cases h
  | some j =>
    rw [e] at h
    have hj : i < (List.range ds.length).length := (List.getElem?_eq_some_iff.mp e).1
    rw [List.getElem?_eq_getElem hj, List.getElem_range] at e
    cases e
    rw [List.length_range] at hj
    refine ⟨ds[i], List.getElem?_eq_getElem hj, ?_⟩
    have h := (Option.some.inj h).symm
    rw [h]
    simp [List.getD, hj]
theorem ji_enum {es : List Expr} {kk : Nat} {tpos p : Pos} (C : CxF K X E k) (hm : X.mg "enumerate" = none) (hg : Gl X "enumerate") (ha : JE K X M E .cl a ta fa)
    (hs : starEach [a] X.env = [(false, eval a X.env)] := by rfl) (hs4 : starEach [a] X.env = (false, eval a X.env) :: starEach [] X.env := by rfl) :
    JI K X M E (.Tuple es kk tpos) (.Call (.Name "enumerate" p) [a] [] pos) (iEnum K (tCons ta tNil)) (wEnum (fCons fa fNil)) := by
  have hK := C.hK
  subst hK
  have A := jc_cons ha (jc_nil (K := X.K) (X := X) (M := M) (E := E)) hs4
  refine ⟨pi_enum hg hm A.pa hs, fun H0 G0 γ σ H G Q r ev hf p => ?_⟩
  unfold wEnum at hf
  split at hf
  · rename_i xs e1
    cases hf
    refine A.ac H0 G0 γ σ H G _ _ ev e1 fun vs H1 G1 s1 r1 => ?_
    cases r1 with
    | cons r t =>
      cases t
      cases (show R X.K M G1 _ (.list xs) from r) with
      | lst h rx =>
        rename_i l us
        have hlen : (enD xs).length = xs.length := by unfold enD; rw [List.length_map, List.length_range]
        refine ⟨l, us, rfl, s1.sub.seq h, p _ H1 G1 s1 fun H2 G2 g1 g2 i => ⟨fun hi => ?_, fun x H3 d hd y => ?_, fun hi => ?_⟩⟩
        · rw [hlen] at hi
          have hu : i < us.length := by rw [rx.len]; omega
          exact ⟨us, us[i], (g1.trans g2).seq h, List.getElem?_eq_getElem hu⟩
        · obtain ⟨T, x1, e2, nT, e3, f1⟩ := y
          subst e2; subst e3
          obtain ⟨dx, h1, e4⟩ := enD_get hd
          subst e4
          obtain ⟨v, q1, q2⟩ := rx.get h1
          have z1 := f1 us ((g1.trans g2).seq h)
          obtain rfl : v = x1 := Option.some.inj (q1.symm.trans z1)
          have s := Stp.new (o := .tup [.int (i : Nat), v]) g2 nT
          exact ⟨_, s, R.tup (.of upd_same) (.cons (R.int _) (.cons (R.mono s.eg (q2.mono g1)) .nil))⟩
        · rw [hlen] at hi
          exact ⟨us, (g1.trans g2).seq h, by rw [rx.len]; exact hi⟩
  · rename_i e1
    cases hf
    exact A.ac H0 G0 γ σ H G _ _ ev e1 p
  · cases hf

/-! ### targets -/
def Sets (js : List Nat) (σ σ' : L2.St) : Prop := ∀ vs : List Nat, (∀ j ∈ js, j ∈ vs) → wipe σ' vs = wipe σ vs
def GO (K : PySem.W.Frag) (M : Pm) (js : List Nat) (g : TG) (gf : D → Ge → Option Ge) : Prop := ∀ (H0 G0 : Hp) (γ γ' : Ge) (σ : L2.St) (H G : Hp) (v : V) (d : D) (Q : L2.St → Hp → Prop), EnvR K M H0 G0 γ σ H G → R K M G v d → gf d γ = some γ' →
  (∀ σ', EnvR K M H0 G0 γ' σ' H G → Sets js σ σ' → Q σ' H) → g v σ H Q
structure JG (K : PySem.W.Frag) (X : Cx) (M : Pm) (tg : Expr) (js : List Nat) (g : TG) (gf : D → Ge → Option Ge) : Prop where
  pg : PG X tg g
  go : GO K M js g gf
def gfN (i : Nat) : D → Ge → Option Ge := fun d γ => some (γ.set i (.va d))
theorem wipe_set {σ : L2.St} {j : Nat} {x : Option V} : ∀ {vs : List Nat}, j ∈ vs → wipe (σ.set j x) vs = wipe σ vs
  | [], h => by cases h
  | v :: vs, h => by
    unfold wipe
    by_cases e : v = j
    · subst e
      by_cases hm : v ∈ vs
      · rw [wipe_set hm]
      · have key : ∀ (vs : List Nat), v ∉ vs → ((wipe (σ.set v x) vs).set v none) = ((wipe σ vs).set v none) := by
          intro vs
          induction vs with
          | nil => intro _; show (σ.set v x).set v none = σ.set v none; rw [List.set_set]
          | cons w ws ih =>
            intro hn
            have h1 : v ≠ w := fun z => hn (z ▸ List.mem_cons_self)
            have h2 : v ∉ ws := fun z => hn (List.mem_cons_of_mem _ z)
            show ((wipe (σ.set v x) ws).set w none).set v none = ((wipe σ ws).set w none).set v none
            rw [List.set_comm _ _ (Ne.symm h1), ih h2, List.set_comm _ _ h1]
        exact key vs hm
    · rcases List.mem_cons.mp h with z | z
      · exact absurd z.symm e
      · rw [wipe_set z]
theorem wipe_wipe (σ : L2.St) : ∀ vs : List Nat, wipe (wipe σ vs) vs = wipe σ vs := by
  have key : ∀ (ws vs : List Nat), (∀ w ∈ ws, w ∈ vs) → wipe (wipe σ ws) vs = wipe σ vs := by
    intro ws
    induction ws with
    | nil => intro vs _; rfl
    | cons w ws ih =>
      intro vs h
      show wipe ((wipe σ ws).set w none) vs = wipe σ vs
      rw [wipe_set (h w List.mem_cons_self), ih vs fun z hz => h z (List.mem_cons_of_mem _ hz)]
  intro vs
  exact key vs vs fun _ h => h
theorem jg_name {i : Nat} {x : Str} (hN : X.N.Nodup) (hi : X.N[i]? = some x := by rfl) (hx : Loc X.env.scope x := by first | exact Or.inl rfl | exact Or.inr rfl) (hf : X.fn x = true ∨ X.env.scope.names.lookup x = some .local := by first | exact .inl rfl | exact .inr rfl) : JG K X M (.Name x pos) [i] (gName i) (gfN i) :=
  ⟨pg_name hN hi hx hf, fun H0 G0 γ γ' σ H G v d Q ev r hg q => by
    cases hg
    exact q _ (ev.setv r) fun vs h => wipe_set (h i (by simp))⟩
def GsO (K : PySem.W.Frag) (M : Pm) (js : List Nat) (g : TGs) (gf : List D → Ge → Option Ge) : Prop := ∀ (H0 G0 : Hp) (γ γ' : Ge) (σ : L2.St) (H G : Hp) (vs : List V) (ds : List D) (Q : L2.St → Hp → Prop), EnvR K M H0 G0 γ σ H G → RA K M G vs ds → gf ds γ = some γ' →
  (∀ σ', EnvR K M H0 G0 γ' σ' H G → Sets js σ σ' → Q σ' H) → g vs σ H Q
structure JGs (K : PySem.W.Frag) (X : Cx) (M : Pm) (tgs : List Expr) (js : List Nat) (g : TGs) (gf : List D → Ge → Option Ge) : Prop where
  pg : PGs X tgs g
  go : GsO K M js g gf
def gsNil : List D → Ge → Option Ge
  | [], γ => some γ
  | _ :: _, _ => none
def gsCons (g : D → Ge → Option Ge) (h : List D → Ge → Option Ge) : List D → Ge → Option Ge
  | [], _ => none
  | d :: ds, γ => match g d γ with
    | some γ1 => h ds γ1
    | none => none
def gfTup (g : List D → Ge → Option Ge) : D → Ge → Option Ge
  | .tuple ds, γ => g ds γ
  | _, _ => none
theorem jgs_nil : JGs K X M [] [] gNil gsNil := ⟨pgs_nil, fun H0 G0 γ γ' σ H G vs ds Q ev r hg q => by
  cases r with
  | nil => cases hg; exact ⟨rfl, q σ ev fun _ _ => rfl⟩
  | cons _ _ => cases hg⟩
theorem jgs_cons {tg : Expr} {tgs : List Expr} {js js' : List Nat} {g : TG} {gs : TGs} {gf : D → Ge → Option Ge} {gfs : List D → Ge → Option Ge} (h1 : JG K X M tg js g gf) (h2 : JGs K X M tgs js' gs gfs)
    (hs : (assignEach (tg :: tgs) X.env).map (·.2) = assign tg X.env :: (assignEach tgs X.env).map (·.2) := by rfl) : JGs K X M (tg :: tgs) (js ++ js') (gCons g gs) (gsCons gf gfs) := ⟨pgs_cons h1.pg h2.pg hs, fun H0 G0 γ γ' σ H G vs ds Q ev r hg q => by
  cases r with
  | nil => cases hg
  | cons r t =>
    unfold gsCons at hg
    simp only at hg
    split at hg
    · rename_i γ1 e1
      refine ⟨_, _, rfl, h1.go H0 G0 γ γ1 σ H G _ _ _ ev r e1 fun σ1 ev1 s1 => ?_⟩
      exact h2.go H0 G0 γ1 γ' σ1 H G _ _ _ ev1 t hg fun σ2 ev2 s2 => q σ2 ev2 fun ws h => by
        rw [s2 ws fun j hj => h j (List.mem_append_right _ hj), s1 ws fun j hj => h j (List.mem_append_left _ hj)]
    · cases hg⟩
theorem jg_tup {es : List Expr} {kk : Nat} {js : List Nat} {g : TGs} {gf : List D → Ge → Option Ge} {n : Nat} (C : CxF K X E k) (h : JGs K X M es js g gf)
    (hl : ∀ ds γ γ', gf ds γ = some γ' → ds.length = n) (hn : (assignEach es X.env).length = n := by rfl) (hst : (assignEach es X.env).findIdx? (·.1) = none := by rfl) : JG K X M (.Tuple es kk pos) js (gTup K n g) (gfTup gf) := by
  have hK := C.hK
  subst hK
  exact ⟨pg_tup C.calm h.pg hn hst, fun H0 G0 γ γ' σ H G v d Q ev r hg q => by
  unfold gfTup at hg
  split at hg
  · rename_i ds
    cases r with
    | tup hs rs =>
      exact ⟨_, _, rfl, same_T ev.sub hs, by rw [rs.len]; exact hl _ _ _ hg, h.go H0 G0 γ γ' σ H G _ _ Q ev rs hg q⟩
  · cases hg⟩
theorem gs2_len {g h : D → Ge → Option Ge} (ds : List D) (γ γ' : Ge) (e : gsCons g (gsCons h gsNil) ds γ = some γ') : ds.length = 2 := by
  cases ds with
  | nil => cases e
  | cons d ds =>
    simp only [gsCons] at e
    cases h1 : g d γ with
    | none => rw [h1] at e; cases e
    | some γ1 =>
      rw [h1] at e
      cases ds with
      | nil => cases e
      | cons d2 ds =>
        simp only at e
        cases h2 : h d2 γ1 with
        | none => rw [h2] at e; cases e
        | some γ2 =>
          rw [h2] at e
          cases ds with
          | nil => rfl
          | cons _ _ => cases e
/-- (a, b) = two names -/
theorem jg_two {i j : Nat} {x y : Str} {kk : Nat} {px py : Pos} (C : CxF K X E k) (h1 : JG K X M (.Name x px) [i] (gName i) (gfN i)) (h2 : JG K X M (.Name y py) [j] (gName j) (gfN j))
    (hs1 : (assignEach [.Name x px, .Name y py] X.env).map (·.2) = assign (.Name x px) X.env :: (assignEach [.Name y py] X.env).map (·.2) := by rfl) (hs2 : (assignEach [.Name y py] X.env).map (·.2) = assign (.Name y py) X.env :: (assignEach [] X.env).map (·.2) := by rfl)
    (hn : (assignEach [.Name x px, .Name y py] X.env).length = 2 := by rfl) (hst : (assignEach [.Name x px, .Name y py] X.env).findIdx? (·.1) = none := by rfl) :
    JG K X M (.Tuple [.Name x px, .Name y py] kk pos) [i, j] (gTup K 2 (gCons (gName i) (gCons (gName j) gNil))) (gfTup (gsCons (gfN i) (gsCons (gfN j) gsNil))) := by
  have hK := C.hK
  subst hK
  exact jg_tup C (jgs_cons h1 (jgs_cons h2 jgs_nil hs2) hs1) (fun ds γ γ' h => gs2_len ds γ γ' h) hn hst
/-! ### comprehensions -/
theorem CxF.blk (C : CxF K X E k) (s : Shared) (H : Hp) (scope : Scope) (cenv : Env) (fp : List Addr) : CxF K (X.blk s H scope cenv fp) E0 k := ⟨C.hK, C.calm, C.nd, passL, PassesOwn.never, C.room⟩
structure JTs (K : PySem.W.Frag) (X : Cx) (M : Pm) (E : XK) (es : List Expr) (t : TT) (f : Ft) : Prop where
  pts : PTs X es t
  to : TO' K M E t f
def gYes : Ft := fun _ => some (.ok true)
theorem jts_nil : JTs K X M E [] tYes gYes := ⟨pts_nil, fun H0 G0 γ σ H G Q r ev hf p => by cases hf; exact p H G (Stp.refl ev.sub)⟩
theorem jts_one {t : TT} {f : Ft} (h : JT K X M E c t f) : JTs K X M E [c] t f := ⟨pts_one h.pt, h.to⟩
def wipeG (γ : Ge) : List Nat → Ge
  | [] => γ
  | v :: vs => (wipeG γ vs).set v .no
theorem EnvR.setn {K : PySem.W.Frag} {H0 G0 H G : Hp} {γ : Ge} {σ : L2.St} {i : Nat} (e : EnvR K M H0 G0 γ σ H G) : EnvR K M H0 G0 (γ.set i .no) (σ.set i none) H G := by
  have key : ∀ (j : Nat) (s : Sl) (x : Option V), (γ.set i .no)[j]? = some s → (σ.set i none)[j]? = some x → (s = .no) ∨ (γ[j]? = some s ∧ σ[j]? = some x) := by
    intro j s x h1 h2
    by_cases hj : i = j
    · subst hj
      rw [List.getElem?_set] at h1
      simp only [if_true] at h1
      split at h1
      · exact .inl (Option.some.inj h1).symm
      · cases h1
    · rw [List.getElem?_set_ne hj] at h1 h2
      exact .inr ⟨h1, h2⟩
  refine ⟨e.st, by rw [List.length_set, List.length_set]; exact e.len, fun j s x h1 h2 => ?_, fun j k sj sk xj xk o h1 h2 h3 h4 h5 h6 => ?_⟩
  · rcases key j s x h1 h2 with e1 | ⟨q1, q2⟩
    · subst e1; trivial
    · exact e.sl j s x q1 q2
  · rcases key j sj xj h1 h3 with e1 | ⟨q1, q2⟩
    · subst e1; exact h5.elim
    · rcases key k sk xk h2 h4 with e1 | ⟨q3, q4⟩
      · subst e1; exact h6.elim
      · exact e.ap j k sj sk xj xk o q1 q3 q2 q4 h5 h6
theorem EnvR.wipe {K : PySem.W.Frag} {H0 G0 H G : Hp} {γ : Ge} {σ : L2.St} (e : EnvR K M H0 G0 γ σ H G) : ∀ vs : List Nat, EnvR K M H0 G0 (wipeG γ vs) (L2.wipe σ vs) H G
  | [] => e
  | _ :: vs => (EnvR.wipe e vs).setn
def lcF (gf : D → Ge → Option Ge) (cf : Ft) (ef : Fe) (γ : Ge) : List D → Option (List D)
  | [] => some []
  | d :: ds => match gf d γ with
    | none => none
    | some γ1 => match cf γ1 with
      | some (.ok true) => (match ef γ1 with
        | some (.ok x) => (match lcF gf cf ef γ ds with
          | some xs => some (x :: xs)
          | none => none)
        | _ => none)
      | some (.ok false) => lcF gf cf ef γ ds
      | _ => none
def fLc (w : Fa) (gf : D → Ge → Option Ge) (cf : Ft) (ef : Fe) (vs : List Nat) : Fe := fun γ => match w γ with
  | some (.ok ds) => if ds.length ≤ big then (match lcF gf cf ef (wipeG γ vs) ds with
    | some xs => some (.ok (.list xs))
    | none => none) else none
  | some (.er c) => some (.er c)
  | none => none
theorem eo_lc {K : PySem.W.Frag} {wi : TI} {g : TG} {tt : TT} {te : TE} {vs js : List Nat} {w : Fa} {gf : D → Ge → Option Ge} {cf : Ft} {ef : Fe} (hw : WO K M E wi w) (hg : GO K M js g gf) (hj : ∀ j ∈ js, j ∈ vs) (hc : TO' K M E0 tt cf) (he : EO K M E0 .cl te ef) :
    EO K M E .fr (tLc wi g tt te vs) (fLc w gf cf ef vs) := by
  intro H0 G0 γ σ H G Q r ev hf p
  unfold fLc at hf
  split at hf
  · rename_i ds e1
    split at hf
    · rename_i hz
      split at hf
      · rename_i es e2
        cases hf
        refine hw H0 G0 γ σ H G _ _ ev e1 fun J H1 G1 s1 itr Dl hD => ?_
        have ev1 := ev.stp s1
        have nG1 : G1 Dl = none := s1.sub.free hD
        refine ⟨fun i mm H' => mm = ds.length - i ∧ i ≤ ds.length ∧ ∃ G' acc accD rest, Stp H1 G1 H' G' ∧ G' Dl = none ∧ H' Dl = some (.lst acc) ∧ RA K M G' acc accD ∧ lcF gf cf ef (wipeG γ vs) (ds.drop i) = some rest ∧ accD ++ rest = es ∧ acc.length ≤ i,
          ⟨ds.length, by simp, Nat.zero_le _, G1, [], [], es, Stp.newO s1.sub hD, nG1, upd_same, .nil, e2, rfl, Nat.le_refl _⟩, ?_⟩
        rintro i mm H2 ⟨rfl, hi, G2, acc, accD, rest, st, gD, hDl, ra, el, ee, al⟩
        have ev2 := (ev1.stp st).wipe vs
        obtain ⟨go, yl, sp⟩ := itr H2 G2 st.eg st.sub i
        by_cases hlt : i < ds.length
        · refine .inr ⟨go hlt, fun H' => ∃ m', m' < ds.length - i ∧ m' = ds.length - (i + 1) ∧ i + 1 ≤ ds.length ∧ ∃ G' acc accD rest, Stp H1 G1 H' G' ∧ G' Dl = none ∧ H' Dl = some (.lst acc) ∧ RA K M G' acc accD ∧ lcF gf cf ef (wipeG γ vs) (ds.drop (i + 1)) = some rest ∧ accD ++ rest = es ∧ acc.length ≤ i + 1,
            fun H' ⟨m', h1, h2⟩ => ⟨m', h1, h2⟩, fun x H3 hy => ?_⟩
          have hd : ds[i]? = some ds[i] := List.getElem?_eq_getElem hlt
          obtain ⟨G3, s3, rx⟩ := yl x H3 _ hd hy
          rw [List.drop_eq_getElem_cons hlt] at el
          unfold lcF at el
          split at el
          · cases el
          · rename_i γ1 eg
            refine hg H0 G0 (wipeG γ vs) γ1 (L2.wipe σ vs) H3 G3 x ds[i] _ (ev2.stp s3) rx eg fun σ2 ev3 sets => ⟨?_, ?_⟩
            · rw [sets vs hj, wipe_wipe]
            · split at el
              · rename_i ec
                split at el
                · rename_i y ey
                  split at el
                  · rename_i ys eys
                    cases el
                    refine hc H0 G0 γ1 σ2 H3 G3 _ _ ev3 ec fun H4 G4 s4 => ?_
                    rw [if_pos rfl]
                    refine he H0 G0 γ1 σ2 H4 G4 _ _ (ev3.stp s4) ey fun yv H5 G5 s5 ry => ?_
                    have s25 := (s3.trans s4).trans s5
                    have ry' : R K M G5 yv y := ry
                    have g5 : G5 Dl = none := s25.nw _ _ hDl gD
                    have h5 : H5 Dl = some (.lst acc) := s25.ex _ _ hDl
                    refine ⟨acc, h5, big_line' (by omega), ds.length - (i + 1), by omega, rfl, hlt, G5, acc ++ [yv], accD ++ [y], ys, ?_, g5, upd_same, (ra.mono s25.eg).app (.one ry'), eys, by rw [List.append_assoc]; exact ee, by rw [List.length_append]; simp; omega⟩
                    have sA := st.trans s25
                    exact ⟨fun b u q => by rw [upd_ne (ne_of_none q hD)]; exact sA.ex b u q, sA.eg, fun b u q => by rw [upd_ne (ne_of_none q g5)]; exact sA.sub b u q, sA.nw⟩
                  · cases el
                · cases el
              · rename_i ec
                refine hc H0 G0 γ1 σ2 H3 G3 _ _ ev3 ec fun H4 G4 s4 => ?_
                rw [if_neg Bool.false_ne_true]
                have s24 := s3.trans s4
                exact ⟨ds.length - (i + 1), by omega, rfl, hlt, G4, acc, accD, rest, st.trans s24, s24.nw _ _ hDl gD, s24.ex _ _ hDl, ra.mono s24.eg, el, ee, by omega⟩
              · cases el
        · have ei : i = ds.length := by omega
          subst ei
          rw [List.drop_length] at el
          cases el
          rw [List.append_nil] at ee
          subst ee
          refine .inl ⟨sp (Nat.le_refl _), p _ H2 G2 (s1.trans st) ⟨Dl, acc, rfl, s1.ex.free hD, gD, hDl, ra⟩⟩
      · cases hf
    · cases hf
  · rename_i e1
    cases hf
    exact hw H0 G0 γ σ H G _ _ ev e1 p
  · cases hf
theorem je_lc {elt tg iter : Expr} {ifs : List Expr} {scope : Scope} {own : List (Str × Nat)} {js : List Nat} {wi : TI} {g : TG} {tt : TT} {te : TE} {w : Fa} {gf : D → Ge → Option Ge} {cf : Ft} {ef : Fe} (C : CxF K X E k) (hi : JI K X M E tg iter wi w) (ok : BlkOk X.N X.env.scope scope own)
    (hg : ∀ (s : Shared) (H : Hp) (Cc : Addr) (cl : List (Str × Addr)) (fp : List Addr), JG K (X.blk s H scope (compEnvC scope cl Cc X.env) fp) M tg js g gf) (ht : ∀ (s : Shared) (H : Hp) (Cc : Addr) (cl : List (Str × Addr)) (fp : List Addr), JTs K (X.blk s H scope (compEnvC scope cl Cc X.env) fp) M E0 ifs tt cf)
    (he : ∀ (s : Shared) (H : Hp) (Cc : Addr) (cl : List (Str × Addr)) (fp : List Addr), JE K (X.blk s H scope (compEnvC scope cl Cc X.env) fp) M E0 .cl elt te ef) (hj : ∀ j ∈ js, j ∈ own.map (·.2) := by decide) (hs : ∀ x, foldedSetIterable iter X.env x = pure x := by intro _; rfl) :
    JE K X M E .fr (.ListComp elt [⟨tg, iter, ifs, 0⟩] scope pos) (tLc wi g tt te (own.map (·.2))) (fLc w gf cf ef (own.map (·.2))) :=
  ⟨pe_lc C.calm C.nd hi.pi ok (fun s H Cc cl fp => (hg s H Cc cl fp).pg) (fun s H Cc cl fp => (ht s H Cc cl fp).pts) (fun s H Cc cl fp => (he s H Cc cl fp).pe) hs,
    eo_lc hi.wo (hg ({} : Shared) (fun _ => none) 0 [] []).go hj (ht ({} : Shared) (fun _ => none) 0 [] []).to (he ({} : Shared) (fun _ => none) 0 [] []).eo⟩
end
end Py


/-! PyF: statements, the rule of a def -/
namespace Py
open PySem PySem.Spec PyProof.Rows L2

inductive Out | nx (γ : Ge) | rt (d : D) | er (c : Str) | bk (γ : Ge) | ct (γ : Ge)
abbrev Fs := Ge → Option Out
section
variable (K : PySem.W.Frag) (M : Pm) (E : XK)
def PostS (H0 G0 : Hp) (De : Ends) : Out → Prop
  | .nx γ => ∀ σ H G, EnvR K M H0 G0 γ σ H G → De.nx σ H
  | .bk γ => ∀ σ H G, EnvR K M H0 G0 γ σ H G → De.bk σ H
  | .ct γ => ∀ σ H G, EnvR K M H0 G0 γ σ H G → De.ct σ H
  | .rt d => ∀ v H G, Stp H0 G0 H G → R K M G v d → De.rt v H
  | .er c => ∀ H G, Stp H0 G0 H G → E (M.exc c) none H
def SO (t : TS) (f : Fs) : Prop := ∀ (H0 G0 : Hp) (γ : Ge) (σ : L2.St) (H G : Hp) (De : Ends) (o : Out), EnvR K M H0 G0 γ σ H G → f γ = some o → PostS K M E H0 G0 De o → t De σ H
end
structure JS (K : PySem.W.Frag) (X : Cx) (M : Pm) (E : XK) (st : Stmt) (t : TS) (f : Fs) : Prop where
  ps : PS X st t
  so : SO K M E t f
structure JB (K : PySem.W.Frag) (X : Cx) (M : Pm) (E : XK) (st : List Stmt) (t : TS) (f : Fs) : Prop where
  ps : PSs X st t
  so : SO K M E t f

def fNext : Fs := fun γ => some (.nx γ)
def fSeq (f g : Fs) : Fs := fun γ => match f γ with
  | some (.nx γ1) => g γ1
  | o => o
def sRet (a : Fe) : Fs := fun γ => match a γ with
  | some (.ok d) => some (.rt d)
  | some (.er c) => some (.er c)
  | none => none
def sRetN : Fs := fun _ => some (.rt .none)
def sIf (c : Ft) (f g : Fs) : Fs := fun γ => match c γ with
  | some (.ok true) => f γ
  | some (.ok false) => g γ
  | some (.er c) => some (.er c)
  | none => none
def sSet (i : Nat) (a : Fe) : Fs := fun γ => match a γ with
  | some (.ok d) => some (.nx (γ.set i (.va d)))
  | some (.er c) => some (.er c)
  | none => none
def sSetO (i : Nat) (a : Fe) : Fs := fun γ => match a γ with
  | some (.ok (.list ds)) => some (.nx (γ.set i (.ow ds)))
  | some (.er c) => some (.er c)
  | _ => none
def sAsg (a : Fe) (g : D → Ge → Option Ge) : Fs := fun γ => match a γ with
  | some (.ok d) => (match g d γ with
    | some γ1 => some (.nx γ1)
    | none => none)
  | some (.er c) => some (.er c)
  | none => none
def sApp (i : Nat) (a : Fe) : Fs := fun γ => match γ[i]? with
  | some (.ow ds) => (match a γ with
    | some (.ok d) => if ds.length ≤ big then some (.nx (γ.set i (.ow (ds ++ [d])))) else none
    | some (.er c) => some (.er c)
    | none => none)
  | _ => none
def sRaise (c : Str) : Fs := fun _ => some (.er c)
def forF (gf : D → Ge → Option Ge) (body : Fs) : List D → Ge → Option Out
  | [], γ => some (.nx γ)
  | d :: ds, γ => match gf d γ with
    | none => none
    | some γ1 => match body γ1 with
      | some (.nx γ2) => forF gf body ds γ2
      | some (.ct γ2) => forF gf body ds γ2
      | some (.bk γ2) => some (.nx γ2)
      | some (.rt d) => some (.rt d)
      | some (.er c) => some (.er c)
      | none => none
def sFor (w : Fa) (gf : D → Ge → Option Ge) (body : Fs) : Fs := fun γ => match w γ with
  | some (.ok ds) => forF gf body ds γ
  | some (.er c) => some (.er c)
  | none => none
def whF (c : Ft) (body : Fs) : Nat → Ge → Option Out
  | 0, _ => none
  | n + 1, γ => match c γ with
    | some (.ok true) => (match body γ with
      | some (.nx γ2) => whF c body n γ2
      | some (.ct γ2) => whF c body n γ2
      | some (.bk γ2) => some (.nx γ2)
      | some (.rt d) => some (.rt d)
      | some (.er c) => some (.er c)
      | none => none)
    | some (.ok false) => some (.nx γ)
    | some (.er c) => some (.er c)
    | none => none
/-- the fuel of a while: any number would do -/
def fuel : Nat := 2 ^ 40
def sWh (c : Ft) (body : Fs) : Fs := fun γ => whF c body fuel γ

section
variable {K : PySem.W.Frag} {X : Cx} {M : Pm} {E : XK} {k : Nat} {m : Md} {a b e c : Expr} {ta tb te tc : TE} {fa fb fe fc : Fe} {pos : Pos} {t u : TS} {f g : Fs} {st : Stmt} {rest : List Stmt}

theorem EnvR.er {K : PySem.W.Frag} {H0 G0 H G : Hp} {γ : Ge} {σ : L2.St} {De : Ends} {c : Str} {m : Md} {Q : VK} (ev : EnvR K M H0 G0 γ σ H G) (p : PostS K M E H0 G0 De (.er c)) : PostE K M E m H G Q (.er c) := fun H' G' s => p H' G' (ev.st.trans s)
theorem so_next {K : PySem.W.Frag} : SO K M E tNext fNext := fun H0 G0 γ σ H G De o ev hf p => by cases hf; exact p σ H G ev
theorem jb_nil : JB K X M E [] tNext fNext := ⟨pss_nil, so_next⟩
theorem so_seq {K : PySem.W.Frag} (h1 : SO K M E t f) (h2 : SO K M E u g) : SO K M E (tSeq t u) (fSeq f g) := fun H0 G0 γ σ H G De o ev hf p => by
  unfold fSeq at hf
  split at hf
  · rename_i γ1 e1
    exact h1 H0 G0 γ σ H G { De with nx := u De } _ ev e1 fun σ' H' G' ev' => h2 H0 G0 γ1 σ' H' G' De o ev' hf p
  · rename_i hn
    refine h1 H0 G0 γ σ H G { De with nx := u De } o ev hf ?_
    cases o with
    | nx γ1 => exact absurd hf (hn γ1)
    | _ => exact p
theorem jb_cons (h1 : JS K X M E st t f) (h2 : JB K X M E rest u g) : JB K X M E (st :: rest) (tSeq t u) (fSeq f g) := ⟨pss_cons h1.ps h2.ps, so_seq h1.so h2.so⟩
theorem jb_one (h1 : JS K X M E st t f) : JB K X M E [st] t f := ⟨pss_one h1.ps, h1.so⟩
theorem js_ret (ha : JE K X M E .cl a ta fa) : JS K X M E (.Return (some a) pos) (tRet ta) (sRet fa) := ⟨ps_ret ha.pe, fun H0 G0 γ σ H G De o ev hf p => by
  unfold sRet at hf
  split at hf
  · rename_i d e1
    cases hf
    exact ha.eo H0 G0 γ σ H G _ _ ev e1 fun v H' G' s r => p v H' G' (ev.st.trans s) r
  · rename_i c e1
    cases hf
    exact ha.eo H0 G0 γ σ H G _ _ ev e1 (ev.er p)
  · cases hf⟩
theorem js_retN : JS K X M E (.Return none pos) tRetN sRetN := ⟨ps_retN, fun H0 G0 γ σ H G De o ev hf p => by cases hf; exact p .non H G ev.st .non⟩
/-- return of a name that may hold an own list -/
theorem js_retV {i : Nat} {x : Str} {p0 : Pos} (h : JE K X M E .op (.Name x p0) (tVar i) (fOpd i)) : JS K X M E (.Return (some (.Name x p0)) pos) (tRet (tVar i)) (sRet (fOpd i)) := ⟨ps_ret h.pe, fun H0 G0 γ σ H G De o ev hf p => by
  unfold sRet fOpd at hf
  split at hf
  · rename_i d e1
    split at e1
    · rename_i d' e2
      cases e1
      cases hf
      obtain ⟨v, h1, h2⟩ := ev.va e2
      exact ⟨v, h1, p v H G ev.st h2⟩
    · rename_i ds e2
      cases e1
      cases hf
      obtain ⟨o, vs, h1, hg, h0, h2, h3⟩ := ev.ow e2
      have sg : Same G (upd G o (.lst vs)) := same_new hg
      refine ⟨_, h1, p _ H (upd G o (.lst vs)) ⟨ev.st.ex, ev.st.eg.trans sg, fun b u q => ?_, fun q u hq n => ?_⟩ (R.lst (.of upd_same) (h3.mono sg))⟩
      · by_cases hb : b = o
        · subst hb; rw [upd_same] at q; cases q; exact h2
        · rw [upd_ne hb] at q; exact ev.st.sub b u q
      · rw [upd_ne (ne_of_none hq h0)]; exact ev.st.nw q u hq n
    · cases e1
  · rename_i c e1
    split at e1
    · cases e1
    · cases e1
    · cases e1
  · cases hf⟩
theorem js_if {tt : TT} {ft : Ft} {as bs : List Stmt} (hc : JT K X M E c tt ft) (ha : JB K X M E as t f) (hb : JB K X M E bs u g) : JS K X M E (.If c as bs pos) (tIfS tt t u) (sIf ft f g) := ⟨ps_if hc.pt ha.ps hb.ps, fun H0 G0 γ σ H G De o ev hf p => by
  unfold sIf at hf
  split at hf
  · rename_i e1
    refine hc.to H0 G0 γ σ H G _ _ ev e1 fun H' G' s => ?_
    rw [if_pos rfl]
    exact ha.so H0 G0 γ σ H' G' De o (ev.stp s) hf p
  · rename_i e1
    refine hc.to H0 G0 γ σ H G _ _ ev e1 fun H' G' s => ?_
    rw [if_neg Bool.false_ne_true]
    exact hb.so H0 G0 γ σ H' G' De o (ev.stp s) hf p
  · rename_i e1
    cases hf
    exact hc.to H0 G0 γ σ H G _ _ ev e1 fun H' G' s => p H' G' (ev.st.trans s)
  · cases hf⟩
theorem so_set {K : PySem.W.Frag} {i : Nat} (ha : EO K M E .cl ta fa) : SO K M E (tAsg ta (gName i)) (sSet i fa) := fun H0 G0 γ σ H G De o ev hf p => by
  unfold sSet at hf
  split at hf
  · rename_i d e1
    cases hf
    exact ha H0 G0 γ σ H G _ _ ev e1 fun v H' G' s r => p _ H' G' ((ev.stp s).setv r)
  · rename_i c e1
    cases hf
    exact ha H0 G0 γ σ H G _ _ ev e1 (ev.er p)
  · cases hf
theorem so_setO {K : PySem.W.Frag} {i : Nat} (ha : EO K M E .fr ta fa) : SO K M E (tAsg ta (gName i)) (sSetO i fa) := fun H0 G0 γ σ H G De o ev hf p => by
  unfold sSetO at hf
  split at hf
  · rename_i ds e1
    cases hf
    refine ha H0 G0 γ σ H G _ _ ev e1 fun v H' G' s r => ?_
    obtain ⟨l, us, e2, h0, hg, hl, ra⟩ := r
    subst e2
    refine p _ H' G' ((ev.stp s).seto (HS := H) (fun j dj q _ h1 h2 => ?_) hg (ev.st.ex.free h0) hl ra)
    obtain ⟨o', vs', h3, _, _, h4, _⟩ := ev.ow h1
    rw [h2] at h3
    cases h3
    exact ne_of_none h4 h0
  · rename_i c e1
    cases hf
    exact ha H0 G0 γ σ H G _ _ ev e1 (ev.er p)
  · cases hf
theorem js_set {i : Nat} {x : Str} {p0 : Pos} (hN : X.N.Nodup) (ha : JE K X M E .cl a ta fa) (hi : X.N[i]? = some x := by rfl) (hx : Loc X.env.scope x := by first | exact Or.inl rfl | exact Or.inr rfl) (hs : swapsWith a (some (.Name x p0)) pos.line X.env = pure false := by rfl) (hf : X.fn x = true ∨ X.env.scope.names.lookup x = some .local := by first | exact .inl rfl | exact .inr rfl) :
    JS K X M E (.Assign [.Name x p0] a pos) (tAsg ta (gName i)) (sSet i fa) := ⟨ps_set hN hi hx ha.pe hs hf, so_set ha.eo⟩
theorem js_setO {i : Nat} {x : Str} {p0 : Pos} (hN : X.N.Nodup) (ha : JE K X M E .fr a ta fa) (hi : X.N[i]? = some x := by rfl) (hx : Loc X.env.scope x := by first | exact Or.inl rfl | exact Or.inr rfl) (hs : swapsWith a (some (.Name x p0)) pos.line X.env = pure false := by rfl) (hf : X.fn x = true ∨ X.env.scope.names.lookup x = some .local := by first | exact .inl rfl | exact .inr rfl) :
    JS K X M E (.Assign [.Name x p0] a pos) (tAsg ta (gName i)) (sSetO i fa) := ⟨ps_set hN hi hx ha.pe hs hf, so_setO ha.eo⟩
/-- target = e, any target -/
theorem so_asg {K : PySem.W.Frag} {js : List Nat} {gg : TG} {gf : D → Ge → Option Ge} (ha : EO K M E .cl ta fa) (hg : GO K M js gg gf) : SO K M E (tAsg ta gg) (sAsg fa gf) := fun H0 G0 γ σ H G De o ev hf p => by
  unfold sAsg at hf
  split at hf
  · rename_i d e1
    split at hf
    · rename_i γ1 e2
      cases hf
      exact ha H0 G0 γ σ H G _ _ ev e1 fun v H' G' s r => hg H0 G0 γ γ1 σ H' G' v d _ (ev.stp s) r e2 fun σ' ev' _ => p σ' H' G' ev'
    · cases hf
  · rename_i c e1
    cases hf
    exact ha H0 G0 γ σ H G _ _ ev e1 (ev.er p)
  · cases hf
theorem js_asg {tg : Expr} {js : List Nat} {gg : TG} {gf : D → Ge → Option Ge} (ha : JE K X M E .cl a ta fa) (hg : JG K X M tg js gg gf) (hs : swapsWithSole [tg] a pos.line X.env = pure false := by rfl) (hw : swappedStores [tg] a X.env = pure none := by rfl)
    (h1 : (assignEach [tg] X.env).map (·.2) = [assign tg X.env] := by rfl) : JS K X M E (.Assign [tg] a pos) (tAsg ta gg) (sAsg fa gf) := ⟨ps_asg ha.pe hg.pg hs hw h1, so_asg ha.eo hg.go⟩
/-- y = [.. for ..] on one line, y a local -/
theorem ps_lcset {i : Nat} {y : Str} {py : Pos} {elt tg iter : Expr} {ifs : List Expr} {scope : Scope} {own : List (Str × Nat)} {js : List Nat} {wi : TI} {g : TG} {tt : TT} {te : TE} {w : Fa} {gf : D → Ge → Option Ge} {cf : Ft} {ef : Fe} {spos : Pos} (C : CxF K X E k) (hi : JI K X M E tg iter wi w) (ok : BlkOk X.N X.env.scope scope own)
    (hg : ∀ (s : Shared) (H : Hp) (Cc : Addr) (cl : List (Str × Addr)) (fp : List Addr), JG K (X.blk s H scope (compEnvC scope cl Cc X.env) fp) M tg js g gf) (ht : ∀ (s : Shared) (H : Hp) (Cc : Addr) (cl : List (Str × Addr)) (fp : List Addr), JTs K (X.blk s H scope (compEnvC scope cl Cc X.env) fp) M E0 ifs tt cf)
    (he : ∀ (s : Shared) (H : Hp) (Cc : Addr) (cl : List (Str × Addr)) (fp : List Addr), JE K (X.blk s H scope (compEnvC scope cl Cc X.env) fp) M E0 .cl elt te ef)
    (hy : X.N[i]? = some y) (hyl : X.env.scope.names.lookup y = some .local)
    (hsw : swapsWith (.ListComp elt [⟨tg, iter, ifs, 0⟩] scope pos) (some (.Name y py)) spos.line X.env = pure true) (hs : ∀ x, foldedSetIterable iter X.env x = pure x) :
    PS X (.Assign [.Name y py] (.ListComp elt [⟨tg, iter, ifs, 0⟩] scope pos) spos) (tAsg (tLc wi g tt te (own.map (·.2))) (gName i)) :=
  ps_setLc C.calm C.nd hy hyl hsw hi.pi ok (fun s H Cc cl fp => (hg s H Cc cl fp).pg) (fun s H Cc cl fp => (ht s H Cc cl fp).pts) (fun s H Cc cl fp => (he s H Cc cl fp).pe) hs
theorem so_f2c {K : PySem.W.Frag} {te : TE} {fe : Fe} (h : EO K M E .fr te fe) : EO K M E .cl te fe := fun H0 G0 γ σ H G Q r ev hf p => h H0 G0 γ σ H G Q r ev hf (by
  cases r with
  | ok d => exact fun v H' G' s r => let ⟨G2, s2, _, r2⟩ := freeze s r; p v H' G2 s2 r2
  | er c => exact p)
theorem js_setLc {i : Nat} {y : Str} {py : Pos} {elt tg iter : Expr} {ifs : List Expr} {scope : Scope} {own : List (Str × Nat)} {js : List Nat} {wi : TI} {g : TG} {tt : TT} {te : TE} {w : Fa} {gf : D → Ge → Option Ge} {cf : Ft} {ef : Fe} {spos : Pos} (C : CxF K X E k) (hi : JI K X M E tg iter wi w) (ok : BlkOk X.N X.env.scope scope own)
    (hg : ∀ (s : Shared) (H : Hp) (Cc : Addr) (cl : List (Str × Addr)) (fp : List Addr), JG K (X.blk s H scope (compEnvC scope cl Cc X.env) fp) M tg js g gf) (ht : ∀ (s : Shared) (H : Hp) (Cc : Addr) (cl : List (Str × Addr)) (fp : List Addr), JTs K (X.blk s H scope (compEnvC scope cl Cc X.env) fp) M E0 ifs tt cf)
    (he : ∀ (s : Shared) (H : Hp) (Cc : Addr) (cl : List (Str × Addr)) (fp : List Addr), JE K (X.blk s H scope (compEnvC scope cl Cc X.env) fp) M E0 .cl elt te ef)
    (hsw : swapsWith (.ListComp elt [⟨tg, iter, ifs, 0⟩] scope pos) (some (.Name y py)) spos.line X.env = pure true) (hy : X.N[i]? = some y := by rfl) (hyl : X.env.scope.names.lookup y = some .local := by rfl) (hj : ∀ j ∈ js, j ∈ own.map (·.2) := by decide) (hs : ∀ x, foldedSetIterable iter X.env x = pure x := by intro _; rfl) :
    JS K X M E (.Assign [.Name y py] (.ListComp elt [⟨tg, iter, ifs, 0⟩] scope pos) spos) (tAsg (tLc wi g tt te (own.map (·.2))) (gName i)) (sSet i (fLc w gf cf ef (own.map (·.2)))) :=
  ⟨ps_lcset C hi ok hg ht he hy hyl hsw hs, so_set (so_f2c (eo_lc hi.wo (hg ({} : Shared) (fun _ => none) 0 [] []).go hj (ht ({} : Shared) (fun _ => none) 0 [] []).to (he ({} : Shared) (fun _ => none) 0 [] []).eo))⟩
theorem js_setLcO {i : Nat} {y : Str} {py : Pos} {elt tg iter : Expr} {ifs : List Expr} {scope : Scope} {own : List (Str × Nat)} {js : List Nat} {wi : TI} {g : TG} {tt : TT} {te : TE} {w : Fa} {gf : D → Ge → Option Ge} {cf : Ft} {ef : Fe} {spos : Pos} (C : CxF K X E k) (hi : JI K X M E tg iter wi w) (ok : BlkOk X.N X.env.scope scope own)
    (hg : ∀ (s : Shared) (H : Hp) (Cc : Addr) (cl : List (Str × Addr)) (fp : List Addr), JG K (X.blk s H scope (compEnvC scope cl Cc X.env) fp) M tg js g gf) (ht : ∀ (s : Shared) (H : Hp) (Cc : Addr) (cl : List (Str × Addr)) (fp : List Addr), JTs K (X.blk s H scope (compEnvC scope cl Cc X.env) fp) M E0 ifs tt cf)
    (he : ∀ (s : Shared) (H : Hp) (Cc : Addr) (cl : List (Str × Addr)) (fp : List Addr), JE K (X.blk s H scope (compEnvC scope cl Cc X.env) fp) M E0 .cl elt te ef)
    (hsw : swapsWith (.ListComp elt [⟨tg, iter, ifs, 0⟩] scope pos) (some (.Name y py)) spos.line X.env = pure true) (hy : X.N[i]? = some y := by rfl) (hyl : X.env.scope.names.lookup y = some .local := by rfl) (hj : ∀ j ∈ js, j ∈ own.map (·.2) := by decide) (hs : ∀ x, foldedSetIterable iter X.env x = pure x := by intro _; rfl) :
    JS K X M E (.Assign [.Name y py] (.ListComp elt [⟨tg, iter, ifs, 0⟩] scope pos) spos) (tAsg (tLc wi g tt te (own.map (·.2))) (gName i)) (sSetO i (fLc w gf cf ef (own.map (·.2)))) :=
  ⟨ps_lcset C hi ok hg ht he hy hyl hsw hs, so_setO (eo_lc hi.wo (hg ({} : Shared) (fun _ => none) 0 [] []).go hj (ht ({} : Shared) (fun _ => none) 0 [] []).to (he ({} : Shared) (fun _ => none) 0 [] []).eo)⟩
/-- x.append(e), x an own list -/
theorem js_app {i : Nat} {x : Str} {p0 apos cpos : Pos} (C : CxF K X E k) (ho : PE X (.Name x p0) (tVar i)) (ha : JE K X M E .cl a ta fa)
    (hp : PE X (.Call (.Attribute (.Name x p0) "append" apos) [a] [] cpos) (tBM K "list" rAppend (tVar i) (tCons ta tNil))) (hs : swapsWith (.Call (.Attribute (.Name x p0) "append" apos) [a] [] cpos) none pos.line X.env = pure false := by rfl) :
    JS K X M E (.Expr (.Call (.Attribute (.Name x p0) "append" apos) [a] [] cpos) pos) (tDrop (tBM K "list" rAppend (tVar i) (tCons ta tNil))) (sApp i fa) := by
  have hK := C.hK
  subst hK
  exact ⟨ps_expr hp hs, fun H0 G0 γ σ H G De o ev hf p => by
  unfold sApp at hf
  split at hf
  · rename_i ds e1
    obtain ⟨l, vs, h1, hg, h0, h2, h3⟩ := ev.ow e1
    split at hf
    · rename_i d e2
      split at hf
      · rename_i hz
        cases hf
        refine ⟨_, h1, .inl ⟨rfl, vs, .of h2⟩, ?_⟩
        refine ha.eo H0 G0 γ σ H G _ _ ev e2 fun v H' G' s r => ?_
        have hl : H' l = some (.lst vs) := s.ex _ _ h2
        have r' : R X.K M G' v d := r
        exact ⟨l, vs, v, rfl, rfl, hl, by rw [h3.len]; exact big_line' hz, p _ _ G' ((ev.stp s).wr e1 h1 hl ((h3.mono s.eg).app (.one r')))⟩
      · cases hf
    · rename_i c e2
      cases hf
      refine ⟨_, h1, .inl ⟨rfl, vs, .of h2⟩, ?_⟩
      exact ha.eo H0 G0 γ σ H G _ _ ev e2 (ev.er p)
    · cases hf
  · cases hf⟩
/-- .. its rule from its parts -/
theorem js_appX {i : Nat} {x : Str} {p0 apos cpos : Pos} (C : CxF K X E k) (ho : JE K X M E .op (.Name x p0) (tVar i) (fOpd i)) (ha : JE K X M E .cl a ta fa)
    (hbase : attributeBase (.Name x p0) "append" X.env (eval (.Name x p0) X.env) = eval (.Name x p0) X.env := by rfl)
    (hfew : ((backTo cpos (starEach [a] X.env)).all (fun x => !x.1) && (backToKw cpos (keywordEach [] X.env)).all (fun x => x.1.isSome)
      && decide ([a].length + ([] : List Keyword).length + (if ([] : List Keyword).isEmpty then 0 else 1) < 30)) = true := by rfl)
    (hline : (apos.endLine == cpos.line) = true := by rfl) (hst : starEach [a] X.env = (false, eval a X.env) :: starEach [] X.env := by rfl) (hs : swapsWith (.Call (.Attribute (.Name x p0) "append" apos) [a] [] cpos) none pos.line X.env = pure false := by rfl) :
    JS K X M E (.Expr (.Call (.Attribute (.Name x p0) "append" apos) [a] [] cpos) pos) (tDrop (tBM K "list" rAppend (tVar i) (tCons ta tNil))) (sApp i fa) := by
  have hK := C.hK
  subst hK
  exact js_app C ho.pe ha (pe_bm PySem.F.plainAttrs_list PySem.F.slot_list_append PySem.F.type_list_append mt_append ho.pe (pa_cons ha.pe pa_nil hst) hbase hfew hline hst rfl) hs
/-! ### loops -/
theorem EnvR.reG {K : PySem.W.Frag} {H0 G0 H G H1 G1 : Hp} {γ γ1 : Ge} {σ σ1 : L2.St} (e : EnvR K M H0 G0 γ σ H G) (e1 : EnvR K M H0 G γ1 σ1 H1 G1) : EnvR K M H0 G0 γ1 σ1 H1 G1 :=
  ⟨⟨e1.st.ex, e.st.eg.trans e1.st.eg, e1.st.sub, fun p o h n => e1.st.nw p o h (e.st.nw p o h n)⟩, e1.len, e1.sl, e1.ap⟩
theorem EnvR.toG {K : PySem.W.Frag} {H0 G0 H G : Hp} {γ : Ge} {σ : L2.St} (e : EnvR K M H0 G0 γ σ H G) : EnvR K M H0 G γ σ H G :=
  ⟨⟨e.st.ex, Same.refl _, e.st.sub, fun _ _ _ n => n⟩, e.len, e.sl, e.ap⟩
theorem Stp.reG {H0 G0 H G H1 G1 : Hp} (e : Stp H0 G0 H G) (e1 : Stp H0 G H1 G1) : Stp H0 G0 H1 G1 := ⟨e1.ex, e.eg.trans e1.eg, e1.sub, fun p o h n => e1.nw p o h (e.nw p o h n)⟩
theorem PostS.reG {K : PySem.W.Frag} {H0 G0 H G : Hp} {γ : Ge} {σ : L2.St} {De : Ends} {o : Out} (e : EnvR K M H0 G0 γ σ H G) (p : PostS K M E H0 G0 De o) : PostS K M E H0 G De o := by
  cases o with
  | nx γ1 => exact fun σ' H' G' e' => p σ' H' G' (e.reG e')
  | bk γ1 => exact fun σ' H' G' e' => p σ' H' G' (e.reG e')
  | ct γ1 => exact fun σ' H' G' e' => p σ' H' G' (e.reG e')
  | rt d => exact fun v H' G' s r => p v H' G' (e.st.reG s) r
  | er c => exact fun H' G' s => p H' G' (e.st.reG s)
theorem so_for {K : PySem.W.Frag} {wi : TI} {js : List Nat} {gg : TG} {gf : D → Ge → Option Ge} {w : Fa} (hw : WO K M E wi w) (hg : GO K M js gg gf) (hb : SO K M E t f) : SO K M E (tFor wi gg t) (sFor w gf f) := fun H0 G0 γ σ H G De o ev hf p => by
  unfold sFor at hf
  split at hf
  · rename_i ds e1
    refine hw H0 G0 γ σ H G _ _ ev e1 fun J H1 G1 s1 itr => ?_
    have ev1 := ev.stp s1
    have p1 := p.reG ev1
    refine ⟨fun i mm σ' H' => mm = ds.length - i ∧ i ≤ ds.length ∧ ∃ γ' G', EnvR K M H0 G1 γ' σ' H' G' ∧ forF gf f (ds.drop i) γ' = some o, ⟨ds.length, by simp, Nat.zero_le _, γ, G1, ev1.toG, hf⟩, ?_⟩
    rintro i mm σ2 H2 ⟨rfl, hi, γ2, G2, ev2, el⟩
    obtain ⟨go, yl, sp⟩ := itr H2 G2 ev2.st.eg ev2.st.sub i
    by_cases hlt : i < ds.length
    · refine .inr ⟨go hlt, fun σ' H' => ∃ γ' G', EnvR K M H0 G1 γ' σ' H' G' ∧ forF gf f (ds.drop (i + 1)) γ' = some o, fun σ' H' ⟨γ', G', q1, q2⟩ => ⟨ds.length - (i + 1), by omega, rfl, hlt, γ', G', q1, q2⟩, fun x H3 hy => ?_⟩
      have hd : ds[i]? = some ds[i] := List.getElem?_eq_getElem hlt
      obtain ⟨G3, s3, rx⟩ := yl x H3 _ hd hy
      rw [List.drop_eq_getElem_cons hlt] at el
      unfold forF at el
      split at el
      · cases el
      · rename_i γ3 eg
        refine hg H0 G1 γ2 γ3 σ2 H3 G3 x ds[i] _ (ev2.stp s3) rx eg fun σ3 ev3 _ => ?_
        split at el
        · rename_i γ4 eb
          exact hb H0 G1 γ3 σ3 H3 G3 _ _ ev3 eb fun σ' H' G' q => ⟨γ4, G', q, el⟩
        · rename_i γ4 eb
          exact hb H0 G1 γ3 σ3 H3 G3 _ _ ev3 eb fun σ' H' G' q => ⟨γ4, G', q, el⟩
        · rename_i γ4 eb
          cases el
          exact hb H0 G1 γ3 σ3 H3 G3 _ _ ev3 eb fun σ' H' G' q => p1 σ' H' G' q
        · rename_i d eb
          cases el
          exact hb H0 G1 γ3 σ3 H3 G3 _ _ ev3 eb p1
        · rename_i c eb
          cases el
          exact hb H0 G1 γ3 σ3 H3 G3 _ _ ev3 eb p1
        · cases el
    · have ei : i = ds.length := by omega
      subst ei
      rw [List.drop_length] at el
      cases el
      exact .inl ⟨sp (Nat.le_refl _), p1 σ2 H2 G2 ev2⟩
  · rename_i e1
    cases hf
    exact hw H0 G0 γ σ H G _ _ ev e1 fun H' G' s => p H' G' (ev.st.trans s)
  · cases hf
theorem js_for {tg iter : Expr} {body : List Stmt} {wi : TI} {js : List Nat} {gg : TG} {gf : D → Ge → Option Ge} {w : Fa} (C : CxF K X E k) (hi : JI K X M E tg iter wi w) (hg : JG K X M tg js gg gf) (hb : JB K X M E body t f)
    (hs : ∀ x, foldedSetIterable iter X.env x = pure x := by intro _; rfl) : JS K X M E (.For tg iter body [] pos) (tFor wi gg t) (sFor w gf f) := ⟨ps_for C.own C.calm hi.pi hg.pg hb.ps hs, so_for hi.wo hg.go hb.so⟩
theorem so_wh {K : PySem.W.Frag} {tt : TT} {ft : Ft} (hc : TO' K M E tt ft) (hb : SO K M E t f) : SO K M E (tWhile tt t) (sWh ft f) := fun H0 G0 γ σ H G De o ev hf p => by
  refine ⟨fun m σ' H' => ∃ γ' G', EnvR K M H0 G0 γ' σ' H' G' ∧ whF ft f m γ' = some o, ⟨fuel, γ, G, ev, hf⟩, ?_⟩
  rintro m σ2 H2 ⟨γ2, G2, ev2, el⟩
  cases m with
  | zero => cases el
  | succ m =>
    unfold whF at el
    split at el
    · rename_i ec
      refine hc H0 G0 γ2 σ2 H2 G2 _ _ ev2 ec fun H3 G3 s3 => ?_
      rw [if_pos rfl]
      have ev3 := ev2.stp s3
      refine ⟨fun σ' H' => ∃ γ' G', EnvR K M H0 G0 γ' σ' H' G' ∧ whF ft f m γ' = some o, fun σ' H' q => ⟨m, Nat.lt_succ_self _, q⟩, ?_⟩
      split at el
      · rename_i γ4 eb
        exact hb H0 G0 γ2 σ2 H3 G3 _ _ ev3 eb fun σ' H' G' q => ⟨γ4, G', q, el⟩
      · rename_i γ4 eb
        exact hb H0 G0 γ2 σ2 H3 G3 _ _ ev3 eb fun σ' H' G' q => ⟨γ4, G', q, el⟩
      · rename_i γ4 eb
        cases el
        exact hb H0 G0 γ2 σ2 H3 G3 _ _ ev3 eb fun σ' H' G' q => p σ' H' G' q
      · rename_i d eb
        cases el
        exact hb H0 G0 γ2 σ2 H3 G3 _ _ ev3 eb p
      · rename_i c eb
        cases el
        exact hb H0 G0 γ2 σ2 H3 G3 _ _ ev3 eb p
      · cases el
    · rename_i ec
      cases el
      refine hc H0 G0 γ2 σ2 H2 G2 _ _ ev2 ec fun H3 G3 s3 => ?_
      rw [if_neg Bool.false_ne_true]
      exact p σ2 H3 G3 (ev2.stp s3)
    · rename_i ec
      cases el
      exact hc H0 G0 γ2 σ2 H2 G2 _ _ ev2 ec fun H' G' s => p H' G' (ev2.st.trans s)
    · cases el
theorem js_wh {body : List Stmt} {tt : TT} {ft : Ft} (C : CxF K X E k) (hc : JT K X M E c tt ft) (hb : JB K X M E body t f) : JS K X M E (.While c body [] pos) (tWhile tt t) (sWh ft f) := ⟨ps_while C.own hc.pt hb.ps, so_wh hc.to hb.so⟩
/-- raise X('..') -/
theorem js_raise {x : Str} {t : L2.St → Hp → XK → Prop} {cn : Str} (C : CxF K X E k) (tk : Takes X (fun cls d _ H => E cls d H)) (he : PMk X a t) (ht : ∀ σ H (Q : XK), Q (M.exc cn) none H → t σ H Q) : JS K X M E (.Raise (some a) none pos) (fun _ σ H => t σ H fun cls d H' => E cls d H') (sRaise cn) :=
  ⟨ps_raise C.calm tk he, fun H0 G0 γ σ H G De o ev hf p => by cases hf; exact ht σ H _ (p H G ev.st)⟩
end

/-! ### the rule of a def -/
def entry (n : Nat) (ds : List D) : Ge := ds.map Sl.va ++ List.replicate (n - ds.length) .no
def runF (np n : Nat) (f : Fs) : List D → Option Rs := fun ds => if ds.length = np then (match f (entry n ds) with
  | some (.nx _) => some (.ok .none)
  | some (.rt d) => some (.ok d)
  | some (.er c) => some (.er c)
  | _ => none) else none
theorem env_entry {K : PySem.W.Frag} {M : Pm} {H G : Hp} {N : List Str} {vs : List V} {ds : List D} (e : Same G H) (r : RA K M G vs ds) : EnvR K M H G (entry N.length ds) (L2.start N vs) H G := by
  refine ⟨Stp.refl e, by unfold L2.start entry; simp [r.len], fun i s x h1 h2 => ?_, fun i j si sj xi xj o h1 h2 h3 h4 h5 h6 => ?_⟩
  · unfold entry at h1
    unfold L2.start at h2
    by_cases hi : i < ds.length
    · rw [List.getElem?_append_left (by simpa using hi), List.getElem?_map, List.getElem?_eq_getElem hi] at h1
      cases h1
      obtain ⟨v, q1, q2⟩ := r.get (List.getElem?_eq_getElem hi)
      rw [List.getElem?_append_left (by rw [List.length_map, r.len]; exact hi), List.getElem?_map, q1] at h2
      cases h2
      exact ⟨v, rfl, q2⟩
    · rw [List.getElem?_append_right (by simpa using hi), List.getElem?_replicate] at h1
      split at h1
      · cases h1; trivial
      · cases h1
  · exfalso
    unfold entry at h1
    by_cases hi : i < ds.length
    · rw [List.getElem?_append_left (by simpa using hi), List.getElem?_map, List.getElem?_eq_getElem hi] at h1
      cases h1
      exact h5
    · rw [List.getElem?_append_right (by simpa using hi), List.getElem?_replicate] at h1
      split at h1
      · cases h1; exact h5
      · cases h1
/-- what the body of a def stands in -/
theorem cxf_of {P : Program} {w : World} {K : PySem.W.Frag} {mg : Str → Option Value} {base : Heap} {N ps : List Str} {qual : Str} {scope : Scope} {f : Addr} {cd : Value} {A : Around} {outer : List Env} {s : Shared} {H : Hp} {E : XK} {k : Nat} (S : FnScope N ps scope)
    (hr : Room k (A.deeper (envOfC qual scope s.heap.objs.size f cd))) : CxF K (cxOf (L2.CX P w) P w K mg base N qual scope f cd A outer s H E) E k ∧ Takes (cxOf (L2.CX P w) P w K mg base N qual scope f cd A outer s H E) (fun cls d _ H => E cls d H) := by
  have tk : Takes (cxOf (L2.CX P w) P w K mg base N qual scope f cd A outer s H E) (fun cls d _ H => E cls d H) := takes_of rfl rfl rfl rfl
  exact ⟨⟨rfl, rfl, S.nd, passes_call tk fun _ _ _ _ h => h, passes_of (K := fun e s'' => L2.CX P w outer H s E e s'') rfl, hr⟩, tk⟩
theorem fn_ok {P : Program} {w : World} {K : PySem.W.Frag} {mg : Str → Option Value} {base : Heap} {M : Pm} {x qual : Str} {st : Stmt} {f : Addr} {fd : FuncData} {N ps : List Str} {k : Nat} {g : Fs} (F : Fun K x qual st f fd) (S : FnScope N ps (defScope st))
    (hb : ∀ (cdv : Value) (A : Around) (outer : List Env) (s : Shared) (H : Hp) (E : XK), CxF K (cxOf (L2.CX P w) P w K mg base N qual (defScope st) f cdv A outer s H E) E k → Takes (cxOf (L2.CX P w) P w K mg base N qual (defScope st) f cdv A outer s H E) (fun cls d _ H => E cls d H) →
      ∃ t, JB K (cxOf (L2.CX P w) P w K mg base N qual (defScope st) f cdv A outer s H E) M E (defBody st) t g) : FnOk P w K mg base (L2.CX P w) (k + 1) f fd ps (spF K M (runF ps.length N.length g)) := by
  have len : ∀ vs H Q E, spF K M (runF ps.length N.length g) vs H Q E → vs.length = ps.length := by
    rintro vs H Q E ⟨G, ds, r, _, ra, e, _⟩
    unfold runF at e
    split at e
    · rename_i hl
      rw [ra.len]; exact hl
    · cases e
  refine F.okX S len fun cdv A outer s H vs Q E hr h => ?_
  obtain ⟨C, tk⟩ := cxf_of (P := P) (w := w) (K := K) (mg := mg) (base := base) (qual := qual) (s := s) (H := H) (E := E) (outer := outer) S hr
  obtain ⟨t, J⟩ := hb cdv A outer s H E C tk
  refine ⟨t, J.ps, ?_⟩
  obtain ⟨G, ds, r, e, ra, er, p⟩ := h
  unfold runF at er
  split at er
  · split at er
    · rename_i γ1 ef
      cases er
      exact J.so H G _ _ H G _ _ (env_entry e ra) ef fun σ' H' G' ev => p .non H' G' ev.st .non
    · rename_i d ef
      cases er
      exact J.so H G _ _ H G _ _ (env_entry e ra) ef fun v H' G' s r => p v H' G' s r
    · rename_i c ef
      cases er
      exact J.so H G _ _ H G _ _ (env_entry e ra) ef fun H' G' s => p H' G' s
    · cases er
  · cases er
/-- a def of the text, where it stands -/
structure Df (K : PySem.W.Frag) (mg : Str → Option Value) (x : Str) (st : Stmt) (ps : List Str) (f : Addr) (fd : FuncData) : Prop where
  F : Fun K x x st f fd
  b : Binds K fd ps []
  m : mg x = some (.ref f)
/-- with no level nothing is told -/
theorem fn_zero {P : Program} {w : World} {K : PySem.W.Frag} {mg : Str → Option Value} {base : Heap} {M : Pm} {f : Addr} {fd : FuncData} {ps : List Str} : FnOk P w K mg base (L2.CX P w) 0 f fd ps (spF K M fun _ => none) := by
  have no : ∀ vs H Q E, ¬ spF K M (fun _ => none) vs H Q E := by
    rintro vs H Q E ⟨_, _, _, _, _, e, _⟩
    cases e
  exact ⟨fun vs H Q E h => absurd h (no vs H Q E), fun A outer s H args us vs Q E _ _ _ _ h => absurd h (no vs H Q E)⟩
end Py


/-! PyG: built-ins -/
namespace Py
open PySem PySem.Spec PyProof.Rows L2

section
variable {K : PySem.W.Frag} {X : Cx} {M : Pm} {E : XK} {k : Nat} {m : Md} {a b e c : Expr} {ta tb te tc : TE} {fa fb fe fc : Fe} {pos : Pos}

/-! min of two ints -/
def rMin2 : List V → Hp → VK → Prop := fun xs H Q => ∃ i j, xs = [.int i, .int j] ∧ Q (.int (if j < i then j else i)) H
def oMin2 : List D → Option D
  | [.int i, .int j] => some (.int (if j < i then j else i))
  | _ => none
theorem cs_min2 {K : PySem.W.Frag} : CallS K M .cl rMin2 oMin2 := by
  intro H G vs ds dz Q e r ho q
  unfold oMin2 at ho
  split at ho
  · rename_i i j
    cases ho
    cases r with
    | cons r t =>
      cases t with
      | cons r' t =>
        cases t
        cases (show R K M G _ (.int i) from r)
        cases (show R K M G _ (.int j) from r')
        exact ⟨i, j, rfl, q _ H G (Stp.refl e) (R.int _)⟩
  · cases ho
theorem je_min2 {p : Pos} (C : CxF K X E k) (hm : X.mg "min" = none) (hg : Gl X "min") (ha : JE K X M E .op a ta fa) (hb : JE K X M E .op b tb fb)
    (hs3 : starEach [a, b] X.env = (false, eval a X.env) :: starEach [b] X.env := by rfl) (hs4 : starEach [b] X.env = (false, eval b X.env) :: starEach [] X.env := by rfl) (hpl : (backTo pos (starEach [b] X.env)).any (·.1) = false := by rfl) :
    JE K X M E .cl (.Call (.Name "min" p) [a, b] [] pos) (tCB rMin2 (tCons ta (tCons tb tNil))) (fB oMin2 (fCons fa (fCons fb fNil))) :=
  je_callB (call_min2 C.calm) cs_min2 hm (by decide +kernel) hg (ja_cons ha (ja_cons hb ja_nil hs4) hs3) (by decide) (by decide) hs3 hpl

/-! any, all of a list of truths -/
def boolsOf : List D → Option (List Bool)
  | [] => some []
  | .bool b :: r => (match boolsOf r with
    | some bs => some (b :: bs)
    | none => none)
  | _ :: _ => none
theorem boolsOf_eq : ∀ {ds : List D} {bs : List Bool}, boolsOf ds = some bs → ds = bs.map PyData.bool
  | [], bs, h => by cases h; rfl
  | d :: r, bs, h => by
    cases d with
    | bool b =>
      unfold boolsOf at h
      split at h
      · rename_i bs' e
        cases h
        rw [boolsOf_eq e]
        rfl
      · cases h
    | _ => cases h
theorem boolsOf_map : ∀ (bs : List Bool), boolsOf (bs.map PyData.bool) = some bs
  | [] => rfl
  | b :: r => by
    show (match boolsOf (r.map PyData.bool) with | some bs => some (b :: bs) | none => none) = _
    rw [boolsOf_map r]
def oAny : List D → Option D
  | [.list ds] => (match boolsOf ds with
    | some bs => some (.bool (bs.any id))
    | none => none)
  | _ => none
def oAll : List D → Option D
  | [.list ds] => (match boolsOf ds with
    | some bs => some (.bool (bs.all id))
    | none => none)
  | _ => none
theorem cs_any {K : PySem.W.Frag} : CallS K M .cl (rAny K) oAny := by
  intro H G vs ds dz Q e r ho q
  unfold oAny at ho
  split at ho
  · split at ho
    · rename_i bs eb
      cases ho
      have eb := boolsOf_eq eb
      subst eb
      cases r with
      | cons r t =>
        cases t
        obtain ⟨l, us, e1, h, ra⟩ := r
        subst e1
        exact ⟨l, bs, rfl, by rw [← ra.bools]; exact h, q _ H G (Stp.refl e) (R.bl _)⟩
    · cases ho
  · cases ho
theorem cs_all {K : PySem.W.Frag} : CallS K M .cl (rAll K) oAll := by
  intro H G vs ds dz Q e r ho q
  unfold oAll at ho
  split at ho
  · split at ho
    · rename_i bs eb
      cases ho
      have eb := boolsOf_eq eb
      subst eb
      cases r with
      | cons r t =>
        cases t
        obtain ⟨l, us, e1, h, ra⟩ := r
        subst e1
        exact ⟨l, bs, rfl, by rw [← ra.bools]; exact h, q _ H G (Stp.refl e) (R.bl _)⟩
    · cases ho
  · cases ho
theorem je_any {p : Pos} (C : CxF K X E k) (hm : X.mg "any" = none) (hg : Gl X "any") (ha : JE K X M E .op a ta fa) (hs : starEach [a] X.env = (false, eval a X.env) :: starEach [] X.env := by rfl) : JE K X M E .cl (.Call (.Name "any" p) [a] [] pos) (tCB (rAny K) (tCons ta tNil)) (fB oAny (fCons fa fNil)) := by
  have hK := C.hK
  subst hK
  exact je_callB (cr_any C.calm) cs_any hm (by decide +kernel) hg (ja_cons ha ja_nil hs) (by decide) (by decide) hs rfl
theorem je_all {p : Pos} (C : CxF K X E k) (hm : X.mg "all" = none) (hg : Gl X "all") (ha : JE K X M E .op a ta fa) (hs : starEach [a] X.env = (false, eval a X.env) :: starEach [] X.env := by rfl) : JE K X M E .cl (.Call (.Name "all" p) [a] [] pos) (tCB (rAll K) (tCons ta tNil)) (fB oAll (fCons fa fNil)) := by
  have hK := C.hK
  subst hK
  exact je_callB (cr_all C.calm) cs_all hm (by decide +kernel) hg (ja_cons ha ja_nil hs) (by decide) (by decide) hs rfl
/-! list(xs), tuple(xs), int(flag) -/
def rListA (K : PySem.W.Frag) : List V → Hp → VK → Prop := fun xs H Q => ∃ p ys, xs = [.ref p] ∧ (SqL K H p ys ∨ SqT K H p ys) ∧ ∀ l, H l = none → Q (.ref l) (upd H l (.lst ys))
def oList : List D → Option D
  | [.list ds] => some (.list ds)
  | [.tuple ds] => some (.list ds)
  | _ => none
theorem cs_list {K : PySem.W.Frag} : CallS K M .fr (rListA K) oList := by
  intro H G vs ds dz Q e r ho q
  unfold oList at ho
  split at ho
  · rename_i ds
    cases ho
    cases r with
    | cons r t =>
      cases t
      obtain ⟨l, us, e1, h, ra⟩ := r
      subst e1
      exact ⟨l, us, rfl, .inl h, fun p hp => q _ _ G (Stp.newO e hp) ⟨p, us, rfl, hp, e.free hp, upd_same, ra⟩⟩
  · rename_i ds
    cases ho
    cases r with
    | cons r t =>
      cases t
      obtain ⟨l, us, e1, h, ra⟩ := R.tupI (show R K M G _ (.tuple ds) from r)
      subst e1
      exact ⟨l, us, rfl, .inr (same_T e h), fun p hp => q _ _ G (Stp.newO e hp) ⟨p, us, rfl, hp, e.free hp, upd_same, ra⟩⟩
  · cases ho
theorem je_list {p : Pos} (C : CxF K X E k) (hm : X.mg "list" = none) (hg : Gl X "list") (ha : JE K X M E .op a ta fa) (hs : starEach [a] X.env = (false, eval a X.env) :: starEach [] X.env := by rfl) : JE K X M E .fr (.Call (.Name "list" p) [a] [] pos) (tCB (rListA K) (tCons ta tNil)) (fB oList (fCons fa fNil)) := by
  have hK := C.hK
  subst hK
  exact je_callTy call_list_of cs_list hm (by decide +kernel) hg (ja_cons ha ja_nil hs) (by decide) (by decide) hs rfl
def rTupleA (K : PySem.W.Frag) : List V → Hp → VK → Prop := fun xs H Q => ∃ p ys, xs = [.ref p] ∧ ((SqL K H p ys ∧ ∀ l, H l = none → Q (.ref l) (upd H l (.tup ys))) ∨ (SqT K H p ys ∧ Q (.ref p) H))
def oTuple : List D → Option D
  | [.list ds] => some (.tuple ds)
  | _ => none
theorem cs_tuple {K : PySem.W.Frag} : CallS K M .cl (rTupleA K) oTuple := by
  intro H G vs ds dz Q e r ho q
  unfold oTuple at ho
  split at ho
  · rename_i ds
    cases ho
    cases r with
    | cons r t =>
      cases t
      obtain ⟨l, us, e1, h, ra⟩ := r
      subst e1
      refine ⟨l, us, rfl, .inl ⟨h, fun p hp => ?_⟩⟩
      have s := Stp.new (o := .tup us) e hp
      exact q _ _ _ s (R.tup (.of upd_same) (ra.mono s.eg))
  · cases ho
theorem je_tuple {p : Pos} (C : CxF K X E k) (hm : X.mg "tuple" = none) (hg : Gl X "tuple") (ha : JE K X M E .op a ta fa) (hs : starEach [a] X.env = (false, eval a X.env) :: starEach [] X.env := by rfl) : JE K X M E .cl (.Call (.Name "tuple" p) [a] [] pos) (tCB (rTupleA K) (tCons ta tNil)) (fB oTuple (fCons fa fNil)) := by
  have hK := C.hK
  subst hK
  exact je_callTy call_tuple_of cs_tuple hm (by decide +kernel) hg (ja_cons ha ja_nil hs) (by decide) (by decide) hs rfl
def rInt1 : List V → Hp → VK → Prop := fun xs H Q => (∃ i, xs = [.int i] ∧ Q (.int i) H) ∨ ∃ k, xs = [.bl k] ∧ Q (.int (if k then 1 else 0)) H
def oInt1 : List D → Option D
  | [.bool b] => some (.int (if b then 1 else 0))
  | [.int i] => some (.int i)
  | _ => none
theorem cs_int1 {K : PySem.W.Frag} : CallS K M .cl rInt1 oInt1 := by
  intro H G vs ds dz Q e r ho q
  unfold oInt1 at ho
  split at ho
  · rename_i b
    cases ho
    cases r with
    | cons r t =>
      cases t
      cases (show R K M G _ (.bool b) from r)
      exact .inr ⟨b, rfl, q _ H G (Stp.refl e) (R.int _)⟩
  · rename_i i
    cases ho
    cases r with
    | cons r t =>
      cases t
      cases (show R K M G _ (.int i) from r)
      exact .inl ⟨i, rfl, q _ H G (Stp.refl e) (R.int _)⟩
  · cases ho
theorem je_int1 {p : Pos} (hm : X.mg "int" = none) (hg : Gl X "int") (ha : JE K X M E .op a ta fa) (hs : starEach [a] X.env = (false, eval a X.env) :: starEach [] X.env := by rfl) : JE K X M E .cl (.Call (.Name "int" p) [a] [] pos) (tCB rInt1 (tCons ta tNil)) (fB oInt1 (fCons fa fNil)) :=
  je_callTy call_int1 cs_int1 hm (by decide +kernel) hg (ja_cons ha ja_nil hs) (by decide) (by decide) hs rfl

/-! list(range(a, b)), list(range(a, b, -1)) -/
theorem RA.rg {K : PySem.W.Frag} {G : Hp} (f : Nat → Int) : ∀ l : List Nat, RA K M G (l.map fun i => V.int (f i)) (l.map fun i => PyData.int (f i))
  | [] => .nil
  | i :: r => .cons (.int _) (RA.rg f r)
def fLrg (a : Fa) : Fe := fun γ => match a γ with
  | some (.ok [.int i, .int j]) => if rgOk i j = true then some (.ok (.list (rgD i j))) else none
  | some (.er c) => some (.er c)
  | _ => none
theorem je_listRg {p p2 pos2 : Pos} (C : CxF K X E k) (hm : X.mg "list" = none) (hg : Gl X "list") (hm2 : X.mg "range" = none) (hg2 : Gl X "range") (ha : JE K X M E .op a ta fa) (hb : JE K X M E .op b tb fb)
    (hs3 : starEach [a, b] X.env = (false, eval a X.env) :: starEach [b] X.env := by rfl) (hs4 : starEach [b] X.env = (false, eval b X.env) :: starEach [] X.env := by rfl) (hpl : (backTo pos2 (starEach [b] X.env)).any (·.1) = false := by rfl)
    (na : starEach [Expr.Call (.Name "range" p2) [a, b] [] pos2] X.env = (false, eval (Expr.Call (.Name "range" p2) [a, b] [] pos2) X.env) :: starEach [] X.env := by rfl) :
    JE K X M E .fr (.Call (.Name "list" p) [.Call (.Name "range" p2) [a, b] [] pos2] [] pos) (tLstRg (tRg2 ta tb)) (fLrg (fCons fa (fCons fb fNil))) := by
  have A := ja_cons ha (ja_cons hb (ja_nil (K := K) (X := X) (M := M) (E := E)) hs4) hs3
  refine ⟨pe_listRg C.calm hg hm (prg_2 hg2 hm2 ha.pe hb.pe hs3 hs4 hpl) na, fun H0 G0 γ σ H G Q r ev hf p => ?_⟩
  unfold fLrg at hf
  have key : ∀ (z : Rl), fCons fa (fCons fb fNil) γ = some z → PostA K M E H G (fun vs H1 => ∃ i j, vs = [V.int i, V.int j] ∧ RgOk i j ∧ ∀ q, H1 q = none → Q (.ref q) (upd H1 q (.lst (rgV i j)))) z → tLstRg (tRg2 ta tb) σ H Q := by
    intro z ez pz
    unfold tLstRg tRg2
    cases e1 : fa γ with
    | none => simp only [fCons, e1, bL] at ez; cases ez
    | some q1 =>
      cases q1 with
      | er cc =>
        have ez' : z = .er cc := by simp only [fCons, e1, bL] at ez; cases ez; rfl
        subst ez'
        exact ha.eo H0 G0 γ σ H G _ _ ev e1 pz
      | ok dx =>
        refine ha.eo H0 G0 γ σ H G _ _ ev e1 fun x H1 G1 s1 r1 => ?_
        cases e2 : fb γ with
        | none => simp only [fCons, e1, e2, bL, bLL] at ez; cases ez
        | some q2 =>
          cases q2 with
          | er cc =>
            have ez' : z = .er cc := by simp only [fCons, e1, e2, bL, bLL, fNil] at ez; cases ez; rfl
            subst ez'
            exact hb.eo H0 G0 γ σ H1 G1 _ _ (ev.stp s1) e2 fun H' G' s => pz H' G' (s1.trans s)
          | ok dy =>
            have ez' : z = .ok [dx, dy] := by simp only [fCons, e1, e2, bL, bLL, fNil] at ez; cases ez; rfl
            subst ez'
            refine hb.eo H0 G0 γ σ H1 G1 _ _ (ev.stp s1) e2 fun y H2 G2 s2 r2 => ?_
            obtain ⟨i, j, e3, ok, q⟩ := pz [x, y] H2 G2 (s1.trans s2) (.cons (r1.mono s2.ex s2.eg) (.cons r2 .nil))
            cases e3
            exact ⟨i, j, rfl, rfl, ok, q⟩
  split at hf
  · rename_i i j e1
    split at hf
    · rename_i hr
      cases hf
      refine key _ e1 fun vs H1 G1 s1 r1 => ?_
      cases r1 with
      | cons r t =>
        cases t with
        | cons r' t =>
          cases t
          cases (show R K M G1 _ (.int i) from r)
          cases (show R K M G1 _ (.int j) from r')
          have hz := hr
          unfold rgOk at hz
          simp only [Bool.and_eq_true, decide_eq_true_eq] at hz
          obtain ⟨b1, b2, b3, b4⟩ := rgOk_of hr
          refine ⟨i, j, rfl, ⟨b1, b2, b3, b4, by omega⟩, fun q hq => ?_⟩
          exact p _ _ G1 (s1.trans (Stp.newO s1.sub hq)) ⟨q, _, rfl, s1.ex.free hq, s1.sub.free hq, upd_same, RA.rg _ _⟩
    · cases hf
  · rename_i e1
    cases hf
    exact key _ e1 p
  · cases hf
def tLrg3 (ta : TA) : TE := fun σ H Q => ta σ H fun vs H1 => ∃ i j : Int, vs = [.int i, .int j, .int (-1)] ∧ (-(2 ^ 62) ≤ i ∧ i < 2 ^ 62 ∧ -(2 ^ 62) ≤ j ∧ j < 2 ^ 62 ∧ (i - j).toNat ≤ 2 ^ 24) ∧ ∀ q, H1 q = none → Q (.ref q) (upd H1 q (.lst ((List.range (i - j).toNat).map fun n => V.int (i + (n : Nat) * (-1)))))
theorem pe_listRg3 {ta : TA} {p p2 pos2 : Pos} (hc : X.calm = true) (hg : Gl X "list") (hm : X.mg "list" = none) (hg2 : Gl X "range") (hm2 : X.mg "range" = none) (ha : PA X [a, b, c] ta) (hs : starEach [a, b, c] X.env = (false, eval a X.env) :: starEach [b, c] X.env) (hpl : (backTo pos2 (starEach [b, c] X.env)).any (·.1) = false)
    (na : starEach [Expr.Call (.Name "range" p2) [a, b, c] [] pos2] X.env = (false, eval (Expr.Call (.Name "range" p2) [a, b, c] [] pos2) X.env) :: starEach [] X.env) : PE X (.Call (.Name "list" p) [.Call (.Name "range" p2) [a, b, c] [] pos2] [] pos) (tLrg3 ta) := by
  refine ⟨fun pins s σ H Q I h => ?_⟩
  refine Call_ (ld_blt I hg hm boot_list (PyProof.Rows.callWith_type1 (args_cons ?_ na) na))
  refine Call_ (ld_blt I hg2 hm2 boot_range (PyProof.Rows.callWith_type1 (thn (ha.run pos2 pins s σ H _ I h) fun us s1 ⟨vs, H1, I1, r1, q1⟩ => ?_) hs hpl))
  obtain ⟨i, j, e, ⟨b1, b2, b3, b4, b5⟩, q⟩ := q1
  subst e
  cases r1 with
  | cons r rr =>
    cases rr with
    | cons r' rr =>
      cases rr with
      | cons r'' rr =>
        cases rr
        obtain ⟨t, rfl⟩ := r
        obtain ⟨t', rfl⟩ := r'
        obtain ⟨t'', rfl⟩ := r''
        refine call_range_3 (by decide) (args_nil ?_) (.inl (PyProof.noPylong_small (by decide)))
        obtain ⟨c0, c1, c2, c3⟩ := RgC.neg b1 b2 b3 b4
        have I2 : Inv X pins σ H1 { s1 with heap := s1.heap.push { cls := .type "range", data := .fields #[.int i t, .int j t', .int (-1) t''] } } := I1.kept (t' := s1.toks) fun b o e => Heap.get?_push_of_some _ e
        refine call_list_range (n := (i - j).toNat) (I1.ok.hd hc) (IsRange.new ..) c2 c3 b5 fun h' tk acc c' hk e' hi => ?_
        refine ⟨.ref _, upd H1 _ (.lst ((List.range (i - j).toNat).map fun n => V.int (i + (n : Nat) * (-1)))), I2.laid hk (Nat.le_refl _) (show ObjOk X.prog X.w _ _ _ (.lst _) from ⟨?_, acc.toList, c', ?_, ?_⟩), rfl, q _ (I2.hok.fresh (Nat.le_refl _))⟩
        · rw [List.length_map, List.length_range, sizeLine_eq]; omega
        · have e : acc.toList.length = (i - j).toNat := by rw [Array.length_toList]; exact hi.1
          rw [← e]
          refine vals_of_get acc.toList _ fun n u hj => ?_
          obtain ⟨t, rfl⟩ := hi.2 n u (by rw [← hj, Array.getElem?_toList])
          exact ⟨t, rfl⟩
        · rw [Array.toArray_toList]; exact e'
def rgDn (i j : Int) : List D := (List.range (i - j).toNat).map fun n => .int (i + (n : Nat) * (-1))
def fLrg3 (a : Fa) : Fe := fun γ => match a γ with
  | some (.ok [.int i, .int j, .int (-1)]) => if rgOk i j = true then some (.ok (.list (rgDn i j))) else none
  | some (.er c) => some (.er c)
  | _ => none
theorem je_listRg3 {p p2 pos2 : Pos} (C : CxF K X E k) (hm : X.mg "list" = none) (hg : Gl X "list") (hm2 : X.mg "range" = none) (hg2 : Gl X "range") (ha : JE K X M E .op a ta fa) (hb : JE K X M E .op b tb fb) (hc : JE K X M E .op c tc fc)
    (hs2 : starEach [a, b, c] X.env = (false, eval a X.env) :: starEach [b, c] X.env := by rfl) (hs3 : starEach [b, c] X.env = (false, eval b X.env) :: starEach [c] X.env := by rfl) (hs4 : starEach [c] X.env = (false, eval c X.env) :: starEach [] X.env := by rfl) (hpl : (backTo pos2 (starEach [b, c] X.env)).any (·.1) = false := by rfl)
    (na : starEach [Expr.Call (.Name "range" p2) [a, b, c] [] pos2] X.env = (false, eval (Expr.Call (.Name "range" p2) [a, b, c] [] pos2) X.env) :: starEach [] X.env := by rfl) :
    JE K X M E .fr (.Call (.Name "list" p) [.Call (.Name "range" p2) [a, b, c] [] pos2] [] pos) (tLrg3 (tCons ta (tCons tb (tCons tc tNil)))) (fLrg3 (fCons fa (fCons fb (fCons fc fNil)))) := by
  have A := ja_cons ha (ja_cons hb (ja_cons hc (ja_nil (K := K) (X := X) (M := M) (E := E)) hs4) hs3) hs2
  refine ⟨pe_listRg3 C.calm hg hm hg2 hm2 A.pa hs2 hpl na, fun H0 G0 γ σ H G Q r ev hf p => ?_⟩
  unfold fLrg3 at hf
  split at hf
  · rename_i i j e1
    split at hf
    · rename_i hr
      cases hf
      refine A.ao H0 G0 γ σ H G _ _ ev e1 fun vs H1 G1 s1 r1 => ?_
      cases r1 with
      | cons r t =>
        cases t with
        | cons r' t =>
          cases t with
          | cons r'' t =>
            cases t
            cases (show R K M G1 _ (.int i) from r)
            cases (show R K M G1 _ (.int j) from r')
            cases (show R K M G1 _ (.int (-1)) from r'')
            have hz := hr
            unfold rgOk at hz
            simp only [Bool.and_eq_true, decide_eq_true_eq] at hz
            obtain ⟨b1, b2, b3, b4⟩ := rgOk_of hr
            refine ⟨i, j, rfl, ⟨b1, b2, b3, b4, by omega⟩, fun q hq => ?_⟩
            exact p _ _ G1 (s1.trans (Stp.newO s1.sub hq)) ⟨q, _, rfl, s1.ex.free hq, s1.sub.free hq, upd_same, RA.rg _ _⟩
    · cases hf
  · rename_i e1
    cases hf
    exact A.ao H0 G0 γ σ H G _ _ ev e1 p
  · cases hf

/-! isinstance(x, T), T a built-in type -/
def tyN : D → Option String
  | .none => some "NoneType"
  | .bool _ => some "bool"
  | .int _ => some "int"
  | .str _ => some "str"
  | .list _ => some "list"
  | .tuple _ => some "tuple"
  | .dict [] => some "dict"
  | .dict _ => none
def isT (T : String) (d : D) : Option Bool := match tyN d with
  | some n => some (n == T || (n == "bool" && T == "int"))
  | none => none
def oIsi (T : String) (d : D) : Option D := match isT T d with
  | some b => some (.bool b)
  | none => none
theorem kit_isT {T : String} (hT : T = "str" ∨ T = "int" ∨ T = "bool" ∨ T = "tuple" ∨ T = "list") {n : String} (hn : n = "NoneType" ∨ n = "bool" ∨ n = "int" ∨ n = "str" ∨ n = "list" ∨ n = "tuple" ∨ n = "dict") : kitB n T = some (n == T || (n == "bool" && T == "int")) := by
  rcases hT with rfl | rfl | rfl | rfl | rfl <;> rcases hn with rfl | rfl | rfl | rfl | rfl | rfl | rfl <;> decide +kernel
theorem tyx_of {K : PySem.W.Frag} {H G : Hp} {v : V} {d : D} {n : String} (e : Same G H) (r : RO K M H G v d) (h : tyN d = some n) : TyX K H v (.type n) := by
  cases d with
  | none => cases h; cases (show R K M G v .none from r); exact .base .non
  | bool b => cases h; cases (show R K M G v (.bool b) from r); exact .base (.bl b)
  | int b => cases h; cases (show R K M G v (.int b) from r); exact .base (.int b)
  | str b => cases h; cases (show R K M G v (.str b) from r); exact .base (.str b)
  | list ds =>
    cases h
    obtain ⟨l, us, e1, h, ra⟩ := r
    subst e1
    rcases h with (h | ⟨o, h⟩) | ⟨o, its, n, h, c, _⟩
    · exact .base (.lst h)
    · exact .base (.frz h)
    · exact .kList h c
  | tuple ds =>
    cases h
    obtain ⟨l, us, e1, h, ra⟩ := R.tupI (show R K M G v (.tuple ds) from r)
    subst e1
    rcases same_T e h with (h | ⟨o, h⟩) | ⟨o, its, n, h, c, _⟩
    · exact .base (.tup h)
    · exact .fTuple h
    · exact .kTuple h c
  | dict kvs =>
    cases kvs with
    | nil =>
      cases h
      cases (show R K M G v (.dict []) from r) with
      | edict h => exact .base (.dK (e _ _ h))
    | cons _ _ => cases h
theorem tyN_ok {d : D} {n : String} (h : tyN d = some n) : n = "NoneType" ∨ n = "bool" ∨ n = "int" ∨ n = "str" ∨ n = "list" ∨ n = "tuple" ∨ n = "dict" := by
  cases d with
  | dict kvs =>
    cases kvs with
    | nil => cases h; simp
    | cons _ _ => cases h
  | _ => cases h; simp
def rIsiA (K : PySem.W.Frag) : List V → Hp → VK → Prop := fun xs H Q => ∃ (x c : V) (t u : Value) (b : Bool), xs = [x, c] ∧ ClsV c u ∧ TyX K H x t ∧ PySem.W.kitOne K t u = some b ∧ Q (.bl b) H
theorem je_isi {T : String} {y : Str} {p p2 : Pos} (C : CxF K X E k) (hm : X.mg "isinstance" = none) (hg : Gl X "isinstance") (hm2 : X.mg y = none) (hg2 : Gl X y) (hv : bootBuiltins y = some (.type T)) (hT : T = "str" ∨ T = "int" ∨ T = "bool" ∨ T = "tuple" ∨ T = "list") (ha : JE K X M E .op a ta fa)
    (hn : y ≠ "__name__" := by decide) (hdb : (y == ("__debug__" : Str)) = false := by decide) (hs3 : starEach [a, .Name y p2] X.env = (false, eval a X.env) :: starEach [.Name y p2] X.env := by rfl) (hs4 : starEach [.Name y p2] X.env = (false, eval (.Name y p2) X.env) :: starEach [] X.env := by rfl) (hpl : (backTo pos (starEach [.Name y p2] X.env)).any (·.1) = false := by rfl) :
    JE K X M E .cl (.Call (.Name "isinstance" p) [a, .Name y p2] [] pos) (tCB (rIsiA K) (tCons ta (tCons (tC (.ty T)) tNil))) (f1 (oIsi T) fa) := by
  have hK := C.hK
  subst hK
  refine ⟨pe_callB call_isi hg hm (by decide +kernel) (pa_cons ha.pe (pa_cons (pe_bltn (v := .ty T) hg2 hm2 hv rfl hn hdb) pa_nil hs4) hs3) (by decide) (by decide) hs3 hpl, fun H0 G0 γ σ H G Q r ev hf p' => ?_⟩
  unfold f1 at hf
  cases e1 : fa γ with
  | none => rw [e1] at hf; cases hf
  | some q1 =>
    rw [e1] at hf
    cases q1 with
    | er c => cases hf; exact ha.eo H0 G0 γ σ H G _ _ ev e1 p'
    | ok d =>
      refine ha.eo H0 G0 γ σ H G _ _ ev e1 fun v H1 G1 s r1 => ?_
      simp only [bR, oIsi, isT] at hf
      cases e2 : tyN d with
      | none => rw [e2] at hf; cases hf
      | some n =>
        rw [e2] at hf
        cases hf
        exact ⟨v, .ty T, .type n, .type T, _, rfl, .ty T, tyx_of s.sub r1 e2, kit_ty (kit_isT hT (tyN_ok e2)), p' _ H1 G1 s (R.bl _)⟩

/-! texts -/
def strsOf : List D → Option (List Str)
  | [] => some []
  | .str b :: r => (match strsOf r with
    | some bs => some (b :: bs)
    | none => none)
  | _ :: _ => none
theorem strsOf_eq : ∀ {ds : List D} {bs : List Str}, strsOf ds = some bs → ds = bs.map PyData.str
  | [], bs, h => by cases h; rfl
  | d :: r, bs, h => by
    cases d with
    | str b =>
      unfold strsOf at h
      split at h
      · rename_i bs' e
        cases h
        rw [strsOf_eq e]
        rfl
      · cases h
    | _ => cases h
theorem strsOf_map : ∀ (bs : List Str), strsOf (bs.map PyData.str) = some bs
  | [] => rfl
  | b :: r => by
    show (match strsOf (r.map PyData.str) with | some bs => some (b :: bs) | none => none) = _
    rw [strsOf_map r]
def rJoinA (K : PySem.W.Frag) : V → List V → Hp → VK → Prop := fun x xs H Q => ∃ a p, ∃ ys : List Str, x = .str a ∧ xs = [.ref p] ∧ (SqL K H p (ys.map V.str) ∨ SqT K H p (ys.map V.str)) ∧
    (ys.map (·.length)).sum + ys.length * a.length ≤ 16777216 ∧ Q (.str (Txt.join a ys)) H
def fM1 (o : Str → D → Option D) (a b : Fe) : Fe := fun γ => match a γ with
  | some (.ok (.str z)) => bR (b γ) fun y => oR (o z y)
  | some (.er c) => some (.er c)
  | _ => none
/-- a method of texts with one argument, by values -/
def Mt1S (K : PySem.W.Frag) (M : Pm) (m : Md) (r : V → List V → Hp → VK → Prop) (o : Str → D → Option D) : Prop :=
  ∀ (H G : Hp) (z : Str) (y : V) (dy dz : D) (Q : VK), Same G H → RO K M H G y dy → o z dy = some dz → (∀ v H' G', Stp H G H' G' → Res K M m H H' G' v dz → Q v H') → r (.str z) [y] H Q
theorem eo_m1 {K : PySem.W.Frag} {r : V → List V → Hp → VK → Prop} {o : Str → D → Option D} (ho : Mt1S K M m r o) (ha : EO K M E .op ta fa) (hb : EO K M E .op tb fb) : EO K M E m (tM1 r ta tb) (fM1 o fa fb) := by
  intro H0 G0 γ σ H G Q q ev hf p
  unfold fM1 at hf
  split at hf
  · rename_i z e1
    refine ha H0 G0 γ σ H G _ _ ev e1 fun x H1 G1 s1 r1 => ?_
    cases (show R K M G1 x (.str z) from r1)
    refine ⟨⟨z, rfl⟩, ?_⟩
    cases e2 : fb γ with
    | none => rw [e2] at hf; cases hf
    | some q2 =>
      rw [e2] at hf
      cases q2 with
      | er c => cases hf; exact hb H0 G0 γ σ H1 G1 _ _ (ev.stp s1) e2 fun H' G' s' => p H' G' (s1.trans s')
      | ok dy =>
        refine hb H0 G0 γ σ H1 G1 _ _ (ev.stp s1) e2 fun y H2 G2 s2 r2 => ?_
        simp only [bR] at hf
        cases e3 : o z dy with
        | none => rw [e3] at hf; cases hf
        | some dz =>
          rw [e3] at hf
          cases hf
          exact ho H2 G2 z y dy dz Q s2.sub r2 e3 fun v H' G' s3 r3 => p v H' G' ((s1.trans s2).trans s3) (r3.up (s1.ex.trans s2.ex))
  · rename_i c e1
    cases hf
    exact ha H0 G0 γ σ H G _ _ ev e1 p
  · cases hf
def oJoin (a : Str) : D → Option D
  | .list ds => (match strsOf ds with
    | some ys => if (ys.map (·.length)).sum + ys.length * a.length ≤ big then some (.str (Txt.join a ys)) else none
    | none => none)
  | _ => none
theorem ms_join {K : PySem.W.Frag} : Mt1S K M .cl (rJoinA K) oJoin := by
  intro H G z y dy dz Q e r ho q
  unfold oJoin at ho
  split at ho
  · split at ho
    · rename_i ys es
      split at ho
      · rename_i hz
        cases ho
        have es := strsOf_eq es
        subst es
        obtain ⟨l, us, e3, h, ra⟩ := r
        subst e3
        exact ⟨z, l, ys, rfl, rfl, .inl (by rw [← ra.strs]; exact h), Nat.le_trans hz (by decide), q _ H G (Stp.refl e) (R.str _)⟩
      · cases ho
    · cases ho
  · cases ho
theorem je_join {apos : Pos} (C : CxF K X E k) (ha : JE K X M E .op a ta fa) (hb : JE K X M E .op b tb fb) (hs : starEach [b] X.env = [(false, eval b X.env)] := by rfl) (hbase : attributeBase a "join" X.env (eval a X.env) = eval a X.env := by rfl) (hline : (apos.endLine == pos.line) = true := by rfl) :
    JE K X M E .cl (.Call (.Attribute a "join" apos) [b] [] pos) (tM1 (rJoinA K) ta tb) (fM1 oJoin fa fb) := by
  have hK := C.hK
  subst hK
  exact ⟨pe_join ha.pe hb.pe hs hbase hline, eo_m1 ms_join ha.eo hb.eo⟩
def rSplitA : V → List V → Hp → VK → Prop := fun x xs H Q => ∃ a b, x = .str a ∧ xs = [.str b] ∧ (b.length == 0) = false ∧ a.length + 2 ≤ sizeLine ∧ rNewStrs (Txt.split a b) H Q
def oSplit (a : Str) : D → Option D
  | .str b => if (b.length == 0) = false ∧ a.length + 2 ≤ big then some (.list ((Txt.split a b).map .str)) else none
  | _ => none
theorem ms_split {K : PySem.W.Frag} : Mt1S K M .fr rSplitA oSplit := by
  intro H G z y dy dz Q e r ho q
  unfold oSplit at ho
  split at ho
  · rename_i b
    split at ho
    · rename_i hz
      cases ho
      cases (show R K M G y (.str b) from r)
      exact ⟨z, b, rfl, rfl, hz.1, big_line hz.2, fun p hp => q _ _ G (Stp.newO e hp) ⟨p, _, rfl, hp, e.free hp, upd_same, RA.of_strs _⟩⟩
    · cases ho
  · cases ho
theorem je_split {apos : Pos} (ha : JE K X M E .op a ta fa) (hb : JE K X M E .op b tb fb) (hs : starEach [b] X.env = [(false, eval b X.env)] := by rfl) (hbase : attributeBase a "split" X.env (eval a X.env) = eval a X.env := by rfl) (hline : (apos.endLine == pos.line) = true := by rfl) :
    JE K X M E .fr (.Call (.Attribute a "split" apos) [b] [] pos) (tM1 rSplitA ta tb) (fM1 oSplit fa fb) := ⟨pe_split ha.pe hb.pe hs hbase hline, eo_m1 ms_split ha.eo hb.eo⟩
end
end Py

namespace Py
open PySem PySem.Spec PyProof.Rows L2
/-- at the law's end -/
theorem law_end {K : PySem.W.Frag} {M : Pm} {φ : List D → Option Rs} {H : Hp} {a : Addr} {ns : List Int} (hS : SqL K H a (ns.map V.int)) (h : φ [.list (ns.map .int)] = some (.ok (.bool true))) : spF K M φ [.ref a] H (fun v _ => v = .bl true) fun _ _ _ => False :=
  ⟨H, _, _, Same.refl _, .cons (.lst hS (RA.of_ints ns)) .nil, h, fun v H' G' _ r => by
    cases (show R K M G' v (.bool true) from r)
    rfl⟩
theorem no_exc {P : Program} {w : World} {H : Hp} {s : Shared} {e : Value} {s' : Shared} (z : L2.CX P w [] H s (fun _ _ _ => False) e s') : False := by
  obtain ⟨_, _, _, _, _, _, _, _, _, _, _, _, z⟩ := z
  exact z.elim
end Py

/-! PyX: defs that share one list of one number -/
namespace Py
open PySem PySem.Spec PyProof.Rows L2

/-- a step of the heap that may change the list at o -/
structure StpX (o : Addr) (H G H' G' : Hp) : Prop where
  ex : ∀ (p : Addr) (u : HO), p ≠ o → H p = some u → H' p = some u
  eg : Same G G'
  sub : Same G' H'
  nw : ∀ (p : Addr) (u : HO), H p = some u → G p = none → G' p = none
/-- slot i is the shared list at o -/
structure EnvX (K : PySem.W.Frag) (M : Pm) (i : Nat) (o : Addr) (H0 G0 : Hp) (γ : Ge) (σ : L2.St) (H G : Hp) : Prop where
  ev : EnvR K M H0 G0 γ σ H G
  sp : σ[i]? = some (some (.ref o))
section
variable {K : PySem.W.Frag} {M : Pm} {H0 G0 H G H' G' : Hp} {γ : Ge} {σ : L2.St} {i : Nat} {o : Addr}
theorem EnvX.stp {H1 G1 : Hp} (e : EnvX K M i o H0 G0 γ σ H G) (s : Stp H G H1 G1) : EnvX K M i o H0 G0 γ σ H1 G1 := ⟨e.ev.stp s, e.sp⟩
theorem EnvX.setv {j : Nat} {v : V} {d : D} (e : EnvX K M i o H0 G0 γ σ H G) (hj : j ≠ i) (r : R K M G v d) : EnvX K M i o H0 G0 (γ.set j (.va d)) (σ.set j (some v)) H G :=
  ⟨e.ev.setv r, by rw [List.getElem?_set_ne hj]; exact e.sp⟩
theorem EnvX.own {ds : List D} (e : EnvX K M i o H0 G0 γ σ H G) (h : γ[i]? = some (.ow ds)) : ∃ vs, G o = none ∧ H0 o = none ∧ H o = some (.lst vs) ∧ RA K M G vs ds := by
  obtain ⟨p, vs, h1, h2⟩ := e.ev.ow h
  have q := e.sp
  rw [h1] at q
  cases q
  exact ⟨vs, h2⟩
theorem EnvX.call {ds es : List D} {ws : List V} (e : EnvX K M i o H0 G0 γ σ H G) (h : γ[i]? = some (.ow ds)) (s : StpX o H G H' G') (hw : H' o = some (.lst ws)) (rw_ : RA K M G' ws es) : EnvX K M i o H0 G0 (γ.set i (.ow es)) σ H' G' := by
  obtain ⟨vs, g, h0, hh, r⟩ := e.own h
  have hil : i < γ.length := (List.getElem?_eq_some_iff.mp h).1
  refine ⟨⟨⟨fun b u q => s.ex b u (ne_of_none q h0) (e.ev.st.ex b u q), e.ev.st.eg.trans s.eg, s.sub, fun p u q n => s.nw p _ (e.ev.st.ex p u q) (e.ev.st.nw p u q n)⟩, by rw [List.length_set]; exact e.ev.len, fun j t x q1 q2 => ?_, fun j k sj sk xj xk p h1 h2 h3 h4 h5 h6 => ?_⟩, e.sp⟩
  · by_cases hj : i = j
    · subst hj
      rw [List.getElem?_set_self hil] at q1
      rw [e.sp] at q2
      cases q1; cases q2
      exact ⟨o, ws, rfl, s.nw _ _ hh g, h0, hw, rw_⟩
    · rw [List.getElem?_set_ne hj] at q1
      have q := e.ev.sl j t x q1 q2
      cases t with
      | no => trivial
      | va d => obtain ⟨v, e1, rv⟩ := q; exact ⟨v, e1, rv.mono s.eg⟩
      | ow dj =>
        obtain ⟨p, vp, e1, gp, hp0, hp, rp⟩ := q
        subst e1
        have hpo : p ≠ o := by
          intro ep
          subst ep
          exact hj (e.ev.ap i j _ _ _ _ p h q1 e.sp q2 rfl rfl)
        exact ⟨p, vp, rfl, s.nw _ _ hp gp, hp0, s.ex _ _ hpo hp, rp.mono s.eg⟩
  · have key : ∀ (j : Nat) (t : Sl) (x : Option V), (γ.set i (.ow es))[j]? = some t → σ[j]? = some x → isO t x p → ∃ t', γ[j]? = some t' ∧ isO t' x p := by
      intro j t x q1 q2 q3
      by_cases hj : i = j
      · subst hj
        rw [List.getElem?_set_self hil] at q1
        cases q1
        exact ⟨_, h, q3⟩
      · rw [List.getElem?_set_ne hj] at q1
        exact ⟨t, q1, q3⟩
    obtain ⟨s1, a1, b1⟩ := key j sj xj h1 h3 h5
    obtain ⟨s2, a2, b2⟩ := key k sk xk h2 h4 h6
    exact e.ev.ap j k s1 s2 xj xk p a1 a2 h3 h4 b1 b2
end

/-! ### reckonings, judgements -/
abbrev Fx := Ge → Option (D × Ge)
abbrev Fxa := Ge → Option (List D × Ge)
inductive Ox | nx (γ : Ge) | rt (d : D) (γ : Ge)
abbrev Fxs := Ge → Option Ox
section
variable (K : PySem.W.Frag) (M : Pm) (i : Nat)
def XE (t : TE) (f : Fx) : Prop := ∀ (o : Addr) (H0 G0 : Hp) (γ : Ge) (σ : L2.St) (H G : Hp) (Q : VK) (d : D) (γ' : Ge), EnvX K M i o H0 G0 γ σ H G → f γ = some (d, γ') →
  (∀ v H' G', Same G G' → EnvX K M i o H0 G0 γ' σ H' G' → R K M G' v d → Q v H') → t σ H Q
def XA (t : TA) (f : Fxa) : Prop := ∀ (o : Addr) (H0 G0 : Hp) (γ : Ge) (σ : L2.St) (H G : Hp) (Q : List V → Hp → Prop) (ds : List D) (γ' : Ge), EnvX K M i o H0 G0 γ σ H G → f γ = some (ds, γ') →
  (∀ vs H' G', Same G G' → EnvX K M i o H0 G0 γ' σ H' G' → RA K M G' vs ds → Q vs H') → t σ H Q
def PostX (o : Addr) (H0 G0 : Hp) (De : Ends) : Ox → Prop
  | .nx γ => ∀ σ H G, EnvX K M i o H0 G0 γ σ H G → De.nx σ H
  | .rt d γ => ∀ v σ H G, EnvX K M i o H0 G0 γ σ H G → R K M G v d → De.rt v H
def XO (t : TS) (f : Fxs) : Prop := ∀ (o : Addr) (H0 G0 : Hp) (γ : Ge) (σ : L2.St) (H G : Hp) (De : Ends) (r : Ox), EnvX K M i o H0 G0 γ σ H G → f γ = some r → PostX K M i o H0 G0 De r → t De σ H
end
structure JXE (K : PySem.W.Frag) (X : Cx) (M : Pm) (i : Nat) (e : Expr) (t : TE) (f : Fx) : Prop where
  pe : PE X e t
  xe : XE K M i t f
structure JXA (K : PySem.W.Frag) (X : Cx) (M : Pm) (i : Nat) (es : List Expr) (t : TA) (f : Fxa) : Prop where
  pa : PA X es t
  xa : XA K M i t f
structure JXS (K : PySem.W.Frag) (X : Cx) (M : Pm) (i : Nat) (st : Stmt) (t : TS) (f : Fxs) : Prop where
  ps : PS X st t
  xo : XO K M i t f
structure JXB (K : PySem.W.Frag) (X : Cx) (M : Pm) (i : Nat) (st : List Stmt) (t : TS) (f : Fxs) : Prop where
  ps : PSs X st t
  xo : XO K M i t f
def xOf (f : Fe) : Fx := fun γ => match f γ with
  | some (.ok d) => some (d, γ)
  | _ => none
def xNil : Fxa := fun γ => some ([], γ)
def xCons (f : Fx) (g : Fxa) : Fxa := fun γ => match f γ with
  | some (d, γ1) => (match g γ1 with
    | some (ds, γ2) => some (d :: ds, γ2)
    | none => none)
  | none => none
def xTup (f : Fxa) : Fx := fun γ => match f γ with
  | some (ds, γ1) => if ds.length ≤ big then some (.tuple ds, γ1) else none
  | none => none
def xCallP (φ : List D → Option Rs) (f : Fxa) : Fx := fun γ => match f γ with
  | some (ds, γ1) => (match φ ds with
    | some (.ok d) => some (d, γ1)
    | _ => none)
  | none => none
abbrev Phx := D → Int → List D → Option (D × Int)
def xCall (i : Nat) (φ : Phx) (f0 : Fe) (fr : Fa) : Fx := fun γ => match f0 γ with
  | some (.ok d0) => (match γ[i]? with
    | some (.ow [.int k]) => (match fr γ with
      | some (.ok ds) => (match φ d0 k ds with
        | some (d, k') => some (d, γ.set i (.ow [.int k']))
        | none => none)
      | _ => none)
    | _ => none)
  | _ => none
def xSet (j : Nat) (f : Fx) : Fxs := fun γ => match f γ with
  | some (d, γ1) => some (.nx (γ1.set j (.va d)))
  | none => none
def xRet (f : Fx) : Fxs := fun γ => match f γ with
  | some (d, γ1) => some (.rt d γ1)
  | none => none
def xIf (c : Ft) (f g : Fxs) : Fxs := fun γ => match c γ with
  | some (.ok true) => f γ
  | some (.ok false) => g γ
  | _ => none
def xNext : Fxs := fun γ => some (.nx γ)
def xSeq (f g : Fxs) : Fxs := fun γ => match f γ with
  | some (.nx γ1) => g γ1
  | r => r
def xPut (i : Nat) (fi : Fe) (fa : Fe) : Fxs := fun γ => match fa γ with
  | some (.ok d) => (match γ[i]? with
    | some (.ow ds) => (match fi γ with
      | some (.ok (.int k)) => (match ixN ds.length k with
        | some j => some (.nx (γ.set i (.ow (ds.set j d))))
        | none => none)
      | _ => none)
    | _ => none)
  | _ => none
/-- the promise of a def with the shared list -/
def spS (K : PySem.W.Frag) (M : Pm) (φ : Phx) : Sp := fun vs H Q E => ∃ (G : Hp) (o : Addr) (k : Int) (v0 : V) (d0 : D) (vr : List V) (ds : List D) (d : D) (k' : Int), vs = v0 :: .ref o :: vr ∧ Same G H ∧ G o = none ∧ H o = some (.lst [.int k]) ∧
  R K M G v0 d0 ∧ RA K M G vr ds ∧ φ d0 k ds = some (d, k') ∧ ∀ v H' G', StpX o H G H' G' → H' o = some (.lst [.int k']) → R K M G' v d → Q v H'
def entryX (n : Nat) (d0 : D) (k : Int) (ds : List D) : Ge := (entry n (d0 :: .none :: ds)).set 1 (.ow [.int k])
def runX (np n : Nat) (f : Fxs) : Phx := fun d0 k ds => if ds.length + 2 = np then (match f (entryX n d0 k ds) with
  | some (Ox.rt d γ) => (match (γ[1]? : Option Sl) with
    | some (Sl.ow [PyData.int k']) => some (d, k')
    | _ => none)
  | _ => none) else none

section
variable {K : PySem.W.Frag} {X : Cx} {M : Pm} {E : XK} {k : Nat} {i : Nat} {a b e c : Expr} {ta tb te : TE} {fa fb : Fe} {Fa_ Fb_ : Fx} {pos : Pos} {t u : TS} {f g : Fxs} {st : Stmt} {rest : List Stmt}
theorem xe_of (h : JE K X M E .cl a ta fa) : JXE K X M i a ta (xOf fa) := ⟨h.pe, fun o H0 G0 γ σ H G Q d γ' ev hf p => by
  unfold xOf at hf
  split at hf
  · rename_i d' e1
    cases hf
    exact h.eo H0 G0 γ σ H G _ _ ev.ev e1 fun v H' G' s r => p v H' G' s.eg (ev.stp s) r
  · cases hf⟩
theorem xa_nil : JXA K X M i [] tNil xNil := ⟨pa_nil, fun o H0 G0 γ σ H G Q ds γ' ev hf p => by cases hf; exact p [] H G (Same.refl _) ev .nil⟩
theorem xa_cons {es : List Expr} {tr : TA} {fr : Fxa} (ha : JXE K X M i a ta Fa_) (hr : JXA K X M i es tr fr) (hs : starEach (a :: es) X.env = (false, eval a X.env) :: starEach es X.env := by rfl) : JXA K X M i (a :: es) (tCons ta tr) (xCons Fa_ fr) :=
  ⟨pa_cons ha.pe hr.pa hs, fun o H0 G0 γ σ H G Q ds γ' ev hf p => by
    unfold xCons at hf
    split at hf
    · rename_i d γ1 e1
      split at hf
      · rename_i ds' γ2 e2
        cases hf
        exact ha.xe o H0 G0 γ σ H G _ _ _ ev e1 fun v H1 G1 s1 ev1 r1 => hr.xa o H0 G0 γ1 σ H1 G1 _ _ _ ev1 e2 fun vs H2 G2 s2 ev2 r2 => p _ H2 G2 (s1.trans s2) ev2 (.cons (r1.mono s2) r2)
      · cases hf
    · cases hf⟩
theorem xe_tup {es : List Expr} {tr : TA} {fr : Fxa} {x1 : Nat} (h : JXA K X M i es tr fr) : JXE K X M i (.Tuple es x1 pos) (tTup tr) (xTup fr) :=
  ⟨pe_tup h.pa, fun o H0 G0 γ σ H G Q d γ' ev hf p => by
    unfold xTup at hf
    split at hf
    · rename_i ds γ1 e1
      split at hf
      · rename_i hz
        cases hf
        refine h.xa o H0 G0 γ σ H G _ _ _ ev e1 fun vs H1 G1 s1 ev1 r1 => ⟨by rw [r1.len]; exact big_line hz, fun q hq => ?_⟩
        have s := Stp.new (o := .tup vs) ev1.ev.sub hq
        exact p _ _ _ (s1.trans s.eg) (ev1.stp s) (R.tup (.of upd_same) (r1.mono s.eg))
      · cases hf
    · cases hf⟩
theorem xe_callP {φ : List D → Option Rs} {j : Nat} {fd : FuncData} {fn : Addr} {ps : List Str} {x : Str} {p : Pos} {es : List Expr} {tr : TA} {fr : Fxa} (C : CxF K X E k)
    (F : FnOk X.prog X.w X.K X.mg X.base (L2.CX X.prog X.w) j fn fd ps (spF K M φ)) (hj : j ≤ k) (hb : Binds X.K fd ps []) (hm : X.mg x = some (.ref fn)) (hk : PySem.W.keepIn X.K (.ref fn) = true) (hg : Gl X x) (ha : JXA K X M i (a :: es) tr fr)
    (hdb : (x == ("__debug__" : Str)) = false := by decide) (he : starEach (a :: es) X.env = (false, eval a X.env) :: starEach es X.env := by rfl) (hpl : (backTo pos (starEach es X.env)).any (·.1) = false := by rfl) :
    JXE K X M i (.Call (.Name x p) (a :: es) [] pos) (tCallS (spF K M φ) (fun _ => E) tr) (xCallP φ fr) := by
  have hK := C.hK
  subst hK
  refine ⟨pe_callS F (C.room.mono hj) hg hm hk hb (passesAt_of C.pas) ha.pa hdb he hpl, fun o H0 G0 γ σ H G Q d γ' ev hf p => ?_⟩
  unfold xCallP at hf
  split at hf
  · rename_i ds γ1 e1
    split at hf
    · rename_i d' e2
      cases hf
      exact ha.xa o H0 G0 γ σ H G _ _ _ ev e1 fun vs H1 G1 s1 ev1 r1 => ⟨G1, ds, .ok d, ev1.ev.sub, r1, e2, fun v H' G' s' r' => p v H' G' (s1.trans s'.eg) (ev1.stp s') r'⟩
    · cases hf
  · cases hf
theorem xe_call {φ : Phx} {j : Nat} {fd : FuncData} {fn : Addr} {ps : List Str} {x y : Str} {p py : Pos} {es : List Expr} {tr : TA} {fr : Fa} (C : CxF K X E k)
    (F : FnOk X.prog X.w X.K X.mg X.base (L2.CX X.prog X.w) j fn fd ps (spS K M φ)) (hj : j ≤ k) (hb : Binds X.K fd ps []) (hm : X.mg x = some (.ref fn)) (hk : PySem.W.keepIn X.K (.ref fn) = true) (hg : Gl X x)
    (h0 : JE K X M E .cl a ta fa) (hy : PE X (.Name y py) (tVar i)) (ha : JC K X M E es tr fr)
    (hdb : (x == ("__debug__" : Str)) = false := by decide) (hs : starEach (.Name y py :: es) X.env = (false, eval (.Name y py) X.env) :: starEach es X.env := by rfl) (he : starEach (a :: .Name y py :: es) X.env = (false, eval a X.env) :: starEach (.Name y py :: es) X.env := by rfl)
    (hpl : (backTo pos (starEach (.Name y py :: es) X.env)).any (·.1) = false := by rfl) :
    JXE K X M i (.Call (.Name x p) (a :: .Name y py :: es) [] pos) (tCallS (spS K M φ) (fun _ => E) (tCons ta (tCons (tVar i) tr))) (xCall i φ fa fr) := by
  have hK := C.hK
  subst hK
  refine ⟨pe_callS F (C.room.mono hj) hg hm hk hb (passesAt_of C.pas) (pa_cons h0.pe (pa_cons hy ha.pa hs) he) hdb he hpl, fun o H0 G0 γ σ H G Q d γ' ev hf p => ?_⟩
  unfold xCall at hf
  split at hf
  · rename_i d0 e0
    split at hf
    · rename_i n e1
      split at hf
      · rename_i ds e2
        split at hf
        · rename_i d' n' e3
          cases hf
          refine h0.eo H0 G0 γ σ H G _ _ ev.ev e0 fun v0 H1 G1 s1 r1 => ?_
          refine ⟨.ref o, ev.sp, ?_⟩
          refine ha.ac H0 G0 γ σ H1 G1 _ _ (ev.ev.stp s1) e2 fun vr H2 G2 s2 r2 => ?_
          have ev2 := (ev.stp s1).stp s2
          obtain ⟨vs, hgo, h0o, ho, rv⟩ := ev2.own e1
          have evs : vs = [.int n] := by
            have q := RA.ints (bs := [n]) rv
            simpa using q
          subst evs
          refine ⟨G2, o, n, v0, d0, vr, ds, d, n', rfl, s2.sub, hgo, ho, r1.mono s2.eg, r2, e3, fun v H' G' s' ho' r' => ?_⟩
          exact p v H' G' ((s1.eg.trans s2.eg).trans s'.eg) (ev2.call e1 s' ho' (RA.of_ints [n'])) r'
        · cases hf
      · cases hf
    · cases hf
  · cases hf
theorem xb_nil : JXB K X M i [] tNext xNext := ⟨pss_nil, fun o H0 G0 γ σ H G De r ev hf p => by cases hf; exact p σ H G ev⟩
theorem xb_one (h : JXS K X M i st t f) : JXB K X M i [st] t f := ⟨pss_one h.ps, h.xo⟩
theorem xb_cons (h1 : JXS K X M i st t f) (h2 : JXB K X M i rest u g) : JXB K X M i (st :: rest) (tSeq t u) (xSeq f g) := ⟨pss_cons h1.ps h2.ps, fun o H0 G0 γ σ H G De r ev hf p => by
  unfold xSeq at hf
  split at hf
  · rename_i γ1 e1
    exact h1.xo o H0 G0 γ σ H G { De with nx := u De } _ ev e1 fun σ' H' G' ev' => h2.xo o H0 G0 γ1 σ' H' G' De r ev' hf p
  · rename_i hn
    refine h1.xo o H0 G0 γ σ H G { De with nx := u De } r ev hf ?_
    cases r with
    | nx γ1 => exact absurd hf (hn γ1)
    | rt d γ1 => exact p⟩
theorem xs_ret (ha : JXE K X M i a ta Fa_) : JXS K X M i (.Return (some a) pos) (tRet ta) (xRet Fa_) := ⟨ps_ret ha.pe, fun o H0 G0 γ σ H G De r ev hf p => by
  unfold xRet at hf
  split at hf
  · rename_i d γ1 e1
    cases hf
    exact ha.xe o H0 G0 γ σ H G _ _ _ ev e1 fun v H' G' s ev' rv => p v σ H' G' ev' rv
  · cases hf⟩
theorem xs_if {tt : TT} {ft : Ft} {as bs : List Stmt} (hc : JT K X M E c tt ft) (ha : JXB K X M i as t f) (hb : JXB K X M i bs u g) : JXS K X M i (.If c as bs pos) (tIfS tt t u) (xIf ft f g) := ⟨ps_if hc.pt ha.ps hb.ps, fun o H0 G0 γ σ H G De r ev hf p => by
  unfold xIf at hf
  split at hf
  · rename_i e1
    refine hc.to H0 G0 γ σ H G _ _ ev.ev e1 fun H' G' s => ?_
    rw [if_pos rfl]
    exact ha.xo o H0 G0 γ σ H' G' De r (ev.stp s) hf p
  · rename_i e1
    refine hc.to H0 G0 γ σ H G _ _ ev.ev e1 fun H' G' s => ?_
    rw [if_neg Bool.false_ne_true]
    exact hb.xo o H0 G0 γ σ H' G' De r (ev.stp s) hf p
  · cases hf⟩
theorem xs_set {j : Nat} {x : Str} {p0 : Pos} (hN : X.N.Nodup) (ha : JXE K X M i a ta Fa_) (hj : j ≠ i := by decide) (hi : X.N[j]? = some x := by rfl) (hx : Loc X.env.scope x := by first | exact Or.inl rfl | exact Or.inr rfl) (hs : swapsWith a (some (.Name x p0)) pos.line X.env = pure false := by rfl) (hf : X.fn x = true ∨ X.env.scope.names.lookup x = some .local := by first | exact .inl rfl | exact .inr rfl) :
    JXS K X M i (.Assign [.Name x p0] a pos) (tAsg ta (gName j)) (xSet j Fa_) := ⟨ps_set hN hi hx ha.pe hs hf, fun o H0 G0 γ σ H G De r ev hfx p => by
  unfold xSet at hfx
  split at hfx
  · rename_i d γ1 e1
    cases hfx
    exact ha.xe o H0 G0 γ σ H G _ _ _ ev e1 fun v H' G' s ev' rv => p _ H' G' (ev'.setv hj rv)
  · cases hfx⟩
theorem xs_put {y : Str} {p0 : Pos} {ti : TE} {fi : Fe} {pos' : Pos} (ha : JE K X M E .cl a ta fa) (hy : PE X (.Name y p0) (tVar i)) (hi : JE K X M E .op b ti fi)
    (hs : swapsWithSole [.Subscript (.Name y p0) b pos'] a pos.line X.env = pure false := by rfl) (hw : swappedStores [.Subscript (.Name y p0) b pos'] a X.env = pure none := by rfl) (h1 : (assignEach [.Subscript (.Name y p0) b pos'] X.env).map (·.2) = [assign (.Subscript (.Name y p0) b pos') X.env] := by rfl)
    (hgg : ∀ v, assign (.Subscript (.Name y p0) b pos') X.env v = (do
      let ov ← holding [v] (eval (.Name y p0) X.env)
      let iv ← holding [v, ov] (eval b X.env)
      standAt pos'
      holding [v, ov, iv] (setItem ov iv v)
      release [v, ov, iv] []) := by intro _; rfl) :
    JXS K X M i (.Assign [.Subscript (.Name y p0) b pos'] a pos) (tAsg ta (gSub (tVar i) ti rSetL)) (xPut i fi fa) := ⟨ps_asg ha.pe (pg_sub hy hi.pe set_list hgg) hs hw h1, fun o H0 G0 γ σ H G De r ev hf p => by
  unfold xPut at hf
  split at hf
  · rename_i d e0
    split at hf
    · rename_i ds e1
      split at hf
      · rename_i n e2
        split at hf
        · rename_i j e3
          cases hf
          refine ha.eo H0 G0 γ σ H G _ _ ev.ev e0 fun v H1 G1 s1 r1 => ?_
          refine ⟨.ref o, ev.sp, ?_⟩
          refine hi.eo H0 G0 γ σ H1 G1 _ _ (ev.ev.stp s1) e2 fun w H2 G2 s2 r2 => ?_
          cases (show R K M G2 w (.int n) from r2)
          have ev2 := (ev.stp s1).stp s2
          obtain ⟨vs, hgo, h0o, ho, rv⟩ := ev2.own e1
          refine ⟨o, vs, n, j, rfl, rfl, ho, by rw [rv.len]; exact e3, ?_⟩
          exact p σ _ G2 ⟨ev2.ev.wr e1 ev.sp ho (RA.set (r1.mono s2.eg) j rv), ev.sp⟩
        · cases hf
      · cases hf
    · cases hf
  · cases hf⟩
/-- in a plain body: return of such an expression -/
def sRetX (f : Fx) : Fs := fun γ => match f γ with
  | some (d, _) => some (.rt d)
  | none => none
/-- what it reckons needs the shared list -/
def Us (i : Nat) (f : Fx) : Prop := ∀ (γ : Ge) (d : D) (γ' : Ge), f γ = some (d, γ') → ∃ ds, γ[i]? = some (.ow ds)
def Usa (i : Nat) (f : Fxa) : Prop := ∀ (γ : Ge) (d : List D) (γ' : Ge), f γ = some (d, γ') → ∃ ds, γ[i]? = some (.ow ds)
theorem us_call {φ : Phx} {fr : Fa} : Us i (xCall i φ fa fr) := fun γ d γ' h => by
  unfold xCall at h
  split at h
  · split at h
    · rename_i n e1; exact ⟨_, e1⟩
    · cases h
  · cases h
theorem usa_cons {fr : Fxa} (h1 : Us i Fa_) : Usa i (xCons Fa_ fr) := fun γ d γ' h => by
  unfold xCons at h
  split at h
  · rename_i e1; exact h1 _ _ _ e1
  · cases h
theorem us_callP {φ : List D → Option Rs} {fr : Fxa} (h1 : Usa i fr) : Us i (xCallP φ fr) := fun γ d γ' h => by
  unfold xCallP at h
  split at h
  · rename_i e1; exact h1 _ _ _ e1
  · cases h
theorem js_retX (i : Nat) (ha : JXE K X M i a ta Fa_) (hw : Us i Fa_) : JS K X M E (.Return (some a) pos) (tRet ta) (sRetX Fa_) := ⟨ps_ret ha.pe, fun H0 G0 γ σ H G De o ev hf p => by
  unfold sRetX at hf
  split at hf
  · rename_i d γ1 e1
    cases hf
    obtain ⟨ds, e2⟩ := hw _ _ _ e1
    obtain ⟨q, vs, h1, _⟩ := ev.ow e2
    exact ha.xe q H0 G0 γ σ H G _ _ _ ⟨ev, h1⟩ e1 fun v H' G' s ev' rv => p v H' G' ev'.ev.st rv
  · cases hf⟩
end
/-! ### the rule of such a def -/
theorem EnvR.base {K : PySem.W.Frag} {M : Pm} {H0 G0 H1 G1 H G : Hp} {γ : Ge} {σ : L2.St} (e : EnvR K M H1 G1 γ σ H G) (n : ∀ (j : Nat) (ds : List D), γ[j]? ≠ some (.ow ds)) (s : Stp H0 G0 H G) : EnvR K M H0 G0 γ σ H G :=
  ⟨s, e.len, fun i sl x h1 h2 => by
    have q := e.sl i sl x h1 h2
    cases sl with
    | no => trivial
    | va d => exact q
    | ow ds => exact absurd h1 (n i ds), e.ap⟩
theorem entry_noow {n : Nat} {ds : List D} (j : Nat) (es : List D) : (entry n ds)[j]? ≠ some (.ow es) := by
  intro h
  have m := List.mem_of_getElem? h
  unfold entry at m
  rcases List.mem_append.mp m with q | q
  · obtain ⟨d, _, e⟩ := List.mem_map.mp q; cases e
  · have := (List.mem_replicate.mp q).2; cases this
def eraseH (o : Addr) (H : Hp) : Hp := fun p => if p = o then none else H p
theorem erase_o {o : Addr} {H : Hp} : eraseH o H o = none := by unfold eraseH; rw [if_pos rfl]
theorem erase_ne {o p : Addr} {H : Hp} {u : HO} (h : eraseH o H p = some u) : p ≠ o ∧ H p = some u := by
  unfold eraseH at h
  split at h
  · cases h
  · rename_i n; exact ⟨n, h⟩
theorem env_entryX {K : PySem.W.Frag} {M : Pm} {H G : Hp} {N : List Str} {v0 : V} {o : Addr} {vr : List V} {d0 : D} {k : Int} {ds : List D} (e : Same G H) (hg : G o = none) (ho : H o = some (.lst [.int k])) (r0 : R K M G v0 d0) (rr : RA K M G vr ds) :
    EnvX K M 1 o (eraseH o H) G (entryX N.length d0 k ds) (L2.start N (v0 :: .ref o :: vr)) H G := by
  have e1 := env_entry (N := N) e (RA.cons r0 (RA.cons .non rr))
  have st : Stp (eraseH o H) G H G := ⟨fun p u q => (erase_ne q).2, Same.refl _, e, fun _ _ _ n => n⟩
  have e2 := e1.base entry_noow st
  have e3 := e2.seto (i := 1) (HS := H) (o := o) (vs := [.int k]) (ds := [.int k]) (fun j dj p _ h => absurd h (entry_noow j dj)) hg erase_o ho (RA.of_ints [k])
  have es : (L2.start N (v0 :: .non :: vr)).set 1 (some (.ref o)) = L2.start N (v0 :: .ref o :: vr) := by unfold L2.start; rfl
  rw [es] at e3
  exact ⟨e3, by unfold L2.start; rfl⟩
theorem fnX_ok {P : Program} {w : World} {K : PySem.W.Frag} {mg : Str → Option Value} {base : Heap} {M : Pm} {x qual : Str} {st : Stmt} {f : Addr} {fd : FuncData} {N ps : List Str} {k : Nat} {g : Fxs} (F : Fun K x qual st f fd) (S : FnScope N ps (defScope st))
    (hb : ∀ (cdv : Value) (A : Around) (outer : List Env) (s : Shared) (H : Hp) (E : XK), CxF K (cxOf (L2.CX P w) P w K mg base N qual (defScope st) f cdv A outer s H E) E k → Takes (cxOf (L2.CX P w) P w K mg base N qual (defScope st) f cdv A outer s H E) (fun cls d _ H => E cls d H) →
      ∃ t, JXB K (cxOf (L2.CX P w) P w K mg base N qual (defScope st) f cdv A outer s H E) M 1 (defBody st) t g) : FnOk P w K mg base (L2.CX P w) (k + 1) f fd ps (spS K M (runX ps.length N.length g)) := by
  have len : ∀ vs H Q E, spS K M (runX ps.length N.length g) vs H Q E → vs.length = ps.length := by
    rintro vs H Q E ⟨G, o, n, v0, d0, vr, ds, d, n', rfl, _, _, _, _, ra, e, _⟩
    unfold runX at e
    split at e
    · rename_i hl
      simp only [List.length_cons, ra.len]
      omega
    · cases e
  refine F.okX S len fun cdv A outer s H vs Q E hr h => ?_
  obtain ⟨C, tk⟩ := cxf_of (P := P) (w := w) (K := K) (mg := mg) (base := base) (qual := qual) (s := s) (H := H) (E := E) (outer := outer) S hr
  obtain ⟨t, J⟩ := hb cdv A outer s H E C tk
  refine ⟨t, J.ps, ?_⟩
  obtain ⟨G, o, n, v0, d0, vr, ds, d, n', rfl, e, hg, ho, r0, ra, er, p⟩ := h
  unfold runX at er
  split at er
  · split at er
    · rename_i d1 γ1 ef
      split at er
      · rename_i k1 ek
        cases er
        refine J.xo o (eraseH o H) G _ _ H G _ _ (env_entryX e hg ho r0 ra) ef fun v σ' H' G' ev rv => ?_
        obtain ⟨vs, hgo, h0o, ho', rv'⟩ := ev.own ek
        have evs : vs = [.int n'] := by
          have q := RA.ints (bs := [n']) rv'
          simpa using q
        subst evs
        refine p v H' G' ⟨fun q u hq h => ev.ev.st.ex q u (by unfold eraseH; rw [if_neg hq]; exact h), ev.ev.st.eg, ev.ev.st.sub, fun q u h n => ?_⟩ ho' rv
        by_cases hq : q = o
        · subst hq; exact hgo
        · exact ev.ev.st.nw q u (by unfold eraseH; rw [if_neg hq]; exact h) n
      · cases er
    · cases er
  · cases er
/-- of a def of which nothing is told -/
theorem fn_none {P : Program} {w : World} {K : PySem.W.Frag} {mg : Str → Option Value} {base : Heap} {M : Pm} {f : Addr} {fd : FuncData} {ps : List Str} {k : Nat} : FnOk P w K mg base (L2.CX P w) k f fd ps (spF K M fun _ => none) := by
  have no : ∀ vs H Q E, ¬ spF K M (fun _ => none) vs H Q E := by
    rintro vs H Q E ⟨_, _, _, _, _, e, _⟩
    cases e
  exact ⟨fun vs H Q E h => absurd h (no vs H Q E), fun A outer s H args us vs Q E _ _ _ _ h => absurd h (no vs H Q E)⟩
theorem fnX_zero {P : Program} {w : World} {K : PySem.W.Frag} {mg : Str → Option Value} {base : Heap} {M : Pm} {f : Addr} {fd : FuncData} {ps : List Str} {k : Nat} : FnOk P w K mg base (L2.CX P w) k f fd ps (spS K M fun _ _ _ => none) := by
  have no : ∀ vs H Q E, ¬ spS K M (fun _ _ _ => none) vs H Q E := by
    rintro vs H Q E ⟨_, _, _, _, _, _, _, _, _, _, _, _, _, _, _, e, _⟩
    cases e
  exact ⟨fun vs H Q E h => absurd h (no vs H Q E), fun A outer s H args us vs Q E _ _ _ _ h => absurd h (no vs H Q E)⟩
end Py

/-! PyS: statements as data; what evaluates -/
namespace Py
open PySem PySem.Spec PyProof.Rows L2

inductive Sta
  | mark (m : Str) | yes | nt (s : Sta) | an (s t : Sta) | or (s t : Sta) | nx (s : Sta) | un (s t : Sta) | wi (k : Nat) (s : Sta) | bf (s : Sta) | si (s t : Sta)
  deriving DecidableEq
def enc : Sta → D
  | .mark m => .tuple [.str "mark", .str m]
  | .yes => .tuple [.str "yes"]
  | .nt s => .tuple [.str "not", enc s]
  | .an s t => .tuple [.str "and", enc s, enc t]
  | .or s t => .tuple [.str "or", enc s, enc t]
  | .nx s => .tuple [.str "next", enc s]
  | .un s t => .tuple [.str "until", enc s, enc t]
  | .wi k s => .tuple [.str "within", .int k, enc s]
  | .bf s => .tuple [.str "before", enc s]
  | .si s t => .tuple [.str "since", enc s, enc t]
def Sta.depth : Sta → Nat
  | .mark _ => 1
  | .yes => 1
  | .nt s => s.depth + 1
  | .an s t => max s.depth t.depth + 1
  | .or s t => max s.depth t.depth + 1
  | .nx s => s.depth + 1
  | .un s t => max s.depth t.depth + 1
  | .wi _ s => s.depth + 1
  | .bf s => s.depth + 1
  | .si s t => max s.depth t.depth + 1
/-- every mark in it keeps p -/
def Sta.Marks (p : Str → Prop) : Sta → Prop
  | .mark m => p m
  | .yes => True
  | .nt s => s.Marks p
  | .an s t => s.Marks p ∧ t.Marks p
  | .or s t => s.Marks p ∧ t.Marks p
  | .nx s => s.Marks p
  | .un s t => s.Marks p ∧ t.Marks p
  | .wi _ s => s.Marks p
  | .bf s => s.Marks p
  | .si s t => s.Marks p ∧ t.Marks p
theorem Sta.depth_pos (s : Sta) : 1 ≤ s.depth := by cases s <;> simp [Sta.depth]
theorem enc_depth : ∀ s : Sta, (enc s).depth ≤ s.depth
  | .mark m => by simp [enc, PyData.depth, PyData.depthAll, Sta.depth]
  | .yes => by simp [enc, PyData.depth, PyData.depthAll, Sta.depth]
  | .nt s => by have := enc_depth s; simp [enc, PyData.depth, PyData.depthAll, Sta.depth]; omega
  | .an s t => by have := enc_depth s; have := enc_depth t; simp [enc, PyData.depth, PyData.depthAll, Sta.depth]; omega
  | .or s t => by have := enc_depth s; have := enc_depth t; simp [enc, PyData.depth, PyData.depthAll, Sta.depth]; omega
  | .nx s => by have := enc_depth s; simp [enc, PyData.depth, PyData.depthAll, Sta.depth]; omega
  | .un s t => by have := enc_depth s; have := enc_depth t; simp [enc, PyData.depth, PyData.depthAll, Sta.depth]; omega
  | .wi k s => by have := enc_depth s; simp [enc, PyData.depth, PyData.depthAll, Sta.depth]; omega
  | .bf s => by have := enc_depth s; simp [enc, PyData.depth, PyData.depthAll, Sta.depth]; omega
  | .si s t => by have := enc_depth s; have := enc_depth t; simp [enc, PyData.depth, PyData.depthAll, Sta.depth]; omega
theorem ok_words : PyData.strOk "mark" = true ∧ PyData.strOk "yes" = true ∧ PyData.strOk "not" = true ∧ PyData.strOk "and" = true ∧ PyData.strOk "or" = true ∧ PyData.strOk "next" = true ∧ PyData.strOk "until" = true ∧ PyData.strOk "within" = true ∧ PyData.strOk "before" = true ∧ PyData.strOk "since" = true := by decide +kernel
def okM (m : Str) : Prop := PyData.strOk m = true
theorem enc_lay : ∀ {s : Sta}, s.Marks okM → (enc s).canLay0 = true
  | .mark m, h => by simp only [enc, PyData.canLay0, PyData.canLayAll0, ok_words]; simpa [Sta.Marks, okM] using h
  | .yes, h => by simp only [enc, PyData.canLay0, PyData.canLayAll0, ok_words]; rfl
  | .nt s, h => by simp only [enc, PyData.canLay0, PyData.canLayAll0, ok_words, enc_lay (s := s) h]; rfl
  | .an s t, h => by simp only [enc, PyData.canLay0, PyData.canLayAll0, ok_words, enc_lay (s := s) h.1, enc_lay (s := t) h.2]; rfl
  | .or s t, h => by simp only [enc, PyData.canLay0, PyData.canLayAll0, ok_words, enc_lay (s := s) h.1, enc_lay (s := t) h.2]; rfl
  | .nx s, h => by simp only [enc, PyData.canLay0, PyData.canLayAll0, ok_words, enc_lay (s := s) h]; rfl
  | .un s t, h => by simp only [enc, PyData.canLay0, PyData.canLayAll0, ok_words, enc_lay (s := s) h.1, enc_lay (s := t) h.2]; rfl
  | .wi k s, h => by simp only [enc, PyData.canLay0, PyData.canLayAll0, ok_words, enc_lay (s := s) h]; rfl
  | .bf s, h => by simp only [enc, PyData.canLay0, PyData.canLayAll0, ok_words, enc_lay (s := s) h]; rfl
  | .si s t, h => by simp only [enc, PyData.canLay0, PyData.canLayAll0, ok_words, enc_lay (s := s) h.1, enc_lay (s := t) h.2]; rfl
theorem enc_shaped {s : Sta} (h : s.Marks okM) (hd : s.depth ≤ 60) : SeqAt.shaped (enc s) = true := by
  have := enc_depth s
  show ((enc s).canLay0 && decide ((enc s).depth ≤ 64)) = true
  rw [enc_lay h, Bool.true_and]
  exact decide_eq_true (by omega)
theorem encs_lay : ∀ {l : List Sta}, (∀ s ∈ l, s.Marks okM) → PyData.canLayAll0 (l.map enc) = true
  | [], _ => by simp [PyData.canLayAll0]
  | s :: l, h => by
    simp only [List.map_cons, PyData.canLayAll0, enc_lay (h s List.mem_cons_self), encs_lay fun t ht => h t (List.mem_cons_of_mem _ ht)]
    rfl
theorem encs_depth : ∀ {l : List Sta}, (∀ s ∈ l, s.depth ≤ 60) → PyData.depthAll (l.map enc) ≤ 60
  | [], _ => by simp [PyData.depthAll]
  | s :: l, h => by
    have h1 := enc_depth s
    have h2 := h s List.mem_cons_self
    have h3 := encs_depth (l := l) fun t ht => h t (List.mem_cons_of_mem _ ht)
    simp only [List.map_cons, PyData.depthAll]
    omega
theorem encs_shaped {l : List Sta} (h : ∀ s ∈ l, s.Marks okM) (hd : ∀ s ∈ l, s.depth ≤ 60) : SeqAt.shaped (.list (l.map enc)) = true := by
  have h1 := encs_depth hd
  show ((PyData.list (l.map enc)).canLay0 && decide ((PyData.list (l.map enc)).depth ≤ 64)) = true
  have e : (PyData.list (l.map enc)).canLay0 = true := by simp only [PyData.canLay0]; exact encs_lay h
  rw [e, Bool.true_and]
  refine decide_eq_true ?_
  simp only [PyData.depth]
  omega
/-! equal statements -/
theorem W_ne : (("mark" : Str) == "yes") = false := by decide +kernel
def word : Sta → Str
  | .mark _ => "mark" | .yes => "yes" | .nt _ => "not" | .an _ _ => "and" | .or _ _ => "or" | .nx _ => "next" | .un _ _ => "until" | .wi _ _ => "within" | .bf _ => "before" | .si _ _ => "since"
def tag : Sta → Nat
  | .mark _ => 0 | .yes => 1 | .nt _ => 2 | .an _ _ => 3 | .or _ _ => 4 | .nx _ => 5 | .un _ _ => 6 | .wi _ _ => 7 | .bf _ => 8 | .si _ _ => 9
def wordAt : Nat → Str
  | 0 => "mark" | 1 => "yes" | 2 => "not" | 3 => "and" | 4 => "or" | 5 => "next" | 6 => "until" | 7 => "within" | 8 => "before" | _ => "since"
theorem word_at (s : Sta) : word s = wordAt (tag s) := by cases s <;> rfl
theorem tag_lt (s : Sta) : tag s < 10 := by cases s <;> simp [tag]
theorem wordAt_eq : ∀ i, i < 10 → ∀ j, j < 10 → (wordAt i == wordAt j) = decide (i = j) := by decide +kernel
theorem word_eq (s t : Sta) : (word s == word t) = decide (tag s = tag t) := by rw [word_at, word_at]; exact wordAt_eq _ (tag_lt s) _ (tag_lt t)
theorem enc_word (s : Sta) : ∃ r, enc s = .tuple (.str (word s) :: r) := by cases s <;> exact ⟨_, rfl⟩
theorem enc_tag {s t : Sta} (h : tag s ≠ tag t) : PyData.eqv (enc s) (enc t) = false := by
  obtain ⟨r, e⟩ := enc_word s
  obtain ⟨q, f⟩ := enc_word t
  rw [e, f]
  simp only [PyData.eqv, PyData.eqvAll, word_eq, decide_eq_false h, Bool.false_and]
theorem ww (i : Nat) (h : i < 10) : (wordAt i == wordAt i) = true := by rw [wordAt_eq i h i h]; simp
theorem enc_eqv : ∀ s t : Sta, PyData.eqv (enc s) (enc t) = decide (s = t) := by
  intro s
  induction s with
  | mark m =>
    intro t
    cases t with
    | mark n => simp [enc, PyData.eqv, PyData.eqvAll, Bool.beq_eq_decide_eq]
    | _ => rw [enc_tag (by simp [tag])]; simp
  | yes =>
    intro t
    cases t with
    | yes => simp [enc, PyData.eqv, PyData.eqvAll]
    | _ => rw [enc_tag (by simp [tag])]; simp
  | nt s ih =>
    intro t
    cases t with
    | nt u => simp [enc, PyData.eqv, PyData.eqvAll, ih]
    | _ => rw [enc_tag (by simp [tag])]; simp
  | an s s' ih ih' =>
    intro t
    cases t with
    | an u u' => simp [enc, PyData.eqv, PyData.eqvAll, ih, ih']
    | _ => rw [enc_tag (by simp [tag])]; simp
  | or s s' ih ih' =>
    intro t
    cases t with
    | or u u' => simp [enc, PyData.eqv, PyData.eqvAll, ih, ih']
    | _ => rw [enc_tag (by simp [tag])]; simp
  | nx s ih =>
    intro t
    cases t with
    | nx u => simp [enc, PyData.eqv, PyData.eqvAll, ih]
    | _ => rw [enc_tag (by simp [tag])]; simp
  | un s s' ih ih' =>
    intro t
    cases t with
    | un u u' => simp [enc, PyData.eqv, PyData.eqvAll, ih, ih']
    | _ => rw [enc_tag (by simp [tag])]; simp
  | wi k s ih =>
    intro t
    cases t with
    | wi j u =>
      simp [enc, PyData.eqv, PyData.eqvAll, ih]
      by_cases h : k = j
      · subst h; simp
      · have : ((k : Int) == (j : Int)) = false := beq_eq_false_iff_ne.mpr (by omega)
        simp [h, this]
    | _ => rw [enc_tag (by simp [tag])]; simp
  | bf s ih =>
    intro t
    cases t with
    | bf u => simp [enc, PyData.eqv, PyData.eqvAll, ih]
    | _ => rw [enc_tag (by simp [tag])]; simp
  | si s s' ih ih' =>
    intro t
    cases t with
    | si u u' => simp [enc, PyData.eqv, PyData.eqvAll, ih, ih']
    | _ => rw [enc_tag (by simp [tag])]; simp
theorem encs_any (l : List Sta) (s : Sta) : ((l.map enc).any fun z => PyData.eqv z (enc s)) = decide (s ∈ l) := by
  induction l with
  | nil => simp
  | cons t l ih =>
    rw [List.map_cons, List.any_cons, ih, enc_eqv]
    by_cases h : t = s
    · subst h; simp
    · by_cases h2 : s ∈ l
      · simp [h2]
      · have : ¬ s = t := fun e => h e.symm
        simp [h, h2, this]
theorem in_encs {l : List Sta} {s : Sta} (h : ∀ t ∈ l, t.Marks okM) (hd : ∀ t ∈ l, t.depth ≤ 60) (hs : s.Marks okM) (hsd : s.depth ≤ 60) (neg : Bool) :
    oIn neg (enc s) (.list (l.map enc)) = some (.bool (if neg = true then !decide (s ∈ l) else decide (s ∈ l))) := by
  show (if SeqAt.shaped (enc s) = true ∧ SeqAt.shaped (.list (l.map enc)) = true then some (PyData.bool (if neg = true then !((l.map enc).any fun z => PyData.eqv z (enc s)) else (l.map enc).any fun z => PyData.eqv z (enc s))) else none) = _
  rw [if_pos ⟨enc_shaped hs hsd, encs_shaped h hd⟩, encs_any]

/-! the words differ -/
@[simp] theorem w_mark_yes : (("mark" : Str) == "yes") = false := by decide +kernel
@[simp] theorem w_mark_not : (("mark" : Str) == "not") = false := by decide +kernel
@[simp] theorem w_mark_and : (("mark" : Str) == "and") = false := by decide +kernel
@[simp] theorem w_mark_or : (("mark" : Str) == "or") = false := by decide +kernel
@[simp] theorem w_mark_next : (("mark" : Str) == "next") = false := by decide +kernel
@[simp] theorem w_mark_until : (("mark" : Str) == "until") = false := by decide +kernel
@[simp] theorem w_mark_within : (("mark" : Str) == "within") = false := by decide +kernel
@[simp] theorem w_mark_before : (("mark" : Str) == "before") = false := by decide +kernel
@[simp] theorem w_mark_since : (("mark" : Str) == "since") = false := by decide +kernel
@[simp] theorem w_yes_mark : (("yes" : Str) == "mark") = false := by decide +kernel
@[simp] theorem w_yes_not : (("yes" : Str) == "not") = false := by decide +kernel
@[simp] theorem w_yes_and : (("yes" : Str) == "and") = false := by decide +kernel
@[simp] theorem w_yes_or : (("yes" : Str) == "or") = false := by decide +kernel
@[simp] theorem w_yes_next : (("yes" : Str) == "next") = false := by decide +kernel
@[simp] theorem w_yes_until : (("yes" : Str) == "until") = false := by decide +kernel
@[simp] theorem w_yes_within : (("yes" : Str) == "within") = false := by decide +kernel
@[simp] theorem w_yes_before : (("yes" : Str) == "before") = false := by decide +kernel
@[simp] theorem w_yes_since : (("yes" : Str) == "since") = false := by decide +kernel
@[simp] theorem w_not_mark : (("not" : Str) == "mark") = false := by decide +kernel
@[simp] theorem w_not_yes : (("not" : Str) == "yes") = false := by decide +kernel
@[simp] theorem w_not_and : (("not" : Str) == "and") = false := by decide +kernel
@[simp] theorem w_not_or : (("not" : Str) == "or") = false := by decide +kernel
@[simp] theorem w_not_next : (("not" : Str) == "next") = false := by decide +kernel
@[simp] theorem w_not_until : (("not" : Str) == "until") = false := by decide +kernel
@[simp] theorem w_not_within : (("not" : Str) == "within") = false := by decide +kernel
@[simp] theorem w_not_before : (("not" : Str) == "before") = false := by decide +kernel
@[simp] theorem w_not_since : (("not" : Str) == "since") = false := by decide +kernel
@[simp] theorem w_and_mark : (("and" : Str) == "mark") = false := by decide +kernel
@[simp] theorem w_and_yes : (("and" : Str) == "yes") = false := by decide +kernel
@[simp] theorem w_and_not : (("and" : Str) == "not") = false := by decide +kernel
@[simp] theorem w_and_or : (("and" : Str) == "or") = false := by decide +kernel
@[simp] theorem w_and_next : (("and" : Str) == "next") = false := by decide +kernel
@[simp] theorem w_and_until : (("and" : Str) == "until") = false := by decide +kernel
@[simp] theorem w_and_within : (("and" : Str) == "within") = false := by decide +kernel
@[simp] theorem w_and_before : (("and" : Str) == "before") = false := by decide +kernel
@[simp] theorem w_and_since : (("and" : Str) == "since") = false := by decide +kernel
@[simp] theorem w_or_mark : (("or" : Str) == "mark") = false := by decide +kernel
@[simp] theorem w_or_yes : (("or" : Str) == "yes") = false := by decide +kernel
@[simp] theorem w_or_not : (("or" : Str) == "not") = false := by decide +kernel
@[simp] theorem w_or_and : (("or" : Str) == "and") = false := by decide +kernel
@[simp] theorem w_or_next : (("or" : Str) == "next") = false := by decide +kernel
@[simp] theorem w_or_until : (("or" : Str) == "until") = false := by decide +kernel
@[simp] theorem w_or_within : (("or" : Str) == "within") = false := by decide +kernel
@[simp] theorem w_or_before : (("or" : Str) == "before") = false := by decide +kernel
@[simp] theorem w_or_since : (("or" : Str) == "since") = false := by decide +kernel
@[simp] theorem w_next_mark : (("next" : Str) == "mark") = false := by decide +kernel
@[simp] theorem w_next_yes : (("next" : Str) == "yes") = false := by decide +kernel
@[simp] theorem w_next_not : (("next" : Str) == "not") = false := by decide +kernel
@[simp] theorem w_next_and : (("next" : Str) == "and") = false := by decide +kernel
@[simp] theorem w_next_or : (("next" : Str) == "or") = false := by decide +kernel
@[simp] theorem w_next_until : (("next" : Str) == "until") = false := by decide +kernel
@[simp] theorem w_next_within : (("next" : Str) == "within") = false := by decide +kernel
@[simp] theorem w_next_before : (("next" : Str) == "before") = false := by decide +kernel
@[simp] theorem w_next_since : (("next" : Str) == "since") = false := by decide +kernel
@[simp] theorem w_until_mark : (("until" : Str) == "mark") = false := by decide +kernel
@[simp] theorem w_until_yes : (("until" : Str) == "yes") = false := by decide +kernel
@[simp] theorem w_until_not : (("until" : Str) == "not") = false := by decide +kernel
@[simp] theorem w_until_and : (("until" : Str) == "and") = false := by decide +kernel
@[simp] theorem w_until_or : (("until" : Str) == "or") = false := by decide +kernel
@[simp] theorem w_until_next : (("until" : Str) == "next") = false := by decide +kernel
@[simp] theorem w_until_within : (("until" : Str) == "within") = false := by decide +kernel
@[simp] theorem w_until_before : (("until" : Str) == "before") = false := by decide +kernel
@[simp] theorem w_until_since : (("until" : Str) == "since") = false := by decide +kernel
@[simp] theorem w_within_mark : (("within" : Str) == "mark") = false := by decide +kernel
@[simp] theorem w_within_yes : (("within" : Str) == "yes") = false := by decide +kernel
@[simp] theorem w_within_not : (("within" : Str) == "not") = false := by decide +kernel
@[simp] theorem w_within_and : (("within" : Str) == "and") = false := by decide +kernel
@[simp] theorem w_within_or : (("within" : Str) == "or") = false := by decide +kernel
@[simp] theorem w_within_next : (("within" : Str) == "next") = false := by decide +kernel
@[simp] theorem w_within_until : (("within" : Str) == "until") = false := by decide +kernel
@[simp] theorem w_within_before : (("within" : Str) == "before") = false := by decide +kernel
@[simp] theorem w_within_since : (("within" : Str) == "since") = false := by decide +kernel
@[simp] theorem w_before_mark : (("before" : Str) == "mark") = false := by decide +kernel
@[simp] theorem w_before_yes : (("before" : Str) == "yes") = false := by decide +kernel
@[simp] theorem w_before_not : (("before" : Str) == "not") = false := by decide +kernel
@[simp] theorem w_before_and : (("before" : Str) == "and") = false := by decide +kernel
@[simp] theorem w_before_or : (("before" : Str) == "or") = false := by decide +kernel
@[simp] theorem w_before_next : (("before" : Str) == "next") = false := by decide +kernel
@[simp] theorem w_before_until : (("before" : Str) == "until") = false := by decide +kernel
@[simp] theorem w_before_within : (("before" : Str) == "within") = false := by decide +kernel
@[simp] theorem w_before_since : (("before" : Str) == "since") = false := by decide +kernel
@[simp] theorem w_since_mark : (("since" : Str) == "mark") = false := by decide +kernel
@[simp] theorem w_since_yes : (("since" : Str) == "yes") = false := by decide +kernel
@[simp] theorem w_since_not : (("since" : Str) == "not") = false := by decide +kernel
@[simp] theorem w_since_and : (("since" : Str) == "and") = false := by decide +kernel
@[simp] theorem w_since_or : (("since" : Str) == "or") = false := by decide +kernel
@[simp] theorem w_since_next : (("since" : Str) == "next") = false := by decide +kernel
@[simp] theorem w_since_until : (("since" : Str) == "until") = false := by decide +kernel
@[simp] theorem w_since_within : (("since" : Str) == "within") = false := by decide +kernel
@[simp] theorem w_since_before : (("since" : Str) == "before") = false := by decide +kernel
/-! small sizes -/
@[simp] theorem big_0 : 0 ≤ big := by decide
@[simp] theorem big_1 : 1 ≤ big := by decide
@[simp] theorem big_2 : 2 ≤ big := by decide
@[simp] theorem big_3 : 3 ≤ big := by decide
@[simp] theorem big_4 : 4 ≤ big := by decide
@[simp] theorem big_5 : 5 ≤ big := by decide
@[simp] theorem big_6 : 6 ≤ big := by decide
@[simp] theorem big_7 : 7 ≤ big := by decide
@[simp] theorem big_8 : 8 ≤ big := by decide
@[simp] theorem big_9 : 9 ≤ big := by decide
@[simp] theorem big_10 : 10 ≤ big := by decide
@[simp] theorem big_11 : 11 ≤ big := by decide
@[simp] theorem big_12 : 12 ≤ big := by decide
@[simp] theorem big_13 : 13 ≤ big := by decide
@[simp] theorem big_14 : 14 ≤ big := by decide
@[simp] theorem big_15 : 15 ≤ big := by decide
@[simp] theorem big_16 : 16 ≤ big := by decide
@[simp] theorem big_17 : 17 ≤ big := by decide
@[simp] theorem big_18 : 18 ≤ big := by decide
@[simp] theorem big_19 : 19 ≤ big := by decide
@[simp] theorem big_20 : 20 ≤ big := by decide
@[simp] theorem big_21 : 21 ≤ big := by decide
@[simp] theorem big_22 : 22 ≤ big := by decide
@[simp] theorem big_23 : 23 ≤ big := by decide
@[simp] theorem big_24 : 24 ≤ big := by decide
@[simp] theorem big_25 : 25 ≤ big := by decide
@[simp] theorem big_26 : 26 ≤ big := by decide
@[simp] theorem big_27 : 27 ≤ big := by decide
@[simp] theorem big_28 : 28 ≤ big := by decide
@[simp] theorem big_29 : 29 ≤ big := by decide
@[simp] theorem big_30 : 30 ≤ big := by decide
@[simp] theorem big_40 : 40 ≤ big := by decide
@[simp] theorem big_64 : 64 ≤ big := by decide
/-! ### readers -/
@[simp] theorem atI_0 {α : Type} (a : α) (l : List α) : atI (a :: l) 0 = some a := atI_nat (j := 0) rfl
@[simp] theorem atI_1 {α : Type} (a b : α) (l : List α) : atI (a :: b :: l) 1 = some b := atI_nat (j := 1) rfl
@[simp] theorem atI_2 {α : Type} (a b c : α) (l : List α) : atI (a :: b :: c :: l) 2 = some c := atI_nat (j := 2) rfl
theorem atI_neg1 {α : Type} (l : List α) (a : α) (h : l.getLast? = some a) : atI l (-1) = some a := by
  cases l with
  | nil => simp at h
  | cons b r =>
    have e : (b :: r) = (b :: r).dropLast ++ [a] := by
      have h' : (b :: r).getLast (by simp) = a := by
        rw [List.getLast?_eq_getLast (by simp)] at h
        exact Option.some.inj h
      rw [← h', List.dropLast_concat_getLast]
    rw [e]
    exact atI_last _ _
theorem atI_cast {α : Type} {l : List α} {i : Nat} {a : α} (h : l[i]? = some a) : atI l (i : Int) = some a := atI_nat h
@[simp] theorem bR_ok (d : D) (k : D → Option Rs) : bR (some (.ok d)) k = k d := rfl
@[simp] theorem bR_er (c : Str) (k : D → Option Rs) : bR (some (.er c)) k = some (.er c) := rfl
@[simp] theorem bL_ok (d : D) (k : D → Option Rl) : bL (some (.ok d)) k = k d := rfl
@[simp] theorem bA_ok (d : List D) (k : List D → Option Rs) : bA (some (.ok d)) k = k d := rfl
@[simp] theorem bLL_ok (d : List D) (k : List D → Option Rl) : bLL (some (.ok d)) k = k d := rfl
@[simp] theorem oR_some (d : D) : oR (some d) = some (.ok d) := rfl
@[simp] theorem oIx_tup (ds : List D) (i : Int) : oIx (.tuple ds) (.int i) = atI ds i := rfl
@[simp] theorem oIx_lst (ds : List D) (i : Int) : oIx (.list ds) (.int i) = atI ds i := rfl
@[simp] theorem oEq_str (x y : Str) : oEq (.str x) (.str y) = some (.bool (x == y)) := by simp [oEq, scalD, PyData.eqv]
@[simp] theorem oEq_int (x y : Int) : oEq (.int x) (.int y) = some (.bool (x == y)) := by simp [oEq, scalD, PyData.eqv]
@[simp] theorem oEq_bool (x y : Bool) : oEq (.bool x) (.bool y) = some (.bool (x == y)) := by simp [oEq, scalD, PyData.eqv]
@[simp] theorem oNe_str (x y : Str) : oNe (.str x) (.str y) = some (.bool (!(x == y))) := by simp [oNe, scalD, PyData.eqv]
@[simp] theorem oNe_int (x y : Int) : oNe (.int x) (.int y) = some (.bool (!(x == y))) := by simp [oNe, scalD, PyData.eqv]
@[simp] theorem oNe_bool (x y : Bool) : oNe (.bool x) (.bool y) = some (.bool (!(x == y))) := by simp [oNe, scalD, PyData.eqv]
@[simp] theorem oAdd_int (x y : Int) : oAdd (.int x) (.int y) = some (.int (x + y)) := rfl
@[simp] theorem oSub_int (x y : Int) : oSub (.int x) (.int y) = some (.int (x - y)) := rfl
@[simp] theorem oLt_int (x y : Int) : oLt (.int x) (.int y) = some (.bool (decide (x < y))) := rfl
@[simp] theorem oLe_int (x y : Int) : oLe (.int x) (.int y) = some (.bool (decide (x ≤ y))) := rfl
@[simp] theorem oGt_int (x y : Int) : oGt (.int x) (.int y) = some (.bool (decide (y < x))) := rfl
@[simp] theorem oGe_int (x y : Int) : oGe (.int x) (.int y) = some (.bool (decide (y ≤ x))) := rfl
@[simp] theorem oNeg_int (x : Int) : oNeg (.int x) = some (.int (-x)) := rfl
@[simp] theorem oLen_list (ds : List D) : oLen [.list ds] = some (.int ds.length) := rfl
@[simp] theorem oLen_tup (ds : List D) : oLen [.tuple ds] = some (.int ds.length) := rfl
@[simp] theorem oMin2_int (x y : Int) : oMin2 [.int x, .int y] = some (.int (if y < x then y else x)) := rfl
@[simp] theorem oAny_bools (bs : List Bool) : oAny [.list (bs.map .bool)] = some (.bool (bs.any id)) := by
  show (match boolsOf (bs.map PyData.bool) with | some bs => some (PyData.bool (bs.any id)) | none => none) = _
  rw [boolsOf_map]
@[simp] theorem oAll_bools (bs : List Bool) : oAll [.list (bs.map .bool)] = some (.bool (bs.all id)) := by
  show (match boolsOf (bs.map PyData.bool) with | some bs => some (PyData.bool (bs.all id)) | none => none) = _
  rw [boolsOf_map]
@[simp] theorem oMod_int (x y : Int) (h : 0 < y) : oMod (.int x) (.int y) = some (.int (x % y)) := by unfold oMod oIc; simp [cMod, h]
@[simp] theorem oDiv_int (x y : Int) (h : 0 < y) (h2 : y < 1073741824) : oDiv (.int x) (.int y) = some (.int (x / y)) := by unfold oDiv oIc; simp [cDiv, h, h2]
theorem oMul_int (x y : Int) (h : (-(2 ^ 64) < x ∧ x < 2 ^ 64) ∨ (-(2 ^ 64) < y ∧ y < 2 ^ 64)) : oMul (.int x) (.int y) = some (.int (x * y)) := by
  unfold oMul oIc
  have : cMul x y = true := by
    unfold cMul
    simp only [Bool.or_eq_true, Bool.and_eq_true, decide_eq_true_eq]
    exact h
  simp [this]
@[simp] theorem oSl_list (ds : List D) (lo hi : Option Int) : oSl lo hi (.list ds) = some (.list (cutD ds lo hi)) := rfl
theorem lcF_map {gf : D → Ge → Option Ge} {cf : Ft} {ef : Fe} {γ : Ge} {α : Type} (e : α → D) (g : α → D) : ∀ (l : List α), (∀ x ∈ l, ∃ γ1, gf (e x) γ = some γ1 ∧ cf γ1 = some (.ok true) ∧ ef γ1 = some (.ok (g x))) → lcF gf cf ef γ (l.map e) = some (l.map g)
  | [], _ => rfl
  | x :: l, h => by
    obtain ⟨γ1, h1, h2, h3⟩ := h x List.mem_cons_self
    simp only [List.map_cons, lcF, h1, h2, h3, lcF_map e g l fun y hy => h y (List.mem_cons_of_mem _ hy)]
theorem lcF_filter {gf : D → Ge → Option Ge} {cf : Ft} {ef : Fe} {γ : Ge} {α : Type} (e : α → D) (p : α → Bool) (g : α → D) : ∀ (l : List α), (∀ x ∈ l, ∃ γ1, gf (e x) γ = some γ1 ∧ cf γ1 = some (.ok (p x)) ∧ (p x = true → ef γ1 = some (.ok (g x)))) → lcF gf cf ef γ (l.map e) = some ((l.filter p).map g)
  | [], _ => rfl
  | x :: l, h => by
    obtain ⟨γ1, h1, h2, h3⟩ := h x List.mem_cons_self
    have ih := lcF_filter e p g l fun y hy => h y (List.mem_cons_of_mem _ hy)
    cases hp : p x with
    | true =>
      have hf : (x :: l).filter p = x :: l.filter p := by rw [List.filter_cons, if_pos hp]
      simp only [List.map_cons, lcF, h1, h2, hp, h3 hp, ih, hf]
    | false =>
      have hf : (x :: l).filter p = l.filter p := by rw [List.filter_cons, if_neg (by rw [hp]; decide)]
      simp only [List.map_cons, lcF, h1, h2, hp, ih, hf]
end Py

namespace K04
open PySem PySem.Spec PyProof.Rows L2 Py
def topS (i : Nat) : Stmt := PySem.Challenge.pw_soonsaid_k04_what_it_means.main.body.getD i (.Pass ⟨0, 0, 0, 0⟩)
inductive Nm | is_reached | holds | l_cell_at | l_names | l_all | l_wishes | l_fit | l_until | l_means | l_run | l_built | law | l_draw | l_made
abbrev s_is_reached : Stmt := topS 1
abbrev N_is_reached : List Str := ["run", "one", "other", "places", "place"]
abbrev P_is_reached : List Str := ["run", "one", "other", "places"]
theorem sc_is_reached : FnScope N_is_reached P_is_reached (defScope s_is_reached) := ⟨rfl, rfl, rfl, by decide +kernel, rfl, by decide +kernel, by decide +kernel⟩
abbrev s_holds : Stmt := topS 2
abbrev N_holds : List Str := ["statement", "run", "at", "word", "place"]
abbrev P_holds : List Str := ["statement", "run", "at"]
theorem sc_holds : FnScope N_holds P_holds (defScope s_holds) := ⟨rfl, rfl, rfl, by decide +kernel, rfl, by decide +kernel, by decide +kernel⟩
abbrev s_l_cell_at : Stmt := topS 4
abbrev N_l_cell_at : List Str := ["_law_script", "_law_k"]
abbrev P_l_cell_at : List Str := ["_law_script", "_law_k"]
theorem sc_l_cell_at : FnScope N_l_cell_at P_l_cell_at (defScope s_l_cell_at) := ⟨rfl, rfl, rfl, by decide +kernel, rfl, by decide +kernel, by decide +kernel⟩
abbrev s_l_names : Stmt := topS 6
abbrev N_l_names : List Str := ["_law_cell", "_law_letters", "_law_rest", "_law_size", "_law_at", "_law_found", "_law_k", "_law_letter", "_law_j"]
abbrev P_l_names : List Str := ["_law_cell"]
theorem sc_l_names : FnScope N_l_names P_l_names (defScope s_l_names) := ⟨rfl, rfl, rfl, by decide +kernel, rfl, by decide +kernel, by decide +kernel⟩
abbrev s_l_all : Stmt := topS 8
abbrev N_l_all : List Str := ["_law_statement", "_law_found", "_law_part"]
abbrev P_l_all : List Str := ["_law_statement"]
theorem sc_l_all : FnScope N_l_all P_l_all (defScope s_l_all) := ⟨rfl, rfl, rfl, by decide +kernel, rfl, by decide +kernel, by decide +kernel⟩
abbrev s_l_wishes : Stmt := topS 9
abbrev N_l_wishes : List Str := ["_law_statement", "_law_found", "_law_one", "_law_more", "_law_other", "_law_k"]
abbrev P_l_wishes : List Str := ["_law_statement"]
theorem sc_l_wishes : FnScope N_l_wishes P_l_wishes (defScope s_l_wishes) := ⟨rfl, rfl, rfl, by decide +kernel, rfl, by decide +kernel, by decide +kernel⟩
abbrev s_l_fit : Stmt := topS 10
abbrev N_l_fit : List Str := ["_law_statement", "_law_most"]
abbrev P_l_fit : List Str := ["_law_statement", "_law_most"]
theorem sc_l_fit : FnScope N_l_fit P_l_fit (defScope s_l_fit) := ⟨rfl, rfl, rfl, by decide +kernel, rfl, by decide +kernel, by decide +kernel⟩
abbrev s_l_until : Stmt := topS 11
abbrev N_l_until : List Str := ["_law_ones", "_law_others", "_law_found", "_law_after", "_law_one", "_law_other"]
abbrev P_l_until : List Str := ["_law_ones", "_law_others"]
theorem sc_l_until : FnScope N_l_until P_l_until (defScope s_l_until) := ⟨rfl, rfl, rfl, by decide +kernel, rfl, by decide +kernel, by decide +kernel⟩
abbrev s_l_means : Stmt := topS 12
abbrev N_l_means : List Str := ["_law_statement", "_law_run_here", "_law_word", "_law_rows", "_law_part", "_law_mark", "_law_one", "_law_k", "_law_other"]
abbrev P_l_means : List Str := ["_law_statement", "_law_run_here"]
theorem sc_l_means : FnScope N_l_means P_l_means (defScope s_l_means) := ⟨rfl, rfl, rfl, by decide +kernel, rfl, by decide +kernel, by decide +kernel⟩
abbrev s_l_run : Stmt := topS 13
abbrev N_l_run : List Str := ["_law_script", "_law_begin", "_law_names_here", "_law_most", "_law_some", "_law_cell"]
abbrev P_l_run : List Str := ["_law_script", "_law_begin", "_law_names_here", "_law_most"]
theorem sc_l_run : FnScope N_l_run P_l_run (defScope s_l_run) := ⟨rfl, rfl, rfl, by decide +kernel, rfl, by decide +kernel, by decide +kernel⟩
abbrev s_l_built : Stmt := topS 14
abbrev N_l_built : List Str := ["_law_script", "_law_names_here", "_law_most", "_law_spot", "_law_deep"]
abbrev P_l_built : List Str := ["_law_script", "_law_names_here", "_law_most"]
theorem sc_l_built : FnScope N_l_built P_l_built (defScope s_l_built) := ⟨rfl, rfl, rfl, by decide +kernel, rfl, by decide +kernel, by decide +kernel⟩
abbrev s_law : Stmt := topS 15
abbrev N_law : List Str := ["_law_script", "_law_names_here", "_law_statement", "_law_way", "_law_run_here", "_law_handed", "_law_due", "_law_at", "_law_found"]
abbrev P_law : List Str := ["_law_script"]
theorem sc_law : FnScope N_law P_law (defScope s_law) := ⟨rfl, rfl, rfl, by decide +kernel, rfl, by decide +kernel, by decide +kernel⟩
abbrev s_l_draw : Stmt := topS 5
abbrev N_l_draw : List Str := ["_law_script", "_law_spot", "_law_k"]
abbrev P_l_draw : List Str := ["_law_script", "_law_spot"]
theorem sc_l_draw : FnScope N_l_draw P_l_draw (defScope s_l_draw) := ⟨rfl, rfl, rfl, by decide +kernel, rfl, by decide +kernel, by decide +kernel⟩
abbrev s_l_made : Stmt := topS 7
abbrev N_l_made : List Str := ["_law_script", "_law_spot", "_law_names_here", "_law_deep", "_law_ahead", "_law_cell", "_law_more", "_law_kinds", "_law_kind", "_law_one"]
abbrev P_l_made : List Str := ["_law_script", "_law_spot", "_law_names_here", "_law_deep", "_law_ahead"]
theorem sc_l_made : FnScope N_l_made P_l_made (defScope s_l_made) := ⟨rfl, rfl, rfl, by decide +kernel, rfl, by decide +kernel, by decide +kernel⟩
def nmS : Nm → Str
  | .is_reached => "is_reached"
  | .holds => "holds"
  | .l_cell_at => "_law_cell_at"
  | .l_names => "_law_names"
  | .l_all => "_law_all"
  | .l_wishes => "_law_wishes"
  | .l_fit => "_law_fit"
  | .l_until => "_law_until"
  | .l_means => "_law_means"
  | .l_run => "_law_run"
  | .l_built => "_law_built"
  | .law => "law"
  | .l_draw => "_law_draw"
  | .l_made => "_law_made"
def stm : Nm → Stmt
  | .is_reached => s_is_reached
  | .holds => s_holds
  | .l_cell_at => s_l_cell_at
  | .l_names => s_l_names
  | .l_all => s_l_all
  | .l_wishes => s_l_wishes
  | .l_fit => s_l_fit
  | .l_until => s_l_until
  | .l_means => s_l_means
  | .l_run => s_l_run
  | .l_built => s_l_built
  | .law => s_law
  | .l_draw => s_l_draw
  | .l_made => s_l_made
def psN : Nm → List Str
  | .is_reached => P_is_reached
  | .holds => P_holds
  | .l_cell_at => P_l_cell_at
  | .l_names => P_l_names
  | .l_all => P_l_all
  | .l_wishes => P_l_wishes
  | .l_fit => P_l_fit
  | .l_until => P_l_until
  | .l_means => P_l_means
  | .l_run => P_l_run
  | .l_built => P_l_built
  | .law => P_law
  | .l_draw => P_l_draw
  | .l_made => P_l_made
structure DD (K : PySem.W.Frag) (mg : Str → Option Value) (fa : Nm → Addr) (fdd : Nm → FuncData) : Prop where
  d : ∀ i : Nm, Df K mg (nmS i) (stm i) (psN i) (fa i) (fdd i)
inductive Nx | l_draw | l_made
def Nx.n : Nx → Nm
  | .l_draw => .l_draw
  | .l_made => .l_made
def f_l_draw (Psy : Nx → Phx) : Fxs :=
    (xSeq (xPut 1 (fCon (.int 0)) (f2 oAdd (f2 oIx (fOpd 1) (fCon (.int 0))) (fCon (.int 1))))
    (xSeq (xSet 2 (xOf (f2 oSub (f2 oIx (fOpd 1) (fCon (.int 0))) (fCon (.int 1)))))
    (xSeq (xIf (fT (f2 oLt (fOpd 2) (fB oLen (fCons (fOpd 0) fNil)))) (xRet (xOf (f2 oIx (fOpd 0) (fOpd 2)))) xNext)
    (xSeq (xIf (gAnd (fT (f2 oGt (fB oLen (fCons (fOpd 0) fNil)) (fCon (.int 4)))) (fT (f2 oLt (fOpd 2) (fCon (.int 40))))) (xRet (xOf (f2 oMod (f2 oMul (f2 oAdd (f2 oIx (fOpd 0) (f2 oMod (fOpd 2) (fB oLen (fCons (fOpd 0) fNil)))) (f2 oMul (fCon (.int 7919)) (fOpd 2))) (fCon (.int 48271))) (fCon (.int 1000003))))) xNext)
    (xRet (xOf (fCon (.int 0))))))))
def f_l_made (Psy : Nx → Phx) : Fxs :=
    (xSeq (xSet 5 (xCall 1 (Psy .l_draw) (fVar 0) fNil))
    (xSeq (xSet 6 (xOf (f2 oDiv (fOpd 5) (fCon (.int 14)))))
    (xSeq (xIf (gOr (fT (f2 oLt (fOpd 3) (fCon (.int 2)))) (fT (f2 oLt (f2 oMod (fOpd 5) (fCon (.int 14))) (fCon (.int 2))))) (xSeq (xIf (fT (f2 oEq (f2 oMod (fOpd 6) (fCon (.int 9))) (fCon (.int 4)))) (xRet (xOf (fTup (fCons (fCon (.str "yes")) fNil)))) xNext)
    (xRet (xOf (fTup (fCons (fCon (.str "mark")) (fCons (f2 oIx (fOpd 2) (f2 oMod (fOpd 6) (fCon (.int 3)))) fNil)))))) xNext)
    (xSeq (xSet 7 (xOf (fCon (.str "not and or before since not and before since or since before"))))
    (xSeq (xIf (fT (fVar 4)) (xSet 7 (xOf (fCon (.str "not and or next until within until next since before until within")))) xNext)
    (xSeq (xSet 8 (xOf (f2 oIx (fM1 oSplit (fOpd 7) (fCon (.str " "))) (f2 oSub (f2 oMod (fOpd 5) (fCon (.int 14))) (fCon (.int 2))))))
    (xSeq (xSet 4 (xOf (fAnd (fVar 4) (f2 (oIn true) (fOpd 8) (fTup (fCons (fCon (.str "before")) (fCons (fCon (.str "since")) fNil)))))))
    (xSeq (xSet 9 (xCall 1 (Psy .l_made) (fVar 0) (fCons (fVar 2) (fCons (f2 oSub (fOpd 3) (fCon (.int 1))) (fCons (fVar 4) fNil)))))
    (xSeq (xIf (fT (f2 oEq (fOpd 8) (fCon (.str "within")))) (xRet (xOf (fTup (fCons (fVar 8) (fCons (f2 oIx (fLst (fCons (fCon (.int 1)) (fCons (fCon (.int 2)) (fCons (fCon (.int 0)) (fCons (fCon (.int 1)) (fCons (f2 oMod (f2 oDiv (fOpd 6) (fCon (.int 6))) (fCon (.int 5))) fNil)))))) (f2 oMod (fOpd 6) (fCon (.int 5)))) (fCons (fVar 9) fNil)))))) xNext)
    (xSeq (xIf (fT (f2 (oIn false) (fOpd 8) (fTup (fCons (fCon (.str "not")) (fCons (fCon (.str "next")) (fCons (fCon (.str "before")) fNil)))))) (xRet (xOf (fTup (fCons (fVar 8) (fCons (fVar 9) fNil))))) xNext)
    (xRet (xTup (xCons (xOf (fVar 8)) (xCons (xOf (fVar 9)) (xCons (xCall 1 (Psy .l_made) (fVar 0) (fCons (fVar 2) (fCons (f2 oSub (fOpd 3) (fCon (.int 1))) (fCons (fVar 4) fNil)))) xNil)))))))))))))))
def Psi : Nat → Nx → Phx
  | 0 => fun _ _ _ _ => none
  | n + 1 => fun i => match i with
    | .l_draw => runX 2 3 (f_l_draw (Psi n))
    | .l_made => runX 5 10 (f_l_made (Psi n))
theorem psi_l_draw (n : Nat) : Psi (n + 1) .l_draw = runX 2 3 (f_l_draw (Psi n)) := rfl
theorem psi_l_made (n : Nat) : Psi (n + 1) .l_made = runX 5 10 (f_l_made (Psi n)) := rfl
def f_is_reached (Phi : Nm → List D → Option Rs) : Fs :=
    (fSeq (sFor (wLst (fVar 3)) (gfN 4) (fSeq (sIf (fT (fCall (Phi .holds) (fCons (fVar 2) (fCons (fVar 0) (fCons (fVar 4) fNil))))) (sRet (fCon (.bool true))) fNext)
    (sIf (gNot (fT (fCall (Phi .holds) (fCons (fVar 1) (fCons (fVar 0) (fCons (fVar 4) fNil)))))) (sRet (fCon (.bool false))) fNext)))
    (sRet (fCon (.bool false))))
def f_holds (Phi : Nm → List D → Option Rs) : Fs :=
    (fSeq (sSet 3 (f2 oIx (fOpd 0) (fCon (.int 0))))
    (fSeq (sIf (fT (f2 oEq (fOpd 3) (fCon (.str "mark")))) (sRet (f2 oEq (f2 oIx (fOpd 1) (fOpd 2)) (f2 oIx (fOpd 0) (fCon (.int 1))))) fNext)
    (fSeq (sIf (fT (f2 oEq (fOpd 3) (fCon (.str "yes")))) (sRet (fCon (.bool true))) fNext)
    (fSeq (sIf (fT (f2 oEq (fOpd 3) (fCon (.str "not")))) (sRet (fNot (fCall (Phi .holds) (fCons (f2 oIx (fOpd 0) (fCon (.int 1))) (fCons (fVar 1) (fCons (fVar 2) fNil)))))) fNext)
    (fSeq (sIf (fT (f2 oEq (fOpd 3) (fCon (.str "and")))) (sRet (fAnd (fCall (Phi .holds) (fCons (f2 oIx (fOpd 0) (fCon (.int 1))) (fCons (fVar 1) (fCons (fVar 2) fNil)))) (fCall (Phi .holds) (fCons (f2 oIx (fOpd 0) (fCon (.int 2))) (fCons (fVar 1) (fCons (fVar 2) fNil)))))) fNext)
    (fSeq (sIf (fT (f2 oEq (fOpd 3) (fCon (.str "or")))) (sRet (fOr (fCall (Phi .holds) (fCons (f2 oIx (fOpd 0) (fCon (.int 1))) (fCons (fVar 1) (fCons (fVar 2) fNil)))) (fCall (Phi .holds) (fCons (f2 oIx (fOpd 0) (fCon (.int 2))) (fCons (fVar 1) (fCons (fVar 2) fNil)))))) fNext)
    (fSeq (sIf (fT (f2 oEq (fOpd 3) (fCon (.str "next")))) (sRet (fAnd (f2 oLt (f2 oAdd (fOpd 2) (fCon (.int 1))) (fB oLen (fCons (fOpd 1) fNil))) (fCall (Phi .holds) (fCons (f2 oIx (fOpd 0) (fCon (.int 1))) (fCons (fVar 1) (fCons (f2 oAdd (fOpd 2) (fCon (.int 1))) fNil)))))) fNext)
    (fSeq (sIf (fT (f2 oEq (fOpd 3) (fCon (.str "before")))) (sRet (fAnd (f2 oGt (fOpd 2) (fCon (.int 0))) (fCall (Phi .holds) (fCons (f2 oIx (fOpd 0) (fCon (.int 1))) (fCons (fVar 1) (fCons (f2 oSub (fOpd 2) (fCon (.int 1))) fNil)))))) fNext)
    (fSeq (sIf (fT (f2 oEq (fOpd 3) (fCon (.str "within")))) (sRet (fB oAny (fCons (fLc (wRg2 (fCons (fOpd 2) (fCons (fB oMin2 (fCons (fB oLen (fCons (fOpd 1) fNil)) (fCons (f2 oAdd (f2 oAdd (fOpd 2) (f2 oIx (fOpd 0) (fCon (.int 1)))) (fCon (.int 1))) fNil))) fNil))) (gfN 4) gYes (fCall (Phi .holds) (fCons (f2 oIx (fOpd 0) (fCon (.int 2))) (fCons (fVar 1) (fCons (fVar 4) fNil)))) [4]) fNil))) fNext)
    (fSeq (sIf (fT (f2 oEq (fOpd 3) (fCon (.str "until")))) (sRet (fCall (Phi .is_reached) (fCons (fVar 1) (fCons (f2 oIx (fOpd 0) (fCon (.int 1))) (fCons (f2 oIx (fOpd 0) (fCon (.int 2))) (fCons (fLrg (fCons (fOpd 2) (fCons (fB oLen (fCons (fOpd 1) fNil)) fNil))) fNil)))))) fNext)
    (sRet (fCall (Phi .is_reached) (fCons (fVar 1) (fCons (f2 oIx (fOpd 0) (fCon (.int 1))) (fCons (f2 oIx (fOpd 0) (fCon (.int 2))) (fCons (fLrg3 (fCons (fOpd 2) (fCons (f1 oNeg (fCon (.int 1))) (fCons (f1 oNeg (fCon (.int 1))) fNil)))) fNil))))))))))))))))
def f_l_cell_at (Phi : Nm → List D → Option Rs) : Fs :=
    (fSeq (sIf (fT (f2 oLt (fOpd 1) (fB oLen (fCons (fOpd 0) fNil)))) (sRet (f2 oIx (fOpd 0) (fOpd 1))) fNext)
    (sRet (fCon (.int 0))))
def f_l_names (Phi : Nm → List D → Option Rs) : Fs :=
    (fSeq (sSet 1 (fCon (.str "abcdefghijklmnopqrstuvwxyz")))
    (fSeq (sSet 2 (fM1 oJoin (fCon (.str "")) (fLc (wRg1 (fCons (fCon (.int 6)) fNil)) (gfN 8) gYes (f2 oIx (fOpd 1) (f2 oMod (f2 oAdd (f2 oDiv (fOpd 0) (fCon (.int 7))) (f2 oMul (fCon (.int 5)) (fOpd 8))) (fCon (.int 26)))) [8])))
    (fSeq (sIf (fT (f2 oEq (f2 oMod (fOpd 0) (fCon (.int 3))) (fCon (.int 2)))) (fSeq (sSet 3 (f2 oAdd (fCon (.int 1)) (f2 oMod (f2 oDiv (fOpd 0) (fCon (.int 3))) (fCon (.int 4)))))
    (sRet (fLc (wRg1 (fCons (fCon (.int 3)) fNil)) (gfN 6) gYes (fSl (fOpd 2) fiNo (fiSm (f2 oAdd (fOpd 3) (fOpd 6)))) [6]))) fNext)
    (fSeq (sSet 3 (f2 oMod (f2 oDiv (fOpd 0) (fCon (.int 3))) (fCon (.int 6))))
    (fSeq (sSet 4 (f2 oMod (f2 oDiv (fOpd 0) (fCon (.int 18))) (f2 oAdd (fOpd 3) (fCon (.int 1)))))
    (fSeq (sSetO 5 (fLst fNil))
    (fSeq (sFor (wRg1 (fCons (fCon (.int 3)) fNil)) (gfN 6) (fSeq (sSet 7 (f2 oIx (fOpd 1) (f2 oMod (f2 oAdd (f2 oDiv (fOpd 0) (fCon (.int 90))) (f2 oMul (fCon (.int 7)) (fOpd 6))) (fCon (.int 26)))))
    (sApp 5 (f2 oAdd (f2 oAdd (fSl (fOpd 2) fiNo (fiSm (fOpd 4))) (fOpd 7)) (fSl (fOpd 2) (fiSm (fOpd 4)) (fiSm (fOpd 3)))))))
    (sRet (fOpd 5)))))))))
def f_l_all (Phi : Nm → List D → Option Rs) : Fs :=
    (fSeq (sSet 1 (fLst (fCons (fVar 0) fNil)))
    (fSeq (sFor (wTup (fSl (fOpd 0) (fiSm (fCon (.int 1))) fiNo)) (gfN 2) (sIf (fT (f1 (oIsi "tuple") (fOpd 2))) (sSet 1 (f2 oAdd (fOpd 1) (fCall (Phi .l_all) (fCons (fVar 2) fNil)))) fNext))
    (sRet (fVar 1))))
def f_l_wishes (Phi : Nm → List D → Option Rs) : Fs :=
    (fSeq (sSet 1 (fLst (fCons (fVar 0) fNil)))
    (fSeq (sFor (wLst (fCall (Phi .l_all) (fCons (fVar 0) fNil))) (gfN 2) (fSeq (sSet 3 (fLst fNil))
    (fSeq (sIf (fT (f2 oEq (f2 oIx (fOpd 2) (fCon (.int 0))) (fCon (.str "next")))) (sSet 3 (fLst (fCons (f2 oIx (fOpd 2) (fCon (.int 1))) fNil))) (sIf (fT (f2 oEq (f2 oIx (fOpd 2) (fCon (.int 0))) (fCon (.str "until")))) (sSet 3 (fLst (fCons (fVar 2) fNil))) (sIf (fT (f2 oEq (f2 oIx (fOpd 2) (fCon (.int 0))) (fCon (.str "within")))) (sSet 3 (fLc (wRg1 (fCons (f2 oIx (fOpd 2) (fCon (.int 1))) fNil)) (gfN 5) gYes (fTup (fCons (fCon (.str "within")) (fCons (fVar 5) (fCons (f2 oIx (fOpd 2) (fCon (.int 2))) fNil)))) [5])) fNext)))
    (sSet 1 (f2 oAdd (fOpd 1) (fLc (wLst (fVar 3)) (gfN 4) (fT (f2 (oIn true) (fOpd 4) (fOpd 1))) (fVar 4) [4]))))))
    (sRet (fVar 1))))
def f_l_fit (Phi : Nm → List D → Option Rs) : Fs :=
    (fSeq (sWh (fT (f2 oGt (fB oLen (fCons (fCall (Phi .l_wishes) (fCons (fVar 0) fNil)) fNil)) (fOpd 1))) (sSet 0 (f2 oIx (fOpd 0) (f1 oNeg (fCon (.int 1))))))
    (sRet (fVar 0)))
def f_l_until (Phi : Nm → List D → Option Rs) : Fs :=
    (fSeq (sSetO 2 (fLst fNil))
    (fSeq (sSet 3 (fCon (.bool false)))
    (fSeq (sFor (wZip (fCons (fVar 0) (fCons (fVar 1) fNil))) (gfTup (gsCons (gfN 4) (gsCons (gfN 5) gsNil))) (fSeq (sSet 3 (fOr (fVar 5) (fAnd (fVar 4) (fVar 3))))
    (sApp 2 (fVar 3))))
    (sRet (fOpd 2)))))
def f_l_means (Phi : Nm → List D → Option Rs) : Fs :=
    (fSeq (sSet 2 (f2 oIx (fOpd 0) (fCon (.int 0))))
    (fSeq (sIf (fT (f2 oEq (fOpd 2) (fCon (.str "mark")))) (sRet (fLc (wLst (fVar 1)) (gfN 5) gYes (f2 oEq (fOpd 5) (f2 oIx (fOpd 0) (fCon (.int 1)))) [5])) fNext)
    (fSeq (sIf (fT (f2 oEq (fOpd 2) (fCon (.str "yes")))) (sRet (fLc (wLst (fVar 1)) (gfN 5) gYes (fCon (.bool true)) [5])) fNext)
    (fSeq (sSet 3 (fLc (wTup (fSl (fOpd 0) (fiSm (fCon (.int 1))) fiNo)) (gfN 4) (fT (f1 (oIsi "tuple") (fOpd 4))) (fCall (Phi .l_means) (fCons (fVar 4) (fCons (fVar 1) fNil))) [4]))
    (fSeq (sIf (fT (f2 oEq (fOpd 2) (fCon (.str "not")))) (sRet (fLc (wLst (f2 oIx (fOpd 3) (fCon (.int 0)))) (gfN 6) gYes (fNot (fVar 6)) [6])) fNext)
    (fSeq (sIf (fT (f2 oEq (fOpd 2) (fCon (.str "and")))) (sRet (fLc (wZip (fCons (f2 oIx (fOpd 3) (fCon (.int 0))) (fCons (f2 oIx (fOpd 3) (fCon (.int 1))) fNil))) (gfTup (gsCons (gfN 6) (gsCons (gfN 8) gsNil))) gYes (fAnd (fVar 6) (fVar 8)) [6, 8])) fNext)
    (fSeq (sIf (fT (f2 oEq (fOpd 2) (fCon (.str "or")))) (sRet (fLc (wZip (fCons (f2 oIx (fOpd 3) (fCon (.int 0))) (fCons (f2 oIx (fOpd 3) (fCon (.int 1))) fNil))) (gfTup (gsCons (gfN 6) (gsCons (gfN 8) gsNil))) gYes (fOr (fVar 6) (fVar 8)) [6, 8])) fNext)
    (fSeq (sIf (fT (f2 oEq (fOpd 2) (fCon (.str "next")))) (sRet (fSl (f2 oAdd (f2 oIx (fOpd 3) (fCon (.int 0))) (fLst (fCons (fCon (.bool false)) fNil))) (fiSm (fCon (.int 1))) fiNo)) fNext)
    (fSeq (sIf (fT (f2 oEq (fOpd 2) (fCon (.str "before")))) (sRet (fSl (f2 oAdd (fLst (fCons (fCon (.bool false)) fNil)) (f2 oIx (fOpd 3) (fCon (.int 0)))) fiNo (fiSm (fB oLen (fCons (fOpd 1) fNil))))) fNext)
    (fSeq (sIf (fT (f2 oEq (fOpd 2) (fCon (.str "within")))) (sRet (fLc (wRg1 (fCons (fB oLen (fCons (fOpd 1) fNil)) fNil)) (gfN 7) gYes (f2 (oIn false) (fCon (.bool true)) (fSl (f2 oIx (fOpd 3) (fCon (.int 0))) (fiSm (fOpd 7)) (fiSm (f2 oAdd (f2 oAdd (fOpd 7) (f2 oIx (fOpd 0) (fCon (.int 1)))) (fCon (.int 1)))))) [7])) fNext)
    (fSeq (sIf (fT (f2 oEq (fOpd 2) (fCon (.str "since")))) (sRet (fCall (Phi .l_until) (fCons (f2 oIx (fOpd 3) (fCon (.int 0))) (fCons (f2 oIx (fOpd 3) (fCon (.int 1))) fNil)))) fNext)
    (sRet (f1 oRev (fCall (Phi .l_until) (fCons (f1 oRev (f2 oIx (fOpd 3) (fCon (.int 0)))) (fCons (f1 oRev (f2 oIx (fOpd 3) (fCon (.int 1)))) fNil))))))))))))))))
def f_l_run (Phi : Nm → List D → Option Rs) : Fs :=
    (fSeq (sSet 4 (f2 oAdd (f2 oAdd (fOpd 2) (fLst (fCons (fCon (.str "")) (fCons (f2 oAdd (fSl (f2 oIx (fOpd 2) (fCon (.int 2))) fiNo (fiSm (fCon (.int 1)))) (fCon (.str "zq"))) fNil)))) (fOpd 2)))
    (sRet (fLc (wLst (fSl (fOpd 0) (fiSm (fOpd 1)) (fiSm (f2 oAdd (fOpd 1) (fOpd 3))))) (gfN 5) gYes (f2 oIx (fOpd 4) (f2 oMod (fOpd 5) (fCon (.int 8)))) [5])))
def f_l_built (Phi : Nm → List D → Option Rs) (Psy : Nx → Phx) : Fs :=
    (fSeq (sSetO 3 (fLst (fCons (fCon (.int 2)) fNil)))
    (fSeq (sSet 4 (f2 oAdd (fCon (.int 5)) (fB oInt1 (fCons (f2 oEq (f2 oMod (fCall (Phi .l_cell_at) (fCons (fVar 0) (fCons (fCon (.int 1)) fNil))) (fCon (.int 8))) (fCon (.int 5))) fNil))))
    (sRetX (xCallP (Phi .l_fit) (xCons (xCall 3 (Psy .l_made) (fVar 0) (fCons (fVar 1) (fCons (fVar 4) (fCons (fCon (.bool true)) fNil)))) (xCons (xOf (fVar 2)) xNil))))))
def f_law (Phi : Nm → List D → Option Rs) : Fs :=
    (fSeq (sSet 1 (fCall (Phi .l_names) (fCons (fCall (Phi .l_cell_at) (fCons (fVar 0) (fCons (fCon (.int 0)) fNil))) fNil)))
    (fSeq (sSet 2 (fCall (Phi .l_built) (fCons (fVar 0) (fCons (fVar 1) (fCons (fCon (.int 99)) fNil)))))
    (fSeq (sSet 3 (f2 oMod (f2 oDiv (fCall (Phi .l_cell_at) (fCons (fVar 0) (fCons (fCon (.int 1)) fNil))) (fCon (.int 8))) (fCon (.int 6))))
    (fSeq (sIf (gAnd (fT (f2 oLt (fOpd 3) (fCon (.int 2)))) (fT (f2 oNe (f2 oMod (fCall (Phi .l_cell_at) (fCons (fVar 0) (fCons (fCon (.int 1)) fNil))) (fCon (.int 8))) (fCon (.int 5))))) (sSet 2 (f2 oIx (fLst (fCons (fTup (fCons (fCon (.str "before")) (fCons (fVar 2) fNil))) (fCons (fTup (fCons (fCon (.str "since")) (fCons (fVar 2) (fCons (fTup (fCons (fCon (.str "mark")) (fCons (f2 oIx (fOpd 1) (fCon (.int 1))) fNil))) fNil)))) fNil))) (fOpd 3))) fNext)
    (fSeq (sSet 4 (fCall (Phi .l_run) (fCons (fVar 0) (fCons (fCon (.int 3)) (fCons (fVar 1) (fCons (fCon (.int 12)) fNil))))))
    (fSeq (sSet 5 (fB oList (fCons (fOpd 4) fNil)))
    (fSeq (sSet 6 (fCall (Phi .l_means) (fCons (fVar 2) (fCons (fVar 4) fNil))))
    (fSeq (sFor (wRg1 (fCons (fB oLen (fCons (fOpd 4) fNil)) fNil)) (gfN 7) (fSeq (sSet 8 (fCall (Phi .holds) (fCons (fVar 2) (fCons (fVar 5) (fCons (fVar 7) fNil)))))
    (sIf (gOr (gNot (fT (f1 (oIsi "bool") (fOpd 8)))) (fT (f2 oNe (fOpd 8) (f2 oIx (fOpd 6) (fOpd 7))))) (sRet (fCon (.bool false))) fNext)))
    (sRet (f2 oEq (fOpd 5) (fOpd 4)))))))))))
def Phi : Nat → Nm → List D → Option Rs
  | 0 => fun _ _ => none
  | n + 1 => fun i => match i with
    | .is_reached => runF 4 5 (f_is_reached (Phi n))
    | .holds => runF 3 5 (f_holds (Phi n))
    | .l_cell_at => runF 2 2 (f_l_cell_at (Phi n))
    | .l_names => runF 1 9 (f_l_names (Phi n))
    | .l_all => runF 1 3 (f_l_all (Phi n))
    | .l_wishes => runF 1 6 (f_l_wishes (Phi n))
    | .l_fit => runF 2 2 (f_l_fit (Phi n))
    | .l_until => runF 2 6 (f_l_until (Phi n))
    | .l_means => runF 2 9 (f_l_means (Phi n))
    | .l_run => runF 4 6 (f_l_run (Phi n))
    | .l_built => runF 3 5 (f_l_built (Phi n) (Psi n))
    | .law => runF 1 9 (f_law (Phi n))
    | .l_draw => fun _ => none
    | .l_made => fun _ => none
theorem phi_is_reached (n : Nat) : Phi (n + 1) .is_reached = runF 4 5 (f_is_reached (Phi n)) := rfl
theorem phi_holds (n : Nat) : Phi (n + 1) .holds = runF 3 5 (f_holds (Phi n)) := rfl
theorem phi_l_cell_at (n : Nat) : Phi (n + 1) .l_cell_at = runF 2 2 (f_l_cell_at (Phi n)) := rfl
theorem phi_l_names (n : Nat) : Phi (n + 1) .l_names = runF 1 9 (f_l_names (Phi n)) := rfl
theorem phi_l_all (n : Nat) : Phi (n + 1) .l_all = runF 1 3 (f_l_all (Phi n)) := rfl
theorem phi_l_wishes (n : Nat) : Phi (n + 1) .l_wishes = runF 1 6 (f_l_wishes (Phi n)) := rfl
theorem phi_l_fit (n : Nat) : Phi (n + 1) .l_fit = runF 2 2 (f_l_fit (Phi n)) := rfl
theorem phi_l_until (n : Nat) : Phi (n + 1) .l_until = runF 2 6 (f_l_until (Phi n)) := rfl
theorem phi_l_means (n : Nat) : Phi (n + 1) .l_means = runF 2 9 (f_l_means (Phi n)) := rfl
theorem phi_l_run (n : Nat) : Phi (n + 1) .l_run = runF 4 6 (f_l_run (Phi n)) := rfl
theorem phi_l_built (n : Nat) : Phi (n + 1) .l_built = runF 3 5 (f_l_built (Phi n) (Psi n)) := rfl
theorem phi_law (n : Nat) : Phi (n + 1) .law = runF 1 9 (f_law (Phi n)) := rfl
structure ZZ (mg : Str → Option Value) : Prop where
  len : mg "len" = none
  min : mg "min" = none
  range : mg "range" = none
  any : mg "any" = none
  list : mg "list" = none
  isinstance : mg "isinstance" = none
  tuple : mg "tuple" = none
  zip : mg "zip" = none
  int : mg "int" = none
  bool : mg "bool" = none
section
variable {P : Program} {w : World} {K : PySem.W.Frag} {mg : Str → Option Value} {base : Heap} {M : Pm} {fa : Nm → Addr} {fdd : Nm → FuncData} {Phi : Nm → List D → Option Rs} {Psy : Nx → Phx} {j k : Nat}
theorem d_l_draw (D : DD K mg fa fdd) (Z : ZZ mg) (OX : ∀ i : Nx, FnOk P w K mg base (L2.CX P w) j (fa i.n) (fdd i.n) (psN i.n) (spS K M (Psy i))) (hk : j ≤ k) (cdv : Value) (A : Around) (outer : List Env) (s : Shared) (H : Hp) (E : XK)
    (C : CxF K (cxOf (L2.CX P w) P w K mg base N_l_draw (nmS .l_draw) (defScope s_l_draw) (fa .l_draw) cdv A outer s H E) E k) (tk : Takes (cxOf (L2.CX P w) P w K mg base N_l_draw (nmS .l_draw) (defScope s_l_draw) (fa .l_draw) cdv A outer s H E) (fun cls d _ H => E cls d H)) :
    ∃ t, JXB K (cxOf (L2.CX P w) P w K mg base N_l_draw (nmS .l_draw) (defScope s_l_draw) (fa .l_draw) cdv A outer s H E) M 1 (defBody s_l_draw) t (f_l_draw Psy) := ⟨_,
    (xb_cons (xs_put (E := E) (JE.f2c (je_add C (JE.c2o (je_ix C (jo_var (i := 1)) (JE.c2o je_int))) (JE.c2o je_int))) (JE.pe (K := K) (M := M) (E := E) (jo_var (i := 1))) (JE.c2o je_int))
    (xb_cons (xs_set (j := 2) C.nd (xe_of (E := E) (je_sub (JE.c2o (je_ix C (jo_var (i := 1)) (JE.c2o je_int))) (JE.c2o je_int))))
    (xb_cons (xs_if (E := E) (jt_lt (jo_var (i := 2)) (JE.c2o (je_len C Z.len (by rfl) (jo_var (i := 0))))) (xb_one (xs_ret (xe_of (E := E) (je_ix C (jo_var (i := 0)) (jo_var (i := 2)))))) xb_nil)
    (xb_cons (xs_if (E := E) (JW.jt (jw_and (jt_gt (JE.c2o (je_len C Z.len (by rfl) (jo_var (i := 0)))) (JE.c2o je_int)) (jw_and1 (jt_lt (jo_var (i := 2)) (JE.c2o je_int))))) (xb_one (xs_ret (xe_of (E := E) (je_mod (JE.c2o (je_mul (JE.f2o (je_add C (JE.c2o (je_ix C (jo_var (i := 0)) (JE.c2o (je_mod (jo_var (i := 2)) (JE.c2o (je_len C Z.len (by rfl) (jo_var (i := 0)))))))) (JE.c2o (je_mul (JE.c2o je_int) (jo_var (i := 2)))))) (JE.c2o je_int))) (JE.c2o je_int))))) xb_nil)
    (xb_one (xs_ret (xe_of (E := E) je_int)))))))⟩
theorem d_l_made (D : DD K mg fa fdd) (Z : ZZ mg) (OX : ∀ i : Nx, FnOk P w K mg base (L2.CX P w) j (fa i.n) (fdd i.n) (psN i.n) (spS K M (Psy i))) (hk : j ≤ k) (cdv : Value) (A : Around) (outer : List Env) (s : Shared) (H : Hp) (E : XK)
    (C : CxF K (cxOf (L2.CX P w) P w K mg base N_l_made (nmS .l_made) (defScope s_l_made) (fa .l_made) cdv A outer s H E) E k) (tk : Takes (cxOf (L2.CX P w) P w K mg base N_l_made (nmS .l_made) (defScope s_l_made) (fa .l_made) cdv A outer s H E) (fun cls d _ H => E cls d H)) :
    ∃ t, JXB K (cxOf (L2.CX P w) P w K mg base N_l_made (nmS .l_made) (defScope s_l_made) (fa .l_made) cdv A outer s H E) M 1 (defBody s_l_made) t (f_l_made Psy) := ⟨_,
    (xb_cons (xs_set (j := 5) C.nd (xe_call C (OX .l_draw) hk (D.d .l_draw).b (D.d .l_draw).m (D.d .l_draw).F.kp  (by rfl) (je_var (i := 0)) (JE.pe (K := K) (M := M) (E := E) (jo_var (i := 1))) jc_nil))
    (xb_cons (xs_set (j := 6) C.nd (xe_of (E := E) (je_div (jo_var (i := 5)) (JE.c2o je_int))))
    (xb_cons (xs_if (E := E) (JW.jt (jw_or (jt_lt (jo_var (i := 3)) (JE.c2o je_int)) (jw_or1 (jt_lt (JE.c2o (je_mod (jo_var (i := 5)) (JE.c2o je_int))) (JE.c2o je_int))))) (xb_cons (xs_if (E := E) (jt_eq C (JE.c2o (je_mod (jo_var (i := 6)) (JE.c2o je_int))) (JE.c2o je_int)) (xb_one (xs_ret (xe_of (E := E) (je_tup (jc_cons je_str jc_nil))))) xb_nil)
    (xb_one (xs_ret (xe_of (E := E) (je_tup (jc_cons je_str (jc_cons (je_ix C (jo_var (i := 2)) (JE.c2o (je_mod (jo_var (i := 6)) (JE.c2o je_int)))) jc_nil))))))) xb_nil)
    (xb_cons (xs_set (j := 7) C.nd (xe_of (E := E) je_str))
    (xb_cons (xs_if (E := E) (jt_val (je_var (i := 4))) (xb_one (xs_set (j := 7) C.nd (xe_of (E := E) je_str))) xb_nil)
    (xb_cons (xs_set (j := 8) C.nd (xe_of (E := E) (je_ix C (JE.f2o (je_split (jo_var (i := 7)) (JE.c2o je_str))) (JE.c2o (je_sub (JE.c2o (je_mod (jo_var (i := 5)) (JE.c2o je_int))) (JE.c2o je_int))))))
    (xb_cons (xs_set (j := 4) C.nd (xe_of (E := E) (je_and (je_var (i := 4)) (je_one (je_ni C (jo_var (i := 8)) (JE.c2o (je_tup (jc_cons je_str (jc_cons je_str jc_nil)))))))))
    (xb_cons (xs_set (j := 9) C.nd (xe_call C (OX .l_made) hk (D.d .l_made).b (D.d .l_made).m (D.d .l_made).F.kp  (by rfl) (je_var (i := 0)) (JE.pe (K := K) (M := M) (E := E) (jo_var (i := 1))) (jc_cons (je_var (i := 2)) (jc_cons (je_sub (jo_var (i := 3)) (JE.c2o je_int)) (jc_cons (je_var (i := 4)) jc_nil)))))
    (xb_cons (xs_if (E := E) (jt_eq C (jo_var (i := 8)) (JE.c2o je_str)) (xb_one (xs_ret (xe_of (E := E) (je_tup (jc_cons (je_var (i := 8)) (jc_cons (je_ix C (JE.f2o (je_lst (jc_cons je_int (jc_cons je_int (jc_cons je_int (jc_cons je_int (jc_cons (je_mod (JE.c2o (je_div (jo_var (i := 6)) (JE.c2o je_int))) (JE.c2o je_int)) jc_nil))))))) (JE.c2o (je_mod (jo_var (i := 6)) (JE.c2o je_int)))) (jc_cons (je_var (i := 9)) jc_nil))))))) xb_nil)
    (xb_cons (xs_if (E := E) (jt_in C (jo_var (i := 8)) (JE.c2o (je_tup (jc_cons je_str (jc_cons je_str (jc_cons je_str jc_nil)))))) (xb_one (xs_ret (xe_of (E := E) (je_tup (jc_cons (je_var (i := 8)) (jc_cons (je_var (i := 9)) jc_nil)))))) xb_nil)
    (xb_one (xs_ret (xe_tup (xa_cons (xe_of (E := E) (je_var (i := 8))) (xa_cons (xe_of (E := E) (je_var (i := 9))) (xa_cons (xe_call C (OX .l_made) hk (D.d .l_made).b (D.d .l_made).m (D.d .l_made).F.kp  (by rfl) (je_var (i := 0)) (JE.pe (K := K) (M := M) (E := E) (jo_var (i := 1))) (jc_cons (je_var (i := 2)) (jc_cons (je_sub (jo_var (i := 3)) (JE.c2o je_int)) (jc_cons (je_var (i := 4)) jc_nil)))) xa_nil))))))))))))))))⟩
theorem d_is_reached (D : DD K mg fa fdd) (Z : ZZ mg) (OK : ∀ i : Nm, FnOk P w K mg base (L2.CX P w) j (fa i) (fdd i) (psN i) (spF K M (Phi i)))  (hk : j ≤ k) (cdv : Value) (A : Around) (outer : List Env) (s : Shared) (H : Hp) (E : XK)
    (C : CxF K (cxOf (L2.CX P w) P w K mg base N_is_reached (nmS .is_reached) (defScope s_is_reached) (fa .is_reached) cdv A outer s H E) E k) (tk : Takes (cxOf (L2.CX P w) P w K mg base N_is_reached (nmS .is_reached) (defScope s_is_reached) (fa .is_reached) cdv A outer s H E) (fun cls d _ H => E cls d H)) :
    ∃ t, JB K (cxOf (L2.CX P w) P w K mg base N_is_reached (nmS .is_reached) (defScope s_is_reached) (fa .is_reached) cdv A outer s H E) M E (defBody s_is_reached) t (f_is_reached Phi) := ⟨_,
    (jb_cons (js_for C (ji_list C (je_var (i := 3))) (jg_name (i := 4) C.nd) (jb_cons (js_if (jt_val (je_call C (OK .holds) hk (D.d .holds).b (D.d .holds).m (D.d .holds).F.kp  (by rfl) (jc_cons (je_var (i := 2)) (jc_cons (je_var (i := 0)) (jc_cons (je_var (i := 4)) jc_nil))))) (jb_one (js_ret je_bl)) jb_nil)
    (jb_one (js_if (jt_not (jt_val (je_call C (OK .holds) hk (D.d .holds).b (D.d .holds).m (D.d .holds).F.kp  (by rfl) (jc_cons (je_var (i := 1)) (jc_cons (je_var (i := 0)) (jc_cons (je_var (i := 4)) jc_nil)))))) (jb_one (js_ret je_bl)) jb_nil))))
    (jb_one (js_ret je_bl)))⟩
theorem d_holds (D : DD K mg fa fdd) (Z : ZZ mg) (OK : ∀ i : Nm, FnOk P w K mg base (L2.CX P w) j (fa i) (fdd i) (psN i) (spF K M (Phi i)))  (hk : j ≤ k) (cdv : Value) (A : Around) (outer : List Env) (s : Shared) (H : Hp) (E : XK)
    (C : CxF K (cxOf (L2.CX P w) P w K mg base N_holds (nmS .holds) (defScope s_holds) (fa .holds) cdv A outer s H E) E k) (tk : Takes (cxOf (L2.CX P w) P w K mg base N_holds (nmS .holds) (defScope s_holds) (fa .holds) cdv A outer s H E) (fun cls d _ H => E cls d H)) :
    ∃ t, JB K (cxOf (L2.CX P w) P w K mg base N_holds (nmS .holds) (defScope s_holds) (fa .holds) cdv A outer s H E) M E (defBody s_holds) t (f_holds Phi) := ⟨_,
    (jb_cons (js_set (i := 3) C.nd (je_ix C (jo_var (i := 0)) (JE.c2o je_int)))
    (jb_cons (js_if (jt_eq C (jo_var (i := 3)) (JE.c2o je_str)) (jb_one (js_ret (je_eq C (JE.c2o (je_ix C (jo_var (i := 1)) (jo_var (i := 2)))) (JE.c2o (je_ix C (jo_var (i := 0)) (JE.c2o je_int)))))) jb_nil)
    (jb_cons (js_if (jt_eq C (jo_var (i := 3)) (JE.c2o je_str)) (jb_one (js_ret je_bl)) jb_nil)
    (jb_cons (js_if (jt_eq C (jo_var (i := 3)) (JE.c2o je_str)) (jb_one (js_ret (je_not (je_call C (OK .holds) hk (D.d .holds).b (D.d .holds).m (D.d .holds).F.kp  (by rfl) (jc_cons (je_ix C (jo_var (i := 0)) (JE.c2o je_int)) (jc_cons (je_var (i := 1)) (jc_cons (je_var (i := 2)) jc_nil))))))) jb_nil)
    (jb_cons (js_if (jt_eq C (jo_var (i := 3)) (JE.c2o je_str)) (jb_one (js_ret (je_and (je_call C (OK .holds) hk (D.d .holds).b (D.d .holds).m (D.d .holds).F.kp  (by rfl) (jc_cons (je_ix C (jo_var (i := 0)) (JE.c2o je_int)) (jc_cons (je_var (i := 1)) (jc_cons (je_var (i := 2)) jc_nil)))) (je_one (je_call C (OK .holds) hk (D.d .holds).b (D.d .holds).m (D.d .holds).F.kp  (by rfl) (jc_cons (je_ix C (jo_var (i := 0)) (JE.c2o je_int)) (jc_cons (je_var (i := 1)) (jc_cons (je_var (i := 2)) jc_nil)))))))) jb_nil)
    (jb_cons (js_if (jt_eq C (jo_var (i := 3)) (JE.c2o je_str)) (jb_one (js_ret (je_or (je_call C (OK .holds) hk (D.d .holds).b (D.d .holds).m (D.d .holds).F.kp  (by rfl) (jc_cons (je_ix C (jo_var (i := 0)) (JE.c2o je_int)) (jc_cons (je_var (i := 1)) (jc_cons (je_var (i := 2)) jc_nil)))) (je_one (je_call C (OK .holds) hk (D.d .holds).b (D.d .holds).m (D.d .holds).F.kp  (by rfl) (jc_cons (je_ix C (jo_var (i := 0)) (JE.c2o je_int)) (jc_cons (je_var (i := 1)) (jc_cons (je_var (i := 2)) jc_nil)))))))) jb_nil)
    (jb_cons (js_if (jt_eq C (jo_var (i := 3)) (JE.c2o je_str)) (jb_one (js_ret (je_and (je_lt (JE.f2o (je_add C (jo_var (i := 2)) (JE.c2o je_int))) (JE.c2o (je_len C Z.len (by rfl) (jo_var (i := 1))))) (je_one (je_call C (OK .holds) hk (D.d .holds).b (D.d .holds).m (D.d .holds).F.kp  (by rfl) (jc_cons (je_ix C (jo_var (i := 0)) (JE.c2o je_int)) (jc_cons (je_var (i := 1)) (jc_cons (JE.f2c (je_add C (jo_var (i := 2)) (JE.c2o je_int))) jc_nil)))))))) jb_nil)
    (jb_cons (js_if (jt_eq C (jo_var (i := 3)) (JE.c2o je_str)) (jb_one (js_ret (je_and (je_gt (jo_var (i := 2)) (JE.c2o je_int)) (je_one (je_call C (OK .holds) hk (D.d .holds).b (D.d .holds).m (D.d .holds).F.kp  (by rfl) (jc_cons (je_ix C (jo_var (i := 0)) (JE.c2o je_int)) (jc_cons (je_var (i := 1)) (jc_cons (je_sub (jo_var (i := 2)) (JE.c2o je_int)) jc_nil)))))))) jb_nil)
    (jb_cons (js_if (jt_eq C (jo_var (i := 3)) (JE.c2o je_str)) (jb_one (js_ret (je_any C Z.any (by rfl) (JE.f2o (je_lc (own := [("place", 4)]) C (ji_rg2 Z.range (by rfl) (jo_var (i := 2)) (JE.c2o (je_min2 C Z.min (by rfl) (JE.c2o (je_len C Z.len (by rfl) (jo_var (i := 1)))) (JE.f2o (je_add C (JE.f2o (je_add C (jo_var (i := 2)) (JE.c2o (je_ix C (jo_var (i := 0)) (JE.c2o je_int))))) (JE.c2o je_int)))))) (blkOk_by (N := N_holds) (sc := defScope s_holds) (by decide +kernel)) (by exact fun s1 H1 Cc1 cl1 fp1 => (jg_name (i := 4) (CxF.blk C s1 H1 _ (compEnvC _ cl1 Cc1 _) fp1).nd)) (by exact fun s1 H1 Cc1 cl1 fp1 => jts_nil) (by exact fun s1 H1 Cc1 cl1 fp1 => (je_call (CxF.blk C s1 H1 _ (compEnvC _ cl1 Cc1 _) fp1) (OK .holds) hk (D.d .holds).b (D.d .holds).m (D.d .holds).F.kp  (by rfl) (jc_cons (je_ix (CxF.blk C s1 H1 _ (compEnvC _ cl1 Cc1 _) fp1) (jo_var (i := 0)) (JE.c2o je_int)) (jc_cons (je_var (i := 1)) (jc_cons (je_var (i := 4)) jc_nil)))))))))) jb_nil)
    (jb_cons (js_if (jt_eq C (jo_var (i := 3)) (JE.c2o je_str)) (jb_one (js_ret (je_call C (OK .is_reached) hk (D.d .is_reached).b (D.d .is_reached).m (D.d .is_reached).F.kp  (by rfl) (jc_cons (je_var (i := 1)) (jc_cons (je_ix C (jo_var (i := 0)) (JE.c2o je_int)) (jc_cons (je_ix C (jo_var (i := 0)) (JE.c2o je_int)) (jc_cons (JE.f2c (je_listRg C Z.list (by rfl) Z.range (by rfl) (jo_var (i := 2)) (JE.c2o (je_len C Z.len (by rfl) (jo_var (i := 1)))))) jc_nil))))))) jb_nil)
    (jb_one (js_ret (je_call C (OK .is_reached) hk (D.d .is_reached).b (D.d .is_reached).m (D.d .is_reached).F.kp  (by rfl) (jc_cons (je_var (i := 1)) (jc_cons (je_ix C (jo_var (i := 0)) (JE.c2o je_int)) (jc_cons (je_ix C (jo_var (i := 0)) (JE.c2o je_int)) (jc_cons (JE.f2c (je_listRg3 C Z.list (by rfl) Z.range (by rfl) (jo_var (i := 2)) (JE.c2o (je_neg (JE.c2o je_int))) (JE.c2o (je_neg (JE.c2o je_int))))) jc_nil)))))))))))))))))⟩
theorem d_l_cell_at (D : DD K mg fa fdd) (Z : ZZ mg) (OK : ∀ i : Nm, FnOk P w K mg base (L2.CX P w) j (fa i) (fdd i) (psN i) (spF K M (Phi i)))  (hk : j ≤ k) (cdv : Value) (A : Around) (outer : List Env) (s : Shared) (H : Hp) (E : XK)
    (C : CxF K (cxOf (L2.CX P w) P w K mg base N_l_cell_at (nmS .l_cell_at) (defScope s_l_cell_at) (fa .l_cell_at) cdv A outer s H E) E k) (tk : Takes (cxOf (L2.CX P w) P w K mg base N_l_cell_at (nmS .l_cell_at) (defScope s_l_cell_at) (fa .l_cell_at) cdv A outer s H E) (fun cls d _ H => E cls d H)) :
    ∃ t, JB K (cxOf (L2.CX P w) P w K mg base N_l_cell_at (nmS .l_cell_at) (defScope s_l_cell_at) (fa .l_cell_at) cdv A outer s H E) M E (defBody s_l_cell_at) t (f_l_cell_at Phi) := ⟨_,
    (jb_cons (js_if (jt_lt (jo_var (i := 1)) (JE.c2o (je_len C Z.len (by rfl) (jo_var (i := 0))))) (jb_one (js_ret (je_ix C (jo_var (i := 0)) (jo_var (i := 1))))) jb_nil)
    (jb_one (js_ret je_int)))⟩
theorem d_l_names (D : DD K mg fa fdd) (Z : ZZ mg) (OK : ∀ i : Nm, FnOk P w K mg base (L2.CX P w) j (fa i) (fdd i) (psN i) (spF K M (Phi i)))  (hk : j ≤ k) (cdv : Value) (A : Around) (outer : List Env) (s : Shared) (H : Hp) (E : XK)
    (C : CxF K (cxOf (L2.CX P w) P w K mg base N_l_names (nmS .l_names) (defScope s_l_names) (fa .l_names) cdv A outer s H E) E k) (tk : Takes (cxOf (L2.CX P w) P w K mg base N_l_names (nmS .l_names) (defScope s_l_names) (fa .l_names) cdv A outer s H E) (fun cls d _ H => E cls d H)) :
    ∃ t, JB K (cxOf (L2.CX P w) P w K mg base N_l_names (nmS .l_names) (defScope s_l_names) (fa .l_names) cdv A outer s H E) M E (defBody s_l_names) t (f_l_names Phi) := ⟨_,
    (jb_cons (js_set (i := 1) C.nd je_str)
    (jb_cons (js_set (i := 2) C.nd (je_join C (JE.c2o je_str) (JE.f2o (je_lc (own := [("_law_j", 8)]) C (ji_rg1 Z.range (by rfl) (JE.c2o je_int)) (blkOk_by (N := N_l_names) (sc := defScope s_l_names) (by decide +kernel)) (by exact fun s1 H1 Cc1 cl1 fp1 => (jg_name (i := 8) (CxF.blk C s1 H1 _ (compEnvC _ cl1 Cc1 _) fp1).nd)) (by exact fun s1 H1 Cc1 cl1 fp1 => jts_nil) (by exact fun s1 H1 Cc1 cl1 fp1 => (je_ix (CxF.blk C s1 H1 _ (compEnvC _ cl1 Cc1 _) fp1) (jo_var (i := 1)) (JE.c2o (je_mod (JE.f2o (je_add (CxF.blk C s1 H1 _ (compEnvC _ cl1 Cc1 _) fp1) (JE.c2o (je_div (jo_var (i := 0)) (JE.c2o je_int))) (JE.c2o (je_mul (JE.c2o je_int) (jo_var (i := 8)))))) (JE.c2o je_int)))))))))
    (jb_cons (js_if (jt_eq C (JE.c2o (je_mod (jo_var (i := 0)) (JE.c2o je_int))) (JE.c2o je_int)) (jb_cons (js_set (i := 3) C.nd (JE.f2c (je_add C (JE.c2o je_int) (JE.c2o (je_mod (JE.c2o (je_div (jo_var (i := 0)) (JE.c2o je_int))) (JE.c2o je_int))))))
    (jb_one (js_ret (JE.f2c (je_lc (own := [("_law_k", 6)]) C (ji_rg1 Z.range (by rfl) (JE.c2o je_int)) (blkOk_by (N := N_l_names) (sc := defScope s_l_names) (by decide +kernel)) (by exact fun s2 H2 Cc2 cl2 fp2 => (jg_name (i := 6) (CxF.blk C s2 H2 _ (compEnvC _ cl2 Cc2 _) fp2).nd)) (by exact fun s2 H2 Cc2 cl2 fp2 => jts_nil) (by exact fun s2 H2 Cc2 cl2 fp2 => (JE.f2c (je_slice (CxF.blk C s2 H2 _ (compEnvC _ cl2 Cc2 _) fp2) (jo_var (i := 2)) ji_no (ji_sm (JE.f2o (je_add (CxF.blk C s2 H2 _ (compEnvC _ cl2 Cc2 _) fp2) (jo_var (i := 3)) (jo_var (i := 6))))))))))))) jb_nil)
    (jb_cons (js_set (i := 3) C.nd (je_mod (JE.c2o (je_div (jo_var (i := 0)) (JE.c2o je_int))) (JE.c2o je_int)))
    (jb_cons (js_set (i := 4) C.nd (je_mod (JE.c2o (je_div (jo_var (i := 0)) (JE.c2o je_int))) (JE.f2o (je_add C (jo_var (i := 3)) (JE.c2o je_int)))))
    (jb_cons (js_setO (i := 5) C.nd (je_lst jc_nil))
    (jb_cons (js_for C (ji_rg1 Z.range (by rfl) (JE.c2o je_int)) (jg_name (i := 6) C.nd) (jb_cons (js_set (i := 7) C.nd (je_ix C (jo_var (i := 1)) (JE.c2o (je_mod (JE.f2o (je_add C (JE.c2o (je_div (jo_var (i := 0)) (JE.c2o je_int))) (JE.c2o (je_mul (JE.c2o je_int) (jo_var (i := 6)))))) (JE.c2o je_int)))))
    (jb_one (js_appX (i := 5) C (jo_var (i := 5)) (JE.f2c (je_add C (JE.f2o (je_add C (JE.f2o (je_slice C (jo_var (i := 2)) ji_no (ji_sm (jo_var (i := 4))))) (jo_var (i := 7)))) (JE.f2o (je_slice C (jo_var (i := 2)) (ji_sm (jo_var (i := 4))) (ji_sm (jo_var (i := 3)))))))))))
    (jb_one (js_retV (jo_var (i := 5)))))))))))⟩
theorem d_l_all (D : DD K mg fa fdd) (Z : ZZ mg) (OK : ∀ i : Nm, FnOk P w K mg base (L2.CX P w) j (fa i) (fdd i) (psN i) (spF K M (Phi i)))  (hk : j ≤ k) (cdv : Value) (A : Around) (outer : List Env) (s : Shared) (H : Hp) (E : XK)
    (C : CxF K (cxOf (L2.CX P w) P w K mg base N_l_all (nmS .l_all) (defScope s_l_all) (fa .l_all) cdv A outer s H E) E k) (tk : Takes (cxOf (L2.CX P w) P w K mg base N_l_all (nmS .l_all) (defScope s_l_all) (fa .l_all) cdv A outer s H E) (fun cls d _ H => E cls d H)) :
    ∃ t, JB K (cxOf (L2.CX P w) P w K mg base N_l_all (nmS .l_all) (defScope s_l_all) (fa .l_all) cdv A outer s H E) M E (defBody s_l_all) t (f_l_all Phi) := ⟨_,
    (jb_cons (js_set (i := 1) C.nd (JE.f2c (je_lst (jc_cons (je_var (i := 0)) jc_nil))))
    (jb_cons (js_for C (ji_tup C (JE.f2c (je_slice C (jo_var (i := 0)) (ji_sm (JE.c2o je_int)) ji_no))) (jg_name (i := 2) C.nd) (jb_one (js_if (jt_val (je_isi (T := "tuple") C Z.isinstance (by rfl) Z.tuple (by rfl) (by decide +kernel) (by decide) (jo_var (i := 2)))) (jb_one (js_set (i := 1) C.nd (JE.f2c (je_add C (jo_var (i := 1)) (JE.c2o (je_call C (OK .l_all) hk (D.d .l_all).b (D.d .l_all).m (D.d .l_all).F.kp  (by rfl) (jc_cons (je_var (i := 2)) jc_nil))))))) jb_nil)))
    (jb_one (js_ret (je_var (i := 1))))))⟩
theorem d_l_wishes (D : DD K mg fa fdd) (Z : ZZ mg) (OK : ∀ i : Nm, FnOk P w K mg base (L2.CX P w) j (fa i) (fdd i) (psN i) (spF K M (Phi i)))  (hk : j ≤ k) (cdv : Value) (A : Around) (outer : List Env) (s : Shared) (H : Hp) (E : XK)
    (C : CxF K (cxOf (L2.CX P w) P w K mg base N_l_wishes (nmS .l_wishes) (defScope s_l_wishes) (fa .l_wishes) cdv A outer s H E) E k) (tk : Takes (cxOf (L2.CX P w) P w K mg base N_l_wishes (nmS .l_wishes) (defScope s_l_wishes) (fa .l_wishes) cdv A outer s H E) (fun cls d _ H => E cls d H)) :
    ∃ t, JB K (cxOf (L2.CX P w) P w K mg base N_l_wishes (nmS .l_wishes) (defScope s_l_wishes) (fa .l_wishes) cdv A outer s H E) M E (defBody s_l_wishes) t (f_l_wishes Phi) := ⟨_,
    (jb_cons (js_set (i := 1) C.nd (JE.f2c (je_lst (jc_cons (je_var (i := 0)) jc_nil))))
    (jb_cons (js_for C (ji_list C (je_call C (OK .l_all) hk (D.d .l_all).b (D.d .l_all).m (D.d .l_all).F.kp  (by rfl) (jc_cons (je_var (i := 0)) jc_nil))) (jg_name (i := 2) C.nd) (jb_cons (js_set (i := 3) C.nd (JE.f2c (je_lst jc_nil)))
    (jb_cons (js_if (jt_eq C (JE.c2o (je_ix C (jo_var (i := 2)) (JE.c2o je_int))) (JE.c2o je_str)) (jb_one (js_set (i := 3) C.nd (JE.f2c (je_lst (jc_cons (je_ix C (jo_var (i := 2)) (JE.c2o je_int)) jc_nil))))) (jb_one (js_if (jt_eq C (JE.c2o (je_ix C (jo_var (i := 2)) (JE.c2o je_int))) (JE.c2o je_str)) (jb_one (js_set (i := 3) C.nd (JE.f2c (je_lst (jc_cons (je_var (i := 2)) jc_nil))))) (jb_one (js_if (jt_eq C (JE.c2o (je_ix C (jo_var (i := 2)) (JE.c2o je_int))) (JE.c2o je_str)) (jb_one (js_setLc (i := 3) (own := [("_law_k", 5)]) C (ji_rg1 Z.range (by rfl) (JE.c2o (je_ix C (jo_var (i := 2)) (JE.c2o je_int)))) (blkOk_by (N := N_l_wishes) (sc := defScope s_l_wishes) (by decide +kernel)) (by exact fun s1 H1 Cc1 cl1 fp1 => (jg_name (i := 5) (CxF.blk C s1 H1 _ (compEnvC _ cl1 Cc1 _) fp1).nd)) (by exact fun s1 H1 Cc1 cl1 fp1 => jts_nil) (by exact fun s1 H1 Cc1 cl1 fp1 => (je_tup (jc_cons je_str (jc_cons (je_var (i := 5)) (jc_cons (je_ix (CxF.blk C s1 H1 _ (compEnvC _ cl1 Cc1 _) fp1) (jo_var (i := 2)) (JE.c2o je_int)) jc_nil))))) (sw_true rfl rfl rfl (by decide +kernel)))) jb_nil)))))
    (jb_one (js_set (i := 1) C.nd (JE.f2c (je_add C (jo_var (i := 1)) (JE.f2o (je_lc (own := [("_law_other", 4)]) C (ji_list C (je_var (i := 3))) (blkOk_by (N := N_l_wishes) (sc := defScope s_l_wishes) (by decide +kernel)) (by exact fun s2 H2 Cc2 cl2 fp2 => (jg_name (i := 4) (CxF.blk C s2 H2 _ (compEnvC _ cl2 Cc2 _) fp2).nd)) (by exact fun s2 H2 Cc2 cl2 fp2 => (jts_one (jt_ni (CxF.blk C s2 H2 _ (compEnvC _ cl2 Cc2 _) fp2) (jo_var (i := 4)) (jo_var (i := 1))))) (by exact fun s2 H2 Cc2 cl2 fp2 => (je_var (i := 4))))))))))))
    (jb_one (js_ret (je_var (i := 1))))))⟩
theorem d_l_fit (D : DD K mg fa fdd) (Z : ZZ mg) (OK : ∀ i : Nm, FnOk P w K mg base (L2.CX P w) j (fa i) (fdd i) (psN i) (spF K M (Phi i)))  (hk : j ≤ k) (cdv : Value) (A : Around) (outer : List Env) (s : Shared) (H : Hp) (E : XK)
    (C : CxF K (cxOf (L2.CX P w) P w K mg base N_l_fit (nmS .l_fit) (defScope s_l_fit) (fa .l_fit) cdv A outer s H E) E k) (tk : Takes (cxOf (L2.CX P w) P w K mg base N_l_fit (nmS .l_fit) (defScope s_l_fit) (fa .l_fit) cdv A outer s H E) (fun cls d _ H => E cls d H)) :
    ∃ t, JB K (cxOf (L2.CX P w) P w K mg base N_l_fit (nmS .l_fit) (defScope s_l_fit) (fa .l_fit) cdv A outer s H E) M E (defBody s_l_fit) t (f_l_fit Phi) := ⟨_,
    (jb_cons (js_wh C (jt_gt (JE.c2o (je_len C Z.len (by rfl) (JE.c2o (je_call C (OK .l_wishes) hk (D.d .l_wishes).b (D.d .l_wishes).m (D.d .l_wishes).F.kp  (by rfl) (jc_cons (je_var (i := 0)) jc_nil))))) (jo_var (i := 1))) (jb_one (js_set (i := 0) C.nd (je_ix C (jo_var (i := 0)) (JE.c2o (je_neg (JE.c2o je_int)))))))
    (jb_one (js_ret (je_var (i := 0)))))⟩
theorem d_l_until (D : DD K mg fa fdd) (Z : ZZ mg) (OK : ∀ i : Nm, FnOk P w K mg base (L2.CX P w) j (fa i) (fdd i) (psN i) (spF K M (Phi i)))  (hk : j ≤ k) (cdv : Value) (A : Around) (outer : List Env) (s : Shared) (H : Hp) (E : XK)
    (C : CxF K (cxOf (L2.CX P w) P w K mg base N_l_until (nmS .l_until) (defScope s_l_until) (fa .l_until) cdv A outer s H E) E k) (tk : Takes (cxOf (L2.CX P w) P w K mg base N_l_until (nmS .l_until) (defScope s_l_until) (fa .l_until) cdv A outer s H E) (fun cls d _ H => E cls d H)) :
    ∃ t, JB K (cxOf (L2.CX P w) P w K mg base N_l_until (nmS .l_until) (defScope s_l_until) (fa .l_until) cdv A outer s H E) M E (defBody s_l_until) t (f_l_until Phi) := ⟨_,
    (jb_cons (js_setO (i := 2) C.nd (je_lst jc_nil))
    (jb_cons (js_set (i := 3) C.nd je_bl)
    (jb_cons (js_for C (ji_zip C Z.zip (by rfl) (je_var (i := 0)) (je_var (i := 1))) (jg_two C (jg_name (i := 4) C.nd) (jg_name (i := 5) C.nd)) (jb_cons (js_set (i := 3) C.nd (je_or (je_var (i := 5)) (je_one (je_and (je_var (i := 4)) (je_one (je_var (i := 3)))))))
    (jb_one (js_appX (i := 2) C (jo_var (i := 2)) (je_var (i := 3))))))
    (jb_one (js_retV (jo_var (i := 2)))))))⟩
theorem d_l_means (D : DD K mg fa fdd) (Z : ZZ mg) (OK : ∀ i : Nm, FnOk P w K mg base (L2.CX P w) j (fa i) (fdd i) (psN i) (spF K M (Phi i)))  (hk : j ≤ k) (cdv : Value) (A : Around) (outer : List Env) (s : Shared) (H : Hp) (E : XK)
    (C : CxF K (cxOf (L2.CX P w) P w K mg base N_l_means (nmS .l_means) (defScope s_l_means) (fa .l_means) cdv A outer s H E) E k) (tk : Takes (cxOf (L2.CX P w) P w K mg base N_l_means (nmS .l_means) (defScope s_l_means) (fa .l_means) cdv A outer s H E) (fun cls d _ H => E cls d H)) :
    ∃ t, JB K (cxOf (L2.CX P w) P w K mg base N_l_means (nmS .l_means) (defScope s_l_means) (fa .l_means) cdv A outer s H E) M E (defBody s_l_means) t (f_l_means Phi) := ⟨_,
    (jb_cons (js_set (i := 2) C.nd (je_ix C (jo_var (i := 0)) (JE.c2o je_int)))
    (jb_cons (js_if (jt_eq C (jo_var (i := 2)) (JE.c2o je_str)) (jb_one (js_ret (JE.f2c (je_lc (own := [("_law_mark", 5)]) C (ji_list C (je_var (i := 1))) (blkOk_by (N := N_l_means) (sc := defScope s_l_means) (by decide +kernel)) (by exact fun s1 H1 Cc1 cl1 fp1 => (jg_name (i := 5) (CxF.blk C s1 H1 _ (compEnvC _ cl1 Cc1 _) fp1).nd)) (by exact fun s1 H1 Cc1 cl1 fp1 => jts_nil) (by exact fun s1 H1 Cc1 cl1 fp1 => (je_eq (CxF.blk C s1 H1 _ (compEnvC _ cl1 Cc1 _) fp1) (jo_var (i := 5)) (JE.c2o (je_ix (CxF.blk C s1 H1 _ (compEnvC _ cl1 Cc1 _) fp1) (jo_var (i := 0)) (JE.c2o je_int))))))))) jb_nil)
    (jb_cons (js_if (jt_eq C (jo_var (i := 2)) (JE.c2o je_str)) (jb_one (js_ret (JE.f2c (je_lc (own := [("_law_mark", 5)]) C (ji_list C (je_var (i := 1))) (blkOk_by (N := N_l_means) (sc := defScope s_l_means) (by decide +kernel)) (by exact fun s2 H2 Cc2 cl2 fp2 => (jg_name (i := 5) (CxF.blk C s2 H2 _ (compEnvC _ cl2 Cc2 _) fp2).nd)) (by exact fun s2 H2 Cc2 cl2 fp2 => jts_nil) (by exact fun s2 H2 Cc2 cl2 fp2 => je_bl))))) jb_nil)
    (jb_cons (js_set (i := 3) C.nd (JE.f2c (je_lc (own := [("_law_part", 4)]) C (ji_tup C (JE.f2c (je_slice C (jo_var (i := 0)) (ji_sm (JE.c2o je_int)) ji_no))) (blkOk_by (N := N_l_means) (sc := defScope s_l_means) (by decide +kernel)) (by exact fun s3 H3 Cc3 cl3 fp3 => (jg_name (i := 4) (CxF.blk C s3 H3 _ (compEnvC _ cl3 Cc3 _) fp3).nd)) (by exact fun s3 H3 Cc3 cl3 fp3 => (jts_one (jt_val (je_isi (T := "tuple") (CxF.blk C s3 H3 _ (compEnvC _ cl3 Cc3 _) fp3) Z.isinstance (by rfl) Z.tuple (by rfl) (by decide +kernel) (by decide) (jo_var (i := 4)))))) (by exact fun s3 H3 Cc3 cl3 fp3 => (je_call (CxF.blk C s3 H3 _ (compEnvC _ cl3 Cc3 _) fp3) (OK .l_means) hk (D.d .l_means).b (D.d .l_means).m (D.d .l_means).F.kp  (by rfl) (jc_cons (je_var (i := 4)) (jc_cons (je_var (i := 1)) jc_nil)))))))
    (jb_cons (js_if (jt_eq C (jo_var (i := 2)) (JE.c2o je_str)) (jb_one (js_ret (JE.f2c (je_lc (own := [("_law_one", 6)]) C (ji_list C (je_ix C (jo_var (i := 3)) (JE.c2o je_int))) (blkOk_by (N := N_l_means) (sc := defScope s_l_means) (by decide +kernel)) (by exact fun s4 H4 Cc4 cl4 fp4 => (jg_name (i := 6) (CxF.blk C s4 H4 _ (compEnvC _ cl4 Cc4 _) fp4).nd)) (by exact fun s4 H4 Cc4 cl4 fp4 => jts_nil) (by exact fun s4 H4 Cc4 cl4 fp4 => (je_not (je_var (i := 6)))))))) jb_nil)
    (jb_cons (js_if (jt_eq C (jo_var (i := 2)) (JE.c2o je_str)) (jb_one (js_ret (JE.f2c (je_lc (own := [("_law_one", 6), ("_law_other", 8)]) C (ji_zip C Z.zip (by rfl) (je_ix C (jo_var (i := 3)) (JE.c2o je_int)) (je_ix C (jo_var (i := 3)) (JE.c2o je_int))) (blkOk_by (N := N_l_means) (sc := defScope s_l_means) (by decide +kernel)) (by exact fun s5 H5 Cc5 cl5 fp5 => (jg_two (CxF.blk C s5 H5 _ (compEnvC _ cl5 Cc5 _) fp5) (jg_name (i := 6) (CxF.blk C s5 H5 _ (compEnvC _ cl5 Cc5 _) fp5).nd) (jg_name (i := 8) (CxF.blk C s5 H5 _ (compEnvC _ cl5 Cc5 _) fp5).nd))) (by exact fun s5 H5 Cc5 cl5 fp5 => jts_nil) (by exact fun s5 H5 Cc5 cl5 fp5 => (je_and (je_var (i := 6)) (je_one (je_var (i := 8))))))))) jb_nil)
    (jb_cons (js_if (jt_eq C (jo_var (i := 2)) (JE.c2o je_str)) (jb_one (js_ret (JE.f2c (je_lc (own := [("_law_one", 6), ("_law_other", 8)]) C (ji_zip C Z.zip (by rfl) (je_ix C (jo_var (i := 3)) (JE.c2o je_int)) (je_ix C (jo_var (i := 3)) (JE.c2o je_int))) (blkOk_by (N := N_l_means) (sc := defScope s_l_means) (by decide +kernel)) (by exact fun s6 H6 Cc6 cl6 fp6 => (jg_two (CxF.blk C s6 H6 _ (compEnvC _ cl6 Cc6 _) fp6) (jg_name (i := 6) (CxF.blk C s6 H6 _ (compEnvC _ cl6 Cc6 _) fp6).nd) (jg_name (i := 8) (CxF.blk C s6 H6 _ (compEnvC _ cl6 Cc6 _) fp6).nd))) (by exact fun s6 H6 Cc6 cl6 fp6 => jts_nil) (by exact fun s6 H6 Cc6 cl6 fp6 => (je_or (je_var (i := 6)) (je_one (je_var (i := 8))))))))) jb_nil)
    (jb_cons (js_if (jt_eq C (jo_var (i := 2)) (JE.c2o je_str)) (jb_one (js_ret (JE.f2c (je_slice C (JE.f2o (je_add C (JE.c2o (je_ix C (jo_var (i := 3)) (JE.c2o je_int))) (JE.f2o (je_lst (jc_cons je_bl jc_nil))))) (ji_sm (JE.c2o je_int)) ji_no)))) jb_nil)
    (jb_cons (js_if (jt_eq C (jo_var (i := 2)) (JE.c2o je_str)) (jb_one (js_ret (JE.f2c (je_slice C (JE.f2o (je_add C (JE.f2o (je_lst (jc_cons je_bl jc_nil))) (JE.c2o (je_ix C (jo_var (i := 3)) (JE.c2o je_int))))) ji_no (ji_sm (JE.c2o (je_len C Z.len (by rfl) (jo_var (i := 1))))))))) jb_nil)
    (jb_cons (js_if (jt_eq C (jo_var (i := 2)) (JE.c2o je_str)) (jb_one (js_ret (JE.f2c (je_lc (own := [("_law_k", 7)]) C (ji_rg1 Z.range (by rfl) (JE.c2o (je_len C Z.len (by rfl) (jo_var (i := 1))))) (blkOk_by (N := N_l_means) (sc := defScope s_l_means) (by decide +kernel)) (by exact fun s7 H7 Cc7 cl7 fp7 => (jg_name (i := 7) (CxF.blk C s7 H7 _ (compEnvC _ cl7 Cc7 _) fp7).nd)) (by exact fun s7 H7 Cc7 cl7 fp7 => jts_nil) (by exact fun s7 H7 Cc7 cl7 fp7 => (je_in (CxF.blk C s7 H7 _ (compEnvC _ cl7 Cc7 _) fp7) (JE.c2o je_bl) (JE.f2o (je_slice (CxF.blk C s7 H7 _ (compEnvC _ cl7 Cc7 _) fp7) (JE.c2o (je_ix (CxF.blk C s7 H7 _ (compEnvC _ cl7 Cc7 _) fp7) (jo_var (i := 3)) (JE.c2o je_int))) (ji_sm (jo_var (i := 7))) (ji_sm (JE.f2o (je_add (CxF.blk C s7 H7 _ (compEnvC _ cl7 Cc7 _) fp7) (JE.f2o (je_add (CxF.blk C s7 H7 _ (compEnvC _ cl7 Cc7 _) fp7) (jo_var (i := 7)) (JE.c2o (je_ix (CxF.blk C s7 H7 _ (compEnvC _ cl7 Cc7 _) fp7) (jo_var (i := 0)) (JE.c2o je_int))))) (JE.c2o je_int)))))))))))) jb_nil)
    (jb_cons (js_if (jt_eq C (jo_var (i := 2)) (JE.c2o je_str)) (jb_one (js_ret (je_call C (OK .l_until) hk (D.d .l_until).b (D.d .l_until).m (D.d .l_until).F.kp  (by rfl) (jc_cons (je_ix C (jo_var (i := 3)) (JE.c2o je_int)) (jc_cons (je_ix C (jo_var (i := 3)) (JE.c2o je_int)) jc_nil))))) jb_nil)
    (jb_one (js_ret (JE.f2c (je_rev C (JE.c2o (je_call C (OK .l_until) hk (D.d .l_until).b (D.d .l_until).m (D.d .l_until).F.kp  (by rfl) (jc_cons (JE.f2c (je_rev C (JE.c2o (je_ix C (jo_var (i := 3)) (JE.c2o je_int))))) (jc_cons (JE.f2c (je_rev C (JE.c2o (je_ix C (jo_var (i := 3)) (JE.c2o je_int))))) jc_nil)))))))))))))))))))⟩
theorem d_l_run (D : DD K mg fa fdd) (Z : ZZ mg) (OK : ∀ i : Nm, FnOk P w K mg base (L2.CX P w) j (fa i) (fdd i) (psN i) (spF K M (Phi i)))  (hk : j ≤ k) (cdv : Value) (A : Around) (outer : List Env) (s : Shared) (H : Hp) (E : XK)
    (C : CxF K (cxOf (L2.CX P w) P w K mg base N_l_run (nmS .l_run) (defScope s_l_run) (fa .l_run) cdv A outer s H E) E k) (tk : Takes (cxOf (L2.CX P w) P w K mg base N_l_run (nmS .l_run) (defScope s_l_run) (fa .l_run) cdv A outer s H E) (fun cls d _ H => E cls d H)) :
    ∃ t, JB K (cxOf (L2.CX P w) P w K mg base N_l_run (nmS .l_run) (defScope s_l_run) (fa .l_run) cdv A outer s H E) M E (defBody s_l_run) t (f_l_run Phi) := ⟨_,
    (jb_cons (js_set (i := 4) C.nd (JE.f2c (je_add C (JE.f2o (je_add C (jo_var (i := 2)) (JE.f2o (je_lst (jc_cons je_str (jc_cons (JE.f2c (je_add C (JE.f2o (je_slice C (JE.c2o (je_ix C (jo_var (i := 2)) (JE.c2o je_int))) ji_no (ji_sm (JE.c2o je_int)))) (JE.c2o je_str))) jc_nil)))))) (jo_var (i := 2)))))
    (jb_one (js_ret (JE.f2c (je_lc (own := [("_law_cell", 5)]) C (ji_list C (JE.f2c (je_slice C (jo_var (i := 0)) (ji_sm (jo_var (i := 1))) (ji_sm (JE.f2o (je_add C (jo_var (i := 1)) (jo_var (i := 3)))))))) (blkOk_by (N := N_l_run) (sc := defScope s_l_run) (by decide +kernel)) (by exact fun s1 H1 Cc1 cl1 fp1 => (jg_name (i := 5) (CxF.blk C s1 H1 _ (compEnvC _ cl1 Cc1 _) fp1).nd)) (by exact fun s1 H1 Cc1 cl1 fp1 => jts_nil) (by exact fun s1 H1 Cc1 cl1 fp1 => (je_ix (CxF.blk C s1 H1 _ (compEnvC _ cl1 Cc1 _) fp1) (jo_var (i := 4)) (JE.c2o (je_mod (jo_var (i := 5)) (JE.c2o je_int))))))))))⟩
theorem d_l_built (D : DD K mg fa fdd) (Z : ZZ mg) (OK : ∀ i : Nm, FnOk P w K mg base (L2.CX P w) j (fa i) (fdd i) (psN i) (spF K M (Phi i))) (OX : ∀ i : Nx, FnOk P w K mg base (L2.CX P w) j (fa i.n) (fdd i.n) (psN i.n) (spS K M (Psy i))) (hk : j ≤ k) (cdv : Value) (A : Around) (outer : List Env) (s : Shared) (H : Hp) (E : XK)
    (C : CxF K (cxOf (L2.CX P w) P w K mg base N_l_built (nmS .l_built) (defScope s_l_built) (fa .l_built) cdv A outer s H E) E k) (tk : Takes (cxOf (L2.CX P w) P w K mg base N_l_built (nmS .l_built) (defScope s_l_built) (fa .l_built) cdv A outer s H E) (fun cls d _ H => E cls d H)) :
    ∃ t, JB K (cxOf (L2.CX P w) P w K mg base N_l_built (nmS .l_built) (defScope s_l_built) (fa .l_built) cdv A outer s H E) M E (defBody s_l_built) t (f_l_built Phi Psy) := ⟨_,
    (jb_cons (js_setO (i := 3) C.nd (je_lst (jc_cons je_int jc_nil)))
    (jb_cons (js_set (i := 4) C.nd (JE.f2c (je_add C (JE.c2o je_int) (JE.c2o (je_int1 Z.int (by rfl) (JE.c2o (je_eq C (JE.c2o (je_mod (JE.c2o (je_call C (OK .l_cell_at) hk (D.d .l_cell_at).b (D.d .l_cell_at).m (D.d .l_cell_at).F.kp  (by rfl) (jc_cons (je_var (i := 0)) (jc_cons je_int jc_nil)))) (JE.c2o je_int))) (JE.c2o je_int))))))))
    (jb_one (js_retX 3 (xe_callP C (OK .l_fit) hk (D.d .l_fit).b (D.d .l_fit).m (D.d .l_fit).F.kp  (by rfl) (xa_cons (xe_call C (OX .l_made) hk (D.d .l_made).b (D.d .l_made).m (D.d .l_made).F.kp  (by rfl) (je_var (i := 0)) (JE.pe (K := K) (M := M) (E := E) (jo_var (i := 3))) (jc_cons (je_var (i := 1)) (jc_cons (je_var (i := 4)) (jc_cons je_bl jc_nil)))) (xa_cons (xe_of (E := E) (je_var (i := 2))) xa_nil))) (us_callP (usa_cons us_call))))))⟩
theorem d_law (D : DD K mg fa fdd) (Z : ZZ mg) (OK : ∀ i : Nm, FnOk P w K mg base (L2.CX P w) j (fa i) (fdd i) (psN i) (spF K M (Phi i)))  (hk : j ≤ k) (cdv : Value) (A : Around) (outer : List Env) (s : Shared) (H : Hp) (E : XK)
    (C : CxF K (cxOf (L2.CX P w) P w K mg base N_law (nmS .law) (defScope s_law) (fa .law) cdv A outer s H E) E k) (tk : Takes (cxOf (L2.CX P w) P w K mg base N_law (nmS .law) (defScope s_law) (fa .law) cdv A outer s H E) (fun cls d _ H => E cls d H)) :
    ∃ t, JB K (cxOf (L2.CX P w) P w K mg base N_law (nmS .law) (defScope s_law) (fa .law) cdv A outer s H E) M E (defBody s_law) t (f_law Phi) := ⟨_,
    (jb_cons (js_set (i := 1) C.nd (je_call C (OK .l_names) hk (D.d .l_names).b (D.d .l_names).m (D.d .l_names).F.kp  (by rfl) (jc_cons (je_call C (OK .l_cell_at) hk (D.d .l_cell_at).b (D.d .l_cell_at).m (D.d .l_cell_at).F.kp  (by rfl) (jc_cons (je_var (i := 0)) (jc_cons je_int jc_nil))) jc_nil)))
    (jb_cons (js_set (i := 2) C.nd (je_call C (OK .l_built) hk (D.d .l_built).b (D.d .l_built).m (D.d .l_built).F.kp  (by rfl) (jc_cons (je_var (i := 0)) (jc_cons (je_var (i := 1)) (jc_cons je_int jc_nil)))))
    (jb_cons (js_set (i := 3) C.nd (je_mod (JE.c2o (je_div (JE.c2o (je_call C (OK .l_cell_at) hk (D.d .l_cell_at).b (D.d .l_cell_at).m (D.d .l_cell_at).F.kp  (by rfl) (jc_cons (je_var (i := 0)) (jc_cons je_int jc_nil)))) (JE.c2o je_int))) (JE.c2o je_int)))
    (jb_cons (js_if (JW.jt (jw_and (jt_lt (jo_var (i := 3)) (JE.c2o je_int)) (jw_and1 (jt_ne C (JE.c2o (je_mod (JE.c2o (je_call C (OK .l_cell_at) hk (D.d .l_cell_at).b (D.d .l_cell_at).m (D.d .l_cell_at).F.kp  (by rfl) (jc_cons (je_var (i := 0)) (jc_cons je_int jc_nil)))) (JE.c2o je_int))) (JE.c2o je_int))))) (jb_one (js_set (i := 2) C.nd (je_ix C (JE.f2o (je_lst (jc_cons (je_tup (jc_cons je_str (jc_cons (je_var (i := 2)) jc_nil))) (jc_cons (je_tup (jc_cons je_str (jc_cons (je_var (i := 2)) (jc_cons (je_tup (jc_cons je_str (jc_cons (je_ix C (jo_var (i := 1)) (JE.c2o je_int)) jc_nil))) jc_nil)))) jc_nil)))) (jo_var (i := 3))))) jb_nil)
    (jb_cons (js_set (i := 4) C.nd (je_call C (OK .l_run) hk (D.d .l_run).b (D.d .l_run).m (D.d .l_run).F.kp  (by rfl) (jc_cons (je_var (i := 0)) (jc_cons je_int (jc_cons (je_var (i := 1)) (jc_cons je_int jc_nil))))))
    (jb_cons (js_set (i := 5) C.nd (JE.f2c (je_list C Z.list (by rfl) (jo_var (i := 4)))))
    (jb_cons (js_set (i := 6) C.nd (je_call C (OK .l_means) hk (D.d .l_means).b (D.d .l_means).m (D.d .l_means).F.kp  (by rfl) (jc_cons (je_var (i := 2)) (jc_cons (je_var (i := 4)) jc_nil))))
    (jb_cons (js_for C (ji_rg1 Z.range (by rfl) (JE.c2o (je_len C Z.len (by rfl) (jo_var (i := 4))))) (jg_name (i := 7) C.nd) (jb_cons (js_set (i := 8) C.nd (je_call C (OK .holds) hk (D.d .holds).b (D.d .holds).m (D.d .holds).F.kp  (by rfl) (jc_cons (je_var (i := 2)) (jc_cons (je_var (i := 5)) (jc_cons (je_var (i := 7)) jc_nil)))))
    (jb_one (js_if (JW.jt (jw_or (jt_not (jt_val (je_isi (T := "bool") C Z.isinstance (by rfl) Z.bool (by rfl) (by decide +kernel) (by decide) (jo_var (i := 8))))) (jw_or1 (jt_ne C (jo_var (i := 8)) (JE.c2o (je_ix C (jo_var (i := 6)) (jo_var (i := 7)))))))) (jb_one (js_ret je_bl)) jb_nil))))
    (jb_one (js_ret (je_eq C (jo_var (i := 5)) (jo_var (i := 4)))))))))))))⟩
end
end K04


namespace K04
open PySem PySem.Spec PyProof.Rows L2 Py
/-! ### holds -/
def reachT (p q : Nat → Bool) : List Nat → Bool
  | [] => false
  | j :: js => if q j = true then true else if p j = false then false else reachT p q js
theorem run_reached {Phi : Nm → List D → Option Rs} {run one other : D} {p q : Nat → Bool} : ∀ (js : List Nat), (∀ j ∈ js, Phi .holds [one, run, .int j] = some (.ok (.bool (p j)))) → (∀ j ∈ js, Phi .holds [other, run, .int j] = some (.ok (.bool (q j)))) →
    runF 4 5 (f_is_reached Phi) [run, one, other, .list (js.map fun j => .int (j : Nat))] = some (.ok (.bool (reachT p q js))) := by
  intro js hp hq
  have key : ∀ (js : List Nat) (P : D) (x : Sl), (∀ j ∈ js, Phi .holds [one, run, .int j] = some (.ok (.bool (p j)))) → (∀ j ∈ js, Phi .holds [other, run, .int j] = some (.ok (.bool (q j)))) →
      fSeq (fun γ => forF (gfN 4) (fSeq (sIf (fT (fCall (Phi .holds) (fCons (fVar 2) (fCons (fVar 0) (fCons (fVar 4) fNil))))) (sRet (fCon (.bool true))) fNext)
        (sIf (gNot (fT (fCall (Phi .holds) (fCons (fVar 1) (fCons (fVar 0) (fCons (fVar 4) fNil)))))) (sRet (fCon (.bool false))) fNext)) (js.map fun j => .int (j : Nat)) γ) (sRet (fCon (.bool false))) [.va run, .va one, .va other, .va P, x] = some (.rt (.bool (reachT p q js))) := by
    intro js P
    induction js with
    | nil => intro x _ _; simp [fSeq, fNext, sRet, sRetN, sIf, sSet, sSetO, sAsg, sApp, sFor, forF, fVar, fOpd, fCon, f2, f1, fNil, fCons, bR, bL, bA, bLL, oR, fT, gAnd, gOr, gNot, gYes, fAnd, fOr, fNot, fIte, fTup, fLst, fCall, fCallO, fB, fM1, fSl, fiNo, fiSm, fLc, wLst, wTup, wStr, wRg1, wRg2, wZip, wEnum, gfN, gfTup, gsNil, gsCons, fLrg, fLrg3, wipeG, xSeq, xSet, xOf, xCall, xIf, xRet, xNext, xTup, xCons, xNil, xPut, xCallP, sRetX, List.getElem?_cons_zero, List.getElem?_cons_succ, List.set_cons_zero, List.set_cons_succ, reachT]
    | cons j js ih =>
      intro x hp hq
      have h1 := hp j List.mem_cons_self
      have h2 := hq j List.mem_cons_self
      have ih' := ih (.va (.int j)) (fun i hi => hp i (List.mem_cons_of_mem _ hi)) (fun i hi => hq i (List.mem_cons_of_mem _ hi))
      simp only [fSeq] at ih'
      cases eq : q j with
      | true => simp [fSeq, fNext, sRet, sRetN, sIf, sSet, sSetO, sAsg, sApp, sFor, forF, fVar, fOpd, fCon, f2, f1, fNil, fCons, bR, bL, bA, bLL, oR, fT, gAnd, gOr, gNot, gYes, fAnd, fOr, fNot, fIte, fTup, fLst, fCall, fCallO, fB, fM1, fSl, fiNo, fiSm, fLc, wLst, wTup, wStr, wRg1, wRg2, wZip, wEnum, gfN, gfTup, gsNil, gsCons, fLrg, fLrg3, wipeG, xSeq, xSet, xOf, xCall, xIf, xRet, xNext, xTup, xCons, xNil, xPut, xCallP, sRetX, List.getElem?_cons_zero, List.getElem?_cons_succ, List.set_cons_zero, List.set_cons_succ, reachT, h2, eq]
      | false =>
        cases ep : p j with
        | false => simp [fSeq, fNext, sRet, sRetN, sIf, sSet, sSetO, sAsg, sApp, sFor, forF, fVar, fOpd, fCon, f2, f1, fNil, fCons, bR, bL, bA, bLL, oR, fT, gAnd, gOr, gNot, gYes, fAnd, fOr, fNot, fIte, fTup, fLst, fCall, fCallO, fB, fM1, fSl, fiNo, fiSm, fLc, wLst, wTup, wStr, wRg1, wRg2, wZip, wEnum, gfN, gfTup, gsNil, gsCons, fLrg, fLrg3, wipeG, xSeq, xSet, xOf, xCall, xIf, xRet, xNext, xTup, xCons, xNil, xPut, xCallP, sRetX, List.getElem?_cons_zero, List.getElem?_cons_succ, List.set_cons_zero, List.set_cons_succ, reachT, h1, h2, eq, ep]
        | true =>
          rw [eq] at h2
          rw [ep] at h1
          simp only [List.map_cons, fSeq, forF, gfN, sIf, fT, fCall, fCons, fVar, fNil, bL, bLL, bA, List.getElem?_cons_zero, List.getElem?_cons_succ, List.set_cons_zero, List.set_cons_succ, h1, h2, fNext, gNot, Bool.not_true, reachT, eq, ep, Bool.false_eq_true, if_false, Bool.true_eq_false]
          exact ih'
  have k := key js (.list (js.map fun j => .int (j : Nat))) .no hp hq
  unfold runF f_is_reached
  simp only [entry, List.length_cons, List.length_nil, List.map_cons, List.map_nil]
  have e : fSeq (sFor (wLst (fVar 3)) (gfN 4) (fSeq (sIf (fT (fCall (Phi .holds) (fCons (fVar 2) (fCons (fVar 0) (fCons (fVar 4) fNil))))) (sRet (fCon (.bool true))) fNext)
    (sIf (gNot (fT (fCall (Phi .holds) (fCons (fVar 1) (fCons (fVar 0) (fCons (fVar 4) fNil)))))) (sRet (fCon (.bool false))) fNext))) (sRet (fCon (.bool false))) ([.va run, .va one, .va other, .va (.list (js.map fun j => .int (j : Nat)))] ++ [.no]) = some (.rt (.bool (reachT p q js))) := by
    rw [← k]
    simp only [fSeq, sFor, wLst, fVar, List.cons_append, List.nil_append, List.getElem?_cons_zero, List.getElem?_cons_succ]
  simp [List.replicate] at e ⊢
  rw [e]
/-- what a statement means at a moment, as holds finds it -/
def sem (run : List Str) : Sta → Nat → Bool
  | .mark m, i => run.getD i "" == m
  | .yes, _ => true
  | .nt s, i => !sem run s i
  | .an s t, i => sem run s i && sem run t i
  | .or s t, i => sem run s i || sem run t i
  | .nx s, i => decide (i + 1 < run.length) && sem run s (i + 1)
  | .bf s, i => decide (0 < i) && sem run s (i - 1)
  | .wi k s, i => (List.range (min run.length (i + k + 1) - i)).any fun j => sem run s (i + j)
  | .un s t, i => reachT (sem run s) (sem run t) ((List.range (run.length - i)).map fun j => i + j)
  | .si s t, i => reachT (sem run s) (sem run t) ((List.range (i + 1)).map fun j => i - j)
def runD (run : List Str) : D := .list (run.map .str)
theorem runD_at {run : List Str} {i : Nat} (h : i < run.length) : atI (run.map PyData.str) (i : Int) = some (.str (run.getD i "")) := by
  refine atI_nat ?_
  rw [List.getElem?_map, List.getElem?_eq_getElem h]
  simp [List.getD, h]
theorem rg_nat (i j : Nat) : rgD (i : Int) (j : Int) = (List.range (j - i)).map fun n => .int ((i + n : Nat) : Int) := by
  unfold rgD
  have e : ((j : Int) - (i : Int)).toNat = j - i := by omega
  rw [e]
  apply List.map_congr_left
  intro n _
  simp
theorem rgn_nat (i : Nat) : rgDn (i : Int) (-1) = ((List.range (i + 1)).map fun n => i - n).map fun n => .int ((n : Nat) : Int) := by
  unfold rgDn
  have e : ((i : Int) - (-1)).toNat = i + 1 := by omega
  rw [e, List.map_map]
  apply List.map_congr_left
  intro n hn
  have := List.mem_range.mp hn
  simp
  omega
/-- every k of a within is at most 4 -/
def ksOk : Sta → Prop
  | .mark _ => True | .yes => True
  | .nt s => ksOk s | .nx s => ksOk s | .bf s => ksOk s
  | .wi k s => k ≤ 4 ∧ ksOk s
  | .an s t => ksOk s ∧ ksOk t | .or s t => ksOk s ∧ ksOk t | .un s t => ksOk s ∧ ksOk t | .si s t => ksOk s ∧ ksOk t
theorem rgOk_nat {i j : Nat} (h : i ≤ 100000) (h2 : j ≤ 100000) : rgOk (i : Int) (j : Int) = true := by
  unfold rgOk
  simp only [Bool.and_eq_true, decide_eq_true_eq]
  omega
theorem holds_ok {run : List Str} (hr : run.length ≤ 10000) : ∀ (s : Sta) (n i : Nat), ksOk s → s.depth * 2 ≤ n → i < run.length → Phi n .holds [enc s, runD run, .int (i : Nat)] = some (.ok (.bool (sem run s i))) := by
  intro s
  induction s with
  | mark m =>
    intro n i hk hn hi
    obtain ⟨n, rfl⟩ : ∃ k, n = k + 1 := ⟨n - 1, by simp [Sta.depth] at hn; omega⟩
    rw [phi_holds]
    simp [runF, entry, f_holds, enc, fSeq, fNext, sRet, sRetN, sIf, sSet, sSetO, sAsg, sApp, sFor, forF, fVar, fOpd, fCon, f2, f1, fNil, fCons, bR, bL, bA, bLL, oR, fT, gAnd, gOr, gNot, gYes, fAnd, fOr, fNot, fIte, fTup, fLst, fCall, fCallO, fB, fM1, fSl, fiNo, fiSm, fLc, wLst, wTup, wStr, wRg1, wRg2, wZip, wEnum, gfN, gfTup, gsNil, gsCons, fLrg, fLrg3, wipeG, xSeq, xSet, xOf, xCall, xIf, xRet, xNext, xTup, xCons, xNil, xPut, xCallP, sRetX, List.getElem?_cons_zero, List.getElem?_cons_succ, List.set_cons_zero, List.set_cons_succ, sem, runD, runD_at hi]
  | yes =>
    intro n i hk hn hi
    obtain ⟨n, rfl⟩ : ∃ k, n = k + 1 := ⟨n - 1, by simp [Sta.depth] at hn; omega⟩
    rw [phi_holds]
    simp [runF, entry, f_holds, enc, fSeq, fNext, sRet, sRetN, sIf, sSet, sSetO, sAsg, sApp, sFor, forF, fVar, fOpd, fCon, f2, f1, fNil, fCons, bR, bL, bA, bLL, oR, fT, gAnd, gOr, gNot, gYes, fAnd, fOr, fNot, fIte, fTup, fLst, fCall, fCallO, fB, fM1, fSl, fiNo, fiSm, fLc, wLst, wTup, wStr, wRg1, wRg2, wZip, wEnum, gfN, gfTup, gsNil, gsCons, fLrg, fLrg3, wipeG, xSeq, xSet, xOf, xCall, xIf, xRet, xNext, xTup, xCons, xNil, xPut, xCallP, sRetX, List.getElem?_cons_zero, List.getElem?_cons_succ, List.set_cons_zero, List.set_cons_succ, sem]
  | nt s ih =>
    intro n i hk hn hi
    obtain ⟨n, rfl⟩ : ∃ k, n = k + 1 := ⟨n - 1, by simp [Sta.depth] at hn; omega⟩
    have h1 := ih n i hk (by simp [Sta.depth] at hn; omega) hi
    rw [phi_holds]
    simp [runF, entry, f_holds, enc, fSeq, fNext, sRet, sRetN, sIf, sSet, sSetO, sAsg, sApp, sFor, forF, fVar, fOpd, fCon, f2, f1, fNil, fCons, bR, bL, bA, bLL, oR, fT, gAnd, gOr, gNot, gYes, fAnd, fOr, fNot, fIte, fTup, fLst, fCall, fCallO, fB, fM1, fSl, fiNo, fiSm, fLc, wLst, wTup, wStr, wRg1, wRg2, wZip, wEnum, gfN, gfTup, gsNil, gsCons, fLrg, fLrg3, wipeG, xSeq, xSet, xOf, xCall, xIf, xRet, xNext, xTup, xCons, xNil, xPut, xCallP, sRetX, List.getElem?_cons_zero, List.getElem?_cons_succ, List.set_cons_zero, List.set_cons_succ, sem, h1]
  | an s t ih ih' =>
    intro n i hk hn hi
    obtain ⟨n, rfl⟩ : ∃ k, n = k + 1 := ⟨n - 1, by simp [Sta.depth] at hn; omega⟩
    have h1 := ih n i hk.1 (by simp [Sta.depth] at hn; omega) hi
    have h2 := ih' n i hk.2 (by simp [Sta.depth] at hn; omega) hi
    rw [phi_holds]
    cases e : sem run s i <;> simp [runF, entry, f_holds, enc, fSeq, fNext, sRet, sRetN, sIf, sSet, sSetO, sAsg, sApp, sFor, forF, fVar, fOpd, fCon, f2, f1, fNil, fCons, bR, bL, bA, bLL, oR, fT, gAnd, gOr, gNot, gYes, fAnd, fOr, fNot, fIte, fTup, fLst, fCall, fCallO, fB, fM1, fSl, fiNo, fiSm, fLc, wLst, wTup, wStr, wRg1, wRg2, wZip, wEnum, gfN, gfTup, gsNil, gsCons, fLrg, fLrg3, wipeG, xSeq, xSet, xOf, xCall, xIf, xRet, xNext, xTup, xCons, xNil, xPut, xCallP, sRetX, List.getElem?_cons_zero, List.getElem?_cons_succ, List.set_cons_zero, List.set_cons_succ, sem, h1, h2, e]
  | or s t ih ih' =>
    intro n i hk hn hi
    obtain ⟨n, rfl⟩ : ∃ k, n = k + 1 := ⟨n - 1, by simp [Sta.depth] at hn; omega⟩
    have h1 := ih n i hk.1 (by simp [Sta.depth] at hn; omega) hi
    have h2 := ih' n i hk.2 (by simp [Sta.depth] at hn; omega) hi
    rw [phi_holds]
    cases e : sem run s i <;> simp [runF, entry, f_holds, enc, fSeq, fNext, sRet, sRetN, sIf, sSet, sSetO, sAsg, sApp, sFor, forF, fVar, fOpd, fCon, f2, f1, fNil, fCons, bR, bL, bA, bLL, oR, fT, gAnd, gOr, gNot, gYes, fAnd, fOr, fNot, fIte, fTup, fLst, fCall, fCallO, fB, fM1, fSl, fiNo, fiSm, fLc, wLst, wTup, wStr, wRg1, wRg2, wZip, wEnum, gfN, gfTup, gsNil, gsCons, fLrg, fLrg3, wipeG, xSeq, xSet, xOf, xCall, xIf, xRet, xNext, xTup, xCons, xNil, xPut, xCallP, sRetX, List.getElem?_cons_zero, List.getElem?_cons_succ, List.set_cons_zero, List.set_cons_succ, sem, h1, h2, e]
  | nx s ih =>
    intro n i hk hn hi
    obtain ⟨n, rfl⟩ : ∃ k, n = k + 1 := ⟨n - 1, by simp [Sta.depth] at hn; omega⟩
    rw [phi_holds]
    by_cases h : i + 1 < run.length
    · have h1 := ih n (i + 1) hk (by simp [Sta.depth] at hn; omega) h
      have h1' : Phi n .holds [enc s, .list (run.map .str), .int ((i : Int) + 1)] = some (.ok (.bool (sem run s (i + 1)))) := h1
      have e3 : ((i : Int) + 1 < (run.length : Int)) := by omega
      simp [runF, entry, f_holds, enc, fSeq, fNext, sRet, sRetN, sIf, sSet, sSetO, sAsg, sApp, sFor, forF, fVar, fOpd, fCon, f2, f1, fNil, fCons, bR, bL, bA, bLL, oR, fT, gAnd, gOr, gNot, gYes, fAnd, fOr, fNot, fIte, fTup, fLst, fCall, fCallO, fB, fM1, fSl, fiNo, fiSm, fLc, wLst, wTup, wStr, wRg1, wRg2, wZip, wEnum, gfN, gfTup, gsNil, gsCons, fLrg, fLrg3, wipeG, xSeq, xSet, xOf, xCall, xIf, xRet, xNext, xTup, xCons, xNil, xPut, xCallP, sRetX, List.getElem?_cons_zero, List.getElem?_cons_succ, List.set_cons_zero, List.set_cons_succ, sem, runD, e3, h, h1']
    · have e2 : ¬ ((i : Int) + 1 < (run.length : Int)) := by omega
      simp [runF, entry, f_holds, enc, fSeq, fNext, sRet, sRetN, sIf, sSet, sSetO, sAsg, sApp, sFor, forF, fVar, fOpd, fCon, f2, f1, fNil, fCons, bR, bL, bA, bLL, oR, fT, gAnd, gOr, gNot, gYes, fAnd, fOr, fNot, fIte, fTup, fLst, fCall, fCallO, fB, fM1, fSl, fiNo, fiSm, fLc, wLst, wTup, wStr, wRg1, wRg2, wZip, wEnum, gfN, gfTup, gsNil, gsCons, fLrg, fLrg3, wipeG, xSeq, xSet, xOf, xCall, xIf, xRet, xNext, xTup, xCons, xNil, xPut, xCallP, sRetX, List.getElem?_cons_zero, List.getElem?_cons_succ, List.set_cons_zero, List.set_cons_succ, sem, runD, e2, h]
  | bf s ih =>
    intro n i hk hn hi
    obtain ⟨n, rfl⟩ : ∃ k, n = k + 1 := ⟨n - 1, by simp [Sta.depth] at hn; omega⟩
    rw [phi_holds]
    by_cases h : 0 < i
    · have h1 := ih n (i - 1) hk (by simp [Sta.depth] at hn; omega) (by omega)
      have e : (((i - 1 : Nat) : Int)) = (i : Int) - 1 := by omega
      rw [e] at h1
      simp only [runD] at h1
      simp [runF, entry, f_holds, enc, fSeq, fNext, sRet, sRetN, sIf, sSet, sSetO, sAsg, sApp, sFor, forF, fVar, fOpd, fCon, f2, f1, fNil, fCons, bR, bL, bA, bLL, oR, fT, gAnd, gOr, gNot, gYes, fAnd, fOr, fNot, fIte, fTup, fLst, fCall, fCallO, fB, fM1, fSl, fiNo, fiSm, fLc, wLst, wTup, wStr, wRg1, wRg2, wZip, wEnum, gfN, gfTup, gsNil, gsCons, fLrg, fLrg3, wipeG, xSeq, xSet, xOf, xCall, xIf, xRet, xNext, xTup, xCons, xNil, xPut, xCallP, sRetX, List.getElem?_cons_zero, List.getElem?_cons_succ, List.set_cons_zero, List.set_cons_succ, sem, runD, h, h1]
    · simp [runF, entry, f_holds, enc, fSeq, fNext, sRet, sRetN, sIf, sSet, sSetO, sAsg, sApp, sFor, forF, fVar, fOpd, fCon, f2, f1, fNil, fCons, bR, bL, bA, bLL, oR, fT, gAnd, gOr, gNot, gYes, fAnd, fOr, fNot, fIte, fTup, fLst, fCall, fCallO, fB, fM1, fSl, fiNo, fiSm, fLc, wLst, wTup, wStr, wRg1, wRg2, wZip, wEnum, gfN, gfTup, gsNil, gsCons, fLrg, fLrg3, wipeG, xSeq, xSet, xOf, xCall, xIf, xRet, xNext, xTup, xCons, xNil, xPut, xCallP, sRetX, List.getElem?_cons_zero, List.getElem?_cons_succ, List.set_cons_zero, List.set_cons_succ, sem, runD, h]
  | wi k s ih =>
    intro n i hk hn hi
    obtain ⟨n, rfl⟩ : ∃ k, n = k + 1 := ⟨n - 1, by simp [Sta.depth] at hn; omega⟩
    rw [phi_holds]
    have hk4 := hk.1
    have e1 : (if (i : Int) + (k : Int) + 1 < (run.length : Int) then (i : Int) + (k : Int) + 1 else (run.length : Int)) = ((min run.length (i + k + 1) : Nat) : Int) := by
      split <;> omega
    have lc : lcF (gfN 4) gYes (fCall (Phi n .holds) (fCons (f2 oIx (fOpd 0) (fCon (.int 2))) (fCons (fVar 1) (fCons (fVar 4) fNil)))) [.va (enc (.wi k s)), .va (runD run), .va (.int i), .va (.str "within"), .no]
        ((List.range (min run.length (i + k + 1) - i)).map fun j => .int ((i + j : Nat) : Int)) = some ((List.range (min run.length (i + k + 1) - i)).map fun j => .bool (sem run s (i + j))) := by
      refine lcF_map (fun j : Nat => .int ((i + j : Nat) : Int)) (fun j => .bool (sem run s (i + j))) _ fun j hj => ?_
      have hj := List.mem_range.mp hj
      have h1 := ih n (i + j) hk.2 (by simp [Sta.depth] at hn; omega) (by omega)
      exact ⟨_, rfl, rfl, by simp [fSeq, fNext, sRet, sRetN, sIf, sSet, sSetO, sAsg, sApp, sFor, forF, fVar, fOpd, fCon, f2, f1, fNil, fCons, bR, bL, bA, bLL, oR, fT, gAnd, gOr, gNot, gYes, fAnd, fOr, fNot, fIte, fTup, fLst, fCall, fCallO, fB, fM1, fSl, fiNo, fiSm, fLc, wLst, wTup, wStr, wRg1, wRg2, wZip, wEnum, gfN, gfTup, gsNil, gsCons, fLrg, fLrg3, wipeG, xSeq, xSet, xOf, xCall, xIf, xRet, xNext, xTup, xCons, xNil, xPut, xCallP, sRetX, List.getElem?_cons_zero, List.getElem?_cons_succ, List.set_cons_zero, List.set_cons_succ, enc]; simpa using h1⟩
    have lc' : lcF (gfN 4) gYes (fCall (Phi n .holds) (fCons (f2 oIx (fOpd 0) (fCon (.int 2))) (fCons (fVar 1) (fCons (fVar 4) fNil)))) [.va (enc (.wi k s)), .va (runD run), .va (.int i), .va (.str "within"), .no]
        (rgD (i : Int) ((min run.length (i + k + 1) : Nat) : Int)) = some ((List.range (min run.length (i + k + 1) - i)).map fun j => .bool (sem run s (i + j))) := by
      rw [rg_nat]; exact lc
    have rg := rgOk_nat (i := i) (j := min run.length (i + k + 1)) (by omega) (by omega)
    have len : (rgD (i : Int) ((min run.length (i + k + 1) : Nat) : Int)).length ≤ big := by
      rw [rgD_len]; unfold big; omega
    simp only [enc, runD] at lc'
    have any : oAny [.list ((List.range (min run.length (i + k + 1) - i)).map fun j => PyData.bool (sem run s (i + j)))] = some (.bool (sem run (.wi k s) i)) := by
      have e : ((List.range (min run.length (i + k + 1) - i)).map fun j => PyData.bool (sem run s (i + j))) = ((List.range (min run.length (i + k + 1) - i)).map fun j => sem run s (i + j)).map .bool := by rw [List.map_map]; rfl
      rw [e, oAny_bools, List.any_map]
      rfl
    simp only [runF, entry, f_holds, enc, runD, fSeq, fNext, sRet, sIf, sSet, fVar, fOpd, fCon, f2, fNil, fCons, bR_ok, bL_ok, bA_ok, bLL_ok, oR_some, fT, fB, wRg2, fLc, wipeG, oIx_tup, atI_0, atI_1, atI_2, oEq_str, w_within_mark, w_within_yes, w_within_not, w_within_and, w_within_or, w_within_next, w_within_before, beq_self_eq_true, List.getElem?_cons_zero, List.getElem?_cons_succ, List.set_cons_zero, List.set_cons_succ, List.map_cons, List.map_nil, List.cons_append, List.nil_append, List.length_cons, List.length_nil, List.length_map, oLen_list, oMin2_int, oAdd_int, e1, rg, len, lc', any, if_true, if_pos, List.replicate]
  | un s t ih ih' =>
    intro n i hk hn hi
    obtain ⟨n, rfl⟩ : ∃ k, n = k + 2 := ⟨n - 2, by have := Sta.depth_pos s; simp [Sta.depth] at hn; omega⟩
    have rr := run_reached (Phi := Phi n) (run := runD run) (one := enc s) (other := enc t) (p := sem run s) (q := sem run t) ((List.range (run.length - i)).map fun j => i + j)
      (fun j hj => ih n j hk.1 (by simp [Sta.depth] at hn; omega) (by obtain ⟨a, ha, rfl⟩ := List.mem_map.mp hj; have := List.mem_range.mp ha; omega))
      (fun j hj => ih' n j hk.2 (by simp [Sta.depth] at hn; omega) (by obtain ⟨a, ha, rfl⟩ := List.mem_map.mp hj; have := List.mem_range.mp ha; omega))
    rw [List.map_map] at rr
    have e : rgD (i : Int) (run.length : Int) = (List.range (run.length - i)).map ((fun j => PyData.int ((j : Nat) : Int)) ∘ fun j => i + j) := rg_nat i run.length
    rw [← e, ← phi_is_reached n] at rr
    have rg := rgOk_nat (i := i) (j := run.length) (by omega) (by omega)
    rw [phi_holds]
    simp only [runD] at rr
    simp [runF, entry, f_holds, enc, fSeq, fNext, sRet, sRetN, sIf, sSet, sSetO, sAsg, sApp, sFor, forF, fVar, fOpd, fCon, f2, f1, fNil, fCons, bR, bL, bA, bLL, oR, fT, gAnd, gOr, gNot, gYes, fAnd, fOr, fNot, fIte, fTup, fLst, fCall, fCallO, fB, fM1, fSl, fiNo, fiSm, fLc, wLst, wTup, wStr, wRg1, wRg2, wZip, wEnum, gfN, gfTup, gsNil, gsCons, fLrg, fLrg3, wipeG, xSeq, xSet, xOf, xCall, xIf, xRet, xNext, xTup, xCons, xNil, xPut, xCallP, sRetX, List.getElem?_cons_zero, List.getElem?_cons_succ, List.set_cons_zero, List.set_cons_succ, runD, rg, rr, sem]
  | si s t ih ih' =>
    intro n i hk hn hi
    obtain ⟨n, rfl⟩ : ∃ k, n = k + 2 := ⟨n - 2, by have := Sta.depth_pos s; simp [Sta.depth] at hn; omega⟩
    have rr := run_reached (Phi := Phi n) (run := runD run) (one := enc s) (other := enc t) (p := sem run s) (q := sem run t) ((List.range (i + 1)).map fun j => i - j)
      (fun j hj => ih n j hk.1 (by simp [Sta.depth] at hn; omega) (by obtain ⟨a, ha, rfl⟩ := List.mem_map.mp hj; have := List.mem_range.mp ha; omega))
      (fun j hj => ih' n j hk.2 (by simp [Sta.depth] at hn; omega) (by obtain ⟨a, ha, rfl⟩ := List.mem_map.mp hj; have := List.mem_range.mp ha; omega))
    rw [← rgn_nat, ← phi_is_reached n] at rr
    have rg : rgOk (i : Int) (-1) = true := by
      unfold rgOk
      simp only [Bool.and_eq_true, decide_eq_true_eq]
      omega
    rw [phi_holds]
    simp only [runD] at rr
    simp [runF, entry, f_holds, enc, fSeq, fNext, sRet, sRetN, sIf, sSet, sSetO, sAsg, sApp, sFor, forF, fVar, fOpd, fCon, f2, f1, fNil, fCons, bR, bL, bA, bLL, oR, fT, gAnd, gOr, gNot, gYes, fAnd, fOr, fNot, fIte, fTup, fLst, fCall, fCallO, fB, fM1, fSl, fiNo, fiSm, fLc, wLst, wTup, wStr, wRg1, wRg2, wZip, wEnum, gfN, gfTup, gsNil, gsCons, fLrg, fLrg3, wipeG, xSeq, xSet, xOf, xCall, xIf, xRet, xNext, xTup, xCons, xNil, xPut, xCallP, sRetX, List.getElem?_cons_zero, List.getElem?_cons_succ, List.set_cons_zero, List.set_cons_succ, runD, rg, rr, sem]
end K04

namespace K04
open PySem PySem.Spec PyProof.Rows L2 Py
/-! ### the law's own rows -/
def untilT : List Bool → List Bool → Bool → List Bool
  | p :: ps, q :: qs, a => (q || (p && a)) :: untilT ps qs (q || (p && a))
  | _, _, _ => []
def boolD (b : Bool) : D := .bool b
theorem untilT_len : ∀ (ps qs : List Bool) (a : Bool), ps.length = qs.length → (untilT ps qs a).length = ps.length
  | [], [], _, _ => rfl
  | p :: ps, q :: qs, a, h => by simp [untilT, untilT_len ps qs _ (by simpa using h)]
theorem zipD (ps qs : List Bool) : ((ps.map PyData.bool).zip (qs.map PyData.bool)).map (fun p => PyData.tuple [p.1, p.2]) = (ps.zip qs).map fun p => .tuple [.bool p.1, .bool p.2] := by
  rw [List.zip_map, List.map_map]
  rfl
theorem run_until {Phi : Nm → List D → Option Rs} (ps qs : List Bool) (hl : ps.length = qs.length) (hz : ps.length ≤ 100000) :
    runF 2 6 (f_l_until Phi) [.list (ps.map .bool), .list (qs.map .bool)] = some (.ok (.list ((untilT ps qs false).map .bool))) := by
  have key : ∀ (ps qs acc : List Bool) (a : Bool) (P Q x y : Sl), ps.length = qs.length → acc.length + ps.length ≤ 200000 →
      fSeq (fun γ => forF (gfTup (gsCons (gfN 4) (gsCons (gfN 5) gsNil))) (fSeq (sSet 3 (fOr (fVar 5) (fAnd (fVar 4) (fVar 3)))) (sApp 2 (fVar 3))) ((ps.zip qs).map fun p => .tuple [.bool p.1, .bool p.2]) γ) (sRet (fOpd 2))
        [P, Q, .ow (acc.map .bool), .va (.bool a), x, y] = some (.rt (.list ((acc ++ untilT ps qs a).map .bool))) := by
    intro ps
    induction ps with
    | nil =>
      intro qs acc a P Q x y hl hz
      cases qs with
      | nil => simp [fSeq, fNext, sRet, sRetN, sIf, sSet, sSetO, sAsg, sApp, sFor, forF, fVar, fOpd, fCon, f2, f1, fNil, fCons, bR, bL, bA, bLL, oR, fT, gAnd, gOr, gNot, gYes, fAnd, fOr, fNot, fIte, fTup, fLst, fCall, fCallO, fB, fM1, fSl, fiNo, fiSm, fLc, wLst, wTup, wStr, wRg1, wRg2, wZip, wEnum, gfN, gfTup, gsNil, gsCons, fLrg, fLrg3, wipeG, xSeq, xSet, xOf, xCall, xIf, xRet, xNext, xTup, xCons, xNil, xPut, xCallP, sRetX, List.getElem?_cons_zero, List.getElem?_cons_succ, List.set_cons_zero, List.set_cons_succ, untilT]
      | cons _ _ => simp at hl
    | cons p ps ih =>
      intro qs acc a P Q x y hl hz
      cases qs with
      | nil => simp at hl
      | cons q qs =>
        have ih' := ih qs (acc ++ [q || (p && a)]) (q || (p && a)) P Q (.va (.bool p)) (.va (.bool q)) (by simpa using hl) (by simp at hz ⊢; omega)
        have hb : acc.length ≤ big := by simp at hz; unfold big; omega
        simp only [fSeq] at ih'
        cases q <;> cases p <;> simp [fSeq, fNext, sRet, sRetN, sIf, sSet, sSetO, sAsg, sApp, sFor, forF, fVar, fOpd, fCon, f2, f1, fNil, fCons, bR, bL, bA, bLL, oR, fT, gAnd, gOr, gNot, gYes, fAnd, fOr, fNot, fIte, fTup, fLst, fCall, fCallO, fB, fM1, fSl, fiNo, fiSm, fLc, wLst, wTup, wStr, wRg1, wRg2, wZip, wEnum, gfN, gfTup, gsNil, gsCons, fLrg, fLrg3, wipeG, xSeq, xSet, xOf, xCall, xIf, xRet, xNext, xTup, xCons, xNil, xPut, xCallP, sRetX, List.getElem?_cons_zero, List.getElem?_cons_succ, List.set_cons_zero, List.set_cons_succ, untilT, hb] at ih' ⊢ <;> exact ih'
  have k := key ps qs [] false (.va (.list (ps.map .bool))) (.va (.list (qs.map .bool))) .no .no hl (by simp; omega)
  simp only [fSeq] at k
  unfold runF f_l_until
  simp [entry, fSeq, sSetO, fLst, fNil, bA_ok, sSet, fCon, sFor, wZip, fCons, fVar, big, zipD, List.replicate] at k ⊢
  rw [k]
def winT (row : List Bool) (n k : Nat) : List Bool := (List.range n).map fun i => ((row.drop i).take (k + 1)).any id
def meansT (run : List Str) : Sta → List Bool
  | .mark m => run.map (· == m)
  | .yes => run.map fun _ => true
  | .nt s => (meansT run s).map (!·)
  | .an s t => ((meansT run s).zip (meansT run t)).map fun p => p.1 && p.2
  | .or s t => ((meansT run s).zip (meansT run t)).map fun p => p.1 || p.2
  | .nx s => (meansT run s ++ [false]).drop 1
  | .bf s => ([false] ++ meansT run s).take run.length
  | .wi k s => winT (meansT run s) run.length k
  | .si s t => untilT (meansT run s) (meansT run t) false
  | .un s t => (untilT (meansT run s).reverse (meansT run t).reverse false).reverse
theorem meansT_len (run : List Str) : ∀ s : Sta, (meansT run s).length = run.length
  | .mark m => by simp [meansT]
  | .yes => by simp [meansT]
  | .nt s => by simp [meansT, meansT_len run s]
  | .an s t => by simp [meansT, meansT_len run s, meansT_len run t]
  | .or s t => by simp [meansT, meansT_len run s, meansT_len run t]
  | .nx s => by simp [meansT, meansT_len run s]
  | .bf s => by simp [meansT, meansT_len run s]
  | .wi k s => by simp [meansT, winT]
  | .si s t => by
    have h := untilT_len (meansT run s) (meansT run t) false (by rw [meansT_len run s, meansT_len run t])
    rw [meansT_len run s] at h
    exact h
  | .un s t => by simp [meansT, untilT_len _ _ false (show (meansT run s).reverse.length = (meansT run t).reverse.length by simp [meansT_len run s, meansT_len run t]), meansT_len run s]
def rowD (r : List Bool) : D := .list (r.map .bool)
theorem cut_from (ds : List D) (n : Nat) (h : n ≤ ds.length) : Py.cutD ds (some (n : Int)) none = ds.drop n := by
  unfold Py.cutD
  rw [HT.sIx_nat, HT.sIx_none, Nat.min_eq_left h]
  exact List.take_of_length_le (by simp)
theorem cut_to (ds : List D) (n : Nat) : Py.cutD ds none (some (n : Int)) = ds.take n := by
  unfold Py.cutD
  rw [HT.sIx_nat, HT.sIx_none, List.drop_zero, Nat.sub_zero]
  by_cases h : n ≤ ds.length
  · rw [Nat.min_eq_left h]
  · rw [Nat.min_eq_right (by omega), List.take_of_length_le (Nat.le_refl _), List.take_of_length_le (by omega)]
theorem cut_mid (ds : List D) (i j : Nat) (h : i ≤ ds.length) (h2 : i ≤ j) : Py.cutD ds (some (i : Int)) (some (j : Int)) = (ds.drop i).take (j - i) := by
  unfold Py.cutD
  rw [HT.sIx_nat, HT.sIx_nat, Nat.min_eq_left h]
  by_cases h3 : j ≤ ds.length
  · rw [Nat.min_eq_left h3]
  · rw [Nat.min_eq_right (by omega), List.take_of_length_le (by simp), List.take_of_length_le (by simp; omega)]
theorem tail_tup (a b : D) (r : List D) : oSl (some 1) none (.tuple (a :: b :: r)) = some (.tuple (b :: r)) := by
  have h1 : HT.sIx (a :: b :: r).length 0 (some (1 : Int)) = 1 := by
    have := HT.sIx_nat (a :: b :: r).length 0 1
    simp at this
    simpa using this
  have h2 := cut_from (a :: b :: r) 1 (by simp)
  unfold oSl
  simp only [h1, HT.sIx_none]
  simp
  exact h2
theorem tail_one (a : D) : oSl (some 1) none (.tuple [a]) = some (.tuple []) := by
  have h1 : HT.sIx ([a] : List D).length 0 (some (1 : Int)) = 1 := by
    have := HT.sIx_nat ([a] : List D).length 0 1
    simpa using this
  have h2 := cut_from [a] 1 (by simp)
  unfold oSl
  simp only [h1, HT.sIx_none]
  simp
  exact h2
theorem isi_str (x : Str) : oIsi "tuple" (.str x) = some (.bool false) := by simp [oIsi, isT, tyN]
theorem isi_int (x : Int) : oIsi "tuple" (.int x) = some (.bool false) := by simp [oIsi, isT, tyN]
theorem isi_tup (x : List D) : oIsi "tuple" (.tuple x) = some (.bool true) := by simp [oIsi, isT, tyN]
theorem isi_enc (s : Sta) : oIsi "tuple" (enc s) = some (.bool true) := by
  obtain ⟨r, e⟩ := enc_word s
  rw [e]; exact isi_tup _
/-- the rows of the parts -/
theorem rows1 {Phi : Nm → List D → Option Rs} {R : D} {s : Sta} {row : List Bool} {P x y z u v w : Sl} {pre : List D} (hp : pre = [] ∨ ∃ k : Int, pre = [.int k]) (h : Phi .l_means [enc s, R] = some (.ok (rowD row))) :
    lcF (gfN 4) (fT (f1 (oIsi "tuple") (fOpd 4))) (fCall (Phi .l_means) (fCons (fVar 4) (fCons (fVar 1) fNil))) [P, .va R, x, y, .no, z, u, v, w] (pre ++ [enc s]) = some [rowD row] := by
  rcases hp with rfl | ⟨k, rfl⟩ <;> simp [lcF, fSeq, fNext, sRet, sRetN, sIf, sSet, sSetO, sAsg, sApp, sFor, forF, fVar, fOpd, fCon, f2, f1, fNil, fCons, bR, bL, bA, bLL, oR, fT, gAnd, gOr, gNot, gYes, fAnd, fOr, fNot, fIte, fTup, fLst, fCall, fCallO, fB, fM1, fSl, fiNo, fiSm, fLc, wLst, wTup, wStr, wRg1, wRg2, wZip, wEnum, gfN, gfTup, gsNil, gsCons, fLrg, fLrg3, wipeG, xSeq, xSet, xOf, xCall, xIf, xRet, xNext, xTup, xCons, xNil, xPut, xCallP, sRetX, List.getElem?_cons_zero, List.getElem?_cons_succ, List.set_cons_zero, List.set_cons_succ, isi_enc, isi_int, h]
theorem rows2 {Phi : Nm → List D → Option Rs} {R : D} {s t : Sta} {row row2 : List Bool} {P x y z u v w : Sl} (h : Phi .l_means [enc s, R] = some (.ok (rowD row))) (h2 : Phi .l_means [enc t, R] = some (.ok (rowD row2))) :
    lcF (gfN 4) (fT (f1 (oIsi "tuple") (fOpd 4))) (fCall (Phi .l_means) (fCons (fVar 4) (fCons (fVar 1) fNil))) [P, .va R, x, y, .no, z, u, v, w] [enc s, enc t] = some [rowD row, rowD row2] := by
  simp [lcF, fSeq, fNext, sRet, sRetN, sIf, sSet, sSetO, sAsg, sApp, sFor, forF, fVar, fOpd, fCon, f2, f1, fNil, fCons, bR, bL, bA, bLL, oR, fT, gAnd, gOr, gNot, gYes, fAnd, fOr, fNot, fIte, fTup, fLst, fCall, fCallO, fB, fM1, fSl, fiNo, fiSm, fLc, wLst, wTup, wStr, wRg1, wRg2, wZip, wEnum, gfN, gfTup, gsNil, gsCons, fLrg, fLrg3, wipeG, xSeq, xSet, xOf, xCall, xIf, xRet, xNext, xTup, xCons, xNil, xPut, xCallP, sRetX, List.getElem?_cons_zero, List.getElem?_cons_succ, List.set_cons_zero, List.set_cons_succ, isi_enc, h, h2]
theorem in_bools (bs : List Bool) : oIn false (.bool true) (.list (bs.map .bool)) = some (.bool (bs.any id)) := by
  have h1 : PyData.canLayAll0 (bs.map PyData.bool) = true := by
    induction bs with
    | nil => simp [PyData.canLayAll0]
    | cons b r ih => simp [PyData.canLayAll0, PyData.canLay0, ih]
  have h2 : PyData.depthAll (bs.map PyData.bool) = 0 := by
    induction bs with
    | nil => simp [PyData.depthAll]
    | cons b r ih => simp [PyData.depthAll, PyData.depth, ih (by simpa [PyData.canLayAll0, PyData.canLay0] using h1)]
  have h3 : SeqAt.shaped (.list (bs.map PyData.bool)) = true := by
    show ((PyData.list (bs.map .bool)).canLay0 && decide ((PyData.list (bs.map .bool)).depth ≤ 64)) = true
    simp [PyData.canLay0, PyData.depth, h1, h2]
  have h4 : SeqAt.shaped (.bool true) = true := by decide +kernel
  have h5 : ((bs.map PyData.bool).any fun z => PyData.eqv z (.bool true)) = bs.any id := by
    rw [List.any_map]
    congr 1
    funext b
    cases b <;> simp [PyData.eqv]
  show (if SeqAt.shaped (.bool true) = true ∧ SeqAt.shaped (.list (bs.map PyData.bool)) = true then some (PyData.bool (if false = true then !((bs.map PyData.bool).any fun z => PyData.eqv z (.bool true)) else (bs.map PyData.bool).any fun z => PyData.eqv z (.bool true))) else none) = _
  rw [if_pos ⟨h4, h3⟩, h5]
  simp

theorem run_means {run : List Str} (hr : run.length ≤ 10000) : ∀ (s : Sta) (n : Nat), ksOk s → s.depth + 1 ≤ n → Phi n .l_means [enc s, runD run] = some (.ok (rowD (meansT run s))) := by
  intro s
  have lr : (runD run) = .list (run.map .str) := rfl
  have lb : run.length ≤ big := by unfold big; omega
  have lb1 : run.length + 1 ≤ big := by unfold big; omega
  have lb2 : 1 + run.length ≤ big := by unfold big; omega
  induction s with
  | mark m =>
    intro n hk hn
    obtain ⟨n, rfl⟩ : ∃ k, n = k + 1 := ⟨n - 1, by simp [Sta.depth] at hn; omega⟩
    rw [phi_l_means]
    have lc : lcF (gfN 5) gYes (f2 oEq (fOpd 5) (f2 oIx (fOpd 0) (fCon (.int 1)))) [.va (.tuple [.str "mark", .str m]), .va (.list (run.map .str)), .va (.str "mark"), .no, .no, .no, .no, .no, .no] (run.map .str) = some (run.map fun x => .bool (x == m)) :=
      lcF_map (fun x => .str x) (fun x => .bool (x == m)) run fun x _ => ⟨_, rfl, rfl, by simp [fSeq, fNext, sRet, sRetN, sIf, sSet, sSetO, sAsg, sApp, sFor, forF, fVar, fOpd, fCon, f2, f1, fNil, fCons, bR, bL, bA, bLL, oR, fT, gAnd, gOr, gNot, gYes, fAnd, fOr, fNot, fIte, fTup, fLst, fCall, fCallO, fB, fM1, fSl, fiNo, fiSm, fLc, wLst, wTup, wStr, wRg1, wRg2, wZip, wEnum, gfN, gfTup, gsNil, gsCons, fLrg, fLrg3, wipeG, xSeq, xSet, xOf, xCall, xIf, xRet, xNext, xTup, xCons, xNil, xPut, xCallP, sRetX, List.getElem?_cons_zero, List.getElem?_cons_succ, List.set_cons_zero, List.set_cons_succ]⟩
    simp [runF, entry, f_l_means, enc, fSeq, fNext, sRet, sRetN, sIf, sSet, sSetO, sAsg, sApp, sFor, forF, fVar, fOpd, fCon, f2, f1, fNil, fCons, bR, bL, bA, bLL, oR, fT, gAnd, gOr, gNot, gYes, fAnd, fOr, fNot, fIte, fTup, fLst, fCall, fCallO, fB, fM1, fSl, fiNo, fiSm, fLc, wLst, wTup, wStr, wRg1, wRg2, wZip, wEnum, gfN, gfTup, gsNil, gsCons, fLrg, fLrg3, wipeG, xSeq, xSet, xOf, xCall, xIf, xRet, xNext, xTup, xCons, xNil, xPut, xCallP, sRetX, List.getElem?_cons_zero, List.getElem?_cons_succ, List.set_cons_zero, List.set_cons_succ, runD, rowD, meansT, lc, lb]
  | yes =>
    intro n hk hn
    obtain ⟨n, rfl⟩ : ∃ k, n = k + 1 := ⟨n - 1, by simp [Sta.depth] at hn; omega⟩
    rw [phi_l_means]
    have lc : lcF (gfN 5) gYes (fCon (.bool true)) [.va (.tuple [.str "yes"]), .va (.list (run.map .str)), .va (.str "yes"), .no, .no, .no, .no, .no, .no] (run.map .str) = some (run.map fun x => .bool true) :=
      lcF_map (fun x => .str x) (fun x => .bool true) run fun x _ => ⟨_, rfl, rfl, by simp [fSeq, fNext, sRet, sRetN, sIf, sSet, sSetO, sAsg, sApp, sFor, forF, fVar, fOpd, fCon, f2, f1, fNil, fCons, bR, bL, bA, bLL, oR, fT, gAnd, gOr, gNot, gYes, fAnd, fOr, fNot, fIte, fTup, fLst, fCall, fCallO, fB, fM1, fSl, fiNo, fiSm, fLc, wLst, wTup, wStr, wRg1, wRg2, wZip, wEnum, gfN, gfTup, gsNil, gsCons, fLrg, fLrg3, wipeG, xSeq, xSet, xOf, xCall, xIf, xRet, xNext, xTup, xCons, xNil, xPut, xCallP, sRetX, List.getElem?_cons_zero, List.getElem?_cons_succ, List.set_cons_zero, List.set_cons_succ]⟩
    simp [runF, entry, f_l_means, enc, fSeq, fNext, sRet, sRetN, sIf, sSet, sSetO, sAsg, sApp, sFor, forF, fVar, fOpd, fCon, f2, f1, fNil, fCons, bR, bL, bA, bLL, oR, fT, gAnd, gOr, gNot, gYes, fAnd, fOr, fNot, fIte, fTup, fLst, fCall, fCallO, fB, fM1, fSl, fiNo, fiSm, fLc, wLst, wTup, wStr, wRg1, wRg2, wZip, wEnum, gfN, gfTup, gsNil, gsCons, fLrg, fLrg3, wipeG, xSeq, xSet, xOf, xCall, xIf, xRet, xNext, xTup, xCons, xNil, xPut, xCallP, sRetX, List.getElem?_cons_zero, List.getElem?_cons_succ, List.set_cons_zero, List.set_cons_succ, runD, rowD, meansT, lc, lb]
  | nt s ih =>
    intro n hk hn
    obtain ⟨n, rfl⟩ : ∃ k, n = k + 1 := ⟨n - 1, by simp [Sta.depth] at hn; omega⟩
    have h1 := ih n hk (by simp [Sta.depth] at hn; omega)
    have rows := rows1 (P := .va (enc (.nt s))) (x := .va (.str "not")) (y := .no) (z := .no) (u := .no) (v := .no) (w := .no) (pre := []) (.inl rfl) h1
    rw [phi_l_means]
    have lc : ∀ (a b c d e f g h : Sl), lcF (gfN 6) gYes (fNot (fVar 6)) [a, b, c, d, e, f, g, h] ((meansT run s).map .bool) = some ((meansT run s).map fun x => .bool (!x)) := fun a b c d e f g h =>
      lcF_map (fun x => .bool x) (fun x => .bool (!x)) (meansT run s) fun x _ => ⟨_, rfl, rfl, by simp [fSeq, fNext, sRet, sRetN, sIf, sSet, sSetO, sAsg, sApp, sFor, forF, fVar, fOpd, fCon, f2, f1, fNil, fCons, bR, bL, bA, bLL, oR, fT, gAnd, gOr, gNot, gYes, fAnd, fOr, fNot, fIte, fTup, fLst, fCall, fCallO, fB, fM1, fSl, fiNo, fiSm, fLc, wLst, wTup, wStr, wRg1, wRg2, wZip, wEnum, gfN, gfTup, gsNil, gsCons, fLrg, fLrg3, wipeG, xSeq, xSet, xOf, xCall, xIf, xRet, xNext, xTup, xCons, xNil, xPut, xCallP, sRetX, List.getElem?_cons_zero, List.getElem?_cons_succ, List.set_cons_zero, List.set_cons_succ]⟩
    have lc' : ∀ (a b c d e f g h i : Sl), lcF (gfN 6) gYes (fNot (fVar 6)) [a, b, c, d, e, f, g, h, i] ((meansT run s).map .bool) = some ((meansT run s).map fun x => .bool (!x)) := fun a b c d e f g h i =>
      lcF_map (fun x => .bool x) (fun x => .bool (!x)) (meansT run s) fun x _ => ⟨_, rfl, rfl, by simp [fSeq, fNext, sRet, sRetN, sIf, sSet, sSetO, sAsg, sApp, sFor, forF, fVar, fOpd, fCon, f2, f1, fNil, fCons, bR, bL, bA, bLL, oR, fT, gAnd, gOr, gNot, gYes, fAnd, fOr, fNot, fIte, fTup, fLst, fCall, fCallO, fB, fM1, fSl, fiNo, fiSm, fLc, wLst, wTup, wStr, wRg1, wRg2, wZip, wEnum, gfN, gfTup, gsNil, gsCons, fLrg, fLrg3, wipeG, xSeq, xSet, xOf, xCall, xIf, xRet, xNext, xTup, xCons, xNil, xPut, xCallP, sRetX, List.getElem?_cons_zero, List.getElem?_cons_succ, List.set_cons_zero, List.set_cons_succ]⟩
    have lm : (meansT run s).length ≤ big := by rw [meansT_len]; exact lb
    simp only [runD, enc, rowD, List.nil_append] at rows
    simp [runF, entry, f_l_means, enc, fSeq, fNext, sRet, sRetN, sIf, sSet, sSetO, sAsg, sApp, sFor, forF, fVar, fOpd, fCon, f2, f1, fNil, fCons, bR, bL, bA, bLL, oR, fT, gAnd, gOr, gNot, gYes, fAnd, fOr, fNot, fIte, fTup, fLst, fCall, fCallO, fB, fM1, fSl, fiNo, fiSm, fLc, wLst, wTup, wStr, wRg1, wRg2, wZip, wEnum, gfN, gfTup, gsNil, gsCons, fLrg, fLrg3, wipeG, xSeq, xSet, xOf, xCall, xIf, xRet, xNext, xTup, xCons, xNil, xPut, xCallP, sRetX, List.getElem?_cons_zero, List.getElem?_cons_succ, List.set_cons_zero, List.set_cons_succ, runD, rowD, meansT, tail_tup, rows, lc', meansT_len, lb, List.map_map, Function.comp_def]
  | an s t ih ih' =>
    intro n hk hn
    obtain ⟨n, rfl⟩ : ∃ k, n = k + 1 := ⟨n - 1, by simp [Sta.depth] at hn; omega⟩
    have h1 := ih n hk.1 (by simp [Sta.depth] at hn; omega)
    have h2 := ih' n hk.2 (by simp [Sta.depth] at hn; omega)
    have rows := rows2 (P := .va (enc (.an s t))) (x := .va (.str "and")) (y := .no) (z := .no) (u := .no) (v := .no) (w := .no) h1 h2
    rw [phi_l_means]
    have lc' : ∀ (a b c d e f g h i : Sl), lcF (gfTup (gsCons (gfN 6) (gsCons (gfN 8) gsNil))) gYes (fAnd (fVar 6) (fVar 8)) [a, b, c, d, e, f, g, h, i] (((meansT run s).zip (meansT run t)).map fun p => .tuple [.bool p.1, .bool p.2]) = some (((meansT run s).zip (meansT run t)).map fun p => .bool (p.1 && p.2)) := fun a b c d e f g h i =>
      lcF_map (fun p : Bool × Bool => .tuple [.bool p.1, .bool p.2]) (fun p => .bool (p.1 && p.2)) _ fun p _ => ⟨_, rfl, rfl, by obtain ⟨a, b⟩ := p; cases a <;> simp [fSeq, fNext, sRet, sRetN, sIf, sSet, sSetO, sAsg, sApp, sFor, forF, fVar, fOpd, fCon, f2, f1, fNil, fCons, bR, bL, bA, bLL, oR, fT, gAnd, gOr, gNot, gYes, fAnd, fOr, fNot, fIte, fTup, fLst, fCall, fCallO, fB, fM1, fSl, fiNo, fiSm, fLc, wLst, wTup, wStr, wRg1, wRg2, wZip, wEnum, gfN, gfTup, gsNil, gsCons, fLrg, fLrg3, wipeG, xSeq, xSet, xOf, xCall, xIf, xRet, xNext, xTup, xCons, xNil, xPut, xCallP, sRetX, List.getElem?_cons_zero, List.getElem?_cons_succ, List.set_cons_zero, List.set_cons_succ]⟩
    have lm : ((meansT run s).zip (meansT run t)).length ≤ big := by rw [List.length_zip, meansT_len, meansT_len, Nat.min_self]; exact lb
    rw [List.length_zip, meansT_len, meansT_len, Nat.min_self] at lm
    simp only [runD, enc, rowD] at rows
    simp [runF, entry, f_l_means, enc, fSeq, fNext, sRet, sRetN, sIf, sSet, sSetO, sAsg, sApp, sFor, forF, fVar, fOpd, fCon, f2, f1, fNil, fCons, bR, bL, bA, bLL, oR, fT, gAnd, gOr, gNot, gYes, fAnd, fOr, fNot, fIte, fTup, fLst, fCall, fCallO, fB, fM1, fSl, fiNo, fiSm, fLc, wLst, wTup, wStr, wRg1, wRg2, wZip, wEnum, gfN, gfTup, gsNil, gsCons, fLrg, fLrg3, wipeG, xSeq, xSet, xOf, xCall, xIf, xRet, xNext, xTup, xCons, xNil, xPut, xCallP, sRetX, List.getElem?_cons_zero, List.getElem?_cons_succ, List.set_cons_zero, List.set_cons_succ, runD, rowD, meansT, tail_tup, rows, zipD, lc', meansT_len, lb, meansT_len, List.map_map, Function.comp_def]
  | or s t ih ih' =>
    intro n hk hn
    obtain ⟨n, rfl⟩ : ∃ k, n = k + 1 := ⟨n - 1, by simp [Sta.depth] at hn; omega⟩
    have h1 := ih n hk.1 (by simp [Sta.depth] at hn; omega)
    have h2 := ih' n hk.2 (by simp [Sta.depth] at hn; omega)
    have rows := rows2 (P := .va (enc (.or s t))) (x := .va (.str "or")) (y := .no) (z := .no) (u := .no) (v := .no) (w := .no) h1 h2
    rw [phi_l_means]
    have lc' : ∀ (a b c d e f g h i : Sl), lcF (gfTup (gsCons (gfN 6) (gsCons (gfN 8) gsNil))) gYes (fOr (fVar 6) (fVar 8)) [a, b, c, d, e, f, g, h, i] (((meansT run s).zip (meansT run t)).map fun p => .tuple [.bool p.1, .bool p.2]) = some (((meansT run s).zip (meansT run t)).map fun p => .bool (p.1 || p.2)) := fun a b c d e f g h i =>
      lcF_map (fun p : Bool × Bool => .tuple [.bool p.1, .bool p.2]) (fun p => .bool (p.1 || p.2)) _ fun p _ => ⟨_, rfl, rfl, by obtain ⟨a, b⟩ := p; cases a <;> simp [fSeq, fNext, sRet, sRetN, sIf, sSet, sSetO, sAsg, sApp, sFor, forF, fVar, fOpd, fCon, f2, f1, fNil, fCons, bR, bL, bA, bLL, oR, fT, gAnd, gOr, gNot, gYes, fAnd, fOr, fNot, fIte, fTup, fLst, fCall, fCallO, fB, fM1, fSl, fiNo, fiSm, fLc, wLst, wTup, wStr, wRg1, wRg2, wZip, wEnum, gfN, gfTup, gsNil, gsCons, fLrg, fLrg3, wipeG, xSeq, xSet, xOf, xCall, xIf, xRet, xNext, xTup, xCons, xNil, xPut, xCallP, sRetX, List.getElem?_cons_zero, List.getElem?_cons_succ, List.set_cons_zero, List.set_cons_succ]⟩
    simp only [runD, enc, rowD] at rows
    simp [runF, entry, f_l_means, enc, fSeq, fNext, sRet, sRetN, sIf, sSet, sSetO, sAsg, sApp, sFor, forF, fVar, fOpd, fCon, f2, f1, fNil, fCons, bR, bL, bA, bLL, oR, fT, gAnd, gOr, gNot, gYes, fAnd, fOr, fNot, fIte, fTup, fLst, fCall, fCallO, fB, fM1, fSl, fiNo, fiSm, fLc, wLst, wTup, wStr, wRg1, wRg2, wZip, wEnum, gfN, gfTup, gsNil, gsCons, fLrg, fLrg3, wipeG, xSeq, xSet, xOf, xCall, xIf, xRet, xNext, xTup, xCons, xNil, xPut, xCallP, sRetX, List.getElem?_cons_zero, List.getElem?_cons_succ, List.set_cons_zero, List.set_cons_succ, runD, rowD, meansT, tail_tup, rows, zipD, lc', meansT_len, lb, List.map_map, Function.comp_def]
  | nx s ih =>
    intro n hk hn
    obtain ⟨n, rfl⟩ : ∃ k, n = k + 1 := ⟨n - 1, by simp [Sta.depth] at hn; omega⟩
    have h1 := ih n hk (by simp [Sta.depth] at hn; omega)
    have rows := rows1 (P := .va (enc (.nx s))) (x := .va (.str "next")) (y := .no) (z := .no) (u := .no) (v := .no) (w := .no) (pre := []) (.inl rfl) h1
    rw [phi_l_means]
    simp only [runD, enc, rowD, List.nil_append] at rows
    have c := cut_from ((meansT run s).map PyData.bool ++ [PyData.bool false]) 1 (by simp)
    have c' : Py.cutD ((meansT run s).map PyData.bool ++ [PyData.bool false]) (some 1) none = ((meansT run s ++ [false]).drop 1).map .bool := by
      rw [show (1 : Int) = ((1 : Nat) : Int) from rfl, c, List.map_drop, List.map_append]; rfl
    simp [runF, entry, f_l_means, enc, fSeq, fNext, sRet, sRetN, sIf, sSet, sSetO, sAsg, sApp, sFor, forF, fVar, fOpd, fCon, f2, f1, fNil, fCons, bR, bL, bA, bLL, oR, fT, gAnd, gOr, gNot, gYes, fAnd, fOr, fNot, fIte, fTup, fLst, fCall, fCallO, fB, fM1, fSl, fiNo, fiSm, fLc, wLst, wTup, wStr, wRg1, wRg2, wZip, wEnum, gfN, gfTup, gsNil, gsCons, fLrg, fLrg3, wipeG, xSeq, xSet, xOf, xCall, xIf, xRet, xNext, xTup, xCons, xNil, xPut, xCallP, sRetX, List.getElem?_cons_zero, List.getElem?_cons_succ, List.set_cons_zero, List.set_cons_succ, runD, rowD, meansT, tail_tup, rows, lb, lb1, lb2, meansT_len, oAdd, c']
  | bf s ih =>
    intro n hk hn
    obtain ⟨n, rfl⟩ : ∃ k, n = k + 1 := ⟨n - 1, by simp [Sta.depth] at hn; omega⟩
    have h1 := ih n hk (by simp [Sta.depth] at hn; omega)
    have rows := rows1 (P := .va (enc (.bf s))) (x := .va (.str "before")) (y := .no) (z := .no) (u := .no) (v := .no) (w := .no) (pre := []) (.inl rfl) h1
    rw [phi_l_means]
    simp only [runD, enc, rowD, List.nil_append] at rows
    have c := cut_to (PyData.bool false :: (meansT run s).map PyData.bool) run.length
    have c' : Py.cutD (PyData.bool false :: (meansT run s).map PyData.bool) none (some (run.length : Int)) = ((false :: meansT run s).take run.length).map .bool := by
      rw [c, List.map_take]; rfl
    simp [runF, entry, f_l_means, enc, fSeq, fNext, sRet, sRetN, sIf, sSet, sSetO, sAsg, sApp, sFor, forF, fVar, fOpd, fCon, f2, f1, fNil, fCons, bR, bL, bA, bLL, oR, fT, gAnd, gOr, gNot, gYes, fAnd, fOr, fNot, fIte, fTup, fLst, fCall, fCallO, fB, fM1, fSl, fiNo, fiSm, fLc, wLst, wTup, wStr, wRg1, wRg2, wZip, wEnum, gfN, gfTup, gsNil, gsCons, fLrg, fLrg3, wipeG, xSeq, xSet, xOf, xCall, xIf, xRet, xNext, xTup, xCons, xNil, xPut, xCallP, sRetX, List.getElem?_cons_zero, List.getElem?_cons_succ, List.set_cons_zero, List.set_cons_succ, runD, rowD, meansT, tail_tup, rows, lb, lb1, lb2, meansT_len, oAdd, c']
  | wi k s ih =>
    intro n hk hn
    obtain ⟨n, rfl⟩ : ∃ k, n = k + 1 := ⟨n - 1, by simp [Sta.depth] at hn; omega⟩
    have h1 := ih n hk.2 (by simp [Sta.depth] at hn; omega)
    have rows := rows1 (P := .va (enc (.wi k s))) (x := .va (.str "within")) (y := .no) (z := .no) (u := .no) (v := .no) (w := .no) (pre := [.int k]) (.inr ⟨k, rfl⟩) h1
    rw [phi_l_means]
    simp only [runD, enc, rowD, List.cons_append, List.nil_append] at rows
    have rg0 : rgD 0 (run.length : Int) = (List.range run.length).map fun i => .int ((i : Nat) : Int) := by
      have := rg_nat 0 run.length
      simpa using this
    have rg := rgOk_nat (i := 0) (j := run.length) (by omega) (by omega)
    have rg' : rgOk 0 (run.length : Int) = true := by simpa using rg
    have lc : ∀ (a b c d e f g : Sl), lcF (gfN 7) gYes (f2 (oIn false) (fCon (.bool true)) (fSl (f2 oIx (fOpd 3) (fCon (.int 0))) (fiSm (fOpd 7)) (fiSm (f2 oAdd (f2 oAdd (fOpd 7) (f2 oIx (fOpd 0) (fCon (.int 1)))) (fCon (.int 1))))))
        [.va (.tuple [.str "within", .int k, enc s]), a, b, .va (.list [.list ((meansT run s).map .bool)]), c, d, e, f, g] ((List.range run.length).map fun i => .int ((i : Nat) : Int)) = some ((List.range run.length).map fun i => .bool ((((meansT run s).drop i).take (k + 1)).any id)) := fun a b c d e f g =>
      lcF_map (fun i : Nat => .int ((i : Nat) : Int)) (fun i => .bool ((((meansT run s).drop i).take (k + 1)).any id)) _ fun i hi => by
        refine ⟨_, rfl, rfl, ?_⟩
        have hi := List.mem_range.mp hi
        have c := cut_mid ((meansT run s).map PyData.bool) i (i + k + 1) (by rw [List.length_map, meansT_len]; omega) (by omega)
        have e : i + k + 1 - i = k + 1 := by omega
        rw [e] at c
        have c' : Py.cutD ((meansT run s).map PyData.bool) (some (i : Int)) (some ((i : Int) + (k : Int) + 1)) = (((meansT run s).drop i).take (k + 1)).map .bool := by
          rw [show ((i : Int) + (k : Int) + 1) = ((i + k + 1 : Nat) : Int) by omega, c, List.map_take, List.map_drop]
        have ib : oIn false (.bool true) (.list (((meansT run s).map PyData.bool).drop i |>.take (k + 1))) = some (.bool ((((meansT run s).drop i).take (k + 1)).any id)) := by
          rw [← List.map_drop, ← List.map_take]; exact in_bools _
        simp [fSeq, fNext, sRet, sRetN, sIf, sSet, sSetO, sAsg, sApp, sFor, forF, fVar, fOpd, fCon, f2, f1, fNil, fCons, bR, bL, bA, bLL, oR, fT, gAnd, gOr, gNot, gYes, fAnd, fOr, fNot, fIte, fTup, fLst, fCall, fCallO, fB, fM1, fSl, fiNo, fiSm, fLc, wLst, wTup, wStr, wRg1, wRg2, wZip, wEnum, gfN, gfTup, gsNil, gsCons, fLrg, fLrg3, wipeG, xSeq, xSet, xOf, xCall, xIf, xRet, xNext, xTup, xCons, xNil, xPut, xCallP, sRetX, List.getElem?_cons_zero, List.getElem?_cons_succ, List.set_cons_zero, List.set_cons_succ, c', ib]
    simp [runF, entry, f_l_means, enc, fSeq, fNext, sRet, sRetN, sIf, sSet, sSetO, sAsg, sApp, sFor, forF, fVar, fOpd, fCon, f2, f1, fNil, fCons, bR, bL, bA, bLL, oR, fT, gAnd, gOr, gNot, gYes, fAnd, fOr, fNot, fIte, fTup, fLst, fCall, fCallO, fB, fM1, fSl, fiNo, fiSm, fLc, wLst, wTup, wStr, wRg1, wRg2, wZip, wEnum, gfN, gfTup, gsNil, gsCons, fLrg, fLrg3, wipeG, xSeq, xSet, xOf, xCall, xIf, xRet, xNext, xTup, xCons, xNil, xPut, xCallP, sRetX, List.getElem?_cons_zero, List.getElem?_cons_succ, List.set_cons_zero, List.set_cons_succ, runD, rowD, meansT, winT, tail_tup, rows, lb, rg', rg0, lc, List.map_map, Function.comp_def]
  | un s t ih ih' =>
    intro n hk hn
    obtain ⟨n, rfl⟩ : ∃ k, n = k + 2 := ⟨n - 2, by have := Sta.depth_pos s; simp [Sta.depth] at hn; omega⟩
    have h1 := ih (n + 1) hk.1 (by simp [Sta.depth] at hn; omega)
    have h2 := ih' (n + 1) hk.2 (by simp [Sta.depth] at hn; omega)
    have rows := rows2 (P := .va (enc (.un s t))) (x := .va (.str "until")) (y := .no) (z := .no) (u := .no) (v := .no) (w := .no) h1 h2
    have ru := run_until (Phi := Phi n) (meansT run s).reverse (meansT run t).reverse (by simp [meansT_len]) (by simp [meansT_len]; omega)
    rw [← phi_l_until] at ru
    rw [phi_l_means]
    simp only [runD, enc, rowD] at rows
    simp only [List.map_reverse] at ru
    simp [runF, entry, f_l_means, enc, fSeq, fNext, sRet, sRetN, sIf, sSet, sSetO, sAsg, sApp, sFor, forF, fVar, fOpd, fCon, f2, f1, fNil, fCons, bR, bL, bA, bLL, oR, fT, gAnd, gOr, gNot, gYes, fAnd, fOr, fNot, fIte, fTup, fLst, fCall, fCallO, fB, fM1, fSl, fiNo, fiSm, fLc, wLst, wTup, wStr, wRg1, wRg2, wZip, wEnum, gfN, gfTup, gsNil, gsCons, fLrg, fLrg3, wipeG, xSeq, xSet, xOf, xCall, xIf, xRet, xNext, xTup, xCons, xNil, xPut, xCallP, sRetX, List.getElem?_cons_zero, List.getElem?_cons_succ, List.set_cons_zero, List.set_cons_succ, runD, rowD, meansT, tail_tup, rows, oRev, ru]
  | si s t ih ih' =>
    intro n hk hn
    obtain ⟨n, rfl⟩ : ∃ k, n = k + 2 := ⟨n - 2, by have := Sta.depth_pos s; simp [Sta.depth] at hn; omega⟩
    have h1 := ih (n + 1) hk.1 (by simp [Sta.depth] at hn; omega)
    have h2 := ih' (n + 1) hk.2 (by simp [Sta.depth] at hn; omega)
    have rows := rows2 (P := .va (enc (.si s t))) (x := .va (.str "since")) (y := .no) (z := .no) (u := .no) (v := .no) (w := .no) h1 h2
    have ru := run_until (Phi := Phi n) (meansT run s) (meansT run t) (by simp [meansT_len]) (by simp [meansT_len]; omega)
    rw [← phi_l_until] at ru
    rw [phi_l_means]
    simp only [runD, enc, rowD] at rows
    simp [runF, entry, f_l_means, enc, fSeq, fNext, sRet, sRetN, sIf, sSet, sSetO, sAsg, sApp, sFor, forF, fVar, fOpd, fCon, f2, f1, fNil, fCons, bR, bL, bA, bLL, oR, fT, gAnd, gOr, gNot, gYes, fAnd, fOr, fNot, fIte, fTup, fLst, fCall, fCallO, fB, fM1, fSl, fiNo, fiSm, fLc, wLst, wTup, wStr, wRg1, wRg2, wZip, wEnum, gfN, gfTup, gsNil, gsCons, fLrg, fLrg3, wipeG, xSeq, xSet, xOf, xCall, xIf, xRet, xNext, xTup, xCons, xNil, xPut, xCallP, sRetX, List.getElem?_cons_zero, List.getElem?_cons_succ, List.set_cons_zero, List.set_cons_succ, runD, rowD, meansT, tail_tup, rows, ru]
end K04

namespace K04
open PySem PySem.Spec PyProof.Rows L2 Py
/-! ### the rows say what holds says -/
def U (p q : Nat → Bool) (a : Bool) : Nat → Bool
  | 0 => q 0 || (p 0 && a)
  | i + 1 => q (i + 1) || (p (i + 1) && U p q a i)
theorem U_shift (p q : Nat → Bool) (a : Bool) : ∀ i, U p q a (i + 1) = U (fun j => p (j + 1)) (fun j => q (j + 1)) (U p q a 0) i
  | 0 => rfl
  | i + 1 => by
    show (q (i + 2) || (p (i + 2) && U p q a (i + 1))) = (q (i + 2) || (p (i + 2) && U (fun j => p (j + 1)) (fun j => q (j + 1)) (U p q a 0) i))
    rw [U_shift p q a i]
theorem U_congr {p q p' q' : Nat → Bool} {a : Bool} : ∀ {i : Nat}, (∀ j, j ≤ i → p j = p' j) → (∀ j, j ≤ i → q j = q' j) → U p q a i = U p' q' a i
  | 0, h1, h2 => by simp [U, h1 0 (Nat.le_refl _), h2 0 (Nat.le_refl _)]
  | i + 1, h1, h2 => by
    simp only [U]
    rw [h1 (i + 1) (Nat.le_refl _), h2 (i + 1) (Nat.le_refl _), U_congr (fun j hj => h1 j (by omega)) (fun j hj => h2 j (by omega))]
theorem untilT_get : ∀ (ps qs : List Bool) (a : Bool) (i : Nat), ps.length = qs.length → i < ps.length → (untilT ps qs a).getD i false = U (fun j => ps.getD j false) (fun j => qs.getD j false) a i
  | [], _, _, _, _, h => by simp at h
  | p :: ps, [], _, _, h, _ => by simp at h
  | p :: ps, q :: qs, a, 0, _, _ => by simp [untilT, U]
  | p :: ps, q :: qs, a, i + 1, hl, hi => by
    rw [U_shift]
    have ih := untilT_get ps qs (q || (p && a)) i (by simpa using hl) (by simpa using hi)
    simpa [untilT, U] using ih
theorem reach_cons (p q : Nat → Bool) (j : Nat) (js : List Nat) : reachT p q (j :: js) = (q j || (p j && reachT p q js)) := by
  cases e : q j <;> cases e2 : p j <;> simp [reachT, e, e2]
theorem reach_back (p q : Nat → Bool) : ∀ i, reachT p q ((List.range (i + 1)).map fun j => i - j) = U p q false i
  | 0 => by simp [reachT, U]
  | i + 1 => by
    have e : (List.range (i + 2)).map (fun j => i + 1 - j) = (i + 1) :: (List.range (i + 1)).map fun j => i - j := by
      rw [List.range_succ_eq_map, List.map_cons, List.map_map]
      congr 1
      apply List.map_congr_left
      intro j _
      show i + 1 - (j + 1) = i - j
      omega
    rw [e, reach_cons, reach_back p q i]
    rfl
theorem reach_on (p q : Nat → Bool) (n : Nat) : ∀ m, m < n → reachT p q ((List.range (m + 1)).map fun j => (n - 1 - m) + j) = U (fun j => p (n - 1 - j)) (fun j => q (n - 1 - j)) false m
  | 0, h => by simp [reachT, U]
  | m + 1, h => by
    have e : (List.range (m + 2)).map (fun j => n - 1 - (m + 1) + j) = (n - 1 - (m + 1)) :: (List.range (m + 1)).map fun j => n - 1 - m + j := by
      rw [List.range_succ_eq_map, List.map_cons, List.map_map]
      congr 1
      apply List.map_congr_left
      intro j _
      show n - 1 - (m + 1) + (j + 1) = n - 1 - m + j
      omega
    rw [e, reach_cons, reach_on p q n m (by omega)]
    rfl
theorem getD_eq {α : Type} {l : List α} {i : Nat} {d : α} (h : i < l.length) : l.getD i d = l[i] := by simp [List.getD, h]
theorem sem_means (run : List Str) : ∀ (s : Sta) (i : Nat), i < run.length → (meansT run s).getD i false = sem run s i := by
  intro s
  induction s with
  | mark m =>
    intro i hi
    rw [getD_eq (by rw [meansT_len]; exact hi)]
    simp [meansT, sem, hi]
  | yes =>
    intro i hi
    rw [getD_eq (by rw [meansT_len]; exact hi)]
    simp [meansT, sem]
  | nt s ih =>
    intro i hi
    have h1 := ih i hi
    rw [getD_eq (by rw [meansT_len]; exact hi)] at h1 ⊢
    simp [meansT, sem, h1]
  | an s t ih ih' =>
    intro i hi
    have h1 := ih i hi
    have h2 := ih' i hi
    rw [getD_eq (by rw [meansT_len]; exact hi)] at h1 h2 ⊢
    simp [meansT, sem, h1, h2]
  | or s t ih ih' =>
    intro i hi
    have h1 := ih i hi
    have h2 := ih' i hi
    rw [getD_eq (by rw [meansT_len]; exact hi)] at h1 h2 ⊢
    simp [meansT, sem, h1, h2]
  | nx s ih =>
    intro i hi
    rw [getD_eq (by rw [meansT_len]; exact hi)]
    by_cases h : i + 1 < run.length
    · have h1 := ih (i + 1) h
      rw [getD_eq (by rw [meansT_len]; exact h)] at h1
      have hl : i + 1 < (meansT run s).length := by rw [meansT_len]; exact h
      simp only [meansT, sem, List.getElem_drop, decide_eq_true h, Bool.true_and, ← h1]
      rw [List.getElem_append_left (by omega)]
      congr 1
      omega
    · have hl : (meansT run s).length = i + 1 := by rw [meansT_len]; omega
      simp only [meansT, sem, List.getElem_drop, decide_eq_false h, Bool.false_and]
      rw [List.getElem_append_right (by omega)]
      simp
  | bf s ih =>
    intro i hi
    rw [getD_eq (by rw [meansT_len]; exact hi)]
    cases i with
    | zero => simp [meansT, sem]
    | succ i =>
      have h1 := ih i (by omega)
      rw [getD_eq (by rw [meansT_len]; omega)] at h1
      simp [meansT, sem, h1]
  | wi k s ih =>
    intro i hi
    rw [getD_eq (by rw [meansT_len]; exact hi)]
    simp only [meansT, winT, sem, List.getElem_map, List.getElem_range]
    have e : ((meansT run s).drop i).take (k + 1) = (List.range (min run.length (i + k + 1) - i)).map fun j => sem run s (i + j) := by
      apply List.ext_getElem
      · simp [meansT_len]; omega
      · intro j h1 h2
        simp only [List.length_map, List.length_range] at h2
        have h3 := ih (i + j) (by omega)
        rw [getD_eq (by rw [meansT_len]; omega)] at h3
        simp [h3]
    rw [e, List.any_map]
    rfl
  | si s t ih ih' =>
    intro i hi
    have hl : (meansT run s).length = (meansT run t).length := by rw [meansT_len, meansT_len]
    show (untilT (meansT run s) (meansT run t) false).getD i false = _
    rw [untilT_get _ _ _ _ hl (by rw [meansT_len]; exact hi)]
    show _ = reachT (sem run s) (sem run t) ((List.range (i + 1)).map fun j => i - j)
    rw [reach_back]
    exact U_congr (fun j hj => ih j (by omega)) (fun j hj => ih' j (by omega))
  | un s t ih ih' =>
    intro i hi
    have hl : (meansT run s).reverse.length = (meansT run t).reverse.length := by simp [meansT_len]
    have hl2 := untilT_len (meansT run s).reverse (meansT run t).reverse false hl
    rw [List.length_reverse, meansT_len] at hl2
    have g := untilT_get (meansT run s).reverse (meansT run t).reverse false (run.length - 1 - i) hl (by rw [List.length_reverse, meansT_len]; omega)
    have e1 : (meansT run (.un s t)).getD i false = (untilT (meansT run s).reverse (meansT run t).reverse false).getD (run.length - 1 - i) false := by
      show (untilT (meansT run s).reverse (meansT run t).reverse false).reverse.getD i false = _
      rw [getD_eq (by rw [List.length_reverse, hl2]; exact hi), getD_eq (by rw [hl2]; omega), List.getElem_reverse]
      simp only [hl2]
    rw [e1, g]
    show _ = reachT (sem run s) (sem run t) ((List.range (run.length - i)).map fun j => i + j)
    have e2 := reach_on (sem run s) (sem run t) run.length (run.length - 1 - i) (by omega)
    have e3 : run.length - 1 - i + 1 = run.length - i := by omega
    have e4 : run.length - 1 - (run.length - 1 - i) = i := by omega
    rw [e3, e4] at e2
    rw [e2]
    have back : ∀ (u : Sta), (∀ i, i < run.length → (meansT run u).getD i false = sem run u i) → ∀ j, j ≤ run.length - 1 - i → (meansT run u).reverse.getD j false = sem run u (run.length - 1 - j) := by
      intro u hu j hj
      have h := hu (run.length - 1 - j) (by omega)
      rw [getD_eq (by rw [meansT_len]; omega)] at h
      rw [getD_eq (by rw [List.length_reverse, meansT_len]; omega), List.getElem_reverse, ← h]
      simp only [meansT_len]
    exact U_congr (back s ih) (back t ih')
end K04

namespace K04
open PySem PySem.Spec PyProof.Rows L2 Py
/-! ### a statement's parts, and its wishes as the law counts them -/
def allT : Sta → List Sta
  | .mark m => [.mark m]
  | .yes => [.yes]
  | .nt s => .nt s :: allT s
  | .an s t => .an s t :: (allT s ++ allT t)
  | .or s t => .or s t :: (allT s ++ allT t)
  | .nx s => .nx s :: allT s
  | .un s t => .un s t :: (allT s ++ allT t)
  | .wi k s => .wi k s :: allT s
  | .bf s => .bf s :: allT s
  | .si s t => .si s t :: (allT s ++ allT t)
theorem allT_len : ∀ s : Sta, (allT s).length + 1 ≤ 2 ^ s.depth
  | .mark m => by simp [allT, Sta.depth]
  | .yes => by simp [allT, Sta.depth]
  | .nt s => by have h := allT_len s; simp only [allT, Sta.depth, List.length_cons, Nat.pow_succ]; omega
  | .nx s => by have h := allT_len s; simp only [allT, Sta.depth, List.length_cons, Nat.pow_succ]; omega
  | .wi k s => by have h := allT_len s; simp only [allT, Sta.depth, List.length_cons, Nat.pow_succ]; omega
  | .bf s => by have h := allT_len s; simp only [allT, Sta.depth, List.length_cons, Nat.pow_succ]; omega
  | .an s t => by
    have h := allT_len s; have h2 := allT_len t
    have p1 : 2 ^ s.depth ≤ 2 ^ (max s.depth t.depth) := Nat.pow_le_pow_right (by omega) (by omega)
    have p2 : 2 ^ t.depth ≤ 2 ^ (max s.depth t.depth) := Nat.pow_le_pow_right (by omega) (by omega)
    simp only [allT, Sta.depth, List.length_cons, List.length_append, Nat.pow_succ]; omega
  | .or s t => by
    have h := allT_len s; have h2 := allT_len t
    have p1 : 2 ^ s.depth ≤ 2 ^ (max s.depth t.depth) := Nat.pow_le_pow_right (by omega) (by omega)
    have p2 : 2 ^ t.depth ≤ 2 ^ (max s.depth t.depth) := Nat.pow_le_pow_right (by omega) (by omega)
    simp only [allT, Sta.depth, List.length_cons, List.length_append, Nat.pow_succ]; omega
  | .un s t => by
    have h := allT_len s; have h2 := allT_len t
    have p1 : 2 ^ s.depth ≤ 2 ^ (max s.depth t.depth) := Nat.pow_le_pow_right (by omega) (by omega)
    have p2 : 2 ^ t.depth ≤ 2 ^ (max s.depth t.depth) := Nat.pow_le_pow_right (by omega) (by omega)
    simp only [allT, Sta.depth, List.length_cons, List.length_append, Nat.pow_succ]; omega
  | .si s t => by
    have h := allT_len s; have h2 := allT_len t
    have p1 : 2 ^ s.depth ≤ 2 ^ (max s.depth t.depth) := Nat.pow_le_pow_right (by omega) (by omega)
    have p2 : 2 ^ t.depth ≤ 2 ^ (max s.depth t.depth) := Nat.pow_le_pow_right (by omega) (by omega)
    simp only [allT, Sta.depth, List.length_cons, List.length_append, Nat.pow_succ]; omega
/-- what is so of a statement and all its parts -/
structure Fine (d : Nat) (p : Str → Prop) (s : Sta) : Prop where
  dep : s.depth ≤ d
  mks : s.Marks p
  ks : ksOk s
theorem allT_fine {d : Nat} {p : Str → Prop} : ∀ {s : Sta}, Fine d p s → ∀ t ∈ allT s, Fine d p t := by
  intro s
  induction s with
  | mark m => intro h t ht; simp [allT] at ht; subst ht; exact h
  | yes => intro h t ht; simp [allT] at ht; subst ht; exact h
  | nt s ih =>
    intro h t ht
    rcases List.mem_cons.mp ht with rfl | ht
    · exact h
    · exact ih ⟨by have := h.dep; simp [Sta.depth] at this; omega, h.mks, h.ks⟩ t ht
  | nx s ih =>
    intro h t ht
    rcases List.mem_cons.mp ht with rfl | ht
    · exact h
    · exact ih ⟨by have := h.dep; simp [Sta.depth] at this; omega, h.mks, h.ks⟩ t ht
  | wi k s ih =>
    intro h t ht
    rcases List.mem_cons.mp ht with rfl | ht
    · exact h
    · exact ih ⟨by have := h.dep; simp [Sta.depth] at this; omega, h.mks, h.ks.2⟩ t ht
  | bf s ih =>
    intro h t ht
    rcases List.mem_cons.mp ht with rfl | ht
    · exact h
    · exact ih ⟨by have := h.dep; simp [Sta.depth] at this; omega, h.mks, h.ks⟩ t ht
  | an s s' ih ih' =>
    intro h t ht
    have hd := h.dep
    simp [Sta.depth] at hd
    rcases List.mem_cons.mp ht with rfl | ht
    · exact h
    · rcases List.mem_append.mp ht with ht | ht
      · exact ih ⟨by omega, h.mks.1, h.ks.1⟩ t ht
      · exact ih' ⟨by omega, h.mks.2, h.ks.2⟩ t ht
  | or s s' ih ih' =>
    intro h t ht
    have hd := h.dep
    simp [Sta.depth] at hd
    rcases List.mem_cons.mp ht with rfl | ht
    · exact h
    · rcases List.mem_append.mp ht with ht | ht
      · exact ih ⟨by omega, h.mks.1, h.ks.1⟩ t ht
      · exact ih' ⟨by omega, h.mks.2, h.ks.2⟩ t ht
  | un s s' ih ih' =>
    intro h t ht
    have hd := h.dep
    simp [Sta.depth] at hd
    rcases List.mem_cons.mp ht with rfl | ht
    · exact h
    · rcases List.mem_append.mp ht with ht | ht
      · exact ih ⟨by omega, h.mks.1, h.ks.1⟩ t ht
      · exact ih' ⟨by omega, h.mks.2, h.ks.2⟩ t ht
  | si s s' ih ih' =>
    intro h t ht
    have hd := h.dep
    simp [Sta.depth] at hd
    rcases List.mem_cons.mp ht with rfl | ht
    · exact h
    · rcases List.mem_append.mp ht with ht | ht
      · exact ih ⟨by omega, h.mks.1, h.ks.1⟩ t ht
      · exact ih' ⟨by omega, h.mks.2, h.ks.2⟩ t ht
def encL (l : List Sta) : D := .list (l.map enc)
theorem big_pow {d : Nat} (h : d ≤ 20) : 2 ^ d ≤ big := Nat.le_trans (Nat.pow_le_pow_right (by omega) h) (by decide)
theorem run_all : ∀ (s : Sta) (n : Nat), s.depth ≤ 19 → s.depth ≤ n → Phi n .l_all [enc s] = some (.ok (encL (allT s))) := by
  have one : ∀ (n : Nat) (s t : Sta) (w : Str), enc t = .tuple [.str w, enc s] → Phi n .l_all [enc s] = some (.ok (encL (allT s))) → (allT s).length + 1 ≤ big → Phi (n + 1) .l_all [enc t] = some (.ok (encL (t :: allT s))) := by
    intro n s t w e h hz
    have hz' : 1 + (allT s).length ≤ big := by omega
    rw [phi_l_all]
    simp [runF, entry, f_l_all, e, fSeq, fNext, sRet, sRetN, sIf, sSet, sSetO, sAsg, sApp, sFor, forF, fVar, fOpd, fCon, f2, f1, fNil, fCons, bR, bL, bA, bLL, oR, fT, gAnd, gOr, gNot, gYes, fAnd, fOr, fNot, fIte, fTup, fLst, fCall, fCallO, fB, fM1, fSl, fiNo, fiSm, fLc, wLst, wTup, wStr, wRg1, wRg2, wZip, wEnum, gfN, gfTup, gsNil, gsCons, fLrg, fLrg3, wipeG, xSeq, xSet, xOf, xCall, xIf, xRet, xNext, xTup, xCons, xNil, xPut, xCallP, sRetX, List.getElem?_cons_zero, List.getElem?_cons_succ, List.set_cons_zero, List.set_cons_succ, tail_tup, isi_enc, h, encL, hz, hz', oAdd]
  have oneK : ∀ (n : Nat) (s t : Sta) (w : Str) (k : Int), enc t = .tuple [.str w, .int k, enc s] → Phi n .l_all [enc s] = some (.ok (encL (allT s))) → (allT s).length + 1 ≤ big → Phi (n + 1) .l_all [enc t] = some (.ok (encL (t :: allT s))) := by
    intro n s t w k e h hz
    have hz' : 1 + (allT s).length ≤ big := by omega
    rw [phi_l_all]
    simp [runF, entry, f_l_all, e, fSeq, fNext, sRet, sRetN, sIf, sSet, sSetO, sAsg, sApp, sFor, forF, fVar, fOpd, fCon, f2, f1, fNil, fCons, bR, bL, bA, bLL, oR, fT, gAnd, gOr, gNot, gYes, fAnd, fOr, fNot, fIte, fTup, fLst, fCall, fCallO, fB, fM1, fSl, fiNo, fiSm, fLc, wLst, wTup, wStr, wRg1, wRg2, wZip, wEnum, gfN, gfTup, gsNil, gsCons, fLrg, fLrg3, wipeG, xSeq, xSet, xOf, xCall, xIf, xRet, xNext, xTup, xCons, xNil, xPut, xCallP, sRetX, List.getElem?_cons_zero, List.getElem?_cons_succ, List.set_cons_zero, List.set_cons_succ, tail_tup, isi_enc, isi_int, h, encL, hz, hz', oAdd]
  have two : ∀ (n : Nat) (s s' t : Sta) (w : Str), enc t = .tuple [.str w, enc s, enc s'] → Phi n .l_all [enc s] = some (.ok (encL (allT s))) → Phi n .l_all [enc s'] = some (.ok (encL (allT s'))) → (allT s).length + (allT s').length + 1 ≤ big → Phi (n + 1) .l_all [enc t] = some (.ok (encL (t :: (allT s ++ allT s')))) := by
    intro n s s' t w e h h' hz
    have h1 : 1 + (allT s).length ≤ big := by omega
    have h2 : (allT s).length + 1 + (allT s').length ≤ big := by omega
    have h3 : 1 + (allT s).length + (allT s').length ≤ big := by omega
    rw [phi_l_all]
    simp [runF, entry, f_l_all, e, fSeq, fNext, sRet, sRetN, sIf, sSet, sSetO, sAsg, sApp, sFor, forF, fVar, fOpd, fCon, f2, f1, fNil, fCons, bR, bL, bA, bLL, oR, fT, gAnd, gOr, gNot, gYes, fAnd, fOr, fNot, fIte, fTup, fLst, fCall, fCallO, fB, fM1, fSl, fiNo, fiSm, fLc, wLst, wTup, wStr, wRg1, wRg2, wZip, wEnum, gfN, gfTup, gsNil, gsCons, fLrg, fLrg3, wipeG, xSeq, xSet, xOf, xCall, xIf, xRet, xNext, xTup, xCons, xNil, xPut, xCallP, sRetX, List.getElem?_cons_zero, List.getElem?_cons_succ, List.set_cons_zero, List.set_cons_succ, tail_tup, isi_enc, h, h', encL, h1, h2, h3, oAdd]
  intro s
  induction s with
  | mark m =>
    intro n hd hn
    obtain ⟨n, rfl⟩ : ∃ k, n = k + 1 := ⟨n - 1, by simp [Sta.depth] at hn; omega⟩
    rw [phi_l_all]
    simp [runF, entry, f_l_all, enc, fSeq, fNext, sRet, sRetN, sIf, sSet, sSetO, sAsg, sApp, sFor, forF, fVar, fOpd, fCon, f2, f1, fNil, fCons, bR, bL, bA, bLL, oR, fT, gAnd, gOr, gNot, gYes, fAnd, fOr, fNot, fIte, fTup, fLst, fCall, fCallO, fB, fM1, fSl, fiNo, fiSm, fLc, wLst, wTup, wStr, wRg1, wRg2, wZip, wEnum, gfN, gfTup, gsNil, gsCons, fLrg, fLrg3, wipeG, xSeq, xSet, xOf, xCall, xIf, xRet, xNext, xTup, xCons, xNil, xPut, xCallP, sRetX, List.getElem?_cons_zero, List.getElem?_cons_succ, List.set_cons_zero, List.set_cons_succ, tail_tup, isi_str, encL, allT]
  | yes =>
    intro n hd hn
    obtain ⟨n, rfl⟩ : ∃ k, n = k + 1 := ⟨n - 1, by simp [Sta.depth] at hn; omega⟩
    rw [phi_l_all]
    simp [runF, entry, f_l_all, enc, fSeq, fNext, sRet, sRetN, sIf, sSet, sSetO, sAsg, sApp, sFor, forF, fVar, fOpd, fCon, f2, f1, fNil, fCons, bR, bL, bA, bLL, oR, fT, gAnd, gOr, gNot, gYes, fAnd, fOr, fNot, fIte, fTup, fLst, fCall, fCallO, fB, fM1, fSl, fiNo, fiSm, fLc, wLst, wTup, wStr, wRg1, wRg2, wZip, wEnum, gfN, gfTup, gsNil, gsCons, fLrg, fLrg3, wipeG, xSeq, xSet, xOf, xCall, xIf, xRet, xNext, xTup, xCons, xNil, xPut, xCallP, sRetX, List.getElem?_cons_zero, List.getElem?_cons_succ, List.set_cons_zero, List.set_cons_succ, tail_one, encL, allT]
  | nt s ih =>
    intro n hd hn
    simp [Sta.depth] at hn hd
    obtain ⟨n, rfl⟩ : ∃ k, n = k + 1 := ⟨n - 1, by omega⟩
    exact one n s _ _ rfl (ih n (by omega) (by omega)) (Nat.le_trans (allT_len s) (big_pow (by omega)))
  | nx s ih =>
    intro n hd hn
    simp [Sta.depth] at hn hd
    obtain ⟨n, rfl⟩ : ∃ k, n = k + 1 := ⟨n - 1, by omega⟩
    exact one n s _ _ rfl (ih n (by omega) (by omega)) (Nat.le_trans (allT_len s) (big_pow (by omega)))
  | bf s ih =>
    intro n hd hn
    simp [Sta.depth] at hn hd
    obtain ⟨n, rfl⟩ : ∃ k, n = k + 1 := ⟨n - 1, by omega⟩
    exact one n s _ _ rfl (ih n (by omega) (by omega)) (Nat.le_trans (allT_len s) (big_pow (by omega)))
  | wi k s ih =>
    intro n hd hn
    simp [Sta.depth] at hn hd
    obtain ⟨n, rfl⟩ : ∃ k, n = k + 1 := ⟨n - 1, by omega⟩
    exact oneK n s _ _ _ rfl (ih n (by omega) (by omega)) (Nat.le_trans (allT_len s) (big_pow (by omega)))
  | an s t ih ih' =>
    intro n hd hn
    have hl := allT_len (.an s t)
    have hb := big_pow (d := (Sta.an s t).depth) (by omega)
    simp [Sta.depth] at hn hd
    obtain ⟨n, rfl⟩ : ∃ k, n = k + 1 := ⟨n - 1, by omega⟩
    simp only [allT, List.length_cons, List.length_append] at hl
    exact two n s t _ _ rfl (ih n (by omega) (by omega)) (ih' n (by omega) (by omega)) (by omega)
  | or s t ih ih' =>
    intro n hd hn
    have hl := allT_len (.or s t)
    have hb := big_pow (d := (Sta.or s t).depth) (by omega)
    simp [Sta.depth] at hn hd
    obtain ⟨n, rfl⟩ : ∃ k, n = k + 1 := ⟨n - 1, by omega⟩
    simp only [allT, List.length_cons, List.length_append] at hl
    exact two n s t _ _ rfl (ih n (by omega) (by omega)) (ih' n (by omega) (by omega)) (by omega)
  | un s t ih ih' =>
    intro n hd hn
    have hl := allT_len (.un s t)
    have hb := big_pow (d := (Sta.un s t).depth) (by omega)
    simp [Sta.depth] at hn hd
    obtain ⟨n, rfl⟩ : ∃ k, n = k + 1 := ⟨n - 1, by omega⟩
    simp only [allT, List.length_cons, List.length_append] at hl
    exact two n s t _ _ rfl (ih n (by omega) (by omega)) (ih' n (by omega) (by omega)) (by omega)
  | si s t ih ih' =>
    intro n hd hn
    have hl := allT_len (.si s t)
    have hb := big_pow (d := (Sta.si s t).depth) (by omega)
    simp [Sta.depth] at hn hd
    obtain ⟨n, rfl⟩ : ∃ k, n = k + 1 := ⟨n - 1, by omega⟩
    simp only [allT, List.length_cons, List.length_append] at hl
    exact two n s t _ _ rfl (ih n (by omega) (by omega)) (ih' n (by omega) (by omega)) (by omega)
def moreT : Sta → List Sta
  | .nx s => [s]
  | .un s t => [.un s t]
  | .wi k s => (List.range k).map fun j => .wi j s
  | _ => []
def stepW (found : List Sta) (one : Sta) : List Sta := found ++ (moreT one).filter fun o => !decide (o ∈ found)
def wishesT (s : Sta) : List Sta := (allT s).foldl stepW [s]
theorem moreT_fine {d : Nat} {p : Str → Prop} {s : Sta} (h : Fine d p s) : ∀ t ∈ moreT s, Fine d p t := by
  intro t ht
  have hd := h.dep
  cases s with
  | nx s => simp [moreT] at ht; subst ht; exact ⟨by simp [Sta.depth] at hd; omega, h.mks, h.ks⟩
  | un s s' => simp [moreT] at ht; subst ht; exact h
  | wi k s =>
    simp only [moreT, List.mem_map, List.mem_range] at ht
    obtain ⟨j, hj, rfl⟩ := ht
    have hk := h.ks
    exact ⟨by simpa [Sta.depth] using hd, h.mks, by have := hk.1; omega, hk.2⟩
  | _ => simp [moreT] at ht
theorem moreT_len {s : Sta} (h : ksOk s) : (moreT s).length ≤ 4 := by
  cases s with
  | wi k s => simp [moreT]; exact h.1
  | _ => simp [moreT]
theorem stepW_fine {d : Nat} {p : Str → Prop} {found : List Sta} {s : Sta} (hf : ∀ t ∈ found, Fine d p t) (h : Fine d p s) : ∀ t ∈ stepW found s, Fine d p t := by
  intro t ht
  rcases List.mem_append.mp ht with q | q
  · exact hf t q
  · exact moreT_fine h t (List.mem_filter.mp q).1
theorem stepW_len {found : List Sta} {s : Sta} (h : ksOk s) : (stepW found s).length ≤ found.length + 4 := by
  unfold stepW
  have h1 := List.length_filter_le (fun o => !decide (o ∈ found)) (moreT s)
  have h2 := moreT_len h
  rw [List.length_append]
  omega
theorem foldW_fine {d : Nat} {p : Str → Prop} : ∀ {l found : List Sta}, (∀ t ∈ found, Fine d p t) → (∀ t ∈ l, Fine d p t) → ∀ t ∈ l.foldl stepW found, Fine d p t
  | [], _, h, _ => h
  | s :: l, found, h, hl => foldW_fine (l := l) (stepW_fine h (hl s List.mem_cons_self)) fun t ht => hl t (List.mem_cons_of_mem _ ht)
theorem wishesT_fine {d : Nat} {p : Str → Prop} {s : Sta} (h : Fine d p s) : ∀ t ∈ wishesT s, Fine d p t :=
  foldW_fine (by intro t ht; simp at ht; subst ht; exact h) (allT_fine h)
theorem enc_at0 (s : Sta) : ∃ r, enc s = .tuple (.str (word s) :: r) := enc_word s
theorem ix0 (s : Sta) : oIx (enc s) (.int 0) = some (.str (word s)) := by
  obtain ⟨r, e⟩ := enc_word s
  rw [e]; simp
theorem more_part {Phi : Nm → List D → Option Rs} {d : Nat} (hd : d ≤ 18) {s : Sta} (h : Fine d okM s) (P F y z u : Sl) :
    fSeq (sSet 3 (fLst fNil)) (sIf (fT (f2 oEq (f2 oIx (fOpd 2) (fCon (.int 0))) (fCon (.str "next")))) (sSet 3 (fLst (fCons (f2 oIx (fOpd 2) (fCon (.int 1))) fNil))) (sIf (fT (f2 oEq (f2 oIx (fOpd 2) (fCon (.int 0))) (fCon (.str "until")))) (sSet 3 (fLst (fCons (fVar 2) fNil))) (sIf (fT (f2 oEq (f2 oIx (fOpd 2) (fCon (.int 0))) (fCon (.str "within")))) (sSet 3 (fLc (wRg1 (fCons (f2 oIx (fOpd 2) (fCon (.int 1))) fNil)) (gfN 5) gYes (fTup (fCons (fCon (.str "within")) (fCons (fVar 5) (fCons (f2 oIx (fOpd 2) (fCon (.int 2))) fNil)))) [5])) fNext)))
      [P, F, .va (enc s), y, z, u] = some (.nx [P, F, .va (enc s), .va (encL (moreT s)), z, u]) := by
  cases s with
  | wi k s =>
    have hk := h.ks.1
    have rg : rgOk 0 (k : Int) = true := by have := rgOk_nat (i := 0) (j := k) (by omega) (by omega); simpa using this
    have rd : rgD 0 (k : Int) = (List.range k).map fun i => .int ((i : Nat) : Int) := by have := rg_nat 0 k; simpa using this
    have lw : ∀ (a b c : Sl), lcF (gfN 5) gYes (fTup (fCons (fCon (.str "within")) (fCons (fVar 5) (fCons (f2 oIx (fOpd 2) (fCon (.int 2))) fNil)))) [a, b, .va (.tuple [.str "within", .int k, enc s]), .va (.list []), c, .no] ((List.range k).map fun i => .int ((i : Nat) : Int)) = some ((List.range k).map fun i => enc (.wi i s)) := fun a b c =>
      lcF_map (fun i : Nat => .int (i : Int)) (fun i => enc (.wi i s)) _ fun i _ => ⟨_, rfl, rfl, by simp [fSeq, fNext, sRet, sRetN, sIf, sSet, sSetO, sAsg, sApp, sFor, forF, fVar, fOpd, fCon, f2, f1, fNil, fCons, bR, bL, bA, bLL, oR, fT, gAnd, gOr, gNot, gYes, fAnd, fOr, fNot, fIte, fTup, fLst, fCall, fCallO, fB, fM1, fSl, fiNo, fiSm, fLc, wLst, wTup, wStr, wRg1, wRg2, wZip, wEnum, gfN, gfTup, gsNil, gsCons, fLrg, fLrg3, wipeG, xSeq, xSet, xOf, xCall, xIf, xRet, xNext, xTup, xCons, xNil, xPut, xCallP, sRetX, List.getElem?_cons_zero, List.getElem?_cons_succ, List.set_cons_zero, List.set_cons_succ, enc]⟩
    have kb : k ≤ big := Nat.le_trans hk (by decide)
    simp only [enc] at lw
    simp [fSeq, fNext, sRet, sRetN, sIf, sSet, sSetO, sAsg, sApp, sFor, forF, fVar, fOpd, fCon, f2, f1, fNil, fCons, bR, bL, bA, bLL, oR, fT, gAnd, gOr, gNot, gYes, fAnd, fOr, fNot, fIte, fTup, fLst, fCall, fCallO, fB, fM1, fSl, fiNo, fiSm, fLc, wLst, wTup, wStr, wRg1, wRg2, wZip, wEnum, gfN, gfTup, gsNil, gsCons, fLrg, fLrg3, wipeG, xSeq, xSet, xOf, xCall, xIf, xRet, xNext, xTup, xCons, xNil, xPut, xCallP, sRetX, List.getElem?_cons_zero, List.getElem?_cons_succ, List.set_cons_zero, List.set_cons_succ, encL, moreT, enc, rg, rd, lw, kb, List.map_map, Function.comp_def]
  | _ => simp [fSeq, fNext, sRet, sRetN, sIf, sSet, sSetO, sAsg, sApp, sFor, forF, fVar, fOpd, fCon, f2, f1, fNil, fCons, bR, bL, bA, bLL, oR, fT, gAnd, gOr, gNot, gYes, fAnd, fOr, fNot, fIte, fTup, fLst, fCall, fCallO, fB, fM1, fSl, fiNo, fiSm, fLc, wLst, wTup, wStr, wRg1, wRg2, wZip, wEnum, gfN, gfTup, gsNil, gsCons, fLrg, fLrg3, wipeG, xSeq, xSet, xOf, xCall, xIf, xRet, xNext, xTup, xCons, xNil, xPut, xCallP, sRetX, List.getElem?_cons_zero, List.getElem?_cons_succ, List.set_cons_zero, List.set_cons_succ, enc, encL, moreT]
theorem wish_body {Phi : Nm → List D → Option Rs} {d : Nat} (hd : d ≤ 18) {s : Sta} (h : Fine d okM s) {found : List Sta} (hf : ∀ t ∈ found, Fine d okM t) (hz : found.length + 4 ≤ big) (P y z u : Sl) :
    fSeq (sSet 3 (fLst fNil))
        (fSeq (sIf (fT (f2 oEq (f2 oIx (fOpd 2) (fCon (.int 0))) (fCon (.str "next")))) (sSet 3 (fLst (fCons (f2 oIx (fOpd 2) (fCon (.int 1))) fNil))) (sIf (fT (f2 oEq (f2 oIx (fOpd 2) (fCon (.int 0))) (fCon (.str "until")))) (sSet 3 (fLst (fCons (fVar 2) fNil))) (sIf (fT (f2 oEq (f2 oIx (fOpd 2) (fCon (.int 0))) (fCon (.str "within")))) (sSet 3 (fLc (wRg1 (fCons (f2 oIx (fOpd 2) (fCon (.int 1))) fNil)) (gfN 5) gYes (fTup (fCons (fCon (.str "within")) (fCons (fVar 5) (fCons (f2 oIx (fOpd 2) (fCon (.int 2))) fNil)))) [5])) fNext)))
        (sSet 1 (f2 oAdd (fOpd 1) (fLc (wLst (fVar 3)) (gfN 4) (fT (f2 (oIn true) (fOpd 4) (fOpd 1))) (fVar 4) [4])))) [P, .va (encL found), .va (enc s), y, z, u] =
      some (.nx [P, .va (encL (stepW found s)), .va (enc s), .va (encL (moreT s)), z, u]) := by
  have mp := more_part (Phi := Phi) hd h P (.va (encL found)) y z u
  have mf := moreT_fine h
  have ml := moreT_len h.ks
  have lc : ∀ (z u : Sl), lcF (gfN 4) (fT (f2 (oIn true) (fOpd 4) (fOpd 1))) (fVar 4) [P, .va (.list (found.map enc)), .va (enc s), .va (.list ((moreT s).map enc)), z, u] ((moreT s).map enc) = some (((moreT s).filter fun o => !decide (o ∈ found)).map enc) := fun z u =>
    lcF_filter enc (fun o => !decide (o ∈ found)) enc (moreT s) fun o ho => by
      have i := in_encs (l := found) (s := o) (fun t ht => (hf t ht).mks) (fun t ht => by have := (hf t ht).dep; omega) (mf o ho).mks (by have := (mf o ho).dep; omega) true
      refine ⟨_, rfl, ?_, fun _ => ?_⟩
      · simp [fSeq, fNext, sRet, sRetN, sIf, sSet, sSetO, sAsg, sApp, sFor, forF, fVar, fOpd, fCon, f2, f1, fNil, fCons, bR, bL, bA, bLL, oR, fT, gAnd, gOr, gNot, gYes, fAnd, fOr, fNot, fIte, fTup, fLst, fCall, fCallO, fB, fM1, fSl, fiNo, fiSm, fLc, wLst, wTup, wStr, wRg1, wRg2, wZip, wEnum, gfN, gfTup, gsNil, gsCons, fLrg, fLrg3, wipeG, xSeq, xSet, xOf, xCall, xIf, xRet, xNext, xTup, xCons, xNil, xPut, xCallP, sRetX, List.getElem?_cons_zero, List.getElem?_cons_succ, List.set_cons_zero, List.set_cons_succ, i]
      · simp [fSeq, fNext, sRet, sRetN, sIf, sSet, sSetO, sAsg, sApp, sFor, forF, fVar, fOpd, fCon, f2, f1, fNil, fCons, bR, bL, bA, bLL, oR, fT, gAnd, gOr, gNot, gYes, fAnd, fOr, fNot, fIte, fTup, fLst, fCall, fCallO, fB, fM1, fSl, fiNo, fiSm, fLc, wLst, wTup, wStr, wRg1, wRg2, wZip, wEnum, gfN, gfTup, gsNil, gsCons, fLrg, fLrg3, wipeG, xSeq, xSet, xOf, xCall, xIf, xRet, xNext, xTup, xCons, xNil, xPut, xCallP, sRetX, List.getElem?_cons_zero, List.getElem?_cons_succ, List.set_cons_zero, List.set_cons_succ]
  have hfl : found.length + ((moreT s).filter fun o => !decide (o ∈ found)).length ≤ big := by
    have := List.length_filter_le (fun o => !decide (o ∈ found)) (moreT s)
    omega
  have hml : (moreT s).length ≤ big := Nat.le_trans ml (by decide)
  have assoc : ∀ (f g h : Fs) (γ : Ge), fSeq f (fSeq g h) γ = fSeq (fSeq f g) h γ := by
    intro f g h γ
    unfold fSeq
    cases f γ with
    | none => rfl
    | some o => cases o <;> rfl
  rw [assoc]
  unfold fSeq at mp ⊢
  rw [mp]
  simp [fSeq, fNext, sRet, sRetN, sIf, sSet, sSetO, sAsg, sApp, sFor, forF, fVar, fOpd, fCon, f2, f1, fNil, fCons, bR, bL, bA, bLL, oR, fT, gAnd, gOr, gNot, gYes, fAnd, fOr, fNot, fIte, fTup, fLst, fCall, fCallO, fB, fM1, fSl, fiNo, fiSm, fLc, wLst, wTup, wStr, wRg1, wRg2, wZip, wEnum, gfN, gfTup, gsNil, gsCons, fLrg, fLrg3, wipeG, xSeq, xSet, xOf, xCall, xIf, xRet, xNext, xTup, xCons, xNil, xPut, xCallP, sRetX, List.getElem?_cons_zero, List.getElem?_cons_succ, List.set_cons_zero, List.set_cons_succ, encL, lc, hml, oAdd, hfl, stepW]
theorem run_wishes {d : Nat} (hd : d ≤ 18) {s : Sta} (h : Fine d okM s) {n : Nat} (hn : d + 1 ≤ n) : Phi n .l_wishes [enc s] = some (.ok (encL (wishesT s))) := by
  obtain ⟨n, rfl⟩ : ∃ k, n = k + 1 := ⟨n - 1, by omega⟩
  have ha := run_all s n (by have := h.dep; omega) (by have := h.dep; omega)
  have key : ∀ (l found : List Sta) (P x y z u : Sl), (∀ t ∈ found, Fine d okM t) → (∀ t ∈ l, Fine d okM t) → found.length + 4 * l.length ≤ big →
      ∃ x' y', forF (gfN 2) (fSeq (sSet 3 (fLst fNil))
        (fSeq (sIf (fT (f2 oEq (f2 oIx (fOpd 2) (fCon (.int 0))) (fCon (.str "next")))) (sSet 3 (fLst (fCons (f2 oIx (fOpd 2) (fCon (.int 1))) fNil))) (sIf (fT (f2 oEq (f2 oIx (fOpd 2) (fCon (.int 0))) (fCon (.str "until")))) (sSet 3 (fLst (fCons (fVar 2) fNil))) (sIf (fT (f2 oEq (f2 oIx (fOpd 2) (fCon (.int 0))) (fCon (.str "within")))) (sSet 3 (fLc (wRg1 (fCons (f2 oIx (fOpd 2) (fCon (.int 1))) fNil)) (gfN 5) gYes (fTup (fCons (fCon (.str "within")) (fCons (fVar 5) (fCons (f2 oIx (fOpd 2) (fCon (.int 2))) fNil)))) [5])) fNext)))
        (sSet 1 (f2 oAdd (fOpd 1) (fLc (wLst (fVar 3)) (gfN 4) (fT (f2 (oIn true) (fOpd 4) (fOpd 1))) (fVar 4) [4]))))) (l.map enc) [P, .va (encL found), x, y, z, u] =
      some (.nx [P, .va (encL (l.foldl stepW found)), x', y', z, u]) := by
    intro l
    induction l with
    | nil => intro found P x y z u _ _ _; exact ⟨x, y, rfl⟩
    | cons s l ih =>
      intro found P x y z u hf hl hz
      have fs := hl s List.mem_cons_self
      have sl := stepW_len (found := found) fs.ks
      simp only [List.length_cons] at hz
      obtain ⟨x', y', ih'⟩ := ih (stepW found s) P (.va (enc s)) (.va (encL (moreT s))) z u (stepW_fine hf fs) (fun t ht => hl t (List.mem_cons_of_mem _ ht)) (by omega)
      have b := wish_body (Phi := Phi n) hd fs hf (by omega) P y z u
      refine ⟨x', y', ?_⟩
      simp only [List.map_cons, forF, gfN, List.set_cons_zero, List.set_cons_succ, b, List.foldl_cons]
      exact ih'
  have la := allT_len s
  have lb := big_pow (d := 18) (by omega)
  have lp : 2 ^ s.depth ≤ 2 ^ 18 := Nat.pow_le_pow_right (by omega) (by have := h.dep; omega)
  obtain ⟨x', y', k⟩ := key (allT s) [s] (.va (enc s)) .no .no .no .no (by intro t ht; simp at ht; subst ht; exact h) (allT_fine h) (by simp; unfold big; omega)
  rw [phi_l_wishes]
  simp only [encL, List.map_cons, List.map_nil] at k ha
  unfold runF f_l_wishes
  simp only [entry, fSeq, sSet, fLst, fCons, fNil, fVar, bA_ok, bL_ok, bLL_ok, List.getElem?_cons_zero, List.getElem?_cons_succ, List.set_cons_zero, List.set_cons_succ, List.length_cons, List.length_nil, List.map_cons, List.map_nil, List.cons_append, List.nil_append, List.replicate, sFor, wLst, fCall, ha, big_1, if_true, if_pos, sRet, Nat.reduceAdd, Nat.reduceSub]
  rw [k]
  rfl
end K04

namespace K04
open PySem PySem.Spec PyProof.Rows L2 Py
/-! ### the fitting -/
def fitT (most : Nat) : Sta → Sta
  | .mark m => .mark m
  | .yes => .yes
  | .nt s => if (wishesT (.nt s)).length ≤ most then .nt s else fitT most s
  | .an s t => if (wishesT (.an s t)).length ≤ most then .an s t else fitT most t
  | .or s t => if (wishesT (.or s t)).length ≤ most then .or s t else fitT most t
  | .nx s => if (wishesT (.nx s)).length ≤ most then .nx s else fitT most s
  | .un s t => if (wishesT (.un s t)).length ≤ most then .un s t else fitT most t
  | .wi k s => if (wishesT (.wi k s)).length ≤ most then .wi k s else fitT most s
  | .bf s => if (wishesT (.bf s)).length ≤ most then .bf s else fitT most s
  | .si s t => if (wishesT (.si s t)).length ≤ most then .si s t else fitT most t
theorem fitT_len {most : Nat} (h1 : 1 ≤ most) : ∀ s : Sta, (wishesT (fitT most s)).length ≤ most := by
  intro s
  induction s with
  | mark m => simpa [fitT, wishesT, allT, stepW, moreT] using h1
  | yes => simpa [fitT, wishesT, allT, stepW, moreT] using h1
  | nt s ih => unfold fitT; split; assumption; exact ih
  | nx s ih => unfold fitT; split; assumption; exact ih
  | wi k s ih => unfold fitT; split; assumption; exact ih
  | bf s ih => unfold fitT; split; assumption; exact ih
  | an s t ih ih' => unfold fitT; split; assumption; exact ih'
  | or s t ih ih' => unfold fitT; split; assumption; exact ih'
  | un s t ih ih' => unfold fitT; split; assumption; exact ih'
  | si s t ih ih' => unfold fitT; split; assumption; exact ih'
theorem fitT_fine {most d : Nat} {p : Str → Prop} : ∀ {s : Sta}, Fine d p s → Fine d p (fitT most s) := by
  intro s
  induction s with
  | mark m => intro h; exact h
  | yes => intro h; exact h
  | nt s ih => intro h; have hd := h.dep; simp [Sta.depth] at hd; unfold fitT; split; exact h; exact ih ⟨by omega, h.mks, h.ks⟩
  | nx s ih => intro h; have hd := h.dep; simp [Sta.depth] at hd; unfold fitT; split; exact h; exact ih ⟨by omega, h.mks, h.ks⟩
  | wi k s ih => intro h; have hd := h.dep; simp [Sta.depth] at hd; unfold fitT; split; exact h; exact ih ⟨by omega, h.mks, h.ks.2⟩
  | bf s ih => intro h; have hd := h.dep; simp [Sta.depth] at hd; unfold fitT; split; exact h; exact ih ⟨by omega, h.mks, h.ks⟩
  | an s t ih ih' => intro h; have hd := h.dep; simp [Sta.depth] at hd; unfold fitT; split; exact h; exact ih' ⟨by omega, h.mks.2, h.ks.2⟩
  | or s t ih ih' => intro h; have hd := h.dep; simp [Sta.depth] at hd; unfold fitT; split; exact h; exact ih' ⟨by omega, h.mks.2, h.ks.2⟩
  | un s t ih ih' => intro h; have hd := h.dep; simp [Sta.depth] at hd; unfold fitT; split; exact h; exact ih' ⟨by omega, h.mks.2, h.ks.2⟩
  | si s t ih ih' => intro h; have hd := h.dep; simp [Sta.depth] at hd; unfold fitT; split; exact h; exact ih' ⟨by omega, h.mks.2, h.ks.2⟩
theorem foldW_len {l : List Sta} (hl : ∀ t ∈ l, ksOk t) : ∀ found : List Sta, (l.foldl stepW found).length ≤ found.length + 4 * l.length := by
  induction l with
  | nil => intro f; simp
  | cons s l ih =>
    intro f
    have h1 := ih (fun t ht => hl t (List.mem_cons_of_mem _ ht)) (stepW f s)
    have h2 := stepW_len (found := f) (hl s List.mem_cons_self)
    simp only [List.foldl_cons, List.length_cons]
    omega
theorem wishesT_len {d : Nat} {p : Str → Prop} {s : Sta} (hd : d ≤ 18) (h : Fine d p s) : (wishesT s).length ≤ big := by
  have h1 := foldW_len (l := allT s) (fun t ht => (allT_fine h t ht).ks) [s]
  have h2 := allT_len s
  have h3 : 2 ^ s.depth ≤ 2 ^ 18 := Nat.pow_le_pow_right (by omega) (by have := h.dep; omega)
  unfold wishesT
  simp only [List.length_cons, List.length_nil] at h1
  unfold big
  omega
theorem neg1 (ds : List D) (a : D) (h : ds.getLast? = some a) : oIx (.tuple ds) (.int (-1)) = some a := by
  rw [oIx_tup, atI_neg1 ds a h]
theorem fit_loop {d n : Nat} (hd : d ≤ 18) (hn : d + 1 ≤ n) {most : Nat} (h1 : 1 ≤ most) : ∀ {s : Sta}, Fine d okM s → ∀ m, s.depth + 1 ≤ m →
    whF (fT (f2 oGt (fB oLen (fCons (fCall (Phi n .l_wishes) (fCons (fVar 0) fNil)) fNil)) (fOpd 1))) (sSet 0 (f2 oIx (fOpd 0) (f1 oNeg (fCon (.int 1))))) m [.va (enc s), .va (.int most)]
      = some (.nx [.va (enc (fitT most s)), .va (.int most)]) := by
  have stop : ∀ (s : Sta) (m : Nat), Fine d okM s → (wishesT s).length ≤ most → whF (fT (f2 oGt (fB oLen (fCons (fCall (Phi n .l_wishes) (fCons (fVar 0) fNil)) fNil)) (fOpd 1))) (sSet 0 (f2 oIx (fOpd 0) (f1 oNeg (fCon (.int 1))))) (m + 1) [.va (enc s), .va (.int most)] = some (.nx [.va (enc s), .va (.int most)]) := by
    intro s m h hl
    have w := run_wishes hd h hn
    have c : ¬ ((most : Int) < (((wishesT s).length : Nat) : Int)) := by omega
    unfold whF
    simp [fSeq, fNext, sRet, sRetN, sIf, sSet, sSetO, sAsg, sApp, sFor, forF, fVar, fOpd, fCon, f2, f1, fNil, fCons, bR, bL, bA, bLL, oR, fT, gAnd, gOr, gNot, gYes, fAnd, fOr, fNot, fIte, fTup, fLst, fCall, fCallO, fB, fM1, fSl, fiNo, fiSm, fLc, wLst, wTup, wStr, wRg1, wRg2, wZip, wEnum, gfN, gfTup, gsNil, gsCons, fLrg, fLrg3, wipeG, xSeq, xSet, xOf, xCall, xIf, xRet, xNext, xTup, xCons, xNil, xPut, xCallP, sRetX, List.getElem?_cons_zero, List.getElem?_cons_succ, List.set_cons_zero, List.set_cons_succ, w, encL, c]
  have go : ∀ (s t : Sta) (m : Nat), Fine d okM s → ¬ (wishesT s).length ≤ most → oIx (enc s) (.int (-1)) = some (enc t) → whF (fT (f2 oGt (fB oLen (fCons (fCall (Phi n .l_wishes) (fCons (fVar 0) fNil)) fNil)) (fOpd 1))) (sSet 0 (f2 oIx (fOpd 0) (f1 oNeg (fCon (.int 1))))) (m + 1) [.va (enc s), .va (.int most)] = whF (fT (f2 oGt (fB oLen (fCons (fCall (Phi n .l_wishes) (fCons (fVar 0) fNil)) fNil)) (fOpd 1))) (sSet 0 (f2 oIx (fOpd 0) (f1 oNeg (fCon (.int 1))))) m [.va (enc t), .va (.int most)] := by
    intro s t m h hl e
    have w := run_wishes hd h hn
    have c : (most : Int) < (((wishesT s).length : Nat) : Int) := by omega
    conv => lhs; unfold whF
    simp [fSeq, fNext, sRet, sRetN, sIf, sSet, sSetO, sAsg, sApp, sFor, forF, fVar, fOpd, fCon, f2, f1, fNil, fCons, bR, bL, bA, bLL, oR, fT, gAnd, gOr, gNot, gYes, fAnd, fOr, fNot, fIte, fTup, fLst, fCall, fCallO, fB, fM1, fSl, fiNo, fiSm, fLc, wLst, wTup, wStr, wRg1, wRg2, wZip, wEnum, gfN, gfTup, gsNil, gsCons, fLrg, fLrg3, wipeG, xSeq, xSet, xOf, xCall, xIf, xRet, xNext, xTup, xCons, xNil, xPut, xCallP, sRetX, List.getElem?_cons_zero, List.getElem?_cons_succ, List.set_cons_zero, List.set_cons_succ, w, encL, c, oNeg, e]
  intro s
  induction s with
  | mark x => intro h m hm; obtain ⟨m, rfl⟩ : ∃ k, m = k + 1 := ⟨m - 1, by omega⟩; exact stop _ m h (by have := fitT_len h1 (.mark x); exact this)
  | yes => intro h m hm; obtain ⟨m, rfl⟩ : ∃ k, m = k + 1 := ⟨m - 1, by omega⟩; exact stop _ m h (by have := fitT_len h1 .yes; exact this)
  | nt s ih =>
    intro h m hm; have hk := h.dep; simp [Sta.depth] at hk hm; obtain ⟨m, rfl⟩ : ∃ k, m = k + 1 := ⟨m - 1, by omega⟩
    unfold fitT; split
    · exact stop _ m h (by assumption)
    · rw [go _ s m h (by assumption) (neg1 _ _ rfl)]; exact ih ⟨by omega, h.mks, h.ks⟩ m (by omega)
  | nx s ih =>
    intro h m hm; have hk := h.dep; simp [Sta.depth] at hk hm; obtain ⟨m, rfl⟩ : ∃ k, m = k + 1 := ⟨m - 1, by omega⟩
    unfold fitT; split
    · exact stop _ m h (by assumption)
    · rw [go _ s m h (by assumption) (neg1 _ _ rfl)]; exact ih ⟨by omega, h.mks, h.ks⟩ m (by omega)
  | bf s ih =>
    intro h m hm; have hk := h.dep; simp [Sta.depth] at hk hm; obtain ⟨m, rfl⟩ : ∃ k, m = k + 1 := ⟨m - 1, by omega⟩
    unfold fitT; split
    · exact stop _ m h (by assumption)
    · rw [go _ s m h (by assumption) (neg1 _ _ rfl)]; exact ih ⟨by omega, h.mks, h.ks⟩ m (by omega)
  | wi k s ih =>
    intro h m hm; have hk := h.dep; simp [Sta.depth] at hk hm; obtain ⟨m, rfl⟩ : ∃ k, m = k + 1 := ⟨m - 1, by omega⟩
    unfold fitT; split
    · exact stop _ m h (by assumption)
    · rw [go _ s m h (by assumption) (neg1 _ _ rfl)]; exact ih ⟨by omega, h.mks, h.ks.2⟩ m (by omega)
  | an s t ih ih' =>
    intro h m hm; have hk := h.dep; simp [Sta.depth] at hk hm; obtain ⟨m, rfl⟩ : ∃ k, m = k + 1 := ⟨m - 1, by omega⟩
    unfold fitT; split
    · exact stop _ m h (by assumption)
    · rw [go _ t m h (by assumption) (neg1 _ _ rfl)]; exact ih' ⟨by omega, h.mks.2, h.ks.2⟩ m (by omega)
  | or s t ih ih' =>
    intro h m hm; have hk := h.dep; simp [Sta.depth] at hk hm; obtain ⟨m, rfl⟩ : ∃ k, m = k + 1 := ⟨m - 1, by omega⟩
    unfold fitT; split
    · exact stop _ m h (by assumption)
    · rw [go _ t m h (by assumption) (neg1 _ _ rfl)]; exact ih' ⟨by omega, h.mks.2, h.ks.2⟩ m (by omega)
  | un s t ih ih' =>
    intro h m hm; have hk := h.dep; simp [Sta.depth] at hk hm; obtain ⟨m, rfl⟩ : ∃ k, m = k + 1 := ⟨m - 1, by omega⟩
    unfold fitT; split
    · exact stop _ m h (by assumption)
    · rw [go _ t m h (by assumption) (neg1 _ _ rfl)]; exact ih' ⟨by omega, h.mks.2, h.ks.2⟩ m (by omega)
  | si s t ih ih' =>
    intro h m hm; have hk := h.dep; simp [Sta.depth] at hk hm; obtain ⟨m, rfl⟩ : ∃ k, m = k + 1 := ⟨m - 1, by omega⟩
    unfold fitT; split
    · exact stop _ m h (by assumption)
    · rw [go _ t m h (by assumption) (neg1 _ _ rfl)]; exact ih' ⟨by omega, h.mks.2, h.ks.2⟩ m (by omega)
theorem run_fit {d n : Nat} (hd : d ≤ 18) (hn : d + 2 ≤ n) {most : Nat} (h1 : 1 ≤ most) {s : Sta} (h : Fine d okM s) : Phi n .l_fit [enc s, .int most] = some (.ok (enc (fitT most s))) := by
  obtain ⟨n, rfl⟩ : ∃ k, n = k + 1 := ⟨n - 1, by omega⟩
  have hf : s.depth + 1 ≤ fuel := Nat.le_trans (show s.depth + 1 ≤ 19 by have := h.dep; omega) (by unfold fuel; decide)
  have k := fit_loop hd (n := n) (by omega) h1 h fuel hf
  rw [phi_l_fit]
  unfold runF f_l_fit
  simp [entry, fSeq, sWh, k, sRet, fVar]
end K04

namespace K04
open PySem PySem.Spec PyProof.Rows L2 Py
/-! ### the names -/
/-- a short text of small letters -/
structure Low (n : Nat) (s : Str) : Prop where
  let_ : ∀ x ∈ s.cps.toList, 97 ≤ x ∧ x ≤ 122
  len : s.length ≤ n
theorem Low.ok {n : Nat} {s : Str} (h : Low n s) : okM s := by
  unfold okM PyData.strOk
  rw [← Array.all_toList, List.all_eq_true]
  intro x hx
  have := h.let_ x hx
  exact decide_eq_true (by omega)
theorem Low.cut {n : Nat} {s : Str} (h : Low n s) (lo hi : Option Int) : Low n (cutS s lo hi) :=
  ⟨fun x hx => by
    unfold cutS at hx
    simp only [List.toList_toArray] at hx
    exact h.let_ x (List.drop_subset _ _ (List.take_subset _ _ hx)), Nat.le_trans (cutS_length s lo hi) h.len⟩
theorem Low.app {n m : Nat} {s t : Str} (h : Low n s) (h2 : Low m t) : Low (n + m) (s ++ t) :=
  ⟨fun x hx => by
    have e : (s ++ t).cps.toList = s.cps.toList ++ t.cps.toList := TL.tl_append s t
    rw [e] at hx
    rcases List.mem_append.mp hx with q | q
    · exact h.let_ x q
    · exact h2.let_ x q, by
    have : (s ++ t).length = s.length + t.length := Str.length_append s t
    have := h.len; have := h2.len; omega⟩
def letS (x : Int) : Str := ⟨#[97 + (x % 26).toNat]⟩
theorem letS_low (x : Int) : Low 1 (letS x) :=
  ⟨fun y hy => by
    unfold letS at hy
    simp only [List.mem_singleton] at hy
    subst hy
    have h1 := Int.emod_nonneg x (show (26 : Int) ≠ 0 by decide)
    have h2 := Int.emod_lt_of_pos x (show (0 : Int) < 26 by decide)
    omega, Nat.le_refl _⟩
theorem letters_at : ∀ j : _root_.Fin 26, atI ("abcdefghijklmnopqrstuvwxyz" : Str).cps.toList (j.val : Int) = some (97 + j.val) := by decide +kernel
theorem letters_len : ("abcdefghijklmnopqrstuvwxyz" : Str).length ≤ big := by decide +kernel
theorem ix_letter (x : Int) : oIx (.str "abcdefghijklmnopqrstuvwxyz") (.int (x % 26)) = some (.str (letS x)) := by
  have h1 := Int.emod_nonneg x (show (26 : Int) ≠ 0 by decide)
  have h2 := Int.emod_lt_of_pos x (show (0 : Int) < 26 by decide)
  have h := letters_at ⟨(x % 26).toNat, by omega⟩
  have e : (((x % 26).toNat : Nat) : Int) = x % 26 := Int.toNat_of_nonneg h1
  simp only [e] at h
  show (if ("abcdefghijklmnopqrstuvwxyz" : Str).length ≤ big then (match atI ("abcdefghijklmnopqrstuvwxyz" : Str).cps.toList (x % 26) with | some c => some (PyData.str ⟨#[c]⟩) | none => none) else none) = _
  rw [if_pos letters_len, h]
  rfl
theorem joinN_low : ∀ l : List Str, (∀ s ∈ l, Low 1 s) → Low l.length (Str.join "" l)
  | [], _ => ⟨fun x hx => (by cases hx), Nat.le_refl _⟩
  | [a], h => h a List.mem_cons_self
  | a :: b :: r, h => by
    have e : Str.join "" (a :: b :: r) = a ++ "" ++ Str.join "" (b :: r) := rfl
    have ih := joinN_low (b :: r) fun s hs => h s (List.mem_cons_of_mem _ hs)
    have he : Low 0 ("" : Str) := ⟨fun x hx => (by cases hx), Nat.le_refl _⟩
    have := ((h a List.mem_cons_self).app he).app ih
    rw [e]
    simp only [List.length_cons] at this ⊢
    exact ⟨this.let_, by have := this.len; omega⟩
theorem join_low (l : List Str) (h : ∀ s ∈ l, Low 1 s) : Low l.length (Txt.join "" l) := by
  rw [TL.join_eq]; exact joinN_low l h
theorem oSl_str {z : Str} (h : z.length ≤ big) (lo hi : Option Int) : oSl lo hi (.str z) = some (.str (cutS z lo hi)) := by
  show (if z.length ≤ big then some (PyData.str (cutS z lo hi)) else none) = _; rw [if_pos h]
theorem oAdd_str {y z : Str} (h : y.length + z.length ≤ big) : oAdd (.str y) (.str z) = some (.str (y ++ z)) := by
  show (if y.length + z.length ≤ big then some (PyData.str (y ++ z)) else none) = _; rw [if_pos h]
theorem oJoin_six {a b c d e f : Str} (h : ∀ s ∈ [a, b, c, d, e, f], Low 1 s) : oJoin "" (.list [.str a, .str b, .str c, .str d, .str e, .str f]) = some (.str (Txt.join "" [a, b, c, d, e, f])) := by
  have hs : strsOf [.str a, .str b, .str c, .str d, .str e, .str f] = some [a, b, c, d, e, f] := rfl
  have z : (([a, b, c, d, e, f] : List Str).map (·.length)).sum + [a, b, c, d, e, f].length * (("" : Str)).length ≤ big := by
    have h1 := (h a (by simp)).len
    have h2 := (h b (by simp)).len
    have h3 := (h c (by simp)).len
    have h4 := (h d (by simp)).len
    have h5 := (h e (by simp)).len
    have h6 := (h f (by simp)).len
    have h0 : ("" : Str).length = 0 := rfl
    rw [h0]
    simp only [List.map_cons, List.map_nil, List.sum_cons, List.sum_nil, big]
    omega
  unfold oJoin
  simp only [hs, if_pos z]
theorem mul5 (j : Int) : oMul (.int 5) (.int j) = some (.int (5 * j)) := oMul_int _ _ (.inl ⟨by decide, by decide⟩)
theorem mul7 (j : Int) : oMul (.int 7) (.int j) = some (.int (7 * j)) := oMul_int _ _ (.inl ⟨by decide, by decide⟩)
theorem rg6 : rgD 0 6 = [.int 0, .int 1, .int 2, .int 3, .int 4, .int 5] := rfl
theorem rg3 : rgD 0 3 = [.int 0, .int 1, .int 2] := rfl
theorem rgo6 : rgOk 0 6 = true := by decide
theorem rgo3 : rgOk 0 3 = true := by decide
theorem run_names (n : Nat) (c : Int) : ∃ a b d : Str, Low 13 a ∧ Low 13 b ∧ Low 13 d ∧ Phi (n + 1) .l_names [.int c] = some (.ok (.list [.str a, .str b, .str d])) := by
  rw [phi_l_names]
  have hl : ∀ s ∈ [letS (c / 7), letS (c / 7 + 5), letS (c / 7 + 10), letS (c / 7 + 15), letS (c / 7 + 20), letS (c / 7 + 25)], Low 1 s := by
    intro s hs
    simp only [List.mem_cons, List.not_mem_nil, or_false] at hs
    rcases hs with rfl | rfl | rfl | rfl | rfl | rfl <;> exact letS_low _
  have hj := oJoin_six hl
  have hr := join_low _ hl
  generalize hz : Txt.join "" [letS (c / 7), letS (c / 7 + 5), letS (c / 7 + 10), letS (c / 7 + 15), letS (c / 7 + 20), letS (c / 7 + 25)] = z at hj hr
  have hr : Low 6 z := hr
  have hb : z.length ≤ big := Nat.le_trans hr.len (by decide)
  have sl := fun lo hi => oSl_str hb lo hi
  have hrest : lcF (gfN 8) gYes (f2 oIx (fOpd 1) (f2 oMod (f2 oAdd (f2 oDiv (fOpd 0) (fCon (.int 7))) (f2 oMul (fCon (.int 5)) (fOpd 8))) (fCon (.int 26)))) [.va (.int c), .va (.str "abcdefghijklmnopqrstuvwxyz"), .no, .no, .no, .no, .no, .no, .no] [.int 0, .int 1, .int 2, .int 3, .int 4, .int 5]
      = some [.str (letS (c / 7)), .str (letS (c / 7 + 5)), .str (letS (c / 7 + 10)), .str (letS (c / 7 + 15)), .str (letS (c / 7 + 20)), .str (letS (c / 7 + 25))] := by
    simp [lcF, fSeq, fNext, sRet, sRetN, sIf, sSet, sSetO, sAsg, sApp, sFor, forF, fVar, fOpd, fCon, f2, f1, fNil, fCons, bR, bL, bA, bLL, oR, fT, gAnd, gOr, gNot, gYes, fAnd, fOr, fNot, fIte, fTup, fLst, fCall, fCallO, fB, fM1, fSl, fiNo, fiSm, fLc, wLst, wTup, wStr, wRg1, wRg2, wZip, wEnum, gfN, gfTup, gsNil, gsCons, fLrg, fLrg3, wipeG, xSeq, xSet, xOf, xCall, xIf, xRet, xNext, xTup, xCons, xNil, xPut, xCallP, sRetX, List.getElem?_cons_zero, List.getElem?_cons_succ, List.set_cons_zero, List.set_cons_succ, mul5, ix_letter]
  by_cases h2 : c % 3 = 2
  · refine ⟨cutS z none (some (1 + c / 3 % 4 + 0)), cutS z none (some (1 + c / 3 % 4 + 1)), cutS z none (some (1 + c / 3 % 4 + 2)), ?_, ?_, ?_, ?_⟩
    · exact ⟨(hr.cut _ _).let_, Nat.le_trans (hr.cut _ _).len (by decide)⟩
    · exact ⟨(hr.cut _ _).let_, Nat.le_trans (hr.cut _ _).len (by decide)⟩
    · exact ⟨(hr.cut _ _).let_, Nat.le_trans (hr.cut _ _).len (by decide)⟩
    have hsl : lcF (gfN 6) gYes (fSl (fOpd 2) fiNo (fiSm (f2 oAdd (fOpd 3) (fOpd 6)))) [.va (.int c), .va (.str "abcdefghijklmnopqrstuvwxyz"), .va (.str z), .va (.int (1 + c / 3 % 4)), .no, .no, .no, .no, .no] [.int 0, .int 1, .int 2]
        = some [.str (cutS z none (some (1 + c / 3 % 4 + 0))), .str (cutS z none (some (1 + c / 3 % 4 + 1))), .str (cutS z none (some (1 + c / 3 % 4 + 2)))] := by
      simp [lcF, fSeq, fNext, sRet, sRetN, sIf, sSet, sSetO, sAsg, sApp, sFor, forF, fVar, fOpd, fCon, f2, f1, fNil, fCons, bR, bL, bA, bLL, oR, fT, gAnd, gOr, gNot, gYes, fAnd, fOr, fNot, fIte, fTup, fLst, fCall, fCallO, fB, fM1, fSl, fiNo, fiSm, fLc, wLst, wTup, wStr, wRg1, wRg2, wZip, wEnum, gfN, gfTup, gsNil, gsCons, fLrg, fLrg3, wipeG, xSeq, xSet, xOf, xCall, xIf, xRet, xNext, xTup, xCons, xNil, xPut, xCallP, sRetX, List.getElem?_cons_zero, List.getElem?_cons_succ, List.set_cons_zero, List.set_cons_succ, sl]
    unfold runF f_l_names
    simp [entry, fSeq, fNext, sRet, sRetN, sIf, sSet, sSetO, sAsg, sApp, sFor, forF, fVar, fOpd, fCon, f2, f1, fNil, fCons, bR, bL, bA, bLL, oR, fT, gAnd, gOr, gNot, gYes, fAnd, fOr, fNot, fIte, fTup, fLst, fCall, fCallO, fB, fM1, fSl, fiNo, fiSm, fLc, wLst, wTup, wStr, wRg1, wRg2, wZip, wEnum, gfN, gfTup, gsNil, gsCons, fLrg, fLrg3, wipeG, xSeq, xSet, xOf, xCall, xIf, xRet, xNext, xTup, xCons, xNil, xPut, xCallP, sRetX, List.getElem?_cons_zero, List.getElem?_cons_succ, List.set_cons_zero, List.set_cons_succ, rg6, rg3, rgo6, rgo3, hrest, hj, h2, List.replicate, hsl]
  · have hs := Int.emod_nonneg (c / 3) (show (6 : Int) ≠ 0 by decide)
    have c2 : (c % 3 == 2) = false := beq_eq_false_iff_ne.mpr h2
    have w1 : ∀ x : Int, (cutS z none (some (c / 18 % (c / 3 % 6 + 1)))).length + (letS x).length ≤ big := fun x => by
      have h1 := (hr.cut none (some (c / 18 % (c / 3 % 6 + 1)))).len
      have h2 := (letS_low x).len
      unfold big; omega
    have w2 : ∀ x : Int, (cutS z none (some (c / 18 % (c / 3 % 6 + 1))) ++ letS x).length + (cutS z (some (c / 18 % (c / 3 % 6 + 1))) (some (c / 3 % 6))).length ≤ big := fun x => by
      have h1 := ((hr.cut none (some (c / 18 % (c / 3 % 6 + 1)))).app (letS_low x)).len
      have h2 := (hr.cut (some (c / 18 % (c / 3 % 6 + 1))) (some (c / 3 % 6))).len
      unfold big; omega
    have low : ∀ x : Int, Low 13 (cutS z none (some (c / 18 % (c / 3 % 6 + 1))) ++ letS x ++ cutS z (some (c / 18 % (c / 3 % 6 + 1))) (some (c / 3 % 6))) := fun x =>
      ((hr.cut none (some (c / 18 % (c / 3 % 6 + 1)))).app (letS_low x)).app (hr.cut (some (c / 18 % (c / 3 % 6 + 1))) (some (c / 3 % 6)))
    refine ⟨_, _, _, low (c / 90 + 7 * 0), low (c / 90 + 7 * 1), low (c / 90 + 7 * 2), ?_⟩
    have pos : (0 : Int) < c / 3 % 6 + 1 := by omega
    unfold runF f_l_names
    simp [entry, fSeq, fNext, sRet, sRetN, sIf, sSet, sSetO, sAsg, sApp, sFor, forF, fVar, fOpd, fCon, f2, f1, fNil, fCons, bR, bL, bA, bLL, oR, fT, gAnd, gOr, gNot, gYes, fAnd, fOr, fNot, fIte, fTup, fLst, fCall, fCallO, fB, fM1, fSl, fiNo, fiSm, fLc, wLst, wTup, wStr, wRg1, wRg2, wZip, wEnum, gfN, gfTup, gsNil, gsCons, fLrg, fLrg3, wipeG, xSeq, xSet, xOf, xCall, xIf, xRet, xNext, xTup, xCons, xNil, xPut, xCallP, sRetX, List.getElem?_cons_zero, List.getElem?_cons_succ, List.set_cons_zero, List.set_cons_succ, rg6, rg3, rgo6, rgo3, hrest, hj, c2, List.replicate, sl, ix_letter, mul7, oAdd_str (w1 _), oAdd_str (w2 _), oMod_int _ _ pos]
end K04

namespace K04
open PySem PySem.Spec PyProof.Rows L2 Py
/-! ### the cells, and the run -/
def cellT (ns : List Int) (k : Nat) : Int := ns.getD k 0
def nsD (ns : List Int) : D := .list (ns.map .int)
theorem run_cell (n : Nat) (ns : List Int) (k : Nat) : Phi (n + 1) .l_cell_at [nsD ns, .int k] = some (.ok (.int (cellT ns k))) := by
  rw [phi_l_cell_at]
  unfold runF f_l_cell_at
  by_cases h : k < ns.length
  · have h1 : (k : Int) < (ns.length : Int) := by omega
    have e : atI (ns.map PyData.int) (k : Int) = some (.int (cellT ns k)) := by
      refine atI_cast ?_
      rw [List.getElem?_map, List.getElem?_eq_getElem h]
      simp [cellT, List.getD, List.getElem?_eq_getElem h]
    simp [entry, fSeq, fNext, sRet, sRetN, sIf, sSet, sSetO, sAsg, sApp, sFor, forF, fVar, fOpd, fCon, f2, f1, fNil, fCons, bR, bL, bA, bLL, oR, fT, gAnd, gOr, gNot, gYes, fAnd, fOr, fNot, fIte, fTup, fLst, fCall, fCallO, fB, fM1, fSl, fiNo, fiSm, fLc, wLst, wTup, wStr, wRg1, wRg2, wZip, wEnum, gfN, gfTup, gsNil, gsCons, fLrg, fLrg3, wipeG, xSeq, xSet, xOf, xCall, xIf, xRet, xNext, xTup, xCons, xNil, xPut, xCallP, sRetX, List.getElem?_cons_zero, List.getElem?_cons_succ, List.set_cons_zero, List.set_cons_succ, nsD, h, e]
  · have h1 : ¬ (k : Int) < (ns.length : Int) := by omega
    have e : cellT ns k = 0 := by unfold cellT; rw [List.getD_eq_getElem?_getD, List.getElem?_eq_none (by omega)]; rfl
    simp [entry, fSeq, fNext, sRet, sRetN, sIf, sSet, sSetO, sAsg, sApp, sFor, forF, fVar, fOpd, fCon, f2, f1, fNil, fCons, bR, bL, bA, bLL, oR, fT, gAnd, gOr, gNot, gYes, fAnd, fOr, fNot, fIte, fTup, fLst, fCall, fCallO, fB, fM1, fSl, fiNo, fiSm, fLc, wLst, wTup, wStr, wRg1, wRg2, wZip, wEnum, gfN, gfTup, gsNil, gsCons, fLrg, fLrg3, wipeG, xSeq, xSet, xOf, xCall, xIf, xRet, xNext, xTup, xCons, xNil, xPut, xCallP, sRetX, List.getElem?_cons_zero, List.getElem?_cons_succ, List.set_cons_zero, List.set_cons_succ, nsD, h, e]
theorem cut_any (ds : List D) (i j : Nat) (h2 : i ≤ j) : Py.cutD ds (some (i : Int)) (some (j : Int)) = (ds.drop i).take (j - i) := by
  by_cases h : i ≤ ds.length
  · exact cut_mid ds i j h h2
  · unfold Py.cutD
    rw [HT.sIx_nat, HT.sIx_nat, Nat.min_eq_right (by omega), Nat.min_eq_right (by omega), Nat.sub_self, List.take_zero, List.drop_eq_nil_of_le (by omega), List.take_nil]
def pick (l : List Str) (x : Int) : Str := l.getD (x % 8).toNat ""
theorem pick_at (l : List Str) (hl : l.length = 8) (x : Int) : atI (l.map PyData.str) (x % 8) = some (.str (pick l x)) := by
  have h1 := Int.emod_nonneg x (show (8 : Int) ≠ 0 by decide)
  have h2 := Int.emod_lt_of_pos x (show (0 : Int) < 8 by decide)
  have e : (((x % 8).toNat : Nat) : Int) = x % 8 := Int.toNat_of_nonneg h1
  rw [← e]
  refine atI_cast ?_
  have hi : (x % 8).toNat < l.length := by omega
  rw [List.getElem?_map, List.getElem?_eq_getElem hi]
  simp [pick, List.getD, List.getElem?_eq_getElem hi]
theorem pick_mem (l : List Str) (hl : l.length = 8) (x : Int) : pick l x ∈ l := by
  have h1 := Int.emod_nonneg x (show (8 : Int) ≠ 0 by decide)
  have h2 := Int.emod_lt_of_pos x (show (0 : Int) < 8 by decide)
  have hi : (x % 8).toNat < l.length := by omega
  unfold pick
  rw [List.getD_eq_getElem?_getD, List.getElem?_eq_getElem hi]
  exact List.getElem_mem hi
theorem oAdd_lst (x y : List D) : oAdd (.list x) (.list y) = if x.length + y.length ≤ big then some (.list (x ++ y)) else none := rfl
theorem zq_low : Low 2 ("zq" : Str) := ⟨by decide +kernel, by decide +kernel⟩
theorem empty_low : Low 0 ("" : Str) := ⟨fun x hx => (by cases hx), Nat.le_refl _⟩
theorem Low.up {n m : Nat} {s : Str} (h : Low n s) (e : n ≤ m) : Low m s := ⟨h.let_, Nat.le_trans h.len e⟩
theorem run_run (n : Nat) (ns : List Int) (b m : Nat) (hm : m ≤ 10000) {x y z : Str} (hx : Low 13 x) (hy : Low 13 y) (hz : Low 13 z) :
    ∃ run : List Str, run.length ≤ m ∧ (∀ s ∈ run, Low 15 s) ∧ Phi (n + 1) .l_run [nsD ns, .int b, .list [.str x, .str y, .str z], .int m] = some (.ok (.list (run.map .str))) := by
  have hw : Low 15 (cutS z none (some 1) ++ "zq") := (hz.cut none (some 1)).app zq_low
  refine ⟨((ns.drop b).take m).map (pick [x, y, z, "", cutS z none (some 1) ++ "zq", x, y, z]), ?_, ?_, ?_⟩
  · simp; omega
  · intro s hs
    obtain ⟨i, _, rfl⟩ := List.mem_map.mp hs
    have := pick_mem [x, y, z, "", cutS z none (some 1) ++ "zq", x, y, z] rfl i
    simp only [List.mem_cons, List.not_mem_nil, or_false] at this
    rcases this with e | e | e | e | e | e | e | e <;> rw [e]
    · exact hx.up (by decide)
    · exact hy.up (by decide)
    · exact hz.up (by decide)
    · exact empty_low.up (by decide)
    · exact hw
    · exact hx.up (by decide)
    · exact hy.up (by decide)
    · exact hz.up (by decide)
  · have hb : z.length ≤ big := Nat.le_trans hz.len (by decide)
    have sl := fun lo hi => oSl_str hb lo hi
    have ad := oAdd_str (y := cutS z none (some 1)) (z := "zq") (by have h1 := (hz.cut none (some 1)).len; have h2 := zq_low.len; unfold big; omega)
    have ct := cut_any (ns.map PyData.int) b (b + m) (by omega)
    have e1 : ((b + m : Nat) : Int) = (b : Int) + m := by omega
    rw [e1, Nat.add_sub_cancel_left, ← List.map_drop, ← List.map_take] at ct
    have hz2 : min m (ns.length - b) ≤ big := by unfold big; omega
    have lc := lcF_map (gf := gfN 5) (cf := gYes) (ef := f2 oIx (fOpd 4) (f2 oMod (fOpd 5) (fCon (.int 8)))) (γ := [.va (nsD ns), .va (.int b), .va (.list [.str x, .str y, .str z]), .va (.int m), .va (.list [.str x, .str y, .str z, .str "", .str (cutS z none (some 1) ++ "zq"), .str x, .str y, .str z]), .no]) PyData.int (fun i => .str (pick [x, y, z, "", cutS z none (some 1) ++ "zq", x, y, z] i)) ((ns.drop b).take m) (fun i _ => ⟨_, rfl, rfl, by
      have p := pick_at [x, y, z, "", cutS z none (some 1) ++ "zq", x, y, z] rfl i
      simp only [List.map_cons, List.map_nil] at p
      simp [fSeq, fNext, sRet, sRetN, sIf, sSet, sSetO, sAsg, sApp, sFor, forF, fVar, fOpd, fCon, f2, f1, fNil, fCons, bR, bL, bA, bLL, oR, fT, gAnd, gOr, gNot, gYes, fAnd, fOr, fNot, fIte, fTup, fLst, fCall, fCallO, fB, fM1, fSl, fiNo, fiSm, fLc, wLst, wTup, wStr, wRg1, wRg2, wZip, wEnum, gfN, gfTup, gsNil, gsCons, fLrg, fLrg3, wipeG, xSeq, xSet, xOf, xCall, xIf, xRet, xNext, xTup, xCons, xNil, xPut, xCallP, sRetX, List.getElem?_cons_zero, List.getElem?_cons_succ, List.set_cons_zero, List.set_cons_succ, p]⟩)
    rw [phi_l_run]
    unfold runF f_l_run
    unfold nsD at lc ⊢
    simp [-List.map_take, -List.map_drop, entry, fSeq, fNext, sRet, sRetN, sIf, sSet, sSetO, sAsg, sApp, sFor, forF, fVar, fOpd, fCon, f2, f1, fNil, fCons, bR, bL, bA, bLL, oR, fT, gAnd, gOr, gNot, gYes, fAnd, fOr, fNot, fIte, fTup, fLst, fCall, fCallO, fB, fM1, fSl, fiNo, fiSm, fLc, wLst, wTup, wStr, wRg1, wRg2, wZip, wEnum, gfN, gfTup, gsNil, gsCons, fLrg, fLrg3, wipeG, xSeq, xSet, xOf, xCall, xIf, xRet, xNext, xTup, xCons, xNil, xPut, xCallP, sRetX, List.getElem?_cons_zero, List.getElem?_cons_succ, List.set_cons_zero, List.set_cons_succ, sl, ad, oAdd_lst, ct, lc, hz2, List.replicate, List.map_map, Function.comp_def]
end K04

namespace K04
open PySem PySem.Spec PyProof.Rows L2 Py
/-! ### the statement that the script makes -/
theorem set_one (d : D) : ([.int 0] : List D).set 0 d = [d] := rfl
theorem run_draw (n : Nat) (ns : List Int) (k : Nat) : ∃ c : Int, Psi (n + 1) .l_draw (nsD ns) (k : Int) [] = some (.int c, ((k + 1 : Nat) : Int)) := by
  have i0 : ixN 1 0 = some 0 := by decide
  have e1 : ((k + 1 : Nat) : Int) = (k : Int) + 1 := by omega
  have e2 : (k : Int) + 1 - 1 = k := by omega
  have at_ : ∀ j : Nat, j < ns.length → atI (ns.map PyData.int) (j : Int) = some (.int (ns.getD j 0)) := fun j h => by
    refine atI_cast ?_
    rw [List.getElem?_map, List.getElem?_eq_getElem h]
    simp [List.getD, List.getElem?_eq_getElem h]
  rw [psi_l_draw, e1]
  unfold runX f_l_draw
  by_cases h : k < ns.length
  · refine ⟨ns.getD k 0, ?_⟩
    have a := at_ k h
    simp [entryX, entry, fSeq, fNext, sRet, sRetN, sIf, sSet, sSetO, sAsg, sApp, sFor, forF, fVar, fOpd, fCon, f2, f1, fNil, fCons, bR, bL, bA, bLL, oR, fT, gAnd, gOr, gNot, gYes, fAnd, fOr, fNot, fIte, fTup, fLst, fCall, fCallO, fB, fM1, fSl, fiNo, fiSm, fLc, wLst, wTup, wStr, wRg1, wRg2, wZip, wEnum, gfN, gfTup, gsNil, gsCons, fLrg, fLrg3, wipeG, xSeq, xSet, xOf, xCall, xIf, xRet, xNext, xTup, xCons, xNil, xPut, xCallP, sRetX, List.getElem?_cons_zero, List.getElem?_cons_succ, List.set_cons_zero, List.set_cons_succ, nsD, i0, e2, h, a, List.replicate]
  · by_cases h2 : 4 < ns.length ∧ k < 40
    · have hm : k % ns.length < ns.length := Nat.mod_lt _ (by omega)
      have a := at_ (k % ns.length) hm
      have em : (((k % ns.length : Nat)) : Int) = (k : Int) % (ns.length : Int) := by omega
      rw [em] at a
      have m1 : oMul (.int 7919) (.int (k : Int)) = some (.int (7919 * (k : Int))) := oMul_int _ _ (.inl ⟨by decide, by decide⟩)
      have m2 : ∀ x : Int, oMul (.int x) (.int 48271) = some (.int (x * 48271)) := fun x => oMul_int _ _ (.inr ⟨by decide, by decide⟩)
      have pos : (0 : Int) < (ns.length : Int) := by omega
      refine ⟨(ns.getD (k % ns.length) 0 + 7919 * (k : Int)) * 48271 % 1000003, ?_⟩
      have c4 : (4 : Int) < (ns.length : Int) := by omega
      have c40 : (k : Int) < 40 := by omega
      simp [entryX, entry, fSeq, fNext, sRet, sRetN, sIf, sSet, sSetO, sAsg, sApp, sFor, forF, fVar, fOpd, fCon, f2, f1, fNil, fCons, bR, bL, bA, bLL, oR, fT, gAnd, gOr, gNot, gYes, fAnd, fOr, fNot, fIte, fTup, fLst, fCall, fCallO, fB, fM1, fSl, fiNo, fiSm, fLc, wLst, wTup, wStr, wRg1, wRg2, wZip, wEnum, gfN, gfTup, gsNil, gsCons, fLrg, fLrg3, wipeG, xSeq, xSet, xOf, xCall, xIf, xRet, xNext, xTup, xCons, xNil, xPut, xCallP, sRetX, List.getElem?_cons_zero, List.getElem?_cons_succ, List.set_cons_zero, List.set_cons_succ, nsD, i0, e2, h, a, m1, m2, c4, c40, oMod_int _ _ pos, List.replicate]
    · refine ⟨0, ?_⟩
      by_cases h3 : 4 < ns.length
      · have c4 : (4 : Int) < (ns.length : Int) := by omega
        have c40 : ¬ (k : Int) < 40 := by omega
        simp [entryX, entry, fSeq, fNext, sRet, sRetN, sIf, sSet, sSetO, sAsg, sApp, sFor, forF, fVar, fOpd, fCon, f2, f1, fNil, fCons, bR, bL, bA, bLL, oR, fT, gAnd, gOr, gNot, gYes, fAnd, fOr, fNot, fIte, fTup, fLst, fCall, fCallO, fB, fM1, fSl, fiNo, fiSm, fLc, wLst, wTup, wStr, wRg1, wRg2, wZip, wEnum, gfN, gfTup, gsNil, gsCons, fLrg, fLrg3, wipeG, xSeq, xSet, xOf, xCall, xIf, xRet, xNext, xTup, xCons, xNil, xPut, xCallP, sRetX, List.getElem?_cons_zero, List.getElem?_cons_succ, List.set_cons_zero, List.set_cons_succ, nsD, i0, e2, h, c4, c40, List.replicate]
      · have c4 : ¬ (4 : Int) < (ns.length : Int) := by omega
        simp [entryX, entry, fSeq, fNext, sRet, sRetN, sIf, sSet, sSetO, sAsg, sApp, sFor, forF, fVar, fOpd, fCon, f2, f1, fNil, fCons, bR, bL, bA, bLL, oR, fT, gAnd, gOr, gNot, gYes, fAnd, fOr, fNot, fIte, fTup, fLst, fCall, fCallO, fB, fM1, fSl, fiNo, fiSm, fLc, wLst, wTup, wStr, wRg1, wRg2, wZip, wEnum, gfN, gfTup, gsNil, gsCons, fLrg, fLrg3, wipeG, xSeq, xSet, xOf, xCall, xIf, xRet, xNext, xTup, xCons, xNil, xPut, xCallP, sRetX, List.getElem?_cons_zero, List.getElem?_cons_succ, List.set_cons_zero, List.set_cons_succ, nsD, i0, e2, h, c4, List.replicate]
abbrev kindsA : List Str := ["not", "and", "or", "before", "since", "not", "and", "before", "since", "or", "since", "before"]
abbrev kindsB : List Str := ["not", "and", "or", "next", "until", "within", "until", "next", "since", "before", "until", "within"]
def words : List Str := ["not", "and", "or", "next", "until", "within", "before", "since"]
theorem oSplit_str {a b : Str} (g : (b.length == 0) = false ∧ a.length + 2 ≤ big) : oSplit a (.str b) = some (.list ((Txt.split a b).map .str)) := by
  show (if (b.length == 0) = false ∧ a.length + 2 ≤ big then some (PyData.list ((Txt.split a b).map .str)) else none) = _
  rw [if_pos g]
theorem split_a : oSplit "not and or before since not and before since or since before" (.str " ") = some (.list (kindsA.map .str)) := by
  have h : Txt.split "not and or before since not and before since or since before" " " = kindsA := by decide +kernel
  have g : (((" " : Str).length == 0) = false ∧ ("not and or before since not and before since or since before" : Str).length + 2 ≤ big) := by decide +kernel
  rw [oSplit_str g, h]
theorem split_b : oSplit "not and or next until within until next since before until within" (.str " ") = some (.list (kindsB.map .str)) := by
  have h : Txt.split "not and or next until within until next since before until within" " " = kindsB := by decide +kernel
  have g : (((" " : Str).length == 0) = false ∧ ("not and or next until within until next since before until within" : Str).length + 2 ≤ big) := by decide +kernel
  rw [oSplit_str g, h]
theorem at_words (l : List Str) (hl : l.length = 12) (hw : ∀ w ∈ l, w ∈ words) (c : Int) (h : ¬ c % 14 < 2) : ∃ w ∈ words, atI (l.map PyData.str) (c % 14 - 2) = some (.str w) := by
  have h1 := Int.emod_nonneg c (show (14 : Int) ≠ 0 by decide)
  have h2 := Int.emod_lt_of_pos c (show (0 : Int) < 14 by decide)
  have hi : (c % 14 - 2).toNat < l.length := by omega
  refine ⟨l[(c % 14 - 2).toNat], hw _ (List.getElem_mem hi), ?_⟩
  have e : (((c % 14 - 2).toNat : Nat) : Int) = c % 14 - 2 := Int.toNat_of_nonneg (by omega)
  have a : atI (l.map PyData.str) (((c % 14 - 2).toNat : Nat) : Int) = some (.str l[(c % 14 - 2).toNat]) := by
    refine atI_cast ?_
    rw [List.getElem?_map, List.getElem?_eq_getElem hi]
    rfl
  rw [e] at a
  exact a
theorem at_ks (x y : Int) : ∃ j : Nat, j ≤ 4 ∧ atI ([.int 1, .int 2, .int 0, .int 1, .int (y % 5)] : List D) (x % 5) = some (.int j) := by
  have h1 := Int.emod_nonneg x (show (5 : Int) ≠ 0 by decide)
  have h2 := Int.emod_lt_of_pos x (show (0 : Int) < 5 by decide)
  have g1 := Int.emod_nonneg y (show (5 : Int) ≠ 0 by decide)
  have g2 := Int.emod_lt_of_pos y (show (0 : Int) < 5 by decide)
  have e : (((x % 5).toNat : Nat) : Int) = x % 5 := Int.toNat_of_nonneg h1
  generalize x % 5 = z at h1 h2 e ⊢
  have hz : z = 0 ∨ z = 1 ∨ z = 2 ∨ z = 3 ∨ z = 4 := by omega
  rcases hz with rfl | rfl | rfl | rfl | rfl
  · exact ⟨1, by decide, rfl⟩
  · exact ⟨2, by decide, rfl⟩
  · exact ⟨0, by decide, rfl⟩
  · exact ⟨1, by decide, rfl⟩
  · refine ⟨(y % 5).toNat, by omega, ?_⟩
    rw [Int.toNat_of_nonneg g1]
    rfl
theorem at_three (x y z : Str) (c : Int) : ∃ w ∈ [x, y, z], atI ([.str x, .str y, .str z] : List D) (c % 3) = some (.str w) := by
  have h1 := Int.emod_nonneg c (show (3 : Int) ≠ 0 by decide)
  have h2 := Int.emod_lt_of_pos c (show (0 : Int) < 3 by decide)
  generalize c % 3 = i at h1 h2 ⊢
  have hz : i = 0 ∨ i = 1 ∨ i = 2 := by omega
  rcases hz with rfl | rfl | rfl
  · exact ⟨x, by simp, rfl⟩
  · exact ⟨y, by simp, rfl⟩
  · exact ⟨z, by simp, rfl⟩
theorem made_leaf {ns : List Int} {x y z : Str} {p : Str → Prop} (hp : ∀ w ∈ [x, y, z], p w) (d : Nat) (D0 K0 K1 : Int) (ahead : Bool) (c : Int) (Psy : Nx → Phx) (hd : Psy .l_draw (nsD ns) K0 [] = some (.int c, K1)) (hc : D0 < 2 ∨ c % 14 < 2) :
      ∃ s : Sta, Fine (d + 1) p s ∧ runX 5 10 (f_l_made Psy) (nsD ns) K0 [.list [.str x, .str y, .str z], .int D0, .bool ahead] = some (enc s, K1) := by
  by_cases h4 : c / 14 % 9 = 4
  · refine ⟨.yes, ⟨by simp [Sta.depth], trivial, trivial⟩, ?_⟩
    unfold runX f_l_made
    by_cases h0 : D0 < 2
    · simp [fSeq, fNext, sRet, sRetN, sIf, sSet, sSetO, sAsg, sApp, sFor, forF, fVar, fOpd, fCon, f2, f1, fNil, fCons, bR, bL, bA, bLL, oR, fT, gAnd, gOr, gNot, gYes, fAnd, fOr, fNot, fIte, fTup, fLst, fCall, fCallO, fB, fM1, fSl, fiNo, fiSm, fLc, wLst, wTup, wStr, wRg1, wRg2, wZip, wEnum, gfN, gfTup, gsNil, gsCons, fLrg, fLrg3, wipeG, xSeq, xSet, xOf, xCall, xIf, xRet, xNext, xTup, xCons, xNil, xPut, xCallP, sRetX, List.getElem?_cons_zero, List.getElem?_cons_succ, List.set_cons_zero, List.set_cons_succ, entryX, entry, List.replicate, hd, h0, h4, enc]
    · have h := hc.resolve_left h0
      simp [fSeq, fNext, sRet, sRetN, sIf, sSet, sSetO, sAsg, sApp, sFor, forF, fVar, fOpd, fCon, f2, f1, fNil, fCons, bR, bL, bA, bLL, oR, fT, gAnd, gOr, gNot, gYes, fAnd, fOr, fNot, fIte, fTup, fLst, fCall, fCallO, fB, fM1, fSl, fiNo, fiSm, fLc, wLst, wTup, wStr, wRg1, wRg2, wZip, wEnum, gfN, gfTup, gsNil, gsCons, fLrg, fLrg3, wipeG, xSeq, xSet, xOf, xCall, xIf, xRet, xNext, xTup, xCons, xNil, xPut, xCallP, sRetX, List.getElem?_cons_zero, List.getElem?_cons_succ, List.set_cons_zero, List.set_cons_succ, entryX, entry, List.replicate, hd, h, h0, h4, enc]
  · obtain ⟨w, hw, e⟩ := at_three x y z (c / 14)
    have h4b : (c / 14 % 9 == 4) = false := beq_eq_false_iff_ne.mpr h4
    refine ⟨.mark w, ⟨by simp [Sta.depth], hp w hw, trivial⟩, ?_⟩
    unfold runX f_l_made
    by_cases h0 : D0 < 2
    · simp [fSeq, fNext, sRet, sRetN, sIf, sSet, sSetO, sAsg, sApp, sFor, forF, fVar, fOpd, fCon, f2, f1, fNil, fCons, bR, bL, bA, bLL, oR, fT, gAnd, gOr, gNot, gYes, fAnd, fOr, fNot, fIte, fTup, fLst, fCall, fCallO, fB, fM1, fSl, fiNo, fiSm, fLc, wLst, wTup, wStr, wRg1, wRg2, wZip, wEnum, gfN, gfTup, gsNil, gsCons, fLrg, fLrg3, wipeG, xSeq, xSet, xOf, xCall, xIf, xRet, xNext, xTup, xCons, xNil, xPut, xCallP, sRetX, List.getElem?_cons_zero, List.getElem?_cons_succ, List.set_cons_zero, List.set_cons_succ, entryX, entry, List.replicate, hd, h0, h4b, e, enc]
    · have h := hc.resolve_left h0
      simp [fSeq, fNext, sRet, sRetN, sIf, sSet, sSetO, sAsg, sApp, sFor, forF, fVar, fOpd, fCon, f2, f1, fNil, fCons, bR, bL, bA, bLL, oR, fT, gAnd, gOr, gNot, gYes, fAnd, fOr, fNot, fIte, fTup, fLst, fCall, fCallO, fB, fM1, fSl, fiNo, fiSm, fLc, wLst, wTup, wStr, wRg1, wRg2, wZip, wEnum, gfN, gfTup, gsNil, gsCons, fLrg, fLrg3, wipeG, xSeq, xSet, xOf, xCall, xIf, xRet, xNext, xTup, xCons, xNil, xPut, xCallP, sRetX, List.getElem?_cons_zero, List.getElem?_cons_succ, List.set_cons_zero, List.set_cons_succ, entryX, entry, List.replicate, hd, h, h0, h4b, e, enc]
/-- the kind's name, as the script draws it -/
theorem kind_at (ahead : Bool) (c : Int) (h : ¬ c % 14 < 2) : ∃ w ∈ words, ∃ l : List D, oSplit (if ahead = true then "not and or next until within until next since before until within" else "not and or before since not and before since or since before") (.str " ") = some (.list l) ∧ atI l (c % 14 - 2) = some (.str w) := by
  cases ahead with
  | true =>
    obtain ⟨w, hw, e⟩ := at_words kindsB rfl (by decide +kernel) c h
    exact ⟨w, hw, _, split_b, e⟩
  | false =>
    obtain ⟨w, hw, e⟩ := at_words kindsA rfl (by decide +kernel) c h
    exact ⟨w, hw, _, split_a, e⟩
theorem made_node {ns : List Int} {P : D} (D0 K0 K1 : Int) (ahead : Bool) (c : Int) (Psy : Nx → Phx) (hd : Psy .l_draw (nsD ns) K0 [] = some (.int c, K1)) (h0 : ¬ D0 < 2) (hc : ¬ c % 14 < 2) {d : Nat} {p : Str → Prop}
    (hm : ∀ (k : Int) (b : Bool), (∃ j : Nat, k = j) → ∃ (s : Sta) (k' : Int), (∃ j : Nat, k' = j) ∧ Fine (d + 1) p s ∧ Psy .l_made (nsD ns) k [P, .int (D0 - 1), .bool b] = some (enc s, k')) (hk : ∃ j : Nat, K1 = j) :
      ∃ (s : Sta) (k' : Int), (∃ j : Nat, k' = j) ∧ Fine (d + 1 + 1) p s ∧ runX 5 10 (f_l_made Psy) (nsD ns) K0 [P, .int D0, .bool ahead] = some (enc s, k') := by
  obtain ⟨w, hw, l, e1, e2⟩ := kind_at ahead c hc
  obtain ⟨s, K2, hk2, fs, es⟩ := hm K1 (ahead && !(w == "before" || w == "since")) hk
  obtain ⟨t, K3, hk3, ft, et⟩ := hm K2 (ahead && !(w == "before" || w == "since")) hk2
  obtain ⟨j, hj, ej⟩ := at_ks (c / 14) (c / 14 / 6)
  have ds := fs.dep
  have dt := ft.dep
  simp only [words, List.mem_cons, List.not_mem_nil, or_false] at hw
  rcases hw with rfl | rfl | rfl | rfl | rfl | rfl | rfl | rfl
  · refine ⟨.nt s, K2, hk2, ⟨by simp [Sta.depth]; omega, fs.mks, fs.ks⟩, ?_⟩
    unfold runX f_l_made
    cases ahead <;> simp at e1 es et <;> simp [fSeq, fNext, sRet, sRetN, sIf, sSet, sSetO, sAsg, sApp, sFor, forF, fVar, fOpd, fCon, f2, f1, fNil, fCons, bR, bL, bA, bLL, oR, fT, gAnd, gOr, gNot, gYes, fAnd, fOr, fNot, fIte, fTup, fLst, fCall, fCallO, fB, fM1, fSl, fiNo, fiSm, fLc, wLst, wTup, wStr, wRg1, wRg2, wZip, wEnum, gfN, gfTup, gsNil, gsCons, fLrg, fLrg3, wipeG, xSeq, xSet, xOf, xCall, xIf, xRet, xNext, xTup, xCons, xNil, xPut, xCallP, sRetX, List.getElem?_cons_zero, List.getElem?_cons_succ, List.set_cons_zero, List.set_cons_succ, entryX, entry, List.replicate, hd, h0, hc, e1, e2, es, et, oIn, flatD, PyData.eqv, enc]
  · refine ⟨.an s t, K3, hk3, ⟨by simp [Sta.depth]; omega, ⟨fs.mks, ft.mks⟩, ⟨fs.ks, ft.ks⟩⟩, ?_⟩
    unfold runX f_l_made
    cases ahead <;> simp at e1 es et <;> simp [fSeq, fNext, sRet, sRetN, sIf, sSet, sSetO, sAsg, sApp, sFor, forF, fVar, fOpd, fCon, f2, f1, fNil, fCons, bR, bL, bA, bLL, oR, fT, gAnd, gOr, gNot, gYes, fAnd, fOr, fNot, fIte, fTup, fLst, fCall, fCallO, fB, fM1, fSl, fiNo, fiSm, fLc, wLst, wTup, wStr, wRg1, wRg2, wZip, wEnum, gfN, gfTup, gsNil, gsCons, fLrg, fLrg3, wipeG, xSeq, xSet, xOf, xCall, xIf, xRet, xNext, xTup, xCons, xNil, xPut, xCallP, sRetX, List.getElem?_cons_zero, List.getElem?_cons_succ, List.set_cons_zero, List.set_cons_succ, entryX, entry, List.replicate, hd, h0, hc, e1, e2, es, et, oIn, flatD, PyData.eqv, enc]
  · refine ⟨.or s t, K3, hk3, ⟨by simp [Sta.depth]; omega, ⟨fs.mks, ft.mks⟩, ⟨fs.ks, ft.ks⟩⟩, ?_⟩
    unfold runX f_l_made
    cases ahead <;> simp at e1 es et <;> simp [fSeq, fNext, sRet, sRetN, sIf, sSet, sSetO, sAsg, sApp, sFor, forF, fVar, fOpd, fCon, f2, f1, fNil, fCons, bR, bL, bA, bLL, oR, fT, gAnd, gOr, gNot, gYes, fAnd, fOr, fNot, fIte, fTup, fLst, fCall, fCallO, fB, fM1, fSl, fiNo, fiSm, fLc, wLst, wTup, wStr, wRg1, wRg2, wZip, wEnum, gfN, gfTup, gsNil, gsCons, fLrg, fLrg3, wipeG, xSeq, xSet, xOf, xCall, xIf, xRet, xNext, xTup, xCons, xNil, xPut, xCallP, sRetX, List.getElem?_cons_zero, List.getElem?_cons_succ, List.set_cons_zero, List.set_cons_succ, entryX, entry, List.replicate, hd, h0, hc, e1, e2, es, et, oIn, flatD, PyData.eqv, enc]
  · refine ⟨.nx s, K2, hk2, ⟨by simp [Sta.depth]; omega, fs.mks, fs.ks⟩, ?_⟩
    unfold runX f_l_made
    cases ahead <;> simp at e1 es et <;> simp [fSeq, fNext, sRet, sRetN, sIf, sSet, sSetO, sAsg, sApp, sFor, forF, fVar, fOpd, fCon, f2, f1, fNil, fCons, bR, bL, bA, bLL, oR, fT, gAnd, gOr, gNot, gYes, fAnd, fOr, fNot, fIte, fTup, fLst, fCall, fCallO, fB, fM1, fSl, fiNo, fiSm, fLc, wLst, wTup, wStr, wRg1, wRg2, wZip, wEnum, gfN, gfTup, gsNil, gsCons, fLrg, fLrg3, wipeG, xSeq, xSet, xOf, xCall, xIf, xRet, xNext, xTup, xCons, xNil, xPut, xCallP, sRetX, List.getElem?_cons_zero, List.getElem?_cons_succ, List.set_cons_zero, List.set_cons_succ, entryX, entry, List.replicate, hd, h0, hc, e1, e2, es, et, oIn, flatD, PyData.eqv, enc]
  · refine ⟨.un s t, K3, hk3, ⟨by simp [Sta.depth]; omega, ⟨fs.mks, ft.mks⟩, ⟨fs.ks, ft.ks⟩⟩, ?_⟩
    unfold runX f_l_made
    cases ahead <;> simp at e1 es et <;> simp [fSeq, fNext, sRet, sRetN, sIf, sSet, sSetO, sAsg, sApp, sFor, forF, fVar, fOpd, fCon, f2, f1, fNil, fCons, bR, bL, bA, bLL, oR, fT, gAnd, gOr, gNot, gYes, fAnd, fOr, fNot, fIte, fTup, fLst, fCall, fCallO, fB, fM1, fSl, fiNo, fiSm, fLc, wLst, wTup, wStr, wRg1, wRg2, wZip, wEnum, gfN, gfTup, gsNil, gsCons, fLrg, fLrg3, wipeG, xSeq, xSet, xOf, xCall, xIf, xRet, xNext, xTup, xCons, xNil, xPut, xCallP, sRetX, List.getElem?_cons_zero, List.getElem?_cons_succ, List.set_cons_zero, List.set_cons_succ, entryX, entry, List.replicate, hd, h0, hc, e1, e2, es, et, oIn, flatD, PyData.eqv, enc]
  · refine ⟨.wi j s, K2, hk2, ⟨by simp [Sta.depth]; omega, fs.mks, ⟨hj, fs.ks⟩⟩, ?_⟩
    unfold runX f_l_made
    cases ahead <;> simp at e1 es et <;> simp [fSeq, fNext, sRet, sRetN, sIf, sSet, sSetO, sAsg, sApp, sFor, forF, fVar, fOpd, fCon, f2, f1, fNil, fCons, bR, bL, bA, bLL, oR, fT, gAnd, gOr, gNot, gYes, fAnd, fOr, fNot, fIte, fTup, fLst, fCall, fCallO, fB, fM1, fSl, fiNo, fiSm, fLc, wLst, wTup, wStr, wRg1, wRg2, wZip, wEnum, gfN, gfTup, gsNil, gsCons, fLrg, fLrg3, wipeG, xSeq, xSet, xOf, xCall, xIf, xRet, xNext, xTup, xCons, xNil, xPut, xCallP, sRetX, List.getElem?_cons_zero, List.getElem?_cons_succ, List.set_cons_zero, List.set_cons_succ, entryX, entry, List.replicate, hd, h0, hc, e1, e2, es, et, ej, oIn, flatD, PyData.eqv, enc]
  · refine ⟨.bf s, K2, hk2, ⟨by simp [Sta.depth]; omega, fs.mks, fs.ks⟩, ?_⟩
    unfold runX f_l_made
    cases ahead <;> simp at e1 es et <;> simp [fSeq, fNext, sRet, sRetN, sIf, sSet, sSetO, sAsg, sApp, sFor, forF, fVar, fOpd, fCon, f2, f1, fNil, fCons, bR, bL, bA, bLL, oR, fT, gAnd, gOr, gNot, gYes, fAnd, fOr, fNot, fIte, fTup, fLst, fCall, fCallO, fB, fM1, fSl, fiNo, fiSm, fLc, wLst, wTup, wStr, wRg1, wRg2, wZip, wEnum, gfN, gfTup, gsNil, gsCons, fLrg, fLrg3, wipeG, xSeq, xSet, xOf, xCall, xIf, xRet, xNext, xTup, xCons, xNil, xPut, xCallP, sRetX, List.getElem?_cons_zero, List.getElem?_cons_succ, List.set_cons_zero, List.set_cons_succ, entryX, entry, List.replicate, hd, h0, hc, e1, e2, es, et, oIn, flatD, PyData.eqv, enc]
  · refine ⟨.si s t, K3, hk3, ⟨by simp [Sta.depth]; omega, ⟨fs.mks, ft.mks⟩, ⟨fs.ks, ft.ks⟩⟩, ?_⟩
    unfold runX f_l_made
    cases ahead <;> simp at e1 es et <;> simp [fSeq, fNext, sRet, sRetN, sIf, sSet, sSetO, sAsg, sApp, sFor, forF, fVar, fOpd, fCon, f2, f1, fNil, fCons, bR, bL, bA, bLL, oR, fT, gAnd, gOr, gNot, gYes, fAnd, fOr, fNot, fIte, fTup, fLst, fCall, fCallO, fB, fM1, fSl, fiNo, fiSm, fLc, wLst, wTup, wStr, wRg1, wRg2, wZip, wEnum, gfN, gfTup, gsNil, gsCons, fLrg, fLrg3, wipeG, xSeq, xSet, xOf, xCall, xIf, xRet, xNext, xTup, xCons, xNil, xPut, xCallP, sRetX, List.getElem?_cons_zero, List.getElem?_cons_succ, List.set_cons_zero, List.set_cons_succ, entryX, entry, List.replicate, hd, h0, hc, e1, e2, es, et, oIn, flatD, PyData.eqv, enc]
theorem run_made {ns : List Int} {x y z : Str} {p : Str → Prop} (hp : ∀ w ∈ [x, y, z], p w) : ∀ (d n : Nat) (k : Int) (ahead : Bool), (∃ j : Nat, k = j) → d + 3 ≤ n →
    ∃ (s : Sta) (k' : Int), (∃ j : Nat, k' = j) ∧ Fine (d + 1) p s ∧ Psi n .l_made (nsD ns) k [.list [.str x, .str y, .str z], .int ((d : Int) + 1), .bool ahead] = some (enc s, k') := by
  intro d
  induction d with
  | zero =>
    rintro n k ahead ⟨j, rfl⟩ hn
    obtain ⟨n, rfl⟩ : ∃ m, n = m + 2 := ⟨n - 2, by omega⟩
    obtain ⟨c, hc⟩ := run_draw n ns j
    rw [psi_l_made]
    obtain ⟨s, fs, es⟩ := made_leaf hp 0 (((0 : Nat) : Int) + 1) _ _ ahead c _ hc (.inl (by decide))
    exact ⟨s, _, ⟨_, rfl⟩, fs, es⟩
  | succ d ih =>
    rintro n k ahead ⟨j, rfl⟩ hn
    obtain ⟨n, rfl⟩ : ∃ m, n = m + 2 := ⟨n - 2, by omega⟩
    obtain ⟨c, hc⟩ := run_draw n ns j
    rw [psi_l_made]
    by_cases hl : c % 14 < 2
    · obtain ⟨s, fs, es⟩ := made_leaf hp (d + 1) (((d + 1 : Nat) : Int) + 1) _ _ ahead c _ hc (.inr hl)
      exact ⟨s, _, ⟨_, rfl⟩, fs, es⟩
    · refine made_node (((d + 1 : Nat) : Int) + 1) _ _ ahead c _ hc (by omega) hl (fun k b hk => ?_) ⟨_, rfl⟩
      have e : ((d + 1 : Nat) : Int) + 1 - 1 = (d : Int) + 1 := by omega
      rw [e]
      exact ih (n + 1) k b hk (by omega)
end K04

namespace K04
open PySem PySem.Spec PyProof.Rows L2 Py
/-! ### the statement built; the law -/
theorem oInt1_bool (b : Bool) : oInt1 [.bool b] = some (.int (if b = true then 1 else 0)) := by cases b <;> rfl
theorem run_built {ns : List Int} {x y z : Str} (hp : ∀ w ∈ [x, y, z], okM w) {most : Nat} (h1 : 1 ≤ most) {n : Nat} (hn : 10 ≤ n) : ∃ s : Sta, Fine 6 okM s ∧ (wishesT s).length ≤ most ∧ Phi (n + 1) .l_built [nsD ns, .list [.str x, .str y, .str z], .int most] = some (.ok (enc s)) := by
  obtain ⟨n, rfl⟩ : ∃ m, n = m + 1 := ⟨n - 1, by omega⟩
  have hc : Phi (n + 1) .l_cell_at [nsD ns, .int 1] = some (.ok (.int (cellT ns 1))) := run_cell n ns 1
  have key : ∀ (b : Bool) (s : Sta) (k' : Int), Fine 6 okM s → (cellT ns 1 % 8 == 5) = b → Psi (n + 1) .l_made (nsD ns) 2 [.list [.str x, .str y, .str z], .int (5 + (if b = true then 1 else 0)), .bool true] = some (enc s, k') →
      ∃ s : Sta, Fine 6 okM s ∧ (wishesT s).length ≤ most ∧ Phi (n + 1 + 1) .l_built [nsD ns, .list [.str x, .str y, .str z], .int most] = some (.ok (enc s)) := by
    intro b s k' hs hb hm
    refine ⟨fitT most s, fitT_fine hs, fitT_len h1 s, ?_⟩
    have hf := run_fit (d := 6) (by omega) (n := n + 1) (by omega) h1 hs
    rw [phi_l_built]
    unfold runF f_l_built
    cases b <;> simp at hm <;> simp [entry, fSeq, fNext, sRet, sRetN, sIf, sSet, sSetO, sAsg, sApp, sFor, forF, fVar, fOpd, fCon, f2, f1, fNil, fCons, bR, bL, bA, bLL, oR, fT, gAnd, gOr, gNot, gYes, fAnd, fOr, fNot, fIte, fTup, fLst, fCall, fCallO, fB, fM1, fSl, fiNo, fiSm, fLc, wLst, wTup, wStr, wRg1, wRg2, wZip, wEnum, gfN, gfTup, gsNil, gsCons, fLrg, fLrg3, wipeG, xSeq, xSet, xOf, xCall, xIf, xRet, xNext, xTup, xCons, xNil, xPut, xCallP, sRetX, List.getElem?_cons_zero, List.getElem?_cons_succ, List.set_cons_zero, List.set_cons_succ, List.replicate, hc, hb, hm, hf, oInt1_bool]
  cases hb : (cellT ns 1 % 8 == 5) with
  | false =>
    obtain ⟨s, k', _, fs, es⟩ := run_made (ns := ns) hp 4 (n + 1) 2 true ⟨2, rfl⟩ (by omega)
    exact key false s k' ⟨by have := fs.dep; omega, fs.mks, fs.ks⟩ hb es
  | true =>
    obtain ⟨s, k', _, fs, es⟩ := run_made (ns := ns) hp 5 (n + 1) 2 true ⟨2, rfl⟩ (by omega)
    exact key true s k' ⟨by have := fs.dep; omega, fs.mks, fs.ks⟩ hb es
theorem eq_strs {run : List Str} (h : ∀ s ∈ run, okM s) : oEq (.list (run.map .str)) (.list (run.map .str)) = some (.bool true) := by
  have h1 : PyData.canLayAll0 (run.map PyData.str) = true := by
    induction run with
    | nil => simp [PyData.canLayAll0]
    | cons b r ih => simp [PyData.canLayAll0, PyData.canLay0, ih fun s hs => h s (List.mem_cons_of_mem _ hs)]; exact h b List.mem_cons_self
  have h2 : PyData.depthAll (run.map PyData.str) = 0 := by
    clear h h1
    induction run with
    | nil => simp [PyData.depthAll]
    | cons b r ih => simp [PyData.depthAll, PyData.depth, ih]
  have h3 : SeqAt.shaped (.list (run.map PyData.str)) = true := by
    show ((PyData.list (run.map .str)).canLay0 && decide ((PyData.list (run.map .str)).depth ≤ 64)) = true
    simp [PyData.canLay0, PyData.depth, h1, h2]
  have h4 : PyData.eqv (.list (run.map .str)) (.list (run.map .str)) = true := by
    clear h h1 h2 h3
    induction run with
    | nil => simp [PyData.eqv, PyData.eqvAll]
    | cons b r ih => simp [PyData.eqv, PyData.eqvAll] at ih ⊢; exact ih
  unfold oEq
  rw [if_pos (.inr ⟨h3, h3⟩), h4]
theorem law_loop {n : Nat} {s : Sta} {run : List Str} (hn : 30 ≤ n) (hs : Fine 7 okM s) (hr : run.length ≤ 12) (A B C0 F : Sl) : ∀ (l : List Nat), (∀ i ∈ l, i < run.length) → ∀ x y : Sl, ∃ x' y' : Sl,
    forF (gfN 7) (fSeq (sSet 8 (fCall (Phi n .holds) (fCons (fVar 2) (fCons (fVar 5) (fCons (fVar 7) fNil)))))
      (sIf (gOr (gNot (fT (f1 (oIsi "bool") (fOpd 8)))) (fT (f2 oNe (fOpd 8) (f2 oIx (fOpd 6) (fOpd 7))))) (sRet (fCon (.bool false))) fNext)) (l.map fun i : Nat => .int (i : Int)) [A, B, .va (enc s), C0, F, .va (.list (run.map .str)), .va (rowD (meansT run s)), x, y]
      = some (.nx [A, B, .va (enc s), C0, F, .va (.list (run.map .str)), .va (rowD (meansT run s)), x', y']) := by
  intro l
  induction l with
  | nil => intro _ x y; exact ⟨x, y, rfl⟩
  | cons i l ih =>
    intro hl x y
    have hi := hl i List.mem_cons_self
    obtain ⟨x', y', e⟩ := ih (fun j hj => hl j (List.mem_cons_of_mem _ hj)) (.va (.int i)) (.va (.bool (sem run s i)))
    have hh := holds_ok (run := run) (by omega) s n i hs.ks (by have := hs.dep; omega) hi
    have hsem := sem_means run s i hi
    have at_ : oIx (rowD (meansT run s)) (.int (i : Int)) = some (.bool (sem run s i)) := by
      unfold rowD
      rw [oIx_lst]
      refine atI_cast ?_
      have hl : i < (meansT run s).length := by rw [meansT_len]; exact hi
      rw [List.getD_eq_getElem?_getD, List.getElem?_eq_getElem hl] at hsem
      rw [List.getElem?_map, List.getElem?_eq_getElem hl]
      simp at hsem ⊢
      exact hsem
    have ib : ∀ b : Bool, oIsi "bool" (.bool b) = some (.bool true) := fun b => by simp [oIsi, isT, tyN]
    refine ⟨x', y', ?_⟩
    unfold runD at hh
    rw [← e]
    simp only [List.map_cons, forF, gfN, fSeq, fNext, sRet, sRetN, sIf, sSet, sSetO, sAsg, sApp, sFor, forF, fVar, fOpd, fCon, f2, f1, fNil, fCons, bR, bL, bA, bLL, oR, fT, gAnd, gOr, gNot, gYes, fAnd, fOr, fNot, fIte, fTup, fLst, fCall, fCallO, fB, fM1, fSl, fiNo, fiSm, fLc, wLst, wTup, wStr, wRg1, wRg2, wZip, wEnum, gfN, gfTup, gsNil, gsCons, fLrg, fLrg3, wipeG, xSeq, xSet, xOf, xCall, xIf, xRet, xNext, xTup, xCons, xNil, xPut, xCallP, sRetX, List.getElem?_cons_zero, List.getElem?_cons_succ, List.set_cons_zero, List.set_cons_succ, hh, at_, ib, bR_ok, bA_ok, bL_ok, bLL_ok, oR_some, oNe_bool, beq_self_eq_true, Bool.not_true, Bool.false_eq_true, if_false]
theorem fSeq_nx {f g : Fs} {γ γ1 : Ge} (h : f γ = some (.nx γ1)) : fSeq f g γ = g γ1 := by unfold fSeq; rw [h]
theorem runF_rt {np n : Nat} {f : Fs} {ds : List D} {d : D} (hl : ds.length = np) (h : f (entry n ds) = some (.rt d)) : runF np n f ds = some (.ok d) := by unfold runF; rw [if_pos hl, h]
theorem law_true (ns : List Int) (hl : ns.length ≤ 63) : Phi 60 .law [.list (ns.map .int)] = some (.ok (.bool true)) := by
  obtain ⟨x, y, z, hx, hy, hz, en⟩ := run_names 58 (cellT ns 0)
  have hp : ∀ w ∈ [x, y, z], okM w := by
    intro w hw
    simp only [List.mem_cons, List.not_mem_nil, or_false] at hw
    rcases hw with rfl | rfl | rfl
    · exact hx.ok
    · exact hy.ok
    · exact hz.ok
  have c0 : Phi 59 .l_cell_at [.list (ns.map .int), .int 0] = some (.ok (.int (cellT ns 0))) := run_cell 58 ns 0
  have c1 : Phi 59 .l_cell_at [.list (ns.map .int), .int 1] = some (.ok (.int (cellT ns 1))) := run_cell 58 ns 1
  obtain ⟨s, fs, _, eb⟩ := run_built (ns := ns) hp (most := 99) (by omega) (n := 58) (by omega)
  obtain ⟨run, hr, hlow, er⟩ := run_run 58 ns 3 12 (by omega) hx hy hz
  have eb : Phi 59 .l_built [.list (ns.map .int), .list [.str x, .str y, .str z], .int 99] = some (.ok (enc s)) := eb
  have er : Phi 59 .l_run [.list (ns.map .int), .int 3, .list [.str x, .str y, .str z], .int 12] = some (.ok (.list (run.map .str))) := er
  have hok : ∀ s ∈ run, okM s := fun s hs => (hlow s hs).ok
  have tail : ∀ (t : Sta) (A B C0 : Sl), Fine 7 okM t →
      (fSeq (sSet 4 (fCall (Phi 59 .l_run) (fCons (fVar 0) (fCons (fCon (.int 3)) (fCons (fVar 1) (fCons (fCon (.int 12)) fNil))))))
    (fSeq (sSet 5 (fB oList (fCons (fOpd 4) fNil)))
    (fSeq (sSet 6 (fCall (Phi 59 .l_means) (fCons (fVar 2) (fCons (fVar 4) fNil))))
    (fSeq (sFor (wRg1 (fCons (fB oLen (fCons (fOpd 4) fNil)) fNil)) (gfN 7) (fSeq (sSet 8 (fCall (Phi 59 .holds) (fCons (fVar 2) (fCons (fVar 5) (fCons (fVar 7) fNil)))))
    (sIf (gOr (gNot (fT (f1 (oIsi "bool") (fOpd 8)))) (fT (f2 oNe (fOpd 8) (f2 oIx (fOpd 6) (fOpd 7))))) (sRet (fCon (.bool false))) fNext)))
    (sRet (f2 oEq (fOpd 5) (fOpd 4))))))) [.va (.list (ns.map .int)), .va (.list [.str x, .str y, .str z]), .va (enc t), C0, .no, .no, .no, .no, .no] = some (.rt (.bool true)) := by
    intro t A B C0 ft
    have hm := run_means (run := run) (by omega) t 59 ft.ks (by have := ft.dep; omega)
    have hm : Phi 59 .l_means [enc t, .list (run.map .str)] = some (.ok (rowD (meansT run t))) := hm
    obtain ⟨x', y', lp⟩ := law_loop (n := 59) (by omega) ft hr (.va (.list (ns.map .int))) (.va (.list [.str x, .str y, .str z])) C0 (.va (.list (run.map .str))) (List.range run.length) (fun i hi => List.mem_range.mp hi) .no .no
    have rg : rgOk 0 (run.length : Int) = true := by have := rgOk_nat (i := 0) (j := run.length) (by omega) (by omega); simpa using this
    have rd : rgD 0 (run.length : Int) = (List.range run.length).map fun i => .int ((i : Nat) : Int) := by have := rg_nat 0 run.length; simpa using this
    have e5 := eq_strs hok
    simp [fSeq, fNext, sRet, sRetN, sIf, sSet, sSetO, sAsg, sApp, sFor, forF, fVar, fOpd, fCon, f2, f1, fNil, fCons, bR, bL, bA, bLL, oR, fT, gAnd, gOr, gNot, gYes, fAnd, fOr, fNot, fIte, fTup, fLst, fCall, fCallO, fB, fM1, fSl, fiNo, fiSm, fLc, wLst, wTup, wStr, wRg1, wRg2, wZip, wEnum, gfN, gfTup, gsNil, gsCons, fLrg, fLrg3, wipeG, xSeq, xSet, xOf, xCall, xIf, xRet, xNext, xTup, xCons, xNil, xPut, xCallP, sRetX, List.getElem?_cons_zero, List.getElem?_cons_succ, List.set_cons_zero, List.set_cons_succ, er, oList, hm, rg, rd, lp, e5]
  rw [phi_law]
  unfold f_law
  have way : 0 ≤ cellT ns 1 / 8 % 6 := Int.emod_nonneg _ (by decide)
  have h1 : (sSet 1 (fCall (Phi 59 .l_names) (fCons (fCall (Phi 59 .l_cell_at) (fCons (fVar 0) (fCons (fCon (.int 0)) fNil))) fNil))) (entry 9 [.list (ns.map .int)]) = some (.nx [.va (.list (ns.map .int)), .va (.list [.str x, .str y, .str z]), .no, .no, .no, .no, .no, .no, .no]) := by
    simp [entry, fSeq, fNext, sRet, sRetN, sIf, sSet, sSetO, sAsg, sApp, sFor, forF, fVar, fOpd, fCon, f2, f1, fNil, fCons, bR, bL, bA, bLL, oR, fT, gAnd, gOr, gNot, gYes, fAnd, fOr, fNot, fIte, fTup, fLst, fCall, fCallO, fB, fM1, fSl, fiNo, fiSm, fLc, wLst, wTup, wStr, wRg1, wRg2, wZip, wEnum, gfN, gfTup, gsNil, gsCons, fLrg, fLrg3, wipeG, xSeq, xSet, xOf, xCall, xIf, xRet, xNext, xTup, xCons, xNil, xPut, xCallP, sRetX, List.getElem?_cons_zero, List.getElem?_cons_succ, List.set_cons_zero, List.set_cons_succ, List.replicate, c0, en]
  have h2 : (sSet 2 (fCall (Phi 59 .l_built) (fCons (fVar 0) (fCons (fVar 1) (fCons (fCon (.int 99)) fNil))))) [.va (.list (ns.map .int)), .va (.list [.str x, .str y, .str z]), .no, .no, .no, .no, .no, .no, .no] = some (.nx [.va (.list (ns.map .int)), .va (.list [.str x, .str y, .str z]), .va (enc s), .no, .no, .no, .no, .no, .no]) := by
    simp [fSeq, fNext, sRet, sRetN, sIf, sSet, sSetO, sAsg, sApp, sFor, forF, fVar, fOpd, fCon, f2, f1, fNil, fCons, bR, bL, bA, bLL, oR, fT, gAnd, gOr, gNot, gYes, fAnd, fOr, fNot, fIte, fTup, fLst, fCall, fCallO, fB, fM1, fSl, fiNo, fiSm, fLc, wLst, wTup, wStr, wRg1, wRg2, wZip, wEnum, gfN, gfTup, gsNil, gsCons, fLrg, fLrg3, wipeG, xSeq, xSet, xOf, xCall, xIf, xRet, xNext, xTup, xCons, xNil, xPut, xCallP, sRetX, List.getElem?_cons_zero, List.getElem?_cons_succ, List.set_cons_zero, List.set_cons_succ, eb]
  have h3 : (sSet 3 (f2 oMod (f2 oDiv (fCall (Phi 59 .l_cell_at) (fCons (fVar 0) (fCons (fCon (.int 1)) fNil))) (fCon (.int 8))) (fCon (.int 6)))) [.va (.list (ns.map .int)), .va (.list [.str x, .str y, .str z]), .va (enc s), .no, .no, .no, .no, .no, .no] = some (.nx [.va (.list (ns.map .int)), .va (.list [.str x, .str y, .str z]), .va (enc s), .va (.int (cellT ns 1 / 8 % 6)), .no, .no, .no, .no, .no]) := by
    simp [fSeq, fNext, sRet, sRetN, sIf, sSet, sSetO, sAsg, sApp, sFor, forF, fVar, fOpd, fCon, f2, f1, fNil, fCons, bR, bL, bA, bLL, oR, fT, gAnd, gOr, gNot, gYes, fAnd, fOr, fNot, fIte, fTup, fLst, fCall, fCallO, fB, fM1, fSl, fiNo, fiSm, fLc, wLst, wTup, wStr, wRg1, wRg2, wZip, wEnum, gfN, gfTup, gsNil, gsCons, fLrg, fLrg3, wipeG, xSeq, xSet, xOf, xCall, xIf, xRet, xNext, xTup, xCons, xNil, xPut, xCallP, sRetX, List.getElem?_cons_zero, List.getElem?_cons_succ, List.set_cons_zero, List.set_cons_succ, c1]
  have h4 : ∃ t : Sta, Fine 7 okM t ∧ (sIf (gAnd (fT (f2 oLt (fOpd 3) (fCon (.int 2)))) (fT (f2 oNe (f2 oMod (fCall (Phi 59 .l_cell_at) (fCons (fVar 0) (fCons (fCon (.int 1)) fNil))) (fCon (.int 8))) (fCon (.int 5))))) (sSet 2 (f2 oIx (fLst (fCons (fTup (fCons (fCon (.str "before")) (fCons (fVar 2) fNil))) (fCons (fTup (fCons (fCon (.str "since")) (fCons (fVar 2) (fCons (fTup (fCons (fCon (.str "mark")) (fCons (f2 oIx (fOpd 1) (fCon (.int 1))) fNil))) fNil)))) fNil))) (fOpd 3))) fNext)
      [.va (.list (ns.map .int)), .va (.list [.str x, .str y, .str z]), .va (enc s), .va (.int (cellT ns 1 / 8 % 6)), .no, .no, .no, .no, .no] = some (.nx [.va (.list (ns.map .int)), .va (.list [.str x, .str y, .str z]), .va (enc t), .va (.int (cellT ns 1 / 8 % 6)), .no, .no, .no, .no, .no]) := by
    have same : Fine 7 okM s := ⟨by have := fs.dep; omega, fs.mks, fs.ks⟩
    by_cases hw : cellT ns 1 / 8 % 6 < 2
    · by_cases hv : cellT ns 1 % 8 = 5
      · exact ⟨s, same, by simp [fSeq, fNext, sRet, sRetN, sIf, sSet, sSetO, sAsg, sApp, sFor, forF, fVar, fOpd, fCon, f2, f1, fNil, fCons, bR, bL, bA, bLL, oR, fT, gAnd, gOr, gNot, gYes, fAnd, fOr, fNot, fIte, fTup, fLst, fCall, fCallO, fB, fM1, fSl, fiNo, fiSm, fLc, wLst, wTup, wStr, wRg1, wRg2, wZip, wEnum, gfN, gfTup, gsNil, gsCons, fLrg, fLrg3, wipeG, xSeq, xSet, xOf, xCall, xIf, xRet, xNext, xTup, xCons, xNil, xPut, xCallP, sRetX, List.getElem?_cons_zero, List.getElem?_cons_succ, List.set_cons_zero, List.set_cons_succ, c1, hw, hv]⟩
      · have hv' : (cellT ns 1 % 8 == 5) = false := beq_eq_false_iff_ne.mpr hv
        have hz : cellT ns 1 / 8 % 6 = 0 ∨ cellT ns 1 / 8 % 6 = 1 := by omega
        rcases hz with h | h
        · exact ⟨.bf s, ⟨by have := fs.dep; simp [Sta.depth]; omega, fs.mks, fs.ks⟩, by simp [fSeq, fNext, sRet, sRetN, sIf, sSet, sSetO, sAsg, sApp, sFor, forF, fVar, fOpd, fCon, f2, f1, fNil, fCons, bR, bL, bA, bLL, oR, fT, gAnd, gOr, gNot, gYes, fAnd, fOr, fNot, fIte, fTup, fLst, fCall, fCallO, fB, fM1, fSl, fiNo, fiSm, fLc, wLst, wTup, wStr, wRg1, wRg2, wZip, wEnum, gfN, gfTup, gsNil, gsCons, fLrg, fLrg3, wipeG, xSeq, xSet, xOf, xCall, xIf, xRet, xNext, xTup, xCons, xNil, xPut, xCallP, sRetX, List.getElem?_cons_zero, List.getElem?_cons_succ, List.set_cons_zero, List.set_cons_succ, c1, h, hv', enc]⟩
        · exact ⟨.si s (.mark y), ⟨by have := fs.dep; simp [Sta.depth]; omega, ⟨fs.mks, hp y (by simp)⟩, ⟨fs.ks, trivial⟩⟩, by simp [fSeq, fNext, sRet, sRetN, sIf, sSet, sSetO, sAsg, sApp, sFor, forF, fVar, fOpd, fCon, f2, f1, fNil, fCons, bR, bL, bA, bLL, oR, fT, gAnd, gOr, gNot, gYes, fAnd, fOr, fNot, fIte, fTup, fLst, fCall, fCallO, fB, fM1, fSl, fiNo, fiSm, fLc, wLst, wTup, wStr, wRg1, wRg2, wZip, wEnum, gfN, gfTup, gsNil, gsCons, fLrg, fLrg3, wipeG, xSeq, xSet, xOf, xCall, xIf, xRet, xNext, xTup, xCons, xNil, xPut, xCallP, sRetX, List.getElem?_cons_zero, List.getElem?_cons_succ, List.set_cons_zero, List.set_cons_succ, c1, h, hv', enc]⟩
    · exact ⟨s, same, by simp [fSeq, fNext, sRet, sRetN, sIf, sSet, sSetO, sAsg, sApp, sFor, forF, fVar, fOpd, fCon, f2, f1, fNil, fCons, bR, bL, bA, bLL, oR, fT, gAnd, gOr, gNot, gYes, fAnd, fOr, fNot, fIte, fTup, fLst, fCall, fCallO, fB, fM1, fSl, fiNo, fiSm, fLc, wLst, wTup, wStr, wRg1, wRg2, wZip, wEnum, gfN, gfTup, gsNil, gsCons, fLrg, fLrg3, wipeG, xSeq, xSet, xOf, xCall, xIf, xRet, xNext, xTup, xCons, xNil, xPut, xCallP, sRetX, List.getElem?_cons_zero, List.getElem?_cons_succ, List.set_cons_zero, List.set_cons_succ, c1, hw]⟩
  obtain ⟨t, ft, h4⟩ := h4
  exact runF_rt rfl (by rw [fSeq_nx h1, fSeq_nx h2, fSeq_nx h3, fSeq_nx h4]; exact tail t .no .no _ ft)
end K04

def K04.MM : Py.Pm := ⟨fun _ => none, fun _ => .none⟩
namespace K04
open PySem PySem.Spec PyProof.Rows L2 Py
section
variable {P : Program} {w : World} {K : PySem.W.Frag} {mg : Str → Option Value} {base : Heap} {M : Pm} {fa : Nm → Addr} {fdd : Nm → FuncData}
theorem okX_all (D : DD K mg fa fdd) (Z : ZZ mg) : ∀ (n : Nat) (i : Nx), FnOk P w K mg base (L2.CX P w) n (fa i.n) (fdd i.n) (psN i.n) (spS K M (Psi n i))
  | 0, _ => fnX_zero
  | n + 1, i => by
    have OX := okX_all D Z n
    cases i with
    | l_draw => exact fnX_ok (D.d .l_draw).F sc_l_draw fun cdv A outer s H E C tk => d_l_draw D Z OX (Nat.le_refl n) cdv A outer s H E C tk
    | l_made => exact fnX_ok (D.d .l_made).F sc_l_made fun cdv A outer s H E C tk => d_l_made D Z OX (Nat.le_refl n) cdv A outer s H E C tk
theorem ok_all (D : DD K mg fa fdd) (Z : ZZ mg) : ∀ (n : Nat) (i : Nm), FnOk P w K mg base (L2.CX P w) n (fa i) (fdd i) (psN i) (spF K M (Phi n i))
  | 0, _ => fn_zero
  | n + 1, i => by
    have OK := ok_all D Z n
    cases i with
    | is_reached => exact fn_ok (D.d .is_reached).F sc_is_reached fun cdv A outer s H E C tk => d_is_reached D Z OK (Nat.le_refl n) cdv A outer s H E C tk
    | holds => exact fn_ok (D.d .holds).F sc_holds fun cdv A outer s H E C tk => d_holds D Z OK (Nat.le_refl n) cdv A outer s H E C tk
    | l_cell_at => exact fn_ok (D.d .l_cell_at).F sc_l_cell_at fun cdv A outer s H E C tk => d_l_cell_at D Z OK (Nat.le_refl n) cdv A outer s H E C tk
    | l_names => exact fn_ok (D.d .l_names).F sc_l_names fun cdv A outer s H E C tk => d_l_names D Z OK (Nat.le_refl n) cdv A outer s H E C tk
    | l_all => exact fn_ok (D.d .l_all).F sc_l_all fun cdv A outer s H E C tk => d_l_all D Z OK (Nat.le_refl n) cdv A outer s H E C tk
    | l_wishes => exact fn_ok (D.d .l_wishes).F sc_l_wishes fun cdv A outer s H E C tk => d_l_wishes D Z OK (Nat.le_refl n) cdv A outer s H E C tk
    | l_fit => exact fn_ok (D.d .l_fit).F sc_l_fit fun cdv A outer s H E C tk => d_l_fit D Z OK (Nat.le_refl n) cdv A outer s H E C tk
    | l_until => exact fn_ok (D.d .l_until).F sc_l_until fun cdv A outer s H E C tk => d_l_until D Z OK (Nat.le_refl n) cdv A outer s H E C tk
    | l_means => exact fn_ok (D.d .l_means).F sc_l_means fun cdv A outer s H E C tk => d_l_means D Z OK (Nat.le_refl n) cdv A outer s H E C tk
    | l_run => exact fn_ok (D.d .l_run).F sc_l_run fun cdv A outer s H E C tk => d_l_run D Z OK (Nat.le_refl n) cdv A outer s H E C tk
    | l_built => exact fn_ok (D.d .l_built).F sc_l_built fun cdv A outer s H E C tk => d_l_built D Z OK (okX_all D Z n) (Nat.le_refl n) cdv A outer s H E C tk
    | law => exact fn_ok (D.d .law).F sc_law fun cdv A outer s H E C tk => d_law D Z OK (Nat.le_refl n) cdv A outer s H E C tk
    | l_draw => exact fn_none
    | l_made => exact fn_none
end
theorem df_mk {h : Heap} {K : PySem.W.Frag} {mg : Str → Option Value} {x : Str} {st : Stmt} {ps : List Str} {f : Addr} (X : K.In h) (G : h.Ns mainGlobals mg) {od an : Option Addr} {sl : Array (Option Value)} {oc kV dc pm cd ct : Value}
    (a : PySem.W.nsIn K mainGlobals x = some (some (.ref f))) (l : K.lookup f = some ⟨oc, od, .func (PySem.W.fnOf x x (defArgs st) (defBody st) (defScope st) .none kV dc pm an cd ct), sl⟩) (c : PySem.W.codeIn K cd x = true) (k : PySem.W.keepIn K (.ref f) = true)
    (hb : ∀ (kV doc pm : Value) (an : Option Addr) (cdv ct : Value) (us : List Value), us.length = ps.length → bindArgs (PySem.W.fnOf x x (defArgs st) (defBody st) (defScope st) .none kV doc pm an cdv ct) ⟨us, []⟩ = pure (ps.zip us)) :
    Df K mg x st ps f (PySem.W.fnOf x x (defArgs st) (defBody st) (defScope st) .none kV dc pm an cd ct) := by
  have F := fun_mk (st := st) l c k
  exact ⟨F, F.binds hb, PySem.W.mg_of X G a⟩
theorem all_mk {l : PySem.W.OpenLaw} {w : World} {K : PySem.W.Frag} {h : Heap} {mg : Str → Option Value} {fl : Addr} (X : K.In h) (G : h.Ns mainGlobals mg) (hfa : mg "law" = some (.ref fl)) {f1 f2 f3 f4 f5 f6 f7 f8 f9 f10 f11 f12 f13 f14 : Addr}
    {od1 an1 od2 an2 od3 an3 od4 an4 od5 an5 od6 an6 od7 an7 od8 an8 od9 an9 od10 an10 od11 an11 od12 an12 od13 an13 od14 an14 : Option Addr} {sl1 sl2 sl3 sl4 sl5 sl6 sl7 sl8 sl9 sl10 sl11 sl12 sl13 sl14 : Array (Option Value)} {oc1 kV1 dc1 pm1 cd1 ct1 oc2 kV2 dc2 pm2 cd2 ct2 oc3 kV3 dc3 pm3 cd3 ct3 oc4 kV4 dc4 pm4 cd4 ct4 oc5 kV5 dc5 pm5 cd5 ct5 oc6 kV6 dc6 pm6 cd6 ct6 oc7 kV7 dc7 pm7 cd7 ct7 oc8 kV8 dc8 pm8 cd8 ct8 oc9 kV9 dc9 pm9 cd9 ct9 oc10 kV10 dc10 pm10 cd10 ct10 oc11 kV11 dc11 pm11 cd11 ct11 oc12 kV12 dc12 pm12 cd12 ct12 oc13 kV13 dc13 pm13 cd13 ct13 oc14 kV14 dc14 pm14 cd14 ct14 : Value}
    (a1 : PySem.W.nsIn K mainGlobals "is_reached" = some (some (.ref f1))) (l1 : K.lookup f1 = some ⟨oc1, od1, .func (PySem.W.fnOf "is_reached" "is_reached" (defArgs s_is_reached) (defBody s_is_reached) (defScope s_is_reached) .none kV1 dc1 pm1 an1 cd1 ct1), sl1⟩) (c1 : PySem.W.codeIn K cd1 "is_reached" = true) (k1 : PySem.W.keepIn K (.ref f1) = true)
    (a2 : PySem.W.nsIn K mainGlobals "holds" = some (some (.ref f2))) (l2 : K.lookup f2 = some ⟨oc2, od2, .func (PySem.W.fnOf "holds" "holds" (defArgs s_holds) (defBody s_holds) (defScope s_holds) .none kV2 dc2 pm2 an2 cd2 ct2), sl2⟩) (c2 : PySem.W.codeIn K cd2 "holds" = true) (k2 : PySem.W.keepIn K (.ref f2) = true)
    (a3 : PySem.W.nsIn K mainGlobals "_law_cell_at" = some (some (.ref f3))) (l3 : K.lookup f3 = some ⟨oc3, od3, .func (PySem.W.fnOf "_law_cell_at" "_law_cell_at" (defArgs s_l_cell_at) (defBody s_l_cell_at) (defScope s_l_cell_at) .none kV3 dc3 pm3 an3 cd3 ct3), sl3⟩) (c3 : PySem.W.codeIn K cd3 "_law_cell_at" = true) (k3 : PySem.W.keepIn K (.ref f3) = true)
    (a4 : PySem.W.nsIn K mainGlobals "_law_names" = some (some (.ref f4))) (l4 : K.lookup f4 = some ⟨oc4, od4, .func (PySem.W.fnOf "_law_names" "_law_names" (defArgs s_l_names) (defBody s_l_names) (defScope s_l_names) .none kV4 dc4 pm4 an4 cd4 ct4), sl4⟩) (c4 : PySem.W.codeIn K cd4 "_law_names" = true) (k4 : PySem.W.keepIn K (.ref f4) = true)
    (a5 : PySem.W.nsIn K mainGlobals "_law_all" = some (some (.ref f5))) (l5 : K.lookup f5 = some ⟨oc5, od5, .func (PySem.W.fnOf "_law_all" "_law_all" (defArgs s_l_all) (defBody s_l_all) (defScope s_l_all) .none kV5 dc5 pm5 an5 cd5 ct5), sl5⟩) (c5 : PySem.W.codeIn K cd5 "_law_all" = true) (k5 : PySem.W.keepIn K (.ref f5) = true)
    (a6 : PySem.W.nsIn K mainGlobals "_law_wishes" = some (some (.ref f6))) (l6 : K.lookup f6 = some ⟨oc6, od6, .func (PySem.W.fnOf "_law_wishes" "_law_wishes" (defArgs s_l_wishes) (defBody s_l_wishes) (defScope s_l_wishes) .none kV6 dc6 pm6 an6 cd6 ct6), sl6⟩) (c6 : PySem.W.codeIn K cd6 "_law_wishes" = true) (k6 : PySem.W.keepIn K (.ref f6) = true)
    (a7 : PySem.W.nsIn K mainGlobals "_law_fit" = some (some (.ref f7))) (l7 : K.lookup f7 = some ⟨oc7, od7, .func (PySem.W.fnOf "_law_fit" "_law_fit" (defArgs s_l_fit) (defBody s_l_fit) (defScope s_l_fit) .none kV7 dc7 pm7 an7 cd7 ct7), sl7⟩) (c7 : PySem.W.codeIn K cd7 "_law_fit" = true) (k7 : PySem.W.keepIn K (.ref f7) = true)
    (a8 : PySem.W.nsIn K mainGlobals "_law_until" = some (some (.ref f8))) (l8 : K.lookup f8 = some ⟨oc8, od8, .func (PySem.W.fnOf "_law_until" "_law_until" (defArgs s_l_until) (defBody s_l_until) (defScope s_l_until) .none kV8 dc8 pm8 an8 cd8 ct8), sl8⟩) (c8 : PySem.W.codeIn K cd8 "_law_until" = true) (k8 : PySem.W.keepIn K (.ref f8) = true)
    (a9 : PySem.W.nsIn K mainGlobals "_law_means" = some (some (.ref f9))) (l9 : K.lookup f9 = some ⟨oc9, od9, .func (PySem.W.fnOf "_law_means" "_law_means" (defArgs s_l_means) (defBody s_l_means) (defScope s_l_means) .none kV9 dc9 pm9 an9 cd9 ct9), sl9⟩) (c9 : PySem.W.codeIn K cd9 "_law_means" = true) (k9 : PySem.W.keepIn K (.ref f9) = true)
    (a10 : PySem.W.nsIn K mainGlobals "_law_run" = some (some (.ref f10))) (l10 : K.lookup f10 = some ⟨oc10, od10, .func (PySem.W.fnOf "_law_run" "_law_run" (defArgs s_l_run) (defBody s_l_run) (defScope s_l_run) .none kV10 dc10 pm10 an10 cd10 ct10), sl10⟩) (c10 : PySem.W.codeIn K cd10 "_law_run" = true) (k10 : PySem.W.keepIn K (.ref f10) = true)
    (a11 : PySem.W.nsIn K mainGlobals "_law_built" = some (some (.ref f11))) (l11 : K.lookup f11 = some ⟨oc11, od11, .func (PySem.W.fnOf "_law_built" "_law_built" (defArgs s_l_built) (defBody s_l_built) (defScope s_l_built) .none kV11 dc11 pm11 an11 cd11 ct11), sl11⟩) (c11 : PySem.W.codeIn K cd11 "_law_built" = true) (k11 : PySem.W.keepIn K (.ref f11) = true)
    (a12 : PySem.W.nsIn K mainGlobals "law" = some (some (.ref f12))) (l12 : K.lookup f12 = some ⟨oc12, od12, .func (PySem.W.fnOf "law" "law" (defArgs s_law) (defBody s_law) (defScope s_law) .none kV12 dc12 pm12 an12 cd12 ct12), sl12⟩) (c12 : PySem.W.codeIn K cd12 "law" = true) (k12 : PySem.W.keepIn K (.ref f12) = true)
    (a13 : PySem.W.nsIn K mainGlobals "_law_draw" = some (some (.ref f13))) (l13 : K.lookup f13 = some ⟨oc13, od13, .func (PySem.W.fnOf "_law_draw" "_law_draw" (defArgs s_l_draw) (defBody s_l_draw) (defScope s_l_draw) .none kV13 dc13 pm13 an13 cd13 ct13), sl13⟩) (c13 : PySem.W.codeIn K cd13 "_law_draw" = true) (k13 : PySem.W.keepIn K (.ref f13) = true)
    (a14 : PySem.W.nsIn K mainGlobals "_law_made" = some (some (.ref f14))) (l14 : K.lookup f14 = some ⟨oc14, od14, .func (PySem.W.fnOf "_law_made" "_law_made" (defArgs s_l_made) (defBody s_l_made) (defScope s_l_made) .none kV14 dc14 pm14 an14 cd14 ct14), sl14⟩) (c14 : PySem.W.codeIn K cd14 "_law_made" = true) (k14 : PySem.W.keepIn K (.ref f14) = true)
    (z1 : PySem.W.nsIn K mainGlobals "len" = some none)
    (z2 : PySem.W.nsIn K mainGlobals "min" = some none)
    (z3 : PySem.W.nsIn K mainGlobals "range" = some none)
    (z4 : PySem.W.nsIn K mainGlobals "any" = some none)
    (z5 : PySem.W.nsIn K mainGlobals "list" = some none)
    (z6 : PySem.W.nsIn K mainGlobals "isinstance" = some none)
    (z7 : PySem.W.nsIn K mainGlobals "tuple" = some none)
    (z8 : PySem.W.nsIn K mainGlobals "zip" = some none)
    (z9 : PySem.W.nsIn K mainGlobals "int" = some none)
    (z10 : PySem.W.nsIn K mainGlobals "bool" = some none)
    : ∃ fd : FuncData, (∀ (s : Shared) (v : Value), BindsTo s fd ⟨[v], []⟩ [("_law_script", v)]) ∧ ∀ base : Heap, K.In base → base.Ns mainGlobals mg → FnOk l.prog w K mg base (L2.CX l.prog w) 60 fl fd ["_law_script"] (spF K MM (Phi 60 .law)) := by
  have e := hfa.symm.trans (PySem.W.mg_of X G a12)
  cases e
  let fa : Nm → Addr := fun i => match i with
    | .is_reached => f1
    | .holds => f2
    | .l_cell_at => f3
    | .l_names => f4
    | .l_all => f5
    | .l_wishes => f6
    | .l_fit => f7
    | .l_until => f8
    | .l_means => f9
    | .l_run => f10
    | .l_built => f11
    | .law => fl
    | .l_draw => f13
    | .l_made => f14
  let fdd : Nm → FuncData := fun i => match i with
    | .is_reached => PySem.W.fnOf "is_reached" "is_reached" (defArgs s_is_reached) (defBody s_is_reached) (defScope s_is_reached) .none kV1 dc1 pm1 an1 cd1 ct1
    | .holds => PySem.W.fnOf "holds" "holds" (defArgs s_holds) (defBody s_holds) (defScope s_holds) .none kV2 dc2 pm2 an2 cd2 ct2
    | .l_cell_at => PySem.W.fnOf "_law_cell_at" "_law_cell_at" (defArgs s_l_cell_at) (defBody s_l_cell_at) (defScope s_l_cell_at) .none kV3 dc3 pm3 an3 cd3 ct3
    | .l_names => PySem.W.fnOf "_law_names" "_law_names" (defArgs s_l_names) (defBody s_l_names) (defScope s_l_names) .none kV4 dc4 pm4 an4 cd4 ct4
    | .l_all => PySem.W.fnOf "_law_all" "_law_all" (defArgs s_l_all) (defBody s_l_all) (defScope s_l_all) .none kV5 dc5 pm5 an5 cd5 ct5
    | .l_wishes => PySem.W.fnOf "_law_wishes" "_law_wishes" (defArgs s_l_wishes) (defBody s_l_wishes) (defScope s_l_wishes) .none kV6 dc6 pm6 an6 cd6 ct6
    | .l_fit => PySem.W.fnOf "_law_fit" "_law_fit" (defArgs s_l_fit) (defBody s_l_fit) (defScope s_l_fit) .none kV7 dc7 pm7 an7 cd7 ct7
    | .l_until => PySem.W.fnOf "_law_until" "_law_until" (defArgs s_l_until) (defBody s_l_until) (defScope s_l_until) .none kV8 dc8 pm8 an8 cd8 ct8
    | .l_means => PySem.W.fnOf "_law_means" "_law_means" (defArgs s_l_means) (defBody s_l_means) (defScope s_l_means) .none kV9 dc9 pm9 an9 cd9 ct9
    | .l_run => PySem.W.fnOf "_law_run" "_law_run" (defArgs s_l_run) (defBody s_l_run) (defScope s_l_run) .none kV10 dc10 pm10 an10 cd10 ct10
    | .l_built => PySem.W.fnOf "_law_built" "_law_built" (defArgs s_l_built) (defBody s_l_built) (defScope s_l_built) .none kV11 dc11 pm11 an11 cd11 ct11
    | .law => PySem.W.fnOf "law" "law" (defArgs s_law) (defBody s_law) (defScope s_law) .none kV12 dc12 pm12 an12 cd12 ct12
    | .l_draw => PySem.W.fnOf "_law_draw" "_law_draw" (defArgs s_l_draw) (defBody s_l_draw) (defScope s_l_draw) .none kV13 dc13 pm13 an13 cd13 ct13
    | .l_made => PySem.W.fnOf "_law_made" "_law_made" (defArgs s_l_made) (defBody s_l_made) (defScope s_l_made) .none kV14 dc14 pm14 an14 cd14 ct14
  have D : DD K mg fa fdd := ⟨fun i => by
    cases i with
    | is_reached => exact df_mk X G a1 l1 c1 k1 fun _ _ _ _ _ _ us hl => match us, hl with | [_, _, _, _], _ => rfl
    | holds => exact df_mk X G a2 l2 c2 k2 fun _ _ _ _ _ _ us hl => match us, hl with | [_, _, _], _ => rfl
    | l_cell_at => exact df_mk X G a3 l3 c3 k3 fun _ _ _ _ _ _ us hl => match us, hl with | [_, _], _ => rfl
    | l_names => exact df_mk X G a4 l4 c4 k4 fun _ _ _ _ _ _ us hl => match us, hl with | [_], _ => rfl
    | l_all => exact df_mk X G a5 l5 c5 k5 fun _ _ _ _ _ _ us hl => match us, hl with | [_], _ => rfl
    | l_wishes => exact df_mk X G a6 l6 c6 k6 fun _ _ _ _ _ _ us hl => match us, hl with | [_], _ => rfl
    | l_fit => exact df_mk X G a7 l7 c7 k7 fun _ _ _ _ _ _ us hl => match us, hl with | [_, _], _ => rfl
    | l_until => exact df_mk X G a8 l8 c8 k8 fun _ _ _ _ _ _ us hl => match us, hl with | [_, _], _ => rfl
    | l_means => exact df_mk X G a9 l9 c9 k9 fun _ _ _ _ _ _ us hl => match us, hl with | [_, _], _ => rfl
    | l_run => exact df_mk X G a10 l10 c10 k10 fun _ _ _ _ _ _ us hl => match us, hl with | [_, _, _, _], _ => rfl
    | l_built => exact df_mk X G a11 l11 c11 k11 fun _ _ _ _ _ _ us hl => match us, hl with | [_, _, _], _ => rfl
    | law => exact df_mk X G a12 l12 c12 k12 fun _ _ _ _ _ _ us hl => match us, hl with | [_], _ => rfl
    | l_draw => exact df_mk X G a13 l13 c13 k13 fun _ _ _ _ _ _ us hl => match us, hl with | [_, _], _ => rfl
    | l_made => exact df_mk X G a14 l14 c14 k14 fun _ _ _ _ _ _ us hl => match us, hl with | [_, _, _, _, _], _ => rfl
    ⟩
  have Z : ZZ mg := ⟨PySem.W.mg_none_of X G z1, PySem.W.mg_none_of X G z2, PySem.W.mg_none_of X G z3, PySem.W.mg_none_of X G z4, PySem.W.mg_none_of X G z5, PySem.W.mg_none_of X G z6, PySem.W.mg_none_of X G z7, PySem.W.mg_none_of X G z8, PySem.W.mg_none_of X G z9, PySem.W.mg_none_of X G z10⟩
  refine ⟨fdd .law, fun s v => .of_eq rfl, fun base _ _ => ?_⟩
  exact ok_all (P := l.prog) (w := w) (base := base) (M := MM) D Z 60 .law
end K04
open PySem PySem.W PyProof.Rows
set_option maxRecDepth 100000 in
set_option maxHeartbeats 0 in
theorem PySem.Challenge.cw_soonsaid_k04_what_it_means_holds : PySem.Challenge.rw_soonsaid_k04_what_it_means.Holds := by
  w_on; o_law; k_head; (case hw => w_witness2)
  k_fill
  refine L2.walk_of (l := PySem.Challenge.rw_soonsaid_k04_what_it_means) (n := 63) (k := 60) (x := "_law_script") (CX := fun w => L2.CX PySem.Challenge.rw_soonsaid_k04_what_it_means.prog w) (sp := fun w => Py.spF _ K04.MM (K04.Phi 60 .law)) rfl (by decide) rfl ⟨rfl, by decide, by decide⟩ (fun w h Y => PySem.W.kIn_of Y) ?F (fun w H a ns hl _ hS => Py.law_end hS (K04.law_true ns hl)) (fun _ _ _ _ _ z => Py.no_exc z)
  case F =>
    intro w mg fa h KX G hmg
    refine' K04.all_mk KX G hmg ?a1 ?l1 ?c1 ?k1 ?a2 ?l2 ?c2 ?k2 ?a3 ?l3 ?c3 ?k3 ?a4 ?l4 ?c4 ?k4 ?a5 ?l5 ?c5 ?k5 ?a6 ?l6 ?c6 ?k6 ?a7 ?l7 ?c7 ?k7 ?a8 ?l8 ?c8 ?k8 ?a9 ?l9 ?c9 ?k9 ?a10 ?l10 ?c10 ?k10 ?a11 ?l11 ?c11 ?k11 ?a12 ?l12 ?c12 ?k12 ?a13 ?l13 ?c13 ?k13 ?a14 ?l14 ?c14 ?k14 ?z1 ?z2 ?z3 ?z4 ?z5 ?z6 ?z7 ?z8 ?z9 ?z10
    (case a1 => k_is)
    (case l1 => k_is)
    (case c1 => k_is)
    (case k1 => k_is)
    (case a2 => k_is)
    (case l2 => k_is)
    (case c2 => k_is)
    (case k2 => k_is)
    (case a3 => k_is)
    (case l3 => k_is)
    (case c3 => k_is)
    (case k3 => k_is)
    (case a4 => k_is)
    (case l4 => k_is)
    (case c4 => k_is)
    (case k4 => k_is)
    (case a5 => k_is)
    (case l5 => k_is)
    (case c5 => k_is)
    (case k5 => k_is)
    (case a6 => k_is)
    (case l6 => k_is)
    (case c6 => k_is)
    (case k6 => k_is)
    (case a7 => k_is)
    (case l7 => k_is)
    (case c7 => k_is)
    (case k7 => k_is)
    (case a8 => k_is)
    (case l8 => k_is)
    (case c8 => k_is)
    (case k8 => k_is)
    (case a9 => k_is)
    (case l9 => k_is)
    (case c9 => k_is)
    (case k9 => k_is)
    (case a10 => k_is)
    (case l10 => k_is)
    (case c10 => k_is)
    (case k10 => k_is)
    (case a11 => k_is)
    (case l11 => k_is)
    (case c11 => k_is)
    (case k11 => k_is)
    (case a12 => k_is)
    (case l12 => k_is)
    (case c12 => k_is)
    (case k12 => k_is)
    (case a13 => k_is)
    (case l13 => k_is)
    (case c13 => k_is)
    (case k13 => k_is)
    (case a14 => k_is)
    (case l14 => k_is)
    (case c14 => k_is)
    (case k14 => k_is)
    (case z1 => k_is)
    (case z2 => k_is)
    (case z3 => k_is)
    (case z4 => k_is)
    (case z5 => k_is)
    (case z6 => k_is)
    (case z7 => k_is)
    (case z8 => k_is)
    (case z9 => k_is)
    (case z10 => k_is)

