import PyProof.Rows.All
import Wide.All
import OpenK.AllK
import Wide.FinOn
import HandS.ForMost
import HandS.ForExc
import HandS.Deep
import HandS.Style
import HandS.Conv
import HandS.IsInst
import HandS.Set
import HandS.SetTxt0
import HandS.Strs
import PySem.Challenge.RW_soonsaid_k08_shortest_ways
set_option Elab.async false
set_option linter.all false
set_option maxRecDepth 100000
set_option maxHeartbeats 4000000
/-! PyA: data, how the heap bears it, steps, slots -/
namespace Py
open PySem PySem.Spec PyProof.Rows L2

abbrev D := PyData
structure Pm where
  ci : Str → Option (Addr × List Str)
  exc : Str → Value
  /-- objects that change: where they stand -/
  lv : Nat → Option Addr := fun _ => none
  /-- what stood before: no new list is among it -/
  kp : Hp := fun _ => none

mutual
/-- the value v stands for the datum d in the (frozen) heap G -/
inductive R (K : PySem.W.Frag) (M : Pm) (G : Hp) : V → D → Prop
  | non : R K M G .non .none
  | bl (b : Bool) : R K M G (.bl b) (.bool b)
  | int (i : Int) : R K M G (.int i) (.int i)
  | str (x : Str) : R K M G (.str x) (.str x)
  | lst {a : Addr} {xs : List V} {ds : List D} : SqL K G a xs → RA K M G xs ds → R K M G (.ref a) (.list ds)
  | tup {a : Addr} {xs : List V} {ds : List D} : SqT K G a xs → RA K M G xs ds → R K M G (.ref a) (.tuple ds)
  | ins {a C dx : Addr} {fs : List (Str × V)} {c : Str} {ns : List Str} {ds : List D} : G a = some (.ins C dx fs) → M.ci c = some (C, ns) → fs.map (·.1) = ns → RA K M G (fs.map (·.2)) ds → R K M G (.ref a) (.dict [(.str c, .list ds)])
  | edict {a : Addr} : G a = some (.dK []) → R K M G (.ref a) (.dict [])
  | live {a : Addr} {k : Nat} : M.lv k = some a → R K M G (.ref a) (.dict [(.none, .int k)])
  | new {a : Addr} {xs : List V} {ds : List D} : G a = some (.lst xs) → M.kp a = none → RA K M G xs ds → R K M G (.ref a) (.dict [(.none, .list ds)])
inductive RA (K : PySem.W.Frag) (M : Pm) (G : Hp) : List V → List D → Prop
  | nil : RA K M G [] []
  | cons {v : V} {vs : List V} {d : D} {ds : List D} : R K M G v d → RA K M G vs ds → RA K M G (v :: vs) (d :: ds)
end

section
variable {K : PySem.W.Frag} {M : Pm} {G G' H H' : Hp}
theorem same_T {a : Addr} {xs : List V} (e : Same H H') (h : SqT K H a xs) : SqT K H' a xs := by
  rcases h with (h | ⟨o, h⟩) | h
  · exact .inl (.inl (e _ _ h))
  · exact .inl (.inr ⟨o, e _ _ h⟩)
  · exact .inr h
mutual
theorem R.mono (e : Same G G') : ∀ {v : V} {d : D}, R K M G v d → R K M G' v d
  | _, _, .non => .non
  | _, _, .bl b => .bl b
  | _, _, .int i => .int i
  | _, _, .str x => .str x
  | _, _, .lst h r => .lst (e.seq h) (RA.mono e r)
  | _, _, .tup h r => .tup (same_T e h) (RA.mono e r)
  | _, _, .ins h c n r => .ins (e _ _ h) c n (RA.mono e r)
  | _, _, .edict h => .edict (e _ _ h)
  | _, _, .live h => .live h
  | _, _, .new h n r => .new (e _ _ h) n (RA.mono e r)
theorem RA.mono (e : Same G G') : ∀ {vs : List V} {ds : List D}, RA K M G vs ds → RA K M G' vs ds
  | _, _, .nil => .nil
  | _, _, .cons r t => .cons (R.mono e r) (RA.mono e t)
end
theorem RA.len : ∀ {vs : List V} {ds : List D}, RA K M G vs ds → vs.length = ds.length
  | _, _, .nil => rfl
  | _, _, .cons _ t => congrArg (· + 1) (RA.len t)
theorem RA.get : ∀ {vs : List V} {ds : List D} {i : Nat} {d : D}, RA K M G vs ds → ds[i]? = some d → ∃ v, vs[i]? = some v ∧ R K M G v d
  | _, _, _, _, .nil, e => by simp at e
  | _, _, 0, _, .cons r _, e => by simp at e; subst e; exact ⟨_, rfl, r⟩
  | _, _, i + 1, _, .cons _ t, e => by
    obtain ⟨v, h1, h2⟩ := RA.get (i := i) t (by simpa using e)
    exact ⟨v, by simpa using h1, h2⟩
theorem RA.app : ∀ {vs ws : List V} {ds es : List D}, RA K M G vs ds → RA K M G ws es → RA K M G (vs ++ ws) (ds ++ es)
  | _, _, _, _, .nil, s => s
  | _, _, _, _, .cons r t, s => .cons r (RA.app t s)
theorem RA.take : ∀ {vs : List V} {ds : List D} (n : Nat), RA K M G vs ds → RA K M G (vs.take n) (ds.take n)
  | _, _, 0, _ => .nil
  | _, _, _ + 1, .nil => .nil
  | _, _, n + 1, .cons r t => .cons r (RA.take n t)
theorem RA.drop : ∀ {vs : List V} {ds : List D} (n : Nat), RA K M G vs ds → RA K M G (vs.drop n) (ds.drop n)
  | _, _, 0, r => r
  | _, _, _ + 1, .nil => .nil
  | _, _, n + 1, .cons _ t => RA.drop n t
theorem RA.rev : ∀ {vs : List V} {ds : List D}, RA K M G vs ds → RA K M G vs.reverse ds.reverse
  | _, _, .nil => .nil
  | _, _, .cons r t => by
    rw [List.reverse_cons, List.reverse_cons]
    exact RA.app (RA.rev t) (.cons r .nil)
theorem RA.set {v : V} {d : D} (r : R K M G v d) : ∀ {vs : List V} {ds : List D} (i : Nat), RA K M G vs ds → RA K M G (vs.set i v) (ds.set i d)
  | _, _, _, .nil => .nil
  | _, _, 0, .cons _ t => .cons r t
  | _, _, i + 1, .cons q t => .cons q (RA.set r i t)
theorem RA.one {v : V} {d : D} (r : R K M G v d) : RA K M G [v] [d] := .cons r .nil
theorem RA.bools : ∀ {vs : List V} {bs : List Bool}, RA K M G vs (bs.map PyData.bool) → vs = bs.map V.bl
  | _, [], .nil => rfl
  | _, b :: r, .cons (.bl _) t => by rw [RA.bools t]; rfl
theorem RA.strs : ∀ {vs : List V} {bs : List Str}, RA K M G vs (bs.map PyData.str) → vs = bs.map V.str
  | _, [], .nil => rfl
  | _, b :: r, .cons (.str _) t => by rw [RA.strs t]; rfl
theorem RA.ints : ∀ {vs : List V} {bs : List Int}, RA K M G vs (bs.map PyData.int) → vs = bs.map V.int
  | _, [], .nil => rfl
  | _, b :: r, .cons (.int _) t => by rw [RA.ints t]; rfl
theorem RA.of_ints : ∀ (bs : List Int), RA K M G (bs.map V.int) (bs.map PyData.int)
  | [] => .nil
  | b :: r => .cons (.int b) (RA.of_ints r)
theorem RA.of_strs : ∀ (bs : List Str), RA K M G (bs.map V.str) (bs.map PyData.str)
  | [] => .nil
  | b :: r => .cons (.str b) (RA.of_strs r)

mutual
theorem R.dp : ∀ {v : V} {d : D}, R K M G v d → d.canLay0 = true → Dp K G v d
  | _, _, .non, _ => .non
  | _, _, .bl b, _ => .bl b
  | _, _, .int i, _ => .int i
  | _, _, .str x, _ => .str x
  | _, _, .lst h r, c => .lst h (RA.dp r (by simpa only [PyData.canLay0] using c))
  | _, _, .tup h r, c => .tup h (RA.dp r (by simpa only [PyData.canLay0] using c))
  | _, _, .ins h _ n r, c => by simp only [PyData.canLay0] at c; cases c
  | _, _, .edict h, c => by simp only [PyData.canLay0] at c; cases c
  | _, _, .live h, c => by simp only [PyData.canLay0] at c; cases c
  | _, _, .new h n r, c => by simp only [PyData.canLay0] at c; cases c
theorem RA.dp : ∀ {vs : List V} {ds : List D}, RA K M G vs ds → PyData.canLayAll0 ds = true → DpAll K G vs ds
  | _, _, .nil, _ => .nil
  | _, _, .cons r t, c => by
    simp only [PyData.canLayAll0, Bool.and_eq_true] at c
    exact .cons (R.dp r c.1) (RA.dp t c.2)
end

/-! ### steps of the heap: all stays; G is what is frozen of it -/
structure Stp (H G H' G' : Hp) : Prop where
  ex : Same H H'
  eg : Same G G'
  sub : Same G' H'
  nw : ∀ p o, H p = some o → G p = none → G' p = none
theorem Stp.refl (h : Same G H) : Stp H G H G := ⟨Same.refl _, Same.refl _, h, fun _ _ _ q => q⟩
theorem Stp.trans {H1 G1 H2 G2 : Hp} (a : Stp H G H1 G1) (b : Stp H1 G1 H2 G2) : Stp H G H2 G2 :=
  ⟨a.ex.trans b.ex, a.eg.trans b.eg, b.sub, fun p o e q => b.nw p o (a.ex p o e) (a.nw p o e q)⟩
theorem same_new {p : Addr} {o : HO} (h : H p = none) : Same H (upd H p o) := fun b u q => by rw [upd_ne (ne_of_none q h)]; exact q
theorem same_upd2 {p : Addr} {o : HO} (e : Same G H) : Same (upd G p o) (upd H p o) := fun b u q => by
  by_cases hb : b = p
  · subst hb; rw [upd_same] at q ⊢; exact q
  · rw [upd_ne hb] at q ⊢; exact e b u q
/-- a new object, frozen at once -/
theorem Stp.new {p : Addr} {o : HO} (h : Same G H) (hp : H p = none) : Stp H G (upd H p o) (upd G p o) :=
  ⟨same_new hp, same_new (h.free hp), same_upd2 h, fun q u e n => by rw [upd_ne (ne_of_none e hp)]; exact n⟩
/-- a new object, not frozen -/
theorem Stp.newO {p : Addr} {o : HO} (h : Same G H) (hp : H p = none) : Stp H G (upd H p o) G :=
  ⟨same_new hp, Same.refl _, h.trans (same_new hp), fun _ _ _ n => n⟩

/-! ### results -/
inductive Md | cl | op | fr
def RO (K : PySem.W.Frag) (M : Pm) (H G : Hp) (v : V) : D → Prop
  | .list ds => ∃ a xs, v = .ref a ∧ SqL K H a xs ∧ RA K M G xs ds
  | d => R K M G v d
def RF (K : PySem.W.Frag) (M : Pm) (H0 H G : Hp) (v : V) : D → Prop
  | .list ds => ∃ a xs, v = .ref a ∧ H0 a = none ∧ G a = none ∧ H a = some (.lst xs) ∧ RA K M G xs ds
  | d => R K M G v d
def Res (K : PySem.W.Frag) (M : Pm) : Md → Hp → Hp → Hp → V → D → Prop
  | .cl, _, _, G', v, d => R K M G' v d
  | .op, _, H', G', v, d => RO K M H' G' v d
  | .fr, H, H', G', v, d => RF K M H H' G' v d
theorem R.ro {v : V} {d : D} (r : R K M G v d) (e : Same G H) : RO K M H G v d := by
  cases r with
  | lst h r => exact ⟨_, _, rfl, e.seq h, r⟩
  | _ => first | exact .non | exact .bl _ | exact .int _ | exact .str _ | (exact .tup (by assumption) (by assumption)) | (exact .ins (by assumption) (by assumption) (by assumption) (by assumption)) | (exact .edict (by assumption)) | (exact .live (by assumption)) | (exact .new (by assumption) (by assumption) (by assumption))
theorem RF.ro {H0 : Hp} {v : V} {d : D} (r : RF K M H0 H G v d) : RO K M H G v d := by
  cases d with
  | list ds => obtain ⟨a, xs, e, _, _, h, r⟩ := r; exact ⟨a, xs, e, .of h, r⟩
  | _ => exact r
theorem RO.mono {v : V} {d : D} (r : RO K M H G v d) (e : Same H H') (g : Same G G') : RO K M H' G' v d := by
  cases d with
  | list ds => obtain ⟨a, xs, e1, h, r⟩ := r; exact ⟨a, xs, e1, e.seq h, r.mono g⟩
  | _ => exact R.mono g r
theorem RO.r {v : V} {d : D} (r : RO K M H G v d) (e : Same G H) : R K M H v d := by
  cases d with
  | list ds => obtain ⟨a, xs, e1, h, r⟩ := r; subst e1; exact .lst h (r.mono e)
  | _ => exact R.mono e r
theorem RF.up {H0 H1 : Hp} {v : V} {d : D} (r : RF K M H1 H G v d) (e : Same H0 H1) : RF K M H0 H G v d := by
  cases d with
  | list ds => obtain ⟨a, xs, e1, h0, hg, h, r⟩ := r; exact ⟨a, xs, e1, e.free h0, hg, h, r⟩
  | _ => exact r
/-- d is no list: frozen, operand and fresh are one -/
def nolist : D → Bool
  | .list _ => false
  | _ => true
theorem Res.of_nolist {m : Md} {H0 : Hp} {v : V} {d : D} (r : R K M G v d) (n : nolist d = true) : Res K M m H0 H G v d := by
  cases m with
  | cl => exact r
  | op => cases d with
    | list ds => cases n
    | _ => exact r
  | fr => cases d with
    | list ds => cases n
    | _ => exact r
theorem RO.nolist {v : V} {d : D} (r : RO K M H G v d) (n : nolist d = true) : R K M G v d := by
  cases d with
  | list ds => cases n
  | _ => exact r

/-! ### slots -/
inductive Sl | no | va (d : D) | ow (ds : List D)
abbrev Ge := List Sl
def SlR (K : PySem.W.Frag) (M : Pm) (H0 H G : Hp) : Sl → Option V → Prop
  | .no, _ => True
  | .va d, x => ∃ v, x = some v ∧ R K M G v d
  | .ow ds, x => ∃ o vs, x = some (.ref o) ∧ G o = none ∧ H0 o = none ∧ H o = some (.lst vs) ∧ RA K M G vs ds
def isO : Sl → Option V → Addr → Prop
  | .ow _, x, o => x = some (.ref o)
  | _, _, _ => False
structure EnvR (K : PySem.W.Frag) (M : Pm) (H0 G0 : Hp) (γ : Ge) (σ : L2.St) (H G : Hp) : Prop where
  st : Stp H0 G0 H G
  len : σ.length = γ.length
  sl : ∀ (i : Nat) (s : Sl) (x : Option V), γ[i]? = some s → σ[i]? = some x → SlR K M H0 H G s x
  ap : ∀ (i j : Nat) (si sj : Sl) (xi xj : Option V) (o : Addr), γ[i]? = some si → γ[j]? = some sj → σ[i]? = some xi → σ[j]? = some xj → isO si xi o → isO sj xj o → i = j
  kp : Same M.kp H0
theorem EnvR.sub {H0 G0 : Hp} {γ : Ge} {σ : L2.St} (e : EnvR K M H0 G0 γ σ H G) : Same G H := e.st.sub
theorem EnvR.stp {H0 G0 H1 G1 : Hp} {γ : Ge} {σ : L2.St} (e : EnvR K M H0 G0 γ σ H G) (s : Stp H G H1 G1) : EnvR K M H0 G0 γ σ H1 G1 := by
  refine ⟨e.st.trans s, e.len, fun i sl x h1 h2 => ?_, e.ap, e.kp⟩
  have q := e.sl i sl x h1 h2
  cases sl with
  | no => trivial
  | va d => obtain ⟨v, e1, r⟩ := q; exact ⟨v, e1, r.mono s.eg⟩
  | ow ds => obtain ⟨o, vs, e1, g, h0, h, r⟩ := q; exact ⟨o, vs, e1, s.nw _ _ h g, h0, s.ex _ _ h, r.mono s.eg⟩
theorem EnvR.at {H0 G0 : Hp} {γ : Ge} {σ : L2.St} {i : Nat} {s : Sl} (e : EnvR K M H0 G0 γ σ H G) (h : γ[i]? = some s) : ∃ x, σ[i]? = some x ∧ SlR K M H0 H G s x := by
  have hi : i < γ.length := (List.getElem?_eq_some_iff.mp h).1
  have hj : i < σ.length := by rw [e.len]; exact hi
  have q : σ[i]? = some σ[i] := List.getElem?_eq_getElem hj
  exact ⟨_, q, e.sl _ _ _ h q⟩
theorem EnvR.va {H0 G0 : Hp} {γ : Ge} {σ : L2.St} {i : Nat} {d : D} (e : EnvR K M H0 G0 γ σ H G) (h : γ[i]? = some (.va d)) : ∃ v, σ[i]? = some (some v) ∧ R K M G v d := by
  obtain ⟨x, h1, v, e1, r⟩ := e.at h
  subst e1
  exact ⟨v, h1, r⟩
theorem EnvR.ow {H0 G0 : Hp} {γ : Ge} {σ : L2.St} {i : Nat} {ds : List D} (e : EnvR K M H0 G0 γ σ H G) (h : γ[i]? = some (.ow ds)) :
    ∃ o vs, σ[i]? = some (some (.ref o)) ∧ G o = none ∧ H0 o = none ∧ H o = some (.lst vs) ∧ RA K M G vs ds := by
  obtain ⟨x, h1, o, vs, e1, q⟩ := e.at h
  subst e1
  exact ⟨o, vs, h1, q⟩
/-- a slot stored: a frozen datum -/
theorem EnvR.setv {H0 G0 : Hp} {γ : Ge} {σ : L2.St} {i : Nat} {v : V} {d : D} (e : EnvR K M H0 G0 γ σ H G) (r : R K M G v d) : EnvR K M H0 G0 (γ.set i (.va d)) (σ.set i (some v)) H G := by
  have key : ∀ (j : Nat) (s : Sl) (x : Option V), (γ.set i (.va d))[j]? = some s → (σ.set i (some v))[j]? = some x → (j = i ∧ s = .va d ∧ x = some v) ∨ (j ≠ i ∧ γ[j]? = some s ∧ σ[j]? = some x) := by
    intro j s x h1 h2
    by_cases hj : i = j
    · subst hj
      rw [List.getElem?_set] at h1 h2
      simp only [if_true] at h1 h2
      split at h1
      · split at h2
        · exact .inl ⟨rfl, (Option.some.inj h1).symm, (Option.some.inj h2).symm⟩
        · cases h2
      · cases h1
    · rw [List.getElem?_set_ne hj] at h1 h2
      exact .inr ⟨Ne.symm hj, h1, h2⟩
  refine ⟨e.st, by rw [List.length_set, List.length_set]; exact e.len, fun j s x h1 h2 => ?_, fun j k sj sk xj xk o h1 h2 h3 h4 h5 h6 => ?_, e.kp⟩
  · rcases key j s x h1 h2 with ⟨_, e1, e2⟩ | ⟨_, q1, q2⟩
    · subst e1; subst e2; exact ⟨v, rfl, r⟩
    · exact e.sl j s x q1 q2
  · rcases key j sj xj h1 h3 with ⟨_, e1, _⟩ | ⟨n1, q1, q2⟩
    · subst e1; exact h5.elim
    · rcases key k sk xk h2 h4 with ⟨_, e1, _⟩ | ⟨n2, q3, q4⟩
      · subst e1; exact h6.elim
      · exact e.ap j k sj sk xj xk o q1 q3 q2 q4 h5 h6
/-- a slot stored: an own list, new since HS -/
theorem EnvR.seto {H0 G0 HS : Hp} {γ : Ge} {σ : L2.St} {i : Nat} {o : Addr} {vs : List V} {ds : List D} (e : EnvR K M H0 G0 γ σ H G) (old : ∀ (j : Nat) (dj : List D) (p : Addr), j ≠ i → γ[j]? = some (.ow dj) → σ[j]? = some (some (.ref p)) → p ≠ o)
    (g : G o = none) (h0 : H0 o = none) (h : H o = some (.lst vs)) (r : RA K M G vs ds) : EnvR K M H0 G0 (γ.set i (.ow ds)) (σ.set i (some (.ref o))) H G := by
  have key : ∀ (j : Nat) (s : Sl) (x : Option V), (γ.set i (.ow ds))[j]? = some s → (σ.set i (some (.ref o)))[j]? = some x → (j = i ∧ s = .ow ds ∧ x = some (.ref o)) ∨ (j ≠ i ∧ γ[j]? = some s ∧ σ[j]? = some x) := by
    intro j s x h1 h2
    by_cases hj : i = j
    · subst hj
      rw [List.getElem?_set] at h1 h2
      simp only [if_true] at h1 h2
      split at h1
      · split at h2
        · exact .inl ⟨rfl, (Option.some.inj h1).symm, (Option.some.inj h2).symm⟩
        · cases h2
      · cases h1
    · rw [List.getElem?_set_ne hj] at h1 h2
      exact .inr ⟨Ne.symm hj, h1, h2⟩
  refine ⟨e.st, by rw [List.length_set, List.length_set]; exact e.len, fun j s x h1 h2 => ?_, fun j k sj sk xj xk p h1 h2 h3 h4 h5 h6 => ?_, e.kp⟩
  · rcases key j s x h1 h2 with ⟨_, e1, e2⟩ | ⟨_, q1, q2⟩
    · subst e1; subst e2; exact ⟨o, vs, rfl, g, h0, h, r⟩
    · exact e.sl j s x q1 q2
  · rcases key j sj xj h1 h3 with ⟨ej, e1, e2⟩ | ⟨n1, q1, q2⟩
    · rcases key k sk xk h2 h4 with ⟨ek, _, _⟩ | ⟨n2, q3, q4⟩
      · rw [ej, ek]
      · subst e1; subst e2
        have ep : (some (V.ref o) : Option V) = some (.ref p) := h5
        cases ep
        cases sk with
        | ow dk =>
          have ek : xk = some (.ref o) := h6
          subst ek
          exact absurd rfl (old k dk o n2 q3 q4)
        | _ => exact h6.elim
    · rcases key k sk xk h2 h4 with ⟨_, e1, e2⟩ | ⟨n2, q3, q4⟩
      · subst e1; subst e2
        have ep : (some (V.ref o) : Option V) = some (.ref p) := h6
        cases ep
        cases sj with
        | ow dj =>
          have ek : xj = some (.ref o) := h5
          subst ek
          exact absurd rfl (old j dj o n1 q1 q2)
        | _ => exact h5.elim
      · exact e.ap j k sj sk xj xk p q1 q3 q2 q4 h5 h6
/-- an own list changed -/
theorem EnvR.wr {H0 G0 : Hp} {γ : Ge} {σ : L2.St} {i : Nat} {o : Addr} {vs ws : List V} {ds es : List D} (e : EnvR K M H0 G0 γ σ H G) (hi : γ[i]? = some (.ow ds)) (hs : σ[i]? = some (some (.ref o))) (h : H o = some (.lst vs))
    (r : RA K M G ws es) : EnvR K M H0 G0 (γ.set i (.ow es)) σ (upd H o (.lst ws)) G := by
  obtain ⟨o', vs', h1, g, h0, _, _⟩ := e.ow hi
  rw [hs] at h1; cases h1
  have hil : i < γ.length := (List.getElem?_eq_some_iff.mp hi).1
  refine ⟨⟨fun b u q => by rw [upd_ne (ne_of_none q h0)]; exact e.st.ex b u q, e.st.eg, fun b u q => by rw [upd_ne (ne_of_none q g)]; exact e.st.sub b u q, e.st.nw⟩, by rw [List.length_set]; exact e.len, fun j s x q1 q2 => ?_, fun j k sj sk xj xk p h1 h2 h3 h4 h5 h6 => ?_, e.kp⟩
  · by_cases hj : i = j
    · subst hj
      rw [List.getElem?_set_self hil] at q1
      rw [hs] at q2
      cases q1; cases q2
      exact ⟨o, ws, rfl, g, h0, upd_same, r⟩
    · rw [List.getElem?_set_ne hj] at q1
      have q := e.sl j s x q1 q2
      cases s with
      | no => trivial
      | va d => exact q
      | ow dj =>
        obtain ⟨p, vp, e1, gp, hp0, hp, rp⟩ := q
        subst e1
        refine ⟨p, vp, rfl, gp, hp0, ?_, rp⟩
        rw [upd_ne]
        · exact hp
        · intro ep
          subst ep
          exact hj (e.ap i j _ _ _ _ p hi q1 hs q2 rfl rfl)
  · have key : ∀ (j : Nat) (s : Sl) (x : Option V), (γ.set i (.ow es))[j]? = some s → σ[j]? = some x → isO s x p → ∃ s', γ[j]? = some s' ∧ isO s' x p := by
      intro j s x q1 q2 q3
      by_cases hj : i = j
      · subst hj
        rw [List.getElem?_set_self hil] at q1
        cases q1
        exact ⟨_, hi, q3⟩
      · rw [List.getElem?_set_ne hj] at q1
        exact ⟨s, q1, q3⟩
    obtain ⟨s1, a1, b1⟩ := key j sj xj h1 h3 h5
    obtain ⟨s2, a2, b2⟩ := key k sk xk h2 h4 h6
    exact e.ap j k s1 s2 xj xk p a1 a2 h3 h4 b1 b2
end
end Py

/-! PyB: judgements; expressions -/
namespace Py
open PySem PySem.Spec PyProof.Rows L2

inductive Rs | ok (d : D) | er (c : Str)
abbrev Fe := Ge → Option Rs
def bR (x : Option Rs) (k : D → Option Rs) : Option Rs := match x with
  | some (.ok d) => k d
  | some (.er c) => some (.er c)
  | none => none
inductive Rl | ok (ds : List D) | er (c : Str)
abbrev Fa := Ge → Option Rl
inductive Rb | ok (b : Bool) | er (c : Str)
abbrev Ft := Ge → Option Rb

section
variable (K : PySem.W.Frag) (M : Pm) (E : XK)
def PostE (m : Md) (H G : Hp) (Q : VK) : Rs → Prop
  | .ok d => ∀ v H' G', Stp H G H' G' → Res K M m H H' G' v d → Q v H'
  | .er c => ∀ H' G', Stp H G H' G' → E (M.exc c) none H'
def EO (m : Md) (t : TE) (f : Fe) : Prop := ∀ (H0 G0 : Hp) (γ : Ge) (σ : L2.St) (H G : Hp) (Q : VK) (r : Rs), EnvR K M H0 G0 γ σ H G → f γ = some r → PostE K M E m H G Q r → t σ H Q
def ROs (H G : Hp) : List V → List D → Prop := Paired fun v d => RO K M H G v d
def PostA (H G : Hp) (Q : List V → Hp → Prop) : Rl → Prop
  | .ok ds => ∀ vs H' G', Stp H G H' G' → ROs K M H' G' vs ds → Q vs H'
  | .er c => ∀ H' G', Stp H G H' G' → E (M.exc c) none H'
def PostC (H G : Hp) (Q : List V → Hp → Prop) : Rl → Prop
  | .ok ds => ∀ vs H' G', Stp H G H' G' → RA K M G' vs ds → Q vs H'
  | .er c => ∀ H' G', Stp H G H' G' → E (M.exc c) none H'
/-- arguments: operands; clean -/
def AO (t : TA) (f : Fa) : Prop := ∀ (H0 G0 : Hp) (γ : Ge) (σ : L2.St) (H G : Hp) (Q : List V → Hp → Prop) (r : Rl), EnvR K M H0 G0 γ σ H G → f γ = some r → PostA K M E H G Q r → t σ H Q
def AC (t : TA) (f : Fa) : Prop := ∀ (H0 G0 : Hp) (γ : Ge) (σ : L2.St) (H G : Hp) (Q : List V → Hp → Prop) (r : Rl), EnvR K M H0 G0 γ σ H G → f γ = some r → PostC K M E H G Q r → t σ H Q
def PostT (H G : Hp) (Q : Bool → Hp → Prop) : Rb → Prop
  | .ok b => ∀ H' G', Stp H G H' G' → Q b H'
  | .er c => ∀ H' G', Stp H G H' G' → E (M.exc c) none H'
def TO' (t : TT) (f : Ft) : Prop := ∀ (H0 G0 : Hp) (γ : Ge) (σ : L2.St) (H G : Hp) (Q : Bool → Hp → Prop) (r : Rb), EnvR K M H0 G0 γ σ H G → f γ = some r → PostT M E H G Q r → t σ H Q
end

structure JE (K : PySem.W.Frag) (X : Cx) (M : Pm) (E : XK) (m : Md) (e : Expr) (t : TE) (f : Fe) : Prop where
  pe : PE X e t
  eo : EO K M E m t f
structure JT (K : PySem.W.Frag) (X : Cx) (M : Pm) (E : XK) (e : Expr) (t : TT) (f : Ft) : Prop where
  pt : PT X e t
  to : TO' K M E t f
structure JW (K : PySem.W.Frag) (X : Cx) (M : Pm) (E : XK) (e : Expr) (t : TT) (f : Ft) : Prop where
  pw : PW X e t
  to : TO' K M E t f
/-- arguments as operands -/
structure JA (K : PySem.W.Frag) (X : Cx) (M : Pm) (E : XK) (es : List Expr) (t : TA) (f : Fa) : Prop where
  pa : PA X es t
  ao : AO K M E t f
/-- arguments, clean -/
structure JC (K : PySem.W.Frag) (X : Cx) (M : Pm) (E : XK) (es : List Expr) (t : TA) (f : Fa) : Prop where
  pa : PA X es t
  ac : AC K M E t f

/-- what a context must have -/
structure CxF (K : PySem.W.Frag) (X : Cx) (E : XK) (k : Nat) : Prop where
  hK : X.K = K
  calm : X.calm = true
  nd : X.N.Nodup
  pas : Passes (L2.CX X.prog X.w) X E
  own : PassesOwn (model X.prog X.w) X.A X.env X.xe
  room : Room k X.A

/-! ### what they reckon -/
def fVar (i : Nat) : Fe := fun γ => match γ[i]? with
  | some (.va d) => some (.ok d)
  | _ => none
def fOpd (i : Nat) : Fe := fun γ => match γ[i]? with
  | some (.va d) => some (.ok d)
  | some (.ow ds) => some (.ok (.list ds))
  | _ => none
def fCon (d : D) : Fe := fun _ => some (.ok d)
def oR (x : Option D) : Option Rs := match x with
  | some d => some (.ok d)
  | none => none
def f2 (o : D → D → Option D) (a b : Fe) : Fe := fun γ => bR (a γ) fun x => bR (b γ) fun y => oR (o x y)
def f1 (o : D → Option D) (a : Fe) : Fe := fun γ => bR (a γ) fun x => oR (o x)
def bL (x : Option Rs) (k : D → Option Rl) : Option Rl := match x with
  | some (.ok d) => k d
  | some (.er c) => some (.er c)
  | none => none
def bA (x : Option Rl) (k : List D → Option Rs) : Option Rs := match x with
  | some (.ok d) => k d
  | some (.er c) => some (.er c)
  | none => none
def bLL (x : Option Rl) (k : List D → Option Rl) : Option Rl := match x with
  | some (.ok d) => k d
  | some (.er c) => some (.er c)
  | none => none
def fNil : Fa := fun _ => some (.ok [])
def fCons (a : Fe) (r : Fa) : Fa := fun γ => bL (a γ) fun d => bLL (r γ) fun ds => some (.ok (d :: ds))
def big : Nat := 16000000
theorem big_line {n : Nat} (h : n ≤ big) : n ≤ sizeLine := Nat.le_trans h (by rw [sizeLine_eq]; decide)
theorem big_line' {n : Nat} (h : n ≤ big) : n < sizeLine := Nat.lt_of_le_of_lt h (by rw [sizeLine_eq]; decide)

section
variable {K : PySem.W.Frag} {X : Cx} {M : Pm} {E : XK} {k : Nat} {m : Md} {a b e : Expr} {ta tb te : TE} {fa fb fe : Fe} {pos : Pos}

theorem JE.c2o (h : JE K X M E .cl e te fe) : JE K X M E .op e te fe := ⟨h.pe, fun H0 G0 γ σ H G Q r ev hf p => h.eo H0 G0 γ σ H G Q r ev hf (by
  cases r with
  | ok d => exact fun v H' G' s r => p v H' G' s (R.ro r s.sub)
  | er c => exact p)⟩
theorem JE.f2o (h : JE K X M E .fr e te fe) : JE K X M E .op e te fe := ⟨h.pe, fun H0 G0 γ σ H G Q r ev hf p => h.eo H0 G0 γ σ H G Q r ev hf (by
  cases r with
  | ok d => exact fun v H' G' s r => p v H' G' s (RF.ro r)
  | er c => exact p)⟩
theorem freeze {K : PySem.W.Frag} {H G H' G' : Hp} {v : V} {d : D} (s : Stp H G H' G') (r : RF K M H H' G' v d) : ∃ G2, Stp H G H' G2 ∧ Same G' G2 ∧ R K M G2 v d := by
  cases d with
  | list ds =>
    obtain ⟨a, xs, e1, h0, hg, h, r⟩ := r
    subst e1
    have sg : Same G' (upd G' a (.lst xs)) := same_new hg
    refine ⟨upd G' a (.lst xs), ⟨s.ex, s.eg.trans sg, fun b u q => ?_, fun p o q n => ?_⟩, sg, .lst (.of upd_same) (r.mono sg)⟩
    · by_cases hb : b = a
      · subst hb; rw [upd_same] at q; cases q; exact h
      · rw [upd_ne hb] at q; exact s.sub b u q
    · rw [upd_ne (ne_of_none q h0)]; exact s.nw p o q n
  | _ => exact ⟨G', s, Same.refl _, r⟩
theorem JE.f2c (h : JE K X M E .fr e te fe) : JE K X M E .cl e te fe := ⟨h.pe, fun H0 G0 γ σ H G Q r ev hf p => h.eo H0 G0 γ σ H G Q r ev hf (by
  cases r with
  | ok d => exact fun v H' G' s r => let ⟨G2, s2, _, r2⟩ := freeze s r; p v H' G2 s2 r2
  | er c => exact p)⟩

theorem je_var {i : Nat} {x : Str} (hN : X.N[i]? = some x := by rfl) (hv : Vis X.env.scope x := by first | exact Or.inl rfl | exact Or.inr (Or.inl rfl) | exact Or.inr (Or.inr rfl)) (hd : (x == ("__debug__" : Str)) = false := by decide)
    (hcd : (x == ("__classdict__" : Str)) = false := by decide) : JE K X M E .cl (.Name x pos) (tVar i) (fVar i) := ⟨pe_var hN hv hd hcd, fun H0 G0 γ σ H G Q r ev hf p => by
  unfold fVar at hf
  split at hf
  · rename_i d hd
    cases hf
    obtain ⟨v, h1, h2⟩ := ev.va hd
    exact ⟨v, h1, p v H G (Stp.refl ev.sub) h2⟩
  · cases hf⟩
theorem jo_var {i : Nat} {x : Str} (hN : X.N[i]? = some x := by rfl) (hv : Vis X.env.scope x := by first | exact Or.inl rfl | exact Or.inr (Or.inl rfl) | exact Or.inr (Or.inr rfl)) (hd : (x == ("__debug__" : Str)) = false := by decide)
    (hcd : (x == ("__classdict__" : Str)) = false := by decide) : JE K X M E .op (.Name x pos) (tVar i) (fOpd i) := ⟨pe_var hN hv hd hcd, fun H0 G0 γ σ H G Q r ev hf p => by
  unfold fOpd at hf
  split at hf
  · rename_i d hd
    cases hf
    obtain ⟨v, h1, h2⟩ := ev.va hd
    exact ⟨v, h1, p v H G (Stp.refl ev.sub) (h2.ro ev.sub)⟩
  · rename_i ds hd
    cases hf
    obtain ⟨o, vs, h1, _, _, h2, h3⟩ := ev.ow hd
    exact ⟨_, h1, p _ H G (Stp.refl ev.sub) ⟨o, vs, rfl, .of h2, h3⟩⟩
  · cases hf⟩
theorem eo_con {K : PySem.W.Frag} {v : V} {d : D} (r : ∀ G, R K M G v d) : EO K M E .cl (tC v) (fCon d) := fun H0 G0 γ σ H G Q r' ev hf p => by
  cases hf
  exact p v H G (Stp.refl ev.sub) (r G)
theorem je_int {i : Int} {j : Nat} : JE K X M E .cl (.Constant (.int i) j pos) (tC (.int i)) (fCon (.int i)) := ⟨pe_int, eo_con fun _ => .int i⟩
theorem je_bl {i : Bool} {j : Nat} : JE K X M E .cl (.Constant (.bool i) j pos) (tC (.bl i)) (fCon (.bool i)) := ⟨pe_bl, eo_con fun _ => .bl i⟩
theorem je_non {j : Nat} : JE K X M E .cl (.Constant .none j pos) (tC .non) (fCon .none) := ⟨pe_non, eo_con fun _ => .non⟩
theorem je_str {x : Str} {j : Nat} : JE K X M E .cl (.Constant (.str x) j pos) (tC (.str x)) (fCon (.str x)) := ⟨pe_str, eo_con fun _ => .str x⟩

/-! ### operations of two values -/
def OpS (K : PySem.W.Frag) (M : Pm) (m : Md) (r : R2) (o : D → D → Option D) : Prop :=
  ∀ (H G : Hp) (x y : V) (dx dy dz : D) (Q : VK), Same G H → RO K M H G x dx → RO K M H G y dy → o dx dy = some dz → (∀ v H' G', Stp H G H' G' → Res K M m H H' G' v dz → Q v H') → r x y H Q
theorem Res.up {K : PySem.W.Frag} {H0 H H' G' : Hp} {v : V} {d : D} (r : Res K M m H H' G' v d) (e : Same H0 H) : Res K M m H0 H' G' v d := by
  cases m with
  | cl => exact r
  | op => exact r
  | fr => exact RF.up r e
theorem eo_op2 {K : PySem.W.Frag} {r : R2} {o : D → D → Option D} (ho : OpS K M m r o) (ha : EO K M E .op ta fa) (hb : EO K M E .op tb fb) : EO K M E m (tOp r ta tb) (f2 o fa fb) := by
  intro H0 G0 γ σ H G Q q ev hf p
  unfold f2 at hf
  cases e1 : fa γ with
  | none => rw [e1] at hf; cases hf
  | some q1 =>
    rw [e1] at hf
    cases q1 with
    | er c =>
      cases hf
      exact ha H0 G0 γ σ H G _ _ ev e1 p
    | ok dx =>
      refine ha H0 G0 γ σ H G _ _ ev e1 fun x H1 G1 s1 r1 => ?_
      have ev1 := ev.stp s1
      have hf : (bR (fb γ) fun y => oR (o dx y)) = some q := hf
      cases e2 : fb γ with
      | none => rw [e2] at hf; cases hf
      | some q2 =>
        rw [e2] at hf
        cases q2 with
        | er c =>
          cases hf
          exact hb H0 G0 γ σ H1 G1 _ _ ev1 e2 fun H' G' s' => p H' G' (s1.trans s')
        | ok dy =>
          refine hb H0 G0 γ σ H1 G1 _ _ ev1 e2 fun y H2 G2 s2 r2 => ?_
          have hf : oR (o dx dy) = some q := hf
          cases e3 : o dx dy with
          | none => rw [e3] at hf; cases hf
          | some dz =>
            rw [e3] at hf
            cases hf
            exact ho H2 G2 x y dx dy dz Q s2.sub (RO.mono r1 s2.ex s2.eg) r2 e3 fun v H' G' s3 r3 => p v H' G' ((s1.trans s2).trans s3) (r3.up (s1.ex.trans s2.ex))
theorem je_op {op : Operator} {r : R2} {o : D → D → Option D} (hr : OpR X (binaryOp op) r) (ho : OpS K M m r o) (ha : JE K X M E .op a ta fa) (hb : JE K X M E .op b tb fb) : JE K X M E m (.BinOp a op b pos) (tOp r ta tb) (f2 o fa fb) :=
  ⟨pe_op hr ha.pe hb.pe, eo_op2 ho ha.eo hb.eo⟩
theorem je_cmpR {op : CmpOp} {r : R2} {o : D → D → Option D} (hr : OpR X (compareOp op) r) (ho : OpS K M m r o) (ha : JE K X M E .op a ta fa) (hb : JE K X M E .op b tb fb) (hm : behindInMarks op b = false) : JE K X M E m (.Compare a [op] [b] pos) (tOp r ta tb) (f2 o fa fb) :=
  ⟨pe_cmpR hr ha.pe hb.pe hm, eo_op2 ho ha.eo hb.eo⟩
theorem je_ixR {r : R2} {o : D → D → Option D} (hr : IxR X r) (ho : OpS K M m r o) (ha : JE K X M E .op a ta fa) (hb : JE K X M E .op b tb fb) (hs : PlainIx b) : JE K X M E m (.Subscript a b pos) (tOp r ta tb) (f2 o fa fb) :=
  ⟨pe_ix hr ha.pe hb.pe hs, eo_op2 ho ha.eo hb.eo⟩

/-! ints -/
def oI (g : Int → Int → D) : D → D → Option D
  | .int i, .int j => some (g i j)
  | _, _ => none
def oIc (C : Int → Int → Bool) (g : Int → Int → D) : D → D → Option D
  | .int i, .int j => if C i j = true then some (g i j) else none
  | _, _ => none
theorem ops_I0 {K : PySem.W.Frag} {gV : Int → Int → V} {g : Int → Int → D} (h : ∀ i j G, R K M G (gV i j) (g i j)) : OpS K M .cl (rI0 gV) (oI g) := by
  intro H G x y dx dy dz Q e rx ry ho q
  cases dx with
  | int i =>
    cases dy with
    | int j =>
      cases ho
      cases (show R K M G x (.int i) from rx)
      cases (show R K M G y (.int j) from ry)
      exact ⟨i, j, rfl, rfl, q _ H G (Stp.refl e) (h i j G)⟩
    | _ => cases ho
  | _ => cases ho
theorem ops_I {K : PySem.W.Frag} {C : Int → Int → Prop} {c : Int → Int → Bool} {gV : Int → Int → V} {g : Int → Int → D} (hc : ∀ i j, c i j = true → C i j) (h : ∀ i j G, R K M G (gV i j) (g i j)) : OpS K M .cl (rI C gV) (oIc c g) := by
  intro H G x y dx dy dz Q e rx ry ho q
  cases dx with
  | int i =>
    cases dy with
    | int j =>
      unfold oIc at ho
      dsimp only at ho
      split at ho
      · rename_i hcc
        cases ho
        cases (show R K M G x (.int i) from rx)
        cases (show R K M G y (.int j) from ry)
        exact ⟨i, j, rfl, rfl, hc i j hcc, q _ H G (Stp.refl e) (h i j G)⟩
      · cases ho
    | _ => cases ho
  | _ => cases ho
def oSub : D → D → Option D := oI fun i j => .int (i - j)
def cMul (i j : Int) : Bool := (decide (-(2 ^ 64) < i) && decide (i < 2 ^ 64)) || (decide (-(2 ^ 64) < j) && decide (j < 2 ^ 64))
def oMul : D → D → Option D := oIc cMul fun i j => .int (i * j)
def cDiv (_ j : Int) : Bool := decide (0 < j) && decide (j < 1073741824)
def oDiv : D → D → Option D := oIc cDiv fun i j => .int (i / j)
def cMod (_ j : Int) : Bool := decide (0 < j)
def oMod : D → D → Option D := oIc cMod fun i j => .int (i % j)
def oLt : D → D → Option D := oI fun i j => .bool (decide (i < j))
def oLe : D → D → Option D := oI fun i j => .bool (decide (i ≤ j))
def oGt : D → D → Option D := oI fun i j => .bool (decide (j < i))
def oGe : D → D → Option D := oI fun i j => .bool (decide (j ≤ i))
theorem je_sub (ha : JE K X M E .op a ta fa) (hb : JE K X M E .op b tb fb) : JE K X M E .cl (.BinOp a .Sub b pos) (tOp (rI0 fun i j => .int (i - j)) ta tb) (f2 oSub fa fb) := je_op op_sub (ops_I0 fun _ _ _ => .int _) ha hb
theorem je_mul (ha : JE K X M E .op a ta fa) (hb : JE K X M E .op b tb fb) : JE K X M E .cl (.BinOp a .Mult b pos) (tOp (rI CMul fun i j => .int (i * j)) ta tb) (f2 oMul fa fb) := je_op op_mul (ops_I (fun i j h => by
  unfold cMul at h
  simp only [Bool.or_eq_true, Bool.and_eq_true, decide_eq_true_eq] at h
  exact h) fun _ _ _ => .int _) ha hb
theorem je_div (ha : JE K X M E .op a ta fa) (hb : JE K X M E .op b tb fb) : JE K X M E .cl (.BinOp a .FloorDiv b pos) (tOp (rI CDiv fun i j => .int (i / j)) ta tb) (f2 oDiv fa fb) := je_op op_fdiv (ops_I (fun i j h => by
  unfold cDiv at h
  simp only [Bool.and_eq_true, decide_eq_true_eq] at h
  exact h) fun _ _ _ => .int _) ha hb
theorem je_mod (ha : JE K X M E .op a ta fa) (hb : JE K X M E .op b tb fb) : JE K X M E .cl (.BinOp a .Mod b pos) (tOp (rI (fun _ j => 0 < j) fun i j => .int (i % j)) ta tb) (f2 oMod fa fb) := je_op op_mod (ops_I (fun i j h => by
  unfold cMod at h
  simpa using h) fun _ _ _ => .int _) ha hb
theorem je_lt (ha : JE K X M E .op a ta fa) (hb : JE K X M E .op b tb fb) : JE K X M E .cl (.Compare a [.Lt] [b] pos) (tOp (rI0 fun i j => .bl (decide (i < j))) ta tb) (f2 oLt fa fb) := je_cmpR op_lt (ops_I0 fun _ _ _ => .bl _) ha hb (nomark _)
theorem je_le (ha : JE K X M E .op a ta fa) (hb : JE K X M E .op b tb fb) : JE K X M E .cl (.Compare a [.LtE] [b] pos) (tOp (rI0 fun i j => .bl (decide (i ≤ j))) ta tb) (f2 oLe fa fb) := je_cmpR op_le (ops_I0 fun _ _ _ => .bl _) ha hb (nomark _)
theorem je_gt (ha : JE K X M E .op a ta fa) (hb : JE K X M E .op b tb fb) : JE K X M E .cl (.Compare a [.Gt] [b] pos) (tOp (rI0 fun i j => .bl (decide (j < i))) ta tb) (f2 oGt fa fb) := je_cmpR op_gt (ops_I0 fun _ _ _ => .bl _) ha hb (nomark _)
theorem je_ge (ha : JE K X M E .op a ta fa) (hb : JE K X M E .op b tb fb) : JE K X M E .cl (.Compare a [.GtE] [b] pos) (tOp (rI0 fun i j => .bl (decide (j ≤ i))) ta tb) (f2 oGe fa fb) := je_cmpR op_ge (ops_I0 fun _ _ _ => .bl _) ha hb (nomark _)

/-! a + b -/
def rCatL (K : PySem.W.Frag) : R2 := fun x y H Q => ∃ l b xs zs, x = .ref l ∧ y = .ref b ∧ SqL K H l xs ∧ SqL K H b zs ∧ xs.length + zs.length ≤ sizeLine ∧ ∀ p, H p = none → Q (.ref p) (upd H p (.lst (xs ++ zs)))
theorem op_catL : OpR X (binaryOp .Add) (rCatL X.K) := by
  intro pins s σ H x y v u Q I rx ry h
  obtain ⟨l, b, xs, zs, rfl, rfl, hH, hB, hz, q⟩ := h
  cases rx
  cases ry
  obtain ⟨its, r, pl, _⟩ := I.list hH
  obtain ⟨its2, r2, pl2, _⟩ := I.list hB
  have l1 := r.length
  have l2 := r2.length
  obtain ⟨⟨cls, dd, data, sl⟩, ho, hc, n, hd⟩ := id pl.isList
  obtain ⟨⟨cls2, dd2, data2, sl2⟩, ho2, hc2, n2, hd2⟩ := id pl2.isList
  simp only at hc hd hc2 hd2
  subst hc hd hc2 hd2
  refine concat_meets ⟨_, ho, rfl⟩ ⟨_, ho2, rfl⟩ noFill_list_add seq_list_add PySem.F.slot_list_add PySem.F.entry_list_add (PySem.F.args_list_add_2 _ _) (list_addW l b its.toArray its2.toArray n n2 dd dd2 sl sl2 (by simp only [List.size_toArray]; omega)) ⟨ho, ho2, ?_⟩
  have ea : its.toArray ++ its2.toArray = (its ++ its2).toArray := by simp
  rw [ea]
  exact ⟨.ref _, _, I.lnew (t' := s.toks) (r.append r2) (by rw [List.length_append]; omega), rfl, q _ I.fresh⟩
def rAddI : R2 := rI0 fun i j => .int (i + j)
def rAddSt : R2 := fun x y H Q => ∃ i j, x = .str i ∧ y = .str j ∧ i.length + j.length ≤ sizeLine ∧ Q (.str (i ++ j)) H
def rAddAll (K : PySem.W.Frag) : R2 := fun x y H Q => ((rAddI x y H Q ∨ rAddSt x y H Q) ∨ rCatL K x y H Q) ∨ rCatT K x y H Q
theorem op_addAll : OpR X (binaryOp .Add) (rAddAll X.K) := OpR.or (OpR.or (OpR.or op_add op_add_str) op_catL) op_catT
def oAdd : D → D → Option D
  | .int i, .int j => some (.int (i + j))
  | .str i, .str j => if i.length + j.length ≤ big then some (.str (i ++ j)) else none
  | .list x, .list y => if x.length + y.length ≤ big then some (.list (x ++ y)) else none
  | .tuple x, .tuple y => if x.length + y.length ≤ big ∧ x ≠ [] ∧ y ≠ [] then some (.tuple (x ++ y)) else none
  | _, _ => none
theorem ops_add {K : PySem.W.Frag} : OpS K M .fr (rAddAll K) oAdd := by
  intro H G x y dx dy dz Q e rx ry ho q
  unfold oAdd at ho
  split at ho
  · rename_i i j
    cases ho
    cases (show R K M G x (.int i) from rx)
    cases (show R K M G y (.int j) from ry)
    exact .inl (.inl (.inl ⟨i, j, rfl, rfl, q _ H G (Stp.refl e) (R.int _)⟩))
  · rename_i i j
    split at ho
    · rename_i hz
      cases ho
      cases (show R K M G x (.str i) from rx)
      cases (show R K M G y (.str j) from ry)
      exact .inl (.inl (.inr ⟨i, j, rfl, rfl, big_line hz, q _ H G (Stp.refl e) (R.str _)⟩))
    · cases ho
  · rename_i xs ys
    split at ho
    · rename_i hz
      cases ho
      obtain ⟨l, us, e1, h1, r1⟩ := rx
      obtain ⟨l', us', e2, h2, r2⟩ := ry
      subst e1; subst e2
      have n1 := r1.len
      have n2 := r2.len
      refine .inl (.inr ⟨l, l', us, us', rfl, rfl, h1, h2, by rw [n1, n2]; exact big_line hz, fun p hp => ?_⟩)
      exact q _ _ G (Stp.newO e hp) ⟨p, us ++ us', rfl, hp, e.free hp, upd_same, r1.app r2⟩
    · cases ho
  · rename_i xs ys
    split at ho
    · rename_i hz
      cases ho
      cases (show R K M G x (.tuple xs) from rx) with
      | tup h1 r1 =>
        rename_i l us
        cases (show R K M G y (.tuple ys) from ry) with
        | tup h2 r2 =>
          rename_i l' us'
          have n1 := r1.len
          have n2 := r2.len
          refine .inr ⟨l, l', us, us', rfl, rfl, same_T e h1, same_T e h2, fun z => ?_, by rw [n1, n2]; exact big_line hz.1, fun z => ?_, fun z p hp => ?_⟩
          · subst z; cases r1; exact hz.2.1 rfl
          · subst z; cases r2; exact (hz.2.2 rfl).elim
          · have s := Stp.new (o := .tup (us ++ us')) e hp
            exact q _ _ _ s (R.tup (.of upd_same) ((r1.app r2).mono s.eg))
    · cases ho
  · cases ho
theorem je_add (C : CxF K X E k) (ha : JE K X M E .op a ta fa) (hb : JE K X M E .op b tb fb) : JE K X M E .fr (.BinOp a .Add b pos) (tOp (rAddAll K) ta tb) (f2 oAdd fa fb) := by
  have hK := C.hK
  subst hK
  exact je_op op_addAll ops_add ha hb
/-! == and != of data -/
def scalD : D → D → Bool
  | .none, .none => true | .none, .int _ => true | .int _, .none => true | .none, .bool _ => true | .bool _, .none => true | .none, .str _ => true | .str _, .none => true
  | .int _, .int _ => true | .bool _, .bool _ => true | .str _, .str _ => true
  | .int _, .str _ => true | .str _, .int _ => true | .bool _, .str _ => true | .str _, .bool _ => true
  | _, _ => false
def oEq (x y : D) : Option D := if scalD x y = true ∨ (SeqAt.shaped x = true ∧ SeqAt.shaped y = true) then some (.bool (PyData.eqv x y)) else none
def oNe (x y : D) : Option D := if scalD x y = true ∨ (SeqAt.shaped x = true ∧ SeqAt.shaped y = true) then some (.bool (!PyData.eqv x y)) else none
theorem RO.dp {K : PySem.W.Frag} {H G : Hp} {v : V} {d : D} (r : RO K M H G v d) (e : Same G H) (c : SeqAt.shaped d = true) : Dp K H v d := R.dp (r.r e) (SeqAt.canLay_of_shaped c)
theorem scal_of {K : PySem.W.Frag} {H G : Hp} {x y : V} {dx dy : D} (rx : RO K M H G x dx) (ry : RO K M H G y dy) (h : scalD dx dy = true) : scal x y = true ∧ decide (x = y) = PyData.eqv dx dy := by
  unfold scalD at h
  split at h
  all_goals first
    | cases h; done
    | skip
  all_goals
    first
      | (rename_i i j
         first
           | (cases (show R K M G x (.int i) from rx))
           | (cases (show R K M G x (.bool i) from rx))
           | (cases (show R K M G x (.str i) from rx))
         first
           | (cases (show R K M G y (.int j) from ry))
           | (cases (show R K M G y (.bool j) from ry))
           | (cases (show R K M G y (.str j) from ry))
         refine ⟨rfl, ?_⟩
         simp only [PyData.eqv]
         first
           | exact dec_int
           | exact dec_bl
           | exact dec_str
           | simp)
      | (rename_i i
         first
           | (cases (show R K M G x .none from rx))
           | (cases (show R K M G x (.int i) from rx))
           | (cases (show R K M G x (.bool i) from rx))
           | (cases (show R K M G x (.str i) from rx))
         first
           | (cases (show R K M G y .none from ry))
           | (cases (show R K M G y (.int i) from ry))
           | (cases (show R K M G y (.bool i) from ry))
           | (cases (show R K M G y (.str i) from ry))
         refine ⟨rfl, ?_⟩
         simp [PyData.eqv])
      | (cases (show R K M G x .none from rx)
         cases (show R K M G y .none from ry)
         refine ⟨rfl, ?_⟩
         simp [PyData.eqv])
def rEqAll (K : PySem.W.Frag) : R2 := fun x y H Q => rEq x y H Q ∨ rEqD K x y H Q
def rNeAll (K : PySem.W.Frag) : R2 := fun x y H Q => rNe x y H Q ∨ rNeD K x y H Q
theorem ops_eq {K : PySem.W.Frag} : OpS K M .cl (rEqAll K) oEq := by
  intro H G x y dx dy dz Q e rx ry ho q
  unfold oEq at ho
  split at ho
  · rename_i hc
    cases ho
    have q' := q _ H G (Stp.refl e) (R.bl (PyData.eqv dx dy))
    rcases hc with hc | ⟨h1, h2⟩
    · obtain ⟨s, d⟩ := scal_of rx ry hc
      exact .inl ⟨s, by rw [d]; exact q'⟩
    · exact .inr ⟨dx, dy, rx.dp e h1, ry.dp e h2, h1, h2, q'⟩
  · cases ho
theorem ops_ne {K : PySem.W.Frag} : OpS K M .cl (rNeAll K) oNe := by
  intro H G x y dx dy dz Q e rx ry ho q
  unfold oNe at ho
  split at ho
  · rename_i hc
    cases ho
    have q' := q _ H G (Stp.refl e) (R.bl (!PyData.eqv dx dy))
    rcases hc with hc | ⟨h1, h2⟩
    · obtain ⟨s, d⟩ := scal_of rx ry hc
      exact .inl ⟨s, by rw [d]; exact q'⟩
    · exact .inr ⟨dx, dy, rx.dp e h1, ry.dp e h2, h1, h2, q'⟩
  · cases ho
theorem je_eq (C : CxF K X E k) (ha : JE K X M E .op a ta fa) (hb : JE K X M E .op b tb fb) : JE K X M E .cl (.Compare a [.Eq] [b] pos) (tOp (rEqAll K) ta tb) (f2 oEq fa fb) := by
  have hK := C.hK
  subst hK
  exact je_cmpR (OpR.or op_eq (op_eqD C.room.units)) ops_eq ha hb (nomark _)
theorem je_ne (C : CxF K X E k) (ha : JE K X M E .op a ta fa) (hb : JE K X M E .op b tb fb) : JE K X M E .cl (.Compare a [.NotEq] [b] pos) (tOp (rNeAll K) ta tb) (f2 oNe fa fb) := by
  have hK := C.hK
  subst hK
  exact je_cmpR (OpR.or op_ne (op_neD C.room.units)) ops_ne ha hb (nomark _)
end
end Py


/-! PyC: in, index, slices, displays, arguments, calls, tests -/
namespace Py
open PySem PySem.Spec PyProof.Rows L2

section
variable {K : PySem.W.Frag} {X : Cx} {M : Pm} {E : XK} {k : Nat} {m : Md} {a b e c : Expr} {ta tb te tc : TE} {fa fb fe fc : Fe} {pos : Pos}

theorem R.tupI {K : PySem.W.Frag} {G : Hp} {v : V} {ds : List D} (r : R K M G v (.tuple ds)) : ∃ p us, v = .ref p ∧ SqT K G p us ∧ RA K M G us ds := by
  cases r with
  | tup h r => exact ⟨_, _, rfl, h, r⟩
/-! ### in, not in -/
def flatD : D → Bool
  | .none => true | .bool _ => true | .int _ => true | .str _ => true
  | _ => false
theorem flat_of {K : PySem.W.Frag} {G : Hp} {v : V} {d : D} (r : R K M G v d) (h : flatD d = true) : flatV v = true ∧ nolist d = true := by
  cases r <;> first | exact ⟨rfl, rfl⟩ | cases h
theorem eqV_of {K : PySem.W.Frag} {G : Hp} {v w : V} {d e : D} (r : R K M G v d) (s : R K M G w e) (h : flatD d = true) (h' : flatD e = true) : eqV v w = PyData.eqv d e := by
  cases r <;> cases s <;> first | (simp only [eqV, PyData.eqv]; done) | cases h; done | cases h'; done
theorem flats_of {K : PySem.W.Frag} {G : Hp} : ∀ {vs : List V} {ds : List D}, RA K M G vs ds → ds.all flatD = true → vs.all flatV = true
  | _, _, .nil, _ => rfl
  | _, _, .cons r t, h => by
    rw [List.all_cons, Bool.and_eq_true] at h
    rw [List.all_cons, (flat_of r h.1).1, flats_of t h.2]
    rfl
theorem inV_of {K : PySem.W.Frag} {G : Hp} {x : V} {dx : D} (rx : R K M G x dx) (hx : flatD dx = true) : ∀ {vs : List V} {ds : List D}, RA K M G vs ds → ds.all flatD = true → inV x vs = ds.any fun z => PyData.eqv z dx
  | _, _, .nil, _ => rfl
  | _, _, .cons (v := v) (vs := vs) (d := d) (ds := ds) r t, h => by
    rw [List.all_cons, Bool.and_eq_true] at h
    have ih := inV_of rx hx t h.2
    show (eqV v x || inV x vs) = (PyData.eqv d dx || ds.any fun z => PyData.eqv z dx)
    rw [eqV_of r rx h.1 hx, ih]
def oIn (neg : Bool) (x : D) : D → Option D
  | .list ds => if SeqAt.shaped x = true ∧ SeqAt.shaped (.list ds) = true then some (.bool (if neg = true then !(ds.any fun z => PyData.eqv z x) else ds.any fun z => PyData.eqv z x)) else none
  | .tuple ds => if flatD x = true ∧ ds.all flatD = true then some (.bool (if neg = true then !(ds.any fun z => PyData.eqv z x) else ds.any fun z => PyData.eqv z x)) else none
  | .str z => match x with
    | .str y => if y.cps.size = 1 then some (.bool (if neg = true then !(decide (y.cps.getD 0 0 ∈ z.cps.toList)) else decide (y.cps.getD 0 0 ∈ z.cps.toList))) else none
    | _ => none
  | _ => none
def rInS1 : R2 := fun x y H Q => ∃ (c : Nat) (z : Str), x = .str ⟨#[c]⟩ ∧ y = .str z ∧ Q (.bl (decide (c ∈ z.cps.toList))) H
def rNiS1 : R2 := fun x y H Q => ∃ (c : Nat) (z : Str), x = .str ⟨#[c]⟩ ∧ y = .str z ∧ Q (.bl (!decide (c ∈ z.cps.toList))) H
def rInAll (K : PySem.W.Frag) : R2 := fun x y H Q => (rIn K false x y H Q ∨ rInD K x y H Q) ∨ rInS1 x y H Q
def rNiAll (K : PySem.W.Frag) : R2 := fun x y H Q => (rIn K true x y H Q ∨ rNotInD K x y H Q) ∨ rNiS1 x y H Q
theorem one_sign {y : Str} (h : y.cps.size = 1) : y = ⟨#[y.cps.getD 0 0]⟩ := by
  obtain ⟨cps⟩ := y
  congr 1
  apply Array.ext
  · simpa using h
  · intro i h1 h2
    have e : i = 0 := by simp at h2; exact h2
    subst e
    simp [Array.getD, h1]
theorem ops_in {K : PySem.W.Frag} : OpS K M .cl (rInAll K) (oIn false) := by
  intro H G x y dx dy dz Q e rx ry ho q
  unfold oIn at ho
  split at ho
  · rename_i ds
    split at ho
    · rename_i hc
      cases ho
      exact .inl (.inr ⟨dx, ds, rx.dp e hc.1, RO.dp ry e hc.2, hc.1, hc.2, q _ H G (Stp.refl e) (R.bl _)⟩)
    · cases ho
  · rename_i ds
    split at ho
    · rename_i hc
      cases ho
      cases (show R K M G y (.tuple ds) from ry) with
      | tup h r =>
        rename_i p us
        have nl : nolist dx = true := by
          have := hc.1
          cases dx <;> first | rfl | cases this
        have rx' := rx.nolist nl
        have q' := q _ H G (Stp.refl e) (R.bl (ds.any fun z => PyData.eqv z dx))
        refine .inl (.inl ⟨p, us, rfl, .inr (same_T e h), (flat_of rx' hc.1).1, flats_of r hc.2, ?_⟩)
        show Q (.bl (inV x us)) H
        rw [inV_of rx' hc.1 r hc.2]
        exact q'
    · cases ho
  · rename_i z
    split at ho
    · rename_i w
      split at ho
      · rename_i hw
        cases ho
        cases (show R K M G y (.str z) from ry)
        cases (show R K M G x (.str w) from rx)
        exact .inr ⟨_, z, congrArg V.str (one_sign hw), rfl, q _ H G (Stp.refl e) (R.bl _)⟩
      · cases ho
    · cases ho
  · cases ho
theorem ops_ni {K : PySem.W.Frag} : OpS K M .cl (rNiAll K) (oIn true) := by
  intro H G x y dx dy dz Q e rx ry ho q
  unfold oIn at ho
  split at ho
  · rename_i ds
    split at ho
    · rename_i hc
      cases ho
      exact .inl (.inr ⟨dx, ds, rx.dp e hc.1, RO.dp ry e hc.2, hc.1, hc.2, q _ H G (Stp.refl e) (R.bl _)⟩)
    · cases ho
  · rename_i ds
    split at ho
    · rename_i hc
      cases ho
      cases (show R K M G y (.tuple ds) from ry) with
      | tup h r =>
        rename_i p us
        have nl : nolist dx = true := by
          have := hc.1
          cases dx <;> first | rfl | cases this
        have rx' := rx.nolist nl
        have q' := q _ H G (Stp.refl e) (R.bl (!ds.any fun z => PyData.eqv z dx))
        refine .inl (.inl ⟨p, us, rfl, .inr (same_T e h), (flat_of rx' hc.1).1, flats_of r hc.2, ?_⟩)
        show Q (.bl (!inV x us)) H
        rw [inV_of rx' hc.1 r hc.2]
        exact q'
    · cases ho
  · rename_i z
    split at ho
    · rename_i w
      split at ho
      · rename_i hw
        cases ho
        cases (show R K M G y (.str z) from ry)
        cases (show R K M G x (.str w) from rx)
        exact .inr ⟨_, z, congrArg V.str (one_sign hw), rfl, q _ H G (Stp.refl e) (R.bl _)⟩
      · cases ho
    · cases ho
  · cases ho
theorem je_in (C : CxF K X E k) (ha : JE K X M E .op a ta fa) (hb : JE K X M E .op b tb fb) (hm : behindInMarks .In b = false := by rfl) : JE K X M E .cl (.Compare a [.In] [b] pos) (tOp (rInAll K) ta tb) (f2 (oIn false) fa fb) := by
  have hK := C.hK
  subst hK
  exact je_cmpR (OpR.or (OpR.or op_in_seq (op_inD (by have := C.room.un; omega))) op_in_sign) ops_in ha hb hm
theorem je_ni (C : CxF K X E k) (ha : JE K X M E .op a ta fa) (hb : JE K X M E .op b tb fb) (hm : behindInMarks .NotIn b = false := by rfl) : JE K X M E .cl (.Compare a [.NotIn] [b] pos) (tOp (rNiAll K) ta tb) (f2 (oIn true) fa fb) := by
  have hK := C.hK
  subst hK
  exact je_cmpR (OpR.or (OpR.or op_notIn_seq (op_notInD (by have := C.room.un; omega))) op_notIn_sign) ops_ni ha hb hm
/-! ### an item -/
def oIx : D → D → Option D
  | .list ds, .int i => atI ds i
  | .tuple ds, .int i => atI ds i
  | .str z, .int i => if z.length ≤ big then (match atI z.cps.toList i with | some c => some (.str ⟨#[c]⟩) | none => none) else none
  | _, _ => none
theorem RA.at {K : PySem.W.Frag} {G : Hp} {vs : List V} {ds : List D} {i : Int} {d : D} (r : RA K M G vs ds) (h : atI ds i = some d) : ∃ v, atI vs i = some v ∧ R K M G v d := by
  unfold atI at h ⊢
  rw [r.len]
  cases e : ixN ds.length i with
  | none => rw [e] at h; cases h
  | some j =>
    rw [e] at h
    exact r.get (show ds[j]? = some d from h)
theorem ops_ix {K : PySem.W.Frag} : OpS K M .cl (rIx K) oIx := by
  intro H G x y dx dy dz Q e rx ry ho q
  unfold oIx at ho
  split at ho
  · rename_i ds i
    obtain ⟨p, us, e1, h, r⟩ := rx
    subst e1
    cases (show R K M G y (.int i) from ry)
    obtain ⟨v, h1, h2⟩ := r.at ho
    exact .inl ⟨p, us, i, v, rfl, rfl, h, h1, q v H G (Stp.refl e) h2⟩
  · rename_i ds i
    cases (show R K M G x (.tuple ds) from rx) with
    | tup h r =>
      rename_i p us
      cases (show R K M G y (.int i) from ry)
      obtain ⟨v, h1, h2⟩ := r.at ho
      exact .inr (.inl ⟨p, us, i, v, rfl, rfl, same_T e h, h1, q v H G (Stp.refl e) h2⟩)
  · rename_i z i
    split at ho
    · rename_i hz
      cases hc : atI z.cps.toList i with
      | none => rw [hc] at ho; cases ho
      | some c =>
        rw [hc] at ho
        cases ho
        cases (show R K M G x (.str z) from rx)
        cases (show R K M G y (.int i) from ry)
        exact .inr (.inr ⟨z, i, c, rfl, rfl, big_line hz, hc, q _ H G (Stp.refl e) (R.str _)⟩)
    · cases ho
  · cases ho
theorem je_ix (C : CxF K X E k) (ha : JE K X M E .op a ta fa) (hb : JE K X M E .op b tb fb) (hs : PlainIx b := by exact fun _ _ => rfl) : JE K X M E .cl (.Subscript a b pos) (tOp (rIx K) ta tb) (f2 oIx fa fb) := by
  have hK := C.hK
  subst hK
  exact je_ixR ix_seq ops_ix ha hb hs
/-! ### slices -/
inductive Ri | ok (o : Option Int) | er (c : Str)
abbrev Fi := Ge → Option Ri
def PostI (M : Pm) (E : XK) (H G : Hp) (Q : Option Int → Hp → Prop) : Ri → Prop
  | .ok o => ∀ H' G', Stp H G H' G' → Q o H'
  | .er c => ∀ H' G', Stp H G H' G' → E (M.exc c) none H'
def IO (K : PySem.W.Frag) (M : Pm) (E : XK) (t : L2.TO) (f : Fi) : Prop := ∀ (H0 G0 : Hp) (γ : Ge) (σ : L2.St) (H G : Hp) (Q : Option Int → Hp → Prop) (r : Ri), EnvR K M H0 G0 γ σ H G → f γ = some r → PostI M E H G Q r → t σ H Q
structure JI' (K : PySem.W.Frag) (X : Cx) (M : Pm) (E : XK) (e : Option Expr) (t : L2.TO) (f : Fi) : Prop where
  po : PO X e t
  io : IO K M E t f
def fiNo : Fi := fun _ => some (.ok none)
def fiSm (a : Fe) : Fi := fun γ => match a γ with
  | some (.ok (.int i)) => some (.ok (some i))
  | some (.er c) => some (.er c)
  | _ => none
theorem ji_no : JI' K X M E none tNoPart fiNo := ⟨po_none, fun H0 G0 γ σ H G Q r ev hf p => by cases hf; exact p H G (Stp.refl ev.sub)⟩
theorem ji_sm (ha : JE K X M E .op a ta fa) : JI' K X M E (some a) (tPart ta) (fiSm fa) := ⟨po_some ha.pe, fun H0 G0 γ σ H G Q r ev hf p => by
  unfold fiSm at hf
  split at hf
  · rename_i i e1
    cases hf
    refine ha.eo H0 G0 γ σ H G _ _ ev e1 fun v H1 G1 s r => ?_
    cases (show R K M G1 v (.int i) from r)
    exact ⟨i, rfl, p H1 G1 s⟩
  · rename_i c e1
    cases hf
    exact ha.eo H0 G0 γ σ H G _ _ ev e1 p
  · cases hf⟩
def cutD (xs : List D) (lo hi : Option Int) : List D := (xs.drop (HT.sIx xs.length 0 lo)).take (HT.sIx xs.length xs.length hi - HT.sIx xs.length 0 lo)
def oSl (lo hi : Option Int) : D → Option D
  | .list ds => some (.list (cutD ds lo hi))
  | .tuple ds => if HT.sIx ds.length 0 lo = 0 ∧ HT.sIx ds.length ds.length hi = ds.length then none else some (.tuple (cutD ds lo hi))
  | .str z => if z.length ≤ big then some (.str (cutS z lo hi)) else none
  | _ => none
def rSlAll (K : PySem.W.Frag) : V → Option Int → Option Int → Hp → VK → Prop := fun x lo hi H Q => (rSlL K x lo hi H Q ∨ rSlT K x lo hi H Q) ∨ rSlS x lo hi H Q
theorem sl_all : L2.SlR X (rSlAll X.K) := L2.SlR.or (L2.SlR.or sl_list sl_tup) sl_str
theorem RA.cut {K : PySem.W.Frag} {G : Hp} {vs : List V} {ds : List D} (r : RA K M G vs ds) (lo hi : Option Int) : RA K M G (cutV vs lo hi) (cutD ds lo hi) := by
  unfold cutV cutD
  rw [r.len]
  exact (r.drop _).take _
theorem sl_snd {K : PySem.W.Frag} {H G : Hp} {x : V} {dx dz : D} {lo hi : Option Int} {Q : VK} (e : Same G H) (rx : RO K M H G x dx) (ho : oSl lo hi dx = some dz) (q : ∀ v H' G', Stp H G H' G' → Res K M .fr H H' G' v dz → Q v H') : rSlAll K x lo hi H Q := by
  unfold oSl at ho
  split at ho
  · rename_i ds
    cases ho
    obtain ⟨p, us, e1, h, r⟩ := rx
    subst e1
    exact .inl (.inl ⟨p, us, rfl, h, fun p hp => q _ _ G (Stp.newO e hp) ⟨p, _, rfl, hp, e.free hp, upd_same, r.cut lo hi⟩⟩)
  · rename_i ds
    split at ho
    · cases ho
    · rename_i hc
      cases ho
      cases (show R K M G x (.tuple ds) from rx) with
      | tup h r =>
        rename_i p us
        refine .inl (.inr ⟨p, us, rfl, same_T e h, by rw [r.len]; exact hc, fun p hp => ?_⟩)
        have s := Stp.new (o := .tup (cutV us lo hi)) e hp
        exact q _ _ _ s (R.tup (.of upd_same) ((r.cut lo hi).mono s.eg))
  · rename_i z
    split at ho
    · rename_i hz
      cases ho
      cases (show R K M G x (.str z) from rx)
      exact .inr ⟨z, rfl, big_line hz, q _ H G (Stp.refl e) (R.str _)⟩
    · cases ho
  · cases ho
def fSl (a : Fe) (lo hi : Fi) : Fe := fun γ => bR (a γ) fun x => match lo γ with
  | some (.ok l) => (match hi γ with
    | some (.ok u) => oR (oSl l u x)
    | some (.er c) => some (.er c)
    | none => none)
  | some (.er c) => some (.er c)
  | none => none
theorem je_slice {lo hi : Option Expr} {tl th : L2.TO} {fl fh : Fi} {p2 : Pos} (C : CxF K X E k) (ha : JE K X M E .op a ta fa) (hl : JI' K X M E lo tl fl) (hh : JI' K X M E hi th fh) : JE K X M E .fr (.Subscript a (.Slice lo hi none p2) pos) (tSl (rSlAll K) ta tl th) (fSl fa fl fh) := by
  have hK := C.hK
  subst hK
  refine ⟨pe_slice sl_all ha.pe hl.po hh.po, fun H0 G0 γ σ H G Q r ev hf p => ?_⟩
  unfold fSl at hf
  cases e1 : fa γ with
  | none => rw [e1] at hf; cases hf
  | some q1 =>
    rw [e1] at hf
    cases q1 with
    | er c =>
      cases hf
      exact ha.eo H0 G0 γ σ H G _ _ ev e1 p
    | ok dx =>
      refine ha.eo H0 G0 γ σ H G _ _ ev e1 fun x H1 G1 s1 r1 => ?_
      have ev1 := ev.stp s1
      simp only [bR] at hf
      cases e2 : fl γ with
      | none => rw [e2] at hf; cases hf
      | some q2 =>
        rw [e2] at hf
        cases q2 with
        | er c =>
          cases hf
          exact hl.io H0 G0 γ σ H1 G1 _ _ ev1 e2 fun H' G' s' => p H' G' (s1.trans s')
        | ok l =>
          refine hl.io H0 G0 γ σ H1 G1 _ _ ev1 e2 fun H2 G2 s2 => ?_
          have ev2 := ev1.stp s2
          simp only at hf
          cases e3 : fh γ with
          | none => rw [e3] at hf; cases hf
          | some q3 =>
            rw [e3] at hf
            cases q3 with
            | er c =>
              cases hf
              exact hh.io H0 G0 γ σ H2 G2 _ _ ev2 e3 fun H' G' s' => p H' G' ((s1.trans s2).trans s')
            | ok u =>
              refine hh.io H0 G0 γ σ H2 G2 _ _ ev2 e3 fun H3 G3 s3 => ?_
              simp only at hf
              cases e4 : oSl l u dx with
              | none => rw [e4] at hf; cases hf
              | some dz =>
                rw [e4] at hf
                cases hf
                have s23 := s2.trans s3
                exact sl_snd s3.sub (r1.mono s23.ex s23.eg) e4 fun v H' G' s' r' => p v H' G' ((s1.trans s23).trans s') (Res.up (m := .fr) r' (s1.ex.trans s23.ex))
/-- xs[::-1] -/
def oRev : D → Option D
  | .list ds => some (.list ds.reverse)
  | _ => none
theorem je_rev {k1 : Nat} {p1 p2 p3 : Pos} (C : CxF K X E k) (ha : JE K X M E .op a ta fa) : JE K X M E .fr (.Subscript a (.Slice none none (some (.UnaryOp .USub (.Constant (.int 1) k1 p1) p2)) p3) pos) (tRevL K ta) (f1 oRev fa) := by
  have hK := C.hK
  subst hK
  refine ⟨pe_revL ha.pe, fun H0 G0 γ σ H G Q r ev hf p => ?_⟩
  unfold f1 at hf
  cases e1 : fa γ with
  | none => rw [e1] at hf; cases hf
  | some q1 =>
    rw [e1] at hf
    cases q1 with
    | er c =>
      cases hf
      exact ha.eo H0 G0 γ σ H G _ _ ev e1 p
    | ok dx =>
      refine ha.eo H0 G0 γ σ H G _ _ ev e1 fun x H1 G1 s1 r1 => ?_
      cases dx with
      | list ds =>
        cases hf
        obtain ⟨l, us, e2, h, r⟩ := r1
        refine ⟨l, us, e2, h, fun q hq => ?_⟩
        exact p _ _ G1 (s1.trans (Stp.newO s1.sub hq)) ⟨q, _, rfl, s1.ex.free hq, s1.sub.free hq, upd_same, r.rev⟩
      | _ => cases hf

/-! ### arguments, displays -/
theorem ja_nil : JA K X M E [] tNil fNil := ⟨pa_nil, fun H0 G0 γ σ H G Q r ev hf p => by cases hf; exact p [] H G (Stp.refl ev.sub) .nil⟩
theorem jc_nil : JC K X M E [] tNil fNil := ⟨pa_nil, fun H0 G0 γ σ H G Q r ev hf p => by cases hf; exact p [] H G (Stp.refl ev.sub) .nil⟩
theorem ROs.mono {K : PySem.W.Frag} {H H' G G' : Hp} (e : Same H H') (g : Same G G') : ∀ {vs : List V} {ds : List D}, ROs K M H G vs ds → ROs K M H' G' vs ds
  | _, _, .nil => .nil
  | _, _, .cons r t => .cons (RO.mono r e g) (ROs.mono e g t)
theorem ja_cons {es : List Expr} {t : TA} {fr : Fa} (ha : JE K X M E .op a ta fa) (hr : JA K X M E es t fr) (hs : starEach (a :: es) X.env = (false, eval a X.env) :: starEach es X.env := by rfl) : JA K X M E (a :: es) (tCons ta t) (fCons fa fr) := by
  refine ⟨pa_cons ha.pe hr.pa hs, fun H0 G0 γ σ H G Q r ev hf p => ?_⟩
  unfold fCons at hf
  cases e1 : fa γ with
  | none => rw [e1] at hf; cases hf
  | some q1 =>
    rw [e1] at hf
    cases q1 with
    | er c => cases hf; exact ha.eo H0 G0 γ σ H G _ _ ev e1 p
    | ok d =>
      refine ha.eo H0 G0 γ σ H G _ _ ev e1 fun x H1 G1 s1 r1 => ?_
      simp only [bL] at hf
      cases e2 : fr γ with
      | none => rw [e2] at hf; cases hf
      | some q2 =>
        rw [e2] at hf
        cases q2 with
        | er c => cases hf; exact hr.ao H0 G0 γ σ H1 G1 _ _ (ev.stp s1) e2 fun H' G' s' => p H' G' (s1.trans s')
        | ok ds =>
          cases hf
          exact hr.ao H0 G0 γ σ H1 G1 _ _ (ev.stp s1) e2 fun vs H2 G2 s2 r2 => p _ H2 G2 (s1.trans s2) (.cons (r1.mono s2.ex s2.eg) r2)
theorem jc_cons {es : List Expr} {t : TA} {fr : Fa} (ha : JE K X M E .cl a ta fa) (hr : JC K X M E es t fr) (hs : starEach (a :: es) X.env = (false, eval a X.env) :: starEach es X.env := by rfl) : JC K X M E (a :: es) (tCons ta t) (fCons fa fr) := by
  refine ⟨pa_cons ha.pe hr.pa hs, fun H0 G0 γ σ H G Q r ev hf p => ?_⟩
  unfold fCons at hf
  cases e1 : fa γ with
  | none => rw [e1] at hf; cases hf
  | some q1 =>
    rw [e1] at hf
    cases q1 with
    | er c => cases hf; exact ha.eo H0 G0 γ σ H G _ _ ev e1 p
    | ok d =>
      refine ha.eo H0 G0 γ σ H G _ _ ev e1 fun x H1 G1 s1 r1 => ?_
      simp only [bL] at hf
      cases e2 : fr γ with
      | none => rw [e2] at hf; cases hf
      | some q2 =>
        rw [e2] at hf
        cases q2 with
        | er c => cases hf; exact hr.ac H0 G0 γ σ H1 G1 _ _ (ev.stp s1) e2 fun H' G' s' => p H' G' (s1.trans s')
        | ok ds =>
          cases hf
          exact hr.ac H0 G0 γ σ H1 G1 _ _ (ev.stp s1) e2 fun vs H2 G2 s2 r2 => p _ H2 G2 (s1.trans s2) (.cons (R.mono s2.eg r1) r2)
def fTup (a : Fa) : Fe := fun γ => bA (a γ) fun ds => if ds.length ≤ big then some (.ok (.tuple ds)) else none
def fLst (a : Fa) : Fe := fun γ => bA (a γ) fun ds => if ds.length ≤ big then some (.ok (.list ds)) else none
theorem je_tup {es : List Expr} {t : TA} {fr : Fa} {x1 : Nat} (h : JC K X M E es t fr) : JE K X M E .cl (.Tuple es x1 pos) (tTup t) (fTup fr) := by
  refine ⟨pe_tup h.pa, fun H0 G0 γ σ H G Q r ev hf p => ?_⟩
  unfold fTup at hf
  cases e1 : fr γ with
  | none => rw [e1] at hf; cases hf
  | some q1 =>
    rw [e1] at hf
    cases q1 with
    | er c => cases hf; exact h.ac H0 G0 γ σ H G _ _ ev e1 p
    | ok ds =>
      simp only [bA] at hf
      split at hf
      · rename_i hz
        cases hf
        refine h.ac H0 G0 γ σ H G _ _ ev e1 fun vs H1 G1 s1 r1 => ⟨by rw [r1.len]; exact big_line hz, fun q hq => ?_⟩
        have s := Stp.new (o := .tup vs) s1.sub hq
        exact p _ _ _ (s1.trans s) (R.tup (.of upd_same) (r1.mono s.eg))
      · cases hf
theorem je_lst {es : List Expr} {t : TA} {fr : Fa} (h : JC K X M E es t fr) : JE K X M E .fr (.List es pos) (tLst t) (fLst fr) := by
  refine ⟨pe_lst h.pa, fun H0 G0 γ σ H G Q r ev hf p => ?_⟩
  unfold fLst at hf
  cases e1 : fr γ with
  | none => rw [e1] at hf; cases hf
  | some q1 =>
    rw [e1] at hf
    cases q1 with
    | er c => cases hf; exact h.ac H0 G0 γ σ H G _ _ ev e1 p
    | ok ds =>
      simp only [bA] at hf
      split at hf
      · rename_i hz
        cases hf
        refine h.ac H0 G0 γ σ H G _ _ ev e1 fun vs H1 G1 s1 r1 => ⟨by rw [r1.len]; exact big_line hz, fun q hq => ?_⟩
        exact p _ _ _ (s1.trans (Stp.newO s1.sub hq)) ⟨q, vs, rfl, s1.ex.free hq, s1.sub.free hq, upd_same, r1⟩
      · cases hf

/-! ### calls of the text's own defs -/
def spF (K : PySem.W.Frag) (M : Pm) (φ : List D → Option Rs) : Sp := fun vs H Q E => ∃ (G : Hp) (ds : List D) (r : Rs), Same G H ∧ RA K M G vs ds ∧ φ ds = some r ∧ PostE K M E .cl H G Q r ∧ Same M.kp H
def fCall (φ : List D → Option Rs) (a : Fa) : Fe := fun γ => bA (a γ) φ
theorem passesAt_of {E' : XK} (h : Passes (L2.CX X.prog X.w) X E') : ∀ σ, PassesAt (L2.CX X.prog X.w) X σ ((fun _ => E') σ) := fun σ pins H s e s' I c => h pins σ H s e s' I c
theorem je_call {φ : List D → Option Rs} {j : Nat} {f : Addr} {fd : FuncData} {ps : List Str} {x : Str} {p : Pos} {es : List Expr} {t : TA} {fr : Fa} (C : CxF K X E k)
    (F : FnOk X.prog X.w X.K X.mg X.base (L2.CX X.prog X.w) j f fd ps (spF K M φ)) (hj : j ≤ k) (hb : Binds X.K fd ps []) (hm : X.mg x = some (.ref f)) (hk : PySem.W.keepIn X.K (.ref f) = true) (hg : Gl X x) (ha : JC K X M E (a :: es) t fr)
    (hdb : (x == ("__debug__" : Str)) = false := by decide) (he : starEach (a :: es) X.env = (false, eval a X.env) :: starEach es X.env := by rfl) (hpl : (backTo pos (starEach es X.env)).any (·.1) = false := by rfl) :
    JE K X M E .cl (.Call (.Name x p) (a :: es) [] pos) (tCallS (spF K M φ) (fun _ => E) t) (fCall φ fr) := by
  have hK := C.hK
  subst hK
  refine ⟨pe_callS F (C.room.mono hj) hg hm hk hb (passesAt_of C.pas) ha.pa hdb he hpl, fun H0 G0 γ σ H G Q r ev hf p => ?_⟩
  unfold fCall at hf
  cases e1 : fr γ with
  | none => rw [e1] at hf; cases hf
  | some q1 =>
    rw [e1] at hf
    cases q1 with
    | er c => cases hf; exact ha.ac H0 G0 γ σ H G _ _ ev e1 p
    | ok ds =>
      refine ha.ac H0 G0 γ σ H G _ _ ev e1 fun vs H1 G1 s1 r1 => ⟨G1, ds, r, s1.sub, r1, hf, ?_, ev.kp.trans (ev.stp s1).st.ex⟩
      cases r with
      | ok d => exact fun v H' G' s' r' => p v H' G' (s1.trans s') r'
      | er c => exact fun H' G' s' => p H' G' (s1.trans s')
/-- .. its arguments operands (an own list), where a flat datum comes back -/
def fCallO (φ : List D → Option Rs) (a : Fa) : Fe := fun γ => bA (a γ) fun ds => match φ ds with
  | some (.ok d) => if flatD d = true then some (.ok d) else none
  | some (.er c) => some (.er c)
  | none => none
theorem ROs.ra {K : PySem.W.Frag} {H G : Hp} (e : Same G H) : ∀ {vs : List V} {ds : List D}, ROs K M H G vs ds → RA K M H vs ds
  | _, _, .nil => .nil
  | _, _, .cons r t => .cons (RO.r r e) (ROs.ra e t)
theorem flat_any {K : PySem.W.Frag} {G G' : Hp} {v : V} {d : D} (r : R K M G v d) (h : flatD d = true) : R K M G' v d := by
  cases r <;> first | exact .non | exact .bl _ | exact .int _ | exact .str _ | cases h
theorem je_callO {φ : List D → Option Rs} {j : Nat} {f : Addr} {fd : FuncData} {ps : List Str} {x : Str} {p : Pos} {es : List Expr} {t : TA} {fr : Fa} (C : CxF K X E k)
    (F : FnOk X.prog X.w X.K X.mg X.base (L2.CX X.prog X.w) j f fd ps (spF K M φ)) (hj : j ≤ k) (hb : Binds X.K fd ps []) (hm : X.mg x = some (.ref f)) (hk : PySem.W.keepIn X.K (.ref f) = true) (hg : Gl X x) (ha : JA K X M E (a :: es) t fr)
    (hdb : (x == ("__debug__" : Str)) = false := by decide) (he : starEach (a :: es) X.env = (false, eval a X.env) :: starEach es X.env := by rfl) (hpl : (backTo pos (starEach es X.env)).any (·.1) = false := by rfl) :
    JE K X M E .cl (.Call (.Name x p) (a :: es) [] pos) (tCallS (spF K M φ) (fun _ => E) t) (fCallO φ fr) := by
  have hK := C.hK
  subst hK
  refine ⟨pe_callS F (C.room.mono hj) hg hm hk hb (passesAt_of C.pas) ha.pa hdb he hpl, fun H0 G0 γ σ H G Q r ev hf p => ?_⟩
  unfold fCallO at hf
  cases e1 : fr γ with
  | none => rw [e1] at hf; cases hf
  | some q1 =>
    rw [e1] at hf
    cases q1 with
    | er c => cases hf; exact ha.ao H0 G0 γ σ H G _ _ ev e1 p
    | ok ds =>
      refine ha.ao H0 G0 γ σ H G _ _ ev e1 fun vs H1 G1 s1 r1 => ?_
      simp only [bA] at hf
      split at hf
      · rename_i d ed
        split at hf
        · rename_i hfl
          cases hf
          refine ⟨H1, ds, .ok d, Same.refl _, r1.ra s1.sub, ed, fun v H' G' s' r' => ?_, ev.kp.trans (ev.stp s1).st.ex⟩
          exact p v H' G1 (s1.trans ⟨s'.ex, Same.refl _, s1.sub.trans s'.ex, fun _ _ _ n => n⟩) (flat_any r' hfl)
        · cases hf
      · rename_i c ed
        cases hf
        exact ⟨H1, ds, .er c, Same.refl _, r1.ra s1.sub, ed, fun H' G' s' => p H' G1 (s1.trans ⟨s'.ex, Same.refl _, s1.sub.trans s'.ex, fun _ _ _ n => n⟩), ev.kp.trans (ev.stp s1).st.ex⟩
      · cases hf

/-! ### calls of built-ins, by values -/
def CallS (K : PySem.W.Frag) (M : Pm) (m : Md) (r : List V → Hp → VK → Prop) (o : List D → Option D) : Prop :=
  ∀ (H G : Hp) (vs : List V) (ds : List D) (dz : D) (Q : VK), Same G H → ROs K M H G vs ds → o ds = some dz → (∀ v H' G', Stp H G H' G' → Res K M m H H' G' v dz → Q v H') → r vs H Q
def fB (o : List D → Option D) (a : Fa) : Fe := fun γ => bA (a γ) fun ds => oR (o ds)
theorem eo_blt {K : PySem.W.Frag} {r : List V → Hp → VK → Prop} {o : List D → Option D} {t : TA} {fr : Fa} (ho : CallS K M m r o) (ha : AO K M E t fr) : EO K M E m (tCB r t) (fB o fr) := by
  intro H0 G0 γ σ H G Q q ev hf p
  unfold fB at hf
  cases e1 : fr γ with
  | none => rw [e1] at hf; cases hf
  | some q1 =>
    rw [e1] at hf
    cases q1 with
    | er c => cases hf; exact ha H0 G0 γ σ H G _ _ ev e1 p
    | ok ds =>
      refine ha H0 G0 γ σ H G _ _ ev e1 fun vs H1 G1 s1 r1 => ?_
      simp only [bA] at hf
      cases e2 : o ds with
      | none => rw [e2] at hf; cases hf
      | some dz =>
        rw [e2] at hf
        cases hf
        exact ho H1 G1 vs ds dz Q s1.sub r1 e2 fun v H' G' s' r' => p v H' G' (s1.trans s') (r'.up s1.ex)
theorem je_callB {r : List V → Hp → VK → Prop} {o : List D → Option D} {t : TA} {fr : Fa} {es : List Expr} {id : String} {x : Str} {p : Pos} (hc : CallR X (.builtin id) r) (ho : CallS K M m r o) (hm : X.mg x = none) (hv : bootBuiltins x = some (.builtin id)) (hg : Gl X x) (ha : JA K X M E (a :: es) t fr)
    (hn : x ≠ "__name__" := by decide) (hdb : (x == ("__debug__" : Str)) = false := by decide)
    (he : starEach (a :: es) X.env = (false, eval a X.env) :: starEach es X.env := by rfl) (hpl : (backTo pos (starEach es X.env)).any (·.1) = false := by rfl) : JE K X M E m (.Call (.Name x p) (a :: es) [] pos) (tCB r t) (fB o fr) :=
  ⟨pe_callB hc hg hm hv ha.pa hn hdb he hpl, eo_blt ho ha.ao⟩
theorem je_callTy {r : List V → Hp → VK → Prop} {o : List D → Option D} {t : TA} {fr : Fa} {es : List Expr} {T : String} {x : Str} {p : Pos} (hc : CallR X (.type T) r) (ho : CallS K M m r o) (hm : X.mg x = none) (hv : bootBuiltins x = some (.type T)) (hg : Gl X x) (ha : JA K X M E (a :: es) t fr)
    (hn : x ≠ "__name__" := by decide) (hdb : (x == ("__debug__" : Str)) = false := by decide)
    (he : starEach (a :: es) X.env = (false, eval a X.env) :: starEach es X.env := by rfl) (hpl : (backTo pos (starEach es X.env)).any (·.1) = false := by rfl) : JE K X M E m (.Call (.Name x p) (a :: es) [] pos) (tCB r t) (fB o fr) :=
  ⟨pe_callTy hc hg hm hv ha.pa hn hdb he hpl, eo_blt ho ha.ao⟩
/-! len -/
def rLenA (K : PySem.W.Frag) : List V → Hp → VK → Prop := fun xs H Q => ∃ x n, xs = [x] ∧ LenV K x H n ∧ Q (.int n) H
def oLen : List D → Option D
  | [.list ds] => some (.int ds.length)
  | [.tuple ds] => some (.int ds.length)
  | [.str z] => if z.length ≤ big then some (.int z.length) else none
  | _ => none
theorem cs_len {K : PySem.W.Frag} : CallS K M .cl (rLenA K) oLen := by
  intro H G vs ds dz Q e r ho q
  unfold oLen at ho
  split at ho
  · rename_i ds
    cases ho
    cases r with
    | cons r t =>
      cases t
      obtain ⟨p, us, e1, h, r⟩ := r
      subst e1
      exact ⟨_, ds.length, rfl, .inl ⟨us, h, r.len.symm⟩, q _ H G (Stp.refl e) (R.int _)⟩
  · rename_i ds
    cases ho
    cases r with
    | cons r t =>
      cases t
      obtain ⟨p, us, e1, h, r2⟩ := R.tupI (show R K M G _ (.tuple ds) from r)
      subst e1
      exact ⟨_, ds.length, rfl, .inr ⟨us, same_T e h, r2.len.symm⟩, q _ H G (Stp.refl e) (R.int _)⟩
  · rename_i z
    split at ho
    · rename_i hz
      cases ho
      cases r with
      | cons r t =>
        cases t
        cases (show R K M G _ (.str z) from r)
        exact ⟨_, z.length, rfl, ⟨big_line hz, rfl⟩, q _ H G (Stp.refl e) (R.int _)⟩
    · cases ho
  · cases ho
theorem je_len {p : Pos} (C : CxF K X E k) (hm : X.mg "len" = none) (hg : Gl X "len") (ha : JE K X M E .op a ta fa) (hs : starEach [a] X.env = (false, eval a X.env) :: starEach [] X.env := by rfl) : JE K X M E .cl (.Call (.Name "len" p) [a] [] pos) (tCB (rLenA K) (tCons ta tNil)) (fB oLen (fCons fa fNil)) := by
  have hK := C.hK
  subst hK
  exact je_callB call_len cs_len hm PySem.boot_len hg (ja_cons ha ja_nil hs) (by decide) (by decide) hs rfl
end
end Py


/-! PyD: tests, truth values, walks, comprehensions -/
namespace Py
open PySem PySem.Spec PyProof.Rows L2

section
variable {K : PySem.W.Frag} {X : Cx} {M : Pm} {E : XK} {k : Nat} {m : Md} {a b e c : Expr} {ta tb te tc : TE} {fa fb fe fc : Fe} {pos : Pos}

/-! ### tests -/
def fT (f : Fe) : Ft := fun γ => match f γ with
  | some (.ok (.bool b)) => some (.ok b)
  | some (.er c) => some (.er c)
  | _ => none
theorem Res.bool {K : PySem.W.Frag} {H0 H G : Hp} {v : V} {b : Bool} (r : Res K M m H0 H G v (.bool b)) : v = .bl b := by
  cases m <;> exact (by cases (show R K M G v (.bool b) from r); rfl)
theorem to_val {K : PySem.W.Frag} (h : EO K M E m ta fa) : TO' K M E (tTest ta) (fT fa) := by
  intro H0 G0 γ σ H G Q r ev hf p
  unfold fT at hf
  split at hf
  · rename_i b e1
    cases hf
    exact h H0 G0 γ σ H G _ _ ev e1 fun v H' G' s r => ⟨b, r.bool, p H' G' s⟩
  · rename_i c e1
    cases hf
    exact h H0 G0 γ σ H G _ _ ev e1 p
  · cases hf
theorem jt_val (h : JE K X M E m a ta fa) (he : ∀ whole, isTrue a X.env whole = (do let v ← whole; standAt a.pos; holding [v] (truthy v)) := by intro _; rfl) : JT K X M E a (tTest ta) (fT fa) := ⟨pt_val h.pe he, to_val h.eo⟩
theorem jt_cmpR {op : CmpOp} {r : R2} {o : D → D → Option D} (hr : OpR X (compareOp op) r) (ho : OpS K M m r o) (ha : JE K X M E .op a ta fa) (hb : JE K X M E .op b tb fb) (hm : behindInMarks op b = false) : JT K X M E (.Compare a [op] [b] pos) (tTest (tOp r ta tb)) (fT (f2 o fa fb)) :=
  ⟨pt_cmpR hr ha.pe hb.pe hm, to_val (eo_op2 ho ha.eo hb.eo)⟩
theorem jt_lt (ha : JE K X M E .op a ta fa) (hb : JE K X M E .op b tb fb) : JT K X M E (.Compare a [.Lt] [b] pos) (tTest (tOp (rI0 fun i j => .bl (decide (i < j))) ta tb)) (fT (f2 oLt fa fb)) := jt_cmpR op_lt (ops_I0 fun _ _ _ => .bl _) ha hb (nomark _)
theorem jt_le (ha : JE K X M E .op a ta fa) (hb : JE K X M E .op b tb fb) : JT K X M E (.Compare a [.LtE] [b] pos) (tTest (tOp (rI0 fun i j => .bl (decide (i ≤ j))) ta tb)) (fT (f2 oLe fa fb)) := jt_cmpR op_le (ops_I0 fun _ _ _ => .bl _) ha hb (nomark _)
theorem jt_gt (ha : JE K X M E .op a ta fa) (hb : JE K X M E .op b tb fb) : JT K X M E (.Compare a [.Gt] [b] pos) (tTest (tOp (rI0 fun i j => .bl (decide (j < i))) ta tb)) (fT (f2 oGt fa fb)) := jt_cmpR op_gt (ops_I0 fun _ _ _ => .bl _) ha hb (nomark _)
theorem jt_ge (ha : JE K X M E .op a ta fa) (hb : JE K X M E .op b tb fb) : JT K X M E (.Compare a [.GtE] [b] pos) (tTest (tOp (rI0 fun i j => .bl (decide (j ≤ i))) ta tb)) (fT (f2 oGe fa fb)) := jt_cmpR op_ge (ops_I0 fun _ _ _ => .bl _) ha hb (nomark _)
theorem jt_eq (C : CxF K X E k) (ha : JE K X M E .op a ta fa) (hb : JE K X M E .op b tb fb) : JT K X M E (.Compare a [.Eq] [b] pos) (tTest (tOp (rEqAll K) ta tb)) (fT (f2 oEq fa fb)) := by
  have hK := C.hK
  subst hK
  exact jt_cmpR (OpR.or op_eq (op_eqD C.room.units)) ops_eq ha hb (nomark _)
theorem jt_ne (C : CxF K X E k) (ha : JE K X M E .op a ta fa) (hb : JE K X M E .op b tb fb) : JT K X M E (.Compare a [.NotEq] [b] pos) (tTest (tOp (rNeAll K) ta tb)) (fT (f2 oNe fa fb)) := by
  have hK := C.hK
  subst hK
  exact jt_cmpR (OpR.or op_ne (op_neD C.room.units)) ops_ne ha hb (nomark _)
theorem jt_in (C : CxF K X E k) (ha : JE K X M E .op a ta fa) (hb : JE K X M E .op b tb fb) (hm : behindInMarks .In b = false := by rfl) : JT K X M E (.Compare a [.In] [b] pos) (tTest (tOp (rInAll K) ta tb)) (fT (f2 (oIn false) fa fb)) := by
  have hK := C.hK
  subst hK
  exact jt_cmpR (OpR.or (OpR.or op_in_seq (op_inD (by have := C.room.un; omega))) op_in_sign) ops_in ha hb hm
theorem jt_ni (C : CxF K X E k) (ha : JE K X M E .op a ta fa) (hb : JE K X M E .op b tb fb) (hm : behindInMarks .NotIn b = false := by rfl) : JT K X M E (.Compare a [.NotIn] [b] pos) (tTest (tOp (rNiAll K) ta tb)) (fT (f2 (oIn true) fa fb)) := by
  have hK := C.hK
  subst hK
  exact jt_cmpR (OpR.or (OpR.or op_notIn_seq (op_notInD (by have := C.room.un; omega))) op_notIn_sign) ops_ni ha hb hm
def gAnd (f g : Ft) : Ft := fun γ => match f γ with
  | some (.ok true) => g γ
  | some (.ok false) => some (.ok false)
  | some (.er c) => some (.er c)
  | none => none
def gOr (f g : Ft) : Ft := fun γ => match f γ with
  | some (.ok false) => g γ
  | some (.ok true) => some (.ok true)
  | some (.er c) => some (.er c)
  | none => none
def gNot (f : Ft) : Ft := fun γ => match f γ with
  | some (.ok b) => some (.ok (!b))
  | some (.er c) => some (.er c)
  | none => none
theorem PostT.up {H G H1 G1 : Hp} {Q : Bool → Hp → Prop} {r : Rb} (s : Stp H G H1 G1) (p : PostT M E H G Q r) : PostT M E H1 G1 Q r := by
  cases r with
  | ok b => exact fun H' G' s' => p H' G' (s.trans s')
  | er c => exact fun H' G' s' => p H' G' (s.trans s')
theorem to_and {K : PySem.W.Frag} {t u : TT} {f g : Ft} (h1 : TO' K M E t f) (h2 : TO' K M E u g) : TO' K M E (tAnd t u) (gAnd f g) := by
  intro H0 G0 γ σ H G Q r ev hf p
  unfold gAnd at hf
  split at hf
  · rename_i e1
    refine h1 H0 G0 γ σ H G _ _ ev e1 fun H' G' s => ?_
    rw [if_pos rfl]
    exact h2 H0 G0 γ σ H' G' Q r (ev.stp s) hf (p.up s)
  · rename_i e1
    cases hf
    refine h1 H0 G0 γ σ H G _ _ ev e1 fun H' G' s => ?_
    rw [if_neg Bool.false_ne_true]
    exact p H' G' s
  · rename_i e1
    cases hf
    exact h1 H0 G0 γ σ H G _ _ ev e1 p
  · cases hf
theorem to_or {K : PySem.W.Frag} {t u : TT} {f g : Ft} (h1 : TO' K M E t f) (h2 : TO' K M E u g) : TO' K M E (tOr t u) (gOr f g) := by
  intro H0 G0 γ σ H G Q r ev hf p
  unfold gOr at hf
  split at hf
  · rename_i e1
    refine h1 H0 G0 γ σ H G _ _ ev e1 fun H' G' s => ?_
    rw [if_neg Bool.false_ne_true]
    exact h2 H0 G0 γ σ H' G' Q r (ev.stp s) hf (p.up s)
  · rename_i e1
    cases hf
    refine h1 H0 G0 γ σ H G _ _ ev e1 fun H' G' s => ?_
    rw [if_pos rfl]
    exact p H' G' s
  · rename_i e1
    cases hf
    exact h1 H0 G0 γ σ H G _ _ ev e1 p
  · cases hf
theorem jt_not {t : TT} {f : Ft} (h : JT K X M E a t f) : JT K X M E (.UnaryOp .Not a pos) (tNot t) (gNot f) := ⟨pt_not h.pt, fun H0 G0 γ σ H G Q r ev hf p => by
  unfold gNot at hf
  split at hf
  · rename_i b e1
    cases hf
    exact h.to H0 G0 γ σ H G _ _ ev e1 p
  · rename_i e1
    cases hf
    exact h.to H0 G0 γ σ H G _ _ ev e1 p
  · cases hf⟩
theorem JW.jt {t : TT} {f : Ft} (h : JW K X M E a t f) : JT K X M E a t f := ⟨h.pw.pt, h.to⟩
theorem jw_and1 {t : TT} {f : Ft} (h : JT K X M E a t f) : JW K X M E (.BoolOp .And [a] pos) t f := ⟨pw_and1 h.pt, h.to⟩
theorem jw_or1 {t : TT} {f : Ft} (h : JT K X M E a t f) : JW K X M E (.BoolOp .Or [a] pos) t f := ⟨pw_or1 h.pt, h.to⟩
theorem jw_and {t u : TT} {f g : Ft} {rest : List Expr} (h : JT K X M E a t f) (h2 : JW K X M E (.BoolOp .And (b :: rest) pos) u g) : JW K X M E (.BoolOp .And (a :: b :: rest) pos) (tAnd t u) (gAnd f g) := ⟨pw_and h.pt h2.pw, to_and h.to h2.to⟩
theorem jw_or {t u : TT} {f g : Ft} {rest : List Expr} (h : JT K X M E a t f) (h2 : JW K X M E (.BoolOp .Or (b :: rest) pos) u g) : JW K X M E (.BoolOp .Or (a :: b :: rest) pos) (tOr t u) (gOr f g) := ⟨pw_or h.pt h2.pw, to_or h.to h2.to⟩

/-! ### and, or, not, if as values -/
def fAnd (f g : Fe) : Fe := fun γ => match f γ with
  | some (.ok (.bool true)) => g γ
  | some (.ok (.bool false)) => some (.ok (.bool false))
  | some (.er c) => some (.er c)
  | _ => none
def fOr (f g : Fe) : Fe := fun γ => match f γ with
  | some (.ok (.bool false)) => g γ
  | some (.ok (.bool true)) => some (.ok (.bool true))
  | some (.er c) => some (.er c)
  | _ => none
def fNot (f : Fe) : Fe := fun γ => match f γ with
  | some (.ok (.bool b)) => some (.ok (.bool (!b)))
  | some (.er c) => some (.er c)
  | _ => none
def fIte (t : Ft) (f g : Fe) : Fe := fun γ => match t γ with
  | some (.ok true) => f γ
  | some (.ok false) => g γ
  | some (.er c) => some (.er c)
  | none => none
theorem PostE.up {K : PySem.W.Frag} {H G H1 G1 : Hp} {Q : VK} {r : Rs} (s : Stp H G H1 G1) (p : PostE K M E m H G Q r) : PostE K M E m H1 G1 Q r := by
  cases r with
  | ok b => exact fun v H' G' s' r' => p v H' G' (s.trans s') (r'.up s.ex)
  | er c => exact fun H' G' s' => p H' G' (s.trans s')
theorem je_one {op : PySem.BoolOp} (h : JE K X M E m a ta fa) : JE K X M E m (.BoolOp op [a] pos) ta fa := ⟨pe_one h.pe, h.eo⟩
theorem je_and {rest : List Expr} (ha : JE K X M E .cl a ta fa) (hb : JE K X M E .cl (.BoolOp .And (b :: rest) pos) tb fb) : JE K X M E .cl (.BoolOp .And (a :: b :: rest) pos) (tAndV ta tb) (fAnd fa fb) := by
  refine ⟨pe_and ha.pe hb.pe, fun H0 G0 γ σ H G Q r ev hf p => ?_⟩
  unfold fAnd at hf
  split at hf
  · rename_i e1
    refine ha.eo H0 G0 γ σ H G _ _ ev e1 fun v H' G' s r' => ⟨true, Res.bool (m := .cl) r', ?_⟩
    rw [if_pos rfl]
    exact hb.eo H0 G0 γ σ H' G' Q r (ev.stp s) hf (p.up s)
  · rename_i e1
    cases hf
    refine ha.eo H0 G0 γ σ H G _ _ ev e1 fun v H' G' s r' => ⟨false, Res.bool (m := .cl) r', ?_⟩
    rw [if_neg Bool.false_ne_true]
    exact p _ H' G' s (R.bl false)
  · rename_i e1
    cases hf
    exact ha.eo H0 G0 γ σ H G _ _ ev e1 p
  · cases hf
theorem je_or {rest : List Expr} (ha : JE K X M E .cl a ta fa) (hb : JE K X M E .cl (.BoolOp .Or (b :: rest) pos) tb fb) : JE K X M E .cl (.BoolOp .Or (a :: b :: rest) pos) (tOrV ta tb) (fOr fa fb) := by
  refine ⟨pe_or ha.pe hb.pe, fun H0 G0 γ σ H G Q r ev hf p => ?_⟩
  unfold fOr at hf
  split at hf
  · rename_i e1
    refine ha.eo H0 G0 γ σ H G _ _ ev e1 fun v H' G' s r' => ⟨false, Res.bool (m := .cl) r', ?_⟩
    rw [if_neg Bool.false_ne_true]
    exact hb.eo H0 G0 γ σ H' G' Q r (ev.stp s) hf (p.up s)
  · rename_i e1
    cases hf
    refine ha.eo H0 G0 γ σ H G _ _ ev e1 fun v H' G' s r' => ⟨true, Res.bool (m := .cl) r', ?_⟩
    rw [if_pos rfl]
    exact p _ H' G' s (R.bl true)
  · rename_i e1
    cases hf
    exact ha.eo H0 G0 γ σ H G _ _ ev e1 p
  · cases hf
theorem je_not (ha : JE K X M E .cl a ta fa) : JE K X M E .cl (.UnaryOp .Not a pos) (tNotV ta) (fNot fa) := by
  refine ⟨pe_not ha.pe, fun H0 G0 γ σ H G Q r ev hf p => ?_⟩
  unfold fNot at hf
  split at hf
  · rename_i b e1
    cases hf
    exact ha.eo H0 G0 γ σ H G _ _ ev e1 fun v H' G' s r' => ⟨b, Res.bool (m := .cl) r', p _ H' G' s (R.bl (!b))⟩
  · rename_i e1
    cases hf
    exact ha.eo H0 G0 γ σ H G _ _ ev e1 p
  · cases hf
theorem je_if {t : TT} {f : Ft} (ht : JT K X M E c t f) (ha : JE K X M E m a ta fa) (hb : JE K X M E m b tb fb) : JE K X M E m (.IfExp c a b pos) (tIf t ta tb) (fIte f fa fb) := by
  refine ⟨pe_ifExp ht.pt ha.pe hb.pe, fun H0 G0 γ σ H G Q r ev hf p => ?_⟩
  unfold fIte at hf
  split at hf
  · rename_i e1
    refine ht.to H0 G0 γ σ H G _ _ ev e1 fun H' G' s => ?_
    rw [if_pos rfl]
    exact ha.eo H0 G0 γ σ H' G' Q r (ev.stp s) hf (p.up s)
  · rename_i e1
    refine ht.to H0 G0 γ σ H G _ _ ev e1 fun H' G' s => ?_
    rw [if_neg Bool.false_ne_true]
    exact hb.eo H0 G0 γ σ H' G' Q r (ev.stp s) hf (p.up s)
  · rename_i e1
    cases hf
    exact ht.to H0 G0 γ σ H G _ _ ev e1 p
  · cases hf
/-- -i of a written number -/
def oNeg : D → Option D
  | .int i => some (.int (-i))
  | _ => none
theorem je_neg (ha : JE K X M E .op a ta fa) : JE K X M E .cl (.UnaryOp .USub a pos) (tUn (rU fun i => .int (-i)) ta) (f1 oNeg fa) := by
  refine ⟨pe_un un_neg ha.pe, fun H0 G0 γ σ H G Q r ev hf p => ?_⟩
  unfold f1 at hf
  cases e1 : fa γ with
  | none => rw [e1] at hf; cases hf
  | some q1 =>
    rw [e1] at hf
    cases q1 with
    | er c => cases hf; exact ha.eo H0 G0 γ σ H G _ _ ev e1 p
    | ok d =>
      refine ha.eo H0 G0 γ σ H G _ _ ev e1 fun v H' G' s r' => ?_
      cases d with
      | int i =>
        cases hf
        cases (show R K M G' v (.int i) from r')
        exact ⟨i, rfl, p _ H' G' s (R.int _)⟩
      | _ => cases hf

/-! ### what is walked -/
def ItR (K : PySem.W.Frag) (M : Pm) (J : It) (G1 : Hp) (ds : List D) : Prop := ∀ (H2 G2 : Hp), Same G1 G2 → Same G2 H2 → ∀ i : Nat,
  (i < ds.length → J.go i H2) ∧ (∀ (x : V) (H3 : Hp) (d : D), ds[i]? = some d → J.yld i H2 x H3 → ∃ G3, Stp H2 G2 H3 G3 ∧ R K M G3 x d) ∧ (ds.length ≤ i → J.stop i H2)
def PostR (K : PySem.W.Frag) (M : Pm) (E : XK) (H G : Hp) (Q : It → Hp → Prop) : Rl → Prop
  | .ok ds => ∀ J H' G', Stp H G H' G' → ItR K M J G' ds → Q J H'
  | .er c => ∀ H' G', Stp H G H' G' → E (M.exc c) none H'
def WO (K : PySem.W.Frag) (M : Pm) (E : XK) (t : TI) (f : Fa) : Prop := ∀ (H0 G0 : Hp) (γ : Ge) (σ : L2.St) (H G : Hp) (Q : It → Hp → Prop) (r : Rl), EnvR K M H0 G0 γ σ H G → f γ = some r → PostR K M E H G Q r → t σ H Q
structure JI (K : PySem.W.Frag) (X : Cx) (M : Pm) (E : XK) (tg e : Expr) (t : TI) (f : Fa) : Prop where
  pi : PI X tg e t
  wo : WO K M E t f
def wLst (a : Fe) : Fa := fun γ => match a γ with
  | some (.ok (.list ds)) => some (.ok ds)
  | some (.er c) => some (.er c)
  | _ => none
def wTup (a : Fe) : Fa := fun γ => match a γ with
  | some (.ok (.tuple ds)) => some (.ok ds)
  | some (.er c) => some (.er c)
  | _ => none
def wStr (a : Fe) : Fa := fun γ => match a γ with
  | some (.ok (.str z)) => some (.ok (z.cps.toList.map fun c => .str ⟨#[c]⟩))
  | some (.er c) => some (.er c)
  | _ => none
theorem get_lt {ds : List D} {i : Nat} {d : D} (h : ds[i]? = some d) : i < ds.length := (List.getElem?_eq_some_iff.mp h).1
theorem ji_list {tg : Expr} (C : CxF K X E k) (ha : JE K X M E .cl a ta fa) : JI K X M E tg a (iList K ta) (wLst fa) := by
  have hK := C.hK
  subst hK
  refine ⟨pi_list ha.pe, fun H0 G0 γ σ H G Q r ev hf p => ?_⟩
  unfold wLst at hf
  split at hf
  · rename_i ds e1
    cases hf
    refine ha.eo H0 G0 γ σ H G _ _ ev e1 fun v H1 G1 s1 r1 => ?_
    cases (show R X.K M G1 v (.list ds) from r1) with
    | lst h r =>
      rename_i l us
      refine ⟨l, rfl, ⟨us, s1.sub.seq h⟩, p _ H1 G1 s1 fun H2 G2 g1 g2 i => ⟨fun hi => ?_, fun x H3 d hd y => ?_, fun hi => ?_⟩⟩
      · have hu : i < us.length := by rw [r.len]; exact hi
        exact ⟨us, us[i], (g1.trans g2).seq h, List.getElem?_eq_getElem hu⟩
      · obtain ⟨e3, y⟩ := y
        subst e3
        obtain ⟨v, h1, h2⟩ := r.get hd
        have := y us ((g1.trans g2).seq h)
        rw [h1] at this
        cases this
        exact ⟨G2, Stp.refl g2, h2.mono g1⟩
      · exact ⟨us, (g1.trans g2).seq h, by rw [r.len]; exact hi⟩
  · rename_i e1
    cases hf
    exact ha.eo H0 G0 γ σ H G _ _ ev e1 p
  · cases hf
theorem ji_tup {tg : Expr} (C : CxF K X E k) (ha : JE K X M E .cl a ta fa) : JI K X M E tg a (iTup K ta) (wTup fa) := by
  have hK := C.hK
  subst hK
  refine ⟨pi_tup ha.pe, fun H0 G0 γ σ H G Q r ev hf p => ?_⟩
  unfold wTup at hf
  split at hf
  · rename_i ds e1
    cases hf
    refine ha.eo H0 G0 γ σ H G _ _ ev e1 fun v H1 G1 s1 r1 => ?_
    cases (show R X.K M G1 v (.tuple ds) from r1) with
    | tup h r =>
      rename_i l us
      refine ⟨l, rfl, ⟨us, same_T s1.sub h⟩, p _ H1 G1 s1 fun H2 G2 g1 g2 i => ⟨fun hi => ?_, fun x H3 d hd y => ?_, fun hi => ?_⟩⟩
      · have hu : i < us.length := by rw [r.len]; exact hi
        exact ⟨us, us[i], same_T (g1.trans g2) h, List.getElem?_eq_getElem hu⟩
      · obtain ⟨e3, y⟩ := y
        subst e3
        obtain ⟨v, h1, h2⟩ := r.get hd
        have := y us (same_T (g1.trans g2) h)
        rw [h1] at this
        cases this
        exact ⟨G2, Stp.refl g2, h2.mono g1⟩
      · exact ⟨us, same_T (g1.trans g2) h, by rw [r.len]; exact hi⟩
  · rename_i e1
    cases hf
    exact ha.eo H0 G0 γ σ H G _ _ ev e1 p
  · cases hf
theorem ji_str {tg : Expr} (ha : JE K X M E .cl a ta fa) : JI K X M E tg a (iStr ta) (wStr fa) := by
  refine ⟨pi_str ha.pe, fun H0 G0 γ σ H G Q r ev hf p => ?_⟩
  unfold wStr at hf
  split at hf
  · rename_i z e1
    cases hf
    refine ha.eo H0 G0 γ σ H G _ _ ev e1 fun v H1 G1 s1 r1 => ?_
    cases (show R K M G1 v (.str z) from r1)
    refine ⟨z, rfl, p _ H1 G1 s1 fun H2 G2 g1 g2 i => ⟨fun hi => ?_, fun x H3 d hd y => ?_, fun hi => ?_⟩⟩
    · simpa [Its] using hi
    · obtain ⟨e3, c, hc, e4⟩ := y
      subst e3; subst e4
      rw [List.getElem?_map, Array.getElem?_toList, hc] at hd
      cases hd
      exact ⟨G2, Stp.refl g2, .str _⟩
    · simpa [Its] using hi
  · rename_i e1
    cases hf
    exact ha.eo H0 G0 γ σ H G _ _ ev e1 p
  · cases hf
/-- range(n), range(a, b) -/
def rgD (lo hi : Int) : List D := (List.range (hi - lo).toNat).map fun i => .int (lo + (i : Nat))
def rgOk (lo hi : Int) : Bool := decide (-1000000 ≤ lo) && decide (lo ≤ 15000000) && decide (-1000000 ≤ hi) && decide (hi ≤ 15000000)
theorem rgD_len (lo hi : Int) : (rgD lo hi).length = (hi - lo).toNat := by unfold rgD; rw [List.length_map, List.length_range]
theorem rgD_get {lo hi : Int} {i : Nat} {d : D} (h : (rgD lo hi)[i]? = some d) : d = .int (lo + (i : Nat)) := by
  unfold rgD at h
  rw [List.getElem?_map] at h
  cases e : (List.range (hi - lo).toNat)[i]? with
  | none => rw [e] at h; cases h
  | some j =>
    rw [e] at h
    have hj : i < (List.range (hi - lo).toNat).length := (List.getElem?_eq_some_iff.mp e).1
    rw [List.getElem?_eq_getElem hj] at e
    rw [List.getElem_range] at e
    cases e
    exact (Option.some.inj h).symm
theorem itr_range {K : PySem.W.Frag} {G1 : Hp} (lo hi : Int) : ItR K M (Itr lo (hi - lo).toNat) G1 (rgD lo hi) := by
  intro H2 G2 g1 g2 i
  refine ⟨fun h => by rw [rgD_len] at h; exact h, fun x H3 d hd y => ?_, fun h => by rw [rgD_len] at h; exact h⟩
  obtain ⟨e1, e2⟩ := y
  subst e1; subst e2
  rw [rgD_get hd]
  exact ⟨G2, Stp.refl g2, .int _⟩
def wRg1 (a : Fa) : Fa := fun γ => match a γ with
  | some (.ok [.int j]) => if rgOk 0 j = true then some (.ok (rgD 0 j)) else none
  | some (.er c) => some (.er c)
  | _ => none
def wRg2 (a : Fa) : Fa := fun γ => match a γ with
  | some (.ok [.int i, .int j]) => if rgOk i j = true then some (.ok (rgD i j)) else none
  | some (.er c) => some (.er c)
  | _ => none
theorem rgOk_of {lo hi : Int} (h : rgOk lo hi = true) : -(2 ^ 62) ≤ lo ∧ lo < 2 ^ 62 ∧ -(2 ^ 62) ≤ hi ∧ hi < 2 ^ 62 := by
  unfold rgOk at h
  simp only [Bool.and_eq_true, decide_eq_true_eq] at h
  omega
theorem ji_rg1 {tg : Expr} {p : Pos} (hm : X.mg "range" = none) (hg : Gl X "range") (ha : JE K X M E .op a ta fa) (hs : starEach [a] X.env = [(false, eval a X.env)] := by rfl) (hs2 : starEach [a] X.env = (false, eval a X.env) :: starEach [] X.env := by rfl) :
    JI K X M E tg (.Call (.Name "range" p) [a] [] pos) (iRng1 (tCons ta tNil)) (wRg1 (fCons fa fNil)) := by
  have A := ja_cons ha (ja_nil (K := K) (X := X) (M := M) (E := E)) hs2
  refine ⟨pi_range1 hg hm A.pa hs, fun H0 G0 γ σ H G Q r ev hf p => ?_⟩
  unfold wRg1 at hf
  split at hf
  · rename_i j e1
    split at hf
    · rename_i hr
      cases hf
      refine A.ao H0 G0 γ σ H G _ _ ev e1 fun vs H1 G1 s1 r1 => ?_
      cases r1 with
      | cons r t =>
        cases t
        cases (show R K M G1 _ (.int j) from r)
        obtain ⟨_, _, h3, h4⟩ := rgOk_of hr
        refine ⟨j, rfl, h3, h4, p _ H1 G1 s1 ?_⟩
        have := itr_range (K := K) (M := M) (G1 := G1) 0 j
        rw [Int.sub_zero] at this
        exact this
    · cases hf
  · rename_i e1
    cases hf
    exact A.ao H0 G0 γ σ H G _ _ ev e1 p
  · cases hf
theorem ji_rg2 {tg : Expr} {p : Pos} (hm : X.mg "range" = none) (hg : Gl X "range") (ha : JE K X M E .op a ta fa) (hb : JE K X M E .op b tb fb) (hs : starEach [a, b] X.env = [(false, eval a X.env), (false, eval b X.env)] := by rfl) (hs2 : starEach [b] X.env = [(false, eval b X.env)] := by rfl)
    (hs3 : starEach [a, b] X.env = (false, eval a X.env) :: starEach [b] X.env := by rfl) (hs4 : starEach [b] X.env = (false, eval b X.env) :: starEach [] X.env := by rfl) :
    JI K X M E tg (.Call (.Name "range" p) [a, b] [] pos) (iRng2 (tCons ta (tCons tb tNil))) (wRg2 (fCons fa (fCons fb fNil))) := by
  have A := ja_cons ha (ja_cons hb (ja_nil (K := K) (X := X) (M := M) (E := E)) hs4) hs3
  refine ⟨pi_range2 hg hm A.pa hs hs2, fun H0 G0 γ σ H G Q r ev hf p => ?_⟩
  unfold wRg2 at hf
  split at hf
  · rename_i i j e1
    split at hf
    · rename_i hr
      cases hf
      refine A.ao H0 G0 γ σ H G _ _ ev e1 fun vs H1 G1 s1 r1 => ?_
      cases r1 with
      | cons r t =>
        cases t with
        | cons r' t =>
          cases t
          cases (show R K M G1 _ (.int i) from r)
          cases (show R K M G1 _ (.int j) from r')
          exact ⟨i, j, rfl, rgOk_of hr, p _ H1 G1 s1 (itr_range i j)⟩
    · cases hf
  · rename_i e1
    cases hf
    exact A.ao H0 G0 γ σ H G _ _ ev e1 p
  · cases hf
/-- zip(xs, ys) -/
def wZip (a : Fa) : Fa := fun γ => match a γ with
  | some (.ok [.list xs, .list ys]) => some (.ok ((xs.zip ys).map fun p => .tuple [p.1, p.2]))
  | some (.er c) => some (.er c)
  | _ => none
theorem zip_get {xs ys : List D} {i : Nat} {d : D} (h : ((xs.zip ys).map fun p => PyData.tuple [p.1, p.2])[i]? = some d) : ∃ x y, xs[i]? = some x ∧ ys[i]? = some y ∧ d = .tuple [x, y] := by
  rw [List.getElem?_map] at h
  cases e : (xs.zip ys)[i]? with
  | none => rw [e] at h; cases h
  | some q =>
    rw [e] at h
    obtain ⟨x, y⟩ := q
    rw [List.getElem?_zip_eq_some] at e
    exact ⟨x, y, e.1, e.2, (Option.some.inj h).symm⟩
end
end Py


/-! PyE: zip, enumerate, targets, comprehensions -/
namespace Py
open PySem PySem.Spec PyProof.Rows L2

section
variable {K : PySem.W.Frag} {X : Cx} {M : Pm} {E : XK} {k : Nat} {m : Md} {a b e c : Expr} {ta tb te tc : TE} {fa fb fe fc : Fe} {pos : Pos}
theorem ji_zip {es : List Expr} {kk : Nat} {tpos p : Pos} (C : CxF K X E k) (hm : X.mg "zip" = none) (hg : Gl X "zip") (ha : JE K X M E .cl a ta fa) (hb : JE K X M E .cl b tb fb)
    (hs3 : starEach [a, b] X.env = (false, eval a X.env) :: starEach [b] X.env := by rfl) (hs4 : starEach [b] X.env = (false, eval b X.env) :: starEach [] X.env := by rfl) (hpl : (backTo pos (starEach [b] X.env)).any (·.1) = false := by rfl) :
    JI K X M E (.Tuple es kk tpos) (.Call (.Name "zip" p) [a, b] [] pos) (iZip K (tCons ta (tCons tb tNil))) (wZip (fCons fa (fCons fb fNil))) := by
  have hK := C.hK
  subst hK
  have A := jc_cons ha (jc_cons hb (jc_nil (K := X.K) (X := X) (M := M) (E := E)) hs4) hs3
  refine ⟨pi_zip hg hm A.pa hs3 hpl, fun H0 G0 γ σ H G Q r ev hf p => ?_⟩
  unfold wZip at hf
  split at hf
  · rename_i xs ys e1
    cases hf
    refine A.ac H0 G0 γ σ H G _ _ ev e1 fun vs H1 G1 s1 r1 => ?_
    cases r1 with
    | cons r t =>
      cases t with
      | cons r' t =>
        cases t
        cases (show R X.K M G1 _ (.list xs) from r) with
        | lst h rx =>
          rename_i l us
          cases (show R X.K M G1 _ (.list ys) from r') with
          | lst h' ry =>
            rename_i l' us'
            refine ⟨l, l', us, us', rfl, s1.sub.seq h, s1.sub.seq h', p _ H1 G1 s1 fun H2 G2 g1 g2 i => ⟨fun hi => ?_, fun x H3 d hd y => ?_, fun hi => ?_⟩⟩
            · rw [List.length_map, List.length_zip] at hi
              have hu : i < us.length := by rw [rx.len]; omega
              have hu' : i < us'.length := by rw [ry.len]; omega
              exact ⟨us, us', us[i], us'[i], (g1.trans g2).seq h, (g1.trans g2).seq h', List.getElem?_eq_getElem hu, List.getElem?_eq_getElem hu'⟩
            · obtain ⟨T, x1, y1, e2, nT, e3, f1, f2⟩ := y
              subst e2; subst e3
              obtain ⟨dx, dy, h1, h2, e4⟩ := zip_get hd
              subst e4
              obtain ⟨v, q1, q2⟩ := rx.get h1
              obtain ⟨v', q1', q2'⟩ := ry.get h2
              have z1 := f1 us ((g1.trans g2).seq h)
              have z2 := f2 us' ((g1.trans g2).seq h')
              obtain rfl : v = x1 := Option.some.inj (q1.symm.trans z1)
              obtain rfl : v' = y1 := Option.some.inj (q1'.symm.trans z2)
              have s := Stp.new (o := .tup [v, v']) g2 nT
              exact ⟨_, s, R.tup (.of upd_same) (.cons (R.mono s.eg (q2.mono g1)) (.cons (R.mono s.eg (q2'.mono g1)) .nil))⟩
            · rw [List.length_map, List.length_zip] at hi
              refine ⟨us, us', (g1.trans g2).seq h, (g1.trans g2).seq h', ?_⟩
              rw [rx.len, ry.len]
              omega
  · rename_i e1
    cases hf
    exact A.ac H0 G0 γ σ H G _ _ ev e1 p
  · cases hf
def enD (ds : List D) : List D := (List.range ds.length).map fun i => .tuple [.int (i : Nat), ds.getD i .none]
def wEnum (a : Fa) : Fa := fun γ => match a γ with
  | some (.ok [.list xs]) => some (.ok (enD xs))
  | some (.er c) => some (.er c)
  | _ => none
theorem enD_get {ds : List D} {i : Nat} {d : D} (h : (enD ds)[i]? = some d) : ∃ x, ds[i]? = some x ∧ d = .tuple [.int (i : Nat), x] := by
  unfold enD at h
  rw [List.getElem?_map] at h
  cases e : (List.range ds.length)[i]? with
  | none => rw [e] at h; cases h
  | some j =>
    rw [e] at h
    have hj : i < (List.range ds.length).length := (List.getElem?_eq_some_iff.mp e).1
    rw [List.getElem?_eq_getElem hj, List.getElem_range] at e
    cases e
    rw [List.length_range] at hj
    refine ⟨ds[i], List.getElem?_eq_getElem hj, ?_⟩
    have h := (Option.some.inj h).symm
    rw [h]
    simp [List.getD, hj]
theorem ji_enum {es : List Expr} {kk : Nat} {tpos p : Pos} (C : CxF K X E k) (hm : X.mg "enumerate" = none) (hg : Gl X "enumerate") (ha : JE K X M E .cl a ta fa)
    (hs : starEach [a] X.env = [(false, eval a X.env)] := by rfl) (hs4 : starEach [a] X.env = (false, eval a X.env) :: starEach [] X.env := by rfl) :
    JI K X M E (.Tuple es kk tpos) (.Call (.Name "enumerate" p) [a] [] pos) (iEnum K (tCons ta tNil)) (wEnum (fCons fa fNil)) := by
  have hK := C.hK
  subst hK
  have A := jc_cons ha (jc_nil (K := X.K) (X := X) (M := M) (E := E)) hs4
  refine ⟨pi_enum hg hm A.pa hs, fun H0 G0 γ σ H G Q r ev hf p => ?_⟩
  unfold wEnum at hf
  split at hf
  · rename_i xs e1
    cases hf
    refine A.ac H0 G0 γ σ H G _ _ ev e1 fun vs H1 G1 s1 r1 => ?_
    cases r1 with
    | cons r t =>
      cases t
      cases (show R X.K M G1 _ (.list xs) from r) with
      | lst h rx =>
        rename_i l us
        have hlen : (enD xs).length = xs.length := by unfold enD; rw [List.length_map, List.length_range]
        refine ⟨l, us, rfl, s1.sub.seq h, p _ H1 G1 s1 fun H2 G2 g1 g2 i => ⟨fun hi => ?_, fun x H3 d hd y => ?_, fun hi => ?_⟩⟩
        · rw [hlen] at hi
          have hu : i < us.length := by rw [rx.len]; omega
          exact ⟨us, us[i], (g1.trans g2).seq h, List.getElem?_eq_getElem hu⟩
        · obtain ⟨T, x1, e2, nT, e3, f1⟩ := y
          subst e2; subst e3
          obtain ⟨dx, h1, e4⟩ := enD_get hd
          subst e4
          obtain ⟨v, q1, q2⟩ := rx.get h1
          have z1 := f1 us ((g1.trans g2).seq h)
          obtain rfl : v = x1 := Option.some.inj (q1.symm.trans z1)
          have s := Stp.new (o := .tup [.int (i : Nat), v]) g2 nT
          exact ⟨_, s, R.tup (.of upd_same) (.cons (R.int _) (.cons (R.mono s.eg (q2.mono g1)) .nil))⟩
        · rw [hlen] at hi
          exact ⟨us, (g1.trans g2).seq h, by rw [rx.len]; exact hi⟩
  · rename_i e1
    cases hf
    exact A.ac H0 G0 γ σ H G _ _ ev e1 p
  · cases hf

/-! ### targets -/
def Sets (js : List Nat) (σ σ' : L2.St) : Prop := ∀ vs : List Nat, (∀ j ∈ js, j ∈ vs) → wipe σ' vs = wipe σ vs
def GO (K : PySem.W.Frag) (M : Pm) (js : List Nat) (g : TG) (gf : D → Ge → Option Ge) : Prop := ∀ (H0 G0 : Hp) (γ γ' : Ge) (σ : L2.St) (H G : Hp) (v : V) (d : D) (Q : L2.St → Hp → Prop), EnvR K M H0 G0 γ σ H G → R K M G v d → gf d γ = some γ' →
  (∀ σ', EnvR K M H0 G0 γ' σ' H G → Sets js σ σ' → Q σ' H) → g v σ H Q
structure JG (K : PySem.W.Frag) (X : Cx) (M : Pm) (tg : Expr) (js : List Nat) (g : TG) (gf : D → Ge → Option Ge) : Prop where
  pg : PG X tg g
  go : GO K M js g gf
def gfN (i : Nat) : D → Ge → Option Ge := fun d γ => some (γ.set i (.va d))
theorem wipe_set {σ : L2.St} {j : Nat} {x : Option V} : ∀ {vs : List Nat}, j ∈ vs → wipe (σ.set j x) vs = wipe σ vs
  | [], h => by cases h
  | v :: vs, h => by
    unfold wipe
    by_cases e : v = j
    · subst e
      by_cases hm : v ∈ vs
      · rw [wipe_set hm]
      · have key : ∀ (vs : List Nat), v ∉ vs → ((wipe (σ.set v x) vs).set v none) = ((wipe σ vs).set v none) := by
          intro vs
          induction vs with
          | nil => intro _; show (σ.set v x).set v none = σ.set v none; rw [List.set_set]
          | cons w ws ih =>
            intro hn
            have h1 : v ≠ w := fun z => hn (z ▸ List.mem_cons_self)
            have h2 : v ∉ ws := fun z => hn (List.mem_cons_of_mem _ z)
            show ((wipe (σ.set v x) ws).set w none).set v none = ((wipe σ ws).set w none).set v none
            rw [List.set_comm _ _ (Ne.symm h1), ih h2, List.set_comm _ _ h1]
        exact key vs hm
    · rcases List.mem_cons.mp h with z | z
      · exact absurd z.symm e
      · rw [wipe_set z]
theorem wipe_wipe (σ : L2.St) : ∀ vs : List Nat, wipe (wipe σ vs) vs = wipe σ vs := by
  have key : ∀ (ws vs : List Nat), (∀ w ∈ ws, w ∈ vs) → wipe (wipe σ ws) vs = wipe σ vs := by
    intro ws
    induction ws with
    | nil => intro vs _; rfl
    | cons w ws ih =>
      intro vs h
      show wipe ((wipe σ ws).set w none) vs = wipe σ vs
      rw [wipe_set (h w List.mem_cons_self), ih vs fun z hz => h z (List.mem_cons_of_mem _ hz)]
  intro vs
  exact key vs vs fun _ h => h
theorem jg_name {i : Nat} {x : Str} (hN : X.N.Nodup) (hi : X.N[i]? = some x := by rfl) (hx : Loc X.env.scope x := by first | exact Or.inl rfl | exact Or.inr rfl) (hf : X.fn x = true ∨ X.env.scope.names.lookup x = some .local := by first | exact .inl rfl | exact .inr rfl) : JG K X M (.Name x pos) [i] (gName i) (gfN i) :=
  ⟨pg_name hN hi hx hf, fun H0 G0 γ γ' σ H G v d Q ev r hg q => by
    cases hg
    exact q _ (ev.setv r) fun vs h => wipe_set (h i (by simp))⟩
def GsO (K : PySem.W.Frag) (M : Pm) (js : List Nat) (g : TGs) (gf : List D → Ge → Option Ge) : Prop := ∀ (H0 G0 : Hp) (γ γ' : Ge) (σ : L2.St) (H G : Hp) (vs : List V) (ds : List D) (Q : L2.St → Hp → Prop), EnvR K M H0 G0 γ σ H G → RA K M G vs ds → gf ds γ = some γ' →
  (∀ σ', EnvR K M H0 G0 γ' σ' H G → Sets js σ σ' → Q σ' H) → g vs σ H Q
structure JGs (K : PySem.W.Frag) (X : Cx) (M : Pm) (tgs : List Expr) (js : List Nat) (g : TGs) (gf : List D → Ge → Option Ge) : Prop where
  pg : PGs X tgs g
  go : GsO K M js g gf
def gsNil : List D → Ge → Option Ge
  | [], γ => some γ
  | _ :: _, _ => none
def gsCons (g : D → Ge → Option Ge) (h : List D → Ge → Option Ge) : List D → Ge → Option Ge
  | [], _ => none
  | d :: ds, γ => match g d γ with
    | some γ1 => h ds γ1
    | none => none
def gfTup (g : List D → Ge → Option Ge) : D → Ge → Option Ge
  | .tuple ds, γ => g ds γ
  | _, _ => none
theorem jgs_nil : JGs K X M [] [] gNil gsNil := ⟨pgs_nil, fun H0 G0 γ γ' σ H G vs ds Q ev r hg q => by
  cases r with
  | nil => cases hg; exact ⟨rfl, q σ ev fun _ _ => rfl⟩
  | cons _ _ => cases hg⟩
theorem jgs_cons {tg : Expr} {tgs : List Expr} {js js' : List Nat} {g : TG} {gs : TGs} {gf : D → Ge → Option Ge} {gfs : List D → Ge → Option Ge} (h1 : JG K X M tg js g gf) (h2 : JGs K X M tgs js' gs gfs)
    (hs : (assignEach (tg :: tgs) X.env).map (·.2) = assign tg X.env :: (assignEach tgs X.env).map (·.2) := by rfl) : JGs K X M (tg :: tgs) (js ++ js') (gCons g gs) (gsCons gf gfs) := ⟨pgs_cons h1.pg h2.pg hs, fun H0 G0 γ γ' σ H G vs ds Q ev r hg q => by
  cases r with
  | nil => cases hg
  | cons r t =>
    unfold gsCons at hg
    simp only at hg
    split at hg
    · rename_i γ1 e1
      refine ⟨_, _, rfl, h1.go H0 G0 γ γ1 σ H G _ _ _ ev r e1 fun σ1 ev1 s1 => ?_⟩
      exact h2.go H0 G0 γ1 γ' σ1 H G _ _ _ ev1 t hg fun σ2 ev2 s2 => q σ2 ev2 fun ws h => by
        rw [s2 ws fun j hj => h j (List.mem_append_right _ hj), s1 ws fun j hj => h j (List.mem_append_left _ hj)]
    · cases hg⟩
theorem jg_tup {es : List Expr} {kk : Nat} {js : List Nat} {g : TGs} {gf : List D → Ge → Option Ge} {n : Nat} (C : CxF K X E k) (h : JGs K X M es js g gf)
    (hl : ∀ ds γ γ', gf ds γ = some γ' → ds.length = n) (hn : (assignEach es X.env).length = n := by rfl) (hst : (assignEach es X.env).findIdx? (·.1) = none := by rfl) : JG K X M (.Tuple es kk pos) js (gTup K n g) (gfTup gf) := by
  have hK := C.hK
  subst hK
  exact ⟨pg_tup C.calm h.pg hn hst, fun H0 G0 γ γ' σ H G v d Q ev r hg q => by
  unfold gfTup at hg
  split at hg
  · rename_i ds
    cases r with
    | tup hs rs =>
      exact ⟨_, _, rfl, same_T ev.sub hs, by rw [rs.len]; exact hl _ _ _ hg, h.go H0 G0 γ γ' σ H G _ _ Q ev rs hg q⟩
  · cases hg⟩
theorem gs2_len {g h : D → Ge → Option Ge} (ds : List D) (γ γ' : Ge) (e : gsCons g (gsCons h gsNil) ds γ = some γ') : ds.length = 2 := by
  cases ds with
  | nil => cases e
  | cons d ds =>
    simp only [gsCons] at e
    cases h1 : g d γ with
    | none => rw [h1] at e; cases e
    | some γ1 =>
      rw [h1] at e
      cases ds with
      | nil => cases e
      | cons d2 ds =>
        simp only at e
        cases h2 : h d2 γ1 with
        | none => rw [h2] at e; cases e
        | some γ2 =>
          rw [h2] at e
          cases ds with
          | nil => rfl
          | cons _ _ => cases e
/-- (a, b) = two names -/
theorem jg_two {i j : Nat} {x y : Str} {kk : Nat} {px py : Pos} (C : CxF K X E k) (h1 : JG K X M (.Name x px) [i] (gName i) (gfN i)) (h2 : JG K X M (.Name y py) [j] (gName j) (gfN j))
    (hs1 : (assignEach [.Name x px, .Name y py] X.env).map (·.2) = assign (.Name x px) X.env :: (assignEach [.Name y py] X.env).map (·.2) := by rfl) (hs2 : (assignEach [.Name y py] X.env).map (·.2) = assign (.Name y py) X.env :: (assignEach [] X.env).map (·.2) := by rfl)
    (hn : (assignEach [.Name x px, .Name y py] X.env).length = 2 := by rfl) (hst : (assignEach [.Name x px, .Name y py] X.env).findIdx? (·.1) = none := by rfl) :
    JG K X M (.Tuple [.Name x px, .Name y py] kk pos) [i, j] (gTup K 2 (gCons (gName i) (gCons (gName j) gNil))) (gfTup (gsCons (gfN i) (gsCons (gfN j) gsNil))) := by
  have hK := C.hK
  subst hK
  exact jg_tup C (jgs_cons h1 (jgs_cons h2 jgs_nil hs2) hs1) (fun ds γ γ' h => gs2_len ds γ γ' h) hn hst
/-! ### comprehensions -/
theorem CxF.blk (C : CxF K X E k) (s : Shared) (H : Hp) (scope : Scope) (cenv : Env) (fp : List Addr) : CxF K (X.blk s H scope cenv fp) E0 k := ⟨C.hK, C.calm, C.nd, passL, PassesOwn.never, C.room⟩
structure JTs (K : PySem.W.Frag) (X : Cx) (M : Pm) (E : XK) (es : List Expr) (t : TT) (f : Ft) : Prop where
  pts : PTs X es t
  to : TO' K M E t f
def gYes : Ft := fun _ => some (.ok true)
theorem jts_nil : JTs K X M E [] tYes gYes := ⟨pts_nil, fun H0 G0 γ σ H G Q r ev hf p => by cases hf; exact p H G (Stp.refl ev.sub)⟩
theorem jts_one {t : TT} {f : Ft} (h : JT K X M E c t f) : JTs K X M E [c] t f := ⟨pts_one h.pt, h.to⟩
def wipeG (γ : Ge) : List Nat → Ge
  | [] => γ
  | v :: vs => (wipeG γ vs).set v .no
theorem EnvR.setn {K : PySem.W.Frag} {H0 G0 H G : Hp} {γ : Ge} {σ : L2.St} {i : Nat} (e : EnvR K M H0 G0 γ σ H G) : EnvR K M H0 G0 (γ.set i .no) (σ.set i none) H G := by
  have key : ∀ (j : Nat) (s : Sl) (x : Option V), (γ.set i .no)[j]? = some s → (σ.set i none)[j]? = some x → (s = .no) ∨ (γ[j]? = some s ∧ σ[j]? = some x) := by
    intro j s x h1 h2
    by_cases hj : i = j
    · subst hj
      rw [List.getElem?_set] at h1
      simp only [if_true] at h1
      split at h1
      · exact .inl (Option.some.inj h1).symm
      · cases h1
    · rw [List.getElem?_set_ne hj] at h1 h2
      exact .inr ⟨h1, h2⟩
  refine ⟨e.st, by rw [List.length_set, List.length_set]; exact e.len, fun j s x h1 h2 => ?_, fun j k sj sk xj xk o h1 h2 h3 h4 h5 h6 => ?_, e.kp⟩
  · rcases key j s x h1 h2 with e1 | ⟨q1, q2⟩
    · subst e1; trivial
    · exact e.sl j s x q1 q2
  · rcases key j sj xj h1 h3 with e1 | ⟨q1, q2⟩
    · subst e1; exact h5.elim
    · rcases key k sk xk h2 h4 with e1 | ⟨q3, q4⟩
      · subst e1; exact h6.elim
      · exact e.ap j k sj sk xj xk o q1 q3 q2 q4 h5 h6
theorem EnvR.wipe {K : PySem.W.Frag} {H0 G0 H G : Hp} {γ : Ge} {σ : L2.St} (e : EnvR K M H0 G0 γ σ H G) : ∀ vs : List Nat, EnvR K M H0 G0 (wipeG γ vs) (L2.wipe σ vs) H G
  | [] => e
  | _ :: vs => (EnvR.wipe e vs).setn
def lcF (gf : D → Ge → Option Ge) (cf : Ft) (ef : Fe) (γ : Ge) : List D → Option (List D)
  | [] => some []
  | d :: ds => match gf d γ with
    | none => none
    | some γ1 => match cf γ1 with
      | some (.ok true) => (match ef γ1 with
        | some (.ok x) => (match lcF gf cf ef γ ds with
          | some xs => some (x :: xs)
          | none => none)
        | _ => none)
      | some (.ok false) => lcF gf cf ef γ ds
      | _ => none
def fLc (w : Fa) (gf : D → Ge → Option Ge) (cf : Ft) (ef : Fe) (vs : List Nat) : Fe := fun γ => match w γ with
  | some (.ok ds) => if ds.length ≤ big then (match lcF gf cf ef (wipeG γ vs) ds with
    | some xs => some (.ok (.list xs))
    | none => none) else none
  | some (.er c) => some (.er c)
  | none => none
theorem eo_lc {K : PySem.W.Frag} {wi : TI} {g : TG} {tt : TT} {te : TE} {vs js : List Nat} {w : Fa} {gf : D → Ge → Option Ge} {cf : Ft} {ef : Fe} (hw : WO K M E wi w) (hg : GO K M js g gf) (hj : ∀ j ∈ js, j ∈ vs) (hc : TO' K M E0 tt cf) (he : EO K M E0 .cl te ef) :
    EO K M E .fr (tLc wi g tt te vs) (fLc w gf cf ef vs) := by
  intro H0 G0 γ σ H G Q r ev hf p
  unfold fLc at hf
  split at hf
  · rename_i ds e1
    split at hf
    · rename_i hz
      split at hf
      · rename_i es e2
        cases hf
        refine hw H0 G0 γ σ H G _ _ ev e1 fun J H1 G1 s1 itr Dl hD => ?_
        have ev1 := ev.stp s1
        have nG1 : G1 Dl = none := s1.sub.free hD
        refine ⟨fun i mm H' => mm = ds.length - i ∧ i ≤ ds.length ∧ ∃ G' acc accD rest, Stp H1 G1 H' G' ∧ G' Dl = none ∧ H' Dl = some (.lst acc) ∧ RA K M G' acc accD ∧ lcF gf cf ef (wipeG γ vs) (ds.drop i) = some rest ∧ accD ++ rest = es ∧ acc.length ≤ i,
          ⟨ds.length, by simp, Nat.zero_le _, G1, [], [], es, Stp.newO s1.sub hD, nG1, upd_same, .nil, e2, rfl, Nat.le_refl _⟩, ?_⟩
        rintro i mm H2 ⟨rfl, hi, G2, acc, accD, rest, st, gD, hDl, ra, el, ee, al⟩
        have ev2 := (ev1.stp st).wipe vs
        obtain ⟨go, yl, sp⟩ := itr H2 G2 st.eg st.sub i
        by_cases hlt : i < ds.length
        · refine .inr ⟨go hlt, fun H' => ∃ m', m' < ds.length - i ∧ m' = ds.length - (i + 1) ∧ i + 1 ≤ ds.length ∧ ∃ G' acc accD rest, Stp H1 G1 H' G' ∧ G' Dl = none ∧ H' Dl = some (.lst acc) ∧ RA K M G' acc accD ∧ lcF gf cf ef (wipeG γ vs) (ds.drop (i + 1)) = some rest ∧ accD ++ rest = es ∧ acc.length ≤ i + 1,
            fun H' ⟨m', h1, h2⟩ => ⟨m', h1, h2⟩, fun x H3 hy => ?_⟩
          have hd : ds[i]? = some ds[i] := List.getElem?_eq_getElem hlt
          obtain ⟨G3, s3, rx⟩ := yl x H3 _ hd hy
          rw [List.drop_eq_getElem_cons hlt] at el
          unfold lcF at el
          split at el
          · cases el
          · rename_i γ1 eg
            refine hg H0 G0 (wipeG γ vs) γ1 (L2.wipe σ vs) H3 G3 x ds[i] _ (ev2.stp s3) rx eg fun σ2 ev3 sets => ⟨?_, ?_⟩
            · rw [sets vs hj, wipe_wipe]
            · split at el
              · rename_i ec
                split at el
                · rename_i y ey
                  split at el
                  · rename_i ys eys
                    cases el
                    refine hc H0 G0 γ1 σ2 H3 G3 _ _ ev3 ec fun H4 G4 s4 => ?_
                    rw [if_pos rfl]
                    refine he H0 G0 γ1 σ2 H4 G4 _ _ (ev3.stp s4) ey fun yv H5 G5 s5 ry => ?_
                    have s25 := (s3.trans s4).trans s5
                    have ry' : R K M G5 yv y := ry
                    have g5 : G5 Dl = none := s25.nw _ _ hDl gD
                    have h5 : H5 Dl = some (.lst acc) := s25.ex _ _ hDl
                    refine ⟨acc, h5, big_line' (by omega), ds.length - (i + 1), by omega, rfl, hlt, G5, acc ++ [yv], accD ++ [y], ys, ?_, g5, upd_same, (ra.mono s25.eg).app (.one ry'), eys, by rw [List.append_assoc]; exact ee, by rw [List.length_append]; simp; omega⟩
                    have sA := st.trans s25
                    exact ⟨fun b u q => by rw [upd_ne (ne_of_none q hD)]; exact sA.ex b u q, sA.eg, fun b u q => by rw [upd_ne (ne_of_none q g5)]; exact sA.sub b u q, sA.nw⟩
                  · cases el
                · cases el
              · rename_i ec
                refine hc H0 G0 γ1 σ2 H3 G3 _ _ ev3 ec fun H4 G4 s4 => ?_
                rw [if_neg Bool.false_ne_true]
                have s24 := s3.trans s4
                exact ⟨ds.length - (i + 1), by omega, rfl, hlt, G4, acc, accD, rest, st.trans s24, s24.nw _ _ hDl gD, s24.ex _ _ hDl, ra.mono s24.eg, el, ee, by omega⟩
              · cases el
        · have ei : i = ds.length := by omega
          subst ei
          rw [List.drop_length] at el
          cases el
          rw [List.append_nil] at ee
          subst ee
          refine .inl ⟨sp (Nat.le_refl _), p _ H2 G2 (s1.trans st) ⟨Dl, acc, rfl, s1.ex.free hD, gD, hDl, ra⟩⟩
      · cases hf
    · cases hf
  · rename_i e1
    cases hf
    exact hw H0 G0 γ σ H G _ _ ev e1 p
  · cases hf
theorem je_lc {elt tg iter : Expr} {ifs : List Expr} {scope : Scope} {own : List (Str × Nat)} {js : List Nat} {wi : TI} {g : TG} {tt : TT} {te : TE} {w : Fa} {gf : D → Ge → Option Ge} {cf : Ft} {ef : Fe} (C : CxF K X E k) (hi : JI K X M E tg iter wi w) (ok : BlkOk X.N X.env.scope scope own)
    (hg : ∀ (s : Shared) (H : Hp) (Cc : Addr) (cl : List (Str × Addr)) (fp : List Addr), JG K (X.blk s H scope (compEnvC scope cl Cc X.env) fp) M tg js g gf) (ht : ∀ (s : Shared) (H : Hp) (Cc : Addr) (cl : List (Str × Addr)) (fp : List Addr), JTs K (X.blk s H scope (compEnvC scope cl Cc X.env) fp) M E0 ifs tt cf)
    (he : ∀ (s : Shared) (H : Hp) (Cc : Addr) (cl : List (Str × Addr)) (fp : List Addr), JE K (X.blk s H scope (compEnvC scope cl Cc X.env) fp) M E0 .cl elt te ef) (hj : ∀ j ∈ js, j ∈ own.map (·.2) := by decide) (hs : ∀ x, foldedSetIterable iter X.env x = pure x := by intro _; rfl) :
    JE K X M E .fr (.ListComp elt [⟨tg, iter, ifs, 0⟩] scope pos) (tLc wi g tt te (own.map (·.2))) (fLc w gf cf ef (own.map (·.2))) :=
  ⟨pe_lc C.calm C.nd hi.pi ok (fun s H Cc cl fp => (hg s H Cc cl fp).pg) (fun s H Cc cl fp => (ht s H Cc cl fp).pts) (fun s H Cc cl fp => (he s H Cc cl fp).pe) hs,
    eo_lc hi.wo (hg ({} : Shared) (fun _ => none) 0 [] []).go hj (ht ({} : Shared) (fun _ => none) 0 [] []).to (he ({} : Shared) (fun _ => none) 0 [] []).eo⟩
end
end Py


/-! PyF: statements, the rule of a def -/
namespace Py
open PySem PySem.Spec PyProof.Rows L2

inductive Out | nx (γ : Ge) | rt (d : D) | er (c : Str) | bk (γ : Ge) | ct (γ : Ge)
abbrev Fs := Ge → Option Out
section
variable (K : PySem.W.Frag) (M : Pm) (E : XK)
def PostS (H0 G0 : Hp) (De : Ends) : Out → Prop
  | .nx γ => ∀ σ H G, EnvR K M H0 G0 γ σ H G → De.nx σ H
  | .bk γ => ∀ σ H G, EnvR K M H0 G0 γ σ H G → De.bk σ H
  | .ct γ => ∀ σ H G, EnvR K M H0 G0 γ σ H G → De.ct σ H
  | .rt d => ∀ v H G, Stp H0 G0 H G → R K M G v d → De.rt v H
  | .er c => ∀ H G, Stp H0 G0 H G → E (M.exc c) none H
def SO (t : TS) (f : Fs) : Prop := ∀ (H0 G0 : Hp) (γ : Ge) (σ : L2.St) (H G : Hp) (De : Ends) (o : Out), EnvR K M H0 G0 γ σ H G → f γ = some o → PostS K M E H0 G0 De o → t De σ H
end
structure JS (K : PySem.W.Frag) (X : Cx) (M : Pm) (E : XK) (st : Stmt) (t : TS) (f : Fs) : Prop where
  ps : PS X st t
  so : SO K M E t f
structure JB (K : PySem.W.Frag) (X : Cx) (M : Pm) (E : XK) (st : List Stmt) (t : TS) (f : Fs) : Prop where
  ps : PSs X st t
  so : SO K M E t f

def fNext : Fs := fun γ => some (.nx γ)
def fSeq (f g : Fs) : Fs := fun γ => match f γ with
  | some (.nx γ1) => g γ1
  | o => o
def sRet (a : Fe) : Fs := fun γ => match a γ with
  | some (.ok d) => some (.rt d)
  | some (.er c) => some (.er c)
  | none => none
def sRetN : Fs := fun _ => some (.rt .none)
def sIf (c : Ft) (f g : Fs) : Fs := fun γ => match c γ with
  | some (.ok true) => f γ
  | some (.ok false) => g γ
  | some (.er c) => some (.er c)
  | none => none
def sSet (i : Nat) (a : Fe) : Fs := fun γ => match a γ with
  | some (.ok d) => some (.nx (γ.set i (.va d)))
  | some (.er c) => some (.er c)
  | none => none
def sSetO (i : Nat) (a : Fe) : Fs := fun γ => match a γ with
  | some (.ok (.list ds)) => some (.nx (γ.set i (.ow ds)))
  | some (.er c) => some (.er c)
  | _ => none
def sAsg (a : Fe) (g : D → Ge → Option Ge) : Fs := fun γ => match a γ with
  | some (.ok d) => (match g d γ with
    | some γ1 => some (.nx γ1)
    | none => none)
  | some (.er c) => some (.er c)
  | none => none
def sApp (i : Nat) (a : Fe) : Fs := fun γ => match γ[i]? with
  | some (.ow ds) => (match a γ with
    | some (.ok d) => if ds.length ≤ big then some (.nx (γ.set i (.ow (ds ++ [d])))) else none
    | some (.er c) => some (.er c)
    | none => none)
  | _ => none
def sRaise (c : Str) : Fs := fun _ => some (.er c)
def forF (gf : D → Ge → Option Ge) (body : Fs) : List D → Ge → Option Out
  | [], γ => some (.nx γ)
  | d :: ds, γ => match gf d γ with
    | none => none
    | some γ1 => match body γ1 with
      | some (.nx γ2) => forF gf body ds γ2
      | some (.ct γ2) => forF gf body ds γ2
      | some (.bk γ2) => some (.nx γ2)
      | some (.rt d) => some (.rt d)
      | some (.er c) => some (.er c)
      | none => none
def sFor (w : Fa) (gf : D → Ge → Option Ge) (body : Fs) : Fs := fun γ => match w γ with
  | some (.ok ds) => forF gf body ds γ
  | some (.er c) => some (.er c)
  | none => none
def whF (c : Ft) (body : Fs) : Nat → Ge → Option Out
  | 0, _ => none
  | n + 1, γ => match c γ with
    | some (.ok true) => (match body γ with
      | some (.nx γ2) => whF c body n γ2
      | some (.ct γ2) => whF c body n γ2
      | some (.bk γ2) => some (.nx γ2)
      | some (.rt d) => some (.rt d)
      | some (.er c) => some (.er c)
      | none => none)
    | some (.ok false) => some (.nx γ)
    | some (.er c) => some (.er c)
    | none => none
/-- the fuel of a while: any number would do -/
def fuel : Nat := 2 ^ 40
def sWh (c : Ft) (body : Fs) : Fs := fun γ => whF c body fuel γ

section
variable {K : PySem.W.Frag} {X : Cx} {M : Pm} {E : XK} {k : Nat} {m : Md} {a b e c : Expr} {ta tb te tc : TE} {fa fb fe fc : Fe} {pos : Pos} {t u : TS} {f g : Fs} {st : Stmt} {rest : List Stmt}

theorem EnvR.er {K : PySem.W.Frag} {H0 G0 H G : Hp} {γ : Ge} {σ : L2.St} {De : Ends} {c : Str} {m : Md} {Q : VK} (ev : EnvR K M H0 G0 γ σ H G) (p : PostS K M E H0 G0 De (.er c)) : PostE K M E m H G Q (.er c) := fun H' G' s => p H' G' (ev.st.trans s)
theorem so_next {K : PySem.W.Frag} : SO K M E tNext fNext := fun H0 G0 γ σ H G De o ev hf p => by cases hf; exact p σ H G ev
theorem jb_nil : JB K X M E [] tNext fNext := ⟨pss_nil, so_next⟩
theorem so_seq {K : PySem.W.Frag} (h1 : SO K M E t f) (h2 : SO K M E u g) : SO K M E (tSeq t u) (fSeq f g) := fun H0 G0 γ σ H G De o ev hf p => by
  unfold fSeq at hf
  split at hf
  · rename_i γ1 e1
    exact h1 H0 G0 γ σ H G { De with nx := u De } _ ev e1 fun σ' H' G' ev' => h2 H0 G0 γ1 σ' H' G' De o ev' hf p
  · rename_i hn
    refine h1 H0 G0 γ σ H G { De with nx := u De } o ev hf ?_
    cases o with
    | nx γ1 => exact absurd hf (hn γ1)
    | _ => exact p
theorem jb_cons (h1 : JS K X M E st t f) (h2 : JB K X M E rest u g) : JB K X M E (st :: rest) (tSeq t u) (fSeq f g) := ⟨pss_cons h1.ps h2.ps, so_seq h1.so h2.so⟩
theorem jb_one (h1 : JS K X M E st t f) : JB K X M E [st] t f := ⟨pss_one h1.ps, h1.so⟩
theorem js_ret (ha : JE K X M E .cl a ta fa) : JS K X M E (.Return (some a) pos) (tRet ta) (sRet fa) := ⟨ps_ret ha.pe, fun H0 G0 γ σ H G De o ev hf p => by
  unfold sRet at hf
  split at hf
  · rename_i d e1
    cases hf
    exact ha.eo H0 G0 γ σ H G _ _ ev e1 fun v H' G' s r => p v H' G' (ev.st.trans s) r
  · rename_i c e1
    cases hf
    exact ha.eo H0 G0 γ σ H G _ _ ev e1 (ev.er p)
  · cases hf⟩
theorem js_retN : JS K X M E (.Return none pos) tRetN sRetN := ⟨ps_retN, fun H0 G0 γ σ H G De o ev hf p => by cases hf; exact p .non H G ev.st .non⟩
/-- return of a name that may hold an own list -/
theorem js_retV {i : Nat} {x : Str} {p0 : Pos} (h : JE K X M E .op (.Name x p0) (tVar i) (fOpd i)) : JS K X M E (.Return (some (.Name x p0)) pos) (tRet (tVar i)) (sRet (fOpd i)) := ⟨ps_ret h.pe, fun H0 G0 γ σ H G De o ev hf p => by
  unfold sRet fOpd at hf
  split at hf
  · rename_i d e1
    split at e1
    · rename_i d' e2
      cases e1
      cases hf
      obtain ⟨v, h1, h2⟩ := ev.va e2
      exact ⟨v, h1, p v H G ev.st h2⟩
    · rename_i ds e2
      cases e1
      cases hf
      obtain ⟨o, vs, h1, hg, h0, h2, h3⟩ := ev.ow e2
      have sg : Same G (upd G o (.lst vs)) := same_new hg
      refine ⟨_, h1, p _ H (upd G o (.lst vs)) ⟨ev.st.ex, ev.st.eg.trans sg, fun b u q => ?_, fun q u hq n => ?_⟩ (R.lst (.of upd_same) (h3.mono sg))⟩
      · by_cases hb : b = o
        · subst hb; rw [upd_same] at q; cases q; exact h2
        · rw [upd_ne hb] at q; exact ev.st.sub b u q
      · rw [upd_ne (ne_of_none hq h0)]; exact ev.st.nw q u hq n
    · cases e1
  · rename_i c e1
    split at e1
    · cases e1
    · cases e1
    · cases e1
  · cases hf⟩
theorem js_if {tt : TT} {ft : Ft} {as bs : List Stmt} (hc : JT K X M E c tt ft) (ha : JB K X M E as t f) (hb : JB K X M E bs u g) : JS K X M E (.If c as bs pos) (tIfS tt t u) (sIf ft f g) := ⟨ps_if hc.pt ha.ps hb.ps, fun H0 G0 γ σ H G De o ev hf p => by
  unfold sIf at hf
  split at hf
  · rename_i e1
    refine hc.to H0 G0 γ σ H G _ _ ev e1 fun H' G' s => ?_
    rw [if_pos rfl]
    exact ha.so H0 G0 γ σ H' G' De o (ev.stp s) hf p
  · rename_i e1
    refine hc.to H0 G0 γ σ H G _ _ ev e1 fun H' G' s => ?_
    rw [if_neg Bool.false_ne_true]
    exact hb.so H0 G0 γ σ H' G' De o (ev.stp s) hf p
  · rename_i e1
    cases hf
    exact hc.to H0 G0 γ σ H G _ _ ev e1 fun H' G' s => p H' G' (ev.st.trans s)
  · cases hf⟩
theorem so_set {K : PySem.W.Frag} {i : Nat} (ha : EO K M E .cl ta fa) : SO K M E (tAsg ta (gName i)) (sSet i fa) := fun H0 G0 γ σ H G De o ev hf p => by
  unfold sSet at hf
  split at hf
  · rename_i d e1
    cases hf
    exact ha H0 G0 γ σ H G _ _ ev e1 fun v H' G' s r => p _ H' G' ((ev.stp s).setv r)
  · rename_i c e1
    cases hf
    exact ha H0 G0 γ σ H G _ _ ev e1 (ev.er p)
  · cases hf
theorem so_setO {K : PySem.W.Frag} {i : Nat} (ha : EO K M E .fr ta fa) : SO K M E (tAsg ta (gName i)) (sSetO i fa) := fun H0 G0 γ σ H G De o ev hf p => by
  unfold sSetO at hf
  split at hf
  · rename_i ds e1
    cases hf
    refine ha H0 G0 γ σ H G _ _ ev e1 fun v H' G' s r => ?_
    obtain ⟨l, us, e2, h0, hg, hl, ra⟩ := r
    subst e2
    refine p _ H' G' ((ev.stp s).seto (HS := H) (fun j dj q _ h1 h2 => ?_) hg (ev.st.ex.free h0) hl ra)
    obtain ⟨o', vs', h3, _, _, h4, _⟩ := ev.ow h1
    rw [h2] at h3
    cases h3
    exact ne_of_none h4 h0
  · rename_i c e1
    cases hf
    exact ha H0 G0 γ σ H G _ _ ev e1 (ev.er p)
  · cases hf
theorem js_set {i : Nat} {x : Str} {p0 : Pos} (hN : X.N.Nodup) (ha : JE K X M E .cl a ta fa) (hi : X.N[i]? = some x := by rfl) (hx : Loc X.env.scope x := by first | exact Or.inl rfl | exact Or.inr rfl) (hs : swapsWith a (some (.Name x p0)) pos.line X.env = pure false := by rfl) (hf : X.fn x = true ∨ X.env.scope.names.lookup x = some .local := by first | exact .inl rfl | exact .inr rfl) :
    JS K X M E (.Assign [.Name x p0] a pos) (tAsg ta (gName i)) (sSet i fa) := ⟨ps_set hN hi hx ha.pe hs hf, so_set ha.eo⟩
theorem js_setO {i : Nat} {x : Str} {p0 : Pos} (hN : X.N.Nodup) (ha : JE K X M E .fr a ta fa) (hi : X.N[i]? = some x := by rfl) (hx : Loc X.env.scope x := by first | exact Or.inl rfl | exact Or.inr rfl) (hs : swapsWith a (some (.Name x p0)) pos.line X.env = pure false := by rfl) (hf : X.fn x = true ∨ X.env.scope.names.lookup x = some .local := by first | exact .inl rfl | exact .inr rfl) :
    JS K X M E (.Assign [.Name x p0] a pos) (tAsg ta (gName i)) (sSetO i fa) := ⟨ps_set hN hi hx ha.pe hs hf, so_setO ha.eo⟩
/-- target = e, any target -/
theorem so_asg {K : PySem.W.Frag} {js : List Nat} {gg : TG} {gf : D → Ge → Option Ge} (ha : EO K M E .cl ta fa) (hg : GO K M js gg gf) : SO K M E (tAsg ta gg) (sAsg fa gf) := fun H0 G0 γ σ H G De o ev hf p => by
  unfold sAsg at hf
  split at hf
  · rename_i d e1
    split at hf
    · rename_i γ1 e2
      cases hf
      exact ha H0 G0 γ σ H G _ _ ev e1 fun v H' G' s r => hg H0 G0 γ γ1 σ H' G' v d _ (ev.stp s) r e2 fun σ' ev' _ => p σ' H' G' ev'
    · cases hf
  · rename_i c e1
    cases hf
    exact ha H0 G0 γ σ H G _ _ ev e1 (ev.er p)
  · cases hf
theorem js_asg {tg : Expr} {js : List Nat} {gg : TG} {gf : D → Ge → Option Ge} (ha : JE K X M E .cl a ta fa) (hg : JG K X M tg js gg gf) (hs : swapsWithSole [tg] a pos.line X.env = pure false := by rfl) (hw : swappedStores [tg] a X.env = pure none := by rfl)
    (h1 : (assignEach [tg] X.env).map (·.2) = [assign tg X.env] := by rfl) : JS K X M E (.Assign [tg] a pos) (tAsg ta gg) (sAsg fa gf) := ⟨ps_asg ha.pe hg.pg hs hw h1, so_asg ha.eo hg.go⟩
/-- y = [.. for ..] on one line, y a local -/
theorem ps_lcset {i : Nat} {y : Str} {py : Pos} {elt tg iter : Expr} {ifs : List Expr} {scope : Scope} {own : List (Str × Nat)} {js : List Nat} {wi : TI} {g : TG} {tt : TT} {te : TE} {w : Fa} {gf : D → Ge → Option Ge} {cf : Ft} {ef : Fe} {spos : Pos} (C : CxF K X E k) (hi : JI K X M E tg iter wi w) (ok : BlkOk X.N X.env.scope scope own)
    (hg : ∀ (s : Shared) (H : Hp) (Cc : Addr) (cl : List (Str × Addr)) (fp : List Addr), JG K (X.blk s H scope (compEnvC scope cl Cc X.env) fp) M tg js g gf) (ht : ∀ (s : Shared) (H : Hp) (Cc : Addr) (cl : List (Str × Addr)) (fp : List Addr), JTs K (X.blk s H scope (compEnvC scope cl Cc X.env) fp) M E0 ifs tt cf)
    (he : ∀ (s : Shared) (H : Hp) (Cc : Addr) (cl : List (Str × Addr)) (fp : List Addr), JE K (X.blk s H scope (compEnvC scope cl Cc X.env) fp) M E0 .cl elt te ef)
    (hy : X.N[i]? = some y) (hyl : X.env.scope.names.lookup y = some .local)
    (hsw : swapsWith (.ListComp elt [⟨tg, iter, ifs, 0⟩] scope pos) (some (.Name y py)) spos.line X.env = pure true) (hs : ∀ x, foldedSetIterable iter X.env x = pure x) :
    PS X (.Assign [.Name y py] (.ListComp elt [⟨tg, iter, ifs, 0⟩] scope pos) spos) (tAsg (tLc wi g tt te (own.map (·.2))) (gName i)) :=
  ps_setLc C.calm C.nd hy hyl hsw hi.pi ok (fun s H Cc cl fp => (hg s H Cc cl fp).pg) (fun s H Cc cl fp => (ht s H Cc cl fp).pts) (fun s H Cc cl fp => (he s H Cc cl fp).pe) hs
theorem so_f2c {K : PySem.W.Frag} {te : TE} {fe : Fe} (h : EO K M E .fr te fe) : EO K M E .cl te fe := fun H0 G0 γ σ H G Q r ev hf p => h H0 G0 γ σ H G Q r ev hf (by
  cases r with
  | ok d => exact fun v H' G' s r => let ⟨G2, s2, _, r2⟩ := freeze s r; p v H' G2 s2 r2
  | er c => exact p)
theorem js_setLc {i : Nat} {y : Str} {py : Pos} {elt tg iter : Expr} {ifs : List Expr} {scope : Scope} {own : List (Str × Nat)} {js : List Nat} {wi : TI} {g : TG} {tt : TT} {te : TE} {w : Fa} {gf : D → Ge → Option Ge} {cf : Ft} {ef : Fe} {spos : Pos} (C : CxF K X E k) (hi : JI K X M E tg iter wi w) (ok : BlkOk X.N X.env.scope scope own)
    (hg : ∀ (s : Shared) (H : Hp) (Cc : Addr) (cl : List (Str × Addr)) (fp : List Addr), JG K (X.blk s H scope (compEnvC scope cl Cc X.env) fp) M tg js g gf) (ht : ∀ (s : Shared) (H : Hp) (Cc : Addr) (cl : List (Str × Addr)) (fp : List Addr), JTs K (X.blk s H scope (compEnvC scope cl Cc X.env) fp) M E0 ifs tt cf)
    (he : ∀ (s : Shared) (H : Hp) (Cc : Addr) (cl : List (Str × Addr)) (fp : List Addr), JE K (X.blk s H scope (compEnvC scope cl Cc X.env) fp) M E0 .cl elt te ef)
    (hsw : swapsWith (.ListComp elt [⟨tg, iter, ifs, 0⟩] scope pos) (some (.Name y py)) spos.line X.env = pure true) (hy : X.N[i]? = some y := by rfl) (hyl : X.env.scope.names.lookup y = some .local := by rfl) (hj : ∀ j ∈ js, j ∈ own.map (·.2) := by decide) (hs : ∀ x, foldedSetIterable iter X.env x = pure x := by intro _; rfl) :
    JS K X M E (.Assign [.Name y py] (.ListComp elt [⟨tg, iter, ifs, 0⟩] scope pos) spos) (tAsg (tLc wi g tt te (own.map (·.2))) (gName i)) (sSet i (fLc w gf cf ef (own.map (·.2)))) :=
  ⟨ps_lcset C hi ok hg ht he hy hyl hsw hs, so_set (so_f2c (eo_lc hi.wo (hg ({} : Shared) (fun _ => none) 0 [] []).go hj (ht ({} : Shared) (fun _ => none) 0 [] []).to (he ({} : Shared) (fun _ => none) 0 [] []).eo))⟩
theorem js_setLcO {i : Nat} {y : Str} {py : Pos} {elt tg iter : Expr} {ifs : List Expr} {scope : Scope} {own : List (Str × Nat)} {js : List Nat} {wi : TI} {g : TG} {tt : TT} {te : TE} {w : Fa} {gf : D → Ge → Option Ge} {cf : Ft} {ef : Fe} {spos : Pos} (C : CxF K X E k) (hi : JI K X M E tg iter wi w) (ok : BlkOk X.N X.env.scope scope own)
    (hg : ∀ (s : Shared) (H : Hp) (Cc : Addr) (cl : List (Str × Addr)) (fp : List Addr), JG K (X.blk s H scope (compEnvC scope cl Cc X.env) fp) M tg js g gf) (ht : ∀ (s : Shared) (H : Hp) (Cc : Addr) (cl : List (Str × Addr)) (fp : List Addr), JTs K (X.blk s H scope (compEnvC scope cl Cc X.env) fp) M E0 ifs tt cf)
    (he : ∀ (s : Shared) (H : Hp) (Cc : Addr) (cl : List (Str × Addr)) (fp : List Addr), JE K (X.blk s H scope (compEnvC scope cl Cc X.env) fp) M E0 .cl elt te ef)
    (hsw : swapsWith (.ListComp elt [⟨tg, iter, ifs, 0⟩] scope pos) (some (.Name y py)) spos.line X.env = pure true) (hy : X.N[i]? = some y := by rfl) (hyl : X.env.scope.names.lookup y = some .local := by rfl) (hj : ∀ j ∈ js, j ∈ own.map (·.2) := by decide) (hs : ∀ x, foldedSetIterable iter X.env x = pure x := by intro _; rfl) :
    JS K X M E (.Assign [.Name y py] (.ListComp elt [⟨tg, iter, ifs, 0⟩] scope pos) spos) (tAsg (tLc wi g tt te (own.map (·.2))) (gName i)) (sSetO i (fLc w gf cf ef (own.map (·.2)))) :=
  ⟨ps_lcset C hi ok hg ht he hy hyl hsw hs, so_setO (eo_lc hi.wo (hg ({} : Shared) (fun _ => none) 0 [] []).go hj (ht ({} : Shared) (fun _ => none) 0 [] []).to (he ({} : Shared) (fun _ => none) 0 [] []).eo)⟩
/-- x.append(e), x an own list -/
theorem js_app {i : Nat} {x : Str} {p0 apos cpos : Pos} (C : CxF K X E k) (ho : PE X (.Name x p0) (tVar i)) (ha : JE K X M E .cl a ta fa)
    (hp : PE X (.Call (.Attribute (.Name x p0) "append" apos) [a] [] cpos) (tBM K "list" rAppend (tVar i) (tCons ta tNil))) (hs : swapsWith (.Call (.Attribute (.Name x p0) "append" apos) [a] [] cpos) none pos.line X.env = pure false := by rfl) :
    JS K X M E (.Expr (.Call (.Attribute (.Name x p0) "append" apos) [a] [] cpos) pos) (tDrop (tBM K "list" rAppend (tVar i) (tCons ta tNil))) (sApp i fa) := by
  have hK := C.hK
  subst hK
  exact ⟨ps_expr hp hs, fun H0 G0 γ σ H G De o ev hf p => by
  unfold sApp at hf
  split at hf
  · rename_i ds e1
    obtain ⟨l, vs, h1, hg, h0, h2, h3⟩ := ev.ow e1
    split at hf
    · rename_i d e2
      split at hf
      · rename_i hz
        cases hf
        refine ⟨_, h1, .inl ⟨rfl, vs, .of h2⟩, ?_⟩
        refine ha.eo H0 G0 γ σ H G _ _ ev e2 fun v H' G' s r => ?_
        have hl : H' l = some (.lst vs) := s.ex _ _ h2
        have r' : R X.K M G' v d := r
        exact ⟨l, vs, v, rfl, rfl, hl, by rw [h3.len]; exact big_line' hz, p _ _ G' ((ev.stp s).wr e1 h1 hl ((h3.mono s.eg).app (.one r')))⟩
      · cases hf
    · rename_i c e2
      cases hf
      refine ⟨_, h1, .inl ⟨rfl, vs, .of h2⟩, ?_⟩
      exact ha.eo H0 G0 γ σ H G _ _ ev e2 (ev.er p)
    · cases hf
  · cases hf⟩
/-- .. its rule from its parts -/
theorem js_appX {i : Nat} {x : Str} {p0 apos cpos : Pos} (C : CxF K X E k) (ho : JE K X M E .op (.Name x p0) (tVar i) (fOpd i)) (ha : JE K X M E .cl a ta fa)
    (hbase : attributeBase (.Name x p0) "append" X.env (eval (.Name x p0) X.env) = eval (.Name x p0) X.env := by rfl)
    (hfew : ((backTo cpos (starEach [a] X.env)).all (fun x => !x.1) && (backToKw cpos (keywordEach [] X.env)).all (fun x => x.1.isSome)
      && decide ([a].length + ([] : List Keyword).length + (if ([] : List Keyword).isEmpty then 0 else 1) < 30)) = true := by rfl)
    (hline : (apos.endLine == cpos.line) = true := by rfl) (hst : starEach [a] X.env = (false, eval a X.env) :: starEach [] X.env := by rfl) (hs : swapsWith (.Call (.Attribute (.Name x p0) "append" apos) [a] [] cpos) none pos.line X.env = pure false := by rfl) :
    JS K X M E (.Expr (.Call (.Attribute (.Name x p0) "append" apos) [a] [] cpos) pos) (tDrop (tBM K "list" rAppend (tVar i) (tCons ta tNil))) (sApp i fa) := by
  have hK := C.hK
  subst hK
  exact js_app C ho.pe ha (pe_bm PySem.F.plainAttrs_list PySem.F.slot_list_append PySem.F.type_list_append mt_append ho.pe (pa_cons ha.pe pa_nil hst) hbase hfew hline hst rfl) hs
/-! ### loops -/
theorem EnvR.reG {K : PySem.W.Frag} {H0 G0 H G H1 G1 : Hp} {γ γ1 : Ge} {σ σ1 : L2.St} (e : EnvR K M H0 G0 γ σ H G) (e1 : EnvR K M H0 G γ1 σ1 H1 G1) : EnvR K M H0 G0 γ1 σ1 H1 G1 :=
  ⟨⟨e1.st.ex, e.st.eg.trans e1.st.eg, e1.st.sub, fun p o h n => e1.st.nw p o h (e.st.nw p o h n)⟩, e1.len, e1.sl, e1.ap, e1.kp⟩
theorem EnvR.toG {K : PySem.W.Frag} {H0 G0 H G : Hp} {γ : Ge} {σ : L2.St} (e : EnvR K M H0 G0 γ σ H G) : EnvR K M H0 G γ σ H G :=
  ⟨⟨e.st.ex, Same.refl _, e.st.sub, fun _ _ _ n => n⟩, e.len, e.sl, e.ap, e.kp⟩
theorem Stp.reG {H0 G0 H G H1 G1 : Hp} (e : Stp H0 G0 H G) (e1 : Stp H0 G H1 G1) : Stp H0 G0 H1 G1 := ⟨e1.ex, e.eg.trans e1.eg, e1.sub, fun p o h n => e1.nw p o h (e.nw p o h n)⟩
theorem PostS.reG {K : PySem.W.Frag} {H0 G0 H G : Hp} {γ : Ge} {σ : L2.St} {De : Ends} {o : Out} (e : EnvR K M H0 G0 γ σ H G) (p : PostS K M E H0 G0 De o) : PostS K M E H0 G De o := by
  cases o with
  | nx γ1 => exact fun σ' H' G' e' => p σ' H' G' (e.reG e')
  | bk γ1 => exact fun σ' H' G' e' => p σ' H' G' (e.reG e')
  | ct γ1 => exact fun σ' H' G' e' => p σ' H' G' (e.reG e')
  | rt d => exact fun v H' G' s r => p v H' G' (e.st.reG s) r
  | er c => exact fun H' G' s => p H' G' (e.st.reG s)
theorem so_for {K : PySem.W.Frag} {wi : TI} {js : List Nat} {gg : TG} {gf : D → Ge → Option Ge} {w : Fa} (hw : WO K M E wi w) (hg : GO K M js gg gf) (hb : SO K M E t f) : SO K M E (tFor wi gg t) (sFor w gf f) := fun H0 G0 γ σ H G De o ev hf p => by
  unfold sFor at hf
  split at hf
  · rename_i ds e1
    refine hw H0 G0 γ σ H G _ _ ev e1 fun J H1 G1 s1 itr => ?_
    have ev1 := ev.stp s1
    have p1 := p.reG ev1
    refine ⟨fun i mm σ' H' => mm = ds.length - i ∧ i ≤ ds.length ∧ ∃ γ' G', EnvR K M H0 G1 γ' σ' H' G' ∧ forF gf f (ds.drop i) γ' = some o, ⟨ds.length, by simp, Nat.zero_le _, γ, G1, ev1.toG, hf⟩, ?_⟩
    rintro i mm σ2 H2 ⟨rfl, hi, γ2, G2, ev2, el⟩
    obtain ⟨go, yl, sp⟩ := itr H2 G2 ev2.st.eg ev2.st.sub i
    by_cases hlt : i < ds.length
    · refine .inr ⟨go hlt, fun σ' H' => ∃ γ' G', EnvR K M H0 G1 γ' σ' H' G' ∧ forF gf f (ds.drop (i + 1)) γ' = some o, fun σ' H' ⟨γ', G', q1, q2⟩ => ⟨ds.length - (i + 1), by omega, rfl, hlt, γ', G', q1, q2⟩, fun x H3 hy => ?_⟩
      have hd : ds[i]? = some ds[i] := List.getElem?_eq_getElem hlt
      obtain ⟨G3, s3, rx⟩ := yl x H3 _ hd hy
      rw [List.drop_eq_getElem_cons hlt] at el
      unfold forF at el
      split at el
      · cases el
      · rename_i γ3 eg
        refine hg H0 G1 γ2 γ3 σ2 H3 G3 x ds[i] _ (ev2.stp s3) rx eg fun σ3 ev3 _ => ?_
        split at el
        · rename_i γ4 eb
          exact hb H0 G1 γ3 σ3 H3 G3 _ _ ev3 eb fun σ' H' G' q => ⟨γ4, G', q, el⟩
        · rename_i γ4 eb
          exact hb H0 G1 γ3 σ3 H3 G3 _ _ ev3 eb fun σ' H' G' q => ⟨γ4, G', q, el⟩
        · rename_i γ4 eb
          cases el
          exact hb H0 G1 γ3 σ3 H3 G3 _ _ ev3 eb fun σ' H' G' q => p1 σ' H' G' q
        · rename_i d eb
          cases el
          exact hb H0 G1 γ3 σ3 H3 G3 _ _ ev3 eb p1
        · rename_i c eb
          cases el
          exact hb H0 G1 γ3 σ3 H3 G3 _ _ ev3 eb p1
        · cases el
    · have ei : i = ds.length := by omega
      subst ei
      rw [List.drop_length] at el
      cases el
      exact .inl ⟨sp (Nat.le_refl _), p1 σ2 H2 G2 ev2⟩
  · rename_i e1
    cases hf
    exact hw H0 G0 γ σ H G _ _ ev e1 fun H' G' s => p H' G' (ev.st.trans s)
  · cases hf
theorem js_for {tg iter : Expr} {body : List Stmt} {wi : TI} {js : List Nat} {gg : TG} {gf : D → Ge → Option Ge} {w : Fa} (C : CxF K X E k) (hi : JI K X M E tg iter wi w) (hg : JG K X M tg js gg gf) (hb : JB K X M E body t f)
    (hs : ∀ x, foldedSetIterable iter X.env x = pure x := by intro _; rfl) : JS K X M E (.For tg iter body [] pos) (tFor wi gg t) (sFor w gf f) := ⟨ps_for C.own C.calm hi.pi hg.pg hb.ps hs, so_for hi.wo hg.go hb.so⟩
theorem so_wh {K : PySem.W.Frag} {tt : TT} {ft : Ft} (hc : TO' K M E tt ft) (hb : SO K M E t f) : SO K M E (tWhile tt t) (sWh ft f) := fun H0 G0 γ σ H G De o ev hf p => by
  refine ⟨fun m σ' H' => ∃ γ' G', EnvR K M H0 G0 γ' σ' H' G' ∧ whF ft f m γ' = some o, ⟨fuel, γ, G, ev, hf⟩, ?_⟩
  rintro m σ2 H2 ⟨γ2, G2, ev2, el⟩
  cases m with
  | zero => cases el
  | succ m =>
    unfold whF at el
    split at el
    · rename_i ec
      refine hc H0 G0 γ2 σ2 H2 G2 _ _ ev2 ec fun H3 G3 s3 => ?_
      rw [if_pos rfl]
      have ev3 := ev2.stp s3
      refine ⟨fun σ' H' => ∃ γ' G', EnvR K M H0 G0 γ' σ' H' G' ∧ whF ft f m γ' = some o, fun σ' H' q => ⟨m, Nat.lt_succ_self _, q⟩, ?_⟩
      split at el
      · rename_i γ4 eb
        exact hb H0 G0 γ2 σ2 H3 G3 _ _ ev3 eb fun σ' H' G' q => ⟨γ4, G', q, el⟩
      · rename_i γ4 eb
        exact hb H0 G0 γ2 σ2 H3 G3 _ _ ev3 eb fun σ' H' G' q => ⟨γ4, G', q, el⟩
      · rename_i γ4 eb
        cases el
        exact hb H0 G0 γ2 σ2 H3 G3 _ _ ev3 eb fun σ' H' G' q => p σ' H' G' q
      · rename_i d eb
        cases el
        exact hb H0 G0 γ2 σ2 H3 G3 _ _ ev3 eb p
      · rename_i c eb
        cases el
        exact hb H0 G0 γ2 σ2 H3 G3 _ _ ev3 eb p
      · cases el
    · rename_i ec
      cases el
      refine hc H0 G0 γ2 σ2 H2 G2 _ _ ev2 ec fun H3 G3 s3 => ?_
      rw [if_neg Bool.false_ne_true]
      exact p σ2 H3 G3 (ev2.stp s3)
    · rename_i ec
      cases el
      exact hc H0 G0 γ2 σ2 H2 G2 _ _ ev2 ec fun H' G' s => p H' G' (ev2.st.trans s)
    · cases el
theorem js_wh {body : List Stmt} {tt : TT} {ft : Ft} (C : CxF K X E k) (hc : JT K X M E c tt ft) (hb : JB K X M E body t f) : JS K X M E (.While c body [] pos) (tWhile tt t) (sWh ft f) := ⟨ps_while C.own hc.pt hb.ps, so_wh hc.to hb.so⟩
/-- raise X('..') -/
theorem js_raise {x : Str} {t : L2.St → Hp → XK → Prop} {cn : Str} (C : CxF K X E k) (tk : Takes X (fun cls d _ H => E cls d H)) (he : PMk X a t) (ht : ∀ σ H (Q : XK), Q (M.exc cn) none H → t σ H Q) : JS K X M E (.Raise (some a) none pos) (fun _ σ H => t σ H fun cls d H' => E cls d H') (sRaise cn) :=
  ⟨ps_raise C.calm tk he, fun H0 G0 γ σ H G De o ev hf p => by cases hf; exact ht σ H _ (p H G ev.st)⟩
end

/-! ### the rule of a def -/
def entry (n : Nat) (ds : List D) : Ge := ds.map Sl.va ++ List.replicate (n - ds.length) .no
def runF (np n : Nat) (f : Fs) : List D → Option Rs := fun ds => if ds.length = np then (match f (entry n ds) with
  | some (.nx _) => some (.ok .none)
  | some (.rt d) => some (.ok d)
  | some (.er c) => some (.er c)
  | _ => none) else none
theorem env_entry {K : PySem.W.Frag} {M : Pm} {H G : Hp} {N : List Str} {vs : List V} {ds : List D} (e : Same G H) (r : RA K M G vs ds) (kp : Same M.kp H) : EnvR K M H G (entry N.length ds) (L2.start N vs) H G := by
  refine ⟨Stp.refl e, by unfold L2.start entry; simp [r.len], fun i s x h1 h2 => ?_, fun i j si sj xi xj o h1 h2 h3 h4 h5 h6 => ?_, kp⟩
  · unfold entry at h1
    unfold L2.start at h2
    by_cases hi : i < ds.length
    · rw [List.getElem?_append_left (by simpa using hi), List.getElem?_map, List.getElem?_eq_getElem hi] at h1
      cases h1
      obtain ⟨v, q1, q2⟩ := r.get (List.getElem?_eq_getElem hi)
      rw [List.getElem?_append_left (by rw [List.length_map, r.len]; exact hi), List.getElem?_map, q1] at h2
      cases h2
      exact ⟨v, rfl, q2⟩
    · rw [List.getElem?_append_right (by simpa using hi), List.getElem?_replicate] at h1
      split at h1
      · cases h1; trivial
      · cases h1
  · exfalso
    unfold entry at h1
    by_cases hi : i < ds.length
    · rw [List.getElem?_append_left (by simpa using hi), List.getElem?_map, List.getElem?_eq_getElem hi] at h1
      cases h1
      exact h5
    · rw [List.getElem?_append_right (by simpa using hi), List.getElem?_replicate] at h1
      split at h1
      · cases h1; exact h5
      · cases h1
/-- what the body of a def stands in -/
theorem cxf_of {P : Program} {w : World} {K : PySem.W.Frag} {mg : Str → Option Value} {base : Heap} {N ps : List Str} {qual : Str} {scope : Scope} {f : Addr} {cd : Value} {A : Around} {outer : List Env} {s : Shared} {H : Hp} {E : XK} {k : Nat} (S : FnScope N ps scope)
    (hr : Room k (A.deeper (envOfC qual scope s.heap.objs.size f cd))) : CxF K (cxOf (L2.CX P w) P w K mg base N qual scope f cd A outer s H E) E k ∧ Takes (cxOf (L2.CX P w) P w K mg base N qual scope f cd A outer s H E) (fun cls d _ H => E cls d H) := by
  have tk : Takes (cxOf (L2.CX P w) P w K mg base N qual scope f cd A outer s H E) (fun cls d _ H => E cls d H) := takes_of rfl rfl rfl rfl
  exact ⟨⟨rfl, rfl, S.nd, passes_call tk fun _ _ _ _ h => h, passes_of (K := fun e s'' => L2.CX P w outer H s E e s'') rfl, hr⟩, tk⟩
theorem fn_ok {P : Program} {w : World} {K : PySem.W.Frag} {mg : Str → Option Value} {base : Heap} {M : Pm} {x qual : Str} {st : Stmt} {f : Addr} {fd : FuncData} {N ps : List Str} {k : Nat} {g : Fs} (F : Fun K x qual st f fd) (S : FnScope N ps (defScope st))
    (hb : ∀ (cdv : Value) (A : Around) (outer : List Env) (s : Shared) (H : Hp) (E : XK), CxF K (cxOf (L2.CX P w) P w K mg base N qual (defScope st) f cdv A outer s H E) E k → Takes (cxOf (L2.CX P w) P w K mg base N qual (defScope st) f cdv A outer s H E) (fun cls d _ H => E cls d H) →
      ∃ t, JB K (cxOf (L2.CX P w) P w K mg base N qual (defScope st) f cdv A outer s H E) M E (defBody st) t g) : FnOk P w K mg base (L2.CX P w) (k + 1) f fd ps (spF K M (runF ps.length N.length g)) := by
  have len : ∀ vs H Q E, spF K M (runF ps.length N.length g) vs H Q E → vs.length = ps.length := by
    rintro vs H Q E ⟨G, ds, r, _, ra, e, _⟩
    unfold runF at e
    split at e
    · rename_i hl
      rw [ra.len]; exact hl
    · cases e
  refine F.okX S len fun cdv A outer s H vs Q E hr h => ?_
  obtain ⟨C, tk⟩ := cxf_of (P := P) (w := w) (K := K) (mg := mg) (base := base) (qual := qual) (s := s) (H := H) (E := E) (outer := outer) S hr
  obtain ⟨t, J⟩ := hb cdv A outer s H E C tk
  refine ⟨t, J.ps, ?_⟩
  obtain ⟨G, ds, r, e, ra, er, p, kp⟩ := h
  unfold runF at er
  split at er
  · split at er
    · rename_i γ1 ef
      cases er
      exact J.so H G _ _ H G _ _ (env_entry e ra kp) ef fun σ' H' G' ev => p .non H' G' ev.st .non
    · rename_i d ef
      cases er
      exact J.so H G _ _ H G _ _ (env_entry e ra kp) ef fun v H' G' s r => p v H' G' s r
    · rename_i c ef
      cases er
      exact J.so H G _ _ H G _ _ (env_entry e ra kp) ef fun H' G' s => p H' G' s
    · cases er
  · cases er
/-- a def of the text, where it stands -/
structure Df (K : PySem.W.Frag) (mg : Str → Option Value) (x : Str) (st : Stmt) (ps : List Str) (f : Addr) (fd : FuncData) : Prop where
  F : Fun K x x st f fd
  b : Binds K fd ps []
  m : mg x = some (.ref f)
/-- with no level nothing is told -/
theorem fn_zero {P : Program} {w : World} {K : PySem.W.Frag} {mg : Str → Option Value} {base : Heap} {M : Pm} {f : Addr} {fd : FuncData} {ps : List Str} : FnOk P w K mg base (L2.CX P w) 0 f fd ps (spF K M fun _ => none) := by
  have no : ∀ vs H Q E, ¬ spF K M (fun _ => none) vs H Q E := by
    rintro vs H Q E ⟨_, _, _, _, _, e, _⟩
    cases e
  exact ⟨fun vs H Q E h => absurd h (no vs H Q E), fun A outer s H args us vs Q E _ _ _ _ h => absurd h (no vs H Q E)⟩
end Py


/-! PyG: built-ins -/
namespace Py
open PySem PySem.Spec PyProof.Rows L2

section
variable {K : PySem.W.Frag} {X : Cx} {M : Pm} {E : XK} {k : Nat} {m : Md} {a b e c : Expr} {ta tb te tc : TE} {fa fb fe fc : Fe} {pos : Pos}

/-! min of two ints -/
def rMin2 : List V → Hp → VK → Prop := fun xs H Q => ∃ i j, xs = [.int i, .int j] ∧ Q (.int (if j < i then j else i)) H
def oMin2 : List D → Option D
  | [.int i, .int j] => some (.int (if j < i then j else i))
  | _ => none
theorem cs_min2 {K : PySem.W.Frag} : CallS K M .cl rMin2 oMin2 := by
  intro H G vs ds dz Q e r ho q
  unfold oMin2 at ho
  split at ho
  · rename_i i j
    cases ho
    cases r with
    | cons r t =>
      cases t with
      | cons r' t =>
        cases t
        cases (show R K M G _ (.int i) from r)
        cases (show R K M G _ (.int j) from r')
        exact ⟨i, j, rfl, q _ H G (Stp.refl e) (R.int _)⟩
  · cases ho
theorem je_min2 {p : Pos} (C : CxF K X E k) (hm : X.mg "min" = none) (hg : Gl X "min") (ha : JE K X M E .op a ta fa) (hb : JE K X M E .op b tb fb)
    (hs3 : starEach [a, b] X.env = (false, eval a X.env) :: starEach [b] X.env := by rfl) (hs4 : starEach [b] X.env = (false, eval b X.env) :: starEach [] X.env := by rfl) (hpl : (backTo pos (starEach [b] X.env)).any (·.1) = false := by rfl) :
    JE K X M E .cl (.Call (.Name "min" p) [a, b] [] pos) (tCB rMin2 (tCons ta (tCons tb tNil))) (fB oMin2 (fCons fa (fCons fb fNil))) :=
  je_callB (call_min2 C.calm) cs_min2 hm (by decide +kernel) hg (ja_cons ha (ja_cons hb ja_nil hs4) hs3) (by decide) (by decide) hs3 hpl

/-! any, all of a list of truths -/
def boolsOf : List D → Option (List Bool)
  | [] => some []
  | .bool b :: r => (match boolsOf r with
    | some bs => some (b :: bs)
    | none => none)
  | _ :: _ => none
theorem boolsOf_eq : ∀ {ds : List D} {bs : List Bool}, boolsOf ds = some bs → ds = bs.map PyData.bool
  | [], bs, h => by cases h; rfl
  | d :: r, bs, h => by
    cases d with
    | bool b =>
      unfold boolsOf at h
      split at h
      · rename_i bs' e
        cases h
        rw [boolsOf_eq e]
        rfl
      · cases h
    | _ => cases h
theorem boolsOf_map : ∀ (bs : List Bool), boolsOf (bs.map PyData.bool) = some bs
  | [] => rfl
  | b :: r => by
    show (match boolsOf (r.map PyData.bool) with | some bs => some (b :: bs) | none => none) = _
    rw [boolsOf_map r]
def oAny : List D → Option D
  | [.list ds] => (match boolsOf ds with
    | some bs => some (.bool (bs.any id))
    | none => none)
  | _ => none
def oAll : List D → Option D
  | [.list ds] => (match boolsOf ds with
    | some bs => some (.bool (bs.all id))
    | none => none)
  | _ => none
theorem cs_any {K : PySem.W.Frag} : CallS K M .cl (rAny K) oAny := by
  intro H G vs ds dz Q e r ho q
  unfold oAny at ho
  split at ho
  · split at ho
    · rename_i bs eb
      cases ho
      have eb := boolsOf_eq eb
      subst eb
      cases r with
      | cons r t =>
        cases t
        obtain ⟨l, us, e1, h, ra⟩ := r
        subst e1
        exact ⟨l, bs, rfl, by rw [← ra.bools]; exact h, q _ H G (Stp.refl e) (R.bl _)⟩
    · cases ho
  · cases ho
theorem cs_all {K : PySem.W.Frag} : CallS K M .cl (rAll K) oAll := by
  intro H G vs ds dz Q e r ho q
  unfold oAll at ho
  split at ho
  · split at ho
    · rename_i bs eb
      cases ho
      have eb := boolsOf_eq eb
      subst eb
      cases r with
      | cons r t =>
        cases t
        obtain ⟨l, us, e1, h, ra⟩ := r
        subst e1
        exact ⟨l, bs, rfl, by rw [← ra.bools]; exact h, q _ H G (Stp.refl e) (R.bl _)⟩
    · cases ho
  · cases ho
theorem je_any {p : Pos} (C : CxF K X E k) (hm : X.mg "any" = none) (hg : Gl X "any") (ha : JE K X M E .op a ta fa) (hs : starEach [a] X.env = (false, eval a X.env) :: starEach [] X.env := by rfl) : JE K X M E .cl (.Call (.Name "any" p) [a] [] pos) (tCB (rAny K) (tCons ta tNil)) (fB oAny (fCons fa fNil)) := by
  have hK := C.hK
  subst hK
  exact je_callB (cr_any C.calm) cs_any hm (by decide +kernel) hg (ja_cons ha ja_nil hs) (by decide) (by decide) hs rfl
theorem je_all {p : Pos} (C : CxF K X E k) (hm : X.mg "all" = none) (hg : Gl X "all") (ha : JE K X M E .op a ta fa) (hs : starEach [a] X.env = (false, eval a X.env) :: starEach [] X.env := by rfl) : JE K X M E .cl (.Call (.Name "all" p) [a] [] pos) (tCB (rAll K) (tCons ta tNil)) (fB oAll (fCons fa fNil)) := by
  have hK := C.hK
  subst hK
  exact je_callB (cr_all C.calm) cs_all hm (by decide +kernel) hg (ja_cons ha ja_nil hs) (by decide) (by decide) hs rfl
/-! list(xs), tuple(xs), int(flag) -/
def rListA (K : PySem.W.Frag) : List V → Hp → VK → Prop := fun xs H Q => ∃ p ys, xs = [.ref p] ∧ (SqL K H p ys ∨ SqT K H p ys) ∧ ∀ l, H l = none → Q (.ref l) (upd H l (.lst ys))
def oList : List D → Option D
  | [.list ds] => some (.list ds)
  | [.tuple ds] => some (.list ds)
  | _ => none
theorem cs_list {K : PySem.W.Frag} : CallS K M .fr (rListA K) oList := by
  intro H G vs ds dz Q e r ho q
  unfold oList at ho
  split at ho
  · rename_i ds
    cases ho
    cases r with
    | cons r t =>
      cases t
      obtain ⟨l, us, e1, h, ra⟩ := r
      subst e1
      exact ⟨l, us, rfl, .inl h, fun p hp => q _ _ G (Stp.newO e hp) ⟨p, us, rfl, hp, e.free hp, upd_same, ra⟩⟩
  · rename_i ds
    cases ho
    cases r with
    | cons r t =>
      cases t
      obtain ⟨l, us, e1, h, ra⟩ := R.tupI (show R K M G _ (.tuple ds) from r)
      subst e1
      exact ⟨l, us, rfl, .inr (same_T e h), fun p hp => q _ _ G (Stp.newO e hp) ⟨p, us, rfl, hp, e.free hp, upd_same, ra⟩⟩
  · cases ho
theorem je_list {p : Pos} (C : CxF K X E k) (hm : X.mg "list" = none) (hg : Gl X "list") (ha : JE K X M E .op a ta fa) (hs : starEach [a] X.env = (false, eval a X.env) :: starEach [] X.env := by rfl) : JE K X M E .fr (.Call (.Name "list" p) [a] [] pos) (tCB (rListA K) (tCons ta tNil)) (fB oList (fCons fa fNil)) := by
  have hK := C.hK
  subst hK
  exact je_callTy call_list_of cs_list hm (by decide +kernel) hg (ja_cons ha ja_nil hs) (by decide) (by decide) hs rfl
def rTupleA (K : PySem.W.Frag) : List V → Hp → VK → Prop := fun xs H Q => ∃ p ys, xs = [.ref p] ∧ ((SqL K H p ys ∧ ∀ l, H l = none → Q (.ref l) (upd H l (.tup ys))) ∨ (SqT K H p ys ∧ Q (.ref p) H))
def oTuple : List D → Option D
  | [.list ds] => some (.tuple ds)
  | _ => none
theorem cs_tuple {K : PySem.W.Frag} : CallS K M .cl (rTupleA K) oTuple := by
  intro H G vs ds dz Q e r ho q
  unfold oTuple at ho
  split at ho
  · rename_i ds
    cases ho
    cases r with
    | cons r t =>
      cases t
      obtain ⟨l, us, e1, h, ra⟩ := r
      subst e1
      refine ⟨l, us, rfl, .inl ⟨h, fun p hp => ?_⟩⟩
      have s := Stp.new (o := .tup us) e hp
      exact q _ _ _ s (R.tup (.of upd_same) (ra.mono s.eg))
  · cases ho
theorem je_tuple {p : Pos} (C : CxF K X E k) (hm : X.mg "tuple" = none) (hg : Gl X "tuple") (ha : JE K X M E .op a ta fa) (hs : starEach [a] X.env = (false, eval a X.env) :: starEach [] X.env := by rfl) : JE K X M E .cl (.Call (.Name "tuple" p) [a] [] pos) (tCB (rTupleA K) (tCons ta tNil)) (fB oTuple (fCons fa fNil)) := by
  have hK := C.hK
  subst hK
  exact je_callTy call_tuple_of cs_tuple hm (by decide +kernel) hg (ja_cons ha ja_nil hs) (by decide) (by decide) hs rfl
def rInt1 : List V → Hp → VK → Prop := fun xs H Q => (∃ i, xs = [.int i] ∧ Q (.int i) H) ∨ ∃ k, xs = [.bl k] ∧ Q (.int (if k then 1 else 0)) H
def oInt1 : List D → Option D
  | [.bool b] => some (.int (if b then 1 else 0))
  | [.int i] => some (.int i)
  | _ => none
theorem cs_int1 {K : PySem.W.Frag} : CallS K M .cl rInt1 oInt1 := by
  intro H G vs ds dz Q e r ho q
  unfold oInt1 at ho
  split at ho
  · rename_i b
    cases ho
    cases r with
    | cons r t =>
      cases t
      cases (show R K M G _ (.bool b) from r)
      exact .inr ⟨b, rfl, q _ H G (Stp.refl e) (R.int _)⟩
  · rename_i i
    cases ho
    cases r with
    | cons r t =>
      cases t
      cases (show R K M G _ (.int i) from r)
      exact .inl ⟨i, rfl, q _ H G (Stp.refl e) (R.int _)⟩
  · cases ho
theorem je_int1 {p : Pos} (hm : X.mg "int" = none) (hg : Gl X "int") (ha : JE K X M E .op a ta fa) (hs : starEach [a] X.env = (false, eval a X.env) :: starEach [] X.env := by rfl) : JE K X M E .cl (.Call (.Name "int" p) [a] [] pos) (tCB rInt1 (tCons ta tNil)) (fB oInt1 (fCons fa fNil)) :=
  je_callTy call_int1 cs_int1 hm (by decide +kernel) hg (ja_cons ha ja_nil hs) (by decide) (by decide) hs rfl

/-! list(range(a, b)), list(range(a, b, -1)) -/
theorem RA.rg {K : PySem.W.Frag} {G : Hp} (f : Nat → Int) : ∀ l : List Nat, RA K M G (l.map fun i => V.int (f i)) (l.map fun i => PyData.int (f i))
  | [] => .nil
  | i :: r => .cons (.int _) (RA.rg f r)
def fLrg (a : Fa) : Fe := fun γ => match a γ with
  | some (.ok [.int i, .int j]) => if rgOk i j = true then some (.ok (.list (rgD i j))) else none
  | some (.er c) => some (.er c)
  | _ => none
theorem je_listRg {p p2 pos2 : Pos} (C : CxF K X E k) (hm : X.mg "list" = none) (hg : Gl X "list") (hm2 : X.mg "range" = none) (hg2 : Gl X "range") (ha : JE K X M E .op a ta fa) (hb : JE K X M E .op b tb fb)
    (hs3 : starEach [a, b] X.env = (false, eval a X.env) :: starEach [b] X.env := by rfl) (hs4 : starEach [b] X.env = (false, eval b X.env) :: starEach [] X.env := by rfl) (hpl : (backTo pos2 (starEach [b] X.env)).any (·.1) = false := by rfl)
    (na : starEach [Expr.Call (.Name "range" p2) [a, b] [] pos2] X.env = (false, eval (Expr.Call (.Name "range" p2) [a, b] [] pos2) X.env) :: starEach [] X.env := by rfl) :
    JE K X M E .fr (.Call (.Name "list" p) [.Call (.Name "range" p2) [a, b] [] pos2] [] pos) (tLstRg (tRg2 ta tb)) (fLrg (fCons fa (fCons fb fNil))) := by
  have A := ja_cons ha (ja_cons hb (ja_nil (K := K) (X := X) (M := M) (E := E)) hs4) hs3
  refine ⟨pe_listRg C.calm hg hm (prg_2 hg2 hm2 ha.pe hb.pe hs3 hs4 hpl) na, fun H0 G0 γ σ H G Q r ev hf p => ?_⟩
  unfold fLrg at hf
  have key : ∀ (z : Rl), fCons fa (fCons fb fNil) γ = some z → PostA K M E H G (fun vs H1 => ∃ i j, vs = [V.int i, V.int j] ∧ RgOk i j ∧ ∀ q, H1 q = none → Q (.ref q) (upd H1 q (.lst (rgV i j)))) z → tLstRg (tRg2 ta tb) σ H Q := by
    intro z ez pz
    unfold tLstRg tRg2
    cases e1 : fa γ with
    | none => simp only [fCons, e1, bL] at ez; cases ez
    | some q1 =>
      cases q1 with
      | er cc =>
        have ez' : z = .er cc := by simp only [fCons, e1, bL] at ez; cases ez; rfl
        subst ez'
        exact ha.eo H0 G0 γ σ H G _ _ ev e1 pz
      | ok dx =>
        refine ha.eo H0 G0 γ σ H G _ _ ev e1 fun x H1 G1 s1 r1 => ?_
        cases e2 : fb γ with
        | none => simp only [fCons, e1, e2, bL, bLL] at ez; cases ez
        | some q2 =>
          cases q2 with
          | er cc =>
            have ez' : z = .er cc := by simp only [fCons, e1, e2, bL, bLL, fNil] at ez; cases ez; rfl
            subst ez'
            exact hb.eo H0 G0 γ σ H1 G1 _ _ (ev.stp s1) e2 fun H' G' s => pz H' G' (s1.trans s)
          | ok dy =>
            have ez' : z = .ok [dx, dy] := by simp only [fCons, e1, e2, bL, bLL, fNil] at ez; cases ez; rfl
            subst ez'
            refine hb.eo H0 G0 γ σ H1 G1 _ _ (ev.stp s1) e2 fun y H2 G2 s2 r2 => ?_
            obtain ⟨i, j, e3, ok, q⟩ := pz [x, y] H2 G2 (s1.trans s2) (.cons (r1.mono s2.ex s2.eg) (.cons r2 .nil))
            cases e3
            exact ⟨i, j, rfl, rfl, ok, q⟩
  split at hf
  · rename_i i j e1
    split at hf
    · rename_i hr
      cases hf
      refine key _ e1 fun vs H1 G1 s1 r1 => ?_
      cases r1 with
      | cons r t =>
        cases t with
        | cons r' t =>
          cases t
          cases (show R K M G1 _ (.int i) from r)
          cases (show R K M G1 _ (.int j) from r')
          have hz := hr
          unfold rgOk at hz
          simp only [Bool.and_eq_true, decide_eq_true_eq] at hz
          obtain ⟨b1, b2, b3, b4⟩ := rgOk_of hr
          refine ⟨i, j, rfl, ⟨b1, b2, b3, b4, by omega⟩, fun q hq => ?_⟩
          exact p _ _ G1 (s1.trans (Stp.newO s1.sub hq)) ⟨q, _, rfl, s1.ex.free hq, s1.sub.free hq, upd_same, RA.rg _ _⟩
    · cases hf
  · rename_i e1
    cases hf
    exact key _ e1 p
  · cases hf
def tLrg3 (ta : TA) : TE := fun σ H Q => ta σ H fun vs H1 => ∃ i j : Int, vs = [.int i, .int j, .int (-1)] ∧ (-(2 ^ 62) ≤ i ∧ i < 2 ^ 62 ∧ -(2 ^ 62) ≤ j ∧ j < 2 ^ 62 ∧ (i - j).toNat ≤ 2 ^ 24) ∧ ∀ q, H1 q = none → Q (.ref q) (upd H1 q (.lst ((List.range (i - j).toNat).map fun n => V.int (i + (n : Nat) * (-1)))))
theorem pe_listRg3 {ta : TA} {p p2 pos2 : Pos} (hc : X.calm = true) (hg : Gl X "list") (hm : X.mg "list" = none) (hg2 : Gl X "range") (hm2 : X.mg "range" = none) (ha : PA X [a, b, c] ta) (hs : starEach [a, b, c] X.env = (false, eval a X.env) :: starEach [b, c] X.env) (hpl : (backTo pos2 (starEach [b, c] X.env)).any (·.1) = false)
    (na : starEach [Expr.Call (.Name "range" p2) [a, b, c] [] pos2] X.env = (false, eval (Expr.Call (.Name "range" p2) [a, b, c] [] pos2) X.env) :: starEach [] X.env) : PE X (.Call (.Name "list" p) [.Call (.Name "range" p2) [a, b, c] [] pos2] [] pos) (tLrg3 ta) := by
  refine ⟨fun pins s σ H Q I h => ?_⟩
  refine Call_ (ld_blt I hg hm boot_list (PyProof.Rows.callWith_type1 (args_cons ?_ na) na))
  refine Call_ (ld_blt I hg2 hm2 boot_range (PyProof.Rows.callWith_type1 (thn (ha.run pos2 pins s σ H _ I h) fun us s1 ⟨vs, H1, I1, r1, q1⟩ => ?_) hs hpl))
  obtain ⟨i, j, e, ⟨b1, b2, b3, b4, b5⟩, q⟩ := q1
  subst e
  cases r1 with
  | cons r rr =>
    cases rr with
    | cons r' rr =>
      cases rr with
      | cons r'' rr =>
        cases rr
        obtain ⟨t, rfl⟩ := r
        obtain ⟨t', rfl⟩ := r'
        obtain ⟨t'', rfl⟩ := r''
        refine call_range_3 (by decide) (args_nil ?_) (.inl (PyProof.noPylong_small (by decide)))
        obtain ⟨c0, c1, c2, c3⟩ := RgC.neg b1 b2 b3 b4
        have I2 : Inv X pins σ H1 { s1 with heap := s1.heap.push { cls := .type "range", data := .fields #[.int i t, .int j t', .int (-1) t''] } } := I1.kept (t' := s1.toks) fun b o e => Heap.get?_push_of_some _ e
        refine call_list_range (n := (i - j).toNat) (I1.ok.hd hc) (IsRange.new ..) c2 c3 b5 fun h' tk acc c' hk e' hi => ?_
        refine ⟨.ref _, upd H1 _ (.lst ((List.range (i - j).toNat).map fun n => V.int (i + (n : Nat) * (-1)))), I2.laid hk (Nat.le_refl _) (show ObjOk X.prog X.w _ _ _ (.lst _) from ⟨?_, acc.toList, c', ?_, ?_⟩), rfl, q _ (I2.hok.fresh (Nat.le_refl _))⟩
        · rw [List.length_map, List.length_range, sizeLine_eq]; omega
        · have e : acc.toList.length = (i - j).toNat := by rw [Array.length_toList]; exact hi.1
          rw [← e]
          refine vals_of_get acc.toList _ fun n u hj => ?_
          obtain ⟨t, rfl⟩ := hi.2 n u (by rw [← hj, Array.getElem?_toList])
          exact ⟨t, rfl⟩
        · rw [Array.toArray_toList]; exact e'
def rgDn (i j : Int) : List D := (List.range (i - j).toNat).map fun n => .int (i + (n : Nat) * (-1))
def fLrg3 (a : Fa) : Fe := fun γ => match a γ with
  | some (.ok [.int i, .int j, .int (-1)]) => if rgOk i j = true then some (.ok (.list (rgDn i j))) else none
  | some (.er c) => some (.er c)
  | _ => none
theorem je_listRg3 {p p2 pos2 : Pos} (C : CxF K X E k) (hm : X.mg "list" = none) (hg : Gl X "list") (hm2 : X.mg "range" = none) (hg2 : Gl X "range") (ha : JE K X M E .op a ta fa) (hb : JE K X M E .op b tb fb) (hc : JE K X M E .op c tc fc)
    (hs2 : starEach [a, b, c] X.env = (false, eval a X.env) :: starEach [b, c] X.env := by rfl) (hs3 : starEach [b, c] X.env = (false, eval b X.env) :: starEach [c] X.env := by rfl) (hs4 : starEach [c] X.env = (false, eval c X.env) :: starEach [] X.env := by rfl) (hpl : (backTo pos2 (starEach [b, c] X.env)).any (·.1) = false := by rfl)
    (na : starEach [Expr.Call (.Name "range" p2) [a, b, c] [] pos2] X.env = (false, eval (Expr.Call (.Name "range" p2) [a, b, c] [] pos2) X.env) :: starEach [] X.env := by rfl) :
    JE K X M E .fr (.Call (.Name "list" p) [.Call (.Name "range" p2) [a, b, c] [] pos2] [] pos) (tLrg3 (tCons ta (tCons tb (tCons tc tNil)))) (fLrg3 (fCons fa (fCons fb (fCons fc fNil)))) := by
  have A := ja_cons ha (ja_cons hb (ja_cons hc (ja_nil (K := K) (X := X) (M := M) (E := E)) hs4) hs3) hs2
  refine ⟨pe_listRg3 C.calm hg hm hg2 hm2 A.pa hs2 hpl na, fun H0 G0 γ σ H G Q r ev hf p => ?_⟩
  unfold fLrg3 at hf
  split at hf
  · rename_i i j e1
    split at hf
    · rename_i hr
      cases hf
      refine A.ao H0 G0 γ σ H G _ _ ev e1 fun vs H1 G1 s1 r1 => ?_
      cases r1 with
      | cons r t =>
        cases t with
        | cons r' t =>
          cases t with
          | cons r'' t =>
            cases t
            cases (show R K M G1 _ (.int i) from r)
            cases (show R K M G1 _ (.int j) from r')
            cases (show R K M G1 _ (.int (-1)) from r'')
            have hz := hr
            unfold rgOk at hz
            simp only [Bool.and_eq_true, decide_eq_true_eq] at hz
            obtain ⟨b1, b2, b3, b4⟩ := rgOk_of hr
            refine ⟨i, j, rfl, ⟨b1, b2, b3, b4, by omega⟩, fun q hq => ?_⟩
            exact p _ _ G1 (s1.trans (Stp.newO s1.sub hq)) ⟨q, _, rfl, s1.ex.free hq, s1.sub.free hq, upd_same, RA.rg _ _⟩
    · cases hf
  · rename_i e1
    cases hf
    exact A.ao H0 G0 γ σ H G _ _ ev e1 p
  · cases hf

/-! isinstance(x, T), T a built-in type -/
def tyN : D → Option String
  | .none => some "NoneType"
  | .bool _ => some "bool"
  | .int _ => some "int"
  | .str _ => some "str"
  | .list _ => some "list"
  | .tuple _ => some "tuple"
  | .dict [] => some "dict"
  | .dict _ => none
def isT (T : String) (d : D) : Option Bool := match tyN d with
  | some n => some (n == T || (n == "bool" && T == "int"))
  | none => none
def oIsi (T : String) (d : D) : Option D := match isT T d with
  | some b => some (.bool b)
  | none => none
theorem kit_isT {T : String} (hT : T = "str" ∨ T = "int" ∨ T = "bool" ∨ T = "tuple" ∨ T = "list") {n : String} (hn : n = "NoneType" ∨ n = "bool" ∨ n = "int" ∨ n = "str" ∨ n = "list" ∨ n = "tuple" ∨ n = "dict") : kitB n T = some (n == T || (n == "bool" && T == "int")) := by
  rcases hT with rfl | rfl | rfl | rfl | rfl <;> rcases hn with rfl | rfl | rfl | rfl | rfl | rfl | rfl <;> decide +kernel
theorem tyx_of {K : PySem.W.Frag} {H G : Hp} {v : V} {d : D} {n : String} (e : Same G H) (r : RO K M H G v d) (h : tyN d = some n) : TyX K H v (.type n) := by
  cases d with
  | none => cases h; cases (show R K M G v .none from r); exact .base .non
  | bool b => cases h; cases (show R K M G v (.bool b) from r); exact .base (.bl b)
  | int b => cases h; cases (show R K M G v (.int b) from r); exact .base (.int b)
  | str b => cases h; cases (show R K M G v (.str b) from r); exact .base (.str b)
  | list ds =>
    cases h
    obtain ⟨l, us, e1, h, ra⟩ := r
    subst e1
    rcases h with (h | ⟨o, h⟩) | ⟨o, its, n, h, c, _⟩
    · exact .base (.lst h)
    · exact .base (.frz h)
    · exact .kList h c
  | tuple ds =>
    cases h
    obtain ⟨l, us, e1, h, ra⟩ := R.tupI (show R K M G v (.tuple ds) from r)
    subst e1
    rcases same_T e h with (h | ⟨o, h⟩) | ⟨o, its, n, h, c, _⟩
    · exact .base (.tup h)
    · exact .fTuple h
    · exact .kTuple h c
  | dict kvs =>
    cases kvs with
    | nil =>
      cases h
      cases (show R K M G v (.dict []) from r) with
      | edict h => exact .base (.dK (e _ _ h))
    | cons _ _ => cases h
theorem tyN_ok {d : D} {n : String} (h : tyN d = some n) : n = "NoneType" ∨ n = "bool" ∨ n = "int" ∨ n = "str" ∨ n = "list" ∨ n = "tuple" ∨ n = "dict" := by
  cases d with
  | dict kvs =>
    cases kvs with
    | nil => cases h; simp
    | cons _ _ => cases h
  | _ => cases h; simp
def rIsiA (K : PySem.W.Frag) : List V → Hp → VK → Prop := fun xs H Q => ∃ (x c : V) (t u : Value) (b : Bool), xs = [x, c] ∧ ClsV c u ∧ TyX K H x t ∧ PySem.W.kitOne K t u = some b ∧ Q (.bl b) H
theorem je_isi {T : String} {y : Str} {p p2 : Pos} (C : CxF K X E k) (hm : X.mg "isinstance" = none) (hg : Gl X "isinstance") (hm2 : X.mg y = none) (hg2 : Gl X y) (hv : bootBuiltins y = some (.type T)) (hT : T = "str" ∨ T = "int" ∨ T = "bool" ∨ T = "tuple" ∨ T = "list") (ha : JE K X M E .op a ta fa)
    (hn : y ≠ "__name__" := by decide) (hdb : (y == ("__debug__" : Str)) = false := by decide) (hs3 : starEach [a, .Name y p2] X.env = (false, eval a X.env) :: starEach [.Name y p2] X.env := by rfl) (hs4 : starEach [.Name y p2] X.env = (false, eval (.Name y p2) X.env) :: starEach [] X.env := by rfl) (hpl : (backTo pos (starEach [.Name y p2] X.env)).any (·.1) = false := by rfl) :
    JE K X M E .cl (.Call (.Name "isinstance" p) [a, .Name y p2] [] pos) (tCB (rIsiA K) (tCons ta (tCons (tC (.ty T)) tNil))) (f1 (oIsi T) fa) := by
  have hK := C.hK
  subst hK
  refine ⟨pe_callB call_isi hg hm (by decide +kernel) (pa_cons ha.pe (pa_cons (pe_bltn (v := .ty T) hg2 hm2 hv rfl hn hdb) pa_nil hs4) hs3) (by decide) (by decide) hs3 hpl, fun H0 G0 γ σ H G Q r ev hf p' => ?_⟩
  unfold f1 at hf
  cases e1 : fa γ with
  | none => rw [e1] at hf; cases hf
  | some q1 =>
    rw [e1] at hf
    cases q1 with
    | er c => cases hf; exact ha.eo H0 G0 γ σ H G _ _ ev e1 p'
    | ok d =>
      refine ha.eo H0 G0 γ σ H G _ _ ev e1 fun v H1 G1 s r1 => ?_
      simp only [bR, oIsi, isT] at hf
      cases e2 : tyN d with
      | none => rw [e2] at hf; cases hf
      | some n =>
        rw [e2] at hf
        cases hf
        exact ⟨v, .ty T, .type n, .type T, _, rfl, .ty T, tyx_of s.sub r1 e2, kit_ty (kit_isT hT (tyN_ok e2)), p' _ H1 G1 s (R.bl _)⟩

/-! texts -/
def strsOf : List D → Option (List Str)
  | [] => some []
  | .str b :: r => (match strsOf r with
    | some bs => some (b :: bs)
    | none => none)
  | _ :: _ => none
theorem strsOf_eq : ∀ {ds : List D} {bs : List Str}, strsOf ds = some bs → ds = bs.map PyData.str
  | [], bs, h => by cases h; rfl
  | d :: r, bs, h => by
    cases d with
    | str b =>
      unfold strsOf at h
      split at h
      · rename_i bs' e
        cases h
        rw [strsOf_eq e]
        rfl
      · cases h
    | _ => cases h
theorem strsOf_map : ∀ (bs : List Str), strsOf (bs.map PyData.str) = some bs
  | [] => rfl
  | b :: r => by
    show (match strsOf (r.map PyData.str) with | some bs => some (b :: bs) | none => none) = _
    rw [strsOf_map r]
def rJoinA (K : PySem.W.Frag) : V → List V → Hp → VK → Prop := fun x xs H Q => ∃ a p, ∃ ys : List Str, x = .str a ∧ xs = [.ref p] ∧ (SqL K H p (ys.map V.str) ∨ SqT K H p (ys.map V.str)) ∧
    (ys.map (·.length)).sum + ys.length * a.length ≤ 16777216 ∧ Q (.str (Txt.join a ys)) H
def fM1 (o : Str → D → Option D) (a b : Fe) : Fe := fun γ => match a γ with
  | some (.ok (.str z)) => bR (b γ) fun y => oR (o z y)
  | some (.er c) => some (.er c)
  | _ => none
/-- a method of texts with one argument, by values -/
def Mt1S (K : PySem.W.Frag) (M : Pm) (m : Md) (r : V → List V → Hp → VK → Prop) (o : Str → D → Option D) : Prop :=
  ∀ (H G : Hp) (z : Str) (y : V) (dy dz : D) (Q : VK), Same G H → RO K M H G y dy → o z dy = some dz → (∀ v H' G', Stp H G H' G' → Res K M m H H' G' v dz → Q v H') → r (.str z) [y] H Q
theorem eo_m1 {K : PySem.W.Frag} {r : V → List V → Hp → VK → Prop} {o : Str → D → Option D} (ho : Mt1S K M m r o) (ha : EO K M E .op ta fa) (hb : EO K M E .op tb fb) : EO K M E m (tM1 r ta tb) (fM1 o fa fb) := by
  intro H0 G0 γ σ H G Q q ev hf p
  unfold fM1 at hf
  split at hf
  · rename_i z e1
    refine ha H0 G0 γ σ H G _ _ ev e1 fun x H1 G1 s1 r1 => ?_
    cases (show R K M G1 x (.str z) from r1)
    refine ⟨⟨z, rfl⟩, ?_⟩
    cases e2 : fb γ with
    | none => rw [e2] at hf; cases hf
    | some q2 =>
      rw [e2] at hf
      cases q2 with
      | er c => cases hf; exact hb H0 G0 γ σ H1 G1 _ _ (ev.stp s1) e2 fun H' G' s' => p H' G' (s1.trans s')
      | ok dy =>
        refine hb H0 G0 γ σ H1 G1 _ _ (ev.stp s1) e2 fun y H2 G2 s2 r2 => ?_
        simp only [bR] at hf
        cases e3 : o z dy with
        | none => rw [e3] at hf; cases hf
        | some dz =>
          rw [e3] at hf
          cases hf
          exact ho H2 G2 z y dy dz Q s2.sub r2 e3 fun v H' G' s3 r3 => p v H' G' ((s1.trans s2).trans s3) (r3.up (s1.ex.trans s2.ex))
  · rename_i c e1
    cases hf
    exact ha H0 G0 γ σ H G _ _ ev e1 p
  · cases hf
def oJoin (a : Str) : D → Option D
  | .list ds => (match strsOf ds with
    | some ys => if (ys.map (·.length)).sum + ys.length * a.length ≤ big then some (.str (Txt.join a ys)) else none
    | none => none)
  | _ => none
theorem ms_join {K : PySem.W.Frag} : Mt1S K M .cl (rJoinA K) oJoin := by
  intro H G z y dy dz Q e r ho q
  unfold oJoin at ho
  split at ho
  · split at ho
    · rename_i ys es
      split at ho
      · rename_i hz
        cases ho
        have es := strsOf_eq es
        subst es
        obtain ⟨l, us, e3, h, ra⟩ := r
        subst e3
        exact ⟨z, l, ys, rfl, rfl, .inl (by rw [← ra.strs]; exact h), Nat.le_trans hz (by decide), q _ H G (Stp.refl e) (R.str _)⟩
      · cases ho
    · cases ho
  · cases ho
theorem je_join {apos : Pos} (C : CxF K X E k) (ha : JE K X M E .op a ta fa) (hb : JE K X M E .op b tb fb) (hs : starEach [b] X.env = [(false, eval b X.env)] := by rfl) (hbase : attributeBase a "join" X.env (eval a X.env) = eval a X.env := by rfl) (hline : (apos.endLine == pos.line) = true := by rfl) :
    JE K X M E .cl (.Call (.Attribute a "join" apos) [b] [] pos) (tM1 (rJoinA K) ta tb) (fM1 oJoin fa fb) := by
  have hK := C.hK
  subst hK
  exact ⟨pe_join ha.pe hb.pe hs hbase hline, eo_m1 ms_join ha.eo hb.eo⟩
def rSplitA : V → List V → Hp → VK → Prop := fun x xs H Q => ∃ a b, x = .str a ∧ xs = [.str b] ∧ (b.length == 0) = false ∧ a.length + 2 ≤ sizeLine ∧ rNewStrs (Txt.split a b) H Q
def oSplit (a : Str) : D → Option D
  | .str b => if (b.length == 0) = false ∧ a.length + 2 ≤ big then some (.list ((Txt.split a b).map .str)) else none
  | _ => none
theorem ms_split {K : PySem.W.Frag} : Mt1S K M .fr rSplitA oSplit := by
  intro H G z y dy dz Q e r ho q
  unfold oSplit at ho
  split at ho
  · rename_i b
    split at ho
    · rename_i hz
      cases ho
      cases (show R K M G y (.str b) from r)
      exact ⟨z, b, rfl, rfl, hz.1, big_line hz.2, fun p hp => q _ _ G (Stp.newO e hp) ⟨p, _, rfl, hp, e.free hp, upd_same, RA.of_strs _⟩⟩
    · cases ho
  · cases ho
theorem je_split {apos : Pos} (ha : JE K X M E .op a ta fa) (hb : JE K X M E .op b tb fb) (hs : starEach [b] X.env = [(false, eval b X.env)] := by rfl) (hbase : attributeBase a "split" X.env (eval a X.env) = eval a X.env := by rfl) (hline : (apos.endLine == pos.line) = true := by rfl) :
    JE K X M E .fr (.Call (.Attribute a "split" apos) [b] [] pos) (tM1 rSplitA ta tb) (fM1 oSplit fa fb) := ⟨pe_split ha.pe hb.pe hs hbase hline, eo_m1 ms_split ha.eo hb.eo⟩
end
end Py

namespace Py
open PySem PySem.Spec PyProof.Rows L2
/-- at the law's end -/
theorem law_end {K : PySem.W.Frag} {M : Pm} {φ : List D → Option Rs} {H : Hp} {a : Addr} {ns : List Int} (kp : M.kp = fun _ => none) (hS : SqL K H a (ns.map V.int)) (h : φ [.list (ns.map .int)] = some (.ok (.bool true))) : spF K M φ [.ref a] H (fun v _ => v = .bl true) fun _ _ _ => False :=
  ⟨H, _, _, Same.refl _, .cons (.lst hS (RA.of_ints ns)) .nil, h, fun v H' G' _ r => by
    cases (show R K M G' v (.bool true) from r)
    rfl, fun p o e => by rw [kp] at e; cases e⟩
theorem no_exc {P : Program} {w : World} {H : Hp} {s : Shared} {e : Value} {s' : Shared} (z : L2.CX P w [] H s (fun _ _ _ => False) e s') : False := by
  obtain ⟨_, _, _, _, _, _, _, _, _, _, _, _, z⟩ := z
  exact z.elim
end Py

/-! PyX: defs that share one list of one number -/
namespace Py
open PySem PySem.Spec PyProof.Rows L2

/-- a step of the heap that may change the list at o -/
structure StpX (o : Addr) (H G H' G' : Hp) : Prop where
  ex : ∀ (p : Addr) (u : HO), p ≠ o → H p = some u → H' p = some u
  eg : Same G G'
  sub : Same G' H'
  nw : ∀ (p : Addr) (u : HO), H p = some u → G p = none → G' p = none
/-- slot i is the shared list at o -/
structure EnvX (K : PySem.W.Frag) (M : Pm) (i : Nat) (o : Addr) (H0 G0 : Hp) (γ : Ge) (σ : L2.St) (H G : Hp) : Prop where
  ev : EnvR K M H0 G0 γ σ H G
  sp : σ[i]? = some (some (.ref o))
section
variable {K : PySem.W.Frag} {M : Pm} {H0 G0 H G H' G' : Hp} {γ : Ge} {σ : L2.St} {i : Nat} {o : Addr}
theorem EnvX.stp {H1 G1 : Hp} (e : EnvX K M i o H0 G0 γ σ H G) (s : Stp H G H1 G1) : EnvX K M i o H0 G0 γ σ H1 G1 := ⟨e.ev.stp s, e.sp⟩
theorem EnvX.setv {j : Nat} {v : V} {d : D} (e : EnvX K M i o H0 G0 γ σ H G) (hj : j ≠ i) (r : R K M G v d) : EnvX K M i o H0 G0 (γ.set j (.va d)) (σ.set j (some v)) H G :=
  ⟨e.ev.setv r, by rw [List.getElem?_set_ne hj]; exact e.sp⟩
theorem EnvX.own {ds : List D} (e : EnvX K M i o H0 G0 γ σ H G) (h : γ[i]? = some (.ow ds)) : ∃ vs, G o = none ∧ H0 o = none ∧ H o = some (.lst vs) ∧ RA K M G vs ds := by
  obtain ⟨p, vs, h1, h2⟩ := e.ev.ow h
  have q := e.sp
  rw [h1] at q
  cases q
  exact ⟨vs, h2⟩
theorem EnvX.call {ds es : List D} {ws : List V} (e : EnvX K M i o H0 G0 γ σ H G) (h : γ[i]? = some (.ow ds)) (s : StpX o H G H' G') (hw : H' o = some (.lst ws)) (rw_ : RA K M G' ws es) : EnvX K M i o H0 G0 (γ.set i (.ow es)) σ H' G' := by
  obtain ⟨vs, g, h0, hh, r⟩ := e.own h
  have hil : i < γ.length := (List.getElem?_eq_some_iff.mp h).1
  refine ⟨⟨⟨fun b u q => s.ex b u (ne_of_none q h0) (e.ev.st.ex b u q), e.ev.st.eg.trans s.eg, s.sub, fun p u q n => s.nw p _ (e.ev.st.ex p u q) (e.ev.st.nw p u q n)⟩, by rw [List.length_set]; exact e.ev.len, fun j t x q1 q2 => ?_, fun j k sj sk xj xk p h1 h2 h3 h4 h5 h6 => ?_, e.ev.kp⟩, e.sp⟩
  · by_cases hj : i = j
    · subst hj
      rw [List.getElem?_set_self hil] at q1
      rw [e.sp] at q2
      cases q1; cases q2
      exact ⟨o, ws, rfl, s.nw _ _ hh g, h0, hw, rw_⟩
    · rw [List.getElem?_set_ne hj] at q1
      have q := e.ev.sl j t x q1 q2
      cases t with
      | no => trivial
      | va d => obtain ⟨v, e1, rv⟩ := q; exact ⟨v, e1, rv.mono s.eg⟩
      | ow dj =>
        obtain ⟨p, vp, e1, gp, hp0, hp, rp⟩ := q
        subst e1
        have hpo : p ≠ o := by
          intro ep
          subst ep
          exact hj (e.ev.ap i j _ _ _ _ p h q1 e.sp q2 rfl rfl)
        exact ⟨p, vp, rfl, s.nw _ _ hp gp, hp0, s.ex _ _ hpo hp, rp.mono s.eg⟩
  · have key : ∀ (j : Nat) (t : Sl) (x : Option V), (γ.set i (.ow es))[j]? = some t → σ[j]? = some x → isO t x p → ∃ t', γ[j]? = some t' ∧ isO t' x p := by
      intro j t x q1 q2 q3
      by_cases hj : i = j
      · subst hj
        rw [List.getElem?_set_self hil] at q1
        cases q1
        exact ⟨_, h, q3⟩
      · rw [List.getElem?_set_ne hj] at q1
        exact ⟨t, q1, q3⟩
    obtain ⟨s1, a1, b1⟩ := key j sj xj h1 h3 h5
    obtain ⟨s2, a2, b2⟩ := key k sk xk h2 h4 h6
    exact e.ev.ap j k s1 s2 xj xk p a1 a2 h3 h4 b1 b2
end

/-! ### reckonings, judgements -/
abbrev Fx := Ge → Option (D × Ge)
abbrev Fxa := Ge → Option (List D × Ge)
inductive Ox | nx (γ : Ge) | rt (d : D) (γ : Ge)
abbrev Fxs := Ge → Option Ox
section
variable (K : PySem.W.Frag) (M : Pm) (i : Nat)
def XE (t : TE) (f : Fx) : Prop := ∀ (o : Addr) (H0 G0 : Hp) (γ : Ge) (σ : L2.St) (H G : Hp) (Q : VK) (d : D) (γ' : Ge), EnvX K M i o H0 G0 γ σ H G → f γ = some (d, γ') →
  (∀ v H' G', Same G G' → EnvX K M i o H0 G0 γ' σ H' G' → R K M G' v d → Q v H') → t σ H Q
def XA (t : TA) (f : Fxa) : Prop := ∀ (o : Addr) (H0 G0 : Hp) (γ : Ge) (σ : L2.St) (H G : Hp) (Q : List V → Hp → Prop) (ds : List D) (γ' : Ge), EnvX K M i o H0 G0 γ σ H G → f γ = some (ds, γ') →
  (∀ vs H' G', Same G G' → EnvX K M i o H0 G0 γ' σ H' G' → RA K M G' vs ds → Q vs H') → t σ H Q
def PostX (o : Addr) (H0 G0 : Hp) (De : Ends) : Ox → Prop
  | .nx γ => ∀ σ H G, EnvX K M i o H0 G0 γ σ H G → De.nx σ H
  | .rt d γ => ∀ v σ H G, EnvX K M i o H0 G0 γ σ H G → R K M G v d → De.rt v H
def XO (t : TS) (f : Fxs) : Prop := ∀ (o : Addr) (H0 G0 : Hp) (γ : Ge) (σ : L2.St) (H G : Hp) (De : Ends) (r : Ox), EnvX K M i o H0 G0 γ σ H G → f γ = some r → PostX K M i o H0 G0 De r → t De σ H
end
structure JXE (K : PySem.W.Frag) (X : Cx) (M : Pm) (i : Nat) (e : Expr) (t : TE) (f : Fx) : Prop where
  pe : PE X e t
  xe : XE K M i t f
structure JXA (K : PySem.W.Frag) (X : Cx) (M : Pm) (i : Nat) (es : List Expr) (t : TA) (f : Fxa) : Prop where
  pa : PA X es t
  xa : XA K M i t f
structure JXS (K : PySem.W.Frag) (X : Cx) (M : Pm) (i : Nat) (st : Stmt) (t : TS) (f : Fxs) : Prop where
  ps : PS X st t
  xo : XO K M i t f
structure JXB (K : PySem.W.Frag) (X : Cx) (M : Pm) (i : Nat) (st : List Stmt) (t : TS) (f : Fxs) : Prop where
  ps : PSs X st t
  xo : XO K M i t f
def xOf (f : Fe) : Fx := fun γ => match f γ with
  | some (.ok d) => some (d, γ)
  | _ => none
def xNil : Fxa := fun γ => some ([], γ)
def xCons (f : Fx) (g : Fxa) : Fxa := fun γ => match f γ with
  | some (d, γ1) => (match g γ1 with
    | some (ds, γ2) => some (d :: ds, γ2)
    | none => none)
  | none => none
def xTup (f : Fxa) : Fx := fun γ => match f γ with
  | some (ds, γ1) => if ds.length ≤ big then some (.tuple ds, γ1) else none
  | none => none
def xCallP (φ : List D → Option Rs) (f : Fxa) : Fx := fun γ => match f γ with
  | some (ds, γ1) => (match φ ds with
    | some (.ok d) => some (d, γ1)
    | _ => none)
  | none => none
abbrev Phx := D → Int → List D → Option (D × Int)
def xCall (i : Nat) (φ : Phx) (f0 : Fe) (fr : Fa) : Fx := fun γ => match f0 γ with
  | some (.ok d0) => (match γ[i]? with
    | some (.ow [.int k]) => (match fr γ with
      | some (.ok ds) => (match φ d0 k ds with
        | some (d, k') => some (d, γ.set i (.ow [.int k']))
        | none => none)
      | _ => none)
    | _ => none)
  | _ => none
def xSet (j : Nat) (f : Fx) : Fxs := fun γ => match f γ with
  | some (d, γ1) => some (.nx (γ1.set j (.va d)))
  | none => none
def xRet (f : Fx) : Fxs := fun γ => match f γ with
  | some (d, γ1) => some (.rt d γ1)
  | none => none
def xIf (c : Ft) (f g : Fxs) : Fxs := fun γ => match c γ with
  | some (.ok true) => f γ
  | some (.ok false) => g γ
  | _ => none
def xNext : Fxs := fun γ => some (.nx γ)
def xSeq (f g : Fxs) : Fxs := fun γ => match f γ with
  | some (.nx γ1) => g γ1
  | r => r
def xPut (i : Nat) (fi : Fe) (fa : Fe) : Fxs := fun γ => match fa γ with
  | some (.ok d) => (match γ[i]? with
    | some (.ow ds) => (match fi γ with
      | some (.ok (.int k)) => (match ixN ds.length k with
        | some j => some (.nx (γ.set i (.ow (ds.set j d))))
        | none => none)
      | _ => none)
    | _ => none)
  | _ => none
/-- the promise of a def with the shared list -/
def spS (K : PySem.W.Frag) (M : Pm) (φ : Phx) : Sp := fun vs H Q E => ∃ (G : Hp) (o : Addr) (k : Int) (v0 : V) (d0 : D) (vr : List V) (ds : List D) (d : D) (k' : Int), vs = v0 :: .ref o :: vr ∧ Same G H ∧ G o = none ∧ H o = some (.lst [.int k]) ∧
  R K M G v0 d0 ∧ RA K M G vr ds ∧ φ d0 k ds = some (d, k') ∧ (∀ v H' G', StpX o H G H' G' → H' o = some (.lst [.int k']) → R K M G' v d → Q v H') ∧ Same M.kp (fun p => if p = o then none else H p)
def entryX (n : Nat) (d0 : D) (k : Int) (ds : List D) : Ge := (entry n (d0 :: .none :: ds)).set 1 (.ow [.int k])
def runX (np n : Nat) (f : Fxs) : Phx := fun d0 k ds => if ds.length + 2 = np then (match f (entryX n d0 k ds) with
  | some (Ox.rt d γ) => (match (γ[1]? : Option Sl) with
    | some (Sl.ow [PyData.int k']) => some (d, k')
    | _ => none)
  | _ => none) else none

section
variable {K : PySem.W.Frag} {X : Cx} {M : Pm} {E : XK} {k : Nat} {i : Nat} {a b e c : Expr} {ta tb te : TE} {fa fb : Fe} {Fa_ Fb_ : Fx} {pos : Pos} {t u : TS} {f g : Fxs} {st : Stmt} {rest : List Stmt}
theorem xe_of (h : JE K X M E .cl a ta fa) : JXE K X M i a ta (xOf fa) := ⟨h.pe, fun o H0 G0 γ σ H G Q d γ' ev hf p => by
  unfold xOf at hf
  split at hf
  · rename_i d' e1
    cases hf
    exact h.eo H0 G0 γ σ H G _ _ ev.ev e1 fun v H' G' s r => p v H' G' s.eg (ev.stp s) r
  · cases hf⟩
theorem xa_nil : JXA K X M i [] tNil xNil := ⟨pa_nil, fun o H0 G0 γ σ H G Q ds γ' ev hf p => by cases hf; exact p [] H G (Same.refl _) ev .nil⟩
theorem xa_cons {es : List Expr} {tr : TA} {fr : Fxa} (ha : JXE K X M i a ta Fa_) (hr : JXA K X M i es tr fr) (hs : starEach (a :: es) X.env = (false, eval a X.env) :: starEach es X.env := by rfl) : JXA K X M i (a :: es) (tCons ta tr) (xCons Fa_ fr) :=
  ⟨pa_cons ha.pe hr.pa hs, fun o H0 G0 γ σ H G Q ds γ' ev hf p => by
    unfold xCons at hf
    split at hf
    · rename_i d γ1 e1
      split at hf
      · rename_i ds' γ2 e2
        cases hf
        exact ha.xe o H0 G0 γ σ H G _ _ _ ev e1 fun v H1 G1 s1 ev1 r1 => hr.xa o H0 G0 γ1 σ H1 G1 _ _ _ ev1 e2 fun vs H2 G2 s2 ev2 r2 => p _ H2 G2 (s1.trans s2) ev2 (.cons (r1.mono s2) r2)
      · cases hf
    · cases hf⟩
theorem xe_tup {es : List Expr} {tr : TA} {fr : Fxa} {x1 : Nat} (h : JXA K X M i es tr fr) : JXE K X M i (.Tuple es x1 pos) (tTup tr) (xTup fr) :=
  ⟨pe_tup h.pa, fun o H0 G0 γ σ H G Q d γ' ev hf p => by
    unfold xTup at hf
    split at hf
    · rename_i ds γ1 e1
      split at hf
      · rename_i hz
        cases hf
        refine h.xa o H0 G0 γ σ H G _ _ _ ev e1 fun vs H1 G1 s1 ev1 r1 => ⟨by rw [r1.len]; exact big_line hz, fun q hq => ?_⟩
        have s := Stp.new (o := .tup vs) ev1.ev.sub hq
        exact p _ _ _ (s1.trans s.eg) (ev1.stp s) (R.tup (.of upd_same) (r1.mono s.eg))
      · cases hf
    · cases hf⟩
theorem xe_callP {φ : List D → Option Rs} {j : Nat} {fd : FuncData} {fn : Addr} {ps : List Str} {x : Str} {p : Pos} {es : List Expr} {tr : TA} {fr : Fxa} (C : CxF K X E k)
    (F : FnOk X.prog X.w X.K X.mg X.base (L2.CX X.prog X.w) j fn fd ps (spF K M φ)) (hj : j ≤ k) (hb : Binds X.K fd ps []) (hm : X.mg x = some (.ref fn)) (hk : PySem.W.keepIn X.K (.ref fn) = true) (hg : Gl X x) (ha : JXA K X M i (a :: es) tr fr)
    (hdb : (x == ("__debug__" : Str)) = false := by decide) (he : starEach (a :: es) X.env = (false, eval a X.env) :: starEach es X.env := by rfl) (hpl : (backTo pos (starEach es X.env)).any (·.1) = false := by rfl) :
    JXE K X M i (.Call (.Name x p) (a :: es) [] pos) (tCallS (spF K M φ) (fun _ => E) tr) (xCallP φ fr) := by
  have hK := C.hK
  subst hK
  refine ⟨pe_callS F (C.room.mono hj) hg hm hk hb (passesAt_of C.pas) ha.pa hdb he hpl, fun o H0 G0 γ σ H G Q d γ' ev hf p => ?_⟩
  unfold xCallP at hf
  split at hf
  · rename_i ds γ1 e1
    split at hf
    · rename_i d' e2
      cases hf
      exact ha.xa o H0 G0 γ σ H G _ _ _ ev e1 fun vs H1 G1 s1 ev1 r1 => ⟨G1, ds, .ok d, ev1.ev.sub, r1, e2, fun v H' G' s' r' => p v H' G' (s1.trans s'.eg) (ev1.stp s') r', ev1.ev.kp.trans ev1.ev.st.ex⟩
    · cases hf
  · cases hf
theorem xe_call {φ : Phx} {j : Nat} {fd : FuncData} {fn : Addr} {ps : List Str} {x y : Str} {p py : Pos} {es : List Expr} {tr : TA} {fr : Fa} (C : CxF K X E k)
    (F : FnOk X.prog X.w X.K X.mg X.base (L2.CX X.prog X.w) j fn fd ps (spS K M φ)) (hj : j ≤ k) (hb : Binds X.K fd ps []) (hm : X.mg x = some (.ref fn)) (hk : PySem.W.keepIn X.K (.ref fn) = true) (hg : Gl X x)
    (h0 : JE K X M E .cl a ta fa) (hy : PE X (.Name y py) (tVar i)) (ha : JC K X M E es tr fr)
    (hdb : (x == ("__debug__" : Str)) = false := by decide) (hs : starEach (.Name y py :: es) X.env = (false, eval (.Name y py) X.env) :: starEach es X.env := by rfl) (he : starEach (a :: .Name y py :: es) X.env = (false, eval a X.env) :: starEach (.Name y py :: es) X.env := by rfl)
    (hpl : (backTo pos (starEach (.Name y py :: es) X.env)).any (·.1) = false := by rfl) :
    JXE K X M i (.Call (.Name x p) (a :: .Name y py :: es) [] pos) (tCallS (spS K M φ) (fun _ => E) (tCons ta (tCons (tVar i) tr))) (xCall i φ fa fr) := by
  have hK := C.hK
  subst hK
  refine ⟨pe_callS F (C.room.mono hj) hg hm hk hb (passesAt_of C.pas) (pa_cons h0.pe (pa_cons hy ha.pa hs) he) hdb he hpl, fun o H0 G0 γ σ H G Q d γ' ev hf p => ?_⟩
  unfold xCall at hf
  split at hf
  · rename_i d0 e0
    split at hf
    · rename_i n e1
      split at hf
      · rename_i ds e2
        split at hf
        · rename_i d' n' e3
          cases hf
          refine h0.eo H0 G0 γ σ H G _ _ ev.ev e0 fun v0 H1 G1 s1 r1 => ?_
          refine ⟨.ref o, ev.sp, ?_⟩
          refine ha.ac H0 G0 γ σ H1 G1 _ _ (ev.ev.stp s1) e2 fun vr H2 G2 s2 r2 => ?_
          have ev2 := (ev.stp s1).stp s2
          obtain ⟨vs, hgo, h0o, ho, rv⟩ := ev2.own e1
          have evs : vs = [.int n] := by
            have q := RA.ints (bs := [n]) rv
            simpa using q
          subst evs
          refine ⟨G2, o, n, v0, d0, vr, ds, d, n', rfl, s2.sub, hgo, ho, r1.mono s2.eg, r2, e3, fun v H' G' s' ho' r' => ?_, fun q u e => ?_⟩
          · exact p v H' G' ((s1.eg.trans s2.eg).trans s'.eg) (ev2.call e1 s' ho' (RA.of_ints [n'])) r'
          · have q0 := ev2.ev.kp q u e
            have : q ≠ o := fun z => by rw [z, h0o] at q0; cases q0
            show (if q = o then none else H2 q) = some u
            rw [if_neg this]
            exact ev2.ev.st.ex q u q0
        · cases hf
      · cases hf
    · cases hf
  · cases hf
theorem xb_nil : JXB K X M i [] tNext xNext := ⟨pss_nil, fun o H0 G0 γ σ H G De r ev hf p => by cases hf; exact p σ H G ev⟩
theorem xb_one (h : JXS K X M i st t f) : JXB K X M i [st] t f := ⟨pss_one h.ps, h.xo⟩
theorem xb_cons (h1 : JXS K X M i st t f) (h2 : JXB K X M i rest u g) : JXB K X M i (st :: rest) (tSeq t u) (xSeq f g) := ⟨pss_cons h1.ps h2.ps, fun o H0 G0 γ σ H G De r ev hf p => by
  unfold xSeq at hf
  split at hf
  · rename_i γ1 e1
    exact h1.xo o H0 G0 γ σ H G { De with nx := u De } _ ev e1 fun σ' H' G' ev' => h2.xo o H0 G0 γ1 σ' H' G' De r ev' hf p
  · rename_i hn
    refine h1.xo o H0 G0 γ σ H G { De with nx := u De } r ev hf ?_
    cases r with
    | nx γ1 => exact absurd hf (hn γ1)
    | rt d γ1 => exact p⟩
theorem xs_ret (ha : JXE K X M i a ta Fa_) : JXS K X M i (.Return (some a) pos) (tRet ta) (xRet Fa_) := ⟨ps_ret ha.pe, fun o H0 G0 γ σ H G De r ev hf p => by
  unfold xRet at hf
  split at hf
  · rename_i d γ1 e1
    cases hf
    exact ha.xe o H0 G0 γ σ H G _ _ _ ev e1 fun v H' G' s ev' rv => p v σ H' G' ev' rv
  · cases hf⟩
theorem xs_if {tt : TT} {ft : Ft} {as bs : List Stmt} (hc : JT K X M E c tt ft) (ha : JXB K X M i as t f) (hb : JXB K X M i bs u g) : JXS K X M i (.If c as bs pos) (tIfS tt t u) (xIf ft f g) := ⟨ps_if hc.pt ha.ps hb.ps, fun o H0 G0 γ σ H G De r ev hf p => by
  unfold xIf at hf
  split at hf
  · rename_i e1
    refine hc.to H0 G0 γ σ H G _ _ ev.ev e1 fun H' G' s => ?_
    rw [if_pos rfl]
    exact ha.xo o H0 G0 γ σ H' G' De r (ev.stp s) hf p
  · rename_i e1
    refine hc.to H0 G0 γ σ H G _ _ ev.ev e1 fun H' G' s => ?_
    rw [if_neg Bool.false_ne_true]
    exact hb.xo o H0 G0 γ σ H' G' De r (ev.stp s) hf p
  · cases hf⟩
theorem xs_set {j : Nat} {x : Str} {p0 : Pos} (hN : X.N.Nodup) (ha : JXE K X M i a ta Fa_) (hj : j ≠ i := by decide) (hi : X.N[j]? = some x := by rfl) (hx : Loc X.env.scope x := by first | exact Or.inl rfl | exact Or.inr rfl) (hs : swapsWith a (some (.Name x p0)) pos.line X.env = pure false := by rfl) (hf : X.fn x = true ∨ X.env.scope.names.lookup x = some .local := by first | exact .inl rfl | exact .inr rfl) :
    JXS K X M i (.Assign [.Name x p0] a pos) (tAsg ta (gName j)) (xSet j Fa_) := ⟨ps_set hN hi hx ha.pe hs hf, fun o H0 G0 γ σ H G De r ev hfx p => by
  unfold xSet at hfx
  split at hfx
  · rename_i d γ1 e1
    cases hfx
    exact ha.xe o H0 G0 γ σ H G _ _ _ ev e1 fun v H' G' s ev' rv => p _ H' G' (ev'.setv hj rv)
  · cases hfx⟩
theorem xs_put {y : Str} {p0 : Pos} {ti : TE} {fi : Fe} {pos' : Pos} (ha : JE K X M E .cl a ta fa) (hy : PE X (.Name y p0) (tVar i)) (hi : JE K X M E .op b ti fi)
    (hs : swapsWithSole [.Subscript (.Name y p0) b pos'] a pos.line X.env = pure false := by rfl) (hw : swappedStores [.Subscript (.Name y p0) b pos'] a X.env = pure none := by rfl) (h1 : (assignEach [.Subscript (.Name y p0) b pos'] X.env).map (·.2) = [assign (.Subscript (.Name y p0) b pos') X.env] := by rfl)
    (hgg : ∀ v, assign (.Subscript (.Name y p0) b pos') X.env v = (do
      let ov ← holding [v] (eval (.Name y p0) X.env)
      let iv ← holding [v, ov] (eval b X.env)
      standAt pos'
      holding [v, ov, iv] (setItem ov iv v)
      release [v, ov, iv] []) := by intro _; rfl) :
    JXS K X M i (.Assign [.Subscript (.Name y p0) b pos'] a pos) (tAsg ta (gSub (tVar i) ti rSetL)) (xPut i fi fa) := ⟨ps_asg ha.pe (pg_sub hy hi.pe set_list hgg) hs hw h1, fun o H0 G0 γ σ H G De r ev hf p => by
  unfold xPut at hf
  split at hf
  · rename_i d e0
    split at hf
    · rename_i ds e1
      split at hf
      · rename_i n e2
        split at hf
        · rename_i j e3
          cases hf
          refine ha.eo H0 G0 γ σ H G _ _ ev.ev e0 fun v H1 G1 s1 r1 => ?_
          refine ⟨.ref o, ev.sp, ?_⟩
          refine hi.eo H0 G0 γ σ H1 G1 _ _ (ev.ev.stp s1) e2 fun w H2 G2 s2 r2 => ?_
          cases (show R K M G2 w (.int n) from r2)
          have ev2 := (ev.stp s1).stp s2
          obtain ⟨vs, hgo, h0o, ho, rv⟩ := ev2.own e1
          refine ⟨o, vs, n, j, rfl, rfl, ho, by rw [rv.len]; exact e3, ?_⟩
          exact p σ _ G2 ⟨ev2.ev.wr e1 ev.sp ho (RA.set (r1.mono s2.eg) j rv), ev.sp⟩
        · cases hf
      · cases hf
    · cases hf
  · cases hf⟩
/-- in a plain body: return of such an expression -/
def sRetX (f : Fx) : Fs := fun γ => match f γ with
  | some (d, _) => some (.rt d)
  | none => none
/-- what it reckons needs the shared list -/
def Us (i : Nat) (f : Fx) : Prop := ∀ (γ : Ge) (d : D) (γ' : Ge), f γ = some (d, γ') → ∃ ds, γ[i]? = some (.ow ds)
def Usa (i : Nat) (f : Fxa) : Prop := ∀ (γ : Ge) (d : List D) (γ' : Ge), f γ = some (d, γ') → ∃ ds, γ[i]? = some (.ow ds)
theorem us_call {φ : Phx} {fr : Fa} : Us i (xCall i φ fa fr) := fun γ d γ' h => by
  unfold xCall at h
  split at h
  · split at h
    · rename_i n e1; exact ⟨_, e1⟩
    · cases h
  · cases h
theorem usa_cons {fr : Fxa} (h1 : Us i Fa_) : Usa i (xCons Fa_ fr) := fun γ d γ' h => by
  unfold xCons at h
  split at h
  · rename_i e1; exact h1 _ _ _ e1
  · cases h
theorem us_callP {φ : List D → Option Rs} {fr : Fxa} (h1 : Usa i fr) : Us i (xCallP φ fr) := fun γ d γ' h => by
  unfold xCallP at h
  split at h
  · rename_i e1; exact h1 _ _ _ e1
  · cases h
theorem js_retX (i : Nat) (ha : JXE K X M i a ta Fa_) (hw : Us i Fa_) : JS K X M E (.Return (some a) pos) (tRet ta) (sRetX Fa_) := ⟨ps_ret ha.pe, fun H0 G0 γ σ H G De o ev hf p => by
  unfold sRetX at hf
  split at hf
  · rename_i d γ1 e1
    cases hf
    obtain ⟨ds, e2⟩ := hw _ _ _ e1
    obtain ⟨q, vs, h1, _⟩ := ev.ow e2
    exact ha.xe q H0 G0 γ σ H G _ _ _ ⟨ev, h1⟩ e1 fun v H' G' s ev' rv => p v H' G' ev'.ev.st rv
  · cases hf⟩
end
/-! ### the rule of such a def -/
theorem EnvR.base {K : PySem.W.Frag} {M : Pm} {H0 G0 H1 G1 H G : Hp} {γ : Ge} {σ : L2.St} (e : EnvR K M H1 G1 γ σ H G) (n : ∀ (j : Nat) (ds : List D), γ[j]? ≠ some (.ow ds)) (s : Stp H0 G0 H G) (kp : Same M.kp H0) : EnvR K M H0 G0 γ σ H G :=
  ⟨s, e.len, fun i sl x h1 h2 => by
    have q := e.sl i sl x h1 h2
    cases sl with
    | no => trivial
    | va d => exact q
    | ow ds => exact absurd h1 (n i ds), e.ap, kp⟩
theorem entry_noow {n : Nat} {ds : List D} (j : Nat) (es : List D) : (entry n ds)[j]? ≠ some (.ow es) := by
  intro h
  have m := List.mem_of_getElem? h
  unfold entry at m
  rcases List.mem_append.mp m with q | q
  · obtain ⟨d, _, e⟩ := List.mem_map.mp q; cases e
  · have := (List.mem_replicate.mp q).2; cases this
def eraseH (o : Addr) (H : Hp) : Hp := fun p => if p = o then none else H p
theorem erase_o {o : Addr} {H : Hp} : eraseH o H o = none := by unfold eraseH; rw [if_pos rfl]
theorem erase_ne {o p : Addr} {H : Hp} {u : HO} (h : eraseH o H p = some u) : p ≠ o ∧ H p = some u := by
  unfold eraseH at h
  split at h
  · cases h
  · rename_i n; exact ⟨n, h⟩
theorem env_entryX {K : PySem.W.Frag} {M : Pm} {H G : Hp} {N : List Str} {v0 : V} {o : Addr} {vr : List V} {d0 : D} {k : Int} {ds : List D} (e : Same G H) (hg : G o = none) (ho : H o = some (.lst [.int k])) (r0 : R K M G v0 d0) (rr : RA K M G vr ds) (kp : Same M.kp (eraseH o H)) :
    EnvX K M 1 o (eraseH o H) G (entryX N.length d0 k ds) (L2.start N (v0 :: .ref o :: vr)) H G := by
  have e1 := env_entry (N := N) e (RA.cons r0 (RA.cons .non rr)) (kp.trans fun p u q => (erase_ne q).2)
  have st : Stp (eraseH o H) G H G := ⟨fun p u q => (erase_ne q).2, Same.refl _, e, fun _ _ _ n => n⟩
  have e2 := e1.base entry_noow st kp
  have e3 := e2.seto (i := 1) (HS := H) (o := o) (vs := [.int k]) (ds := [.int k]) (fun j dj p _ h => absurd h (entry_noow j dj)) hg erase_o ho (RA.of_ints [k])
  have es : (L2.start N (v0 :: .non :: vr)).set 1 (some (.ref o)) = L2.start N (v0 :: .ref o :: vr) := by unfold L2.start; rfl
  rw [es] at e3
  exact ⟨e3, by unfold L2.start; rfl⟩
theorem fnX_ok {P : Program} {w : World} {K : PySem.W.Frag} {mg : Str → Option Value} {base : Heap} {M : Pm} {x qual : Str} {st : Stmt} {f : Addr} {fd : FuncData} {N ps : List Str} {k : Nat} {g : Fxs} (F : Fun K x qual st f fd) (S : FnScope N ps (defScope st))
    (hb : ∀ (cdv : Value) (A : Around) (outer : List Env) (s : Shared) (H : Hp) (E : XK), CxF K (cxOf (L2.CX P w) P w K mg base N qual (defScope st) f cdv A outer s H E) E k → Takes (cxOf (L2.CX P w) P w K mg base N qual (defScope st) f cdv A outer s H E) (fun cls d _ H => E cls d H) →
      ∃ t, JXB K (cxOf (L2.CX P w) P w K mg base N qual (defScope st) f cdv A outer s H E) M 1 (defBody st) t g) : FnOk P w K mg base (L2.CX P w) (k + 1) f fd ps (spS K M (runX ps.length N.length g)) := by
  have len : ∀ vs H Q E, spS K M (runX ps.length N.length g) vs H Q E → vs.length = ps.length := by
    rintro vs H Q E ⟨G, o, n, v0, d0, vr, ds, d, n', rfl, _, _, _, _, ra, e, _⟩
    unfold runX at e
    split at e
    · rename_i hl
      simp only [List.length_cons, ra.len]
      omega
    · cases e
  refine F.okX S len fun cdv A outer s H vs Q E hr h => ?_
  obtain ⟨C, tk⟩ := cxf_of (P := P) (w := w) (K := K) (mg := mg) (base := base) (qual := qual) (s := s) (H := H) (E := E) (outer := outer) S hr
  obtain ⟨t, J⟩ := hb cdv A outer s H E C tk
  refine ⟨t, J.ps, ?_⟩
  obtain ⟨G, o, n, v0, d0, vr, ds, d, n', rfl, e, hg, ho, r0, ra, er, p, kp⟩ := h
  unfold runX at er
  split at er
  · split at er
    · rename_i d1 γ1 ef
      split at er
      · rename_i k1 ek
        cases er
        refine J.xo o (eraseH o H) G _ _ H G _ _ (env_entryX e hg ho r0 ra kp) ef fun v σ' H' G' ev rv => ?_
        obtain ⟨vs, hgo, h0o, ho', rv'⟩ := ev.own ek
        have evs : vs = [.int n'] := by
          have q := RA.ints (bs := [n']) rv'
          simpa using q
        subst evs
        refine p v H' G' ⟨fun q u hq h => ev.ev.st.ex q u (by unfold eraseH; rw [if_neg hq]; exact h), ev.ev.st.eg, ev.ev.st.sub, fun q u h n => ?_⟩ ho' rv
        by_cases hq : q = o
        · subst hq; exact hgo
        · exact ev.ev.st.nw q u (by unfold eraseH; rw [if_neg hq]; exact h) n
      · cases er
    · cases er
  · cases er
/-- of a def of which nothing is told -/
theorem fn_none {P : Program} {w : World} {K : PySem.W.Frag} {mg : Str → Option Value} {base : Heap} {M : Pm} {f : Addr} {fd : FuncData} {ps : List Str} {k : Nat} : FnOk P w K mg base (L2.CX P w) k f fd ps (spF K M fun _ => none) := by
  have no : ∀ vs H Q E, ¬ spF K M (fun _ => none) vs H Q E := by
    rintro vs H Q E ⟨_, _, _, _, _, e, _⟩
    cases e
  exact ⟨fun vs H Q E h => absurd h (no vs H Q E), fun A outer s H args us vs Q E _ _ _ _ h => absurd h (no vs H Q E)⟩
theorem fnX_zero {P : Program} {w : World} {K : PySem.W.Frag} {mg : Str → Option Value} {base : Heap} {M : Pm} {f : Addr} {fd : FuncData} {ps : List Str} {k : Nat} : FnOk P w K mg base (L2.CX P w) k f fd ps (spS K M fun _ _ _ => none) := by
  have no : ∀ vs H Q E, ¬ spS K M (fun _ _ _ => none) vs H Q E := by
    rintro vs H Q E ⟨_, _, _, _, _, _, _, _, _, _, _, _, _, _, _, e, _⟩
    cases e
  exact ⟨fun vs H Q E h => absurd h (no vs H Q E), fun A outer s H args us vs Q E _ _ _ _ h => absurd h (no vs H Q E)⟩
end Py

/-! PyS: statements as data; what evaluates -/
namespace Py
open PySem PySem.Spec PyProof.Rows L2

inductive Sta
  | mark (m : Str) | yes | nt (s : Sta) | an (s t : Sta) | or (s t : Sta) | nx (s : Sta) | un (s t : Sta) | wi (k : Nat) (s : Sta) | bf (s : Sta) | si (s t : Sta)
  deriving DecidableEq
def enc : Sta → D
  | .mark m => .tuple [.str "mark", .str m]
  | .yes => .tuple [.str "yes"]
  | .nt s => .tuple [.str "not", enc s]
  | .an s t => .tuple [.str "and", enc s, enc t]
  | .or s t => .tuple [.str "or", enc s, enc t]
  | .nx s => .tuple [.str "next", enc s]
  | .un s t => .tuple [.str "until", enc s, enc t]
  | .wi k s => .tuple [.str "within", .int k, enc s]
  | .bf s => .tuple [.str "before", enc s]
  | .si s t => .tuple [.str "since", enc s, enc t]
def Sta.depth : Sta → Nat
  | .mark _ => 1
  | .yes => 1
  | .nt s => s.depth + 1
  | .an s t => max s.depth t.depth + 1
  | .or s t => max s.depth t.depth + 1
  | .nx s => s.depth + 1
  | .un s t => max s.depth t.depth + 1
  | .wi _ s => s.depth + 1
  | .bf s => s.depth + 1
  | .si s t => max s.depth t.depth + 1
/-- every mark in it keeps p -/
def Sta.Marks (p : Str → Prop) : Sta → Prop
  | .mark m => p m
  | .yes => True
  | .nt s => s.Marks p
  | .an s t => s.Marks p ∧ t.Marks p
  | .or s t => s.Marks p ∧ t.Marks p
  | .nx s => s.Marks p
  | .un s t => s.Marks p ∧ t.Marks p
  | .wi _ s => s.Marks p
  | .bf s => s.Marks p
  | .si s t => s.Marks p ∧ t.Marks p
theorem Sta.depth_pos (s : Sta) : 1 ≤ s.depth := by cases s <;> simp [Sta.depth]
theorem enc_depth : ∀ s : Sta, (enc s).depth ≤ s.depth
  | .mark m => by simp [enc, PyData.depth, PyData.depthAll, Sta.depth]
  | .yes => by simp [enc, PyData.depth, PyData.depthAll, Sta.depth]
  | .nt s => by have := enc_depth s; simp [enc, PyData.depth, PyData.depthAll, Sta.depth]; omega
  | .an s t => by have := enc_depth s; have := enc_depth t; simp [enc, PyData.depth, PyData.depthAll, Sta.depth]; omega
  | .or s t => by have := enc_depth s; have := enc_depth t; simp [enc, PyData.depth, PyData.depthAll, Sta.depth]; omega
  | .nx s => by have := enc_depth s; simp [enc, PyData.depth, PyData.depthAll, Sta.depth]; omega
  | .un s t => by have := enc_depth s; have := enc_depth t; simp [enc, PyData.depth, PyData.depthAll, Sta.depth]; omega
  | .wi k s => by have := enc_depth s; simp [enc, PyData.depth, PyData.depthAll, Sta.depth]; omega
  | .bf s => by have := enc_depth s; simp [enc, PyData.depth, PyData.depthAll, Sta.depth]; omega
  | .si s t => by have := enc_depth s; have := enc_depth t; simp [enc, PyData.depth, PyData.depthAll, Sta.depth]; omega
theorem ok_words : PyData.strOk "mark" = true ∧ PyData.strOk "yes" = true ∧ PyData.strOk "not" = true ∧ PyData.strOk "and" = true ∧ PyData.strOk "or" = true ∧ PyData.strOk "next" = true ∧ PyData.strOk "until" = true ∧ PyData.strOk "within" = true ∧ PyData.strOk "before" = true ∧ PyData.strOk "since" = true := by decide +kernel
def okM (m : Str) : Prop := PyData.strOk m = true
theorem enc_lay : ∀ {s : Sta}, s.Marks okM → (enc s).canLay0 = true
  | .mark m, h => by simp only [enc, PyData.canLay0, PyData.canLayAll0, ok_words]; simpa [Sta.Marks, okM] using h
  | .yes, h => by simp only [enc, PyData.canLay0, PyData.canLayAll0, ok_words]; rfl
  | .nt s, h => by simp only [enc, PyData.canLay0, PyData.canLayAll0, ok_words, enc_lay (s := s) h]; rfl
  | .an s t, h => by simp only [enc, PyData.canLay0, PyData.canLayAll0, ok_words, enc_lay (s := s) h.1, enc_lay (s := t) h.2]; rfl
  | .or s t, h => by simp only [enc, PyData.canLay0, PyData.canLayAll0, ok_words, enc_lay (s := s) h.1, enc_lay (s := t) h.2]; rfl
  | .nx s, h => by simp only [enc, PyData.canLay0, PyData.canLayAll0, ok_words, enc_lay (s := s) h]; rfl
  | .un s t, h => by simp only [enc, PyData.canLay0, PyData.canLayAll0, ok_words, enc_lay (s := s) h.1, enc_lay (s := t) h.2]; rfl
  | .wi k s, h => by simp only [enc, PyData.canLay0, PyData.canLayAll0, ok_words, enc_lay (s := s) h]; rfl
  | .bf s, h => by simp only [enc, PyData.canLay0, PyData.canLayAll0, ok_words, enc_lay (s := s) h]; rfl
  | .si s t, h => by simp only [enc, PyData.canLay0, PyData.canLayAll0, ok_words, enc_lay (s := s) h.1, enc_lay (s := t) h.2]; rfl
theorem enc_shaped {s : Sta} (h : s.Marks okM) (hd : s.depth ≤ 60) : SeqAt.shaped (enc s) = true := by
  have := enc_depth s
  show ((enc s).canLay0 && decide ((enc s).depth ≤ 64)) = true
  rw [enc_lay h, Bool.true_and]
  exact decide_eq_true (by omega)
theorem encs_lay : ∀ {l : List Sta}, (∀ s ∈ l, s.Marks okM) → PyData.canLayAll0 (l.map enc) = true
  | [], _ => by simp [PyData.canLayAll0]
  | s :: l, h => by
    simp only [List.map_cons, PyData.canLayAll0, enc_lay (h s List.mem_cons_self), encs_lay fun t ht => h t (List.mem_cons_of_mem _ ht)]
    rfl
theorem encs_depth : ∀ {l : List Sta}, (∀ s ∈ l, s.depth ≤ 60) → PyData.depthAll (l.map enc) ≤ 60
  | [], _ => by simp [PyData.depthAll]
  | s :: l, h => by
    have h1 := enc_depth s
    have h2 := h s List.mem_cons_self
    have h3 := encs_depth (l := l) fun t ht => h t (List.mem_cons_of_mem _ ht)
    simp only [List.map_cons, PyData.depthAll]
    omega
theorem encs_shaped {l : List Sta} (h : ∀ s ∈ l, s.Marks okM) (hd : ∀ s ∈ l, s.depth ≤ 60) : SeqAt.shaped (.list (l.map enc)) = true := by
  have h1 := encs_depth hd
  show ((PyData.list (l.map enc)).canLay0 && decide ((PyData.list (l.map enc)).depth ≤ 64)) = true
  have e : (PyData.list (l.map enc)).canLay0 = true := by simp only [PyData.canLay0]; exact encs_lay h
  rw [e, Bool.true_and]
  refine decide_eq_true ?_
  simp only [PyData.depth]
  omega
/-! equal statements -/
theorem W_ne : (("mark" : Str) == "yes") = false := by decide +kernel
def word : Sta → Str
  | .mark _ => "mark" | .yes => "yes" | .nt _ => "not" | .an _ _ => "and" | .or _ _ => "or" | .nx _ => "next" | .un _ _ => "until" | .wi _ _ => "within" | .bf _ => "before" | .si _ _ => "since"
def tag : Sta → Nat
  | .mark _ => 0 | .yes => 1 | .nt _ => 2 | .an _ _ => 3 | .or _ _ => 4 | .nx _ => 5 | .un _ _ => 6 | .wi _ _ => 7 | .bf _ => 8 | .si _ _ => 9
def wordAt : Nat → Str
  | 0 => "mark" | 1 => "yes" | 2 => "not" | 3 => "and" | 4 => "or" | 5 => "next" | 6 => "until" | 7 => "within" | 8 => "before" | _ => "since"
theorem word_at (s : Sta) : word s = wordAt (tag s) := by cases s <;> rfl
theorem tag_lt (s : Sta) : tag s < 10 := by cases s <;> simp [tag]
theorem wordAt_eq : ∀ i, i < 10 → ∀ j, j < 10 → (wordAt i == wordAt j) = decide (i = j) := by decide +kernel
theorem word_eq (s t : Sta) : (word s == word t) = decide (tag s = tag t) := by rw [word_at, word_at]; exact wordAt_eq _ (tag_lt s) _ (tag_lt t)
theorem enc_word (s : Sta) : ∃ r, enc s = .tuple (.str (word s) :: r) := by cases s <;> exact ⟨_, rfl⟩
theorem enc_tag {s t : Sta} (h : tag s ≠ tag t) : PyData.eqv (enc s) (enc t) = false := by
  obtain ⟨r, e⟩ := enc_word s
  obtain ⟨q, f⟩ := enc_word t
  rw [e, f]
  simp only [PyData.eqv, PyData.eqvAll, word_eq, decide_eq_false h, Bool.false_and]
theorem ww (i : Nat) (h : i < 10) : (wordAt i == wordAt i) = true := by rw [wordAt_eq i h i h]; simp
theorem enc_eqv : ∀ s t : Sta, PyData.eqv (enc s) (enc t) = decide (s = t) := by
  intro s
  induction s with
  | mark m =>
    intro t
    cases t with
    | mark n => simp [enc, PyData.eqv, PyData.eqvAll, Bool.beq_eq_decide_eq]
    | _ => rw [enc_tag (by simp [tag])]; simp
  | yes =>
    intro t
    cases t with
    | yes => simp [enc, PyData.eqv, PyData.eqvAll]
    | _ => rw [enc_tag (by simp [tag])]; simp
  | nt s ih =>
    intro t
    cases t with
    | nt u => simp [enc, PyData.eqv, PyData.eqvAll, ih]
    | _ => rw [enc_tag (by simp [tag])]; simp
  | an s s' ih ih' =>
    intro t
    cases t with
    | an u u' => simp [enc, PyData.eqv, PyData.eqvAll, ih, ih']
    | _ => rw [enc_tag (by simp [tag])]; simp
  | or s s' ih ih' =>
    intro t
    cases t with
    | or u u' => simp [enc, PyData.eqv, PyData.eqvAll, ih, ih']
    | _ => rw [enc_tag (by simp [tag])]; simp
  | nx s ih =>
    intro t
    cases t with
    | nx u => simp [enc, PyData.eqv, PyData.eqvAll, ih]
    | _ => rw [enc_tag (by simp [tag])]; simp
  | un s s' ih ih' =>
    intro t
    cases t with
    | un u u' => simp [enc, PyData.eqv, PyData.eqvAll, ih, ih']
    | _ => rw [enc_tag (by simp [tag])]; simp
  | wi k s ih =>
    intro t
    cases t with
    | wi j u =>
      simp [enc, PyData.eqv, PyData.eqvAll, ih]
      by_cases h : k = j
      · subst h; simp
      · have : ((k : Int) == (j : Int)) = false := beq_eq_false_iff_ne.mpr (by omega)
        simp [h, this]
    | _ => rw [enc_tag (by simp [tag])]; simp
  | bf s ih =>
    intro t
    cases t with
    | bf u => simp [enc, PyData.eqv, PyData.eqvAll, ih]
    | _ => rw [enc_tag (by simp [tag])]; simp
  | si s s' ih ih' =>
    intro t
    cases t with
    | si u u' => simp [enc, PyData.eqv, PyData.eqvAll, ih, ih']
    | _ => rw [enc_tag (by simp [tag])]; simp
theorem encs_any (l : List Sta) (s : Sta) : ((l.map enc).any fun z => PyData.eqv z (enc s)) = decide (s ∈ l) := by
  induction l with
  | nil => simp
  | cons t l ih =>
    rw [List.map_cons, List.any_cons, ih, enc_eqv]
    by_cases h : t = s
    · subst h; simp
    · by_cases h2 : s ∈ l
      · simp [h2]
      · have : ¬ s = t := fun e => h e.symm
        simp [h, h2, this]
theorem in_encs {l : List Sta} {s : Sta} (h : ∀ t ∈ l, t.Marks okM) (hd : ∀ t ∈ l, t.depth ≤ 60) (hs : s.Marks okM) (hsd : s.depth ≤ 60) (neg : Bool) :
    oIn neg (enc s) (.list (l.map enc)) = some (.bool (if neg = true then !decide (s ∈ l) else decide (s ∈ l))) := by
  show (if SeqAt.shaped (enc s) = true ∧ SeqAt.shaped (.list (l.map enc)) = true then some (PyData.bool (if neg = true then !((l.map enc).any fun z => PyData.eqv z (enc s)) else (l.map enc).any fun z => PyData.eqv z (enc s))) else none) = _
  rw [if_pos ⟨enc_shaped hs hsd, encs_shaped h hd⟩, encs_any]

/-! the words differ -/
@[simp] theorem w_mark_yes : (("mark" : Str) == "yes") = false := by decide +kernel
@[simp] theorem w_mark_not : (("mark" : Str) == "not") = false := by decide +kernel
@[simp] theorem w_mark_and : (("mark" : Str) == "and") = false := by decide +kernel
@[simp] theorem w_mark_or : (("mark" : Str) == "or") = false := by decide +kernel
@[simp] theorem w_mark_next : (("mark" : Str) == "next") = false := by decide +kernel
@[simp] theorem w_mark_until : (("mark" : Str) == "until") = false := by decide +kernel
@[simp] theorem w_mark_within : (("mark" : Str) == "within") = false := by decide +kernel
@[simp] theorem w_mark_before : (("mark" : Str) == "before") = false := by decide +kernel
@[simp] theorem w_mark_since : (("mark" : Str) == "since") = false := by decide +kernel
@[simp] theorem w_yes_mark : (("yes" : Str) == "mark") = false := by decide +kernel
@[simp] theorem w_yes_not : (("yes" : Str) == "not") = false := by decide +kernel
@[simp] theorem w_yes_and : (("yes" : Str) == "and") = false := by decide +kernel
@[simp] theorem w_yes_or : (("yes" : Str) == "or") = false := by decide +kernel
@[simp] theorem w_yes_next : (("yes" : Str) == "next") = false := by decide +kernel
@[simp] theorem w_yes_until : (("yes" : Str) == "until") = false := by decide +kernel
@[simp] theorem w_yes_within : (("yes" : Str) == "within") = false := by decide +kernel
@[simp] theorem w_yes_before : (("yes" : Str) == "before") = false := by decide +kernel
@[simp] theorem w_yes_since : (("yes" : Str) == "since") = false := by decide +kernel
@[simp] theorem w_not_mark : (("not" : Str) == "mark") = false := by decide +kernel
@[simp] theorem w_not_yes : (("not" : Str) == "yes") = false := by decide +kernel
@[simp] theorem w_not_and : (("not" : Str) == "and") = false := by decide +kernel
@[simp] theorem w_not_or : (("not" : Str) == "or") = false := by decide +kernel
@[simp] theorem w_not_next : (("not" : Str) == "next") = false := by decide +kernel
@[simp] theorem w_not_until : (("not" : Str) == "until") = false := by decide +kernel
@[simp] theorem w_not_within : (("not" : Str) == "within") = false := by decide +kernel
@[simp] theorem w_not_before : (("not" : Str) == "before") = false := by decide +kernel
@[simp] theorem w_not_since : (("not" : Str) == "since") = false := by decide +kernel
@[simp] theorem w_and_mark : (("and" : Str) == "mark") = false := by decide +kernel
@[simp] theorem w_and_yes : (("and" : Str) == "yes") = false := by decide +kernel
@[simp] theorem w_and_not : (("and" : Str) == "not") = false := by decide +kernel
@[simp] theorem w_and_or : (("and" : Str) == "or") = false := by decide +kernel
@[simp] theorem w_and_next : (("and" : Str) == "next") = false := by decide +kernel
@[simp] theorem w_and_until : (("and" : Str) == "until") = false := by decide +kernel
@[simp] theorem w_and_within : (("and" : Str) == "within") = false := by decide +kernel
@[simp] theorem w_and_before : (("and" : Str) == "before") = false := by decide +kernel
@[simp] theorem w_and_since : (("and" : Str) == "since") = false := by decide +kernel
@[simp] theorem w_or_mark : (("or" : Str) == "mark") = false := by decide +kernel
@[simp] theorem w_or_yes : (("or" : Str) == "yes") = false := by decide +kernel
@[simp] theorem w_or_not : (("or" : Str) == "not") = false := by decide +kernel
@[simp] theorem w_or_and : (("or" : Str) == "and") = false := by decide +kernel
@[simp] theorem w_or_next : (("or" : Str) == "next") = false := by decide +kernel
@[simp] theorem w_or_until : (("or" : Str) == "until") = false := by decide +kernel
@[simp] theorem w_or_within : (("or" : Str) == "within") = false := by decide +kernel
@[simp] theorem w_or_before : (("or" : Str) == "before") = false := by decide +kernel
@[simp] theorem w_or_since : (("or" : Str) == "since") = false := by decide +kernel
@[simp] theorem w_next_mark : (("next" : Str) == "mark") = false := by decide +kernel
@[simp] theorem w_next_yes : (("next" : Str) == "yes") = false := by decide +kernel
@[simp] theorem w_next_not : (("next" : Str) == "not") = false := by decide +kernel
@[simp] theorem w_next_and : (("next" : Str) == "and") = false := by decide +kernel
@[simp] theorem w_next_or : (("next" : Str) == "or") = false := by decide +kernel
@[simp] theorem w_next_until : (("next" : Str) == "until") = false := by decide +kernel
@[simp] theorem w_next_within : (("next" : Str) == "within") = false := by decide +kernel
@[simp] theorem w_next_before : (("next" : Str) == "before") = false := by decide +kernel
@[simp] theorem w_next_since : (("next" : Str) == "since") = false := by decide +kernel
@[simp] theorem w_until_mark : (("until" : Str) == "mark") = false := by decide +kernel
@[simp] theorem w_until_yes : (("until" : Str) == "yes") = false := by decide +kernel
@[simp] theorem w_until_not : (("until" : Str) == "not") = false := by decide +kernel
@[simp] theorem w_until_and : (("until" : Str) == "and") = false := by decide +kernel
@[simp] theorem w_until_or : (("until" : Str) == "or") = false := by decide +kernel
@[simp] theorem w_until_next : (("until" : Str) == "next") = false := by decide +kernel
@[simp] theorem w_until_within : (("until" : Str) == "within") = false := by decide +kernel
@[simp] theorem w_until_before : (("until" : Str) == "before") = false := by decide +kernel
@[simp] theorem w_until_since : (("until" : Str) == "since") = false := by decide +kernel
@[simp] theorem w_within_mark : (("within" : Str) == "mark") = false := by decide +kernel
@[simp] theorem w_within_yes : (("within" : Str) == "yes") = false := by decide +kernel
@[simp] theorem w_within_not : (("within" : Str) == "not") = false := by decide +kernel
@[simp] theorem w_within_and : (("within" : Str) == "and") = false := by decide +kernel
@[simp] theorem w_within_or : (("within" : Str) == "or") = false := by decide +kernel
@[simp] theorem w_within_next : (("within" : Str) == "next") = false := by decide +kernel
@[simp] theorem w_within_until : (("within" : Str) == "until") = false := by decide +kernel
@[simp] theorem w_within_before : (("within" : Str) == "before") = false := by decide +kernel
@[simp] theorem w_within_since : (("within" : Str) == "since") = false := by decide +kernel
@[simp] theorem w_before_mark : (("before" : Str) == "mark") = false := by decide +kernel
@[simp] theorem w_before_yes : (("before" : Str) == "yes") = false := by decide +kernel
@[simp] theorem w_before_not : (("before" : Str) == "not") = false := by decide +kernel
@[simp] theorem w_before_and : (("before" : Str) == "and") = false := by decide +kernel
@[simp] theorem w_before_or : (("before" : Str) == "or") = false := by decide +kernel
@[simp] theorem w_before_next : (("before" : Str) == "next") = false := by decide +kernel
@[simp] theorem w_before_until : (("before" : Str) == "until") = false := by decide +kernel
@[simp] theorem w_before_within : (("before" : Str) == "within") = false := by decide +kernel
@[simp] theorem w_before_since : (("before" : Str) == "since") = false := by decide +kernel
@[simp] theorem w_since_mark : (("since" : Str) == "mark") = false := by decide +kernel
@[simp] theorem w_since_yes : (("since" : Str) == "yes") = false := by decide +kernel
@[simp] theorem w_since_not : (("since" : Str) == "not") = false := by decide +kernel
@[simp] theorem w_since_and : (("since" : Str) == "and") = false := by decide +kernel
@[simp] theorem w_since_or : (("since" : Str) == "or") = false := by decide +kernel
@[simp] theorem w_since_next : (("since" : Str) == "next") = false := by decide +kernel
@[simp] theorem w_since_until : (("since" : Str) == "until") = false := by decide +kernel
@[simp] theorem w_since_within : (("since" : Str) == "within") = false := by decide +kernel
@[simp] theorem w_since_before : (("since" : Str) == "before") = false := by decide +kernel
/-! small sizes -/
@[simp] theorem big_0 : 0 ≤ big := by decide
@[simp] theorem big_1 : 1 ≤ big := by decide
@[simp] theorem big_2 : 2 ≤ big := by decide
@[simp] theorem big_3 : 3 ≤ big := by decide
@[simp] theorem big_4 : 4 ≤ big := by decide
@[simp] theorem big_5 : 5 ≤ big := by decide
@[simp] theorem big_6 : 6 ≤ big := by decide
@[simp] theorem big_7 : 7 ≤ big := by decide
@[simp] theorem big_8 : 8 ≤ big := by decide
@[simp] theorem big_9 : 9 ≤ big := by decide
@[simp] theorem big_10 : 10 ≤ big := by decide
@[simp] theorem big_11 : 11 ≤ big := by decide
@[simp] theorem big_12 : 12 ≤ big := by decide
@[simp] theorem big_13 : 13 ≤ big := by decide
@[simp] theorem big_14 : 14 ≤ big := by decide
@[simp] theorem big_15 : 15 ≤ big := by decide
@[simp] theorem big_16 : 16 ≤ big := by decide
@[simp] theorem big_17 : 17 ≤ big := by decide
@[simp] theorem big_18 : 18 ≤ big := by decide
@[simp] theorem big_19 : 19 ≤ big := by decide
@[simp] theorem big_20 : 20 ≤ big := by decide
@[simp] theorem big_21 : 21 ≤ big := by decide
@[simp] theorem big_22 : 22 ≤ big := by decide
@[simp] theorem big_23 : 23 ≤ big := by decide
@[simp] theorem big_24 : 24 ≤ big := by decide
@[simp] theorem big_25 : 25 ≤ big := by decide
@[simp] theorem big_26 : 26 ≤ big := by decide
@[simp] theorem big_27 : 27 ≤ big := by decide
@[simp] theorem big_28 : 28 ≤ big := by decide
@[simp] theorem big_29 : 29 ≤ big := by decide
@[simp] theorem big_30 : 30 ≤ big := by decide
@[simp] theorem big_40 : 40 ≤ big := by decide
@[simp] theorem big_64 : 64 ≤ big := by decide
/-! ### readers -/
@[simp] theorem atI_0 {α : Type} (a : α) (l : List α) : atI (a :: l) 0 = some a := atI_nat (j := 0) rfl
@[simp] theorem atI_1 {α : Type} (a b : α) (l : List α) : atI (a :: b :: l) 1 = some b := atI_nat (j := 1) rfl
@[simp] theorem atI_2 {α : Type} (a b c : α) (l : List α) : atI (a :: b :: c :: l) 2 = some c := atI_nat (j := 2) rfl
theorem atI_neg1 {α : Type} (l : List α) (a : α) (h : l.getLast? = some a) : atI l (-1) = some a := by
  cases l with
  | nil => simp at h
  | cons b r =>
    have e : (b :: r) = (b :: r).dropLast ++ [a] := by
      have h' : (b :: r).getLast (by simp) = a := by
        rw [List.getLast?_eq_getLast (by simp)] at h
        exact Option.some.inj h
      rw [← h', List.dropLast_concat_getLast]
    rw [e]
    exact atI_last _ _
theorem atI_cast {α : Type} {l : List α} {i : Nat} {a : α} (h : l[i]? = some a) : atI l (i : Int) = some a := atI_nat h
@[simp] theorem bR_ok (d : D) (k : D → Option Rs) : bR (some (.ok d)) k = k d := rfl
@[simp] theorem bR_er (c : Str) (k : D → Option Rs) : bR (some (.er c)) k = some (.er c) := rfl
@[simp] theorem bL_ok (d : D) (k : D → Option Rl) : bL (some (.ok d)) k = k d := rfl
@[simp] theorem bA_ok (d : List D) (k : List D → Option Rs) : bA (some (.ok d)) k = k d := rfl
@[simp] theorem bLL_ok (d : List D) (k : List D → Option Rl) : bLL (some (.ok d)) k = k d := rfl
@[simp] theorem oR_some (d : D) : oR (some d) = some (.ok d) := rfl
@[simp] theorem oIx_tup (ds : List D) (i : Int) : oIx (.tuple ds) (.int i) = atI ds i := rfl
@[simp] theorem oIx_lst (ds : List D) (i : Int) : oIx (.list ds) (.int i) = atI ds i := rfl
@[simp] theorem oEq_str (x y : Str) : oEq (.str x) (.str y) = some (.bool (x == y)) := by simp [oEq, scalD, PyData.eqv]
@[simp] theorem oEq_int (x y : Int) : oEq (.int x) (.int y) = some (.bool (x == y)) := by simp [oEq, scalD, PyData.eqv]
@[simp] theorem oEq_bool (x y : Bool) : oEq (.bool x) (.bool y) = some (.bool (x == y)) := by simp [oEq, scalD, PyData.eqv]
@[simp] theorem oNe_str (x y : Str) : oNe (.str x) (.str y) = some (.bool (!(x == y))) := by simp [oNe, scalD, PyData.eqv]
@[simp] theorem oNe_int (x y : Int) : oNe (.int x) (.int y) = some (.bool (!(x == y))) := by simp [oNe, scalD, PyData.eqv]
@[simp] theorem oNe_bool (x y : Bool) : oNe (.bool x) (.bool y) = some (.bool (!(x == y))) := by simp [oNe, scalD, PyData.eqv]
@[simp] theorem oAdd_int (x y : Int) : oAdd (.int x) (.int y) = some (.int (x + y)) := rfl
@[simp] theorem oSub_int (x y : Int) : oSub (.int x) (.int y) = some (.int (x - y)) := rfl
@[simp] theorem oLt_int (x y : Int) : oLt (.int x) (.int y) = some (.bool (decide (x < y))) := rfl
@[simp] theorem oLe_int (x y : Int) : oLe (.int x) (.int y) = some (.bool (decide (x ≤ y))) := rfl
@[simp] theorem oGt_int (x y : Int) : oGt (.int x) (.int y) = some (.bool (decide (y < x))) := rfl
@[simp] theorem oGe_int (x y : Int) : oGe (.int x) (.int y) = some (.bool (decide (y ≤ x))) := rfl
@[simp] theorem oNeg_int (x : Int) : oNeg (.int x) = some (.int (-x)) := rfl
@[simp] theorem oLen_list (ds : List D) : oLen [.list ds] = some (.int ds.length) := rfl
@[simp] theorem oLen_tup (ds : List D) : oLen [.tuple ds] = some (.int ds.length) := rfl
@[simp] theorem oMin2_int (x y : Int) : oMin2 [.int x, .int y] = some (.int (if y < x then y else x)) := rfl
@[simp] theorem oAny_bools (bs : List Bool) : oAny [.list (bs.map .bool)] = some (.bool (bs.any id)) := by
  show (match boolsOf (bs.map PyData.bool) with | some bs => some (PyData.bool (bs.any id)) | none => none) = _
  rw [boolsOf_map]
@[simp] theorem oAll_bools (bs : List Bool) : oAll [.list (bs.map .bool)] = some (.bool (bs.all id)) := by
  show (match boolsOf (bs.map PyData.bool) with | some bs => some (PyData.bool (bs.all id)) | none => none) = _
  rw [boolsOf_map]
@[simp] theorem oMod_int (x y : Int) (h : 0 < y) : oMod (.int x) (.int y) = some (.int (x % y)) := by unfold oMod oIc; simp [cMod, h]
@[simp] theorem oDiv_int (x y : Int) (h : 0 < y) (h2 : y < 1073741824) : oDiv (.int x) (.int y) = some (.int (x / y)) := by unfold oDiv oIc; simp [cDiv, h, h2]
theorem oMul_int (x y : Int) (h : (-(2 ^ 64) < x ∧ x < 2 ^ 64) ∨ (-(2 ^ 64) < y ∧ y < 2 ^ 64)) : oMul (.int x) (.int y) = some (.int (x * y)) := by
  unfold oMul oIc
  have : cMul x y = true := by
    unfold cMul
    simp only [Bool.or_eq_true, Bool.and_eq_true, decide_eq_true_eq]
    exact h
  simp [this]
@[simp] theorem oSl_list (ds : List D) (lo hi : Option Int) : oSl lo hi (.list ds) = some (.list (cutD ds lo hi)) := rfl
theorem lcF_map {gf : D → Ge → Option Ge} {cf : Ft} {ef : Fe} {γ : Ge} {α : Type} (e : α → D) (g : α → D) : ∀ (l : List α), (∀ x ∈ l, ∃ γ1, gf (e x) γ = some γ1 ∧ cf γ1 = some (.ok true) ∧ ef γ1 = some (.ok (g x))) → lcF gf cf ef γ (l.map e) = some (l.map g)
  | [], _ => rfl
  | x :: l, h => by
    obtain ⟨γ1, h1, h2, h3⟩ := h x List.mem_cons_self
    simp only [List.map_cons, lcF, h1, h2, h3, lcF_map e g l fun y hy => h y (List.mem_cons_of_mem _ hy)]
theorem lcF_filter {gf : D → Ge → Option Ge} {cf : Ft} {ef : Fe} {γ : Ge} {α : Type} (e : α → D) (p : α → Bool) (g : α → D) : ∀ (l : List α), (∀ x ∈ l, ∃ γ1, gf (e x) γ = some γ1 ∧ cf γ1 = some (.ok (p x)) ∧ (p x = true → ef γ1 = some (.ok (g x)))) → lcF gf cf ef γ (l.map e) = some ((l.filter p).map g)
  | [], _ => rfl
  | x :: l, h => by
    obtain ⟨γ1, h1, h2, h3⟩ := h x List.mem_cons_self
    have ih := lcF_filter e p g l fun y hy => h y (List.mem_cons_of_mem _ hy)
    cases hp : p x with
    | true =>
      have hf : (x :: l).filter p = x :: l.filter p := by rw [List.filter_cons, if_pos hp]
      simp only [List.map_cons, lcF, h1, h2, hp, h3 hp, ih, hf]
    | false =>
      have hf : (x :: l).filter p = l.filter p := by rw [List.filter_cons, if_neg (by rw [hp]; decide)]
      simp only [List.map_cons, lcF, h1, h2, hp, ih, hf]
end Py

/-! PyT: sorted(set(texts)) -/
namespace Py
open PySem PySem.Spec PyProof.Rows L2 PySem.Froz

def keyS (e : Int × Value) : Str := match e.2 with | .str k _ => k | _ => Str.empty
/-- the payload of a set of the texts l, walkable -/
structure TxR (P : Program) (w : World) (d : SD) (l : List Str) : Prop where
  F : TxOk P w d l
  ks : (d.1.toList.map keyS).Perm l
  st : ∀ e ∈ d.1.toList, ∃ (k : Str) (u : Tok), e.2 = Value.str k u
  ris : L2.Ris d.2.2.place.toList
  led : w.params.followText "set-order" = true ∨ d.2.2.led = true
theorem off_ris {t : SetTable} : (if t.plain = true then { t with plain := false } else t).place = t.place := by split <;> rfl
theorem off_led {t : SetTable} : (if t.plain = true then { t with plain := false } else t).led = t.led := by split <;> rfl
theorem tail_r {P : Program} {w : World} {ep : Nat} {es1 : Array (Int × Value)} {t2 : SetTable} {wd : Bool} {l : List Str} (R : TxR P w (es1, ep, t2) l) : TxR P w (tailTx ep es1 t2 wd) l := by
  refine ⟨tail_ok R.F, ?_, ?_, ?_, ?_⟩ <;> unfold tailTx <;> split
  · exact ((relayAll_perm t2 es1 _).map keyS).trans R.ks
  · exact R.ks
  · exact fun e he => R.st e ((relayAll_perm t2 es1 _).mem_iff.mp he)
  · exact R.st
  · exact L2.relayAll_ris t2 es1 _
  · exact R.ris
  · exact R.led.imp id fun z => (L2.relayAll_led t2 es1 _).trans z
  · exact R.led
theorem add_r {P : Program} {w : World} {d : SD} {l : List Str} (k : Str) (u : Tok) (R : TxR P w d l) : TxR P w (addTx (hashStr w k) (.str k u) d) (k :: l) := by
  obtain ⟨es, ep, t⟩ := d
  have pm := layNew_perm t es (hashStr w k) (.str k u)
  rw [Array.toList_push] at pm
  have pc := pm.trans (List.perm_append_singleton _ _)
  have F2 := add_ok u R.F (k := k)
  refine tail_r (ep := ep) ⟨?_, ?_, ?_, ?_, ?_⟩
  · refine R.F.push (layNew_perm t es (hashStr w k) (.str k u)) ?_
    have hf := layNew_fits t es (hashStr w k) (.str k u)
    split
    · exact SetTable.fits_plain_off hf
    · exact hf
  · exact (pc.map keyS).trans ((List.perm_cons k).mpr R.ks)
  · intro e he
    rcases List.mem_cons.mp (pc.mem_iff.mp he) with z | z
    · exact ⟨k, u, by rw [z]⟩
    · exact R.st e z
  · show L2.Ris (if _ then _ else _ : SetTable).place.toList
    rw [off_ris]
    exact L2.layNew_ris t es _ _ R.ris
  · refine R.led.imp id fun z => ?_
    show (if _ then _ else _ : SetTable).led = true
    rw [off_led, L2.layNew_led]
    exact z
section
variable {P : Program} {w : World} {A : Around} {E : Value → Shared → Prop} {s : Shared}
/-- a text that is there already -/
theorem dup_x {a : Addr} {T : String} {d : SD} {l : List Str} {k : Str} {u : Tok} {Q : Bool → Shared → Prop} (ho : s.heap.get? a = some (sObj T d)) (F : TxOk P w d l) (hk : k ∈ l) (hb : l.length < scanBound) (h : Q false s) :
    wpAny (model P w) A (setAddHashed a (.str k u) (hashStr w k)) Q E s := by
  obtain ⟨es, ep, t⟩ := d
  have hsz : es.size = l.length := F.sz
  have hel : ElemsOf (strKind P w) es.toList := F.el
  have hd : (sObj T (es, ep, t)).data = .set es ep t := rfl
  obtain ⟨e, he, ie⟩ := (F.mem k).mp hk
  unfold setAddHashed
  unfold setAddHashedIn
  refine wpAny_holding (wpAny_bind (wpAny_setState_of ho hd F.fit ?_))
  show wpAny _ _ (if _ then _ else _) _ _ _
  rw [byScan_of rfl (by omega) hel, if_pos rfl]
  unfold setAddByScan
  refine wpAny_bind (wpAny_bind (wpAny_rule (wpAny_bind (wpAny_setScan_of (knd := strKind P w) (k := k) (is_str k u) ho hd F.fit hel ?_))))
  cases hf : List.findIdx? (fun q => (strKind P w).is k q.2) es.toList with
  | none =>
    have c := List.findIdx?_eq_none_iff.mp hf e he
    rw [ie] at c
    cases c
  | some j => exact wpAny_pure (wpAny_pure h)
/-- the set of texts at a -/
def TxH (P : Program) (w : World) (h : Heap) (a : Addr) (l : List Str) : Prop := ∃ d, h.get? a = some (sObj "set" d) ∧ TxR P w d l
theorem TxH.at {h h' : Heap} {a : Addr} {l : List Str} (x : TxH P w h a l) (k : ∀ o, h.get? a = some o → h'.get? a = some o) : TxH P w h' a l := by
  obtain ⟨d, e, r⟩ := x
  exact ⟨d, k _ e, r⟩
def addL (l : List Str) (k : Str) : List Str := if k ∈ l then l else k :: l
theorem addL_len (l : List Str) (k : Str) : (addL l k).length ≤ l.length + 1 := by unfold addL; split <;> simp <;> omega
theorem add_any {a : Addr} {l : List Str} {k : Str} {u : Tok} {Q : Bool → Shared → Prop} (x : TxH P w s.heap a l) (hb : l.length + 1 < scanBound)
    (h : ∀ b h', (∀ c o, c ≠ a → s.heap.get? c = some o → h'.get? c = some o) → TxH P w h' a (addL l k) → Q b { s with heap := h' }) :
    wpAny (model P w) A (setAddHashed a (.str k u) (hashStr w k)) Q E s := by
  obtain ⟨d, e, r⟩ := x
  by_cases hk : k ∈ l
  · refine dup_x e r.F hk (by omega) ?_
    exact h false s.heap (fun _ _ _ q => q) (by unfold addL; rw [if_pos hk]; exact ⟨d, e, r⟩)
  · refine add_x e r.F hk hb ?_
    exact h true _ (fun c o hc q => PySem.Heap.get?_update_of_ne _ (Ne.symm hc) q) (by unfold addL; rw [if_neg hk]; exact ⟨_, get_upd _ e rfl, add_r k u r⟩)
end
section
variable {P : Program} {w : World} {A : Around} {R : Result → Shared → Prop} {I : Addr} {fp wr : List Addr} {n : Nat} {Pv : Nat → Value → Prop} {St : Nat → Heap → Prop}
theorem loop_txs (W : Walks P w A.in1 I fp wr n Pv St) (S : Addr) (hSf : S ∉ fp) (xs : List Str) (hsz : xs.length = n) (hn1 : n + 1 < scanBound) (hval : ∀ i v, Pv i v → ∃ t, v = Value.str (xs.getD i Str.empty) t) :
    ∀ (k i : Nat) (l : List Str) (s : Shared), n - i = k → i ≤ n → St i s.heap → l.length ≤ i → TxH P w s.heap S l →
      (∀ h' tk, (∀ b o, b ∉ S :: wr → s.heap.get? b = some o → h'.get? b = some o) → TxH P w h' S ((xs.drop i).foldl addL l) → R (.ok (.ret .none)) { s with heap := h', toks := tk }) →
      codeAny (model P w) A (.builtin "set.update.loop" ⟨[.ref S, .ref I], []⟩) R s := by
  have hSw : S ∉ wr := fun h => hSf (W.sub _ h)
  intro k
  induction k with
  | zero =>
    intro i l s hk hi hst hl hS hR
    have hin : i = n := by omega
    subst hin
    refine codeAny_builtin PyProof.Rows.F.entry_set_update_loop ?_
    rw [Around.under_plainId PyProof.Rows.F.plain_set_update_loop _]
    show wpAny _ A.in1 (pyNext (.ref I) >>= _) _ _ s
    refine wpAny_bind (W.done s _ _ hst fun h' tk hm => ?_)
    show wpAny _ A.in1 (ret Value.none) _ _ _
    refine wpAny_pure (hR h' tk (fun b o hb e => hm b o (fun z => hb (List.mem_cons_of_mem _ z)) e) ?_)
    rw [List.drop_eq_nil_of_le (by omega)]
    exact hS.at (hm S · hSw)
  | succ k ih =>
    intro i l s hk hi hst hl hS hR
    have hlt : i < n := by omega
    refine codeAny_builtin PyProof.Rows.F.entry_set_update_loop ?_
    rw [Around.under_plainId PyProof.Rows.F.plain_set_update_loop _]
    show wpAny _ A.in1 (pyNext (.ref I) >>= _) _ _ s
    refine wpAny_bind (W.item i s _ _ hlt hst fun v h1 tk1 hP hst1 hm => ?_)
    obtain ⟨t, rfl⟩ := hval i v hP
    have hS1 : TxH P w h1 S l := hS.at (hm S · hSw)
    show wpAny _ A.in1 (holding [Value.str (xs.getD i Str.empty) t] (setAdd S (.str (xs.getD i Str.empty) t)) >>= _) _ _ _
    refine wpAny_bind (wpAny_holding ?_)
    unfold setAdd
    refine wpAny_holding (wpAny_bind ((strKind P w).pyHash (k := xs.getD i Str.empty) (is_str _ _) ?_))
    refine add_any (s := { s with heap := h1, toks := tk1 + 1 }) hS1 (by omega) fun b h2 hk2 hS2 => ?_
    have hd : xs.drop i = xs.getD i Str.empty :: xs.drop (i + 1) := by
      rw [List.getD_eq_getElem?_getD, List.getElem?_eq_getElem (by omega)]
      exact List.drop_eq_getElem_cons (by omega)
    refine wpAny_pure ⟨plainId_quiet PyProof.Rows.F.plain_set_update_loop _, ih (i + 1) (addL l (xs.getD i Str.empty)) _ (by omega) hlt (W.frame _ h1 h2 hst1 fun b hb o e => hk2 b o (fun z => hSf (z ▸ hb)) e) (by have := addL_len l (xs.getD i Str.empty); omega) hS2 fun h3 tk3 hk3 hS3 => ?_⟩
    refine hR h3 tk3 (fun b o hb e => hk3 b o hb (hk2 b o (fun z => hb (z ▸ List.mem_cons_self)) (hm b o (fun z => hb (List.mem_cons_of_mem _ z)) e))) ?_
    rw [hd]
    exact hS3
end
end Py

namespace Py
open PySem PySem.Spec PyProof.Rows L2 PySem.Froz
section
variable {prog : Program} {w : World} {A : Around} {E : Value → Shared → Prop} {s : Shared}
theorem set_new_led (a : Value) {Q₁ : Value → Shared → Prop}
    (h : Q₁ (.ref s.heap.objs.size) { s with heap := s.heap.push { cls := .type "set", dict := none, data := .set #[] 0 (.fresh 0 0 (!w.params.followText "set-order")) } }) :
    codeAny (model prog w) A (.call (.builtin "set.__new__") ⟨[.type "set", a], []⟩) (wants Q₁ E) s := by
  refine codeAny_of_tree ?_
  show wpAny _ A.in1 (checkBuiltinCall "set.__new__" ⟨[.type "set", a], []⟩ >>= fun _ => again (.builtin "set.__new__" ⟨[.type "set", a], []⟩)) _ _ s
  refine wpAny_bind (wpAny_of_eq (PySem.F.newCall_set_1 a) (wpAny_pure ⟨plainId_quiet PySem.F.plain_set_new _, codeAny_builtin PySem.F.entry_set_new ?_⟩))
  rw [Around.under_plainId PySem.F.plain_set_new _]
  unfold Builtin.«set.__new__» Builtin.Frozenset.newClass
  have hsub := sub_set_self
  obtain ⟨hp, g, d, tk, os⟩ := s
  dsimp only
  wp_walk
  refine wpAny_askSetting (wpAny_pure ?_)
  dsimp only
  simp only [newObj]
  exact wpAny_bind (wpAny_alloc (wpAny_pure (wpAny_pure h)))
theorem fresh_h (P : Program) (w : World) (h : Heap) : TxH P w (h.push { cls := .type "set", dict := none, data := .set #[] 0 (.fresh 0 0 (!w.params.followText "set-order")) }) h.objs.size [] := by
  refine ⟨(#[], 0, .fresh 0 0 (!w.params.followText "set-order")), Heap.get?_push_size _ rfl, TxOk.nil (by rfl), List.Perm.refl _, fun e he => by simp at he, List.Pairwise.nil, ?_⟩
  show _ ∨ (!w.params.followText "set-order") = true
  cases w.params.followText "set-order"
  · exact .inr rfl
  · exact .inl rfl
theorem call_set_txs {l : Addr} {items : Array Value} {xs : List Str} {Q : Value → Shared → Prop}
    (hh : A.handled = none) (hl : s.heap.IsList l items) (hi : PyProof.Rows.StrsAre items.toList xs) (hn1 : xs.length + 1 < scanBound)
    (h : ∀ (h' : Heap) (tk : Nat), TxH prog w h' s.heap.objs.size (xs.foldl addL []) → (∀ b o, b < s.heap.objs.size → s.heap.get? b = some o → h'.get? b = some o) → Q (.ref s.heap.objs.size) { s with heap := h', toks := tk }) :
    wpAny (model prog w) A (call (.type "set") [.ref l]) Q E s := by
  obtain ⟨c, tl, hmro⟩ := PySem.F.called_set.mro
  have hmade := PySem.F.called_set.made
  have hsub := PySem.F.called_set.sub
  refine wpAny_call (codeAny_of_tree ?_)
  show wpAny _ _ (callAny (.type "set") _) _ _ _
  refine wpAny_pure ⟨Code.quiet_builtin _ (by decide +kernel), codeAny_builtin PySem.F.entry_type_call ?_⟩
  rw [Around.under_plain (weight_type_call_type "set" [.ref l] []) rfl]
  have h1 := PySem.F.called_set.notType
  have h2 := PySem.F.called_set.canCreate
  have hct := PySem.F.typeCall_set_1 (.ref l)
  repeat (any_goals (first | assumption | wp_step))

  generalize hled : (!w.params.followText "set-order") = led
  refine codeAny_mono (set_new_led (.ref l) (E := E) (Q₁ := fun obj s₁ => obj = .ref s.heap.objs.size ∧ s₁ = { s with heap := s.heap.push { cls := .type "set", dict := none, data := .set #[] 0 (.fresh 0 0 led) } }) ⟨rfl, by rw [hled]⟩) fun r s₁ hr => ?_
  cases r with
  | error e => exact hr
  | ok fl =>
    cases fl with
    | ret obj =>
      obtain ⟨rfl, rfl⟩ := hr
      have hS : (s.heap.push { cls := .type "set", dict := none, data := .set #[] 0 (.fresh 0 0 led) }).get? s.heap.objs.size = some { cls := .type "set", dict := none, data := .set #[] 0 (.fresh 0 0 led) } := Heap.get?_push_size _ rfl
      have hT : Shared.TypeIs { s with heap := s.heap.push { cls := .type "set", dict := none, data := .set #[] 0 (.fresh 0 0 led) } } (.ref s.heap.objs.size) "set" := ⟨_, hS, rfl⟩
      have hli := PySem.F.called_set.init.lookup
      have hbi := PySem.F.called_set.init.bind (.ref s.heap.objs.size)
      repeat (any_goals (first | assumption | wp_step))

      refine codeAny_mono (codeAny_call_builtin (R := wants (fun r s₂ => r = .none ∧ ∃ h' tk, s₂ = { s with heap := h', toks := tk } ∧ TxH prog w h' s.heap.objs.size (xs.foldl addL []) ∧
          (∀ b o, b < s.heap.objs.size → s.heap.get? b = some o → h'.get? b = some o)) E) PySem.F.called_set.init.plain PySem.F.entry_set_init (check_set_init_1 hT ?_)) fun r₂ s₂ hr₂ => ?_
      · obtain ⟨ol, hol, hcl, nl, hdl⟩ := hl
        obtain ⟨ocls, odict, odata, oslots⟩ := ol
        simp only at hcl hdl
        subst hcl; subst hdl
        have hol' : (s.heap.push { cls := .type "set", dict := none, data := .set #[] 0 (.fresh 0 0 led) }).get? l = some { cls := .type "list", dict := odict, data := .seq items nl, slots := oslots } := Heap.get?_push_of_some _ hol
        have hsls := PySem.F.sub_list_set
        have hslf := PySem.F.sub_list_frozenset
        have hne : (Value.type "list" == Value.type "dict") = false := by decide
        have hl1 : (s.heap.push { cls := .type "set", dict := none, data := .set #[] 0 (.fresh 0 0 led) }).IsList l items := ⟨_, hol', rfl, nl, rfl⟩
        unfold Builtin.«set.__init__» noKeywords Builtin.Frozenset.updateFrom
        generalize hPI : pyIter = PI
        wp_walk
        subst hPI

        refine wpAny_pyIter_list hl1 ?_
        refine wpAny_bind (wpAny_runValue ?_)
        have hlS : l < s.heap.objs.size := Heap.lt_size hol
        have hh3 : A.in1.in1.in1.handled = none := by simp [hh]
        have hneI : l ≠ (s.heap.push { cls := .type "set", dict := none, data := .set #[] 0 (.fresh 0 0 led) }).objs.size := by
          rw [Heap.size_push]; exact Nat.ne_of_lt (Nat.lt_succ_of_lt hlS)
        have hSf : s.heap.objs.size ∉ [(s.heap.push { cls := .type "set", dict := none, data := .set #[] 0 (.fresh 0 0 led) }).objs.size, l] := by
          rw [Heap.size_push]; simp only [List.mem_cons, List.not_mem_nil, or_false, not_or]
          exact ⟨Nat.ne_of_lt (Nat.lt_succ_self _), Nat.ne_of_gt hlS⟩
        have hsz : xs.length = items.size := by rw [← StrsAre.len_eq hi, Array.length_toList]
        have hval : ∀ (i : Nat) (v : Value), items[i]? = some v → ∃ t, v = .str (xs.getD i Str.empty) t := fun i v hv => SS.strs_at hi i v (by rw [Array.getElem?_toList]; exact hv)
        refine loop_txs (Walks.list hh3 _ l hneI items) s.heap.objs.size hSf xs hsz (by rw [← hsz]; exact hn1) hval (items.size - 0) 0 [] _ (by omega) (Nat.zero_le _) ⟨⟨_, Heap.get?_push_size _ rfl, rfl, rfl⟩, (hl1.push _)⟩ (Nat.le_refl _) ?hS0 ?hR
        case hS0 =>
          have q := fresh_h prog w s.heap
          rw [hled] at q
          exact q.at fun o e => Heap.get?_push_of_some _ e
        case hR =>
          intro h' tk hm hS'
          refine wpAny_pure ?_
          show wpAny _ _ (ret Value.none) _ _ _
          refine wpAny_pure ⟨rfl, h', tk, rfl, hS', fun b o hb e => ?_⟩
          have hb1 : b ≠ s.heap.objs.size := Nat.ne_of_lt hb
          have hb2 : b ≠ (s.heap.push { cls := .type "set", dict := none, data := .set #[] 0 (.fresh 0 0 led) }).objs.size := by
            rw [Heap.size_push]; exact Nat.ne_of_lt (Nat.lt_succ_of_lt hb)
          exact hm b o (by simp only [List.mem_cons, List.not_mem_nil, or_false, not_or]; exact ⟨hb1, hb2⟩) (Heap.get?_push_of_some _ (Heap.get?_push_of_some _ e))
      · cases r₂ with
        | error e => exact hr₂
        | ok fl₂ =>
          cases fl₂ with
          | ret r =>
            obtain ⟨rfl, h', tk, rfl, hS', hk'⟩ := hr₂
            repeat (any_goals (first | assumption | wp_step))
            exact h _ _ hS' hk'
          | _ => exact hr₂.elim
    | _ => exact hr.elim
end
end Py

namespace Py
open PySem PySem.Spec PyProof.Rows L2 PySem.Froz
/-! ### texts in order -/
def leB (a b : Str) : Bool := !ltCps b.cps.toList a.cps.toList
theorem leB_iff (a b : Str) : leB a b = true ↔ a.cps.toList ≤ b.cps.toList := by
  unfold leB
  rw [ltCps_eq, Bool.not_eq_true', decide_eq_false_iff_not]
  exact List.not_lt
theorem leB_trans (a b c : Str) (h : leB a b = true) (h2 : leB b c = true) : leB a c = true := by
  rw [leB_iff] at h h2 ⊢
  exact List.le_trans h h2
theorem leB_total (a b : Str) : (leB a b || leB b a) = true := by
  rw [Bool.or_eq_true, leB_iff, leB_iff]
  exact List.le_total _ _
theorem leB_anti (a b : Str) (h : leB a b = true) (h2 : leB b a = true) : a = b := by
  rw [leB_iff] at h h2
  exact Str.ext' (Array.toList_inj.mp (List.le_antisymm h h2))
theorem pair_of_rising : ∀ (l : List Str) (p : Str), risingS p l = true → (p :: l).Pairwise fun a b => leB a b = true
  | [], p, _ => List.pairwise_singleton _ _
  | x :: r, p, h => by
    have h' : (!ltCps x.cps.toList p.cps.toList && risingS x r) = true := h
    rw [Bool.and_eq_true] at h'
    have ih := pair_of_rising r x h'.2
    refine List.pairwise_cons.mpr ⟨fun y hy => ?_, ih⟩
    rcases List.mem_cons.mp hy with e | e
    · rw [e]; exact h'.1
    · exact leB_trans p x y h'.1 ((List.pairwise_cons.mp ih).1 y e)
theorem pair_of_sorted : ∀ {l : List Str}, sortedS l = true → l.Pairwise fun a b => leB a b = true
  | [], _ => List.Pairwise.nil
  | x :: r, h => pair_of_rising r x h
def sortT (l : List Str) : List Str := l.mergeSort leB
theorem sortT_perm (l : List Str) : (sortT l).Perm l := List.mergeSort_perm l leB
theorem sortT_pair (l : List Str) : (sortT l).Pairwise fun a b => leB a b = true := List.pairwise_mergeSort leB_trans leB_total l
theorem sortT_uniq {l ys : List Str} (p : ys.Perm l) (h : ys.Pairwise fun a b => leB a b = true) : ys = sortT l :=
  List.Perm.eq_of_pairwise (fun a b _ _ => leB_anti a b) h (sortT_pair l) (p.trans (sortT_perm l).symm)
section
variable {prog : Program} {w : World} {A : Around} {E : Value → Shared → Prop} {s : Shared}
theorem sorted_txs {a : Addr} {l : List Str} {Q : Value → Shared → Prop} (x : TxH prog w s.heap a l) (hh : A.handled = none) (h64 : l.length < 64)
    (hQ : ∀ s' p (out : Array Value) (c : Nat), (∀ b o, s.heap.get? b = some o → s'.heap.get? b = some o) → s'.gens = s.gens → s'.os = s.os → s.heap.objs.size ≤ p →
      s'.heap.get? p = some (seqObj "list" out c) → StrsAre out.toList (sortT l) → Q (.ref p) s') : wpAny (model prog w) A (call (.builtin "sorted") [.ref a]) Q E s := by
  obtain ⟨d, ho, R⟩ := x
  have hsz : d.1.size = l.length := R.F.sz
  have sb : scanBound = scanBound := rfl
  refine Calls.call_function_entry PyProof.Rows.kind_sorted PyProof.Rows.plain_sorted PyProof.Rows.entry_sorted (PyProof.Rows.args_sorted1 _) ?_
  unfold Builtin.«sorted»
  refine wpAny_bind (m := checkCount "sorted" 1 1 _) (wpAny_pure ?_)
  refine wpAny_bind (L2.collect_set (A := A.in1) (es := d.1) (ep := d.2.1) (t := d.2.2) hh ⟨_, ho, rfl, rfl⟩ R.F.fit (by rw [hsz]; unfold scanBound; omega) R.ris R.led fun s1 vs k1 hz g1 o1 pm => ?_)
  have hS : StrsAre vs (vs.map strOf) := strsAre_map vs fun v hv => by
    obtain ⟨e, he, q⟩ := List.mem_map.mp (pm.mem_iff.mp hv)
    obtain ⟨k, u, q2⟩ := R.st e he
    exact ⟨k, u, q ▸ q2⟩
  have pk : (vs.map strOf).Perm l := by
    refine (pm.map strOf).trans ?_
    rw [List.map_map]
    refine List.Perm.trans (List.Perm.of_eq (List.map_congr_left fun e he => ?_)) R.ks
    obtain ⟨k, u, q2⟩ := R.st e he
    show strOf e.2 = keyS e
    unfold keyS
    rw [q2]
    rfl
  have hvl : vs.length = l.length := by rw [← pk.length_eq, List.length_map]
  refine wpAny_bind (wpAny_newList ?_ (by rw [hvl, sizeLine_eq]; omega))
  have hoL : (s1.heap.push (seqObj "list" vs.toArray 0)).get? s1.heap.objs.size = some (seqObj "list" vs.toArray 0) := Heap.get?_push_size _ rfl
  refine wpAny_bind (wpAny_holding (wpAny_call_entry PyProof.Rows.slot_list_sort ⟨_, hoL, rfl⟩ PyProof.Rows.entry_list_sort (PyProof.Rows.list_sort_treeK strKind_oneLt hoL hS.keysOf (fun v₁ v₂ rest e => keyKind_strs (by rw [← e]; exact hS)) (by rw [hvl]; exact h64) fun st' a1 a2 => ⟨_, rfl, ?_⟩) (PyProof.Rows.args_list_sort _)))
  obtain ⟨ss', b1, b2, b3⟩ := sorted_out_str hS a1 a2
  obtain ⟨c, hc⟩ := sortedHeap_at (vs := vs) (out := (arrOf st').map (·.2)) hoL
  have e := sortT_uniq (b2.trans pk) (pair_of_sorted b3)
  subst e
  refine wpAny_pure ⟨_, rfl, hQ _ s1.heap.objs.size _ c (fun b u e => ?_) g1 o1 hz hc b1⟩
  have hlt := Heap.lt_size (k1 b u e)
  show (sortedHeap (s1.heap.push (seqObj "list" vs.toArray 0)) s1.heap.objs.size vs _).get? b = some u
  rw [sortedHeap_old (Nat.ne_of_lt hlt) (by rw [size_push']; exact Nat.lt_succ_of_lt hlt)]
  exact Heap.get?_push_of_some _ (k1 b u e)
end
/-! ### sorted(set(xs)), sorted(xs) -/
theorem foldL_len (xs : List Str) : ∀ l : List Str, (xs.foldl addL l).length ≤ l.length + xs.length := by
  induction xs with
  | nil => intro l; simp
  | cons x r ih =>
    intro l
    have h1 := ih (addL l x)
    have h2 := addL_len l x
    simp only [List.foldl_cons, List.length_cons]
    omega
def tSortSet (K : PySem.W.Frag) (ta : TE) : TE := fun σ H Q => ta σ H fun x H1 => ∃ (l : Addr) (xs : List Str), x = .ref l ∧ SqL K H1 l (xs.map V.str) ∧ xs.length < 64 ∧ ∀ p, H1 p = none → Q (.ref p) (upd H1 p (.lst ((sortT (xs.foldl addL [])).map V.str)))
theorem pe_sortset {X : Cx} {a : Expr} {ta : TE} {p p2 q pos : Pos} (hc : X.calm = true) (hm : X.mg "sorted" = none) (hg : Gl X "sorted") (hm2 : X.mg "set" = none) (hg2 : Gl X "set") (ha : PE X a ta)
    (na : starEach [a] X.env = (false, eval a X.env) :: starEach [] X.env := by rfl) : PE X (.Call (.Name "sorted" p) [.Call (.Name "set" p2) [a] [] q] [] pos) (tSortSet X.K ta) := by
  refine ⟨fun pins s σ H Q I h => ?_⟩
  refine Call_ (ld_blt I hg hm (show bootBuiltins "sorted" = some (.builtin "sorted") by decide +kernel) ?_)
  refine PyProof.Rows.callWith_builtin1 (PyProof.Rows.args_cons ?_ rfl) rfl rfl
  refine Call_ (ld_blt I hg2 hm2 (show bootBuiltins "set" = some (.type "set") by decide +kernel) ?_)
  refine PyProof.Rows.callWith_type1 (PyProof.Rows.args_cons (thn (ha.run pins s σ H _ I h) fun v s1 ⟨x, H1, I1, r1, q1⟩ => PyProof.Rows.args_nil ?_) na) na rfl
  obtain ⟨l, xs, rfl, hq, h64, q1⟩ := q1
  cases r1
  obtain ⟨its, r, pl, hz⟩ := I1.list hq
  have hll := foldL_len xs []
  simp only [List.length_nil, Nat.zero_add] at hll
  refine call_set_txs (I1.ok.hd hc) pl.isList (by simpa using strsAre_of r) (by unfold scanBound; omega) fun h' tk hS hk => ?_
  refine PyProof.Rows.args_nil ?_
  have I2 : Inv X pins σ H1 { s1 with heap := h', toks := tk } := I1.kept fun b o e => hk b o (Heap.lt_size e) e
  refine sorted_txs (s := { s1 with heap := h', toks := tk }) hS (I2.ok.hd hc) (by omega) fun s2 p out c k2 g2 o2 hp ho hs => ?_
  have hlen : ((sortT (xs.foldl addL [])).map V.str).length ≤ sizeLine := by rw [List.length_map, (sortT_perm _).length_eq, sizeLine_eq]; omega
  have hn : H1 p = none := I2.hok.fresh hp
  have J : Inv X pins σ (upd H1 p (.lst ((sortT (xs.foldl addL [])).map V.str))) { ({ s1 with heap := h', toks := tk } : Shared) with heap := s2.heap, gens := s2.gens, drawn := s2.drawn, toks := s2.toks } :=
    I2.call (ch := []) (Un.laid k2 hp hn) (I2.hok.laid k2 hp ⟨hlen, out.toList, c, vals_of_strs hs, ho⟩) (by rw [g2]; exact I2.bare) (fun _ z => nomatch z)
  have e : s2 = { ({ s1 with heap := h', toks := tk } : Shared) with heap := s2.heap, gens := s2.gens, drawn := s2.drawn, toks := s2.toks } := by
    cases s2
    cases o2
    rfl
  rw [e]
  exact ⟨.ref p, _, J, rfl, q1 p hn⟩
def oSortSet : List D → Option D
  | [.list ds] => (match strsOf ds with
    | some xs => if xs.length < 64 then some (.list ((sortT (xs.foldl addL [])).map .str)) else none
    | none => none)
  | _ => none
section
variable {K : PySem.W.Frag} {X : Cx} {M : Pm} {E : XK} {k : Nat} {a : Expr} {ta : TE} {fa : Fe} {pos : Pos}
theorem je_sortset {p p2 q : Pos} (C : CxF K X E k) (hm : X.mg "sorted" = none) (hg : Gl X "sorted") (hm2 : X.mg "set" = none) (hg2 : Gl X "set") (ha : JE K X M E .op a ta fa)
    (na : starEach [a] X.env = (false, eval a X.env) :: starEach [] X.env := by rfl) : JE K X M E .fr (.Call (.Name "sorted" p) [.Call (.Name "set" p2) [a] [] q] [] pos) (tSortSet K ta) (fB oSortSet (fCons fa fNil)) := by
  have hK := C.hK
  subst hK
  refine ⟨pe_sortset C.calm hm hg hm2 hg2 ha.pe na, fun H0 G0 γ σ H G Q r ev hf p => ?_⟩
  unfold fB fCons fNil at hf
  cases e1 : fa γ with
  | none => simp only [e1, bL, bA] at hf; cases hf
  | some q1 =>
    cases q1 with
    | er c => simp only [e1, bL, bA] at hf; cases hf; exact ha.eo H0 G0 γ σ H G _ _ ev e1 p
    | ok d =>
      simp only [e1, bL, bLL, bA] at hf
      refine ha.eo H0 G0 γ σ H G _ _ ev e1 fun v H1 G1 s1 r1 => ?_
      cases e2 : oSortSet [d] with
      | none => rw [e2] at hf; cases hf
      | some dz =>
        rw [e2] at hf
        cases hf
        unfold oSortSet at e2
        split at e2
        · rename_i ds hd
          cases hd
          split at e2
          · rename_i xs hx
            split at e2
            · rename_i h64
              cases e2
              obtain ⟨l, us, e3, hs, ra⟩ := r1
              subst e3
              have ed := strsOf_eq hx
              subst ed
              refine ⟨l, xs, rfl, by rw [← ra.strs]; exact hs, h64, fun p' hp => ?_⟩
              exact p _ _ G1 (s1.trans (Stp.newO s1.sub hp)) ⟨p', _, rfl, s1.ex.free hp, s1.sub.free hp, upd_same, RA.of_strs _⟩
            · cases e2
          · cases e2
        · cases e2
end
end Py

/-! PyP: plans: their fields, their methods, their making -/
namespace Py
open PySem PySem.Spec PyProof.Rows L2
abbrev plNs : List Str := ["wishes", "pasts", "marks", "weights"]
def MP (C : Addr) : Pm := { ci := fun c => if c = "Plan" then some (C, plNs) else none, exc := fun _ => .none }
/-- what is asked of the class -/
structure CP (K : PySem.W.Frag) (mg : Str → Option Value) (M : Pm) (C : Addr) : Prop where
  ci : M.ci "Plan" = some (C, plNs)
  cl : Cls K C
  na : ∀ f ∈ plNs, NoAttr K C f
  mg : mg "Plan" = some (.ref C)
def planD (ds : List D) : D := .dict [(.str "Plan", .list ds)]
def oFld (f : Str) : D → Option D
  | .dict [(.str c, .list ds)] => if c = "Plan" then (plNs.zip ds).lookup f else none
  | _ => none
theorem lookup_fs {K : PySem.W.Frag} {M : Pm} {G : Hp} {f : Str} : ∀ {fs : List (Str × V)} {ds : List D} {d : D}, RA K M G (fs.map (·.2)) ds → ((fs.map (·.1)).zip ds).lookup f = some d → ∃ v, fs.lookup f = some v ∧ R K M G v d
  | [], _, _, _, h => by cases h
  | (g, v) :: fs, _, d, .cons r t, h => by
    simp only [List.map_cons, List.zip_cons_cons, List.lookup_cons] at h ⊢
    cases e : (f == g) with
    | true => rw [e] at h; cases h; exact ⟨v, rfl, r⟩
    | false => rw [e] at h; exact lookup_fs t h
theorem lookup_no {f : Str} : ∀ {fs : List (Str × V)}, f ∉ fs.map (·.1) → fs.lookup f = none
  | [], _ => rfl
  | (g, v) :: fs, h => by
    simp only [List.map_cons, List.mem_cons, not_or] at h
    rw [List.lookup_cons, beq_eq_false_iff_ne.mpr h.1]
    exact lookup_no h.2
theorem mem_of_zip {f : Str} {d : D} : ∀ {ns : List Str} {ds : List D}, (ns.zip ds).lookup f = some d → f ∈ ns
  | [], _, h => by cases h
  | _ :: _, [], h => by cases h
  | n :: ns, x :: ds, h => by
    simp only [List.zip_cons_cons, List.lookup_cons] at h
    cases e : (f == n) with
    | true => rw [beq_iff_eq.mp e]; exact List.mem_cons_self
    | false => rw [e] at h; exact List.mem_cons_of_mem _ (mem_of_zip h)
section
variable {K : PySem.W.Frag} {X : Cx} {M : Pm} {E : XK} {k : Nat} {a o : Expr} {ta to : TE} {fa fo : Fe} {pos apos : Pos} {Cc : Addr}
theorem je_fld {f : Str} (C : CxF K X E k) (P : CP K X.mg M Cc) (ha : JE K X M E .op a ta fa) (hb : attributeBase a f X.env (eval a X.env) = eval a X.env := by rfl) : JE K X M E .cl (.Attribute a f pos) (tFld K ta f) (f1 (oFld f) fa) := by
  have hK := C.hK
  subst hK
  refine ⟨pe_fld ha.pe hb, fun H0 G0 γ σ H G Q r ev hf p => ?_⟩
  unfold f1 at hf
  cases e1 : fa γ with
  | none => rw [e1] at hf; cases hf
  | some q =>
    rw [e1] at hf
    cases q with
    | er c => cases hf; exact ha.eo H0 G0 γ σ H G _ _ ev e1 p
    | ok d =>
      simp only [bR] at hf
      refine ha.eo H0 G0 γ σ H G _ _ ev e1 fun v H1 G1 s1 r1 => ?_
      cases e2 : oFld f d with
      | none => rw [e2] at hf; cases hf
      | some dz =>
        rw [e2] at hf
        cases hf
        unfold oFld at e2
        split at e2
        · rename_i c ds
          split at e2
          · rename_i hc
            subst hc
            have rr : R X.K M G1 v (.dict [(.str "Plan", .list ds)]) := r1
            cases rr with
            | ins hg hci hns hra =>
              rename_i b C' dx fs ns
              have e3 := P.ci
              rw [hci] at e3
              cases e3
              rw [← hns] at e2
              have hm : f ∈ plNs := by rw [← hns]; exact mem_of_zip e2
              obtain ⟨w, h1, h2⟩ := lookup_fs hra e2
              exact ⟨b, _, dx, fs, w, rfl, s1.sub _ _ hg, P.cl, P.na f hm, h1, p w H1 G1 s1 h2⟩
          · cases e2
        · cases e2
/-- a plan's method -/
def isPlan : D → Bool
  | .dict [(.str c, .list _)] => decide (c = "Plan")
  | _ => false
def fMeth (φ : List D → Option Rs) (a : Fe) (b : Fa) : Fe := fun γ => bR (a γ) fun d => if isPlan d = true then bA (b γ) fun ds => φ (d :: ds) else none
theorem je_meth {φ : List D → Option Rs} {j : Nat} {m : Str} {f : Addr} {fd : FuncData} {ps : List Str} {e : Expr} {es : List Expr} {t : TA} {fr : Fa} {pl : Sem Bool} (C : CxF K X E k) (P : CP K X.mg M Cc) (hm : Meth X.K Cc m f) (hn : m ∉ plNs)
    (F : FnOk X.prog X.w X.K X.mg X.base (L2.CX X.prog X.w) j f fd ps (spF K M φ)) (hj : j ≤ k) (hb : Binds X.K fd ps []) (ho : JE K X M E .op o to fo) (ha : JC K X M E (e :: es) t fr)
    (hst : starEach (e :: es) X.env = (false, eval e X.env) :: starEach es X.env := by rfl) (hpl : (backTo pos (starEach es X.env)).any (·.1) = false := by rfl)
    (ht : eval (.Call (.Attribute o m apos) (e :: es) [] pos) X.env = (do
      let ov ← eval o X.env
      standAt apos.atName
      let (g, first) ← holding [ov] (getMethod ov m pl)
      callWith pos g first (backTo pos (starEach (e :: es) X.env)) (backToKw pos (keywordEach [] X.env))) := by rfl) :
    JE K X M E .cl (.Call (.Attribute o m apos) (e :: es) [] pos) (tMeth Cc m (spF K M φ) [] E to t) (fMeth φ fo fr) := by
  have hK := C.hK
  subst hK
  refine ⟨pe_meth ho.pe P.cl hm F (C.room.mono hj) hb .nil C.pas ha.pa hst hpl ht, fun H0 G0 γ σ H G Q r ev hf p => ?_⟩
  unfold fMeth at hf
  cases e1 : fo γ with
  | none => rw [e1] at hf; cases hf
  | some q =>
    rw [e1] at hf
    cases q with
    | er c => cases hf; exact ho.eo H0 G0 γ σ H G _ _ ev e1 p
    | ok d =>
      simp only [bR] at hf
      refine ho.eo H0 G0 γ σ H G _ _ ev e1 fun v H1 G1 s1 r1 => ?_
      split at hf
      case isFalse => cases hf
      rename_i hp
      have key : (∃ b dx fs, v = .ref b ∧ H1 b = some (.ins Cc dx fs) ∧ fs.lookup m = none) ∧ R X.K M G1 v d := by
        unfold isPlan at hp
        split at hp
        · rename_i c ds
          have hc := of_decide_eq_true hp
          subst hc
          have rr : R X.K M G1 v (.dict [(.str "Plan", .list ds)]) := r1
          refine ⟨?_, rr⟩
          cases rr with
          | ins hg hci hns hra =>
            rename_i b C' dx fs ns
            have e3 := P.ci
            rw [hci] at e3
            cases e3
            exact ⟨b, dx, fs, rfl, s1.sub _ _ hg, lookup_no (by rw [hns]; exact hn)⟩
        · cases hp
      obtain ⟨⟨b, dx, fs, e3, h1, h2⟩, rd⟩ := key
      refine ⟨b, dx, fs, e3, h1, h2, ?_⟩
      cases e2 : fr γ with
      | none => rw [e2] at hf; cases hf
      | some q2 =>
        rw [e2] at hf
        cases q2 with
        | er c => cases hf; exact ha.ac H0 G0 γ σ H1 G1 _ _ (ev.stp s1) e2 fun H' G' s' => p H' G' (s1.trans s')
        | ok ds =>
          refine ha.ac H0 G0 γ σ H1 G1 _ _ (ev.stp s1) e2 fun vs H2 G2 s2 r2 => ?_
          rw [List.append_nil]
          refine ⟨G2, d :: ds, r, s2.sub, .cons (rd.mono s2.eg) r2, hf, ?_, ev.kp.trans ((ev.stp s1).stp s2).st.ex⟩
          cases r with
          | ok d' => exact fun v' H' G' s' r' => p v' H' G' ((s1.trans s2).trans s') r'
          | er c => exact fun H' G' s' => p H' G' ((s1.trans s2).trans s')
/-! ### the making -/
/-- a step of the heap that leaves x free to change, and to be frozen -/
structure StpN (x : Addr) (H G H' G' : Hp) : Prop where
  ex : ∀ (p : Addr) (u : HO), p ≠ x → H p = some u → H' p = some u
  eg : Same G G'
  sub : Same G' H'
  nw : ∀ (p : Addr) (u : HO), p ≠ x → H p = some u → G p = none → G' p = none
theorem StpN.step {x : Addr} {H G H1 G1 H2 G2 : Hp} (a : StpN x H G H1 G1) (b : Stp H1 G1 H2 G2) : StpN x H G H2 G2 :=
  ⟨fun p u n q => b.ex p u (a.ex p u n q), a.eg.trans b.eg, b.sub, fun p u n q z => b.nw p u (a.ex p u n q) (a.nw p u n q z)⟩
theorem StpN.wr {x : Addr} {H G H1 G1 : Hp} {o : HO} (a : StpN x H G H1 G1) (g : G1 x = none) : StpN x H G (upd H1 x o) G1 :=
  ⟨fun p u n q => by rw [upd_ne n]; exact a.ex p u n q, a.eg, fun p u q => by rw [upd_ne (ne_of_none q g)]; exact a.sub p u q, a.nw⟩
/-- a new list written -/
theorem StpN.wrN {x l : Addr} {H G H1 G1 : Hp} {o : HO} (a : StpN x H G H1 G1) (n0 : H l = none) (g : G1 l = none) : StpN x H G (upd H1 l o) G1 :=
  ⟨fun p u n q => by rw [upd_ne (ne_of_none q n0)]; exact a.ex p u n q, a.eg, fun p u q => by rw [upd_ne (ne_of_none q g)]; exact a.sub p u q, a.nw⟩
/-- the promise of __init__: a plan's datum, and the instance stands for it -/
def spI (K : PySem.W.Frag) (M : Pm) (Cc : Addr) (φ : D → Option D) : Sp := fun vs H Q E => ∃ (G : Hp) (x dx : Addr) (v : V) (d pd : D), vs = [.ref x, v] ∧ Same G H ∧ G x = none ∧ H x = some (.ins Cc dx []) ∧ R K M G v d ∧ φ d = some pd ∧
  (∀ H' G', StpN x H G H' G' → R K M G' (.ref x) pd → Q .non H') ∧ Same M.kp H ∧ M.kp x = none
def fMake (φ : D → Option D) (b : Fa) : Fe := fun γ => match b γ with
  | some (.ok [d]) => oR (φ d)
  | some (.er c) => some (.er c)
  | _ => none
theorem je_make {φ : D → Option D} {j : Nat} {f : Addr} {fd : FuncData} {ps : List Str} {x : Str} {p : Pos} {t : TA} {fr : Fa} (C : CxF K X E k) (hm : X.mg x = some (.ref Cc)) (mk : Mk X.K Cc f)
    (F : FnOk X.prog X.w X.K X.mg X.base (L2.CX X.prog X.w) j f fd ps (spI K M Cc φ)) (hj : j + 1 ≤ k) (hb : Binds X.K fd ps []) (hg : Gl X x) (ha : JC K X M E [a] t fr)
    (hdb : (x == ("__debug__" : Str)) = false := by decide) (he : starEach [a] X.env = (false, eval a X.env) :: starEach [] X.env := by rfl) (hpl : (backTo pos (starEach [] X.env)).any (·.1) = false := by rfl) :
    JE K X M E .cl (.Call (.Name x p) [a] [] pos) (tMake Cc (spI K M Cc φ) [] E t) (fMake φ fr) := by
  have hK := C.hK
  subst hK
  refine ⟨pe_make mk F (C.room.mono hj) hg hm hb .nil C.pas ha.pa hdb he hpl, fun H0 G0 γ σ H G Q r ev hf p => ?_⟩
  unfold fMake at hf
  split at hf
  · rename_i d e1
    refine ha.ac H0 G0 γ σ H G _ _ ev e1 fun vs H1 G1 s1 r1 => ?_
    intro y dx hy hdx hne
    cases e2 : φ d with
    | none => rw [e2] at hf; cases hf
    | some pd =>
      rw [e2] at hf
      cases hf
      cases r1 with
      | cons r1 r2 =>
        cases r2
        rename_i v
        have gy : G1 y = none := s1.sub.free hy
        have gdx : G1 dx = none := s1.sub.free hdx
        refine ⟨G1, y, dx, v, d, pd, rfl, fun q u z => ?_, gy, upd_same, r1, e2, fun H' G' st rp => ⟨rfl, ?_⟩, fun q u e => ?_, ?_⟩
        · rw [upd_ne (ne_of_none z gy), upd_ne (ne_of_none z gdx)]; exact s1.sub q u z
        · refine p _ H' G' (s1.trans ⟨fun q u z => ?_, st.eg, st.sub, fun q u z n => ?_⟩) rp
          · exact st.ex q u (ne_of_none z hy) (by rw [upd_ne (ne_of_none z hy), upd_ne (ne_of_none z hdx)]; exact z)
          · exact st.nw q u (ne_of_none z hy) (by rw [upd_ne (ne_of_none z hy), upd_ne (ne_of_none z hdx)]; exact z) n
        · have z := (ev.stp s1).st.ex q u (ev.kp q u e)
          rw [upd_ne (ne_of_none z hy), upd_ne (ne_of_none z hdx)]
          exact z
        · cases e : M.kp y with
          | none => rfl
          | some u => have z := (ev.stp s1).st.ex y u (ev.kp y u e); rw [hy] at z; cases z
  · rename_i c e1
    cases hf
    exact ha.ac H0 G0 γ σ H G _ _ ev e1 p
  · cases hf
end
end Py

/-! PyI: the making of a plan, its __init__ -/
namespace Py
open PySem PySem.Spec PyProof.Rows L2
def wts (n : Nat) : List D := (List.range (n + 1)).map fun i => .int (2 ^ i : Nat)
theorem wts_succ (n : Nat) : wts (n + 1) = wts n ++ [.int (2 ^ (n + 1) : Nat)] := by unfold wts; rw [List.range_succ (n := n + 1), List.map_append]; rfl
theorem wts_len (n : Nat) : (wts n).length = n + 1 := by unfold wts; simp
theorem EnvR.re {K : PySem.W.Frag} {M : Pm} {H0 G0 H G H2 : Hp} {γ : Ge} {σ : L2.St} (e : EnvR K M H0 G0 γ σ H G) (n : ∀ (j : Nat) (ds : List D), γ[j]? ≠ some (.ow ds)) (s : Same G H2) (kp : Same M.kp H2) : EnvR K M H2 G γ σ H2 G :=
  ⟨Stp.refl s, e.len, fun i sl x h1 h2 => by
    have q := e.sl i sl x h1 h2
    cases sl with
    | no => trivial
    | va d => exact q
    | ow ds => exact absurd h1 (n i ds), e.ap, kp⟩
theorem noow3 (d : D) (j : Nat) (ds : List D) : ([.no, .va d, .no] : Ge)[j]? ≠ some (.ow ds) := by
  intro h
  have m := List.mem_of_getElem? h
  simp at m
structure IV (K : PySem.W.Frag) (M : Pm) (Cc x dx : Addr) (Hs Gs : Hp) (d : D) (fs : List (Str × V)) (σ : L2.St) (H G : Hp) : Prop where
  ev : EnvR K M H G [.no, .va d, .no] σ H G
  sx : σ[0]? = some (some (.ref x))
  hx : H x = some (.ins Cc dx fs)
  gx : G x = none
  fr : StpN x Hs Gs H G
  kh : Same M.kp Hs
  kx : M.kp x = none
theorem kp_upd {M : Pm} {H H' : Hp} {a : Addr} {o : HO} (k : Same M.kp H) (s : Same H H') (n : M.kp a = none) : Same M.kp (upd H' a o) := fun p u e => by
  rw [upd_ne (fun z => by rw [z, n] at e; cases e)]
  exact s p u (k p u e)
section
variable {K : PySem.W.Frag} {M : Pm} {E : XK} {Cc x dx : Addr} {Hs Gs : Hp} {d : D} {fs : List (Str × V)} {σ : L2.St} {H G : Hp} {De : Ends}
theorem fld_step {t : TE} {fa : Fe} {nm : Str} {dv : D} {y : V} {H1 G1 : Hp} (I : IV K M Cc x dx Hs Gs d fs σ H G) (s1 : Stp H G H1 G1) : IV K M Cc x dx Hs Gs d (putF nm y fs) σ (upd H1 x (.ins Cc dx (putF nm y fs))) G1 := by
  have hx1 : H1 x = some (.ins Cc dx fs) := s1.ex _ _ I.hx
  have gx1 : G1 x = none := s1.nw _ _ I.hx I.gx
  have fr1 := (I.fr.step s1).wr (o := .ins Cc dx (putF nm y fs)) gx1
  exact ⟨(I.ev.stp s1).re (noow3 d) fr1.sub (kp_upd I.ev.kp s1.ex I.kx), I.sx, upd_same, gx1, fr1, I.kh, I.kx⟩
theorem set_cl {t : TE} {fa : Fe} {nm : Str} {dv : D} (cl : Cls K Cc) (na : NoAttr K Cc nm) (hl : fs.length < 1000) (I : IV K M Cc x dx Hs Gs d fs σ H G) (ha : EO K M E .cl t fa) (hf : fa [.no, .va d, .no] = some (.ok dv))
    (p : ∀ y H1 G1, Same G G1 → R K M G1 y dv → IV K M Cc x dx Hs Gs d (putF nm y fs) σ H1 G1 → De.nx σ H1) : sFld K (tVar 0) t nm De σ H := by
  refine ha H G _ σ H G _ _ I.ev hf fun y H1 G1 s1 r1 => ?_
  refine ⟨.ref x, I.sx, x, Cc, dx, fs, rfl, s1.ex _ _ I.hx, cl, na, hl, ?_⟩
  exact p y _ G1 s1.eg r1 (fld_step (t := t) (fa := fa) (dv := dv) I s1)
theorem set_fr {t : TE} {fa : Fe} {nm : Str} {dl : List D} (cl : Cls K Cc) (na : NoAttr K Cc nm) (hl : fs.length < 1000) (I : IV K M Cc x dx Hs Gs d fs σ H G) (ha : EO K M E .fr t fa) (hf : fa [.no, .va d, .no] = some (.ok (.list dl)))
    (p : ∀ l ws H1 G1, Same G G1 → l ≠ x → Hs l = none → H1 l = some (.lst ws) → G1 l = none → RA K M G1 ws dl → IV K M Cc x dx Hs Gs d (putF nm (.ref l) fs) σ H1 G1 → De.nx σ H1) : sFld K (tVar 0) t nm De σ H := by
  refine ha H G _ σ H G _ _ I.ev hf fun y H1 G1 s1 r1 => ?_
  obtain ⟨l, ws, rfl, h0, g1, h1, ra⟩ := r1
  have lx : l ≠ x := fun e => by rw [e, I.hx] at h0; cases h0
  have hs : Hs l = none := by
    cases q : Hs l with
    | none => rfl
    | some u => have := I.fr.ex l u lx q; rw [h0] at this; cases this
  refine ⟨.ref x, I.sx, x, Cc, dx, fs, rfl, s1.ex _ _ I.hx, cl, na, hl, ?_⟩
  exact p l ws _ G1 s1.eg lx hs (by rw [upd_ne lx]; exact h1) g1 ra (fld_step (t := t) (fa := fa) (dv := .none) I s1)
end
/-- the loop of the weights -/
structure LW (K : PySem.W.Frag) (M : Pm) (Cc x dx l : Addr) (Hs Gs : Hp) (d : D) (fs : List (Str × V)) (i : Nat) (σ : L2.St) (H G : Hp) : Prop where
  I : IV K M Cc x dx Hs Gs d fs σ H G
  wl : ∃ ws, H l = some (.lst ws) ∧ RA K M G ws (wts i)
  gl : G l = none
theorem two_pow (i : Nat) : (2 : Int) * ((2 ^ i : Nat) : Int) = ((2 ^ (i + 1) : Nat) : Int) := by rw [Nat.pow_succ]; omega
theorem loop_w {K : PySem.W.Frag} {M : Pm} {E : XK} {Cc x dx l : Addr} {Hs Gs : Hp} {d : D} {fs : List (Str × V)} {σ : L2.St} {H G : Hp} {De : Ends} {tn : TE} {fn : Fe} {W : List D} {vW : V} (cl : Cls K Cc) (naW : NoAttr K Cc "wishes") (naT : NoAttr K Cc "weights")
    (fW : fs.lookup ("wishes" : Str) = some vW) (fT : fs.lookup ("weights" : Str) = some (V.ref l)) (lx : l ≠ x) (hsl : Hs l = none) (rW : R K M G vW (.list W)) (hn : W.length ≤ 1000) (I : LW K M Cc x dx l Hs Gs d fs 0 σ H G) (en : EO K M E .cl tn fn) (hf : ∀ γ, fn γ = some (.ok (.int (-1))))
    (p : ∀ σ' H' G', Same G G' → LW K M Cc x dx l Hs Gs d fs W.length σ' H' G' → De.nx σ' H') :
    tFor (iList K (tFld K (tVar 0) "wishes")) (gName 2) (tDrop (tBM K "list" rAppend (tFld K (tVar 0) "weights") (tCons (tOp (rI CMul fun i j => .int (i * j)) (tC (.int 2)) (tOp (rIx K) (tFld K (tVar 0) "weights") tn)) tNil))) De σ H := by
  cases rW with
  | lst hsq hra =>
    rename_i lw us
    refine ⟨.ref x, I.I.sx, x, Cc, dx, fs, _, rfl, I.I.hx, cl, naW, fW, lw, rfl, ⟨us, I.I.ev.sub.seq hsq⟩, ?_⟩
    refine ⟨fun i m σ' H' => m = W.length - i ∧ i ≤ W.length ∧ ∃ G', Same G G' ∧ LW K M Cc x dx l Hs Gs d fs i σ' H' G', ⟨W.length, by simp, Nat.zero_le _, G, Same.refl _, I⟩, ?_⟩
    rintro i m σ2 H2 ⟨rfl, hi, G2, g2, L⟩
    by_cases hlt : i < W.length
    · have hu : i < us.length := by rw [hra.len]; exact hlt
      have hs2 : SqL K H2 lw us := (g2.trans L.I.ev.sub).seq hsq
      refine .inr ⟨⟨us, us[i], hs2, List.getElem?_eq_getElem hu⟩, fun σ' H' => ∃ G', Same G G' ∧ LW K M Cc x dx l Hs Gs d fs (i + 1) σ' H' G', fun σ' H' ⟨G', q1, q2⟩ => ⟨W.length - (i + 1), by omega, rfl, hlt, G', q1, q2⟩, fun y H3 hy => ?_⟩
      obtain ⟨e3, hy⟩ := hy
      subst e3
      obtain ⟨ws, hl, rw_⟩ := L.wl
      have sx2 : (σ2.set 2 (some y))[0]? = some (some (.ref x)) := by rw [List.getElem?_set_ne (by decide)]; exact L.I.sx
      have ev2 : EnvR K M H3 G2 [.no, .va d, .no] (σ2.set 2 (some y)) H3 G2 := by
        have e := L.I.ev
        refine ⟨e.st, by rw [List.length_set]; exact e.len, fun j sl xx h1 h2 => ?_, fun j k sj sk xj xk q h1 h2 h3 h4 h5 h6 => ?_, e.kp⟩
        · by_cases hj : j = 2
          · subst hj; cases h1; trivial
          · rw [List.getElem?_set_ne (Ne.symm hj)] at h2; exact e.sl j sl xx h1 h2
        · cases sj with
          | ow ds => exact absurd h1 (noow3 d j ds)
          | _ => exact h5.elim
      have kl : M.kp l = none := by
        cases e : M.kp l with
        | none => rfl
        | some u => have := L.I.kh l u e; rw [hsl] at this; cases this
      have hlen : ws.length = i + 1 := by rw [rw_.len, wts_len]
      refine ⟨.ref x, sx2, x, Cc, dx, fs, V.ref l, rfl, L.I.hx, cl, naT, fT, (show tyV K "list" (V.ref l) H3 from Or.inl ⟨rfl, ws, .of hl⟩), ?_⟩
      show tOp (rI CMul fun i j => .int (i * j)) (tC (.int 2)) _ (σ2.set 2 (some y)) H3 _
      refine ⟨.ref x, sx2, x, Cc, dx, fs, _, rfl, L.I.hx, cl, naT, fT, ?_⟩
      refine en H3 G2 _ _ H3 G2 _ _ ev2 (hf _) fun w H4 G4 s4 r4 => ?_
      cases (show R K M G4 w (.int (-1)) from r4)
      have hl4 : H4 l = some (.lst ws) := s4.ex _ _ hl
      have last : atI (wts i) (-1) = some (.int (2 ^ i : Nat)) := by
        cases i with
        | zero => rfl
        | succ i => rw [wts_succ]; exact atI_last _ _
      obtain ⟨v, hv1, hv2⟩ := (rw_.mono s4.eg).at last
      cases (show R K M G4 v (.int (2 ^ i : Nat)) from hv2)
      refine .inl ⟨l, ws, -1, _, rfl, rfl, .of hl4, hv1, 2, ((2 ^ i : Nat) : Int), rfl, rfl, .inl ⟨by decide, by decide⟩, ?_⟩
      refine ⟨l, ws, _, rfl, rfl, hl4, by rw [hlen, sizeLine_eq]; omega, ?_⟩
      have g4l : G4 l = none := s4.nw _ _ hl L.gl
      have g4x : G4 x = none := s4.nw _ _ L.I.hx L.I.gx
      have fr4 := ((L.I.fr.step s4).wrN (o := .lst (ws ++ [.int (2 * ((2 ^ i : Nat) : Int))])) hsl g4l)
      refine ⟨G4, g2.trans s4.eg, ⟨(ev2.stp s4).re (noow3 d) fr4.sub (kp_upd L.I.ev.kp s4.ex kl), sx2, by rw [upd_ne (Ne.symm lx)]; exact s4.ex _ _ L.I.hx, g4x, fr4, L.I.kh, L.I.kx⟩, ⟨_, upd_same, ?_⟩, g4l⟩
      rw [wts_succ, ← two_pow]
      exact (rw_.mono s4.eg).app (.one (.int _))
    · have hie : i = W.length := by omega
      subst hie
      exact .inl ⟨⟨us, (g2.trans L.I.ev.sub).seq hsq, by rw [hra.len]; omega⟩, p σ2 H2 G2 g2 L⟩
/-- self.nm = e -/
structure JF (K : PySem.W.Frag) (X : Cx) (M : Pm) (E : XK) (m : Md) (st : Stmt) (nm : Str) (t : TE) (f : Fe) : Prop where
  ps : PS X st (sFld K (tVar 0) t nm)
  eo : EO K M E m t f
/-- the loop of the weights -/
structure JL (K : PySem.W.Frag) (X : Cx) (M : Pm) (E : XK) (st : Stmt) (tn : TE) (fn : Fe) : Prop where
  ps : PS X st (tFor (iList K (tFld K (tVar 0) "wishes")) (gName 2) (tDrop (tBM K "list" rAppend (tFld K (tVar 0) "weights") (tCons (tOp (rI CMul fun i j => .int (i * j)) (tC (.int 2)) (tOp (rIx K) (tFld K (tVar 0) "weights") tn)) tNil))))
  eo : EO K M E .cl tn fn
section
variable {K : PySem.W.Frag} {X : Cx} {M : Pm} {E : XK} {k : Nat} {a : Expr} {ta : TE} {fa : Fe} {m : Md}
theorem js_fld {nm x : Str} {p0 p' pos : Pos} (C : CxF K X E k) (ha : JE K X M E m a ta fa) (ho : PE X (.Name x p0) (tVar 0)) (hs : swapsWith a (some (.Attribute (.Name x p0) nm p')) pos.line X.env = pure false := by rfl) :
    JF K X M E m (.Assign [.Attribute (.Name x p0) nm p'] a pos) nm ta fa := by
  have hK := C.hK
  subst hK
  exact ⟨ps_fld ho ha.pe hs, ha.eo⟩
theorem js_loop {x w : Str} {p1 p2 p3 p4 p5 p6 p7 p8 p9 p10 pos : Pos} {j2 : Nat} (C : CxF K X E k) (ho : ∀ p, PE X (.Name x p) (tVar 0)) (hi : X.N[2]? = some w) (hx : Loc X.env.scope w) (hf : X.fn w = true ∨ X.env.scope.names.lookup w = some .local) (ha : JE K X M E .cl a ta fa)
    (hs : PlainIx a) (hb1 : attributeBase (.Name x p1) "wishes" X.env (eval (.Name x p1) X.env) = eval (.Name x p1) X.env) (hb2 : ∀ p, attributeBase (.Name x p) "weights" X.env (eval (.Name x p) X.env) = eval (.Name x p) X.env)
    (he : PE X (.Call (.Attribute (.Attribute (.Name x p3) "weights" p4) "append" p5) [.BinOp (.Constant (.int 2) j2 p6) .Mult (.Subscript (.Attribute (.Name x p7) "weights" p8) a p9) p10] [] p2) (tBM K "list" rAppend (tFld K (tVar 0) "weights") (tCons (tOp (rI CMul fun i j => .int (i * j)) (tC (.int 2)) (tOp (rIx K) (tFld K (tVar 0) "weights") ta)) tNil)))
    (hsw : swapsWith (.Call (.Attribute (.Attribute (.Name x p3) "weights" p4) "append" p5) [.BinOp (.Constant (.int 2) j2 p6) .Mult (.Subscript (.Attribute (.Name x p7) "weights" p8) a p9) p10] [] p2) none pos.line X.env = pure false)
    {pt pa pfor : Pos} (hfo : ∀ y, foldedSetIterable (.Attribute (.Name x p1) "wishes" pa) X.env y = pure y) :
    JL K X M E (.For (.Name w pt) (.Attribute (.Name x p1) "wishes" pa) [.Expr (.Call (.Attribute (.Attribute (.Name x p3) "weights" p4) "append" p5) [.BinOp (.Constant (.int 2) j2 p6) .Mult (.Subscript (.Attribute (.Name x p7) "weights" p8) a p9) p10] [] p2) pos] [] pfor) ta fa := by
  have hK := C.hK
  subst hK
  exact ⟨ps_for C.own C.calm (pi_list (pe_fld (ho _) hb1)) (pg_name C.nd hi hx hf) (pss_one (ps_expr he hsw)) hfo, ha.eo⟩
/-- __init__'s body -/
structure JN (K : PySem.W.Frag) (X : Cx) (M : Pm) (E : XK) (body : List Stmt) (tW tP tM tL tn : TE) (fW fP fM fL fn : Fe) : Prop where
  ps : PSs X body (tSeq (sFld K (tVar 0) tW "wishes") (tSeq (sFld K (tVar 0) tP "pasts") (tSeq (sFld K (tVar 0) tM "marks") (tSeq (sFld K (tVar 0) tL "weights")
    (tFor (iList K (tFld K (tVar 0) "wishes")) (gName 2) (tDrop (tBM K "list" rAppend (tFld K (tVar 0) "weights") (tCons (tOp (rI CMul fun i j => .int (i * j)) (tC (.int 2)) (tOp (rIx K) (tFld K (tVar 0) "weights") tn)) tNil))))))))
  w : EO K M E .cl tW fW
  p : EO K M E .cl tP fP
  m : EO K M E .cl tM fM
  l : EO K M E .fr tL fL
  n : EO K M E .cl tn fn
theorem jn_of {s1 s2 s3 s4 s5 : Stmt} {tW tP tM tL tn : TE} {fW fP fM fL fn : Fe} (h1 : JF K X M E .cl s1 "wishes" tW fW) (h2 : JF K X M E .cl s2 "pasts" tP fP) (h3 : JF K X M E .cl s3 "marks" tM fM) (h4 : JF K X M E .fr s4 "weights" tL fL) (h5 : JL K X M E s5 tn fn) :
    JN K X M E [s1, s2, s3, s4, s5] tW tP tM tL tn fW fP fM fL fn := ⟨pss_cons h1.ps (pss_cons h2.ps (pss_cons h3.ps (pss_cons h4.ps (pss_one h5.ps)))), h1.eo, h2.eo, h3.eo, h4.eo, h5.eo⟩
end
def initT (φW φP φM : List D → Option Rs) (d : D) : Option D := match φW [d], φP [d], φM [d] with
  | some (.ok (.list W)), some (.ok Pd), some (.ok Md) => if W.length ≤ 1000 then some (planD [.list W, Pd, Md, .list (wts W.length)]) else none
  | _, _, _ => none
theorem putF_len (f : Str) (v : V) : ∀ fs : List (Str × V), (putF f v fs).length ≤ fs.length + 1
  | [] => Nat.le_refl _
  | (g, x) :: r => by
    unfold putF
    split
    · simp
    · simp only [List.length_cons]; have := putF_len f v r; omega
theorem init_ok {P : Program} {w : World} {K : PySem.W.Frag} {mg : Str → Option Value} {base : Heap} {M : Pm} {st : Stmt} {f : Addr} {fd : FuncData} {N : List Str} {k : Nat} {Cc : Addr} {φW φP φM : List D → Option Rs} (F : Fun K "__init__" "Plan.__init__" st f fd) (S : FnScope N ["self", "statement"] (defScope st)) (hN : N.length = 3) (cp : CP K mg M Cc)
    (hb : ∀ (cdv : Value) (A : Around) (outer : List Env) (s : Shared) (H : Hp) (E : XK), CxF K (cxOf (L2.CX P w) P w K mg base N "Plan.__init__" (defScope st) f cdv A outer s H E) E k → Takes (cxOf (L2.CX P w) P w K mg base N "Plan.__init__" (defScope st) f cdv A outer s H E) (fun cls d _ H => E cls d H) →
      ∃ tW tP tM tL tn, JN K (cxOf (L2.CX P w) P w K mg base N "Plan.__init__" (defScope st) f cdv A outer s H E) M E (defBody st) tW tP tM tL tn (fCall φW (fCons (fVar 1) fNil)) (fCall φP (fCons (fVar 1) fNil)) (fCall φM (fCons (fVar 1) fNil)) (fLst (fCons (fCon (.int 1)) fNil)) (f1 oNeg (fCon (.int 1)))) :
    FnOk P w K mg base (L2.CX P w) (k + 1) f fd ["self", "statement"] (spI K M Cc (initT φW φP φM)) := by
  have len : ∀ vs H Q E, spI K M Cc (initT φW φP φM) vs H Q E → vs.length = (["self", "statement"] : List Str).length := by
    rintro vs H Q E ⟨G, x, dx, v, d, pd, rfl, _⟩
    rfl
  refine F.okX S len fun cdv A outer s H vs Q E hr h => ?_
  obtain ⟨C, tk⟩ := cxf_of (P := P) (w := w) (K := K) (mg := mg) (base := base) (qual := "Plan.__init__") (s := s) (H := H) (E := E) (outer := outer) S hr
  obtain ⟨tW, tP, tM, tL, tn, J⟩ := hb cdv A outer s H E C tk
  refine ⟨_, J.ps, ?_⟩
  obtain ⟨G, x, dx, v, d, pd, rfl, e, gx, hx, r, hi, p, kh, kx⟩ := h
  unfold initT at hi
  split at hi
  case h_2 => cases hi
  rename_i W Pd Md eW eP eM
  split at hi
  case isFalse => cases hi
  rename_i hW
  cases hi
  obtain ⟨n0, n1, n2, rfl⟩ : ∃ a b c, N = [a, b, c] := by
    match N, hN with
    | [a, b, c], _ => exact ⟨a, b, c, rfl⟩
  have I0 : IV K M Cc x dx H G d [] (L2.start [n0, n1, n2] [.ref x, v]) H G := by
    refine ⟨⟨Stp.refl e, rfl, fun j sl y h1 h2 => ?_, fun j k sj sk xj xk q h1 h2 h3 h4 h5 h6 => ?_, kh⟩, rfl, hx, gx, ⟨fun _ _ _ q => q, Same.refl _, e, fun _ _ _ _ n => n⟩, kh, kx⟩
    · match j, h1, h2 with
      | 0, h1, h2 => cases h1; trivial
      | 1, h1, h2 => cases h1; cases h2; exact ⟨v, rfl, r⟩
      | 2, h1, h2 => cases h1; trivial
      | j + 3, h1, _ => simp at h1
    · cases sj with
      | ow ds => exact absurd h1 (noow3 d j ds)
      | _ => exact h5.elim
  have na : ∀ f ∈ plNs, NoAttr K Cc f := cp.na
  have ev : ∀ φ : List D → Option Rs, (fCall φ (fCons (fVar 1) fNil)) [.no, .va d, .no] = φ [d] := fun φ => rfl
  refine set_cl cp.cl (na "wishes" (by simp)) (by decide) I0 J.w ((ev φW).trans eW) fun vW H1 G1 g1 rW I1 => ?_
  have l1 := putF_len "wishes" vW []
  simp only [List.length_nil] at l1
  refine set_cl cp.cl (na "pasts" (by simp)) (by omega) I1 J.p ((ev φP).trans eP) fun vP H2 G2 g2 rP I2 => ?_
  have l2 := putF_len "pasts" vP (putF "wishes" vW [])
  refine set_cl cp.cl (na "marks" (by simp)) (by omega) I2 J.m ((ev φM).trans eM) fun vM H3 G3 g3 rM I3 => ?_
  have l3 := putF_len "marks" vM (putF "pasts" vP (putF "wishes" vW []))
  refine set_fr cp.cl (na "weights" (by simp)) (by omega) I3 J.l (dl := [.int 1]) rfl fun l ws H4 G4 g4 lx hsl hl gl ra I4 => ?_
  have L0 : LW K M Cc x dx l H G d _ 0 (L2.start [n0, n1, n2] [.ref x, v]) H4 G4 := ⟨I4, ⟨ws, hl, ra⟩, gl⟩
  refine loop_w cp.cl (na "wishes" (by simp)) (na "weights" (by simp)) (vW := vW) (W := W) rfl rfl lx hsl (rW.mono ((g2.trans g3).trans g4)) hW L0 J.n (fun _ => rfl) fun σ5 H5 G5 g5 L5 => ?_
  obtain ⟨wl, hwl, rwl⟩ := L5.wl
  have gl5 : G5 l = none := L5.gl
  have gx5 : G5 x = none := L5.I.gx
  have e1 : Same G5 (upd G5 l (.lst wl)) := same_new gl5
  have gx6 : (upd G5 l (.lst wl)) x = none := by rw [upd_ne (Ne.symm lx)]; exact gx5
  have e2 : Same (upd G5 l (.lst wl)) (upd (upd G5 l (.lst wl)) x (.ins Cc dx [("wishes", vW), ("pasts", vP), ("marks", vM), ("weights", .ref l)])) := same_new gx6
  have e3 := e1.trans e2
  refine p H5 (upd (upd G5 l (.lst wl)) x (.ins Cc dx [("wishes", vW), ("pasts", vP), ("marks", vM), ("weights", .ref l)])) ⟨L5.I.fr.ex, L5.I.fr.eg.trans e3, fun q u z => ?_, fun q u nq z n => ?_⟩ ?_
  · by_cases hq : q = x
    · subst hq; rw [upd_same] at z; cases z; exact L5.I.hx
    · rw [upd_ne hq] at z
      by_cases hq2 : q = l
      · subst hq2; rw [upd_same] at z; cases z; exact hwl
      · rw [upd_ne hq2] at z; exact L5.I.ev.sub q u z
  · rw [upd_ne nq, upd_ne (ne_of_none z hsl)]
    exact L5.I.fr.nw q u nq z n
  · refine .ins upd_same cp.ci rfl ?_
    refine .cons (rW.mono ((((g2.trans g3).trans g4).trans g5).trans e3)) (.cons (rP.mono (((g3.trans g4).trans g5).trans e3)) (.cons (rM.mono ((g4.trans g5).trans e3)) (.one (.lst (.of (e2 _ _ upd_same)) (rwl.mono e3)))))
end Py

/-! PyJ: xs.index(x), sorted(xs) -/
namespace Py
open PySem PySem.Spec PyProof.Rows L2
def oIndex : D → D → Option D
  | .list ds, d => if SeqAt.shaped (.list ds) = true ∧ SeqAt.shaped d = true then (match ds.findIdx? fun z => PyData.eqv z d with
    | some j => some (.int (j : Nat))
    | none => none) else none
  | _, _ => none
def oSorted : List D → Option D
  | [.list ds] => (match strsOf ds with
    | some xs => if xs.length < 64 then some (.list ((sortT xs).map .str)) else none
    | none => none)
  | _ => none
def fIdx (a b : Fe) : Fe := fun γ => match a γ with
  | some (.ok (.list ds)) => (match b γ with
    | some (.ok d) => oR (oIndex (.list ds) d)
    | _ => none)
  | some (.er c) => some (.er c)
  | _ => none
theorem cs_sorted {K : PySem.W.Frag} {M : Pm} : CallS K M .fr (rSortedS K) oSorted := by
  intro H G vs ds dz Q e r ho q
  unfold oSorted at ho
  split at ho
  · rename_i ds
    split at ho
    · rename_i xs hx
      split at ho
      · rename_i h64
        cases ho
        cases r with
        | cons r t =>
          cases t
          obtain ⟨l, us, e1, h, ra⟩ := r
          subst e1
          have es := strsOf_eq hx
          subst es
          refine ⟨l, xs, rfl, by rw [← ra.strs]; exact h, h64, fun ys p hp hs hn => ?_⟩
          have eu := sortT_uniq hp (pair_of_sorted hs)
          subst eu
          exact q _ _ G (Stp.newO e hn) ⟨p, _, rfl, hn, e.free hn, upd_same, RA.of_strs _⟩
      · cases ho
    · cases ho
  · cases ho
section
variable {K : PySem.W.Frag} {X : Cx} {M : Pm} {E : XK} {k : Nat} {a b : Expr} {ta tb : TE} {fa fb : Fe} {pos apos : Pos}
theorem je_sorted {p : Pos} (C : CxF K X E k) (hm : X.mg "sorted" = none) (hg : Gl X "sorted") (ha : JE K X M E .op a ta fa) (hs : starEach [a] X.env = (false, eval a X.env) :: starEach [] X.env := by rfl) : JE K X M E .fr (.Call (.Name "sorted" p) [a] [] pos) (tCB (rSortedS K) (tCons ta tNil)) (fB oSorted (fCons fa fNil)) := by
  have hK := C.hK
  subst hK
  exact je_callB cr_sortedS cs_sorted hm (by decide +kernel) hg (ja_cons ha ja_nil hs) (by decide) (by decide) hs rfl
theorem je_index (C : CxF K X E k) (ha : JE K X M E .op a ta fa) (hb : JE K X M E .op b tb fb)
    (hbase : attributeBase a "index" X.env (eval a X.env) = eval a X.env := by rfl)
    (hfew : ((backTo pos (starEach [b] X.env)).all (fun x => !x.1) && (backToKw pos (keywordEach [] X.env)).all (fun x => x.1.isSome)
      && decide ([b].length + ([] : List Keyword).length + (if ([] : List Keyword).isEmpty then 0 else 1) < 30)) = true := by rfl)
    (hline : (apos.endLine == pos.line) = true := by rfl) (hst : starEach [b] X.env = (false, eval b X.env) :: starEach [] X.env := by rfl) :
    JE K X M E .cl (.Call (.Attribute a "index" apos) [b] [] pos) (tBM K "list" (rIndexD K) ta (tCons tb tNil)) (fIdx fa fb) := by
  have hK := C.hK
  subst hK
  refine ⟨pe_bm PySem.F.plainAttrs_list PySem.F.slot_list_index PySem.F.type_list_index (mt_indexD (by have := C.room.un; omega)) ha.pe (pa_cons hb.pe pa_nil hst) hbase hfew hline hst rfl, fun H0 G0 γ σ H G Q r ev hf p => ?_⟩
  unfold fIdx at hf
  split at hf
  · rename_i ds e1
    refine ha.eo H0 G0 γ σ H G _ _ ev e1 fun x H1 G1 s1 r1 => ?_
    split at hf
    · rename_i d e2
      cases e3 : oIndex (.list ds) d with
      | none => rw [e3] at hf; cases hf
      | some dz =>
        rw [e3] at hf
        cases hf
        unfold oIndex at e3
        simp only at e3
        split at e3
        · rename_i hsh
          split at e3
          · rename_i j hj
            cases e3
            obtain ⟨l, us, e4, hs, ra⟩ := id r1
            subst e4
            refine ⟨(show tyV X.K "list" (V.ref l) H1 from Or.inl ⟨rfl, us, hs⟩), ?_⟩
            refine hb.eo H0 G0 γ σ H1 G1 _ _ (ev.stp s1) e2 fun y H2 G2 s2 r2 => ?_
            obtain ⟨hlt, hz, hno⟩ := List.findIdx?_eq_some_iff_getElem.mp hj
            have r3 : RO X.K M H2 G2 (.ref l) (.list ds) := RO.mono (d := .list ds) r1 s2.ex s2.eg
            have d1 : Dp X.K H2 (.ref l) (.list ds) := RO.dp r3 s2.sub hsh.1
            have d2 : Dp X.K H2 y d := RO.dp r2 s2.sub hsh.2
            refine ⟨l, y, d, ds, j, ds[j], rfl, rfl, d1, d2, hsh.1, hsh.2, List.getElem?_eq_getElem hlt, hz, fun m z' hm hz' => ?_, p _ H2 G2 (s1.trans s2) (R.int _)⟩
            obtain ⟨hml, rfl⟩ := List.getElem?_eq_some_iff.mp hz'
            have := hno m hm
            simpa using this
          · cases e3
        · cases e3
    · cases hf
  · rename_i c e1
    cases hf
    exact ha.eo H0 G0 γ σ H G _ _ ev e1 p
  · cases hf
end
/-! ### in a plain body: a name stored from an expression that uses the shared list -/
section
variable {K : PySem.W.Frag} {X : Cx} {M : Pm} {E : XK} {k : Nat} {a : Expr} {ta : TE} {fa : Fe} {pos : Pos} {i : Nat} {F_ : Fx}
theorem usa_consO {fr : Fxa} (h : Usa i fr) : Usa i (xCons (xOf fa) fr) := fun γ d γ' e => by
  unfold xCons xOf at e
  split at e
  · rename_i d1 γ1 e1
    split at e1
    · cases e1
      split at e
      · rename_i ds γ2 e2; exact h _ _ _ e2
      · cases e
    · cases e1
  · cases e
theorem us_tup {fr : Fxa} (h : Usa i fr) : Us i (xTup fr) := fun γ d γ' e => by
  unfold xTup at e
  split at e
  · rename_i e1; exact h _ _ _ e1
  · cases e
def sSetX (j : Nat) (f : Fx) : Fs := fun γ => match f γ with
  | some (d, γ1) => some (.nx (γ1.set j (.va d)))
  | none => none
theorem js_setX {j : Nat} {x : Str} {p0 : Pos} (i : Nat) (hN : X.N.Nodup) (ha : JXE K X M i a ta F_) (hw : Us i F_) (hi : X.N[j]? = some x := by rfl) (hx : Loc X.env.scope x := by first | exact Or.inl rfl | exact Or.inr rfl) (hs : swapsWith a (some (.Name x p0)) pos.line X.env = pure false := by rfl) (hf : X.fn x = true ∨ X.env.scope.names.lookup x = some .local := by first | exact .inl rfl | exact .inr rfl) :
    JS K X M E (.Assign [.Name x p0] a pos) (tAsg ta (gName j)) (sSetX j F_) := ⟨ps_set hN hi hx ha.pe hs hf, fun H0 G0 γ σ H G De o ev hfx p => by
  unfold sSetX at hfx
  split at hfx
  · rename_i d γ1 e1
    cases hfx
    obtain ⟨ds, e2⟩ := hw _ _ _ e1
    obtain ⟨q, vs, h1, _⟩ := ev.ow e2
    exact ha.xe q H0 G0 γ σ H G _ _ _ ⟨ev, h1⟩ e1 fun v H' G' s ev' rv => p _ H' G' (ev'.ev.setv rv)
  · cases hfx⟩
end
end Py

/-! PyU: defs whose result is a new list -/
namespace Py
open PySem PySem.Spec PyProof.Rows L2
section
variable (K : PySem.W.Frag) (M : Pm) (E : XK)
def PostF (H0 G0 : Hp) (De : Ends) : Out → Prop
  | .rt d => ∀ v H G, Stp H0 G0 H G → RF K M H0 H G v d → De.rt v H
  | o => PostS K M E H0 G0 De o
def SOF (t : TS) (f : Fs) : Prop := ∀ (H0 G0 : Hp) (γ : Ge) (σ : L2.St) (H G : Hp) (De : Ends) (o : Out), EnvR K M H0 G0 γ σ H G → f γ = some o → PostF K M E H0 G0 De o → t De σ H
end
/-- an own list, nothing else -/
def fOwn (i : Nat) : Fe := fun γ => match γ[i]? with
  | some (.ow ds) => some (.ok (.list ds))
  | _ => none
/-- it never returns -/
def NoRt (f : Fs) : Prop := ∀ γ d, f γ ≠ some (.rt d)
section
variable {K : PySem.W.Frag} {X : Cx} {M : Pm} {E : XK} {k : Nat} {a : Expr} {ta : TE} {fa : Fe} {t u : TS} {f g : Fs} {pos : Pos} {st : Stmt} {rest : List Stmt}
theorem uf_lift (h : SO K M E t f) (n : NoRt f) : SOF K M E t f := fun H0 G0 γ σ H G De o ev hf p => by
  refine h H0 G0 γ σ H G De o ev hf ?_
  cases o with
  | rt d => exact absurd hf (n γ d)
  | _ => exact p
theorem uf_seq (h1 : SO K M E t f) (n : NoRt f) (h2 : SOF K M E u g) : SOF K M E (tSeq t u) (fSeq f g) := fun H0 G0 γ σ H G De o ev hf p => by
  unfold fSeq at hf
  split at hf
  · rename_i γ1 e1
    exact h1 H0 G0 γ σ H G { De with nx := u De } _ ev e1 fun σ' H' G' ev' => h2 H0 G0 γ1 σ' H' G' De o ev' hf p
  · rename_i hn
    refine h1 H0 G0 γ σ H G { De with nx := u De } o ev hf ?_
    cases o with
    | nx γ1 => exact absurd hf (hn γ1)
    | rt d => exact absurd hf (n γ d)
    | _ => exact p
/-- return of an own list -/
theorem uf_retO {i : Nat} : SOF K M E (tRet (tVar i)) (sRet (fOwn i)) := fun H0 G0 γ σ H G De o ev hf p => by
  unfold sRet at hf
  split at hf
  · rename_i d e1
    unfold fOwn at e1
    split at e1
    · rename_i ds e2
      cases e1
      cases hf
      obtain ⟨l, vs, h1, hg, h0, h2, h3⟩ := ev.ow e2
      exact ⟨_, h1, p _ H G ev.st ⟨l, vs, rfl, h0, hg, h2, h3⟩⟩
    · cases e1
  · rename_i c e1
    unfold fOwn at e1
    split at e1 <;> cases e1
  · cases hf
/-- return of an expression that makes a new list -/
theorem uf_retF (ha : EO K M E .fr ta fa) : SOF K M E (tRet ta) (sRet fa) := fun H0 G0 γ σ H G De o ev hf p => by
  unfold sRet at hf
  split at hf
  · rename_i d e1
    cases hf
    exact ha H0 G0 γ σ H G _ _ ev e1 fun v H' G' s r => p v H' G' (ev.st.trans s) (RF.up r ev.st.ex)
  · rename_i c e1
    cases hf
    exact ha H0 G0 γ σ H G _ _ ev e1 fun H' G' s => p H' G' (ev.st.trans s)
  · cases hf
theorem nr_set (i : Nat) : NoRt (sSet i fa) := fun γ d h => by unfold sSet at h; split at h <;> cases h
theorem nr_setO (i : Nat) : NoRt (sSetO i fa) := fun γ d h => by unfold sSetO at h; split at h <;> cases h
theorem nr_app (i : Nat) : NoRt (sApp i fa) := fun γ d h => by
  unfold sApp at h
  split at h
  · split at h
    · split at h <;> cases h
    · cases h
    · cases h
  · cases h
theorem nr_next : NoRt fNext := fun γ d h => by cases h
theorem nr_if {c : Ft} (h1 : NoRt f) (h2 : NoRt g) : NoRt (sIf c f g) := fun γ d h => by
  unfold sIf at h
  split at h
  · exact h1 _ _ h
  · exact h2 _ _ h
  · cases h
  · cases h
theorem nr_seq (h1 : NoRt f) (h2 : NoRt g) : NoRt (fSeq f g) := fun γ d h => by
  unfold fSeq at h
  split at h
  · exact h2 _ _ h
  · exact h1 _ _ h
theorem nr_forF {gf : D → Ge → Option Ge} (h1 : NoRt f) : ∀ (ds : List D) (γ : Ge) (d : D), forF gf f ds γ ≠ some (.rt d)
  | [], γ, d, h => by cases h
  | x :: ds, γ, d, h => by
    unfold forF at h
    split at h
    · cases h
    · split at h
      · exact nr_forF h1 ds _ d h
      · exact nr_forF h1 ds _ d h
      · cases h
      · rename_i e; exact h1 _ _ e
      · cases h
      · cases h
theorem nr_for {w : Fa} {gf : D → Ge → Option Ge} (h1 : NoRt f) : NoRt (sFor w gf f) := fun γ d h => by
  unfold sFor at h
  split at h
  · exact nr_forF h1 _ _ _ h
  · cases h
  · cases h
end
end Py

namespace Py
open PySem PySem.Spec PyProof.Rows L2
/-- the promise of a def whose result is a new list -/
def spFr (K : PySem.W.Frag) (M : Pm) (φ : List D → Option Rs) : Sp := fun vs H Q E => ∃ (G : Hp) (ds : List D) (r : Rs), Same G H ∧ RA K M G vs ds ∧ φ ds = some r ∧ PostE K M E .fr H G Q r ∧ Same M.kp H
theorem fnFr_ok {P : Program} {w : World} {K : PySem.W.Frag} {mg : Str → Option Value} {base : Heap} {M : Pm} {x qual : Str} {st : Stmt} {f : Addr} {fd : FuncData} {N ps : List Str} {k : Nat} {g : Fs} (F : Fun K x qual st f fd) (S : FnScope N ps (defScope st)) (hnx : ∀ γ γ', g γ ≠ some (.nx γ'))
    (hb : ∀ (cdv : Value) (A : Around) (outer : List Env) (s : Shared) (H : Hp) (E : XK), CxF K (cxOf (L2.CX P w) P w K mg base N qual (defScope st) f cdv A outer s H E) E k → Takes (cxOf (L2.CX P w) P w K mg base N qual (defScope st) f cdv A outer s H E) (fun cls d _ H => E cls d H) →
      ∃ t, PSs (cxOf (L2.CX P w) P w K mg base N qual (defScope st) f cdv A outer s H E) (defBody st) t ∧ SOF K M E t g) : FnOk P w K mg base (L2.CX P w) (k + 1) f fd ps (spFr K M (runF ps.length N.length g)) := by
  have len : ∀ vs H Q E, spFr K M (runF ps.length N.length g) vs H Q E → vs.length = ps.length := by
    rintro vs H Q E ⟨G, ds, r, _, ra, e, _⟩
    unfold runF at e
    split at e
    · rename_i hl
      rw [ra.len]; exact hl
    · cases e
  refine F.okX S len fun cdv A outer s H vs Q E hr h => ?_
  obtain ⟨C, tk⟩ := cxf_of (P := P) (w := w) (K := K) (mg := mg) (base := base) (qual := qual) (s := s) (H := H) (E := E) (outer := outer) S hr
  obtain ⟨t, Jp, Jo⟩ := hb cdv A outer s H E C tk
  refine ⟨t, Jp, ?_⟩
  obtain ⟨G, ds, r, e, ra, er, p, kp⟩ := h
  unfold runF at er
  split at er
  · split at er
    · rename_i γ1 ef
      exact absurd ef (hnx _ _)
    · rename_i d ef
      cases er
      exact Jo H G _ _ H G _ _ (env_entry e ra kp) ef fun v H' G' s r => p v H' G' s r
    · rename_i c ef
      cases er
      exact Jo H G _ _ H G _ _ (env_entry e ra kp) ef fun H' G' s => p H' G' s
    · cases er
  · cases er
end Py

/-! PyU3: bodies whose result is a new list; calls of them -/
namespace Py
open PySem PySem.Spec PyProof.Rows L2
structure JSF (K : PySem.W.Frag) (X : Cx) (M : Pm) (E : XK) (st : Stmt) (t : TS) (f : Fs) : Prop where
  ps : PS X st t
  so : SOF K M E t f
structure JBF (K : PySem.W.Frag) (X : Cx) (M : Pm) (E : XK) (st : List Stmt) (t : TS) (f : Fs) : Prop where
  ps : PSs X st t
  so : SOF K M E t f
section
variable {K : PySem.W.Frag} {X : Cx} {M : Pm} {E : XK} {k : Nat} {a c : Expr} {ta : TE} {fa : Fe} {t u : TS} {f g : Fs} {pos : Pos} {st : Stmt} {rest : List Stmt}
theorem uf_seqF (h1 : SOF K M E t f) (h2 : SOF K M E u g) : SOF K M E (tSeq t u) (fSeq f g) := fun H0 G0 γ σ H G De o ev hf p => by
  unfold fSeq at hf
  split at hf
  · rename_i γ1 e1
    exact h1 H0 G0 γ σ H G { De with nx := u De } _ ev e1 fun σ' H' G' ev' => h2 H0 G0 γ1 σ' H' G' De o ev' hf p
  · rename_i hn
    refine h1 H0 G0 γ σ H G { De with nx := u De } o ev hf ?_
    cases o with
    | nx γ1 => exact absurd hf (hn γ1)
    | _ => exact p
theorem jbf_nil : JBF K X M E [] tNext fNext := ⟨pss_nil, uf_lift so_next nr_next⟩
theorem jbf_one (h : JSF K X M E st t f) : JBF K X M E [st] t f := ⟨pss_one h.ps, h.so⟩
theorem jbf_cons (h1 : JSF K X M E st t f) (h2 : JBF K X M E rest u g) : JBF K X M E (st :: rest) (tSeq t u) (fSeq f g) := ⟨pss_cons h1.ps h2.ps, uf_seqF h1.so h2.so⟩
theorem jsf_lift (h : JS K X M E st t f) (n : NoRt f) : JSF K X M E st t f := ⟨h.ps, uf_lift h.so n⟩
theorem jsf_if {tt : TT} {ft : Ft} {as bs : List Stmt} (hc : JT K X M E c tt ft) (ha : JBF K X M E as t f) (hb : JBF K X M E bs u g) : JSF K X M E (.If c as bs pos) (tIfS tt t u) (sIf ft f g) := ⟨ps_if hc.pt ha.ps hb.ps, fun H0 G0 γ σ H G De o ev hf p => by
  unfold sIf at hf
  split at hf
  · rename_i e1
    refine hc.to H0 G0 γ σ H G _ _ ev e1 fun H' G' s => ?_
    rw [if_pos rfl]
    exact ha.so H0 G0 γ σ H' G' De o (ev.stp s) hf p
  · rename_i e1
    refine hc.to H0 G0 γ σ H G _ _ ev e1 fun H' G' s => ?_
    rw [if_neg Bool.false_ne_true]
    exact hb.so H0 G0 γ σ H' G' De o (ev.stp s) hf p
  · rename_i e1
    cases hf
    exact hc.to H0 G0 γ σ H G _ _ ev e1 fun H' G' s => p H' G' (ev.st.trans s)
  · cases hf⟩
theorem jsf_retO {i : Nat} {x : Str} {p0 : Pos} (h : JE K X M E .op (.Name x p0) (tVar i) (fOpd i)) : JSF K X M E (.Return (some (.Name x p0)) pos) (tRet (tVar i)) (sRet (fOwn i)) := ⟨ps_ret h.pe, uf_retO⟩
theorem jsf_retF (ha : JE K X M E .fr a ta fa) : JSF K X M E (.Return (some a) pos) (tRet ta) (sRet fa) := ⟨ps_ret ha.pe, uf_retF ha.eo⟩
theorem fOwn_opd {i : Nat} {γ : Ge} {r : Rs} (h : fOwn i γ = some r) : fOpd i γ = some r := by
  unfold fOwn at h
  unfold fOpd
  split at h
  · rename_i ds e
    rw [e]
    exact h
  · cases h
/-- return of an own list, as a frozen one -/
theorem js_retVO {i : Nat} {x : Str} {p0 : Pos} (h : JE K X M E .op (.Name x p0) (tVar i) (fOpd i)) : JS K X M E (.Return (some (.Name x p0)) pos) (tRet (tVar i)) (sRet (fOwn i)) := ⟨ps_ret h.pe, fun H0 G0 γ σ H G De o ev hf p => (js_retV (pos := pos) h).so H0 G0 γ σ H G De o ev (by
  unfold sRet at hf ⊢
  split at hf
  · rename_i d e; rw [fOwn_opd e]; exact hf
  · rename_i d e; rw [fOwn_opd e]; exact hf
  · cases hf) p⟩
/-- the call of a def whose result is a new list -/
theorem je_callF {φ : List D → Option Rs} {j : Nat} {f : Addr} {fd : FuncData} {ps : List Str} {x : Str} {p : Pos} {es : List Expr} {t : TA} {fr : Fa} (C : CxF K X E k)
    (F : FnOk X.prog X.w X.K X.mg X.base (L2.CX X.prog X.w) j f fd ps (spFr K M φ)) (hj : j ≤ k) (hb : Binds X.K fd ps []) (hm : X.mg x = some (.ref f)) (hk : PySem.W.keepIn X.K (.ref f) = true) (hg : Gl X x) (ha : JC K X M E (a :: es) t fr)
    (hdb : (x == ("__debug__" : Str)) = false := by decide) (he : starEach (a :: es) X.env = (false, eval a X.env) :: starEach es X.env := by rfl) (hpl : (backTo pos (starEach es X.env)).any (·.1) = false := by rfl) :
    JE K X M E .fr (.Call (.Name x p) (a :: es) [] pos) (tCallS (spFr K M φ) (fun _ => E) t) (fCall φ fr) := by
  have hK := C.hK
  subst hK
  refine ⟨pe_callS F (C.room.mono hj) hg hm hk hb (passesAt_of C.pas) ha.pa hdb he hpl, fun H0 G0 γ σ H G Q r ev hf p => ?_⟩
  unfold fCall at hf
  cases e1 : fr γ with
  | none => rw [e1] at hf; cases hf
  | some q1 =>
    rw [e1] at hf
    cases q1 with
    | er c => cases hf; exact ha.ac H0 G0 γ σ H G _ _ ev e1 p
    | ok ds =>
      refine ha.ac H0 G0 γ σ H G _ _ ev e1 fun vs H1 G1 s1 r1 => ⟨G1, ds, r, s1.sub, r1, hf, ?_, ev.kp.trans (ev.stp s1).st.ex⟩
      cases r with
      | ok d => exact fun v H' G' s' r' => p v H' G' (s1.trans s') (Res.up (m := .fr) r' s1.ex)
      | er c => exact fun H' G' s' => p H' G' (s1.trans s')
theorem nr_whF {c : Ft} (h1 : NoRt f) : ∀ (n : Nat) (γ : Ge) (d : D), whF c f n γ ≠ some (.rt d)
  | 0, γ, d, h => by cases h
  | n + 1, γ, d, h => by
    unfold whF at h
    split at h
    · split at h
      · exact nr_whF h1 n _ d h
      · exact nr_whF h1 n _ d h
      · cases h
      · rename_i e; exact h1 _ _ e
      · cases h
      · cases h
    · cases h
    · cases h
    · cases h
theorem nr_wh {c : Ft} (h1 : NoRt f) : NoRt (sWh c f) := fun γ d h => nr_whF h1 fuel γ d h
theorem nr_asg {g : D → Ge → Option Ge} : NoRt (sAsg fa g) := fun γ d h => by
  unfold sAsg at h
  split at h
  · split at h <;> cases h
  · cases h
  · cases h
/-- it always returns -/
def NoNx (f : Fs) : Prop := ∀ γ γ', f γ ≠ some (.nx γ')
theorem nn_ret : NoNx (sRet fa) := fun γ γ' h => by unfold sRet at h; split at h <;> cases h
theorem nn_seq (h2 : NoNx g) : NoNx (fSeq f g) := fun γ γ' h => by
  unfold fSeq at h
  split at h
  · exact h2 _ _ h
  · rename_i hn; exact hn _ h
end
end Py

/-! PyN: new lists within data, and their return -/
namespace Py
open PySem PySem.Spec PyProof.Rows L2
def newD (ds : List D) : D := .dict [(.none, .list ds)]
def fNew (a : Fe) : Fe := fun γ => match a γ with
  | some (.ok (.list ds)) => some (.ok (newD ds))
  | some (.er c) => some (.er c)
  | _ => none
def fOpN (i : Nat) : Fe := fun γ => match γ[i]? with
  | some (.va (.dict [(.none, .list ds)])) => some (.ok (.list ds))
  | _ => none
section
variable {K : PySem.W.Frag} {X : Cx} {M : Pm} {E : XK} {k : Nat} {a c : Expr} {ta : TE} {fa : Fe} {t u : TS} {f g : Fs} {pos : Pos} {st : Stmt} {rest : List Stmt}
theorem je_new (h : JE K X M E .fr a ta fa) : JE K X M E .cl a ta (fNew fa) := ⟨h.pe, fun H0 G0 γ σ H G Q r ev hf p => by
  unfold fNew at hf
  split at hf
  · rename_i ds e1
    cases hf
    refine h.eo H0 G0 γ σ H G Q _ ev e1 fun v H' G' s r => ?_
    obtain ⟨l, xs, rfl, h0, hg, hl, ra⟩ := r
    have sg : Same G' (upd G' l (.lst xs)) := same_new hg
    refine p _ H' (upd G' l (.lst xs)) ⟨s.ex, s.eg.trans sg, fun b u q => ?_, fun q u hq n => ?_⟩ (.new upd_same ?_ (ra.mono sg))
    · by_cases hb : b = l
      · subst hb; rw [upd_same] at q; cases q; exact hl
      · rw [upd_ne hb] at q; exact s.sub b u q
    · rw [upd_ne (ne_of_none hq h0)]; exact s.nw q u hq n
    · cases e : M.kp l with
      | none => rfl
      | some u => have := ev.st.ex l u (ev.kp l u e); rw [h0] at this; cases this
  · rename_i c e1
    cases hf
    exact h.eo H0 G0 γ σ H G Q _ ev e1 p
  · cases hf⟩
theorem jo_varN {i : Nat} {x : Str} {p0 : Pos} (h : JE K X M E .op (.Name x p0) (tVar i) (fOpd i)) : JE K X M E .op (.Name x p0) (tVar i) (fOpN i) := ⟨h.pe, fun H0 G0 γ σ H G Q r ev hf p => by
  unfold fOpN at hf
  split at hf
  · rename_i ds e1
    cases hf
    obtain ⟨v, h1, h2⟩ := ev.va e1
    cases h2 with
    | new hg hk ra => exact ⟨_, h1, p _ H G (Stp.refl ev.sub) ⟨_, _, rfl, .of (ev.sub _ _ hg), ra⟩⟩
  · cases hf⟩
/-! ### bodies that return such a list -/
def RN (K : PySem.W.Frag) (M : Pm) (H G : Hp) (v : V) : D → Prop
  | .list ds => ∃ a xs, v = .ref a ∧ M.kp a = none ∧ H a = some (.lst xs) ∧ RA K M G xs ds ∧ ds.all flatD = true
  | d => R K M G v d ∧ flatD d = true
section
variable (K : PySem.W.Frag) (M : Pm) (E : XK)
def PostN (H0 G0 : Hp) (De : Ends) : Out → Prop
  | .rt d => ∀ v H G, Stp H0 G0 H G → RN K M H G v d → De.rt v H
  | o => PostS K M E H0 G0 De o
def SON (t : TS) (f : Fs) : Prop := ∀ (H0 G0 : Hp) (γ : Ge) (σ : L2.St) (H G : Hp) (De : Ends) (o : Out), EnvR K M H0 G0 γ σ H G → f γ = some o → PostN K M E H0 G0 De o → t De σ H
end
structure JSN (K : PySem.W.Frag) (X : Cx) (M : Pm) (E : XK) (st : Stmt) (t : TS) (f : Fs) : Prop where
  ps : PS X st t
  so : SON K M E t f
structure JBN (K : PySem.W.Frag) (X : Cx) (M : Pm) (E : XK) (st : List Stmt) (t : TS) (f : Fs) : Prop where
  ps : PSs X st t
  so : SON K M E t f
theorem un_lift (h : SO K M E t f) (n : NoRt f) : SON K M E t f := fun H0 G0 γ σ H G De o ev hf p => by
  refine h H0 G0 γ σ H G De o ev hf ?_
  cases o with
  | rt d => exact absurd hf (n γ d)
  | _ => exact p
theorem un_seq (h1 : SON K M E t f) (h2 : SON K M E u g) : SON K M E (tSeq t u) (fSeq f g) := fun H0 G0 γ σ H G De o ev hf p => by
  unfold fSeq at hf
  split at hf
  · rename_i γ1 e1
    exact h1 H0 G0 γ σ H G { De with nx := u De } _ ev e1 fun σ' H' G' ev' => h2 H0 G0 γ1 σ' H' G' De o ev' hf p
  · rename_i hn
    refine h1 H0 G0 γ σ H G { De with nx := u De } o ev hf ?_
    cases o with
    | nx γ1 => exact absurd hf (hn γ1)
    | _ => exact p
theorem jbn_nil : JBN K X M E [] tNext fNext := ⟨pss_nil, un_lift so_next nr_next⟩
theorem jbn_one (h : JSN K X M E st t f) : JBN K X M E [st] t f := ⟨pss_one h.ps, h.so⟩
theorem jbn_cons (h1 : JSN K X M E st t f) (h2 : JBN K X M E rest u g) : JBN K X M E (st :: rest) (tSeq t u) (fSeq f g) := ⟨pss_cons h1.ps h2.ps, un_seq h1.so h2.so⟩
theorem jsn_lift (h : JS K X M E st t f) (n : NoRt f) : JSN K X M E st t f := ⟨h.ps, un_lift h.so n⟩
theorem jsn_if {tt : TT} {ft : Ft} {as bs : List Stmt} (hc : JT K X M E c tt ft) (ha : JBN K X M E as t f) (hb : JBN K X M E bs u g) : JSN K X M E (.If c as bs pos) (tIfS tt t u) (sIf ft f g) := ⟨ps_if hc.pt ha.ps hb.ps, fun H0 G0 γ σ H G De o ev hf p => by
  unfold sIf at hf
  split at hf
  · rename_i e1
    refine hc.to H0 G0 γ σ H G _ _ ev e1 fun H' G' s => ?_
    rw [if_pos rfl]
    exact ha.so H0 G0 γ σ H' G' De o (ev.stp s) hf p
  · rename_i e1
    refine hc.to H0 G0 γ σ H G _ _ ev e1 fun H' G' s => ?_
    rw [if_neg Bool.false_ne_true]
    exact hb.so H0 G0 γ σ H' G' De o (ev.stp s) hf p
  · rename_i e1
    cases hf
    exact hc.to H0 G0 γ σ H G _ _ ev e1 fun H' G' s => p H' G' (ev.st.trans s)
  · cases hf⟩
/-- return of a variable that holds a new list of flat data -/
def sRetW (i : Nat) : Fs := fun γ => match γ[i]? with
  | some (.va (.dict [(.none, .list ds)])) => if ds.all flatD = true then some (.rt (.list ds)) else none
  | _ => none
theorem jsn_retW {i : Nat} {x : Str} {p0 : Pos} (h : JE K X M E .op (.Name x p0) (tVar i) (fOpd i)) : JSN K X M E (.Return (some (.Name x p0)) pos) (tRet (tVar i)) (sRetW i) := ⟨ps_ret h.pe, fun H0 G0 γ σ H G De o ev hf p => by
  unfold sRetW at hf
  split at hf
  · rename_i ds e1
    split at hf
    · rename_i hfl
      cases hf
      obtain ⟨v, h1, h2⟩ := ev.va e1
      cases h2 with
      | new hg hk ra => exact ⟨_, h1, p _ H G ev.st ⟨_, _, rfl, hk, ev.sub _ _ hg, ra, hfl⟩⟩
    · cases hf
  · cases hf⟩
/-- return None -/
theorem jsn_retC {j : Nat} {p1 p2 : Pos} (h : JE K X M E .cl (.Constant .none j p1) ta (fCon .none)) : JSN K X M E (.Return (some (.Constant .none j p1)) p2) (tRet ta) (sRet (fCon .none)) := ⟨ps_ret h.pe, fun H0 G0 γ σ H G De o ev hf p => by
  unfold sRet fCon at hf
  cases hf
  exact h.eo H0 G0 γ σ H G _ _ ev rfl fun v H' G' s r => p v H' G' (ev.st.trans s) ⟨r, rfl⟩⟩
theorem un_wh {tt : TT} {ft : Ft} (hc : TO' K M E tt ft) (hb : SON K M E t f) : SON K M E (tWhile tt t) (sWh ft f) := fun H0 G0 γ σ H G De o ev hf p => by
  refine ⟨fun m σ' H' => ∃ γ' G', EnvR K M H0 G0 γ' σ' H' G' ∧ whF ft f m γ' = some o, ⟨fuel, γ, G, ev, hf⟩, ?_⟩
  rintro m σ2 H2 ⟨γ2, G2, ev2, el⟩
  cases m with
  | zero => cases el
  | succ m =>
    unfold whF at el
    split at el
    · rename_i ec
      refine hc H0 G0 γ2 σ2 H2 G2 _ _ ev2 ec fun H3 G3 s3 => ?_
      rw [if_pos rfl]
      have ev3 := ev2.stp s3
      refine ⟨fun σ' H' => ∃ γ' G', EnvR K M H0 G0 γ' σ' H' G' ∧ whF ft f m γ' = some o, fun σ' H' q => ⟨m, Nat.lt_succ_self _, q⟩, ?_⟩
      split at el
      · rename_i γ4 eb
        exact hb H0 G0 γ2 σ2 H3 G3 _ _ ev3 eb fun σ' H' G' q => ⟨γ4, G', q, el⟩
      · rename_i γ4 eb
        exact hb H0 G0 γ2 σ2 H3 G3 _ _ ev3 eb fun σ' H' G' q => ⟨γ4, G', q, el⟩
      · rename_i γ4 eb
        cases el
        exact hb H0 G0 γ2 σ2 H3 G3 _ _ ev3 eb fun σ' H' G' q => p σ' H' G' q
      · rename_i d eb
        cases el
        exact hb H0 G0 γ2 σ2 H3 G3 _ _ ev3 eb p
      · rename_i c eb
        cases el
        exact hb H0 G0 γ2 σ2 H3 G3 _ _ ev3 eb p
      · cases el
    · rename_i ec
      cases el
      refine hc H0 G0 γ2 σ2 H2 G2 _ _ ev2 ec fun H3 G3 s3 => ?_
      rw [if_neg Bool.false_ne_true]
      exact p σ2 H3 G3 (ev2.stp s3)
    · rename_i ec
      cases el
      exact hc H0 G0 γ2 σ2 H2 G2 _ _ ev2 ec fun H' G' s => p H' G' (ev2.st.trans s)
    · cases el
theorem jsn_wh {body : List Stmt} {tt : TT} {ft : Ft} (C : CxF K X E k) (hc : JT K X M E c tt ft) (hb : JBN K X M E body t f) : JSN K X M E (.While c body [] pos) (tWhile tt t) (sWh ft f) := ⟨ps_while C.own hc.pt hb.ps, un_wh hc.to hb.so⟩
theorem nn_retN : NoNx (sRet fa) := nn_ret
/-! ### data without parts, whatever else is known -/
theorem flat_M {M' : Pm} {G G' : Hp} {v : V} {d : D} (r : R K M G v d) (h : flatD d = true) : R K M' G' v d := by
  cases r <;> first | exact .non | exact .bl _ | exact .int _ | exact .str _ | cases h
theorem flats_M {M' : Pm} {G G' : Hp} : ∀ {vs : List V} {ds : List D}, RA K M G vs ds → ds.all flatD = true → RA K M' G' vs ds
  | _, _, .nil, _ => .nil
  | _, _, .cons r t, h => by
    rw [List.all_cons, Bool.and_eq_true] at h
    exact .cons (flat_M r h.1) (flats_M t h.2)
/-! no new list in the data -/
mutual
def nnw : D → Bool
  | .list ds => nnws ds
  | .tuple ds => nnws ds
  | .dict [(.none, .list _)] => false
  | .dict [(.str _, .list ds)] => nnws ds
  | _ => true
def nnws : List D → Bool
  | [] => true
  | d :: ds => nnw d && nnws ds
end
mutual
theorem R.toK (N : Hp) : ∀ {G : Hp} {v : V} {d : D}, R K M G v d → nnw d = true → R K { M with kp := N } G v d
  | _, _, _, .non, _ => .non
  | _, _, _, .bl b, _ => .bl b
  | _, _, _, .int i, _ => .int i
  | _, _, _, .str x, _ => .str x
  | _, _, _, .lst h r, n => .lst h (RA.toK N r (by simpa only [nnw] using n))
  | _, _, _, .tup h r, n => .tup h (RA.toK N r (by simpa only [nnw] using n))
  | _, _, _, .ins h c m r, n => .ins h c m (RA.toK N r (by simpa only [nnw] using n))
  | _, _, _, .edict h, _ => .edict h
  | _, _, _, .live h, _ => .live h
  | _, _, _, .new h m r, n => by simp only [nnw] at n; cases n
theorem RA.toK (N : Hp) : ∀ {G : Hp} {vs : List V} {ds : List D}, RA K M G vs ds → nnws ds = true → RA K { M with kp := N } G vs ds
  | _, _, _, .nil, _ => .nil
  | _, _, _, .cons r t, n => by
    simp only [nnws, Bool.and_eq_true] at n
    exact .cons (R.toK N r n.1) (RA.toK N t n.2)
end
/-- the promise, of a body that returns a new list of flat data: its arguments hold nothing new -/
def runNw (np n : Nat) (f : Fs) : List D → Option Rs := fun ds => if ds.length = np ∧ nnws ds = true then (match f (entry n ds) with
  | some (.rt d) => some (.ok d)
  | some (.er c) => some (.er c)
  | _ => none) else none
theorem fnN_ok {P : Program} {w : World} {K : PySem.W.Frag} {mg : Str → Option Value} {base : Heap} {M : Pm} {x qual : Str} {st : Stmt} {f : Addr} {fd : FuncData} {N ps : List Str} {k : Nat} {g : Fs} (F : Fun K x qual st f fd) (S : FnScope N ps (defScope st))
    (hb : ∀ (kp : Hp) (cdv : Value) (A : Around) (outer : List Env) (s : Shared) (H : Hp) (E : XK), CxF K (cxOf (L2.CX P w) P w K mg base N qual (defScope st) f cdv A outer s H E) E k → Takes (cxOf (L2.CX P w) P w K mg base N qual (defScope st) f cdv A outer s H E) (fun cls d _ H => E cls d H) →
      ∃ t, JBN K (cxOf (L2.CX P w) P w K mg base N qual (defScope st) f cdv A outer s H E) { M with kp := kp } E (defBody st) t g) : FnOk P w K mg base (L2.CX P w) (k + 1) f fd ps (spFr K M (runNw ps.length N.length g)) := by
  have len : ∀ vs H Q E, spFr K M (runNw ps.length N.length g) vs H Q E → vs.length = ps.length := by
    rintro vs H Q E ⟨G, ds, r, _, ra, e, _⟩
    unfold runNw at e
    split at e
    · rename_i hl
      rw [ra.len]; exact hl.1
    · cases e
  refine F.okX S len fun cdv A outer s H vs Q E hr h => ?_
  obtain ⟨C, tk⟩ := cxf_of (P := P) (w := w) (K := K) (mg := mg) (base := base) (qual := qual) (s := s) (H := H) (E := E) (outer := outer) S hr
  obtain ⟨t, J⟩ := hb H cdv A outer s H E C tk
  refine ⟨t, J.ps, ?_⟩
  obtain ⟨G, ds, r, e, ra, er, p, kp⟩ := h
  unfold runNw at er
  split at er
  · rename_i hl
    have ra' := RA.toK H ra hl.2
    split at er
    · rename_i d ef
      cases er
      refine J.so H G _ _ H G _ _ (env_entry e ra' (Same.refl H)) ef fun v H' G' s r => ?_
      have same : Stp H G H' G := ⟨s.ex, Same.refl _, e.trans s.ex, fun _ _ _ n => n⟩
      cases d with
      | list ds =>
        obtain ⟨a, xs, rfl, h1, h2, h3, h4⟩ := r
        exact p _ H' G same ⟨a, xs, rfl, h1, e.free h1, h2, flats_M h3 h4⟩
      | none => exact p _ H' G same (flat_M r.1 r.2)
      | bool b => exact p _ H' G same (flat_M r.1 r.2)
      | int b => exact p _ H' G same (flat_M r.1 r.2)
      | str b => exact p _ H' G same (flat_M r.1 r.2)
      | _ => have := r.2; cases this
    · rename_i c ef
      cases er
      exact J.so H G _ _ H G _ _ (env_entry e ra' (Same.refl H)) ef fun H' G' s => p H' G' s
    · cases er
  · cases er
/-- a new list may be frozen -/
theorem fr_cl {K : PySem.W.Frag} {M : Pm} {φ : List D → Option Rs} {vs : List V} {H : Hp} {Q : VK} {E : XK} (h : spF K M φ vs H Q E) : spFr K M φ vs H Q E := by
  obtain ⟨G, ds, r, e, ra, er, p, kp⟩ := h
  refine ⟨G, ds, r, e, ra, er, ?_, kp⟩
  cases r with
  | ok d => exact fun v H' G' s r => let ⟨G2, s2, _, r2⟩ := freeze s r; p v H' G2 s2 r2
  | er c => exact p
end
end Py

/-! PyM: x is None, xs.extend(..), a name that may hold a new list or None -/
namespace Py
open PySem PySem.Spec PyProof.Rows L2
def isNon : D → Bool
  | .none => true
  | _ => false
def oIs : D → D → Option D
  | d, .none => some (.bool (isNon d))
  | _, _ => none
def oIsNt : D → D → Option D
  | d, .none => some (.bool (!isNon d))
  | _, _ => none
theorem non_of {K : PySem.W.Frag} {M : Pm} {H G : Hp} {v : V} {d : D} (r : RO K M H G v d) : decide (v = V.non) = isNon d := by
  cases d with
  | none => cases (show R K M G v .none from r); rfl
  | bool b => cases (show R K M G v (.bool b) from r); rfl
  | int b => cases (show R K M G v (.int b) from r); rfl
  | str b => cases (show R K M G v (.str b) from r); rfl
  | list ds => obtain ⟨l, us, e, _⟩ := r; subst e; rfl
  | tuple ds => obtain ⟨l, us, e, _⟩ := R.tupI (show R K M G v (.tuple ds) from r); subst e; rfl
  | dict ds =>
    have r' : R K M G v (.dict ds) := r
    cases r' <;> rfl
section
variable {K : PySem.W.Frag} {X : Cx} {M : Pm} {E : XK} {k : Nat} {a c e : Expr} {ta : TE} {fa : Fe} {t u : TS} {f g : Fs} {pos : Pos} {st : Stmt} {rest : List Stmt}
theorem ops_is {K : PySem.W.Frag} : OpS K M .cl (fun x y H Q => y = V.non ∧ Q (.bl (decide (x = .non))) H) oIs := by
  intro H G x y dx dy dz Q e rx ry ho q
  unfold oIs at ho
  split at ho
  · cases ho
    cases (show R K M G y .none from ry)
    exact ⟨rfl, by rw [non_of rx]; exact q _ H G (Stp.refl e) (R.bl _)⟩
  · cases ho
theorem ops_isnt {K : PySem.W.Frag} : OpS K M .cl (fun x y H Q => y = V.non ∧ Q (.bl (!decide (x = .non))) H) oIsNt := by
  intro H G x y dx dy dz Q e rx ry ho q
  unfold oIsNt at ho
  split at ho
  · cases ho
    cases (show R K M G y .none from ry)
    exact ⟨rfl, by rw [non_of rx]; exact q _ H G (Stp.refl e) (R.bl _)⟩
  · cases ho
theorem je_isN {j : Nat} {p2 : Pos} (ha : JE K X M E .op a ta fa) : JE K X M E .cl (.Compare a [.Is] [.Constant .none j p2] pos) (tOp (fun x y H Q => y = V.non ∧ Q (.bl (decide (x = .non))) H) ta (tC .non)) (f2 oIs fa (fCon .none)) := je_cmpR op_isN ops_is ha (JE.c2o je_non) rfl
theorem je_notN {j : Nat} {p2 : Pos} (ha : JE K X M E .op a ta fa) : JE K X M E .cl (.Compare a [.IsNot] [.Constant .none j p2] pos) (tOp (fun x y H Q => y = V.non ∧ Q (.bl (!decide (x = .non))) H) ta (tC .non)) (f2 oIsNt fa (fCon .none)) := je_cmpR op_notN ops_isnt ha (JE.c2o je_non) rfl
theorem jt_isN {j : Nat} {p2 : Pos} (ha : JE K X M E .op a ta fa) : JT K X M E (.Compare a [.Is] [.Constant .none j p2] pos) (tTest (tOp (fun x y H Q => y = V.non ∧ Q (.bl (decide (x = .non))) H) ta (tC .non))) (fT (f2 oIs fa (fCon .none))) := jt_cmpR op_isN ops_is ha (JE.c2o je_non) rfl
theorem jt_notN {j : Nat} {p2 : Pos} (ha : JE K X M E .op a ta fa) : JT K X M E (.Compare a [.IsNot] [.Constant .none j p2] pos) (tTest (tOp (fun x y H Q => y = V.non ∧ Q (.bl (!decide (x = .non))) H) ta (tC .non))) (fT (f2 oIsNt fa (fCon .none))) := jt_cmpR op_notN ops_isnt ha (JE.c2o je_non) rfl
/-! xs.extend(e), xs an own list, e a new one -/
def sExt (i : Nat) (a : Fe) : Fs := fun γ => match γ[i]? with
  | some (.ow ds) => (match a γ with
    | some (.ok (.list es)) => if ds.length + es.length ≤ big then some (.nx (γ.set i (.ow (ds ++ es)))) else none
    | some (.er c) => some (.er c)
    | _ => none)
  | _ => none
theorem nr_ext (i : Nat) : NoRt (sExt i fa) := fun γ d h => by
  unfold sExt at h
  split at h
  · split at h
    · split at h <;> cases h
    · cases h
    · cases h
  · cases h
theorem js_extX {i : Nat} {x : Str} {p0 apos cpos : Pos} (C : CxF K X E k) (ho : JE K X M E .op (.Name x p0) (tVar i) (fOpd i)) (ha : JE K X M E .fr a ta fa)
    (hbase : attributeBase (.Name x p0) "extend" X.env (eval (.Name x p0) X.env) = eval (.Name x p0) X.env := by rfl)
    (hfew : ((backTo cpos (starEach [a] X.env)).all (fun x => !x.1) && (backToKw cpos (keywordEach [] X.env)).all (fun x => x.1.isSome)
      && decide ([a].length + ([] : List Keyword).length + (if ([] : List Keyword).isEmpty then 0 else 1) < 30)) = true := by rfl)
    (hline : (apos.endLine == cpos.line) = true := by rfl) (hst : starEach [a] X.env = (false, eval a X.env) :: starEach [] X.env := by rfl) (hs : swapsWith (.Call (.Attribute (.Name x p0) "extend" apos) [a] [] cpos) none pos.line X.env = pure false := by rfl) :
    JS K X M E (.Expr (.Call (.Attribute (.Name x p0) "extend" apos) [a] [] cpos) pos) (tDrop (tBM K "list" rExtend (tVar i) (tCons ta tNil))) (sExt i fa) := by
  have hK := C.hK
  subst hK
  exact ⟨ps_expr (pe_bm PySem.F.plainAttrs_list PySem.F.slot_list_extend PySem.F.type_list_extend mt_extend ho.pe (pa_cons ha.pe pa_nil hst) hbase hfew hline hst rfl) hs, fun H0 G0 γ σ H G De o ev hf p => by
  unfold sExt at hf
  split at hf
  · rename_i ds e1
    obtain ⟨l, vs, h1, hg, h0, h2, h3⟩ := ev.ow e1
    split at hf
    · rename_i es e2
      split at hf
      · rename_i hz
        cases hf
        refine ⟨_, h1, .inl ⟨rfl, vs, .of h2⟩, ?_⟩
        refine ha.eo H0 G0 γ σ H G _ _ ev e2 fun v H' G' s r => ?_
        obtain ⟨b, xs, rfl, hb0, hbg, hb, ra⟩ := r
        have hl : H' l = some (.lst vs) := s.ex _ _ h2
        exact ⟨l, b, vs, xs, rfl, rfl, hl, hb, by rw [h3.len, ra.len]; exact big_line hz, p _ _ G' ((ev.stp s).wr e1 h1 hl ((h3.mono s.eg).app ra))⟩
      · cases hf
    · rename_i c e2
      cases hf
      refine ⟨_, h1, .inl ⟨rfl, vs, .of h2⟩, ?_⟩
      exact ha.eo H0 G0 γ σ H G _ _ ev e2 (ev.er p)
    · cases hf
  · cases hf⟩
/-! x = e, e a new list, or no list at all -/
def sSetM (i : Nat) (a : Fe) : Fs := fun γ => match a γ with
  | some (.ok (.list ds)) => some (.nx (γ.set i (.ow ds)))
  | some (.ok d) => some (.nx (γ.set i (.va d)))
  | some (.er c) => some (.er c)
  | none => none
theorem nr_setM (i : Nat) : NoRt (sSetM i fa) := fun γ d h => by unfold sSetM at h; split at h <;> cases h
theorem so_setM {i : Nat} (ha : EO K M E .fr ta fa) : SO K M E (tAsg ta (gName i)) (sSetM i fa) := fun H0 G0 γ σ H G De o ev hf p => by
  unfold sSetM at hf
  split at hf
  · rename_i ds e1
    exact so_setO ha H0 G0 γ σ H G De o ev (by unfold sSetO; rw [e1]; exact hf) p
  · rename_i d hn e1
    cases hf
    refine ha H0 G0 γ σ H G _ _ ev e1 fun v H' G' s r => ?_
    have r' : R K M G' v d := by
      cases d with
      | list ds => exact (hn ds rfl).elim
      | _ => exact r
    exact p _ H' G' ((ev.stp s).setv r')
  · rename_i c e1
    cases hf
    exact ha H0 G0 γ σ H G _ _ ev e1 (ev.er p)
  · cases hf
theorem js_setM {i : Nat} {x : Str} {p0 : Pos} (hN : X.N.Nodup) (ha : JE K X M E .fr a ta fa) (hi : X.N[i]? = some x := by rfl) (hx : Loc X.env.scope x := by first | exact Or.inl rfl | exact Or.inr rfl) (hs : swapsWith a (some (.Name x p0)) pos.line X.env = pure false := by rfl) (hf : X.fn x = true ∨ X.env.scope.names.lookup x = some .local := by first | exact .inl rfl | exact .inr rfl) :
    JS K X M E (.Assign [.Name x p0] a pos) (tAsg ta (gName i)) (sSetM i fa) := ⟨ps_set hN hi hx ha.pe hs hf, so_setM ha.eo⟩
end
end Py
namespace Py
open PySem PySem.Spec PyProof.Rows L2
theorem CP.kp {K : PySem.W.Frag} {mg : Str → Option Value} {M : Pm} {C : Addr} (N : Hp) (c : CP K mg M C) : CP K mg { M with kp := N } C := ⟨c.ci, c.cl, c.na, c.mg⟩
end Py
/-! [.. for x in xs ..], xs an own list -/
namespace Py
open PySem PySem.Spec PyProof.Rows L2
def fLcO (i : Nat) (gf : D → Ge → Option Ge) (cf : Ft) (ef : Fe) (vs : List Nat) : Fe := fun γ => match γ[i]? with
  | some (.ow ds) => if ds.length ≤ big then (match lcF gf cf ef (wipeG γ vs) ds with
    | some xs => some (.ok (.list xs))
    | none => none) else none
  | _ => none
section
variable {K : PySem.W.Frag} {X : Cx} {M : Pm} {E : XK} {k : Nat} {pos : Pos}
theorem eo_lcO {K : PySem.W.Frag} {i : Nat} {g : TG} {tt : TT} {te : TE} {vs js : List Nat} {gf : D → Ge → Option Ge} {cf : Ft} {ef : Fe} (hg : GO K M js g gf) (hj : ∀ j ∈ js, j ∈ vs) (hc : TO' K M E0 tt cf) (he : EO K M E0 .cl te ef) :
    EO K M E .fr (tLc (iList K (tVar i)) g tt te vs) (fLcO i gf cf ef vs) := by
  intro H0 G0 γ σ H G Q r ev hf p
  unfold fLcO at hf
  split at hf
  · rename_i ds e1
    split at hf
    · rename_i hz
      split at hf
      · rename_i es e2
        cases hf
        obtain ⟨l, us, h1, hg0, h0, hl, rl⟩ := ev.ow e1
        refine ⟨.ref l, h1, l, rfl, ⟨us, .of hl⟩, fun Dl hD => ?_⟩
        have nG : G Dl = none := ev.st.sub.free hD
        refine ⟨fun i mm H' => mm = ds.length - i ∧ i ≤ ds.length ∧ ∃ G' acc accD rest, Stp H G H' G' ∧ G' Dl = none ∧ H' Dl = some (.lst acc) ∧ RA K M G' acc accD ∧ lcF gf cf ef (wipeG γ vs) (ds.drop i) = some rest ∧ accD ++ rest = es ∧ acc.length ≤ i,
          ⟨ds.length, by simp, Nat.zero_le _, G, [], [], es, Stp.newO ev.st.sub hD, nG, upd_same, .nil, e2, rfl, Nat.le_refl _⟩, ?_⟩
        rintro i mm H2 ⟨rfl, hi, G2, acc, accD, rest, st, gD, hDl, ra, el, ee, al⟩
        have ev2 := (ev.stp st).wipe vs
        have hl2 : SqL K H2 l us := .of (st.ex _ _ hl)
        by_cases hlt : i < ds.length
        · have hu : i < us.length := by rw [rl.len]; exact hlt
          refine .inr ⟨⟨us, us[i], hl2, List.getElem?_eq_getElem hu⟩, fun H' => ∃ m', m' < ds.length - i ∧ m' = ds.length - (i + 1) ∧ i + 1 ≤ ds.length ∧ ∃ G' acc accD rest, Stp H G H' G' ∧ G' Dl = none ∧ H' Dl = some (.lst acc) ∧ RA K M G' acc accD ∧ lcF gf cf ef (wipeG γ vs) (ds.drop (i + 1)) = some rest ∧ accD ++ rest = es ∧ acc.length ≤ i + 1,
            fun H' ⟨m', h1, h2⟩ => ⟨m', h1, h2⟩, fun x H3 hy => ?_⟩
          obtain ⟨e3, hy⟩ := hy
          subst e3
          have hd : ds[i]? = some ds[i] := List.getElem?_eq_getElem hlt
          obtain ⟨v, q1, q2⟩ := rl.get hd
          have hx := hy _ hl2
          rw [q1] at hx
          cases hx
          have rx := q2.mono st.eg
          rw [List.drop_eq_getElem_cons hlt] at el
          unfold lcF at el
          split at el
          · cases el
          · rename_i γ1 eg
            refine hg H0 G0 (wipeG γ vs) γ1 (L2.wipe σ vs) H3 G2 _ ds[i] _ ev2 rx eg fun σ2 ev3 sets => ⟨?_, ?_⟩
            · rw [sets vs hj, wipe_wipe]
            · split at el
              · rename_i ec
                split at el
                · rename_i y ey
                  split at el
                  · rename_i ys eys
                    cases el
                    refine hc H0 G0 γ1 σ2 H3 G2 _ _ ev3 ec fun H4 G4 s4 => ?_
                    rw [if_pos rfl]
                    refine he H0 G0 γ1 σ2 H4 G4 _ _ (ev3.stp s4) ey fun yv H5 G5 s5 ry => ?_
                    have s25 := s4.trans s5
                    have ry' : R K M G5 yv y := ry
                    have g5 : G5 Dl = none := s25.nw _ _ hDl gD
                    have h5 : H5 Dl = some (.lst acc) := s25.ex _ _ hDl
                    refine ⟨acc, h5, big_line' (by omega), ds.length - (i + 1), by omega, rfl, hlt, G5, acc ++ [yv], accD ++ [y], ys, ?_, g5, upd_same, (ra.mono s25.eg).app (.one ry'), eys, by rw [List.append_assoc]; exact ee, by rw [List.length_append]; simp; omega⟩
                    have sA := st.trans s25
                    exact ⟨fun b u q => by rw [upd_ne (ne_of_none q hD)]; exact sA.ex b u q, sA.eg, fun b u q => by rw [upd_ne (ne_of_none q g5)]; exact sA.sub b u q, sA.nw⟩
                  · cases el
                · cases el
              · rename_i ec
                refine hc H0 G0 γ1 σ2 H3 G2 _ _ ev3 ec fun H4 G4 s4 => ?_
                rw [if_neg Bool.false_ne_true]
                exact ⟨ds.length - (i + 1), by omega, rfl, hlt, G4, acc, accD, rest, st.trans s4, s4.nw _ _ hDl gD, s4.ex _ _ hDl, ra.mono s4.eg, el, ee, by omega⟩
              · cases el
        · have ei : i = ds.length := by omega
          subst ei
          rw [List.drop_length] at el
          cases el
          rw [List.append_nil] at ee
          subst ee
          refine .inl ⟨⟨us, hl2, by rw [rl.len]; omega⟩, p _ H2 G2 st ⟨Dl, acc, rfl, hD, gD, hDl, ra⟩⟩
      · cases hf
    · cases hf
  · cases hf
theorem je_lcO {elt tg : Expr} {i : Nat} {x : Str} {p0 : Pos} {ifs : List Expr} {scope : Scope} {own : List (Str × Nat)} {js : List Nat} {g : TG} {tt : TT} {te : TE} {gf : D → Ge → Option Ge} {cf : Ft} {ef : Fe} (C : CxF K X E k) (hi : JE K X M E .op (.Name x p0) (tVar i) (fOpd i)) (ok : BlkOk X.N X.env.scope scope own)
    (hg : ∀ (s : Shared) (H : Hp) (Cc : Addr) (cl : List (Str × Addr)) (fp : List Addr), JG K (X.blk s H scope (compEnvC scope cl Cc X.env) fp) M tg js g gf) (ht : ∀ (s : Shared) (H : Hp) (Cc : Addr) (cl : List (Str × Addr)) (fp : List Addr), JTs K (X.blk s H scope (compEnvC scope cl Cc X.env) fp) M E0 ifs tt cf)
    (he : ∀ (s : Shared) (H : Hp) (Cc : Addr) (cl : List (Str × Addr)) (fp : List Addr), JE K (X.blk s H scope (compEnvC scope cl Cc X.env) fp) M E0 .cl elt te ef) (hj : ∀ j ∈ js, j ∈ own.map (·.2) := by decide) (hs : ∀ y, foldedSetIterable (.Name x p0) X.env y = pure y := by intro _; rfl) :
    JE K X M E .fr (.ListComp elt [⟨tg, .Name x p0, ifs, 0⟩] scope pos) (tLc (iList K (tVar i)) g tt te (own.map (·.2))) (fLcO i gf cf ef (own.map (·.2))) := by
  have hK := C.hK
  subst hK
  exact ⟨pe_lc C.calm C.nd (pi_list hi.pe) ok (fun s H Cc cl fp => (hg s H Cc cl fp).pg) (fun s H Cc cl fp => (ht s H Cc cl fp).pts) (fun s H Cc cl fp => (he s H Cc cl fp).pe) hs,
    eo_lcO (hg ({} : Shared) (fun _ => none) 0 [] []).go hj (ht ({} : Shared) (fun _ => none) 0 [] []).to (he ({} : Shared) (fun _ => none) 0 [] []).eo⟩
end
end Py
namespace Py
open PySem PySem.Spec PyProof.Rows L2
theorem fnF_zero {P : Program} {w : World} {K : PySem.W.Frag} {mg : Str → Option Value} {base : Heap} {M : Pm} {f : Addr} {fd : FuncData} {ps : List Str} : FnOk P w K mg base (L2.CX P w) 0 f fd ps (spFr K M fun _ => none) := by
  have no : ∀ vs H Q E, ¬ spFr K M (fun _ => none) vs H Q E := by
    rintro vs H Q E ⟨_, _, _, _, _, e, _⟩
    cases e
  exact ⟨fun vs H Q E h => absurd h (no vs H Q E), fun A outer s H args us vs Q E _ _ _ _ h => absurd h (no vs H Q E)⟩
end Py

namespace K08
open PySem PySem.Spec PyProof.Rows L2 Py
def topS (i : Nat) : Stmt := PySem.Challenge.pw_soonsaid_k08_shortest_ways.main.body.getD i (.Pass ⟨0, 0, 0, 0⟩)
inductive Nm | parts_of | wished | wishes_in | pasts_in | marks_in | Plan_has | Plan_kept | is_so | kept_behind | begun | stepped | is_met | reached | going | l_cell_at | l_names | l_all | l_wishes | l_fit | l_until | l_means | l_run | l_built | l_state | l_longer | l_holds | l_first | l_way | l_fields | l_draw | l_made
abbrev s_parts_of : Stmt := topS 1
abbrev N_parts_of : List Str := ["statement", "part"]
abbrev P_parts_of : List Str := ["statement"]
theorem sc_parts_of : FnScope N_parts_of P_parts_of (defScope s_parts_of) := ⟨rfl, rfl, rfl, by decide +kernel, rfl, by decide +kernel, by decide +kernel⟩
abbrev s_wished : Stmt := topS 2
abbrev N_wished : List Str := ["statement", "found", "part"]
abbrev P_wished : List Str := ["statement"]
theorem sc_wished : FnScope N_wished P_wished (defScope s_wished) := ⟨rfl, rfl, rfl, by decide +kernel, rfl, by decide +kernel, by decide +kernel⟩
abbrev s_wishes_in : Stmt := topS 3
abbrev N_wishes_in : List Str := ["statement", "found", "at", "other"]
abbrev P_wishes_in : List Str := ["statement"]
theorem sc_wishes_in : FnScope N_wishes_in P_wishes_in (defScope s_wishes_in) := ⟨rfl, rfl, rfl, by decide +kernel, rfl, by decide +kernel, by decide +kernel⟩
abbrev s_pasts_in : Stmt := topS 4
abbrev N_pasts_in : List Str := ["statement", "found", "part", "past"]
abbrev P_pasts_in : List Str := ["statement"]
theorem sc_pasts_in : FnScope N_pasts_in P_pasts_in (defScope s_pasts_in) := ⟨rfl, rfl, rfl, by decide +kernel, rfl, by decide +kernel, by decide +kernel⟩
abbrev s_marks_in : Stmt := topS 5
abbrev N_marks_in : List Str := ["statement", "found", "part"]
abbrev P_marks_in : List Str := ["statement"]
theorem sc_marks_in : FnScope N_marks_in P_marks_in (defScope s_marks_in) := ⟨rfl, rfl, rfl, by decide +kernel, rfl, by decide +kernel, by decide +kernel⟩
abbrev s_Plan_has : Stmt := inClass (topS 7) 1
abbrev N_Plan_has : List Str := ["self", "number", "wish"]
abbrev P_Plan_has : List Str := ["self", "number", "wish"]
theorem sc_Plan_has : FnScope N_Plan_has P_Plan_has (defScope s_Plan_has) := ⟨rfl, rfl, rfl, by decide +kernel, rfl, by decide +kernel, by decide +kernel⟩
abbrev s_Plan_kept : Stmt := inClass (topS 7) 2
abbrev N_Plan_kept : List Str := ["self", "bits", "past"]
abbrev P_Plan_kept : List Str := ["self", "bits", "past"]
theorem sc_Plan_kept : FnScope N_Plan_kept P_Plan_kept (defScope s_Plan_kept) := ⟨rfl, rfl, rfl, by decide +kernel, rfl, by decide +kernel, by decide +kernel⟩
abbrev s_is_so : Stmt := topS 8
abbrev N_is_so : List Str := ["plan", "statement", "mark", "bits", "number", "word", "one", "other"]
abbrev P_is_so : List Str := ["plan", "statement", "mark", "bits", "number"]
theorem sc_is_so : FnScope N_is_so P_is_so (defScope s_is_so) := ⟨rfl, rfl, rfl, by decide +kernel, rfl, by decide +kernel, by decide +kernel⟩
abbrev s_kept_behind : Stmt := topS 9
abbrev N_kept_behind : List Str := ["plan", "bits", "mark", "found", "past"]
abbrev P_kept_behind : List Str := ["plan", "bits", "mark"]
theorem sc_kept_behind : FnScope N_kept_behind P_kept_behind (defScope s_kept_behind) := ⟨rfl, rfl, rfl, by decide +kernel, rfl, by decide +kernel, by decide +kernel⟩
abbrev s_begun : Stmt := topS 10
abbrev N_begun : List Str := ["plan", "table", "number", "past"]
abbrev P_begun : List Str := ["plan"]
theorem sc_begun : FnScope N_begun P_begun (defScope s_begun) := ⟨rfl, rfl, rfl, by decide +kernel, rfl, by decide +kernel, by decide +kernel⟩
abbrev s_stepped : Stmt := topS 11
abbrev N_stepped : List Str := ["plan", "state", "mark", "rows", "number", "bits", "table", "told", "k", "wish"]
abbrev P_stepped : List Str := ["plan", "state", "mark"]
theorem sc_stepped : FnScope N_stepped P_stepped (defScope s_stepped) := ⟨rfl, rfl, rfl, by decide +kernel, rfl, by decide +kernel, by decide +kernel⟩
abbrev s_is_met : Stmt := topS 12
abbrev N_is_met : List Str := ["state"]
abbrev P_is_met : List Str := ["state"]
theorem sc_is_met : FnScope N_is_met P_is_met (defScope s_is_met) := ⟨rfl, rfl, rfl, by decide +kernel, rfl, by decide +kernel, by decide +kernel⟩
abbrev s_reached : Stmt := topS 14
abbrev N_reached : List Str := ["plan", "state", "found", "at", "mark", "other"]
abbrev P_reached : List Str := ["plan", "state"]
theorem sc_reached : FnScope N_reached P_reached (defScope s_reached) := ⟨rfl, rfl, rfl, by decide +kernel, rfl, by decide +kernel, by decide +kernel⟩
abbrev s_going : Stmt := topS 15
abbrev N_going : List Str := ["plan", "state", "wanted", "found", "seen", "at", "mark", "one", "row", "other"]
abbrev P_going : List Str := ["plan", "state", "wanted"]
theorem sc_going : FnScope N_going P_going (defScope s_going) := ⟨rfl, rfl, rfl, by decide +kernel, rfl, by decide +kernel, by decide +kernel⟩
abbrev s_l_cell_at : Stmt := topS 17
abbrev N_l_cell_at : List Str := ["_law_script", "_law_k"]
abbrev P_l_cell_at : List Str := ["_law_script", "_law_k"]
theorem sc_l_cell_at : FnScope N_l_cell_at P_l_cell_at (defScope s_l_cell_at) := ⟨rfl, rfl, rfl, by decide +kernel, rfl, by decide +kernel, by decide +kernel⟩
abbrev s_l_names : Stmt := topS 19
abbrev N_l_names : List Str := ["_law_cell", "_law_letters", "_law_rest", "_law_size", "_law_at", "_law_found", "_law_k", "_law_letter", "_law_j"]
abbrev P_l_names : List Str := ["_law_cell"]
theorem sc_l_names : FnScope N_l_names P_l_names (defScope s_l_names) := ⟨rfl, rfl, rfl, by decide +kernel, rfl, by decide +kernel, by decide +kernel⟩
abbrev s_l_all : Stmt := topS 21
abbrev N_l_all : List Str := ["_law_statement", "_law_found", "_law_part"]
abbrev P_l_all : List Str := ["_law_statement"]
theorem sc_l_all : FnScope N_l_all P_l_all (defScope s_l_all) := ⟨rfl, rfl, rfl, by decide +kernel, rfl, by decide +kernel, by decide +kernel⟩
abbrev s_l_wishes : Stmt := topS 22
abbrev N_l_wishes : List Str := ["_law_statement", "_law_found", "_law_one", "_law_more", "_law_other", "_law_k"]
abbrev P_l_wishes : List Str := ["_law_statement"]
theorem sc_l_wishes : FnScope N_l_wishes P_l_wishes (defScope s_l_wishes) := ⟨rfl, rfl, rfl, by decide +kernel, rfl, by decide +kernel, by decide +kernel⟩
abbrev s_l_fit : Stmt := topS 23
abbrev N_l_fit : List Str := ["_law_statement", "_law_most"]
abbrev P_l_fit : List Str := ["_law_statement", "_law_most"]
theorem sc_l_fit : FnScope N_l_fit P_l_fit (defScope s_l_fit) := ⟨rfl, rfl, rfl, by decide +kernel, rfl, by decide +kernel, by decide +kernel⟩
abbrev s_l_until : Stmt := topS 24
abbrev N_l_until : List Str := ["_law_ones", "_law_others", "_law_found", "_law_after", "_law_one", "_law_other"]
abbrev P_l_until : List Str := ["_law_ones", "_law_others"]
theorem sc_l_until : FnScope N_l_until P_l_until (defScope s_l_until) := ⟨rfl, rfl, rfl, by decide +kernel, rfl, by decide +kernel, by decide +kernel⟩
abbrev s_l_means : Stmt := topS 25
abbrev N_l_means : List Str := ["_law_statement", "_law_run_here", "_law_word", "_law_rows", "_law_part", "_law_mark", "_law_one", "_law_k", "_law_other"]
abbrev P_l_means : List Str := ["_law_statement", "_law_run_here"]
theorem sc_l_means : FnScope N_l_means P_l_means (defScope s_l_means) := ⟨rfl, rfl, rfl, by decide +kernel, rfl, by decide +kernel, by decide +kernel⟩
abbrev s_l_run : Stmt := topS 26
abbrev N_l_run : List Str := ["_law_script", "_law_begin", "_law_names_here", "_law_most", "_law_some", "_law_cell"]
abbrev P_l_run : List Str := ["_law_script", "_law_begin", "_law_names_here", "_law_most"]
theorem sc_l_run : FnScope N_l_run P_l_run (defScope s_l_run) := ⟨rfl, rfl, rfl, by decide +kernel, rfl, by decide +kernel, by decide +kernel⟩
abbrev s_l_built : Stmt := topS 27
abbrev N_l_built : List Str := ["_law_script", "_law_names_here", "_law_most", "_law_spot", "_law_deep"]
abbrev P_l_built : List Str := ["_law_script", "_law_names_here", "_law_most"]
theorem sc_l_built : FnScope N_l_built P_l_built (defScope s_l_built) := ⟨rfl, rfl, rfl, by decide +kernel, rfl, by decide +kernel, by decide +kernel⟩
abbrev s_l_state : Stmt := topS 28
abbrev N_l_state : List Str := ["_law_plan", "_law_run_here", "_law_state_here", "_law_mark"]
abbrev P_l_state : List Str := ["_law_plan", "_law_run_here"]
theorem sc_l_state : FnScope N_l_state P_l_state (defScope s_l_state) := ⟨rfl, rfl, rfl, by decide +kernel, rfl, by decide +kernel, by decide +kernel⟩
abbrev s_l_longer : Stmt := topS 29
abbrev N_l_longer : List Str := ["_law_rows", "_law_marks", "_law_found", "_law_row", "_law_mark"]
abbrev P_l_longer : List Str := ["_law_rows", "_law_marks"]
theorem sc_l_longer : FnScope N_l_longer P_l_longer (defScope s_l_longer) := ⟨rfl, rfl, rfl, by decide +kernel, rfl, by decide +kernel, by decide +kernel⟩
abbrev s_l_holds : Stmt := topS 30
abbrev N_l_holds : List Str := ["_law_statement", "_law_run_here"]
abbrev P_l_holds : List Str := ["_law_statement", "_law_run_here"]
theorem sc_l_holds : FnScope N_l_holds P_l_holds (defScope s_l_holds) := ⟨rfl, rfl, rfl, by decide +kernel, rfl, by decide +kernel, by decide +kernel⟩
abbrev s_l_first : Stmt := topS 31
abbrev N_l_first : List Str := ["_law_statement", "_law_run_here", "_law_marks", "_law_row", "_law_wanted", "_law_rows", "_law_size", "_law_other"]
abbrev P_l_first : List Str := ["_law_statement", "_law_run_here", "_law_marks", "_law_row", "_law_wanted"]
theorem sc_l_first : FnScope N_l_first P_l_first (defScope s_l_first) := ⟨rfl, rfl, rfl, by decide +kernel, rfl, by decide +kernel, by decide +kernel⟩
abbrev s_l_way : Stmt := topS 32
abbrev N_l_way : List Str := ["_law_plan", "_law_statement", "_law_run_here", "_law_wanted", "_law_state_here", "_law_row", "_law_one", "_law_mark"]
abbrev P_l_way : List Str := ["_law_plan", "_law_statement", "_law_run_here", "_law_wanted"]
theorem sc_l_way : FnScope N_l_way P_l_way (defScope s_l_way) := ⟨rfl, rfl, rfl, by decide +kernel, rfl, by decide +kernel, by decide +kernel⟩
abbrev s_l_fields : Stmt := topS 33
abbrev N_l_fields : List Str := ["_law_plan"]
abbrev P_l_fields : List Str := ["_law_plan"]
theorem sc_l_fields : FnScope N_l_fields P_l_fields (defScope s_l_fields) := ⟨rfl, rfl, rfl, by decide +kernel, rfl, by decide +kernel, by decide +kernel⟩
abbrev s_l_draw : Stmt := topS 18
abbrev N_l_draw : List Str := ["_law_script", "_law_spot", "_law_k"]
abbrev P_l_draw : List Str := ["_law_script", "_law_spot"]
theorem sc_l_draw : FnScope N_l_draw P_l_draw (defScope s_l_draw) := ⟨rfl, rfl, rfl, by decide +kernel, rfl, by decide +kernel, by decide +kernel⟩
abbrev s_l_made : Stmt := topS 20
abbrev N_l_made : List Str := ["_law_script", "_law_spot", "_law_names_here", "_law_deep", "_law_ahead", "_law_cell", "_law_more", "_law_kinds", "_law_kind", "_law_one"]
abbrev P_l_made : List Str := ["_law_script", "_law_spot", "_law_names_here", "_law_deep", "_law_ahead"]
theorem sc_l_made : FnScope N_l_made P_l_made (defScope s_l_made) := ⟨rfl, rfl, rfl, by decide +kernel, rfl, by decide +kernel, by decide +kernel⟩
abbrev s_Plan___init__ : Stmt := inClass (topS 7) 0
abbrev N_Plan___init__ : List Str := ["self", "statement", "wish"]
abbrev P_Plan___init__ : List Str := ["self", "statement"]
theorem sc_Plan___init__ : FnScope N_Plan___init__ P_Plan___init__ (defScope s_Plan___init__) := ⟨rfl, rfl, rfl, by decide +kernel, rfl, by decide +kernel, by decide +kernel⟩
abbrev s_law : Stmt := topS 34
abbrev N_law : List Str := ["_law_script", "_law_names_here", "_law_statement", "_law_plan", "_law_run_here", "_law_fields_here"]
abbrev P_law : List Str := ["_law_script"]
theorem sc_law : FnScope N_law P_law (defScope s_law) := ⟨rfl, rfl, rfl, by decide +kernel, rfl, by decide +kernel, by decide +kernel⟩
def nmS : Nm → Str
  | .parts_of => "parts_of"
  | .wished => "wished"
  | .wishes_in => "wishes_in"
  | .pasts_in => "pasts_in"
  | .marks_in => "marks_in"
  | .Plan_has => "has"
  | .Plan_kept => "kept"
  | .is_so => "is_so"
  | .kept_behind => "kept_behind"
  | .begun => "begun"
  | .stepped => "stepped"
  | .is_met => "is_met"
  | .reached => "reached"
  | .going => "going"
  | .l_cell_at => "_law_cell_at"
  | .l_names => "_law_names"
  | .l_all => "_law_all"
  | .l_wishes => "_law_wishes"
  | .l_fit => "_law_fit"
  | .l_until => "_law_until"
  | .l_means => "_law_means"
  | .l_run => "_law_run"
  | .l_built => "_law_built"
  | .l_state => "_law_state"
  | .l_longer => "_law_longer"
  | .l_holds => "_law_holds"
  | .l_first => "_law_first"
  | .l_way => "_law_way"
  | .l_fields => "_law_fields"
  | .l_draw => "_law_draw"
  | .l_made => "_law_made"
def qlS : Nm → Str
  | .parts_of => "parts_of"
  | .wished => "wished"
  | .wishes_in => "wishes_in"
  | .pasts_in => "pasts_in"
  | .marks_in => "marks_in"
  | .Plan_has => "Plan.has"
  | .Plan_kept => "Plan.kept"
  | .is_so => "is_so"
  | .kept_behind => "kept_behind"
  | .begun => "begun"
  | .stepped => "stepped"
  | .is_met => "is_met"
  | .reached => "reached"
  | .going => "going"
  | .l_cell_at => "_law_cell_at"
  | .l_names => "_law_names"
  | .l_all => "_law_all"
  | .l_wishes => "_law_wishes"
  | .l_fit => "_law_fit"
  | .l_until => "_law_until"
  | .l_means => "_law_means"
  | .l_run => "_law_run"
  | .l_built => "_law_built"
  | .l_state => "_law_state"
  | .l_longer => "_law_longer"
  | .l_holds => "_law_holds"
  | .l_first => "_law_first"
  | .l_way => "_law_way"
  | .l_fields => "_law_fields"
  | .l_draw => "_law_draw"
  | .l_made => "_law_made"
def tpS : Nm → Bool
  | .parts_of => true
  | .wished => true
  | .wishes_in => true
  | .pasts_in => true
  | .marks_in => true
  | .Plan_has => false
  | .Plan_kept => false
  | .is_so => true
  | .kept_behind => true
  | .begun => true
  | .stepped => true
  | .is_met => true
  | .reached => true
  | .going => true
  | .l_cell_at => true
  | .l_names => true
  | .l_all => true
  | .l_wishes => true
  | .l_fit => true
  | .l_until => true
  | .l_means => true
  | .l_run => true
  | .l_built => true
  | .l_state => true
  | .l_longer => true
  | .l_holds => true
  | .l_first => true
  | .l_way => true
  | .l_fields => true
  | .l_draw => true
  | .l_made => true
def stm : Nm → Stmt
  | .parts_of => s_parts_of
  | .wished => s_wished
  | .wishes_in => s_wishes_in
  | .pasts_in => s_pasts_in
  | .marks_in => s_marks_in
  | .Plan_has => s_Plan_has
  | .Plan_kept => s_Plan_kept
  | .is_so => s_is_so
  | .kept_behind => s_kept_behind
  | .begun => s_begun
  | .stepped => s_stepped
  | .is_met => s_is_met
  | .reached => s_reached
  | .going => s_going
  | .l_cell_at => s_l_cell_at
  | .l_names => s_l_names
  | .l_all => s_l_all
  | .l_wishes => s_l_wishes
  | .l_fit => s_l_fit
  | .l_until => s_l_until
  | .l_means => s_l_means
  | .l_run => s_l_run
  | .l_built => s_l_built
  | .l_state => s_l_state
  | .l_longer => s_l_longer
  | .l_holds => s_l_holds
  | .l_first => s_l_first
  | .l_way => s_l_way
  | .l_fields => s_l_fields
  | .l_draw => s_l_draw
  | .l_made => s_l_made
def psN : Nm → List Str
  | .parts_of => P_parts_of
  | .wished => P_wished
  | .wishes_in => P_wishes_in
  | .pasts_in => P_pasts_in
  | .marks_in => P_marks_in
  | .Plan_has => P_Plan_has
  | .Plan_kept => P_Plan_kept
  | .is_so => P_is_so
  | .kept_behind => P_kept_behind
  | .begun => P_begun
  | .stepped => P_stepped
  | .is_met => P_is_met
  | .reached => P_reached
  | .going => P_going
  | .l_cell_at => P_l_cell_at
  | .l_names => P_l_names
  | .l_all => P_l_all
  | .l_wishes => P_l_wishes
  | .l_fit => P_l_fit
  | .l_until => P_l_until
  | .l_means => P_l_means
  | .l_run => P_l_run
  | .l_built => P_l_built
  | .l_state => P_l_state
  | .l_longer => P_l_longer
  | .l_holds => P_l_holds
  | .l_first => P_l_first
  | .l_way => P_l_way
  | .l_fields => P_l_fields
  | .l_draw => P_l_draw
  | .l_made => P_l_made
structure Dm (K : PySem.W.Frag) (mg : Str → Option Value) (i : Nm) (f : Addr) (fd : FuncData) : Prop where
  F : Fun K (nmS i) (qlS i) (stm i) f fd
  b : Binds K fd (psN i) []
  mm : tpS i = true → mg (nmS i) = some (.ref f)
theorem Dm.m_parts_of {K : PySem.W.Frag} {mg : Str → Option Value} {f : Addr} {fd : FuncData} (d : Dm K mg .parts_of f fd) : mg "parts_of" = some (.ref f) := d.mm rfl
theorem Dm.m_wished {K : PySem.W.Frag} {mg : Str → Option Value} {f : Addr} {fd : FuncData} (d : Dm K mg .wished f fd) : mg "wished" = some (.ref f) := d.mm rfl
theorem Dm.m_wishes_in {K : PySem.W.Frag} {mg : Str → Option Value} {f : Addr} {fd : FuncData} (d : Dm K mg .wishes_in f fd) : mg "wishes_in" = some (.ref f) := d.mm rfl
theorem Dm.m_pasts_in {K : PySem.W.Frag} {mg : Str → Option Value} {f : Addr} {fd : FuncData} (d : Dm K mg .pasts_in f fd) : mg "pasts_in" = some (.ref f) := d.mm rfl
theorem Dm.m_marks_in {K : PySem.W.Frag} {mg : Str → Option Value} {f : Addr} {fd : FuncData} (d : Dm K mg .marks_in f fd) : mg "marks_in" = some (.ref f) := d.mm rfl
theorem Dm.m_is_so {K : PySem.W.Frag} {mg : Str → Option Value} {f : Addr} {fd : FuncData} (d : Dm K mg .is_so f fd) : mg "is_so" = some (.ref f) := d.mm rfl
theorem Dm.m_kept_behind {K : PySem.W.Frag} {mg : Str → Option Value} {f : Addr} {fd : FuncData} (d : Dm K mg .kept_behind f fd) : mg "kept_behind" = some (.ref f) := d.mm rfl
theorem Dm.m_begun {K : PySem.W.Frag} {mg : Str → Option Value} {f : Addr} {fd : FuncData} (d : Dm K mg .begun f fd) : mg "begun" = some (.ref f) := d.mm rfl
theorem Dm.m_stepped {K : PySem.W.Frag} {mg : Str → Option Value} {f : Addr} {fd : FuncData} (d : Dm K mg .stepped f fd) : mg "stepped" = some (.ref f) := d.mm rfl
theorem Dm.m_is_met {K : PySem.W.Frag} {mg : Str → Option Value} {f : Addr} {fd : FuncData} (d : Dm K mg .is_met f fd) : mg "is_met" = some (.ref f) := d.mm rfl
theorem Dm.m_reached {K : PySem.W.Frag} {mg : Str → Option Value} {f : Addr} {fd : FuncData} (d : Dm K mg .reached f fd) : mg "reached" = some (.ref f) := d.mm rfl
theorem Dm.m_going {K : PySem.W.Frag} {mg : Str → Option Value} {f : Addr} {fd : FuncData} (d : Dm K mg .going f fd) : mg "going" = some (.ref f) := d.mm rfl
theorem Dm.m_l_cell_at {K : PySem.W.Frag} {mg : Str → Option Value} {f : Addr} {fd : FuncData} (d : Dm K mg .l_cell_at f fd) : mg "_law_cell_at" = some (.ref f) := d.mm rfl
theorem Dm.m_l_names {K : PySem.W.Frag} {mg : Str → Option Value} {f : Addr} {fd : FuncData} (d : Dm K mg .l_names f fd) : mg "_law_names" = some (.ref f) := d.mm rfl
theorem Dm.m_l_all {K : PySem.W.Frag} {mg : Str → Option Value} {f : Addr} {fd : FuncData} (d : Dm K mg .l_all f fd) : mg "_law_all" = some (.ref f) := d.mm rfl
theorem Dm.m_l_wishes {K : PySem.W.Frag} {mg : Str → Option Value} {f : Addr} {fd : FuncData} (d : Dm K mg .l_wishes f fd) : mg "_law_wishes" = some (.ref f) := d.mm rfl
theorem Dm.m_l_fit {K : PySem.W.Frag} {mg : Str → Option Value} {f : Addr} {fd : FuncData} (d : Dm K mg .l_fit f fd) : mg "_law_fit" = some (.ref f) := d.mm rfl
theorem Dm.m_l_until {K : PySem.W.Frag} {mg : Str → Option Value} {f : Addr} {fd : FuncData} (d : Dm K mg .l_until f fd) : mg "_law_until" = some (.ref f) := d.mm rfl
theorem Dm.m_l_means {K : PySem.W.Frag} {mg : Str → Option Value} {f : Addr} {fd : FuncData} (d : Dm K mg .l_means f fd) : mg "_law_means" = some (.ref f) := d.mm rfl
theorem Dm.m_l_run {K : PySem.W.Frag} {mg : Str → Option Value} {f : Addr} {fd : FuncData} (d : Dm K mg .l_run f fd) : mg "_law_run" = some (.ref f) := d.mm rfl
theorem Dm.m_l_built {K : PySem.W.Frag} {mg : Str → Option Value} {f : Addr} {fd : FuncData} (d : Dm K mg .l_built f fd) : mg "_law_built" = some (.ref f) := d.mm rfl
theorem Dm.m_l_state {K : PySem.W.Frag} {mg : Str → Option Value} {f : Addr} {fd : FuncData} (d : Dm K mg .l_state f fd) : mg "_law_state" = some (.ref f) := d.mm rfl
theorem Dm.m_l_longer {K : PySem.W.Frag} {mg : Str → Option Value} {f : Addr} {fd : FuncData} (d : Dm K mg .l_longer f fd) : mg "_law_longer" = some (.ref f) := d.mm rfl
theorem Dm.m_l_holds {K : PySem.W.Frag} {mg : Str → Option Value} {f : Addr} {fd : FuncData} (d : Dm K mg .l_holds f fd) : mg "_law_holds" = some (.ref f) := d.mm rfl
theorem Dm.m_l_first {K : PySem.W.Frag} {mg : Str → Option Value} {f : Addr} {fd : FuncData} (d : Dm K mg .l_first f fd) : mg "_law_first" = some (.ref f) := d.mm rfl
theorem Dm.m_l_way {K : PySem.W.Frag} {mg : Str → Option Value} {f : Addr} {fd : FuncData} (d : Dm K mg .l_way f fd) : mg "_law_way" = some (.ref f) := d.mm rfl
theorem Dm.m_l_fields {K : PySem.W.Frag} {mg : Str → Option Value} {f : Addr} {fd : FuncData} (d : Dm K mg .l_fields f fd) : mg "_law_fields" = some (.ref f) := d.mm rfl
theorem Dm.m_l_draw {K : PySem.W.Frag} {mg : Str → Option Value} {f : Addr} {fd : FuncData} (d : Dm K mg .l_draw f fd) : mg "_law_draw" = some (.ref f) := d.mm rfl
theorem Dm.m_l_made {K : PySem.W.Frag} {mg : Str → Option Value} {f : Addr} {fd : FuncData} (d : Dm K mg .l_made f fd) : mg "_law_made" = some (.ref f) := d.mm rfl
structure DD (K : PySem.W.Frag) (mg : Str → Option Value) (Cc : Addr) (fa : Nm → Addr) (fdd : Nm → FuncData) : Prop where
  d : ∀ i : Nm, Dm K mg i (fa i) (fdd i)
  mt_Plan_has : Meth K Cc "has" (fa .Plan_has)
  mt_Plan_kept : Meth K Cc "kept" (fa .Plan_kept)
inductive Nx | l_draw | l_made
def Nx.n : Nx → Nm
  | .l_draw => .l_draw
  | .l_made => .l_made
def f_l_draw (Psy : Nx → Phx) : Fxs :=
    (xSeq (xPut 1 (fCon (.int 0)) (f2 oAdd (f2 oIx (fOpd 1) (fCon (.int 0))) (fCon (.int 1))))
    (xSeq (xSet 2 (xOf (f2 oSub (f2 oIx (fOpd 1) (fCon (.int 0))) (fCon (.int 1)))))
    (xSeq (xIf (fT (f2 oLt (fOpd 2) (fB oLen (fCons (fOpd 0) fNil)))) (xRet (xOf (f2 oIx (fOpd 0) (fOpd 2)))) xNext)
    (xSeq (xIf (gAnd (fT (f2 oGt (fB oLen (fCons (fOpd 0) fNil)) (fCon (.int 4)))) (fT (f2 oLt (fOpd 2) (fCon (.int 40))))) (xRet (xOf (f2 oMod (f2 oMul (f2 oAdd (f2 oIx (fOpd 0) (f2 oMod (fOpd 2) (fB oLen (fCons (fOpd 0) fNil)))) (f2 oMul (fCon (.int 7919)) (fOpd 2))) (fCon (.int 48271))) (fCon (.int 1000003))))) xNext)
    (xRet (xOf (fCon (.int 0))))))))
def f_l_made (Psy : Nx → Phx) : Fxs :=
    (xSeq (xSet 5 (xCall 1 (Psy .l_draw) (fVar 0) fNil))
    (xSeq (xSet 6 (xOf (f2 oDiv (fOpd 5) (fCon (.int 14)))))
    (xSeq (xIf (gOr (fT (f2 oLt (fOpd 3) (fCon (.int 2)))) (fT (f2 oLt (f2 oMod (fOpd 5) (fCon (.int 14))) (fCon (.int 2))))) (xSeq (xIf (fT (f2 oEq (f2 oMod (fOpd 6) (fCon (.int 9))) (fCon (.int 4)))) (xRet (xOf (fTup (fCons (fCon (.str "yes")) fNil)))) xNext)
    (xRet (xOf (fTup (fCons (fCon (.str "mark")) (fCons (f2 oIx (fOpd 2) (f2 oMod (fOpd 6) (fCon (.int 3)))) fNil)))))) xNext)
    (xSeq (xSet 7 (xOf (fCon (.str "not and or before since not and before since or since before"))))
    (xSeq (xIf (fT (fVar 4)) (xSet 7 (xOf (fCon (.str "not and or next until within until next since before until within")))) xNext)
    (xSeq (xSet 8 (xOf (f2 oIx (fM1 oSplit (fOpd 7) (fCon (.str " "))) (f2 oSub (f2 oMod (fOpd 5) (fCon (.int 14))) (fCon (.int 2))))))
    (xSeq (xSet 4 (xOf (fAnd (fVar 4) (f2 (oIn true) (fOpd 8) (fTup (fCons (fCon (.str "before")) (fCons (fCon (.str "since")) fNil)))))))
    (xSeq (xSet 9 (xCall 1 (Psy .l_made) (fVar 0) (fCons (fVar 2) (fCons (f2 oSub (fOpd 3) (fCon (.int 1))) (fCons (fVar 4) fNil)))))
    (xSeq (xIf (fT (f2 oEq (fOpd 8) (fCon (.str "within")))) (xRet (xOf (fTup (fCons (fVar 8) (fCons (f2 oIx (fLst (fCons (fCon (.int 1)) (fCons (fCon (.int 2)) (fCons (fCon (.int 0)) (fCons (fCon (.int 1)) (fCons (f2 oMod (f2 oDiv (fOpd 6) (fCon (.int 6))) (fCon (.int 5))) fNil)))))) (f2 oMod (fOpd 6) (fCon (.int 5)))) (fCons (fVar 9) fNil)))))) xNext)
    (xSeq (xIf (fT (f2 (oIn false) (fOpd 8) (fTup (fCons (fCon (.str "not")) (fCons (fCon (.str "next")) (fCons (fCon (.str "before")) fNil)))))) (xRet (xOf (fTup (fCons (fVar 8) (fCons (fVar 9) fNil))))) xNext)
    (xRet (xTup (xCons (xOf (fVar 8)) (xCons (xOf (fVar 9)) (xCons (xCall 1 (Psy .l_made) (fVar 0) (fCons (fVar 2) (fCons (f2 oSub (fOpd 3) (fCon (.int 1))) (fCons (fVar 4) fNil)))) xNil)))))))))))))))
def Psi : Nat → Nx → Phx
  | 0 => fun _ _ _ _ => none
  | n + 1 => fun i => match i with
    | .l_draw => runX 2 3 (f_l_draw (Psi n))
    | .l_made => runX 5 10 (f_l_made (Psi n))
theorem psi_l_draw (n : Nat) : Psi (n + 1) .l_draw = runX 2 3 (f_l_draw (Psi n)) := rfl
theorem psi_l_made (n : Nat) : Psi (n + 1) .l_made = runX 5 10 (f_l_made (Psi n)) := rfl
def f_parts_of (Phi : Nm → List D → Option Rs) : Fs :=
    (sRet (fLc (wTup (fSl (fOpd 0) (fiSm (fCon (.int 1))) fiNo)) (gfN 1) (fT (f1 (oIsi "tuple") (fOpd 1))) (fVar 1) [1]))
def f_wished (Phi : Nm → List D → Option Rs) : Fs :=
    (fSeq (sSetO 1 (fLst fNil))
    (fSeq (sFor (wLst (fCall (Phi .parts_of) (fCons (fVar 0) fNil))) (gfN 2) (sIf (fT (f2 oNe (f2 oIx (fOpd 0) (fCon (.int 0))) (fCon (.str "next")))) (sSetO 1 (f2 oAdd (fOpd 1) (fCall (Phi .wished) (fCons (fVar 2) fNil)))) fNext))
    (fSeq (sIf (fT (f2 oEq (f2 oIx (fOpd 0) (fCon (.int 0))) (fCon (.str "next")))) (sSetO 1 (fLst (fCons (f2 oIx (fOpd 0) (fCon (.int 1))) fNil))) (sIf (fT (f2 oEq (f2 oIx (fOpd 0) (fCon (.int 0))) (fCon (.str "until")))) (sApp 1 (fVar 0)) (sIf (gAnd (fT (f2 oEq (f2 oIx (fOpd 0) (fCon (.int 0))) (fCon (.str "within")))) (fT (f2 oGt (f2 oIx (fOpd 0) (fCon (.int 1))) (fCon (.int 0))))) (sApp 1 (fTup (fCons (fCon (.str "within")) (fCons (f2 oSub (f2 oIx (fOpd 0) (fCon (.int 1))) (fCon (.int 1))) (fCons (f2 oIx (fOpd 0) (fCon (.int 2))) fNil))))) fNext)))
    (sRet (fOpd 1)))))
def f_wishes_in (Phi : Nm → List D → Option Rs) : Fs :=
    (fSeq (sSetO 1 (fLst (fCons (fVar 0) fNil)))
    (fSeq (sSet 2 (fCon (.int 0)))
    (fSeq (sWh (fT (f2 oLt (fOpd 2) (fB oLen (fCons (fOpd 1) fNil)))) (fSeq (sFor (wLst (fCall (Phi .wished) (fCons (f2 oIx (fOpd 1) (fOpd 2)) fNil))) (gfN 3) (sIf (fT (f2 (oIn true) (fOpd 3) (fOpd 1))) (sApp 1 (fVar 3)) fNext))
    (sSet 2 (f2 oAdd (fOpd 2) (fCon (.int 1))))))
    (sRet (fOpd 1)))))
def f_pasts_in (Phi : Nm → List D → Option Rs) : Fs :=
    (fSeq (sSetO 1 (fLst fNil))
    (fSeq (sFor (wLst (fCall (Phi .parts_of) (fCons (fVar 0) fNil))) (gfN 2) (sFor (wLst (fCall (Phi .pasts_in) (fCons (fVar 2) fNil))) (gfN 3) (sIf (fT (f2 (oIn true) (fOpd 3) (fOpd 1))) (sApp 1 (fVar 3)) fNext)))
    (fSeq (sIf (gAnd (fT (f2 (oIn false) (f2 oIx (fOpd 0) (fCon (.int 0))) (fTup (fCons (fCon (.str "before")) (fCons (fCon (.str "since")) fNil))))) (fT (f2 (oIn true) (fOpd 0) (fOpd 1)))) (sApp 1 (fVar 0)) fNext)
    (sRet (fOpd 1)))))
def f_marks_in (Phi : Nm → List D → Option Rs) : Fs :=
    (fSeq (sIf (fT (f2 oEq (f2 oIx (fOpd 0) (fCon (.int 0))) (fCon (.str "mark")))) (sRet (fLst (fCons (fCon (.str "")) (fCons (f2 oIx (fOpd 0) (fCon (.int 1))) fNil)))) fNext)
    (fSeq (sSet 1 (fLst (fCons (fCon (.str "")) fNil)))
    (fSeq (sFor (wLst (fCall (Phi .parts_of) (fCons (fVar 0) fNil))) (gfN 2) (sSet 1 (fB oSortSet (fCons (f2 oAdd (fOpd 1) (fCall (Phi .marks_in) (fCons (fVar 2) fNil))) fNil))))
    (sRet (fVar 1)))))
def f_Plan_has (Phi : Nm → List D → Option Rs) : Fs :=
    (sRet (f2 oEq (f2 oMod (f2 oDiv (fOpd 1) (f2 oIx (f1 (oFld "weights") (fOpd 0)) (fIdx (f1 (oFld "wishes") (fOpd 0)) (fOpd 2)))) (fCon (.int 2))) (fCon (.int 1))))
def f_Plan_kept (Phi : Nm → List D → Option Rs) : Fs :=
    (sRet (f2 oIx (fOpd 1) (fIdx (f1 (oFld "pasts") (fOpd 0)) (fOpd 2))))
def f_is_so (Phi : Nm → List D → Option Rs) : Fs :=
    (fSeq (sSet 5 (f2 oIx (fOpd 1) (fCon (.int 0))))
    (fSeq (sIf (fT (f2 oEq (fOpd 5) (fCon (.str "mark")))) (sRet (f2 oEq (fOpd 2) (f2 oIx (fOpd 1) (fCon (.int 1))))) fNext)
    (fSeq (sIf (fT (f2 oEq (fOpd 5) (fCon (.str "yes")))) (sRet (fCon (.bool true))) fNext)
    (fSeq (sIf (fT (f2 oEq (fOpd 5) (fCon (.str "next")))) (sRet (fMeth (Phi .Plan_has) (fOpd 0) (fCons (fVar 4) (fCons (f2 oIx (fOpd 1) (fCon (.int 1))) fNil)))) fNext)
    (fSeq (sIf (fT (f2 oEq (fOpd 5) (fCon (.str "before")))) (sRet (fMeth (Phi .Plan_kept) (fOpd 0) (fCons (fVar 3) (fCons (fVar 1) fNil)))) fNext)
    (fSeq (sIf (fT (f2 oEq (fOpd 5) (fCon (.str "not")))) (sRet (fNot (fCall (Phi .is_so) (fCons (fVar 0) (fCons (f2 oIx (fOpd 1) (fCon (.int 1))) (fCons (fVar 2) (fCons (fVar 3) (fCons (fVar 4) fNil)))))))) fNext)
    (fSeq (sIf (fT (f2 oEq (fOpd 5) (fCon (.str "within")))) (fSeq (sIf (gAnd (fT (f2 oGt (f2 oIx (fOpd 1) (fCon (.int 1))) (fCon (.int 0)))) (fT (fMeth (Phi .Plan_has) (fOpd 0) (fCons (fVar 4) (fCons (fTup (fCons (fCon (.str "within")) (fCons (f2 oSub (f2 oIx (fOpd 1) (fCon (.int 1))) (fCon (.int 1))) (fCons (f2 oIx (fOpd 1) (fCon (.int 2))) fNil)))) fNil))))) (sRet (fCon (.bool true))) fNext)
    (sRet (fCall (Phi .is_so) (fCons (fVar 0) (fCons (f2 oIx (fOpd 1) (fCon (.int 2))) (fCons (fVar 2) (fCons (fVar 3) (fCons (fVar 4) fNil)))))))) fNext)
    (fSeq (sSet 6 (fCall (Phi .is_so) (fCons (fVar 0) (fCons (f2 oIx (fOpd 1) (fCon (.int 1))) (fCons (fVar 2) (fCons (fVar 3) (fCons (fVar 4) fNil)))))))
    (fSeq (sSet 7 (fCall (Phi .is_so) (fCons (fVar 0) (fCons (f2 oIx (fOpd 1) (fCon (.int 2))) (fCons (fVar 2) (fCons (fVar 3) (fCons (fVar 4) fNil)))))))
    (fSeq (sIf (fT (f2 oEq (fOpd 5) (fCon (.str "and")))) (sRet (fAnd (fVar 6) (fVar 7))) fNext)
    (fSeq (sIf (fT (f2 oEq (fOpd 5) (fCon (.str "or")))) (sRet (fOr (fVar 6) (fVar 7))) fNext)
    (fSeq (sIf (fT (f2 oEq (fOpd 5) (fCon (.str "until")))) (sRet (fOr (fVar 7) (fAnd (fVar 6) (fMeth (Phi .Plan_has) (fOpd 0) (fCons (fVar 4) (fCons (fVar 1) fNil)))))) fNext)
    (sRet (fOr (fVar 7) (fAnd (fVar 6) (fMeth (Phi .Plan_kept) (fOpd 0) (fCons (fVar 3) (fCons (fVar 1) fNil))))))))))))))))))
def f_kept_behind (Phi : Nm → List D → Option Rs) : Fs :=
    (fSeq (sSetO 3 (fLst fNil))
    (fSeq (sFor (wLst (f1 (oFld "pasts") (fOpd 0))) (gfN 4) (sIf (fT (f2 oEq (f2 oIx (fOpd 4) (fCon (.int 0))) (fCon (.str "before")))) (sApp 3 (fCall (Phi .is_so) (fCons (fVar 0) (fCons (f2 oIx (fOpd 4) (fCon (.int 1))) (fCons (fVar 2) (fCons (fVar 1) (fCons (fCon (.int 0)) fNil))))))) (sApp 3 (fCall (Phi .is_so) (fCons (fVar 0) (fCons (fVar 4) (fCons (fVar 2) (fCons (fVar 1) (fCons (fCon (.int 0)) fNil)))))))))
    (sRet (fB oTuple (fCons (fOpd 3) fNil)))))
def f_begun (Phi : Nm → List D → Option Rs) : Fs :=
    (fSeq (sSet 1 (fLc (wRg1 (fCons (f2 oIx (f1 (oFld "weights") (fOpd 0)) (f1 oNeg (fCon (.int 1)))) fNil)) (gfN 2) gYes (f2 oEq (f2 oMod (fOpd 2) (fCon (.int 2))) (fCon (.int 1))) [2]))
    (sRet (fTup (fCons (fB oTuple (fCons (fLc (wLst (f1 (oFld "pasts") (fOpd 0))) (gfN 3) gYes (fCon (.bool false)) [3]) fNil)) (fCons (fB oTuple (fCons (fOpd 1) fNil)) fNil)))))
def f_stepped (Phi : Nm → List D → Option Rs) : Fs :=
    (fSeq (sAsg (fVar 1) (gfTup (gsCons (gfN 5) (gsCons (gfN 6) gsNil))))
    (fSeq (sSetO 3 (fLst fNil))
    (fSeq (sFor (wRg1 (fCons (fB oLen (fCons (fOpd 6) fNil)) fNil)) (gfN 4) (fSeq (sSet 7 (fCon (.int 0)))
    (fSeq (sFor (wEnum (fCons (f1 (oFld "wishes") (fOpd 0)) fNil)) (gfTup (gsCons (gfN 8) (gsCons (gfN 9) gsNil))) (sIf (fT (fCall (Phi .is_so) (fCons (fVar 0) (fCons (fVar 9) (fCons (fVar 2) (fCons (fVar 5) (fCons (fVar 4) fNil))))))) (sSet 7 (f2 oAdd (fOpd 7) (f2 oIx (f1 (oFld "weights") (fOpd 0)) (fOpd 8)))) fNext))
    (sApp 3 (f2 oIx (fOpd 6) (fOpd 7))))))
    (sRet (fTup (fCons (fCall (Phi .kept_behind) (fCons (fVar 0) (fCons (fVar 5) (fCons (fVar 2) fNil)))) (fCons (fB oTuple (fCons (fOpd 3) fNil)) fNil)))))))
def f_is_met (Phi : Nm → List D → Option Rs) : Fs :=
    (sRet (f2 oIx (f2 oIx (fOpd 0) (fCon (.int 1))) (fCon (.int 0))))
def f_reached (Phi : Nm → List D → Option Rs) : Fs :=
    (fSeq (sSetO 2 (fLst (fCons (fVar 1) fNil)))
    (fSeq (sSet 3 (fCon (.int 0)))
    (fSeq (sWh (fT (f2 oLt (fOpd 3) (fB oLen (fCons (fOpd 2) fNil)))) (fSeq (sFor (wLst (f1 (oFld "marks") (fOpd 0))) (gfN 4) (fSeq (sSet 5 (fCall (Phi .stepped) (fCons (fVar 0) (fCons (f2 oIx (fOpd 2) (fOpd 3)) (fCons (fVar 4) fNil)))))
    (sIf (fT (f2 (oIn true) (fOpd 5) (fOpd 2))) (sApp 2 (fVar 5)) fNext)))
    (sSet 3 (f2 oAdd (fOpd 3) (fCon (.int 1))))))
    (sRet (fOwn 2)))))
def f_going (Phi : Nm → List D → Option Rs) : Fs :=
    (fSeq (sSetO 3 (fLst (fCons (fTup (fCons (fVar 1) (fCons (fNew (fLst fNil)) fNil))) fNil)))
    (fSeq (sSetO 4 (fLst (fCons (fVar 1) fNil)))
    (fSeq (sSet 5 (fCon (.int 0)))
    (fSeq (sWh (fT (f2 oLt (fOpd 5) (fB oLen (fCons (fOpd 3) fNil)))) (fSeq (sAsg (f2 oIx (fOpd 3) (fOpd 5)) (gfTup (gsCons (gfN 7) (gsCons (gfN 8) gsNil))))
    (fSeq (sIf (fT (f2 oEq (fCall (Phi .is_met) (fCons (fVar 7) fNil)) (fOpd 2))) (sRetW 8) fNext)
    (fSeq (sFor (wLst (f1 (oFld "marks") (fOpd 0))) (gfN 6) (fSeq (sSet 9 (fCall (Phi .stepped) (fCons (fVar 0) (fCons (fVar 7) (fCons (fVar 6) fNil)))))
    (sIf (fT (f2 (oIn true) (fOpd 9) (fOpd 4))) (fSeq (sApp 4 (fVar 9))
    (sApp 3 (fTup (fCons (fVar 9) (fCons (fNew (f2 oAdd (fOpN 8) (fLst (fCons (fVar 6) fNil)))) fNil))))) fNext)))
    (sSet 5 (f2 oAdd (fOpd 5) (fCon (.int 1))))))))
    (sRet (fCon .none))))))
def f_l_cell_at (Phi : Nm → List D → Option Rs) : Fs :=
    (fSeq (sIf (fT (f2 oLt (fOpd 1) (fB oLen (fCons (fOpd 0) fNil)))) (sRet (f2 oIx (fOpd 0) (fOpd 1))) fNext)
    (sRet (fCon (.int 0))))
def f_l_names (Phi : Nm → List D → Option Rs) : Fs :=
    (fSeq (sSet 1 (fCon (.str "abcdefghijklmnopqrstuvwxyz")))
    (fSeq (sSet 2 (fM1 oJoin (fCon (.str "")) (fLc (wRg1 (fCons (fCon (.int 6)) fNil)) (gfN 8) gYes (f2 oIx (fOpd 1) (f2 oMod (f2 oAdd (f2 oDiv (fOpd 0) (fCon (.int 7))) (f2 oMul (fCon (.int 5)) (fOpd 8))) (fCon (.int 26)))) [8])))
    (fSeq (sIf (fT (f2 oEq (f2 oMod (fOpd 0) (fCon (.int 3))) (fCon (.int 2)))) (fSeq (sSet 3 (f2 oAdd (fCon (.int 1)) (f2 oMod (f2 oDiv (fOpd 0) (fCon (.int 3))) (fCon (.int 4)))))
    (sRet (fLc (wRg1 (fCons (fCon (.int 3)) fNil)) (gfN 6) gYes (fSl (fOpd 2) fiNo (fiSm (f2 oAdd (fOpd 3) (fOpd 6)))) [6]))) fNext)
    (fSeq (sSet 3 (f2 oMod (f2 oDiv (fOpd 0) (fCon (.int 3))) (fCon (.int 6))))
    (fSeq (sSet 4 (f2 oMod (f2 oDiv (fOpd 0) (fCon (.int 18))) (f2 oAdd (fOpd 3) (fCon (.int 1)))))
    (fSeq (sSetO 5 (fLst fNil))
    (fSeq (sFor (wRg1 (fCons (fCon (.int 3)) fNil)) (gfN 6) (fSeq (sSet 7 (f2 oIx (fOpd 1) (f2 oMod (f2 oAdd (f2 oDiv (fOpd 0) (fCon (.int 90))) (f2 oMul (fCon (.int 7)) (fOpd 6))) (fCon (.int 26)))))
    (sApp 5 (f2 oAdd (f2 oAdd (fSl (fOpd 2) fiNo (fiSm (fOpd 4))) (fOpd 7)) (fSl (fOpd 2) (fiSm (fOpd 4)) (fiSm (fOpd 3)))))))
    (sRet (fOpd 5)))))))))
def f_l_all (Phi : Nm → List D → Option Rs) : Fs :=
    (fSeq (sSet 1 (fLst (fCons (fVar 0) fNil)))
    (fSeq (sFor (wTup (fSl (fOpd 0) (fiSm (fCon (.int 1))) fiNo)) (gfN 2) (sIf (fT (f1 (oIsi "tuple") (fOpd 2))) (sSet 1 (f2 oAdd (fOpd 1) (fCall (Phi .l_all) (fCons (fVar 2) fNil)))) fNext))
    (sRet (fVar 1))))
def f_l_wishes (Phi : Nm → List D → Option Rs) : Fs :=
    (fSeq (sSet 1 (fLst (fCons (fVar 0) fNil)))
    (fSeq (sFor (wLst (fCall (Phi .l_all) (fCons (fVar 0) fNil))) (gfN 2) (fSeq (sSet 3 (fLst fNil))
    (fSeq (sIf (fT (f2 oEq (f2 oIx (fOpd 2) (fCon (.int 0))) (fCon (.str "next")))) (sSet 3 (fLst (fCons (f2 oIx (fOpd 2) (fCon (.int 1))) fNil))) (sIf (fT (f2 oEq (f2 oIx (fOpd 2) (fCon (.int 0))) (fCon (.str "until")))) (sSet 3 (fLst (fCons (fVar 2) fNil))) (sIf (fT (f2 oEq (f2 oIx (fOpd 2) (fCon (.int 0))) (fCon (.str "within")))) (sSet 3 (fLc (wRg1 (fCons (f2 oIx (fOpd 2) (fCon (.int 1))) fNil)) (gfN 5) gYes (fTup (fCons (fCon (.str "within")) (fCons (fVar 5) (fCons (f2 oIx (fOpd 2) (fCon (.int 2))) fNil)))) [5])) fNext)))
    (sSet 1 (f2 oAdd (fOpd 1) (fLc (wLst (fVar 3)) (gfN 4) (fT (f2 (oIn true) (fOpd 4) (fOpd 1))) (fVar 4) [4]))))))
    (sRet (fVar 1))))
def f_l_fit (Phi : Nm → List D → Option Rs) : Fs :=
    (fSeq (sWh (fT (f2 oGt (fB oLen (fCons (fCall (Phi .l_wishes) (fCons (fVar 0) fNil)) fNil)) (fOpd 1))) (sSet 0 (f2 oIx (fOpd 0) (f1 oNeg (fCon (.int 1))))))
    (sRet (fVar 0)))
def f_l_until (Phi : Nm → List D → Option Rs) : Fs :=
    (fSeq (sSetO 2 (fLst fNil))
    (fSeq (sSet 3 (fCon (.bool false)))
    (fSeq (sFor (wZip (fCons (fVar 0) (fCons (fVar 1) fNil))) (gfTup (gsCons (gfN 4) (gsCons (gfN 5) gsNil))) (fSeq (sSet 3 (fOr (fVar 5) (fAnd (fVar 4) (fVar 3))))
    (sApp 2 (fVar 3))))
    (sRet (fOpd 2)))))
def f_l_means (Phi : Nm → List D → Option Rs) : Fs :=
    (fSeq (sSet 2 (f2 oIx (fOpd 0) (fCon (.int 0))))
    (fSeq (sIf (fT (f2 oEq (fOpd 2) (fCon (.str "mark")))) (sRet (fLc (wLst (fVar 1)) (gfN 5) gYes (f2 oEq (fOpd 5) (f2 oIx (fOpd 0) (fCon (.int 1)))) [5])) fNext)
    (fSeq (sIf (fT (f2 oEq (fOpd 2) (fCon (.str "yes")))) (sRet (fLc (wLst (fVar 1)) (gfN 5) gYes (fCon (.bool true)) [5])) fNext)
    (fSeq (sSet 3 (fLc (wTup (fSl (fOpd 0) (fiSm (fCon (.int 1))) fiNo)) (gfN 4) (fT (f1 (oIsi "tuple") (fOpd 4))) (fCall (Phi .l_means) (fCons (fVar 4) (fCons (fVar 1) fNil))) [4]))
    (fSeq (sIf (fT (f2 oEq (fOpd 2) (fCon (.str "not")))) (sRet (fLc (wLst (f2 oIx (fOpd 3) (fCon (.int 0)))) (gfN 6) gYes (fNot (fVar 6)) [6])) fNext)
    (fSeq (sIf (fT (f2 oEq (fOpd 2) (fCon (.str "and")))) (sRet (fLc (wZip (fCons (f2 oIx (fOpd 3) (fCon (.int 0))) (fCons (f2 oIx (fOpd 3) (fCon (.int 1))) fNil))) (gfTup (gsCons (gfN 6) (gsCons (gfN 8) gsNil))) gYes (fAnd (fVar 6) (fVar 8)) [6, 8])) fNext)
    (fSeq (sIf (fT (f2 oEq (fOpd 2) (fCon (.str "or")))) (sRet (fLc (wZip (fCons (f2 oIx (fOpd 3) (fCon (.int 0))) (fCons (f2 oIx (fOpd 3) (fCon (.int 1))) fNil))) (gfTup (gsCons (gfN 6) (gsCons (gfN 8) gsNil))) gYes (fOr (fVar 6) (fVar 8)) [6, 8])) fNext)
    (fSeq (sIf (fT (f2 oEq (fOpd 2) (fCon (.str "next")))) (sRet (fSl (f2 oAdd (f2 oIx (fOpd 3) (fCon (.int 0))) (fLst (fCons (fCon (.bool false)) fNil))) (fiSm (fCon (.int 1))) fiNo)) fNext)
    (fSeq (sIf (fT (f2 oEq (fOpd 2) (fCon (.str "before")))) (sRet (fSl (f2 oAdd (fLst (fCons (fCon (.bool false)) fNil)) (f2 oIx (fOpd 3) (fCon (.int 0)))) fiNo (fiSm (fB oLen (fCons (fOpd 1) fNil))))) fNext)
    (fSeq (sIf (fT (f2 oEq (fOpd 2) (fCon (.str "within")))) (sRet (fLc (wRg1 (fCons (fB oLen (fCons (fOpd 1) fNil)) fNil)) (gfN 7) gYes (f2 (oIn false) (fCon (.bool true)) (fSl (f2 oIx (fOpd 3) (fCon (.int 0))) (fiSm (fOpd 7)) (fiSm (f2 oAdd (f2 oAdd (fOpd 7) (f2 oIx (fOpd 0) (fCon (.int 1)))) (fCon (.int 1)))))) [7])) fNext)
    (fSeq (sIf (fT (f2 oEq (fOpd 2) (fCon (.str "since")))) (sRet (fCall (Phi .l_until) (fCons (f2 oIx (fOpd 3) (fCon (.int 0))) (fCons (f2 oIx (fOpd 3) (fCon (.int 1))) fNil)))) fNext)
    (sRet (f1 oRev (fCall (Phi .l_until) (fCons (f1 oRev (f2 oIx (fOpd 3) (fCon (.int 0)))) (fCons (f1 oRev (f2 oIx (fOpd 3) (fCon (.int 1)))) fNil))))))))))))))))
def f_l_run (Phi : Nm → List D → Option Rs) : Fs :=
    (fSeq (sSet 4 (f2 oAdd (f2 oAdd (fOpd 2) (fLst (fCons (fCon (.str "")) (fCons (f2 oAdd (fSl (f2 oIx (fOpd 2) (fCon (.int 2))) fiNo (fiSm (fCon (.int 1)))) (fCon (.str "zq"))) fNil)))) (fOpd 2)))
    (sRet (fLc (wLst (fSl (fOpd 0) (fiSm (fOpd 1)) (fiSm (f2 oAdd (fOpd 1) (fOpd 3))))) (gfN 5) gYes (f2 oIx (fOpd 4) (f2 oMod (fOpd 5) (fCon (.int 8)))) [5])))
def f_l_built (Phi : Nm → List D → Option Rs) (Psy : Nx → Phx) : Fs :=
    (fSeq (sSetO 3 (fLst (fCons (fCon (.int 2)) fNil)))
    (fSeq (sSet 4 (f2 oAdd (fCon (.int 5)) (fB oInt1 (fCons (f2 oEq (f2 oMod (fCall (Phi .l_cell_at) (fCons (fVar 0) (fCons (fCon (.int 1)) fNil))) (fCon (.int 8))) (fCon (.int 5))) fNil))))
    (sRetX (xCallP (Phi .l_fit) (xCons (xCall 3 (Psy .l_made) (fVar 0) (fCons (fVar 1) (fCons (fVar 4) (fCons (fCon (.bool true)) fNil)))) (xCons (xOf (fVar 2)) xNil))))))
def f_l_state (Phi : Nm → List D → Option Rs) : Fs :=
    (fSeq (sSet 2 (fCall (Phi .begun) (fCons (fVar 0) fNil)))
    (fSeq (sFor (wLst (fVar 1)) (gfN 3) (sSet 2 (fCall (Phi .stepped) (fCons (fVar 0) (fCons (fVar 2) (fCons (fVar 3) fNil))))))
    (sRet (fVar 2))))
def f_l_longer (Phi : Nm → List D → Option Rs) : Fs :=
    (fSeq (sSetO 2 (fLst fNil))
    (fSeq (sFor (wLst (fVar 0)) (gfN 3) (sExt 2 (fLc (wLst (fVar 1)) (gfN 4) gYes (f2 oAdd (fOpd 3) (fLst (fCons (fVar 4) fNil))) [4])))
    (sRet (fOpd 2))))
def f_l_holds (Phi : Nm → List D → Option Rs) : Fs :=
    (sRet (fAnd (f2 oNe (fOpd 1) (fLst fNil)) (f2 oIx (fCall (Phi .l_means) (fCons (fVar 0) (fCons (fVar 1) fNil))) (fCon (.int 0)))))
def f_l_first (Phi : Nm → List D → Option Rs) : Fs :=
    (fSeq (sSet 5 (fLst (fCons (fLst fNil) fNil)))
    (fSeq (sFor (wRg1 (fCons (f2 oAdd (fB oLen (fCons (fOpd 3) fNil)) (fCon (.int 1))) fNil)) (gfN 6) (fSeq (sFor (wLst (fVar 5)) (gfN 7) (fSeq (sIf (fT (f2 oEq (fOpd 7) (fOpd 3))) (sRet (fCon (.bool true))) fNext)
    (sIf (fT (f2 oEq (fCall (Phi .l_holds) (fCons (fVar 0) (fCons (f2 oAdd (fOpd 1) (fOpd 7)) fNil))) (fOpd 4))) (sRet (fCon (.bool false))) fNext)))
    (fSeq (sIf (fT (f2 oGt (f2 oMul (fB oLen (fCons (fOpd 5) fNil)) (fB oLen (fCons (fOpd 2) fNil))) (fCon (.int 90)))) (sRet (fCon (.bool true))) fNext)
    (sSet 5 (fCall (Phi .l_longer) (fCons (fVar 5) (fCons (fVar 2) fNil)))))))
    (sRet (fCon (.bool true)))))
def f_l_way (Phi : Nm → List D → Option Rs) : Fs :=
    (fSeq (sSet 4 (fCall (Phi .l_state) (fCons (fVar 0) (fCons (fVar 2) fNil))))
    (fSeq (sSetM 5 (fCall (Phi .going) (fCons (fVar 0) (fCons (fVar 4) (fCons (fVar 3) fNil)))))
    (fSeq (sIf (fT (f2 oIs (fOpd 5) (fCon .none))) (sRet (f2 oEq (fLc (wLst (fCall (Phi .reached) (fCons (fVar 0) (fCons (fVar 4) fNil)))) (gfN 6) (fT (f2 oEq (fCall (Phi .is_met) (fCons (fVar 6) fNil)) (fOpd 3))) (fVar 6) [6]) (fLst fNil))) fNext)
    (fSeq (sIf (gOr (gNot (fT (f1 (oIsi "list") (fOpd 5)))) (fT (f2 oNe (fLcO 5 (gfN 7) (fT (f2 (oIn true) (fOpd 7) (f1 (oFld "marks") (fOpd 0)))) (fVar 7) [7]) (fLst fNil)))) (sRet (fCon (.bool false))) fNext)
    (fSeq (sIf (gOr (fT (f2 oNe (fCall (Phi .l_holds) (fCons (fVar 1) (fCons (f2 oAdd (fOpd 2) (fOpd 5)) fNil))) (fOpd 3))) (gNot (fT (fCallO (Phi .l_first) (fCons (fOpd 1) (fCons (fOpd 2) (fCons (f1 (oFld "marks") (fOpd 0)) (fCons (fOpd 5) (fCons (fOpd 3) fNil))))))))) (sRet (fCon (.bool false))) fNext)
    (fSeq (sApp 5 (fCon (.str "more")))
    (sRet (f2 oEq (fCall (Phi .going) (fCons (fVar 0) (fCons (fVar 4) (fCons (fVar 3) fNil)))) (fSl (fOpd 5) fiNo (fiSm (f1 oNeg (fCon (.int 1)))))))))))))
def f_l_fields (Phi : Nm → List D → Option Rs) : Fs :=
    (sRet (fLst (fCons (fB oList (fCons (f1 (oFld "wishes") (fOpd 0)) fNil)) (fCons (fB oList (fCons (f1 (oFld "pasts") (fOpd 0)) fNil)) (fCons (fB oList (fCons (f1 (oFld "marks") (fOpd 0)) fNil)) (fCons (fB oList (fCons (f1 (oFld "weights") (fOpd 0)) fNil)) fNil))))))
def f_law (Phi : Nm → List D → Option Rs) (psi_ : D → Option D) : Fs :=
    (fSeq (sSet 1 (fCall (Phi .l_names) (fCons (fCall (Phi .l_cell_at) (fCons (fVar 0) (fCons (fCon (.int 0)) fNil))) fNil)))
    (fSeq (sSet 2 (fCall (Phi .l_built) (fCons (fVar 0) (fCons (fVar 1) (fCons (fCon (.int 3)) fNil)))))
    (fSeq (sSet 3 (fMake psi_ (fCons (fVar 2) fNil)))
    (fSeq (sSet 4 (fCall (Phi .l_run) (fCons (fVar 0) (fCons (fCon (.int 3)) (fCons (fVar 1) (fCons (f2 oMod (f2 oDiv (fCall (Phi .l_cell_at) (fCons (fVar 0) (fCons (fCon (.int 1)) fNil))) (fCon (.int 8))) (fCon (.int 7))) fNil))))))
    (fSeq (sSet 5 (fCall (Phi .l_fields) (fCons (fVar 3) fNil)))
    (fSeq (sIf (gOr (gNot (fT (fCall (Phi .l_way) (fCons (fVar 3) (fCons (fVar 2) (fCons (fVar 4) (fCons (fCon (.bool true)) fNil))))))) (gNot (fT (fCall (Phi .l_way) (fCons (fVar 3) (fCons (fVar 2) (fCons (fVar 4) (fCons (fCon (.bool false)) fNil)))))))) (sRet (fCon (.bool false))) fNext)
    (sRet (f2 oEq (fCall (Phi .l_fields) (fCons (fVar 3) fNil)) (fOpd 5)))))))))
def Phi : Nat → Nm → List D → Option Rs
  | 0 => fun _ _ => none
  | n + 1 => fun i => match i with
    | .parts_of => runF 1 2 (f_parts_of (Phi n))
    | .wished => runF 1 3 (f_wished (Phi n))
    | .wishes_in => runF 1 4 (f_wishes_in (Phi n))
    | .pasts_in => runF 1 4 (f_pasts_in (Phi n))
    | .marks_in => runF 1 3 (f_marks_in (Phi n))
    | .Plan_has => runF 3 3 (f_Plan_has (Phi n))
    | .Plan_kept => runF 3 3 (f_Plan_kept (Phi n))
    | .is_so => runF 5 8 (f_is_so (Phi n))
    | .kept_behind => runF 3 5 (f_kept_behind (Phi n))
    | .begun => runF 1 4 (f_begun (Phi n))
    | .stepped => runF 3 10 (f_stepped (Phi n))
    | .is_met => runF 1 1 (f_is_met (Phi n))
    | .reached => runF 2 6 (f_reached (Phi n))
    | .going => runNw 3 10 (f_going (Phi n))
    | .l_cell_at => runF 2 2 (f_l_cell_at (Phi n))
    | .l_names => runF 1 9 (f_l_names (Phi n))
    | .l_all => runF 1 3 (f_l_all (Phi n))
    | .l_wishes => runF 1 6 (f_l_wishes (Phi n))
    | .l_fit => runF 2 2 (f_l_fit (Phi n))
    | .l_until => runF 2 6 (f_l_until (Phi n))
    | .l_means => runF 2 9 (f_l_means (Phi n))
    | .l_run => runF 4 6 (f_l_run (Phi n))
    | .l_built => runF 3 5 (f_l_built (Phi n) (Psi n))
    | .l_state => runF 2 4 (f_l_state (Phi n))
    | .l_longer => runF 2 5 (f_l_longer (Phi n))
    | .l_holds => runF 2 2 (f_l_holds (Phi n))
    | .l_first => runF 5 8 (f_l_first (Phi n))
    | .l_way => runF 4 8 (f_l_way (Phi n))
    | .l_fields => runF 1 1 (f_l_fields (Phi n))
    | .l_draw => fun _ => none
    | .l_made => fun _ => none
theorem phi_parts_of (n : Nat) : Phi (n + 1) .parts_of = runF 1 2 (f_parts_of (Phi n)) := rfl
theorem phi_wished (n : Nat) : Phi (n + 1) .wished = runF 1 3 (f_wished (Phi n)) := rfl
theorem phi_wishes_in (n : Nat) : Phi (n + 1) .wishes_in = runF 1 4 (f_wishes_in (Phi n)) := rfl
theorem phi_pasts_in (n : Nat) : Phi (n + 1) .pasts_in = runF 1 4 (f_pasts_in (Phi n)) := rfl
theorem phi_marks_in (n : Nat) : Phi (n + 1) .marks_in = runF 1 3 (f_marks_in (Phi n)) := rfl
theorem phi_Plan_has (n : Nat) : Phi (n + 1) .Plan_has = runF 3 3 (f_Plan_has (Phi n)) := rfl
theorem phi_Plan_kept (n : Nat) : Phi (n + 1) .Plan_kept = runF 3 3 (f_Plan_kept (Phi n)) := rfl
theorem phi_is_so (n : Nat) : Phi (n + 1) .is_so = runF 5 8 (f_is_so (Phi n)) := rfl
theorem phi_kept_behind (n : Nat) : Phi (n + 1) .kept_behind = runF 3 5 (f_kept_behind (Phi n)) := rfl
theorem phi_begun (n : Nat) : Phi (n + 1) .begun = runF 1 4 (f_begun (Phi n)) := rfl
theorem phi_stepped (n : Nat) : Phi (n + 1) .stepped = runF 3 10 (f_stepped (Phi n)) := rfl
theorem phi_is_met (n : Nat) : Phi (n + 1) .is_met = runF 1 1 (f_is_met (Phi n)) := rfl
theorem phi_reached (n : Nat) : Phi (n + 1) .reached = runF 2 6 (f_reached (Phi n)) := rfl
theorem phi_going (n : Nat) : Phi (n + 1) .going = runNw 3 10 (f_going (Phi n)) := rfl
theorem phi_l_cell_at (n : Nat) : Phi (n + 1) .l_cell_at = runF 2 2 (f_l_cell_at (Phi n)) := rfl
theorem phi_l_names (n : Nat) : Phi (n + 1) .l_names = runF 1 9 (f_l_names (Phi n)) := rfl
theorem phi_l_all (n : Nat) : Phi (n + 1) .l_all = runF 1 3 (f_l_all (Phi n)) := rfl
theorem phi_l_wishes (n : Nat) : Phi (n + 1) .l_wishes = runF 1 6 (f_l_wishes (Phi n)) := rfl
theorem phi_l_fit (n : Nat) : Phi (n + 1) .l_fit = runF 2 2 (f_l_fit (Phi n)) := rfl
theorem phi_l_until (n : Nat) : Phi (n + 1) .l_until = runF 2 6 (f_l_until (Phi n)) := rfl
theorem phi_l_means (n : Nat) : Phi (n + 1) .l_means = runF 2 9 (f_l_means (Phi n)) := rfl
theorem phi_l_run (n : Nat) : Phi (n + 1) .l_run = runF 4 6 (f_l_run (Phi n)) := rfl
theorem phi_l_built (n : Nat) : Phi (n + 1) .l_built = runF 3 5 (f_l_built (Phi n) (Psi n)) := rfl
theorem phi_l_state (n : Nat) : Phi (n + 1) .l_state = runF 2 4 (f_l_state (Phi n)) := rfl
theorem phi_l_longer (n : Nat) : Phi (n + 1) .l_longer = runF 2 5 (f_l_longer (Phi n)) := rfl
theorem phi_l_holds (n : Nat) : Phi (n + 1) .l_holds = runF 2 2 (f_l_holds (Phi n)) := rfl
theorem phi_l_first (n : Nat) : Phi (n + 1) .l_first = runF 5 8 (f_l_first (Phi n)) := rfl
theorem phi_l_way (n : Nat) : Phi (n + 1) .l_way = runF 4 8 (f_l_way (Phi n)) := rfl
theorem phi_l_fields (n : Nat) : Phi (n + 1) .l_fields = runF 1 1 (f_l_fields (Phi n)) := rfl
/-- the plan of a statement, calls at level n -/
def plT (n : Nat) : D → Option D := initT (Phi n .wishes_in) (Phi n .pasts_in) (Phi n .marks_in)
/-- a def whose result is a new list -/
def frs : Nm → Bool
  | .reached => true
  | .going => true
  | _ => false
structure ZZ (mg : Str → Option Value) : Prop where
  len : mg "len" = none
  isinstance : mg "isinstance" = none
  tuple : mg "tuple" = none
  sorted : mg "sorted" = none
  set : mg "set" = none
  range : mg "range" = none
  enumerate : mg "enumerate" = none
  zip : mg "zip" = none
  int : mg "int" = none
  list : mg "list" = none
section
variable {P : Program} {w : World} {K : PySem.W.Frag} {mg : Str → Option Value} {base : Heap} {M : Pm} {Cc fI : Addr} {fdI : FuncData} {fa : Nm → Addr} {fdd : Nm → FuncData} {Phi : Nm → List D → Option Rs} {Psy : Nx → Phx} {psi_ : D → Option D} {j ji k : Nat}
theorem d_l_draw (D : DD K mg Cc fa fdd) (Z : ZZ mg) (CP_ : CP K mg M Cc) (OX : ∀ i : Nx, FnOk P w K mg base (L2.CX P w) j (fa i.n) (fdd i.n) (psN i.n) (spS K M (Psy i))) (hk : j ≤ k) (cdv : Value) (A : Around) (outer : List Env) (s : Shared) (H : Hp) (E : XK) (C : CxF K (cxOf (L2.CX P w) P w K mg base N_l_draw (qlS .l_draw) (defScope s_l_draw) (fa .l_draw) cdv A outer s H E) E k)
    (tk : Takes (cxOf (L2.CX P w) P w K mg base N_l_draw (qlS .l_draw) (defScope s_l_draw) (fa .l_draw) cdv A outer s H E) (fun cls d _ H => E cls d H)) : ∃ t, JXB K (cxOf (L2.CX P w) P w K mg base N_l_draw (qlS .l_draw) (defScope s_l_draw) (fa .l_draw) cdv A outer s H E) M 1 (defBody s_l_draw) t (f_l_draw Psy) := ⟨_,
    (xb_cons (xs_put (E := E) (JE.f2c (je_add C (JE.c2o (je_ix C (jo_var (i := 1)) (JE.c2o je_int))) (JE.c2o je_int))) (JE.pe (K := K) (M := M) (E := E) (jo_var (i := 1))) (JE.c2o je_int))
    (xb_cons (xs_set (j := 2) C.nd (xe_of (E := E) (je_sub (JE.c2o (je_ix C (jo_var (i := 1)) (JE.c2o je_int))) (JE.c2o je_int))))
    (xb_cons (xs_if (E := E) (jt_lt (jo_var (i := 2)) (JE.c2o (je_len C Z.len (by rfl) (jo_var (i := 0))))) (xb_one (xs_ret (xe_of (E := E) (je_ix C (jo_var (i := 0)) (jo_var (i := 2)))))) xb_nil)
    (xb_cons (xs_if (E := E) (JW.jt (jw_and (jt_gt (JE.c2o (je_len C Z.len (by rfl) (jo_var (i := 0)))) (JE.c2o je_int)) (jw_and1 (jt_lt (jo_var (i := 2)) (JE.c2o je_int))))) (xb_one (xs_ret (xe_of (E := E) (je_mod (JE.c2o (je_mul (JE.f2o (je_add C (JE.c2o (je_ix C (jo_var (i := 0)) (JE.c2o (je_mod (jo_var (i := 2)) (JE.c2o (je_len C Z.len (by rfl) (jo_var (i := 0)))))))) (JE.c2o (je_mul (JE.c2o je_int) (jo_var (i := 2)))))) (JE.c2o je_int))) (JE.c2o je_int))))) xb_nil)
    (xb_one (xs_ret (xe_of (E := E) je_int)))))))⟩
theorem d_l_made (D : DD K mg Cc fa fdd) (Z : ZZ mg) (CP_ : CP K mg M Cc) (OX : ∀ i : Nx, FnOk P w K mg base (L2.CX P w) j (fa i.n) (fdd i.n) (psN i.n) (spS K M (Psy i))) (hk : j ≤ k) (cdv : Value) (A : Around) (outer : List Env) (s : Shared) (H : Hp) (E : XK) (C : CxF K (cxOf (L2.CX P w) P w K mg base N_l_made (qlS .l_made) (defScope s_l_made) (fa .l_made) cdv A outer s H E) E k)
    (tk : Takes (cxOf (L2.CX P w) P w K mg base N_l_made (qlS .l_made) (defScope s_l_made) (fa .l_made) cdv A outer s H E) (fun cls d _ H => E cls d H)) : ∃ t, JXB K (cxOf (L2.CX P w) P w K mg base N_l_made (qlS .l_made) (defScope s_l_made) (fa .l_made) cdv A outer s H E) M 1 (defBody s_l_made) t (f_l_made Psy) := ⟨_,
    (xb_cons (xs_set (j := 5) C.nd (xe_call C (OX .l_draw) hk (D.d .l_draw).b (D.d .l_draw).m_l_draw (D.d .l_draw).F.kp  (by rfl) (je_var (i := 0)) (JE.pe (K := K) (M := M) (E := E) (jo_var (i := 1))) jc_nil))
    (xb_cons (xs_set (j := 6) C.nd (xe_of (E := E) (je_div (jo_var (i := 5)) (JE.c2o je_int))))
    (xb_cons (xs_if (E := E) (JW.jt (jw_or (jt_lt (jo_var (i := 3)) (JE.c2o je_int)) (jw_or1 (jt_lt (JE.c2o (je_mod (jo_var (i := 5)) (JE.c2o je_int))) (JE.c2o je_int))))) (xb_cons (xs_if (E := E) (jt_eq C (JE.c2o (je_mod (jo_var (i := 6)) (JE.c2o je_int))) (JE.c2o je_int)) (xb_one (xs_ret (xe_of (E := E) (je_tup (jc_cons je_str jc_nil))))) xb_nil)
    (xb_one (xs_ret (xe_of (E := E) (je_tup (jc_cons je_str (jc_cons (je_ix C (jo_var (i := 2)) (JE.c2o (je_mod (jo_var (i := 6)) (JE.c2o je_int)))) jc_nil))))))) xb_nil)
    (xb_cons (xs_set (j := 7) C.nd (xe_of (E := E) je_str))
    (xb_cons (xs_if (E := E) (jt_val (je_var (i := 4))) (xb_one (xs_set (j := 7) C.nd (xe_of (E := E) je_str))) xb_nil)
    (xb_cons (xs_set (j := 8) C.nd (xe_of (E := E) (je_ix C (JE.f2o (je_split (jo_var (i := 7)) (JE.c2o je_str))) (JE.c2o (je_sub (JE.c2o (je_mod (jo_var (i := 5)) (JE.c2o je_int))) (JE.c2o je_int))))))
    (xb_cons (xs_set (j := 4) C.nd (xe_of (E := E) (je_and (je_var (i := 4)) (je_one (je_ni C (jo_var (i := 8)) (JE.c2o (je_tup (jc_cons je_str (jc_cons je_str jc_nil)))))))))
    (xb_cons (xs_set (j := 9) C.nd (xe_call C (OX .l_made) hk (D.d .l_made).b (D.d .l_made).m_l_made (D.d .l_made).F.kp  (by rfl) (je_var (i := 0)) (JE.pe (K := K) (M := M) (E := E) (jo_var (i := 1))) (jc_cons (je_var (i := 2)) (jc_cons (je_sub (jo_var (i := 3)) (JE.c2o je_int)) (jc_cons (je_var (i := 4)) jc_nil)))))
    (xb_cons (xs_if (E := E) (jt_eq C (jo_var (i := 8)) (JE.c2o je_str)) (xb_one (xs_ret (xe_of (E := E) (je_tup (jc_cons (je_var (i := 8)) (jc_cons (je_ix C (JE.f2o (je_lst (jc_cons je_int (jc_cons je_int (jc_cons je_int (jc_cons je_int (jc_cons (je_mod (JE.c2o (je_div (jo_var (i := 6)) (JE.c2o je_int))) (JE.c2o je_int)) jc_nil))))))) (JE.c2o (je_mod (jo_var (i := 6)) (JE.c2o je_int)))) (jc_cons (je_var (i := 9)) jc_nil))))))) xb_nil)
    (xb_cons (xs_if (E := E) (jt_in C (jo_var (i := 8)) (JE.c2o (je_tup (jc_cons je_str (jc_cons je_str (jc_cons je_str jc_nil)))))) (xb_one (xs_ret (xe_of (E := E) (je_tup (jc_cons (je_var (i := 8)) (jc_cons (je_var (i := 9)) jc_nil)))))) xb_nil)
    (xb_one (xs_ret (xe_tup (xa_cons (xe_of (E := E) (je_var (i := 8))) (xa_cons (xe_of (E := E) (je_var (i := 9))) (xa_cons (xe_call C (OX .l_made) hk (D.d .l_made).b (D.d .l_made).m_l_made (D.d .l_made).F.kp  (by rfl) (je_var (i := 0)) (JE.pe (K := K) (M := M) (E := E) (jo_var (i := 1))) (jc_cons (je_var (i := 2)) (jc_cons (je_sub (jo_var (i := 3)) (JE.c2o je_int)) (jc_cons (je_var (i := 4)) jc_nil)))) xa_nil))))))))))))))))⟩
theorem d_parts_of (D : DD K mg Cc fa fdd) (Z : ZZ mg) (CP_ : CP K mg M Cc) (OK : ∀ i : Nm, FnOk P w K mg base (L2.CX P w) j (fa i) (fdd i) (psN i) (spF K M (Phi i))) (hk : j ≤ k) (cdv : Value) (A : Around) (outer : List Env) (s : Shared) (H : Hp) (E : XK) (C : CxF K (cxOf (L2.CX P w) P w K mg base N_parts_of (qlS .parts_of) (defScope s_parts_of) (fa .parts_of) cdv A outer s H E) E k)
    (tk : Takes (cxOf (L2.CX P w) P w K mg base N_parts_of (qlS .parts_of) (defScope s_parts_of) (fa .parts_of) cdv A outer s H E) (fun cls d _ H => E cls d H)) : ∃ t, JB K (cxOf (L2.CX P w) P w K mg base N_parts_of (qlS .parts_of) (defScope s_parts_of) (fa .parts_of) cdv A outer s H E) M E (defBody s_parts_of) t (f_parts_of Phi) := ⟨_,
    (jb_one (js_ret (JE.f2c (je_lc (own := [("part", 1)]) C (ji_tup C (JE.f2c (je_slice C (jo_var (i := 0)) (ji_sm (JE.c2o je_int)) ji_no))) (blkOk_by (N := N_parts_of) (sc := defScope s_parts_of) (by decide +kernel)) (by exact fun s1 H1 Cc1 cl1 fp1 => (jg_name (i := 1) (CxF.blk C s1 H1 _ (compEnvC _ cl1 Cc1 _) fp1).nd)) (by exact fun s1 H1 Cc1 cl1 fp1 => (jts_one (jt_val (je_isi (T := "tuple") (CxF.blk C s1 H1 _ (compEnvC _ cl1 Cc1 _) fp1) Z.isinstance (by rfl) Z.tuple (by rfl) (by decide +kernel) (by decide) (jo_var (i := 1)))))) (by exact fun s1 H1 Cc1 cl1 fp1 => (je_var (i := 1)))))))⟩
theorem d_wished (D : DD K mg Cc fa fdd) (Z : ZZ mg) (CP_ : CP K mg M Cc) (OK : ∀ i : Nm, FnOk P w K mg base (L2.CX P w) j (fa i) (fdd i) (psN i) (spF K M (Phi i))) (hk : j ≤ k) (cdv : Value) (A : Around) (outer : List Env) (s : Shared) (H : Hp) (E : XK) (C : CxF K (cxOf (L2.CX P w) P w K mg base N_wished (qlS .wished) (defScope s_wished) (fa .wished) cdv A outer s H E) E k)
    (tk : Takes (cxOf (L2.CX P w) P w K mg base N_wished (qlS .wished) (defScope s_wished) (fa .wished) cdv A outer s H E) (fun cls d _ H => E cls d H)) : ∃ t, JB K (cxOf (L2.CX P w) P w K mg base N_wished (qlS .wished) (defScope s_wished) (fa .wished) cdv A outer s H E) M E (defBody s_wished) t (f_wished Phi) := ⟨_,
    (jb_cons (js_setO (i := 1) C.nd (je_lst jc_nil))
    (jb_cons (js_for C (ji_list C (je_call C (OK .parts_of) hk (D.d .parts_of).b (D.d .parts_of).m_parts_of (D.d .parts_of).F.kp  (by rfl) (jc_cons (je_var (i := 0)) jc_nil))) (jg_name (i := 2) C.nd) (jb_one (js_if (jt_ne C (JE.c2o (je_ix C (jo_var (i := 0)) (JE.c2o je_int))) (JE.c2o je_str)) (jb_one (js_setO (i := 1) C.nd (je_add C (jo_var (i := 1)) (JE.c2o (je_call C (OK .wished) hk (D.d .wished).b (D.d .wished).m_wished (D.d .wished).F.kp  (by rfl) (jc_cons (je_var (i := 2)) jc_nil)))))) jb_nil)))
    (jb_cons (js_if (jt_eq C (JE.c2o (je_ix C (jo_var (i := 0)) (JE.c2o je_int))) (JE.c2o je_str)) (jb_one (js_setO (i := 1) C.nd (je_lst (jc_cons (je_ix C (jo_var (i := 0)) (JE.c2o je_int)) jc_nil)))) (jb_one (js_if (jt_eq C (JE.c2o (je_ix C (jo_var (i := 0)) (JE.c2o je_int))) (JE.c2o je_str)) (jb_one (js_appX (i := 1) C (jo_var (i := 1)) (je_var (i := 0)))) (jb_one (js_if (JW.jt (jw_and (jt_eq C (JE.c2o (je_ix C (jo_var (i := 0)) (JE.c2o je_int))) (JE.c2o je_str)) (jw_and1 (jt_gt (JE.c2o (je_ix C (jo_var (i := 0)) (JE.c2o je_int))) (JE.c2o je_int))))) (jb_one (js_appX (i := 1) C (jo_var (i := 1)) (je_tup (jc_cons je_str (jc_cons (je_sub (JE.c2o (je_ix C (jo_var (i := 0)) (JE.c2o je_int))) (JE.c2o je_int)) (jc_cons (je_ix C (jo_var (i := 0)) (JE.c2o je_int)) jc_nil)))))) jb_nil)))))
    (jb_one (js_retV (jo_var (i := 1)))))))⟩
theorem d_wishes_in (D : DD K mg Cc fa fdd) (Z : ZZ mg) (CP_ : CP K mg M Cc) (OK : ∀ i : Nm, FnOk P w K mg base (L2.CX P w) j (fa i) (fdd i) (psN i) (spF K M (Phi i))) (hk : j ≤ k) (cdv : Value) (A : Around) (outer : List Env) (s : Shared) (H : Hp) (E : XK) (C : CxF K (cxOf (L2.CX P w) P w K mg base N_wishes_in (qlS .wishes_in) (defScope s_wishes_in) (fa .wishes_in) cdv A outer s H E) E k)
    (tk : Takes (cxOf (L2.CX P w) P w K mg base N_wishes_in (qlS .wishes_in) (defScope s_wishes_in) (fa .wishes_in) cdv A outer s H E) (fun cls d _ H => E cls d H)) : ∃ t, JB K (cxOf (L2.CX P w) P w K mg base N_wishes_in (qlS .wishes_in) (defScope s_wishes_in) (fa .wishes_in) cdv A outer s H E) M E (defBody s_wishes_in) t (f_wishes_in Phi) := ⟨_,
    (jb_cons (js_setO (i := 1) C.nd (je_lst (jc_cons (je_var (i := 0)) jc_nil)))
    (jb_cons (js_set (i := 2) C.nd je_int)
    (jb_cons (js_wh C (jt_lt (jo_var (i := 2)) (JE.c2o (je_len C Z.len (by rfl) (jo_var (i := 1))))) (jb_cons (js_for C (ji_list C (je_call C (OK .wished) hk (D.d .wished).b (D.d .wished).m_wished (D.d .wished).F.kp  (by rfl) (jc_cons (je_ix C (jo_var (i := 1)) (jo_var (i := 2))) jc_nil))) (jg_name (i := 3) C.nd) (jb_one (js_if (jt_ni C (jo_var (i := 3)) (jo_var (i := 1))) (jb_one (js_appX (i := 1) C (jo_var (i := 1)) (je_var (i := 3)))) jb_nil)))
    (jb_one (js_set (i := 2) C.nd (JE.f2c (je_add C (jo_var (i := 2)) (JE.c2o je_int)))))))
    (jb_one (js_retV (jo_var (i := 1)))))))⟩
theorem d_pasts_in (D : DD K mg Cc fa fdd) (Z : ZZ mg) (CP_ : CP K mg M Cc) (OK : ∀ i : Nm, FnOk P w K mg base (L2.CX P w) j (fa i) (fdd i) (psN i) (spF K M (Phi i))) (hk : j ≤ k) (cdv : Value) (A : Around) (outer : List Env) (s : Shared) (H : Hp) (E : XK) (C : CxF K (cxOf (L2.CX P w) P w K mg base N_pasts_in (qlS .pasts_in) (defScope s_pasts_in) (fa .pasts_in) cdv A outer s H E) E k)
    (tk : Takes (cxOf (L2.CX P w) P w K mg base N_pasts_in (qlS .pasts_in) (defScope s_pasts_in) (fa .pasts_in) cdv A outer s H E) (fun cls d _ H => E cls d H)) : ∃ t, JB K (cxOf (L2.CX P w) P w K mg base N_pasts_in (qlS .pasts_in) (defScope s_pasts_in) (fa .pasts_in) cdv A outer s H E) M E (defBody s_pasts_in) t (f_pasts_in Phi) := ⟨_,
    (jb_cons (js_setO (i := 1) C.nd (je_lst jc_nil))
    (jb_cons (js_for C (ji_list C (je_call C (OK .parts_of) hk (D.d .parts_of).b (D.d .parts_of).m_parts_of (D.d .parts_of).F.kp  (by rfl) (jc_cons (je_var (i := 0)) jc_nil))) (jg_name (i := 2) C.nd) (jb_one (js_for C (ji_list C (je_call C (OK .pasts_in) hk (D.d .pasts_in).b (D.d .pasts_in).m_pasts_in (D.d .pasts_in).F.kp  (by rfl) (jc_cons (je_var (i := 2)) jc_nil))) (jg_name (i := 3) C.nd) (jb_one (js_if (jt_ni C (jo_var (i := 3)) (jo_var (i := 1))) (jb_one (js_appX (i := 1) C (jo_var (i := 1)) (je_var (i := 3)))) jb_nil)))))
    (jb_cons (js_if (JW.jt (jw_and (jt_in C (JE.c2o (je_ix C (jo_var (i := 0)) (JE.c2o je_int))) (JE.c2o (je_tup (jc_cons je_str (jc_cons je_str jc_nil))))) (jw_and1 (jt_ni C (jo_var (i := 0)) (jo_var (i := 1)))))) (jb_one (js_appX (i := 1) C (jo_var (i := 1)) (je_var (i := 0)))) jb_nil)
    (jb_one (js_retV (jo_var (i := 1)))))))⟩
theorem d_marks_in (D : DD K mg Cc fa fdd) (Z : ZZ mg) (CP_ : CP K mg M Cc) (OK : ∀ i : Nm, FnOk P w K mg base (L2.CX P w) j (fa i) (fdd i) (psN i) (spF K M (Phi i))) (hk : j ≤ k) (cdv : Value) (A : Around) (outer : List Env) (s : Shared) (H : Hp) (E : XK) (C : CxF K (cxOf (L2.CX P w) P w K mg base N_marks_in (qlS .marks_in) (defScope s_marks_in) (fa .marks_in) cdv A outer s H E) E k)
    (tk : Takes (cxOf (L2.CX P w) P w K mg base N_marks_in (qlS .marks_in) (defScope s_marks_in) (fa .marks_in) cdv A outer s H E) (fun cls d _ H => E cls d H)) : ∃ t, JB K (cxOf (L2.CX P w) P w K mg base N_marks_in (qlS .marks_in) (defScope s_marks_in) (fa .marks_in) cdv A outer s H E) M E (defBody s_marks_in) t (f_marks_in Phi) := ⟨_,
    (jb_cons (js_if (jt_eq C (JE.c2o (je_ix C (jo_var (i := 0)) (JE.c2o je_int))) (JE.c2o je_str)) (jb_one (js_ret (JE.f2c (je_lst (jc_cons je_str (jc_cons (je_ix C (jo_var (i := 0)) (JE.c2o je_int)) jc_nil)))))) jb_nil)
    (jb_cons (js_set (i := 1) C.nd (JE.f2c (je_lst (jc_cons je_str jc_nil))))
    (jb_cons (js_for C (ji_list C (je_call C (OK .parts_of) hk (D.d .parts_of).b (D.d .parts_of).m_parts_of (D.d .parts_of).F.kp  (by rfl) (jc_cons (je_var (i := 0)) jc_nil))) (jg_name (i := 2) C.nd) (jb_one (js_set (i := 1) C.nd (JE.f2c (je_sortset C Z.sorted (by rfl) Z.set (by rfl) (JE.f2o (je_add C (jo_var (i := 1)) (JE.c2o (je_call C (OK .marks_in) hk (D.d .marks_in).b (D.d .marks_in).m_marks_in (D.d .marks_in).F.kp  (by rfl) (jc_cons (je_var (i := 2)) jc_nil))))))))))
    (jb_one (js_ret (je_var (i := 1)))))))⟩
theorem d_Plan_has (D : DD K mg Cc fa fdd) (Z : ZZ mg) (CP_ : CP K mg M Cc) (OK : ∀ i : Nm, FnOk P w K mg base (L2.CX P w) j (fa i) (fdd i) (psN i) (spF K M (Phi i))) (hk : j ≤ k) (cdv : Value) (A : Around) (outer : List Env) (s : Shared) (H : Hp) (E : XK) (C : CxF K (cxOf (L2.CX P w) P w K mg base N_Plan_has (qlS .Plan_has) (defScope s_Plan_has) (fa .Plan_has) cdv A outer s H E) E k)
    (tk : Takes (cxOf (L2.CX P w) P w K mg base N_Plan_has (qlS .Plan_has) (defScope s_Plan_has) (fa .Plan_has) cdv A outer s H E) (fun cls d _ H => E cls d H)) : ∃ t, JB K (cxOf (L2.CX P w) P w K mg base N_Plan_has (qlS .Plan_has) (defScope s_Plan_has) (fa .Plan_has) cdv A outer s H E) M E (defBody s_Plan_has) t (f_Plan_has Phi) := ⟨_,
    (jb_one (js_ret (je_eq C (JE.c2o (je_mod (JE.c2o (je_div (jo_var (i := 1)) (JE.c2o (je_ix C (JE.c2o (je_fld C CP_ (jo_var (i := 0)))) (JE.c2o (je_index C (JE.c2o (je_fld C CP_ (jo_var (i := 0)))) (jo_var (i := 2)))))))) (JE.c2o je_int))) (JE.c2o je_int))))⟩
theorem d_Plan_kept (D : DD K mg Cc fa fdd) (Z : ZZ mg) (CP_ : CP K mg M Cc) (OK : ∀ i : Nm, FnOk P w K mg base (L2.CX P w) j (fa i) (fdd i) (psN i) (spF K M (Phi i))) (hk : j ≤ k) (cdv : Value) (A : Around) (outer : List Env) (s : Shared) (H : Hp) (E : XK) (C : CxF K (cxOf (L2.CX P w) P w K mg base N_Plan_kept (qlS .Plan_kept) (defScope s_Plan_kept) (fa .Plan_kept) cdv A outer s H E) E k)
    (tk : Takes (cxOf (L2.CX P w) P w K mg base N_Plan_kept (qlS .Plan_kept) (defScope s_Plan_kept) (fa .Plan_kept) cdv A outer s H E) (fun cls d _ H => E cls d H)) : ∃ t, JB K (cxOf (L2.CX P w) P w K mg base N_Plan_kept (qlS .Plan_kept) (defScope s_Plan_kept) (fa .Plan_kept) cdv A outer s H E) M E (defBody s_Plan_kept) t (f_Plan_kept Phi) := ⟨_,
    (jb_one (js_ret (je_ix C (jo_var (i := 1)) (JE.c2o (je_index C (JE.c2o (je_fld C CP_ (jo_var (i := 0)))) (jo_var (i := 2)))))))⟩
theorem d_is_so (D : DD K mg Cc fa fdd) (Z : ZZ mg) (CP_ : CP K mg M Cc) (OK : ∀ i : Nm, FnOk P w K mg base (L2.CX P w) j (fa i) (fdd i) (psN i) (spF K M (Phi i))) (hk : j ≤ k) (cdv : Value) (A : Around) (outer : List Env) (s : Shared) (H : Hp) (E : XK) (C : CxF K (cxOf (L2.CX P w) P w K mg base N_is_so (qlS .is_so) (defScope s_is_so) (fa .is_so) cdv A outer s H E) E k)
    (tk : Takes (cxOf (L2.CX P w) P w K mg base N_is_so (qlS .is_so) (defScope s_is_so) (fa .is_so) cdv A outer s H E) (fun cls d _ H => E cls d H)) : ∃ t, JB K (cxOf (L2.CX P w) P w K mg base N_is_so (qlS .is_so) (defScope s_is_so) (fa .is_so) cdv A outer s H E) M E (defBody s_is_so) t (f_is_so Phi) := ⟨_,
    (jb_cons (js_set (i := 5) C.nd (je_ix C (jo_var (i := 1)) (JE.c2o je_int)))
    (jb_cons (js_if (jt_eq C (jo_var (i := 5)) (JE.c2o je_str)) (jb_one (js_ret (je_eq C (jo_var (i := 2)) (JE.c2o (je_ix C (jo_var (i := 1)) (JE.c2o je_int)))))) jb_nil)
    (jb_cons (js_if (jt_eq C (jo_var (i := 5)) (JE.c2o je_str)) (jb_one (js_ret je_bl)) jb_nil)
    (jb_cons (js_if (jt_eq C (jo_var (i := 5)) (JE.c2o je_str)) (jb_one (js_ret (je_meth C CP_ D.mt_Plan_has (by decide) (OK .Plan_has) hk (D.d .Plan_has).b (jo_var (i := 0)) (jc_cons (je_var (i := 4)) (jc_cons (je_ix C (jo_var (i := 1)) (JE.c2o je_int)) jc_nil))))) jb_nil)
    (jb_cons (js_if (jt_eq C (jo_var (i := 5)) (JE.c2o je_str)) (jb_one (js_ret (je_meth C CP_ D.mt_Plan_kept (by decide) (OK .Plan_kept) hk (D.d .Plan_kept).b (jo_var (i := 0)) (jc_cons (je_var (i := 3)) (jc_cons (je_var (i := 1)) jc_nil))))) jb_nil)
    (jb_cons (js_if (jt_eq C (jo_var (i := 5)) (JE.c2o je_str)) (jb_one (js_ret (je_not (je_call C (OK .is_so) hk (D.d .is_so).b (D.d .is_so).m_is_so (D.d .is_so).F.kp  (by rfl) (jc_cons (je_var (i := 0)) (jc_cons (je_ix C (jo_var (i := 1)) (JE.c2o je_int)) (jc_cons (je_var (i := 2)) (jc_cons (je_var (i := 3)) (jc_cons (je_var (i := 4)) jc_nil))))))))) jb_nil)
    (jb_cons (js_if (jt_eq C (jo_var (i := 5)) (JE.c2o je_str)) (jb_cons (js_if (JW.jt (jw_and (jt_gt (JE.c2o (je_ix C (jo_var (i := 1)) (JE.c2o je_int))) (JE.c2o je_int)) (jw_and1 (jt_val (je_meth C CP_ D.mt_Plan_has (by decide) (OK .Plan_has) hk (D.d .Plan_has).b (jo_var (i := 0)) (jc_cons (je_var (i := 4)) (jc_cons (je_tup (jc_cons je_str (jc_cons (je_sub (JE.c2o (je_ix C (jo_var (i := 1)) (JE.c2o je_int))) (JE.c2o je_int)) (jc_cons (je_ix C (jo_var (i := 1)) (JE.c2o je_int)) jc_nil)))) jc_nil))))))) (jb_one (js_ret je_bl)) jb_nil)
    (jb_one (js_ret (je_call C (OK .is_so) hk (D.d .is_so).b (D.d .is_so).m_is_so (D.d .is_so).F.kp  (by rfl) (jc_cons (je_var (i := 0)) (jc_cons (je_ix C (jo_var (i := 1)) (JE.c2o je_int)) (jc_cons (je_var (i := 2)) (jc_cons (je_var (i := 3)) (jc_cons (je_var (i := 4)) jc_nil))))))))) jb_nil)
    (jb_cons (js_set (i := 6) C.nd (je_call C (OK .is_so) hk (D.d .is_so).b (D.d .is_so).m_is_so (D.d .is_so).F.kp  (by rfl) (jc_cons (je_var (i := 0)) (jc_cons (je_ix C (jo_var (i := 1)) (JE.c2o je_int)) (jc_cons (je_var (i := 2)) (jc_cons (je_var (i := 3)) (jc_cons (je_var (i := 4)) jc_nil)))))))
    (jb_cons (js_set (i := 7) C.nd (je_call C (OK .is_so) hk (D.d .is_so).b (D.d .is_so).m_is_so (D.d .is_so).F.kp  (by rfl) (jc_cons (je_var (i := 0)) (jc_cons (je_ix C (jo_var (i := 1)) (JE.c2o je_int)) (jc_cons (je_var (i := 2)) (jc_cons (je_var (i := 3)) (jc_cons (je_var (i := 4)) jc_nil)))))))
    (jb_cons (js_if (jt_eq C (jo_var (i := 5)) (JE.c2o je_str)) (jb_one (js_ret (je_and (je_var (i := 6)) (je_one (je_var (i := 7)))))) jb_nil)
    (jb_cons (js_if (jt_eq C (jo_var (i := 5)) (JE.c2o je_str)) (jb_one (js_ret (je_or (je_var (i := 6)) (je_one (je_var (i := 7)))))) jb_nil)
    (jb_cons (js_if (jt_eq C (jo_var (i := 5)) (JE.c2o je_str)) (jb_one (js_ret (je_or (je_var (i := 7)) (je_one (je_and (je_var (i := 6)) (je_one (je_meth C CP_ D.mt_Plan_has (by decide) (OK .Plan_has) hk (D.d .Plan_has).b (jo_var (i := 0)) (jc_cons (je_var (i := 4)) (jc_cons (je_var (i := 1)) jc_nil))))))))) jb_nil)
    (jb_one (js_ret (je_or (je_var (i := 7)) (je_one (je_and (je_var (i := 6)) (je_one (je_meth C CP_ D.mt_Plan_kept (by decide) (OK .Plan_kept) hk (D.d .Plan_kept).b (jo_var (i := 0)) (jc_cons (je_var (i := 3)) (jc_cons (je_var (i := 1)) jc_nil)))))))))))))))))))))⟩
theorem d_kept_behind (D : DD K mg Cc fa fdd) (Z : ZZ mg) (CP_ : CP K mg M Cc) (OK : ∀ i : Nm, FnOk P w K mg base (L2.CX P w) j (fa i) (fdd i) (psN i) (spF K M (Phi i))) (hk : j ≤ k) (cdv : Value) (A : Around) (outer : List Env) (s : Shared) (H : Hp) (E : XK) (C : CxF K (cxOf (L2.CX P w) P w K mg base N_kept_behind (qlS .kept_behind) (defScope s_kept_behind) (fa .kept_behind) cdv A outer s H E) E k)
    (tk : Takes (cxOf (L2.CX P w) P w K mg base N_kept_behind (qlS .kept_behind) (defScope s_kept_behind) (fa .kept_behind) cdv A outer s H E) (fun cls d _ H => E cls d H)) : ∃ t, JB K (cxOf (L2.CX P w) P w K mg base N_kept_behind (qlS .kept_behind) (defScope s_kept_behind) (fa .kept_behind) cdv A outer s H E) M E (defBody s_kept_behind) t (f_kept_behind Phi) := ⟨_,
    (jb_cons (js_setO (i := 3) C.nd (je_lst jc_nil))
    (jb_cons (js_for C (ji_list C (je_fld C CP_ (jo_var (i := 0)))) (jg_name (i := 4) C.nd) (jb_one (js_if (jt_eq C (JE.c2o (je_ix C (jo_var (i := 4)) (JE.c2o je_int))) (JE.c2o je_str)) (jb_one (js_appX (i := 3) C (jo_var (i := 3)) (je_call C (OK .is_so) hk (D.d .is_so).b (D.d .is_so).m_is_so (D.d .is_so).F.kp  (by rfl) (jc_cons (je_var (i := 0)) (jc_cons (je_ix C (jo_var (i := 4)) (JE.c2o je_int)) (jc_cons (je_var (i := 2)) (jc_cons (je_var (i := 1)) (jc_cons je_int jc_nil)))))))) (jb_one (js_appX (i := 3) C (jo_var (i := 3)) (je_call C (OK .is_so) hk (D.d .is_so).b (D.d .is_so).m_is_so (D.d .is_so).F.kp  (by rfl) (jc_cons (je_var (i := 0)) (jc_cons (je_var (i := 4)) (jc_cons (je_var (i := 2)) (jc_cons (je_var (i := 1)) (jc_cons je_int jc_nil)))))))))))
    (jb_one (js_ret (je_tuple C Z.tuple (by rfl) (jo_var (i := 3)))))))⟩
theorem d_begun (D : DD K mg Cc fa fdd) (Z : ZZ mg) (CP_ : CP K mg M Cc) (OK : ∀ i : Nm, FnOk P w K mg base (L2.CX P w) j (fa i) (fdd i) (psN i) (spF K M (Phi i))) (hk : j ≤ k) (cdv : Value) (A : Around) (outer : List Env) (s : Shared) (H : Hp) (E : XK) (C : CxF K (cxOf (L2.CX P w) P w K mg base N_begun (qlS .begun) (defScope s_begun) (fa .begun) cdv A outer s H E) E k)
    (tk : Takes (cxOf (L2.CX P w) P w K mg base N_begun (qlS .begun) (defScope s_begun) (fa .begun) cdv A outer s H E) (fun cls d _ H => E cls d H)) : ∃ t, JB K (cxOf (L2.CX P w) P w K mg base N_begun (qlS .begun) (defScope s_begun) (fa .begun) cdv A outer s H E) M E (defBody s_begun) t (f_begun Phi) := ⟨_,
    (jb_cons (js_setLc (i := 1) (own := [("number", 2)]) C (ji_rg1 Z.range (by rfl) (JE.c2o (je_ix C (JE.c2o (je_fld C CP_ (jo_var (i := 0)))) (JE.c2o (je_neg (JE.c2o je_int)))))) (blkOk_by (N := N_begun) (sc := defScope s_begun) (by decide +kernel)) (by exact fun s1 H1 Cc1 cl1 fp1 => (jg_name (i := 2) (CxF.blk C s1 H1 _ (compEnvC _ cl1 Cc1 _) fp1).nd)) (by exact fun s1 H1 Cc1 cl1 fp1 => jts_nil) (by exact fun s1 H1 Cc1 cl1 fp1 => (je_eq (CxF.blk C s1 H1 _ (compEnvC _ cl1 Cc1 _) fp1) (JE.c2o (je_mod (jo_var (i := 2)) (JE.c2o je_int))) (JE.c2o je_int))) (sw_true rfl rfl rfl (by decide +kernel)))
    (jb_one (js_ret (je_tup (jc_cons (je_tuple C Z.tuple (by rfl) (JE.f2o (je_lc (own := [("past", 3)]) C (ji_list C (je_fld C CP_ (jo_var (i := 0)))) (blkOk_by (N := N_begun) (sc := defScope s_begun) (by decide +kernel)) (by exact fun s2 H2 Cc2 cl2 fp2 => (jg_name (i := 3) (CxF.blk C s2 H2 _ (compEnvC _ cl2 Cc2 _) fp2).nd)) (by exact fun s2 H2 Cc2 cl2 fp2 => jts_nil) (by exact fun s2 H2 Cc2 cl2 fp2 => je_bl)))) (jc_cons (je_tuple C Z.tuple (by rfl) (jo_var (i := 1))) jc_nil))))))⟩
theorem d_stepped (D : DD K mg Cc fa fdd) (Z : ZZ mg) (CP_ : CP K mg M Cc) (OK : ∀ i : Nm, FnOk P w K mg base (L2.CX P w) j (fa i) (fdd i) (psN i) (spF K M (Phi i))) (hk : j ≤ k) (cdv : Value) (A : Around) (outer : List Env) (s : Shared) (H : Hp) (E : XK) (C : CxF K (cxOf (L2.CX P w) P w K mg base N_stepped (qlS .stepped) (defScope s_stepped) (fa .stepped) cdv A outer s H E) E k)
    (tk : Takes (cxOf (L2.CX P w) P w K mg base N_stepped (qlS .stepped) (defScope s_stepped) (fa .stepped) cdv A outer s H E) (fun cls d _ H => E cls d H)) : ∃ t, JB K (cxOf (L2.CX P w) P w K mg base N_stepped (qlS .stepped) (defScope s_stepped) (fa .stepped) cdv A outer s H E) M E (defBody s_stepped) t (f_stepped Phi) := ⟨_,
    (jb_cons (js_asg (je_var (i := 1)) (jg_two C (jg_name (i := 5) C.nd) (jg_name (i := 6) C.nd)))
    (jb_cons (js_setO (i := 3) C.nd (je_lst jc_nil))
    (jb_cons (js_for C (ji_rg1 Z.range (by rfl) (JE.c2o (je_len C Z.len (by rfl) (jo_var (i := 6))))) (jg_name (i := 4) C.nd) (jb_cons (js_set (i := 7) C.nd je_int)
    (jb_cons (js_for C (ji_enum C Z.enumerate (by rfl) (je_fld C CP_ (jo_var (i := 0)))) (jg_two C (jg_name (i := 8) C.nd) (jg_name (i := 9) C.nd)) (jb_one (js_if (jt_val (je_call C (OK .is_so) hk (D.d .is_so).b (D.d .is_so).m_is_so (D.d .is_so).F.kp  (by rfl) (jc_cons (je_var (i := 0)) (jc_cons (je_var (i := 9)) (jc_cons (je_var (i := 2)) (jc_cons (je_var (i := 5)) (jc_cons (je_var (i := 4)) jc_nil))))))) (jb_one (js_set (i := 7) C.nd (JE.f2c (je_add C (jo_var (i := 7)) (JE.c2o (je_ix C (JE.c2o (je_fld C CP_ (jo_var (i := 0)))) (jo_var (i := 8)))))))) jb_nil)))
    (jb_one (js_appX (i := 3) C (jo_var (i := 3)) (je_ix C (jo_var (i := 6)) (jo_var (i := 7))))))))
    (jb_one (js_ret (je_tup (jc_cons (je_call C (OK .kept_behind) hk (D.d .kept_behind).b (D.d .kept_behind).m_kept_behind (D.d .kept_behind).F.kp  (by rfl) (jc_cons (je_var (i := 0)) (jc_cons (je_var (i := 5)) (jc_cons (je_var (i := 2)) jc_nil)))) (jc_cons (je_tuple C Z.tuple (by rfl) (jo_var (i := 3))) jc_nil))))))))⟩
theorem d_is_met (D : DD K mg Cc fa fdd) (Z : ZZ mg) (CP_ : CP K mg M Cc) (OK : ∀ i : Nm, FnOk P w K mg base (L2.CX P w) j (fa i) (fdd i) (psN i) (spF K M (Phi i))) (hk : j ≤ k) (cdv : Value) (A : Around) (outer : List Env) (s : Shared) (H : Hp) (E : XK) (C : CxF K (cxOf (L2.CX P w) P w K mg base N_is_met (qlS .is_met) (defScope s_is_met) (fa .is_met) cdv A outer s H E) E k)
    (tk : Takes (cxOf (L2.CX P w) P w K mg base N_is_met (qlS .is_met) (defScope s_is_met) (fa .is_met) cdv A outer s H E) (fun cls d _ H => E cls d H)) : ∃ t, JB K (cxOf (L2.CX P w) P w K mg base N_is_met (qlS .is_met) (defScope s_is_met) (fa .is_met) cdv A outer s H E) M E (defBody s_is_met) t (f_is_met Phi) := ⟨_,
    (jb_one (js_ret (je_ix C (JE.c2o (je_ix C (jo_var (i := 0)) (JE.c2o je_int))) (JE.c2o je_int))))⟩
theorem d_reached (D : DD K mg Cc fa fdd) (Z : ZZ mg) (CP_ : CP K mg M Cc) (OK : ∀ i : Nm, FnOk P w K mg base (L2.CX P w) j (fa i) (fdd i) (psN i) (spF K M (Phi i))) (hk : j ≤ k) (cdv : Value) (A : Around) (outer : List Env) (s : Shared) (H : Hp) (E : XK) (C : CxF K (cxOf (L2.CX P w) P w K mg base N_reached (qlS .reached) (defScope s_reached) (fa .reached) cdv A outer s H E) E k)
    (tk : Takes (cxOf (L2.CX P w) P w K mg base N_reached (qlS .reached) (defScope s_reached) (fa .reached) cdv A outer s H E) (fun cls d _ H => E cls d H)) : ∃ t, JB K (cxOf (L2.CX P w) P w K mg base N_reached (qlS .reached) (defScope s_reached) (fa .reached) cdv A outer s H E) M E (defBody s_reached) t (f_reached Phi) := ⟨_,
    (jb_cons (js_setO (i := 2) C.nd (je_lst (jc_cons (je_var (i := 1)) jc_nil)))
    (jb_cons (js_set (i := 3) C.nd je_int)
    (jb_cons (js_wh C (jt_lt (jo_var (i := 3)) (JE.c2o (je_len C Z.len (by rfl) (jo_var (i := 2))))) (jb_cons (js_for C (ji_list C (je_fld C CP_ (jo_var (i := 0)))) (jg_name (i := 4) C.nd) (jb_cons (js_set (i := 5) C.nd (je_call C (OK .stepped) hk (D.d .stepped).b (D.d .stepped).m_stepped (D.d .stepped).F.kp  (by rfl) (jc_cons (je_var (i := 0)) (jc_cons (je_ix C (jo_var (i := 2)) (jo_var (i := 3))) (jc_cons (je_var (i := 4)) jc_nil)))))
    (jb_one (js_if (jt_ni C (jo_var (i := 5)) (jo_var (i := 2))) (jb_one (js_appX (i := 2) C (jo_var (i := 2)) (je_var (i := 5)))) jb_nil))))
    (jb_one (js_set (i := 3) C.nd (JE.f2c (je_add C (jo_var (i := 3)) (JE.c2o je_int)))))))
    (jb_one (js_retVO (jo_var (i := 2)))))))⟩
theorem d_going (D : DD K mg Cc fa fdd) (Z : ZZ mg) (CP_ : CP K mg M Cc) (OK : ∀ i : Nm, FnOk P w K mg base (L2.CX P w) j (fa i) (fdd i) (psN i) (spF K M (Phi i))) (hk : j ≤ k) (cdv : Value) (A : Around) (outer : List Env) (s : Shared) (H : Hp) (E : XK) (C : CxF K (cxOf (L2.CX P w) P w K mg base N_going (qlS .going) (defScope s_going) (fa .going) cdv A outer s H E) E k)
    (tk : Takes (cxOf (L2.CX P w) P w K mg base N_going (qlS .going) (defScope s_going) (fa .going) cdv A outer s H E) (fun cls d _ H => E cls d H)) : ∃ t, JBN K (cxOf (L2.CX P w) P w K mg base N_going (qlS .going) (defScope s_going) (fa .going) cdv A outer s H E) M E (defBody s_going) t (f_going Phi) := ⟨_,
    (jbn_cons (jsn_lift (js_setO (i := 3) C.nd (je_lst (jc_cons (je_tup (jc_cons (je_var (i := 1)) (jc_cons (je_new (je_lst jc_nil)) jc_nil))) jc_nil))) (nr_setO _))
    (jbn_cons (jsn_lift (js_setO (i := 4) C.nd (je_lst (jc_cons (je_var (i := 1)) jc_nil))) (nr_setO _))
    (jbn_cons (jsn_lift (js_set (i := 5) C.nd je_int) (nr_set _))
    (jbn_cons (jsn_wh C (jt_lt (jo_var (i := 5)) (JE.c2o (je_len C Z.len (by rfl) (jo_var (i := 3))))) (jbn_cons (jsn_lift (js_asg (je_ix C (jo_var (i := 3)) (jo_var (i := 5))) (jg_two C (jg_name (i := 7) C.nd) (jg_name (i := 8) C.nd))) nr_asg)
    (jbn_cons (jsn_if (jt_eq C (JE.c2o (je_call C (OK .is_met) hk (D.d .is_met).b (D.d .is_met).m_is_met (D.d .is_met).F.kp  (by rfl) (jc_cons (je_var (i := 7)) jc_nil))) (jo_var (i := 2))) (jbn_one (jsn_retW (jo_var (i := 8)))) jbn_nil)
    (jbn_cons (jsn_lift (js_for C (ji_list C (je_fld C CP_ (jo_var (i := 0)))) (jg_name (i := 6) C.nd) (jb_cons (js_set (i := 9) C.nd (je_call C (OK .stepped) hk (D.d .stepped).b (D.d .stepped).m_stepped (D.d .stepped).F.kp  (by rfl) (jc_cons (je_var (i := 0)) (jc_cons (je_var (i := 7)) (jc_cons (je_var (i := 6)) jc_nil)))))
    (jb_one (js_if (jt_ni C (jo_var (i := 9)) (jo_var (i := 4))) (jb_cons (js_appX (i := 4) C (jo_var (i := 4)) (je_var (i := 9)))
    (jb_one (js_appX (i := 3) C (jo_var (i := 3)) (je_tup (jc_cons (je_var (i := 9)) (jc_cons (je_new (je_add C (jo_varN (jo_var (i := 8))) (JE.f2o (je_lst (jc_cons (je_var (i := 6)) jc_nil))))) jc_nil)))))) jb_nil)))) (nr_for (nr_seq (nr_set _) (nr_if (nr_seq (nr_app _) (nr_app _)) nr_next))))
    (jbn_one (jsn_lift (js_set (i := 5) C.nd (JE.f2c (je_add C (jo_var (i := 5)) (JE.c2o je_int)))) (nr_set _)))))))
    (jbn_one (jsn_retC je_non))))))⟩
theorem d_l_cell_at (D : DD K mg Cc fa fdd) (Z : ZZ mg) (CP_ : CP K mg M Cc) (OK : ∀ i : Nm, FnOk P w K mg base (L2.CX P w) j (fa i) (fdd i) (psN i) (spF K M (Phi i))) (hk : j ≤ k) (cdv : Value) (A : Around) (outer : List Env) (s : Shared) (H : Hp) (E : XK) (C : CxF K (cxOf (L2.CX P w) P w K mg base N_l_cell_at (qlS .l_cell_at) (defScope s_l_cell_at) (fa .l_cell_at) cdv A outer s H E) E k)
    (tk : Takes (cxOf (L2.CX P w) P w K mg base N_l_cell_at (qlS .l_cell_at) (defScope s_l_cell_at) (fa .l_cell_at) cdv A outer s H E) (fun cls d _ H => E cls d H)) : ∃ t, JB K (cxOf (L2.CX P w) P w K mg base N_l_cell_at (qlS .l_cell_at) (defScope s_l_cell_at) (fa .l_cell_at) cdv A outer s H E) M E (defBody s_l_cell_at) t (f_l_cell_at Phi) := ⟨_,
    (jb_cons (js_if (jt_lt (jo_var (i := 1)) (JE.c2o (je_len C Z.len (by rfl) (jo_var (i := 0))))) (jb_one (js_ret (je_ix C (jo_var (i := 0)) (jo_var (i := 1))))) jb_nil)
    (jb_one (js_ret je_int)))⟩
theorem d_l_names (D : DD K mg Cc fa fdd) (Z : ZZ mg) (CP_ : CP K mg M Cc) (OK : ∀ i : Nm, FnOk P w K mg base (L2.CX P w) j (fa i) (fdd i) (psN i) (spF K M (Phi i))) (hk : j ≤ k) (cdv : Value) (A : Around) (outer : List Env) (s : Shared) (H : Hp) (E : XK) (C : CxF K (cxOf (L2.CX P w) P w K mg base N_l_names (qlS .l_names) (defScope s_l_names) (fa .l_names) cdv A outer s H E) E k)
    (tk : Takes (cxOf (L2.CX P w) P w K mg base N_l_names (qlS .l_names) (defScope s_l_names) (fa .l_names) cdv A outer s H E) (fun cls d _ H => E cls d H)) : ∃ t, JB K (cxOf (L2.CX P w) P w K mg base N_l_names (qlS .l_names) (defScope s_l_names) (fa .l_names) cdv A outer s H E) M E (defBody s_l_names) t (f_l_names Phi) := ⟨_,
    (jb_cons (js_set (i := 1) C.nd je_str)
    (jb_cons (js_set (i := 2) C.nd (je_join C (JE.c2o je_str) (JE.f2o (je_lc (own := [("_law_j", 8)]) C (ji_rg1 Z.range (by rfl) (JE.c2o je_int)) (blkOk_by (N := N_l_names) (sc := defScope s_l_names) (by decide +kernel)) (by exact fun s1 H1 Cc1 cl1 fp1 => (jg_name (i := 8) (CxF.blk C s1 H1 _ (compEnvC _ cl1 Cc1 _) fp1).nd)) (by exact fun s1 H1 Cc1 cl1 fp1 => jts_nil) (by exact fun s1 H1 Cc1 cl1 fp1 => (je_ix (CxF.blk C s1 H1 _ (compEnvC _ cl1 Cc1 _) fp1) (jo_var (i := 1)) (JE.c2o (je_mod (JE.f2o (je_add (CxF.blk C s1 H1 _ (compEnvC _ cl1 Cc1 _) fp1) (JE.c2o (je_div (jo_var (i := 0)) (JE.c2o je_int))) (JE.c2o (je_mul (JE.c2o je_int) (jo_var (i := 8)))))) (JE.c2o je_int)))))))))
    (jb_cons (js_if (jt_eq C (JE.c2o (je_mod (jo_var (i := 0)) (JE.c2o je_int))) (JE.c2o je_int)) (jb_cons (js_set (i := 3) C.nd (JE.f2c (je_add C (JE.c2o je_int) (JE.c2o (je_mod (JE.c2o (je_div (jo_var (i := 0)) (JE.c2o je_int))) (JE.c2o je_int))))))
    (jb_one (js_ret (JE.f2c (je_lc (own := [("_law_k", 6)]) C (ji_rg1 Z.range (by rfl) (JE.c2o je_int)) (blkOk_by (N := N_l_names) (sc := defScope s_l_names) (by decide +kernel)) (by exact fun s2 H2 Cc2 cl2 fp2 => (jg_name (i := 6) (CxF.blk C s2 H2 _ (compEnvC _ cl2 Cc2 _) fp2).nd)) (by exact fun s2 H2 Cc2 cl2 fp2 => jts_nil) (by exact fun s2 H2 Cc2 cl2 fp2 => (JE.f2c (je_slice (CxF.blk C s2 H2 _ (compEnvC _ cl2 Cc2 _) fp2) (jo_var (i := 2)) ji_no (ji_sm (JE.f2o (je_add (CxF.blk C s2 H2 _ (compEnvC _ cl2 Cc2 _) fp2) (jo_var (i := 3)) (jo_var (i := 6))))))))))))) jb_nil)
    (jb_cons (js_set (i := 3) C.nd (je_mod (JE.c2o (je_div (jo_var (i := 0)) (JE.c2o je_int))) (JE.c2o je_int)))
    (jb_cons (js_set (i := 4) C.nd (je_mod (JE.c2o (je_div (jo_var (i := 0)) (JE.c2o je_int))) (JE.f2o (je_add C (jo_var (i := 3)) (JE.c2o je_int)))))
    (jb_cons (js_setO (i := 5) C.nd (je_lst jc_nil))
    (jb_cons (js_for C (ji_rg1 Z.range (by rfl) (JE.c2o je_int)) (jg_name (i := 6) C.nd) (jb_cons (js_set (i := 7) C.nd (je_ix C (jo_var (i := 1)) (JE.c2o (je_mod (JE.f2o (je_add C (JE.c2o (je_div (jo_var (i := 0)) (JE.c2o je_int))) (JE.c2o (je_mul (JE.c2o je_int) (jo_var (i := 6)))))) (JE.c2o je_int)))))
    (jb_one (js_appX (i := 5) C (jo_var (i := 5)) (JE.f2c (je_add C (JE.f2o (je_add C (JE.f2o (je_slice C (jo_var (i := 2)) ji_no (ji_sm (jo_var (i := 4))))) (jo_var (i := 7)))) (JE.f2o (je_slice C (jo_var (i := 2)) (ji_sm (jo_var (i := 4))) (ji_sm (jo_var (i := 3)))))))))))
    (jb_one (js_retV (jo_var (i := 5)))))))))))⟩
theorem d_l_all (D : DD K mg Cc fa fdd) (Z : ZZ mg) (CP_ : CP K mg M Cc) (OK : ∀ i : Nm, FnOk P w K mg base (L2.CX P w) j (fa i) (fdd i) (psN i) (spF K M (Phi i))) (hk : j ≤ k) (cdv : Value) (A : Around) (outer : List Env) (s : Shared) (H : Hp) (E : XK) (C : CxF K (cxOf (L2.CX P w) P w K mg base N_l_all (qlS .l_all) (defScope s_l_all) (fa .l_all) cdv A outer s H E) E k)
    (tk : Takes (cxOf (L2.CX P w) P w K mg base N_l_all (qlS .l_all) (defScope s_l_all) (fa .l_all) cdv A outer s H E) (fun cls d _ H => E cls d H)) : ∃ t, JB K (cxOf (L2.CX P w) P w K mg base N_l_all (qlS .l_all) (defScope s_l_all) (fa .l_all) cdv A outer s H E) M E (defBody s_l_all) t (f_l_all Phi) := ⟨_,
    (jb_cons (js_set (i := 1) C.nd (JE.f2c (je_lst (jc_cons (je_var (i := 0)) jc_nil))))
    (jb_cons (js_for C (ji_tup C (JE.f2c (je_slice C (jo_var (i := 0)) (ji_sm (JE.c2o je_int)) ji_no))) (jg_name (i := 2) C.nd) (jb_one (js_if (jt_val (je_isi (T := "tuple") C Z.isinstance (by rfl) Z.tuple (by rfl) (by decide +kernel) (by decide) (jo_var (i := 2)))) (jb_one (js_set (i := 1) C.nd (JE.f2c (je_add C (jo_var (i := 1)) (JE.c2o (je_call C (OK .l_all) hk (D.d .l_all).b (D.d .l_all).m_l_all (D.d .l_all).F.kp  (by rfl) (jc_cons (je_var (i := 2)) jc_nil))))))) jb_nil)))
    (jb_one (js_ret (je_var (i := 1))))))⟩
theorem d_l_wishes (D : DD K mg Cc fa fdd) (Z : ZZ mg) (CP_ : CP K mg M Cc) (OK : ∀ i : Nm, FnOk P w K mg base (L2.CX P w) j (fa i) (fdd i) (psN i) (spF K M (Phi i))) (hk : j ≤ k) (cdv : Value) (A : Around) (outer : List Env) (s : Shared) (H : Hp) (E : XK) (C : CxF K (cxOf (L2.CX P w) P w K mg base N_l_wishes (qlS .l_wishes) (defScope s_l_wishes) (fa .l_wishes) cdv A outer s H E) E k)
    (tk : Takes (cxOf (L2.CX P w) P w K mg base N_l_wishes (qlS .l_wishes) (defScope s_l_wishes) (fa .l_wishes) cdv A outer s H E) (fun cls d _ H => E cls d H)) : ∃ t, JB K (cxOf (L2.CX P w) P w K mg base N_l_wishes (qlS .l_wishes) (defScope s_l_wishes) (fa .l_wishes) cdv A outer s H E) M E (defBody s_l_wishes) t (f_l_wishes Phi) := ⟨_,
    (jb_cons (js_set (i := 1) C.nd (JE.f2c (je_lst (jc_cons (je_var (i := 0)) jc_nil))))
    (jb_cons (js_for C (ji_list C (je_call C (OK .l_all) hk (D.d .l_all).b (D.d .l_all).m_l_all (D.d .l_all).F.kp  (by rfl) (jc_cons (je_var (i := 0)) jc_nil))) (jg_name (i := 2) C.nd) (jb_cons (js_set (i := 3) C.nd (JE.f2c (je_lst jc_nil)))
    (jb_cons (js_if (jt_eq C (JE.c2o (je_ix C (jo_var (i := 2)) (JE.c2o je_int))) (JE.c2o je_str)) (jb_one (js_set (i := 3) C.nd (JE.f2c (je_lst (jc_cons (je_ix C (jo_var (i := 2)) (JE.c2o je_int)) jc_nil))))) (jb_one (js_if (jt_eq C (JE.c2o (je_ix C (jo_var (i := 2)) (JE.c2o je_int))) (JE.c2o je_str)) (jb_one (js_set (i := 3) C.nd (JE.f2c (je_lst (jc_cons (je_var (i := 2)) jc_nil))))) (jb_one (js_if (jt_eq C (JE.c2o (je_ix C (jo_var (i := 2)) (JE.c2o je_int))) (JE.c2o je_str)) (jb_one (js_setLc (i := 3) (own := [("_law_k", 5)]) C (ji_rg1 Z.range (by rfl) (JE.c2o (je_ix C (jo_var (i := 2)) (JE.c2o je_int)))) (blkOk_by (N := N_l_wishes) (sc := defScope s_l_wishes) (by decide +kernel)) (by exact fun s1 H1 Cc1 cl1 fp1 => (jg_name (i := 5) (CxF.blk C s1 H1 _ (compEnvC _ cl1 Cc1 _) fp1).nd)) (by exact fun s1 H1 Cc1 cl1 fp1 => jts_nil) (by exact fun s1 H1 Cc1 cl1 fp1 => (je_tup (jc_cons je_str (jc_cons (je_var (i := 5)) (jc_cons (je_ix (CxF.blk C s1 H1 _ (compEnvC _ cl1 Cc1 _) fp1) (jo_var (i := 2)) (JE.c2o je_int)) jc_nil))))) (sw_true rfl rfl rfl (by decide +kernel)))) jb_nil)))))
    (jb_one (js_set (i := 1) C.nd (JE.f2c (je_add C (jo_var (i := 1)) (JE.f2o (je_lc (own := [("_law_other", 4)]) C (ji_list C (je_var (i := 3))) (blkOk_by (N := N_l_wishes) (sc := defScope s_l_wishes) (by decide +kernel)) (by exact fun s2 H2 Cc2 cl2 fp2 => (jg_name (i := 4) (CxF.blk C s2 H2 _ (compEnvC _ cl2 Cc2 _) fp2).nd)) (by exact fun s2 H2 Cc2 cl2 fp2 => (jts_one (jt_ni (CxF.blk C s2 H2 _ (compEnvC _ cl2 Cc2 _) fp2) (jo_var (i := 4)) (jo_var (i := 1))))) (by exact fun s2 H2 Cc2 cl2 fp2 => (je_var (i := 4))))))))))))
    (jb_one (js_ret (je_var (i := 1))))))⟩
theorem d_l_fit (D : DD K mg Cc fa fdd) (Z : ZZ mg) (CP_ : CP K mg M Cc) (OK : ∀ i : Nm, FnOk P w K mg base (L2.CX P w) j (fa i) (fdd i) (psN i) (spF K M (Phi i))) (hk : j ≤ k) (cdv : Value) (A : Around) (outer : List Env) (s : Shared) (H : Hp) (E : XK) (C : CxF K (cxOf (L2.CX P w) P w K mg base N_l_fit (qlS .l_fit) (defScope s_l_fit) (fa .l_fit) cdv A outer s H E) E k)
    (tk : Takes (cxOf (L2.CX P w) P w K mg base N_l_fit (qlS .l_fit) (defScope s_l_fit) (fa .l_fit) cdv A outer s H E) (fun cls d _ H => E cls d H)) : ∃ t, JB K (cxOf (L2.CX P w) P w K mg base N_l_fit (qlS .l_fit) (defScope s_l_fit) (fa .l_fit) cdv A outer s H E) M E (defBody s_l_fit) t (f_l_fit Phi) := ⟨_,
    (jb_cons (js_wh C (jt_gt (JE.c2o (je_len C Z.len (by rfl) (JE.c2o (je_call C (OK .l_wishes) hk (D.d .l_wishes).b (D.d .l_wishes).m_l_wishes (D.d .l_wishes).F.kp  (by rfl) (jc_cons (je_var (i := 0)) jc_nil))))) (jo_var (i := 1))) (jb_one (js_set (i := 0) C.nd (je_ix C (jo_var (i := 0)) (JE.c2o (je_neg (JE.c2o je_int)))))))
    (jb_one (js_ret (je_var (i := 0)))))⟩
theorem d_l_until (D : DD K mg Cc fa fdd) (Z : ZZ mg) (CP_ : CP K mg M Cc) (OK : ∀ i : Nm, FnOk P w K mg base (L2.CX P w) j (fa i) (fdd i) (psN i) (spF K M (Phi i))) (hk : j ≤ k) (cdv : Value) (A : Around) (outer : List Env) (s : Shared) (H : Hp) (E : XK) (C : CxF K (cxOf (L2.CX P w) P w K mg base N_l_until (qlS .l_until) (defScope s_l_until) (fa .l_until) cdv A outer s H E) E k)
    (tk : Takes (cxOf (L2.CX P w) P w K mg base N_l_until (qlS .l_until) (defScope s_l_until) (fa .l_until) cdv A outer s H E) (fun cls d _ H => E cls d H)) : ∃ t, JB K (cxOf (L2.CX P w) P w K mg base N_l_until (qlS .l_until) (defScope s_l_until) (fa .l_until) cdv A outer s H E) M E (defBody s_l_until) t (f_l_until Phi) := ⟨_,
    (jb_cons (js_setO (i := 2) C.nd (je_lst jc_nil))
    (jb_cons (js_set (i := 3) C.nd je_bl)
    (jb_cons (js_for C (ji_zip C Z.zip (by rfl) (je_var (i := 0)) (je_var (i := 1))) (jg_two C (jg_name (i := 4) C.nd) (jg_name (i := 5) C.nd)) (jb_cons (js_set (i := 3) C.nd (je_or (je_var (i := 5)) (je_one (je_and (je_var (i := 4)) (je_one (je_var (i := 3)))))))
    (jb_one (js_appX (i := 2) C (jo_var (i := 2)) (je_var (i := 3))))))
    (jb_one (js_retV (jo_var (i := 2)))))))⟩
theorem d_l_means (D : DD K mg Cc fa fdd) (Z : ZZ mg) (CP_ : CP K mg M Cc) (OK : ∀ i : Nm, FnOk P w K mg base (L2.CX P w) j (fa i) (fdd i) (psN i) (spF K M (Phi i))) (hk : j ≤ k) (cdv : Value) (A : Around) (outer : List Env) (s : Shared) (H : Hp) (E : XK) (C : CxF K (cxOf (L2.CX P w) P w K mg base N_l_means (qlS .l_means) (defScope s_l_means) (fa .l_means) cdv A outer s H E) E k)
    (tk : Takes (cxOf (L2.CX P w) P w K mg base N_l_means (qlS .l_means) (defScope s_l_means) (fa .l_means) cdv A outer s H E) (fun cls d _ H => E cls d H)) : ∃ t, JB K (cxOf (L2.CX P w) P w K mg base N_l_means (qlS .l_means) (defScope s_l_means) (fa .l_means) cdv A outer s H E) M E (defBody s_l_means) t (f_l_means Phi) := ⟨_,
    (jb_cons (js_set (i := 2) C.nd (je_ix C (jo_var (i := 0)) (JE.c2o je_int)))
    (jb_cons (js_if (jt_eq C (jo_var (i := 2)) (JE.c2o je_str)) (jb_one (js_ret (JE.f2c (je_lc (own := [("_law_mark", 5)]) C (ji_list C (je_var (i := 1))) (blkOk_by (N := N_l_means) (sc := defScope s_l_means) (by decide +kernel)) (by exact fun s1 H1 Cc1 cl1 fp1 => (jg_name (i := 5) (CxF.blk C s1 H1 _ (compEnvC _ cl1 Cc1 _) fp1).nd)) (by exact fun s1 H1 Cc1 cl1 fp1 => jts_nil) (by exact fun s1 H1 Cc1 cl1 fp1 => (je_eq (CxF.blk C s1 H1 _ (compEnvC _ cl1 Cc1 _) fp1) (jo_var (i := 5)) (JE.c2o (je_ix (CxF.blk C s1 H1 _ (compEnvC _ cl1 Cc1 _) fp1) (jo_var (i := 0)) (JE.c2o je_int))))))))) jb_nil)
    (jb_cons (js_if (jt_eq C (jo_var (i := 2)) (JE.c2o je_str)) (jb_one (js_ret (JE.f2c (je_lc (own := [("_law_mark", 5)]) C (ji_list C (je_var (i := 1))) (blkOk_by (N := N_l_means) (sc := defScope s_l_means) (by decide +kernel)) (by exact fun s2 H2 Cc2 cl2 fp2 => (jg_name (i := 5) (CxF.blk C s2 H2 _ (compEnvC _ cl2 Cc2 _) fp2).nd)) (by exact fun s2 H2 Cc2 cl2 fp2 => jts_nil) (by exact fun s2 H2 Cc2 cl2 fp2 => je_bl))))) jb_nil)
    (jb_cons (js_set (i := 3) C.nd (JE.f2c (je_lc (own := [("_law_part", 4)]) C (ji_tup C (JE.f2c (je_slice C (jo_var (i := 0)) (ji_sm (JE.c2o je_int)) ji_no))) (blkOk_by (N := N_l_means) (sc := defScope s_l_means) (by decide +kernel)) (by exact fun s3 H3 Cc3 cl3 fp3 => (jg_name (i := 4) (CxF.blk C s3 H3 _ (compEnvC _ cl3 Cc3 _) fp3).nd)) (by exact fun s3 H3 Cc3 cl3 fp3 => (jts_one (jt_val (je_isi (T := "tuple") (CxF.blk C s3 H3 _ (compEnvC _ cl3 Cc3 _) fp3) Z.isinstance (by rfl) Z.tuple (by rfl) (by decide +kernel) (by decide) (jo_var (i := 4)))))) (by exact fun s3 H3 Cc3 cl3 fp3 => (je_call (CxF.blk C s3 H3 _ (compEnvC _ cl3 Cc3 _) fp3) (OK .l_means) hk (D.d .l_means).b (D.d .l_means).m_l_means (D.d .l_means).F.kp  (by rfl) (jc_cons (je_var (i := 4)) (jc_cons (je_var (i := 1)) jc_nil)))))))
    (jb_cons (js_if (jt_eq C (jo_var (i := 2)) (JE.c2o je_str)) (jb_one (js_ret (JE.f2c (je_lc (own := [("_law_one", 6)]) C (ji_list C (je_ix C (jo_var (i := 3)) (JE.c2o je_int))) (blkOk_by (N := N_l_means) (sc := defScope s_l_means) (by decide +kernel)) (by exact fun s4 H4 Cc4 cl4 fp4 => (jg_name (i := 6) (CxF.blk C s4 H4 _ (compEnvC _ cl4 Cc4 _) fp4).nd)) (by exact fun s4 H4 Cc4 cl4 fp4 => jts_nil) (by exact fun s4 H4 Cc4 cl4 fp4 => (je_not (je_var (i := 6)))))))) jb_nil)
    (jb_cons (js_if (jt_eq C (jo_var (i := 2)) (JE.c2o je_str)) (jb_one (js_ret (JE.f2c (je_lc (own := [("_law_one", 6), ("_law_other", 8)]) C (ji_zip C Z.zip (by rfl) (je_ix C (jo_var (i := 3)) (JE.c2o je_int)) (je_ix C (jo_var (i := 3)) (JE.c2o je_int))) (blkOk_by (N := N_l_means) (sc := defScope s_l_means) (by decide +kernel)) (by exact fun s5 H5 Cc5 cl5 fp5 => (jg_two (CxF.blk C s5 H5 _ (compEnvC _ cl5 Cc5 _) fp5) (jg_name (i := 6) (CxF.blk C s5 H5 _ (compEnvC _ cl5 Cc5 _) fp5).nd) (jg_name (i := 8) (CxF.blk C s5 H5 _ (compEnvC _ cl5 Cc5 _) fp5).nd))) (by exact fun s5 H5 Cc5 cl5 fp5 => jts_nil) (by exact fun s5 H5 Cc5 cl5 fp5 => (je_and (je_var (i := 6)) (je_one (je_var (i := 8))))))))) jb_nil)
    (jb_cons (js_if (jt_eq C (jo_var (i := 2)) (JE.c2o je_str)) (jb_one (js_ret (JE.f2c (je_lc (own := [("_law_one", 6), ("_law_other", 8)]) C (ji_zip C Z.zip (by rfl) (je_ix C (jo_var (i := 3)) (JE.c2o je_int)) (je_ix C (jo_var (i := 3)) (JE.c2o je_int))) (blkOk_by (N := N_l_means) (sc := defScope s_l_means) (by decide +kernel)) (by exact fun s6 H6 Cc6 cl6 fp6 => (jg_two (CxF.blk C s6 H6 _ (compEnvC _ cl6 Cc6 _) fp6) (jg_name (i := 6) (CxF.blk C s6 H6 _ (compEnvC _ cl6 Cc6 _) fp6).nd) (jg_name (i := 8) (CxF.blk C s6 H6 _ (compEnvC _ cl6 Cc6 _) fp6).nd))) (by exact fun s6 H6 Cc6 cl6 fp6 => jts_nil) (by exact fun s6 H6 Cc6 cl6 fp6 => (je_or (je_var (i := 6)) (je_one (je_var (i := 8))))))))) jb_nil)
    (jb_cons (js_if (jt_eq C (jo_var (i := 2)) (JE.c2o je_str)) (jb_one (js_ret (JE.f2c (je_slice C (JE.f2o (je_add C (JE.c2o (je_ix C (jo_var (i := 3)) (JE.c2o je_int))) (JE.f2o (je_lst (jc_cons je_bl jc_nil))))) (ji_sm (JE.c2o je_int)) ji_no)))) jb_nil)
    (jb_cons (js_if (jt_eq C (jo_var (i := 2)) (JE.c2o je_str)) (jb_one (js_ret (JE.f2c (je_slice C (JE.f2o (je_add C (JE.f2o (je_lst (jc_cons je_bl jc_nil))) (JE.c2o (je_ix C (jo_var (i := 3)) (JE.c2o je_int))))) ji_no (ji_sm (JE.c2o (je_len C Z.len (by rfl) (jo_var (i := 1))))))))) jb_nil)
    (jb_cons (js_if (jt_eq C (jo_var (i := 2)) (JE.c2o je_str)) (jb_one (js_ret (JE.f2c (je_lc (own := [("_law_k", 7)]) C (ji_rg1 Z.range (by rfl) (JE.c2o (je_len C Z.len (by rfl) (jo_var (i := 1))))) (blkOk_by (N := N_l_means) (sc := defScope s_l_means) (by decide +kernel)) (by exact fun s7 H7 Cc7 cl7 fp7 => (jg_name (i := 7) (CxF.blk C s7 H7 _ (compEnvC _ cl7 Cc7 _) fp7).nd)) (by exact fun s7 H7 Cc7 cl7 fp7 => jts_nil) (by exact fun s7 H7 Cc7 cl7 fp7 => (je_in (CxF.blk C s7 H7 _ (compEnvC _ cl7 Cc7 _) fp7) (JE.c2o je_bl) (JE.f2o (je_slice (CxF.blk C s7 H7 _ (compEnvC _ cl7 Cc7 _) fp7) (JE.c2o (je_ix (CxF.blk C s7 H7 _ (compEnvC _ cl7 Cc7 _) fp7) (jo_var (i := 3)) (JE.c2o je_int))) (ji_sm (jo_var (i := 7))) (ji_sm (JE.f2o (je_add (CxF.blk C s7 H7 _ (compEnvC _ cl7 Cc7 _) fp7) (JE.f2o (je_add (CxF.blk C s7 H7 _ (compEnvC _ cl7 Cc7 _) fp7) (jo_var (i := 7)) (JE.c2o (je_ix (CxF.blk C s7 H7 _ (compEnvC _ cl7 Cc7 _) fp7) (jo_var (i := 0)) (JE.c2o je_int))))) (JE.c2o je_int)))))))))))) jb_nil)
    (jb_cons (js_if (jt_eq C (jo_var (i := 2)) (JE.c2o je_str)) (jb_one (js_ret (je_call C (OK .l_until) hk (D.d .l_until).b (D.d .l_until).m_l_until (D.d .l_until).F.kp  (by rfl) (jc_cons (je_ix C (jo_var (i := 3)) (JE.c2o je_int)) (jc_cons (je_ix C (jo_var (i := 3)) (JE.c2o je_int)) jc_nil))))) jb_nil)
    (jb_one (js_ret (JE.f2c (je_rev C (JE.c2o (je_call C (OK .l_until) hk (D.d .l_until).b (D.d .l_until).m_l_until (D.d .l_until).F.kp  (by rfl) (jc_cons (JE.f2c (je_rev C (JE.c2o (je_ix C (jo_var (i := 3)) (JE.c2o je_int))))) (jc_cons (JE.f2c (je_rev C (JE.c2o (je_ix C (jo_var (i := 3)) (JE.c2o je_int))))) jc_nil)))))))))))))))))))⟩
theorem d_l_run (D : DD K mg Cc fa fdd) (Z : ZZ mg) (CP_ : CP K mg M Cc) (OK : ∀ i : Nm, FnOk P w K mg base (L2.CX P w) j (fa i) (fdd i) (psN i) (spF K M (Phi i))) (hk : j ≤ k) (cdv : Value) (A : Around) (outer : List Env) (s : Shared) (H : Hp) (E : XK) (C : CxF K (cxOf (L2.CX P w) P w K mg base N_l_run (qlS .l_run) (defScope s_l_run) (fa .l_run) cdv A outer s H E) E k)
    (tk : Takes (cxOf (L2.CX P w) P w K mg base N_l_run (qlS .l_run) (defScope s_l_run) (fa .l_run) cdv A outer s H E) (fun cls d _ H => E cls d H)) : ∃ t, JB K (cxOf (L2.CX P w) P w K mg base N_l_run (qlS .l_run) (defScope s_l_run) (fa .l_run) cdv A outer s H E) M E (defBody s_l_run) t (f_l_run Phi) := ⟨_,
    (jb_cons (js_set (i := 4) C.nd (JE.f2c (je_add C (JE.f2o (je_add C (jo_var (i := 2)) (JE.f2o (je_lst (jc_cons je_str (jc_cons (JE.f2c (je_add C (JE.f2o (je_slice C (JE.c2o (je_ix C (jo_var (i := 2)) (JE.c2o je_int))) ji_no (ji_sm (JE.c2o je_int)))) (JE.c2o je_str))) jc_nil)))))) (jo_var (i := 2)))))
    (jb_one (js_ret (JE.f2c (je_lc (own := [("_law_cell", 5)]) C (ji_list C (JE.f2c (je_slice C (jo_var (i := 0)) (ji_sm (jo_var (i := 1))) (ji_sm (JE.f2o (je_add C (jo_var (i := 1)) (jo_var (i := 3)))))))) (blkOk_by (N := N_l_run) (sc := defScope s_l_run) (by decide +kernel)) (by exact fun s1 H1 Cc1 cl1 fp1 => (jg_name (i := 5) (CxF.blk C s1 H1 _ (compEnvC _ cl1 Cc1 _) fp1).nd)) (by exact fun s1 H1 Cc1 cl1 fp1 => jts_nil) (by exact fun s1 H1 Cc1 cl1 fp1 => (je_ix (CxF.blk C s1 H1 _ (compEnvC _ cl1 Cc1 _) fp1) (jo_var (i := 4)) (JE.c2o (je_mod (jo_var (i := 5)) (JE.c2o je_int))))))))))⟩
theorem d_l_built (D : DD K mg Cc fa fdd) (Z : ZZ mg) (CP_ : CP K mg M Cc) (OK : ∀ i : Nm, FnOk P w K mg base (L2.CX P w) j (fa i) (fdd i) (psN i) (spF K M (Phi i))) (OX : ∀ i : Nx, FnOk P w K mg base (L2.CX P w) j (fa i.n) (fdd i.n) (psN i.n) (spS K M (Psy i))) (hk : j ≤ k) (cdv : Value) (A : Around) (outer : List Env) (s : Shared) (H : Hp) (E : XK) (C : CxF K (cxOf (L2.CX P w) P w K mg base N_l_built (qlS .l_built) (defScope s_l_built) (fa .l_built) cdv A outer s H E) E k)
    (tk : Takes (cxOf (L2.CX P w) P w K mg base N_l_built (qlS .l_built) (defScope s_l_built) (fa .l_built) cdv A outer s H E) (fun cls d _ H => E cls d H)) : ∃ t, JB K (cxOf (L2.CX P w) P w K mg base N_l_built (qlS .l_built) (defScope s_l_built) (fa .l_built) cdv A outer s H E) M E (defBody s_l_built) t (f_l_built Phi Psy) := ⟨_,
    (jb_cons (js_setO (i := 3) C.nd (je_lst (jc_cons je_int jc_nil)))
    (jb_cons (js_set (i := 4) C.nd (JE.f2c (je_add C (JE.c2o je_int) (JE.c2o (je_int1 Z.int (by rfl) (JE.c2o (je_eq C (JE.c2o (je_mod (JE.c2o (je_call C (OK .l_cell_at) hk (D.d .l_cell_at).b (D.d .l_cell_at).m_l_cell_at (D.d .l_cell_at).F.kp  (by rfl) (jc_cons (je_var (i := 0)) (jc_cons je_int jc_nil)))) (JE.c2o je_int))) (JE.c2o je_int))))))))
    (jb_one (js_retX 3 (xe_callP C (OK .l_fit) hk (D.d .l_fit).b (D.d .l_fit).m_l_fit (D.d .l_fit).F.kp  (by rfl) (xa_cons (xe_call C (OX .l_made) hk (D.d .l_made).b (D.d .l_made).m_l_made (D.d .l_made).F.kp  (by rfl) (je_var (i := 0)) (JE.pe (K := K) (M := M) (E := E) (jo_var (i := 3))) (jc_cons (je_var (i := 1)) (jc_cons (je_var (i := 4)) (jc_cons je_bl jc_nil)))) (xa_cons (xe_of (E := E) (je_var (i := 2))) xa_nil))) (us_callP (usa_cons us_call))))))⟩
theorem d_l_state (D : DD K mg Cc fa fdd) (Z : ZZ mg) (CP_ : CP K mg M Cc) (OK : ∀ i : Nm, FnOk P w K mg base (L2.CX P w) j (fa i) (fdd i) (psN i) (spF K M (Phi i))) (hk : j ≤ k) (cdv : Value) (A : Around) (outer : List Env) (s : Shared) (H : Hp) (E : XK) (C : CxF K (cxOf (L2.CX P w) P w K mg base N_l_state (qlS .l_state) (defScope s_l_state) (fa .l_state) cdv A outer s H E) E k)
    (tk : Takes (cxOf (L2.CX P w) P w K mg base N_l_state (qlS .l_state) (defScope s_l_state) (fa .l_state) cdv A outer s H E) (fun cls d _ H => E cls d H)) : ∃ t, JB K (cxOf (L2.CX P w) P w K mg base N_l_state (qlS .l_state) (defScope s_l_state) (fa .l_state) cdv A outer s H E) M E (defBody s_l_state) t (f_l_state Phi) := ⟨_,
    (jb_cons (js_set (i := 2) C.nd (je_call C (OK .begun) hk (D.d .begun).b (D.d .begun).m_begun (D.d .begun).F.kp  (by rfl) (jc_cons (je_var (i := 0)) jc_nil)))
    (jb_cons (js_for C (ji_list C (je_var (i := 1))) (jg_name (i := 3) C.nd) (jb_one (js_set (i := 2) C.nd (je_call C (OK .stepped) hk (D.d .stepped).b (D.d .stepped).m_stepped (D.d .stepped).F.kp  (by rfl) (jc_cons (je_var (i := 0)) (jc_cons (je_var (i := 2)) (jc_cons (je_var (i := 3)) jc_nil)))))))
    (jb_one (js_ret (je_var (i := 2))))))⟩
theorem d_l_longer (D : DD K mg Cc fa fdd) (Z : ZZ mg) (CP_ : CP K mg M Cc) (OK : ∀ i : Nm, FnOk P w K mg base (L2.CX P w) j (fa i) (fdd i) (psN i) (spF K M (Phi i))) (hk : j ≤ k) (cdv : Value) (A : Around) (outer : List Env) (s : Shared) (H : Hp) (E : XK) (C : CxF K (cxOf (L2.CX P w) P w K mg base N_l_longer (qlS .l_longer) (defScope s_l_longer) (fa .l_longer) cdv A outer s H E) E k)
    (tk : Takes (cxOf (L2.CX P w) P w K mg base N_l_longer (qlS .l_longer) (defScope s_l_longer) (fa .l_longer) cdv A outer s H E) (fun cls d _ H => E cls d H)) : ∃ t, JB K (cxOf (L2.CX P w) P w K mg base N_l_longer (qlS .l_longer) (defScope s_l_longer) (fa .l_longer) cdv A outer s H E) M E (defBody s_l_longer) t (f_l_longer Phi) := ⟨_,
    (jb_cons (js_setO (i := 2) C.nd (je_lst jc_nil))
    (jb_cons (js_for C (ji_list C (je_var (i := 0))) (jg_name (i := 3) C.nd) (jb_one (js_extX (i := 2) C (jo_var (i := 2)) (je_lc (own := [("_law_mark", 4)]) C (ji_list C (je_var (i := 1))) (blkOk_by (N := N_l_longer) (sc := defScope s_l_longer) (by decide +kernel)) (by exact fun s1 H1 Cc1 cl1 fp1 => (jg_name (i := 4) (CxF.blk C s1 H1 _ (compEnvC _ cl1 Cc1 _) fp1).nd)) (by exact fun s1 H1 Cc1 cl1 fp1 => jts_nil) (by exact fun s1 H1 Cc1 cl1 fp1 => (JE.f2c (je_add (CxF.blk C s1 H1 _ (compEnvC _ cl1 Cc1 _) fp1) (jo_var (i := 3)) (JE.f2o (je_lst (jc_cons (je_var (i := 4)) jc_nil))))))))))
    (jb_one (js_retV (jo_var (i := 2))))))⟩
theorem d_l_holds (D : DD K mg Cc fa fdd) (Z : ZZ mg) (CP_ : CP K mg M Cc) (OK : ∀ i : Nm, FnOk P w K mg base (L2.CX P w) j (fa i) (fdd i) (psN i) (spF K M (Phi i))) (hk : j ≤ k) (cdv : Value) (A : Around) (outer : List Env) (s : Shared) (H : Hp) (E : XK) (C : CxF K (cxOf (L2.CX P w) P w K mg base N_l_holds (qlS .l_holds) (defScope s_l_holds) (fa .l_holds) cdv A outer s H E) E k)
    (tk : Takes (cxOf (L2.CX P w) P w K mg base N_l_holds (qlS .l_holds) (defScope s_l_holds) (fa .l_holds) cdv A outer s H E) (fun cls d _ H => E cls d H)) : ∃ t, JB K (cxOf (L2.CX P w) P w K mg base N_l_holds (qlS .l_holds) (defScope s_l_holds) (fa .l_holds) cdv A outer s H E) M E (defBody s_l_holds) t (f_l_holds Phi) := ⟨_,
    (jb_one (js_ret (je_and (je_ne C (jo_var (i := 1)) (JE.f2o (je_lst jc_nil))) (je_one (je_ix C (JE.c2o (je_call C (OK .l_means) hk (D.d .l_means).b (D.d .l_means).m_l_means (D.d .l_means).F.kp  (by rfl) (jc_cons (je_var (i := 0)) (jc_cons (je_var (i := 1)) jc_nil)))) (JE.c2o je_int))))))⟩
theorem d_l_first (D : DD K mg Cc fa fdd) (Z : ZZ mg) (CP_ : CP K mg M Cc) (OK : ∀ i : Nm, FnOk P w K mg base (L2.CX P w) j (fa i) (fdd i) (psN i) (spF K M (Phi i))) (hk : j ≤ k) (cdv : Value) (A : Around) (outer : List Env) (s : Shared) (H : Hp) (E : XK) (C : CxF K (cxOf (L2.CX P w) P w K mg base N_l_first (qlS .l_first) (defScope s_l_first) (fa .l_first) cdv A outer s H E) E k)
    (tk : Takes (cxOf (L2.CX P w) P w K mg base N_l_first (qlS .l_first) (defScope s_l_first) (fa .l_first) cdv A outer s H E) (fun cls d _ H => E cls d H)) : ∃ t, JB K (cxOf (L2.CX P w) P w K mg base N_l_first (qlS .l_first) (defScope s_l_first) (fa .l_first) cdv A outer s H E) M E (defBody s_l_first) t (f_l_first Phi) := ⟨_,
    (jb_cons (js_set (i := 5) C.nd (JE.f2c (je_lst (jc_cons (JE.f2c (je_lst jc_nil)) jc_nil))))
    (jb_cons (js_for C (ji_rg1 Z.range (by rfl) (JE.f2o (je_add C (JE.c2o (je_len C Z.len (by rfl) (jo_var (i := 3)))) (JE.c2o je_int)))) (jg_name (i := 6) C.nd) (jb_cons (js_for C (ji_list C (je_var (i := 5))) (jg_name (i := 7) C.nd) (jb_cons (js_if (jt_eq C (jo_var (i := 7)) (jo_var (i := 3))) (jb_one (js_ret je_bl)) jb_nil)
    (jb_one (js_if (jt_eq C (JE.c2o (je_call C (OK .l_holds) hk (D.d .l_holds).b (D.d .l_holds).m_l_holds (D.d .l_holds).F.kp  (by rfl) (jc_cons (je_var (i := 0)) (jc_cons (JE.f2c (je_add C (jo_var (i := 1)) (jo_var (i := 7)))) jc_nil)))) (jo_var (i := 4))) (jb_one (js_ret je_bl)) jb_nil))))
    (jb_cons (js_if (jt_gt (JE.c2o (je_mul (JE.c2o (je_len C Z.len (by rfl) (jo_var (i := 5)))) (JE.c2o (je_len C Z.len (by rfl) (jo_var (i := 2)))))) (JE.c2o je_int)) (jb_one (js_ret je_bl)) jb_nil)
    (jb_one (js_set (i := 5) C.nd (je_call C (OK .l_longer) hk (D.d .l_longer).b (D.d .l_longer).m_l_longer (D.d .l_longer).F.kp  (by rfl) (jc_cons (je_var (i := 5)) (jc_cons (je_var (i := 2)) jc_nil))))))))
    (jb_one (js_ret je_bl))))⟩
theorem d_l_way (D : DD K mg Cc fa fdd) (Z : ZZ mg) (CP_ : CP K mg M Cc) (OK : ∀ i : Nm, FnOk P w K mg base (L2.CX P w) j (fa i) (fdd i) (psN i) (spF K M (Phi i))) (OF : ∀ i : Nm, frs i = true → FnOk P w K mg base (L2.CX P w) j (fa i) (fdd i) (psN i) (spFr K M (Phi i))) (hk : j ≤ k) (cdv : Value) (A : Around) (outer : List Env) (s : Shared) (H : Hp) (E : XK) (C : CxF K (cxOf (L2.CX P w) P w K mg base N_l_way (qlS .l_way) (defScope s_l_way) (fa .l_way) cdv A outer s H E) E k)
    (tk : Takes (cxOf (L2.CX P w) P w K mg base N_l_way (qlS .l_way) (defScope s_l_way) (fa .l_way) cdv A outer s H E) (fun cls d _ H => E cls d H)) : ∃ t, JB K (cxOf (L2.CX P w) P w K mg base N_l_way (qlS .l_way) (defScope s_l_way) (fa .l_way) cdv A outer s H E) M E (defBody s_l_way) t (f_l_way Phi) := ⟨_,
    (jb_cons (js_set (i := 4) C.nd (je_call C (OK .l_state) hk (D.d .l_state).b (D.d .l_state).m_l_state (D.d .l_state).F.kp  (by rfl) (jc_cons (je_var (i := 0)) (jc_cons (je_var (i := 2)) jc_nil))))
    (jb_cons (js_setM (i := 5) C.nd (je_callF C (OF .going rfl) hk (D.d .going).b (D.d .going).m_going (D.d .going).F.kp  (by rfl) (jc_cons (je_var (i := 0)) (jc_cons (je_var (i := 4)) (jc_cons (je_var (i := 3)) jc_nil)))))
    (jb_cons (js_if (jt_isN (jo_var (i := 5))) (jb_one (js_ret (je_eq C (JE.f2o (je_lc (own := [("_law_one", 6)]) C (ji_list C (je_call C (OK .reached) hk (D.d .reached).b (D.d .reached).m_reached (D.d .reached).F.kp  (by rfl) (jc_cons (je_var (i := 0)) (jc_cons (je_var (i := 4)) jc_nil)))) (blkOk_by (N := N_l_way) (sc := defScope s_l_way) (by decide +kernel)) (by exact fun s1 H1 Cc1 cl1 fp1 => (jg_name (i := 6) (CxF.blk C s1 H1 _ (compEnvC _ cl1 Cc1 _) fp1).nd)) (by exact fun s1 H1 Cc1 cl1 fp1 => (jts_one (jt_eq (CxF.blk C s1 H1 _ (compEnvC _ cl1 Cc1 _) fp1) (JE.c2o (je_call (CxF.blk C s1 H1 _ (compEnvC _ cl1 Cc1 _) fp1) (OK .is_met) hk (D.d .is_met).b (D.d .is_met).m_is_met (D.d .is_met).F.kp  (by rfl) (jc_cons (je_var (i := 6)) jc_nil))) (jo_var (i := 3))))) (by exact fun s1 H1 Cc1 cl1 fp1 => (je_var (i := 6))))) (JE.f2o (je_lst jc_nil))))) jb_nil)
    (jb_cons (js_if (JW.jt (jw_or (jt_not (jt_val (je_isi (T := "list") C Z.isinstance (by rfl) Z.list (by rfl) (by decide +kernel) (by decide) (jo_var (i := 5))))) (jw_or1 (jt_ne C (JE.f2o (je_lcO (i := 5) (own := [("_law_mark", 7)]) C (jo_var (i := 5)) (blkOk_by (N := N_l_way) (sc := defScope s_l_way) (by decide +kernel)) (by exact fun s2 H2 Cc2 cl2 fp2 => (jg_name (i := 7) (CxF.blk C s2 H2 _ (compEnvC _ cl2 Cc2 _) fp2).nd)) (by exact fun s2 H2 Cc2 cl2 fp2 => (jts_one (jt_ni (CxF.blk C s2 H2 _ (compEnvC _ cl2 Cc2 _) fp2) (jo_var (i := 7)) (JE.c2o (je_fld (CxF.blk C s2 H2 _ (compEnvC _ cl2 Cc2 _) fp2) CP_ (jo_var (i := 0))))))) (by exact fun s2 H2 Cc2 cl2 fp2 => (je_var (i := 7))))) (JE.f2o (je_lst jc_nil)))))) (jb_one (js_ret je_bl)) jb_nil)
    (jb_cons (js_if (JW.jt (jw_or (jt_ne C (JE.c2o (je_call C (OK .l_holds) hk (D.d .l_holds).b (D.d .l_holds).m_l_holds (D.d .l_holds).F.kp  (by rfl) (jc_cons (je_var (i := 1)) (jc_cons (JE.f2c (je_add C (jo_var (i := 2)) (jo_var (i := 5)))) jc_nil)))) (jo_var (i := 3))) (jw_or1 (jt_not (jt_val (je_callO C (OK .l_first) hk (D.d .l_first).b (D.d .l_first).m_l_first (D.d .l_first).F.kp  (by rfl) (ja_cons (jo_var (i := 1)) (ja_cons (jo_var (i := 2)) (ja_cons (JE.c2o (je_fld C CP_ (jo_var (i := 0)))) (ja_cons (jo_var (i := 5)) (ja_cons (jo_var (i := 3)) ja_nil))))))))))) (jb_one (js_ret je_bl)) jb_nil)
    (jb_cons (js_appX (i := 5) C (jo_var (i := 5)) je_str)
    (jb_one (js_ret (je_eq C (JE.c2o (je_call C (OK .going) hk (D.d .going).b (D.d .going).m_going (D.d .going).F.kp  (by rfl) (jc_cons (je_var (i := 0)) (jc_cons (je_var (i := 4)) (jc_cons (je_var (i := 3)) jc_nil))))) (JE.f2o (je_slice C (jo_var (i := 5)) ji_no (ji_sm (JE.c2o (je_neg (JE.c2o je_int)))))))))))))))⟩
theorem d_l_fields (D : DD K mg Cc fa fdd) (Z : ZZ mg) (CP_ : CP K mg M Cc) (OK : ∀ i : Nm, FnOk P w K mg base (L2.CX P w) j (fa i) (fdd i) (psN i) (spF K M (Phi i))) (hk : j ≤ k) (cdv : Value) (A : Around) (outer : List Env) (s : Shared) (H : Hp) (E : XK) (C : CxF K (cxOf (L2.CX P w) P w K mg base N_l_fields (qlS .l_fields) (defScope s_l_fields) (fa .l_fields) cdv A outer s H E) E k)
    (tk : Takes (cxOf (L2.CX P w) P w K mg base N_l_fields (qlS .l_fields) (defScope s_l_fields) (fa .l_fields) cdv A outer s H E) (fun cls d _ H => E cls d H)) : ∃ t, JB K (cxOf (L2.CX P w) P w K mg base N_l_fields (qlS .l_fields) (defScope s_l_fields) (fa .l_fields) cdv A outer s H E) M E (defBody s_l_fields) t (f_l_fields Phi) := ⟨_,
    (jb_one (js_ret (JE.f2c (je_lst (jc_cons (JE.f2c (je_list C Z.list (by rfl) (JE.c2o (je_fld C CP_ (jo_var (i := 0)))))) (jc_cons (JE.f2c (je_list C Z.list (by rfl) (JE.c2o (je_fld C CP_ (jo_var (i := 0)))))) (jc_cons (JE.f2c (je_list C Z.list (by rfl) (JE.c2o (je_fld C CP_ (jo_var (i := 0)))))) (jc_cons (JE.f2c (je_list C Z.list (by rfl) (JE.c2o (je_fld C CP_ (jo_var (i := 0)))))) jc_nil))))))))⟩
theorem d_law (D : DD K mg Cc fa fdd) (Z : ZZ mg) (CP_ : CP K mg M Cc) {fL : Addr} (OK : ∀ i : Nm, FnOk P w K mg base (L2.CX P w) j (fa i) (fdd i) (psN i) (spF K M (Phi i))) (MK : Mk K Cc fI) (OI : FnOk P w K mg base (L2.CX P w) ji fI fdI P_Plan___init__ (spI K M Cc psi_)) (hI : ji + 1 ≤ k) (bI : Binds K fdI P_Plan___init__ []) (hk : j ≤ k) (cdv : Value) (A : Around) (outer : List Env) (s : Shared) (H : Hp) (E : XK) (C : CxF K (cxOf (L2.CX P w) P w K mg base N_law "law" (defScope s_law) fL cdv A outer s H E) E k)
    (tk : Takes (cxOf (L2.CX P w) P w K mg base N_law "law" (defScope s_law) fL cdv A outer s H E) (fun cls d _ H => E cls d H)) : ∃ t, JB K (cxOf (L2.CX P w) P w K mg base N_law "law" (defScope s_law) fL cdv A outer s H E) M E (defBody s_law) t (f_law Phi psi_) := ⟨_,
    (jb_cons (js_set (i := 1) C.nd (je_call C (OK .l_names) hk (D.d .l_names).b (D.d .l_names).m_l_names (D.d .l_names).F.kp  (by rfl) (jc_cons (je_call C (OK .l_cell_at) hk (D.d .l_cell_at).b (D.d .l_cell_at).m_l_cell_at (D.d .l_cell_at).F.kp  (by rfl) (jc_cons (je_var (i := 0)) (jc_cons je_int jc_nil))) jc_nil)))
    (jb_cons (js_set (i := 2) C.nd (je_call C (OK .l_built) hk (D.d .l_built).b (D.d .l_built).m_l_built (D.d .l_built).F.kp  (by rfl) (jc_cons (je_var (i := 0)) (jc_cons (je_var (i := 1)) (jc_cons je_int jc_nil)))))
    (jb_cons (js_set (i := 3) C.nd (je_make C CP_.mg MK OI hI bI (by rfl) (jc_cons (je_var (i := 2)) jc_nil)))
    (jb_cons (js_set (i := 4) C.nd (je_call C (OK .l_run) hk (D.d .l_run).b (D.d .l_run).m_l_run (D.d .l_run).F.kp  (by rfl) (jc_cons (je_var (i := 0)) (jc_cons je_int (jc_cons (je_var (i := 1)) (jc_cons (je_mod (JE.c2o (je_div (JE.c2o (je_call C (OK .l_cell_at) hk (D.d .l_cell_at).b (D.d .l_cell_at).m_l_cell_at (D.d .l_cell_at).F.kp  (by rfl) (jc_cons (je_var (i := 0)) (jc_cons je_int jc_nil)))) (JE.c2o je_int))) (JE.c2o je_int)) jc_nil))))))
    (jb_cons (js_set (i := 5) C.nd (je_call C (OK .l_fields) hk (D.d .l_fields).b (D.d .l_fields).m_l_fields (D.d .l_fields).F.kp  (by rfl) (jc_cons (je_var (i := 3)) jc_nil)))
    (jb_cons (js_if (JW.jt (jw_or (jt_not (jt_val (je_call C (OK .l_way) hk (D.d .l_way).b (D.d .l_way).m_l_way (D.d .l_way).F.kp  (by rfl) (jc_cons (je_var (i := 3)) (jc_cons (je_var (i := 2)) (jc_cons (je_var (i := 4)) (jc_cons je_bl jc_nil))))))) (jw_or1 (jt_not (jt_val (je_call C (OK .l_way) hk (D.d .l_way).b (D.d .l_way).m_l_way (D.d .l_way).F.kp  (by rfl) (jc_cons (je_var (i := 3)) (jc_cons (je_var (i := 2)) (jc_cons (je_var (i := 4)) (jc_cons je_bl jc_nil)))))))))) (jb_one (js_ret je_bl)) jb_nil)
    (jb_one (js_ret (je_eq C (JE.c2o (je_call C (OK .l_fields) hk (D.d .l_fields).b (D.d .l_fields).m_l_fields (D.d .l_fields).F.kp  (by rfl) (jc_cons (je_var (i := 3)) jc_nil))) (jo_var (i := 5)))))))))))⟩
theorem dF_reached (D : DD K mg Cc fa fdd) (Z : ZZ mg) (CP_ : CP K mg M Cc) (OK : ∀ i : Nm, FnOk P w K mg base (L2.CX P w) j (fa i) (fdd i) (psN i) (spF K M (Phi i))) (hk : j ≤ k) (cdv : Value) (A : Around) (outer : List Env) (s : Shared) (H : Hp) (E : XK) (C : CxF K (cxOf (L2.CX P w) P w K mg base N_reached (qlS .reached) (defScope s_reached) (fa .reached) cdv A outer s H E) E k)
    (tk : Takes (cxOf (L2.CX P w) P w K mg base N_reached (qlS .reached) (defScope s_reached) (fa .reached) cdv A outer s H E) (fun cls d _ H => E cls d H)) : ∃ t, JBF K (cxOf (L2.CX P w) P w K mg base N_reached (qlS .reached) (defScope s_reached) (fa .reached) cdv A outer s H E) M E (defBody s_reached) t (f_reached Phi) := ⟨_,
    (jbf_cons (jsf_lift (js_setO (i := 2) C.nd (je_lst (jc_cons (je_var (i := 1)) jc_nil))) (nr_setO _))
    (jbf_cons (jsf_lift (js_set (i := 3) C.nd je_int) (nr_set _))
    (jbf_cons (jsf_lift (js_wh C (jt_lt (jo_var (i := 3)) (JE.c2o (je_len C Z.len (by rfl) (jo_var (i := 2))))) (jb_cons (js_for C (ji_list C (je_fld C CP_ (jo_var (i := 0)))) (jg_name (i := 4) C.nd) (jb_cons (js_set (i := 5) C.nd (je_call C (OK .stepped) hk (D.d .stepped).b (D.d .stepped).m_stepped (D.d .stepped).F.kp  (by rfl) (jc_cons (je_var (i := 0)) (jc_cons (je_ix C (jo_var (i := 2)) (jo_var (i := 3))) (jc_cons (je_var (i := 4)) jc_nil)))))
    (jb_one (js_if (jt_ni C (jo_var (i := 5)) (jo_var (i := 2))) (jb_one (js_appX (i := 2) C (jo_var (i := 2)) (je_var (i := 5)))) jb_nil))))
    (jb_one (js_set (i := 3) C.nd (JE.f2c (je_add C (jo_var (i := 3)) (JE.c2o je_int))))))) (nr_wh (nr_seq (nr_for (nr_seq (nr_set _) (nr_if (nr_app _) nr_next))) (nr_set _))))
    (jbf_one (jsf_retO (jo_var (i := 2)))))))⟩
theorem d_Plan___init__ (D : DD K mg Cc fa fdd) (Z : ZZ mg) (CP_ : CP K mg M Cc) (OK : ∀ i : Nm, FnOk P w K mg base (L2.CX P w) j (fa i) (fdd i) (psN i) (spF K M (Phi i))) (hk : j ≤ k) (cdv : Value) (A : Around) (outer : List Env) (s : Shared) (H : Hp) (E : XK) (C : CxF K (cxOf (L2.CX P w) P w K mg base N_Plan___init__ "Plan.__init__" (defScope s_Plan___init__) fI cdv A outer s H E) E k)
    (tk : Takes (cxOf (L2.CX P w) P w K mg base N_Plan___init__ "Plan.__init__" (defScope s_Plan___init__) fI cdv A outer s H E) (fun cls d _ H => E cls d H)) : ∃ tW tP tM tL tn, JN K (cxOf (L2.CX P w) P w K mg base N_Plan___init__ "Plan.__init__" (defScope s_Plan___init__) fI cdv A outer s H E) M E (defBody s_Plan___init__) tW tP tM tL tn (fCall (Phi .wishes_in) (fCons (fVar 1) fNil)) (fCall (Phi .pasts_in) (fCons (fVar 1) fNil)) (fCall (Phi .marks_in) (fCons (fVar 1) fNil)) (fLst (fCons (fCon (.int 1)) fNil)) (f1 oNeg (fCon (.int 1))) := ⟨_, _, _, _, _,
    (jn_of (js_fld C (je_call C (OK .wishes_in) hk (D.d .wishes_in).b (D.d .wishes_in).m_wishes_in (D.d .wishes_in).F.kp  (by rfl) (jc_cons (je_var (i := 1)) jc_nil)) (JE.pe (K := K) (M := M) (E := E) (jo_var (i := 0)))) (js_fld C (je_call C (OK .pasts_in) hk (D.d .pasts_in).b (D.d .pasts_in).m_pasts_in (D.d .pasts_in).F.kp  (by rfl) (jc_cons (je_var (i := 1)) jc_nil)) (JE.pe (K := K) (M := M) (E := E) (jo_var (i := 0)))) (js_fld C (je_call C (OK .marks_in) hk (D.d .marks_in).b (D.d .marks_in).m_marks_in (D.d .marks_in).F.kp  (by rfl) (jc_cons (je_var (i := 1)) jc_nil)) (JE.pe (K := K) (M := M) (E := E) (jo_var (i := 0)))) (js_fld C (je_lst (jc_cons je_int jc_nil)) (JE.pe (K := K) (M := M) (E := E) (jo_var (i := 0)))) (js_loop C (fun p => (JE.pe (K := K) (M := M) (E := E) (jo_var (i := 0)))) rfl (Or.inl rfl) (Or.inl rfl) (je_neg (JE.c2o je_int)) (fun _ _ => rfl) rfl (fun p => rfl) (C.hK ▸ pe_bm PySem.F.plainAttrs_list PySem.F.slot_list_append PySem.F.type_list_append mt_append (pe_fld (JE.pe (K := K) (M := M) (E := E) (jo_var (i := 0))) rfl) (pa_cons (pe_op op_mul pe_int (pe_ix ix_seq (pe_fld (JE.pe (K := K) (M := M) (E := E) (jo_var (i := 0))) rfl) (JE.pe (K := K) (M := M) (E := E) (je_neg (JE.c2o je_int))) (fun _ _ => rfl))) pa_nil)) rfl (fun _ => rfl)))⟩
end
end K08

namespace K08
open PySem PySem.Spec PyProof.Rows L2 Py
/-! ### small things -/
def runD (run : List Str) : D := .list (run.map .str)
theorem runD_at {run : List Str} {i : Nat} (h : i < run.length) : atI (run.map PyData.str) (i : Int) = some (.str (run.getD i "")) := by
  refine atI_nat ?_
  rw [List.getElem?_map, List.getElem?_eq_getElem h]
  simp [List.getD, h]
theorem rg_nat (i j : Nat) : rgD (i : Int) (j : Int) = (List.range (j - i)).map fun n => .int ((i + n : Nat) : Int) := by
  unfold rgD
  have e : ((j : Int) - (i : Int)).toNat = j - i := by omega
  rw [e]
  apply List.map_congr_left
  intro n _
  simp
/-- every k of a within is at most 4 -/
def ksOk : Sta → Prop
  | .mark _ => True | .yes => True
  | .nt s => ksOk s | .nx s => ksOk s | .bf s => ksOk s
  | .wi k s => k ≤ 4 ∧ ksOk s
  | .an s t => ksOk s ∧ ksOk t | .or s t => ksOk s ∧ ksOk t | .un s t => ksOk s ∧ ksOk t | .si s t => ksOk s ∧ ksOk t
theorem rgOk_nat {i j : Nat} (h : i ≤ 14000000) (h2 : j ≤ 14000000) : rgOk (i : Int) (j : Int) = true := by
  unfold rgOk
  simp only [Bool.and_eq_true, decide_eq_true_eq]
  omega
/-- nothing that looks ahead -/
def noFut : Sta → Prop
  | .mark _ => True | .yes => True
  | .nt s => noFut s | .bf s => noFut s
  | .nx _ => False | .wi _ _ => False | .un _ _ => False
  | .an s t => noFut s ∧ noFut t | .or s t => noFut s ∧ noFut t | .si s t => noFut s ∧ noFut t
/-- nothing that looks ahead within before and since -/
def unm : Sta → Prop
  | .mark _ => True | .yes => True
  | .nt s => unm s | .nx s => unm s | .wi _ s => unm s
  | .bf s => noFut s
  | .an s t => unm s ∧ unm t | .or s t => unm s ∧ unm t | .un s t => unm s ∧ unm t
  | .si s t => noFut s ∧ noFut t
end K08

namespace K08
open PySem PySem.Spec PyProof.Rows L2 Py
/-! ### the law's own rows -/
def untilT : List Bool → List Bool → Bool → List Bool
  | p :: ps, q :: qs, a => (q || (p && a)) :: untilT ps qs (q || (p && a))
  | _, _, _ => []
def boolD (b : Bool) : D := .bool b
theorem untilT_len : ∀ (ps qs : List Bool) (a : Bool), ps.length = qs.length → (untilT ps qs a).length = ps.length
  | [], [], _, _ => rfl
  | p :: ps, q :: qs, a, h => by simp [untilT, untilT_len ps qs _ (by simpa using h)]
theorem zipD (ps qs : List Bool) : ((ps.map PyData.bool).zip (qs.map PyData.bool)).map (fun p => PyData.tuple [p.1, p.2]) = (ps.zip qs).map fun p => .tuple [.bool p.1, .bool p.2] := by
  rw [List.zip_map, List.map_map]
  rfl
theorem run_until {Phi : Nm → List D → Option Rs} (ps qs : List Bool) (hl : ps.length = qs.length) (hz : ps.length ≤ 13000000) :
    runF 2 6 (f_l_until Phi) [.list (ps.map .bool), .list (qs.map .bool)] = some (.ok (.list ((untilT ps qs false).map .bool))) := by
  have key : ∀ (ps qs acc : List Bool) (a : Bool) (P Q x y : Sl), ps.length = qs.length → acc.length + ps.length ≤ 14000000 →
      fSeq (fun γ => forF (gfTup (gsCons (gfN 4) (gsCons (gfN 5) gsNil))) (fSeq (sSet 3 (fOr (fVar 5) (fAnd (fVar 4) (fVar 3)))) (sApp 2 (fVar 3))) ((ps.zip qs).map fun p => .tuple [.bool p.1, .bool p.2]) γ) (sRet (fOpd 2))
        [P, Q, .ow (acc.map .bool), .va (.bool a), x, y] = some (.rt (.list ((acc ++ untilT ps qs a).map .bool))) := by
    intro ps
    induction ps with
    | nil =>
      intro qs acc a P Q x y hl hz
      cases qs with
      | nil => simp [fOwn, fOpN,  fSeq, fNext, sRet, sRetN, sIf, sSet, sSetO, sAsg, sApp, sFor, forF, fVar, fOpd, fCon, f2, f1, fNil, fCons, bR, bL, bA, bLL, oR, fT, gAnd, gOr, gNot, gYes, fAnd, fOr, fNot, fIte, fTup, fLst, fCall, fCallO, fB, fM1, fSl, fiNo, fiSm, fLc, wLst, wTup, wStr, wRg1, wRg2, wZip, wEnum, gfN, gfTup, gsNil, gsCons, fLrg, fLrg3, wipeG, xSeq, xSet, xOf, xCall, xIf, xRet, xNext, xTup, xCons, xNil, xPut, xCallP, sRetX, sSetX, List.getElem?_cons_zero, List.getElem?_cons_succ, List.set_cons_zero, List.set_cons_succ, untilT]
      | cons _ _ => simp at hl
    | cons p ps ih =>
      intro qs acc a P Q x y hl hz
      cases qs with
      | nil => simp at hl
      | cons q qs =>
        have ih' := ih qs (acc ++ [q || (p && a)]) (q || (p && a)) P Q (.va (.bool p)) (.va (.bool q)) (by simpa using hl) (by simp at hz ⊢; omega)
        have hb : acc.length ≤ big := by simp at hz; unfold big; omega
        simp only [fSeq] at ih'
        cases q <;> cases p <;> simp [fOwn, fOpN,  fSeq, fNext, sRet, sRetN, sIf, sSet, sSetO, sAsg, sApp, sFor, forF, fVar, fOpd, fCon, f2, f1, fNil, fCons, bR, bL, bA, bLL, oR, fT, gAnd, gOr, gNot, gYes, fAnd, fOr, fNot, fIte, fTup, fLst, fCall, fCallO, fB, fM1, fSl, fiNo, fiSm, fLc, wLst, wTup, wStr, wRg1, wRg2, wZip, wEnum, gfN, gfTup, gsNil, gsCons, fLrg, fLrg3, wipeG, xSeq, xSet, xOf, xCall, xIf, xRet, xNext, xTup, xCons, xNil, xPut, xCallP, sRetX, sSetX, List.getElem?_cons_zero, List.getElem?_cons_succ, List.set_cons_zero, List.set_cons_succ, untilT, hb] at ih' ⊢ <;> exact ih'
  have k := key ps qs [] false (.va (.list (ps.map .bool))) (.va (.list (qs.map .bool))) .no .no hl (by simp; omega)
  simp only [fSeq] at k
  unfold runF f_l_until
  simp [entry, fSeq, sSetO, fLst, fNil, bA_ok, sSet, fCon, sFor, wZip, fCons, fVar, big, zipD, List.replicate] at k ⊢
  rw [k]
def winT (row : List Bool) (n k : Nat) : List Bool := (List.range n).map fun i => ((row.drop i).take (k + 1)).any id
def meansT (run : List Str) : Sta → List Bool
  | .mark m => run.map (· == m)
  | .yes => run.map fun _ => true
  | .nt s => (meansT run s).map (!·)
  | .an s t => ((meansT run s).zip (meansT run t)).map fun p => p.1 && p.2
  | .or s t => ((meansT run s).zip (meansT run t)).map fun p => p.1 || p.2
  | .nx s => (meansT run s ++ [false]).drop 1
  | .bf s => ([false] ++ meansT run s).take run.length
  | .wi k s => winT (meansT run s) run.length k
  | .si s t => untilT (meansT run s) (meansT run t) false
  | .un s t => (untilT (meansT run s).reverse (meansT run t).reverse false).reverse
theorem meansT_len (run : List Str) : ∀ s : Sta, (meansT run s).length = run.length
  | .mark m => by simp [meansT]
  | .yes => by simp [meansT]
  | .nt s => by simp [meansT, meansT_len run s]
  | .an s t => by simp [meansT, meansT_len run s, meansT_len run t]
  | .or s t => by simp [meansT, meansT_len run s, meansT_len run t]
  | .nx s => by simp [meansT, meansT_len run s]
  | .bf s => by simp [meansT, meansT_len run s]
  | .wi k s => by simp [meansT, winT]
  | .si s t => by
    have h := untilT_len (meansT run s) (meansT run t) false (by rw [meansT_len run s, meansT_len run t])
    rw [meansT_len run s] at h
    exact h
  | .un s t => by simp [meansT, untilT_len _ _ false (show (meansT run s).reverse.length = (meansT run t).reverse.length by simp [meansT_len run s, meansT_len run t]), meansT_len run s]
def rowD (r : List Bool) : D := .list (r.map .bool)
theorem cut_from (ds : List D) (n : Nat) (h : n ≤ ds.length) : Py.cutD ds (some (n : Int)) none = ds.drop n := by
  unfold Py.cutD
  rw [HT.sIx_nat, HT.sIx_none, Nat.min_eq_left h]
  exact List.take_of_length_le (by simp)
theorem cut_to (ds : List D) (n : Nat) : Py.cutD ds none (some (n : Int)) = ds.take n := by
  unfold Py.cutD
  rw [HT.sIx_nat, HT.sIx_none, List.drop_zero, Nat.sub_zero]
  by_cases h : n ≤ ds.length
  · rw [Nat.min_eq_left h]
  · rw [Nat.min_eq_right (by omega), List.take_of_length_le (Nat.le_refl _), List.take_of_length_le (by omega)]
theorem cut_mid (ds : List D) (i j : Nat) (h : i ≤ ds.length) (h2 : i ≤ j) : Py.cutD ds (some (i : Int)) (some (j : Int)) = (ds.drop i).take (j - i) := by
  unfold Py.cutD
  rw [HT.sIx_nat, HT.sIx_nat, Nat.min_eq_left h]
  by_cases h3 : j ≤ ds.length
  · rw [Nat.min_eq_left h3]
  · rw [Nat.min_eq_right (by omega), List.take_of_length_le (by simp), List.take_of_length_le (by simp; omega)]
theorem tail_tup (a b : D) (r : List D) : oSl (some 1) none (.tuple (a :: b :: r)) = some (.tuple (b :: r)) := by
  have h1 : HT.sIx (a :: b :: r).length 0 (some (1 : Int)) = 1 := by
    have := HT.sIx_nat (a :: b :: r).length 0 1
    simp at this
    simpa using this
  have h2 := cut_from (a :: b :: r) 1 (by simp)
  unfold oSl
  simp only [h1, HT.sIx_none]
  simp
  exact h2
theorem tail_one (a : D) : oSl (some 1) none (.tuple [a]) = some (.tuple []) := by
  have h1 : HT.sIx ([a] : List D).length 0 (some (1 : Int)) = 1 := by
    have := HT.sIx_nat ([a] : List D).length 0 1
    simpa using this
  have h2 := cut_from [a] 1 (by simp)
  unfold oSl
  simp only [h1, HT.sIx_none]
  simp
  exact h2
theorem isi_str (x : Str) : oIsi "tuple" (.str x) = some (.bool false) := by simp [oIsi, isT, tyN]
theorem isi_int (x : Int) : oIsi "tuple" (.int x) = some (.bool false) := by simp [oIsi, isT, tyN]
theorem isi_tup (x : List D) : oIsi "tuple" (.tuple x) = some (.bool true) := by simp [oIsi, isT, tyN]
theorem isi_enc (s : Sta) : oIsi "tuple" (enc s) = some (.bool true) := by
  obtain ⟨r, e⟩ := enc_word s
  rw [e]; exact isi_tup _
/-- the rows of the parts -/
theorem rows1 {Phi : Nm → List D → Option Rs} {R : D} {s : Sta} {row : List Bool} {P x y z u v w : Sl} {pre : List D} (hp : pre = [] ∨ ∃ k : Int, pre = [.int k]) (h : Phi .l_means [enc s, R] = some (.ok (rowD row))) :
    lcF (gfN 4) (fT (f1 (oIsi "tuple") (fOpd 4))) (fCall (Phi .l_means) (fCons (fVar 4) (fCons (fVar 1) fNil))) [P, .va R, x, y, .no, z, u, v, w] (pre ++ [enc s]) = some [rowD row] := by
  rcases hp with rfl | ⟨k, rfl⟩ <;> simp [lcF, fOwn, fOpN,  fSeq, fNext, sRet, sRetN, sIf, sSet, sSetO, sAsg, sApp, sFor, forF, fVar, fOpd, fCon, f2, f1, fNil, fCons, bR, bL, bA, bLL, oR, fT, gAnd, gOr, gNot, gYes, fAnd, fOr, fNot, fIte, fTup, fLst, fCall, fCallO, fB, fM1, fSl, fiNo, fiSm, fLc, wLst, wTup, wStr, wRg1, wRg2, wZip, wEnum, gfN, gfTup, gsNil, gsCons, fLrg, fLrg3, wipeG, xSeq, xSet, xOf, xCall, xIf, xRet, xNext, xTup, xCons, xNil, xPut, xCallP, sRetX, sSetX, List.getElem?_cons_zero, List.getElem?_cons_succ, List.set_cons_zero, List.set_cons_succ, isi_enc, isi_int, h]
theorem rows2 {Phi : Nm → List D → Option Rs} {R : D} {s t : Sta} {row row2 : List Bool} {P x y z u v w : Sl} (h : Phi .l_means [enc s, R] = some (.ok (rowD row))) (h2 : Phi .l_means [enc t, R] = some (.ok (rowD row2))) :
    lcF (gfN 4) (fT (f1 (oIsi "tuple") (fOpd 4))) (fCall (Phi .l_means) (fCons (fVar 4) (fCons (fVar 1) fNil))) [P, .va R, x, y, .no, z, u, v, w] [enc s, enc t] = some [rowD row, rowD row2] := by
  simp [lcF, fOwn, fOpN,  fSeq, fNext, sRet, sRetN, sIf, sSet, sSetO, sAsg, sApp, sFor, forF, fVar, fOpd, fCon, f2, f1, fNil, fCons, bR, bL, bA, bLL, oR, fT, gAnd, gOr, gNot, gYes, fAnd, fOr, fNot, fIte, fTup, fLst, fCall, fCallO, fB, fM1, fSl, fiNo, fiSm, fLc, wLst, wTup, wStr, wRg1, wRg2, wZip, wEnum, gfN, gfTup, gsNil, gsCons, fLrg, fLrg3, wipeG, xSeq, xSet, xOf, xCall, xIf, xRet, xNext, xTup, xCons, xNil, xPut, xCallP, sRetX, sSetX, List.getElem?_cons_zero, List.getElem?_cons_succ, List.set_cons_zero, List.set_cons_succ, isi_enc, h, h2]
theorem in_bools (bs : List Bool) : oIn false (.bool true) (.list (bs.map .bool)) = some (.bool (bs.any id)) := by
  have h1 : PyData.canLayAll0 (bs.map PyData.bool) = true := by
    induction bs with
    | nil => simp [PyData.canLayAll0]
    | cons b r ih => simp [PyData.canLayAll0, PyData.canLay0, ih]
  have h2 : PyData.depthAll (bs.map PyData.bool) = 0 := by
    induction bs with
    | nil => simp [PyData.depthAll]
    | cons b r ih => simp [PyData.depthAll, PyData.depth, ih (by simpa [PyData.canLayAll0, PyData.canLay0] using h1)]
  have h3 : SeqAt.shaped (.list (bs.map PyData.bool)) = true := by
    show ((PyData.list (bs.map .bool)).canLay0 && decide ((PyData.list (bs.map .bool)).depth ≤ 64)) = true
    simp [PyData.canLay0, PyData.depth, h1, h2]
  have h4 : SeqAt.shaped (.bool true) = true := by decide +kernel
  have h5 : ((bs.map PyData.bool).any fun z => PyData.eqv z (.bool true)) = bs.any id := by
    rw [List.any_map]
    congr 1
    funext b
    cases b <;> simp [PyData.eqv]
  show (if SeqAt.shaped (.bool true) = true ∧ SeqAt.shaped (.list (bs.map PyData.bool)) = true then some (PyData.bool (if false = true then !((bs.map PyData.bool).any fun z => PyData.eqv z (.bool true)) else (bs.map PyData.bool).any fun z => PyData.eqv z (.bool true))) else none) = _
  rw [if_pos ⟨h4, h3⟩, h5]
  simp

theorem run_means {run : List Str} (hr : run.length ≤ 13000000) : ∀ (s : Sta) (n : Nat), ksOk s → s.depth + 1 ≤ n → Phi n .l_means [enc s, runD run] = some (.ok (rowD (meansT run s))) := by
  intro s
  have lr : (runD run) = .list (run.map .str) := rfl
  have lb : run.length ≤ big := by unfold big; omega
  have lb1 : run.length + 1 ≤ big := by unfold big; omega
  have lb2 : 1 + run.length ≤ big := by unfold big; omega
  induction s with
  | mark m =>
    intro n hk hn
    obtain ⟨n, rfl⟩ : ∃ k, n = k + 1 := ⟨n - 1, by simp [Sta.depth] at hn; omega⟩
    rw [phi_l_means]
    have lc : lcF (gfN 5) gYes (f2 oEq (fOpd 5) (f2 oIx (fOpd 0) (fCon (.int 1)))) [.va (.tuple [.str "mark", .str m]), .va (.list (run.map .str)), .va (.str "mark"), .no, .no, .no, .no, .no, .no] (run.map .str) = some (run.map fun x => .bool (x == m)) :=
      lcF_map (fun x => .str x) (fun x => .bool (x == m)) run fun x _ => ⟨_, rfl, rfl, by simp [fOwn, fOpN,  fSeq, fNext, sRet, sRetN, sIf, sSet, sSetO, sAsg, sApp, sFor, forF, fVar, fOpd, fCon, f2, f1, fNil, fCons, bR, bL, bA, bLL, oR, fT, gAnd, gOr, gNot, gYes, fAnd, fOr, fNot, fIte, fTup, fLst, fCall, fCallO, fB, fM1, fSl, fiNo, fiSm, fLc, wLst, wTup, wStr, wRg1, wRg2, wZip, wEnum, gfN, gfTup, gsNil, gsCons, fLrg, fLrg3, wipeG, xSeq, xSet, xOf, xCall, xIf, xRet, xNext, xTup, xCons, xNil, xPut, xCallP, sRetX, sSetX, List.getElem?_cons_zero, List.getElem?_cons_succ, List.set_cons_zero, List.set_cons_succ]⟩
    simp [runF, entry, f_l_means, enc, fOwn, fOpN,  fSeq, fNext, sRet, sRetN, sIf, sSet, sSetO, sAsg, sApp, sFor, forF, fVar, fOpd, fCon, f2, f1, fNil, fCons, bR, bL, bA, bLL, oR, fT, gAnd, gOr, gNot, gYes, fAnd, fOr, fNot, fIte, fTup, fLst, fCall, fCallO, fB, fM1, fSl, fiNo, fiSm, fLc, wLst, wTup, wStr, wRg1, wRg2, wZip, wEnum, gfN, gfTup, gsNil, gsCons, fLrg, fLrg3, wipeG, xSeq, xSet, xOf, xCall, xIf, xRet, xNext, xTup, xCons, xNil, xPut, xCallP, sRetX, sSetX, List.getElem?_cons_zero, List.getElem?_cons_succ, List.set_cons_zero, List.set_cons_succ, runD, rowD, meansT, lc, lb]
  | yes =>
    intro n hk hn
    obtain ⟨n, rfl⟩ : ∃ k, n = k + 1 := ⟨n - 1, by simp [Sta.depth] at hn; omega⟩
    rw [phi_l_means]
    have lc : lcF (gfN 5) gYes (fCon (.bool true)) [.va (.tuple [.str "yes"]), .va (.list (run.map .str)), .va (.str "yes"), .no, .no, .no, .no, .no, .no] (run.map .str) = some (run.map fun x => .bool true) :=
      lcF_map (fun x => .str x) (fun x => .bool true) run fun x _ => ⟨_, rfl, rfl, by simp [fOwn, fOpN,  fSeq, fNext, sRet, sRetN, sIf, sSet, sSetO, sAsg, sApp, sFor, forF, fVar, fOpd, fCon, f2, f1, fNil, fCons, bR, bL, bA, bLL, oR, fT, gAnd, gOr, gNot, gYes, fAnd, fOr, fNot, fIte, fTup, fLst, fCall, fCallO, fB, fM1, fSl, fiNo, fiSm, fLc, wLst, wTup, wStr, wRg1, wRg2, wZip, wEnum, gfN, gfTup, gsNil, gsCons, fLrg, fLrg3, wipeG, xSeq, xSet, xOf, xCall, xIf, xRet, xNext, xTup, xCons, xNil, xPut, xCallP, sRetX, sSetX, List.getElem?_cons_zero, List.getElem?_cons_succ, List.set_cons_zero, List.set_cons_succ]⟩
    simp [runF, entry, f_l_means, enc, fOwn, fOpN,  fSeq, fNext, sRet, sRetN, sIf, sSet, sSetO, sAsg, sApp, sFor, forF, fVar, fOpd, fCon, f2, f1, fNil, fCons, bR, bL, bA, bLL, oR, fT, gAnd, gOr, gNot, gYes, fAnd, fOr, fNot, fIte, fTup, fLst, fCall, fCallO, fB, fM1, fSl, fiNo, fiSm, fLc, wLst, wTup, wStr, wRg1, wRg2, wZip, wEnum, gfN, gfTup, gsNil, gsCons, fLrg, fLrg3, wipeG, xSeq, xSet, xOf, xCall, xIf, xRet, xNext, xTup, xCons, xNil, xPut, xCallP, sRetX, sSetX, List.getElem?_cons_zero, List.getElem?_cons_succ, List.set_cons_zero, List.set_cons_succ, runD, rowD, meansT, lc, lb]
  | nt s ih =>
    intro n hk hn
    obtain ⟨n, rfl⟩ : ∃ k, n = k + 1 := ⟨n - 1, by simp [Sta.depth] at hn; omega⟩
    have h1 := ih n hk (by simp [Sta.depth] at hn; omega)
    have rows := rows1 (P := .va (enc (.nt s))) (x := .va (.str "not")) (y := .no) (z := .no) (u := .no) (v := .no) (w := .no) (pre := []) (.inl rfl) h1
    rw [phi_l_means]
    have lc : ∀ (a b c d e f g h : Sl), lcF (gfN 6) gYes (fNot (fVar 6)) [a, b, c, d, e, f, g, h] ((meansT run s).map .bool) = some ((meansT run s).map fun x => .bool (!x)) := fun a b c d e f g h =>
      lcF_map (fun x => .bool x) (fun x => .bool (!x)) (meansT run s) fun x _ => ⟨_, rfl, rfl, by simp [fOwn, fOpN,  fSeq, fNext, sRet, sRetN, sIf, sSet, sSetO, sAsg, sApp, sFor, forF, fVar, fOpd, fCon, f2, f1, fNil, fCons, bR, bL, bA, bLL, oR, fT, gAnd, gOr, gNot, gYes, fAnd, fOr, fNot, fIte, fTup, fLst, fCall, fCallO, fB, fM1, fSl, fiNo, fiSm, fLc, wLst, wTup, wStr, wRg1, wRg2, wZip, wEnum, gfN, gfTup, gsNil, gsCons, fLrg, fLrg3, wipeG, xSeq, xSet, xOf, xCall, xIf, xRet, xNext, xTup, xCons, xNil, xPut, xCallP, sRetX, sSetX, List.getElem?_cons_zero, List.getElem?_cons_succ, List.set_cons_zero, List.set_cons_succ]⟩
    have lc' : ∀ (a b c d e f g h i : Sl), lcF (gfN 6) gYes (fNot (fVar 6)) [a, b, c, d, e, f, g, h, i] ((meansT run s).map .bool) = some ((meansT run s).map fun x => .bool (!x)) := fun a b c d e f g h i =>
      lcF_map (fun x => .bool x) (fun x => .bool (!x)) (meansT run s) fun x _ => ⟨_, rfl, rfl, by simp [fOwn, fOpN,  fSeq, fNext, sRet, sRetN, sIf, sSet, sSetO, sAsg, sApp, sFor, forF, fVar, fOpd, fCon, f2, f1, fNil, fCons, bR, bL, bA, bLL, oR, fT, gAnd, gOr, gNot, gYes, fAnd, fOr, fNot, fIte, fTup, fLst, fCall, fCallO, fB, fM1, fSl, fiNo, fiSm, fLc, wLst, wTup, wStr, wRg1, wRg2, wZip, wEnum, gfN, gfTup, gsNil, gsCons, fLrg, fLrg3, wipeG, xSeq, xSet, xOf, xCall, xIf, xRet, xNext, xTup, xCons, xNil, xPut, xCallP, sRetX, sSetX, List.getElem?_cons_zero, List.getElem?_cons_succ, List.set_cons_zero, List.set_cons_succ]⟩
    have lm : (meansT run s).length ≤ big := by rw [meansT_len]; exact lb
    simp only [runD, enc, rowD, List.nil_append] at rows
    simp [runF, entry, f_l_means, enc, fOwn, fOpN,  fSeq, fNext, sRet, sRetN, sIf, sSet, sSetO, sAsg, sApp, sFor, forF, fVar, fOpd, fCon, f2, f1, fNil, fCons, bR, bL, bA, bLL, oR, fT, gAnd, gOr, gNot, gYes, fAnd, fOr, fNot, fIte, fTup, fLst, fCall, fCallO, fB, fM1, fSl, fiNo, fiSm, fLc, wLst, wTup, wStr, wRg1, wRg2, wZip, wEnum, gfN, gfTup, gsNil, gsCons, fLrg, fLrg3, wipeG, xSeq, xSet, xOf, xCall, xIf, xRet, xNext, xTup, xCons, xNil, xPut, xCallP, sRetX, sSetX, List.getElem?_cons_zero, List.getElem?_cons_succ, List.set_cons_zero, List.set_cons_succ, runD, rowD, meansT, tail_tup, rows, lc', meansT_len, lb, List.map_map, Function.comp_def]
  | an s t ih ih' =>
    intro n hk hn
    obtain ⟨n, rfl⟩ : ∃ k, n = k + 1 := ⟨n - 1, by simp [Sta.depth] at hn; omega⟩
    have h1 := ih n hk.1 (by simp [Sta.depth] at hn; omega)
    have h2 := ih' n hk.2 (by simp [Sta.depth] at hn; omega)
    have rows := rows2 (P := .va (enc (.an s t))) (x := .va (.str "and")) (y := .no) (z := .no) (u := .no) (v := .no) (w := .no) h1 h2
    rw [phi_l_means]
    have lc' : ∀ (a b c d e f g h i : Sl), lcF (gfTup (gsCons (gfN 6) (gsCons (gfN 8) gsNil))) gYes (fAnd (fVar 6) (fVar 8)) [a, b, c, d, e, f, g, h, i] (((meansT run s).zip (meansT run t)).map fun p => .tuple [.bool p.1, .bool p.2]) = some (((meansT run s).zip (meansT run t)).map fun p => .bool (p.1 && p.2)) := fun a b c d e f g h i =>
      lcF_map (fun p : Bool × Bool => .tuple [.bool p.1, .bool p.2]) (fun p => .bool (p.1 && p.2)) _ fun p _ => ⟨_, rfl, rfl, by obtain ⟨a, b⟩ := p; cases a <;> simp [fOwn, fOpN,  fSeq, fNext, sRet, sRetN, sIf, sSet, sSetO, sAsg, sApp, sFor, forF, fVar, fOpd, fCon, f2, f1, fNil, fCons, bR, bL, bA, bLL, oR, fT, gAnd, gOr, gNot, gYes, fAnd, fOr, fNot, fIte, fTup, fLst, fCall, fCallO, fB, fM1, fSl, fiNo, fiSm, fLc, wLst, wTup, wStr, wRg1, wRg2, wZip, wEnum, gfN, gfTup, gsNil, gsCons, fLrg, fLrg3, wipeG, xSeq, xSet, xOf, xCall, xIf, xRet, xNext, xTup, xCons, xNil, xPut, xCallP, sRetX, sSetX, List.getElem?_cons_zero, List.getElem?_cons_succ, List.set_cons_zero, List.set_cons_succ]⟩
    have lm : ((meansT run s).zip (meansT run t)).length ≤ big := by rw [List.length_zip, meansT_len, meansT_len, Nat.min_self]; exact lb
    rw [List.length_zip, meansT_len, meansT_len, Nat.min_self] at lm
    simp only [runD, enc, rowD] at rows
    simp [runF, entry, f_l_means, enc, fOwn, fOpN,  fSeq, fNext, sRet, sRetN, sIf, sSet, sSetO, sAsg, sApp, sFor, forF, fVar, fOpd, fCon, f2, f1, fNil, fCons, bR, bL, bA, bLL, oR, fT, gAnd, gOr, gNot, gYes, fAnd, fOr, fNot, fIte, fTup, fLst, fCall, fCallO, fB, fM1, fSl, fiNo, fiSm, fLc, wLst, wTup, wStr, wRg1, wRg2, wZip, wEnum, gfN, gfTup, gsNil, gsCons, fLrg, fLrg3, wipeG, xSeq, xSet, xOf, xCall, xIf, xRet, xNext, xTup, xCons, xNil, xPut, xCallP, sRetX, sSetX, List.getElem?_cons_zero, List.getElem?_cons_succ, List.set_cons_zero, List.set_cons_succ, runD, rowD, meansT, tail_tup, rows, zipD, lc', meansT_len, lb, meansT_len, List.map_map, Function.comp_def]
  | or s t ih ih' =>
    intro n hk hn
    obtain ⟨n, rfl⟩ : ∃ k, n = k + 1 := ⟨n - 1, by simp [Sta.depth] at hn; omega⟩
    have h1 := ih n hk.1 (by simp [Sta.depth] at hn; omega)
    have h2 := ih' n hk.2 (by simp [Sta.depth] at hn; omega)
    have rows := rows2 (P := .va (enc (.or s t))) (x := .va (.str "or")) (y := .no) (z := .no) (u := .no) (v := .no) (w := .no) h1 h2
    rw [phi_l_means]
    have lc' : ∀ (a b c d e f g h i : Sl), lcF (gfTup (gsCons (gfN 6) (gsCons (gfN 8) gsNil))) gYes (fOr (fVar 6) (fVar 8)) [a, b, c, d, e, f, g, h, i] (((meansT run s).zip (meansT run t)).map fun p => .tuple [.bool p.1, .bool p.2]) = some (((meansT run s).zip (meansT run t)).map fun p => .bool (p.1 || p.2)) := fun a b c d e f g h i =>
      lcF_map (fun p : Bool × Bool => .tuple [.bool p.1, .bool p.2]) (fun p => .bool (p.1 || p.2)) _ fun p _ => ⟨_, rfl, rfl, by obtain ⟨a, b⟩ := p; cases a <;> simp [fOwn, fOpN,  fSeq, fNext, sRet, sRetN, sIf, sSet, sSetO, sAsg, sApp, sFor, forF, fVar, fOpd, fCon, f2, f1, fNil, fCons, bR, bL, bA, bLL, oR, fT, gAnd, gOr, gNot, gYes, fAnd, fOr, fNot, fIte, fTup, fLst, fCall, fCallO, fB, fM1, fSl, fiNo, fiSm, fLc, wLst, wTup, wStr, wRg1, wRg2, wZip, wEnum, gfN, gfTup, gsNil, gsCons, fLrg, fLrg3, wipeG, xSeq, xSet, xOf, xCall, xIf, xRet, xNext, xTup, xCons, xNil, xPut, xCallP, sRetX, sSetX, List.getElem?_cons_zero, List.getElem?_cons_succ, List.set_cons_zero, List.set_cons_succ]⟩
    simp only [runD, enc, rowD] at rows
    simp [runF, entry, f_l_means, enc, fOwn, fOpN,  fSeq, fNext, sRet, sRetN, sIf, sSet, sSetO, sAsg, sApp, sFor, forF, fVar, fOpd, fCon, f2, f1, fNil, fCons, bR, bL, bA, bLL, oR, fT, gAnd, gOr, gNot, gYes, fAnd, fOr, fNot, fIte, fTup, fLst, fCall, fCallO, fB, fM1, fSl, fiNo, fiSm, fLc, wLst, wTup, wStr, wRg1, wRg2, wZip, wEnum, gfN, gfTup, gsNil, gsCons, fLrg, fLrg3, wipeG, xSeq, xSet, xOf, xCall, xIf, xRet, xNext, xTup, xCons, xNil, xPut, xCallP, sRetX, sSetX, List.getElem?_cons_zero, List.getElem?_cons_succ, List.set_cons_zero, List.set_cons_succ, runD, rowD, meansT, tail_tup, rows, zipD, lc', meansT_len, lb, List.map_map, Function.comp_def]
  | nx s ih =>
    intro n hk hn
    obtain ⟨n, rfl⟩ : ∃ k, n = k + 1 := ⟨n - 1, by simp [Sta.depth] at hn; omega⟩
    have h1 := ih n hk (by simp [Sta.depth] at hn; omega)
    have rows := rows1 (P := .va (enc (.nx s))) (x := .va (.str "next")) (y := .no) (z := .no) (u := .no) (v := .no) (w := .no) (pre := []) (.inl rfl) h1
    rw [phi_l_means]
    simp only [runD, enc, rowD, List.nil_append] at rows
    have c := cut_from ((meansT run s).map PyData.bool ++ [PyData.bool false]) 1 (by simp)
    have c' : Py.cutD ((meansT run s).map PyData.bool ++ [PyData.bool false]) (some 1) none = ((meansT run s ++ [false]).drop 1).map .bool := by
      rw [show (1 : Int) = ((1 : Nat) : Int) from rfl, c, List.map_drop, List.map_append]; rfl
    simp [runF, entry, f_l_means, enc, fOwn, fOpN,  fSeq, fNext, sRet, sRetN, sIf, sSet, sSetO, sAsg, sApp, sFor, forF, fVar, fOpd, fCon, f2, f1, fNil, fCons, bR, bL, bA, bLL, oR, fT, gAnd, gOr, gNot, gYes, fAnd, fOr, fNot, fIte, fTup, fLst, fCall, fCallO, fB, fM1, fSl, fiNo, fiSm, fLc, wLst, wTup, wStr, wRg1, wRg2, wZip, wEnum, gfN, gfTup, gsNil, gsCons, fLrg, fLrg3, wipeG, xSeq, xSet, xOf, xCall, xIf, xRet, xNext, xTup, xCons, xNil, xPut, xCallP, sRetX, sSetX, List.getElem?_cons_zero, List.getElem?_cons_succ, List.set_cons_zero, List.set_cons_succ, runD, rowD, meansT, tail_tup, rows, lb, lb1, lb2, meansT_len, oAdd, c']
  | bf s ih =>
    intro n hk hn
    obtain ⟨n, rfl⟩ : ∃ k, n = k + 1 := ⟨n - 1, by simp [Sta.depth] at hn; omega⟩
    have h1 := ih n hk (by simp [Sta.depth] at hn; omega)
    have rows := rows1 (P := .va (enc (.bf s))) (x := .va (.str "before")) (y := .no) (z := .no) (u := .no) (v := .no) (w := .no) (pre := []) (.inl rfl) h1
    rw [phi_l_means]
    simp only [runD, enc, rowD, List.nil_append] at rows
    have c := cut_to (PyData.bool false :: (meansT run s).map PyData.bool) run.length
    have c' : Py.cutD (PyData.bool false :: (meansT run s).map PyData.bool) none (some (run.length : Int)) = ((false :: meansT run s).take run.length).map .bool := by
      rw [c, List.map_take]; rfl
    simp [runF, entry, f_l_means, enc, fOwn, fOpN,  fSeq, fNext, sRet, sRetN, sIf, sSet, sSetO, sAsg, sApp, sFor, forF, fVar, fOpd, fCon, f2, f1, fNil, fCons, bR, bL, bA, bLL, oR, fT, gAnd, gOr, gNot, gYes, fAnd, fOr, fNot, fIte, fTup, fLst, fCall, fCallO, fB, fM1, fSl, fiNo, fiSm, fLc, wLst, wTup, wStr, wRg1, wRg2, wZip, wEnum, gfN, gfTup, gsNil, gsCons, fLrg, fLrg3, wipeG, xSeq, xSet, xOf, xCall, xIf, xRet, xNext, xTup, xCons, xNil, xPut, xCallP, sRetX, sSetX, List.getElem?_cons_zero, List.getElem?_cons_succ, List.set_cons_zero, List.set_cons_succ, runD, rowD, meansT, tail_tup, rows, lb, lb1, lb2, meansT_len, oAdd, c']
  | wi k s ih =>
    intro n hk hn
    obtain ⟨n, rfl⟩ : ∃ k, n = k + 1 := ⟨n - 1, by simp [Sta.depth] at hn; omega⟩
    have h1 := ih n hk.2 (by simp [Sta.depth] at hn; omega)
    have rows := rows1 (P := .va (enc (.wi k s))) (x := .va (.str "within")) (y := .no) (z := .no) (u := .no) (v := .no) (w := .no) (pre := [.int k]) (.inr ⟨k, rfl⟩) h1
    rw [phi_l_means]
    simp only [runD, enc, rowD, List.cons_append, List.nil_append] at rows
    have rg0 : rgD 0 (run.length : Int) = (List.range run.length).map fun i => .int ((i : Nat) : Int) := by
      have := rg_nat 0 run.length
      simpa using this
    have rg := rgOk_nat (i := 0) (j := run.length) (by omega) (by omega)
    have rg' : rgOk 0 (run.length : Int) = true := by simpa using rg
    have lc : ∀ (a b c d e f g : Sl), lcF (gfN 7) gYes (f2 (oIn false) (fCon (.bool true)) (fSl (f2 oIx (fOpd 3) (fCon (.int 0))) (fiSm (fOpd 7)) (fiSm (f2 oAdd (f2 oAdd (fOpd 7) (f2 oIx (fOpd 0) (fCon (.int 1)))) (fCon (.int 1))))))
        [.va (.tuple [.str "within", .int k, enc s]), a, b, .va (.list [.list ((meansT run s).map .bool)]), c, d, e, f, g] ((List.range run.length).map fun i => .int ((i : Nat) : Int)) = some ((List.range run.length).map fun i => .bool ((((meansT run s).drop i).take (k + 1)).any id)) := fun a b c d e f g =>
      lcF_map (fun i : Nat => .int ((i : Nat) : Int)) (fun i => .bool ((((meansT run s).drop i).take (k + 1)).any id)) _ fun i hi => by
        refine ⟨_, rfl, rfl, ?_⟩
        have hi := List.mem_range.mp hi
        have c := cut_mid ((meansT run s).map PyData.bool) i (i + k + 1) (by rw [List.length_map, meansT_len]; omega) (by omega)
        have e : i + k + 1 - i = k + 1 := by omega
        rw [e] at c
        have c' : Py.cutD ((meansT run s).map PyData.bool) (some (i : Int)) (some ((i : Int) + (k : Int) + 1)) = (((meansT run s).drop i).take (k + 1)).map .bool := by
          rw [show ((i : Int) + (k : Int) + 1) = ((i + k + 1 : Nat) : Int) by omega, c, List.map_take, List.map_drop]
        have ib : oIn false (.bool true) (.list (((meansT run s).map PyData.bool).drop i |>.take (k + 1))) = some (.bool ((((meansT run s).drop i).take (k + 1)).any id)) := by
          rw [← List.map_drop, ← List.map_take]; exact in_bools _
        simp [fOwn, fOpN,  fSeq, fNext, sRet, sRetN, sIf, sSet, sSetO, sAsg, sApp, sFor, forF, fVar, fOpd, fCon, f2, f1, fNil, fCons, bR, bL, bA, bLL, oR, fT, gAnd, gOr, gNot, gYes, fAnd, fOr, fNot, fIte, fTup, fLst, fCall, fCallO, fB, fM1, fSl, fiNo, fiSm, fLc, wLst, wTup, wStr, wRg1, wRg2, wZip, wEnum, gfN, gfTup, gsNil, gsCons, fLrg, fLrg3, wipeG, xSeq, xSet, xOf, xCall, xIf, xRet, xNext, xTup, xCons, xNil, xPut, xCallP, sRetX, sSetX, List.getElem?_cons_zero, List.getElem?_cons_succ, List.set_cons_zero, List.set_cons_succ, c', ib]
    simp [runF, entry, f_l_means, enc, fOwn, fOpN,  fSeq, fNext, sRet, sRetN, sIf, sSet, sSetO, sAsg, sApp, sFor, forF, fVar, fOpd, fCon, f2, f1, fNil, fCons, bR, bL, bA, bLL, oR, fT, gAnd, gOr, gNot, gYes, fAnd, fOr, fNot, fIte, fTup, fLst, fCall, fCallO, fB, fM1, fSl, fiNo, fiSm, fLc, wLst, wTup, wStr, wRg1, wRg2, wZip, wEnum, gfN, gfTup, gsNil, gsCons, fLrg, fLrg3, wipeG, xSeq, xSet, xOf, xCall, xIf, xRet, xNext, xTup, xCons, xNil, xPut, xCallP, sRetX, sSetX, List.getElem?_cons_zero, List.getElem?_cons_succ, List.set_cons_zero, List.set_cons_succ, runD, rowD, meansT, winT, tail_tup, rows, lb, rg', rg0, lc, List.map_map, Function.comp_def]
  | un s t ih ih' =>
    intro n hk hn
    obtain ⟨n, rfl⟩ : ∃ k, n = k + 2 := ⟨n - 2, by have := Sta.depth_pos s; simp [Sta.depth] at hn; omega⟩
    have h1 := ih (n + 1) hk.1 (by simp [Sta.depth] at hn; omega)
    have h2 := ih' (n + 1) hk.2 (by simp [Sta.depth] at hn; omega)
    have rows := rows2 (P := .va (enc (.un s t))) (x := .va (.str "until")) (y := .no) (z := .no) (u := .no) (v := .no) (w := .no) h1 h2
    have ru := run_until (Phi := Phi n) (meansT run s).reverse (meansT run t).reverse (by simp [meansT_len]) (by simp [meansT_len]; omega)
    rw [← phi_l_until] at ru
    rw [phi_l_means]
    simp only [runD, enc, rowD] at rows
    simp only [List.map_reverse] at ru
    simp [runF, entry, f_l_means, enc, fOwn, fOpN,  fSeq, fNext, sRet, sRetN, sIf, sSet, sSetO, sAsg, sApp, sFor, forF, fVar, fOpd, fCon, f2, f1, fNil, fCons, bR, bL, bA, bLL, oR, fT, gAnd, gOr, gNot, gYes, fAnd, fOr, fNot, fIte, fTup, fLst, fCall, fCallO, fB, fM1, fSl, fiNo, fiSm, fLc, wLst, wTup, wStr, wRg1, wRg2, wZip, wEnum, gfN, gfTup, gsNil, gsCons, fLrg, fLrg3, wipeG, xSeq, xSet, xOf, xCall, xIf, xRet, xNext, xTup, xCons, xNil, xPut, xCallP, sRetX, sSetX, List.getElem?_cons_zero, List.getElem?_cons_succ, List.set_cons_zero, List.set_cons_succ, runD, rowD, meansT, tail_tup, rows, oRev, ru]
  | si s t ih ih' =>
    intro n hk hn
    obtain ⟨n, rfl⟩ : ∃ k, n = k + 2 := ⟨n - 2, by have := Sta.depth_pos s; simp [Sta.depth] at hn; omega⟩
    have h1 := ih (n + 1) hk.1 (by simp [Sta.depth] at hn; omega)
    have h2 := ih' (n + 1) hk.2 (by simp [Sta.depth] at hn; omega)
    have rows := rows2 (P := .va (enc (.si s t))) (x := .va (.str "since")) (y := .no) (z := .no) (u := .no) (v := .no) (w := .no) h1 h2
    have ru := run_until (Phi := Phi n) (meansT run s) (meansT run t) (by simp [meansT_len]) (by simp [meansT_len]; omega)
    rw [← phi_l_until] at ru
    rw [phi_l_means]
    simp only [runD, enc, rowD] at rows
    simp [runF, entry, f_l_means, enc, fOwn, fOpN,  fSeq, fNext, sRet, sRetN, sIf, sSet, sSetO, sAsg, sApp, sFor, forF, fVar, fOpd, fCon, f2, f1, fNil, fCons, bR, bL, bA, bLL, oR, fT, gAnd, gOr, gNot, gYes, fAnd, fOr, fNot, fIte, fTup, fLst, fCall, fCallO, fB, fM1, fSl, fiNo, fiSm, fLc, wLst, wTup, wStr, wRg1, wRg2, wZip, wEnum, gfN, gfTup, gsNil, gsCons, fLrg, fLrg3, wipeG, xSeq, xSet, xOf, xCall, xIf, xRet, xNext, xTup, xCons, xNil, xPut, xCallP, sRetX, sSetX, List.getElem?_cons_zero, List.getElem?_cons_succ, List.set_cons_zero, List.set_cons_succ, runD, rowD, meansT, tail_tup, rows, ru]
end K08

namespace K08
open PySem PySem.Spec PyProof.Rows L2 Py
/-! ### a statement's parts, and its wishes as the law counts them -/
def allT : Sta → List Sta
  | .mark m => [.mark m]
  | .yes => [.yes]
  | .nt s => .nt s :: allT s
  | .an s t => .an s t :: (allT s ++ allT t)
  | .or s t => .or s t :: (allT s ++ allT t)
  | .nx s => .nx s :: allT s
  | .un s t => .un s t :: (allT s ++ allT t)
  | .wi k s => .wi k s :: allT s
  | .bf s => .bf s :: allT s
  | .si s t => .si s t :: (allT s ++ allT t)
theorem allT_len : ∀ s : Sta, (allT s).length + 1 ≤ 2 ^ s.depth
  | .mark m => by simp [allT, Sta.depth]
  | .yes => by simp [allT, Sta.depth]
  | .nt s => by have h := allT_len s; simp only [allT, Sta.depth, List.length_cons, Nat.pow_succ]; omega
  | .nx s => by have h := allT_len s; simp only [allT, Sta.depth, List.length_cons, Nat.pow_succ]; omega
  | .wi k s => by have h := allT_len s; simp only [allT, Sta.depth, List.length_cons, Nat.pow_succ]; omega
  | .bf s => by have h := allT_len s; simp only [allT, Sta.depth, List.length_cons, Nat.pow_succ]; omega
  | .an s t => by
    have h := allT_len s; have h2 := allT_len t
    have p1 : 2 ^ s.depth ≤ 2 ^ (max s.depth t.depth) := Nat.pow_le_pow_right (by omega) (by omega)
    have p2 : 2 ^ t.depth ≤ 2 ^ (max s.depth t.depth) := Nat.pow_le_pow_right (by omega) (by omega)
    simp only [allT, Sta.depth, List.length_cons, List.length_append, Nat.pow_succ]; omega
  | .or s t => by
    have h := allT_len s; have h2 := allT_len t
    have p1 : 2 ^ s.depth ≤ 2 ^ (max s.depth t.depth) := Nat.pow_le_pow_right (by omega) (by omega)
    have p2 : 2 ^ t.depth ≤ 2 ^ (max s.depth t.depth) := Nat.pow_le_pow_right (by omega) (by omega)
    simp only [allT, Sta.depth, List.length_cons, List.length_append, Nat.pow_succ]; omega
  | .un s t => by
    have h := allT_len s; have h2 := allT_len t
    have p1 : 2 ^ s.depth ≤ 2 ^ (max s.depth t.depth) := Nat.pow_le_pow_right (by omega) (by omega)
    have p2 : 2 ^ t.depth ≤ 2 ^ (max s.depth t.depth) := Nat.pow_le_pow_right (by omega) (by omega)
    simp only [allT, Sta.depth, List.length_cons, List.length_append, Nat.pow_succ]; omega
  | .si s t => by
    have h := allT_len s; have h2 := allT_len t
    have p1 : 2 ^ s.depth ≤ 2 ^ (max s.depth t.depth) := Nat.pow_le_pow_right (by omega) (by omega)
    have p2 : 2 ^ t.depth ≤ 2 ^ (max s.depth t.depth) := Nat.pow_le_pow_right (by omega) (by omega)
    simp only [allT, Sta.depth, List.length_cons, List.length_append, Nat.pow_succ]; omega
/-- what is so of a statement and all its parts -/
structure Fine (d : Nat) (p : Str → Prop) (s : Sta) : Prop where
  dep : s.depth ≤ d
  mks : s.Marks p
  ks : ksOk s
theorem allT_fine {d : Nat} {p : Str → Prop} : ∀ {s : Sta}, Fine d p s → ∀ t ∈ allT s, Fine d p t := by
  intro s
  induction s with
  | mark m => intro h t ht; simp [allT] at ht; subst ht; exact h
  | yes => intro h t ht; simp [allT] at ht; subst ht; exact h
  | nt s ih =>
    intro h t ht
    rcases List.mem_cons.mp ht with rfl | ht
    · exact h
    · exact ih ⟨by have := h.dep; simp [Sta.depth] at this; omega, h.mks, h.ks⟩ t ht
  | nx s ih =>
    intro h t ht
    rcases List.mem_cons.mp ht with rfl | ht
    · exact h
    · exact ih ⟨by have := h.dep; simp [Sta.depth] at this; omega, h.mks, h.ks⟩ t ht
  | wi k s ih =>
    intro h t ht
    rcases List.mem_cons.mp ht with rfl | ht
    · exact h
    · exact ih ⟨by have := h.dep; simp [Sta.depth] at this; omega, h.mks, h.ks.2⟩ t ht
  | bf s ih =>
    intro h t ht
    rcases List.mem_cons.mp ht with rfl | ht
    · exact h
    · exact ih ⟨by have := h.dep; simp [Sta.depth] at this; omega, h.mks, h.ks⟩ t ht
  | an s s' ih ih' =>
    intro h t ht
    have hd := h.dep
    simp [Sta.depth] at hd
    rcases List.mem_cons.mp ht with rfl | ht
    · exact h
    · rcases List.mem_append.mp ht with ht | ht
      · exact ih ⟨by omega, h.mks.1, h.ks.1⟩ t ht
      · exact ih' ⟨by omega, h.mks.2, h.ks.2⟩ t ht
  | or s s' ih ih' =>
    intro h t ht
    have hd := h.dep
    simp [Sta.depth] at hd
    rcases List.mem_cons.mp ht with rfl | ht
    · exact h
    · rcases List.mem_append.mp ht with ht | ht
      · exact ih ⟨by omega, h.mks.1, h.ks.1⟩ t ht
      · exact ih' ⟨by omega, h.mks.2, h.ks.2⟩ t ht
  | un s s' ih ih' =>
    intro h t ht
    have hd := h.dep
    simp [Sta.depth] at hd
    rcases List.mem_cons.mp ht with rfl | ht
    · exact h
    · rcases List.mem_append.mp ht with ht | ht
      · exact ih ⟨by omega, h.mks.1, h.ks.1⟩ t ht
      · exact ih' ⟨by omega, h.mks.2, h.ks.2⟩ t ht
  | si s s' ih ih' =>
    intro h t ht
    have hd := h.dep
    simp [Sta.depth] at hd
    rcases List.mem_cons.mp ht with rfl | ht
    · exact h
    · rcases List.mem_append.mp ht with ht | ht
      · exact ih ⟨by omega, h.mks.1, h.ks.1⟩ t ht
      · exact ih' ⟨by omega, h.mks.2, h.ks.2⟩ t ht
def encL (l : List Sta) : D := .list (l.map enc)
theorem big_pow {d : Nat} (h : d ≤ 20) : 2 ^ d ≤ big := Nat.le_trans (Nat.pow_le_pow_right (by omega) h) (by decide)
theorem run_all : ∀ (s : Sta) (n : Nat), s.depth ≤ 19 → s.depth ≤ n → Phi n .l_all [enc s] = some (.ok (encL (allT s))) := by
  have one : ∀ (n : Nat) (s t : Sta) (w : Str), enc t = .tuple [.str w, enc s] → Phi n .l_all [enc s] = some (.ok (encL (allT s))) → (allT s).length + 1 ≤ big → Phi (n + 1) .l_all [enc t] = some (.ok (encL (t :: allT s))) := by
    intro n s t w e h hz
    have hz' : 1 + (allT s).length ≤ big := by omega
    rw [phi_l_all]
    simp [runF, entry, f_l_all, e, fOwn, fOpN,  fSeq, fNext, sRet, sRetN, sIf, sSet, sSetO, sAsg, sApp, sFor, forF, fVar, fOpd, fCon, f2, f1, fNil, fCons, bR, bL, bA, bLL, oR, fT, gAnd, gOr, gNot, gYes, fAnd, fOr, fNot, fIte, fTup, fLst, fCall, fCallO, fB, fM1, fSl, fiNo, fiSm, fLc, wLst, wTup, wStr, wRg1, wRg2, wZip, wEnum, gfN, gfTup, gsNil, gsCons, fLrg, fLrg3, wipeG, xSeq, xSet, xOf, xCall, xIf, xRet, xNext, xTup, xCons, xNil, xPut, xCallP, sRetX, sSetX, List.getElem?_cons_zero, List.getElem?_cons_succ, List.set_cons_zero, List.set_cons_succ, tail_tup, isi_enc, h, encL, hz, hz', oAdd]
  have oneK : ∀ (n : Nat) (s t : Sta) (w : Str) (k : Int), enc t = .tuple [.str w, .int k, enc s] → Phi n .l_all [enc s] = some (.ok (encL (allT s))) → (allT s).length + 1 ≤ big → Phi (n + 1) .l_all [enc t] = some (.ok (encL (t :: allT s))) := by
    intro n s t w k e h hz
    have hz' : 1 + (allT s).length ≤ big := by omega
    rw [phi_l_all]
    simp [runF, entry, f_l_all, e, fOwn, fOpN,  fSeq, fNext, sRet, sRetN, sIf, sSet, sSetO, sAsg, sApp, sFor, forF, fVar, fOpd, fCon, f2, f1, fNil, fCons, bR, bL, bA, bLL, oR, fT, gAnd, gOr, gNot, gYes, fAnd, fOr, fNot, fIte, fTup, fLst, fCall, fCallO, fB, fM1, fSl, fiNo, fiSm, fLc, wLst, wTup, wStr, wRg1, wRg2, wZip, wEnum, gfN, gfTup, gsNil, gsCons, fLrg, fLrg3, wipeG, xSeq, xSet, xOf, xCall, xIf, xRet, xNext, xTup, xCons, xNil, xPut, xCallP, sRetX, sSetX, List.getElem?_cons_zero, List.getElem?_cons_succ, List.set_cons_zero, List.set_cons_succ, tail_tup, isi_enc, isi_int, h, encL, hz, hz', oAdd]
  have two : ∀ (n : Nat) (s s' t : Sta) (w : Str), enc t = .tuple [.str w, enc s, enc s'] → Phi n .l_all [enc s] = some (.ok (encL (allT s))) → Phi n .l_all [enc s'] = some (.ok (encL (allT s'))) → (allT s).length + (allT s').length + 1 ≤ big → Phi (n + 1) .l_all [enc t] = some (.ok (encL (t :: (allT s ++ allT s')))) := by
    intro n s s' t w e h h' hz
    have h1 : 1 + (allT s).length ≤ big := by omega
    have h2 : (allT s).length + 1 + (allT s').length ≤ big := by omega
    have h3 : 1 + (allT s).length + (allT s').length ≤ big := by omega
    rw [phi_l_all]
    simp [runF, entry, f_l_all, e, fOwn, fOpN,  fSeq, fNext, sRet, sRetN, sIf, sSet, sSetO, sAsg, sApp, sFor, forF, fVar, fOpd, fCon, f2, f1, fNil, fCons, bR, bL, bA, bLL, oR, fT, gAnd, gOr, gNot, gYes, fAnd, fOr, fNot, fIte, fTup, fLst, fCall, fCallO, fB, fM1, fSl, fiNo, fiSm, fLc, wLst, wTup, wStr, wRg1, wRg2, wZip, wEnum, gfN, gfTup, gsNil, gsCons, fLrg, fLrg3, wipeG, xSeq, xSet, xOf, xCall, xIf, xRet, xNext, xTup, xCons, xNil, xPut, xCallP, sRetX, sSetX, List.getElem?_cons_zero, List.getElem?_cons_succ, List.set_cons_zero, List.set_cons_succ, tail_tup, isi_enc, h, h', encL, h1, h2, h3, oAdd]
  intro s
  induction s with
  | mark m =>
    intro n hd hn
    obtain ⟨n, rfl⟩ : ∃ k, n = k + 1 := ⟨n - 1, by simp [Sta.depth] at hn; omega⟩
    rw [phi_l_all]
    simp [runF, entry, f_l_all, enc, fOwn, fOpN,  fSeq, fNext, sRet, sRetN, sIf, sSet, sSetO, sAsg, sApp, sFor, forF, fVar, fOpd, fCon, f2, f1, fNil, fCons, bR, bL, bA, bLL, oR, fT, gAnd, gOr, gNot, gYes, fAnd, fOr, fNot, fIte, fTup, fLst, fCall, fCallO, fB, fM1, fSl, fiNo, fiSm, fLc, wLst, wTup, wStr, wRg1, wRg2, wZip, wEnum, gfN, gfTup, gsNil, gsCons, fLrg, fLrg3, wipeG, xSeq, xSet, xOf, xCall, xIf, xRet, xNext, xTup, xCons, xNil, xPut, xCallP, sRetX, sSetX, List.getElem?_cons_zero, List.getElem?_cons_succ, List.set_cons_zero, List.set_cons_succ, tail_tup, isi_str, encL, allT]
  | yes =>
    intro n hd hn
    obtain ⟨n, rfl⟩ : ∃ k, n = k + 1 := ⟨n - 1, by simp [Sta.depth] at hn; omega⟩
    rw [phi_l_all]
    simp [runF, entry, f_l_all, enc, fOwn, fOpN,  fSeq, fNext, sRet, sRetN, sIf, sSet, sSetO, sAsg, sApp, sFor, forF, fVar, fOpd, fCon, f2, f1, fNil, fCons, bR, bL, bA, bLL, oR, fT, gAnd, gOr, gNot, gYes, fAnd, fOr, fNot, fIte, fTup, fLst, fCall, fCallO, fB, fM1, fSl, fiNo, fiSm, fLc, wLst, wTup, wStr, wRg1, wRg2, wZip, wEnum, gfN, gfTup, gsNil, gsCons, fLrg, fLrg3, wipeG, xSeq, xSet, xOf, xCall, xIf, xRet, xNext, xTup, xCons, xNil, xPut, xCallP, sRetX, sSetX, List.getElem?_cons_zero, List.getElem?_cons_succ, List.set_cons_zero, List.set_cons_succ, tail_one, encL, allT]
  | nt s ih =>
    intro n hd hn
    simp [Sta.depth] at hn hd
    obtain ⟨n, rfl⟩ : ∃ k, n = k + 1 := ⟨n - 1, by omega⟩
    exact one n s _ _ rfl (ih n (by omega) (by omega)) (Nat.le_trans (allT_len s) (big_pow (by omega)))
  | nx s ih =>
    intro n hd hn
    simp [Sta.depth] at hn hd
    obtain ⟨n, rfl⟩ : ∃ k, n = k + 1 := ⟨n - 1, by omega⟩
    exact one n s _ _ rfl (ih n (by omega) (by omega)) (Nat.le_trans (allT_len s) (big_pow (by omega)))
  | bf s ih =>
    intro n hd hn
    simp [Sta.depth] at hn hd
    obtain ⟨n, rfl⟩ : ∃ k, n = k + 1 := ⟨n - 1, by omega⟩
    exact one n s _ _ rfl (ih n (by omega) (by omega)) (Nat.le_trans (allT_len s) (big_pow (by omega)))
  | wi k s ih =>
    intro n hd hn
    simp [Sta.depth] at hn hd
    obtain ⟨n, rfl⟩ : ∃ k, n = k + 1 := ⟨n - 1, by omega⟩
    exact oneK n s _ _ _ rfl (ih n (by omega) (by omega)) (Nat.le_trans (allT_len s) (big_pow (by omega)))
  | an s t ih ih' =>
    intro n hd hn
    have hl := allT_len (.an s t)
    have hb := big_pow (d := (Sta.an s t).depth) (by omega)
    simp [Sta.depth] at hn hd
    obtain ⟨n, rfl⟩ : ∃ k, n = k + 1 := ⟨n - 1, by omega⟩
    simp only [allT, List.length_cons, List.length_append] at hl
    exact two n s t _ _ rfl (ih n (by omega) (by omega)) (ih' n (by omega) (by omega)) (by omega)
  | or s t ih ih' =>
    intro n hd hn
    have hl := allT_len (.or s t)
    have hb := big_pow (d := (Sta.or s t).depth) (by omega)
    simp [Sta.depth] at hn hd
    obtain ⟨n, rfl⟩ : ∃ k, n = k + 1 := ⟨n - 1, by omega⟩
    simp only [allT, List.length_cons, List.length_append] at hl
    exact two n s t _ _ rfl (ih n (by omega) (by omega)) (ih' n (by omega) (by omega)) (by omega)
  | un s t ih ih' =>
    intro n hd hn
    have hl := allT_len (.un s t)
    have hb := big_pow (d := (Sta.un s t).depth) (by omega)
    simp [Sta.depth] at hn hd
    obtain ⟨n, rfl⟩ : ∃ k, n = k + 1 := ⟨n - 1, by omega⟩
    simp only [allT, List.length_cons, List.length_append] at hl
    exact two n s t _ _ rfl (ih n (by omega) (by omega)) (ih' n (by omega) (by omega)) (by omega)
  | si s t ih ih' =>
    intro n hd hn
    have hl := allT_len (.si s t)
    have hb := big_pow (d := (Sta.si s t).depth) (by omega)
    simp [Sta.depth] at hn hd
    obtain ⟨n, rfl⟩ : ∃ k, n = k + 1 := ⟨n - 1, by omega⟩
    simp only [allT, List.length_cons, List.length_append] at hl
    exact two n s t _ _ rfl (ih n (by omega) (by omega)) (ih' n (by omega) (by omega)) (by omega)
def moreT : Sta → List Sta
  | .nx s => [s]
  | .un s t => [.un s t]
  | .wi k s => (List.range k).map fun j => .wi j s
  | _ => []
def stepW (found : List Sta) (one : Sta) : List Sta := found ++ (moreT one).filter fun o => !decide (o ∈ found)
def wishesT (s : Sta) : List Sta := (allT s).foldl stepW [s]
theorem moreT_fine {d : Nat} {p : Str → Prop} {s : Sta} (h : Fine d p s) : ∀ t ∈ moreT s, Fine d p t := by
  intro t ht
  have hd := h.dep
  cases s with
  | nx s => simp [moreT] at ht; subst ht; exact ⟨by simp [Sta.depth] at hd; omega, h.mks, h.ks⟩
  | un s s' => simp [moreT] at ht; subst ht; exact h
  | wi k s =>
    simp only [moreT, List.mem_map, List.mem_range] at ht
    obtain ⟨j, hj, rfl⟩ := ht
    have hk := h.ks
    exact ⟨by simpa [Sta.depth] using hd, h.mks, by have := hk.1; omega, hk.2⟩
  | _ => simp [moreT] at ht
theorem moreT_len {s : Sta} (h : ksOk s) : (moreT s).length ≤ 4 := by
  cases s with
  | wi k s => simp [moreT]; exact h.1
  | _ => simp [moreT]
theorem stepW_fine {d : Nat} {p : Str → Prop} {found : List Sta} {s : Sta} (hf : ∀ t ∈ found, Fine d p t) (h : Fine d p s) : ∀ t ∈ stepW found s, Fine d p t := by
  intro t ht
  rcases List.mem_append.mp ht with q | q
  · exact hf t q
  · exact moreT_fine h t (List.mem_filter.mp q).1
theorem stepW_len {found : List Sta} {s : Sta} (h : ksOk s) : (stepW found s).length ≤ found.length + 4 := by
  unfold stepW
  have h1 := List.length_filter_le (fun o => !decide (o ∈ found)) (moreT s)
  have h2 := moreT_len h
  rw [List.length_append]
  omega
theorem foldW_fine {d : Nat} {p : Str → Prop} : ∀ {l found : List Sta}, (∀ t ∈ found, Fine d p t) → (∀ t ∈ l, Fine d p t) → ∀ t ∈ l.foldl stepW found, Fine d p t
  | [], _, h, _ => h
  | s :: l, found, h, hl => foldW_fine (l := l) (stepW_fine h (hl s List.mem_cons_self)) fun t ht => hl t (List.mem_cons_of_mem _ ht)
theorem wishesT_fine {d : Nat} {p : Str → Prop} {s : Sta} (h : Fine d p s) : ∀ t ∈ wishesT s, Fine d p t :=
  foldW_fine (by intro t ht; simp at ht; subst ht; exact h) (allT_fine h)
theorem enc_at0 (s : Sta) : ∃ r, enc s = .tuple (.str (word s) :: r) := enc_word s
theorem ix0 (s : Sta) : oIx (enc s) (.int 0) = some (.str (word s)) := by
  obtain ⟨r, e⟩ := enc_word s
  rw [e]; simp
theorem more_part {Phi : Nm → List D → Option Rs} {d : Nat} (hd : d ≤ 18) {s : Sta} (h : Fine d okM s) (P F y z u : Sl) :
    fSeq (sSet 3 (fLst fNil)) (sIf (fT (f2 oEq (f2 oIx (fOpd 2) (fCon (.int 0))) (fCon (.str "next")))) (sSet 3 (fLst (fCons (f2 oIx (fOpd 2) (fCon (.int 1))) fNil))) (sIf (fT (f2 oEq (f2 oIx (fOpd 2) (fCon (.int 0))) (fCon (.str "until")))) (sSet 3 (fLst (fCons (fVar 2) fNil))) (sIf (fT (f2 oEq (f2 oIx (fOpd 2) (fCon (.int 0))) (fCon (.str "within")))) (sSet 3 (fLc (wRg1 (fCons (f2 oIx (fOpd 2) (fCon (.int 1))) fNil)) (gfN 5) gYes (fTup (fCons (fCon (.str "within")) (fCons (fVar 5) (fCons (f2 oIx (fOpd 2) (fCon (.int 2))) fNil)))) [5])) fNext)))
      [P, F, .va (enc s), y, z, u] = some (.nx [P, F, .va (enc s), .va (encL (moreT s)), z, u]) := by
  cases s with
  | wi k s =>
    have hk := h.ks.1
    have rg : rgOk 0 (k : Int) = true := by have := rgOk_nat (i := 0) (j := k) (by omega) (by omega); simpa using this
    have rd : rgD 0 (k : Int) = (List.range k).map fun i => .int ((i : Nat) : Int) := by have := rg_nat 0 k; simpa using this
    have lw : ∀ (a b c : Sl), lcF (gfN 5) gYes (fTup (fCons (fCon (.str "within")) (fCons (fVar 5) (fCons (f2 oIx (fOpd 2) (fCon (.int 2))) fNil)))) [a, b, .va (.tuple [.str "within", .int k, enc s]), .va (.list []), c, .no] ((List.range k).map fun i => .int ((i : Nat) : Int)) = some ((List.range k).map fun i => enc (.wi i s)) := fun a b c =>
      lcF_map (fun i : Nat => .int (i : Int)) (fun i => enc (.wi i s)) _ fun i _ => ⟨_, rfl, rfl, by simp [fOwn, fOpN,  fSeq, fNext, sRet, sRetN, sIf, sSet, sSetO, sAsg, sApp, sFor, forF, fVar, fOpd, fCon, f2, f1, fNil, fCons, bR, bL, bA, bLL, oR, fT, gAnd, gOr, gNot, gYes, fAnd, fOr, fNot, fIte, fTup, fLst, fCall, fCallO, fB, fM1, fSl, fiNo, fiSm, fLc, wLst, wTup, wStr, wRg1, wRg2, wZip, wEnum, gfN, gfTup, gsNil, gsCons, fLrg, fLrg3, wipeG, xSeq, xSet, xOf, xCall, xIf, xRet, xNext, xTup, xCons, xNil, xPut, xCallP, sRetX, sSetX, List.getElem?_cons_zero, List.getElem?_cons_succ, List.set_cons_zero, List.set_cons_succ, enc]⟩
    have kb : k ≤ big := Nat.le_trans hk (by decide)
    simp only [enc] at lw
    simp [fOwn, fOpN,  fSeq, fNext, sRet, sRetN, sIf, sSet, sSetO, sAsg, sApp, sFor, forF, fVar, fOpd, fCon, f2, f1, fNil, fCons, bR, bL, bA, bLL, oR, fT, gAnd, gOr, gNot, gYes, fAnd, fOr, fNot, fIte, fTup, fLst, fCall, fCallO, fB, fM1, fSl, fiNo, fiSm, fLc, wLst, wTup, wStr, wRg1, wRg2, wZip, wEnum, gfN, gfTup, gsNil, gsCons, fLrg, fLrg3, wipeG, xSeq, xSet, xOf, xCall, xIf, xRet, xNext, xTup, xCons, xNil, xPut, xCallP, sRetX, sSetX, List.getElem?_cons_zero, List.getElem?_cons_succ, List.set_cons_zero, List.set_cons_succ, encL, moreT, enc, rg, rd, lw, kb, List.map_map, Function.comp_def]
  | _ => simp [fOwn, fOpN,  fSeq, fNext, sRet, sRetN, sIf, sSet, sSetO, sAsg, sApp, sFor, forF, fVar, fOpd, fCon, f2, f1, fNil, fCons, bR, bL, bA, bLL, oR, fT, gAnd, gOr, gNot, gYes, fAnd, fOr, fNot, fIte, fTup, fLst, fCall, fCallO, fB, fM1, fSl, fiNo, fiSm, fLc, wLst, wTup, wStr, wRg1, wRg2, wZip, wEnum, gfN, gfTup, gsNil, gsCons, fLrg, fLrg3, wipeG, xSeq, xSet, xOf, xCall, xIf, xRet, xNext, xTup, xCons, xNil, xPut, xCallP, sRetX, sSetX, List.getElem?_cons_zero, List.getElem?_cons_succ, List.set_cons_zero, List.set_cons_succ, enc, encL, moreT]
theorem wish_body {Phi : Nm → List D → Option Rs} {d : Nat} (hd : d ≤ 18) {s : Sta} (h : Fine d okM s) {found : List Sta} (hf : ∀ t ∈ found, Fine d okM t) (hz : found.length + 4 ≤ big) (P y z u : Sl) :
    fSeq (sSet 3 (fLst fNil))
        (fSeq (sIf (fT (f2 oEq (f2 oIx (fOpd 2) (fCon (.int 0))) (fCon (.str "next")))) (sSet 3 (fLst (fCons (f2 oIx (fOpd 2) (fCon (.int 1))) fNil))) (sIf (fT (f2 oEq (f2 oIx (fOpd 2) (fCon (.int 0))) (fCon (.str "until")))) (sSet 3 (fLst (fCons (fVar 2) fNil))) (sIf (fT (f2 oEq (f2 oIx (fOpd 2) (fCon (.int 0))) (fCon (.str "within")))) (sSet 3 (fLc (wRg1 (fCons (f2 oIx (fOpd 2) (fCon (.int 1))) fNil)) (gfN 5) gYes (fTup (fCons (fCon (.str "within")) (fCons (fVar 5) (fCons (f2 oIx (fOpd 2) (fCon (.int 2))) fNil)))) [5])) fNext)))
        (sSet 1 (f2 oAdd (fOpd 1) (fLc (wLst (fVar 3)) (gfN 4) (fT (f2 (oIn true) (fOpd 4) (fOpd 1))) (fVar 4) [4])))) [P, .va (encL found), .va (enc s), y, z, u] =
      some (.nx [P, .va (encL (stepW found s)), .va (enc s), .va (encL (moreT s)), z, u]) := by
  have mp := more_part (Phi := Phi) hd h P (.va (encL found)) y z u
  have mf := moreT_fine h
  have ml := moreT_len h.ks
  have lc : ∀ (z u : Sl), lcF (gfN 4) (fT (f2 (oIn true) (fOpd 4) (fOpd 1))) (fVar 4) [P, .va (.list (found.map enc)), .va (enc s), .va (.list ((moreT s).map enc)), z, u] ((moreT s).map enc) = some (((moreT s).filter fun o => !decide (o ∈ found)).map enc) := fun z u =>
    lcF_filter enc (fun o => !decide (o ∈ found)) enc (moreT s) fun o ho => by
      have i := in_encs (l := found) (s := o) (fun t ht => (hf t ht).mks) (fun t ht => by have := (hf t ht).dep; omega) (mf o ho).mks (by have := (mf o ho).dep; omega) true
      refine ⟨_, rfl, ?_, fun _ => ?_⟩
      · simp [fOwn, fOpN,  fSeq, fNext, sRet, sRetN, sIf, sSet, sSetO, sAsg, sApp, sFor, forF, fVar, fOpd, fCon, f2, f1, fNil, fCons, bR, bL, bA, bLL, oR, fT, gAnd, gOr, gNot, gYes, fAnd, fOr, fNot, fIte, fTup, fLst, fCall, fCallO, fB, fM1, fSl, fiNo, fiSm, fLc, wLst, wTup, wStr, wRg1, wRg2, wZip, wEnum, gfN, gfTup, gsNil, gsCons, fLrg, fLrg3, wipeG, xSeq, xSet, xOf, xCall, xIf, xRet, xNext, xTup, xCons, xNil, xPut, xCallP, sRetX, sSetX, List.getElem?_cons_zero, List.getElem?_cons_succ, List.set_cons_zero, List.set_cons_succ, i]
      · simp [fOwn, fOpN,  fSeq, fNext, sRet, sRetN, sIf, sSet, sSetO, sAsg, sApp, sFor, forF, fVar, fOpd, fCon, f2, f1, fNil, fCons, bR, bL, bA, bLL, oR, fT, gAnd, gOr, gNot, gYes, fAnd, fOr, fNot, fIte, fTup, fLst, fCall, fCallO, fB, fM1, fSl, fiNo, fiSm, fLc, wLst, wTup, wStr, wRg1, wRg2, wZip, wEnum, gfN, gfTup, gsNil, gsCons, fLrg, fLrg3, wipeG, xSeq, xSet, xOf, xCall, xIf, xRet, xNext, xTup, xCons, xNil, xPut, xCallP, sRetX, sSetX, List.getElem?_cons_zero, List.getElem?_cons_succ, List.set_cons_zero, List.set_cons_succ]
  have hfl : found.length + ((moreT s).filter fun o => !decide (o ∈ found)).length ≤ big := by
    have := List.length_filter_le (fun o => !decide (o ∈ found)) (moreT s)
    omega
  have hml : (moreT s).length ≤ big := Nat.le_trans ml (by decide)
  have assoc : ∀ (f g h : Fs) (γ : Ge), fSeq f (fSeq g h) γ = fSeq (fSeq f g) h γ := by
    intro f g h γ
    unfold fSeq
    cases f γ with
    | none => rfl
    | some o => cases o <;> rfl
  rw [assoc]
  unfold fSeq at mp ⊢
  rw [mp]
  simp [fOwn, fOpN,  fSeq, fNext, sRet, sRetN, sIf, sSet, sSetO, sAsg, sApp, sFor, forF, fVar, fOpd, fCon, f2, f1, fNil, fCons, bR, bL, bA, bLL, oR, fT, gAnd, gOr, gNot, gYes, fAnd, fOr, fNot, fIte, fTup, fLst, fCall, fCallO, fB, fM1, fSl, fiNo, fiSm, fLc, wLst, wTup, wStr, wRg1, wRg2, wZip, wEnum, gfN, gfTup, gsNil, gsCons, fLrg, fLrg3, wipeG, xSeq, xSet, xOf, xCall, xIf, xRet, xNext, xTup, xCons, xNil, xPut, xCallP, sRetX, sSetX, List.getElem?_cons_zero, List.getElem?_cons_succ, List.set_cons_zero, List.set_cons_succ, encL, lc, hml, oAdd, hfl, stepW]
theorem run_wishes {d : Nat} (hd : d ≤ 18) {s : Sta} (h : Fine d okM s) {n : Nat} (hn : d + 1 ≤ n) : Phi n .l_wishes [enc s] = some (.ok (encL (wishesT s))) := by
  obtain ⟨n, rfl⟩ : ∃ k, n = k + 1 := ⟨n - 1, by omega⟩
  have ha := run_all s n (by have := h.dep; omega) (by have := h.dep; omega)
  have key : ∀ (l found : List Sta) (P x y z u : Sl), (∀ t ∈ found, Fine d okM t) → (∀ t ∈ l, Fine d okM t) → found.length + 4 * l.length ≤ big →
      ∃ x' y', forF (gfN 2) (fSeq (sSet 3 (fLst fNil))
        (fSeq (sIf (fT (f2 oEq (f2 oIx (fOpd 2) (fCon (.int 0))) (fCon (.str "next")))) (sSet 3 (fLst (fCons (f2 oIx (fOpd 2) (fCon (.int 1))) fNil))) (sIf (fT (f2 oEq (f2 oIx (fOpd 2) (fCon (.int 0))) (fCon (.str "until")))) (sSet 3 (fLst (fCons (fVar 2) fNil))) (sIf (fT (f2 oEq (f2 oIx (fOpd 2) (fCon (.int 0))) (fCon (.str "within")))) (sSet 3 (fLc (wRg1 (fCons (f2 oIx (fOpd 2) (fCon (.int 1))) fNil)) (gfN 5) gYes (fTup (fCons (fCon (.str "within")) (fCons (fVar 5) (fCons (f2 oIx (fOpd 2) (fCon (.int 2))) fNil)))) [5])) fNext)))
        (sSet 1 (f2 oAdd (fOpd 1) (fLc (wLst (fVar 3)) (gfN 4) (fT (f2 (oIn true) (fOpd 4) (fOpd 1))) (fVar 4) [4]))))) (l.map enc) [P, .va (encL found), x, y, z, u] =
      some (.nx [P, .va (encL (l.foldl stepW found)), x', y', z, u]) := by
    intro l
    induction l with
    | nil => intro found P x y z u _ _ _; exact ⟨x, y, rfl⟩
    | cons s l ih =>
      intro found P x y z u hf hl hz
      have fs := hl s List.mem_cons_self
      have sl := stepW_len (found := found) fs.ks
      simp only [List.length_cons] at hz
      obtain ⟨x', y', ih'⟩ := ih (stepW found s) P (.va (enc s)) (.va (encL (moreT s))) z u (stepW_fine hf fs) (fun t ht => hl t (List.mem_cons_of_mem _ ht)) (by omega)
      have b := wish_body (Phi := Phi n) hd fs hf (by omega) P y z u
      refine ⟨x', y', ?_⟩
      simp only [List.map_cons, forF, gfN, List.set_cons_zero, List.set_cons_succ, b, List.foldl_cons]
      exact ih'
  have la := allT_len s
  have lb := big_pow (d := 18) (by omega)
  have lp : 2 ^ s.depth ≤ 2 ^ 18 := Nat.pow_le_pow_right (by omega) (by have := h.dep; omega)
  obtain ⟨x', y', k⟩ := key (allT s) [s] (.va (enc s)) .no .no .no .no (by intro t ht; simp at ht; subst ht; exact h) (allT_fine h) (by simp; unfold big; omega)
  rw [phi_l_wishes]
  simp only [encL, List.map_cons, List.map_nil] at k ha
  unfold runF f_l_wishes
  simp only [entry, fSeq, sSet, fLst, fCons, fNil, fVar, bA_ok, bL_ok, bLL_ok, List.getElem?_cons_zero, List.getElem?_cons_succ, List.set_cons_zero, List.set_cons_succ, List.length_cons, List.length_nil, List.map_cons, List.map_nil, List.cons_append, List.nil_append, List.replicate, sFor, wLst, fCall, ha, big_1, if_true, if_pos, sRet, Nat.reduceAdd, Nat.reduceSub]
  rw [k]
  rfl
end K08

namespace K08
open PySem PySem.Spec PyProof.Rows L2 Py
/-! ### the fitting -/
def fitT (most : Nat) : Sta → Sta
  | .mark m => .mark m
  | .yes => .yes
  | .nt s => if (wishesT (.nt s)).length ≤ most then .nt s else fitT most s
  | .an s t => if (wishesT (.an s t)).length ≤ most then .an s t else fitT most t
  | .or s t => if (wishesT (.or s t)).length ≤ most then .or s t else fitT most t
  | .nx s => if (wishesT (.nx s)).length ≤ most then .nx s else fitT most s
  | .un s t => if (wishesT (.un s t)).length ≤ most then .un s t else fitT most t
  | .wi k s => if (wishesT (.wi k s)).length ≤ most then .wi k s else fitT most s
  | .bf s => if (wishesT (.bf s)).length ≤ most then .bf s else fitT most s
  | .si s t => if (wishesT (.si s t)).length ≤ most then .si s t else fitT most t
theorem fitT_len {most : Nat} (h1 : 1 ≤ most) : ∀ s : Sta, (wishesT (fitT most s)).length ≤ most := by
  intro s
  induction s with
  | mark m => simpa [fitT, wishesT, allT, stepW, moreT] using h1
  | yes => simpa [fitT, wishesT, allT, stepW, moreT] using h1
  | nt s ih => unfold fitT; split; assumption; exact ih
  | nx s ih => unfold fitT; split; assumption; exact ih
  | wi k s ih => unfold fitT; split; assumption; exact ih
  | bf s ih => unfold fitT; split; assumption; exact ih
  | an s t ih ih' => unfold fitT; split; assumption; exact ih'
  | or s t ih ih' => unfold fitT; split; assumption; exact ih'
  | un s t ih ih' => unfold fitT; split; assumption; exact ih'
  | si s t ih ih' => unfold fitT; split; assumption; exact ih'
theorem fitT_fine {most d : Nat} {p : Str → Prop} : ∀ {s : Sta}, Fine d p s → Fine d p (fitT most s) := by
  intro s
  induction s with
  | mark m => intro h; exact h
  | yes => intro h; exact h
  | nt s ih => intro h; have hd := h.dep; simp [Sta.depth] at hd; unfold fitT; split; exact h; exact ih ⟨by omega, h.mks, h.ks⟩
  | nx s ih => intro h; have hd := h.dep; simp [Sta.depth] at hd; unfold fitT; split; exact h; exact ih ⟨by omega, h.mks, h.ks⟩
  | wi k s ih => intro h; have hd := h.dep; simp [Sta.depth] at hd; unfold fitT; split; exact h; exact ih ⟨by omega, h.mks, h.ks.2⟩
  | bf s ih => intro h; have hd := h.dep; simp [Sta.depth] at hd; unfold fitT; split; exact h; exact ih ⟨by omega, h.mks, h.ks⟩
  | an s t ih ih' => intro h; have hd := h.dep; simp [Sta.depth] at hd; unfold fitT; split; exact h; exact ih' ⟨by omega, h.mks.2, h.ks.2⟩
  | or s t ih ih' => intro h; have hd := h.dep; simp [Sta.depth] at hd; unfold fitT; split; exact h; exact ih' ⟨by omega, h.mks.2, h.ks.2⟩
  | un s t ih ih' => intro h; have hd := h.dep; simp [Sta.depth] at hd; unfold fitT; split; exact h; exact ih' ⟨by omega, h.mks.2, h.ks.2⟩
  | si s t ih ih' => intro h; have hd := h.dep; simp [Sta.depth] at hd; unfold fitT; split; exact h; exact ih' ⟨by omega, h.mks.2, h.ks.2⟩
theorem foldW_len {l : List Sta} (hl : ∀ t ∈ l, ksOk t) : ∀ found : List Sta, (l.foldl stepW found).length ≤ found.length + 4 * l.length := by
  induction l with
  | nil => intro f; simp
  | cons s l ih =>
    intro f
    have h1 := ih (fun t ht => hl t (List.mem_cons_of_mem _ ht)) (stepW f s)
    have h2 := stepW_len (found := f) (hl s List.mem_cons_self)
    simp only [List.foldl_cons, List.length_cons]
    omega
theorem wishesT_len {d : Nat} {p : Str → Prop} {s : Sta} (hd : d ≤ 18) (h : Fine d p s) : (wishesT s).length ≤ big := by
  have h1 := foldW_len (l := allT s) (fun t ht => (allT_fine h t ht).ks) [s]
  have h2 := allT_len s
  have h3 : 2 ^ s.depth ≤ 2 ^ 18 := Nat.pow_le_pow_right (by omega) (by have := h.dep; omega)
  unfold wishesT
  simp only [List.length_cons, List.length_nil] at h1
  unfold big
  omega
theorem neg1 (ds : List D) (a : D) (h : ds.getLast? = some a) : oIx (.tuple ds) (.int (-1)) = some a := by
  rw [oIx_tup, atI_neg1 ds a h]
theorem fit_loop {d n : Nat} (hd : d ≤ 18) (hn : d + 1 ≤ n) {most : Nat} (h1 : 1 ≤ most) : ∀ {s : Sta}, Fine d okM s → ∀ m, s.depth + 1 ≤ m →
    whF (fT (f2 oGt (fB oLen (fCons (fCall (Phi n .l_wishes) (fCons (fVar 0) fNil)) fNil)) (fOpd 1))) (sSet 0 (f2 oIx (fOpd 0) (f1 oNeg (fCon (.int 1))))) m [.va (enc s), .va (.int most)]
      = some (.nx [.va (enc (fitT most s)), .va (.int most)]) := by
  have stop : ∀ (s : Sta) (m : Nat), Fine d okM s → (wishesT s).length ≤ most → whF (fT (f2 oGt (fB oLen (fCons (fCall (Phi n .l_wishes) (fCons (fVar 0) fNil)) fNil)) (fOpd 1))) (sSet 0 (f2 oIx (fOpd 0) (f1 oNeg (fCon (.int 1))))) (m + 1) [.va (enc s), .va (.int most)] = some (.nx [.va (enc s), .va (.int most)]) := by
    intro s m h hl
    have w := run_wishes hd h hn
    have c : ¬ ((most : Int) < (((wishesT s).length : Nat) : Int)) := by omega
    unfold whF
    simp [fOwn, fOpN,  fSeq, fNext, sRet, sRetN, sIf, sSet, sSetO, sAsg, sApp, sFor, forF, fVar, fOpd, fCon, f2, f1, fNil, fCons, bR, bL, bA, bLL, oR, fT, gAnd, gOr, gNot, gYes, fAnd, fOr, fNot, fIte, fTup, fLst, fCall, fCallO, fB, fM1, fSl, fiNo, fiSm, fLc, wLst, wTup, wStr, wRg1, wRg2, wZip, wEnum, gfN, gfTup, gsNil, gsCons, fLrg, fLrg3, wipeG, xSeq, xSet, xOf, xCall, xIf, xRet, xNext, xTup, xCons, xNil, xPut, xCallP, sRetX, sSetX, List.getElem?_cons_zero, List.getElem?_cons_succ, List.set_cons_zero, List.set_cons_succ, w, encL, c]
  have go : ∀ (s t : Sta) (m : Nat), Fine d okM s → ¬ (wishesT s).length ≤ most → oIx (enc s) (.int (-1)) = some (enc t) → whF (fT (f2 oGt (fB oLen (fCons (fCall (Phi n .l_wishes) (fCons (fVar 0) fNil)) fNil)) (fOpd 1))) (sSet 0 (f2 oIx (fOpd 0) (f1 oNeg (fCon (.int 1))))) (m + 1) [.va (enc s), .va (.int most)] = whF (fT (f2 oGt (fB oLen (fCons (fCall (Phi n .l_wishes) (fCons (fVar 0) fNil)) fNil)) (fOpd 1))) (sSet 0 (f2 oIx (fOpd 0) (f1 oNeg (fCon (.int 1))))) m [.va (enc t), .va (.int most)] := by
    intro s t m h hl e
    have w := run_wishes hd h hn
    have c : (most : Int) < (((wishesT s).length : Nat) : Int) := by omega
    conv => lhs; unfold whF
    simp [fOwn, fOpN,  fSeq, fNext, sRet, sRetN, sIf, sSet, sSetO, sAsg, sApp, sFor, forF, fVar, fOpd, fCon, f2, f1, fNil, fCons, bR, bL, bA, bLL, oR, fT, gAnd, gOr, gNot, gYes, fAnd, fOr, fNot, fIte, fTup, fLst, fCall, fCallO, fB, fM1, fSl, fiNo, fiSm, fLc, wLst, wTup, wStr, wRg1, wRg2, wZip, wEnum, gfN, gfTup, gsNil, gsCons, fLrg, fLrg3, wipeG, xSeq, xSet, xOf, xCall, xIf, xRet, xNext, xTup, xCons, xNil, xPut, xCallP, sRetX, sSetX, List.getElem?_cons_zero, List.getElem?_cons_succ, List.set_cons_zero, List.set_cons_succ, w, encL, c, oNeg, e]
  intro s
  induction s with
  | mark x => intro h m hm; obtain ⟨m, rfl⟩ : ∃ k, m = k + 1 := ⟨m - 1, by omega⟩; exact stop _ m h (by have := fitT_len h1 (.mark x); exact this)
  | yes => intro h m hm; obtain ⟨m, rfl⟩ : ∃ k, m = k + 1 := ⟨m - 1, by omega⟩; exact stop _ m h (by have := fitT_len h1 .yes; exact this)
  | nt s ih =>
    intro h m hm; have hk := h.dep; simp [Sta.depth] at hk hm; obtain ⟨m, rfl⟩ : ∃ k, m = k + 1 := ⟨m - 1, by omega⟩
    unfold fitT; split
    · exact stop _ m h (by assumption)
    · rw [go _ s m h (by assumption) (neg1 _ _ rfl)]; exact ih ⟨by omega, h.mks, h.ks⟩ m (by omega)
  | nx s ih =>
    intro h m hm; have hk := h.dep; simp [Sta.depth] at hk hm; obtain ⟨m, rfl⟩ : ∃ k, m = k + 1 := ⟨m - 1, by omega⟩
    unfold fitT; split
    · exact stop _ m h (by assumption)
    · rw [go _ s m h (by assumption) (neg1 _ _ rfl)]; exact ih ⟨by omega, h.mks, h.ks⟩ m (by omega)
  | bf s ih =>
    intro h m hm; have hk := h.dep; simp [Sta.depth] at hk hm; obtain ⟨m, rfl⟩ : ∃ k, m = k + 1 := ⟨m - 1, by omega⟩
    unfold fitT; split
    · exact stop _ m h (by assumption)
    · rw [go _ s m h (by assumption) (neg1 _ _ rfl)]; exact ih ⟨by omega, h.mks, h.ks⟩ m (by omega)
  | wi k s ih =>
    intro h m hm; have hk := h.dep; simp [Sta.depth] at hk hm; obtain ⟨m, rfl⟩ : ∃ k, m = k + 1 := ⟨m - 1, by omega⟩
    unfold fitT; split
    · exact stop _ m h (by assumption)
    · rw [go _ s m h (by assumption) (neg1 _ _ rfl)]; exact ih ⟨by omega, h.mks, h.ks.2⟩ m (by omega)
  | an s t ih ih' =>
    intro h m hm; have hk := h.dep; simp [Sta.depth] at hk hm; obtain ⟨m, rfl⟩ : ∃ k, m = k + 1 := ⟨m - 1, by omega⟩
    unfold fitT; split
    · exact stop _ m h (by assumption)
    · rw [go _ t m h (by assumption) (neg1 _ _ rfl)]; exact ih' ⟨by omega, h.mks.2, h.ks.2⟩ m (by omega)
  | or s t ih ih' =>
    intro h m hm; have hk := h.dep; simp [Sta.depth] at hk hm; obtain ⟨m, rfl⟩ : ∃ k, m = k + 1 := ⟨m - 1, by omega⟩
    unfold fitT; split
    · exact stop _ m h (by assumption)
    · rw [go _ t m h (by assumption) (neg1 _ _ rfl)]; exact ih' ⟨by omega, h.mks.2, h.ks.2⟩ m (by omega)
  | un s t ih ih' =>
    intro h m hm; have hk := h.dep; simp [Sta.depth] at hk hm; obtain ⟨m, rfl⟩ : ∃ k, m = k + 1 := ⟨m - 1, by omega⟩
    unfold fitT; split
    · exact stop _ m h (by assumption)
    · rw [go _ t m h (by assumption) (neg1 _ _ rfl)]; exact ih' ⟨by omega, h.mks.2, h.ks.2⟩ m (by omega)
  | si s t ih ih' =>
    intro h m hm; have hk := h.dep; simp [Sta.depth] at hk hm; obtain ⟨m, rfl⟩ : ∃ k, m = k + 1 := ⟨m - 1, by omega⟩
    unfold fitT; split
    · exact stop _ m h (by assumption)
    · rw [go _ t m h (by assumption) (neg1 _ _ rfl)]; exact ih' ⟨by omega, h.mks.2, h.ks.2⟩ m (by omega)
theorem run_fit {d n : Nat} (hd : d ≤ 18) (hn : d + 2 ≤ n) {most : Nat} (h1 : 1 ≤ most) {s : Sta} (h : Fine d okM s) : Phi n .l_fit [enc s, .int most] = some (.ok (enc (fitT most s))) := by
  obtain ⟨n, rfl⟩ : ∃ k, n = k + 1 := ⟨n - 1, by omega⟩
  have hf : s.depth + 1 ≤ fuel := Nat.le_trans (show s.depth + 1 ≤ 19 by have := h.dep; omega) (by unfold fuel; decide)
  have k := fit_loop hd (n := n) (by omega) h1 h fuel hf
  rw [phi_l_fit]
  unfold runF f_l_fit
  simp [entry, fSeq, sWh, k, sRet, fVar]
end K08

namespace K08
open PySem PySem.Spec PyProof.Rows L2 Py
/-! ### the names -/
/-- a short text of small letters -/
structure Low (n : Nat) (s : Str) : Prop where
  let_ : ∀ x ∈ s.cps.toList, 97 ≤ x ∧ x ≤ 122
  len : s.length ≤ n
theorem Low.ok {n : Nat} {s : Str} (h : Low n s) : okM s := by
  unfold okM PyData.strOk
  rw [← Array.all_toList, List.all_eq_true]
  intro x hx
  have := h.let_ x hx
  exact decide_eq_true (by omega)
theorem Low.cut {n : Nat} {s : Str} (h : Low n s) (lo hi : Option Int) : Low n (cutS s lo hi) :=
  ⟨fun x hx => by
    unfold cutS at hx
    simp only [List.toList_toArray] at hx
    exact h.let_ x (List.drop_subset _ _ (List.take_subset _ _ hx)), Nat.le_trans (cutS_length s lo hi) h.len⟩
theorem Low.app {n m : Nat} {s t : Str} (h : Low n s) (h2 : Low m t) : Low (n + m) (s ++ t) :=
  ⟨fun x hx => by
    have e : (s ++ t).cps.toList = s.cps.toList ++ t.cps.toList := TL.tl_append s t
    rw [e] at hx
    rcases List.mem_append.mp hx with q | q
    · exact h.let_ x q
    · exact h2.let_ x q, by
    have : (s ++ t).length = s.length + t.length := Str.length_append s t
    have := h.len; have := h2.len; omega⟩
def letS (x : Int) : Str := ⟨#[97 + (x % 26).toNat]⟩
theorem letS_low (x : Int) : Low 1 (letS x) :=
  ⟨fun y hy => by
    unfold letS at hy
    simp only [List.mem_singleton] at hy
    subst hy
    have h1 := Int.emod_nonneg x (show (26 : Int) ≠ 0 by decide)
    have h2 := Int.emod_lt_of_pos x (show (0 : Int) < 26 by decide)
    omega, Nat.le_refl _⟩
theorem letters_at : ∀ j : _root_.Fin 26, atI ("abcdefghijklmnopqrstuvwxyz" : Str).cps.toList (j.val : Int) = some (97 + j.val) := by decide +kernel
theorem letters_len : ("abcdefghijklmnopqrstuvwxyz" : Str).length ≤ big := by decide +kernel
theorem ix_letter (x : Int) : oIx (.str "abcdefghijklmnopqrstuvwxyz") (.int (x % 26)) = some (.str (letS x)) := by
  have h1 := Int.emod_nonneg x (show (26 : Int) ≠ 0 by decide)
  have h2 := Int.emod_lt_of_pos x (show (0 : Int) < 26 by decide)
  have h := letters_at ⟨(x % 26).toNat, by omega⟩
  have e : (((x % 26).toNat : Nat) : Int) = x % 26 := Int.toNat_of_nonneg h1
  simp only [e] at h
  show (if ("abcdefghijklmnopqrstuvwxyz" : Str).length ≤ big then (match atI ("abcdefghijklmnopqrstuvwxyz" : Str).cps.toList (x % 26) with | some c => some (PyData.str ⟨#[c]⟩) | none => none) else none) = _
  rw [if_pos letters_len, h]
  rfl
theorem joinN_low : ∀ l : List Str, (∀ s ∈ l, Low 1 s) → Low l.length (Str.join "" l)
  | [], _ => ⟨fun x hx => (by cases hx), Nat.le_refl _⟩
  | [a], h => h a List.mem_cons_self
  | a :: b :: r, h => by
    have e : Str.join "" (a :: b :: r) = a ++ "" ++ Str.join "" (b :: r) := rfl
    have ih := joinN_low (b :: r) fun s hs => h s (List.mem_cons_of_mem _ hs)
    have he : Low 0 ("" : Str) := ⟨fun x hx => (by cases hx), Nat.le_refl _⟩
    have := ((h a List.mem_cons_self).app he).app ih
    rw [e]
    simp only [List.length_cons] at this ⊢
    exact ⟨this.let_, by have := this.len; omega⟩
theorem join_low (l : List Str) (h : ∀ s ∈ l, Low 1 s) : Low l.length (Txt.join "" l) := by
  rw [TL.join_eq]; exact joinN_low l h
theorem oSl_str {z : Str} (h : z.length ≤ big) (lo hi : Option Int) : oSl lo hi (.str z) = some (.str (cutS z lo hi)) := by
  show (if z.length ≤ big then some (PyData.str (cutS z lo hi)) else none) = _; rw [if_pos h]
theorem oAdd_str {y z : Str} (h : y.length + z.length ≤ big) : oAdd (.str y) (.str z) = some (.str (y ++ z)) := by
  show (if y.length + z.length ≤ big then some (PyData.str (y ++ z)) else none) = _; rw [if_pos h]
theorem oJoin_six {a b c d e f : Str} (h : ∀ s ∈ [a, b, c, d, e, f], Low 1 s) : oJoin "" (.list [.str a, .str b, .str c, .str d, .str e, .str f]) = some (.str (Txt.join "" [a, b, c, d, e, f])) := by
  have hs : strsOf [.str a, .str b, .str c, .str d, .str e, .str f] = some [a, b, c, d, e, f] := rfl
  have z : (([a, b, c, d, e, f] : List Str).map (·.length)).sum + [a, b, c, d, e, f].length * (("" : Str)).length ≤ big := by
    have h1 := (h a (by simp)).len
    have h2 := (h b (by simp)).len
    have h3 := (h c (by simp)).len
    have h4 := (h d (by simp)).len
    have h5 := (h e (by simp)).len
    have h6 := (h f (by simp)).len
    have h0 : ("" : Str).length = 0 := rfl
    rw [h0]
    simp only [List.map_cons, List.map_nil, List.sum_cons, List.sum_nil, big]
    omega
  unfold oJoin
  simp only [hs, if_pos z]
theorem mul5 (j : Int) : oMul (.int 5) (.int j) = some (.int (5 * j)) := oMul_int _ _ (.inl ⟨by decide, by decide⟩)
theorem mul7 (j : Int) : oMul (.int 7) (.int j) = some (.int (7 * j)) := oMul_int _ _ (.inl ⟨by decide, by decide⟩)
theorem rg6 : rgD 0 6 = [.int 0, .int 1, .int 2, .int 3, .int 4, .int 5] := rfl
theorem rg3 : rgD 0 3 = [.int 0, .int 1, .int 2] := rfl
theorem rgo6 : rgOk 0 6 = true := by decide
theorem rgo3 : rgOk 0 3 = true := by decide
theorem run_names (n : Nat) (c : Int) : ∃ a b d : Str, Low 13 a ∧ Low 13 b ∧ Low 13 d ∧ Phi (n + 1) .l_names [.int c] = some (.ok (.list [.str a, .str b, .str d])) := by
  rw [phi_l_names]
  have hl : ∀ s ∈ [letS (c / 7), letS (c / 7 + 5), letS (c / 7 + 10), letS (c / 7 + 15), letS (c / 7 + 20), letS (c / 7 + 25)], Low 1 s := by
    intro s hs
    simp only [List.mem_cons, List.not_mem_nil, or_false] at hs
    rcases hs with rfl | rfl | rfl | rfl | rfl | rfl <;> exact letS_low _
  have hj := oJoin_six hl
  have hr := join_low _ hl
  generalize hz : Txt.join "" [letS (c / 7), letS (c / 7 + 5), letS (c / 7 + 10), letS (c / 7 + 15), letS (c / 7 + 20), letS (c / 7 + 25)] = z at hj hr
  have hr : Low 6 z := hr
  have hb : z.length ≤ big := Nat.le_trans hr.len (by decide)
  have sl := fun lo hi => oSl_str hb lo hi
  have hrest : lcF (gfN 8) gYes (f2 oIx (fOpd 1) (f2 oMod (f2 oAdd (f2 oDiv (fOpd 0) (fCon (.int 7))) (f2 oMul (fCon (.int 5)) (fOpd 8))) (fCon (.int 26)))) [.va (.int c), .va (.str "abcdefghijklmnopqrstuvwxyz"), .no, .no, .no, .no, .no, .no, .no] [.int 0, .int 1, .int 2, .int 3, .int 4, .int 5]
      = some [.str (letS (c / 7)), .str (letS (c / 7 + 5)), .str (letS (c / 7 + 10)), .str (letS (c / 7 + 15)), .str (letS (c / 7 + 20)), .str (letS (c / 7 + 25))] := by
    simp [lcF, fOwn, fOpN,  fSeq, fNext, sRet, sRetN, sIf, sSet, sSetO, sAsg, sApp, sFor, forF, fVar, fOpd, fCon, f2, f1, fNil, fCons, bR, bL, bA, bLL, oR, fT, gAnd, gOr, gNot, gYes, fAnd, fOr, fNot, fIte, fTup, fLst, fCall, fCallO, fB, fM1, fSl, fiNo, fiSm, fLc, wLst, wTup, wStr, wRg1, wRg2, wZip, wEnum, gfN, gfTup, gsNil, gsCons, fLrg, fLrg3, wipeG, xSeq, xSet, xOf, xCall, xIf, xRet, xNext, xTup, xCons, xNil, xPut, xCallP, sRetX, sSetX, List.getElem?_cons_zero, List.getElem?_cons_succ, List.set_cons_zero, List.set_cons_succ, mul5, ix_letter]
  by_cases h2 : c % 3 = 2
  · refine ⟨cutS z none (some (1 + c / 3 % 4 + 0)), cutS z none (some (1 + c / 3 % 4 + 1)), cutS z none (some (1 + c / 3 % 4 + 2)), ?_, ?_, ?_, ?_⟩
    · exact ⟨(hr.cut _ _).let_, Nat.le_trans (hr.cut _ _).len (by decide)⟩
    · exact ⟨(hr.cut _ _).let_, Nat.le_trans (hr.cut _ _).len (by decide)⟩
    · exact ⟨(hr.cut _ _).let_, Nat.le_trans (hr.cut _ _).len (by decide)⟩
    have hsl : lcF (gfN 6) gYes (fSl (fOpd 2) fiNo (fiSm (f2 oAdd (fOpd 3) (fOpd 6)))) [.va (.int c), .va (.str "abcdefghijklmnopqrstuvwxyz"), .va (.str z), .va (.int (1 + c / 3 % 4)), .no, .no, .no, .no, .no] [.int 0, .int 1, .int 2]
        = some [.str (cutS z none (some (1 + c / 3 % 4 + 0))), .str (cutS z none (some (1 + c / 3 % 4 + 1))), .str (cutS z none (some (1 + c / 3 % 4 + 2)))] := by
      simp [lcF, fOwn, fOpN,  fSeq, fNext, sRet, sRetN, sIf, sSet, sSetO, sAsg, sApp, sFor, forF, fVar, fOpd, fCon, f2, f1, fNil, fCons, bR, bL, bA, bLL, oR, fT, gAnd, gOr, gNot, gYes, fAnd, fOr, fNot, fIte, fTup, fLst, fCall, fCallO, fB, fM1, fSl, fiNo, fiSm, fLc, wLst, wTup, wStr, wRg1, wRg2, wZip, wEnum, gfN, gfTup, gsNil, gsCons, fLrg, fLrg3, wipeG, xSeq, xSet, xOf, xCall, xIf, xRet, xNext, xTup, xCons, xNil, xPut, xCallP, sRetX, sSetX, List.getElem?_cons_zero, List.getElem?_cons_succ, List.set_cons_zero, List.set_cons_succ, sl]
    unfold runF f_l_names
    simp [entry, fOwn, fOpN,  fSeq, fNext, sRet, sRetN, sIf, sSet, sSetO, sAsg, sApp, sFor, forF, fVar, fOpd, fCon, f2, f1, fNil, fCons, bR, bL, bA, bLL, oR, fT, gAnd, gOr, gNot, gYes, fAnd, fOr, fNot, fIte, fTup, fLst, fCall, fCallO, fB, fM1, fSl, fiNo, fiSm, fLc, wLst, wTup, wStr, wRg1, wRg2, wZip, wEnum, gfN, gfTup, gsNil, gsCons, fLrg, fLrg3, wipeG, xSeq, xSet, xOf, xCall, xIf, xRet, xNext, xTup, xCons, xNil, xPut, xCallP, sRetX, sSetX, List.getElem?_cons_zero, List.getElem?_cons_succ, List.set_cons_zero, List.set_cons_succ, rg6, rg3, rgo6, rgo3, hrest, hj, h2, List.replicate, hsl]
  · have hs := Int.emod_nonneg (c / 3) (show (6 : Int) ≠ 0 by decide)
    have c2 : (c % 3 == 2) = false := beq_eq_false_iff_ne.mpr h2
    have w1 : ∀ x : Int, (cutS z none (some (c / 18 % (c / 3 % 6 + 1)))).length + (letS x).length ≤ big := fun x => by
      have h1 := (hr.cut none (some (c / 18 % (c / 3 % 6 + 1)))).len
      have h2 := (letS_low x).len
      unfold big; omega
    have w2 : ∀ x : Int, (cutS z none (some (c / 18 % (c / 3 % 6 + 1))) ++ letS x).length + (cutS z (some (c / 18 % (c / 3 % 6 + 1))) (some (c / 3 % 6))).length ≤ big := fun x => by
      have h1 := ((hr.cut none (some (c / 18 % (c / 3 % 6 + 1)))).app (letS_low x)).len
      have h2 := (hr.cut (some (c / 18 % (c / 3 % 6 + 1))) (some (c / 3 % 6))).len
      unfold big; omega
    have low : ∀ x : Int, Low 13 (cutS z none (some (c / 18 % (c / 3 % 6 + 1))) ++ letS x ++ cutS z (some (c / 18 % (c / 3 % 6 + 1))) (some (c / 3 % 6))) := fun x =>
      ((hr.cut none (some (c / 18 % (c / 3 % 6 + 1)))).app (letS_low x)).app (hr.cut (some (c / 18 % (c / 3 % 6 + 1))) (some (c / 3 % 6)))
    refine ⟨_, _, _, low (c / 90 + 7 * 0), low (c / 90 + 7 * 1), low (c / 90 + 7 * 2), ?_⟩
    have pos : (0 : Int) < c / 3 % 6 + 1 := by omega
    unfold runF f_l_names
    simp [entry, fOwn, fOpN,  fSeq, fNext, sRet, sRetN, sIf, sSet, sSetO, sAsg, sApp, sFor, forF, fVar, fOpd, fCon, f2, f1, fNil, fCons, bR, bL, bA, bLL, oR, fT, gAnd, gOr, gNot, gYes, fAnd, fOr, fNot, fIte, fTup, fLst, fCall, fCallO, fB, fM1, fSl, fiNo, fiSm, fLc, wLst, wTup, wStr, wRg1, wRg2, wZip, wEnum, gfN, gfTup, gsNil, gsCons, fLrg, fLrg3, wipeG, xSeq, xSet, xOf, xCall, xIf, xRet, xNext, xTup, xCons, xNil, xPut, xCallP, sRetX, sSetX, List.getElem?_cons_zero, List.getElem?_cons_succ, List.set_cons_zero, List.set_cons_succ, rg6, rg3, rgo6, rgo3, hrest, hj, c2, List.replicate, sl, ix_letter, mul7, oAdd_str (w1 _), oAdd_str (w2 _), oMod_int _ _ pos]
end K08

namespace K08
open PySem PySem.Spec PyProof.Rows L2 Py
/-! ### the cells, and the run -/
def cellT (ns : List Int) (k : Nat) : Int := ns.getD k 0
def nsD (ns : List Int) : D := .list (ns.map .int)
theorem run_cell (n : Nat) (ns : List Int) (k : Nat) : Phi (n + 1) .l_cell_at [nsD ns, .int k] = some (.ok (.int (cellT ns k))) := by
  rw [phi_l_cell_at]
  unfold runF f_l_cell_at
  by_cases h : k < ns.length
  · have h1 : (k : Int) < (ns.length : Int) := by omega
    have e : atI (ns.map PyData.int) (k : Int) = some (.int (cellT ns k)) := by
      refine atI_cast ?_
      rw [List.getElem?_map, List.getElem?_eq_getElem h]
      simp [cellT, List.getD, List.getElem?_eq_getElem h]
    simp [entry, fOwn, fOpN,  fSeq, fNext, sRet, sRetN, sIf, sSet, sSetO, sAsg, sApp, sFor, forF, fVar, fOpd, fCon, f2, f1, fNil, fCons, bR, bL, bA, bLL, oR, fT, gAnd, gOr, gNot, gYes, fAnd, fOr, fNot, fIte, fTup, fLst, fCall, fCallO, fB, fM1, fSl, fiNo, fiSm, fLc, wLst, wTup, wStr, wRg1, wRg2, wZip, wEnum, gfN, gfTup, gsNil, gsCons, fLrg, fLrg3, wipeG, xSeq, xSet, xOf, xCall, xIf, xRet, xNext, xTup, xCons, xNil, xPut, xCallP, sRetX, sSetX, List.getElem?_cons_zero, List.getElem?_cons_succ, List.set_cons_zero, List.set_cons_succ, nsD, h, e]
  · have h1 : ¬ (k : Int) < (ns.length : Int) := by omega
    have e : cellT ns k = 0 := by unfold cellT; rw [List.getD_eq_getElem?_getD, List.getElem?_eq_none (by omega)]; rfl
    simp [entry, fOwn, fOpN,  fSeq, fNext, sRet, sRetN, sIf, sSet, sSetO, sAsg, sApp, sFor, forF, fVar, fOpd, fCon, f2, f1, fNil, fCons, bR, bL, bA, bLL, oR, fT, gAnd, gOr, gNot, gYes, fAnd, fOr, fNot, fIte, fTup, fLst, fCall, fCallO, fB, fM1, fSl, fiNo, fiSm, fLc, wLst, wTup, wStr, wRg1, wRg2, wZip, wEnum, gfN, gfTup, gsNil, gsCons, fLrg, fLrg3, wipeG, xSeq, xSet, xOf, xCall, xIf, xRet, xNext, xTup, xCons, xNil, xPut, xCallP, sRetX, sSetX, List.getElem?_cons_zero, List.getElem?_cons_succ, List.set_cons_zero, List.set_cons_succ, nsD, h, e]
theorem cut_any (ds : List D) (i j : Nat) (h2 : i ≤ j) : Py.cutD ds (some (i : Int)) (some (j : Int)) = (ds.drop i).take (j - i) := by
  by_cases h : i ≤ ds.length
  · exact cut_mid ds i j h h2
  · unfold Py.cutD
    rw [HT.sIx_nat, HT.sIx_nat, Nat.min_eq_right (by omega), Nat.min_eq_right (by omega), Nat.sub_self, List.take_zero, List.drop_eq_nil_of_le (by omega), List.take_nil]
def pick (l : List Str) (x : Int) : Str := l.getD (x % 8).toNat ""
theorem pick_at (l : List Str) (hl : l.length = 8) (x : Int) : atI (l.map PyData.str) (x % 8) = some (.str (pick l x)) := by
  have h1 := Int.emod_nonneg x (show (8 : Int) ≠ 0 by decide)
  have h2 := Int.emod_lt_of_pos x (show (0 : Int) < 8 by decide)
  have e : (((x % 8).toNat : Nat) : Int) = x % 8 := Int.toNat_of_nonneg h1
  rw [← e]
  refine atI_cast ?_
  have hi : (x % 8).toNat < l.length := by omega
  rw [List.getElem?_map, List.getElem?_eq_getElem hi]
  simp [pick, List.getD, List.getElem?_eq_getElem hi]
theorem pick_mem (l : List Str) (hl : l.length = 8) (x : Int) : pick l x ∈ l := by
  have h1 := Int.emod_nonneg x (show (8 : Int) ≠ 0 by decide)
  have h2 := Int.emod_lt_of_pos x (show (0 : Int) < 8 by decide)
  have hi : (x % 8).toNat < l.length := by omega
  unfold pick
  rw [List.getD_eq_getElem?_getD, List.getElem?_eq_getElem hi]
  exact List.getElem_mem hi
theorem oAdd_lst (x y : List D) : oAdd (.list x) (.list y) = if x.length + y.length ≤ big then some (.list (x ++ y)) else none := rfl
theorem zq_low : Low 2 ("zq" : Str) := ⟨by decide +kernel, by decide +kernel⟩
theorem empty_low : Low 0 ("" : Str) := ⟨fun x hx => (by cases hx), Nat.le_refl _⟩
theorem Low.up {n m : Nat} {s : Str} (h : Low n s) (e : n ≤ m) : Low m s := ⟨h.let_, Nat.le_trans h.len e⟩
theorem run_run (n : Nat) (ns : List Int) (b m : Nat) (hm : m ≤ 10000) {x y z : Str} (hx : Low 13 x) (hy : Low 13 y) (hz : Low 13 z) :
    ∃ run : List Str, run.length ≤ m ∧ (∀ s ∈ run, Low 15 s) ∧ Phi (n + 1) .l_run [nsD ns, .int b, .list [.str x, .str y, .str z], .int m] = some (.ok (.list (run.map .str))) := by
  have hw : Low 15 (cutS z none (some 1) ++ "zq") := (hz.cut none (some 1)).app zq_low
  refine ⟨((ns.drop b).take m).map (pick [x, y, z, "", cutS z none (some 1) ++ "zq", x, y, z]), ?_, ?_, ?_⟩
  · simp; omega
  · intro s hs
    obtain ⟨i, _, rfl⟩ := List.mem_map.mp hs
    have := pick_mem [x, y, z, "", cutS z none (some 1) ++ "zq", x, y, z] rfl i
    simp only [List.mem_cons, List.not_mem_nil, or_false] at this
    rcases this with e | e | e | e | e | e | e | e <;> rw [e]
    · exact hx.up (by decide)
    · exact hy.up (by decide)
    · exact hz.up (by decide)
    · exact empty_low.up (by decide)
    · exact hw
    · exact hx.up (by decide)
    · exact hy.up (by decide)
    · exact hz.up (by decide)
  · have hb : z.length ≤ big := Nat.le_trans hz.len (by decide)
    have sl := fun lo hi => oSl_str hb lo hi
    have ad := oAdd_str (y := cutS z none (some 1)) (z := "zq") (by have h1 := (hz.cut none (some 1)).len; have h2 := zq_low.len; unfold big; omega)
    have ct := cut_any (ns.map PyData.int) b (b + m) (by omega)
    have e1 : ((b + m : Nat) : Int) = (b : Int) + m := by omega
    rw [e1, Nat.add_sub_cancel_left, ← List.map_drop, ← List.map_take] at ct
    have hz2 : min m (ns.length - b) ≤ big := by unfold big; omega
    have lc := lcF_map (gf := gfN 5) (cf := gYes) (ef := f2 oIx (fOpd 4) (f2 oMod (fOpd 5) (fCon (.int 8)))) (γ := [.va (nsD ns), .va (.int b), .va (.list [.str x, .str y, .str z]), .va (.int m), .va (.list [.str x, .str y, .str z, .str "", .str (cutS z none (some 1) ++ "zq"), .str x, .str y, .str z]), .no]) PyData.int (fun i => .str (pick [x, y, z, "", cutS z none (some 1) ++ "zq", x, y, z] i)) ((ns.drop b).take m) (fun i _ => ⟨_, rfl, rfl, by
      have p := pick_at [x, y, z, "", cutS z none (some 1) ++ "zq", x, y, z] rfl i
      simp only [List.map_cons, List.map_nil] at p
      simp [fOwn, fOpN,  fSeq, fNext, sRet, sRetN, sIf, sSet, sSetO, sAsg, sApp, sFor, forF, fVar, fOpd, fCon, f2, f1, fNil, fCons, bR, bL, bA, bLL, oR, fT, gAnd, gOr, gNot, gYes, fAnd, fOr, fNot, fIte, fTup, fLst, fCall, fCallO, fB, fM1, fSl, fiNo, fiSm, fLc, wLst, wTup, wStr, wRg1, wRg2, wZip, wEnum, gfN, gfTup, gsNil, gsCons, fLrg, fLrg3, wipeG, xSeq, xSet, xOf, xCall, xIf, xRet, xNext, xTup, xCons, xNil, xPut, xCallP, sRetX, sSetX, List.getElem?_cons_zero, List.getElem?_cons_succ, List.set_cons_zero, List.set_cons_succ, p]⟩)
    rw [phi_l_run]
    unfold runF f_l_run
    unfold nsD at lc ⊢
    simp [-List.map_take, -List.map_drop, entry, fOwn, fOpN,  fSeq, fNext, sRet, sRetN, sIf, sSet, sSetO, sAsg, sApp, sFor, forF, fVar, fOpd, fCon, f2, f1, fNil, fCons, bR, bL, bA, bLL, oR, fT, gAnd, gOr, gNot, gYes, fAnd, fOr, fNot, fIte, fTup, fLst, fCall, fCallO, fB, fM1, fSl, fiNo, fiSm, fLc, wLst, wTup, wStr, wRg1, wRg2, wZip, wEnum, gfN, gfTup, gsNil, gsCons, fLrg, fLrg3, wipeG, xSeq, xSet, xOf, xCall, xIf, xRet, xNext, xTup, xCons, xNil, xPut, xCallP, sRetX, sSetX, List.getElem?_cons_zero, List.getElem?_cons_succ, List.set_cons_zero, List.set_cons_succ, sl, ad, oAdd_lst, ct, lc, hz2, List.replicate, List.map_map, Function.comp_def]
end K08

namespace K08
open PySem PySem.Spec PyProof.Rows L2 Py
/-! ### the statement that the script makes -/
theorem set_one (d : D) : ([.int 0] : List D).set 0 d = [d] := rfl
theorem run_draw (n : Nat) (ns : List Int) (k : Nat) : ∃ c : Int, Psi (n + 1) .l_draw (nsD ns) (k : Int) [] = some (.int c, ((k + 1 : Nat) : Int)) := by
  have i0 : ixN 1 0 = some 0 := by decide
  have e1 : ((k + 1 : Nat) : Int) = (k : Int) + 1 := by omega
  have e2 : (k : Int) + 1 - 1 = k := by omega
  have at_ : ∀ j : Nat, j < ns.length → atI (ns.map PyData.int) (j : Int) = some (.int (ns.getD j 0)) := fun j h => by
    refine atI_cast ?_
    rw [List.getElem?_map, List.getElem?_eq_getElem h]
    simp [List.getD, List.getElem?_eq_getElem h]
  rw [psi_l_draw, e1]
  unfold runX f_l_draw
  by_cases h : k < ns.length
  · refine ⟨ns.getD k 0, ?_⟩
    have a := at_ k h
    simp [entryX, entry, fOwn, fOpN,  fSeq, fNext, sRet, sRetN, sIf, sSet, sSetO, sAsg, sApp, sFor, forF, fVar, fOpd, fCon, f2, f1, fNil, fCons, bR, bL, bA, bLL, oR, fT, gAnd, gOr, gNot, gYes, fAnd, fOr, fNot, fIte, fTup, fLst, fCall, fCallO, fB, fM1, fSl, fiNo, fiSm, fLc, wLst, wTup, wStr, wRg1, wRg2, wZip, wEnum, gfN, gfTup, gsNil, gsCons, fLrg, fLrg3, wipeG, xSeq, xSet, xOf, xCall, xIf, xRet, xNext, xTup, xCons, xNil, xPut, xCallP, sRetX, sSetX, List.getElem?_cons_zero, List.getElem?_cons_succ, List.set_cons_zero, List.set_cons_succ, nsD, i0, e2, h, a, List.replicate]
  · by_cases h2 : 4 < ns.length ∧ k < 40
    · have hm : k % ns.length < ns.length := Nat.mod_lt _ (by omega)
      have a := at_ (k % ns.length) hm
      have em : (((k % ns.length : Nat)) : Int) = (k : Int) % (ns.length : Int) := by omega
      rw [em] at a
      have m1 : oMul (.int 7919) (.int (k : Int)) = some (.int (7919 * (k : Int))) := oMul_int _ _ (.inl ⟨by decide, by decide⟩)
      have m2 : ∀ x : Int, oMul (.int x) (.int 48271) = some (.int (x * 48271)) := fun x => oMul_int _ _ (.inr ⟨by decide, by decide⟩)
      have pos : (0 : Int) < (ns.length : Int) := by omega
      refine ⟨(ns.getD (k % ns.length) 0 + 7919 * (k : Int)) * 48271 % 1000003, ?_⟩
      have c4 : (4 : Int) < (ns.length : Int) := by omega
      have c40 : (k : Int) < 40 := by omega
      simp [entryX, entry, fOwn, fOpN,  fSeq, fNext, sRet, sRetN, sIf, sSet, sSetO, sAsg, sApp, sFor, forF, fVar, fOpd, fCon, f2, f1, fNil, fCons, bR, bL, bA, bLL, oR, fT, gAnd, gOr, gNot, gYes, fAnd, fOr, fNot, fIte, fTup, fLst, fCall, fCallO, fB, fM1, fSl, fiNo, fiSm, fLc, wLst, wTup, wStr, wRg1, wRg2, wZip, wEnum, gfN, gfTup, gsNil, gsCons, fLrg, fLrg3, wipeG, xSeq, xSet, xOf, xCall, xIf, xRet, xNext, xTup, xCons, xNil, xPut, xCallP, sRetX, sSetX, List.getElem?_cons_zero, List.getElem?_cons_succ, List.set_cons_zero, List.set_cons_succ, nsD, i0, e2, h, a, m1, m2, c4, c40, oMod_int _ _ pos, List.replicate]
    · refine ⟨0, ?_⟩
      by_cases h3 : 4 < ns.length
      · have c4 : (4 : Int) < (ns.length : Int) := by omega
        have c40 : ¬ (k : Int) < 40 := by omega
        simp [entryX, entry, fOwn, fOpN,  fSeq, fNext, sRet, sRetN, sIf, sSet, sSetO, sAsg, sApp, sFor, forF, fVar, fOpd, fCon, f2, f1, fNil, fCons, bR, bL, bA, bLL, oR, fT, gAnd, gOr, gNot, gYes, fAnd, fOr, fNot, fIte, fTup, fLst, fCall, fCallO, fB, fM1, fSl, fiNo, fiSm, fLc, wLst, wTup, wStr, wRg1, wRg2, wZip, wEnum, gfN, gfTup, gsNil, gsCons, fLrg, fLrg3, wipeG, xSeq, xSet, xOf, xCall, xIf, xRet, xNext, xTup, xCons, xNil, xPut, xCallP, sRetX, sSetX, List.getElem?_cons_zero, List.getElem?_cons_succ, List.set_cons_zero, List.set_cons_succ, nsD, i0, e2, h, c4, c40, List.replicate]
      · have c4 : ¬ (4 : Int) < (ns.length : Int) := by omega
        simp [entryX, entry, fOwn, fOpN,  fSeq, fNext, sRet, sRetN, sIf, sSet, sSetO, sAsg, sApp, sFor, forF, fVar, fOpd, fCon, f2, f1, fNil, fCons, bR, bL, bA, bLL, oR, fT, gAnd, gOr, gNot, gYes, fAnd, fOr, fNot, fIte, fTup, fLst, fCall, fCallO, fB, fM1, fSl, fiNo, fiSm, fLc, wLst, wTup, wStr, wRg1, wRg2, wZip, wEnum, gfN, gfTup, gsNil, gsCons, fLrg, fLrg3, wipeG, xSeq, xSet, xOf, xCall, xIf, xRet, xNext, xTup, xCons, xNil, xPut, xCallP, sRetX, sSetX, List.getElem?_cons_zero, List.getElem?_cons_succ, List.set_cons_zero, List.set_cons_succ, nsD, i0, e2, h, c4, List.replicate]
abbrev kindsA : List Str := ["not", "and", "or", "before", "since", "not", "and", "before", "since", "or", "since", "before"]
abbrev kindsB : List Str := ["not", "and", "or", "next", "until", "within", "until", "next", "since", "before", "until", "within"]
def words : List Str := ["not", "and", "or", "next", "until", "within", "before", "since"]
theorem oSplit_str {a b : Str} (g : (b.length == 0) = false ∧ a.length + 2 ≤ big) : oSplit a (.str b) = some (.list ((Txt.split a b).map .str)) := by
  show (if (b.length == 0) = false ∧ a.length + 2 ≤ big then some (PyData.list ((Txt.split a b).map .str)) else none) = _
  rw [if_pos g]
theorem split_a : oSplit "not and or before since not and before since or since before" (.str " ") = some (.list (kindsA.map .str)) := by
  have h : Txt.split "not and or before since not and before since or since before" " " = kindsA := by decide +kernel
  have g : (((" " : Str).length == 0) = false ∧ ("not and or before since not and before since or since before" : Str).length + 2 ≤ big) := by decide +kernel
  rw [oSplit_str g, h]
theorem split_b : oSplit "not and or next until within until next since before until within" (.str " ") = some (.list (kindsB.map .str)) := by
  have h : Txt.split "not and or next until within until next since before until within" " " = kindsB := by decide +kernel
  have g : (((" " : Str).length == 0) = false ∧ ("not and or next until within until next since before until within" : Str).length + 2 ≤ big) := by decide +kernel
  rw [oSplit_str g, h]
def wordsP : List Str := ["not", "and", "or", "before", "since"]
theorem at_words (W l : List Str) (hl : l.length = 12) (hw : ∀ w ∈ l, w ∈ W) (c : Int) (h : ¬ c % 14 < 2) : ∃ w ∈ W, atI (l.map PyData.str) (c % 14 - 2) = some (.str w) := by
  have h1 := Int.emod_nonneg c (show (14 : Int) ≠ 0 by decide)
  have h2 := Int.emod_lt_of_pos c (show (0 : Int) < 14 by decide)
  have hi : (c % 14 - 2).toNat < l.length := by omega
  refine ⟨l[(c % 14 - 2).toNat], hw _ (List.getElem_mem hi), ?_⟩
  have e : (((c % 14 - 2).toNat : Nat) : Int) = c % 14 - 2 := Int.toNat_of_nonneg (by omega)
  have a : atI (l.map PyData.str) (((c % 14 - 2).toNat : Nat) : Int) = some (.str l[(c % 14 - 2).toNat]) := by
    refine atI_cast ?_
    rw [List.getElem?_map, List.getElem?_eq_getElem hi]
    rfl
  rw [e] at a
  exact a
theorem at_ks (x y : Int) : ∃ j : Nat, j ≤ 4 ∧ atI ([.int 1, .int 2, .int 0, .int 1, .int (y % 5)] : List D) (x % 5) = some (.int j) := by
  have h1 := Int.emod_nonneg x (show (5 : Int) ≠ 0 by decide)
  have h2 := Int.emod_lt_of_pos x (show (0 : Int) < 5 by decide)
  have g1 := Int.emod_nonneg y (show (5 : Int) ≠ 0 by decide)
  have g2 := Int.emod_lt_of_pos y (show (0 : Int) < 5 by decide)
  have e : (((x % 5).toNat : Nat) : Int) = x % 5 := Int.toNat_of_nonneg h1
  generalize x % 5 = z at h1 h2 e ⊢
  have hz : z = 0 ∨ z = 1 ∨ z = 2 ∨ z = 3 ∨ z = 4 := by omega
  rcases hz with rfl | rfl | rfl | rfl | rfl
  · exact ⟨1, by decide, rfl⟩
  · exact ⟨2, by decide, rfl⟩
  · exact ⟨0, by decide, rfl⟩
  · exact ⟨1, by decide, rfl⟩
  · refine ⟨(y % 5).toNat, by omega, ?_⟩
    rw [Int.toNat_of_nonneg g1]
    rfl
theorem at_three (x y z : Str) (c : Int) : ∃ w ∈ [x, y, z], atI ([.str x, .str y, .str z] : List D) (c % 3) = some (.str w) := by
  have h1 := Int.emod_nonneg c (show (3 : Int) ≠ 0 by decide)
  have h2 := Int.emod_lt_of_pos c (show (0 : Int) < 3 by decide)
  generalize c % 3 = i at h1 h2 ⊢
  have hz : i = 0 ∨ i = 1 ∨ i = 2 := by omega
  rcases hz with rfl | rfl | rfl
  · exact ⟨x, by simp, rfl⟩
  · exact ⟨y, by simp, rfl⟩
  · exact ⟨z, by simp, rfl⟩
theorem made_leaf {ns : List Int} {x y z : Str} {p : Str → Prop} (hp : ∀ w ∈ [x, y, z], p w) (d : Nat) (D0 K0 K1 : Int) (ahead : Bool) (c : Int) (Psy : Nx → Phx) (hd : Psy .l_draw (nsD ns) K0 [] = some (.int c, K1)) (hc : D0 < 2 ∨ c % 14 < 2) :
      ∃ s : Sta, Fine (d + 1) p s ∧ noFut s ∧ unm s ∧ runX 5 10 (f_l_made Psy) (nsD ns) K0 [.list [.str x, .str y, .str z], .int D0, .bool ahead] = some (enc s, K1) := by
  by_cases h4 : c / 14 % 9 = 4
  · refine ⟨.yes, ⟨by simp [Sta.depth], trivial, trivial⟩, trivial, trivial, ?_⟩
    unfold runX f_l_made
    by_cases h0 : D0 < 2
    · simp [fOwn, fOpN,  fSeq, fNext, sRet, sRetN, sIf, sSet, sSetO, sAsg, sApp, sFor, forF, fVar, fOpd, fCon, f2, f1, fNil, fCons, bR, bL, bA, bLL, oR, fT, gAnd, gOr, gNot, gYes, fAnd, fOr, fNot, fIte, fTup, fLst, fCall, fCallO, fB, fM1, fSl, fiNo, fiSm, fLc, wLst, wTup, wStr, wRg1, wRg2, wZip, wEnum, gfN, gfTup, gsNil, gsCons, fLrg, fLrg3, wipeG, xSeq, xSet, xOf, xCall, xIf, xRet, xNext, xTup, xCons, xNil, xPut, xCallP, sRetX, sSetX, List.getElem?_cons_zero, List.getElem?_cons_succ, List.set_cons_zero, List.set_cons_succ, entryX, entry, List.replicate, hd, h0, h4, enc]
    · have h := hc.resolve_left h0
      simp [fOwn, fOpN,  fSeq, fNext, sRet, sRetN, sIf, sSet, sSetO, sAsg, sApp, sFor, forF, fVar, fOpd, fCon, f2, f1, fNil, fCons, bR, bL, bA, bLL, oR, fT, gAnd, gOr, gNot, gYes, fAnd, fOr, fNot, fIte, fTup, fLst, fCall, fCallO, fB, fM1, fSl, fiNo, fiSm, fLc, wLst, wTup, wStr, wRg1, wRg2, wZip, wEnum, gfN, gfTup, gsNil, gsCons, fLrg, fLrg3, wipeG, xSeq, xSet, xOf, xCall, xIf, xRet, xNext, xTup, xCons, xNil, xPut, xCallP, sRetX, sSetX, List.getElem?_cons_zero, List.getElem?_cons_succ, List.set_cons_zero, List.set_cons_succ, entryX, entry, List.replicate, hd, h, h0, h4, enc]
  · obtain ⟨w, hw, e⟩ := at_three x y z (c / 14)
    have h4b : (c / 14 % 9 == 4) = false := beq_eq_false_iff_ne.mpr h4
    refine ⟨.mark w, ⟨by simp [Sta.depth], hp w hw, trivial⟩, trivial, trivial, ?_⟩
    unfold runX f_l_made
    by_cases h0 : D0 < 2
    · simp [fOwn, fOpN,  fSeq, fNext, sRet, sRetN, sIf, sSet, sSetO, sAsg, sApp, sFor, forF, fVar, fOpd, fCon, f2, f1, fNil, fCons, bR, bL, bA, bLL, oR, fT, gAnd, gOr, gNot, gYes, fAnd, fOr, fNot, fIte, fTup, fLst, fCall, fCallO, fB, fM1, fSl, fiNo, fiSm, fLc, wLst, wTup, wStr, wRg1, wRg2, wZip, wEnum, gfN, gfTup, gsNil, gsCons, fLrg, fLrg3, wipeG, xSeq, xSet, xOf, xCall, xIf, xRet, xNext, xTup, xCons, xNil, xPut, xCallP, sRetX, sSetX, List.getElem?_cons_zero, List.getElem?_cons_succ, List.set_cons_zero, List.set_cons_succ, entryX, entry, List.replicate, hd, h0, h4b, e, enc]
    · have h := hc.resolve_left h0
      simp [fOwn, fOpN,  fSeq, fNext, sRet, sRetN, sIf, sSet, sSetO, sAsg, sApp, sFor, forF, fVar, fOpd, fCon, f2, f1, fNil, fCons, bR, bL, bA, bLL, oR, fT, gAnd, gOr, gNot, gYes, fAnd, fOr, fNot, fIte, fTup, fLst, fCall, fCallO, fB, fM1, fSl, fiNo, fiSm, fLc, wLst, wTup, wStr, wRg1, wRg2, wZip, wEnum, gfN, gfTup, gsNil, gsCons, fLrg, fLrg3, wipeG, xSeq, xSet, xOf, xCall, xIf, xRet, xNext, xTup, xCons, xNil, xPut, xCallP, sRetX, sSetX, List.getElem?_cons_zero, List.getElem?_cons_succ, List.set_cons_zero, List.set_cons_succ, entryX, entry, List.replicate, hd, h, h0, h4b, e, enc]
theorem wordsP_sub : ∀ w ∈ wordsP, w ∈ words := by decide +kernel
/-- the kind's name, as the script draws it -/
theorem kind_at (ahead : Bool) (c : Int) (h : ¬ c % 14 < 2) : ∃ w ∈ words, ∃ l : List D, (ahead = false → w ∈ wordsP) ∧ oSplit (if ahead = true then "not and or next until within until next since before until within" else "not and or before since not and before since or since before") (.str " ") = some (.list l) ∧ atI l (c % 14 - 2) = some (.str w) := by
  cases ahead with
  | true =>
    obtain ⟨w, hw, e⟩ := at_words words kindsB rfl (by decide +kernel) c h
    exact ⟨w, hw, _, (fun z => by cases z), split_b, e⟩
  | false =>
    obtain ⟨w, hw, e⟩ := at_words wordsP kindsA rfl (by decide +kernel) c h
    exact ⟨w, wordsP_sub w hw, _, fun _ => hw, split_a, e⟩
theorem made_node {ns : List Int} {P : D} (D0 K0 K1 : Int) (ahead : Bool) (c : Int) (Psy : Nx → Phx) (hd : Psy .l_draw (nsD ns) K0 [] = some (.int c, K1)) (h0 : ¬ D0 < 2) (hc : ¬ c % 14 < 2) {d : Nat} {p : Str → Prop}
    (hm : ∀ (k : Int) (b : Bool), (∃ j : Nat, k = j) → ∃ (s : Sta) (k' : Int), (∃ j : Nat, k' = j) ∧ Fine (d + 1) p s ∧ (b = false → noFut s) ∧ unm s ∧ Psy .l_made (nsD ns) k [P, .int (D0 - 1), .bool b] = some (enc s, k')) (hk : ∃ j : Nat, K1 = j) :
      ∃ (s : Sta) (k' : Int), (∃ j : Nat, k' = j) ∧ Fine (d + 1 + 1) p s ∧ (ahead = false → noFut s) ∧ unm s ∧ runX 5 10 (f_l_made Psy) (nsD ns) K0 [P, .int D0, .bool ahead] = some (enc s, k') := by
  obtain ⟨w, hw, l, hP, e1, e2⟩ := kind_at ahead c hc
  obtain ⟨s, K2, hk2, fs, ns_, us, es⟩ := hm K1 (ahead && !(w == "before" || w == "since")) hk
  obtain ⟨t, K3, hk3, ft, nt_, ut, et⟩ := hm K2 (ahead && !(w == "before" || w == "since")) hk2
  obtain ⟨j, hj, ej⟩ := at_ks (c / 14) (c / 14 / 6)
  have ds := fs.dep
  have dt := ft.dep
  simp only [words, List.mem_cons, List.not_mem_nil, or_false] at hw
  rcases hw with rfl | rfl | rfl | rfl | rfl | rfl | rfl | rfl
  · refine ⟨.nt s, K2, hk2, ⟨by simp [Sta.depth]; omega, fs.mks, fs.ks⟩, fun z => ns_ (by rw [z]; rfl), us, ?_⟩
    unfold runX f_l_made
    cases ahead <;> simp at e1 es et <;> simp [fOwn, fOpN,  fSeq, fNext, sRet, sRetN, sIf, sSet, sSetO, sAsg, sApp, sFor, forF, fVar, fOpd, fCon, f2, f1, fNil, fCons, bR, bL, bA, bLL, oR, fT, gAnd, gOr, gNot, gYes, fAnd, fOr, fNot, fIte, fTup, fLst, fCall, fCallO, fB, fM1, fSl, fiNo, fiSm, fLc, wLst, wTup, wStr, wRg1, wRg2, wZip, wEnum, gfN, gfTup, gsNil, gsCons, fLrg, fLrg3, wipeG, xSeq, xSet, xOf, xCall, xIf, xRet, xNext, xTup, xCons, xNil, xPut, xCallP, sRetX, sSetX, List.getElem?_cons_zero, List.getElem?_cons_succ, List.set_cons_zero, List.set_cons_succ, entryX, entry, List.replicate, hd, h0, hc, e1, e2, es, et, oIn, flatD, PyData.eqv, enc]
  · refine ⟨.an s t, K3, hk3, ⟨by simp [Sta.depth]; omega, ⟨fs.mks, ft.mks⟩, ⟨fs.ks, ft.ks⟩⟩, fun z => ⟨ns_ (by rw [z]; rfl), nt_ (by rw [z]; rfl)⟩, ⟨us, ut⟩, ?_⟩
    unfold runX f_l_made
    cases ahead <;> simp at e1 es et <;> simp [fOwn, fOpN,  fSeq, fNext, sRet, sRetN, sIf, sSet, sSetO, sAsg, sApp, sFor, forF, fVar, fOpd, fCon, f2, f1, fNil, fCons, bR, bL, bA, bLL, oR, fT, gAnd, gOr, gNot, gYes, fAnd, fOr, fNot, fIte, fTup, fLst, fCall, fCallO, fB, fM1, fSl, fiNo, fiSm, fLc, wLst, wTup, wStr, wRg1, wRg2, wZip, wEnum, gfN, gfTup, gsNil, gsCons, fLrg, fLrg3, wipeG, xSeq, xSet, xOf, xCall, xIf, xRet, xNext, xTup, xCons, xNil, xPut, xCallP, sRetX, sSetX, List.getElem?_cons_zero, List.getElem?_cons_succ, List.set_cons_zero, List.set_cons_succ, entryX, entry, List.replicate, hd, h0, hc, e1, e2, es, et, oIn, flatD, PyData.eqv, enc]
  · refine ⟨.or s t, K3, hk3, ⟨by simp [Sta.depth]; omega, ⟨fs.mks, ft.mks⟩, ⟨fs.ks, ft.ks⟩⟩, fun z => ⟨ns_ (by rw [z]; rfl), nt_ (by rw [z]; rfl)⟩, ⟨us, ut⟩, ?_⟩
    unfold runX f_l_made
    cases ahead <;> simp at e1 es et <;> simp [fOwn, fOpN,  fSeq, fNext, sRet, sRetN, sIf, sSet, sSetO, sAsg, sApp, sFor, forF, fVar, fOpd, fCon, f2, f1, fNil, fCons, bR, bL, bA, bLL, oR, fT, gAnd, gOr, gNot, gYes, fAnd, fOr, fNot, fIte, fTup, fLst, fCall, fCallO, fB, fM1, fSl, fiNo, fiSm, fLc, wLst, wTup, wStr, wRg1, wRg2, wZip, wEnum, gfN, gfTup, gsNil, gsCons, fLrg, fLrg3, wipeG, xSeq, xSet, xOf, xCall, xIf, xRet, xNext, xTup, xCons, xNil, xPut, xCallP, sRetX, sSetX, List.getElem?_cons_zero, List.getElem?_cons_succ, List.set_cons_zero, List.set_cons_succ, entryX, entry, List.replicate, hd, h0, hc, e1, e2, es, et, oIn, flatD, PyData.eqv, enc]
  · refine ⟨.nx s, K2, hk2, ⟨by simp [Sta.depth]; omega, fs.mks, fs.ks⟩, fun z => absurd (hP z) (by decide +kernel), us, ?_⟩
    unfold runX f_l_made
    cases ahead <;> simp at e1 es et <;> simp [fOwn, fOpN,  fSeq, fNext, sRet, sRetN, sIf, sSet, sSetO, sAsg, sApp, sFor, forF, fVar, fOpd, fCon, f2, f1, fNil, fCons, bR, bL, bA, bLL, oR, fT, gAnd, gOr, gNot, gYes, fAnd, fOr, fNot, fIte, fTup, fLst, fCall, fCallO, fB, fM1, fSl, fiNo, fiSm, fLc, wLst, wTup, wStr, wRg1, wRg2, wZip, wEnum, gfN, gfTup, gsNil, gsCons, fLrg, fLrg3, wipeG, xSeq, xSet, xOf, xCall, xIf, xRet, xNext, xTup, xCons, xNil, xPut, xCallP, sRetX, sSetX, List.getElem?_cons_zero, List.getElem?_cons_succ, List.set_cons_zero, List.set_cons_succ, entryX, entry, List.replicate, hd, h0, hc, e1, e2, es, et, oIn, flatD, PyData.eqv, enc]
  · refine ⟨.un s t, K3, hk3, ⟨by simp [Sta.depth]; omega, ⟨fs.mks, ft.mks⟩, ⟨fs.ks, ft.ks⟩⟩, fun z => absurd (hP z) (by decide +kernel), ⟨us, ut⟩, ?_⟩
    unfold runX f_l_made
    cases ahead <;> simp at e1 es et <;> simp [fOwn, fOpN,  fSeq, fNext, sRet, sRetN, sIf, sSet, sSetO, sAsg, sApp, sFor, forF, fVar, fOpd, fCon, f2, f1, fNil, fCons, bR, bL, bA, bLL, oR, fT, gAnd, gOr, gNot, gYes, fAnd, fOr, fNot, fIte, fTup, fLst, fCall, fCallO, fB, fM1, fSl, fiNo, fiSm, fLc, wLst, wTup, wStr, wRg1, wRg2, wZip, wEnum, gfN, gfTup, gsNil, gsCons, fLrg, fLrg3, wipeG, xSeq, xSet, xOf, xCall, xIf, xRet, xNext, xTup, xCons, xNil, xPut, xCallP, sRetX, sSetX, List.getElem?_cons_zero, List.getElem?_cons_succ, List.set_cons_zero, List.set_cons_succ, entryX, entry, List.replicate, hd, h0, hc, e1, e2, es, et, oIn, flatD, PyData.eqv, enc]
  · refine ⟨.wi j s, K2, hk2, ⟨by simp [Sta.depth]; omega, fs.mks, ⟨hj, fs.ks⟩⟩, fun z => absurd (hP z) (by decide +kernel), us, ?_⟩
    unfold runX f_l_made
    cases ahead <;> simp at e1 es et <;> simp [fOwn, fOpN,  fSeq, fNext, sRet, sRetN, sIf, sSet, sSetO, sAsg, sApp, sFor, forF, fVar, fOpd, fCon, f2, f1, fNil, fCons, bR, bL, bA, bLL, oR, fT, gAnd, gOr, gNot, gYes, fAnd, fOr, fNot, fIte, fTup, fLst, fCall, fCallO, fB, fM1, fSl, fiNo, fiSm, fLc, wLst, wTup, wStr, wRg1, wRg2, wZip, wEnum, gfN, gfTup, gsNil, gsCons, fLrg, fLrg3, wipeG, xSeq, xSet, xOf, xCall, xIf, xRet, xNext, xTup, xCons, xNil, xPut, xCallP, sRetX, sSetX, List.getElem?_cons_zero, List.getElem?_cons_succ, List.set_cons_zero, List.set_cons_succ, entryX, entry, List.replicate, hd, h0, hc, e1, e2, es, et, ej, oIn, flatD, PyData.eqv, enc]
  · refine ⟨.bf s, K2, hk2, ⟨by simp [Sta.depth]; omega, fs.mks, fs.ks⟩, fun z => ns_ (by rw [z]; rfl), ns_ (by simp), ?_⟩
    unfold runX f_l_made
    cases ahead <;> simp at e1 es et <;> simp [fOwn, fOpN,  fSeq, fNext, sRet, sRetN, sIf, sSet, sSetO, sAsg, sApp, sFor, forF, fVar, fOpd, fCon, f2, f1, fNil, fCons, bR, bL, bA, bLL, oR, fT, gAnd, gOr, gNot, gYes, fAnd, fOr, fNot, fIte, fTup, fLst, fCall, fCallO, fB, fM1, fSl, fiNo, fiSm, fLc, wLst, wTup, wStr, wRg1, wRg2, wZip, wEnum, gfN, gfTup, gsNil, gsCons, fLrg, fLrg3, wipeG, xSeq, xSet, xOf, xCall, xIf, xRet, xNext, xTup, xCons, xNil, xPut, xCallP, sRetX, sSetX, List.getElem?_cons_zero, List.getElem?_cons_succ, List.set_cons_zero, List.set_cons_succ, entryX, entry, List.replicate, hd, h0, hc, e1, e2, es, et, oIn, flatD, PyData.eqv, enc]
  · refine ⟨.si s t, K3, hk3, ⟨by simp [Sta.depth]; omega, ⟨fs.mks, ft.mks⟩, ⟨fs.ks, ft.ks⟩⟩, fun z => ⟨ns_ (by rw [z]; rfl), nt_ (by rw [z]; rfl)⟩, ⟨ns_ (by simp), nt_ (by simp)⟩, ?_⟩
    unfold runX f_l_made
    cases ahead <;> simp at e1 es et <;> simp [fOwn, fOpN,  fSeq, fNext, sRet, sRetN, sIf, sSet, sSetO, sAsg, sApp, sFor, forF, fVar, fOpd, fCon, f2, f1, fNil, fCons, bR, bL, bA, bLL, oR, fT, gAnd, gOr, gNot, gYes, fAnd, fOr, fNot, fIte, fTup, fLst, fCall, fCallO, fB, fM1, fSl, fiNo, fiSm, fLc, wLst, wTup, wStr, wRg1, wRg2, wZip, wEnum, gfN, gfTup, gsNil, gsCons, fLrg, fLrg3, wipeG, xSeq, xSet, xOf, xCall, xIf, xRet, xNext, xTup, xCons, xNil, xPut, xCallP, sRetX, sSetX, List.getElem?_cons_zero, List.getElem?_cons_succ, List.set_cons_zero, List.set_cons_succ, entryX, entry, List.replicate, hd, h0, hc, e1, e2, es, et, oIn, flatD, PyData.eqv, enc]
theorem run_made {ns : List Int} {x y z : Str} {p : Str → Prop} (hp : ∀ w ∈ [x, y, z], p w) : ∀ (d n : Nat) (k : Int) (ahead : Bool), (∃ j : Nat, k = j) → d + 3 ≤ n →
    ∃ (s : Sta) (k' : Int), (∃ j : Nat, k' = j) ∧ Fine (d + 1) p s ∧ (ahead = false → noFut s) ∧ unm s ∧ Psi n .l_made (nsD ns) k [.list [.str x, .str y, .str z], .int ((d : Int) + 1), .bool ahead] = some (enc s, k') := by
  intro d
  induction d with
  | zero =>
    rintro n k ahead ⟨j, rfl⟩ hn
    obtain ⟨n, rfl⟩ : ∃ m, n = m + 2 := ⟨n - 2, by omega⟩
    obtain ⟨c, hc⟩ := run_draw n ns j
    rw [psi_l_made]
    obtain ⟨s, fs, ns_, us, es⟩ := made_leaf hp 0 (((0 : Nat) : Int) + 1) _ _ ahead c _ hc (.inl (by decide))
    exact ⟨s, _, ⟨_, rfl⟩, fs, fun _ => ns_, us, es⟩
  | succ d ih =>
    rintro n k ahead ⟨j, rfl⟩ hn
    obtain ⟨n, rfl⟩ : ∃ m, n = m + 2 := ⟨n - 2, by omega⟩
    obtain ⟨c, hc⟩ := run_draw n ns j
    rw [psi_l_made]
    by_cases hl : c % 14 < 2
    · obtain ⟨s, fs, ns_, us, es⟩ := made_leaf hp (d + 1) (((d + 1 : Nat) : Int) + 1) _ _ ahead c _ hc (.inr hl)
      exact ⟨s, _, ⟨_, rfl⟩, fs, fun _ => ns_, us, es⟩
    · refine made_node (((d + 1 : Nat) : Int) + 1) _ _ ahead c _ hc (by omega) hl (fun k b hk => ?_) ⟨_, rfl⟩
      have e : ((d + 1 : Nat) : Int) + 1 - 1 = (d : Int) + 1 := by omega
      rw [e]
      exact ih (n + 1) k b hk (by omega)
end K08

namespace K08
open PySem PySem.Spec PyProof.Rows L2 Py
/-! ### what a statement hangs on, as the program gathers it -/
def partsT : Sta → List Sta
  | .mark _ => [] | .yes => []
  | .nt s => [s] | .nx s => [s] | .wi _ s => [s] | .bf s => [s]
  | .an s t => [s, t] | .or s t => [s, t] | .un s t => [s, t] | .si s t => [s, t]
theorem run_parts (n : Nat) (s : Sta) : Phi (n + 1) .parts_of [enc s] = some (.ok (encL (partsT s))) := by
  rw [phi_parts_of]
  cases s <;> simp [runF, entry, f_parts_of, enc, encL, partsT, fOwn, fOpN,  fSeq, fNext, sRet, sRetN, sIf, sSet, sSetO, sAsg, sApp, sFor, forF, fVar, fOpd, fCon, f2, f1, fNil, fCons, bR, bL, bA, bLL, oR, fT, gAnd, gOr, gNot, gYes, fAnd, fOr, fNot, fIte, fTup, fLst, fCall, fCallO, fB, fM1, fSl, fiNo, fiSm, fLc, wLst, wTup, wStr, wRg1, wRg2, wZip, wEnum, gfN, gfTup, gsNil, gsCons, fLrg, fLrg3, wipeG, xSeq, xSet, xOf, xCall, xIf, xRet, xNext, xTup, xCons, xNil, xPut, xCallP, sRetX, sSetX, List.getElem?_cons_zero, List.getElem?_cons_succ, List.set_cons_zero, List.set_cons_succ, tail_tup, tail_one, lcF, isi_enc, isi_str, isi_int]
def wishedT : Sta → List Sta
  | .mark _ => [] | .yes => []
  | .nt s => wishedT s | .bf s => wishedT s
  | .an s t => wishedT s ++ wishedT t | .or s t => wishedT s ++ wishedT t | .si s t => wishedT s ++ wishedT t
  | .nx s => [s]
  | .un s t => wishedT s ++ wishedT t ++ [.un s t]
  | .wi k s => wishedT s ++ (match k with | 0 => [] | k + 1 => [.wi k s])
theorem wishedT_len : ∀ s : Sta, (wishedT s).length + 1 ≤ 2 ^ s.depth := by
  intro s
  induction s with
  | mark m => simp [wishedT, Sta.depth]
  | yes => simp [wishedT, Sta.depth]
  | nt s ih => simp only [wishedT, Sta.depth, Nat.pow_succ]; omega
  | bf s ih => simp only [wishedT, Sta.depth, Nat.pow_succ]; omega
  | nx s ih => have := Nat.one_le_two_pow (n := s.depth); simp only [wishedT, Sta.depth, Nat.pow_succ, List.length_cons, List.length_nil]; omega
  | wi k s ih => cases k <;> simp only [wishedT, Sta.depth, Nat.pow_succ, List.length_append, List.length_cons, List.length_nil] <;> omega
  | an s t ih ih' =>
    have p1 : 2 ^ s.depth ≤ 2 ^ (max s.depth t.depth) := Nat.pow_le_pow_right (by omega) (by omega)
    have p2 : 2 ^ t.depth ≤ 2 ^ (max s.depth t.depth) := Nat.pow_le_pow_right (by omega) (by omega)
    simp only [wishedT, Sta.depth, List.length_append, Nat.pow_succ]; omega
  | or s t ih ih' =>
    have p1 : 2 ^ s.depth ≤ 2 ^ (max s.depth t.depth) := Nat.pow_le_pow_right (by omega) (by omega)
    have p2 : 2 ^ t.depth ≤ 2 ^ (max s.depth t.depth) := Nat.pow_le_pow_right (by omega) (by omega)
    simp only [wishedT, Sta.depth, List.length_append, Nat.pow_succ]; omega
  | si s t ih ih' =>
    have p1 : 2 ^ s.depth ≤ 2 ^ (max s.depth t.depth) := Nat.pow_le_pow_right (by omega) (by omega)
    have p2 : 2 ^ t.depth ≤ 2 ^ (max s.depth t.depth) := Nat.pow_le_pow_right (by omega) (by omega)
    simp only [wishedT, Sta.depth, List.length_append, Nat.pow_succ]; omega
  | un s t ih ih' =>
    have p1 : 2 ^ s.depth ≤ 2 ^ (max s.depth t.depth) := Nat.pow_le_pow_right (by omega) (by omega)
    have p2 : 2 ^ t.depth ≤ 2 ^ (max s.depth t.depth) := Nat.pow_le_pow_right (by omega) (by omega)
    simp only [wishedT, Sta.depth, List.length_append, Nat.pow_succ, List.length_cons, List.length_nil]; omega
theorem run_wished : ∀ (s : Sta) (n : Nat), s.depth ≤ 19 → s.depth + 1 ≤ n → Phi n .wished [enc s] = some (.ok (encL (wishedT s))) := by
  intro s
  induction s with
  | mark m =>
    intro n hd hn
    obtain ⟨n, rfl⟩ : ∃ k, n = k + 2 := ⟨n - 2, by simp [Sta.depth] at hn; omega⟩
    have p := run_parts n (.mark m)
    rw [phi_wished]
    simp only [encL, partsT, List.map_nil, enc] at p
    simp [runF, entry, f_wished, enc, encL, wishedT, fOwn, fOpN,  fSeq, fNext, sRet, sRetN, sIf, sSet, sSetO, sAsg, sApp, sFor, forF, fVar, fOpd, fCon, f2, f1, fNil, fCons, bR, bL, bA, bLL, oR, fT, gAnd, gOr, gNot, gYes, fAnd, fOr, fNot, fIte, fTup, fLst, fCall, fCallO, fB, fM1, fSl, fiNo, fiSm, fLc, wLst, wTup, wStr, wRg1, wRg2, wZip, wEnum, gfN, gfTup, gsNil, gsCons, fLrg, fLrg3, wipeG, xSeq, xSet, xOf, xCall, xIf, xRet, xNext, xTup, xCons, xNil, xPut, xCallP, sRetX, sSetX, List.getElem?_cons_zero, List.getElem?_cons_succ, List.set_cons_zero, List.set_cons_succ, p, List.replicate]
  | yes =>
    intro n hd hn
    obtain ⟨n, rfl⟩ : ∃ k, n = k + 2 := ⟨n - 2, by simp [Sta.depth] at hn; omega⟩
    have p := run_parts n .yes
    rw [phi_wished]
    simp only [encL, partsT, List.map_nil, enc] at p
    simp [runF, entry, f_wished, enc, encL, wishedT, fOwn, fOpN,  fSeq, fNext, sRet, sRetN, sIf, sSet, sSetO, sAsg, sApp, sFor, forF, fVar, fOpd, fCon, f2, f1, fNil, fCons, bR, bL, bA, bLL, oR, fT, gAnd, gOr, gNot, gYes, fAnd, fOr, fNot, fIte, fTup, fLst, fCall, fCallO, fB, fM1, fSl, fiNo, fiSm, fLc, wLst, wTup, wStr, wRg1, wRg2, wZip, wEnum, gfN, gfTup, gsNil, gsCons, fLrg, fLrg3, wipeG, xSeq, xSet, xOf, xCall, xIf, xRet, xNext, xTup, xCons, xNil, xPut, xCallP, sRetX, sSetX, List.getElem?_cons_zero, List.getElem?_cons_succ, List.set_cons_zero, List.set_cons_succ, p, List.replicate]
  | nt s ih =>
    intro n hd hn
    simp [Sta.depth] at hn hd
    obtain ⟨n, rfl⟩ : ∃ k, n = k + 2 := ⟨n - 2, by omega⟩
    have p := run_parts n (.nt s)
    have h := ih (n + 1) (by omega) (by omega)
    have z := Nat.le_trans (wishedT_len s) (big_pow (d := s.depth) (by omega))
    have z0 : (wishedT s).length ≤ big := by omega
    rw [phi_wished]
    simp only [encL, partsT, List.map_cons, List.map_nil, enc] at p h
    simp [runF, entry, f_wished, enc, encL, wishedT, fOwn, fOpN,  fSeq, fNext, sRet, sRetN, sIf, sSet, sSetO, sAsg, sApp, sFor, forF, fVar, fOpd, fCon, f2, f1, fNil, fCons, bR, bL, bA, bLL, oR, fT, gAnd, gOr, gNot, gYes, fAnd, fOr, fNot, fIte, fTup, fLst, fCall, fCallO, fB, fM1, fSl, fiNo, fiSm, fLc, wLst, wTup, wStr, wRg1, wRg2, wZip, wEnum, gfN, gfTup, gsNil, gsCons, fLrg, fLrg3, wipeG, xSeq, xSet, xOf, xCall, xIf, xRet, xNext, xTup, xCons, xNil, xPut, xCallP, sRetX, sSetX, List.getElem?_cons_zero, List.getElem?_cons_succ, List.set_cons_zero, List.set_cons_succ, p, h, List.replicate, oAdd_lst, z0]
  | bf s ih =>
    intro n hd hn
    simp [Sta.depth] at hn hd
    obtain ⟨n, rfl⟩ : ∃ k, n = k + 2 := ⟨n - 2, by omega⟩
    have p := run_parts n (.bf s)
    have h := ih (n + 1) (by omega) (by omega)
    have z := Nat.le_trans (wishedT_len s) (big_pow (d := s.depth) (by omega))
    have z0 : (wishedT s).length ≤ big := by omega
    rw [phi_wished]
    simp only [encL, partsT, List.map_cons, List.map_nil, enc] at p h
    simp [runF, entry, f_wished, enc, encL, wishedT, fOwn, fOpN,  fSeq, fNext, sRet, sRetN, sIf, sSet, sSetO, sAsg, sApp, sFor, forF, fVar, fOpd, fCon, f2, f1, fNil, fCons, bR, bL, bA, bLL, oR, fT, gAnd, gOr, gNot, gYes, fAnd, fOr, fNot, fIte, fTup, fLst, fCall, fCallO, fB, fM1, fSl, fiNo, fiSm, fLc, wLst, wTup, wStr, wRg1, wRg2, wZip, wEnum, gfN, gfTup, gsNil, gsCons, fLrg, fLrg3, wipeG, xSeq, xSet, xOf, xCall, xIf, xRet, xNext, xTup, xCons, xNil, xPut, xCallP, sRetX, sSetX, List.getElem?_cons_zero, List.getElem?_cons_succ, List.set_cons_zero, List.set_cons_succ, p, h, List.replicate, oAdd_lst, z0]
  | nx s ih =>
    intro n hd hn
    simp [Sta.depth] at hn hd
    obtain ⟨n, rfl⟩ : ∃ k, n = k + 2 := ⟨n - 2, by omega⟩
    have p := run_parts n (.nx s)
    rw [phi_wished]
    simp only [encL, partsT, List.map_cons, List.map_nil, enc] at p
    simp [runF, entry, f_wished, enc, encL, wishedT, fOwn, fOpN,  fSeq, fNext, sRet, sRetN, sIf, sSet, sSetO, sAsg, sApp, sFor, forF, fVar, fOpd, fCon, f2, f1, fNil, fCons, bR, bL, bA, bLL, oR, fT, gAnd, gOr, gNot, gYes, fAnd, fOr, fNot, fIte, fTup, fLst, fCall, fCallO, fB, fM1, fSl, fiNo, fiSm, fLc, wLst, wTup, wStr, wRg1, wRg2, wZip, wEnum, gfN, gfTup, gsNil, gsCons, fLrg, fLrg3, wipeG, xSeq, xSet, xOf, xCall, xIf, xRet, xNext, xTup, xCons, xNil, xPut, xCallP, sRetX, sSetX, List.getElem?_cons_zero, List.getElem?_cons_succ, List.set_cons_zero, List.set_cons_succ, p, List.replicate]
  | wi k s ih =>
    intro n hd hn
    simp [Sta.depth] at hn hd
    obtain ⟨n, rfl⟩ : ∃ k, n = k + 2 := ⟨n - 2, by omega⟩
    have p := run_parts n (.wi k s)
    have h := ih (n + 1) (by omega) (by omega)
    have z := Nat.le_trans (wishedT_len s) (big_pow (d := s.depth) (by omega))
    have z0 : (wishedT s).length ≤ big := by omega
    rw [phi_wished]
    simp only [encL, partsT, List.map_cons, List.map_nil, enc] at p h
    cases k with
    | zero => simp [runF, entry, f_wished, enc, encL, wishedT, fOwn, fOpN,  fSeq, fNext, sRet, sRetN, sIf, sSet, sSetO, sAsg, sApp, sFor, forF, fVar, fOpd, fCon, f2, f1, fNil, fCons, bR, bL, bA, bLL, oR, fT, gAnd, gOr, gNot, gYes, fAnd, fOr, fNot, fIte, fTup, fLst, fCall, fCallO, fB, fM1, fSl, fiNo, fiSm, fLc, wLst, wTup, wStr, wRg1, wRg2, wZip, wEnum, gfN, gfTup, gsNil, gsCons, fLrg, fLrg3, wipeG, xSeq, xSet, xOf, xCall, xIf, xRet, xNext, xTup, xCons, xNil, xPut, xCallP, sRetX, sSetX, List.getElem?_cons_zero, List.getElem?_cons_succ, List.set_cons_zero, List.set_cons_succ, p, h, List.replicate, oAdd_lst, z0] at p ⊢
    | succ k =>
      have c : (0 : Int) < (k : Int) + 1 := by omega
      simp [runF, entry, f_wished, enc, encL, wishedT, fOwn, fOpN,  fSeq, fNext, sRet, sRetN, sIf, sSet, sSetO, sAsg, sApp, sFor, forF, fVar, fOpd, fCon, f2, f1, fNil, fCons, bR, bL, bA, bLL, oR, fT, gAnd, gOr, gNot, gYes, fAnd, fOr, fNot, fIte, fTup, fLst, fCall, fCallO, fB, fM1, fSl, fiNo, fiSm, fLc, wLst, wTup, wStr, wRg1, wRg2, wZip, wEnum, gfN, gfTup, gsNil, gsCons, fLrg, fLrg3, wipeG, xSeq, xSet, xOf, xCall, xIf, xRet, xNext, xTup, xCons, xNil, xPut, xCallP, sRetX, sSetX, List.getElem?_cons_zero, List.getElem?_cons_succ, List.set_cons_zero, List.set_cons_succ, p, h, List.replicate, oAdd_lst, z0, c] at p ⊢
  | an s t ih ih' =>
    intro n hd hn
    have z := Nat.le_trans (wishedT_len (.an s t)) (big_pow (d := (Sta.an s t).depth) (by omega))
    simp [Sta.depth] at hn hd
    obtain ⟨n, rfl⟩ : ∃ k, n = k + 2 := ⟨n - 2, by omega⟩
    have p := run_parts n (.an s t)
    have h := ih (n + 1) (by omega) (by omega)
    have h' := ih' (n + 1) (by omega) (by omega)
    simp only [wishedT, List.length_append] at z
    have z0 : (wishedT s).length ≤ big := by omega
    have z1 : (wishedT s).length + (wishedT t).length ≤ big := by omega
    rw [phi_wished]
    simp only [encL, partsT, List.map_cons, List.map_nil, enc] at p h h'
    simp [runF, entry, f_wished, enc, encL, wishedT, fOwn, fOpN,  fSeq, fNext, sRet, sRetN, sIf, sSet, sSetO, sAsg, sApp, sFor, forF, fVar, fOpd, fCon, f2, f1, fNil, fCons, bR, bL, bA, bLL, oR, fT, gAnd, gOr, gNot, gYes, fAnd, fOr, fNot, fIte, fTup, fLst, fCall, fCallO, fB, fM1, fSl, fiNo, fiSm, fLc, wLst, wTup, wStr, wRg1, wRg2, wZip, wEnum, gfN, gfTup, gsNil, gsCons, fLrg, fLrg3, wipeG, xSeq, xSet, xOf, xCall, xIf, xRet, xNext, xTup, xCons, xNil, xPut, xCallP, sRetX, sSetX, List.getElem?_cons_zero, List.getElem?_cons_succ, List.set_cons_zero, List.set_cons_succ, p, h, h', List.replicate, oAdd_lst, z0, z1]
  | or s t ih ih' =>
    intro n hd hn
    have z := Nat.le_trans (wishedT_len (.or s t)) (big_pow (d := (Sta.or s t).depth) (by omega))
    simp [Sta.depth] at hn hd
    obtain ⟨n, rfl⟩ : ∃ k, n = k + 2 := ⟨n - 2, by omega⟩
    have p := run_parts n (.or s t)
    have h := ih (n + 1) (by omega) (by omega)
    have h' := ih' (n + 1) (by omega) (by omega)
    simp only [wishedT, List.length_append] at z
    have z0 : (wishedT s).length ≤ big := by omega
    have z1 : (wishedT s).length + (wishedT t).length ≤ big := by omega
    rw [phi_wished]
    simp only [encL, partsT, List.map_cons, List.map_nil, enc] at p h h'
    simp [runF, entry, f_wished, enc, encL, wishedT, fOwn, fOpN,  fSeq, fNext, sRet, sRetN, sIf, sSet, sSetO, sAsg, sApp, sFor, forF, fVar, fOpd, fCon, f2, f1, fNil, fCons, bR, bL, bA, bLL, oR, fT, gAnd, gOr, gNot, gYes, fAnd, fOr, fNot, fIte, fTup, fLst, fCall, fCallO, fB, fM1, fSl, fiNo, fiSm, fLc, wLst, wTup, wStr, wRg1, wRg2, wZip, wEnum, gfN, gfTup, gsNil, gsCons, fLrg, fLrg3, wipeG, xSeq, xSet, xOf, xCall, xIf, xRet, xNext, xTup, xCons, xNil, xPut, xCallP, sRetX, sSetX, List.getElem?_cons_zero, List.getElem?_cons_succ, List.set_cons_zero, List.set_cons_succ, p, h, h', List.replicate, oAdd_lst, z0, z1]
  | si s t ih ih' =>
    intro n hd hn
    have z := Nat.le_trans (wishedT_len (.si s t)) (big_pow (d := (Sta.si s t).depth) (by omega))
    simp [Sta.depth] at hn hd
    obtain ⟨n, rfl⟩ : ∃ k, n = k + 2 := ⟨n - 2, by omega⟩
    have p := run_parts n (.si s t)
    have h := ih (n + 1) (by omega) (by omega)
    have h' := ih' (n + 1) (by omega) (by omega)
    simp only [wishedT, List.length_append] at z
    have z0 : (wishedT s).length ≤ big := by omega
    have z1 : (wishedT s).length + (wishedT t).length ≤ big := by omega
    rw [phi_wished]
    simp only [encL, partsT, List.map_cons, List.map_nil, enc] at p h h'
    simp [runF, entry, f_wished, enc, encL, wishedT, fOwn, fOpN,  fSeq, fNext, sRet, sRetN, sIf, sSet, sSetO, sAsg, sApp, sFor, forF, fVar, fOpd, fCon, f2, f1, fNil, fCons, bR, bL, bA, bLL, oR, fT, gAnd, gOr, gNot, gYes, fAnd, fOr, fNot, fIte, fTup, fLst, fCall, fCallO, fB, fM1, fSl, fiNo, fiSm, fLc, wLst, wTup, wStr, wRg1, wRg2, wZip, wEnum, gfN, gfTup, gsNil, gsCons, fLrg, fLrg3, wipeG, xSeq, xSet, xOf, xCall, xIf, xRet, xNext, xTup, xCons, xNil, xPut, xCallP, sRetX, sSetX, List.getElem?_cons_zero, List.getElem?_cons_succ, List.set_cons_zero, List.set_cons_succ, p, h, h', List.replicate, oAdd_lst, z0, z1]
  | un s t ih ih' =>
    intro n hd hn
    have z := Nat.le_trans (wishedT_len (.un s t)) (big_pow (d := (Sta.un s t).depth) (by omega))
    simp [Sta.depth] at hn hd
    obtain ⟨n, rfl⟩ : ∃ k, n = k + 2 := ⟨n - 2, by omega⟩
    have p := run_parts n (.un s t)
    have h := ih (n + 1) (by omega) (by omega)
    have h' := ih' (n + 1) (by omega) (by omega)
    simp only [wishedT, List.length_append, List.length_cons, List.length_nil] at z
    have z0 : (wishedT s).length ≤ big := by omega
    have z1 : (wishedT s).length + (wishedT t).length ≤ big := by omega
    rw [phi_wished]
    simp only [encL, partsT, List.map_cons, List.map_nil, enc] at p h h'
    simp [runF, entry, f_wished, enc, encL, wishedT, fOwn, fOpN,  fSeq, fNext, sRet, sRetN, sIf, sSet, sSetO, sAsg, sApp, sFor, forF, fVar, fOpd, fCon, f2, f1, fNil, fCons, bR, bL, bA, bLL, oR, fT, gAnd, gOr, gNot, gYes, fAnd, fOr, fNot, fIte, fTup, fLst, fCall, fCallO, fB, fM1, fSl, fiNo, fiSm, fLc, wLst, wTup, wStr, wRg1, wRg2, wZip, wEnum, gfN, gfTup, gsNil, gsCons, fLrg, fLrg3, wipeG, xSeq, xSet, xOf, xCall, xIf, xRet, xNext, xTup, xCons, xNil, xPut, xCallP, sRetX, sSetX, List.getElem?_cons_zero, List.getElem?_cons_succ, List.set_cons_zero, List.set_cons_succ, p, h, h', List.replicate, oAdd_lst, z0, z1]
end K08

namespace K08
open PySem PySem.Spec PyProof.Rows L2 Py
/-! ### the wishes, gathered one behind the other -/
def addE (l : List Sta) (x : Sta) : List Sta := if x ∈ l then l else l ++ [x]
theorem mem_addE {l : List Sta} {x y : Sta} : y ∈ addE l x ↔ y ∈ l ∨ y = x := by
  unfold addE
  split
  · rename_i h; exact ⟨.inl, fun z => z.elim id fun e => e ▸ h⟩
  · simp
theorem nodup_addE {l : List Sta} {x : Sta} (h : l.Nodup) : (addE l x).Nodup := by
  unfold addE
  split
  · exact h
  · rename_i hx
    exact List.nodup_append.mpr ⟨h, by simp, fun a ha b hb e => hx (by simp at hb; rw [← hb, ← e]; exact ha)⟩
theorem mem_foldE : ∀ {xs l : List Sta} {y : Sta}, y ∈ xs.foldl addE l ↔ y ∈ l ∨ y ∈ xs
  | [], l, y => by simp
  | x :: xs, l, y => by rw [List.foldl_cons, mem_foldE, mem_addE, List.mem_cons]; exact or_assoc
theorem nodup_foldE : ∀ {xs l : List Sta}, l.Nodup → (xs.foldl addE l).Nodup
  | [], _, h => h
  | _ :: xs, _, h => nodup_foldE (xs := xs) (nodup_addE h)
theorem pre_addE (l : List Sta) (x : Sta) : ∃ r, addE l x = l ++ r := by
  unfold addE
  split
  · exact ⟨[], by simp⟩
  · exact ⟨[x], rfl⟩
theorem pre_foldE : ∀ (xs l : List Sta), ∃ r, xs.foldl addE l = l ++ r
  | [], l => ⟨[], by simp⟩
  | x :: xs, l => by
    obtain ⟨r, e⟩ := pre_addE l x
    obtain ⟨r', e'⟩ := pre_foldE xs (addE l x)
    exact ⟨r ++ r', by rw [List.foldl_cons, e', e, List.append_assoc]⟩
theorem nodup_len {α : Type} [DecidableEq α] : ∀ (F U : List α), F.Nodup → (∀ x ∈ F, x ∈ U) → F.length ≤ U.length
  | [], _, _, _ => Nat.zero_le _
  | x :: F, U, h, s => by
    obtain ⟨h1, h2⟩ := List.nodup_cons.mp h
    have hx : x ∈ U := s x List.mem_cons_self
    have ih := nodup_len F (U.erase x) h2 fun y hy => (List.mem_erase_of_ne (a := y) (b := x) (fun e => h1 (by rw [← e]; exact hy))).mpr (s y (List.mem_cons_of_mem _ hy))
    have := List.length_erase_of_mem hx
    have hp := List.length_pos_of_mem hx
    simp only [List.length_cons]
    omega
/-- others added, those that are not in it -/
theorem add_loop {d : Nat} (hd : d ≤ 18) (P A : Sl) : ∀ (l found : List Sta) (x : Sl), (∀ t ∈ found, Fine d okM t) → (∀ t ∈ l, Fine d okM t) → found.length + l.length ≤ big →
    ∃ x', forF (gfN 3) (sIf (fT (f2 (oIn true) (fOpd 3) (fOpd 1))) (sApp 1 (fVar 3)) fNext) (l.map enc) [P, .ow (found.map enc), A, x] = some (.nx [P, .ow ((l.foldl addE found).map enc), A, x']) := by
  intro l
  induction l with
  | nil => intro found x _ _ _; exact ⟨x, rfl⟩
  | cons o l ih =>
    intro found x hf hl hz
    have fo := hl o List.mem_cons_self
    have i := in_encs (l := found) (s := o) (fun t ht => (hf t ht).mks) (fun t ht => by have := (hf t ht).dep; omega) fo.mks (by have := fo.dep; omega) true
    simp only [List.length_cons] at hz
    have hfb : found.length ≤ big := by omega
    by_cases h : o ∈ found
    · have ea : addE found o = found := by unfold addE; rw [if_pos h]
      obtain ⟨x', e⟩ := ih found (.va (enc o)) hf (fun t ht => hl t (List.mem_cons_of_mem _ ht)) (by omega)
      refine ⟨x', ?_⟩
      rw [List.foldl_cons, ea, ← e]
      simp [fOwn, fOpN,  fSeq, fNext, sRet, sRetN, sIf, sSet, sSetO, sAsg, sApp, sFor, forF, fVar, fOpd, fCon, f2, f1, fNil, fCons, bR, bL, bA, bLL, oR, fT, gAnd, gOr, gNot, gYes, fAnd, fOr, fNot, fIte, fTup, fLst, fCall, fCallO, fB, fM1, fSl, fiNo, fiSm, fLc, wLst, wTup, wStr, wRg1, wRg2, wZip, wEnum, gfN, gfTup, gsNil, gsCons, fLrg, fLrg3, wipeG, xSeq, xSet, xOf, xCall, xIf, xRet, xNext, xTup, xCons, xNil, xPut, xCallP, sRetX, sSetX, List.getElem?_cons_zero, List.getElem?_cons_succ, List.set_cons_zero, List.set_cons_succ, i, h]
    · have ea : addE found o = found ++ [o] := by unfold addE; rw [if_neg h]
      obtain ⟨x', e⟩ := ih (found ++ [o]) (.va (enc o)) (fun t ht => by
        rcases List.mem_append.mp ht with q | q
        · exact hf t q
        · simp at q; subst q; exact fo) (fun t ht => hl t (List.mem_cons_of_mem _ ht)) (by simp; omega)
      refine ⟨x', ?_⟩
      rw [List.foldl_cons, ea, ← e]
      simp [fOwn, fOpN,  fSeq, fNext, sRet, sRetN, sIf, sSet, sSetO, sAsg, sApp, sFor, forF, fVar, fOpd, fCon, f2, f1, fNil, fCons, bR, bL, bA, bLL, oR, fT, gAnd, gOr, gNot, gYes, fAnd, fOr, fNot, fIte, fTup, fLst, fCall, fCallO, fB, fM1, fSl, fiNo, fiSm, fLc, wLst, wTup, wStr, wRg1, wRg2, wZip, wEnum, gfN, gfTup, gsNil, gsCons, fLrg, fLrg3, wipeG, xSeq, xSet, xOf, xCall, xIf, xRet, xNext, xTup, xCons, xNil, xPut, xCallP, sRetX, sSetX, List.getElem?_cons_zero, List.getElem?_cons_succ, List.set_cons_zero, List.set_cons_succ, i, h, hfb]
theorem wished_fine {d : Nat} {p : Str → Prop} : ∀ {s : Sta}, Fine d p s → ∀ t ∈ wishedT s, Fine d p t := by
  intro s
  induction s with
  | mark m => intro _ t ht; simp [wishedT] at ht
  | yes => intro _ t ht; simp [wishedT] at ht
  | nt s ih => intro h t ht; exact ih ⟨by have := h.dep; simp [Sta.depth] at this; omega, h.mks, h.ks⟩ t ht
  | bf s ih => intro h t ht; exact ih ⟨by have := h.dep; simp [Sta.depth] at this; omega, h.mks, h.ks⟩ t ht
  | nx s ih => intro h t ht; simp [wishedT] at ht; subst ht; exact ⟨by have := h.dep; simp [Sta.depth] at this; omega, h.mks, h.ks⟩
  | wi k s ih =>
    intro h t ht
    have hd := h.dep
    simp [Sta.depth] at hd
    rcases List.mem_append.mp ht with q | q
    · exact ih ⟨by omega, h.mks, h.ks.2⟩ t q
    · cases k with
      | zero => cases q
      | succ k => simp at q; subst q; exact ⟨by simp [Sta.depth]; omega, h.mks, by have := h.ks.1; omega, h.ks.2⟩
  | an s s' ih ih' =>
    intro h t ht
    have hd := h.dep
    simp [Sta.depth] at hd
    rcases List.mem_append.mp ht with q | q
    · exact ih ⟨by omega, h.mks.1, h.ks.1⟩ t q
    · exact ih' ⟨by omega, h.mks.2, h.ks.2⟩ t q
  | or s s' ih ih' =>
    intro h t ht
    have hd := h.dep
    simp [Sta.depth] at hd
    rcases List.mem_append.mp ht with q | q
    · exact ih ⟨by omega, h.mks.1, h.ks.1⟩ t q
    · exact ih' ⟨by omega, h.mks.2, h.ks.2⟩ t q
  | si s s' ih ih' =>
    intro h t ht
    have hd := h.dep
    simp [Sta.depth] at hd
    rcases List.mem_append.mp ht with q | q
    · exact ih ⟨by omega, h.mks.1, h.ks.1⟩ t q
    · exact ih' ⟨by omega, h.mks.2, h.ks.2⟩ t q
  | un s s' ih ih' =>
    intro h t ht
    have hd := h.dep
    simp [Sta.depth] at hd
    rcases List.mem_append.mp ht with q | q
    · rcases List.mem_append.mp q with q | q
      · exact ih ⟨by omega, h.mks.1, h.ks.1⟩ t q
      · exact ih' ⟨by omega, h.mks.2, h.ks.2⟩ t q
    · simp at q; subst q; exact h
/-- what is gathered stays within U -/
structure Grows (U : List Sta) (s : Sta) (at_ : Nat) (F : List Sta) : Prop where
  nd : F.Nodup
  sub : ∀ x ∈ F, x ∈ U
  hd : F.head? = some s
  done : ∀ i < at_, ∀ w, F[i]? = some w → ∀ o ∈ wishedT w, o ∈ F
  le : at_ ≤ F.length
theorem bfs_loop {d n : Nat} (hd : d ≤ 18) (hn : d + 1 ≤ n) {U : List Sta} {s : Sta} (hU : ∀ w ∈ U, Fine d okM w) (cU : ∀ w ∈ U, ∀ o ∈ wishedT w, o ∈ U) (zU : U.length ≤ 1000000) (P : Sl) : ∀ (k at_ : Nat) (F : List Sta) (x : Sl) (m : Nat), U.length - at_ = k → k + 1 ≤ m → Grows U s at_ F →
    ∃ F' x' a', Grows U s F'.length F' ∧ whF (fT (f2 oLt (fOpd 2) (fB oLen (fCons (fOpd 1) fNil)))) (fSeq (sFor (wLst (fCall (Phi n .wished) (fCons (f2 oIx (fOpd 1) (fOpd 2)) fNil))) (gfN 3) (sIf (fT (f2 (oIn true) (fOpd 3) (fOpd 1))) (sApp 1 (fVar 3)) fNext))
      (sSet 2 (f2 oAdd (fOpd 2) (fCon (.int 1))))) m [P, .ow (F.map enc), .va (.int at_), x] = some (.nx [P, .ow (F'.map enc), a', x']) := by
  intro k
  induction k with
  | zero =>
    intro at_ F x m hk hm g
    obtain ⟨m, rfl⟩ : ∃ q, m = q + 1 := ⟨m - 1, by omega⟩
    have hl := nodup_len F U g.nd g.sub
    have hle := g.le
    have he : at_ = F.length := by omega
    subst he
    refine ⟨F, x, .va (.int F.length), g, ?_⟩
    unfold whF
    simp [fOwn, fOpN,  fSeq, fNext, sRet, sRetN, sIf, sSet, sSetO, sAsg, sApp, sFor, forF, fVar, fOpd, fCon, f2, f1, fNil, fCons, bR, bL, bA, bLL, oR, fT, gAnd, gOr, gNot, gYes, fAnd, fOr, fNot, fIte, fTup, fLst, fCall, fCallO, fB, fM1, fSl, fiNo, fiSm, fLc, wLst, wTup, wStr, wRg1, wRg2, wZip, wEnum, gfN, gfTup, gsNil, gsCons, fLrg, fLrg3, wipeG, xSeq, xSet, xOf, xCall, xIf, xRet, xNext, xTup, xCons, xNil, xPut, xCallP, sRetX, sSetX, List.getElem?_cons_zero, List.getElem?_cons_succ, List.set_cons_zero, List.set_cons_succ]
  | succ k ih =>
    intro at_ F x m hk hm g
    obtain ⟨m, rfl⟩ : ∃ q, m = q + 1 := ⟨m - 1, by omega⟩
    by_cases hlt : at_ < F.length
    · have hw : F[at_]? = some F[at_] := List.getElem?_eq_getElem hlt
      have mw : F[at_] ∈ U := g.sub _ (List.getElem_mem hlt)
      have fw := hU _ mw
      have rw_ := run_wished F[at_] n (by have := fw.dep; omega) (by have := fw.dep; omega)
      have a : atI (F.map enc) (at_ : Int) = some (enc F[at_]) := atI_cast (by rw [List.getElem?_map, hw]; rfl)
      have hl := nodup_len F U g.nd g.sub
      have wl := Nat.le_trans (wishedT_len F[at_]) (big_pow (d := F[at_].depth) (by have := fw.dep; omega))
      have w18 : 2 ^ F[at_].depth ≤ 2 ^ 18 := Nat.pow_le_pow_right (by omega) (by have := fw.dep; omega)
      have w0 := wishedT_len F[at_]
      obtain ⟨x', e⟩ := add_loop hd P (.va (.int at_)) (wishedT F[at_]) F x (fun t ht => hU t (g.sub t ht)) (wished_fine fw) (by unfold big; omega)
      obtain ⟨r, er⟩ := pre_foldE (wishedT F[at_]) F
      have g' : Grows U s (at_ + 1) ((wishedT F[at_]).foldl addE F) := by
        refine ⟨nodup_foldE g.nd, fun y hy => ?_, ?_, fun i hi w hiw o ho => ?_, by rw [er, List.length_append]; omega⟩
        · rcases mem_foldE.mp hy with q | q
          · exact g.sub y q
          · exact cU _ mw y q
        · rw [er, List.head?_append, g.hd]; rfl
        · rw [er] at hiw
          have hil : i < F.length := by omega
          rw [List.getElem?_append_left hil] at hiw
          by_cases hia : i < at_
          · exact mem_foldE.mpr (.inl (g.done i hia w hiw o ho))
          · have : i = at_ := by omega
            subst this
            rw [hw] at hiw
            cases hiw
            exact mem_foldE.mpr (.inr ho)
      obtain ⟨F', x2, a2, g2, e2⟩ := ih (at_ + 1) _ x' m (by omega) (by omega) g'
      refine ⟨F', x2, a2, g2, ?_⟩
      have e1 : ((at_ + 1 : Nat) : Int) = (at_ : Int) + 1 := by omega
      rw [e1] at e2
      rw [← e2]
      conv => lhs; unfold whF
      simp only [encL] at rw_
      simp [fOwn, fOpN,  fSeq, fNext, sRet, sRetN, sIf, sSet, sSetO, sAsg, sApp, sFor, forF, fVar, fOpd, fCon, f2, f1, fNil, fCons, bR, bL, bA, bLL, oR, fT, gAnd, gOr, gNot, gYes, fAnd, fOr, fNot, fIte, fTup, fLst, fCall, fCallO, fB, fM1, fSl, fiNo, fiSm, fLc, wLst, wTup, wStr, wRg1, wRg2, wZip, wEnum, gfN, gfTup, gsNil, gsCons, fLrg, fLrg3, wipeG, xSeq, xSet, xOf, xCall, xIf, xRet, xNext, xTup, xCons, xNil, xPut, xCallP, sRetX, sSetX, List.getElem?_cons_zero, List.getElem?_cons_succ, List.set_cons_zero, List.set_cons_succ, hlt, a, rw_, e]
    · have he : at_ = F.length := by have := g.le; omega
      subst he
      refine ⟨F, x, .va (.int F.length), g, ?_⟩
      unfold whF
      simp [fOwn, fOpN,  fSeq, fNext, sRet, sRetN, sIf, sSet, sSetO, sAsg, sApp, sFor, forF, fVar, fOpd, fCon, f2, f1, fNil, fCons, bR, bL, bA, bLL, oR, fT, gAnd, gOr, gNot, gYes, fAnd, fOr, fNot, fIte, fTup, fLst, fCall, fCallO, fB, fM1, fSl, fiNo, fiSm, fLc, wLst, wTup, wStr, wRg1, wRg2, wZip, wEnum, gfN, gfTup, gsNil, gsCons, fLrg, fLrg3, wipeG, xSeq, xSet, xOf, xCall, xIf, xRet, xNext, xTup, xCons, xNil, xPut, xCallP, sRetX, sSetX, List.getElem?_cons_zero, List.getElem?_cons_succ, List.set_cons_zero, List.set_cons_succ]
theorem run_wishes_in {d n : Nat} (hd : d ≤ 18) (hn : d + 2 ≤ n) {U : List Sta} {s : Sta} (hU : ∀ w ∈ U, Fine d okM w) (cU : ∀ w ∈ U, ∀ o ∈ wishedT w, o ∈ U) (zU : U.length ≤ 1000000) (hs : s ∈ U) :
    ∃ F, Grows U s F.length F ∧ Phi n .wishes_in [enc s] = some (.ok (encL F)) := by
  obtain ⟨n, rfl⟩ : ∃ k, n = k + 1 := ⟨n - 1, by omega⟩
  have hf : U.length - 0 + 1 ≤ fuel := Nat.le_trans (show U.length - 0 + 1 ≤ 1000001 by omega) (by unfold fuel; decide)
  obtain ⟨F, x', a', g, e⟩ := bfs_loop hd (n := n) (by omega) hU cU zU (.va (enc s)) (U.length - 0) 0 [s] .no fuel rfl hf
    ⟨by simp, by simpa using hs, rfl, fun i hi => by omega, Nat.zero_le _⟩
  refine ⟨F, g, ?_⟩
  rw [phi_wishes_in]
  unfold runF f_wishes_in
  simp only [List.map_cons, List.map_nil] at e
  have e0 : ((0 : Nat) : Int) = 0 := rfl
  rw [e0] at e
  simp [entry, fOwn, fOpN,  fSeq, fNext, sRet, sRetN, sIf, sSet, sSetO, sAsg, sApp, sFor, forF, fVar, fOpd, fCon, f2, f1, fNil, fCons, bR, bL, bA, bLL, oR, fT, gAnd, gOr, gNot, gYes, fAnd, fOr, fNot, fIte, fTup, fLst, fCall, fCallO, fB, fM1, fSl, fiNo, fiSm, fLc, wLst, wTup, wStr, wRg1, wRg2, wZip, wEnum, gfN, gfTup, gsNil, gsCons, fLrg, fLrg3, wipeG, xSeq, xSet, xOf, xCall, xIf, xRet, xNext, xTup, xCons, xNil, xPut, xCallP, sRetX, sSetX, List.getElem?_cons_zero, List.getElem?_cons_succ, List.set_cons_zero, List.set_cons_succ, sWh, List.replicate] at e ⊢
  simp [e, encL]
end K08

namespace K08
open PySem PySem.Spec PyProof.Rows L2 Py
/-! ### the befores and sinces, the marks -/
def pastsT : Sta → List Sta
  | .mark _ => [] | .yes => []
  | .nt s => (pastsT s).foldl addE []
  | .nx s => (pastsT s).foldl addE []
  | .wi _ s => (pastsT s).foldl addE []
  | .bf s => addE ((pastsT s).foldl addE []) (.bf s)
  | .an s t => (pastsT t).foldl addE ((pastsT s).foldl addE [])
  | .or s t => (pastsT t).foldl addE ((pastsT s).foldl addE [])
  | .un s t => (pastsT t).foldl addE ((pastsT s).foldl addE [])
  | .si s t => addE ((pastsT t).foldl addE ((pastsT s).foldl addE [])) (.si s t)
def isPast : Sta → Prop
  | .bf _ => True | .si _ _ => True
  | _ => False
instance isPastDec : DecidablePred isPast := fun s => by cases s <;> unfold isPast <;> infer_instance
theorem fSeq_nx {f g : Fs} {γ γ1 : Ge} (h : f γ = some (.nx γ1)) : fSeq f g γ = g γ1 := by unfold fSeq; rw [h]
theorem runF_rt {np n : Nat} {f : Fs} {ds : List D} {d : D} (hl : ds.length = np) (h : f (entry n ds) = some (.rt d)) : runF np n f ds = some (.ok d) := by unfold runF; rw [if_pos hl, h]
theorem mem_pastsT : ∀ {s x : Sta}, x ∈ pastsT s ↔ x ∈ allT s ∧ isPast x := by
  intro s
  induction s with
  | mark m => intro x; simp [pastsT, allT]; intro e; subst e; simp [isPast]
  | yes => intro x; simp [pastsT, allT]; intro e; subst e; simp [isPast]
  | nt s ih => intro x; simp only [pastsT, allT, mem_foldE, List.not_mem_nil, false_or, ih, List.mem_cons]; exact ⟨fun ⟨a, b⟩ => ⟨.inr a, b⟩, fun ⟨a, b⟩ => ⟨a.resolve_left (fun e => by subst e; exact b), b⟩⟩
  | nx s ih => intro x; simp only [pastsT, allT, mem_foldE, List.not_mem_nil, false_or, ih, List.mem_cons]; exact ⟨fun ⟨a, b⟩ => ⟨.inr a, b⟩, fun ⟨a, b⟩ => ⟨a.resolve_left (fun e => by subst e; exact b), b⟩⟩
  | wi k s ih => intro x; simp only [pastsT, allT, mem_foldE, List.not_mem_nil, false_or, ih, List.mem_cons]; exact ⟨fun ⟨a, b⟩ => ⟨.inr a, b⟩, fun ⟨a, b⟩ => ⟨a.resolve_left (fun e => by subst e; exact b), b⟩⟩
  | bf s ih =>
    intro x
    simp only [pastsT, allT, mem_addE, mem_foldE, List.not_mem_nil, false_or, ih, List.mem_cons]
    exact ⟨fun h => h.elim (fun ⟨a, b⟩ => ⟨.inr a, b⟩) (fun e => by subst e; exact ⟨.inl rfl, trivial⟩), fun ⟨a, b⟩ => a.elim (fun e => .inr e) (fun a => .inl ⟨a, b⟩)⟩
  | an s t ih ih' =>
    intro x
    simp only [pastsT, allT, mem_foldE, List.not_mem_nil, false_or, ih, ih', List.mem_cons, List.mem_append]
    exact ⟨fun h => h.elim (fun ⟨a, b⟩ => ⟨.inr (.inl a), b⟩) (fun ⟨a, b⟩ => ⟨.inr (.inr a), b⟩), fun ⟨a, b⟩ => (a.resolve_left (fun e => by subst e; exact b)).elim (fun a => .inl ⟨a, b⟩) (fun a => .inr ⟨a, b⟩)⟩
  | or s t ih ih' =>
    intro x
    simp only [pastsT, allT, mem_foldE, List.not_mem_nil, false_or, ih, ih', List.mem_cons, List.mem_append]
    exact ⟨fun h => h.elim (fun ⟨a, b⟩ => ⟨.inr (.inl a), b⟩) (fun ⟨a, b⟩ => ⟨.inr (.inr a), b⟩), fun ⟨a, b⟩ => (a.resolve_left (fun e => by subst e; exact b)).elim (fun a => .inl ⟨a, b⟩) (fun a => .inr ⟨a, b⟩)⟩
  | un s t ih ih' =>
    intro x
    simp only [pastsT, allT, mem_foldE, List.not_mem_nil, false_or, ih, ih', List.mem_cons, List.mem_append]
    exact ⟨fun h => h.elim (fun ⟨a, b⟩ => ⟨.inr (.inl a), b⟩) (fun ⟨a, b⟩ => ⟨.inr (.inr a), b⟩), fun ⟨a, b⟩ => (a.resolve_left (fun e => by subst e; exact b)).elim (fun a => .inl ⟨a, b⟩) (fun a => .inr ⟨a, b⟩)⟩
  | si s t ih ih' =>
    intro x
    simp only [pastsT, allT, mem_addE, mem_foldE, List.not_mem_nil, false_or, ih, ih', List.mem_cons, List.mem_append]
    exact ⟨fun h => h.elim (fun h => h.elim (fun ⟨a, b⟩ => ⟨.inr (.inl a), b⟩) (fun ⟨a, b⟩ => ⟨.inr (.inr a), b⟩)) (fun e => by subst e; exact ⟨.inl rfl, trivial⟩),
      fun ⟨a, b⟩ => a.elim (fun e => .inr e) (fun a => .inl (a.elim (fun a => .inl ⟨a, b⟩) (fun a => .inr ⟨a, b⟩)))⟩
theorem nodup_pastsT (s : Sta) : (pastsT s).Nodup := by
  cases s <;> simp only [pastsT] <;> first | exact List.nodup_nil | exact nodup_addE (nodup_foldE (nodup_foldE List.nodup_nil)) | exact nodup_addE (nodup_foldE List.nodup_nil) | exact nodup_foldE (nodup_foldE List.nodup_nil) | exact nodup_foldE List.nodup_nil
theorem pastsT_len (s : Sta) : (pastsT s).length ≤ (allT s).length := nodup_len _ _ (nodup_pastsT s) fun x hx => (mem_pastsT.mp hx).1
theorem pasts_fine {d : Nat} {p : Str → Prop} {s : Sta} (h : Fine d p s) : ∀ t ∈ pastsT s, Fine d p t := fun t ht => allT_fine h t (mem_pastsT.mp ht).1
theorem foldE_len (xs : List Sta) : ∀ l : List Sta, (xs.foldl addE l).length ≤ l.length + xs.length := by
  induction xs with
  | nil => intro l; simp
  | cons x r ih =>
    intro l
    have h1 := ih (addE l x)
    have h2 : (addE l x).length ≤ l.length + 1 := by unfold addE; split <;> simp
    simp only [List.foldl_cons, List.length_cons]
    omega
theorem in_bs (s : Sta) : oIn false (.str (word s)) (.tuple [.str "before", .str "since"]) = some (.bool (decide (isPast s))) := by
  cases s <;> simp [word, oIn, flatD, PyData.eqv] <;> first | exact fun z => z | trivial
theorem run_pasts {d : Nat} (hd : d ≤ 18) : ∀ {s : Sta} (n : Nat), Fine d okM s → s.depth + 1 ≤ n → Phi n .pasts_in [enc s] = some (.ok (encL (pastsT s))) := by
  have ends : ∀ (n : Nat) (s : Sta) (l : List Sta) (x y : Sl), Fine d okM s → (∀ t ∈ l, Fine d okM t) → l.length + 1 ≤ big →
      (fSeq (sIf (gAnd (fT (f2 (oIn false) (f2 oIx (fOpd 0) (fCon (.int 0))) (fTup (fCons (fCon (.str "before")) (fCons (fCon (.str "since")) fNil))))) (fT (f2 (oIn true) (fOpd 0) (fOpd 1)))) (sApp 1 (fVar 0)) fNext)
        (sRet (fOpd 1))) [.va (enc s), .ow (l.map enc), x, y] = some (.rt (encL (if isPast s then addE l s else l))) := by
    intro n s l x y fs fl hz
    have i := in_encs (l := l) (s := s) (fun t ht => (fl t ht).mks) (fun t ht => by have := (fl t ht).dep; omega) fs.mks (by have := fs.dep; omega) true
    have hb := in_bs s
    have i0 := ix0 s
    have hl : l.length ≤ big := by omega
    by_cases hp : isPast s
    · by_cases hm : s ∈ l
      · simp [fOwn, fOpN,  fSeq, fNext, sRet, sRetN, sIf, sSet, sSetO, sAsg, sApp, sFor, forF, fVar, fOpd, fCon, f2, f1, fNil, fCons, bR, bL, bA, bLL, oR, fT, gAnd, gOr, gNot, gYes, fAnd, fOr, fNot, fIte, fTup, fLst, fCall, fCallO, fB, fM1, fSl, fiNo, fiSm, fLc, wLst, wTup, wStr, wRg1, wRg2, wZip, wEnum, gfN, gfTup, gsNil, gsCons, fLrg, fLrg3, wipeG, xSeq, xSet, xOf, xCall, xIf, xRet, xNext, xTup, xCons, xNil, xPut, xCallP, sRetX, sSetX, List.getElem?_cons_zero, List.getElem?_cons_succ, List.set_cons_zero, List.set_cons_succ, i0, hb, hp, i, hm, encL, addE]
      · simp [fOwn, fOpN,  fSeq, fNext, sRet, sRetN, sIf, sSet, sSetO, sAsg, sApp, sFor, forF, fVar, fOpd, fCon, f2, f1, fNil, fCons, bR, bL, bA, bLL, oR, fT, gAnd, gOr, gNot, gYes, fAnd, fOr, fNot, fIte, fTup, fLst, fCall, fCallO, fB, fM1, fSl, fiNo, fiSm, fLc, wLst, wTup, wStr, wRg1, wRg2, wZip, wEnum, gfN, gfTup, gsNil, gsCons, fLrg, fLrg3, wipeG, xSeq, xSet, xOf, xCall, xIf, xRet, xNext, xTup, xCons, xNil, xPut, xCallP, sRetX, sSetX, List.getElem?_cons_zero, List.getElem?_cons_succ, List.set_cons_zero, List.set_cons_succ, i0, hb, hp, i, hm, encL, addE, hl]
    · simp [fOwn, fOpN,  fSeq, fNext, sRet, sRetN, sIf, sSet, sSetO, sAsg, sApp, sFor, forF, fVar, fOpd, fCon, f2, f1, fNil, fCons, bR, bL, bA, bLL, oR, fT, gAnd, gOr, gNot, gYes, fAnd, fOr, fNot, fIte, fTup, fLst, fCall, fCallO, fB, fM1, fSl, fiNo, fiSm, fLc, wLst, wTup, wStr, wRg1, wRg2, wZip, wEnum, gfN, gfTup, gsNil, gsCons, fLrg, fLrg3, wipeG, xSeq, xSet, xOf, xCall, xIf, xRet, xNext, xTup, xCons, xNil, xPut, xCallP, sRetX, sSetX, List.getElem?_cons_zero, List.getElem?_cons_succ, List.set_cons_zero, List.set_cons_succ, i0, hb, hp, encL]
  have big2 : ∀ s : Sta, Fine d okM s → (pastsT s).length + 1 ≤ 2 ^ 18 := fun s h => by
    have h1 := pastsT_len s
    have h2 := allT_len s
    have h3 : 2 ^ s.depth ≤ 2 ^ 18 := Nat.pow_le_pow_right (by omega) (by have := h.dep; omega)
    omega
  have one : ∀ (n : Nat) (s t : Sta), Fine d okM s → Fine d okM t → partsT t = [s] → Phi (n + 1) .pasts_in [enc s] = some (.ok (encL (pastsT s))) → Phi (n + 2) .pasts_in [enc t] = some (.ok (encL (if isPast t then addE ((pastsT s).foldl addE []) t else (pastsT s).foldl addE []))) := by
    intro n s t fs ft hp h
    have p := run_parts n t
    rw [hp] at p
    have z := big2 s fs
    have zl := foldE_len (pastsT s) []
    simp only [List.length_nil, Nat.zero_add] at zl
    obtain ⟨x', e⟩ := add_loop hd (.va (enc t)) (.va (enc s)) (pastsT s) [] .no (by intro t ht; cases ht) (pasts_fine fs) (by unfold big; simp; omega)
    have en := ends n t ((pastsT s).foldl addE []) (.va (enc s)) x' ft (fun q hq => by
      rcases mem_foldE.mp hq with q' | q'
      · cases q'
      · exact pasts_fine fs q q') (by unfold big; omega)
    rw [phi_pasts_in]
    refine runF_rt rfl ?_
    unfold f_pasts_in
    rw [fSeq_nx (γ1 := [.va (enc t), .ow [], .no, .no]) (by simp [entry, fOwn, fOpN,  fSeq, fNext, sRet, sRetN, sIf, sSet, sSetO, sAsg, sApp, sFor, forF, fVar, fOpd, fCon, f2, f1, fNil, fCons, bR, bL, bA, bLL, oR, fT, gAnd, gOr, gNot, gYes, fAnd, fOr, fNot, fIte, fTup, fLst, fCall, fCallO, fB, fM1, fSl, fiNo, fiSm, fLc, wLst, wTup, wStr, wRg1, wRg2, wZip, wEnum, gfN, gfTup, gsNil, gsCons, fLrg, fLrg3, wipeG, xSeq, xSet, xOf, xCall, xIf, xRet, xNext, xTup, xCons, xNil, xPut, xCallP, sRetX, sSetX, List.getElem?_cons_zero, List.getElem?_cons_succ, List.set_cons_zero, List.set_cons_succ, List.replicate])]
    rw [fSeq_nx (γ1 := [.va (enc t), .ow (((pastsT s).foldl addE []).map enc), .va (enc s), x']) ?_]
    · exact en
    · simp only [encL, List.map_cons, List.map_nil] at p h e
      simp [fOwn, fOpN,  fSeq, fNext, sRet, sRetN, sIf, sSet, sSetO, sAsg, sApp, sFor, forF, fVar, fOpd, fCon, f2, f1, fNil, fCons, bR, bL, bA, bLL, oR, fT, gAnd, gOr, gNot, gYes, fAnd, fOr, fNot, fIte, fTup, fLst, fCall, fCallO, fB, fM1, fSl, fiNo, fiSm, fLc, wLst, wTup, wStr, wRg1, wRg2, wZip, wEnum, gfN, gfTup, gsNil, gsCons, fLrg, fLrg3, wipeG, xSeq, xSet, xOf, xCall, xIf, xRet, xNext, xTup, xCons, xNil, xPut, xCallP, sRetX, sSetX, List.getElem?_cons_zero, List.getElem?_cons_succ, List.set_cons_zero, List.set_cons_succ, p, h, e]
  have two : ∀ (n : Nat) (s s' t : Sta), Fine d okM s → Fine d okM s' → Fine d okM t → partsT t = [s, s'] → Phi (n + 1) .pasts_in [enc s] = some (.ok (encL (pastsT s))) → Phi (n + 1) .pasts_in [enc s'] = some (.ok (encL (pastsT s'))) →
      Phi (n + 2) .pasts_in [enc t] = some (.ok (encL (if isPast t then addE ((pastsT s').foldl addE ((pastsT s).foldl addE [])) t else (pastsT s').foldl addE ((pastsT s).foldl addE [])))) := by
    intro n s s' t fs fs' ft hp h h'
    have p := run_parts n t
    rw [hp] at p
    have z := big2 s fs
    have z' := big2 s' fs'
    have zl := foldE_len (pastsT s) []
    have zl' := foldE_len (pastsT s') ((pastsT s).foldl addE [])
    simp only [List.length_nil, Nat.zero_add] at zl
    have fl : ∀ q ∈ (pastsT s).foldl addE [], Fine d okM q := fun q hq => by
      rcases mem_foldE.mp hq with q' | q'
      · cases q'
      · exact pasts_fine fs q q'
    obtain ⟨x', e⟩ := add_loop hd (.va (enc t)) (.va (enc s)) (pastsT s) [] .no (by intro t ht; cases ht) (pasts_fine fs) (by unfold big; simp; omega)
    obtain ⟨x2, e2⟩ := add_loop hd (.va (enc t)) (.va (enc s')) (pastsT s') ((pastsT s).foldl addE []) x' fl (pasts_fine fs') (by unfold big; omega)
    have en := ends n t ((pastsT s').foldl addE ((pastsT s).foldl addE [])) (.va (enc s')) x2 ft (fun q hq => by
      rcases mem_foldE.mp hq with q' | q'
      · exact fl q q'
      · exact pasts_fine fs' q q') (by unfold big; omega)
    rw [phi_pasts_in]
    refine runF_rt rfl ?_
    unfold f_pasts_in
    rw [fSeq_nx (γ1 := [.va (enc t), .ow [], .no, .no]) (by simp [entry, fOwn, fOpN,  fSeq, fNext, sRet, sRetN, sIf, sSet, sSetO, sAsg, sApp, sFor, forF, fVar, fOpd, fCon, f2, f1, fNil, fCons, bR, bL, bA, bLL, oR, fT, gAnd, gOr, gNot, gYes, fAnd, fOr, fNot, fIte, fTup, fLst, fCall, fCallO, fB, fM1, fSl, fiNo, fiSm, fLc, wLst, wTup, wStr, wRg1, wRg2, wZip, wEnum, gfN, gfTup, gsNil, gsCons, fLrg, fLrg3, wipeG, xSeq, xSet, xOf, xCall, xIf, xRet, xNext, xTup, xCons, xNil, xPut, xCallP, sRetX, sSetX, List.getElem?_cons_zero, List.getElem?_cons_succ, List.set_cons_zero, List.set_cons_succ, List.replicate])]
    rw [fSeq_nx (γ1 := [.va (enc t), .ow (((pastsT s').foldl addE ((pastsT s).foldl addE [])).map enc), .va (enc s'), x2]) ?_]
    · exact en
    · simp only [encL, List.map_cons, List.map_nil] at p h h' e
      simp [fOwn, fOpN,  fSeq, fNext, sRet, sRetN, sIf, sSet, sSetO, sAsg, sApp, sFor, forF, fVar, fOpd, fCon, f2, f1, fNil, fCons, bR, bL, bA, bLL, oR, fT, gAnd, gOr, gNot, gYes, fAnd, fOr, fNot, fIte, fTup, fLst, fCall, fCallO, fB, fM1, fSl, fiNo, fiSm, fLc, wLst, wTup, wStr, wRg1, wRg2, wZip, wEnum, gfN, gfTup, gsNil, gsCons, fLrg, fLrg3, wipeG, xSeq, xSet, xOf, xCall, xIf, xRet, xNext, xTup, xCons, xNil, xPut, xCallP, sRetX, sSetX, List.getElem?_cons_zero, List.getElem?_cons_succ, List.set_cons_zero, List.set_cons_succ, p, h, h', e, e2]
  intro s
  induction s with
  | mark m =>
    intro n h hn
    obtain ⟨n, rfl⟩ : ∃ k, n = k + 2 := ⟨n - 2, by simp [Sta.depth] at hn; omega⟩
    have p := run_parts n (.mark m)
    have en := ends n (.mark m) [] .no .no h (by intro t ht; cases ht) (by decide)
    rw [phi_pasts_in]
    refine runF_rt rfl ?_
    unfold f_pasts_in
    rw [fSeq_nx (γ1 := [.va (enc (.mark m)), .ow [], .no, .no]) (by simp [entry, fOwn, fOpN,  fSeq, fNext, sRet, sRetN, sIf, sSet, sSetO, sAsg, sApp, sFor, forF, fVar, fOpd, fCon, f2, f1, fNil, fCons, bR, bL, bA, bLL, oR, fT, gAnd, gOr, gNot, gYes, fAnd, fOr, fNot, fIte, fTup, fLst, fCall, fCallO, fB, fM1, fSl, fiNo, fiSm, fLc, wLst, wTup, wStr, wRg1, wRg2, wZip, wEnum, gfN, gfTup, gsNil, gsCons, fLrg, fLrg3, wipeG, xSeq, xSet, xOf, xCall, xIf, xRet, xNext, xTup, xCons, xNil, xPut, xCallP, sRetX, sSetX, List.getElem?_cons_zero, List.getElem?_cons_succ, List.set_cons_zero, List.set_cons_succ, List.replicate])]
    rw [fSeq_nx (γ1 := [.va (enc (.mark m)), .ow [], .no, .no]) (by simp only [encL, partsT, List.map_nil] at p; simp [fOwn, fOpN,  fSeq, fNext, sRet, sRetN, sIf, sSet, sSetO, sAsg, sApp, sFor, forF, fVar, fOpd, fCon, f2, f1, fNil, fCons, bR, bL, bA, bLL, oR, fT, gAnd, gOr, gNot, gYes, fAnd, fOr, fNot, fIte, fTup, fLst, fCall, fCallO, fB, fM1, fSl, fiNo, fiSm, fLc, wLst, wTup, wStr, wRg1, wRg2, wZip, wEnum, gfN, gfTup, gsNil, gsCons, fLrg, fLrg3, wipeG, xSeq, xSet, xOf, xCall, xIf, xRet, xNext, xTup, xCons, xNil, xPut, xCallP, sRetX, sSetX, List.getElem?_cons_zero, List.getElem?_cons_succ, List.set_cons_zero, List.set_cons_succ, p])]
    exact en
  | yes =>
    intro n h hn
    obtain ⟨n, rfl⟩ : ∃ k, n = k + 2 := ⟨n - 2, by simp [Sta.depth] at hn; omega⟩
    have p := run_parts n .yes
    have en := ends n .yes [] .no .no h (by intro t ht; cases ht) (by decide)
    rw [phi_pasts_in]
    refine runF_rt rfl ?_
    unfold f_pasts_in
    rw [fSeq_nx (γ1 := [.va (enc .yes), .ow [], .no, .no]) (by simp [entry, fOwn, fOpN,  fSeq, fNext, sRet, sRetN, sIf, sSet, sSetO, sAsg, sApp, sFor, forF, fVar, fOpd, fCon, f2, f1, fNil, fCons, bR, bL, bA, bLL, oR, fT, gAnd, gOr, gNot, gYes, fAnd, fOr, fNot, fIte, fTup, fLst, fCall, fCallO, fB, fM1, fSl, fiNo, fiSm, fLc, wLst, wTup, wStr, wRg1, wRg2, wZip, wEnum, gfN, gfTup, gsNil, gsCons, fLrg, fLrg3, wipeG, xSeq, xSet, xOf, xCall, xIf, xRet, xNext, xTup, xCons, xNil, xPut, xCallP, sRetX, sSetX, List.getElem?_cons_zero, List.getElem?_cons_succ, List.set_cons_zero, List.set_cons_succ, List.replicate])]
    rw [fSeq_nx (γ1 := [.va (enc .yes), .ow [], .no, .no]) (by simp only [encL, partsT, List.map_nil] at p; simp [fOwn, fOpN,  fSeq, fNext, sRet, sRetN, sIf, sSet, sSetO, sAsg, sApp, sFor, forF, fVar, fOpd, fCon, f2, f1, fNil, fCons, bR, bL, bA, bLL, oR, fT, gAnd, gOr, gNot, gYes, fAnd, fOr, fNot, fIte, fTup, fLst, fCall, fCallO, fB, fM1, fSl, fiNo, fiSm, fLc, wLst, wTup, wStr, wRg1, wRg2, wZip, wEnum, gfN, gfTup, gsNil, gsCons, fLrg, fLrg3, wipeG, xSeq, xSet, xOf, xCall, xIf, xRet, xNext, xTup, xCons, xNil, xPut, xCallP, sRetX, sSetX, List.getElem?_cons_zero, List.getElem?_cons_succ, List.set_cons_zero, List.set_cons_succ, p])]
    exact en
  | nt s ih =>
    intro n h hn
    have hk := h.dep
    simp [Sta.depth] at hn hk
    obtain ⟨n, rfl⟩ : ∃ k, n = k + 2 := ⟨n - 2, by omega⟩
    have fs : Fine d okM s := ⟨by omega, h.mks, h.ks⟩
    have r := one n s _ fs h rfl (ih (n + 1) fs (by omega))
    simpa [isPast, pastsT] using r
  | nx s ih =>
    intro n h hn
    have hk := h.dep
    simp [Sta.depth] at hn hk
    obtain ⟨n, rfl⟩ : ∃ k, n = k + 2 := ⟨n - 2, by omega⟩
    have fs : Fine d okM s := ⟨by omega, h.mks, h.ks⟩
    have r := one n s _ fs h rfl (ih (n + 1) fs (by omega))
    simpa [isPast, pastsT] using r
  | wi k s ih =>
    intro n h hn
    have hk := h.dep
    simp [Sta.depth] at hn hk
    obtain ⟨n, rfl⟩ : ∃ k, n = k + 2 := ⟨n - 2, by omega⟩
    have fs : Fine d okM s := ⟨by omega, h.mks, h.ks.2⟩
    have r := one n s _ fs h rfl (ih (n + 1) fs (by omega))
    simpa [isPast, pastsT] using r
  | bf s ih =>
    intro n h hn
    have hk := h.dep
    simp [Sta.depth] at hn hk
    obtain ⟨n, rfl⟩ : ∃ k, n = k + 2 := ⟨n - 2, by omega⟩
    have fs : Fine d okM s := ⟨by omega, h.mks, h.ks⟩
    have r := one n s _ fs h rfl (ih (n + 1) fs (by omega))
    simpa [isPast, pastsT] using r
  | an s t ih ih' =>
    intro n h hn
    have hk := h.dep
    simp [Sta.depth] at hn hk
    obtain ⟨n, rfl⟩ : ∃ k, n = k + 2 := ⟨n - 2, by omega⟩
    have fs : Fine d okM s := ⟨by omega, h.mks.1, h.ks.1⟩
    have ft : Fine d okM t := ⟨by omega, h.mks.2, h.ks.2⟩
    have r := two n s t _ fs ft h rfl (ih (n + 1) fs (by omega)) (ih' (n + 1) ft (by omega))
    simpa [isPast, pastsT] using r
  | or s t ih ih' =>
    intro n h hn
    have hk := h.dep
    simp [Sta.depth] at hn hk
    obtain ⟨n, rfl⟩ : ∃ k, n = k + 2 := ⟨n - 2, by omega⟩
    have fs : Fine d okM s := ⟨by omega, h.mks.1, h.ks.1⟩
    have ft : Fine d okM t := ⟨by omega, h.mks.2, h.ks.2⟩
    have r := two n s t _ fs ft h rfl (ih (n + 1) fs (by omega)) (ih' (n + 1) ft (by omega))
    simpa [isPast, pastsT] using r
  | un s t ih ih' =>
    intro n h hn
    have hk := h.dep
    simp [Sta.depth] at hn hk
    obtain ⟨n, rfl⟩ : ∃ k, n = k + 2 := ⟨n - 2, by omega⟩
    have fs : Fine d okM s := ⟨by omega, h.mks.1, h.ks.1⟩
    have ft : Fine d okM t := ⟨by omega, h.mks.2, h.ks.2⟩
    have r := two n s t _ fs ft h rfl (ih (n + 1) fs (by omega)) (ih' (n + 1) ft (by omega))
    simpa [isPast, pastsT] using r
  | si s t ih ih' =>
    intro n h hn
    have hk := h.dep
    simp [Sta.depth] at hn hk
    obtain ⟨n, rfl⟩ : ∃ k, n = k + 2 := ⟨n - 2, by omega⟩
    have fs : Fine d okM s := ⟨by omega, h.mks.1, h.ks.1⟩
    have ft : Fine d okM t := ⟨by omega, h.mks.2, h.ks.2⟩
    have r := two n s t _ fs ft h rfl (ih (n + 1) fs (by omega)) (ih' (n + 1) ft (by omega))
    simpa [isPast, pastsT] using r
end K08

namespace K08
open PySem PySem.Spec PyProof.Rows L2 Py
/-! ### the marks -/
def upT (l r : List Str) : List Str := sortT ((l ++ r).foldl addL [])
def marksT : Sta → List Str
  | .mark m => ["", m] | .yes => [""]
  | .nt s => upT [""] (marksT s)
  | .nx s => upT [""] (marksT s)
  | .wi _ s => upT [""] (marksT s)
  | .bf s => upT [""] (marksT s)
  | .an s t => upT (upT [""] (marksT s)) (marksT t)
  | .or s t => upT (upT [""] (marksT s)) (marksT t)
  | .un s t => upT (upT [""] (marksT s)) (marksT t)
  | .si s t => upT (upT [""] (marksT s)) (marksT t)
theorem mem_foldL : ∀ {xs l : List Str} {y : Str}, y ∈ xs.foldl addL l ↔ y ∈ l ∨ y ∈ xs
  | [], l, y => by simp
  | x :: xs, l, y => by
    rw [List.foldl_cons, mem_foldL, List.mem_cons]
    unfold addL
    split
    · rename_i h; exact ⟨fun z => z.elim .inl fun q => .inr (.inr q), fun z => z.elim .inl fun q => q.elim (fun e => .inl (e ▸ h)) .inr⟩
    · rw [List.mem_cons]; exact ⟨fun z => z.elim (fun q => q.elim (fun e => .inr (.inl e)) .inl) fun q => .inr (.inr q), fun z => z.elim (fun q => .inl (.inr q)) fun q => q.elim (fun e => .inl (.inl e)) .inr⟩
theorem nodup_foldL : ∀ {xs l : List Str}, l.Nodup → (xs.foldl addL l).Nodup
  | [], _, h => h
  | x :: xs, l, h => by
    rw [List.foldl_cons]
    refine nodup_foldL ?_
    unfold addL
    split
    · exact h
    · rename_i hx; exact List.nodup_cons.mpr ⟨hx, h⟩
theorem mem_upT {l r : List Str} {y : Str} : y ∈ upT l r ↔ y ∈ l ∨ y ∈ r := by
  unfold upT
  rw [(sortT_perm _).mem_iff, mem_foldL, List.mem_append]
  simp
theorem nodup_upT (l r : List Str) : (upT l r).Nodup := (sortT_perm _).nodup_iff.mpr (nodup_foldL List.nodup_nil)
theorem mem_marksT {V : List Str} (h0 : ("" : Str) ∈ V) : ∀ {s : Sta}, s.Marks (· ∈ V) → ∀ m ∈ marksT s, m ∈ V := by
  intro s
  induction s with
  | mark x => intro h m hm; simp [marksT] at hm; rcases hm with rfl | rfl; exact h0; exact h
  | yes => intro _ m hm; simp [marksT] at hm; subst hm; exact h0
  | nt s ih => intro h m hm; rcases mem_upT.mp hm with q | q; (simp at q; subst q; exact h0); exact ih h m q
  | nx s ih => intro h m hm; rcases mem_upT.mp hm with q | q; (simp at q; subst q; exact h0); exact ih h m q
  | wi k s ih => intro h m hm; rcases mem_upT.mp hm with q | q; (simp at q; subst q; exact h0); exact ih h m q
  | bf s ih => intro h m hm; rcases mem_upT.mp hm with q | q; (simp at q; subst q; exact h0); exact ih h m q
  | an s t ih ih' => intro h m hm; rcases mem_upT.mp hm with q | q; (rcases mem_upT.mp q with q | q; (simp at q; subst q; exact h0); exact ih h.1 m q); exact ih' h.2 m q
  | or s t ih ih' => intro h m hm; rcases mem_upT.mp hm with q | q; (rcases mem_upT.mp q with q | q; (simp at q; subst q; exact h0); exact ih h.1 m q); exact ih' h.2 m q
  | un s t ih ih' => intro h m hm; rcases mem_upT.mp hm with q | q; (rcases mem_upT.mp q with q | q; (simp at q; subst q; exact h0); exact ih h.1 m q); exact ih' h.2 m q
  | si s t ih ih' => intro h m hm; rcases mem_upT.mp hm with q | q; (rcases mem_upT.mp q with q | q; (simp at q; subst q; exact h0); exact ih h.1 m q); exact ih' h.2 m q
theorem marksT_len {V : List Str} (h0 : ("" : Str) ∈ V) (h2 : 2 ≤ V.length) {s : Sta} (h : s.Marks (· ∈ V)) : (marksT s).length ≤ V.length := by
  have sub := mem_marksT h0 h
  cases s with
  | mark x => exact h2
  | yes => simp [marksT]; omega
  | _ => exact nodup_len _ _ (nodup_upT _ _) sub
theorem up_len {V l r : List Str} (hl : ∀ m ∈ l, m ∈ V) (hr : ∀ m ∈ r, m ∈ V) : (upT l r).length ≤ V.length := nodup_len _ _ (nodup_upT _ _) fun m hm => (mem_upT.mp hm).elim (hl m) (hr m)
theorem oSort_up {l r : List Str} (h : l.length + r.length < 64) : oSortSet [.list ((l.map .str) ++ r.map .str)] = some (.list ((upT l r).map .str)) := by
  unfold oSortSet
  rw [← List.map_append]
  simp only [strsOf_map]
  rw [if_pos (by rw [List.length_append]; exact h)]
  rfl
theorem ne_mark {s : Sta} (h : ¬ ∃ m, s = .mark m) : word s ≠ "mark" := by
  cases s with
  | mark m => exact absurd ⟨m, rfl⟩ h
  | yes => exact (show ("yes" : Str) ≠ "mark" by decide +kernel)
  | nt s => exact (show ("not" : Str) ≠ "mark" by decide +kernel)
  | an s t => exact (show ("and" : Str) ≠ "mark" by decide +kernel)
  | or s t => exact (show ("or" : Str) ≠ "mark" by decide +kernel)
  | nx s => exact (show ("next" : Str) ≠ "mark" by decide +kernel)
  | un s t => exact (show ("until" : Str) ≠ "mark" by decide +kernel)
  | wi k s => exact (show ("within" : Str) ≠ "mark" by decide +kernel)
  | bf s => exact (show ("before" : Str) ≠ "mark" by decide +kernel)
  | si s t => exact (show ("since" : Str) ≠ "mark" by decide +kernel)
theorem run_marks {V : List Str} (h0 : ("" : Str) ∈ V) (h2 : 2 ≤ V.length) (hV : V.length ≤ 25) : ∀ {s : Sta} (n : Nat), s.Marks (· ∈ V) → s.depth + 1 ≤ n → Phi n .marks_in [enc s] = some (.ok (.list ((marksT s).map .str))) := by
  have one : ∀ (n : Nat) (s t : Sta), s.Marks (· ∈ V) → partsT t = [s] → word t ≠ "mark" → Phi (n + 1) .marks_in [enc s] = some (.ok (.list ((marksT s).map .str))) → Phi (n + 2) .marks_in [enc t] = some (.ok (.list ((upT [""] (marksT s)).map .str))) := by
    intro n s t hs hp hw h
    have p := run_parts n t
    rw [hp] at p
    have i0 := ix0 t
    have hwb : (word t == ("mark" : Str)) = false := beq_eq_false_iff_ne.mpr hw
    have zl := marksT_len h0 h2 hs
    have so := oSort_up (l := [""]) (r := marksT s) (by simp; omega)
    simp only [List.map_cons, List.map_nil] at so
    have zb : 1 + (marksT s).length ≤ big := by unfold big; omega
    rw [phi_marks_in]
    simp only [encL, List.map_cons, List.map_nil] at p
    simp only [List.cons_append, List.nil_append] at so
    simp [runF, entry, f_marks_in, fOwn, fOpN,  fSeq, fNext, sRet, sRetN, sIf, sSet, sSetO, sAsg, sApp, sFor, forF, fVar, fOpd, fCon, f2, f1, fNil, fCons, bR, bL, bA, bLL, oR, fT, gAnd, gOr, gNot, gYes, fAnd, fOr, fNot, fIte, fTup, fLst, fCall, fCallO, fB, fM1, fSl, fiNo, fiSm, fLc, wLst, wTup, wStr, wRg1, wRg2, wZip, wEnum, gfN, gfTup, gsNil, gsCons, fLrg, fLrg3, wipeG, xSeq, xSet, xOf, xCall, xIf, xRet, xNext, xTup, xCons, xNil, xPut, xCallP, sRetX, sSetX, List.getElem?_cons_zero, List.getElem?_cons_succ, List.set_cons_zero, List.set_cons_succ, i0, hwb, p, h, List.replicate, oAdd_lst, zb, so]
  have two : ∀ (n : Nat) (s s' t : Sta), s.Marks (· ∈ V) → s'.Marks (· ∈ V) → partsT t = [s, s'] → word t ≠ "mark" → Phi (n + 1) .marks_in [enc s] = some (.ok (.list ((marksT s).map .str))) → Phi (n + 1) .marks_in [enc s'] = some (.ok (.list ((marksT s').map .str))) →
      Phi (n + 2) .marks_in [enc t] = some (.ok (.list ((upT (upT [""] (marksT s)) (marksT s')).map .str))) := by
    intro n s s' t hs hs' hp hw h h'
    have p := run_parts n t
    rw [hp] at p
    have i0 := ix0 t
    have hwb : (word t == ("mark" : Str)) = false := beq_eq_false_iff_ne.mpr hw
    have zl := marksT_len h0 h2 hs
    have zl' := marksT_len h0 h2 hs'
    have zu := up_len (V := V) (l := [""]) (r := marksT s) (fun m hm => by simp at hm; subst hm; exact h0) (mem_marksT h0 hs)
    have so := oSort_up (l := [""]) (r := marksT s) (by simp; omega)
    have so' := oSort_up (l := upT [""] (marksT s)) (r := marksT s') (by omega)
    simp only [List.map_cons, List.map_nil] at so
    have zb : 1 + (marksT s).length ≤ big := by unfold big; omega
    have zb' : (upT [""] (marksT s)).length + (marksT s').length ≤ big := by unfold big; omega
    rw [phi_marks_in]
    simp only [encL, List.map_cons, List.map_nil] at p
    simp only [List.cons_append, List.nil_append] at so
    simp [-List.map_append, runF, entry, f_marks_in, fOwn, fOpN,  fSeq, fNext, sRet, sRetN, sIf, sSet, sSetO, sAsg, sApp, sFor, forF, fVar, fOpd, fCon, f2, f1, fNil, fCons, bR, bL, bA, bLL, oR, fT, gAnd, gOr, gNot, gYes, fAnd, fOr, fNot, fIte, fTup, fLst, fCall, fCallO, fB, fM1, fSl, fiNo, fiSm, fLc, wLst, wTup, wStr, wRg1, wRg2, wZip, wEnum, gfN, gfTup, gsNil, gsCons, fLrg, fLrg3, wipeG, xSeq, xSet, xOf, xCall, xIf, xRet, xNext, xTup, xCons, xNil, xPut, xCallP, sRetX, sSetX, List.getElem?_cons_zero, List.getElem?_cons_succ, List.set_cons_zero, List.set_cons_succ, i0, hwb, p, h, h', List.replicate, oAdd_lst, zb, zb', so, so']
  intro s
  induction s with
  | mark m =>
    intro n _ hn
    obtain ⟨n, rfl⟩ : ∃ k, n = k + 1 := ⟨n - 1, by omega⟩
    rw [phi_marks_in]
    simp [runF, entry, f_marks_in, fOwn, fOpN,  fSeq, fNext, sRet, sRetN, sIf, sSet, sSetO, sAsg, sApp, sFor, forF, fVar, fOpd, fCon, f2, f1, fNil, fCons, bR, bL, bA, bLL, oR, fT, gAnd, gOr, gNot, gYes, fAnd, fOr, fNot, fIte, fTup, fLst, fCall, fCallO, fB, fM1, fSl, fiNo, fiSm, fLc, wLst, wTup, wStr, wRg1, wRg2, wZip, wEnum, gfN, gfTup, gsNil, gsCons, fLrg, fLrg3, wipeG, xSeq, xSet, xOf, xCall, xIf, xRet, xNext, xTup, xCons, xNil, xPut, xCallP, sRetX, sSetX, List.getElem?_cons_zero, List.getElem?_cons_succ, List.set_cons_zero, List.set_cons_succ, enc, marksT, List.replicate]
  | yes =>
    intro n _ hn
    obtain ⟨n, rfl⟩ : ∃ k, n = k + 2 := ⟨n - 2, by simp [Sta.depth] at hn; omega⟩
    have p := run_parts n .yes
    rw [phi_marks_in]
    simp only [encL, partsT, List.map_nil, enc] at p
    simp [runF, entry, f_marks_in, fOwn, fOpN,  fSeq, fNext, sRet, sRetN, sIf, sSet, sSetO, sAsg, sApp, sFor, forF, fVar, fOpd, fCon, f2, f1, fNil, fCons, bR, bL, bA, bLL, oR, fT, gAnd, gOr, gNot, gYes, fAnd, fOr, fNot, fIte, fTup, fLst, fCall, fCallO, fB, fM1, fSl, fiNo, fiSm, fLc, wLst, wTup, wStr, wRg1, wRg2, wZip, wEnum, gfN, gfTup, gsNil, gsCons, fLrg, fLrg3, wipeG, xSeq, xSet, xOf, xCall, xIf, xRet, xNext, xTup, xCons, xNil, xPut, xCallP, sRetX, sSetX, List.getElem?_cons_zero, List.getElem?_cons_succ, List.set_cons_zero, List.set_cons_succ, enc, marksT, p, List.replicate]
  | nt s ih => intro n h hn; simp [Sta.depth] at hn; obtain ⟨n, rfl⟩ : ∃ k, n = k + 2 := ⟨n - 2, by omega⟩; exact one n s _ h rfl (ne_mark (by rintro ⟨_, e⟩; cases e)) (ih (n + 1) h (by omega))
  | nx s ih => intro n h hn; simp [Sta.depth] at hn; obtain ⟨n, rfl⟩ : ∃ k, n = k + 2 := ⟨n - 2, by omega⟩; exact one n s _ h rfl (ne_mark (by rintro ⟨_, e⟩; cases e)) (ih (n + 1) h (by omega))
  | wi k s ih => intro n h hn; simp [Sta.depth] at hn; obtain ⟨n, rfl⟩ : ∃ k, n = k + 2 := ⟨n - 2, by omega⟩; exact one n s _ h rfl (ne_mark (by rintro ⟨_, e⟩; cases e)) (ih (n + 1) h (by omega))
  | bf s ih => intro n h hn; simp [Sta.depth] at hn; obtain ⟨n, rfl⟩ : ∃ k, n = k + 2 := ⟨n - 2, by omega⟩; exact one n s _ h rfl (ne_mark (by rintro ⟨_, e⟩; cases e)) (ih (n + 1) h (by omega))
  | an s t ih ih' => intro n h hn; simp [Sta.depth] at hn; obtain ⟨n, rfl⟩ : ∃ k, n = k + 2 := ⟨n - 2, by omega⟩; exact two n s t _ h.1 h.2 rfl (ne_mark (by rintro ⟨_, e⟩; cases e)) (ih (n + 1) h.1 (by omega)) (ih' (n + 1) h.2 (by omega))
  | or s t ih ih' => intro n h hn; simp [Sta.depth] at hn; obtain ⟨n, rfl⟩ : ∃ k, n = k + 2 := ⟨n - 2, by omega⟩; exact two n s t _ h.1 h.2 rfl (ne_mark (by rintro ⟨_, e⟩; cases e)) (ih (n + 1) h.1 (by omega)) (ih' (n + 1) h.2 (by omega))
  | un s t ih ih' => intro n h hn; simp [Sta.depth] at hn; obtain ⟨n, rfl⟩ : ∃ k, n = k + 2 := ⟨n - 2, by omega⟩; exact two n s t _ h.1 h.2 rfl (ne_mark (by rintro ⟨_, e⟩; cases e)) (ih (n + 1) h.1 (by omega)) (ih' (n + 1) h.2 (by omega))
  | si s t ih ih' => intro n h hn; simp [Sta.depth] at hn; obtain ⟨n, rfl⟩ : ∃ k, n = k + 2 := ⟨n - 2, by omega⟩; exact two n s t _ h.1 h.2 rfl (ne_mark (by rintro ⟨_, e⟩; cases e)) (ih (n + 1) h.1 (by omega)) (ih' (n + 1) h.2 (by omega))
/-- the plan's datum -/
def planOf (W P : List Sta) (Ms : List Str) : D := planD [encL W, encL P, .list (Ms.map .str), .list (wts W.length)]
theorem run_plan {d n : Nat} (hd : d ≤ 18) (hn : d + 2 ≤ n) {V : List Str} (h0 : ("" : Str) ∈ V) (h2 : 2 ≤ V.length) (hV : V.length ≤ 25) {U : List Sta} {s : Sta} (fs : Fine d okM s) (hm : s.Marks (· ∈ V)) (hU : ∀ w ∈ U, Fine d okM w) (cU : ∀ w ∈ U, ∀ o ∈ wishedT w, o ∈ U) (zU : U.length ≤ 1000) (hs : s ∈ U) :
    ∃ F, Grows U s F.length F ∧ plT n (enc s) = some (planOf F (pastsT s) (marksT s)) := by
  obtain ⟨F, g, e⟩ := run_wishes_in hd hn hU cU (by omega) hs
  have e2 := run_pasts hd n fs (by have := fs.dep; omega)
  have e3 := run_marks h0 h2 hV n hm (by have := fs.dep; omega)
  refine ⟨F, g, ?_⟩
  have hl := nodup_len F U g.nd g.sub
  unfold plT initT
  rw [e, e2, e3]
  unfold encL
  simp only
  rw [if_pos (by rw [List.length_map]; omega), List.length_map]
  rfl
end K08

namespace K08
open PySem PySem.Spec PyProof.Rows L2 Py
/-! ### what is so at a moment, by the wishes and what is kept -/
def idxT (W : List Sta) (w : Sta) : Nat := W.findIdx fun x => decide (x = w)
theorem idxT_lt {W : List Sta} {w : Sta} (h : w ∈ W) : idxT W w < W.length := List.findIdx_lt_length_of_exists ⟨w, h, by simp⟩
theorem idxT_at {W : List Sta} {w : Sta} (h : w ∈ W) : W[idxT W w]? = some w := by
  have hl := idxT_lt h
  rw [List.getElem?_eq_getElem hl]
  have := List.findIdx_getElem (xs := W) (p := fun x => decide (x = w)) (w := hl)
  simp only [decide_eq_true_eq] at this
  exact congrArg some this
theorem run_idx {d : Nat} (hd : d ≤ 18) {W : List Sta} {w : Sta} (hW : ∀ t ∈ W, Fine d okM t) (h : w ∈ W) : oIndex (encL W) (enc w) = some (.int (idxT W w)) := by
  have s1 := encs_shaped (l := W) (fun t ht => (hW t ht).mks) (fun t ht => by have := (hW t ht).dep; omega)
  have s2 := enc_shaped (s := w) (hW w h).mks (by have := (hW w h).dep; omega)
  have e : (W.map enc).findIdx? (fun z => PyData.eqv z (enc w)) = some (idxT W w) := by
    rw [List.findIdx?_map]
    have e2 : ((fun z => PyData.eqv z (enc w)) ∘ enc) = fun x => decide (x = w) := by
      funext x
      exact enc_eqv x w
    rw [e2, List.findIdx?_eq_some_iff_findIdx_eq]
    exact ⟨idxT_lt h, rfl⟩
  unfold oIndex encL
  simp only
  rw [if_pos ⟨s1, s2⟩, e]
theorem fldW (W P Ms T : D) : oFld "wishes" (planD [W, P, Ms, T]) = some W := by
  show (if ("Plan" : Str) = "Plan" then _ else none) = _
  rw [if_pos rfl]
  rfl
theorem fldP (W P Ms T : D) : oFld "pasts" (planD [W, P, Ms, T]) = some P := by
  show (if ("Plan" : Str) = "Plan" then _ else none) = _
  rw [if_pos rfl]
  rfl
theorem fldM (W P Ms T : D) : oFld "marks" (planD [W, P, Ms, T]) = some Ms := by
  show (if ("Plan" : Str) = "Plan" then _ else none) = _
  rw [if_pos rfl]
  rfl
theorem fldT (W P Ms T : D) : oFld "weights" (planD [W, P, Ms, T]) = some T := by
  show (if ("Plan" : Str) = "Plan" then _ else none) = _
  rw [if_pos rfl]
  rfl
theorem isPlan_of (W P : List Sta) (Ms : List Str) : isPlan (planOf W P Ms) = true := rfl
theorem wts_at {n i : Nat} (h : i ≤ n) : atI (wts n) (i : Int) = some (.int (2 ^ i : Nat)) := by
  refine atI_cast ?_
  unfold wts
  rw [List.getElem?_map, List.getElem?_range (by omega)]
  rfl
theorem wts_last (n : Nat) : atI (wts n) (-1) = some (.int (2 ^ n : Nat)) := by
  cases n with
  | zero => rfl
  | succ n => rw [wts_succ]; exact atI_last _ _
/-- what a plan must be -/
structure PlanOk (d : Nat) (W P : List Sta) : Prop where
  hd : d ≤ 18
  fw : ∀ w ∈ W, Fine d okM w
  fp : ∀ w ∈ P, Fine d okM w
  lw : W.length ≤ 20
  lp : P.length ≤ 1000000
def hasT (W : List Sta) (num : Nat) (w : Sta) : Bool := ((num : Int) / ((2 ^ idxT W w : Nat) : Int)) % 2 == 1
theorem run_has {d : Nat} {W P : List Sta} {Ms : List Str} (k : PlanOk d W P) (n num : Nat) {w : Sta} (h : w ∈ W) : Phi (n + 1) .Plan_has [planOf W P Ms, .int num, enc w] = some (.ok (.bool (hasT W num w))) := by
  have i := run_idx k.hd k.fw h
  have hl := idxT_lt h
  have a := wts_at (n := W.length) (i := idxT W w) (by omega)
  have p1 : (0 : Int) < ((2 ^ idxT W w : Nat) : Int) := by have := Nat.one_le_two_pow (n := idxT W w); omega
  have p2 : ((2 ^ idxT W w : Nat) : Int) < 1073741824 := by
    have : 2 ^ idxT W w < 2 ^ 20 := Nat.pow_lt_pow_right (by omega) (by have := k.lw; omega)
    omega
  have dv := oDiv_int (num : Int) _ p1 p2
  have md := oMod_int ((num : Int) / ((2 ^ idxT W w : Nat) : Int)) 2 (by decide)
  rw [phi_Plan_has]
  refine runF_rt rfl ?_
  unfold f_Plan_has hasT planOf
  unfold encL at i
  simp only [entry, fOwn, fOpN,  fSeq, fNext, sRet, sRetN, sIf, sSet, sSetO, sAsg, sApp, sFor, forF, fVar, fOpd, fCon, f2, f1, fNil, fCons, bR, bL, bA, bLL, oR, fT, gAnd, gOr, gNot, gYes, fAnd, fOr, fNot, fIte, fTup, fLst, fCall, fCallO, fB, fM1, fSl, fiNo, fiSm, fLc, wLst, wTup, wStr, wRg1, wRg2, wZip, wEnum, gfN, gfTup, gsNil, gsCons, fLrg, fLrg3, wipeG, xSeq, xSet, xOf, xCall, xIf, xRet, xNext, xTup, xCons, xNil, xPut, xCallP, sRetX, sSetX, List.getElem?_cons_zero, List.getElem?_cons_succ, List.set_cons_zero, List.set_cons_succ, List.length_cons, List.length_nil, List.map_cons, List.map_nil, List.cons_append, List.nil_append, List.replicate, Nat.reduceAdd, Nat.reduceSub, fIdx, fldW, fldT, encL, i, bR_ok, oR_some, oIx_lst, a, dv, md, oEq_int]
theorem run_kept {d : Nat} {W P : List Sta} {Ms : List Str} (k : PlanOk d W P) (n : Nat) (bits : List Bool) (hb : bits.length = P.length) {w : Sta} (h : w ∈ P) : Phi (n + 1) .Plan_kept [planOf W P Ms, .tuple (bits.map .bool), enc w] = some (.ok (.bool (bits.getD (idxT P w) false))) := by
  have i := run_idx k.hd k.fp h
  have hl := idxT_lt h
  have a : atI (bits.map PyData.bool) (idxT P w : Int) = some (.bool (bits.getD (idxT P w) false)) := by
    refine atI_cast ?_
    have hb' : idxT P w < bits.length := by omega
    rw [List.getElem?_map, List.getElem?_eq_getElem hb', List.getD_eq_getElem?_getD, List.getElem?_eq_getElem hb']
    rfl
  rw [phi_Plan_kept]
  refine runF_rt rfl ?_
  unfold f_Plan_kept planOf
  unfold encL at i
  simp only [entry, fOwn, fOpN,  fSeq, fNext, sRet, sRetN, sIf, sSet, sSetO, sAsg, sApp, sFor, forF, fVar, fOpd, fCon, f2, f1, fNil, fCons, bR, bL, bA, bLL, oR, fT, gAnd, gOr, gNot, gYes, fAnd, fOr, fNot, fIte, fTup, fLst, fCall, fCallO, fB, fM1, fSl, fiNo, fiSm, fLc, wLst, wTup, wStr, wRg1, wRg2, wZip, wEnum, gfN, gfTup, gsNil, gsCons, fLrg, fLrg3, wipeG, xSeq, xSet, xOf, xCall, xIf, xRet, xNext, xTup, xCons, xNil, xPut, xCallP, sRetX, sSetX, List.getElem?_cons_zero, List.getElem?_cons_succ, List.set_cons_zero, List.set_cons_succ, List.length_cons, List.length_nil, List.map_cons, List.map_nil, List.cons_append, List.nil_append, List.replicate, Nat.reduceAdd, Nat.reduceSub, fIdx, fldP, encL, i, bR_ok, oR_some, oIx_tup, a]
def isT (W P : List Sta) (m : Str) (bits : List Bool) (num : Nat) : Sta → Bool
  | .mark x => m == x
  | .yes => true
  | .nt s => !isT W P m bits num s
  | .an s t => isT W P m bits num s && isT W P m bits num t
  | .or s t => isT W P m bits num s || isT W P m bits num t
  | .nx s => hasT W num s
  | .un s t => isT W P m bits num t || (isT W P m bits num s && hasT W num (.un s t))
  | .wi k s => (match k with | 0 => false | k + 1 => hasT W num (.wi k s)) || isT W P m bits num s
  | .bf s => bits.getD (idxT P (.bf s)) false
  | .si s t => isT W P m bits num t || (isT W P m bits num s && bits.getD (idxT P (.si s t)) false)
theorem run_is_so {d : Nat} {W P : List Sta} {Ms : List Str} (k : PlanOk d W P) (m : Str) (bits : List Bool) (hb : bits.length = P.length) (num : Nat) : ∀ (s : Sta) (n : Nat), s.depth + 1 ≤ n → (∀ o ∈ wishedT s, o ∈ W) → (∀ o ∈ allT s, isPast o → o ∈ P) →
    Phi n .is_so [planOf W P Ms, enc s, .str m, .tuple (bits.map .bool), .int num] = some (.ok (.bool (isT W P m bits num s))) := by
  intro s
  have ip := isPlan_of W P Ms
  induction s with
  | mark x =>
    intro n hn hw hp
    obtain ⟨n, rfl⟩ : ∃ k, n = k + 1 := ⟨n - 1, by omega⟩
    rw [phi_is_so]
    simp [runF, entry, f_is_so, fOwn, fOpN,  fSeq, fNext, sRet, sRetN, sIf, sSet, sSetO, sAsg, sApp, sFor, forF, fVar, fOpd, fCon, f2, f1, fNil, fCons, bR, bL, bA, bLL, oR, fT, gAnd, gOr, gNot, gYes, fAnd, fOr, fNot, fIte, fTup, fLst, fCall, fCallO, fB, fM1, fSl, fiNo, fiSm, fLc, wLst, wTup, wStr, wRg1, wRg2, wZip, wEnum, gfN, gfTup, gsNil, gsCons, fLrg, fLrg3, wipeG, xSeq, xSet, xOf, xCall, xIf, xRet, xNext, xTup, xCons, xNil, xPut, xCallP, sRetX, sSetX, List.getElem?_cons_zero, List.getElem?_cons_succ, List.set_cons_zero, List.set_cons_succ, enc, isT, List.replicate]
  | yes =>
    intro n hn hw hp
    obtain ⟨n, rfl⟩ : ∃ k, n = k + 1 := ⟨n - 1, by omega⟩
    rw [phi_is_so]
    simp [runF, entry, f_is_so, fOwn, fOpN,  fSeq, fNext, sRet, sRetN, sIf, sSet, sSetO, sAsg, sApp, sFor, forF, fVar, fOpd, fCon, f2, f1, fNil, fCons, bR, bL, bA, bLL, oR, fT, gAnd, gOr, gNot, gYes, fAnd, fOr, fNot, fIte, fTup, fLst, fCall, fCallO, fB, fM1, fSl, fiNo, fiSm, fLc, wLst, wTup, wStr, wRg1, wRg2, wZip, wEnum, gfN, gfTup, gsNil, gsCons, fLrg, fLrg3, wipeG, xSeq, xSet, xOf, xCall, xIf, xRet, xNext, xTup, xCons, xNil, xPut, xCallP, sRetX, sSetX, List.getElem?_cons_zero, List.getElem?_cons_succ, List.set_cons_zero, List.set_cons_succ, enc, isT, List.replicate]
  | nt s ih =>
    intro n hn hw hp
    simp [Sta.depth] at hn
    obtain ⟨n, rfl⟩ : ∃ k, n = k + 1 := ⟨n - 1, by omega⟩
    have h := ih n (by omega) hw (fun o ho => hp o (by simp [allT, ho]))
    rw [phi_is_so]
    simp [runF, entry, f_is_so, fOwn, fOpN,  fSeq, fNext, sRet, sRetN, sIf, sSet, sSetO, sAsg, sApp, sFor, forF, fVar, fOpd, fCon, f2, f1, fNil, fCons, bR, bL, bA, bLL, oR, fT, gAnd, gOr, gNot, gYes, fAnd, fOr, fNot, fIte, fTup, fLst, fCall, fCallO, fB, fM1, fSl, fiNo, fiSm, fLc, wLst, wTup, wStr, wRg1, wRg2, wZip, wEnum, gfN, gfTup, gsNil, gsCons, fLrg, fLrg3, wipeG, xSeq, xSet, xOf, xCall, xIf, xRet, xNext, xTup, xCons, xNil, xPut, xCallP, sRetX, sSetX, List.getElem?_cons_zero, List.getElem?_cons_succ, List.set_cons_zero, List.set_cons_succ, enc, isT, List.replicate, h]
  | an s t ih ih' =>
    intro n hn hw hp
    simp [Sta.depth] at hn
    obtain ⟨n, rfl⟩ : ∃ k, n = k + 1 := ⟨n - 1, by omega⟩
    have h := ih n (by omega) (fun o ho => hw o (by simp [wishedT, ho])) (fun o ho => hp o (by simp [allT, ho]))
    have h' := ih' n (by omega) (fun o ho => hw o (by simp [wishedT, ho])) (fun o ho => hp o (by simp [allT, ho]))
    rw [phi_is_so]
    cases hs : isT W P m bits num s <;> simp [runF, entry, f_is_so, fOwn, fOpN,  fSeq, fNext, sRet, sRetN, sIf, sSet, sSetO, sAsg, sApp, sFor, forF, fVar, fOpd, fCon, f2, f1, fNil, fCons, bR, bL, bA, bLL, oR, fT, gAnd, gOr, gNot, gYes, fAnd, fOr, fNot, fIte, fTup, fLst, fCall, fCallO, fB, fM1, fSl, fiNo, fiSm, fLc, wLst, wTup, wStr, wRg1, wRg2, wZip, wEnum, gfN, gfTup, gsNil, gsCons, fLrg, fLrg3, wipeG, xSeq, xSet, xOf, xCall, xIf, xRet, xNext, xTup, xCons, xNil, xPut, xCallP, sRetX, sSetX, List.getElem?_cons_zero, List.getElem?_cons_succ, List.set_cons_zero, List.set_cons_succ, enc, isT, List.replicate, h, h', hs]
  | or s t ih ih' =>
    intro n hn hw hp
    simp [Sta.depth] at hn
    obtain ⟨n, rfl⟩ : ∃ k, n = k + 1 := ⟨n - 1, by omega⟩
    have h := ih n (by omega) (fun o ho => hw o (by simp [wishedT, ho])) (fun o ho => hp o (by simp [allT, ho]))
    have h' := ih' n (by omega) (fun o ho => hw o (by simp [wishedT, ho])) (fun o ho => hp o (by simp [allT, ho]))
    rw [phi_is_so]
    cases hs : isT W P m bits num s <;> simp [runF, entry, f_is_so, fOwn, fOpN,  fSeq, fNext, sRet, sRetN, sIf, sSet, sSetO, sAsg, sApp, sFor, forF, fVar, fOpd, fCon, f2, f1, fNil, fCons, bR, bL, bA, bLL, oR, fT, gAnd, gOr, gNot, gYes, fAnd, fOr, fNot, fIte, fTup, fLst, fCall, fCallO, fB, fM1, fSl, fiNo, fiSm, fLc, wLst, wTup, wStr, wRg1, wRg2, wZip, wEnum, gfN, gfTup, gsNil, gsCons, fLrg, fLrg3, wipeG, xSeq, xSet, xOf, xCall, xIf, xRet, xNext, xTup, xCons, xNil, xPut, xCallP, sRetX, sSetX, List.getElem?_cons_zero, List.getElem?_cons_succ, List.set_cons_zero, List.set_cons_succ, enc, isT, List.replicate, h, h', hs]
  | nx s ih =>
    intro n hn hw hp
    simp [Sta.depth] at hn
    obtain ⟨n, rfl⟩ : ∃ k, n = k + 2 := ⟨n - 2, by omega⟩
    have h := run_has (Ms := Ms) k n num (hw s (by simp [wishedT]))
    rw [phi_is_so]
    simp [runF, entry, f_is_so, fOwn, fOpN,  fSeq, fNext, sRet, sRetN, sIf, sSet, sSetO, sAsg, sApp, sFor, forF, fVar, fOpd, fCon, f2, f1, fNil, fCons, bR, bL, bA, bLL, oR, fT, gAnd, gOr, gNot, gYes, fAnd, fOr, fNot, fIte, fTup, fLst, fCall, fCallO, fB, fM1, fSl, fiNo, fiSm, fLc, wLst, wTup, wStr, wRg1, wRg2, wZip, wEnum, gfN, gfTup, gsNil, gsCons, fLrg, fLrg3, wipeG, xSeq, xSet, xOf, xCall, xIf, xRet, xNext, xTup, xCons, xNil, xPut, xCallP, sRetX, sSetX, List.getElem?_cons_zero, List.getElem?_cons_succ, List.set_cons_zero, List.set_cons_succ, enc, isT, List.replicate, fMeth, ip, h]
  | bf s ih =>
    intro n hn hw hp
    simp [Sta.depth] at hn
    obtain ⟨n, rfl⟩ : ∃ k, n = k + 2 := ⟨n - 2, by omega⟩
    have h := run_kept (W := W) (Ms := Ms) k n bits hb (hp (.bf s) (by simp [allT]) trivial)
    rw [phi_is_so]
    simp only [enc] at h
    simp [runF, entry, f_is_so, fOwn, fOpN,  fSeq, fNext, sRet, sRetN, sIf, sSet, sSetO, sAsg, sApp, sFor, forF, fVar, fOpd, fCon, f2, f1, fNil, fCons, bR, bL, bA, bLL, oR, fT, gAnd, gOr, gNot, gYes, fAnd, fOr, fNot, fIte, fTup, fLst, fCall, fCallO, fB, fM1, fSl, fiNo, fiSm, fLc, wLst, wTup, wStr, wRg1, wRg2, wZip, wEnum, gfN, gfTup, gsNil, gsCons, fLrg, fLrg3, wipeG, xSeq, xSet, xOf, xCall, xIf, xRet, xNext, xTup, xCons, xNil, xPut, xCallP, sRetX, sSetX, List.getElem?_cons_zero, List.getElem?_cons_succ, List.set_cons_zero, List.set_cons_succ, enc, isT, List.replicate, fMeth, ip, h]
  | wi j s ih =>
    intro n hn hw hp
    simp [Sta.depth] at hn
    obtain ⟨n, rfl⟩ : ∃ k, n = k + 2 := ⟨n - 2, by omega⟩
    have h := ih (n + 1) (by omega) (fun o ho => hw o (by simp [wishedT, ho])) (fun o ho => hp o (by simp [allT, ho]))
    rw [phi_is_so]
    cases j with
    | zero => simp [runF, entry, f_is_so, fOwn, fOpN,  fSeq, fNext, sRet, sRetN, sIf, sSet, sSetO, sAsg, sApp, sFor, forF, fVar, fOpd, fCon, f2, f1, fNil, fCons, bR, bL, bA, bLL, oR, fT, gAnd, gOr, gNot, gYes, fAnd, fOr, fNot, fIte, fTup, fLst, fCall, fCallO, fB, fM1, fSl, fiNo, fiSm, fLc, wLst, wTup, wStr, wRg1, wRg2, wZip, wEnum, gfN, gfTup, gsNil, gsCons, fLrg, fLrg3, wipeG, xSeq, xSet, xOf, xCall, xIf, xRet, xNext, xTup, xCons, xNil, xPut, xCallP, sRetX, sSetX, List.getElem?_cons_zero, List.getElem?_cons_succ, List.set_cons_zero, List.set_cons_succ, enc, isT, List.replicate, h]
    | succ j =>
      have h2 := run_has (Ms := Ms) k n num (hw (.wi j s) (by simp [wishedT]))
      have c : (0 : Int) < (j : Int) + 1 := by omega
      simp only [enc] at h2
      cases hs : hasT W num (.wi j s) <;> simp [runF, entry, f_is_so, fOwn, fOpN,  fSeq, fNext, sRet, sRetN, sIf, sSet, sSetO, sAsg, sApp, sFor, forF, fVar, fOpd, fCon, f2, f1, fNil, fCons, bR, bL, bA, bLL, oR, fT, gAnd, gOr, gNot, gYes, fAnd, fOr, fNot, fIte, fTup, fLst, fCall, fCallO, fB, fM1, fSl, fiNo, fiSm, fLc, wLst, wTup, wStr, wRg1, wRg2, wZip, wEnum, gfN, gfTup, gsNil, gsCons, fLrg, fLrg3, wipeG, xSeq, xSet, xOf, xCall, xIf, xRet, xNext, xTup, xCons, xNil, xPut, xCallP, sRetX, sSetX, List.getElem?_cons_zero, List.getElem?_cons_succ, List.set_cons_zero, List.set_cons_succ, enc, isT, List.replicate, fMeth, ip, h, h2, hs, c]
  | un s t ih ih' =>
    intro n hn hw hp
    simp [Sta.depth] at hn
    obtain ⟨n, rfl⟩ : ∃ k, n = k + 2 := ⟨n - 2, by omega⟩
    have h := ih (n + 1) (by omega) (fun o ho => hw o (by simp [wishedT, ho])) (fun o ho => hp o (by simp [allT, ho]))
    have h' := ih' (n + 1) (by omega) (fun o ho => hw o (by simp [wishedT, ho])) (fun o ho => hp o (by simp [allT, ho]))
    have h2 := run_has (Ms := Ms) k n num (hw (.un s t) (by simp [wishedT]))
    rw [phi_is_so]
    simp only [enc] at h2
    cases hs : isT W P m bits num s <;> cases ht : isT W P m bits num t <;> simp [runF, entry, f_is_so, fOwn, fOpN,  fSeq, fNext, sRet, sRetN, sIf, sSet, sSetO, sAsg, sApp, sFor, forF, fVar, fOpd, fCon, f2, f1, fNil, fCons, bR, bL, bA, bLL, oR, fT, gAnd, gOr, gNot, gYes, fAnd, fOr, fNot, fIte, fTup, fLst, fCall, fCallO, fB, fM1, fSl, fiNo, fiSm, fLc, wLst, wTup, wStr, wRg1, wRg2, wZip, wEnum, gfN, gfTup, gsNil, gsCons, fLrg, fLrg3, wipeG, xSeq, xSet, xOf, xCall, xIf, xRet, xNext, xTup, xCons, xNil, xPut, xCallP, sRetX, sSetX, List.getElem?_cons_zero, List.getElem?_cons_succ, List.set_cons_zero, List.set_cons_succ, enc, isT, List.replicate, fMeth, ip, h, h', h2, hs, ht]
  | si s t ih ih' =>
    intro n hn hw hp
    simp [Sta.depth] at hn
    obtain ⟨n, rfl⟩ : ∃ k, n = k + 2 := ⟨n - 2, by omega⟩
    have h := ih (n + 1) (by omega) (fun o ho => hw o (by simp [wishedT, ho])) (fun o ho => hp o (by simp [allT, ho]))
    have h' := ih' (n + 1) (by omega) (fun o ho => hw o (by simp [wishedT, ho])) (fun o ho => hp o (by simp [allT, ho]))
    have h2 := run_kept (W := W) (Ms := Ms) k n bits hb (hp (.si s t) (by simp [allT]) trivial)
    rw [phi_is_so]
    simp only [enc] at h2
    cases hs : isT W P m bits num s <;> cases ht : isT W P m bits num t <;> simp [runF, entry, f_is_so, fOwn, fOpN,  fSeq, fNext, sRet, sRetN, sIf, sSet, sSetO, sAsg, sApp, sFor, forF, fVar, fOpd, fCon, f2, f1, fNil, fCons, bR, bL, bA, bLL, oR, fT, gAnd, gOr, gNot, gYes, fAnd, fOr, fNot, fIte, fTup, fLst, fCall, fCallO, fB, fM1, fSl, fiNo, fiSm, fLc, wLst, wTup, wStr, wRg1, wRg2, wZip, wEnum, gfN, gfTup, gsNil, gsCons, fLrg, fLrg3, wipeG, xSeq, xSet, xOf, xCall, xIf, xRet, xNext, xTup, xCons, xNil, xPut, xCallP, sRetX, sSetX, List.getElem?_cons_zero, List.getElem?_cons_succ, List.set_cons_zero, List.set_cons_succ, enc, isT, List.replicate, fMeth, ip, h, h', h2, hs, ht]
end K08

namespace K08
open PySem PySem.Spec PyProof.Rows L2 Py
/-! ### what is kept; the first state; the next one -/
def keptB (W P : List Sta) (m : Str) (bits : List Bool) : Sta → Bool
  | .bf q => isT W P m bits 0 q
  | q => isT W P m bits 0 q
/-- the plan's pasts are pasts, and all their parts' pasts are in it -/
structure PastsOk (W P : List Sta) : Prop where
  past : ∀ q ∈ P, isPast q
  clos : ∀ q ∈ P, ∀ o ∈ allT q, isPast o → o ∈ P
  wish : ∀ q ∈ P, ∀ o ∈ wishedT q, o ∈ W
theorem run_kept_behind {d : Nat} {W P : List Sta} {Ms : List Str} (k : PlanOk d W P) (pk : PastsOk W P) (m : Str) (bits : List Bool) (hb : bits.length = P.length) (n : Nat) (hn : d + 2 ≤ n) :
    Phi n .kept_behind [planOf W P Ms, .tuple (bits.map .bool), .str m] = some (.ok (.tuple ((P.map (keptB W P m bits)).map .bool))) := by
  obtain ⟨n, rfl⟩ : ∃ k, n = k + 1 := ⟨n - 1, by omega⟩
  have key : ∀ (l : List Sta) (acc : List Bool) (x : Sl), (∀ q ∈ l, q ∈ P) → acc.length + l.length ≤ big →
      ∃ x', forF (gfN 4) (sIf (fT (f2 oEq (f2 oIx (fOpd 4) (fCon (.int 0))) (fCon (.str "before")))) (sApp 3 (fCall (Phi n .is_so) (fCons (fVar 0) (fCons (f2 oIx (fOpd 4) (fCon (.int 1))) (fCons (fVar 2) (fCons (fVar 1) (fCons (fCon (.int 0)) fNil))))))) (sApp 3 (fCall (Phi n .is_so) (fCons (fVar 0) (fCons (fVar 4) (fCons (fVar 2) (fCons (fVar 1) (fCons (fCon (.int 0)) fNil)))))))) (l.map enc)
        [.va (planOf W P Ms), .va (.tuple (bits.map .bool)), .va (.str m), .ow (acc.map .bool), x] = some (.nx [.va (planOf W P Ms), .va (.tuple (bits.map .bool)), .va (.str m), .ow ((acc ++ l.map (keptB W P m bits)).map .bool), x']) := by
    intro l
    induction l with
    | nil => intro acc x _ _; exact ⟨x, by simp [forF]⟩
    | cons q l ih =>
      intro acc x hl hz
      have hq := hl q List.mem_cons_self
      have fq := k.fp q hq
      have dq := fq.dep
      simp only [List.length_cons] at hz
      have hab : acc.length ≤ big := by omega
      obtain ⟨x', e⟩ := ih (acc ++ [keptB W P m bits q]) (.va (enc q)) (fun t ht => hl t (List.mem_cons_of_mem _ ht)) (by simp; omega)
      refine ⟨x', ?_⟩
      have pq := pk.past q hq
      cases q with
      | bf q =>
        simp [Sta.depth] at dq
        have h := run_is_so (Ms := Ms) k m bits hb 0 q n (by omega) (fun o ho => pk.wish _ hq o ho) (fun o ho => pk.clos _ hq o (by simp [allT, ho]))
        have e0 : ((0 : Nat) : Int) = 0 := rfl
        rw [e0] at h
        simp only [keptB, enc] at e
        simp only [List.map_cons, keptB, List.append_assoc, List.singleton_append] at e ⊢
        rw [← e]
        simp [fOwn, fOpN,  fSeq, fNext, sRet, sRetN, sIf, sSet, sSetO, sAsg, sApp, sFor, forF, fVar, fOpd, fCon, f2, f1, fNil, fCons, bR, bL, bA, bLL, oR, fT, gAnd, gOr, gNot, gYes, fAnd, fOr, fNot, fIte, fTup, fLst, fCall, fCallO, fB, fM1, fSl, fiNo, fiSm, fLc, wLst, wTup, wStr, wRg1, wRg2, wZip, wEnum, gfN, gfTup, gsNil, gsCons, fLrg, fLrg3, wipeG, xSeq, xSet, xOf, xCall, xIf, xRet, xNext, xTup, xCons, xNil, xPut, xCallP, sRetX, sSetX, List.getElem?_cons_zero, List.getElem?_cons_succ, List.set_cons_zero, List.set_cons_succ, enc, h, hab]
      | si a b =>
        have h := run_is_so (Ms := Ms) k m bits hb 0 (.si a b) n (by omega) (fun o ho => pk.wish _ hq o ho) (fun o ho => pk.clos _ hq o ho)
        have e0 : ((0 : Nat) : Int) = 0 := rfl
        rw [e0] at h
        simp only [keptB, enc] at e h
        simp only [List.map_cons, keptB, List.append_assoc, List.singleton_append] at e ⊢
        rw [← e]
        simp [fOwn, fOpN,  fSeq, fNext, sRet, sRetN, sIf, sSet, sSetO, sAsg, sApp, sFor, forF, fVar, fOpd, fCon, f2, f1, fNil, fCons, bR, bL, bA, bLL, oR, fT, gAnd, gOr, gNot, gYes, fAnd, fOr, fNot, fIte, fTup, fLst, fCall, fCallO, fB, fM1, fSl, fiNo, fiSm, fLc, wLst, wTup, wStr, wRg1, wRg2, wZip, wEnum, gfN, gfTup, gsNil, gsCons, fLrg, fLrg3, wipeG, xSeq, xSet, xOf, xCall, xIf, xRet, xNext, xTup, xCons, xNil, xPut, xCallP, sRetX, sSetX, List.getElem?_cons_zero, List.getElem?_cons_succ, List.set_cons_zero, List.set_cons_succ, enc, h, hab]
      | _ => exact absurd pq id
  obtain ⟨x', e⟩ := key P [] .no (fun _ h => h) (by have := k.lp; unfold big; simp; omega)
  rw [phi_kept_behind]
  refine runF_rt rfl ?_
  unfold f_kept_behind
  rw [fSeq_nx (γ1 := [.va (planOf W P Ms), .va (.tuple (bits.map .bool)), .va (.str m), .ow [], .no]) (by simp [entry, fOwn, fOpN,  fSeq, fNext, sRet, sRetN, sIf, sSet, sSetO, sAsg, sApp, sFor, forF, fVar, fOpd, fCon, f2, f1, fNil, fCons, bR, bL, bA, bLL, oR, fT, gAnd, gOr, gNot, gYes, fAnd, fOr, fNot, fIte, fTup, fLst, fCall, fCallO, fB, fM1, fSl, fiNo, fiSm, fLc, wLst, wTup, wStr, wRg1, wRg2, wZip, wEnum, gfN, gfTup, gsNil, gsCons, fLrg, fLrg3, wipeG, xSeq, xSet, xOf, xCall, xIf, xRet, xNext, xTup, xCons, xNil, xPut, xCallP, sRetX, sSetX, List.getElem?_cons_zero, List.getElem?_cons_succ, List.set_cons_zero, List.set_cons_succ, List.replicate])]
  rw [fSeq_nx (γ1 := [.va (planOf W P Ms), .va (.tuple (bits.map .bool)), .va (.str m), .ow ((P.map (keptB W P m bits)).map .bool), x']) ?_]
  · simp [fOwn, fOpN,  fSeq, fNext, sRet, sRetN, sIf, sSet, sSetO, sAsg, sApp, sFor, forF, fVar, fOpd, fCon, f2, f1, fNil, fCons, bR, bL, bA, bLL, oR, fT, gAnd, gOr, gNot, gYes, fAnd, fOr, fNot, fIte, fTup, fLst, fCall, fCallO, fB, fM1, fSl, fiNo, fiSm, fLc, wLst, wTup, wStr, wRg1, wRg2, wZip, wEnum, gfN, gfTup, gsNil, gsCons, fLrg, fLrg3, wipeG, xSeq, xSet, xOf, xCall, xIf, xRet, xNext, xTup, xCons, xNil, xPut, xCallP, sRetX, sSetX, List.getElem?_cons_zero, List.getElem?_cons_succ, List.set_cons_zero, List.set_cons_succ, oTuple]
  · simp only [List.map_nil, List.nil_append] at e
    have f : f1 (oFld "pasts") (fOpd 0) [.va (planOf W P Ms), .va (.tuple (bits.map .bool)), .va (.str m), .ow [], .no] = some (.ok (encL P)) := by
      simp only [fOwn, fOpN,  fSeq, fNext, sRet, sRetN, sIf, sSet, sSetO, sAsg, sApp, sFor, forF, fVar, fOpd, fCon, f2, f1, fNil, fCons, bR, bL, bA, bLL, oR, fT, gAnd, gOr, gNot, gYes, fAnd, fOr, fNot, fIte, fTup, fLst, fCall, fCallO, fB, fM1, fSl, fiNo, fiSm, fLc, wLst, wTup, wStr, wRg1, wRg2, wZip, wEnum, gfN, gfTup, gsNil, gsCons, fLrg, fLrg3, wipeG, xSeq, xSet, xOf, xCall, xIf, xRet, xNext, xTup, xCons, xNil, xPut, xCallP, sRetX, sSetX, List.getElem?_cons_zero, List.getElem?_cons_succ, List.set_cons_zero, List.set_cons_succ, planOf, fldP, bR_ok, oR_some]
    simp only [sFor, wLst, f, encL]
    exact e
def stateD (bits tab : List Bool) : D := .tuple [.tuple (bits.map .bool), .tuple (tab.map .bool)]
theorem rg_big {j : Nat} (h : j ≤ 8000000) : rgOk 0 (j : Int) = true := by
  unfold rgOk
  simp only [Bool.and_eq_true, decide_eq_true_eq]
  omega
theorem rg_0 (j : Nat) : rgD 0 (j : Int) = (List.range j).map fun i => .int ((i : Nat) : Int) := by have := rg_nat 0 j; simpa using this
theorem run_begun {d : Nat} {W P : List Sta} {Ms : List Str} (k : PlanOk d W P) (n : Nat) : Phi (n + 1) .begun [planOf W P Ms] = some (.ok (stateD (P.map fun _ => false) ((List.range (2 ^ W.length)).map fun i => ((i : Nat) : Int) % 2 == 1))) := by
  have hp : 2 ^ W.length ≤ 2 ^ 20 := Nat.pow_le_pow_right (by omega) k.lw
  have hr : rgOk 0 ((2 ^ W.length : Nat) : Int) = true := rg_big (by omega)
  have hd := rg_0 (2 ^ W.length)
  have l1 : ∀ x, lcF (gfN 2) gYes (f2 oEq (f2 oMod (fOpd 2) (fCon (.int 2))) (fCon (.int 1))) [.va (planOf W P Ms), .no, .no, x] ((List.range (2 ^ W.length)).map fun i => .int ((i : Nat) : Int)) = some ((List.range (2 ^ W.length)).map fun i => .bool (((i : Nat) : Int) % 2 == 1)) := fun x =>
    lcF_map (fun i : Nat => .int (i : Int)) (fun i => .bool ((i : Int) % 2 == 1)) _ fun i _ => ⟨_, rfl, rfl, by simp [fOwn, fOpN,  fSeq, fNext, sRet, sRetN, sIf, sSet, sSetO, sAsg, sApp, sFor, forF, fVar, fOpd, fCon, f2, f1, fNil, fCons, bR, bL, bA, bLL, oR, fT, gAnd, gOr, gNot, gYes, fAnd, fOr, fNot, fIte, fTup, fLst, fCall, fCallO, fB, fM1, fSl, fiNo, fiSm, fLc, wLst, wTup, wStr, wRg1, wRg2, wZip, wEnum, gfN, gfTup, gsNil, gsCons, fLrg, fLrg3, wipeG, xSeq, xSet, xOf, xCall, xIf, xRet, xNext, xTup, xCons, xNil, xPut, xCallP, sRetX, sSetX, List.getElem?_cons_zero, List.getElem?_cons_succ, List.set_cons_zero, List.set_cons_succ]⟩
  have l2 : ∀ y, lcF (gfN 3) gYes (fCon (.bool false)) [.va (planOf W P Ms), y, .no, .no] (P.map enc) = some (P.map fun _ => .bool false) := fun y =>
    lcF_map enc (fun _ => .bool false) P fun i _ => ⟨_, rfl, rfl, rfl⟩
  have f : f2 oIx (f1 (oFld "weights") (fOpd 0)) (f1 oNeg (fCon (.int 1))) [.va (planOf W P Ms), .no, .no, .no] = some (.ok (.int (2 ^ W.length : Nat))) := by
    simp only [fOwn, fOpN,  fSeq, fNext, sRet, sRetN, sIf, sSet, sSetO, sAsg, sApp, sFor, forF, fVar, fOpd, fCon, f2, f1, fNil, fCons, bR, bL, bA, bLL, oR, fT, gAnd, gOr, gNot, gYes, fAnd, fOr, fNot, fIte, fTup, fLst, fCall, fCallO, fB, fM1, fSl, fiNo, fiSm, fLc, wLst, wTup, wStr, wRg1, wRg2, wZip, wEnum, gfN, gfTup, gsNil, gsCons, fLrg, fLrg3, wipeG, xSeq, xSet, xOf, xCall, xIf, xRet, xNext, xTup, xCons, xNil, xPut, xCallP, sRetX, sSetX, List.getElem?_cons_zero, List.getElem?_cons_succ, List.set_cons_zero, List.set_cons_succ, planOf, fldT, bR_ok, oR_some, oNeg_int, oIx_lst, wts_last]
  have g : ∀ y, f1 (oFld "pasts") (fOpd 0) [.va (planOf W P Ms), y, .no, .no] = some (.ok (encL P)) := fun y => by
    simp only [fOwn, fOpN,  fSeq, fNext, sRet, sRetN, sIf, sSet, sSetO, sAsg, sApp, sFor, forF, fVar, fOpd, fCon, f2, f1, fNil, fCons, bR, bL, bA, bLL, oR, fT, gAnd, gOr, gNot, gYes, fAnd, fOr, fNot, fIte, fTup, fLst, fCall, fCallO, fB, fM1, fSl, fiNo, fiSm, fLc, wLst, wTup, wStr, wRg1, wRg2, wZip, wEnum, gfN, gfTup, gsNil, gsCons, fLrg, fLrg3, wipeG, xSeq, xSet, xOf, xCall, xIf, xRet, xNext, xTup, xCons, xNil, xPut, xCallP, sRetX, sSetX, List.getElem?_cons_zero, List.getElem?_cons_succ, List.set_cons_zero, List.set_cons_succ, planOf, fldP, bR_ok, oR_some]
  have z1 : (List.range (2 ^ W.length)).length ≤ big := by rw [List.length_range]; unfold big; omega
  have z2 : P.length ≤ big := by have := k.lp; unfold big; omega
  rw [phi_begun]
  refine runF_rt rfl ?_
  unfold f_begun
  rw [fSeq_nx (γ1 := [.va (planOf W P Ms), .va (.list ((List.range (2 ^ W.length)).map fun i => .bool (((i : Nat) : Int) % 2 == 1))), .no, .no]) ?_]
  · have em : ((List.range (2 ^ W.length)).map fun i => PyData.bool (((i : Nat) : Int) % 2 == 1)) = ((List.range (2 ^ W.length)).map fun i => ((i : Nat) : Int) % 2 == 1).map .bool := by rw [List.map_map]; rfl
    rw [em]
    generalize ((List.range (2 ^ W.length)).map fun i => ((i : Nat) : Int) % 2 == 1) = tab
    have g' := g (.va (.list (tab.map .bool)))
    have l3 := l2 (.va (.list (tab.map .bool)))
    simp [sRet, fTup, fCons, fB, fLc, wLst, fNil, g', encL, wipeG, z2, l3, fOpd, oTuple, stateD, List.map_map, Function.comp_def]
  · have e : entry 4 [planOf W P Ms] = [.va (planOf W P Ms), .no, .no, .no] := rfl
    simp only [List.length_range] at z1
    rw [show entry _ [planOf W P Ms] = [.va (planOf W P Ms), .no, .no, .no] from rfl]
    generalize 2 ^ W.length = N at hr hd l1 f z1 ⊢
    simp [sSet, fLc, wRg1, fCons, f, fNil, hr, hd, l1, z1, wipeG]
/-- the number told by the wishes -/
def toldT (f : Sta → Bool) : List Sta → Nat → Nat → Nat
  | [], _, a => a
  | w :: l, i, a => toldT f l (i + 1) (if f w = true then a + 2 ^ i else a)
theorem toldT_lt (f : Sta → Bool) : ∀ (l : List Sta) (i a : Nat), a < 2 ^ i → toldT f l i a < 2 ^ (i + l.length)
  | [], i, a, h => by simpa [toldT] using h
  | w :: l, i, a, h => by
    unfold toldT
    have := toldT_lt f l (i + 1) (if f w = true then a + 2 ^ i else a) (by rw [Nat.pow_succ]; split <;> omega)
    simp only [List.length_cons]
    rw [show i + (l.length + 1) = i + 1 + l.length by omega]
    exact this
def rowsT (W P : List Sta) (m : Str) (bits tab : List Bool) : List Bool := (List.range (2 ^ W.length)).map fun num => tab.getD (toldT (isT W P m bits num) W 0 0) false
theorem run_stepped {d : Nat} {W P : List Sta} {Ms : List Str} (k : PlanOk d W P) (pk : PastsOk W P) (cw : ∀ w ∈ W, ∀ o ∈ wishedT w, o ∈ W) (cp : ∀ w ∈ W, ∀ o ∈ allT w, isPast o → o ∈ P) (m : Str) (bits tab : List Bool) (hb : bits.length = P.length) (ht : tab.length = 2 ^ W.length) (n : Nat) (hn : d + 3 ≤ n) :
    Phi n .stepped [planOf W P Ms, stateD bits tab, .str m] = some (.ok (stateD (P.map (keptB W P m bits)) (rowsT W P m bits tab))) := by
  obtain ⟨n, rfl⟩ : ∃ k, n = k + 1 := ⟨n - 1, by omega⟩
  have hp : 2 ^ W.length ≤ 2 ^ 20 := Nat.pow_le_pow_right (by omega) k.lw
  have hk := run_kept_behind (Ms := Ms) k pk m bits hb n (by omega)
  have inner : ∀ (num : Nat) (A4 A10 : Sl) (l : List Sta) (i a : Nat) (x y : Sl), (∀ w ∈ l, w ∈ W) → i + l.length = W.length → a < 2 ^ i →
      ∃ x' y', forF (gfTup (gsCons (gfN 8) (gsCons (gfN 9) gsNil))) (sIf (fT (fCall (Phi n .is_so) (fCons (fVar 0) (fCons (fVar 9) (fCons (fVar 2) (fCons (fVar 5) (fCons (fVar 4) fNil))))))) (sSet 7 (f2 oAdd (fOpd 7) (f2 oIx (f1 (oFld "weights") (fOpd 0)) (fOpd 8)))) fNext)
        ((l.zipIdx i).map fun p => .tuple [.int (p.2 : Nat), enc p.1]) [.va (planOf W P Ms), .va (stateD bits tab), .va (.str m), A4, .va (.int num), .va (.tuple (bits.map .bool)), .va (.tuple (tab.map .bool)), .va (.int a), x, y]
        = some (.nx [.va (planOf W P Ms), .va (stateD bits tab), .va (.str m), A4, .va (.int num), .va (.tuple (bits.map .bool)), .va (.tuple (tab.map .bool)), .va (.int (toldT (isT W P m bits num) l i a)), x', y']) := by
    intro num A4 A10 l
    induction l with
    | nil => intro i a x y _ _ _; exact ⟨x, y, rfl⟩
    | cons w l ih =>
      intro i a x y hl hi ha
      have hw := hl w List.mem_cons_self
      simp only [List.length_cons] at hi
      have h := run_is_so (Ms := Ms) k m bits hb num w n (by have := (k.fw w hw).dep; omega) (cw w hw) (cp w hw)
      have wa := wts_at (n := W.length) (i := i) (by omega)
      have f : oFld "weights" (planOf W P Ms) = some (.list (wts W.length)) := by unfold planOf; rw [fldT]
      obtain ⟨x', y', e⟩ := ih (i + 1) (if isT W P m bits num w = true then a + 2 ^ i else a) (.va (.int i)) (.va (enc w)) (fun t ht => hl t (List.mem_cons_of_mem _ ht)) (by omega) (by rw [Nat.pow_succ]; split <;> omega)
      refine ⟨x', y', ?_⟩
      simp only [toldT]
      rw [← e]
      cases hs : isT W P m bits num w with
      | false =>
        rw [hs] at h
        simp only [List.zipIdx_cons, List.map_cons, forF, fOwn, fOpN,  fSeq, fNext, sRet, sRetN, sIf, sSet, sSetO, sAsg, sApp, sFor, forF, fVar, fOpd, fCon, f2, f1, fNil, fCons, bR, bL, bA, bLL, oR, fT, gAnd, gOr, gNot, gYes, fAnd, fOr, fNot, fIte, fTup, fLst, fCall, fCallO, fB, fM1, fSl, fiNo, fiSm, fLc, wLst, wTup, wStr, wRg1, wRg2, wZip, wEnum, gfN, gfTup, gsNil, gsCons, fLrg, fLrg3, wipeG, xSeq, xSet, xOf, xCall, xIf, xRet, xNext, xTup, xCons, xNil, xPut, xCallP, sRetX, sSetX, List.getElem?_cons_zero, List.getElem?_cons_succ, List.set_cons_zero, List.set_cons_succ, h, bR_ok, bA_ok, bL_ok, bLL_ok, Bool.false_eq_true, if_false]
      | true =>
        rw [hs] at h
        have ad : ((a : Nat) : Int) + ((2 ^ i : Nat) : Int) = ((a + 2 ^ i : Nat) : Int) := by omega
        simp only [List.zipIdx_cons, List.map_cons, forF, fOwn, fOpN,  fSeq, fNext, sRet, sRetN, sIf, sSet, sSetO, sAsg, sApp, sFor, forF, fVar, fOpd, fCon, f2, f1, fNil, fCons, bR, bL, bA, bLL, oR, fT, gAnd, gOr, gNot, gYes, fAnd, fOr, fNot, fIte, fTup, fLst, fCall, fCallO, fB, fM1, fSl, fiNo, fiSm, fLc, wLst, wTup, wStr, wRg1, wRg2, wZip, wEnum, gfN, gfTup, gsNil, gsCons, fLrg, fLrg3, wipeG, xSeq, xSet, xOf, xCall, xIf, xRet, xNext, xTup, xCons, xNil, xPut, xCallP, sRetX, sSetX, List.getElem?_cons_zero, List.getElem?_cons_succ, List.set_cons_zero, List.set_cons_succ, h, f, oIx_lst, wa, oAdd_int, ad, bR_ok, bA_ok, bL_ok, bLL_ok, oR_some, if_true]
  have enW : enD (W.map enc) = (W.zipIdx 0).map fun p => .tuple [.int (p.2 : Nat), enc p.1] := by
    unfold enD
    refine List.ext_getElem (by simp) fun i h1 h2 => ?_
    have h3 : i < W.length := by simpa using h1
    simp [List.getD_eq_getElem?_getD, h3]
  have outer : ∀ (l : List Nat) (acc : List Bool) (a4 x7 x8 x9 : Sl), (∀ i ∈ l, i < 2 ^ W.length) → acc.length + l.length ≤ big →
      ∃ a4' x7' x8' x9', forF (gfN 4) (fSeq (sSet 7 (fCon (.int 0)))
        (fSeq (sFor (wEnum (fCons (f1 (oFld "wishes") (fOpd 0)) fNil)) (gfTup (gsCons (gfN 8) (gsCons (gfN 9) gsNil))) (sIf (fT (fCall (Phi n .is_so) (fCons (fVar 0) (fCons (fVar 9) (fCons (fVar 2) (fCons (fVar 5) (fCons (fVar 4) fNil))))))) (sSet 7 (f2 oAdd (fOpd 7) (f2 oIx (f1 (oFld "weights") (fOpd 0)) (fOpd 8)))) fNext))
        (sApp 3 (f2 oIx (fOpd 6) (fOpd 7))))) (l.map fun i : Nat => .int (i : Int)) [.va (planOf W P Ms), .va (stateD bits tab), .va (.str m), .ow (acc.map .bool), a4, .va (.tuple (bits.map .bool)), .va (.tuple (tab.map .bool)), x7, x8, x9]
        = some (.nx [.va (planOf W P Ms), .va (stateD bits tab), .va (.str m), .ow ((acc ++ l.map fun num => tab.getD (toldT (isT W P m bits num) W 0 0) false).map .bool), a4', .va (.tuple (bits.map .bool)), .va (.tuple (tab.map .bool)), x7', x8', x9']) := by
    intro l
    induction l with
    | nil => intro acc a4 x7 x8 x9 _ _; exact ⟨a4, x7, x8, x9, by simp [forF]⟩
    | cons num l ih =>
      intro acc a4 x7 x8 x9 hl hz
      simp only [List.length_cons] at hz
      obtain ⟨x', y', e⟩ := inner num (.ow (acc.map .bool)) .no W 0 0 x8 x9 (fun _ h => h) (by omega) (by decide)
      have hlt := toldT_lt (isT W P m bits num) W 0 0 (by decide)
      rw [Nat.zero_add] at hlt
      have at_ : atI (tab.map PyData.bool) ((toldT (isT W P m bits num) W 0 0 : Nat) : Int) = some (.bool (tab.getD (toldT (isT W P m bits num) W 0 0) false)) := by
        refine atI_cast ?_
        have hi : toldT (isT W P m bits num) W 0 0 < tab.length := by omega
        rw [List.getElem?_map, List.getElem?_eq_getElem hi, List.getD_eq_getElem?_getD, List.getElem?_eq_getElem hi]
        rfl
      obtain ⟨b4, b7, b8, b9, e2⟩ := ih (acc ++ [tab.getD (toldT (isT W P m bits num) W 0 0) false]) (.va (.int num)) (.va (.int (toldT (isT W P m bits num) W 0 0))) x' y' (fun i hi => hl i (List.mem_cons_of_mem _ hi)) (by simp; omega)
      refine ⟨b4, b7, b8, b9, ?_⟩
      have fW : oFld "wishes" (planOf W P Ms) = some (encL W) := by unfold planOf; rw [fldW]
      have hab : (acc.map PyData.bool).length ≤ big := by rw [List.length_map]; omega
      simp only [List.map_cons, List.append_assoc, List.singleton_append] at e2 ⊢
      rw [← e2]
      have e0 : ((0 : Nat) : Int) = 0 := rfl
      rw [e0] at e
      simp only [List.map_cons, forF, fSeq, sSet, fCon, gfN, sFor, wEnum, fCons, fNil, f1, fOpd, List.set_cons_zero, List.set_cons_succ, List.getElem?_cons_zero, List.getElem?_cons_succ, bR_ok, bA_ok, bL_ok, bLL_ok, oR_some, fW, encL, enW, e, sApp, f2, oIx_tup, at_, hab, if_pos, if_true, List.map_append, List.map_nil]
  obtain ⟨a4, x7, x8, x9, e⟩ := outer (List.range (2 ^ W.length)) [] .no .no .no .no (fun i hi => List.mem_range.mp hi) (by simp; unfold big; omega)
  rw [phi_stepped]
  refine runF_rt rfl ?_
  unfold f_stepped
  rw [fSeq_nx (γ1 := [.va (planOf W P Ms), .va (stateD bits tab), .va (.str m), .no, .no, .va (.tuple (bits.map .bool)), .va (.tuple (tab.map .bool)), .no, .no, .no]) (by simp [entry, fOwn, fOpN,  fSeq, fNext, sRet, sRetN, sIf, sSet, sSetO, sAsg, sApp, sFor, forF, fVar, fOpd, fCon, f2, f1, fNil, fCons, bR, bL, bA, bLL, oR, fT, gAnd, gOr, gNot, gYes, fAnd, fOr, fNot, fIte, fTup, fLst, fCall, fCallO, fB, fM1, fSl, fiNo, fiSm, fLc, wLst, wTup, wStr, wRg1, wRg2, wZip, wEnum, gfN, gfTup, gsNil, gsCons, fLrg, fLrg3, wipeG, xSeq, xSet, xOf, xCall, xIf, xRet, xNext, xTup, xCons, xNil, xPut, xCallP, sRetX, sSetX, List.getElem?_cons_zero, List.getElem?_cons_succ, List.set_cons_zero, List.set_cons_succ, List.replicate, stateD])]
  rw [fSeq_nx (γ1 := [.va (planOf W P Ms), .va (stateD bits tab), .va (.str m), .ow [], .no, .va (.tuple (bits.map .bool)), .va (.tuple (tab.map .bool)), .no, .no, .no]) (by simp [fOwn, fOpN,  fSeq, fNext, sRet, sRetN, sIf, sSet, sSetO, sAsg, sApp, sFor, forF, fVar, fOpd, fCon, f2, f1, fNil, fCons, bR, bL, bA, bLL, oR, fT, gAnd, gOr, gNot, gYes, fAnd, fOr, fNot, fIte, fTup, fLst, fCall, fCallO, fB, fM1, fSl, fiNo, fiSm, fLc, wLst, wTup, wStr, wRg1, wRg2, wZip, wEnum, gfN, gfTup, gsNil, gsCons, fLrg, fLrg3, wipeG, xSeq, xSet, xOf, xCall, xIf, xRet, xNext, xTup, xCons, xNil, xPut, xCallP, sRetX, sSetX, List.getElem?_cons_zero, List.getElem?_cons_succ, List.set_cons_zero, List.set_cons_succ])]
  rw [fSeq_nx (γ1 := [.va (planOf W P Ms), .va (stateD bits tab), .va (.str m), .ow ((rowsT W P m bits tab).map .bool), a4, .va (.tuple (bits.map .bool)), .va (.tuple (tab.map .bool)), x7, x8, x9]) ?_]
  · simp [fOwn, fOpN,  fSeq, fNext, sRet, sRetN, sIf, sSet, sSetO, sAsg, sApp, sFor, forF, fVar, fOpd, fCon, f2, f1, fNil, fCons, bR, bL, bA, bLL, oR, fT, gAnd, gOr, gNot, gYes, fAnd, fOr, fNot, fIte, fTup, fLst, fCall, fCallO, fB, fM1, fSl, fiNo, fiSm, fLc, wLst, wTup, wStr, wRg1, wRg2, wZip, wEnum, gfN, gfTup, gsNil, gsCons, fLrg, fLrg3, wipeG, xSeq, xSet, xOf, xCall, xIf, xRet, xNext, xTup, xCons, xNil, xPut, xCallP, sRetX, sSetX, List.getElem?_cons_zero, List.getElem?_cons_succ, List.set_cons_zero, List.set_cons_succ, hk, oTuple, stateD]
  · have hr : rgOk 0 ((2 ^ W.length : Nat) : Int) = true := rg_big (by omega)
    have hd := rg_0 (2 ^ W.length)
    simp only [List.map_nil, List.nil_append] at e
    unfold rowsT
    simp only [sFor, wRg1, fCons, fB, fOpd, fNil, List.getElem?_cons_zero, List.getElem?_cons_succ, bA_ok, bL_ok, bLL_ok, oLen_tup, List.length_map, ht, hr, hd, oR_some, if_true, if_pos]
    exact e
end K08

namespace K08
open PySem PySem.Spec PyProof.Rows L2 Py
/-! ### the law's rows grow at their end -/
def lastB (l : List Bool) : Bool := l.getLast?.getD false
theorem lastB_app (l : List Bool) (v : Bool) : lastB (l ++ [v]) = v := by unfold lastB; simp
def keptT (r : List Str) : Sta → Bool
  | .bf q => lastB (meansT r q)
  | q => lastB (meansT r q)
theorem bf_rows (rows : List Bool) (v : Bool) : (([false] ++ (rows ++ [v])).take (rows.length + 1)) = ([false] ++ rows).take rows.length ++ [lastB rows] := by
  rcases List.eq_nil_or_concat rows with rfl | ⟨l, b, rfl⟩
  · rfl
  · rw [List.concat_eq_append, lastB_app]
    have e1 : ([false] ++ (l ++ [b] ++ [v])).take ((l ++ [b]).length + 1) = [false] ++ (l ++ [b]) := by
      rw [show ([false] ++ (l ++ [b] ++ [v])) = ([false] ++ (l ++ [b])) ++ [v] by simp]
      rw [List.take_append_of_le_length (by simp), List.take_of_length_le (by simp)]
    have e2 : ([false] ++ (l ++ [b])).take (l ++ [b]).length = [false] ++ l := by
      rw [show ([false] ++ (l ++ [b])) = ([false] ++ l) ++ [b] by simp]
      rw [List.take_append_of_le_length (by simp), List.take_of_length_le (by simp)]
    rw [e1, e2]
    simp
theorem until_app : ∀ (ps qs : List Bool) (p q a : Bool), ps.length = qs.length → untilT (ps ++ [p]) (qs ++ [q]) a = untilT ps qs a ++ [q || (p && (untilT ps qs a).getLast?.getD a)]
  | [], [], p, q, a, _ => by simp [untilT]
  | x :: ps, y :: qs, p, q, a, h => by
    have ih := until_app ps qs p q (y || (x && a)) (by simpa using h)
    simp only [List.cons_append, untilT, ih, List.getLast?_cons, Option.getD_some]
theorem means_app {W P : List Sta} {m : Str} {bits : List Bool} {r : List Str} (hb : ∀ p ∈ P, bits.getD (idxT P p) false = keptT r p) : ∀ q : Sta, noFut q → (∀ o ∈ allT q, isPast o → o ∈ P) → meansT (r ++ [m]) q = meansT r q ++ [isT W P m bits 0 q] := by
  intro q
  induction q with
  | mark x => intro _ _; simp [meansT, isT]
  | yes => intro _ _; simp [meansT, isT]
  | nt s ih => intro hn hp; simp [meansT, isT, ih hn fun o ho => hp o (by simp [allT, ho])]
  | an s t ih ih' =>
    intro hn hp
    have e1 := ih hn.1 fun o ho => hp o (by simp [allT, ho])
    have e2 := ih' hn.2 fun o ho => hp o (by simp [allT, ho])
    simp only [meansT, isT, e1, e2]
    rw [List.zip_append (by rw [meansT_len, meansT_len])]
    simp
  | or s t ih ih' =>
    intro hn hp
    have e1 := ih hn.1 fun o ho => hp o (by simp [allT, ho])
    have e2 := ih' hn.2 fun o ho => hp o (by simp [allT, ho])
    simp only [meansT, isT, e1, e2]
    rw [List.zip_append (by rw [meansT_len, meansT_len])]
    simp
  | nx s ih => intro hn; exact hn.elim
  | wi k s ih => intro hn; exact hn.elim
  | un s t ih ih' => intro hn; exact hn.elim
  | bf s ih =>
    intro hn hp
    have e1 := ih hn fun o ho => hp o (by simp [allT, ho])
    have hk := hb (.bf s) (hp _ (by simp [allT]) trivial)
    have hl := meansT_len r s
    simp only [meansT, isT, e1, hk, keptT, List.length_append, List.length_cons, List.length_nil]
    have := bf_rows (meansT r s) (isT W P m bits 0 s)
    rw [hl] at this
    exact this
  | si s t ih ih' =>
    intro hn hp
    have e1 := ih hn.1 fun o ho => hp o (by simp [allT, ho])
    have e2 := ih' hn.2 fun o ho => hp o (by simp [allT, ho])
    have hk := hb (.si s t) (hp _ (by simp [allT]) trivial)
    simp only [meansT, isT, e1, e2, hk, keptT]
    exact until_app _ _ _ _ _ (by rw [meansT_len, meansT_len])
theorem noFut_all : ∀ {s : Sta}, noFut s → ∀ o ∈ allT s, noFut o := by
  intro s
  induction s with
  | mark m => intro h o ho; simp [allT] at ho; subst ho; exact h
  | yes => intro h o ho; simp [allT] at ho; subst ho; exact h
  | nt s ih => intro h o ho; rcases List.mem_cons.mp ho with rfl | q; exact h; exact ih h o q
  | bf s ih => intro h o ho; rcases List.mem_cons.mp ho with rfl | q; exact h; exact ih h o q
  | nx s ih => intro h; exact h.elim
  | wi k s ih => intro h; exact h.elim
  | un s t ih ih' => intro h; exact h.elim
  | an s t ih ih' => intro h o ho; rcases List.mem_cons.mp ho with rfl | q; exact h; rcases List.mem_append.mp q with q | q; exact ih h.1 o q; exact ih' h.2 o q
  | or s t ih ih' => intro h o ho; rcases List.mem_cons.mp ho with rfl | q; exact h; rcases List.mem_append.mp q with q | q; exact ih h.1 o q; exact ih' h.2 o q
  | si s t ih ih' => intro h o ho; rcases List.mem_cons.mp ho with rfl | q; exact h; rcases List.mem_append.mp q with q | q; exact ih h.1 o q; exact ih' h.2 o q
theorem noFut_unm : ∀ {s : Sta}, noFut s → unm s := by
  intro s
  induction s with
  | mark m => intro h; trivial
  | yes => intro h; trivial
  | nt s ih => intro h; exact ih h
  | bf s ih => intro h; exact h
  | nx s ih => intro h; exact h.elim
  | wi k s ih => intro h; exact h.elim
  | un s t ih ih' => intro h; exact h.elim
  | an s t ih ih' => intro h; exact ⟨ih h.1, ih' h.2⟩
  | or s t ih ih' => intro h; exact ⟨ih h.1, ih' h.2⟩
  | si s t ih ih' => intro h; exact h
theorem past_noFut : ∀ {s : Sta}, unm s → ∀ o ∈ allT s, isPast o → noFut o := by
  intro s
  induction s with
  | mark m => intro h o ho hp; simp [allT] at ho; subst ho; exact hp.elim
  | yes => intro h o ho hp; simp [allT] at ho; subst ho; exact hp.elim
  | nt s ih => intro h o ho hp; rcases List.mem_cons.mp ho with rfl | q; exact hp.elim; exact ih h o q hp
  | nx s ih => intro h o ho hp; rcases List.mem_cons.mp ho with rfl | q; exact hp.elim; exact ih h o q hp
  | wi k s ih => intro h o ho hp; rcases List.mem_cons.mp ho with rfl | q; exact hp.elim; exact ih h o q hp
  | bf s ih => intro h o ho hp; exact noFut_all (s := .bf s) h o ho
  | an s t ih ih' => intro h o ho hp; rcases List.mem_cons.mp ho with rfl | q; exact hp.elim; rcases List.mem_append.mp q with q | q; exact ih h.1 o q hp; exact ih' h.2 o q hp
  | or s t ih ih' => intro h o ho hp; rcases List.mem_cons.mp ho with rfl | q; exact hp.elim; rcases List.mem_append.mp q with q | q; exact ih h.1 o q hp; exact ih' h.2 o q hp
  | un s t ih ih' => intro h o ho hp; rcases List.mem_cons.mp ho with rfl | q; exact hp.elim; rcases List.mem_append.mp q with q | q; exact ih h.1 o q hp; exact ih' h.2 o q hp
  | si s t ih ih' => intro h o ho hp; exact noFut_all (s := .si s t) h o ho
theorem wished_noFut : ∀ {s : Sta}, noFut s → wishedT s = [] := by
  intro s
  induction s with
  | mark m => intro h; rfl
  | yes => intro h; rfl
  | nt s ih => intro h; exact ih h
  | bf s ih => intro h; exact ih h
  | nx s ih => intro h; exact h.elim
  | wi k s ih => intro h; exact h.elim
  | un s t ih ih' => intro h; exact h.elim
  | an s t ih ih' => intro h; simp [wishedT, ih h.1, ih' h.2]
  | or s t ih ih' => intro h; simp [wishedT, ih h.1, ih' h.2]
  | si s t ih ih' => intro h; simp [wishedT, ih h.1, ih' h.2]
theorem allT_self (s : Sta) : s ∈ allT s := by cases s <;> simp [allT]
theorem allT_trans : ∀ {s o p : Sta}, o ∈ allT s → p ∈ allT o → p ∈ allT s := by
  intro s
  induction s with
  | mark m => intro o p ho hp; simp [allT] at ho; subst ho; exact hp
  | yes => intro o p ho hp; simp [allT] at ho; subst ho; exact hp
  | nt s ih => intro o p ho hp; rcases List.mem_cons.mp ho with rfl | q; exact hp; exact List.mem_cons_of_mem _ (ih q hp)
  | nx s ih => intro o p ho hp; rcases List.mem_cons.mp ho with rfl | q; exact hp; exact List.mem_cons_of_mem _ (ih q hp)
  | wi k s ih => intro o p ho hp; rcases List.mem_cons.mp ho with rfl | q; exact hp; exact List.mem_cons_of_mem _ (ih q hp)
  | bf s ih => intro o p ho hp; rcases List.mem_cons.mp ho with rfl | q; exact hp; exact List.mem_cons_of_mem _ (ih q hp)
  | an s t ih ih' => intro o p ho hp; rcases List.mem_cons.mp ho with rfl | q; exact hp; rcases List.mem_append.mp q with q | q; exact List.mem_cons_of_mem _ (List.mem_append_left _ (ih q hp)); exact List.mem_cons_of_mem _ (List.mem_append_right _ (ih' q hp))
  | or s t ih ih' => intro o p ho hp; rcases List.mem_cons.mp ho with rfl | q; exact hp; rcases List.mem_append.mp q with q | q; exact List.mem_cons_of_mem _ (List.mem_append_left _ (ih q hp)); exact List.mem_cons_of_mem _ (List.mem_append_right _ (ih' q hp))
  | un s t ih ih' => intro o p ho hp; rcases List.mem_cons.mp ho with rfl | q; exact hp; rcases List.mem_append.mp q with q | q; exact List.mem_cons_of_mem _ (List.mem_append_left _ (ih q hp)); exact List.mem_cons_of_mem _ (List.mem_append_right _ (ih' q hp))
  | si s t ih ih' => intro o p ho hp; rcases List.mem_cons.mp ho with rfl | q; exact hp; rcases List.mem_append.mp q with q | q; exact List.mem_cons_of_mem _ (List.mem_append_left _ (ih q hp)); exact List.mem_cons_of_mem _ (List.mem_append_right _ (ih' q hp))
/-- the wishes by the parts: who makes which -/
theorem wished_more : ∀ {s o : Sta}, o ∈ wishedT s → ∃ p ∈ allT s, o ∈ moreT p := by
  intro s
  induction s with
  | mark m => intro o ho; simp [wishedT] at ho
  | yes => intro o ho; simp [wishedT] at ho
  | nt s ih => intro o ho; obtain ⟨p, h1, h2⟩ := ih ho; exact ⟨p, by simp [allT, h1], h2⟩
  | bf s ih => intro o ho; obtain ⟨p, h1, h2⟩ := ih ho; exact ⟨p, by simp [allT, h1], h2⟩
  | nx s ih => intro o ho; simp [wishedT] at ho; subst ho; exact ⟨.nx o, by simp [allT], by simp [moreT]⟩
  | wi k s ih =>
    intro o ho
    rcases List.mem_append.mp ho with q | q
    · obtain ⟨p, h1, h2⟩ := ih q; exact ⟨p, by simp [allT, h1], h2⟩
    · cases k with
      | zero => cases q
      | succ k => simp at q; subst q; exact ⟨.wi (k + 1) s, by simp [allT], by simp [moreT]⟩
  | an s t ih ih' => intro o ho; rcases List.mem_append.mp ho with q | q; (obtain ⟨p, h1, h2⟩ := ih q; exact ⟨p, by simp [allT, h1], h2⟩); (obtain ⟨p, h1, h2⟩ := ih' q; exact ⟨p, by simp [allT, h1], h2⟩)
  | or s t ih ih' => intro o ho; rcases List.mem_append.mp ho with q | q; (obtain ⟨p, h1, h2⟩ := ih q; exact ⟨p, by simp [allT, h1], h2⟩); (obtain ⟨p, h1, h2⟩ := ih' q; exact ⟨p, by simp [allT, h1], h2⟩)
  | si s t ih ih' => intro o ho; rcases List.mem_append.mp ho with q | q; (obtain ⟨p, h1, h2⟩ := ih q; exact ⟨p, by simp [allT, h1], h2⟩); (obtain ⟨p, h1, h2⟩ := ih' q; exact ⟨p, by simp [allT, h1], h2⟩)
  | un s t ih ih' =>
    intro o ho
    rcases List.mem_append.mp ho with q | q
    · rcases List.mem_append.mp q with q | q
      · obtain ⟨p, h1, h2⟩ := ih q; exact ⟨p, by simp [allT, h1], h2⟩
      · obtain ⟨p, h1, h2⟩ := ih' q; exact ⟨p, by simp [allT, h1], h2⟩
    · simp at q; subst q; exact ⟨.un s t, by simp [allT], by simp [moreT]⟩
/-- the wishes that s's parts make are closed -/
theorem more_closed {s p w o : Sta} (hp : p ∈ allT s) (hw : w ∈ moreT p) (ho : o ∈ wishedT w) : ∃ p ∈ allT s, o ∈ moreT p := by
  cases p with
  | nx a =>
    simp [moreT] at hw
    subst hw
    obtain ⟨q, h1, h2⟩ := wished_more ho
    exact ⟨q, allT_trans hp (by simp [allT, h1]), h2⟩
  | un a b =>
    simp [moreT] at hw
    subst hw
    obtain ⟨q, h1, h2⟩ := wished_more ho
    exact ⟨q, allT_trans hp h1, h2⟩
  | wi k a =>
    simp [moreT] at hw
    obtain ⟨j, hj, rfl⟩ := hw
    rcases List.mem_append.mp ho with q | q
    · obtain ⟨z, h1, h2⟩ := wished_more q
      exact ⟨z, allT_trans hp (by simp [allT, h1]), h2⟩
    · cases j with
      | zero => cases q
      | succ j => simp at q; subst q; exact ⟨_, hp, by simp [moreT]; omega⟩
  | _ => simp [moreT] at hw
theorem mem_foldW : ∀ {l found : List Sta} {x : Sta}, x ∈ l.foldl stepW found ↔ x ∈ found ∨ ∃ p ∈ l, x ∈ moreT p
  | [], found, x => by simp
  | s :: l, found, x => by
    rw [List.foldl_cons, mem_foldW]
    unfold stepW
    simp only [List.mem_append, List.mem_filter, Bool.not_eq_true', decide_eq_false_iff_not, List.mem_cons, exists_eq_or_imp]
    constructor
    · rintro ((h | h) | h)
      · exact .inl h
      · exact .inr (.inl h.1)
      · exact .inr (.inr h)
    · rintro (h | h | h)
      · exact .inl (.inl h)
      · by_cases hf : x ∈ found
        · exact .inl (.inl hf)
        · exact .inl (.inr ⟨h, hf⟩)
      · exact .inr h
theorem mem_wishesT {s x : Sta} : x ∈ wishesT s ↔ x = s ∨ ∃ p ∈ allT s, x ∈ moreT p := by unfold wishesT; rw [mem_foldW]; simp
/-- the law's wishes are closed under the program's -/
theorem wishesT_closed {s w o : Sta} (hw : w ∈ wishesT s) (ho : o ∈ wishedT w) : o ∈ wishesT s := by
  rcases mem_wishesT.mp hw with rfl | ⟨p, h1, h2⟩
  · exact mem_wishesT.mpr (.inr (wished_more ho))
  · exact mem_wishesT.mpr (.inr (more_closed h1 h2 ho))
end K08

namespace K08
open PySem PySem.Spec PyProof.Rows L2 Py
/-! ### data alike -/
structure OkD (n : Nat) (d : D) : Prop where
  lay : d.canLay0 = true
  dep : d.depth ≤ n
  self : PyData.eqv d d = true
theorem okD_alls {n : Nat} : ∀ {l : List D}, (∀ x ∈ l, OkD n x) → PyData.canLayAll0 l = true ∧ PyData.depthAll l ≤ n ∧ PyData.eqvAll l l = true
  | [], _ => by simp [PyData.canLayAll0, PyData.depthAll, PyData.eqvAll]
  | x :: l, h => by
    obtain ⟨h1, h2, h3⟩ := okD_alls (l := l) fun y hy => h y (List.mem_cons_of_mem _ hy)
    have hx := h x List.mem_cons_self
    have h4 := hx.dep
    simp only [PyData.canLayAll0, PyData.depthAll, PyData.eqvAll, hx.lay, hx.self, h1, h3, Bool.and_self, and_true, true_and]
    omega
theorem okD_list {n : Nat} {l : List D} (h : ∀ x ∈ l, OkD n x) : OkD (n + 1) (.list l) := by
  obtain ⟨h1, h2, h3⟩ := okD_alls h
  exact ⟨by simp only [PyData.canLay0]; exact h1, by simp only [PyData.depth]; omega, by simp only [PyData.eqv]; exact h3⟩
theorem okD_enc {d : Nat} {s : Sta} (f : Fine d okM s) : OkD d (enc s) := ⟨enc_lay f.mks, Nat.le_trans (enc_depth s) f.dep, by rw [enc_eqv]; simp⟩
theorem okD_str {n : Nat} {m : Str} (h : okM m) : OkD n (.str m) := ⟨by simp only [PyData.canLay0]; exact h, by simp [PyData.depth], by simp [PyData.eqv]⟩
theorem OkD.mono {n m : Nat} {d : D} (h : OkD n d) (e : n ≤ m) : OkD m d := ⟨h.lay, Nat.le_trans h.dep e, h.self⟩
theorem OkD.shaped {n : Nat} {d : D} (h : OkD n d) (e : n ≤ 64) : SeqAt.shaped d = true := by
  show (d.canLay0 && decide (d.depth ≤ 64)) = true
  have := h.dep
  rw [h.lay, Bool.true_and]
  exact decide_eq_true (by omega)
theorem OkD.eq {n : Nat} {d : D} (h : OkD n d) (e : n ≤ 64) : oEq d d = some (.bool true) := by
  unfold oEq
  rw [if_pos (.inr ⟨h.shaped e, h.shaped e⟩), h.self]
theorem OkD.ne {n : Nat} {d : D} (h : OkD n d) (e : n ≤ 64) : oNe d d = some (.bool false) := by
  unfold oNe
  rw [if_pos (.inr ⟨h.shaped e, h.shaped e⟩), h.self]
  rfl
/-! ### the statement built -/
theorem Marks.mono {p q : Str → Prop} (h : ∀ m, p m → q m) : ∀ {s : Sta}, s.Marks p → s.Marks q := by
  intro s
  induction s with
  | mark m => exact h m
  | yes => exact fun _ => trivial
  | nt s ih => exact ih
  | nx s ih => exact ih
  | wi k s ih => exact ih
  | bf s ih => exact ih
  | an s t ih ih' => exact fun a => ⟨ih a.1, ih' a.2⟩
  | or s t ih ih' => exact fun a => ⟨ih a.1, ih' a.2⟩
  | un s t ih ih' => exact fun a => ⟨ih a.1, ih' a.2⟩
  | si s t ih ih' => exact fun a => ⟨ih a.1, ih' a.2⟩
theorem Marks.at {p : Str → Prop} : ∀ {s : Sta}, s.Marks p → ∀ m, Sta.mark m ∈ allT s → p m := by
  intro s
  induction s with
  | mark m => intro h m' hm; simp [allT] at hm; subst hm; exact h
  | yes => intro _ m' hm; simp [allT] at hm
  | nt s ih => intro h m' hm; simp [allT] at hm; exact ih h m' hm
  | nx s ih => intro h m' hm; simp [allT] at hm; exact ih h m' hm
  | wi k s ih => intro h m' hm; simp [allT] at hm; exact ih h m' hm
  | bf s ih => intro h m' hm; simp [allT] at hm; exact ih h m' hm
  | an s t ih ih' => intro h m' hm; simp [allT] at hm; exact hm.elim (ih h.1 m') (ih' h.2 m')
  | or s t ih ih' => intro h m' hm; simp [allT] at hm; exact hm.elim (ih h.1 m') (ih' h.2 m')
  | un s t ih ih' => intro h m' hm; simp [allT] at hm; exact hm.elim (ih h.1 m') (ih' h.2 m')
  | si s t ih ih' => intro h m' hm; simp [allT] at hm; exact hm.elim (ih h.1 m') (ih' h.2 m')
theorem Fine.mono {d d' : Nat} {p q : Str → Prop} {s : Sta} (f : Fine d p s) (hd : d ≤ d') (h : ∀ m, p m → q m) : Fine d' q s := ⟨Nat.le_trans f.dep hd, Marks.mono h f.mks, f.ks⟩
theorem fitT_unm {most : Nat} : ∀ {s : Sta}, unm s → unm (fitT most s) := by
  intro s
  induction s with
  | mark m => intro h; exact h
  | yes => intro h; exact h
  | nt s ih => intro h; unfold fitT; split; exact h; exact ih h
  | nx s ih => intro h; unfold fitT; split; exact h; exact ih h
  | wi k s ih => intro h; unfold fitT; split; exact h; exact ih h
  | bf s ih => intro h; unfold fitT; split; exact h; exact ih (noFut_unm h)
  | an s t ih ih' => intro h; unfold fitT; split; exact h; exact ih' h.2
  | or s t ih ih' => intro h; unfold fitT; split; exact h; exact ih' h.2
  | un s t ih ih' => intro h; unfold fitT; split; exact h; exact ih' h.2
  | si s t ih ih' => intro h; unfold fitT; split; exact h; exact ih' (noFut_unm h.2)
theorem oInt1_bool (b : Bool) : oInt1 [.bool b] = some (.int (if b = true then 1 else 0)) := by cases b <;> rfl
theorem run_built {ns : List Int} {x y z : Str} {p : Str → Prop} (hp : ∀ w ∈ [x, y, z], p w) (hk : ∀ m, p m → okM m) {most : Nat} (h1 : 1 ≤ most) {n : Nat} (hn : 10 ≤ n) : ∃ s : Sta, Fine 6 p s ∧ unm s ∧ (wishesT s).length ≤ most ∧ Phi (n + 1) .l_built [nsD ns, .list [.str x, .str y, .str z], .int most] = some (.ok (enc s)) := by
  obtain ⟨n, rfl⟩ : ∃ m, n = m + 1 := ⟨n - 1, by omega⟩
  have hc : Phi (n + 1) .l_cell_at [nsD ns, .int 1] = some (.ok (.int (cellT ns 1))) := run_cell n ns 1
  have key : ∀ (b : Bool) (s : Sta) (k' : Int), Fine 6 p s → unm s → (cellT ns 1 % 8 == 5) = b → Psi (n + 1) .l_made (nsD ns) 2 [.list [.str x, .str y, .str z], .int (5 + (if b = true then 1 else 0)), .bool true] = some (enc s, k') →
      ∃ s : Sta, Fine 6 p s ∧ unm s ∧ (wishesT s).length ≤ most ∧ Phi (n + 1 + 1) .l_built [nsD ns, .list [.str x, .str y, .str z], .int most] = some (.ok (enc s)) := by
    intro b s k' hs us hb hm
    refine ⟨fitT most s, fitT_fine hs, fitT_unm us, fitT_len h1 s, ?_⟩
    have hf := run_fit (d := 6) (by omega) (n := n + 1) (by omega) h1 (hs.mono (Nat.le_refl _) hk)
    rw [phi_l_built]
    unfold runF f_l_built
    cases b <;> simp at hm <;> simp [entry, fOwn, fOpN,  fSeq, fNext, sRet, sRetN, sIf, sSet, sSetO, sAsg, sApp, sFor, forF, fVar, fOpd, fCon, f2, f1, fNil, fCons, bR, bL, bA, bLL, oR, fT, gAnd, gOr, gNot, gYes, fAnd, fOr, fNot, fIte, fTup, fLst, fCall, fCallO, fB, fM1, fSl, fiNo, fiSm, fLc, wLst, wTup, wStr, wRg1, wRg2, wZip, wEnum, gfN, gfTup, gsNil, gsCons, fLrg, fLrg3, wipeG, xSeq, xSet, xOf, xCall, xIf, xRet, xNext, xTup, xCons, xNil, xPut, xCallP, sRetX, sSetX, List.getElem?_cons_zero, List.getElem?_cons_succ, List.set_cons_zero, List.set_cons_succ, List.replicate, hc, hb, hm, hf, oInt1_bool]
  cases hb : (cellT ns 1 % 8 == 5) with
  | false =>
    obtain ⟨s, k', _, fs, _, us, es⟩ := run_made (ns := ns) hp 4 (n + 1) 2 true ⟨2, rfl⟩ (by omega)
    exact key false s k' ⟨by have := fs.dep; omega, fs.mks, fs.ks⟩ us hb es
  | true =>
    obtain ⟨s, k', _, fs, _, us, es⟩ := run_made (ns := ns) hp 5 (n + 1) 2 true ⟨2, rfl⟩ (by omega)
    exact key true s k' ⟨by have := fs.dep; omega, fs.mks, fs.ks⟩ us hb es
theorem unm_parts : ∀ {s : Sta}, unm s → ∀ o ∈ allT s, unm o := by
  intro s
  induction s with
  | mark m => intro h o ho; simp [allT] at ho; subst ho; exact h
  | yes => intro h o ho; simp [allT] at ho; subst ho; exact h
  | nt s ih => intro h o ho; rcases List.mem_cons.mp ho with rfl | q; exact h; exact ih h o q
  | nx s ih => intro h o ho; rcases List.mem_cons.mp ho with rfl | q; exact h; exact ih h o q
  | wi k s ih => intro h o ho; rcases List.mem_cons.mp ho with rfl | q; exact h; exact ih h o q
  | bf s ih => intro h o ho; exact noFut_unm (noFut_all (s := .bf s) h o ho)
  | an s t ih ih' => intro h o ho; rcases List.mem_cons.mp ho with rfl | q; exact h; rcases List.mem_append.mp q with q | q; exact ih h.1 o q; exact ih' h.2 o q
  | or s t ih ih' => intro h o ho; rcases List.mem_cons.mp ho with rfl | q; exact h; rcases List.mem_append.mp q with q | q; exact ih h.1 o q; exact ih' h.2 o q
  | un s t ih ih' => intro h o ho; rcases List.mem_cons.mp ho with rfl | q; exact h; rcases List.mem_append.mp q with q | q; exact ih h.1 o q; exact ih' h.2 o q
  | si s t ih ih' => intro h o ho; exact noFut_unm (noFut_all (s := .si s t) h o ho)
end K08

namespace K08
open PySem PySem.Spec PyProof.Rows L2 Py
/-! ### the table -/
theorem told_bit (f : Sta → Bool) : ∀ (l : List Sta) (i a j : Nat), a < 2 ^ i → (toldT f l i a).testBit j = if j < i then a.testBit j else (match l[j - i]? with | some w => f w | none => false)
  | [], i, a, j, h => by
    simp only [toldT, List.getElem?_nil]
    split
    · rfl
    · exact Nat.testBit_lt_two_pow (Nat.lt_of_lt_of_le h (Nat.pow_le_pow_right (by omega) (by omega)))
  | w :: l, i, a, j, h => by
    have ha : (if f w = true then a + 2 ^ i else a) < 2 ^ (i + 1) := by rw [Nat.pow_succ]; split <;> omega
    simp only [toldT]
    rw [told_bit f l (i + 1) _ j ha]
    by_cases h1 : j < i
    · rw [if_pos h1, if_pos (by omega)]
      split
      · rw [Nat.add_comm, Nat.testBit_two_pow_add_gt h1]
      · rfl
    · rw [if_neg h1]
      by_cases h2 : j = i
      · subst h2
        rw [if_pos (by omega), Nat.sub_self]
        have hz : a.testBit j = false := Nat.testBit_lt_two_pow h
        simp only [List.getElem?_cons_zero]
        cases hf : f w with
        | false => simpa using hz
        | true => rw [if_pos rfl, Nat.add_comm, Nat.testBit_two_pow_add_eq, hz]; rfl
      · rw [if_neg (by omega)]
        obtain ⟨t, ht⟩ : ∃ t, j - i = t + 1 := ⟨j - i - 1, by omega⟩
        have e : j - (i + 1) = t := by omega
        rw [ht, e, List.getElem?_cons_succ]
theorem hasT_bit (W : List Sta) (num : Nat) (w : Sta) : hasT W num w = num.testBit (idxT W w) := by
  unfold hasT
  have e : ((num / 2 ^ idxT W w % 2 : Nat) : Int) = (num : Int) / ((2 ^ idxT W w : Nat) : Int) % 2 := by
    rw [Int.natCast_emod, Int.natCast_ediv]
    rfl
  rw [← e, Nat.testBit_eq_decide_div_mod_eq]
  by_cases h : num / 2 ^ idxT W w % 2 = 1
  · rw [h]; rfl
  · have h' : (((num / 2 ^ idxT W w % 2 : Nat) : Int) == 1) = false := beq_eq_false_iff_ne.mpr (by omega)
    rw [h', decide_eq_false h]
theorem has_told {W : List Sta} (f : Sta → Bool) {w : Sta} (h : w ∈ W) : hasT W (toldT f W 0 0) w = f w := by
  rw [hasT_bit, told_bit f W 0 0 _ (by decide), if_neg (by omega), Nat.sub_zero, idxT_at h]
/-- the number of the wishes that hold at moment j -/
def codeT (W : List Sta) (r : List Str) (j : Nat) : Nat := toldT (fun w => (meansT r w).getD j false) W 0 0
theorem codeT_lt (W : List Sta) (r : List Str) (j : Nat) : codeT W r j < 2 ^ W.length := by
  have := toldT_lt (fun w => (meansT r w).getD j false) W 0 0 (by decide)
  rw [Nat.zero_add] at this
  exact this
theorem told_false (f : Sta → Bool) : ∀ (l : List Sta) (i a : Nat), (∀ w ∈ l, f w = false) → toldT f l i a = a
  | [], _, _, _ => rfl
  | w :: l, i, a, h => by
    unfold toldT
    rw [h w List.mem_cons_self, if_neg (by decide)]
    exact told_false f l _ _ fun x hx => h x (List.mem_cons_of_mem _ hx)
theorem told_congr {f g : Sta → Bool} : ∀ (l : List Sta) (i a : Nat), (∀ w ∈ l, f w = g w) → toldT f l i a = toldT g l i a
  | [], _, _, _ => rfl
  | w :: l, i, a, h => by
    unfold toldT
    rw [h w List.mem_cons_self]
    exact told_congr l _ _ fun x hx => h x (List.mem_cons_of_mem _ hx)
theorem code_end (W : List Sta) (r : List Str) : codeT W r r.length = 0 := by
  unfold codeT
  refine told_false _ W 0 0 fun w _ => ?_
  rw [List.getD_eq_getElem?_getD, List.getElem?_eq_none (by rw [meansT_len]; omega)]
  rfl
/-- of what looks not ahead: the rows of a beginning begin the rows -/
theorem noFut_pre {q : Sta} (h : noFut q) : ∀ (w r : List Str), ∃ z, meansT (r ++ w) q = meansT r q ++ z
  | [], r => ⟨[], by simp⟩
  | m :: w, r => by
    have hb : ∀ p ∈ pastsT q, ((pastsT q).map (keptT r)).getD (idxT (pastsT q) p) false = keptT r p := fun p hp => by
      rw [List.getD_eq_getElem?_getD, List.getElem?_map, idxT_at hp]
      rfl
    have e1 := means_app (W := []) (m := m) hb q h fun o ho hp => mem_pastsT.mpr ⟨ho, hp⟩
    obtain ⟨z, e2⟩ := noFut_pre h w (r ++ [m])
    refine ⟨[isT [] (pastsT q) m ((pastsT q).map (keptT r)) 0 q] ++ z, ?_⟩
    rw [show r ++ m :: w = (r ++ [m]) ++ w by simp, e2, e1, List.append_assoc]
theorem isT_num {W P : List Sta} {m : Str} {bits : List Bool} (num : Nat) : ∀ {q : Sta}, noFut q → isT W P m bits num q = isT W P m bits 0 q := by
  intro q
  induction q with
  | mark x => intro _; rfl
  | yes => intro _; rfl
  | nt s ih => intro h; simp only [isT, ih h]
  | an s t ih ih' => intro h; simp only [isT, ih h.1, ih' h.2]
  | or s t ih ih' => intro h; simp only [isT, ih h.1, ih' h.2]
  | nx s ih => intro h; exact h.elim
  | wi k s ih => intro h; exact h.elim
  | un s t ih ih' => intro h; exact h.elim
  | bf s ih => intro h; rfl
  | si s t ih ih' => intro h; simp only [isT, ih h.1, ih' h.2]
theorem noFut_row {W P : List Sta} {bits : List Bool} {p w : List Str} {m : Str} (hb : ∀ q ∈ P, bits.getD (idxT P q) false = keptT p q) (num : Nat) {q : Sta} (h : noFut q) (hp : ∀ o ∈ allT q, isPast o → o ∈ P) :
    isT W P m bits num q = (meansT (p ++ m :: w) q).getD p.length false := by
  have e1 := means_app (W := W) (m := m) hb q h hp
  obtain ⟨z, e2⟩ := noFut_pre h w (p ++ [m])
  rw [isT_num num h, show p ++ m :: w = (p ++ [m]) ++ w by simp, e2, e1, List.append_assoc, List.getD_eq_getElem?_getD, List.getElem?_append_right (by rw [meansT_len]; omega), meansT_len, Nat.sub_self]
  rfl
/-- until, from the front -/
def backU : List Bool → List Bool → List Bool
  | p :: ps, q :: qs => (q || (p && (backU ps qs).headD false)) :: backU ps qs
  | _, _ => []
theorem backU_eq : ∀ (ps qs : List Bool), ps.length = qs.length → (untilT ps.reverse qs.reverse false).reverse = backU ps qs
  | [], [], _ => rfl
  | p :: ps, q :: qs, h => by
    have hl : ps.length = qs.length := by simpa using h
    have ih := backU_eq ps qs hl
    rw [List.reverse_cons, List.reverse_cons, until_app _ _ _ _ _ (by simpa using hl)]
    rw [List.reverse_append, ih]
    have e : (untilT ps.reverse qs.reverse false).getLast?.getD false = (backU ps qs).headD false := by
      rw [← ih, ← List.head?_reverse]
      simp [List.headD_eq_head?_getD]
    rw [e]
    rfl
theorem backU_at : ∀ (ps qs : List Bool) (i : Nat), ps.length = qs.length → i < ps.length → (backU ps qs).getD i false = (qs.getD i false || (ps.getD i false && (backU ps qs).getD (i + 1) false))
  | [], _, _, _, h => by simp at h
  | p :: ps, [], _, h, _ => by simp at h
  | p :: ps, q :: qs, 0, h, _ => by
    unfold backU
    simp only [List.getD_cons_zero, List.getD_cons_succ]
    cases backU ps qs <;> rfl
  | p :: ps, q :: qs, i + 1, h, hi => by
    have := backU_at ps qs i (by simpa using h) (by simpa using hi)
    unfold backU
    simp only [List.getD_cons_succ]
    exact this
theorem getD_of {l : List Bool} {i : Nat} (h : i < l.length) : l.getD i false = l[i] := by rw [List.getD_eq_getElem?_getD, List.getElem?_eq_getElem h]; rfl
theorem any_drop (l : List Bool) (i k : Nat) (h : i < l.length) : ((l.drop i).take (k + 1)).any id = (l.getD i false || ((l.drop (i + 1)).take k).any id) := by
  rw [List.drop_eq_getElem_cons h, List.take_succ_cons, List.any_cons, getD_of h]
  rfl
/-- what is so at a moment, by the wishes of the next one -/
theorem row_step {W P : List Sta} {bits : List Bool} {p w : List Str} {m : Str} (hb : ∀ q ∈ P, bits.getD (idxT P q) false = keptT p q) : ∀ q : Sta, unm q → (∀ o ∈ wishedT q, o ∈ W) → (∀ o ∈ allT q, isPast o → o ∈ P) →
    isT W P m bits (codeT W (p ++ m :: w) (p.length + 1)) q = (meansT (p ++ m :: w) q).getD p.length false := by
  have hlen : (p ++ m :: w).length = p.length + 1 + w.length := by simp; omega
  have hi : p.length < (p ++ m :: w).length := by omega
  have hm : (p ++ m :: w)[p.length] = m := by simp
  have hs : ∀ x ∈ W, hasT W (codeT W (p ++ m :: w) (p.length + 1)) x = (meansT (p ++ m :: w) x).getD (p.length + 1) false := fun x hx => has_told _ hx
  intro q
  generalize hr : p ++ m :: w = r at hlen hi hm hs ⊢
  induction q with
  | mark x => intro _ _ _; simp only [isT, meansT]; rw [getD_of (by simpa using hi), List.getElem_map, hm]
  | yes => intro _ _ _; simp only [isT, meansT]; rw [getD_of (by simpa using hi), List.getElem_map]
  | nt s ih =>
    intro u hw hp
    have e := ih u hw fun o ho => hp o (by simp [allT, ho])
    have hl : p.length < (meansT r s).length := by rw [meansT_len]; exact hi
    simp only [isT, meansT, e]
    rw [getD_of hl, getD_of (by simpa using hl), List.getElem_map]
  | an s t ih ih' =>
    intro u hw hp
    have e := ih u.1 (fun o ho => hw o (by simp [wishedT, ho])) fun o ho => hp o (by simp [allT, ho])
    have e' := ih' u.2 (fun o ho => hw o (by simp [wishedT, ho])) fun o ho => hp o (by simp [allT, ho])
    have hl : p.length < (meansT r s).length := by rw [meansT_len]; exact hi
    have hl' : p.length < (meansT r t).length := by rw [meansT_len]; exact hi
    simp only [isT, meansT, e, e']
    rw [getD_of hl, getD_of hl', getD_of (by simp; omega), List.getElem_map, List.getElem_zip]
  | or s t ih ih' =>
    intro u hw hp
    have e := ih u.1 (fun o ho => hw o (by simp [wishedT, ho])) fun o ho => hp o (by simp [allT, ho])
    have e' := ih' u.2 (fun o ho => hw o (by simp [wishedT, ho])) fun o ho => hp o (by simp [allT, ho])
    have hl : p.length < (meansT r s).length := by rw [meansT_len]; exact hi
    have hl' : p.length < (meansT r t).length := by rw [meansT_len]; exact hi
    simp only [isT, meansT, e, e']
    rw [getD_of hl, getD_of hl', getD_of (by simp; omega), List.getElem_map, List.getElem_zip]
  | nx s ih =>
    intro u hw hp
    have e := hs s (hw s (by simp [wishedT]))
    simp only [isT, meansT, e]
    rw [List.getD_eq_getElem?_getD, List.getD_eq_getElem?_getD, List.getElem?_drop]
    have hl := meansT_len r s
    by_cases h : p.length + 1 < r.length
    · rw [List.getElem?_append_left (by omega), Nat.add_comm]
    · rw [List.getElem?_append_right (by omega), List.getElem?_eq_none (by omega), show 1 + p.length - (meansT r s).length = 0 by omega]
      rfl
  | un s t ih ih' =>
    intro u hw hp
    have e := ih u.1 (fun o ho => hw o (by simp [wishedT, ho])) fun o ho => hp o (by simp [allT, ho])
    have e' := ih' u.2 (fun o ho => hw o (by simp [wishedT, ho])) fun o ho => hp o (by simp [allT, ho])
    have e2 := hs (.un s t) (hw _ (by simp [wishedT]))
    have eb := backU_eq (meansT r s) (meansT r t) (by rw [meansT_len, meansT_len])
    have ea := backU_at (meansT r s) (meansT r t) p.length (by rw [meansT_len, meansT_len]) (by rw [meansT_len]; exact hi)
    simp only [isT, e, e', e2]
    simp only [meansT] at e2 ⊢
    rw [eb, ea]
  | wi k s ih =>
    intro u hw hp
    have e := ih u (fun o ho => hw o (by simp [wishedT, ho])) fun o ho => hp o (by simp [allT, ho])
    have hl : p.length < (meansT r s).length := by rw [meansT_len]; exact hi
    have ew : ∀ k i, i < r.length → (winT (meansT r s) r.length k).getD i false = (((meansT r s).drop i).take (k + 1)).any id := fun k i h => by
      unfold winT
      rw [getD_of (by simpa using h), List.getElem_map, List.getElem_range]
    cases k with
    | zero =>
      simp only [isT, meansT, e, ew 0 _ hi]
      rw [any_drop _ _ _ hl]
      simp
    | succ k =>
      have e2 := hs (.wi k s) (hw _ (by simp [wishedT]))
      simp only [isT, meansT, e, e2, ew (k + 1) _ hi]
      rw [any_drop _ _ _ hl, Bool.or_comm]
      congr 1
      by_cases h : p.length + 1 < r.length
      · exact ew k _ h
      · rw [List.getD_eq_getElem?_getD, List.getElem?_eq_none (by simp [winT]; omega), List.drop_eq_nil_of_le (by rw [meansT_len]; omega)]
        rfl
  | bf s ih => intro u hw hp; rw [← hr]; exact noFut_row hb _ (q := .bf s) u hp
  | si s t ih ih' => intro u hw hp; rw [← hr]; exact noFut_row hb _ (q := .si s t) u hp
/-- THE TABLE: behind p, at the place of the wishes that hold next, stands whether the whole run makes s hold -/
def TabOk (W : List Sta) (s : Sta) (p : List Str) (tab : List Bool) : Prop := ∀ w : List Str, tab.getD (codeT W (p ++ w) p.length) false = (meansT (p ++ w) s).getD 0 false
theorem tab_first {W : List Sta} {s : Sta} (hd : W.head? = some s) : TabOk W s [] ((List.range (2 ^ W.length)).map fun i => ((i : Nat) : Int) % 2 == 1) := by
  intro w
  have hlt := codeT_lt W ([] ++ w) 0
  rw [List.nil_append] at hlt ⊢
  show ((List.range (2 ^ W.length)).map fun i => ((i : Nat) : Int) % 2 == 1).getD (codeT W w 0) false = _
  rw [getD_of (by simpa using hlt), List.getElem_map, List.getElem_range]
  have hm : s ∈ W := List.mem_of_head? hd
  have h0 : idxT W s = 0 := by
    unfold idxT
    cases W with
    | nil => cases hd
    | cons a l => cases hd; simp [List.findIdx_cons]
  have e := has_told (W := W) (fun x => (meansT w x).getD 0 false) hm
  unfold hasT at e
  rw [h0] at e
  rw [← e]
  show (_ == _) = (((codeT W w 0 : Nat) : Int) / ((2 ^ 0 : Nat) : Int) % 2 == 1)
  simp
theorem tab_next {W P : List Sta} {s : Sta} (uW : ∀ w ∈ W, unm w) (cw : ∀ w ∈ W, ∀ o ∈ wishedT w, o ∈ W) (cp : ∀ w ∈ W, ∀ o ∈ allT w, isPast o → o ∈ P) {p : List Str} {tab : List Bool} (m : Str) (h : TabOk W s p tab) : TabOk W s (p ++ [m]) (rowsT W P m (P.map (keptT p)) tab) := by
  intro w
  have hb : ∀ q ∈ P, (P.map (keptT p)).getD (idxT P q) false = keptT p q := fun q hq => by
    rw [List.getD_eq_getElem?_getD, List.getElem?_map, idxT_at hq]
    rfl
  have e1 : p ++ [m] ++ w = p ++ m :: w := by simp
  have e2 : (p ++ [m]).length = p.length + 1 := by simp
  rw [e1, e2]
  have hlt := codeT_lt W (p ++ m :: w) (p.length + 1)
  unfold rowsT
  rw [getD_of (by simpa using hlt), List.getElem_map, List.getElem_range]
  have et : toldT (isT W P m (P.map (keptT p)) (codeT W (p ++ m :: w) (p.length + 1))) W 0 0 = codeT W (p ++ m :: w) p.length := told_congr W 0 0 fun q hq => row_step hb q (uW q hq) (cw q hq) (cp q hq)
  rw [et]
  exact h (m :: w)
end K08

namespace K08
open PySem PySem.Spec PyProof.Rows L2 Py
/-! ### how many states there can be: the pasts -/
def deepP : Sta → Bool
  | .bf s => decide (3 ≤ s.depth + 1) | .si s t => decide (3 ≤ max s.depth t.depth + 1)
  | _ => false
theorem deepP_of {s : Sta} (h : isPast s) (h2 : ¬ s.depth ≤ 2) : deepP s = true := by
  cases s with
  | bf s => simp [Sta.depth] at h2; simp [deepP]; omega
  | si s t => simp [Sta.depth] at h2; simp [deepP]; omega
  | _ => exact h.elim
def cnt (s : Sta) : Nat := ((allT s).filter deepP).length
theorem cnt_nt (s : Sta) : cnt (.nt s) = cnt s := by unfold cnt; rw [allT, List.filter_cons, if_neg (by simp [deepP])]
theorem cnt_nx (s : Sta) : cnt (.nx s) = cnt s := by unfold cnt; rw [allT, List.filter_cons, if_neg (by simp [deepP])]
theorem cnt_wi (k : Nat) (s : Sta) : cnt (.wi k s) = cnt s := by unfold cnt; rw [allT, List.filter_cons, if_neg (by simp [deepP])]
theorem cnt_an (s t : Sta) : cnt (.an s t) = cnt s + cnt t := by unfold cnt; rw [allT, List.filter_cons, if_neg (by simp [deepP]), List.filter_append, List.length_append]
theorem cnt_or (s t : Sta) : cnt (.or s t) = cnt s + cnt t := by unfold cnt; rw [allT, List.filter_cons, if_neg (by simp [deepP]), List.filter_append, List.length_append]
theorem cnt_un (s t : Sta) : cnt (.un s t) = cnt s + cnt t := by unfold cnt; rw [allT, List.filter_cons, if_neg (by simp [deepP]), List.filter_append, List.length_append]
theorem cnt_bf (s : Sta) : cnt (.bf s) = cnt s + (if 3 ≤ s.depth + 1 then 1 else 0) := by
  unfold cnt
  rw [allT, List.filter_cons]
  by_cases h : 3 ≤ s.depth + 1
  · rw [if_pos (by simp [deepP]; omega), if_pos h, List.length_cons]
  · rw [if_neg (by simp [deepP]; omega), if_neg h]; rfl
theorem cnt_si (s t : Sta) : cnt (.si s t) = cnt s + cnt t + (if 3 ≤ max s.depth t.depth + 1 then 1 else 0) := by
  unfold cnt
  rw [allT, List.filter_cons]
  by_cases h : 3 ≤ max s.depth t.depth + 1
  · rw [if_pos (by simp [deepP]; omega), if_pos h, List.length_cons, List.filter_append, List.length_append]
  · rw [if_neg (by simp [deepP]; omega), if_neg h, List.filter_append, List.length_append]; rfl
theorem cnt_mark (m : Str) : cnt (.mark m) = 0 := by unfold cnt; simp [allT, deepP]
theorem cnt_yes : cnt .yes = 0 := by unfold cnt; simp [allT, deepP]
theorem pw2 (d : Nat) : 1 ≤ 2 ^ d ∧ 2 ^ (d + 1) = 2 * 2 ^ d := ⟨Nat.one_le_two_pow, by rw [Nat.pow_succ]; omega⟩
theorem cnt_le : ∀ (s : Sta) (d : Nat), s.depth ≤ d + 2 → cnt s + 1 ≤ 2 ^ d := by
  intro s
  induction s with
  | mark m => intro d _; rw [cnt_mark]; have := pw2 d; omega
  | yes => intro d _; rw [cnt_yes]; have := pw2 d; omega
  | nt s ih => intro d h; simp [Sta.depth] at h; rw [cnt_nt]; exact ih d (by omega)
  | nx s ih => intro d h; simp [Sta.depth] at h; rw [cnt_nx]; exact ih d (by omega)
  | wi k s ih => intro d h; simp [Sta.depth] at h; rw [cnt_wi]; exact ih d (by omega)
  | bf s ih =>
    intro d h
    simp [Sta.depth] at h
    rw [cnt_bf]
    cases d with
    | zero => have := ih 0 (by omega); rw [if_neg (by omega)]; omega
    | succ d => have := ih d (by omega); have := pw2 d; split <;> omega
  | an s t ih ih' =>
    intro d h
    simp [Sta.depth] at h
    rw [cnt_an]
    cases d with
    | zero => have := ih 0 (by omega); have := ih' 0 (by omega); omega
    | succ d => have := ih d (by omega); have := ih' d (by omega); have := pw2 d; omega
  | or s t ih ih' =>
    intro d h
    simp [Sta.depth] at h
    rw [cnt_or]
    cases d with
    | zero => have := ih 0 (by omega); have := ih' 0 (by omega); omega
    | succ d => have := ih d (by omega); have := ih' d (by omega); have := pw2 d; omega
  | un s t ih ih' =>
    intro d h
    simp [Sta.depth] at h
    rw [cnt_un]
    cases d with
    | zero => have := ih 0 (by omega); have := ih' 0 (by omega); omega
    | succ d => have := ih d (by omega); have := ih' d (by omega); have := pw2 d; omega
  | si s t ih ih' =>
    intro d h
    simp [Sta.depth] at h
    rw [cnt_si]
    cases d with
    | zero => have := ih 0 (by omega); have := ih' 0 (by omega); rw [if_neg (by omega)]; omega
    | succ d => have := ih d (by omega); have := ih' d (by omega); have := pw2 d; split <;> omega
theorem cnt_np : ∀ (s : Sta) (d : Nat), ¬ isPast s → s.depth ≤ d + 3 → cnt s + 2 ≤ 2 ^ (d + 1) := by
  intro s d hp h
  have p := pw2 d
  cases s with
  | mark m => rw [cnt_mark]; omega
  | yes => rw [cnt_yes]; omega
  | nt s => simp [Sta.depth] at h; rw [cnt_nt]; have := cnt_le s d (by omega); omega
  | nx s => simp [Sta.depth] at h; rw [cnt_nx]; have := cnt_le s d (by omega); omega
  | wi k s => simp [Sta.depth] at h; rw [cnt_wi]; have := cnt_le s d (by omega); omega
  | an s t => simp [Sta.depth] at h; rw [cnt_an]; have := cnt_le s d (by omega); have := cnt_le t d (by omega); omega
  | or s t => simp [Sta.depth] at h; rw [cnt_or]; have := cnt_le s d (by omega); have := cnt_le t d (by omega); omega
  | un s t => simp [Sta.depth] at h; rw [cnt_un]; have := cnt_le s d (by omega); have := cnt_le t d (by omega); omega
  | bf s => exact absurd trivial hp
  | si s t => exact absurd trivial hp
theorem past_nf {s : Sta} (u : unm s) (h : isPast s) : noFut s := by
  cases s <;> first | exact u | exact h.elim
theorem big4 {s : Sta} (u : unm s) (hd : s.depth ≤ 4) : cnt s ≤ 3 ∧ (3 ≤ cnt s → noFut s) := by
  have h1 := cnt_le s 2 (by omega)
  refine ⟨by omega, fun h => past_nf u ?_⟩
  by_cases hp : isPast s
  · exact hp
  · have := cnt_np s 1 hp (by omega); omega
theorem big5 {s : Sta} (u : unm s) (hd : s.depth ≤ 5) : cnt s ≤ 7 ∧ (7 ≤ cnt s → noFut s) := by
  have h1 := cnt_le s 3 (by omega)
  refine ⟨by omega, fun h => past_nf u ?_⟩
  by_cases hp : isPast s
  · exact hp
  · have := cnt_np s 2 hp (by omega); omega
theorem big_fut {s : Sta} (u : unm s) (hd : s.depth ≤ 5) (h : 6 ≤ cnt s) : noFut s ∨ ∃ a b, s = .un a b ∧ noFut a ∧ noFut b := by
  cases s with
  | mark m => exact .inl trivial
  | yes => exact .inl trivial
  | bf s => exact .inl u
  | si s t => exact .inl u
  | nt s => simp [Sta.depth] at hd; rw [cnt_nt] at h; have := (big4 (s := s) u (by omega)).1; omega
  | nx s => simp [Sta.depth] at hd; rw [cnt_nx] at h; have := (big4 (s := s) u (by omega)).1; omega
  | wi k s => simp [Sta.depth] at hd; rw [cnt_wi] at h; have := (big4 (s := s) u (by omega)).1; omega
  | an s t =>
    simp [Sta.depth] at hd
    rw [cnt_an] at h
    have a := big4 (s := s) u.1 (by omega)
    have b := big4 (s := t) u.2 (by omega)
    exact .inl ⟨a.2 (by omega), b.2 (by omega)⟩
  | or s t =>
    simp [Sta.depth] at hd
    rw [cnt_or] at h
    have a := big4 (s := s) u.1 (by omega)
    have b := big4 (s := t) u.2 (by omega)
    exact .inl ⟨a.2 (by omega), b.2 (by omega)⟩
  | un s t =>
    simp [Sta.depth] at hd
    rw [cnt_un] at h
    have a := big4 (s := s) u.1 (by omega)
    have b := big4 (s := t) u.2 (by omega)
    exact .inr ⟨s, t, rfl, a.2 (by omega), b.2 (by omega)⟩
theorem more_nf {s : Sta} (h : noFut s) : ∀ p ∈ allT s, moreT p = [] := fun p hp => by
  have := noFut_all h p hp
  cases p <;> first | rfl | exact this.elim
theorem wishes_two {S s t : Sta} (hS : allT S = S :: (allT s ++ allT t)) (hm : ∀ o ∈ moreT S, o = S) (hs : noFut s) (ht : noFut t ∨ ∃ a b, t = .un a b ∧ noFut a ∧ noFut b) : ∃ B, ∀ w ∈ wishesT S, w = S ∨ w = B := by
  refine ⟨t, fun w hw => ?_⟩
  rcases mem_wishesT.mp hw with e | ⟨p, h1, h2⟩
  · exact .inl e
  · rw [hS] at h1
    rcases List.mem_cons.mp h1 with e | q
    · subst e; exact .inl (hm w h2)
    · rcases List.mem_append.mp q with q | q
      · rw [more_nf hs p q] at h2; cases h2
      · rcases ht with ht | ⟨a, b, e, ha, hb⟩
        · rw [more_nf ht p q] at h2; cases h2
        · subst e
          rcases List.mem_cons.mp q with e | q
          · subst e; simp [moreT] at h2; exact .inr h2
          · rcases List.mem_append.mp q with q | q
            · rw [more_nf ha p q] at h2; cases h2
            · rw [more_nf hb p q] at h2; cases h2
theorem wishes_two' {S s t : Sta} (hS : allT S = S :: (allT s ++ allT t)) (hm : ∀ o ∈ moreT S, o = S) (ht : noFut t) (hs : noFut s ∨ ∃ a b, s = .un a b ∧ noFut a ∧ noFut b) : ∃ B, ∀ w ∈ wishesT S, w = S ∨ w = B := by
  refine ⟨s, fun w hw => ?_⟩
  rcases mem_wishesT.mp hw with e | ⟨p, h1, h2⟩
  · exact .inl e
  · rw [hS] at h1
    rcases List.mem_cons.mp h1 with e | q
    · subst e; exact .inl (hm w h2)
    · rcases List.mem_append.mp q with q | q
      · rcases hs with hs | ⟨a, b, e, ha, hb⟩
        · rw [more_nf hs p q] at h2; cases h2
        · subst e
          rcases List.mem_cons.mp q with e | q
          · subst e; simp [moreT] at h2; exact .inr h2
          · rcases List.mem_append.mp q with q | q
            · rw [more_nf ha p q] at h2; cases h2
            · rw [more_nf hb p q] at h2; cases h2
      · rw [more_nf ht p q] at h2; cases h2
/-- few pasts or few wishes -/
inductive Few (S : Sta) : Prop
  | past : noFut S → cnt S ≤ 15 → Few S
  | pasts : cnt S ≤ 12 → Few S
  | wishes : cnt S ≤ 14 → (∃ B, ∀ w ∈ wishesT S, w = S ∨ w = B) → Few S
theorem few_bin {S s t : Sta} (hS : allT S = S :: (allT s ++ allT t)) (hm : ∀ o ∈ moreT S, o = S) (hc : cnt S = cnt s + cnt t) (us : unm s) (ut : unm t) (ds : s.depth ≤ 5) (dt : t.depth ≤ 5) : Few S := by
  have a := big5 us ds
  have b := big5 ut dt
  by_cases h : cnt S ≤ 12
  · exact .pasts h
  · refine .wishes (by omega) ?_
    have fs := big_fut us ds (by omega)
    have ft := big_fut ut dt (by omega)
    by_cases h7 : 7 ≤ cnt s
    · exact wishes_two hS hm (a.2 h7) ft
    · exact wishes_two' hS hm (b.2 (by omega)) fs
theorem few_of {S : Sta} (u : unm S) (hd : S.depth ≤ 6) : Few S := by
  have hc := cnt_le S 4 (by omega)
  cases S with
  | mark m => exact .past trivial (by omega)
  | yes => exact .past trivial (by omega)
  | bf s => exact .past u (by omega)
  | si s t => exact .past u (by omega)
  | nt s => simp [Sta.depth] at hd; refine .pasts ?_; rw [cnt_nt]; have := (big5 (s := s) u (by omega)).1; omega
  | nx s => simp [Sta.depth] at hd; refine .pasts ?_; rw [cnt_nx]; have := (big5 (s := s) u (by omega)).1; omega
  | wi k s => simp [Sta.depth] at hd; refine .pasts ?_; rw [cnt_wi]; have := (big5 (s := s) u (by omega)).1; omega
  | an s t => simp [Sta.depth] at hd; exact few_bin rfl (by simp [moreT]) (cnt_an s t) u.1 u.2 (by omega) (by omega)
  | or s t => simp [Sta.depth] at hd; exact few_bin rfl (by simp [moreT]) (cnt_or s t) u.1 u.2 (by omega) (by omega)
  | un s t => simp [Sta.depth] at hd; exact few_bin rfl (by simp [moreT]) (cnt_un s t) u.1 u.2 (by omega) (by omega)
/-! ### .. the lists of truths -/
def allB : Nat → List (List Bool)
  | 0 => [[]]
  | n + 1 => (allB n).flatMap fun l => [false :: l, true :: l]
def allM : Nat → List (List Bool)
  | 0 => [[]]
  | n + 1 => (allM n).flatMap fun l => [false :: false :: l, false :: true :: l, true :: true :: l]
theorem flat_len {α β : Type} (f : α → List β) (k : Nat) : ∀ l : List α, (∀ x ∈ l, (f x).length = k) → (l.flatMap f).length = l.length * k
  | [], _ => by simp
  | x :: l, h => by
    rw [List.flatMap_cons, List.length_append, h x List.mem_cons_self, flat_len f k l fun y hy => h y (List.mem_cons_of_mem _ hy), List.length_cons, Nat.succ_mul]
    omega
theorem allB_len : ∀ n, (allB n).length = 2 ^ n
  | 0 => rfl
  | n + 1 => by rw [allB, flat_len _ 2 _ (fun _ _ => rfl), allB_len n, Nat.pow_succ]
theorem allM_len : ∀ n, (allM n).length = 3 ^ n
  | 0 => rfl
  | n + 1 => by rw [allM, flat_len _ 3 _ (fun _ _ => rfl), allM_len n, Nat.pow_succ]
theorem mem_allB : ∀ (l : List Bool), l ∈ allB l.length
  | [] => by simp [allB]
  | b :: l => by
    show b :: l ∈ (allB l.length).flatMap _
    exact List.mem_flatMap.mpr ⟨l, mem_allB l, by cases b <;> simp⟩
def mono0 (l : List Bool) : Prop := ∀ i, l.getD (2 * i) false = true → l.getD (2 * i + 1) false = true
theorem mem_allM : ∀ (n : Nat) (l : List Bool), l.length = 2 * n → mono0 l → l ∈ allM n
  | 0, [], _, _ => by simp [allM]
  | n + 1, a :: b :: l, hl, hm => by
    have h1 : l ∈ allM n := mem_allM n l (by simp at hl; omega) fun i hi => by
      have := hm (i + 1)
      rw [show 2 * (i + 1) = 2 * i + 1 + 1 by omega] at this
      simpa using this hi
    have h0 := hm 0
    simp at h0
    refine List.mem_flatMap.mpr ⟨l, h1, ?_⟩
    cases a <;> cases b <;> simp_all
  | 0, _ :: _, hl, _ => by simp at hl
  | n + 1, [], hl, _ => by simp at hl
  | n + 1, [_], hl, _ => by simp at hl; omega
/-! ### .. what the shallow pasts can be -/
abbrev Qs := Nat × Nat × Bool × Bool × Bool
def seenQ (q : Qs) (l : Nat) : Bool := match l with | 0 => q.2.2.1 | 1 => q.2.2.2.1 | 2 => q.2.2.2.2 | _ => false
def stepQ (q : Qs) (l : Nat) : Qs := if 3 ≤ l then (3, 3, q.2.2.1, q.2.2.2.1, q.2.2.2.2) else (l, if l = q.1 then q.2.1 else if 3 ≤ q.1 then 3 else q.1, q.2.2.1 || l == 0, q.2.2.2.1 || l == 1, q.2.2.2.2 || l == 2)
def okQ (q : Qs) : Bool :=
  if q.1 = 4 then q.2.1 == 3 && !q.2.2.1 && !q.2.2.2.1 && !q.2.2.2.2 else if q.1 = 3 then q.2.1 == 3 else q.2.1 != q.1 && seenQ q q.1 && (q.2.1 == 3 || seenQ q q.2.1)
def bs2 : List Bool := [false, true]
def allQ : List Qs := (((List.range 5).flatMap fun a => (List.range 4).flatMap fun p => bs2.flatMap fun x => bs2.flatMap fun y => bs2.map fun z => (a, p, x, y, z))).filter okQ
theorem allQ_len : allQ.length = 33 := by decide +kernel
theorem allQ_step : ∀ q ∈ allQ, ∀ l < 4, stepQ q l ∈ allQ := by decide +kernel
theorem allQ_first : (4, 3, false, false, false) ∈ allQ := by decide +kernel
theorem q_last : ∀ q ∈ allQ, ∀ l < 4, (stepQ q l).1 = l := by decide +kernel
theorem q_si : ∀ q ∈ allQ, ∀ l < 4, ∀ a < 3, ∀ b < 3, ((l == b) || ((l == a) && (q.1 == b || (q.1 == a && q.2.1 == b)))) = ((stepQ q l).1 == b || ((stepQ q l).1 == a && (stepQ q l).2.1 == b)) := by decide +kernel
theorem q_seen : ∀ q ∈ allQ, ∀ l < 4, ∀ b < 3, ((l == b) || seenQ q b) = seenQ (stepQ q l) b := by decide +kernel
def ltr (V : List Str) (m : Str) : Nat := V.findIdx fun x => decide (x = m)
theorem ltr_le {V : List Str} (hV : V.length = 3) (m : Str) : ltr V m < 4 := by have := List.findIdx_le_length (xs := V) (p := fun x => decide (x = m)); unfold ltr; omega
theorem ltr_lt {V : List Str} (hV : V.length = 3) {m : Str} (h : m ∈ V) : ltr V m < 3 := by rw [← hV]; exact List.findIdx_lt_length_of_exists ⟨m, h, by simp⟩
theorem ltr_eq {V : List Str} (hV : V.length = 3) {m a : Str} (h : a ∈ V) : (ltr V m == ltr V a) = (m == a) := by
  by_cases e : m = a
  · subst e; simp
  · have hl : ltr V a < V.length := List.findIdx_lt_length_of_exists ⟨a, h, by simp⟩
    have g1 := List.findIdx_getElem (xs := V) (p := fun x => decide (x = a)) (w := hl)
    simp only [decide_eq_true_eq] at g1
    have ne : ltr V m ≠ ltr V a := fun q => by
      have hl2 : ltr V m < V.length := by rw [q]; exact hl
      have g2 := List.findIdx_getElem (xs := V) (p := fun x => decide (x = m)) (w := hl2)
      simp only [decide_eq_true_eq] at g2
      have e1 : V[ltr V m] = V[ltr V a] := by simp only [q]
      exact e (g2.symm.trans (e1.trans g1))
    rw [beq_eq_false_iff_ne.mpr ne, beq_eq_false_iff_ne.mpr e]
/-- what a shallow past is worth -/
def valQ (V : List Str) (q : Qs) : Sta → Bool
  | .bf (.mark a) => q.1 == ltr V a
  | .bf .yes => q.1 != 4
  | .si (.mark a) (.mark b) => q.1 == ltr V b || (q.1 == ltr V a && q.2.1 == ltr V b)
  | .si .yes (.mark b) => seenQ q (ltr V b)
  | .si _ .yes => q.1 != 4
  | _ => false
theorem shallow_step {W P : List Sta} {V : List Str} (hV : V.length = 3) {q : Qs} (hq : q ∈ allQ) (m : Str) (bits : List Bool) {p : Sta} (hp : isPast p) (hd : p.depth ≤ 2) (mp : p.Marks (· ∈ V)) (hb : bits.getD (idxT P p) false = valQ V q p) :
    keptB W P m bits p = valQ V (stepQ q (ltr V m)) p := by
  have l4 := ltr_le hV m
  have e1 := q_last q hq _ l4
  have n4 : (ltr V m != 4) = true := by simp; omega
  have two : ∀ a b : Sta, p = .si a b → a.depth ≤ 1 ∧ b.depth ≤ 1 := fun a b e => by subst e; simp [Sta.depth] at hd; omega
  have one : ∀ a : Sta, p = .bf a → a.depth ≤ 1 := fun a e => by subst e; simp [Sta.depth] at hd; omega
  have leaf : ∀ a : Sta, a.depth ≤ 1 → (∃ x, a = .mark x) ∨ a = .yes := fun a h => by
    cases a with
    | mark x => exact .inl ⟨x, rfl⟩
    | yes => exact .inr rfl
    | nt s => simp [Sta.depth] at h; have := Sta.depth_pos s; omega
    | nx s => simp [Sta.depth] at h; have := Sta.depth_pos s; omega
    | wi k s => simp [Sta.depth] at h; have := Sta.depth_pos s; omega
    | bf s => simp [Sta.depth] at h; have := Sta.depth_pos s; omega
    | an s t => simp [Sta.depth] at h; have := Sta.depth_pos s; omega
    | or s t => simp [Sta.depth] at h; have := Sta.depth_pos s; omega
    | un s t => simp [Sta.depth] at h; have := Sta.depth_pos s; omega
    | si s t => simp [Sta.depth] at h; have := Sta.depth_pos s; omega
  cases p with
  | bf s =>
    rcases leaf s (one s rfl) with ⟨x, rfl⟩ | rfl
    · have hx : x ∈ V := mp
      simp only [keptB, isT, valQ, e1, ltr_eq hV hx]
    · simp only [keptB, isT, valQ, e1, n4]
  | si s t =>
    rcases leaf t (two s t rfl).2 with ⟨b, rfl⟩ | rfl
    · have hb' : b ∈ V := mp.2
      rcases leaf s (two s _ rfl).1 with ⟨a, rfl⟩ | rfl
      · have ha' : a ∈ V := mp.1
        have z := q_si q hq _ l4 _ (ltr_lt hV ha') _ (ltr_lt hV hb')
        simp only [keptB, isT, hb, valQ]
        rw [← z, ltr_eq hV ha', ltr_eq hV hb']
      · have z := q_seen q hq _ l4 _ (ltr_lt hV hb')
        simp only [keptB, isT, hb, valQ, Bool.true_and]
        rw [← z, ltr_eq hV hb']
    · simp only [keptB, isT, Bool.true_or]
      cases s <;> simp [valQ, e1] <;> omega
  | _ => exact hp.elim
end K08

namespace K08
open PySem PySem.Spec PyProof.Rows L2 Py
/-! ### how many states there can be: the tables -/
def szT : Sta → Nat
  | .mark _ => 1 | .yes => 1
  | .nt s => szT s + 1 | .nx s => szT s + 1 | .bf s => szT s + 1
  | .wi k s => szT s + k + 1
  | .an s t => szT s + szT t + 1 | .or s t => szT s + szT t + 1 | .un s t => szT s + szT t + 1 | .si s t => szT s + szT t + 1
theorem szT_all : ∀ {s o : Sta}, o ∈ allT s → szT o < szT s ∨ o = s := by
  intro s
  induction s with
  | mark m => intro o h; simp [allT] at h; exact .inr h
  | yes => intro o h; simp [allT] at h; exact .inr h
  | nt s ih => intro o h; rcases List.mem_cons.mp h with e | q; exact .inr e; (rcases ih q with z | z; exact .inl (by simp [szT]; omega); exact .inl (by subst z; simp [szT]))
  | nx s ih => intro o h; rcases List.mem_cons.mp h with e | q; exact .inr e; (rcases ih q with z | z; exact .inl (by simp [szT]; omega); exact .inl (by subst z; simp [szT]))
  | bf s ih => intro o h; rcases List.mem_cons.mp h with e | q; exact .inr e; (rcases ih q with z | z; exact .inl (by simp [szT]; omega); exact .inl (by subst z; simp [szT]))
  | wi k s ih => intro o h; rcases List.mem_cons.mp h with e | q; exact .inr e; (rcases ih q with z | z; exact .inl (by simp [szT]; omega); exact .inl (by subst z; simp [szT]; omega))
  | an s t ih ih' => intro o h; rcases List.mem_cons.mp h with e | q; exact .inr e; rcases List.mem_append.mp q with q | q; (rcases ih q with z | z; exact .inl (by simp [szT]; omega); exact .inl (by subst z; simp [szT]; omega)); (rcases ih' q with z | z; exact .inl (by simp [szT]; omega); exact .inl (by subst z; simp [szT]; omega))
  | or s t ih ih' => intro o h; rcases List.mem_cons.mp h with e | q; exact .inr e; rcases List.mem_append.mp q with q | q; (rcases ih q with z | z; exact .inl (by simp [szT]; omega); exact .inl (by subst z; simp [szT]; omega)); (rcases ih' q with z | z; exact .inl (by simp [szT]; omega); exact .inl (by subst z; simp [szT]; omega))
  | un s t ih ih' => intro o h; rcases List.mem_cons.mp h with e | q; exact .inr e; rcases List.mem_append.mp q with q | q; (rcases ih q with z | z; exact .inl (by simp [szT]; omega); exact .inl (by subst z; simp [szT]; omega)); (rcases ih' q with z | z; exact .inl (by simp [szT]; omega); exact .inl (by subst z; simp [szT]; omega))
  | si s t ih ih' => intro o h; rcases List.mem_cons.mp h with e | q; exact .inr e; rcases List.mem_append.mp q with q | q; (rcases ih q with z | z; exact .inl (by simp [szT]; omega); exact .inl (by subst z; simp [szT]; omega)); (rcases ih' q with z | z; exact .inl (by simp [szT]; omega); exact .inl (by subst z; simp [szT]; omega))
theorem szT_more {p o : Sta} (h : o ∈ moreT p) : szT o < szT p ∨ o = p := by
  cases p with
  | nx s => simp [moreT] at h; subst h; exact .inl (by simp [szT])
  | un s t => simp [moreT] at h; subst h; exact .inr rfl
  | wi k s => simp [moreT] at h; obtain ⟨j, hj, rfl⟩ := h; exact .inl (by simp [szT]; omega)
  | _ => simp [moreT] at h
theorem szT_wished {s o : Sta} (h : o ∈ wishedT s) : szT o < szT s ∨ o = s := by
  obtain ⟨p, h1, h2⟩ := wished_more h
  rcases szT_all h1 with a | a <;> rcases szT_more h2 with b | b
  · exact .inl (by omega)
  · subst b; exact .inl a
  · subst a; exact .inl b
  · exact .inr (b.trans a)
theorem wish_le {S w : Sta} (h : w ∈ wishesT S) : szT w < szT S ∨ w = S := by
  rcases mem_wishesT.mp h with e | ⟨p, h1, h2⟩
  · exact .inr e
  · rcases szT_all h1 with a | a <;> rcases szT_more h2 with b | b
    · exact .inl (by omega)
    · subst b; exact .inl a
    · subst a; exact .inl b
    · exact .inr (b.trans a)
theorem bit0 (i : Nat) {j : Nat} (h : 1 ≤ j) : (2 * i).testBit j = (2 * i + 1).testBit j := by
  obtain ⟨j, rfl⟩ : ∃ k, j = k + 1 := ⟨j - 1, by omega⟩
  rw [Nat.testBit_succ, Nat.testBit_succ, show 2 * i / 2 = i by omega, show (2 * i + 1) / 2 = i by omega]
theorem isT_bit0 {W P : List Sta} {m : Str} {bits : List Bool} {S : Sta} (i : Nat) (hW : ∀ o ∈ W, o ≠ S → 1 ≤ idxT W o) : ∀ q : Sta, (∀ o ∈ wishedT q, o ∈ W ∧ o ≠ S) → isT W P m bits (2 * i) q = isT W P m bits (2 * i + 1) q := by
  have hb : ∀ o, o ∈ W ∧ o ≠ S → hasT W (2 * i) o = hasT W (2 * i + 1) o := fun o h => by rw [hasT_bit, hasT_bit]; exact bit0 i (hW o h.1 h.2)
  intro q
  induction q with
  | mark m => intro _; rfl
  | yes => intro _; rfl
  | nt s ih => intro h; simp only [isT]; rw [ih h]
  | bf s ih => intro _; rfl
  | nx s ih => intro h; simp only [isT]; exact hb s (h s (by simp [wishedT]))
  | wi k s ih =>
    intro h
    have e := ih fun o ho => h o (by cases k <;> simp [wishedT, ho])
    cases k with
    | zero => simp only [isT]; rw [e]
    | succ k => simp only [isT]; rw [e, hb (.wi k s) (h _ (by simp [wishedT]))]
  | an s t ih ih' => intro h; simp only [isT]; rw [ih fun o ho => h o (by simp [wishedT, ho]), ih' fun o ho => h o (by simp [wishedT, ho])]
  | or s t ih ih' => intro h; simp only [isT]; rw [ih fun o ho => h o (by simp [wishedT, ho]), ih' fun o ho => h o (by simp [wishedT, ho])]
  | si s t ih ih' => intro h; simp only [isT]; rw [ih fun o ho => h o (by simp [wishedT, ho]), ih' fun o ho => h o (by simp [wishedT, ho])]
  | un s t ih ih' => intro h; simp only [isT]; rw [ih fun o ho => h o (by simp [wishedT, ho]), ih' fun o ho => h o (by simp [wishedT, ho]), hb (.un s t) (h _ (by simp [wishedT]))]
theorem told_base (f : Sta → Bool) : ∀ (l : List Sta) (i a : Nat), toldT f l i a = toldT f l i 0 + a
  | [], i, a => by simp [toldT]
  | w :: l, i, a => by
    simp only [toldT]
    rw [told_base f l (i + 1) (if f w = true then a + 2 ^ i else a), told_base f l (i + 1) (if f w = true then 0 + 2 ^ i else 0)]
    split <;> omega
theorem told_even (f : Sta → Bool) : ∀ (l : List Sta) (i : Nat), 1 ≤ i → ∃ j, toldT f l i 0 = 2 * j
  | [], i, _ => ⟨0, by simp [toldT]⟩
  | w :: l, i, h => by
    obtain ⟨j, e⟩ := told_even f l (i + 1) (by omega)
    obtain ⟨i, rfl⟩ : ∃ k, i = k + 1 := ⟨i - 1, by omega⟩
    simp only [toldT]
    rw [told_base, e]
    split
    · exact ⟨j + 2 ^ i, by rw [Nat.pow_succ]; omega⟩
    · exact ⟨j, by omega⟩
theorem told_ext {f g : Sta → Bool} : ∀ (l : List Sta) (i a : Nat), (∀ w ∈ l, f w = g w) → toldT f l i a = toldT g l i a
  | [], _, _, _ => rfl
  | w :: l, i, a, h => by
    simp only [toldT]
    rw [h w List.mem_cons_self]
    exact told_ext l (i + 1) _ fun v hv => h v (List.mem_cons_of_mem _ hv)
/-- what is asked of a plan's wishes -/
structure WishOk (W : List Sta) (S : Sta) : Prop where
  nd : W.Nodup
  sub : ∀ w ∈ W, w ∈ wishesT S
  hd : W.head? = some S
  cl : ∀ w ∈ W, ∀ o ∈ wishedT w, o ∈ W
theorem idx_pos {W : List Sta} {S : Sta} (h : WishOk W S) : ∀ o ∈ W, o ≠ S → 1 ≤ idxT W o := by
  intro o ho hne
  have e := idxT_at ho
  rcases Nat.eq_zero_or_pos (idxT W o) with z | z
  · rw [z] at e
    have hd := h.hd
    cases W with
    | nil => cases ho
    | cons a r =>
      simp at e hd
      exact absurd (e.symm.trans hd) hne
  · exact z
theorem rows_mono {W P : List Sta} {S : Sta} {m : Str} {bits tab : List Bool} (h : WishOk W S) (hm : mono0 tab) (ht : tab.length = 2 ^ W.length) : mono0 (rowsT W P m bits tab) := by
  intro i hi
  have ip := idx_pos h
  obtain ⟨W', rfl⟩ : ∃ W', W = S :: W' := by
    have := h.hd
    cases W with
    | nil => cases this
    | cons a r => simp at this; exact ⟨r, by rw [this]⟩
  have hpow : 2 ^ (S :: W').length = 2 * 2 ^ W'.length := by rw [List.length_cons, Nat.pow_succ]; omega
  have hlen : (rowsT (S :: W') P m bits tab).length = 2 * 2 ^ W'.length := by rw [← hpow]; simp [rowsT]
  have at_ : ∀ n, n < 2 * 2 ^ W'.length → (rowsT (S :: W') P m bits tab).getD n false = tab.getD (toldT (isT (S :: W') P m bits n) (S :: W') 0 0) false := fun n hn => by
    unfold rowsT
    rw [List.getD_eq_getElem?_getD, List.getElem?_map, List.getElem?_range (by rw [hpow]; exact hn)]
    rfl
  have hi2 : 2 * i + 1 < 2 * 2 ^ W'.length := by
    rcases Nat.lt_or_ge (2 * i) (2 * 2 ^ W'.length) with z | z
    · omega
    · rw [List.getD_eq_getElem?_getD, List.getElem?_eq_none (by rw [hlen]; exact z)] at hi
      cases hi
  rw [at_ _ (by omega)] at hi
  rw [at_ _ hi2]
  have nin : S ∉ W' := (List.nodup_cons.mp h.nd).1
  have rest : ∀ w ∈ W', isT (S :: W') P m bits (2 * i) w = isT (S :: W') P m bits (2 * i + 1) w := fun w hw => by
    have hne : w ≠ S := fun e => nin (e ▸ hw)
    have hlt : szT w < szT S := (wish_le (h.sub w (List.mem_cons_of_mem _ hw))).resolve_right hne
    refine isT_bit0 i ip w fun o ho => ⟨h.cl w (List.mem_cons_of_mem _ hw) o ho, fun e => ?_⟩
    rcases szT_wished ho with z | z
    · rw [e] at z; omega
    · exact hne (z.symm.trans e)
  have root : isT (S :: W') P m bits (2 * i) S = true → isT (S :: W') P m bits (2 * i + 1) S = true := by
    have part : ∀ q : Sta, szT q < szT S → (∀ o ∈ wishedT q, o ∈ S :: W') → isT (S :: W') P m bits (2 * i) q = isT (S :: W') P m bits (2 * i + 1) q := fun q hq hc => isT_bit0 i ip q fun o ho => ⟨hc o ho, fun e => by
      rcases szT_wished ho with z | z
      · rw [e] at z; omega
      · rw [← z, e] at hq; omega⟩
    have cS := h.cl S List.mem_cons_self
    by_cases hS : S ∈ wishedT S
    · have hu : ∃ a b, S = .un a b := by
        cases hs : S with
        | un a b => exact ⟨a, b, rfl⟩
        | mark x => rw [hs] at hS; simp [wishedT] at hS
        | yes => rw [hs] at hS; simp [wishedT] at hS
        | nt a => rw [hs] at hS; have q : Sta.nt a ∈ wishedT a := hS; rcases szT_wished q with z | z; (simp [szT] at z; omega); (have := congrArg szT z; simp [szT] at this)
        | bf a => rw [hs] at hS; have q : Sta.bf a ∈ wishedT a := hS; rcases szT_wished q with z | z; (simp [szT] at z; omega); (have := congrArg szT z; simp [szT] at this)
        | nx a => rw [hs] at hS; simp [wishedT] at hS; have := congrArg szT hS; simp [szT] at this
        | wi k a =>
          rw [hs] at hS
          have q : Sta.wi k a ∈ wishedT a ∨ ∃ j, j < k ∧ Sta.wi k a = Sta.wi j a := by
            cases k with
            | zero => simp [wishedT] at hS; exact .inl hS
            | succ k => simp [wishedT] at hS; exact .inl hS
          rcases q with q | ⟨j, hj, e⟩
          · rcases szT_wished q with z | z
            · simp [szT] at z; omega
            · have := congrArg szT z; simp [szT] at this; omega
          · cases e; omega
        | an a b => rw [hs] at hS; simp [wishedT] at hS; rcases hS with q | q <;> (rcases szT_wished q with z | z; (simp [szT] at z; omega); (have := congrArg szT z; simp [szT] at this; omega))
        | or a b => rw [hs] at hS; simp [wishedT] at hS; rcases hS with q | q <;> (rcases szT_wished q with z | z; (simp [szT] at z; omega); (have := congrArg szT z; simp [szT] at this; omega))
        | si a b => rw [hs] at hS; simp [wishedT] at hS; rcases hS with q | q <;> (rcases szT_wished q with z | z; (simp [szT] at z; omega); (have := congrArg szT z; simp [szT] at this; omega))
      obtain ⟨a, b, hs⟩ := hu
      have sa : szT a < szT S := by rw [hs]; simp [szT]; omega
      have sb : szT b < szT S := by rw [hs]; simp [szT]; omega
      have ea := part a sa fun o ho => cS o (by rw [hs]; simp [wishedT, ho])
      have eb := part b sb fun o ho => cS o (by rw [hs]; simp [wishedT, ho])
      have h1 : hasT (S :: W') (2 * i + 1) S = true := by
        rw [hasT_bit]
        have : idxT (S :: W') S = 0 := by unfold idxT; simp [List.findIdx_cons]
        rw [this]
        first | done | simp
      have u1 : ∀ n, isT (S :: W') P m bits n S = (isT (S :: W') P m bits n b || (isT (S :: W') P m bits n a && hasT (S :: W') n S)) := fun n => by
        conv => lhs; rw [show isT (S :: W') P m bits n S = isT (S :: W') P m bits n (.un a b) from by rw [← hs]]
        simp only [isT]
        rw [← hs]
      rw [u1, u1, ea, eb, h1]
      cases isT (S :: W') P m bits (2 * i + 1) b <;> cases isT (S :: W') P m bits (2 * i + 1) a <;> simp
    · have e := isT_bit0 (P := P) (m := m) (bits := bits) i ip S fun o ho => ⟨cS o ho, fun e => hS (e ▸ ho)⟩
      rw [e]
      exact id
  have t0 : ∀ n, toldT (isT (S :: W') P m bits n) (S :: W') 0 0 = toldT (isT (S :: W') P m bits n) W' 1 0 + (if isT (S :: W') P m bits n S = true then 1 else 0) := fun n => by
    simp only [toldT]
    rw [told_base]
    try simp
  obtain ⟨j, ej⟩ := told_even (isT (S :: W') P m bits (2 * i)) W' 1 (by omega)
  rw [t0, ej] at hi
  rw [t0, ← told_ext W' 1 0 rest, ej]
  by_cases hr : isT (S :: W') P m bits (2 * i) S = true
  · rw [if_pos hr] at hi
    rw [if_pos (root hr)]
    exact hi
  · rw [if_neg hr] at hi
    by_cases hr2 : isT (S :: W') P m bits (2 * i + 1) S = true
    · rw [if_pos hr2]; exact hm j hi
    · rw [if_neg hr2]; exact hi
/-! ### what is kept of every state -/
structure Jst (W P : List Sta) (V : List Str) (s : List Bool × List Bool) : Prop where
  lb : s.1.length = P.length
  lt : s.2.length = 2 ^ W.length
  mo : mono0 s.2
  sh : ∃ q ∈ allQ, ∀ p ∈ P, p.depth ≤ 2 → s.1.getD (idxT P p) false = valQ V q p
def stepT (W P : List Sta) (m : Str) (s : List Bool × List Bool) : List Bool × List Bool := (P.map (keptB W P m s.1), rowsT W P m s.1 s.2)
theorem kept_at {W P : List Sta} {m : Str} {bits : List Bool} {p : Sta} (h : p ∈ P) : (P.map (keptB W P m bits)).getD (idxT P p) false = keptB W P m bits p := by
  rw [List.getD_eq_getElem?_getD, List.getElem?_map, idxT_at h]
  rfl
theorem jst_step {W P : List Sta} {V : List Str} {S : Sta} (hV : V.length = 3) (wo : WishOk W S) (pP : ∀ p ∈ P, isPast p) (mP : ∀ p ∈ P, p.Marks (· ∈ V)) (m : Str) {s : List Bool × List Bool} (j : Jst W P V s) : Jst W P V (stepT W P m s) := by
  obtain ⟨q, hq, hs⟩ := j.sh
  exact ⟨by simp [stepT], by simp [stepT, rowsT], rows_mono wo j.mo j.lt, stepQ q (ltr V m), allQ_step q hq _ (ltr_le hV m), fun p hp hd => by
    show (P.map (keptB W P m s.1)).getD (idxT P p) false = _
    rw [kept_at hp]
    exact shallow_step hV hq m s.1 (pP p hp) hd (mP p hp) (hs p hp hd)⟩
def firstT (W P : List Sta) : List Bool × List Bool := (P.map fun _ => false, (List.range (2 ^ W.length)).map fun i => ((i : Nat) : Int) % 2 == 1)
theorem jst_first {W P : List Sta} {V : List Str} (hV : V.length = 3) (hW : W ≠ []) (pP : ∀ p ∈ P, isPast p) (mP : ∀ p ∈ P, p.Marks (· ∈ V)) : Jst W P V (firstT W P) := by
  refine ⟨by simp [firstT], by simp [firstT], fun i hi => ?_, _, allQ_first, fun p hp hd => ?_⟩
  · show ((List.range (2 ^ W.length)).map fun i => ((i : Nat) : Int) % 2 == 1).getD (2 * i + 1) false = true
    have hi' : ((List.range (2 ^ W.length)).map fun i => ((i : Nat) : Int) % 2 == 1).getD (2 * i) false = true := hi
    rw [List.getD_eq_getElem?_getD, List.getElem?_map] at hi'
    cases e : (List.range (2 ^ W.length))[2 * i]? with
    | none => rw [e] at hi'; cases hi'
    | some x =>
      rw [e] at hi'
      have := (List.getElem?_eq_some_iff.mp e).2
      rw [List.getElem_range] at this
      subst this
      simp at hi'
  · have e : (firstT W P).1.getD (idxT P p) false = false := by
      show (P.map fun _ => false).getD _ false = false
      rw [List.getD_eq_getElem?_getD, List.getElem?_map, idxT_at hp]
      rfl
    rw [e]
    have mp := mP p hp
    have n4 : ∀ {a : Str}, a ∈ V → ((4 : Nat) == ltr V a) = false := fun h => beq_eq_false_iff_ne.mpr (by have := ltr_lt hV h; omega)
    have s0 : ∀ l, seenQ (4, 3, false, false, false) l = false := fun l => by unfold seenQ; split <;> rfl
    have := pP p hp
    cases p with
    | bf s => cases s <;> first | rfl | exact (n4 mp).symm
    | si s t =>
      cases t with
      | mark b =>
        have hb : b ∈ V := mp.2
        cases s with
        | mark a =>
          have ha : a ∈ V := mp.1
          have h3 : ((4 : Nat) == ltr V a) = false := n4 ha
          simp only [valQ, n4 hb, h3, Bool.false_and, Bool.or_false]
        | yes => simp only [valQ, s0]
        | _ => rfl
      | yes => cases s <;> rfl
      | _ => cases s <;> rfl
    | _ => exact this.elim
/-! ### the count -/
/-- distinct things, each with its own key among few -/
theorem nodup_map_on {α β : Type} {f : α → β} : ∀ {l : List α}, (∀ x ∈ l, ∀ y ∈ l, f x = f y → x = y) → l.Nodup → (l.map f).Nodup
  | [], _, _ => List.nodup_nil
  | x :: l, h, n => by
    obtain ⟨h1, h2⟩ := List.nodup_cons.mp n
    rw [List.map_cons]
    refine List.nodup_cons.mpr ⟨fun hm => ?_, nodup_map_on (fun a ha b hb => h a (List.mem_cons_of_mem _ ha) b (List.mem_cons_of_mem _ hb)) h2⟩
    obtain ⟨y, hy, e⟩ := List.mem_map.mp hm
    exact h1 (h x List.mem_cons_self y (List.mem_cons_of_mem _ hy) e.symm ▸ hy)
theorem count_keys {α β : Type} [DecidableEq β] (l : List α) (ks : List β) (key : α → β) (hl : l.Nodup) (hk : ∀ x ∈ l, key x ∈ ks) (hi : ∀ x ∈ l, ∀ y ∈ l, key x = key y → x = y) : l.length ≤ ks.length := by
  have h := nodup_len (l.map key) ks (nodup_map_on hi hl) fun y hy => by
    obtain ⟨x, hx, rfl⟩ := List.mem_map.mp hy
    exact hk x hx
  rwa [List.length_map] at h
end K08

namespace K08
open PySem PySem.Spec PyProof.Rows L2 Py
/-! ### the count of the states -/
def keysT (D n : Nat) : List (Qs × List Bool × List Bool) := allQ.flatMap fun q => (allB D).flatMap fun b => (allM n).map fun t => (q, b, t)
theorem keysT_len (D n : Nat) : (keysT D n).length = 33 * (2 ^ D * 3 ^ n) := by
  unfold keysT
  rw [flat_len _ (2 ^ D * 3 ^ n), allQ_len]
  intro q _
  rw [flat_len _ (3 ^ n), allB_len]
  intro b _
  rw [List.length_map, allM_len]
open Classical in
noncomputable def pickQ (P : List Sta) (V : List Str) (b : List Bool) : Qs := if h : ∃ q ∈ allQ, ∀ p ∈ P, p.depth ≤ 2 → b.getD (idxT P p) false = valQ V q p then Classical.choose h else (0, 0, false, false, false)
theorem pickQ_ok {P : List Sta} {V : List Str} {b : List Bool} (h : ∃ q ∈ allQ, ∀ p ∈ P, p.depth ≤ 2 → b.getD (idxT P p) false = valQ V q p) : pickQ P V b ∈ allQ ∧ ∀ p ∈ P, p.depth ≤ 2 → b.getD (idxT P p) false = valQ V (pickQ P V b) p := by
  unfold pickQ
  rw [dif_pos h]
  exact Classical.choose_spec h
theorem idxT_nodup {W : List Sta} (h : W.Nodup) {k : Nat} {w : Sta} (hk : W[k]? = some w) : idxT W w = k := by
  have hm : w ∈ W := List.mem_of_getElem? hk
  have e := idxT_at hm
  have hl := idxT_lt hm
  have hkl : k < W.length := (List.getElem?_eq_some_iff.mp hk).1
  rw [List.getElem?_eq_getElem hl] at e
  rw [List.getElem?_eq_getElem hkl] at hk
  exact (List.getElem_inj h).mp (Option.some.inj (e.trans hk.symm))
theorem bools_ext {a b : List Bool} (hl : a.length = b.length) (h : ∀ i, i < a.length → a.getD i false = b.getD i false) : a = b := by
  refine List.ext_getElem hl fun i h1 h2 => ?_
  have := h i h1
  rw [List.getD_eq_getElem?_getD, List.getD_eq_getElem?_getD, List.getElem?_eq_getElem h1, List.getElem?_eq_getElem h2] at this
  exact this
theorem count_states {W P : List Sta} {V : List Str} (nP : P.Nodup) (pP : ∀ p ∈ P, isPast p) {n : Nat} (hn : W.length = n + 1) (l : List (List Bool × List Bool)) (hl : l.Nodup) (h : ∀ s ∈ l, Jst W P V s) : l.length ≤ 33 * (2 ^ (P.filter deepP).length * 3 ^ (2 ^ n)) := by
  have hc := count_keys l (keysT (P.filter deepP).length (2 ^ n)) (fun s => (pickQ P V s.1, (P.filter deepP).map (fun p => s.1.getD (idxT P p) false), s.2)) hl (fun s hs => ?_) fun s hs t ht e => ?_
  · rwa [keysT_len] at hc
  · have j := h s hs
    refine List.mem_flatMap.mpr ⟨_, (pickQ_ok j.sh).1, List.mem_flatMap.mpr ⟨_, ?_, List.mem_map.mpr ⟨s.2, mem_allM _ _ ?_ j.mo, rfl⟩⟩⟩
    · have := mem_allB ((P.filter deepP).map fun p => s.1.getD (idxT P p) false)
      rwa [List.length_map] at this
    · rw [j.lt, hn, Nat.pow_succ]; omega
  · have j := h s hs
    have k := h t ht
    simp only [Prod.mk.injEq] at e
    obtain ⟨e1, e2, e3⟩ := e
    have e4 : s.1 = t.1 := by
      refine bools_ext (by rw [j.lb, k.lb]) fun i hi => ?_
      have hiP : i < P.length := by rw [← j.lb]; exact hi
      have hp : P[i] ∈ P := List.getElem_mem hiP
      have ei : idxT P P[i] = i := idxT_nodup nP (List.getElem?_eq_getElem hiP)
      by_cases hd : P[i].depth ≤ 2
      · have a := (pickQ_ok j.sh).2 _ hp hd
        have b := (pickQ_ok k.sh).2 _ hp hd
        rw [ei] at a b
        rw [a, b, e1]
      · have hm : P[i] ∈ P.filter deepP := List.mem_filter.mpr ⟨hp, deepP_of (pP _ hp) hd⟩
        have := List.map_inj_left.mp e2 _ hm
        rw [ei] at this
        exact this
    exact Prod.ext e4 e3
theorem pow3 {a b : Nat} (h : a ≤ b) : 3 ^ a ≤ 3 ^ b := Nat.pow_le_pow_right (by omega) h
theorem states_few {W : List Sta} {V : List Str} {S : Sta} (wo : WishOk W S) (u : unm S) (hd : S.depth ≤ 6) (h3 : (wishesT S).length ≤ 3) (l : List (List Bool × List Bool)) (hl : l.Nodup) (h : ∀ s ∈ l, Jst W (pastsT S) V s) : l.length ≤ 11000000 := by
  have nW := nodup_len W _ wo.nd wo.sub
  obtain ⟨n, hn⟩ : ∃ n, W.length = n + 1 := by
    have := wo.hd
    cases W with
    | nil => cases this
    | cons a r => exact ⟨r.length, rfl⟩
  have hc := count_states (nodup_pastsT S) (fun p hp => (mem_pastsT.mp hp).2) hn l hl h
  have hD : ((pastsT S).filter deepP).length ≤ cnt S := nodup_len _ _ ((nodup_pastsT S).filter _) fun p hp => List.mem_filter.mpr ⟨(mem_pastsT.mp (List.mem_filter.mp hp).1).1, (List.mem_filter.mp hp).2⟩
  have key : ∀ c k : Nat, cnt S ≤ c → n ≤ k → l.length ≤ 33 * (2 ^ c * 3 ^ (2 ^ k)) := fun c k h1 h2 => Nat.le_trans hc (Nat.mul_le_mul_left 33 (Nat.mul_le_mul (Nat.pow_le_pow_right (by omega) (Nat.le_trans hD h1)) (pow3 (Nat.pow_le_pow_right (by omega) h2))))
  rcases few_of u hd with ⟨nf, c⟩ | c | ⟨c, B, hB⟩
  · have h1 : W.length ≤ 1 := nodup_len W [S] wo.nd fun w hw => by
      rcases mem_wishesT.mp (wo.sub w hw) with e | ⟨p, q1, q2⟩
      · rw [e]; exact List.mem_cons_self
      · rw [more_nf nf p q1] at q2; cases q2
    exact Nat.le_trans (key 15 0 c (by omega)) (by decide)
  · exact Nat.le_trans (key 12 2 c (by omega)) (by decide)
  · have h1 : W.length ≤ 2 := nodup_len W [S, B] wo.nd fun w hw => by
      rcases hB w (wo.sub w hw) with e | e
      · rw [e]; exact List.mem_cons_self
      · rw [e]; exact List.mem_cons_of_mem _ List.mem_cons_self
    exact Nat.le_trans (key 14 1 c (by omega)) (by decide)
end K08

namespace K08
open PySem PySem.Spec PyProof.Rows L2 Py
/-! ### states as data -/
abbrev Sst := List Bool × List Bool
def stD (s : Sst) : D := stateD s.1 s.2
theorem bools_eqv : ∀ a b : List Bool, PyData.eqvAll (a.map PyData.bool) (b.map PyData.bool) = decide (a = b)
  | [], [] => by simp [PyData.eqvAll]
  | [], _ :: _ => by simp [PyData.eqvAll]
  | _ :: _, [] => by simp [PyData.eqvAll]
  | x :: a, y :: b => by
    simp only [List.map_cons, PyData.eqvAll, PyData.eqv, bools_eqv a b]
    by_cases h : x = y
    · subst h
      by_cases h2 : a = b
      · subst h2; simp
      · simp [h2]
    · simp [h]
theorem stD_eqv (s t : Sst) : PyData.eqv (stD s) (stD t) = decide (s = t) := by
  obtain ⟨a, b⟩ := s
  obtain ⟨c, d⟩ := t
  simp only [stD, stateD, PyData.eqv, PyData.eqvAll, bools_eqv, Bool.and_true]
  by_cases h : a = c
  · subst h
    by_cases h2 : b = d
    · subst h2; simp
    · simp [h2]
  · simp [h]
theorem bools_lay (bs : List Bool) : PyData.canLayAll0 (bs.map PyData.bool) = true := by
  induction bs with
  | nil => simp [PyData.canLayAll0]
  | cons b r ih => simp [PyData.canLayAll0, PyData.canLay0, ih]
theorem bools_dep (bs : List Bool) : PyData.depthAll (bs.map PyData.bool) = 0 := by
  induction bs with
  | nil => simp [PyData.depthAll]
  | cons b r ih => simp [PyData.depthAll, PyData.depth, ih]
theorem okD_st (s : Sst) : OkD 2 (stD s) := ⟨by simp [stD, stateD, PyData.canLay0, PyData.canLayAll0, bools_lay], by simp [stD, stateD, PyData.depth, PyData.depthAll, bools_dep], by rw [stD_eqv]; simp⟩
theorem okD_sts (l : List Sst) : OkD 3 (.list (l.map stD)) := okD_list fun x hx => by
  obtain ⟨s, _, rfl⟩ := List.mem_map.mp hx
  exact okD_st s
theorem in_sts (l : List Sst) (s : Sst) : oIn true (stD s) (.list (l.map stD)) = some (.bool (!decide (s ∈ l))) := by
  have e : ((l.map stD).any fun z => PyData.eqv z (stD s)) = decide (s ∈ l) := by
    induction l with
    | nil => simp
    | cons t l ih =>
      rw [List.map_cons, List.any_cons, ih, stD_eqv]
      by_cases h : t = s
      · subst h; simp
      · by_cases h2 : s ∈ l
        · simp [h2]
        · have : ¬ s = t := fun e => h e.symm
          simp [h, h2, this]
  show (if SeqAt.shaped (stD s) = true ∧ SeqAt.shaped (.list (l.map stD)) = true then some (PyData.bool (if true = true then !((l.map stD).any fun z => PyData.eqv z (stD s)) else (l.map stD).any fun z => PyData.eqv z (stD s))) else none) = _
  rw [if_pos ⟨(okD_st s).shaped (by omega), (okD_sts l).shaped (by omega)⟩, e]
  simp
/-! ### a plan, and all that is known of it -/
structure Pln (d : Nat) (W P : List Sta) (V : List Str) (S : Sta) : Prop where
  k : PlanOk d W P
  pk : PastsOk W P
  cw : ∀ w ∈ W, ∀ o ∈ wishedT w, o ∈ W
  cp : ∀ w ∈ W, ∀ o ∈ allT w, isPast o → o ∈ P
  wo : WishOk W S
  hV : V.length = 3
  mP : ∀ p ∈ P, p.Marks (· ∈ V)
theorem run_step {d : Nat} {W P : List Sta} {V : List Str} {S : Sta} (p : Pln d W P V S) (Ms : List Str) (m : Str) {s : Sst} (j : Jst W P V s) {n : Nat} (hn : d + 3 ≤ n) : Phi n .stepped [planOf W P Ms, stD s, .str m] = some (.ok (stD (stepT W P m s))) :=
  run_stepped p.k p.pk p.cw p.cp m s.1 s.2 j.lb j.lt n hn
theorem Pln.step {d : Nat} {W P : List Sta} {V : List Str} {S : Sta} (p : Pln d W P V S) (m : Str) {s : Sst} (j : Jst W P V s) : Jst W P V (stepT W P m s) := jst_step p.hV p.wo p.pk.past p.mP m j
/-- behind a row of marks -/
def stepsT (W P : List Sta) : List Str → Sst → Sst
  | [], s => s
  | m :: r, s => stepsT W P r (stepT W P m s)
theorem stepsT_app (W P : List Sta) : ∀ (a b : List Str) (s : Sst), stepsT W P (a ++ b) s = stepsT W P b (stepsT W P a s)
  | [], _, _ => rfl
  | m :: a, b, s => stepsT_app W P a b (stepT W P m s)
theorem Pln.steps {d : Nat} {W P : List Sta} {V : List Str} {S : Sta} (p : Pln d W P V S) : ∀ (r : List Str) {s : Sst}, Jst W P V s → Jst W P V (stepsT W P r s)
  | [], _, j => j
  | m :: r, _, j => p.steps r (p.step m j)
def addS (l : List Sst) (x : Sst) : List Sst := if x ∈ l then l else l ++ [x]
theorem mem_addS {l : List Sst} {x y : Sst} : y ∈ addS l x ↔ y ∈ l ∨ y = x := by
  unfold addS
  split
  · rename_i h; exact ⟨.inl, fun z => z.elim id fun e => e ▸ h⟩
  · simp
theorem nodup_addS {l : List Sst} {x : Sst} (h : l.Nodup) : (addS l x).Nodup := by
  unfold addS
  split
  · exact h
  · rename_i hx
    exact List.nodup_append.mpr ⟨h, by simp, fun a ha b hb e => hx (by simp at hb; rw [← hb, ← e]; exact ha)⟩
theorem pre_addS (l : List Sst) (x : Sst) : ∃ r, addS l x = l ++ r := by
  unfold addS
  split
  · exact ⟨[], by simp⟩
  · exact ⟨[x], rfl⟩
/-- all that one mark leads to from s -/
def expS (W P : List Sta) (s : Sst) (Ms : List Str) (F : List Sst) : List Sst := Ms.foldl (fun F m => addS F (stepT W P m s)) F
theorem mem_expS {W P : List Sta} {s y : Sst} : ∀ {Ms : List Str} {F : List Sst}, y ∈ expS W P s Ms F ↔ y ∈ F ∨ ∃ m ∈ Ms, y = stepT W P m s
  | [], F => by simp [expS]
  | m :: Ms, F => by
    show y ∈ expS W P s Ms (addS F (stepT W P m s)) ↔ _
    rw [mem_expS, mem_addS]
    constructor
    · rintro ((a | a) | ⟨k, a, b⟩)
      · exact .inl a
      · exact .inr ⟨m, List.mem_cons_self, a⟩
      · exact .inr ⟨k, List.mem_cons_of_mem _ a, b⟩
    · rintro (a | ⟨k, a, b⟩)
      · exact .inl (.inl a)
      · rcases List.mem_cons.mp a with e | a
        · subst e; exact .inl (.inr b)
        · exact .inr ⟨k, a, b⟩
theorem nodup_expS {W P : List Sta} {s : Sst} : ∀ {Ms : List Str} {F : List Sst}, F.Nodup → (expS W P s Ms F).Nodup
  | [], _, h => h
  | _ :: Ms, _, h => nodup_expS (Ms := Ms) (nodup_addS h)
theorem pre_expS (W P : List Sta) (s : Sst) : ∀ (Ms : List Str) (F : List Sst), ∃ r, expS W P s Ms F = F ++ r
  | [], F => ⟨[], by simp [expS]⟩
  | m :: Ms, F => by
    obtain ⟨r, e⟩ := pre_addS F (stepT W P m s)
    obtain ⟨r', e'⟩ := pre_expS W P s Ms (addS F (stepT W P m s))
    exact ⟨r ++ r', by show expS W P s Ms (addS F (stepT W P m s)) = _; rw [e', e, List.append_assoc]⟩
/-- what has been found so far -/
structure Gr (W P : List Sta) (V : List Str) (Ms : List Str) (s0 : Sst) (at_ : Nat) (F : List Sst) : Prop where
  nd : F.Nodup
  ok : ∀ s ∈ F, Jst W P V s
  hd : F.head? = some s0
  done : ∀ i < at_, ∀ s, F[i]? = some s → ∀ m ∈ Ms, stepT W P m s ∈ F
  way : ∀ s ∈ F, ∃ w : List Str, (∀ m ∈ w, m ∈ Ms) ∧ s = stepsT W P w s0
  le : at_ ≤ F.length
theorem Gr.closed {W P : List Sta} {V : List Str} {Ms : List Str} {s0 : Sst} {F : List Sst} (g : Gr W P V Ms s0 F.length F) : ∀ s ∈ F, ∀ m ∈ Ms, stepT W P m s ∈ F := fun s hs m hm => by
  obtain ⟨i, hi, e⟩ := List.mem_iff_getElem.mp hs
  exact g.done i hi s (by rw [List.getElem?_eq_getElem hi, e]) m hm
theorem Gr.first {W P : List Sta} {V : List Str} {Ms : List Str} {s0 : Sst} {a : Nat} {F : List Sst} (g : Gr W P V Ms s0 a F) : s0 ∈ F := by
  have := g.hd
  cases F with
  | nil => cases this
  | cons a r => simp at this; subst this; exact List.mem_cons_self
theorem Gr.all {W P : List Sta} {V : List Str} {Ms : List Str} {s0 : Sst} {F : List Sst} (g : Gr W P V Ms s0 F.length F) : ∀ (w : List Str), (∀ m ∈ w, m ∈ Ms) → stepsT W P w s0 ∈ F := by
  have key : ∀ (w : List Str) (s : Sst), s ∈ F → (∀ m ∈ w, m ∈ Ms) → stepsT W P w s ∈ F := by
    intro w
    induction w with
    | nil => intro s h _; exact h
    | cons m w ih => intro s h hw; exact ih _ (g.closed s h m (hw m List.mem_cons_self)) fun x hx => hw x (List.mem_cons_of_mem _ hx)
  exact fun w hw => key w s0 g.first hw
theorem gr_exp {d : Nat} {W P : List Sta} {V : List Str} {S : Sta} (p : Pln d W P V S) {Ms : List Str} {s0 : Sst} {at_ : Nat} {F : List Sst} (g : Gr W P V Ms s0 at_ F) (hlt : at_ < F.length) : Gr W P V Ms s0 (at_ + 1) (expS W P F[at_] Ms F) := by
  have hw : F[at_]? = some F[at_] := List.getElem?_eq_getElem hlt
  have mw : F[at_] ∈ F := List.getElem_mem hlt
  obtain ⟨r, er⟩ := pre_expS W P F[at_] Ms F
  refine ⟨nodup_expS g.nd, fun y hy => ?_, ?_, fun i hi w hiw m hm => ?_, fun y hy => ?_, by rw [er, List.length_append]; omega⟩
  · rcases mem_expS.mp hy with q | ⟨m, hm, q⟩
    · exact g.ok y q
    · subst q; exact p.step m (g.ok _ mw)
  · rw [er, List.head?_append, g.hd]; rfl
  · rw [er] at hiw
    have hil : i < F.length := by omega
    rw [List.getElem?_append_left hil] at hiw
    by_cases hia : i < at_
    · exact mem_expS.mpr (.inl (g.done i hia w hiw m hm))
    · have : i = at_ := by omega
      subst this
      rw [hw] at hiw
      cases hiw
      exact mem_expS.mpr (.inr ⟨m, hm, rfl⟩)
  · rcases mem_expS.mp hy with q | ⟨m, hm, q⟩
    · exact g.way y q
    · obtain ⟨w, h1, h2⟩ := g.way _ mw
      refine ⟨w ++ [m], fun x hx => ?_, ?_⟩
      · rcases List.mem_append.mp hx with z | z
        · exact h1 x z
        · simp at z; subst z; exact hm
      · rw [stepsT_app, ← h2]; exact q
theorem exp_loop {d : Nat} {W P : List Sta} {V : List Str} {S : Sta} (p : Pln d W P V S) {N : Nat} (hN : ∀ l : List Sst, l.Nodup → (∀ s ∈ l, Jst W P V s) → l.length ≤ N) (hz : N < big) (Ms0 : List Str) (B1 : Sl) {at_ : Nat} {s : Sst} (js : Jst W P V s) {n : Nat} (hn : d + 3 ≤ n) :
    ∀ (Ms : List Str) (F : List Sst) (x y : Sl), F[at_]? = some s → F.Nodup → (∀ s ∈ F, Jst W P V s) → ∃ x' y', forF (gfN 4) (fSeq (sSet 5 (fCall (Phi n .stepped) (fCons (fVar 0) (fCons (f2 oIx (fOpd 2) (fOpd 3)) (fCons (fVar 4) fNil)))))
      (sIf (fT (f2 (oIn true) (fOpd 5) (fOpd 2))) (sApp 2 (fVar 5)) fNext)) (Ms.map .str) [.va (planOf W P Ms0), B1, .ow (F.map stD), .va (.int at_), x, y] = some (.nx [.va (planOf W P Ms0), B1, .ow ((expS W P s Ms F).map stD), .va (.int at_), x', y']) := by
  intro Ms
  induction Ms with
  | nil => intro F x y _ _ _; exact ⟨x, y, rfl⟩
  | cons m Ms ih =>
    intro F x y hF nF jF
    have a : atI (F.map stD) (at_ : Int) = some (stD s) := atI_cast (by rw [List.getElem?_map, hF]; rfl)
    have st := run_step p Ms0 m js hn
    have i := in_sts F (stepT W P m s)
    have hl := hN F nF jF
    have hb : (F.map stD).length ≤ big := by rw [List.length_map]; omega
    by_cases h : stepT W P m s ∈ F
    · have ea : addS F (stepT W P m s) = F := by unfold addS; rw [if_pos h]
      obtain ⟨x', y', e⟩ := ih F (.va (.str m)) (.va (stD (stepT W P m s))) hF nF jF
      refine ⟨x', y', ?_⟩
      have ee : expS W P s (m :: Ms) F = expS W P s Ms F := by show expS W P s Ms (addS F (stepT W P m s)) = _; rw [ea]
      rw [ee, ← e]
      simp only [h, decide_true, Bool.not_true] at i
      simp only [List.map_cons, forF, fOwn, fOpN,  fSeq, fNext, sRet, sRetN, sIf, sSet, sSetO, sAsg, sApp, sFor, forF, fVar, fOpd, fCon, f2, f1, fNil, fCons, bR, bL, bA, bLL, oR, fT, gAnd, gOr, gNot, gYes, fAnd, fOr, fNot, fIte, fTup, fLst, fCall, fCallO, fB, fM1, fSl, fiNo, fiSm, fLc, wLst, wTup, wStr, wRg1, wRg2, wZip, wEnum, gfN, gfTup, gsNil, gsCons, fLrg, fLrg3, wipeG, xSeq, xSet, xOf, xCall, xIf, xRet, xNext, xTup, xCons, xNil, xPut, xCallP, sRetX, sSetX, List.getElem?_cons_zero, List.getElem?_cons_succ, List.set_cons_zero, List.set_cons_succ, oIx_lst, a, st, i, bR_ok, bL_ok, bLL_ok, bA_ok, oR_some]
    · have ea : addS F (stepT W P m s) = F ++ [stepT W P m s] := by unfold addS; rw [if_neg h]
      have nF' : (F ++ [stepT W P m s]).Nodup := by rw [← ea]; exact nodup_addS nF
      obtain ⟨x', y', e⟩ := ih (F ++ [stepT W P m s]) (.va (.str m)) (.va (stD (stepT W P m s))) (by rw [List.getElem?_append_left (List.getElem?_eq_some_iff.mp hF).1]; exact hF) nF' fun t ht => by
        rcases List.mem_append.mp ht with q | q
        · exact jF t q
        · simp at q; subst q; exact p.step m js
      refine ⟨x', y', ?_⟩
      have ee : expS W P s (m :: Ms) F = expS W P s Ms (F ++ [stepT W P m s]) := by show expS W P s Ms (addS F (stepT W P m s)) = _; rw [ea]
      rw [ee, ← e]
      simp only [h, decide_false, Bool.not_false] at i
      simp only [List.map_cons, List.map_append, List.map_nil, forF, fOwn, fOpN,  fSeq, fNext, sRet, sRetN, sIf, sSet, sSetO, sAsg, sApp, sFor, forF, fVar, fOpd, fCon, f2, f1, fNil, fCons, bR, bL, bA, bLL, oR, fT, gAnd, gOr, gNot, gYes, fAnd, fOr, fNot, fIte, fTup, fLst, fCall, fCallO, fB, fM1, fSl, fiNo, fiSm, fLc, wLst, wTup, wStr, wRg1, wRg2, wZip, wEnum, gfN, gfTup, gsNil, gsCons, fLrg, fLrg3, wipeG, xSeq, xSet, xOf, xCall, xIf, xRet, xNext, xTup, xCons, xNil, xPut, xCallP, sRetX, sSetX, List.getElem?_cons_zero, List.getElem?_cons_succ, List.set_cons_zero, List.set_cons_succ, oIx_lst, a, st, i, hb, if_pos, bR_ok, bL_ok, bLL_ok, bA_ok, oR_some]
theorem reach_loop {d : Nat} {W P : List Sta} {V : List Str} {S : Sta} (p : Pln d W P V S) {N : Nat} (hN : ∀ l : List Sst, l.Nodup → (∀ s ∈ l, Jst W P V s) → l.length ≤ N) (hz : N < big) (Ms : List Str) (B1 : Sl) {s0 : Sst} {n : Nat} (hn : d + 3 ≤ n) : ∀ (k at_ : Nat) (F : List Sst) (x y : Sl) (m : Nat), N - at_ = k → k + 1 ≤ m → Gr W P V Ms s0 at_ F →
    ∃ F' a' x' y', Gr W P V Ms s0 F'.length F' ∧ whF (fT (f2 oLt (fOpd 3) (fB oLen (fCons (fOpd 2) fNil)))) (fSeq (sFor (wLst (f1 (oFld "marks") (fOpd 0))) (gfN 4) (fSeq (sSet 5 (fCall (Phi n .stepped) (fCons (fVar 0) (fCons (f2 oIx (fOpd 2) (fOpd 3)) (fCons (fVar 4) fNil)))))
      (sIf (fT (f2 (oIn true) (fOpd 5) (fOpd 2))) (sApp 2 (fVar 5)) fNext))) (sSet 3 (f2 oAdd (fOpd 3) (fCon (.int 1))))) m [.va (planOf W P Ms), B1, .ow (F.map stD), .va (.int at_), x, y] = some (.nx [.va (planOf W P Ms), B1, .ow (F'.map stD), a', x', y']) := by
  have stop : ∀ (F : List Sst) (x y : Sl) (m : Nat), Gr W P V Ms s0 F.length F → ∃ F' a' x' y', Gr W P V Ms s0 F'.length F' ∧ whF (fT (f2 oLt (fOpd 3) (fB oLen (fCons (fOpd 2) fNil)))) (fSeq (sFor (wLst (f1 (oFld "marks") (fOpd 0))) (gfN 4) (fSeq (sSet 5 (fCall (Phi n .stepped) (fCons (fVar 0) (fCons (f2 oIx (fOpd 2) (fOpd 3)) (fCons (fVar 4) fNil)))))
      (sIf (fT (f2 (oIn true) (fOpd 5) (fOpd 2))) (sApp 2 (fVar 5)) fNext))) (sSet 3 (f2 oAdd (fOpd 3) (fCon (.int 1))))) (m + 1) [.va (planOf W P Ms), B1, .ow (F.map stD), .va (.int F.length), x, y] = some (.nx [.va (planOf W P Ms), B1, .ow (F'.map stD), a', x', y']) := by
    intro F x y m g
    refine ⟨F, .va (.int F.length), x, y, g, ?_⟩
    unfold whF
    simp [fOwn, fOpN,  fSeq, fNext, sRet, sRetN, sIf, sSet, sSetO, sAsg, sApp, sFor, forF, fVar, fOpd, fCon, f2, f1, fNil, fCons, bR, bL, bA, bLL, oR, fT, gAnd, gOr, gNot, gYes, fAnd, fOr, fNot, fIte, fTup, fLst, fCall, fCallO, fB, fM1, fSl, fiNo, fiSm, fLc, wLst, wTup, wStr, wRg1, wRg2, wZip, wEnum, gfN, gfTup, gsNil, gsCons, fLrg, fLrg3, wipeG, xSeq, xSet, xOf, xCall, xIf, xRet, xNext, xTup, xCons, xNil, xPut, xCallP, sRetX, sSetX, List.getElem?_cons_zero, List.getElem?_cons_succ, List.set_cons_zero, List.set_cons_succ]
  intro k
  induction k with
  | zero =>
    intro at_ F x y m hk hm g
    obtain ⟨m, rfl⟩ : ∃ q, m = q + 1 := ⟨m - 1, by omega⟩
    have hl := hN F g.nd g.ok
    have hle := g.le
    have he : at_ = F.length := by omega
    subst he
    exact stop F x y m g
  | succ k ih =>
    intro at_ F x y m hk hm g
    obtain ⟨m, rfl⟩ : ∃ q, m = q + 1 := ⟨m - 1, by omega⟩
    by_cases hlt : at_ < F.length
    · have hw : F[at_]? = some F[at_] := List.getElem?_eq_getElem hlt
      have mw : F[at_] ∈ F := List.getElem_mem hlt
      obtain ⟨x', y', e⟩ := exp_loop p hN hz Ms B1 (g.ok _ mw) hn Ms F x y hw g.nd g.ok
      obtain ⟨F', a2, x2, y2, g2, e2⟩ := ih (at_ + 1) _ x' y' m (by omega) (by omega) (gr_exp p g hlt)
      refine ⟨F', a2, x2, y2, g2, ?_⟩
      have e1 : ((at_ + 1 : Nat) : Int) = (at_ : Int) + 1 := by omega
      rw [e1] at e2
      rw [← e2]
      have fm : oFld "marks" (planOf W P Ms) = some (.list (Ms.map .str)) := by unfold planOf; rw [fldM]
      have c : decide ((at_ : Int) < ((F.map stD).length : Int)) = true := by rw [List.length_map]; exact decide_eq_true (by omega)
      conv => lhs; unfold whF
      simp only [fOwn, fOpN,  fSeq, fNext, sRet, sRetN, sIf, sSet, sSetO, sAsg, sApp, sFor, forF, fVar, fOpd, fCon, f2, f1, fNil, fCons, bR, bL, bA, bLL, oR, fT, gAnd, gOr, gNot, gYes, fAnd, fOr, fNot, fIte, fTup, fLst, fCall, fCallO, fB, fM1, fSl, fiNo, fiSm, fLc, wLst, wTup, wStr, wRg1, wRg2, wZip, wEnum, gfN, gfTup, gsNil, gsCons, fLrg, fLrg3, wipeG, xSeq, xSet, xOf, xCall, xIf, xRet, xNext, xTup, xCons, xNil, xPut, xCallP, sRetX, sSetX, List.getElem?_cons_zero, List.getElem?_cons_succ, List.set_cons_zero, List.set_cons_succ, oLt_int, oLen_list, c, fm, e, oAdd_int, bR_ok, bL_ok, bLL_ok, bA_ok, oR_some]
    · have he : at_ = F.length := by have := g.le; omega
      subst he
      exact stop F x y m g
theorem gr_one {W P : List Sta} {V : List Str} {Ms : List Str} {s0 : Sst} (j : Jst W P V s0) : Gr W P V Ms s0 0 [s0] :=
  ⟨by simp, fun s hs => by simp at hs; subst hs; exact j, rfl, fun i hi => by omega, fun s hs => by simp at hs; subst hs; exact ⟨[], by simp, rfl⟩, Nat.zero_le _⟩
theorem run_reached {d : Nat} {W P : List Sta} {V : List Str} {S : Sta} (p : Pln d W P V S) {N : Nat} (hN : ∀ l : List Sst, l.Nodup → (∀ s ∈ l, Jst W P V s) → l.length ≤ N) (hz : N < big) (Ms : List Str) {s0 : Sst} (j : Jst W P V s0) {n : Nat} (hn : d + 4 ≤ n) :
    ∃ F, Gr W P V Ms s0 F.length F ∧ Phi n .reached [planOf W P Ms, stD s0] = some (.ok (.list (F.map stD))) := by
  obtain ⟨n, rfl⟩ : ∃ k, n = k + 1 := ⟨n - 1, by omega⟩
  have hf : N - 0 + 1 ≤ fuel := Nat.le_trans (show N - 0 + 1 ≤ big by omega) (by unfold fuel big; decide)
  obtain ⟨F, a', x', y', g, e⟩ := reach_loop p hN hz Ms (.va (stD s0)) (s0 := s0) (n := n) (by omega) (N - 0) 0 [s0] .no .no fuel rfl hf (gr_one j)
  refine ⟨F, g, ?_⟩
  rw [phi_reached]
  refine runF_rt rfl ?_
  unfold f_reached
  rw [fSeq_nx (γ1 := [.va (planOf W P Ms), .va (stD s0), .ow [stD s0], .no, .no, .no]) (by simp [entry, fOwn, fOpN,  fSeq, fNext, sRet, sRetN, sIf, sSet, sSetO, sAsg, sApp, sFor, forF, fVar, fOpd, fCon, f2, f1, fNil, fCons, bR, bL, bA, bLL, oR, fT, gAnd, gOr, gNot, gYes, fAnd, fOr, fNot, fIte, fTup, fLst, fCall, fCallO, fB, fM1, fSl, fiNo, fiSm, fLc, wLst, wTup, wStr, wRg1, wRg2, wZip, wEnum, gfN, gfTup, gsNil, gsCons, fLrg, fLrg3, wipeG, xSeq, xSet, xOf, xCall, xIf, xRet, xNext, xTup, xCons, xNil, xPut, xCallP, sRetX, sSetX, List.getElem?_cons_zero, List.getElem?_cons_succ, List.set_cons_zero, List.set_cons_succ, List.replicate])]
  rw [fSeq_nx (γ1 := [.va (planOf W P Ms), .va (stD s0), .ow [stD s0], .va (.int 0), .no, .no]) (by simp [fOwn, fOpN,  fSeq, fNext, sRet, sRetN, sIf, sSet, sSetO, sAsg, sApp, sFor, forF, fVar, fOpd, fCon, f2, f1, fNil, fCons, bR, bL, bA, bLL, oR, fT, gAnd, gOr, gNot, gYes, fAnd, fOr, fNot, fIte, fTup, fLst, fCall, fCallO, fB, fM1, fSl, fiNo, fiSm, fLc, wLst, wTup, wStr, wRg1, wRg2, wZip, wEnum, gfN, gfTup, gsNil, gsCons, fLrg, fLrg3, wipeG, xSeq, xSet, xOf, xCall, xIf, xRet, xNext, xTup, xCons, xNil, xPut, xCallP, sRetX, sSetX, List.getElem?_cons_zero, List.getElem?_cons_succ, List.set_cons_zero, List.set_cons_succ])]
  rw [fSeq_nx (γ1 := [.va (planOf W P Ms), .va (stD s0), .ow (F.map stD), a', x', y']) (by simpa [sWh] using e)]
  simp [fOwn, fOpN,  fSeq, fNext, sRet, sRetN, sIf, sSet, sSetO, sAsg, sApp, sFor, forF, fVar, fOpd, fCon, f2, f1, fNil, fCons, bR, bL, bA, bLL, oR, fT, gAnd, gOr, gNot, gYes, fAnd, fOr, fNot, fIte, fTup, fLst, fCall, fCallO, fB, fM1, fSl, fiNo, fiSm, fLc, wLst, wTup, wStr, wRg1, wRg2, wZip, wEnum, gfN, gfTup, gsNil, gsCons, fLrg, fLrg3, wipeG, xSeq, xSet, xOf, xCall, xIf, xRet, xNext, xTup, xCons, xNil, xPut, xCallP, sRetX, sSetX, List.getElem?_cons_zero, List.getElem?_cons_succ, List.set_cons_zero, List.set_cons_succ]
theorem run_met (s : Sst) (h : 0 < s.2.length) (n : Nat) : Phi (n + 1) .is_met [stD s] = some (.ok (.bool (s.2.getD 0 false))) := by
  have a : atI (s.2.map PyData.bool) 0 = some (.bool (s.2.getD 0 false)) := by
    refine atI_cast (i := 0) ?_
    rw [List.getElem?_map, List.getElem?_eq_getElem h, List.getD_eq_getElem?_getD, List.getElem?_eq_getElem h]
    rfl
  rw [phi_is_met]
  refine runF_rt rfl ?_
  unfold f_is_met stD stateD
  simp only [entry, fOwn, fOpN,  fSeq, fNext, sRet, sRetN, sIf, sSet, sSetO, sAsg, sApp, sFor, forF, fVar, fOpd, fCon, f2, f1, fNil, fCons, bR, bL, bA, bLL, oR, fT, gAnd, gOr, gNot, gYes, fAnd, fOr, fNot, fIte, fTup, fLst, fCall, fCallO, fB, fM1, fSl, fiNo, fiSm, fLc, wLst, wTup, wStr, wRg1, wRg2, wZip, wEnum, gfN, gfTup, gsNil, gsCons, fLrg, fLrg3, wipeG, xSeq, xSet, xOf, xCall, xIf, xRet, xNext, xTup, xCons, xNil, xPut, xCallP, sRetX, sSetX, List.getElem?_cons_zero, List.getElem?_cons_succ, List.set_cons_zero, List.set_cons_succ, List.length_cons, List.length_nil, List.map_cons, List.map_nil, List.cons_append, List.nil_append, List.replicate, Nat.reduceAdd, Nat.reduceSub, oIx_tup, atI_1, bR_ok, oR_some, a]
def metT (s : Sst) : Bool := s.2.getD 0 false
theorem Jst.pos {W P : List Sta} {V : List Str} {s : Sst} (j : Jst W P V s) : 0 < s.2.length := by rw [j.lt]; exact Nat.two_pow_pos _
end K08

namespace K08
open PySem PySem.Spec PyProof.Rows L2 Py
/-! ### the names, none of them zzzzzz -/
/-- six letters, none like the next one -/
def zig (l : List Nat) : Prop := ∃ a b c d e f : Nat, l = [a, b, c, d, e, f] ∧ a ≠ b ∧ b ≠ c
theorem join_cps (a : Str) (r : List Str) : (Txt.join "" (a :: r)).cps.toList = a.cps.toList ++ (Txt.join "" r).cps.toList := by
  rw [TL.join_eq, TL.join_eq]
  cases r with
  | nil => simp [Str.join]; rfl
  | cons b r =>
    have e : Str.join "" (a :: b :: r) = a ++ "" ++ Str.join "" (b :: r) := rfl
    rw [e]
    show (a.cps ++ ("" : Str).cps ++ (Str.join "" (b :: r)).cps).toList = _
    have e0 : ("" : Str).cps = #[] := rfl
    rw [e0, Array.append_empty, Array.toList_append]
theorem join_zig (x : Int) : zig (Txt.join "" [letS x, letS (x + 5), letS (x + 10), letS (x + 15), letS (x + 20), letS (x + 25)]).cps.toList := by
  refine ⟨97 + (x % 26).toNat, 97 + ((x + 5) % 26).toNat, 97 + ((x + 10) % 26).toNat, 97 + ((x + 15) % 26).toNat, 97 + ((x + 20) % 26).toNat, 97 + ((x + 25) % 26).toNat, ?_, by omega, by omega⟩
  rw [join_cps, join_cps, join_cps, join_cps, join_cps, join_cps]
  rfl
theorem zz_cps : ("zzzzzz" : Str).cps.toList = [122, 122, 122, 122, 122, 122] := by decide +kernel
theorem zig_cut {z : Str} (h : zig z.cps.toList) (i : Int) : cutS z none (some i) ≠ "zzzzzz" := by
  intro e
  obtain ⟨a, b, c, d, e', f, hl, n1, n2⟩ := h
  have q : (cutS z none (some i)).cps.toList = [122, 122, 122, 122, 122, 122] := by rw [e]; exact zz_cps
  unfold cutS at q
  rw [hl, HT.sIx_none, List.drop_zero, Nat.sub_zero] at q
  simp only [List.toList_toArray] at q
  generalize HT.sIx _ _ _ = k at q
  match k with
  | 0 => cases q
  | 1 => simp at q
  | k + 2 => simp at q; exact n1 (q.1.trans q.2.1.symm)
theorem zig_mid {z : Str} (h : zig z.cps.toList) {s t : Int} (hs : 0 ≤ s) (h6 : s < 6) (ht : 0 ≤ t) (hts : t ≤ s) (x : Int) : cutS z none (some t) ++ letS x ++ cutS z (some t) (some s) ≠ "zzzzzz" := by
  intro e
  obtain ⟨a, b, c, d, e', f, hl, n1, n2⟩ := h
  obtain ⟨s, rfl⟩ : ∃ k : Nat, s = k := ⟨s.toNat, by omega⟩
  obtain ⟨t, rfl⟩ : ∃ k : Nat, t = k := ⟨t.toNat, by omega⟩
  have q : (cutS z none (some (t : Int))).cps.toList ++ (letS x).cps.toList ++ (cutS z (some (t : Int)) (some (s : Int))).cps.toList = [122, 122, 122, 122, 122, 122] := by
    rw [← Array.toList_append, ← Array.toList_append]
    exact (congrArg (fun s : Str => s.cps.toList) e).trans zz_cps
  have hz : z.length = 6 := by
    show z.cps.size = 6
    rw [← Array.length_toList, hl]; rfl
  have m1 : min t 6 = t := Nat.min_eq_left (by omega)
  have m2 : min s 6 = s := Nat.min_eq_left (by omega)
  unfold cutS at q
  simp only [HT.sIx_nat, HT.sIx_none, List.drop_zero, Nat.sub_zero, hl, hz, m1, m2, List.toList_toArray, letS] at q
  clear m1 m2 hz hl e hs ht
  match t, s, h6, hts with
  | 0, 0, _, _ => simp at q
  | 0, 1, _, _ => simp at q
  | 0, s + 2, _, _ => simp at q; exact n1 (q.2.1.trans q.2.2.1.symm)
  | 1, 0, _, h => omega
  | 1, 1, _, _ => simp at q
  | 1, 2, _, _ => simp at q
  | 1, s + 3, _, _ => simp at q; exact n2 (q.2.2.1.trans q.2.2.2.1.symm)
  | t + 2, s, _, _ => simp at q; exact n1 (q.1.trans q.2.1.symm)
/-! ### the names, none empty -/
theorem join_one (a b : Str) (r : List Str) : a.length ≤ (Txt.join "" (a :: b :: r)).length := by
  rw [TL.join_eq]
  have e : Str.join "" (a :: b :: r) = a ++ "" ++ Str.join "" (b :: r) := rfl
  rw [e, Str.length_append, Str.length_append]
  omega
theorem cut_one {z : Str} {i : Int} (hz : 1 ≤ z.length) (hi : 1 ≤ i) : 1 ≤ (cutS z none (some i)).length := by
  obtain ⟨j, rfl⟩ : ∃ j : Nat, i = j := ⟨i.toNat, by omega⟩
  unfold cutS
  rw [HT.sIx_nat, HT.sIx_none, List.drop_zero, Nat.sub_zero]
  show 1 ≤ (List.toArray _).size
  rw [List.size_toArray, List.length_take, Array.length_toList]
  have : z.length = z.cps.size := rfl
  omega
theorem mid_one (a b : Str) (x : Int) : 1 ≤ (a ++ letS x ++ b).length := by
  rw [Str.length_append, Str.length_append]
  have : (letS x).length = 1 := rfl
  omega
theorem run_names3 (n : Nat) (c : Int) : ∃ a b d : Str, Low 13 a ∧ Low 13 b ∧ Low 13 d ∧ (1 ≤ a.length ∧ 1 ≤ b.length ∧ 1 ≤ d.length) ∧ (a ≠ "zzzzzz" ∧ b ≠ "zzzzzz" ∧ d ≠ "zzzzzz") ∧ Phi (n + 1) .l_names [.int c] = some (.ok (.list [.str a, .str b, .str d])) := by
  rw [phi_l_names]
  have hl : ∀ s ∈ [letS (c / 7), letS (c / 7 + 5), letS (c / 7 + 10), letS (c / 7 + 15), letS (c / 7 + 20), letS (c / 7 + 25)], Low 1 s := by
    intro s hs
    simp only [List.mem_cons, List.not_mem_nil, or_false] at hs
    rcases hs with rfl | rfl | rfl | rfl | rfl | rfl <;> exact letS_low _
  have hj := oJoin_six hl
  have zz := join_zig (c / 7)
  have hr := join_low _ hl
  generalize hz : Txt.join "" [letS (c / 7), letS (c / 7 + 5), letS (c / 7 + 10), letS (c / 7 + 15), letS (c / 7 + 20), letS (c / 7 + 25)] = z at hj hr zz
  have hr : Low 6 z := hr
  have hz1 : 1 ≤ z.length := by rw [← hz]; exact Nat.le_trans (show 1 ≤ (letS (c / 7)).length from Nat.le_refl 1) (join_one _ _ _)
  have hb : z.length ≤ big := Nat.le_trans hr.len (by decide)
  have sl := fun lo hi => oSl_str hb lo hi
  have hrest : lcF (gfN 8) gYes (f2 oIx (fOpd 1) (f2 oMod (f2 oAdd (f2 oDiv (fOpd 0) (fCon (.int 7))) (f2 oMul (fCon (.int 5)) (fOpd 8))) (fCon (.int 26)))) [.va (.int c), .va (.str "abcdefghijklmnopqrstuvwxyz"), .no, .no, .no, .no, .no, .no, .no] [.int 0, .int 1, .int 2, .int 3, .int 4, .int 5]
      = some [.str (letS (c / 7)), .str (letS (c / 7 + 5)), .str (letS (c / 7 + 10)), .str (letS (c / 7 + 15)), .str (letS (c / 7 + 20)), .str (letS (c / 7 + 25))] := by
    simp [lcF, fOwn, fOpN,  fSeq, fNext, sRet, sRetN, sIf, sSet, sSetO, sAsg, sApp, sFor, forF, fVar, fOpd, fCon, f2, f1, fNil, fCons, bR, bL, bA, bLL, oR, fT, gAnd, gOr, gNot, gYes, fAnd, fOr, fNot, fIte, fTup, fLst, fCall, fCallO, fB, fM1, fSl, fiNo, fiSm, fLc, wLst, wTup, wStr, wRg1, wRg2, wZip, wEnum, gfN, gfTup, gsNil, gsCons, fLrg, fLrg3, wipeG, xSeq, xSet, xOf, xCall, xIf, xRet, xNext, xTup, xCons, xNil, xPut, xCallP, sRetX, sSetX, List.getElem?_cons_zero, List.getElem?_cons_succ, List.set_cons_zero, List.set_cons_succ, mul5, ix_letter]
  by_cases h2 : c % 3 = 2
  · refine ⟨cutS z none (some (1 + c / 3 % 4 + 0)), cutS z none (some (1 + c / 3 % 4 + 1)), cutS z none (some (1 + c / 3 % 4 + 2)), ?_, ?_, ?_, ?_, ⟨zig_cut zz _, zig_cut zz _, zig_cut zz _⟩, ?_⟩
    · exact ⟨(hr.cut _ _).let_, Nat.le_trans (hr.cut _ _).len (by decide)⟩
    · exact ⟨(hr.cut _ _).let_, Nat.le_trans (hr.cut _ _).len (by decide)⟩
    · exact ⟨(hr.cut _ _).let_, Nat.le_trans (hr.cut _ _).len (by decide)⟩
    · have h4 := Int.emod_nonneg (c / 3) (show (4 : Int) ≠ 0 by decide)
      exact ⟨cut_one hz1 (by omega), cut_one hz1 (by omega), cut_one hz1 (by omega)⟩
    have hsl : lcF (gfN 6) gYes (fSl (fOpd 2) fiNo (fiSm (f2 oAdd (fOpd 3) (fOpd 6)))) [.va (.int c), .va (.str "abcdefghijklmnopqrstuvwxyz"), .va (.str z), .va (.int (1 + c / 3 % 4)), .no, .no, .no, .no, .no] [.int 0, .int 1, .int 2]
        = some [.str (cutS z none (some (1 + c / 3 % 4 + 0))), .str (cutS z none (some (1 + c / 3 % 4 + 1))), .str (cutS z none (some (1 + c / 3 % 4 + 2)))] := by
      simp [lcF, fOwn, fOpN,  fSeq, fNext, sRet, sRetN, sIf, sSet, sSetO, sAsg, sApp, sFor, forF, fVar, fOpd, fCon, f2, f1, fNil, fCons, bR, bL, bA, bLL, oR, fT, gAnd, gOr, gNot, gYes, fAnd, fOr, fNot, fIte, fTup, fLst, fCall, fCallO, fB, fM1, fSl, fiNo, fiSm, fLc, wLst, wTup, wStr, wRg1, wRg2, wZip, wEnum, gfN, gfTup, gsNil, gsCons, fLrg, fLrg3, wipeG, xSeq, xSet, xOf, xCall, xIf, xRet, xNext, xTup, xCons, xNil, xPut, xCallP, sRetX, sSetX, List.getElem?_cons_zero, List.getElem?_cons_succ, List.set_cons_zero, List.set_cons_succ, sl]
    unfold runF f_l_names
    simp [entry, fOwn, fOpN,  fSeq, fNext, sRet, sRetN, sIf, sSet, sSetO, sAsg, sApp, sFor, forF, fVar, fOpd, fCon, f2, f1, fNil, fCons, bR, bL, bA, bLL, oR, fT, gAnd, gOr, gNot, gYes, fAnd, fOr, fNot, fIte, fTup, fLst, fCall, fCallO, fB, fM1, fSl, fiNo, fiSm, fLc, wLst, wTup, wStr, wRg1, wRg2, wZip, wEnum, gfN, gfTup, gsNil, gsCons, fLrg, fLrg3, wipeG, xSeq, xSet, xOf, xCall, xIf, xRet, xNext, xTup, xCons, xNil, xPut, xCallP, sRetX, sSetX, List.getElem?_cons_zero, List.getElem?_cons_succ, List.set_cons_zero, List.set_cons_succ, rg6, rg3, rgo6, rgo3, hrest, hj, h2, List.replicate, hsl]
  · have hs := Int.emod_nonneg (c / 3) (show (6 : Int) ≠ 0 by decide)
    have h6 := Int.emod_lt_of_pos (c / 3) (show (0 : Int) < 6 by decide)
    have pos' : (0 : Int) < c / 3 % 6 + 1 := by omega
    have a0 := Int.emod_nonneg (c / 18) (show c / 3 % 6 + 1 ≠ 0 by omega)
    have a1 := Int.emod_lt_of_pos (c / 18) pos'
    have c2 : (c % 3 == 2) = false := beq_eq_false_iff_ne.mpr h2
    have w1 : ∀ x : Int, (cutS z none (some (c / 18 % (c / 3 % 6 + 1)))).length + (letS x).length ≤ big := fun x => by
      have h1 := (hr.cut none (some (c / 18 % (c / 3 % 6 + 1)))).len
      have h2 := (letS_low x).len
      unfold big; omega
    have w2 : ∀ x : Int, (cutS z none (some (c / 18 % (c / 3 % 6 + 1))) ++ letS x).length + (cutS z (some (c / 18 % (c / 3 % 6 + 1))) (some (c / 3 % 6))).length ≤ big := fun x => by
      have h1 := ((hr.cut none (some (c / 18 % (c / 3 % 6 + 1)))).app (letS_low x)).len
      have h2 := (hr.cut (some (c / 18 % (c / 3 % 6 + 1))) (some (c / 3 % 6))).len
      unfold big; omega
    have low : ∀ x : Int, Low 13 (cutS z none (some (c / 18 % (c / 3 % 6 + 1))) ++ letS x ++ cutS z (some (c / 18 % (c / 3 % 6 + 1))) (some (c / 3 % 6))) := fun x =>
      ((hr.cut none (some (c / 18 % (c / 3 % 6 + 1)))).app (letS_low x)).app (hr.cut (some (c / 18 % (c / 3 % 6 + 1))) (some (c / 3 % 6)))
    refine ⟨_, _, _, low (c / 90 + 7 * 0), low (c / 90 + 7 * 1), low (c / 90 + 7 * 2), ⟨mid_one _ _ _, mid_one _ _ _, mid_one _ _ _⟩, ⟨zig_mid zz hs h6 (by omega) (by omega) _, zig_mid zz hs h6 (by omega) (by omega) _, zig_mid zz hs h6 (by omega) (by omega) _⟩, ?_⟩
    have pos : (0 : Int) < c / 3 % 6 + 1 := by omega
    unfold runF f_l_names
    simp [entry, fOwn, fOpN,  fSeq, fNext, sRet, sRetN, sIf, sSet, sSetO, sAsg, sApp, sFor, forF, fVar, fOpd, fCon, f2, f1, fNil, fCons, bR, bL, bA, bLL, oR, fT, gAnd, gOr, gNot, gYes, fAnd, fOr, fNot, fIte, fTup, fLst, fCall, fCallO, fB, fM1, fSl, fiNo, fiSm, fLc, wLst, wTup, wStr, wRg1, wRg2, wZip, wEnum, gfN, gfTup, gsNil, gsCons, fLrg, fLrg3, wipeG, xSeq, xSet, xOf, xCall, xIf, xRet, xNext, xTup, xCons, xNil, xPut, xCallP, sRetX, sSetX, List.getElem?_cons_zero, List.getElem?_cons_succ, List.set_cons_zero, List.set_cons_succ, rg6, rg3, rgo6, rgo3, hrest, hj, c2, List.replicate, sl, ix_letter, mul7, oAdd_str (w1 _), oAdd_str (w2 _), oMod_int _ _ pos]
end K08

namespace K08
open PySem PySem.Spec PyProof.Rows L2 Py
/-! ### small parts -/
theorem str_shaped {m : Str} (h : okM m) : SeqAt.shaped (.str m) = true := by
  show ((PyData.str m).canLay0 && decide ((PyData.str m).depth ≤ 64)) = true
  have h' : PyData.strOk m = true := h
  simp [PyData.canLay0, PyData.depth, h']
theorem lstrs_shaped {l : List Str} (h : ∀ s ∈ l, okM s) : SeqAt.shaped (.list (l.map .str)) = true := by
  have h1 : PyData.canLayAll0 (l.map PyData.str) = true := by
    induction l with
    | nil => simp [PyData.canLayAll0]
    | cons b r ih => simp [PyData.canLayAll0, PyData.canLay0, ih fun s hs => h s (List.mem_cons_of_mem _ hs)]; exact h b List.mem_cons_self
  have h2 : PyData.depthAll (l.map PyData.str) = 0 := by
    clear h h1
    induction l with
    | nil => simp [PyData.depthAll]
    | cons b r ih => simp [PyData.depthAll, PyData.depth, ih]
  show ((PyData.list (l.map .str)).canLay0 && decide ((PyData.list (l.map .str)).depth ≤ 64)) = true
  simp [PyData.canLay0, PyData.depth, h1, h2]
theorem in_strs {l : List Str} {m : Str} (hl : ∀ s ∈ l, okM s) (hm : okM m) : oIn true (.str m) (.list (l.map .str)) = some (.bool (!decide (m ∈ l))) := by
  have e : ((l.map PyData.str).any fun z => PyData.eqv z (.str m)) = decide (m ∈ l) := by
    clear hl
    induction l with
    | nil => simp
    | cons b r ih =>
      rw [List.map_cons, List.any_cons, ih]
      have : PyData.eqv (.str b) (.str m) = decide (m = b) := by
        simp [PyData.eqv]
        by_cases h : b = m
        · subst h; simp
        · have h' : ¬ m = b := fun z => h z.symm
          simp [h, h']
      rw [this]
      simp [List.mem_cons]
  show (if SeqAt.shaped (.str m) = true ∧ SeqAt.shaped (.list (l.map PyData.str)) = true then some (PyData.bool (if true = true then !((l.map PyData.str).any fun z => PyData.eqv z (.str m)) else (l.map PyData.str).any fun z => PyData.eqv z (.str m))) else none) = _
  rw [if_pos ⟨str_shaped hm, lstrs_shaped hl⟩, e]
  simp
theorem wish_pasts {s w : Sta} (hw : w ∈ wishesT s) : ∀ o ∈ allT w, isPast o → o ∈ allT s := by
  intro o ho hp
  rcases mem_wishesT.mp hw with rfl | ⟨p, h1, h2⟩
  · exact ho
  · cases p with
    | nx a => simp [moreT] at h2; subst h2; exact allT_trans h1 (by simp [allT, ho])
    | un a b => simp [moreT] at h2; subst h2; exact allT_trans h1 ho
    | wi k a =>
      simp [moreT] at h2
      obtain ⟨j, hj, rfl⟩ := h2
      rcases List.mem_cons.mp ho with rfl | q
      · exact hp.elim
      · exact allT_trans h1 (by simp [allT, q])
    | _ => simp [moreT] at h2
/-- two lists without repetition and of the same members are as long -/
theorem same_len {α : Type} [DecidableEq α] {l r : List α} (hl : l.Nodup) (hr : r.Nodup) (h : ∀ x, x ∈ l ↔ x ∈ r) : l.length = r.length :=
  Nat.le_antisymm (nodup_len l r hl fun x hx => (h x).mp hx) (nodup_len r l hr fun x hx => (h x).mpr hx)
def fieldsD (W P : List Sta) (Ms : List Str) : D := .list [encL W, encL P, .list (Ms.map .str), .list (wts W.length)]
theorem run_fields (W P : List Sta) (Ms : List Str) (n : Nat) : Phi (n + 1) .l_fields [planOf W P Ms] = some (.ok (fieldsD W P Ms)) := by
  rw [phi_l_fields]
  refine runF_rt rfl ?_
  unfold f_l_fields
  have e : entry 1 [planOf W P Ms] = [.va (planOf W P Ms)] := rfl
  rw [e]
  unfold planOf
  simp [fOwn, fOpN,  fSeq, fNext, sRet, sRetN, sIf, sSet, sSetO, sAsg, sApp, sFor, forF, fVar, fOpd, fCon, f2, f1, fNil, fCons, bR, bL, bA, bLL, oR, fT, gAnd, gOr, gNot, gYes, fAnd, fOr, fNot, fIte, fTup, fLst, fCall, fCallO, fB, fM1, fSl, fiNo, fiSm, fLc, wLst, wTup, wStr, wRg1, wRg2, wZip, wEnum, gfN, gfTup, gsNil, gsCons, fLrg, fLrg3, wipeG, xSeq, xSet, xOf, xCall, xIf, xRet, xNext, xTup, xCons, xNil, xPut, xCallP, sRetX, sSetX, List.getElem?_cons_zero, List.getElem?_cons_succ, List.set_cons_zero, List.set_cons_succ, fldW, fldP, fldM, fldT, oList, encL, fieldsD]

theorem okD_int {n : Nat} (i : Int) : OkD n (.int i) := ⟨by simp [PyData.canLay0], by simp [PyData.depth], by simp [PyData.eqv]⟩
theorem okD_non {n : Nat} : OkD n .none := ⟨by simp [PyData.canLay0], by simp [PyData.depth], by simp [PyData.eqv]⟩
theorem okD_encs {d : Nat} {l : List Sta} (h : ∀ s ∈ l, Fine d okM s) : ∀ x ∈ l.map enc, OkD d x := fun x hx => by
  obtain ⟨s, hs, rfl⟩ := List.mem_map.mp hx
  exact okD_enc (h s hs)
theorem okD_strs {n : Nat} {l : List Str} (h : ∀ s ∈ l, okM s) : ∀ x ∈ l.map PyData.str, OkD n x := fun x hx => by
  obtain ⟨s, hs, rfl⟩ := List.mem_map.mp hx
  exact okD_str (h s hs)
theorem okD_fields {d : Nat} {W P : List Sta} {Ms : List Str} (k : PlanOk d W P) (hM : ∀ m ∈ Ms, okM m) : OkD (d + 2) (fieldsD W P Ms) := by
  refine okD_list fun x hx => ?_
  simp only [List.mem_cons, List.not_mem_nil, or_false] at hx
  rcases hx with rfl | rfl | rfl | rfl
  · exact okD_list (okD_encs k.fw)
  · exact okD_list (okD_encs k.fp)
  · exact okD_list (okD_strs hM)
  · refine okD_list fun y hy => ?_
    unfold wts at hy
    obtain ⟨i, _, rfl⟩ := List.mem_map.mp hy
    exact okD_int _
end K08

namespace K08
open PySem PySem.Spec PyProof.Rows L2 Py
/-! ### rows of marks in order: the shorter ones first, then as Python orders lists (told backwards) -/
def ltV : List Nat → List Nat → Prop
  | [], [] => False
  | [], _ :: _ => True
  | _ :: _, [] => False
  | m :: a, k :: b => ltV a b ∨ (a = b ∧ m < k)
theorem ltV_irr : ∀ a : List Nat, ¬ ltV a a
  | [] => fun h => h
  | m :: a => fun h => h.elim (ltV_irr a) fun q => Nat.lt_irrefl m q.2
theorem ltV_trans : ∀ {a b c : List Nat}, ltV a b → ltV b c → ltV a c
  | [], [], _, h, _ => h.elim
  | [], _ :: _, [], _, h => h.elim
  | [], _ :: _, _ :: _, _, _ => trivial
  | _ :: _, [], _, h, _ => h.elim
  | _ :: _, _ :: _, [], _, h => h.elim
  | m :: a, k :: b, n :: c, h, h2 => by
    rcases h with h | ⟨e, h⟩
    · rcases h2 with h2 | ⟨e2, _⟩
      · exact .inl (ltV_trans h h2)
      · exact .inl (e2 ▸ h)
    · rcases h2 with h2 | ⟨e2, h2⟩
      · exact .inl (e ▸ h2)
      · exact .inr ⟨e.trans e2, Nat.lt_trans h h2⟩
theorem ltV_len : ∀ {a b : List Nat}, ltV a b → a.length ≤ b.length
  | [], _, _ => Nat.zero_le _
  | _ :: _, [], h => h.elim
  | m :: a, k :: b, h => by
    rcases h with h | ⟨e, _⟩
    · exact Nat.succ_le_succ (ltV_len h)
    · rw [e]; exact Nat.le_refl _
theorem ltV_of_len : ∀ {a b : List Nat}, a.length < b.length → ltV a b
  | [], [], h => absurd h (Nat.lt_irrefl _)
  | [], _ :: _, _ => trivial
  | _ :: _, [], h => absurd h (Nat.not_lt_zero _)
  | _ :: a, _ :: b, h => .inl (ltV_of_len (Nat.lt_of_succ_lt_succ h))
/-- the index of a mark -/
def ixM (Ms : List Str) (m : Str) : Nat := Ms.findIdx fun x => decide (x = m)
/-- a row, told backwards by indices -/
def rv (Ms : List Str) (r : List Str) : List Nat := r.reverse.map (ixM Ms)
theorem rv_snoc (Ms : List Str) (r : List Str) (m : Str) : rv Ms (r ++ [m]) = ixM Ms m :: rv Ms r := by simp [rv]
theorem rv_len (Ms r : List Str) : (rv Ms r).length = r.length := by simp [rv]
def leR (Ms : List Str) (a b : List Str) : Prop := a = b ∨ ltV (rv Ms a) (rv Ms b)
theorem leR_snoc {Ms a b : List Str} (m : Str) (h : leR Ms a b) : leR Ms (a ++ [m]) (b ++ [m]) := by
  rcases h with h | h
  · exact .inl (by rw [h])
  · exact .inr (by rw [rv_snoc, rv_snoc]; exact .inl h)
theorem lt_snoc {Ms a b : List Str} (m k : Str) (h : ltV (rv Ms a) (rv Ms b)) : ltV (rv Ms (a ++ [m])) (rv Ms (b ++ [k])) := by rw [rv_snoc, rv_snoc]; exact .inl h
theorem lt_self (Ms a : List Str) (m : Str) : ltV (rv Ms a) (rv Ms (a ++ [m])) := ltV_of_len (by rw [rv_len, rv_len]; simp)
theorem leR_trans {Ms a b c : List Str} (h : leR Ms a b) (h2 : leR Ms b c) : leR Ms a c := by
  rcases h with h | h
  · rw [h]; exact h2
  · rcases h2 with h2 | h2
    · exact .inr (h2 ▸ h)
    · exact .inr (ltV_trans h h2)
theorem le_lt {Ms a b c : List Str} (h : leR Ms a b) (h2 : ltV (rv Ms b) (rv Ms c)) : ltV (rv Ms a) (rv Ms c) := by
  rcases h with h | h
  · rw [h]; exact h2
  · exact ltV_trans h h2
theorem lt_le {Ms a b c : List Str} (h : ltV (rv Ms a) (rv Ms b)) (h2 : leR Ms b c) : ltV (rv Ms a) (rv Ms c) := by
  rcases h2 with h2 | h2
  · rw [← h2]; exact h
  · exact ltV_trans h h2
theorem ix_at {Ms : List Str} {m : Str} (h : m ∈ Ms) : Ms[ixM Ms m]? = some m := by
  have hl : ixM Ms m < Ms.length := List.findIdx_lt_length_of_exists ⟨m, h, by simp⟩
  rw [List.getElem?_eq_getElem hl]
  have := List.findIdx_getElem (xs := Ms) (p := fun x => decide (x = m)) (w := hl)
  simp only [decide_eq_true_eq] at this
  exact congrArg some this
theorem ix_nodup {Ms : List Str} (h : Ms.Nodup) {k : Nat} {m : Str} (hk : Ms[k]? = some m) : ixM Ms m = k := by
  have hm : m ∈ Ms := List.mem_of_getElem? hk
  have e := ix_at hm
  have hl : ixM Ms m < Ms.length := (List.getElem?_eq_some_iff.mp e).1
  have hkl : k < Ms.length := (List.getElem?_eq_some_iff.mp hk).1
  rw [List.getElem?_eq_getElem hl] at e
  rw [List.getElem?_eq_getElem hkl] at hk
  exact (List.getElem_inj h).mp (Option.some.inj (e.trans hk.symm))
end K08

namespace K08
open PySem PySem.Spec PyProof.Rows L2 Py
/-! ### the search for a shortest row -/
abbrev Prs := Sst × List Str
def prD (p : Prs) : D := .tuple [stD p.1, newD (p.2.map .str)]
/-- what has been found, in which order; mq: marks of the one at hand that are still to come -/
structure Go (W P : List Sta) (V : List Str) (Ms : List Str) (s0 : Sst) (wanted : Bool) (at_ : Nat) (mq : List Str) (F : List Prs) : Prop where
  nd : (F.map Prod.fst).Nodup
  ok : ∀ p ∈ F, Jst W P V p.1 ∧ (∀ m ∈ p.2, m ∈ Ms) ∧ p.1 = stepsT W P p.2 s0
  hd : F[0]? = some (s0, [])
  up : ∀ (i j : Nat) (p q : Prs), i < j → F[i]? = some p → F[j]? = some q → ltV (rv Ms p.2) (rv Ms q.2)
  no : ∀ i < at_, ∀ p : Prs, F[i]? = some p → metT p.1 ≠ wanted
  cl : ∀ (j : Nat) (p : Prs) (m : Str), F[j]? = some p → m ∈ Ms → (j < at_ ∨ (j = at_ ∧ m ∉ mq)) → ∃ q ∈ F, q.1 = stepT W P m p.1 ∧ leR Ms q.2 (p.2 ++ [m])
  /-- every row is behind one of those that are done -/
  fr : ∀ p ∈ F, p.2 = [] ∨ ∃ (k : Nat) (q : Prs) (m : Str), F[k]? = some q ∧ p.2 = q.2 ++ [m] ∧ (k < at_ ∨ (k = at_ ∧ ∀ x ∈ mq, ixM Ms m < ixM Ms x))
  le : at_ ≤ F.length
theorem go_first {W P : List Sta} {V : List Str} {Ms : List Str} {s0 : Sst} {wanted : Bool} (j : Jst W P V s0) : Go W P V Ms s0 wanted 0 Ms [(s0, [])] := by
  refine ⟨by simp, fun p hp => by simp at hp; subst hp; exact ⟨j, by simp, rfl⟩, rfl, fun i j p q hij h1 h2 => ?_, fun i hi => by omega, fun j p m _ hm h => ?_, fun p hp => by simp at hp; subst hp; exact .inl rfl, Nat.zero_le _⟩
  · have h1' : i < 1 := (List.getElem?_eq_some_iff.mp h1).1
    have h2' : j < 1 := (List.getElem?_eq_some_iff.mp h2).1
    omega
  · rcases h with h | ⟨_, h⟩
    · omega
    · exact absurd hm h
/-- a row in the list is ahead of what the one at hand leads to -/
theorem go_ahead {W P : List Sta} {V : List Str} {Ms : List Str} {s0 : Sst} {wanted : Bool} {at_ : Nat} {m : Str} {mq : List Str} {F : List Prs} (g : Go W P V Ms s0 wanted at_ (m :: mq) F) {a : Prs} (ha : F[at_]? = some a) : ∀ p ∈ F, ltV (rv Ms p.2) (rv Ms (a.2 ++ [m])) := by
  intro p hp
  rcases g.fr p hp with e | ⟨k, q, x, hk, e, h⟩
  · rw [e]; exact ltV_of_len (by rw [rv_len, rv_len]; simp)
  · rw [e]
    rcases h with h | ⟨h, hx⟩
    · exact lt_snoc x m (g.up k at_ q a h hk ha)
    · subst h
      rw [ha] at hk
      cases hk
      rw [rv_snoc, rv_snoc]
      exact .inr ⟨rfl, hx m List.mem_cons_self⟩
theorem go_old {W P : List Sta} {V : List Str} {Ms : List Str} {s0 : Sst} {wanted : Bool} {at_ : Nat} {m : Str} {mq : List Str} {F : List Prs} (g : Go W P V Ms s0 wanted at_ (m :: mq) F) {a : Prs} (ha : F[at_]? = some a) (hin : stepT W P m a.1 ∈ F.map Prod.fst) : Go W P V Ms s0 wanted at_ mq F := by
  refine ⟨g.nd, g.ok, g.hd, g.up, g.no, fun j p x hj hx h => ?_, fun p hp => ?_, g.le⟩
  · by_cases hxm : x = m ∧ j = at_
    · obtain ⟨rfl, rfl⟩ := hxm
      rw [ha] at hj
      cases hj
      obtain ⟨q, hq, e⟩ := List.mem_map.mp hin
      exact ⟨q, hq, e, .inr (go_ahead g ha q hq)⟩
    · refine g.cl j p x hj hx ?_
      rcases h with h | ⟨h, h2⟩
      · exact .inl h
      · exact .inr ⟨h, fun z => (List.mem_cons.mp z).elim (fun e => hxm ⟨e, h⟩) h2⟩
  · rcases g.fr p hp with e | ⟨k, q, x, hk, e, h⟩
    · exact .inl e
    · refine .inr ⟨k, q, x, hk, e, ?_⟩
      rcases h with h | ⟨h, hx⟩
      · exact .inl h
      · exact .inr ⟨h, fun y hy => hx y (List.mem_cons_of_mem _ hy)⟩
theorem go_new {d : Nat} {S : Sta} {W P : List Sta} {V : List Str} (pl : Pln d W P V S) {Ms : List Str} {s0 : Sst} {wanted : Bool} {at_ : Nat} {m : Str} {mq : List Str} {F : List Prs} (nq : ∀ x ∈ mq, ixM Ms m < ixM Ms x) (hm : m ∈ Ms) (g : Go W P V Ms s0 wanted at_ (m :: mq) F) {a : Prs} (ha : F[at_]? = some a) (hin : stepT W P m a.1 ∉ F.map Prod.fst) :
    Go W P V Ms s0 wanted at_ mq (F ++ [(stepT W P m a.1, a.2 ++ [m])]) := by
  have hlt : at_ < F.length := (List.getElem?_eq_some_iff.mp ha).1
  have am : a ∈ F := List.mem_of_getElem? ha
  obtain ⟨ja, ma, ea⟩ := g.ok a am
  have get : ∀ {i : Nat} {p : Prs}, (F ++ [(stepT W P m a.1, a.2 ++ [m])])[i]? = some p → F[i]? = some p ∨ (i = F.length ∧ p = (stepT W P m a.1, a.2 ++ [m])) := fun {i p} h => by
    by_cases hi : i < F.length
    · rw [List.getElem?_append_left hi] at h; exact .inl h
    · have hi2 : i < F.length + 1 := by have := (List.getElem?_eq_some_iff.mp h).1; simp at this; omega
      have e : i = F.length := by omega
      subst e
      rw [List.getElem?_append_right (Nat.le_refl _), Nat.sub_self] at h
      cases h
      exact .inr ⟨rfl, rfl⟩
  have put : ∀ {i : Nat} {p : Prs}, F[i]? = some p → (F ++ [(stepT W P m a.1, a.2 ++ [m])])[i]? = some p := fun {i p} h => by rw [List.getElem?_append_left (List.getElem?_eq_some_iff.mp h).1]; exact h
  refine ⟨?_, fun p hp => ?_, put g.hd, fun i j p q hij h1 h2 => ?_, fun i hi p hp => ?_, fun j p x hj hx h => ?_, fun p hp => ?_, by simp; omega⟩
  · rw [List.map_append]
    exact List.nodup_append.mpr ⟨g.nd, by simp, fun x hx y hy e => hin (by simp at hy; rw [← hy, ← e]; exact hx)⟩
  · rcases List.mem_append.mp hp with q | q
    · exact g.ok p q
    · simp at q
      subst q
      refine ⟨pl.step m ja, fun x hx => ?_, ?_⟩
      · rcases List.mem_append.mp hx with z | z
        · exact ma x z
        · simp at z; subst z; exact hm
      · show stepT W P m a.1 = stepsT W P (a.2 ++ [m]) s0
        rw [stepsT_app, ← ea]
        rfl
  · rcases get h2 with q2 | ⟨e2, e2'⟩
    · rcases get h1 with q1 | ⟨e1, _⟩
      · exact g.up i j p q hij q1 q2
      · have := (List.getElem?_eq_some_iff.mp q2).1; omega
    · rcases get h1 with q1 | ⟨e1, _⟩
      · rw [e2']; exact go_ahead g ha p (List.mem_of_getElem? q1)
      · omega
  · rcases get hp with q | ⟨e, _⟩
    · exact g.no i hi p q
    · omega
  · rcases get hj with q | ⟨e, _⟩
    · by_cases hxm : x = m ∧ j = at_
      · obtain ⟨rfl, rfl⟩ := hxm
        rw [ha] at q
        cases q
        exact ⟨_, List.mem_append_right _ List.mem_cons_self, rfl, .inl rfl⟩
      · obtain ⟨q', h1, h2, h3⟩ := g.cl j p x q hx (by
          rcases h with h | ⟨h, h2⟩
          · exact .inl h
          · exact .inr ⟨h, fun z => (List.mem_cons.mp z).elim (fun e => hxm ⟨e, h⟩) h2⟩)
        exact ⟨q', List.mem_append_left _ h1, h2, h3⟩
    · rcases h with h | ⟨h, _⟩ <;> omega
  · rcases List.mem_append.mp hp with q | q
    · rcases g.fr p q with e | ⟨k, q', x, hk, e, h⟩
      · exact .inl e
      · refine .inr ⟨k, q', x, put hk, e, ?_⟩
        rcases h with h | ⟨h, hx⟩
        · exact .inl h
        · exact .inr ⟨h, fun y hy => hx y (List.mem_cons_of_mem _ hy)⟩
    · simp at q
      subst q
      exact .inr ⟨at_, a, m, put ha, rfl, .inr ⟨rfl, nq⟩⟩
theorem go_next {W P : List Sta} {V : List Str} {Ms : List Str} {s0 : Sst} {wanted : Bool} {at_ : Nat} {F : List Prs} (g : Go W P V Ms s0 wanted at_ [] F) {a : Prs} (ha : F[at_]? = some a) (hn : metT a.1 ≠ wanted) : Go W P V Ms s0 wanted (at_ + 1) Ms F := by
  have hlt : at_ < F.length := (List.getElem?_eq_some_iff.mp ha).1
  refine ⟨g.nd, g.ok, g.hd, g.up, fun i hi p hp => ?_, fun j p x hj hx h => ?_, fun p hp => ?_, by omega⟩
  · by_cases e : i = at_
    · subst e; rw [ha] at hp; cases hp; exact hn
    · exact g.no i (by omega) p hp
  · refine g.cl j p x hj hx ?_
    rcases h with h | ⟨h, h2⟩
    · by_cases e : j = at_
      · exact .inr ⟨e, fun z => by cases z⟩
      · exact .inl (by omega)
    · exact absurd hx h2
  · rcases g.fr p hp with e | ⟨k, q, x, hk, e, h⟩
    · exact .inl e
    · exact .inr ⟨k, q, x, hk, e, .inl (by rcases h with h | ⟨h, _⟩ <;> omega)⟩
/-- whatever row: it, or a beginning of it, is here -/
theorem go_al {W P : List Sta} {V : List Str} {Ms : List Str} {s0 : Sst} {wanted : Bool} {at_ : Nat} {F : List Prs} (g : Go W P V Ms s0 wanted at_ Ms F) : ∀ (v u : List Str) (j : Nat) (p : Prs), F[j]? = some p → p.1 = stepsT W P u s0 → leR Ms p.2 u → (∀ m ∈ v, m ∈ Ms) →
    ∃ (j' : Nat) (p' : Prs) (u' v' : List Str), F[j']? = some p' ∧ u ++ v = u' ++ v' ∧ p'.1 = stepsT W P u' s0 ∧ leR Ms p'.2 u' ∧ (v' = [] ∨ at_ ≤ j') := by
  intro v
  induction v with
  | nil => intro u j p h1 h2 h3 _; exact ⟨j, p, u, [], h1, rfl, h2, h3, .inl rfl⟩
  | cons m v ih =>
    intro u j p h1 h2 h3 hv
    by_cases hj : at_ ≤ j
    · exact ⟨j, p, u, m :: v, h1, rfl, h2, h3, .inr hj⟩
    · obtain ⟨q, hq, e, l⟩ := g.cl j p m h1 (hv m List.mem_cons_self) (.inl (by omega))
      obtain ⟨j2, hj2, ej2⟩ := List.mem_iff_getElem.mp hq
      obtain ⟨j', p', u', v', a1, a2, a3, a4, a5⟩ := ih (u ++ [m]) j2 q (by rw [List.getElem?_eq_getElem hj2, ej2]) (by rw [stepsT_app, ← h2]; exact e) (leR_trans l (leR_snoc m h3)) fun x hx => hv x (List.mem_cons_of_mem _ hx)
      exact ⟨j', p', u', v', a1, by rw [← a2, List.append_assoc]; rfl, a3, a4, a5⟩
theorem leR_pre (Ms u : List Str) : ∀ v : List Str, leR Ms u (u ++ v) := fun v => by
  cases v with
  | nil => exact .inl (by simp)
  | cons m v => exact .inr (ltV_of_len (by rw [rv_len, rv_len]; simp))
theorem go_hit {W P : List Sta} {V : List Str} {Ms : List Str} {s0 : Sst} {wanted : Bool} {at_ : Nat} {F : List Prs} (g : Go W P V Ms s0 wanted at_ Ms F) {a : Prs} (ha : F[at_]? = some a) : ∀ w : List Str, (∀ m ∈ w, m ∈ Ms) → ltV (rv Ms w) (rv Ms a.2) → metT (stepsT W P w s0) ≠ wanted := by
  intro w hw hl
  obtain ⟨j, p, u, v, h1, h2, h3, h4, h5⟩ := go_al g w [] 0 _ g.hd rfl (.inl rfl) hw
  rw [List.nil_append] at h2
  rcases h5 with h5 | h5
  · subst h5
    rw [List.append_nil] at h2
    subst h2
    rw [← h3]
    have lp := le_lt h4 hl
    have hj : j < at_ := by
      rcases Nat.lt_trichotomy j at_ with z | z | z
      · exact z
      · subst z; rw [ha] at h1; cases h1; exact absurd lp (ltV_irr _)
      · exact absurd (ltV_trans lp (g.up at_ j a p z ha h1)) (ltV_irr _)
    exact g.no j hj p h1
  · exfalso
    have a1 : leR Ms a.2 p.2 := by
      rcases Nat.lt_or_ge at_ j with z | z
      · exact .inr (g.up at_ j a p z ha h1)
      · have : j = at_ := by omega
        subst this
        rw [ha] at h1; cases h1; exact .inl rfl
    have a2 : leR Ms a.2 w := by rw [h2]; exact leR_trans (leR_trans a1 h4) (leR_pre Ms u v)
    exact ltV_irr _ (le_lt a2 hl)
theorem go_miss {W P : List Sta} {V : List Str} {Ms : List Str} {s0 : Sst} {wanted : Bool} {F : List Prs} (g : Go W P V Ms s0 wanted F.length Ms F) : ∀ w : List Str, (∀ m ∈ w, m ∈ Ms) → metT (stepsT W P w s0) ≠ wanted := by
  intro w hw
  obtain ⟨j, p, u, v, h1, h2, h3, h4, h5⟩ := go_al g w [] 0 _ g.hd rfl (.inl rfl) hw
  have hj : j < F.length := (List.getElem?_eq_some_iff.mp h1).1
  rw [List.nil_append] at h2
  rcases h5 with h5 | h5
  · subst h5
    rw [List.append_nil] at h2
    subst h2
    rw [← h3]
    exact g.no j hj p h1
  · omega
/-! ### .. its walk -/
theorem strs_flat (l : List Str) : (l.map PyData.str).all flatD = true := by
  rw [List.all_eq_true]
  intro d hd
  obtain ⟨s, _, rfl⟩ := List.mem_map.mp hd
  rfl
theorem mark_loop {d : Nat} {S : Sta} {W P : List Sta} {V : List Str} (p : Pln d W P V S) {N : Nat} (hN : ∀ l : List Sst, l.Nodup → (∀ s ∈ l, Jst W P V s) → l.length ≤ N) (hz : N < big) {Ms : List Str} {s0 : Sst} {wanted : Bool} {at_ : Nat} {a : Prs} (hr : a.2.length + 1 ≤ big) (A1 A2 : Sl) {n : Nat} (hn : d + 3 ≤ n) :
    ∀ (mq : List Str) (F : List Prs) (x y : Sl), F[at_]? = some a → mq.Pairwise (fun x y => ixM Ms x < ixM Ms y) → (∀ m ∈ mq, m ∈ Ms) → Go W P V Ms s0 wanted at_ mq F → ∃ F' x' y', F'[at_]? = some a ∧ Go W P V Ms s0 wanted at_ [] F' ∧
      forF (gfN 6) (fSeq (sSet 9 (fCall (Phi n .stepped) (fCons (fVar 0) (fCons (fVar 7) (fCons (fVar 6) fNil))))) (sIf (fT (f2 (oIn true) (fOpd 9) (fOpd 4))) (fSeq (sApp 4 (fVar 9)) (sApp 3 (fTup (fCons (fVar 9) (fCons (fNew (f2 oAdd (fOpN 8) (fLst (fCons (fVar 6) fNil)))) fNil))))) fNext))
        (mq.map .str) [.va (planOf W P Ms), A1, A2, .ow (F.map prD), .ow ((F.map Prod.fst).map stD), .va (.int at_), x, .va (stD a.1), .va (newD (a.2.map .str)), y] = some (.nx [.va (planOf W P Ms), A1, A2, .ow (F'.map prD), .ow ((F'.map Prod.fst).map stD), .va (.int at_), x', .va (stD a.1), .va (newD (a.2.map .str)), y']) := by
  intro mq
  induction mq with
  | nil => intro F x y ha _ _ g; exact ⟨F, x, y, ha, g, rfl⟩
  | cons m mq ih =>
    intro F x y ha nq hq g
    obtain ⟨n1, n2⟩ := List.pairwise_cons.mp nq
    have hm := hq m List.mem_cons_self
    have ja := (g.ok a (List.mem_of_getElem? ha)).1
    have st := run_step p Ms m ja hn
    have i := in_sts (F.map Prod.fst) (stepT W P m a.1)
    have hl := hN _ g.nd fun s hs => by obtain ⟨q, hq, rfl⟩ := List.mem_map.mp hs; exact (g.ok q hq).1
    rw [List.length_map] at hl
    have hb1 : (F.map prD).length ≤ big := by rw [List.length_map]; omega
    have hb2 : ((F.map Prod.fst).map stD).length ≤ big := by rw [List.length_map, List.length_map]; omega
    have ad : oAdd (.list (a.2.map .str)) (.list [.str m]) = some (.list ((a.2 ++ [m]).map .str)) := by
      rw [oAdd_lst, if_pos (by simp only [List.length_map, List.length_cons, List.length_nil]; omega), List.map_append]
      rfl
    have b1 : 1 ≤ big := by decide
    have b2 : 2 ≤ big := by decide
    by_cases h : stepT W P m a.1 ∈ F.map Prod.fst
    · obtain ⟨F', x', y', e1, e2, e3⟩ := ih F (.va (.str m)) (.va (stD (stepT W P m a.1))) ha n2 (fun z hz => hq z (List.mem_cons_of_mem _ hz)) (go_old g ha h)
      refine ⟨F', x', y', e1, e2, ?_⟩
      rw [← e3]
      simp only [h, decide_true, Bool.not_true] at i
      simp only [List.map_cons, forF, fOwn, fOpN,  fSeq, fNext, sRet, sRetN, sIf, sSet, sSetO, sAsg, sApp, sFor, forF, fVar, fOpd, fCon, f2, f1, fNil, fCons, bR, bL, bA, bLL, oR, fT, gAnd, gOr, gNot, gYes, fAnd, fOr, fNot, fIte, fTup, fLst, fCall, fCallO, fB, fM1, fSl, fiNo, fiSm, fLc, wLst, wTup, wStr, wRg1, wRg2, wZip, wEnum, gfN, gfTup, gsNil, gsCons, fLrg, fLrg3, wipeG, xSeq, xSet, xOf, xCall, xIf, xRet, xNext, xTup, xCons, xNil, xPut, xCallP, sRetX, sSetX, List.getElem?_cons_zero, List.getElem?_cons_succ, List.set_cons_zero, List.set_cons_succ, st, i, bR_ok, bL_ok, bLL_ok, bA_ok, oR_some]
    · obtain ⟨F', x', y', e1, e2, e3⟩ := ih (F ++ [(stepT W P m a.1, a.2 ++ [m])]) (.va (.str m)) (.va (stD (stepT W P m a.1))) (by rw [List.getElem?_append_left (List.getElem?_eq_some_iff.mp ha).1]; exact ha) n2 (fun z hz => hq z (List.mem_cons_of_mem _ hz)) (go_new p n1 hm g ha h)
      refine ⟨F', x', y', e1, e2, ?_⟩
      rw [← e3]
      simp only [h, decide_false, Bool.not_false] at i
      generalize hFd : F.map prD = Fd at hb1
      generalize hSd : (F.map Prod.fst).map stD = Sd at hb2 i
      simp only [List.map_cons, List.map_append, List.map_nil, forF, fOwn, fOpN,  fSeq, fNext, sRet, sRetN, sIf, sSet, sSetO, sAsg, sApp, sFor, forF, fVar, fOpd, fCon, f2, f1, fNil, fCons, bR, bL, bA, bLL, oR, fT, gAnd, gOr, gNot, gYes, fAnd, fOr, fNot, fIte, fTup, fLst, fCall, fCallO, fB, fM1, fSl, fiNo, fiSm, fLc, wLst, wTup, wStr, wRg1, wRg2, wZip, wEnum, gfN, gfTup, gsNil, gsCons, fLrg, fLrg3, wipeG, xSeq, xSet, xOf, xCall, xIf, xRet, xNext, xTup, xCons, xNil, xPut, xCallP, sRetX, sSetX, List.getElem?_cons_zero, List.getElem?_cons_succ, List.set_cons_zero, List.set_cons_succ, fOpN, fNew, newD, st, i, hb1, hb2, ad, b1, b2, if_pos, List.length_cons, List.length_nil, Nat.zero_add, Nat.reduceAdd, bR_ok, bL_ok, bLL_ok, bA_ok, oR_some, prD, hFd, hSd]
theorem row_len {W P : List Sta} {V : List Str} {Ms : List Str} {s0 : Sst} {wanted : Bool} {at_ : Nat} {mq : List Str} {F : List Prs} (g : Go W P V Ms s0 wanted at_ mq F) : ∀ (i : Nat) (p : Prs), F[i]? = some p → p.2.length ≤ i := by
  intro i
  induction i using Nat.strongRecOn with
  | _ i ih =>
    intro p hp
    rcases g.fr p (List.mem_of_getElem? hp) with e | ⟨k, q, m, hk, e, _⟩
    · rw [e]; exact Nat.zero_le _
    · have hki : k < i := by
        rcases Nat.lt_or_ge k i with z | z
        · exact z
        · exfalso
          have l1 : ltV (rv Ms q.2) (rv Ms p.2) := by rw [e]; exact lt_self Ms q.2 m
          rcases Nat.lt_or_ge i k with z2 | z2
          · exact ltV_irr _ (ltV_trans l1 (g.up i k p q z2 hp hk))
          · have : k = i := by omega
            subst this
            rw [hp] at hk
            cases hk
            exact ltV_irr _ l1
      have := ih k hki q hk
      rw [e, List.length_append]
      simp
      omega
theorem sFor_ok {w : Fa} {gf : D → Ge → Option Ge} {b : Fs} {γ : Ge} {ds : List D} (h : w γ = some (.ok ds)) : sFor w gf b γ = forF gf b ds γ := by unfold sFor; rw [h]
theorem wh_step {c : Ft} {b g : Fs} {m : Nat} {γ γ2 : Ge} (h : c γ = some (.ok true)) (h2 : b γ = some (.nx γ2)) : fSeq (fun γ => whF c b (m + 1) γ) g γ = fSeq (fun γ => whF c b m γ) g γ2 := by
  have e : whF c b (m + 1) γ = whF c b m γ2 := by
    conv => lhs; unfold whF
    simp only [h, h2]
  unfold fSeq
  simp only [e]
/-- what going tells -/
inductive Found (W P : List Sta) (Ms : List Str) (s0 : Sst) (wanted : Bool) : Option (List Str) → Prop
  | row {r : List Str} : (∀ m ∈ r, m ∈ Ms) → metT (stepsT W P r s0) = wanted → (∀ w : List Str, (∀ m ∈ w, m ∈ Ms) → ltV (rv Ms w) (rv Ms r) → metT (stepsT W P w s0) ≠ wanted) → r.length ≤ 12000000 → Found W P Ms s0 wanted (some r)
  | non : (∀ w : List Str, (∀ m ∈ w, m ∈ Ms) → metT (stepsT W P w s0) ≠ wanted) → Found W P Ms s0 wanted none
def optD : Option (List Str) → D
  | some r => .list (r.map .str)
  | none => .none
theorem going_loop {d : Nat} {S : Sta} {W P : List Sta} {V : List Str} (p : Pln d W P V S) {N : Nat} (hN : ∀ l : List Sst, l.Nodup → (∀ s ∈ l, Jst W P V s) → l.length ≤ N) (hz : N + 1 < big) (hz2 : N ≤ 12000000) {Ms : List Str} (nM : Ms.Pairwise fun x y => ixM Ms x < ixM Ms y) {s0 : Sst} {wanted : Bool} (A1 : Sl) {n : Nat} (hn : d + 3 ≤ n) :
    ∀ (k at_ : Nat) (F : List Prs) (x6 x7 x8 x9 : Sl) (m : Nat), N - at_ = k → k + 1 ≤ m → Go W P V Ms s0 wanted at_ Ms F → ∃ o, Found W P Ms s0 wanted o ∧
      (fSeq (fun γ => whF (fT (f2 oLt (fOpd 5) (fB oLen (fCons (fOpd 3) fNil)))) (fSeq (sAsg (f2 oIx (fOpd 3) (fOpd 5)) (gfTup (gsCons (gfN 7) (gsCons (gfN 8) gsNil))))
    (fSeq (sIf (fT (f2 oEq (fCall (Phi n .is_met) (fCons (fVar 7) fNil)) (fOpd 2))) (sRetW 8) fNext)
    (fSeq (sFor (wLst (f1 (oFld "marks") (fOpd 0))) (gfN 6) (fSeq (sSet 9 (fCall (Phi n .stepped) (fCons (fVar 0) (fCons (fVar 7) (fCons (fVar 6) fNil)))))
    (sIf (fT (f2 (oIn true) (fOpd 9) (fOpd 4))) (fSeq (sApp 4 (fVar 9))
    (sApp 3 (fTup (fCons (fVar 9) (fCons (fNew (f2 oAdd (fOpN 8) (fLst (fCons (fVar 6) fNil)))) fNil))))) fNext)))
    (sSet 5 (f2 oAdd (fOpd 5) (fCon (.int 1))))))) m γ) (sRet (fCon .none))) [.va (planOf W P Ms), A1, .va (.bool wanted), .ow (F.map prD), .ow ((F.map Prod.fst).map stD), .va (.int at_), x6, x7, x8, x9] = some (.rt (optD o)) := by
  have stop : ∀ (F : List Prs) (x6 x7 x8 x9 : Sl) (m : Nat), Go W P V Ms s0 wanted F.length Ms F → ∃ o, Found W P Ms s0 wanted o ∧
      (fSeq (fun γ => whF (fT (f2 oLt (fOpd 5) (fB oLen (fCons (fOpd 3) fNil)))) (fSeq (sAsg (f2 oIx (fOpd 3) (fOpd 5)) (gfTup (gsCons (gfN 7) (gsCons (gfN 8) gsNil))))
    (fSeq (sIf (fT (f2 oEq (fCall (Phi n .is_met) (fCons (fVar 7) fNil)) (fOpd 2))) (sRetW 8) fNext)
    (fSeq (sFor (wLst (f1 (oFld "marks") (fOpd 0))) (gfN 6) (fSeq (sSet 9 (fCall (Phi n .stepped) (fCons (fVar 0) (fCons (fVar 7) (fCons (fVar 6) fNil)))))
    (sIf (fT (f2 (oIn true) (fOpd 9) (fOpd 4))) (fSeq (sApp 4 (fVar 9))
    (sApp 3 (fTup (fCons (fVar 9) (fCons (fNew (f2 oAdd (fOpN 8) (fLst (fCons (fVar 6) fNil)))) fNil))))) fNext)))
    (sSet 5 (f2 oAdd (fOpd 5) (fCon (.int 1))))))) (m + 1) γ) (sRet (fCon .none))) [.va (planOf W P Ms), A1, .va (.bool wanted), .ow (F.map prD), .ow ((F.map Prod.fst).map stD), .va (.int F.length), x6, x7, x8, x9] = some (.rt (optD o)) := by
    intro F x6 x7 x8 x9 m g
    refine ⟨none, .non (go_miss g), ?_⟩
    unfold fSeq whF
    simp [fOwn, fOpN,  fSeq, fNext, sRet, sRetN, sIf, sSet, sSetO, sAsg, sApp, sFor, forF, fVar, fOpd, fCon, f2, f1, fNil, fCons, bR, bL, bA, bLL, oR, fT, gAnd, gOr, gNot, gYes, fAnd, fOr, fNot, fIte, fTup, fLst, fCall, fCallO, fB, fM1, fSl, fiNo, fiSm, fLc, wLst, wTup, wStr, wRg1, wRg2, wZip, wEnum, gfN, gfTup, gsNil, gsCons, fLrg, fLrg3, wipeG, xSeq, xSet, xOf, xCall, xIf, xRet, xNext, xTup, xCons, xNil, xPut, xCallP, sRetX, sSetX, List.getElem?_cons_zero, List.getElem?_cons_succ, List.set_cons_zero, List.set_cons_succ, optD]
  intro k
  induction k with
  | zero =>
    intro at_ F x6 x7 x8 x9 m hk hm g
    obtain ⟨m, rfl⟩ : ∃ q, m = q + 1 := ⟨m - 1, by omega⟩
    have hl := hN _ g.nd fun s hs => by obtain ⟨q, hq, rfl⟩ := List.mem_map.mp hs; exact (g.ok q hq).1
    rw [List.length_map] at hl
    have hle := g.le
    have he : at_ = F.length := by omega
    subst he
    exact stop F x6 x7 x8 x9 m g
  | succ k ih =>
    intro at_ F x6 x7 x8 x9 m hk hm g
    obtain ⟨m, rfl⟩ : ∃ q, m = q + 1 := ⟨m - 1, by omega⟩
    have hl := hN _ g.nd fun s hs => by obtain ⟨q, hq, rfl⟩ := List.mem_map.mp hs; exact (g.ok q hq).1
    rw [List.length_map] at hl
    by_cases hlt : at_ < F.length
    · have ha : F[at_]? = some F[at_] := List.getElem?_eq_getElem hlt
      generalize F[at_] = a at ha
      obtain ⟨ja, ma, ea⟩ := g.ok a (List.mem_of_getElem? ha)
      have la := row_len g at_ a ha
      have at_D : atI (F.map prD) (at_ : Int) = some (prD a) := atI_cast (by rw [List.getElem?_map, ha]; rfl)
      have c : decide ((at_ : Int) < ((F.map prD).length : Int)) = true := by rw [List.length_map]; exact decide_eq_true (by omega)
      obtain ⟨n', rfl⟩ : ∃ q, n = q + 1 := ⟨n - 1, by omega⟩
      have mt := run_met a.1 ja.pos n'
      have fm : oFld "marks" (planOf W P Ms) = some (.list (Ms.map .str)) := by unfold planOf; rw [fldM]
      have fl := strs_flat a.2
      by_cases hmet : metT a.1 = wanted
      · refine ⟨some a.2, .row ma (by rw [← ea]; exact hmet) (go_hit g ha) (by omega), ?_⟩
        have q : ((a.1.2.getD 0 false) == wanted) = true := by rw [beq_iff_eq]; exact hmet
        unfold fSeq whF
        simp only [fOwn, fOpN,  fSeq, fNext, sRet, sRetN, sIf, sSet, sSetO, sAsg, sApp, sFor, forF, fVar, fOpd, fCon, f2, f1, fNil, fCons, bR, bL, bA, bLL, oR, fT, gAnd, gOr, gNot, gYes, fAnd, fOr, fNot, fIte, fTup, fLst, fCall, fCallO, fB, fM1, fSl, fiNo, fiSm, fLc, wLst, wTup, wStr, wRg1, wRg2, wZip, wEnum, gfN, gfTup, gsNil, gsCons, fLrg, fLrg3, wipeG, xSeq, xSet, xOf, xCall, xIf, xRet, xNext, xTup, xCons, xNil, xPut, xCallP, sRetX, sSetX, List.getElem?_cons_zero, List.getElem?_cons_succ, List.set_cons_zero, List.set_cons_succ, oLt_int, oLen_list, oIx_lst, c, at_D, prD, newD, mt, oEq_bool, q, sRetW, fl, if_pos, bR_ok, bL_ok, bLL_ok, bA_ok, oR_some, optD]
      · obtain ⟨F', y6, y9, e1, e2, e3⟩ := mark_loop p hN (by omega) (a := a) (by omega) A1 (.va (.bool wanted)) hn Ms F x6 x9 ha nM (fun _ h => h) g
        obtain ⟨o, ho, e⟩ := ih (at_ + 1) F' y6 (.va (stD a.1)) (.va (newD (a.2.map .str))) y9 m (by omega) (by omega) (go_next e2 e1 hmet)
        refine ⟨o, ho, ?_⟩
        have q : ((a.1.2.getD 0 false) == wanted) = false := by rw [beq_eq_false_iff_ne]; exact hmet
        have e1' : ((at_ + 1 : Nat) : Int) = (at_ : Int) + 1 := by omega
        rw [e1'] at e
        rw [← e]
        have hc : fT (f2 oLt (fOpd 5) (fB oLen (fCons (fOpd 3) fNil))) [.va (planOf W P Ms), A1, .va (.bool wanted), .ow (F.map prD), .ow ((F.map Prod.fst).map stD), .va (.int at_), x6, x7, x8, x9] = some (.ok true) := by
          simp only [fOwn, fOpN,  fSeq, fNext, sRet, sRetN, sIf, sSet, sSetO, sAsg, sApp, sFor, forF, fVar, fOpd, fCon, f2, f1, fNil, fCons, bR, bL, bA, bLL, oR, fT, gAnd, gOr, gNot, gYes, fAnd, fOr, fNot, fIte, fTup, fLst, fCall, fCallO, fB, fM1, fSl, fiNo, fiSm, fLc, wLst, wTup, wStr, wRg1, wRg2, wZip, wEnum, gfN, gfTup, gsNil, gsCons, fLrg, fLrg3, wipeG, xSeq, xSet, xOf, xCall, xIf, xRet, xNext, xTup, xCons, xNil, xPut, xCallP, sRetX, sSetX, List.getElem?_cons_zero, List.getElem?_cons_succ, List.set_cons_zero, List.set_cons_succ, oLt_int, oLen_list, c, bR_ok, bL_ok, bLL_ok, bA_ok, oR_some]
        refine wh_step hc ?_
        rw [fSeq_nx (γ1 := [.va (planOf W P Ms), A1, .va (.bool wanted), .ow (F.map prD), .ow ((F.map Prod.fst).map stD), .va (.int at_), x6, .va (stD a.1), .va (newD (a.2.map .str)), x9]) (by
          simp only [fOwn, fOpN,  fSeq, fNext, sRet, sRetN, sIf, sSet, sSetO, sAsg, sApp, sFor, forF, fVar, fOpd, fCon, f2, f1, fNil, fCons, bR, bL, bA, bLL, oR, fT, gAnd, gOr, gNot, gYes, fAnd, fOr, fNot, fIte, fTup, fLst, fCall, fCallO, fB, fM1, fSl, fiNo, fiSm, fLc, wLst, wTup, wStr, wRg1, wRg2, wZip, wEnum, gfN, gfTup, gsNil, gsCons, fLrg, fLrg3, wipeG, xSeq, xSet, xOf, xCall, xIf, xRet, xNext, xTup, xCons, xNil, xPut, xCallP, sRetX, sSetX, List.getElem?_cons_zero, List.getElem?_cons_succ, List.set_cons_zero, List.set_cons_succ, oIx_lst, at_D, prD, bR_ok, oR_some])]
        rw [fSeq_nx (γ1 := [.va (planOf W P Ms), A1, .va (.bool wanted), .ow (F.map prD), .ow ((F.map Prod.fst).map stD), .va (.int at_), x6, .va (stD a.1), .va (newD (a.2.map .str)), x9]) (by
          simp only [fOwn, fOpN,  fSeq, fNext, sRet, sRetN, sIf, sSet, sSetO, sAsg, sApp, sFor, forF, fVar, fOpd, fCon, f2, f1, fNil, fCons, bR, bL, bA, bLL, oR, fT, gAnd, gOr, gNot, gYes, fAnd, fOr, fNot, fIte, fTup, fLst, fCall, fCallO, fB, fM1, fSl, fiNo, fiSm, fLc, wLst, wTup, wStr, wRg1, wRg2, wZip, wEnum, gfN, gfTup, gsNil, gsCons, fLrg, fLrg3, wipeG, xSeq, xSet, xOf, xCall, xIf, xRet, xNext, xTup, xCons, xNil, xPut, xCallP, sRetX, sSetX, List.getElem?_cons_zero, List.getElem?_cons_succ, List.set_cons_zero, List.set_cons_succ, mt, oEq_bool, q, bR_ok, bL_ok, bLL_ok, bA_ok, oR_some])]
        rw [fSeq_nx (γ1 := [.va (planOf W P Ms), A1, .va (.bool wanted), .ow (F'.map prD), .ow ((F'.map Prod.fst).map stD), .va (.int at_), y6, .va (stD a.1), .va (newD (a.2.map .str)), y9]) (by
          rw [sFor_ok (ds := Ms.map .str) (by simp only [wLst, f1, fOpd, List.getElem?_cons_zero, fm, bR_ok, oR_some])]
          exact e3)]
        simp only [fOwn, fOpN,  fSeq, fNext, sRet, sRetN, sIf, sSet, sSetO, sAsg, sApp, sFor, forF, fVar, fOpd, fCon, f2, f1, fNil, fCons, bR, bL, bA, bLL, oR, fT, gAnd, gOr, gNot, gYes, fAnd, fOr, fNot, fIte, fTup, fLst, fCall, fCallO, fB, fM1, fSl, fiNo, fiSm, fLc, wLst, wTup, wStr, wRg1, wRg2, wZip, wEnum, gfN, gfTup, gsNil, gsCons, fLrg, fLrg3, wipeG, xSeq, xSet, xOf, xCall, xIf, xRet, xNext, xTup, xCons, xNil, xPut, xCallP, sRetX, sSetX, List.getElem?_cons_zero, List.getElem?_cons_succ, List.set_cons_zero, List.set_cons_succ, oAdd_int, bR_ok, oR_some]
    · have he : at_ = F.length := by have := g.le; omega
      subst he
      exact stop F x6 x7 x8 x9 m g
theorem nnws_bools (l : List Bool) : nnws (l.map .bool) = true := by
  induction l with
  | nil => rfl
  | cons b r ih => simp [nnws, nnw, ih]
theorem nnw_st (s : Sst) : nnw (stD s) = true := by simp [stD, stateD, nnw, nnws, nnws_bools]
theorem nnw_enc : ∀ s : Sta, nnw (enc s) = true
  | .mark m => by simp [enc, nnw, nnws]
  | .yes => by simp [enc, nnw, nnws]
  | .nt s => by simp [enc, nnw, nnws, nnw_enc s]
  | .an s t => by simp [enc, nnw, nnws, nnw_enc s, nnw_enc t]
  | .or s t => by simp [enc, nnw, nnws, nnw_enc s, nnw_enc t]
  | .nx s => by simp [enc, nnw, nnws, nnw_enc s]
  | .un s t => by simp [enc, nnw, nnws, nnw_enc s, nnw_enc t]
  | .wi k s => by simp [enc, nnw, nnws, nnw_enc s]
  | .bf s => by simp [enc, nnw, nnws, nnw_enc s]
  | .si s t => by simp [enc, nnw, nnws, nnw_enc s, nnw_enc t]
theorem nnws_encs : ∀ l : List Sta, nnws (l.map enc) = true
  | [] => rfl
  | s :: l => by simp [nnws, nnw_enc s, nnws_encs l]
theorem nnws_strs : ∀ l : List Str, nnws (l.map .str) = true
  | [] => rfl
  | s :: l => by simp [nnws, nnw, nnws_strs l]
theorem nnws_ints {α : Type} (f : α → Int) : ∀ l : List α, nnws (l.map fun i => .int (f i)) = true
  | [] => rfl
  | s :: l => by simp [nnws, nnw, nnws_ints f l]
theorem nnw_plan (W P : List Sta) (Ms : List Str) : nnw (planOf W P Ms) = true := by
  have h := nnws_ints (fun i : Nat => ((2 ^ i : Nat) : Int)) (List.range (W.length + 1))
  unfold planOf planD encL wts
  simp only [nnw, nnws, nnws_encs, nnws_strs, h, Bool.and_true, Bool.true_and]
theorem run_going {d : Nat} {S : Sta} {W P : List Sta} {V : List Str} (p : Pln d W P V S) {N : Nat} (hN : ∀ l : List Sst, l.Nodup → (∀ s ∈ l, Jst W P V s) → l.length ≤ N) (hz : N + 1 < big) (hz2 : N ≤ 12000000) {Ms : List Str} (nM : Ms.Pairwise fun x y => ixM Ms x < ixM Ms y) {s0 : Sst} (j : Jst W P V s0) (wanted : Bool) {n : Nat} (hn : d + 4 ≤ n) :
    ∃ o, Found W P Ms s0 wanted o ∧ Phi n .going [planOf W P Ms, stD s0, .bool wanted] = some (.ok (optD o)) := by
  obtain ⟨n, rfl⟩ : ∃ k, n = k + 1 := ⟨n - 1, by omega⟩
  have hf : N - 0 + 1 ≤ fuel := Nat.le_trans (show N - 0 + 1 ≤ big by omega) (by unfold fuel big; decide)
  obtain ⟨o, ho, e⟩ := going_loop p hN hz hz2 nM (wanted := wanted) (.va (stD s0)) (n := n) (by omega) (N - 0) 0 [(s0, [])] .no .no .no .no fuel rfl hf (go_first j)
  refine ⟨o, ho, ?_⟩
  rw [phi_going]
  unfold runNw
  rw [if_pos ⟨rfl, by simp [nnws, nnw_plan, nnw_st, nnw]⟩]
  have key : f_going (Phi n) (entry 10 [planOf W P Ms, stD s0, .bool wanted]) = some (.rt (optD o)) := by
    unfold f_going
    rw [fSeq_nx (γ1 := [.va (planOf W P Ms), .va (stD s0), .va (.bool wanted), .ow [prD (s0, [])], .no, .no, .no, .no, .no, .no]) (by simp [entry, fOwn, fOpN,  fSeq, fNext, sRet, sRetN, sIf, sSet, sSetO, sAsg, sApp, sFor, forF, fVar, fOpd, fCon, f2, f1, fNil, fCons, bR, bL, bA, bLL, oR, fT, gAnd, gOr, gNot, gYes, fAnd, fOr, fNot, fIte, fTup, fLst, fCall, fCallO, fB, fM1, fSl, fiNo, fiSm, fLc, wLst, wTup, wStr, wRg1, wRg2, wZip, wEnum, gfN, gfTup, gsNil, gsCons, fLrg, fLrg3, wipeG, xSeq, xSet, xOf, xCall, xIf, xRet, xNext, xTup, xCons, xNil, xPut, xCallP, sRetX, sSetX, List.getElem?_cons_zero, List.getElem?_cons_succ, List.set_cons_zero, List.set_cons_succ, List.replicate, fNew, prD])]
    rw [fSeq_nx (γ1 := [.va (planOf W P Ms), .va (stD s0), .va (.bool wanted), .ow [prD (s0, [])], .ow [stD s0], .no, .no, .no, .no, .no]) (by simp [fOwn, fOpN,  fSeq, fNext, sRet, sRetN, sIf, sSet, sSetO, sAsg, sApp, sFor, forF, fVar, fOpd, fCon, f2, f1, fNil, fCons, bR, bL, bA, bLL, oR, fT, gAnd, gOr, gNot, gYes, fAnd, fOr, fNot, fIte, fTup, fLst, fCall, fCallO, fB, fM1, fSl, fiNo, fiSm, fLc, wLst, wTup, wStr, wRg1, wRg2, wZip, wEnum, gfN, gfTup, gsNil, gsCons, fLrg, fLrg3, wipeG, xSeq, xSet, xOf, xCall, xIf, xRet, xNext, xTup, xCons, xNil, xPut, xCallP, sRetX, sSetX, List.getElem?_cons_zero, List.getElem?_cons_succ, List.set_cons_zero, List.set_cons_succ])]
    rw [fSeq_nx (γ1 := [.va (planOf W P Ms), .va (stD s0), .va (.bool wanted), .ow [prD (s0, [])], .ow [stD s0], .va (.int 0), .no, .no, .no, .no]) (by simp [fOwn, fOpN,  fSeq, fNext, sRet, sRetN, sIf, sSet, sSetO, sAsg, sApp, sFor, forF, fVar, fOpd, fCon, f2, f1, fNil, fCons, bR, bL, bA, bLL, oR, fT, gAnd, gOr, gNot, gYes, fAnd, fOr, fNot, fIte, fTup, fLst, fCall, fCallO, fB, fM1, fSl, fiNo, fiSm, fLc, wLst, wTup, wStr, wRg1, wRg2, wZip, wEnum, gfN, gfTup, gsNil, gsCons, fLrg, fLrg3, wipeG, xSeq, xSet, xOf, xCall, xIf, xRet, xNext, xTup, xCons, xNil, xPut, xCallP, sRetX, sSetX, List.getElem?_cons_zero, List.getElem?_cons_succ, List.set_cons_zero, List.set_cons_succ])]
    exact e
  rw [key]
end K08

namespace K08
open PySem PySem.Spec PyProof.Rows L2 Py
/-! ### what a state tells is what the statement means -/
theorem kept_next {W P : List Sta} (pk : PastsOk W P) (nf : ∀ p ∈ P, noFut p) (r : List Str) (m : Str) : P.map (keptB W P m (P.map (keptT r))) = P.map (keptT (r ++ [m])) := by
  have hb : ∀ p ∈ P, (P.map (keptT r)).getD (idxT P p) false = keptT r p := fun p hp => by
    rw [List.getD_eq_getElem?_getD, List.getElem?_map, idxT_at hp]
    rfl
  refine List.map_congr_left fun p hp => ?_
  have np := nf p hp
  cases p with
  | bf q =>
    have e := means_app (W := W) (m := m) hb q np fun o ho h => pk.clos _ hp o (by simp [allT, ho]) h
    simp only [keptB, keptT, e, lastB_app]
  | si a b =>
    have e := means_app (W := W) (m := m) hb (.si a b) np fun o ho h => pk.clos _ hp o ho h
    show isT W P m (P.map (keptT r)) 0 (.si a b) = lastB (meansT (r ++ [m]) (.si a b))
    rw [e, lastB_app]
  | _ => exact (pk.past _ hp).elim
def holdsT (S : Sta) (r : List Str) : Bool := (meansT r S).getD 0 false
theorem steps_sem {d : Nat} {W P : List Sta} {V : List Str} {S : Sta} (p : Pln d W P V S) (uW : ∀ w ∈ W, unm w) (nf : ∀ q ∈ P, noFut q) : ∀ (w pre : List Str) (s : Sst), s.1 = P.map (keptT pre) → TabOk W S pre s.2 → (stepsT W P w s).1 = P.map (keptT (pre ++ w)) ∧ TabOk W S (pre ++ w) (stepsT W P w s).2 := by
  intro w
  induction w with
  | nil => intro pre s h1 h2; rw [List.append_nil]; exact ⟨h1, h2⟩
  | cons m w ih =>
    intro pre s h1 h2
    have e : pre ++ m :: w = pre ++ [m] ++ w := by simp
    rw [e]
    refine ih (pre ++ [m]) (stepT W P m s) ?_ ?_
    · show P.map (keptB W P m s.1) = _
      rw [h1]
      exact kept_next p.pk nf pre m
    · show TabOk W S (pre ++ [m]) (rowsT W P m s.1 s.2)
      rw [h1]
      exact tab_next uW p.cw p.cp m h2
theorem first_sem {d : Nat} {W P : List Sta} {V : List Str} {S : Sta} (p : Pln d W P V S) : (firstT W P).1 = P.map (keptT []) ∧ TabOk W S [] (firstT W P).2 := by
  refine ⟨List.map_congr_left fun q hq => ?_, tab_first p.wo.hd⟩
  have hp := p.pk.past q hq
  cases q with
  | bf q => have := meansT_len [] q; simp at this; simp [keptT, lastB, this]
  | si a b => have := meansT_len [] (.si a b); simp at this; simp [keptT, lastB, this]
  | _ => exact hp.elim
theorem met_holds {d : Nat} {W P : List Sta} {V : List Str} {S : Sta} (p : Pln d W P V S) (uW : ∀ w ∈ W, unm w) (nf : ∀ q ∈ P, noFut q) (r : List Str) : metT (stepsT W P r (firstT W P)) = holdsT S r := by
  obtain ⟨h1, h2⟩ := first_sem p
  have h := (steps_sem p uW nf r [] _ h1 h2).2 []
  rw [List.append_nil, List.nil_append, code_end] at h
  exact h
end K08

namespace K08
open PySem PySem.Spec PyProof.Rows L2 Py
/-! ### rows, one by one -/
def rowsN (Ms : List Str) : Nat → List (List Str)
  | 0 => [[]]
  | n + 1 => (rowsN Ms n).flatMap fun r => Ms.map fun m => r ++ [m]
theorem mem_rowsN {Ms : List Str} : ∀ {n : Nat} {r : List Str}, r ∈ rowsN Ms n ↔ r.length = n ∧ ∀ m ∈ r, m ∈ Ms
  | 0, r => by
    simp only [rowsN, List.mem_singleton]
    constructor
    · intro e; subst e; exact ⟨rfl, fun m h => by cases h⟩
    · intro h; exact List.length_eq_zero_iff.mp h.1
  | n + 1, r => by
    simp only [rowsN, List.mem_flatMap, List.mem_map]
    constructor
    · rintro ⟨a, ha, m, hm, rfl⟩
      obtain ⟨h1, h2⟩ := mem_rowsN.mp ha
      refine ⟨by simp [h1], fun x hx => ?_⟩
      rcases List.mem_append.mp hx with q | q
      · exact h2 x q
      · simp at q; subst q; exact hm
    · rintro ⟨h1, h2⟩
      have hne : r ≠ [] := fun e => by rw [e] at h1; cases h1
      have e := List.dropLast_concat_getLast hne
      refine ⟨r.dropLast, mem_rowsN.mpr ⟨by simp [h1], fun m hm => h2 m (List.dropLast_subset r hm)⟩, r.getLast hne, h2 _ (List.getLast_mem hne), e⟩
theorem rowsN_up {Ms : List Str} (nM : Ms.Pairwise fun x y => ixM Ms x < ixM Ms y) : ∀ n, (rowsN Ms n).Pairwise fun a b => ltV (rv Ms a) (rv Ms b)
  | 0 => List.pairwise_singleton _ _
  | n + 1 => by
    refine List.pairwise_flatMap.mpr ⟨fun r _ => ?_, (rowsN_up nM n).imp fun {a b} h x hx y hy => ?_⟩
    · refine List.Pairwise.map _ (fun x y h => ?_) nM
      rw [rv_snoc, rv_snoc]
      exact .inr ⟨rfl, h⟩
    · obtain ⟨m, _, rfl⟩ := List.mem_map.mp hx
      obtain ⟨k, _, rfl⟩ := List.mem_map.mp hy
      exact lt_snoc m k h
theorem ix_up {Ms : List Str} (h : Ms.Nodup) : Ms.Pairwise fun x y => ixM Ms x < ixM Ms y := by
  rw [List.pairwise_iff_getElem]
  intro i j hi hj hij
  rw [ix_nodup h (List.getElem?_eq_getElem hi), ix_nodup h (List.getElem?_eq_getElem hj)]
  exact hij
theorem nodup_marksT {s : Sta} (hne : ∀ m, Sta.mark m ∈ allT s → m ≠ "") : (marksT s).Nodup := by
  cases s with
  | mark m => simp [marksT]; exact (hne m (by simp [allT])).symm
  | yes => simp [marksT]
  | _ => exact nodup_upT _ _
theorem strs_eqv : ∀ a b : List Str, PyData.eqvAll (a.map PyData.str) (b.map PyData.str) = decide (a = b)
  | [], [] => by simp [PyData.eqvAll]
  | [], _ :: _ => by simp [PyData.eqvAll]
  | _ :: _, [] => by simp [PyData.eqvAll]
  | x :: a, y :: b => by
    simp only [List.map_cons, PyData.eqvAll, PyData.eqv, strs_eqv a b]
    by_cases h : x = y
    · subst h
      by_cases h2 : a = b
      · subst h2; simp
      · simp [h2]
    · simp [h]
theorem oEq_strs {a b : List Str} (ha : ∀ s ∈ a, okM s) (hb : ∀ s ∈ b, okM s) : oEq (.list (a.map .str)) (.list (b.map .str)) = some (.bool (decide (a = b))) := by
  have s1 := (okD_list (okD_strs (n := 0) ha)).shaped (by omega)
  have s2 := (okD_list (okD_strs (n := 0) hb)).shaped (by omega)
  unfold oEq
  rw [if_pos (.inr ⟨s1, s2⟩)]
  simp only [PyData.eqv, strs_eqv]
theorem oNe_strs {a b : List Str} (ha : ∀ s ∈ a, okM s) (hb : ∀ s ∈ b, okM s) : oNe (.list (a.map .str)) (.list (b.map .str)) = some (.bool (!decide (a = b))) := by
  have s1 := (okD_list (okD_strs (n := 0) ha)).shaped (by omega)
  have s2 := (okD_list (okD_strs (n := 0) hb)).shaped (by omega)
  unfold oNe
  rw [if_pos (.inr ⟨s1, s2⟩)]
  simp only [PyData.eqv, strs_eqv]
theorem run_lholds {d : Nat} {S : Sta} (fS : Fine d okM S) {r : List Str} (hr : r.length ≤ 13000000) (hok : ∀ s ∈ r, okM s) {n : Nat} (hn : d + 2 ≤ n) : Phi n .l_holds [enc S, .list (r.map .str)] = some (.ok (.bool (holdsT S r))) := by
  obtain ⟨n, rfl⟩ : ∃ k, n = k + 1 := ⟨n - 1, by omega⟩
  have m := run_means hr S n fS.ks (by have := fS.dep; omega)
  have ne := oNe_strs hok (b := []) (by intro s h; cases h)
  simp only [List.map_nil] at ne
  have b0 : 0 ≤ big := by decide
  rw [phi_l_holds]
  refine runF_rt rfl ?_
  unfold f_l_holds
  unfold runD rowD at m
  by_cases h : r = []
  · subst h
    have e : holdsT S [] = false := by
      unfold holdsT
      have := meansT_len [] S
      simp at this
      rw [this]
      rfl
    simp only [List.map_nil, decide_true, Bool.not_true] at ne
    simp only [List.map_nil, e, entry, fOwn, fOpN,  fSeq, fNext, sRet, sRetN, sIf, sSet, sSetO, sAsg, sApp, sFor, forF, fVar, fOpd, fCon, f2, f1, fNil, fCons, bR, bL, bA, bLL, oR, fT, gAnd, gOr, gNot, gYes, fAnd, fOr, fNot, fIte, fTup, fLst, fCall, fCallO, fB, fM1, fSl, fiNo, fiSm, fLc, wLst, wTup, wStr, wRg1, wRg2, wZip, wEnum, gfN, gfTup, gsNil, gsCons, fLrg, fLrg3, wipeG, xSeq, xSet, xOf, xCall, xIf, xRet, xNext, xTup, xCons, xNil, xPut, xCallP, sRetX, sSetX, List.getElem?_cons_zero, List.getElem?_cons_succ, List.set_cons_zero, List.set_cons_succ, List.length_cons, List.length_nil, List.map_cons, List.map_nil, List.cons_append, List.nil_append, List.replicate, Nat.reduceAdd, Nat.reduceSub, b0, if_pos, ne, bR_ok, bA_ok, oR_some]
  · have l := meansT_len r S
    have hpos : 0 < (meansT r S).length := by rw [l]; exact List.length_pos_iff.mpr h
    have a : atI ((meansT r S).map PyData.bool) 0 = some (.bool (holdsT S r)) := by
      refine atI_cast (i := 0) ?_
      unfold holdsT
      rw [List.getElem?_map, List.getElem?_eq_getElem hpos, List.getD_eq_getElem?_getD, List.getElem?_eq_getElem hpos]
      rfl
    simp only [h, decide_false, Bool.not_false] at ne
    generalize r.map PyData.str = rd at m ne
    simp only [entry, fOwn, fOpN,  fSeq, fNext, sRet, sRetN, sIf, sSet, sSetO, sAsg, sApp, sFor, forF, fVar, fOpd, fCon, f2, f1, fNil, fCons, bR, bL, bA, bLL, oR, fT, gAnd, gOr, gNot, gYes, fAnd, fOr, fNot, fIte, fTup, fLst, fCall, fCallO, fB, fM1, fSl, fiNo, fiSm, fLc, wLst, wTup, wStr, wRg1, wRg2, wZip, wEnum, gfN, gfTup, gsNil, gsCons, fLrg, fLrg3, wipeG, xSeq, xSet, xOf, xCall, xIf, xRet, xNext, xTup, xCons, xNil, xPut, xCallP, sRetX, sSetX, List.getElem?_cons_zero, List.getElem?_cons_succ, List.set_cons_zero, List.set_cons_succ, List.length_cons, List.length_nil, List.map_cons, List.map_nil, List.cons_append, List.nil_append, List.replicate, Nat.reduceAdd, Nat.reduceSub, b0, if_pos, ne, m, oIx_lst, a, bR_ok, bL_ok, bLL_ok, bA_ok, oR_some]
def rowsD (L : List (List Str)) : D := .list (L.map fun r => .list (r.map .str))
theorem run_longer {Ms : List Str} (hM : Ms.length ≤ 1000) {k : Nat} {L : List (List Str)} (hL : L.length ≤ 1000) (hk : ∀ r ∈ L, r.length ≤ k) (hz : k ≤ 13000000) (n : Nat) : Phi (n + 1) .l_longer [rowsD L, .list (Ms.map .str)] = some (.ok (rowsD (L.flatMap fun r => Ms.map fun m => r ++ [m]))) := by
  have b0 : 0 ≤ big := by decide
  have b1 : 1 ≤ big := by decide
  have lc : ∀ (r : List Str) (A B C D_ : Sl), r.length ≤ k → lcF (gfN 4) gYes (f2 oAdd (fOpd 3) (fLst (fCons (fVar 4) fNil))) [A, B, C, .va (.list (r.map .str)), .no] (Ms.map .str) = some (Ms.map fun m => .list ((r ++ [m]).map .str)) := fun r A B C D_ hr => by
    refine lcF_map PyData.str (fun m => .list ((r ++ [m]).map .str)) Ms fun m _ => ?_
    have ad : oAdd (.list (r.map .str)) (.list [.str m]) = some (.list ((r ++ [m]).map .str)) := by
      rw [oAdd_lst, if_pos (by simp only [List.length_map, List.length_cons, List.length_nil]; unfold big; omega), List.map_append]
      rfl
    refine ⟨[A, B, C, .va (.list (r.map .str)), .va (.str m)], by simp [gfN], rfl, ?_⟩
    simp only [fOwn, fOpN,  fSeq, fNext, sRet, sRetN, sIf, sSet, sSetO, sAsg, sApp, sFor, forF, fVar, fOpd, fCon, f2, f1, fNil, fCons, bR, bL, bA, bLL, oR, fT, gAnd, gOr, gNot, gYes, fAnd, fOr, fNot, fIte, fTup, fLst, fCall, fCallO, fB, fM1, fSl, fiNo, fiSm, fLc, wLst, wTup, wStr, wRg1, wRg2, wZip, wEnum, gfN, gfTup, gsNil, gsCons, fLrg, fLrg3, wipeG, xSeq, xSet, xOf, xCall, xIf, xRet, xNext, xTup, xCons, xNil, xPut, xCallP, sRetX, sSetX, List.getElem?_cons_zero, List.getElem?_cons_succ, List.set_cons_zero, List.set_cons_succ, List.length_cons, List.length_nil, Nat.zero_add, b1, if_pos, ad, bR_ok, bA_ok, bL_ok, bLL_ok, oR_some]
  have zM : (Ms.map PyData.str).length ≤ big := by rw [List.length_map]; unfold big; omega
  have key : ∀ (L' : List (List Str)) (acc : List (List Str)) (x y : Sl), (∀ r ∈ L', r.length ≤ k) → acc.length + L'.length * Ms.length ≤ 1000000 + 1000 * 1000 → ∃ x', forF (gfN 3) (sExt 2 (fLc (wLst (fVar 1)) (gfN 4) gYes (f2 oAdd (fOpd 3) (fLst (fCons (fVar 4) fNil))) [4])) (L'.map fun r => .list (r.map .str)) [y, .va (.list (Ms.map .str)), .ow (acc.map fun r => .list (r.map .str)), x, .no]
      = some (.nx [y, .va (.list (Ms.map .str)), .ow ((acc ++ L'.flatMap fun r => Ms.map fun m => r ++ [m]).map fun r => .list (r.map .str)), x', .no]) := by
    intro L'
    induction L' with
    | nil => intro acc x y _ _; exact ⟨x, by simp [forF]⟩
    | cons r L' ih =>
      intro acc x y hr hl
      have hsz : (r :: L').length * Ms.length = Ms.length + L'.length * Ms.length := by rw [List.length_cons, Nat.succ_mul]; omega
      rw [hsz] at hl
      obtain ⟨x', e⟩ := ih (acc ++ Ms.map fun m => r ++ [m]) (.va (.list (r.map .str))) y (fun a ha => hr a (List.mem_cons_of_mem _ ha)) (by rw [List.length_append, List.length_map]; omega)
      refine ⟨x', ?_⟩
      have e2 : (acc ++ (r :: L').flatMap fun r => Ms.map fun m => r ++ [m]) = (acc ++ Ms.map fun m => r ++ [m]) ++ L'.flatMap fun r => Ms.map fun m => r ++ [m] := by rw [List.flatMap_cons, List.append_assoc]
      rw [e2, ← e]
      have lc' := lc r y (.va (.list (Ms.map .str))) (.ow (acc.map fun r => .list (r.map .str))) .no (hr r List.mem_cons_self)
      have fl : fLc (wLst (fVar 1)) (gfN 4) gYes (f2 oAdd (fOpd 3) (fLst (fCons (fVar 4) fNil))) [4] [y, .va (.list (Ms.map .str)), .ow (acc.map fun r => .list (r.map .str)), .va (.list (r.map .str)), .no] = some (.ok (.list (Ms.map fun m => .list ((r ++ [m]).map .str)))) := by
        have e6 : wipeG [y, Sl.va (.list (Ms.map .str)), .ow (acc.map fun r => .list (r.map .str)), .va (.list (r.map .str)), .no] [4] = [y, Sl.va (.list (Ms.map .str)), .ow (acc.map fun r => .list (r.map .str)), .va (.list (r.map .str)), .no] := rfl
        unfold fLc
        rw [show wLst (fVar 1) [y, Sl.va (.list (Ms.map .str)), .ow (acc.map fun r => .list (r.map .str)), .va (.list (r.map .str)), .no] = some (.ok (Ms.map .str)) from rfl]
        simp only [zM, if_pos, e6, lc']
      have zz : (acc.map fun r => PyData.list (r.map .str)).length + (Ms.map fun m => PyData.list ((r ++ [m]).map .str)).length ≤ big := by rw [List.length_map, List.length_map]; unfold big; omega
      have em : ((acc ++ Ms.map fun m => r ++ [m]).map fun r => PyData.list (r.map .str)) = (acc.map fun r => PyData.list (r.map .str)) ++ Ms.map fun m => PyData.list ((r ++ [m]).map .str) := by rw [List.map_append, List.map_map]; rfl
      rw [em]
      simp only [List.map_cons, forF, gfN, List.set_cons_succ, List.set_cons_zero, sExt, List.getElem?_cons_succ, List.getElem?_cons_zero, fl, zz, if_pos]
  obtain ⟨x', e⟩ := key L [] .no (.va (rowsD L)) hk (by
    have := Nat.mul_le_mul hL hM
    simp
    omega)
  rw [phi_l_longer]
  refine runF_rt rfl ?_
  unfold f_l_longer
  rw [fSeq_nx (γ1 := [.va (rowsD L), .va (.list (Ms.map .str)), .ow [], .no, .no]) (by simp [entry, fOwn, fOpN,  fSeq, fNext, sRet, sRetN, sIf, sSet, sSetO, sAsg, sApp, sFor, forF, fVar, fOpd, fCon, f2, f1, fNil, fCons, bR, bL, bA, bLL, oR, fT, gAnd, gOr, gNot, gYes, fAnd, fOr, fNot, fIte, fTup, fLst, fCall, fCallO, fB, fM1, fSl, fiNo, fiSm, fLc, wLst, wTup, wStr, wRg1, wRg2, wZip, wEnum, gfN, gfTup, gsNil, gsCons, fLrg, fLrg3, wipeG, xSeq, xSet, xOf, xCall, xIf, xRet, xNext, xTup, xCons, xNil, xPut, xCallP, sRetX, sSetX, List.getElem?_cons_zero, List.getElem?_cons_succ, List.set_cons_zero, List.set_cons_succ, List.replicate])]
  rw [fSeq_nx (γ1 := [.va (rowsD L), .va (.list (Ms.map .str)), .ow ((L.flatMap fun r => Ms.map fun m => r ++ [m]).map fun r => .list (r.map .str)), x', .no]) (by
    rw [sFor_ok (ds := L.map fun r => .list (r.map .str)) rfl]
    simpa using e)]
  simp [fOwn, fOpN,  fSeq, fNext, sRet, sRetN, sIf, sSet, sSetO, sAsg, sApp, sFor, forF, fVar, fOpd, fCon, f2, f1, fNil, fCons, bR, bL, bA, bLL, oR, fT, gAnd, gOr, gNot, gYes, fAnd, fOr, fNot, fIte, fTup, fLst, fCall, fCallO, fB, fM1, fSl, fiNo, fiSm, fLc, wLst, wTup, wStr, wRg1, wRg2, wZip, wEnum, gfN, gfTup, gsNil, gsCons, fLrg, fLrg3, wipeG, xSeq, xSet, xOf, xCall, xIf, xRet, xNext, xTup, xCons, xNil, xPut, xCallP, sRetX, sSetX, List.getElem?_cons_zero, List.getElem?_cons_succ, List.set_cons_zero, List.set_cons_succ, rowsD]
theorem seq_rt {f g : Fs} {γ : Ge} {d : D} (h : f γ = some (.rt d)) : fSeq f g γ = some (.rt d) := by unfold fSeq; rw [h]
theorem f2_of {o : D → D → Option D} {a b : Fe} {γ : Ge} {x y z : D} (ha : a γ = some (.ok x)) (hb : b γ = some (.ok y)) (ho : o x y = some z) : f2 o a b γ = some (.ok z) := by
  unfold f2
  rw [ha]
  simp only [bR_ok]
  rw [hb]
  simp only [bR_ok, ho, oR_some]
theorem fT_of {f : Fe} {γ : Ge} {b : Bool} (h : f γ = some (.ok (.bool b))) : fT f γ = some (.ok b) := by
  unfold fT
  rw [h]
theorem len_at {i : Nat} {γ : Ge} {x : List D} (h : γ[i]? = some (.va (.list x))) : fB oLen (fCons (fOpd i) fNil) γ = some (.ok (.int x.length)) := by
  unfold fB fCons fNil fOpd
  simp only [h, bL_ok, bLL_ok, bA_ok, oLen_list, oR_some]
theorem mul_small {x y : Nat} (h : x ≤ 90) : oMul (.int (x : Int)) (.int (y : Int)) = some (.int ((x * y : Nat) : Int)) := by
  rw [oMul_int _ _ (.inl ⟨by omega, by omega⟩)]
  simp
theorem sIf_of {c : Ft} {f g : Fs} {γ : Ge} {b : Bool} (h : c γ = some (.ok b)) : sIf c f g γ = if b = true then f γ else g γ := by
  unfold sIf
  rw [h]
  cases b <;> rfl
def fstI : Fs := (sIf (fT (f2 oGt (f2 oMul (fB oLen (fCons (fOpd 5) fNil)) (fB oLen (fCons (fOpd 2) fNil))) (fCon (.int 90)))) (sRet (fCon (.bool true))) fNext)
theorem fstI_eq {γ : Ge} {x y : List D} (h5 : γ[5]? = some (.va (.list x))) (h2 : γ[2]? = some (.va (.list y))) (h9 : x.length ≤ 90) : fstI γ = if decide (90 < x.length * y.length) = true then some (.rt (.bool true)) else some (.nx γ) := by
  have ml := mul_small (y := y.length) h9
  have e1 : f2 oMul (fB oLen (fCons (fOpd 5) fNil)) (fB oLen (fCons (fOpd 2) fNil)) γ = some (.ok (.int ((x.length * y.length : Nat) : Int))) := f2_of (len_at h5) (len_at h2) ml
  have e2 : f2 oGt (f2 oMul (fB oLen (fCons (fOpd 5) fNil)) (fB oLen (fCons (fOpd 2) fNil))) (fCon (.int 90)) γ = some (.ok (.bool (decide ((90 : Int) < ((x.length * y.length : Nat) : Int))))) := f2_of e1 rfl (oGt_int _ _)
  unfold fstI
  rw [sIf_of (fT_of e2)]
  have e : decide ((90 : Int) < ((x.length * y.length : Nat) : Int)) = decide (90 < x.length * y.length) := decide_eq_decide.mpr (by omega)
  rw [e]
  rfl
def fstB (n : Nat) : Fs := (fSeq (sIf (fT (f2 oEq (fOpd 7) (fOpd 3))) (sRet (fCon (.bool true))) fNext)
    (sIf (fT (f2 oEq (fCall (Phi n .l_holds) (fCons (fVar 0) (fCons (f2 oAdd (fOpd 1) (fOpd 7)) fNil))) (fOpd 4))) (sRet (fCon (.bool false))) fNext))
def fstO (n : Nat) : Fs := (fSeq (sFor (wLst (fVar 5)) (gfN 7) (fstB n))
    (fSeq fstI
    (sSet 5 (fCall (Phi n .l_longer) (fCons (fVar 5) (fCons (fVar 2) fNil))))))
def gaF (S : Sta) (run Ms row : List Str) (wanted : Bool) (A5 A6 A7 : Sl) : Ge := [.va (enc S), .va (.list (run.map .str)), .va (.list (Ms.map .str)), .va (.list (row.map .str)), .va (.bool wanted), A5, A6, A7]
/-- what is asked of the row that is told -/
structure RowOk (d : Nat) (S : Sta) (run row Ms : List Str) (wanted : Bool) : Prop where
  fS : Fine d okM S
  hrun : run.length ≤ 100
  hok : ∀ s ∈ run, okM s
  hM : ∀ s ∈ Ms, okM s
  zM : Ms.length ≤ 90
  nM : Ms.Pairwise fun x y => ixM Ms x < ixM Ms y
  hrow : ∀ m ∈ row, m ∈ Ms
  zr : row.length ≤ 12000000
  hw : ∀ w : List Str, (∀ m ∈ w, m ∈ Ms) → ltV (rv Ms w) (rv Ms row) → holdsT S (run ++ w) ≠ wanted
section
variable {d n : Nat} {S : Sta} {run row Ms : List Str} {wanted : Bool}
theorem fst_step (k : RowOk d S run row Ms wanted) (hn : d + 2 ≤ n) (o : List Str) (L : List D) (A5 A6 x : Sl) (ho : ∀ m ∈ o, m ∈ Ms) (hl : o.length ≤ row.length) (hne : o ≠ row) (hh : holdsT S (run ++ o) ≠ wanted) :
    forF (gfN 7) (fstB n) (.list (o.map .str) :: L) (gaF S run Ms row wanted A5 A6 x) = forF (gfN 7) (fstB n) L (gaF S run Ms row wanted A5 A6 (.va (.list (o.map .str)))) := by
  have oo : ∀ s ∈ o, okM s := fun s hs => k.hM s (ho s hs)
  have hrok : ∀ s ∈ row, okM s := fun s hs => k.hM s (k.hrow s hs)
  have e1 := oEq_strs oo hrok
  rw [decide_eq_false hne] at e1
  have hrun := k.hrun
  have zr := k.zr
  have ad : oAdd (.list (run.map .str)) (.list (o.map .str)) = some (.list ((run ++ o).map .str)) := by
    rw [oAdd_lst, if_pos (by simp only [List.length_map]; unfold big; omega), List.map_append]
  have h := run_lholds k.fS (r := run ++ o) (by rw [List.length_append]; omega) (fun s hs => (List.mem_append.mp hs).elim (k.hok s) (oo s)) (n := n) (by omega)
  have q : (holdsT S (run ++ o) == wanted) = false := beq_eq_false_iff_ne.mpr hh
  clear zr hrun hl
  generalize (run ++ o).map PyData.str = ro at ad h
  generalize o.map PyData.str = od at e1 ad
  unfold gaF fstB
  simp only [forF, fOwn, fOpN,  fSeq, fNext, sRet, sRetN, sIf, sSet, sSetO, sAsg, sApp, sFor, forF, fVar, fOpd, fCon, f2, f1, fNil, fCons, bR, bL, bA, bLL, oR, fT, gAnd, gOr, gNot, gYes, fAnd, fOr, fNot, fIte, fTup, fLst, fCall, fCallO, fB, fM1, fSl, fiNo, fiSm, fLc, wLst, wTup, wStr, wRg1, wRg2, wZip, wEnum, gfN, gfTup, gsNil, gsCons, fLrg, fLrg3, wipeG, xSeq, xSet, xOf, xCall, xIf, xRet, xNext, xTup, xCons, xNil, xPut, xCallP, sRetX, sSetX, List.getElem?_cons_zero, List.getElem?_cons_succ, List.set_cons_zero, List.set_cons_succ, e1, ad, h, oEq_bool, q, bR_ok, bL_ok, bLL_ok, bA_ok, oR_some]
theorem fst_hit (k : RowOk d S run row Ms wanted) (L : List D) (A5 A6 x : Sl) : forF (gfN 7) (fstB n) (.list (row.map .str) :: L) (gaF S run Ms row wanted A5 A6 x) = some (.rt (.bool true)) := by
  have hrok : ∀ s ∈ row, okM s := fun s hs => k.hM s (k.hrow s hs)
  have e1 := oEq_strs hrok hrok
  rw [decide_eq_true rfl] at e1
  unfold gaF fstB
  generalize row.map PyData.str = rd at e1
  simp only [forF, fOwn, fOpN,  fSeq, fNext, sRet, sRetN, sIf, sSet, sSetO, sAsg, sApp, sFor, forF, fVar, fOpd, fCon, f2, f1, fNil, fCons, bR, bL, bA, bLL, oR, fT, gAnd, gOr, gNot, gYes, fAnd, fOr, fNot, fIte, fTup, fLst, fCall, fCallO, fB, fM1, fSl, fiNo, fiSm, fLc, wLst, wTup, wStr, wRg1, wRg2, wZip, wEnum, gfN, gfTup, gsNil, gsCons, fLrg, fLrg3, wipeG, xSeq, xSet, xOf, xCall, xIf, xRet, xNext, xTup, xCons, xNil, xPut, xCallP, sRetX, sSetX, List.getElem?_cons_zero, List.getElem?_cons_succ, List.set_cons_zero, List.set_cons_succ, e1, bR_ok, oR_some]
theorem fst_inner (k : RowOk d S run row Ms wanted) (hn : d + 2 ≤ n) : ∀ (L : List (List Str)) (A5 A6 x : Sl), L.Pairwise (fun a b => ltV (rv Ms a) (rv Ms b)) → (∀ o ∈ L, (∀ m ∈ o, m ∈ Ms) ∧ o.length ≤ row.length) →
    (row ∈ L → forF (gfN 7) (fstB n) (L.map fun r => .list (r.map .str)) (gaF S run Ms row wanted A5 A6 x) = some (.rt (.bool true))) ∧
    ((∀ o ∈ L, ltV (rv Ms o) (rv Ms row)) → ∃ x', forF (gfN 7) (fstB n) (L.map fun r => .list (r.map .str)) (gaF S run Ms row wanted A5 A6 x) = some (.nx (gaF S run Ms row wanted A5 A6 x'))) := by
  intro L
  induction L with
  | nil => intro A5 A6 x _ _; exact And.intro (fun h => by cases h) (fun _ => ⟨x, rfl⟩)
  | cons o L ih =>
    intro A5 A6 x hp ho
    obtain ⟨p1, p2⟩ := List.pairwise_cons.mp hp
    obtain ⟨i1, i2⟩ := ih A5 A6 (.va (.list (o.map .str))) p2 fun a ha => ho a (List.mem_cons_of_mem _ ha)
    obtain ⟨ho1, ho2⟩ := ho o List.mem_cons_self
    refine And.intro (fun h => ?_) (fun h => ?_)
    · by_cases e : o = row
      · subst e; exact fst_hit k _ A5 A6 x
      · have hr : row ∈ L := (List.mem_cons.mp h).resolve_left fun z => e z.symm
        rw [List.map_cons, fst_step k hn o _ A5 A6 x ho1 ho2 e (k.hw o ho1 (p1 row hr))]
        exact i1 hr
    · have lt := h o List.mem_cons_self
      have ne : o ≠ row := fun e => ltV_irr _ (e ▸ lt)
      obtain ⟨x', e⟩ := i2 fun a ha => h a (List.mem_cons_of_mem _ ha)
      refine ⟨x', ?_⟩
      rw [List.map_cons, fst_step k hn o _ A5 A6 x ho1 ho2 ne (k.hw o ho1 lt)]
      exact e
theorem fst_outer (k : RowOk d S run row Ms wanted) (hn : d + 2 ≤ n) : ∀ (j q : Nat) (x6 x7 : Sl), q + j = row.length + 1 → 1 ≤ j → (rowsN Ms q).length ≤ 90 →
    forF (gfN 6) (fstO n) (((List.range (row.length + 1)).drop q).map fun i : Nat => .int (i : Int)) (gaF S run Ms row wanted (.va (rowsD (rowsN Ms q))) x6 x7) = some (.rt (.bool true)) := by
  have zr := k.zr
  intro j
  induction j with
  | zero => intro q x6 x7 _ h; omega
  | succ j ih =>
    intro q x6 x7 hk _ h90
    have hlt : q < row.length + 1 := by omega
    have hd : (List.range (row.length + 1)).drop q = q :: (List.range (row.length + 1)).drop (q + 1) := by rw [List.drop_eq_getElem_cons (by rw [List.length_range]; exact hlt), List.getElem_range]
    obtain ⟨i1, i2⟩ := fst_inner k hn (rowsN Ms q) (.va (rowsD (rowsN Ms q))) (.va (.int q)) x7 (rowsN_up k.nM q) fun o ho => by
      obtain ⟨a, b⟩ := mem_rowsN.mp ho
      exact And.intro b (by omega)
    have wk : ∀ x7 : Sl, wLst (fVar 5) (gaF S run Ms row wanted (.va (rowsD (rowsN Ms q))) (.va (.int q)) x7) = some (.ok ((rowsN Ms q).map fun r => .list (r.map .str))) := fun _ => rfl
    have g6 : (gaF S run Ms row wanted (.va (rowsD (rowsN Ms q))) x6 x7).set 6 (.va (.int q)) = gaF S run Ms row wanted (.va (rowsD (rowsN Ms q))) (.va (.int q)) x7 := rfl
    rw [hd, List.map_cons]
    conv => lhs; unfold forF
    simp only [gfN, g6]
    by_cases e : q = row.length
    · have hr := i1 (mem_rowsN.mpr ⟨e.symm, k.hrow⟩)
      have st : fstO n (gaF S run Ms row wanted (.va (rowsD (rowsN Ms q))) (.va (.int q)) x7) = some (.rt (.bool true)) := by
        unfold fstO
        exact seq_rt (by rw [sFor_ok (wk x7)]; exact hr)
      rw [st]
    · obtain ⟨x7', hn'⟩ := i2 fun o ho => by
        obtain ⟨a, b⟩ := mem_rowsN.mp ho
        exact ltV_of_len (by rw [rv_len, rv_len]; omega)
      have fi := fstI_eq (γ := gaF S run Ms row wanted (.va (rowsD (rowsN Ms q))) (.va (.int q)) x7') (x := (rowsN Ms q).map fun r => .list (r.map .str)) (y := Ms.map .str) rfl rfl (by rw [List.length_map]; exact h90)
      rw [List.length_map, List.length_map] at fi
      by_cases h9 : 90 < (rowsN Ms q).length * Ms.length
      · have st : fstO n (gaF S run Ms row wanted (.va (rowsD (rowsN Ms q))) (.va (.int q)) x7) = some (.rt (.bool true)) := by
          unfold fstO
          rw [fSeq_nx (by rw [sFor_ok (wk x7)]; exact hn')]
          refine seq_rt ?_
          rw [fi, if_pos (decide_eq_true h9)]
        rw [st]
      · obtain ⟨n', rfl⟩ : ∃ z, n = z + 1 := ⟨n - 1, by omega⟩
        have zM := k.zM
        have lg := run_longer (Ms := Ms) (by omega) (k := q) (L := rowsN Ms q) (by omega) (fun r hr => by rw [(mem_rowsN.mp hr).1]; exact Nat.le_refl _) (by omega) n'
        have e2 : ((rowsN Ms q).flatMap fun r => Ms.map fun m => r ++ [m]) = rowsN Ms (q + 1) := rfl
        rw [e2] at lg
        have l2 : (rowsN Ms (q + 1)).length = (rowsN Ms q).length * Ms.length := by
          show ((rowsN Ms q).flatMap _).length = _
          rw [flat_len _ Ms.length]
          intro r _
          rw [List.length_map]
        have r := ih (q + 1) (.va (.int q)) x7' (by omega) (by omega) (by rw [l2]; omega)
        have st : fstO (n' + 1) (gaF S run Ms row wanted (.va (rowsD (rowsN Ms q))) (.va (.int q)) x7) = some (.nx (gaF S run Ms row wanted (.va (rowsD (rowsN Ms (q + 1)))) (.va (.int q)) x7')) := by
          unfold fstO
          rw [fSeq_nx (by rw [sFor_ok (wk x7)]; exact hn')]
          rw [fSeq_nx (γ1 := gaF S run Ms row wanted (.va (rowsD (rowsN Ms q))) (.va (.int q)) x7') (by rw [fi, if_neg (by simp only [decide_eq_true_eq]; exact h9)])]
          unfold gaF
          simp only [fOwn, fOpN,  fSeq, fNext, sRet, sRetN, sIf, sSet, sSetO, sAsg, sApp, sFor, forF, fVar, fOpd, fCon, f2, f1, fNil, fCons, bR, bL, bA, bLL, oR, fT, gAnd, gOr, gNot, gYes, fAnd, fOr, fNot, fIte, fTup, fLst, fCall, fCallO, fB, fM1, fSl, fiNo, fiSm, fLc, wLst, wTup, wStr, wRg1, wRg2, wZip, wEnum, gfN, gfTup, gsNil, gsCons, fLrg, fLrg3, wipeG, xSeq, xSet, xOf, xCall, xIf, xRet, xNext, xTup, xCons, xNil, xPut, xCallP, sRetX, sSetX, List.getElem?_cons_zero, List.getElem?_cons_succ, List.set_cons_zero, List.set_cons_succ, lg, bL_ok, bLL_ok, bA_ok]
        rw [st]
        exact r
end
theorem fst_walk {γ : Ge} {row : List Str} (h : γ[3]? = some (.va (.list (row.map .str)))) (hr : row.length ≤ 12000000) : wRg1 (fCons (f2 oAdd (fB oLen (fCons (fOpd 3) fNil)) (fCon (.int 1))) fNil) γ = some (.ok ((List.range (row.length + 1)).map fun q : Nat => .int (q : Int))) := by
  have h4 : fOpd 3 γ = some (.ok (.list (row.map .str))) := by unfold fOpd; rw [h]
  have hl : fB oLen (fCons (fOpd 3) fNil) γ = some (.ok (.int row.length)) := by
    unfold fB fCons fNil
    simp only [h4, bL_ok, bLL_ok, bA_ok, oLen_list, List.length_map, oR_some]
  have ha : f2 oAdd (fB oLen (fCons (fOpd 3) fNil)) (fCon (.int 1)) γ = some (.ok (.int (row.length + 1 : Nat))) := by
    unfold f2 fCon
    simp only [hl, bR_ok, oAdd_int, oR_some]
    rfl
  have hc : fCons (f2 oAdd (fB oLen (fCons (fOpd 3) fNil)) (fCon (.int 1))) fNil γ = some (.ok [.int (row.length + 1 : Nat)]) := by
    have hc' : ∀ (a : Fe) (d : D), a γ = some (.ok d) → fCons a fNil γ = some (.ok [d]) := fun a d h => by
      unfold fCons fNil
      rw [h]
      rfl
    exact hc' _ _ ha
  have rg : ∀ j : Nat, j ≤ 14000000 → rgOk 0 (j : Int) = true := fun j hj => rgOk_nat (i := 0) (by omega) hj
  unfold wRg1
  rw [hc]
  simp only
  rw [if_pos (rg _ (by omega)), rg_0]
theorem run_first {d : Nat} {S : Sta} {run row Ms : List Str} {wanted : Bool} (k : RowOk d S run row Ms wanted) {n : Nat} (hn : d + 3 ≤ n) : Phi n .l_first [enc S, .list (run.map .str), .list (Ms.map .str), .list (row.map .str), .bool wanted] = some (.ok (.bool true)) := by
  obtain ⟨n, rfl⟩ : ∃ k, n = k + 1 := ⟨n - 1, by omega⟩
  have o := fst_outer k (n := n) (by omega) (row.length + 1) 0 .no .no (by omega) (by omega) (by simp [rowsN])
  rw [List.drop_zero] at o
  have b0 : 0 ≤ big := by decide
  have b1 : 1 ≤ big := by decide
  have wk := fst_walk (γ := gaF S run Ms row wanted (.va (rowsD (rowsN Ms 0))) .no .no) (row := row) rfl k.zr
  rw [phi_l_first]
  refine runF_rt rfl ?_
  unfold f_l_first
  rw [fSeq_nx (γ1 := gaF S run Ms row wanted (.va (rowsD (rowsN Ms 0))) .no .no) (by unfold gaF; simp [entry, fOwn, fOpN,  fSeq, fNext, sRet, sRetN, sIf, sSet, sSetO, sAsg, sApp, sFor, forF, fVar, fOpd, fCon, f2, f1, fNil, fCons, bR, bL, bA, bLL, oR, fT, gAnd, gOr, gNot, gYes, fAnd, fOr, fNot, fIte, fTup, fLst, fCall, fCallO, fB, fM1, fSl, fiNo, fiSm, fLc, wLst, wTup, wStr, wRg1, wRg2, wZip, wEnum, gfN, gfTup, gsNil, gsCons, fLrg, fLrg3, wipeG, xSeq, xSet, xOf, xCall, xIf, xRet, xNext, xTup, xCons, xNil, xPut, xCallP, sRetX, sSetX, List.getElem?_cons_zero, List.getElem?_cons_succ, List.set_cons_zero, List.set_cons_succ, List.replicate, rowsD, rowsN])]
  refine seq_rt ?_
  rw [sFor_ok wk]
  exact o
end K08

namespace K08
open PySem PySem.Spec PyProof.Rows L2 Py
/-! ### wishes are not mixed -/
theorem unm_wishes {s w : Sta} (h : unm s) (hw : w ∈ wishesT s) : unm w := by
  rcases mem_wishesT.mp hw with rfl | ⟨p, h1, h2⟩
  · exact h
  · have up := unm_parts h p h1
    cases p with
    | nx a => simp [moreT] at h2; subst h2; exact up
    | un a b => simp [moreT] at h2; subst h2; exact up
    | wi k a => simp [moreT] at h2; obtain ⟨j, hj, rfl⟩ := h2; exact up
    | _ => simp [moreT] at h2
end K08

namespace K08
open PySem PySem.Spec PyProof.Rows L2 Py
/-! ### the state behind some marks -/
theorem run_state {d : Nat} {W P : List Sta} {V : List Str} {S : Sta} (p : Pln d W P V S) (Ms : List Str) (r : List Str) {n : Nat} (hn : d + 4 ≤ n) (j : Jst W P V (firstT W P)) : Phi n .l_state [planOf W P Ms, .list (r.map .str)] = some (.ok (stD (stepsT W P r (firstT W P)))) := by
  obtain ⟨n, rfl⟩ : ∃ k, n = k + 1 := ⟨n - 1, by omega⟩
  have b : Phi n .begun [planOf W P Ms] = some (.ok (stD (firstT W P))) := by
    obtain ⟨n, rfl⟩ : ∃ k, n = k + 1 := ⟨n - 1, by omega⟩
    exact run_begun p.k n
  have key : ∀ (r : List Str) (s : Sst) (B x : Sl), Jst W P V s → ∃ x', forF (gfN 3) (sSet 2 (fCall (Phi n .stepped) (fCons (fVar 0) (fCons (fVar 2) (fCons (fVar 3) fNil))))) (r.map .str) [.va (planOf W P Ms), B, .va (stD s), x] = some (.nx [.va (planOf W P Ms), B, .va (stD (stepsT W P r s)), x']) := by
    intro r
    induction r with
    | nil => intro s B x _; exact ⟨x, rfl⟩
    | cons m r ih =>
      intro s B x js
      have st := run_step p Ms m js (n := n) (by omega)
      obtain ⟨x', e⟩ := ih (stepT W P m s) B (.va (.str m)) (p.step m js)
      refine ⟨x', ?_⟩
      show _ = some (Out.nx [_, _, .va (stD (stepsT W P r (stepT W P m s))), _])
      rw [← e]
      simp [fOwn, fOpN,  fSeq, fNext, sRet, sRetN, sIf, sSet, sSetO, sAsg, sApp, sFor, forF, fVar, fOpd, fCon, f2, f1, fNil, fCons, bR, bL, bA, bLL, oR, fT, gAnd, gOr, gNot, gYes, fAnd, fOr, fNot, fIte, fTup, fLst, fCall, fCallO, fB, fM1, fSl, fiNo, fiSm, fLc, wLst, wTup, wStr, wRg1, wRg2, wZip, wEnum, gfN, gfTup, gsNil, gsCons, fLrg, fLrg3, wipeG, xSeq, xSet, xOf, xCall, xIf, xRet, xNext, xTup, xCons, xNil, xPut, xCallP, sRetX, sSetX, List.getElem?_cons_zero, List.getElem?_cons_succ, List.set_cons_zero, List.set_cons_succ, st]
  obtain ⟨x', e⟩ := key r (firstT W P) (.va (.list (r.map .str))) .no j
  rw [phi_l_state]
  refine runF_rt rfl ?_
  unfold f_l_state
  rw [fSeq_nx (γ1 := [.va (planOf W P Ms), .va (.list (r.map .str)), .va (stD (firstT W P)), .no]) (by simp [entry, fOwn, fOpN,  fSeq, fNext, sRet, sRetN, sIf, sSet, sSetO, sAsg, sApp, sFor, forF, fVar, fOpd, fCon, f2, f1, fNil, fCons, bR, bL, bA, bLL, oR, fT, gAnd, gOr, gNot, gYes, fAnd, fOr, fNot, fIte, fTup, fLst, fCall, fCallO, fB, fM1, fSl, fiNo, fiSm, fLc, wLst, wTup, wStr, wRg1, wRg2, wZip, wEnum, gfN, gfTup, gsNil, gsCons, fLrg, fLrg3, wipeG, xSeq, xSet, xOf, xCall, xIf, xRet, xNext, xTup, xCons, xNil, xPut, xCallP, sRetX, sSetX, List.getElem?_cons_zero, List.getElem?_cons_succ, List.set_cons_zero, List.set_cons_succ, List.replicate, b])]
  rw [fSeq_nx (γ1 := [.va (planOf W P Ms), .va (.list (r.map .str)), .va (stD (stepsT W P r (firstT W P))), x']) (by simpa [sFor, wLst, fVar] using e)]
  simp [fOwn, fOpN,  fSeq, fNext, sRet, sRetN, sIf, sSet, sSetO, sAsg, sApp, sFor, forF, fVar, fOpd, fCon, f2, f1, fNil, fCons, bR, bL, bA, bLL, oR, fT, gAnd, gOr, gNot, gYes, fAnd, fOr, fNot, fIte, fTup, fLst, fCall, fCallO, fB, fM1, fSl, fiNo, fiSm, fLc, wLst, wTup, wStr, wRg1, wRg2, wZip, wEnum, gfN, gfTup, gsNil, gsCons, fLrg, fLrg3, wipeG, xSeq, xSet, xOf, xCall, xIf, xRet, xNext, xTup, xCons, xNil, xPut, xCallP, sRetX, sSetX, List.getElem?_cons_zero, List.getElem?_cons_succ, List.set_cons_zero, List.set_cons_succ]
end K08

namespace K08
open PySem PySem.Spec PyProof.Rows L2 Py
/-! ### a way, and the law -/
def lawT (n : Nat) : List D → Option Rs := runF 1 6 (f_law (Phi (n + 2)) (plT n))
theorem cut_last (l : List D) (x : D) : oSl none (some (-1)) (.list (l ++ [x])) = some (.list l) := by
  rw [oSl_list]
  unfold Py.cutD
  have e : HT.sIx (l ++ [x]).length (l ++ [x]).length (some (-1)) = l.length := by
    show (if (-1 : Int) < 0 then ((-1 : Int) + ((l ++ [x]).length : Int)).toNat else min (-1 : Int).toNat (l ++ [x]).length) = l.length
    rw [if_pos (by decide), List.length_append]
    simp only [List.length_cons, List.length_nil]
    omega
  rw [e, HT.sIx_none, List.drop_zero, Nat.sub_zero, List.take_append_of_le_length (Nat.le_refl l.length), List.take_length]
theorem seq_nx {f g : Fs} {γ γ1 : Ge} {o : Option Out} (h : f γ = some (.nx γ1)) (h2 : g γ1 = o) : fSeq f g γ = o := (fSeq_nx h).trans h2
theorem ret_of {a : Fe} {γ : Ge} {d : D} (h : a γ = some (.ok d)) : sRet a γ = some (.rt d) := by unfold sRet; rw [h]
theorem cons_of {f : Fe} {g : Fa} {γ : Ge} {d : D} {ds : List D} (h : f γ = some (.ok d)) (h2 : g γ = some (.ok ds)) : fCons f g γ = some (.ok (d :: ds)) := by
  unfold fCons
  rw [h]
  simp only [bL_ok]
  rw [h2]
  rfl
theorem call_of {φ : List D → Option Rs} {a : Fa} {γ : Ge} {ds : List D} {r : Rs} (h : a γ = some (.ok ds)) (h2 : φ ds = some r) : fCall φ a γ = some r := by
  unfold fCall
  rw [h]
  simp only [bA_ok]
  exact h2
theorem callO_of {φ : List D → Option Rs} {a : Fa} {γ : Ge} {ds : List D} {d : D} (h : a γ = some (.ok ds)) (h2 : φ ds = some (.ok d)) (hf : flatD d = true) : fCallO φ a γ = some (.ok d) := by
  unfold fCallO
  rw [h]
  simp only [bA_ok]
  rw [h2]
  simp only
  rw [if_pos hf]
theorem setM_of {i : Nat} {a : Fe} {γ : Ge} {ds : List D} (h : a γ = some (.ok (.list ds))) : sSetM i a γ = some (.nx (γ.set i (.ow ds))) := by
  unfold sSetM
  rw [h]
theorem app_of {i : Nat} {a : Fe} {γ : Ge} {ds : List D} {d : D} (hi : γ[i]? = some (.ow ds)) (h : a γ = some (.ok d)) (hz : ds.length ≤ big) : sApp i a γ = some (.nx (γ.set i (.ow (ds ++ [d])))) := by
  unfold sApp
  rw [hi]
  simp only
  rw [h]
  simp only
  rw [if_pos hz]
theorem gOr_of {f g : Ft} {γ : Ge} {b : Bool} (h : f γ = some (.ok false)) (h2 : g γ = some (.ok b)) : gOr f g γ = some (.ok b) := by
  unfold gOr
  rw [h]
  exact h2
theorem way_st4 {γ1 : Ge} {S1 l2 lm l5 lr : D} {wanted : Bool} (v1 : fVar 1 γ1 = some (.ok S1)) (o1 : fOpd 1 γ1 = some (.ok S1)) (o2 : fOpd 2 γ1 = some (.ok l2)) (o3 : fOpd 3 γ1 = some (.ok (.bool wanted))) (o5 : fOpd 5 γ1 = some (.ok l5)) (om : f1 (oFld "marks") (fOpd 0) γ1 = some (.ok lm)) (ad : oAdd l2 l5 = some lr)
    (lh : Phi 61 .l_holds [S1, lr] = some (.ok (.bool wanted))) (fi : Phi 61 .l_first [S1, l2, lm, l5, .bool wanted] = some (.ok (.bool true))) (bw : (!(wanted == wanted)) = false) : sIf (gOr (fT (f2 oNe (fCall (Phi 61 .l_holds) (fCons (fVar 1) (fCons (f2 oAdd (fOpd 2) (fOpd 5)) fNil))) (fOpd 3))) (gNot (fT (fCallO (Phi 61 .l_first) (fCons (fOpd 1) (fCons (fOpd 2) (fCons (f1 (oFld "marks") (fOpd 0)) (fCons (fOpd 5) (fCons (fOpd 3) fNil))))))))) (sRet (fCon (.bool false))) fNext γ1 = some (.nx γ1) := by
  have a1 : fCall (Phi 61 .l_holds) (fCons (fVar 1) (fCons (f2 oAdd (fOpd 2) (fOpd 5)) fNil)) γ1 = some (.ok (.bool wanted)) := call_of (cons_of v1 (cons_of (f2_of (o := oAdd) o2 o5 ad) rfl)) lh
  have c1 : fT (f2 oNe (fCall (Phi 61 .l_holds) (fCons (fVar 1) (fCons (f2 oAdd (fOpd 2) (fOpd 5)) fNil))) (fOpd 3)) γ1 = some (.ok false) := fT_of (f2_of a1 o3 (by rw [oNe_bool, bw]))
  have a2 : fCallO (Phi 61 .l_first) (fCons (fOpd 1) (fCons (fOpd 2) (fCons (f1 (oFld "marks") (fOpd 0)) (fCons (fOpd 5) (fCons (fOpd 3) fNil))))) γ1 = some (.ok (.bool true)) := callO_of (cons_of o1 (cons_of o2 (cons_of om (cons_of o5 (cons_of o3 rfl))))) fi rfl
  have c2 : gNot (fT (fCallO (Phi 61 .l_first) (fCons (fOpd 1) (fCons (fOpd 2) (fCons (f1 (oFld "marks") (fOpd 0)) (fCons (fOpd 5) (fCons (fOpd 3) fNil))))))) γ1 = some (.ok false) := by
    unfold gNot
    rw [fT_of a2]
    rfl
  rw [sIf_of (gOr_of c1 c2)]
  rfl
def wayB : Fs := (fSeq (sSetM 5 (fCall (Phi 61 .going) (fCons (fVar 0) (fCons (fVar 4) (fCons (fVar 3) fNil)))))
    (fSeq (sIf (fT (f2 oIs (fOpd 5) (fCon .none))) (sRet (f2 oEq (fLc (wLst (fCall (Phi 61 .reached) (fCons (fVar 0) (fCons (fVar 4) fNil)))) (gfN 6) (fT (f2 oEq (fCall (Phi 61 .is_met) (fCons (fVar 6) fNil)) (fOpd 3))) (fVar 6) [6]) (fLst fNil))) fNext)
    (fSeq (sIf (gOr (gNot (fT (f1 (oIsi "list") (fOpd 5)))) (fT (f2 oNe (fLcO 5 (gfN 7) (fT (f2 (oIn true) (fOpd 7) (f1 (oFld "marks") (fOpd 0)))) (fVar 7) [7]) (fLst fNil)))) (sRet (fCon (.bool false))) fNext)
    (fSeq (sIf (gOr (fT (f2 oNe (fCall (Phi 61 .l_holds) (fCons (fVar 1) (fCons (f2 oAdd (fOpd 2) (fOpd 5)) fNil))) (fOpd 3))) (gNot (fT (fCallO (Phi 61 .l_first) (fCons (fOpd 1) (fCons (fOpd 2) (fCons (f1 (oFld "marks") (fOpd 0)) (fCons (fOpd 5) (fCons (fOpd 3) fNil))))))))) (sRet (fCon (.bool false))) fNext)
    (fSeq (sApp 5 (fCon (.str "more")))
    (sRet (f2 oEq (fCall (Phi 61 .going) (fCons (fVar 0) (fCons (fVar 4) (fCons (fVar 3) fNil)))) (fSl (fOpd 5) fiNo (fiSm (f1 oNeg (fCon (.int 1)))))))))))) 
section
variable {W P : List Sta} {V : List Str} {S : Sta} {Ms run : List Str} {wanted : Bool} {s0 : Sst}
theorem way_non (p : Pln 7 W P V S) (hN : ∀ l : List Sst, l.Nodup → (∀ s ∈ l, Jst W P V s) → l.length ≤ 11000000) (j : Jst W P V s0) (hno : ∀ w : List Str, (∀ m ∈ w, m ∈ Ms) → metT (stepsT W P w s0) ≠ wanted) (eg : Phi 61 .going [planOf W P Ms, stD s0, .bool wanted] = some (.ok (optD none))) :
    wayB [.va (planOf W P Ms), .va (enc S), .va (.list (run.map .str)), .va (.bool wanted), .va (stD s0), .no, .no, .no] = some (.rt (.bool true)) := by
  have b0 : 0 ≤ big := by decide
  have eq0 : oEq (.list []) (.list []) = some (.bool true) := (okD_list (n := 0) (l := []) fun _ h => by cases h).eq (by omega)
  unfold wayB
  obtain ⟨F, gF, eF⟩ := run_reached p hN (by decide) Ms j (n := 61) (by omega)
  have zF : (F.map stD).length ≤ big := by rw [List.length_map]; exact Nat.le_trans (hN F gF.nd gF.ok) (by decide)
  have lc : lcF (gfN 6) (fT (f2 oEq (fCall (Phi 61 .is_met) (fCons (fVar 6) fNil)) (fOpd 3))) (fVar 6) [.va (planOf W P Ms), .va (enc S), .va (.list (run.map .str)), .va (.bool wanted), .va (stD s0), .va .none, .no, .no] (F.map stD) = some [] := by
    have := lcF_filter (gf := gfN 6) (cf := fT (f2 oEq (fCall (Phi 61 .is_met) (fCons (fVar 6) fNil)) (fOpd 3))) (ef := fVar 6) (γ := [.va (planOf W P Ms), .va (enc S), .va (.list (run.map .str)), .va (.bool wanted), .va (stD s0), .va .none, .no, .no]) stD (fun s => metT s == wanted) stD F fun s hs => by
      have mt := run_met s (gF.ok s hs).pos 60
      have mt : Phi 61 .is_met [stD s] = some (.ok (.bool (metT s))) := mt
      refine ⟨[.va (planOf W P Ms), .va (enc S), .va (.list (run.map .str)), .va (.bool wanted), .va (stD s0), .va .none, .va (stD s), .no], rfl, ?_, fun _ => rfl⟩
      simp only [fOwn, fOpN,  fSeq, fNext, sRet, sRetN, sIf, sSet, sSetO, sAsg, sApp, sFor, forF, fVar, fOpd, fCon, f2, f1, fNil, fCons, bR, bL, bA, bLL, oR, fT, gAnd, gOr, gNot, gYes, fAnd, fOr, fNot, fIte, fTup, fLst, fCall, fCallO, fB, fM1, fSl, fiNo, fiSm, fLc, wLst, wTup, wStr, wRg1, wRg2, wZip, wEnum, gfN, gfTup, gsNil, gsCons, fLrg, fLrg3, wipeG, xSeq, xSet, xOf, xCall, xIf, xRet, xNext, xTup, xCons, xNil, xPut, xCallP, sRetX, sSetX, List.getElem?_cons_zero, List.getElem?_cons_succ, List.set_cons_zero, List.set_cons_succ, mt, oEq_bool, bR_ok, bL_ok, bLL_ok, bA_ok, oR_some]
    rw [this]
    have hf : F.filter (fun s => metT s == wanted) = [] := List.filter_eq_nil_iff.mpr fun s hs => by
      obtain ⟨w, h1, h2⟩ := gF.way s hs
      have := hno w h1
      rw [← h2] at this
      simpa using this
    rw [hf]
    rfl
  have fl : fLc (wLst (fCall (Phi 61 .reached) (fCons (fVar 0) (fCons (fVar 4) fNil)))) (gfN 6) (fT (f2 oEq (fCall (Phi 61 .is_met) (fCons (fVar 6) fNil)) (fOpd 3))) (fVar 6) [6] [.va (planOf W P Ms), .va (enc S), .va (.list (run.map .str)), .va (.bool wanted), .va (stD s0), .va .none, .no, .no] = some (.ok (.list [])) := by
    have e6 : wipeG [Sl.va (planOf W P Ms), .va (enc S), .va (.list (run.map .str)), .va (.bool wanted), .va (stD s0), .va .none, .no, .no] [6] = [Sl.va (planOf W P Ms), .va (enc S), .va (.list (run.map .str)), .va (.bool wanted), .va (stD s0), .va .none, .no, .no] := rfl
    have hw : wLst (fCall (Phi 61 .reached) (fCons (fVar 0) (fCons (fVar 4) fNil))) [Sl.va (planOf W P Ms), .va (enc S), .va (.list (run.map .str)), .va (.bool wanted), .va (stD s0), .va .none, .no, .no] = some (.ok (F.map stD)) := by
      simp only [wLst, fCall, fCons, fVar, fNil, List.getElem?_cons_zero, List.getElem?_cons_succ, bL_ok, bLL_ok, bA_ok, eF]
    unfold fLc
    rw [hw]
    simp only [zF, if_pos, e6, lc]
  rw [fSeq_nx (γ1 := [.va (planOf W P Ms), .va (enc S), .va (.list (run.map .str)), .va (.bool wanted), .va (stD s0), .va .none, .no, .no]) (by simp [fOwn, fOpN,  fSeq, fNext, sRet, sRetN, sIf, sSet, sSetO, sAsg, sApp, sFor, forF, fVar, fOpd, fCon, f2, f1, fNil, fCons, bR, bL, bA, bLL, oR, fT, gAnd, gOr, gNot, gYes, fAnd, fOr, fNot, fIte, fTup, fLst, fCall, fCallO, fB, fM1, fSl, fiNo, fiSm, fLc, wLst, wTup, wStr, wRg1, wRg2, wZip, wEnum, gfN, gfTup, gsNil, gsCons, fLrg, fLrg3, wipeG, xSeq, xSet, xOf, xCall, xIf, xRet, xNext, xTup, xCons, xNil, xPut, xCallP, sRetX, sSetX, List.getElem?_cons_zero, List.getElem?_cons_succ, List.set_cons_zero, List.set_cons_succ, sSetM, eg, optD])]
  refine seq_rt ?_
  have hc : fT (f2 oIs (fOpd 5) (fCon .none)) [.va (planOf W P Ms), .va (enc S), .va (.list (run.map .str)), .va (.bool wanted), .va (stD s0), .va .none, .no, .no] = some (.ok true) := rfl
  rw [sIf_of hc, if_pos rfl]
  unfold sRet
  have e : f2 oEq (fLc (wLst (fCall (Phi 61 .reached) (fCons (fVar 0) (fCons (fVar 4) fNil)))) (gfN 6) (fT (f2 oEq (fCall (Phi 61 .is_met) (fCons (fVar 6) fNil)) (fOpd 3))) (fVar 6) [6]) (fLst fNil) [.va (planOf W P Ms), .va (enc S), .va (.list (run.map .str)), .va (.bool wanted), .va (stD s0), .va .none, .no, .no] = some (.ok (.bool true)) := f2_of fl (by simp only [fLst, fNil, bA_ok, List.length_nil, b0, if_pos]) eq0
  rw [e]
theorem way_row {r : List Str} (fS : Fine 7 okM S) (hM : ∀ s ∈ Ms, okM s) (zM : Ms.length ≤ 90) (nM : Ms.Nodup) (hr : run.length ≤ 100) (hok : ∀ s ∈ run, okM s) (hm : ∀ w, metT (stepsT W P w s0) = holdsT S (run ++ w)) (hrM : ∀ m ∈ r, m ∈ Ms) (hmet : metT (stepsT W P r s0) = wanted)
    (hmin : ∀ w : List Str, (∀ m ∈ w, m ∈ Ms) → ltV (rv Ms w) (rv Ms r) → metT (stepsT W P w s0) ≠ wanted) (zr : r.length ≤ 12000000) (eg : Phi 61 .going [planOf W P Ms, stD s0, .bool wanted] = some (.ok (optD (some r)))) :
    wayB [.va (planOf W P Ms), .va (enc S), .va (.list (run.map .str)), .va (.bool wanted), .va (stD s0), .no, .no, .no] = some (.rt (.bool true)) := by
  have b0 : 0 ≤ big := by decide
  have fm : oFld "marks" (planOf W P Ms) = some (.list (Ms.map .str)) := by unfold planOf; rw [fldM]
  have isl : ∀ x : List D, oIsi "list" (.list x) = some (.bool true) := fun x => by simp [oIsi, Py.isT, tyN]
  have ne0 : oNe (.list []) (.list []) = some (.bool false) := (okD_list (n := 0) (l := []) fun _ h => by cases h).ne (by omega)
  have hrok : ∀ s ∈ r, okM s := fun s hs => hM s (hrM s hs)
  have k : RowOk 7 S run r Ms wanted := ⟨fS, hr, hok, hM, zM, ix_up nM, hrM, zr, fun w h1 h2 => by rw [← hm w]; exact hmin w h1 h2⟩
  have fi := run_first k (n := 61) (by omega)
  have ad : oAdd (.list (run.map .str)) (.list (r.map .str)) = some (.list ((run ++ r).map .str)) := by
    rw [oAdd_lst, if_pos (by simp only [List.length_map]; unfold big; omega), List.map_append]
  have lh := run_lholds fS (r := run ++ r) (by rw [List.length_append]; omega) (fun s hs => (List.mem_append.mp hs).elim (hok s) (hrok s)) (n := 61) (by omega)
  rw [← hm r, hmet] at lh
  have lc : lcF (gfN 7) (fT (f2 (oIn true) (fOpd 7) (f1 (oFld "marks") (fOpd 0)))) (fVar 7) [.va (planOf W P Ms), .va (enc S), .va (.list (run.map .str)), .va (.bool wanted), .va (stD s0), .ow (r.map .str), .no, .no] (r.map .str) = some [] := by
    have := lcF_filter (gf := gfN 7) (cf := fT (f2 (oIn true) (fOpd 7) (f1 (oFld "marks") (fOpd 0)))) (ef := fVar 7) (γ := [.va (planOf W P Ms), .va (enc S), .va (.list (run.map .str)), .va (.bool wanted), .va (stD s0), .ow (r.map .str), .no, .no]) PyData.str (fun m => !decide (m ∈ Ms)) PyData.str r fun m hmr => by
      have i := in_strs hM (hrok m hmr)
      refine ⟨[.va (planOf W P Ms), .va (enc S), .va (.list (run.map .str)), .va (.bool wanted), .va (stD s0), .ow (r.map .str), .no, .va (.str m)], rfl, ?_, fun _ => rfl⟩
      simp only [fOwn, fOpN,  fSeq, fNext, sRet, sRetN, sIf, sSet, sSetO, sAsg, sApp, sFor, forF, fVar, fOpd, fCon, f2, f1, fNil, fCons, bR, bL, bA, bLL, oR, fT, gAnd, gOr, gNot, gYes, fAnd, fOr, fNot, fIte, fTup, fLst, fCall, fCallO, fB, fM1, fSl, fiNo, fiSm, fLc, wLst, wTup, wStr, wRg1, wRg2, wZip, wEnum, gfN, gfTup, gsNil, gsCons, fLrg, fLrg3, wipeG, xSeq, xSet, xOf, xCall, xIf, xRet, xNext, xTup, xCons, xNil, xPut, xCallP, sRetX, sSetX, List.getElem?_cons_zero, List.getElem?_cons_succ, List.set_cons_zero, List.set_cons_succ, fm, i, bR_ok, oR_some]
    rw [this]
    have hf : r.filter (fun m => !decide (m ∈ Ms)) = [] := List.filter_eq_nil_iff.mpr fun m hmr => by simp [hrM m hmr]
    rw [hf]
    rfl
  have zb : (r.map PyData.str).length ≤ big := by rw [List.length_map]; unfold big; omega
  have fl : fLcO 5 (gfN 7) (fT (f2 (oIn true) (fOpd 7) (f1 (oFld "marks") (fOpd 0)))) (fVar 7) [7] [.va (planOf W P Ms), .va (enc S), .va (.list (run.map .str)), .va (.bool wanted), .va (stD s0), .ow (r.map .str), .no, .no] = some (.ok (.list [])) := by
    have e6 : wipeG [Sl.va (planOf W P Ms), .va (enc S), .va (.list (run.map .str)), .va (.bool wanted), .va (stD s0), .ow (r.map .str), .no, .no] [7] = [Sl.va (planOf W P Ms), .va (enc S), .va (.list (run.map .str)), .va (.bool wanted), .va (stD s0), .ow (r.map .str), .no, .no] := rfl
    unfold fLcO
    simp only [List.getElem?_cons_zero, List.getElem?_cons_succ, zb, if_pos, e6, lc]
  have cl := cut_last (r.map .str) (.str "more")
  have eqr := oEq_strs hrok hrok
  rw [decide_eq_true rfl] at eqr
  have bw : (!(wanted == wanted)) = false := by simp
  simp only [optD] at eg
  have fl2 : fLcO 5 (gfN 7) (fT (f2 (oIn true) (fOpd 7) (f1 (oFld "marks") (fOpd 0)))) (fVar 7) [7] [.va (planOf W P Ms), .va (enc S), .va (.list (run.map .str)), .va (.bool wanted), .va (stD s0), .ow (r.map .str), .no, .no] = some (.ok (.list [])) := fl
  generalize r.map PyData.str = rd at *
  generalize (run ++ r).map PyData.str = rr at *
  generalize hg : ([.va (planOf W P Ms), .va (enc S), .va (.list (run.map .str)), .va (.bool wanted), .va (stD s0), .ow rd, .no, .no] : Ge) = γ1 at fl2
  have g0 : γ1[0]? = some (.va (planOf W P Ms)) := by rw [← hg]; rfl
  have g1 : γ1[1]? = some (.va (enc S)) := by rw [← hg]; rfl
  have g2 : γ1[2]? = some (.va (.list (run.map .str))) := by rw [← hg]; rfl
  have g3 : γ1[3]? = some (.va (.bool wanted)) := by rw [← hg]; rfl
  have g5 : γ1[5]? = some (.ow rd) := by rw [← hg]; rfl
  have st1 : sSetM 5 (fCall (Phi 61 .going) (fCons (fVar 0) (fCons (fVar 4) (fCons (fVar 3) fNil)))) [.va (planOf W P Ms), .va (enc S), .va (.list (run.map .str)), .va (.bool wanted), .va (stD s0), .no, .no, .no] = some (.nx γ1) := by
    rw [← hg]
    exact setM_of (by simp only [fCall, fCons, fVar, fNil, List.getElem?_cons_zero, List.getElem?_cons_succ, bL_ok, bLL_ok, bA_ok, eg])
  have o5 : fOpd 5 γ1 = some (.ok (.list rd)) := by unfold fOpd; rw [g5]
  have o2 : fOpd 2 γ1 = some (.ok (.list (run.map .str))) := by unfold fOpd; rw [g2]
  have o3 : fOpd 3 γ1 = some (.ok (.bool wanted)) := by unfold fOpd; rw [g3]
  have o1 : fOpd 1 γ1 = some (.ok (enc S)) := by unfold fOpd; rw [g1]
  have v1 : fVar 1 γ1 = some (.ok (enc S)) := by unfold fVar; rw [g1]
  have om : f1 (oFld "marks") (fOpd 0) γ1 = some (.ok (.list (Ms.map .str))) := by unfold f1 fOpd; rw [g0]; simp only [bR_ok, fm, oR_some]
  have st2 : sIf (fT (f2 oIs (fOpd 5) (fCon .none))) (sRet (f2 oEq (fLc (wLst (fCall (Phi 61 .reached) (fCons (fVar 0) (fCons (fVar 4) fNil)))) (gfN 6) (fT (f2 oEq (fCall (Phi 61 .is_met) (fCons (fVar 6) fNil)) (fOpd 3))) (fVar 6) [6]) (fLst fNil))) fNext γ1 = some (.nx γ1) := (by rw [sIf_of (fT_of (f2_of o5 (show fCon .none γ1 = some (.ok .none) from rfl) (show oIs (.list rd) .none = some (.bool false) from rfl)))]; rfl)
  have st3 : sIf (gOr (gNot (fT (f1 (oIsi "list") (fOpd 5)))) (fT (f2 oNe (fLcO 5 (gfN 7) (fT (f2 (oIn true) (fOpd 7) (f1 (oFld "marks") (fOpd 0)))) (fVar 7) [7]) (fLst fNil)))) (sRet (fCon (.bool false))) fNext γ1 = some (.nx γ1) := (by
    have e : f2 oNe (fLcO 5 (gfN 7) (fT (f2 (oIn true) (fOpd 7) (f1 (oFld "marks") (fOpd 0)))) (fVar 7) [7]) (fLst fNil) γ1 = some (.ok (.bool false)) := f2_of fl2 (by simp only [fLst, fNil, bA_ok, List.length_nil, b0, if_pos]) ne0
    have c1 : gNot (fT (f1 (oIsi "list") (fOpd 5))) γ1 = some (.ok false) := by
      unfold gNot fT f1
      rw [o5]
      simp only [bR_ok, isl, oR_some, Bool.not_true]
    rw [sIf_of (gOr_of c1 (fT_of e))]
    rfl)
  have st4 := way_st4 v1 o1 o2 o3 o5 om ad lh fi bw
  have st6 : sApp 5 (fCon (.str "more")) γ1 = some (.nx (γ1.set 5 (.ow (rd ++ [.str "more"])))) := app_of g5 rfl zb
  have l8 : γ1.length = 8 := by rw [← hg]; rfl
  have p5 : (γ1.set 5 (.ow (rd ++ [.str "more"])))[5]? = some (.ow (rd ++ [.str "more"])) := by rw [List.getElem?_set_self (by omega)]
  have q1 : fCall (Phi 61 .going) (fCons (fVar 0) (fCons (fVar 4) (fCons (fVar 3) fNil))) (γ1.set 5 (.ow (rd ++ [.str "more"]))) = some (.ok (.list rd)) := by
    rw [← hg]
    simp only [fCall, fCons, fVar, fNil, List.set_cons_succ, List.set_cons_zero, List.getElem?_cons_zero, List.getElem?_cons_succ, bL_ok, bLL_ok, bA_ok, eg]
  have q2 : fSl (fOpd 5) fiNo (fiSm (f1 oNeg (fCon (.int 1)))) (γ1.set 5 (.ow (rd ++ [.str "more"]))) = some (.ok (.list rd)) := by
    have n1 : fiSm (f1 oNeg (fCon (.int 1))) (γ1.set 5 (.ow (rd ++ [.str "more"]))) = some (.ok (some (-1))) := rfl
    have o5' : fOpd 5 (γ1.set 5 (.ow (rd ++ [.str "more"]))) = some (.ok (.list (rd ++ [.str "more"]))) := by unfold fOpd; rw [p5]
    unfold fSl
    rw [o5']
    simp only [bR_ok, fiNo]
    rw [n1]
    simp only [cl, oR_some]
  exact seq_nx st1 (seq_nx st2 (seq_nx st3 (seq_nx st4 (seq_nx st6 (ret_of (f2_of q1 q2 eqr))))))
end
theorem run_way {W P : List Sta} {V : List Str} {S : Sta} (p : Pln 7 W P V S) (uW : ∀ w ∈ W, unm w) (nf : ∀ q ∈ P, noFut q) (fS : Fine 7 okM S) (hN : ∀ l : List Sst, l.Nodup → (∀ s ∈ l, Jst W P V s) → l.length ≤ 11000000) {Ms : List Str} (hM : ∀ s ∈ Ms, okM s) (zM : Ms.length ≤ 90) (nM : Ms.Nodup)
    (j0 : Jst W P V (firstT W P)) {run : List Str} (hr : run.length ≤ 100) (hok : ∀ s ∈ run, okM s) (wanted : Bool) : Phi 62 .l_way [planOf W P Ms, enc S, .list (run.map .str), .bool wanted] = some (.ok (.bool true)) := by
  have j := p.steps run j0
  have est := run_state p Ms run (n := 61) (by omega) j0
  have hm : ∀ w, metT (stepsT W P w (stepsT W P run (firstT W P))) = holdsT S (run ++ w) := fun w => by rw [← stepsT_app, met_holds p uW nf]
  generalize stepsT W P run (firstT W P) = s0 at est j hm
  obtain ⟨o, ho, eg⟩ := run_going p hN (by decide) (by decide) (ix_up nM) j wanted (n := 61) (by omega)
  have phi : Phi 62 .l_way = runF 4 8 (f_l_way (Phi 61)) := phi_l_way 61
  rw [phi]
  refine runF_rt rfl ?_
  unfold f_l_way
  rw [fSeq_nx (γ1 := [.va (planOf W P Ms), .va (enc S), .va (.list (run.map .str)), .va (.bool wanted), .va (stD s0), .no, .no, .no]) (by simp [entry, fOwn, fOpN,  fSeq, fNext, sRet, sRetN, sIf, sSet, sSetO, sAsg, sApp, sFor, forF, fVar, fOpd, fCon, f2, f1, fNil, fCons, bR, bL, bA, bLL, oR, fT, gAnd, gOr, gNot, gYes, fAnd, fOr, fNot, fIte, fTup, fLst, fCall, fCallO, fB, fM1, fSl, fiNo, fiSm, fLc, wLst, wTup, wStr, wRg1, wRg2, wZip, wEnum, gfN, gfTup, gsNil, gsCons, fLrg, fLrg3, wipeG, xSeq, xSet, xOf, xCall, xIf, xRet, xNext, xTup, xCons, xNil, xPut, xCallP, sRetX, sSetX, List.getElem?_cons_zero, List.getElem?_cons_succ, List.set_cons_zero, List.set_cons_succ, List.replicate, est])]
  cases ho with
  | non hno => exact way_non p hN j hno eg
  | row hrM hmet hmin zr => exact way_row fS hM zM nM hr hok hm hrM hmet hmin zr eg
theorem law_true (ns : List Int) (hl : ns.length ≤ 63) : lawT 60 [.list (ns.map .int)] = some (.ok (.bool true)) := by
  obtain ⟨x, y, z, hx, hy, hz, ⟨nx_, ny_, nz_⟩, _, en⟩ := run_names3 61 (cellT ns 0)
  have c0 : Phi 62 .l_cell_at [.list (ns.map .int), .int 0] = some (.ok (.int (cellT ns 0))) := run_cell 61 ns 0
  have c1 : Phi 62 .l_cell_at [.list (ns.map .int), .int 1] = some (.ok (.int (cellT ns 1))) := run_cell 61 ns 1
  have hV : ∀ m, m ∈ [x, y, z] → okM m := by
    intro w hw
    simp only [List.mem_cons, List.not_mem_nil, or_false] at hw
    rcases hw with rfl | rfl | rfl
    · exact hx.ok
    · exact hy.ok
    · exact hz.ok
  have hE : ∀ m, m ∈ [x, y, z] → m ≠ "" := by
    intro w hw
    simp only [List.mem_cons, List.not_mem_nil, or_false] at hw
    have ne0 : ∀ s : Str, 1 ≤ s.length → s ≠ "" := fun s h e => by rw [e] at h; exact absurd h (by decide)
    rcases hw with rfl | rfl | rfl
    · exact ne0 _ nx_
    · exact ne0 _ ny_
    · exact ne0 _ nz_
  obtain ⟨S, fS', uS, few, eb⟩ := run_built (ns := ns) (p := fun m => m ∈ [x, y, z]) (fun w hw => hw) hV (most := 3) (by omega) (n := 61) (by omega)
  have eb : Phi 62 .l_built [.list (ns.map .int), .list [.str x, .str y, .str z], .int 3] = some (.ok (enc S)) := eb
  have h7 : 0 ≤ cellT ns 1 / 8 % 7 ∧ cellT ns 1 / 8 % 7 < 7 := ⟨Int.emod_nonneg _ (by decide), Int.emod_lt_of_pos _ (by decide)⟩
  obtain ⟨q7, hq7⟩ : ∃ q : Nat, cellT ns 1 / 8 % 7 = q := ⟨(cellT ns 1 / 8 % 7).toNat, by omega⟩
  obtain ⟨run, hr, hlow, er⟩ := run_run 61 ns 3 q7 (by omega) hx hy hz
  have er : Phi 62 .l_run [.list (ns.map .int), .int 3, .list [.str x, .str y, .str z], .int (cellT ns 1 / 8 % 7)] = some (.ok (.list (run.map .str))) := by rw [hq7]; exact er
  have fS : Fine 7 okM S := fS'.mono (by omega) hV
  have mS : S.Marks (· ∈ [("" : Str), x, y, z]) := Marks.mono (fun m hm => List.mem_cons_of_mem _ hm) fS'.mks
  have cU : ∀ w ∈ wishesT S, ∀ o ∈ wishedT w, o ∈ wishesT S := fun w hw o ho => wishesT_closed hw ho
  have fU : ∀ w ∈ wishesT S, Fine 7 okM w := fun w hw => wishesT_fine fS w hw
  obtain ⟨F, g, ep⟩ := run_plan (d := 7) (n := 60) (by omega) (by omega) (V := [("" : Str), x, y, z]) List.mem_cons_self (by simp) (by simp) fS mS fU cU (by omega) (mem_wishesT.mpr (.inl rfl))
  have lF := nodup_len F _ g.nd g.sub
  have k : PlanOk 7 F (pastsT S) := by
    refine ⟨by omega, fun w hw => fU w (g.sub w hw), pasts_fine fS, by omega, ?_⟩
    have h1 := pastsT_len S
    have h2 := allT_len S
    have h3 : 2 ^ S.depth ≤ 2 ^ 7 := Nat.pow_le_pow_right (by omega) fS.dep
    omega
  have nf : ∀ p ∈ pastsT S, noFut p := fun p hp => past_noFut uS p (mem_pastsT.mp hp).1 (mem_pastsT.mp hp).2
  have pk : PastsOk F (pastsT S) := ⟨fun q hq => (mem_pastsT.mp hq).2, fun q hq o ho hp => mem_pastsT.mpr ⟨allT_trans (mem_pastsT.mp hq).1 ho, hp⟩, fun q hq o ho => by rw [wished_noFut (nf q hq)] at ho; cases ho⟩
  have cw : ∀ w ∈ F, ∀ o ∈ wishedT w, o ∈ F := fun w hw o ho => by
    obtain ⟨i, hi, e⟩ := List.mem_iff_getElem.mp hw
    exact g.done i hi w (by rw [List.getElem?_eq_getElem hi, e]) o ho
  have cp : ∀ w ∈ F, ∀ o ∈ allT w, isPast o → o ∈ pastsT S := fun w hw o ho hp => mem_pastsT.mpr ⟨wish_pasts (g.sub w hw) o ho hp, hp⟩
  have uW : ∀ w ∈ F, unm w := fun w hw => unm_wishes uS (g.sub w hw)
  have wo : WishOk F S := ⟨g.nd, g.sub, g.hd, cw⟩
  have p : Pln 7 F (pastsT S) [x, y, z] S := ⟨k, pk, cw, cp, wo, rfl, fun q hq => (pasts_fine fS' q hq).mks⟩
  have hFne : F ≠ [] := fun e => by have := g.hd; rw [e] at this; cases this
  have j0 := jst_first (W := F) (V := [x, y, z]) rfl hFne pk.past p.mP
  have hN : ∀ l : List Sst, l.Nodup → (∀ s ∈ l, Jst F (pastsT S) [x, y, z] s) → l.length ≤ 11000000 := fun l h1 h2 => states_few wo uS fS'.dep few l h1 h2
  have h0 : okM "" := by unfold okM; decide +kernel
  have hM : ∀ s ∈ marksT S, okM s := fun s hs => by
    have := mem_marksT List.mem_cons_self mS s hs
    rcases List.mem_cons.mp this with q | q
    · rw [q]; exact h0
    · exact hV s q
  have lM := marksT_len (V := [("" : Str), x, y, z]) List.mem_cons_self (by simp) mS
  have nMs : (marksT S).Nodup := nodup_marksT fun m hm => hE m (Marks.at fS'.mks m hm)
  have w1 := run_way p uW nf fS hN hM (by simp at lM; omega) nMs j0 (run := run) (by omega) (fun s hs => (hlow s hs).ok) true
  have w2 := run_way p uW nf fS hN hM (by simp at lM; omega) nMs j0 (run := run) (by omega) (fun s hs => (hlow s hs).ok) false
  have fS2 := run_fields F (pastsT S) (marksT S) 61
  have fS2 : Phi 62 .l_fields [planOf F (pastsT S) (marksT S)] = some (.ok (fieldsD F (pastsT S) (marksT S))) := fS2
  have eqF := (okD_fields k hM).eq (by omega)
  have m7 : oMod (.int (cellT ns 1 / 8)) (.int 7) = some (.int (cellT ns 1 / 8 % 7)) := oMod_int _ _ (by decide)
  have d8 : oDiv (.int (cellT ns 1)) (.int 8) = some (.int (cellT ns 1 / 8)) := oDiv_int _ _ (by decide) (by decide)
  generalize planOf F (pastsT S) (marksT S) = pl at *
  generalize fieldsD F (pastsT S) (marksT S) = fd at *
  unfold lawT f_law
  simp only [Nat.reduceAdd]
  refine runF_rt rfl ?_
  rw [fSeq_nx (γ1 := [.va (.list (ns.map .int)), .va (.list [.str x, .str y, .str z]), .no, .no, .no, .no]) (by simp [entry, fOwn, fOpN,  fSeq, fNext, sRet, sRetN, sIf, sSet, sSetO, sAsg, sApp, sFor, forF, fVar, fOpd, fCon, f2, f1, fNil, fCons, bR, bL, bA, bLL, oR, fT, gAnd, gOr, gNot, gYes, fAnd, fOr, fNot, fIte, fTup, fLst, fCall, fCallO, fB, fM1, fSl, fiNo, fiSm, fLc, wLst, wTup, wStr, wRg1, wRg2, wZip, wEnum, gfN, gfTup, gsNil, gsCons, fLrg, fLrg3, wipeG, xSeq, xSet, xOf, xCall, xIf, xRet, xNext, xTup, xCons, xNil, xPut, xCallP, sRetX, sSetX, List.getElem?_cons_zero, List.getElem?_cons_succ, List.set_cons_zero, List.set_cons_succ, List.replicate, c0, en])]
  rw [fSeq_nx (γ1 := [.va (.list (ns.map .int)), .va (.list [.str x, .str y, .str z]), .va (enc S), .no, .no, .no]) (by simp [fOwn, fOpN,  fSeq, fNext, sRet, sRetN, sIf, sSet, sSetO, sAsg, sApp, sFor, forF, fVar, fOpd, fCon, f2, f1, fNil, fCons, bR, bL, bA, bLL, oR, fT, gAnd, gOr, gNot, gYes, fAnd, fOr, fNot, fIte, fTup, fLst, fCall, fCallO, fB, fM1, fSl, fiNo, fiSm, fLc, wLst, wTup, wStr, wRg1, wRg2, wZip, wEnum, gfN, gfTup, gsNil, gsCons, fLrg, fLrg3, wipeG, xSeq, xSet, xOf, xCall, xIf, xRet, xNext, xTup, xCons, xNil, xPut, xCallP, sRetX, sSetX, List.getElem?_cons_zero, List.getElem?_cons_succ, List.set_cons_zero, List.set_cons_succ, eb])]
  rw [fSeq_nx (γ1 := [.va (.list (ns.map .int)), .va (.list [.str x, .str y, .str z]), .va (enc S), .va pl, .no, .no]) (by simp [fOwn, fOpN,  fSeq, fNext, sRet, sRetN, sIf, sSet, sSetO, sAsg, sApp, sFor, forF, fVar, fOpd, fCon, f2, f1, fNil, fCons, bR, bL, bA, bLL, oR, fT, gAnd, gOr, gNot, gYes, fAnd, fOr, fNot, fIte, fTup, fLst, fCall, fCallO, fB, fM1, fSl, fiNo, fiSm, fLc, wLst, wTup, wStr, wRg1, wRg2, wZip, wEnum, gfN, gfTup, gsNil, gsCons, fLrg, fLrg3, wipeG, xSeq, xSet, xOf, xCall, xIf, xRet, xNext, xTup, xCons, xNil, xPut, xCallP, sRetX, sSetX, List.getElem?_cons_zero, List.getElem?_cons_succ, List.set_cons_zero, List.set_cons_succ, fMake, ep])]
  rw [fSeq_nx (γ1 := [.va (.list (ns.map .int)), .va (.list [.str x, .str y, .str z]), .va (enc S), .va pl, .va (.list (run.map .str)), .no]) (by simp only [fOwn, fOpN,  fSeq, fNext, sRet, sRetN, sIf, sSet, sSetO, sAsg, sApp, sFor, forF, fVar, fOpd, fCon, f2, f1, fNil, fCons, bR, bL, bA, bLL, oR, fT, gAnd, gOr, gNot, gYes, fAnd, fOr, fNot, fIte, fTup, fLst, fCall, fCallO, fB, fM1, fSl, fiNo, fiSm, fLc, wLst, wTup, wStr, wRg1, wRg2, wZip, wEnum, gfN, gfTup, gsNil, gsCons, fLrg, fLrg3, wipeG, xSeq, xSet, xOf, xCall, xIf, xRet, xNext, xTup, xCons, xNil, xPut, xCallP, sRetX, sSetX, List.getElem?_cons_zero, List.getElem?_cons_succ, List.set_cons_zero, List.set_cons_succ, c1, d8, m7, er, bR_ok, bL_ok, bLL_ok, bA_ok, oR_some])]
  rw [fSeq_nx (γ1 := [.va (.list (ns.map .int)), .va (.list [.str x, .str y, .str z]), .va (enc S), .va pl, .va (.list (run.map .str)), .va fd]) (by simp [fOwn, fOpN,  fSeq, fNext, sRet, sRetN, sIf, sSet, sSetO, sAsg, sApp, sFor, forF, fVar, fOpd, fCon, f2, f1, fNil, fCons, bR, bL, bA, bLL, oR, fT, gAnd, gOr, gNot, gYes, fAnd, fOr, fNot, fIte, fTup, fLst, fCall, fCallO, fB, fM1, fSl, fiNo, fiSm, fLc, wLst, wTup, wStr, wRg1, wRg2, wZip, wEnum, gfN, gfTup, gsNil, gsCons, fLrg, fLrg3, wipeG, xSeq, xSet, xOf, xCall, xIf, xRet, xNext, xTup, xCons, xNil, xPut, xCallP, sRetX, sSetX, List.getElem?_cons_zero, List.getElem?_cons_succ, List.set_cons_zero, List.set_cons_succ, fS2])]
  rw [fSeq_nx (γ1 := [.va (.list (ns.map .int)), .va (.list [.str x, .str y, .str z]), .va (enc S), .va pl, .va (.list (run.map .str)), .va fd]) (by simp only [fOwn, fOpN,  fSeq, fNext, sRet, sRetN, sIf, sSet, sSetO, sAsg, sApp, sFor, forF, fVar, fOpd, fCon, f2, f1, fNil, fCons, bR, bL, bA, bLL, oR, fT, gAnd, gOr, gNot, gYes, fAnd, fOr, fNot, fIte, fTup, fLst, fCall, fCallO, fB, fM1, fSl, fiNo, fiSm, fLc, wLst, wTup, wStr, wRg1, wRg2, wZip, wEnum, gfN, gfTup, gsNil, gsCons, fLrg, fLrg3, wipeG, xSeq, xSet, xOf, xCall, xIf, xRet, xNext, xTup, xCons, xNil, xPut, xCallP, sRetX, sSetX, List.getElem?_cons_zero, List.getElem?_cons_succ, List.set_cons_zero, List.set_cons_succ, w1, w2, Bool.not_true, bR_ok, bL_ok, bLL_ok, bA_ok, oR_some])]
  simp only [fOwn, fOpN,  fSeq, fNext, sRet, sRetN, sIf, sSet, sSetO, sAsg, sApp, sFor, forF, fVar, fOpd, fCon, f2, f1, fNil, fCons, bR, bL, bA, bLL, oR, fT, gAnd, gOr, gNot, gYes, fAnd, fOr, fNot, fIte, fTup, fLst, fCall, fCallO, fB, fM1, fSl, fiNo, fiSm, fLc, wLst, wTup, wStr, wRg1, wRg2, wZip, wEnum, gfN, gfTup, gsNil, gsCons, fLrg, fLrg3, wipeG, xSeq, xSet, xOf, xCall, xIf, xRet, xNext, xTup, xCons, xNil, xPut, xCallP, sRetX, sSetX, List.getElem?_cons_zero, List.getElem?_cons_succ, List.set_cons_zero, List.set_cons_succ, eqF, fS2, bR_ok, bL_ok, bLL_ok, bA_ok, oR_some]
end K08

namespace K08
open PySem PySem.Spec PyProof.Rows L2 Py
section
variable {P : Program} {w : World} {K : PySem.W.Frag} {mg : Str → Option Value} {base : Heap} {M : Pm} {Cc fI fL : Addr} {fdI fdL : FuncData} {fa : Nm → Addr} {fdd : Nm → FuncData}
theorem okX_all (D : DD K mg Cc fa fdd) (Z : ZZ mg) (CP_ : CP K mg M Cc) : ∀ (n : Nat) (i : Nx), FnOk P w K mg base (L2.CX P w) n (fa i.n) (fdd i.n) (psN i.n) (spS K M (Psi n i))
  | 0, _ => fnX_zero
  | n + 1, i => by
    have OX := okX_all D Z CP_ n
    cases i with
    | l_draw => exact fnX_ok (D.d .l_draw).F sc_l_draw fun cdv A outer s H E C tk => d_l_draw D Z CP_ OX (Nat.le_refl n) cdv A outer s H E C tk
    | l_made => exact fnX_ok (D.d .l_made).F sc_l_made fun cdv A outer s H E C tk => d_l_made D Z CP_ OX (Nat.le_refl n) cdv A outer s H E C tk
theorem ok_both (D : DD K mg Cc fa fdd) (Z : ZZ mg) : ∀ n : Nat, (∀ (M : Pm) (CP_ : CP K mg M Cc) (i : Nm), FnOk P w K mg base (L2.CX P w) n (fa i) (fdd i) (psN i) (spF K M (Phi n i))) ∧ (∀ (M : Pm) (CP_ : CP K mg M Cc) (i : Nm), frs i = true → FnOk P w K mg base (L2.CX P w) n (fa i) (fdd i) (psN i) (spFr K M (Phi n i)))
  | 0 => ⟨fun _ _ _ => fn_zero, fun _ _ _ _ => fnF_zero⟩
  | n + 1 => by
    obtain ⟨OA, OB⟩ := ok_both D Z n
    refine ⟨fun M CP_ i => ?_, fun M CP_ i h => ?_⟩
    · have OK := OA M CP_
      cases i with
      | parts_of => exact fn_ok (D.d .parts_of).F sc_parts_of fun cdv A outer s H E C tk => d_parts_of D Z CP_ OK (Nat.le_refl n) cdv A outer s H E C tk
      | wished => exact fn_ok (D.d .wished).F sc_wished fun cdv A outer s H E C tk => d_wished D Z CP_ OK (Nat.le_refl n) cdv A outer s H E C tk
      | wishes_in => exact fn_ok (D.d .wishes_in).F sc_wishes_in fun cdv A outer s H E C tk => d_wishes_in D Z CP_ OK (Nat.le_refl n) cdv A outer s H E C tk
      | pasts_in => exact fn_ok (D.d .pasts_in).F sc_pasts_in fun cdv A outer s H E C tk => d_pasts_in D Z CP_ OK (Nat.le_refl n) cdv A outer s H E C tk
      | marks_in => exact fn_ok (D.d .marks_in).F sc_marks_in fun cdv A outer s H E C tk => d_marks_in D Z CP_ OK (Nat.le_refl n) cdv A outer s H E C tk
      | Plan_has => exact fn_ok (D.d .Plan_has).F sc_Plan_has fun cdv A outer s H E C tk => d_Plan_has D Z CP_ OK (Nat.le_refl n) cdv A outer s H E C tk
      | Plan_kept => exact fn_ok (D.d .Plan_kept).F sc_Plan_kept fun cdv A outer s H E C tk => d_Plan_kept D Z CP_ OK (Nat.le_refl n) cdv A outer s H E C tk
      | is_so => exact fn_ok (D.d .is_so).F sc_is_so fun cdv A outer s H E C tk => d_is_so D Z CP_ OK (Nat.le_refl n) cdv A outer s H E C tk
      | kept_behind => exact fn_ok (D.d .kept_behind).F sc_kept_behind fun cdv A outer s H E C tk => d_kept_behind D Z CP_ OK (Nat.le_refl n) cdv A outer s H E C tk
      | begun => exact fn_ok (D.d .begun).F sc_begun fun cdv A outer s H E C tk => d_begun D Z CP_ OK (Nat.le_refl n) cdv A outer s H E C tk
      | stepped => exact fn_ok (D.d .stepped).F sc_stepped fun cdv A outer s H E C tk => d_stepped D Z CP_ OK (Nat.le_refl n) cdv A outer s H E C tk
      | is_met => exact fn_ok (D.d .is_met).F sc_is_met fun cdv A outer s H E C tk => d_is_met D Z CP_ OK (Nat.le_refl n) cdv A outer s H E C tk
      | reached => exact fn_ok (D.d .reached).F sc_reached fun cdv A outer s H E C tk => d_reached D Z CP_ OK (Nat.le_refl n) cdv A outer s H E C tk
      | going => exact (fnN_ok (D.d .going).F sc_going fun kp cdv A outer s H E C tk => d_going D Z (CP_.kp kp) (OA _ (CP_.kp kp)) (Nat.le_refl n) cdv A outer s H E C tk).imp fun vs H Q E h => fr_cl h
      | l_cell_at => exact fn_ok (D.d .l_cell_at).F sc_l_cell_at fun cdv A outer s H E C tk => d_l_cell_at D Z CP_ OK (Nat.le_refl n) cdv A outer s H E C tk
      | l_names => exact fn_ok (D.d .l_names).F sc_l_names fun cdv A outer s H E C tk => d_l_names D Z CP_ OK (Nat.le_refl n) cdv A outer s H E C tk
      | l_all => exact fn_ok (D.d .l_all).F sc_l_all fun cdv A outer s H E C tk => d_l_all D Z CP_ OK (Nat.le_refl n) cdv A outer s H E C tk
      | l_wishes => exact fn_ok (D.d .l_wishes).F sc_l_wishes fun cdv A outer s H E C tk => d_l_wishes D Z CP_ OK (Nat.le_refl n) cdv A outer s H E C tk
      | l_fit => exact fn_ok (D.d .l_fit).F sc_l_fit fun cdv A outer s H E C tk => d_l_fit D Z CP_ OK (Nat.le_refl n) cdv A outer s H E C tk
      | l_until => exact fn_ok (D.d .l_until).F sc_l_until fun cdv A outer s H E C tk => d_l_until D Z CP_ OK (Nat.le_refl n) cdv A outer s H E C tk
      | l_means => exact fn_ok (D.d .l_means).F sc_l_means fun cdv A outer s H E C tk => d_l_means D Z CP_ OK (Nat.le_refl n) cdv A outer s H E C tk
      | l_run => exact fn_ok (D.d .l_run).F sc_l_run fun cdv A outer s H E C tk => d_l_run D Z CP_ OK (Nat.le_refl n) cdv A outer s H E C tk
      | l_built => exact fn_ok (D.d .l_built).F sc_l_built fun cdv A outer s H E C tk => d_l_built D Z CP_ OK (okX_all D Z CP_ n) (Nat.le_refl n) cdv A outer s H E C tk
      | l_state => exact fn_ok (D.d .l_state).F sc_l_state fun cdv A outer s H E C tk => d_l_state D Z CP_ OK (Nat.le_refl n) cdv A outer s H E C tk
      | l_longer => exact fn_ok (D.d .l_longer).F sc_l_longer fun cdv A outer s H E C tk => d_l_longer D Z CP_ OK (Nat.le_refl n) cdv A outer s H E C tk
      | l_holds => exact fn_ok (D.d .l_holds).F sc_l_holds fun cdv A outer s H E C tk => d_l_holds D Z CP_ OK (Nat.le_refl n) cdv A outer s H E C tk
      | l_first => exact fn_ok (D.d .l_first).F sc_l_first fun cdv A outer s H E C tk => d_l_first D Z CP_ OK (Nat.le_refl n) cdv A outer s H E C tk
      | l_way => exact fn_ok (D.d .l_way).F sc_l_way fun cdv A outer s H E C tk => d_l_way D Z CP_ OK (OB M CP_) (Nat.le_refl n) cdv A outer s H E C tk
      | l_fields => exact fn_ok (D.d .l_fields).F sc_l_fields fun cdv A outer s H E C tk => d_l_fields D Z CP_ OK (Nat.le_refl n) cdv A outer s H E C tk
      | l_draw => exact fn_none
      | l_made => exact fn_none
    · cases i with
      | parts_of => cases h
      | wished => cases h
      | wishes_in => cases h
      | pasts_in => cases h
      | marks_in => cases h
      | Plan_has => cases h
      | Plan_kept => cases h
      | is_so => cases h
      | kept_behind => cases h
      | begun => cases h
      | stepped => cases h
      | is_met => cases h
      | reached => exact fnFr_ok (D.d .reached).F sc_reached (by show NoNx (f_reached (Phi n)); unfold f_reached; repeat (first | exact nn_ret | apply nn_seq)) fun cdv A outer s H E C tk => (dF_reached D Z CP_ (OA M CP_) (Nat.le_refl n) cdv A outer s H E C tk).elim fun t J => ⟨t, J.ps, J.so⟩
      | going => exact fnN_ok (D.d .going).F sc_going fun kp cdv A outer s H E C tk => d_going D Z (CP_.kp kp) (OA _ (CP_.kp kp)) (Nat.le_refl n) cdv A outer s H E C tk
      | l_cell_at => cases h
      | l_names => cases h
      | l_all => cases h
      | l_wishes => cases h
      | l_fit => cases h
      | l_until => cases h
      | l_means => cases h
      | l_run => cases h
      | l_built => cases h
      | l_state => cases h
      | l_longer => cases h
      | l_holds => cases h
      | l_first => cases h
      | l_way => cases h
      | l_fields => cases h
      | l_draw => cases h
      | l_made => cases h
theorem ok_all (D : DD K mg Cc fa fdd) (Z : ZZ mg) (CP_ : CP K mg M Cc) (n : Nat) (i : Nm) : FnOk P w K mg base (L2.CX P w) n (fa i) (fdd i) (psN i) (spF K M (Phi n i)) := (ok_both D Z n).1 M CP_ i
theorem okF (D : DD K mg Cc fa fdd) (Z : ZZ mg) (CP_ : CP K mg M Cc) (n : Nat) : ∀ i : Nm, frs i = true → FnOk P w K mg base (L2.CX P w) (n + 1) (fa i) (fdd i) (psN i) (spFr K M (Phi (n + 1) i)) := (ok_both D Z (n + 1)).2 M CP_
theorem okI (D : DD K mg Cc fa fdd) (Z : ZZ mg) (CP_ : CP K mg M Cc) (FI : Fun K "__init__" "Plan.__init__" s_Plan___init__ fI fdI) (n : Nat) : FnOk P w K mg base (L2.CX P w) (n + 1) fI fdI P_Plan___init__ (spI K M Cc (plT n)) :=
  init_ok FI sc_Plan___init__ rfl CP_ fun cdv A outer s H E C tk => d_Plan___init__ D Z CP_ (ok_all D Z CP_ n) (Nat.le_refl n) cdv A outer s H E C tk
theorem okL (D : DD K mg Cc fa fdd) (Z : ZZ mg) (CP_ : CP K mg M Cc) (FI : Fun K "__init__" "Plan.__init__" s_Plan___init__ fI fdI) (MK : Mk K Cc fI) (bI : Binds K fdI P_Plan___init__ []) (FL : Fun K "law" "law" s_law fL fdL) (n : Nat) : FnOk P w K mg base (L2.CX P w) (n + 3) fL fdL P_law (spF K M (lawT n)) :=
  fn_ok FL sc_law fun cdv A outer s H E C tk => d_law D Z CP_ (ok_all D Z CP_ (n + 2)) MK (okI D Z CP_ FI n) (Nat.le_refl _) bI (Nat.le_refl _) cdv A outer s H E C tk
end
/-- whatever the class's place -/
def spAll (K : PySem.W.Frag) (φ : List D → Option Rs) : Sp := fun vs H Q E => ∀ C : Addr, spF K (MP C) φ vs H Q E
theorem all_mk {l : PySem.W.OpenLaw} {w : World} {K : PySem.W.Frag} {h : Heap} {mg : Str → Option Value} {fl Cc : Addr} (X : K.In h) (G : h.Ns mainGlobals mg) (hfa : mg "law" = some (.ref fl)) {f1 f2 f3 f4 f5 f6 f7 f8 f9 f10 f11 f12 f13 f14 f15 f16 f17 f18 f19 f20 f21 f22 f23 f24 f25 f26 f27 f28 f29 f30 f31 f32 f33 : Addr}
    {od1 an1 od2 an2 od3 an3 od4 an4 od5 an5 od6 an6 od7 an7 od8 an8 od9 an9 od10 an10 od11 an11 od12 an12 od13 an13 od14 an14 od15 an15 od16 an16 od17 an17 od18 an18 od19 an19 od20 an20 od21 an21 od22 an22 od23 an23 od24 an24 od25 an25 od26 an26 od27 an27 od28 an28 od29 an29 od30 an30 od31 an31 od32 an32 od33 an33 : Option Addr} {sl1 sl2 sl3 sl4 sl5 sl6 sl7 sl8 sl9 sl10 sl11 sl12 sl13 sl14 sl15 sl16 sl17 sl18 sl19 sl20 sl21 sl22 sl23 sl24 sl25 sl26 sl27 sl28 sl29 sl30 sl31 sl32 sl33 : Array (Option Value)} {oc1 kV1 dc1 pm1 cd1 ct1 oc2 kV2 dc2 pm2 cd2 ct2 oc3 kV3 dc3 pm3 cd3 ct3 oc4 kV4 dc4 pm4 cd4 ct4 oc5 kV5 dc5 pm5 cd5 ct5 oc6 kV6 dc6 pm6 cd6 ct6 oc7 kV7 dc7 pm7 cd7 ct7 oc8 kV8 dc8 pm8 cd8 ct8 oc9 kV9 dc9 pm9 cd9 ct9 oc10 kV10 dc10 pm10 cd10 ct10 oc11 kV11 dc11 pm11 cd11 ct11 oc12 kV12 dc12 pm12 cd12 ct12 oc13 kV13 dc13 pm13 cd13 ct13 oc14 kV14 dc14 pm14 cd14 ct14 oc15 kV15 dc15 pm15 cd15 ct15 oc16 kV16 dc16 pm16 cd16 ct16 oc17 kV17 dc17 pm17 cd17 ct17 oc18 kV18 dc18 pm18 cd18 ct18 oc19 kV19 dc19 pm19 cd19 ct19 oc20 kV20 dc20 pm20 cd20 ct20 oc21 kV21 dc21 pm21 cd21 ct21 oc22 kV22 dc22 pm22 cd22 ct22 oc23 kV23 dc23 pm23 cd23 ct23 oc24 kV24 dc24 pm24 cd24 ct24 oc25 kV25 dc25 pm25 cd25 ct25 oc26 kV26 dc26 pm26 cd26 ct26 oc27 kV27 dc27 pm27 cd27 ct27 oc28 kV28 dc28 pm28 cd28 ct28 oc29 kV29 dc29 pm29 cd29 ct29 oc30 kV30 dc30 pm30 cd30 ct30 oc31 kV31 dc31 pm31 cd31 ct31 oc32 kV32 dc32 pm32 cd32 ct32 oc33 kV33 dc33 pm33 cd33 ct33 : Value}
    (aC : PySem.W.nsIn K mainGlobals "Plan" = some (some (.ref Cc)))
    (a1 : PySem.W.nsIn K mainGlobals "parts_of" = some (some (.ref f1)))
    (l1 : K.lookup f1 = some ⟨oc1, od1, .func (PySem.W.fnOf "parts_of" "parts_of" (defArgs s_parts_of) (defBody s_parts_of) (defScope s_parts_of) .none kV1 dc1 pm1 an1 cd1 ct1), sl1⟩) (c1 : PySem.W.codeIn K cd1 "parts_of" = true) (k1 : PySem.W.keepIn K (.ref f1) = true)
    (a2 : PySem.W.nsIn K mainGlobals "wished" = some (some (.ref f2)))
    (l2 : K.lookup f2 = some ⟨oc2, od2, .func (PySem.W.fnOf "wished" "wished" (defArgs s_wished) (defBody s_wished) (defScope s_wished) .none kV2 dc2 pm2 an2 cd2 ct2), sl2⟩) (c2 : PySem.W.codeIn K cd2 "wished" = true) (k2 : PySem.W.keepIn K (.ref f2) = true)
    (a3 : PySem.W.nsIn K mainGlobals "wishes_in" = some (some (.ref f3)))
    (l3 : K.lookup f3 = some ⟨oc3, od3, .func (PySem.W.fnOf "wishes_in" "wishes_in" (defArgs s_wishes_in) (defBody s_wishes_in) (defScope s_wishes_in) .none kV3 dc3 pm3 an3 cd3 ct3), sl3⟩) (c3 : PySem.W.codeIn K cd3 "wishes_in" = true) (k3 : PySem.W.keepIn K (.ref f3) = true)
    (a4 : PySem.W.nsIn K mainGlobals "pasts_in" = some (some (.ref f4)))
    (l4 : K.lookup f4 = some ⟨oc4, od4, .func (PySem.W.fnOf "pasts_in" "pasts_in" (defArgs s_pasts_in) (defBody s_pasts_in) (defScope s_pasts_in) .none kV4 dc4 pm4 an4 cd4 ct4), sl4⟩) (c4 : PySem.W.codeIn K cd4 "pasts_in" = true) (k4 : PySem.W.keepIn K (.ref f4) = true)
    (a5 : PySem.W.nsIn K mainGlobals "marks_in" = some (some (.ref f5)))
    (l5 : K.lookup f5 = some ⟨oc5, od5, .func (PySem.W.fnOf "marks_in" "marks_in" (defArgs s_marks_in) (defBody s_marks_in) (defScope s_marks_in) .none kV5 dc5 pm5 an5 cd5 ct5), sl5⟩) (c5 : PySem.W.codeIn K cd5 "marks_in" = true) (k5 : PySem.W.keepIn K (.ref f5) = true)
    (a6 : PySem.W.findIn K (.ref Cc) "has" = some (some (.ref f6))) (i6 : PySem.W.isFn K (.ref f6) = true)
    (l6 : K.lookup f6 = some ⟨oc6, od6, .func (PySem.W.fnOf "has" "Plan.has" (defArgs s_Plan_has) (defBody s_Plan_has) (defScope s_Plan_has) .none kV6 dc6 pm6 an6 cd6 ct6), sl6⟩) (c6 : PySem.W.codeIn K cd6 "Plan.has" = true) (k6 : PySem.W.keepIn K (.ref f6) = true)
    (a7 : PySem.W.findIn K (.ref Cc) "kept" = some (some (.ref f7))) (i7 : PySem.W.isFn K (.ref f7) = true)
    (l7 : K.lookup f7 = some ⟨oc7, od7, .func (PySem.W.fnOf "kept" "Plan.kept" (defArgs s_Plan_kept) (defBody s_Plan_kept) (defScope s_Plan_kept) .none kV7 dc7 pm7 an7 cd7 ct7), sl7⟩) (c7 : PySem.W.codeIn K cd7 "Plan.kept" = true) (k7 : PySem.W.keepIn K (.ref f7) = true)
    (a8 : PySem.W.nsIn K mainGlobals "is_so" = some (some (.ref f8)))
    (l8 : K.lookup f8 = some ⟨oc8, od8, .func (PySem.W.fnOf "is_so" "is_so" (defArgs s_is_so) (defBody s_is_so) (defScope s_is_so) .none kV8 dc8 pm8 an8 cd8 ct8), sl8⟩) (c8 : PySem.W.codeIn K cd8 "is_so" = true) (k8 : PySem.W.keepIn K (.ref f8) = true)
    (a9 : PySem.W.nsIn K mainGlobals "kept_behind" = some (some (.ref f9)))
    (l9 : K.lookup f9 = some ⟨oc9, od9, .func (PySem.W.fnOf "kept_behind" "kept_behind" (defArgs s_kept_behind) (defBody s_kept_behind) (defScope s_kept_behind) .none kV9 dc9 pm9 an9 cd9 ct9), sl9⟩) (c9 : PySem.W.codeIn K cd9 "kept_behind" = true) (k9 : PySem.W.keepIn K (.ref f9) = true)
    (a10 : PySem.W.nsIn K mainGlobals "begun" = some (some (.ref f10)))
    (l10 : K.lookup f10 = some ⟨oc10, od10, .func (PySem.W.fnOf "begun" "begun" (defArgs s_begun) (defBody s_begun) (defScope s_begun) .none kV10 dc10 pm10 an10 cd10 ct10), sl10⟩) (c10 : PySem.W.codeIn K cd10 "begun" = true) (k10 : PySem.W.keepIn K (.ref f10) = true)
    (a11 : PySem.W.nsIn K mainGlobals "stepped" = some (some (.ref f11)))
    (l11 : K.lookup f11 = some ⟨oc11, od11, .func (PySem.W.fnOf "stepped" "stepped" (defArgs s_stepped) (defBody s_stepped) (defScope s_stepped) .none kV11 dc11 pm11 an11 cd11 ct11), sl11⟩) (c11 : PySem.W.codeIn K cd11 "stepped" = true) (k11 : PySem.W.keepIn K (.ref f11) = true)
    (a12 : PySem.W.nsIn K mainGlobals "is_met" = some (some (.ref f12)))
    (l12 : K.lookup f12 = some ⟨oc12, od12, .func (PySem.W.fnOf "is_met" "is_met" (defArgs s_is_met) (defBody s_is_met) (defScope s_is_met) .none kV12 dc12 pm12 an12 cd12 ct12), sl12⟩) (c12 : PySem.W.codeIn K cd12 "is_met" = true) (k12 : PySem.W.keepIn K (.ref f12) = true)
    (a13 : PySem.W.nsIn K mainGlobals "reached" = some (some (.ref f13)))
    (l13 : K.lookup f13 = some ⟨oc13, od13, .func (PySem.W.fnOf "reached" "reached" (defArgs s_reached) (defBody s_reached) (defScope s_reached) .none kV13 dc13 pm13 an13 cd13 ct13), sl13⟩) (c13 : PySem.W.codeIn K cd13 "reached" = true) (k13 : PySem.W.keepIn K (.ref f13) = true)
    (a14 : PySem.W.nsIn K mainGlobals "going" = some (some (.ref f14)))
    (l14 : K.lookup f14 = some ⟨oc14, od14, .func (PySem.W.fnOf "going" "going" (defArgs s_going) (defBody s_going) (defScope s_going) .none kV14 dc14 pm14 an14 cd14 ct14), sl14⟩) (c14 : PySem.W.codeIn K cd14 "going" = true) (k14 : PySem.W.keepIn K (.ref f14) = true)
    (a15 : PySem.W.nsIn K mainGlobals "_law_cell_at" = some (some (.ref f15)))
    (l15 : K.lookup f15 = some ⟨oc15, od15, .func (PySem.W.fnOf "_law_cell_at" "_law_cell_at" (defArgs s_l_cell_at) (defBody s_l_cell_at) (defScope s_l_cell_at) .none kV15 dc15 pm15 an15 cd15 ct15), sl15⟩) (c15 : PySem.W.codeIn K cd15 "_law_cell_at" = true) (k15 : PySem.W.keepIn K (.ref f15) = true)
    (a16 : PySem.W.nsIn K mainGlobals "_law_names" = some (some (.ref f16)))
    (l16 : K.lookup f16 = some ⟨oc16, od16, .func (PySem.W.fnOf "_law_names" "_law_names" (defArgs s_l_names) (defBody s_l_names) (defScope s_l_names) .none kV16 dc16 pm16 an16 cd16 ct16), sl16⟩) (c16 : PySem.W.codeIn K cd16 "_law_names" = true) (k16 : PySem.W.keepIn K (.ref f16) = true)
    (a17 : PySem.W.nsIn K mainGlobals "_law_all" = some (some (.ref f17)))
    (l17 : K.lookup f17 = some ⟨oc17, od17, .func (PySem.W.fnOf "_law_all" "_law_all" (defArgs s_l_all) (defBody s_l_all) (defScope s_l_all) .none kV17 dc17 pm17 an17 cd17 ct17), sl17⟩) (c17 : PySem.W.codeIn K cd17 "_law_all" = true) (k17 : PySem.W.keepIn K (.ref f17) = true)
    (a18 : PySem.W.nsIn K mainGlobals "_law_wishes" = some (some (.ref f18)))
    (l18 : K.lookup f18 = some ⟨oc18, od18, .func (PySem.W.fnOf "_law_wishes" "_law_wishes" (defArgs s_l_wishes) (defBody s_l_wishes) (defScope s_l_wishes) .none kV18 dc18 pm18 an18 cd18 ct18), sl18⟩) (c18 : PySem.W.codeIn K cd18 "_law_wishes" = true) (k18 : PySem.W.keepIn K (.ref f18) = true)
    (a19 : PySem.W.nsIn K mainGlobals "_law_fit" = some (some (.ref f19)))
    (l19 : K.lookup f19 = some ⟨oc19, od19, .func (PySem.W.fnOf "_law_fit" "_law_fit" (defArgs s_l_fit) (defBody s_l_fit) (defScope s_l_fit) .none kV19 dc19 pm19 an19 cd19 ct19), sl19⟩) (c19 : PySem.W.codeIn K cd19 "_law_fit" = true) (k19 : PySem.W.keepIn K (.ref f19) = true)
    (a20 : PySem.W.nsIn K mainGlobals "_law_until" = some (some (.ref f20)))
    (l20 : K.lookup f20 = some ⟨oc20, od20, .func (PySem.W.fnOf "_law_until" "_law_until" (defArgs s_l_until) (defBody s_l_until) (defScope s_l_until) .none kV20 dc20 pm20 an20 cd20 ct20), sl20⟩) (c20 : PySem.W.codeIn K cd20 "_law_until" = true) (k20 : PySem.W.keepIn K (.ref f20) = true)
    (a21 : PySem.W.nsIn K mainGlobals "_law_means" = some (some (.ref f21)))
    (l21 : K.lookup f21 = some ⟨oc21, od21, .func (PySem.W.fnOf "_law_means" "_law_means" (defArgs s_l_means) (defBody s_l_means) (defScope s_l_means) .none kV21 dc21 pm21 an21 cd21 ct21), sl21⟩) (c21 : PySem.W.codeIn K cd21 "_law_means" = true) (k21 : PySem.W.keepIn K (.ref f21) = true)
    (a22 : PySem.W.nsIn K mainGlobals "_law_run" = some (some (.ref f22)))
    (l22 : K.lookup f22 = some ⟨oc22, od22, .func (PySem.W.fnOf "_law_run" "_law_run" (defArgs s_l_run) (defBody s_l_run) (defScope s_l_run) .none kV22 dc22 pm22 an22 cd22 ct22), sl22⟩) (c22 : PySem.W.codeIn K cd22 "_law_run" = true) (k22 : PySem.W.keepIn K (.ref f22) = true)
    (a23 : PySem.W.nsIn K mainGlobals "_law_built" = some (some (.ref f23)))
    (l23 : K.lookup f23 = some ⟨oc23, od23, .func (PySem.W.fnOf "_law_built" "_law_built" (defArgs s_l_built) (defBody s_l_built) (defScope s_l_built) .none kV23 dc23 pm23 an23 cd23 ct23), sl23⟩) (c23 : PySem.W.codeIn K cd23 "_law_built" = true) (k23 : PySem.W.keepIn K (.ref f23) = true)
    (a24 : PySem.W.nsIn K mainGlobals "_law_state" = some (some (.ref f24)))
    (l24 : K.lookup f24 = some ⟨oc24, od24, .func (PySem.W.fnOf "_law_state" "_law_state" (defArgs s_l_state) (defBody s_l_state) (defScope s_l_state) .none kV24 dc24 pm24 an24 cd24 ct24), sl24⟩) (c24 : PySem.W.codeIn K cd24 "_law_state" = true) (k24 : PySem.W.keepIn K (.ref f24) = true)
    (a25 : PySem.W.nsIn K mainGlobals "_law_longer" = some (some (.ref f25)))
    (l25 : K.lookup f25 = some ⟨oc25, od25, .func (PySem.W.fnOf "_law_longer" "_law_longer" (defArgs s_l_longer) (defBody s_l_longer) (defScope s_l_longer) .none kV25 dc25 pm25 an25 cd25 ct25), sl25⟩) (c25 : PySem.W.codeIn K cd25 "_law_longer" = true) (k25 : PySem.W.keepIn K (.ref f25) = true)
    (a26 : PySem.W.nsIn K mainGlobals "_law_holds" = some (some (.ref f26)))
    (l26 : K.lookup f26 = some ⟨oc26, od26, .func (PySem.W.fnOf "_law_holds" "_law_holds" (defArgs s_l_holds) (defBody s_l_holds) (defScope s_l_holds) .none kV26 dc26 pm26 an26 cd26 ct26), sl26⟩) (c26 : PySem.W.codeIn K cd26 "_law_holds" = true) (k26 : PySem.W.keepIn K (.ref f26) = true)
    (a27 : PySem.W.nsIn K mainGlobals "_law_first" = some (some (.ref f27)))
    (l27 : K.lookup f27 = some ⟨oc27, od27, .func (PySem.W.fnOf "_law_first" "_law_first" (defArgs s_l_first) (defBody s_l_first) (defScope s_l_first) .none kV27 dc27 pm27 an27 cd27 ct27), sl27⟩) (c27 : PySem.W.codeIn K cd27 "_law_first" = true) (k27 : PySem.W.keepIn K (.ref f27) = true)
    (a28 : PySem.W.nsIn K mainGlobals "_law_way" = some (some (.ref f28)))
    (l28 : K.lookup f28 = some ⟨oc28, od28, .func (PySem.W.fnOf "_law_way" "_law_way" (defArgs s_l_way) (defBody s_l_way) (defScope s_l_way) .none kV28 dc28 pm28 an28 cd28 ct28), sl28⟩) (c28 : PySem.W.codeIn K cd28 "_law_way" = true) (k28 : PySem.W.keepIn K (.ref f28) = true)
    (a29 : PySem.W.nsIn K mainGlobals "_law_fields" = some (some (.ref f29)))
    (l29 : K.lookup f29 = some ⟨oc29, od29, .func (PySem.W.fnOf "_law_fields" "_law_fields" (defArgs s_l_fields) (defBody s_l_fields) (defScope s_l_fields) .none kV29 dc29 pm29 an29 cd29 ct29), sl29⟩) (c29 : PySem.W.codeIn K cd29 "_law_fields" = true) (k29 : PySem.W.keepIn K (.ref f29) = true)
    (a30 : PySem.W.nsIn K mainGlobals "_law_draw" = some (some (.ref f30)))
    (l30 : K.lookup f30 = some ⟨oc30, od30, .func (PySem.W.fnOf "_law_draw" "_law_draw" (defArgs s_l_draw) (defBody s_l_draw) (defScope s_l_draw) .none kV30 dc30 pm30 an30 cd30 ct30), sl30⟩) (c30 : PySem.W.codeIn K cd30 "_law_draw" = true) (k30 : PySem.W.keepIn K (.ref f30) = true)
    (a31 : PySem.W.nsIn K mainGlobals "_law_made" = some (some (.ref f31)))
    (l31 : K.lookup f31 = some ⟨oc31, od31, .func (PySem.W.fnOf "_law_made" "_law_made" (defArgs s_l_made) (defBody s_l_made) (defScope s_l_made) .none kV31 dc31 pm31 an31 cd31 ct31), sl31⟩) (c31 : PySem.W.codeIn K cd31 "_law_made" = true) (k31 : PySem.W.keepIn K (.ref f31) = true)
    (a32 : PySem.W.findIn K (.ref Cc) "__init__" = some (some (.ref f32))) (i32 : PySem.W.isFn K (.ref f32) = true)
    (l32 : K.lookup f32 = some ⟨oc32, od32, .func (PySem.W.fnOf "__init__" "Plan.__init__" (defArgs s_Plan___init__) (defBody s_Plan___init__) (defScope s_Plan___init__) .none kV32 dc32 pm32 an32 cd32 ct32), sl32⟩) (c32 : PySem.W.codeIn K cd32 "Plan.__init__" = true) (k32 : PySem.W.keepIn K (.ref f32) = true)
    (a33 : PySem.W.nsIn K mainGlobals "law" = some (some (.ref f33)))
    (l33 : K.lookup f33 = some ⟨oc33, od33, .func (PySem.W.fnOf "law" "law" (defArgs s_law) (defBody s_law) (defScope s_law) .none kV33 dc33 pm33 an33 cd33 ct33), sl33⟩) (c33 : PySem.W.codeIn K cd33 "law" = true) (k33 : PySem.W.keepIn K (.ref f33) = true)
    (pg : PySem.W.plainGet K Cc Str.empty = true) (hd : PySem.W.hasDictIn K Cc = true) (po : PySem.W.plainOver K Cc = true) (sa : PySem.W.findIn K (.ref Cc) "__setattr__" = some (some (.builtin "object.__setattr__"))) (mk : PySem.W.makesIn K Cc = true) (kc : PySem.W.keepIn K (.ref Cc) = true)
    (nW : PySem.W.findIn K (.ref Cc) "wishes" = some none) (nP : PySem.W.findIn K (.ref Cc) "pasts" = some none) (nM : PySem.W.findIn K (.ref Cc) "marks" = some none) (nT : PySem.W.findIn K (.ref Cc) "weights" = some none)
    (z1 : PySem.W.nsIn K mainGlobals "len" = some none)
    (z2 : PySem.W.nsIn K mainGlobals "isinstance" = some none)
    (z3 : PySem.W.nsIn K mainGlobals "tuple" = some none)
    (z4 : PySem.W.nsIn K mainGlobals "sorted" = some none)
    (z5 : PySem.W.nsIn K mainGlobals "set" = some none)
    (z6 : PySem.W.nsIn K mainGlobals "range" = some none)
    (z7 : PySem.W.nsIn K mainGlobals "enumerate" = some none)
    (z8 : PySem.W.nsIn K mainGlobals "zip" = some none)
    (z9 : PySem.W.nsIn K mainGlobals "int" = some none)
    (z10 : PySem.W.nsIn K mainGlobals "list" = some none)
    : ∃ fd : FuncData, (∀ (s : Shared) (v : Value), BindsTo s fd ⟨[v], []⟩ [("_law_script", v)]) ∧ ∀ base : Heap, K.In base → base.Ns mainGlobals mg → FnOk l.prog w K mg base (L2.CX l.prog w) 63 fl fd ["_law_script"] (spAll K (lawT 60)) := by
  have e := hfa.symm.trans (PySem.W.mg_of X G a33)
  cases e
  let fa : Nm → Addr := fun i => match i with
    | .parts_of => f1
    | .wished => f2
    | .wishes_in => f3
    | .pasts_in => f4
    | .marks_in => f5
    | .Plan_has => f6
    | .Plan_kept => f7
    | .is_so => f8
    | .kept_behind => f9
    | .begun => f10
    | .stepped => f11
    | .is_met => f12
    | .reached => f13
    | .going => f14
    | .l_cell_at => f15
    | .l_names => f16
    | .l_all => f17
    | .l_wishes => f18
    | .l_fit => f19
    | .l_until => f20
    | .l_means => f21
    | .l_run => f22
    | .l_built => f23
    | .l_state => f24
    | .l_longer => f25
    | .l_holds => f26
    | .l_first => f27
    | .l_way => f28
    | .l_fields => f29
    | .l_draw => f30
    | .l_made => f31
  let fdd : Nm → FuncData := fun i => match i with
    | .parts_of => PySem.W.fnOf "parts_of" "parts_of" (defArgs s_parts_of) (defBody s_parts_of) (defScope s_parts_of) .none kV1 dc1 pm1 an1 cd1 ct1
    | .wished => PySem.W.fnOf "wished" "wished" (defArgs s_wished) (defBody s_wished) (defScope s_wished) .none kV2 dc2 pm2 an2 cd2 ct2
    | .wishes_in => PySem.W.fnOf "wishes_in" "wishes_in" (defArgs s_wishes_in) (defBody s_wishes_in) (defScope s_wishes_in) .none kV3 dc3 pm3 an3 cd3 ct3
    | .pasts_in => PySem.W.fnOf "pasts_in" "pasts_in" (defArgs s_pasts_in) (defBody s_pasts_in) (defScope s_pasts_in) .none kV4 dc4 pm4 an4 cd4 ct4
    | .marks_in => PySem.W.fnOf "marks_in" "marks_in" (defArgs s_marks_in) (defBody s_marks_in) (defScope s_marks_in) .none kV5 dc5 pm5 an5 cd5 ct5
    | .Plan_has => PySem.W.fnOf "has" "Plan.has" (defArgs s_Plan_has) (defBody s_Plan_has) (defScope s_Plan_has) .none kV6 dc6 pm6 an6 cd6 ct6
    | .Plan_kept => PySem.W.fnOf "kept" "Plan.kept" (defArgs s_Plan_kept) (defBody s_Plan_kept) (defScope s_Plan_kept) .none kV7 dc7 pm7 an7 cd7 ct7
    | .is_so => PySem.W.fnOf "is_so" "is_so" (defArgs s_is_so) (defBody s_is_so) (defScope s_is_so) .none kV8 dc8 pm8 an8 cd8 ct8
    | .kept_behind => PySem.W.fnOf "kept_behind" "kept_behind" (defArgs s_kept_behind) (defBody s_kept_behind) (defScope s_kept_behind) .none kV9 dc9 pm9 an9 cd9 ct9
    | .begun => PySem.W.fnOf "begun" "begun" (defArgs s_begun) (defBody s_begun) (defScope s_begun) .none kV10 dc10 pm10 an10 cd10 ct10
    | .stepped => PySem.W.fnOf "stepped" "stepped" (defArgs s_stepped) (defBody s_stepped) (defScope s_stepped) .none kV11 dc11 pm11 an11 cd11 ct11
    | .is_met => PySem.W.fnOf "is_met" "is_met" (defArgs s_is_met) (defBody s_is_met) (defScope s_is_met) .none kV12 dc12 pm12 an12 cd12 ct12
    | .reached => PySem.W.fnOf "reached" "reached" (defArgs s_reached) (defBody s_reached) (defScope s_reached) .none kV13 dc13 pm13 an13 cd13 ct13
    | .going => PySem.W.fnOf "going" "going" (defArgs s_going) (defBody s_going) (defScope s_going) .none kV14 dc14 pm14 an14 cd14 ct14
    | .l_cell_at => PySem.W.fnOf "_law_cell_at" "_law_cell_at" (defArgs s_l_cell_at) (defBody s_l_cell_at) (defScope s_l_cell_at) .none kV15 dc15 pm15 an15 cd15 ct15
    | .l_names => PySem.W.fnOf "_law_names" "_law_names" (defArgs s_l_names) (defBody s_l_names) (defScope s_l_names) .none kV16 dc16 pm16 an16 cd16 ct16
    | .l_all => PySem.W.fnOf "_law_all" "_law_all" (defArgs s_l_all) (defBody s_l_all) (defScope s_l_all) .none kV17 dc17 pm17 an17 cd17 ct17
    | .l_wishes => PySem.W.fnOf "_law_wishes" "_law_wishes" (defArgs s_l_wishes) (defBody s_l_wishes) (defScope s_l_wishes) .none kV18 dc18 pm18 an18 cd18 ct18
    | .l_fit => PySem.W.fnOf "_law_fit" "_law_fit" (defArgs s_l_fit) (defBody s_l_fit) (defScope s_l_fit) .none kV19 dc19 pm19 an19 cd19 ct19
    | .l_until => PySem.W.fnOf "_law_until" "_law_until" (defArgs s_l_until) (defBody s_l_until) (defScope s_l_until) .none kV20 dc20 pm20 an20 cd20 ct20
    | .l_means => PySem.W.fnOf "_law_means" "_law_means" (defArgs s_l_means) (defBody s_l_means) (defScope s_l_means) .none kV21 dc21 pm21 an21 cd21 ct21
    | .l_run => PySem.W.fnOf "_law_run" "_law_run" (defArgs s_l_run) (defBody s_l_run) (defScope s_l_run) .none kV22 dc22 pm22 an22 cd22 ct22
    | .l_built => PySem.W.fnOf "_law_built" "_law_built" (defArgs s_l_built) (defBody s_l_built) (defScope s_l_built) .none kV23 dc23 pm23 an23 cd23 ct23
    | .l_state => PySem.W.fnOf "_law_state" "_law_state" (defArgs s_l_state) (defBody s_l_state) (defScope s_l_state) .none kV24 dc24 pm24 an24 cd24 ct24
    | .l_longer => PySem.W.fnOf "_law_longer" "_law_longer" (defArgs s_l_longer) (defBody s_l_longer) (defScope s_l_longer) .none kV25 dc25 pm25 an25 cd25 ct25
    | .l_holds => PySem.W.fnOf "_law_holds" "_law_holds" (defArgs s_l_holds) (defBody s_l_holds) (defScope s_l_holds) .none kV26 dc26 pm26 an26 cd26 ct26
    | .l_first => PySem.W.fnOf "_law_first" "_law_first" (defArgs s_l_first) (defBody s_l_first) (defScope s_l_first) .none kV27 dc27 pm27 an27 cd27 ct27
    | .l_way => PySem.W.fnOf "_law_way" "_law_way" (defArgs s_l_way) (defBody s_l_way) (defScope s_l_way) .none kV28 dc28 pm28 an28 cd28 ct28
    | .l_fields => PySem.W.fnOf "_law_fields" "_law_fields" (defArgs s_l_fields) (defBody s_l_fields) (defScope s_l_fields) .none kV29 dc29 pm29 an29 cd29 ct29
    | .l_draw => PySem.W.fnOf "_law_draw" "_law_draw" (defArgs s_l_draw) (defBody s_l_draw) (defScope s_l_draw) .none kV30 dc30 pm30 an30 cd30 ct30
    | .l_made => PySem.W.fnOf "_law_made" "_law_made" (defArgs s_l_made) (defBody s_l_made) (defScope s_l_made) .none kV31 dc31 pm31 an31 cd31 ct31
  have D : DD K mg Cc fa fdd := ⟨fun i => by
    cases i with
    | parts_of =>
      have F := fun_mk (st := s_parts_of) l1 c1 k1
      exact ⟨F, F.binds fun _ _ _ _ _ _ us hl => match us, hl with | [_], _ => rfl, fun _ => PySem.W.mg_of X G a1⟩
    | wished =>
      have F := fun_mk (st := s_wished) l2 c2 k2
      exact ⟨F, F.binds fun _ _ _ _ _ _ us hl => match us, hl with | [_], _ => rfl, fun _ => PySem.W.mg_of X G a2⟩
    | wishes_in =>
      have F := fun_mk (st := s_wishes_in) l3 c3 k3
      exact ⟨F, F.binds fun _ _ _ _ _ _ us hl => match us, hl with | [_], _ => rfl, fun _ => PySem.W.mg_of X G a3⟩
    | pasts_in =>
      have F := fun_mk (st := s_pasts_in) l4 c4 k4
      exact ⟨F, F.binds fun _ _ _ _ _ _ us hl => match us, hl with | [_], _ => rfl, fun _ => PySem.W.mg_of X G a4⟩
    | marks_in =>
      have F := fun_mk (st := s_marks_in) l5 c5 k5
      exact ⟨F, F.binds fun _ _ _ _ _ _ us hl => match us, hl with | [_], _ => rfl, fun _ => PySem.W.mg_of X G a5⟩
    | Plan_has =>
      have F := fun_mk (st := s_Plan_has) l6 c6 k6
      exact ⟨F, F.binds fun _ _ _ _ _ _ us hl => match us, hl with | [_, _, _], _ => rfl, fun z => by cases z⟩
    | Plan_kept =>
      have F := fun_mk (st := s_Plan_kept) l7 c7 k7
      exact ⟨F, F.binds fun _ _ _ _ _ _ us hl => match us, hl with | [_, _, _], _ => rfl, fun z => by cases z⟩
    | is_so =>
      have F := fun_mk (st := s_is_so) l8 c8 k8
      exact ⟨F, F.binds fun _ _ _ _ _ _ us hl => match us, hl with | [_, _, _, _, _], _ => rfl, fun _ => PySem.W.mg_of X G a8⟩
    | kept_behind =>
      have F := fun_mk (st := s_kept_behind) l9 c9 k9
      exact ⟨F, F.binds fun _ _ _ _ _ _ us hl => match us, hl with | [_, _, _], _ => rfl, fun _ => PySem.W.mg_of X G a9⟩
    | begun =>
      have F := fun_mk (st := s_begun) l10 c10 k10
      exact ⟨F, F.binds fun _ _ _ _ _ _ us hl => match us, hl with | [_], _ => rfl, fun _ => PySem.W.mg_of X G a10⟩
    | stepped =>
      have F := fun_mk (st := s_stepped) l11 c11 k11
      exact ⟨F, F.binds fun _ _ _ _ _ _ us hl => match us, hl with | [_, _, _], _ => rfl, fun _ => PySem.W.mg_of X G a11⟩
    | is_met =>
      have F := fun_mk (st := s_is_met) l12 c12 k12
      exact ⟨F, F.binds fun _ _ _ _ _ _ us hl => match us, hl with | [_], _ => rfl, fun _ => PySem.W.mg_of X G a12⟩
    | reached =>
      have F := fun_mk (st := s_reached) l13 c13 k13
      exact ⟨F, F.binds fun _ _ _ _ _ _ us hl => match us, hl with | [_, _], _ => rfl, fun _ => PySem.W.mg_of X G a13⟩
    | going =>
      have F := fun_mk (st := s_going) l14 c14 k14
      exact ⟨F, F.binds fun _ _ _ _ _ _ us hl => match us, hl with | [_, _, _], _ => rfl, fun _ => PySem.W.mg_of X G a14⟩
    | l_cell_at =>
      have F := fun_mk (st := s_l_cell_at) l15 c15 k15
      exact ⟨F, F.binds fun _ _ _ _ _ _ us hl => match us, hl with | [_, _], _ => rfl, fun _ => PySem.W.mg_of X G a15⟩
    | l_names =>
      have F := fun_mk (st := s_l_names) l16 c16 k16
      exact ⟨F, F.binds fun _ _ _ _ _ _ us hl => match us, hl with | [_], _ => rfl, fun _ => PySem.W.mg_of X G a16⟩
    | l_all =>
      have F := fun_mk (st := s_l_all) l17 c17 k17
      exact ⟨F, F.binds fun _ _ _ _ _ _ us hl => match us, hl with | [_], _ => rfl, fun _ => PySem.W.mg_of X G a17⟩
    | l_wishes =>
      have F := fun_mk (st := s_l_wishes) l18 c18 k18
      exact ⟨F, F.binds fun _ _ _ _ _ _ us hl => match us, hl with | [_], _ => rfl, fun _ => PySem.W.mg_of X G a18⟩
    | l_fit =>
      have F := fun_mk (st := s_l_fit) l19 c19 k19
      exact ⟨F, F.binds fun _ _ _ _ _ _ us hl => match us, hl with | [_, _], _ => rfl, fun _ => PySem.W.mg_of X G a19⟩
    | l_until =>
      have F := fun_mk (st := s_l_until) l20 c20 k20
      exact ⟨F, F.binds fun _ _ _ _ _ _ us hl => match us, hl with | [_, _], _ => rfl, fun _ => PySem.W.mg_of X G a20⟩
    | l_means =>
      have F := fun_mk (st := s_l_means) l21 c21 k21
      exact ⟨F, F.binds fun _ _ _ _ _ _ us hl => match us, hl with | [_, _], _ => rfl, fun _ => PySem.W.mg_of X G a21⟩
    | l_run =>
      have F := fun_mk (st := s_l_run) l22 c22 k22
      exact ⟨F, F.binds fun _ _ _ _ _ _ us hl => match us, hl with | [_, _, _, _], _ => rfl, fun _ => PySem.W.mg_of X G a22⟩
    | l_built =>
      have F := fun_mk (st := s_l_built) l23 c23 k23
      exact ⟨F, F.binds fun _ _ _ _ _ _ us hl => match us, hl with | [_, _, _], _ => rfl, fun _ => PySem.W.mg_of X G a23⟩
    | l_state =>
      have F := fun_mk (st := s_l_state) l24 c24 k24
      exact ⟨F, F.binds fun _ _ _ _ _ _ us hl => match us, hl with | [_, _], _ => rfl, fun _ => PySem.W.mg_of X G a24⟩
    | l_longer =>
      have F := fun_mk (st := s_l_longer) l25 c25 k25
      exact ⟨F, F.binds fun _ _ _ _ _ _ us hl => match us, hl with | [_, _], _ => rfl, fun _ => PySem.W.mg_of X G a25⟩
    | l_holds =>
      have F := fun_mk (st := s_l_holds) l26 c26 k26
      exact ⟨F, F.binds fun _ _ _ _ _ _ us hl => match us, hl with | [_, _], _ => rfl, fun _ => PySem.W.mg_of X G a26⟩
    | l_first =>
      have F := fun_mk (st := s_l_first) l27 c27 k27
      exact ⟨F, F.binds fun _ _ _ _ _ _ us hl => match us, hl with | [_, _, _, _, _], _ => rfl, fun _ => PySem.W.mg_of X G a27⟩
    | l_way =>
      have F := fun_mk (st := s_l_way) l28 c28 k28
      exact ⟨F, F.binds fun _ _ _ _ _ _ us hl => match us, hl with | [_, _, _, _], _ => rfl, fun _ => PySem.W.mg_of X G a28⟩
    | l_fields =>
      have F := fun_mk (st := s_l_fields) l29 c29 k29
      exact ⟨F, F.binds fun _ _ _ _ _ _ us hl => match us, hl with | [_], _ => rfl, fun _ => PySem.W.mg_of X G a29⟩
    | l_draw =>
      have F := fun_mk (st := s_l_draw) l30 c30 k30
      exact ⟨F, F.binds fun _ _ _ _ _ _ us hl => match us, hl with | [_, _], _ => rfl, fun _ => PySem.W.mg_of X G a30⟩
    | l_made =>
      have F := fun_mk (st := s_l_made) l31 c31 k31
      exact ⟨F, F.binds fun _ _ _ _ _ _ us hl => match us, hl with | [_, _, _, _, _], _ => rfl, fun _ => PySem.W.mg_of X G a31⟩
    , ⟨a6, i6, k6⟩, ⟨a7, i7, k7⟩⟩
  have Z : ZZ mg := ⟨PySem.W.mg_none_of X G z1, PySem.W.mg_none_of X G z2, PySem.W.mg_none_of X G z3, PySem.W.mg_none_of X G z4, PySem.W.mg_none_of X G z5, PySem.W.mg_none_of X G z6, PySem.W.mg_none_of X G z7, PySem.W.mg_none_of X G z8, PySem.W.mg_none_of X G z9, PySem.W.mg_none_of X G z10⟩
  have CP_ : CP K mg (MP Cc) Cc := ⟨rfl, ⟨pg, hd, po, sa⟩, fun f hf => by
    simp only [plNs, List.mem_cons, List.not_mem_nil, or_false] at hf
    rcases hf with rfl | rfl | rfl | rfl
    · exact nW
    · exact nP
    · exact nM
    · exact nT, PySem.W.mg_of X G aC⟩
  have FI := fun_mk (st := s_Plan___init__) l32 c32 k32
  have FL := fun_mk (st := s_law) l33 c33 k33
  have bI := FI.binds (ps := P_Plan___init__) fun _ _ _ _ _ _ us hl => match us, hl with | [_, _], _ => rfl
  refine ⟨PySem.W.fnOf "law" "law" (defArgs s_law) (defBody s_law) (defScope s_law) .none kV33 dc33 pm33 an33 cd33 ct33, fun s v => .of_eq rfl, fun base _ _ => ?_⟩
  exact (okL (P := l.prog) (w := w) (base := base) D Z CP_ FI ⟨mk, a32, i32, kc⟩ bI FL 60).imp fun vs H Q E h => h Cc
end K08
open PySem PySem.W PyProof.Rows
set_option maxRecDepth 100000 in
set_option maxHeartbeats 0 in
theorem PySem.Challenge.cw_soonsaid_k08_shortest_ways_holds : PySem.Challenge.rw_soonsaid_k08_shortest_ways.Holds := by
  w_on; o_law; k_head; (case hw => w_witness2)
  k_fill
  refine L2.walk_of (l := PySem.Challenge.rw_soonsaid_k08_shortest_ways) (n := 63) (k := 63) (x := "_law_script") (CX := fun w => L2.CX PySem.Challenge.rw_soonsaid_k08_shortest_ways.prog w) (sp := fun w => K08.spAll _ (K08.lawT 60)) rfl (by decide) rfl ⟨rfl, by decide, by decide⟩ (fun w h Y => PySem.W.kIn_of Y) ?F (fun w H a ns hl _ hS C => Py.law_end rfl hS (K08.law_true ns hl)) (fun _ _ _ _ _ z => Py.no_exc z)
  case F =>
    intro w mg fa h KX G hmg
    refine' K08.all_mk KX G hmg ?aC ?a1 ?l1 ?c1 ?k1 ?a2 ?l2 ?c2 ?k2 ?a3 ?l3 ?c3 ?k3 ?a4 ?l4 ?c4 ?k4 ?a5 ?l5 ?c5 ?k5 ?a6 ?i6 ?l6 ?c6 ?k6 ?a7 ?i7 ?l7 ?c7 ?k7 ?a8 ?l8 ?c8 ?k8 ?a9 ?l9 ?c9 ?k9 ?a10 ?l10 ?c10 ?k10 ?a11 ?l11 ?c11 ?k11 ?a12 ?l12 ?c12 ?k12 ?a13 ?l13 ?c13 ?k13 ?a14 ?l14 ?c14 ?k14 ?a15 ?l15 ?c15 ?k15 ?a16 ?l16 ?c16 ?k16 ?a17 ?l17 ?c17 ?k17 ?a18 ?l18 ?c18 ?k18 ?a19 ?l19 ?c19 ?k19 ?a20 ?l20 ?c20 ?k20 ?a21 ?l21 ?c21 ?k21 ?a22 ?l22 ?c22 ?k22 ?a23 ?l23 ?c23 ?k23 ?a24 ?l24 ?c24 ?k24 ?a25 ?l25 ?c25 ?k25 ?a26 ?l26 ?c26 ?k26 ?a27 ?l27 ?c27 ?k27 ?a28 ?l28 ?c28 ?k28 ?a29 ?l29 ?c29 ?k29 ?a30 ?l30 ?c30 ?k30 ?a31 ?l31 ?c31 ?k31 ?a32 ?i32 ?l32 ?c32 ?k32 ?a33 ?l33 ?c33 ?k33 ?pg ?hd ?po ?sa ?mk ?kc ?nW ?nP ?nM ?nT ?z1 ?z2 ?z3 ?z4 ?z5 ?z6 ?z7 ?z8 ?z9 ?z10
    (case aC => k_is)
    (case a1 => k_is)
    (case l1 => k_is)
    (case c1 => k_is)
    (case k1 => k_is)
    (case a2 => k_is)
    (case l2 => k_is)
    (case c2 => k_is)
    (case k2 => k_is)
    (case a3 => k_is)
    (case l3 => k_is)
    (case c3 => k_is)
    (case k3 => k_is)
    (case a4 => k_is)
    (case l4 => k_is)
    (case c4 => k_is)
    (case k4 => k_is)
    (case a5 => k_is)
    (case l5 => k_is)
    (case c5 => k_is)
    (case k5 => k_is)
    (case a6 => k_is)
    (case i6 => k_is)
    (case l6 => k_is)
    (case c6 => k_is)
    (case k6 => k_is)
    (case a7 => k_is)
    (case i7 => k_is)
    (case l7 => k_is)
    (case c7 => k_is)
    (case k7 => k_is)
    (case a8 => k_is)
    (case l8 => k_is)
    (case c8 => k_is)
    (case k8 => k_is)
    (case a9 => k_is)
    (case l9 => k_is)
    (case c9 => k_is)
    (case k9 => k_is)
    (case a10 => k_is)
    (case l10 => k_is)
    (case c10 => k_is)
    (case k10 => k_is)
    (case a11 => k_is)
    (case l11 => k_is)
    (case c11 => k_is)
    (case k11 => k_is)
    (case a12 => k_is)
    (case l12 => k_is)
    (case c12 => k_is)
    (case k12 => k_is)
    (case a13 => k_is)
    (case l13 => k_is)
    (case c13 => k_is)
    (case k13 => k_is)
    (case a14 => k_is)
    (case l14 => k_is)
    (case c14 => k_is)
    (case k14 => k_is)
    (case a15 => k_is)
    (case l15 => k_is)
    (case c15 => k_is)
    (case k15 => k_is)
    (case a16 => k_is)
    (case l16 => k_is)
    (case c16 => k_is)
    (case k16 => k_is)
    (case a17 => k_is)
    (case l17 => k_is)
    (case c17 => k_is)
    (case k17 => k_is)
    (case a18 => k_is)
    (case l18 => k_is)
    (case c18 => k_is)
    (case k18 => k_is)
    (case a19 => k_is)
    (case l19 => k_is)
    (case c19 => k_is)
    (case k19 => k_is)
    (case a20 => k_is)
    (case l20 => k_is)
    (case c20 => k_is)
    (case k20 => k_is)
    (case a21 => k_is)
    (case l21 => k_is)
    (case c21 => k_is)
    (case k21 => k_is)
    (case a22 => k_is)
    (case l22 => k_is)
    (case c22 => k_is)
    (case k22 => k_is)
    (case a23 => k_is)
    (case l23 => k_is)
    (case c23 => k_is)
    (case k23 => k_is)
    (case a24 => k_is)
    (case l24 => k_is)
    (case c24 => k_is)
    (case k24 => k_is)
    (case a25 => k_is)
    (case l25 => k_is)
    (case c25 => k_is)
    (case k25 => k_is)
    (case a26 => k_is)
    (case l26 => k_is)
    (case c26 => k_is)
    (case k26 => k_is)
    (case a27 => k_is)
    (case l27 => k_is)
    (case c27 => k_is)
    (case k27 => k_is)
    (case a28 => k_is)
    (case l28 => k_is)
    (case c28 => k_is)
    (case k28 => k_is)
    (case a29 => k_is)
    (case l29 => k_is)
    (case c29 => k_is)
    (case k29 => k_is)
    (case a30 => k_is)
    (case l30 => k_is)
    (case c30 => k_is)
    (case k30 => k_is)
    (case a31 => k_is)
    (case l31 => k_is)
    (case c31 => k_is)
    (case k31 => k_is)
    (case a32 => k_is)
    (case i32 => k_is)
    (case l32 => k_is)
    (case c32 => k_is)
    (case k32 => k_is)
    (case a33 => k_is)
    (case l33 => k_is)
    (case c33 => k_is)
    (case k33 => k_is)
    (case pg => k_is)
    (case hd => k_is)
    (case po => k_is)
    (case sa => k_is)
    (case mk => k_is)
    (case kc => k_is)
    (case nW => k_is)
    (case nP => k_is)
    (case nM => k_is)
    (case nT => k_is)
    (case z1 => k_is)
    (case z2 => k_is)
    (case z3 => k_is)
    (case z4 => k_is)
    (case z5 => k_is)
    (case z6 => k_is)
    (case z7 => k_is)
    (case z8 => k_is)
    (case z9 => k_is)
    (case z10 => k_is)
