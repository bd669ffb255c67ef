import PyProof.Rows.All
import Wide.All
import OpenK.AllK
import Wide.FinOn
import HandS.ForMost
import HandS.ForExc
import HandS.Deep
import HandS.Style
import HandS.Conv
import HandS.IsInst
import HandS.Set
import HandS.SetTxt0
import HandS.Strs
import HandS.ExcOwn
import HandS.ExcIs
import HandS.HotCalls
import HandS.Dict
import HandS.Zip
import HandS.StrMore
import HandS.Text
import PyProof.StrOps2
import PySem.Challenge.RW_soonsaid_k02_written_and_read
set_option Elab.async false
set_option linter.all false
set_option maxRecDepth 100000
set_option maxHeartbeats 4000000
/-! PyA: data, how the heap bears it, steps, slots -/
namespace Py
open PySem PySem.Spec PyProof.Rows L2

abbrev D := PyData
structure Pm where
  ci : Str → Option (Addr × List Str)
  exc : Str → Value
  /-- objects that change: where they stand -/
  lv : Nat → Option Addr := fun _ => none
  /-- what stood before: no new list is among it -/
  kp : Hp := fun _ => none

mutual
/-- the value v stands for the datum d in the (frozen) heap G -/
inductive R (K : PySem.W.Frag) (M : Pm) (G : Hp) : V → D → Prop
  | non : R K M G .non .none
  | bl (b : Bool) : R K M G (.bl b) (.bool b)
  | int (i : Int) : R K M G (.int i) (.int i)
  | str (x : Str) : R K M G (.str x) (.str x)
  | lst {a : Addr} {xs : List V} {ds : List D} : SqL K G a xs → RA K M G xs ds → R K M G (.ref a) (.list ds)
  | tup {a : Addr} {xs : List V} {ds : List D} : SqT K G a xs → RA K M G xs ds → R K M G (.ref a) (.tuple ds)
  | ins {a C dx : Addr} {fs : List (Str × V)} {c : Str} {ns : List Str} {ds : List D} : G a = some (.ins C dx fs) → M.ci c = some (C, ns) → fs.map (·.1) = ns → RA K M G (fs.map (·.2)) ds → R K M G (.ref a) (.dict [(.str c, .list ds)])
  | edict {a : Addr} : G a = some (.dK []) → R K M G (.ref a) (.dict [])
  | live {a : Addr} {k : Nat} : M.lv k = some a → R K M G (.ref a) (.dict [(.none, .int k)])
  | new {a : Addr} {xs : List V} {ds : List D} : G a = some (.lst xs) → M.kp a = none → RA K M G xs ds → R K M G (.ref a) (.dict [(.none, .list ds)])
  | kl {a : Addr} {xs : List V} {ds : List D} : M.kp a = some (.lst xs) → RA K M G xs ds → R K M G (.ref a) (.dict [(.none, .tuple ds)])
  | ki {a C dx : Addr} {k : Nat} {fs : List (Str × V)} {c : Str} {ns : List Str} {ds : List D} : M.lv k = some a → M.kp a = some (.ins C dx fs) → M.ci c = some (C, ns) → fs.map (·.1) = ns → RA K M G (fs.map (·.2)) ds → R K M G (.ref a) (.dict [(.str c, .tuple (.int k :: ds))])
inductive RA (K : PySem.W.Frag) (M : Pm) (G : Hp) : List V → List D → Prop
  | nil : RA K M G [] []
  | cons {v : V} {vs : List V} {d : D} {ds : List D} : R K M G v d → RA K M G vs ds → RA K M G (v :: vs) (d :: ds)
end

section
variable {K : PySem.W.Frag} {M : Pm} {G G' H H' : Hp}
theorem same_T {a : Addr} {xs : List V} (e : Same H H') (h : SqT K H a xs) : SqT K H' a xs := by
  rcases h with (h | ⟨o, h⟩) | h
  · exact .inl (.inl (e _ _ h))
  · exact .inl (.inr ⟨o, e _ _ h⟩)
  · exact .inr h
mutual
theorem R.mono (e : Same G G') : ∀ {v : V} {d : D}, R K M G v d → R K M G' v d
  | _, _, .non => .non
  | _, _, .bl b => .bl b
  | _, _, .int i => .int i
  | _, _, .str x => .str x
  | _, _, .lst h r => .lst (e.seq h) (RA.mono e r)
  | _, _, .tup h r => .tup (same_T e h) (RA.mono e r)
  | _, _, .ins h c n r => .ins (e _ _ h) c n (RA.mono e r)
  | _, _, .edict h => .edict (e _ _ h)
  | _, _, .live h => .live h
  | _, _, .new h n r => .new (e _ _ h) n (RA.mono e r)
  | _, _, .kl h r => .kl h (RA.mono e r)
  | _, _, .ki l h c n r => .ki l h c n (RA.mono e r)
theorem RA.mono (e : Same G G') : ∀ {vs : List V} {ds : List D}, RA K M G vs ds → RA K M G' vs ds
  | _, _, .nil => .nil
  | _, _, .cons r t => .cons (R.mono e r) (RA.mono e t)
end
theorem RA.len : ∀ {vs : List V} {ds : List D}, RA K M G vs ds → vs.length = ds.length
  | _, _, .nil => rfl
  | _, _, .cons _ t => congrArg (· + 1) (RA.len t)
theorem RA.get : ∀ {vs : List V} {ds : List D} {i : Nat} {d : D}, RA K M G vs ds → ds[i]? = some d → ∃ v, vs[i]? = some v ∧ R K M G v d
  | _, _, _, _, .nil, e => by simp at e
  | _, _, 0, _, .cons r _, e => by simp at e; subst e; exact ⟨_, rfl, r⟩
  | _, _, i + 1, _, .cons _ t, e => by
    obtain ⟨v, h1, h2⟩ := RA.get (i := i) t (by simpa using e)
    exact ⟨v, by simpa using h1, h2⟩
theorem RA.app : ∀ {vs ws : List V} {ds es : List D}, RA K M G vs ds → RA K M G ws es → RA K M G (vs ++ ws) (ds ++ es)
  | _, _, _, _, .nil, s => s
  | _, _, _, _, .cons r t, s => .cons r (RA.app t s)
theorem RA.take : ∀ {vs : List V} {ds : List D} (n : Nat), RA K M G vs ds → RA K M G (vs.take n) (ds.take n)
  | _, _, 0, _ => .nil
  | _, _, _ + 1, .nil => .nil
  | _, _, n + 1, .cons r t => .cons r (RA.take n t)
theorem RA.drop : ∀ {vs : List V} {ds : List D} (n : Nat), RA K M G vs ds → RA K M G (vs.drop n) (ds.drop n)
  | _, _, 0, r => r
  | _, _, _ + 1, .nil => .nil
  | _, _, n + 1, .cons _ t => RA.drop n t
theorem RA.rev : ∀ {vs : List V} {ds : List D}, RA K M G vs ds → RA K M G vs.reverse ds.reverse
  | _, _, .nil => .nil
  | _, _, .cons r t => by
    rw [List.reverse_cons, List.reverse_cons]
    exact RA.app (RA.rev t) (.cons r .nil)
theorem RA.set {v : V} {d : D} (r : R K M G v d) : ∀ {vs : List V} {ds : List D} (i : Nat), RA K M G vs ds → RA K M G (vs.set i v) (ds.set i d)
  | _, _, _, .nil => .nil
  | _, _, 0, .cons _ t => .cons r t
  | _, _, i + 1, .cons q t => .cons q (RA.set r i t)
theorem RA.one {v : V} {d : D} (r : R K M G v d) : RA K M G [v] [d] := .cons r .nil
theorem RA.bools : ∀ {vs : List V} {bs : List Bool}, RA K M G vs (bs.map PyData.bool) → vs = bs.map V.bl
  | _, [], .nil => rfl
  | _, b :: r, .cons (.bl _) t => by rw [RA.bools t]; rfl
theorem RA.strs : ∀ {vs : List V} {bs : List Str}, RA K M G vs (bs.map PyData.str) → vs = bs.map V.str
  | _, [], .nil => rfl
  | _, b :: r, .cons (.str _) t => by rw [RA.strs t]; rfl
theorem RA.ints : ∀ {vs : List V} {bs : List Int}, RA K M G vs (bs.map PyData.int) → vs = bs.map V.int
  | _, [], .nil => rfl
  | _, b :: r, .cons (.int _) t => by rw [RA.ints t]; rfl
theorem RA.of_ints : ∀ (bs : List Int), RA K M G (bs.map V.int) (bs.map PyData.int)
  | [] => .nil
  | b :: r => .cons (.int b) (RA.of_ints r)
theorem RA.of_strs : ∀ (bs : List Str), RA K M G (bs.map V.str) (bs.map PyData.str)
  | [] => .nil
  | b :: r => .cons (.str b) (RA.of_strs r)

mutual
theorem R.dp : ∀ {v : V} {d : D}, R K M G v d → d.canLay0 = true → Dp K G v d
  | _, _, .non, _ => .non
  | _, _, .bl b, _ => .bl b
  | _, _, .int i, _ => .int i
  | _, _, .str x, _ => .str x
  | _, _, .lst h r, c => .lst h (RA.dp r (by simpa only [PyData.canLay0] using c))
  | _, _, .tup h r, c => .tup h (RA.dp r (by simpa only [PyData.canLay0] using c))
  | _, _, .ins h _ n r, c => by simp only [PyData.canLay0] at c; cases c
  | _, _, .edict h, c => by simp only [PyData.canLay0] at c; cases c
  | _, _, .live h, c => by simp only [PyData.canLay0] at c; cases c
  | _, _, .new h n r, c => by simp only [PyData.canLay0] at c; cases c
  | _, _, .kl h r, c => by simp only [PyData.canLay0] at c; cases c
  | _, _, .ki l h m n r, c => by simp only [PyData.canLay0] at c; cases c
theorem RA.dp : ∀ {vs : List V} {ds : List D}, RA K M G vs ds → PyData.canLayAll0 ds = true → DpAll K G vs ds
  | _, _, .nil, _ => .nil
  | _, _, .cons r t, c => by
    simp only [PyData.canLayAll0, Bool.and_eq_true] at c
    exact .cons (R.dp r c.1) (RA.dp t c.2)
end

/-! ### steps of the heap: all stays; G is what is frozen of it -/
structure Stp (H G H' G' : Hp) : Prop where
  ex : Same H H'
  eg : Same G G'
  sub : Same G' H'
  nw : ∀ p o, H p = some o → G p = none → G' p = none
theorem Stp.refl (h : Same G H) : Stp H G H G := ⟨Same.refl _, Same.refl _, h, fun _ _ _ q => q⟩
theorem Stp.trans {H1 G1 H2 G2 : Hp} (a : Stp H G H1 G1) (b : Stp H1 G1 H2 G2) : Stp H G H2 G2 :=
  ⟨a.ex.trans b.ex, a.eg.trans b.eg, b.sub, fun p o e q => b.nw p o (a.ex p o e) (a.nw p o e q)⟩
theorem same_new {p : Addr} {o : HO} (h : H p = none) : Same H (upd H p o) := fun b u q => by rw [upd_ne (ne_of_none q h)]; exact q
theorem same_upd2 {p : Addr} {o : HO} (e : Same G H) : Same (upd G p o) (upd H p o) := fun b u q => by
  by_cases hb : b = p
  · subst hb; rw [upd_same] at q ⊢; exact q
  · rw [upd_ne hb] at q ⊢; exact e b u q
/-- a new object, frozen at once -/
theorem Stp.new {p : Addr} {o : HO} (h : Same G H) (hp : H p = none) : Stp H G (upd H p o) (upd G p o) :=
  ⟨same_new hp, same_new (h.free hp), same_upd2 h, fun q u e n => by rw [upd_ne (ne_of_none e hp)]; exact n⟩
/-- a new object, not frozen -/
theorem Stp.newO {p : Addr} {o : HO} (h : Same G H) (hp : H p = none) : Stp H G (upd H p o) G :=
  ⟨same_new hp, Same.refl _, h.trans (same_new hp), fun _ _ _ n => n⟩

/-! ### results -/
inductive Md | cl | op | fr
def RO (K : PySem.W.Frag) (M : Pm) (H G : Hp) (v : V) : D → Prop
  | .list ds => ∃ a xs, v = .ref a ∧ SqL K H a xs ∧ RA K M G xs ds
  | d => R K M G v d
def RF (K : PySem.W.Frag) (M : Pm) (H0 H G : Hp) (v : V) : D → Prop
  | .list ds => ∃ a xs, v = .ref a ∧ H0 a = none ∧ G a = none ∧ H a = some (.lst xs) ∧ RA K M G xs ds
  | d => R K M G v d
def Res (K : PySem.W.Frag) (M : Pm) : Md → Hp → Hp → Hp → V → D → Prop
  | .cl, _, _, G', v, d => R K M G' v d
  | .op, _, H', G', v, d => RO K M H' G' v d
  | .fr, H, H', G', v, d => RF K M H H' G' v d
theorem R.ro {v : V} {d : D} (r : R K M G v d) (e : Same G H) : RO K M H G v d := by
  cases r with
  | lst h r => exact ⟨_, _, rfl, e.seq h, r⟩
  | _ => first | exact .non | exact .bl _ | exact .int _ | exact .str _ | (exact .tup (by assumption) (by assumption)) | (exact .ins (by assumption) (by assumption) (by assumption) (by assumption)) | (exact .edict (by assumption)) | (exact .live (by assumption)) | (exact .new (by assumption) (by assumption) (by assumption)) | (exact .kl (by assumption) (by assumption)) | (exact .ki (by assumption) (by assumption) (by assumption) (by assumption) (by assumption))
theorem RF.ro {H0 : Hp} {v : V} {d : D} (r : RF K M H0 H G v d) : RO K M H G v d := by
  cases d with
  | list ds => obtain ⟨a, xs, e, _, _, h, r⟩ := r; exact ⟨a, xs, e, .of h, r⟩
  | _ => exact r
theorem RO.mono {v : V} {d : D} (r : RO K M H G v d) (e : Same H H') (g : Same G G') : RO K M H' G' v d := by
  cases d with
  | list ds => obtain ⟨a, xs, e1, h, r⟩ := r; exact ⟨a, xs, e1, e.seq h, r.mono g⟩
  | _ => exact R.mono g r
theorem RO.r {v : V} {d : D} (r : RO K M H G v d) (e : Same G H) : R K M H v d := by
  cases d with
  | list ds => obtain ⟨a, xs, e1, h, r⟩ := r; subst e1; exact .lst h (r.mono e)
  | _ => exact R.mono e r
theorem RF.up {H0 H1 : Hp} {v : V} {d : D} (r : RF K M H1 H G v d) (e : Same H0 H1) : RF K M H0 H G v d := by
  cases d with
  | list ds => obtain ⟨a, xs, e1, h0, hg, h, r⟩ := r; exact ⟨a, xs, e1, e.free h0, hg, h, r⟩
  | _ => exact r
/-- d is no list: frozen, operand and fresh are one -/
def nolist : D → Bool
  | .list _ => false
  | _ => true
theorem Res.of_nolist {m : Md} {H0 : Hp} {v : V} {d : D} (r : R K M G v d) (n : nolist d = true) : Res K M m H0 H G v d := by
  cases m with
  | cl => exact r
  | op => cases d with
    | list ds => cases n
    | _ => exact r
  | fr => cases d with
    | list ds => cases n
    | _ => exact r
theorem RO.nolist {v : V} {d : D} (r : RO K M H G v d) (n : nolist d = true) : R K M G v d := by
  cases d with
  | list ds => cases n
  | _ => exact r

/-! ### slots -/
inductive Sl | no | va (d : D) | ow (ds : List D)
abbrev Ge := List Sl
def SlR (K : PySem.W.Frag) (M : Pm) (H0 H G : Hp) : Sl → Option V → Prop
  | .no, _ => True
  | .va d, x => ∃ v, x = some v ∧ R K M G v d
  | .ow ds, x => ∃ o vs, x = some (.ref o) ∧ G o = none ∧ H0 o = none ∧ H o = some (.lst vs) ∧ RA K M G vs ds
def isO : Sl → Option V → Addr → Prop
  | .ow _, x, o => x = some (.ref o)
  | _, _, _ => False
structure EnvR (K : PySem.W.Frag) (M : Pm) (H0 G0 : Hp) (γ : Ge) (σ : L2.St) (H G : Hp) : Prop where
  st : Stp H0 G0 H G
  len : σ.length = γ.length
  sl : ∀ (i : Nat) (s : Sl) (x : Option V), γ[i]? = some s → σ[i]? = some x → SlR K M H0 H G s x
  ap : ∀ (i j : Nat) (si sj : Sl) (xi xj : Option V) (o : Addr), γ[i]? = some si → γ[j]? = some sj → σ[i]? = some xi → σ[j]? = some xj → isO si xi o → isO sj xj o → i = j
  kp : Same M.kp H0
theorem EnvR.sub {H0 G0 : Hp} {γ : Ge} {σ : L2.St} (e : EnvR K M H0 G0 γ σ H G) : Same G H := e.st.sub
theorem EnvR.stp {H0 G0 H1 G1 : Hp} {γ : Ge} {σ : L2.St} (e : EnvR K M H0 G0 γ σ H G) (s : Stp H G H1 G1) : EnvR K M H0 G0 γ σ H1 G1 := by
  refine ⟨e.st.trans s, e.len, fun i sl x h1 h2 => ?_, e.ap, e.kp⟩
  have q := e.sl i sl x h1 h2
  cases sl with
  | no => trivial
  | va d => obtain ⟨v, e1, r⟩ := q; exact ⟨v, e1, r.mono s.eg⟩
  | ow ds => obtain ⟨o, vs, e1, g, h0, h, r⟩ := q; exact ⟨o, vs, e1, s.nw _ _ h g, h0, s.ex _ _ h, r.mono s.eg⟩
theorem EnvR.at {H0 G0 : Hp} {γ : Ge} {σ : L2.St} {i : Nat} {s : Sl} (e : EnvR K M H0 G0 γ σ H G) (h : γ[i]? = some s) : ∃ x, σ[i]? = some x ∧ SlR K M H0 H G s x := by
  have hi : i < γ.length := (List.getElem?_eq_some_iff.mp h).1
  have hj : i < σ.length := by rw [e.len]; exact hi
  have q : σ[i]? = some σ[i] := List.getElem?_eq_getElem hj
  exact ⟨_, q, e.sl _ _ _ h q⟩
theorem EnvR.va {H0 G0 : Hp} {γ : Ge} {σ : L2.St} {i : Nat} {d : D} (e : EnvR K M H0 G0 γ σ H G) (h : γ[i]? = some (.va d)) : ∃ v, σ[i]? = some (some v) ∧ R K M G v d := by
  obtain ⟨x, h1, v, e1, r⟩ := e.at h
  subst e1
  exact ⟨v, h1, r⟩
theorem EnvR.ow {H0 G0 : Hp} {γ : Ge} {σ : L2.St} {i : Nat} {ds : List D} (e : EnvR K M H0 G0 γ σ H G) (h : γ[i]? = some (.ow ds)) :
    ∃ o vs, σ[i]? = some (some (.ref o)) ∧ G o = none ∧ H0 o = none ∧ H o = some (.lst vs) ∧ RA K M G vs ds := by
  obtain ⟨x, h1, o, vs, e1, q⟩ := e.at h
  subst e1
  exact ⟨o, vs, h1, q⟩
/-- a slot stored: a frozen datum -/
theorem EnvR.setv {H0 G0 : Hp} {γ : Ge} {σ : L2.St} {i : Nat} {v : V} {d : D} (e : EnvR K M H0 G0 γ σ H G) (r : R K M G v d) : EnvR K M H0 G0 (γ.set i (.va d)) (σ.set i (some v)) H G := by
  have key : ∀ (j : Nat) (s : Sl) (x : Option V), (γ.set i (.va d))[j]? = some s → (σ.set i (some v))[j]? = some x → (j = i ∧ s = .va d ∧ x = some v) ∨ (j ≠ i ∧ γ[j]? = some s ∧ σ[j]? = some x) := by
    intro j s x h1 h2
    by_cases hj : i = j
    · subst hj
      rw [List.getElem?_set] at h1 h2
      simp only [if_true] at h1 h2
      split at h1
      · split at h2
        · exact .inl ⟨rfl, (Option.some.inj h1).symm, (Option.some.inj h2).symm⟩
        · cases h2
      · cases h1
    · rw [List.getElem?_set_ne hj] at h1 h2
      exact .inr ⟨Ne.symm hj, h1, h2⟩
  refine ⟨e.st, by rw [List.length_set, List.length_set]; exact e.len, fun j s x h1 h2 => ?_, fun j k sj sk xj xk o h1 h2 h3 h4 h5 h6 => ?_, e.kp⟩
  · rcases key j s x h1 h2 with ⟨_, e1, e2⟩ | ⟨_, q1, q2⟩
    · subst e1; subst e2; exact ⟨v, rfl, r⟩
    · exact e.sl j s x q1 q2
  · rcases key j sj xj h1 h3 with ⟨_, e1, _⟩ | ⟨n1, q1, q2⟩
    · subst e1; exact h5.elim
    · rcases key k sk xk h2 h4 with ⟨_, e1, _⟩ | ⟨n2, q3, q4⟩
      · subst e1; exact h6.elim
      · exact e.ap j k sj sk xj xk o q1 q3 q2 q4 h5 h6
/-- a slot stored: an own list, new since HS -/
theorem EnvR.seto {H0 G0 HS : Hp} {γ : Ge} {σ : L2.St} {i : Nat} {o : Addr} {vs : List V} {ds : List D} (e : EnvR K M H0 G0 γ σ H G) (old : ∀ (j : Nat) (dj : List D) (p : Addr), j ≠ i → γ[j]? = some (.ow dj) → σ[j]? = some (some (.ref p)) → p ≠ o)
    (g : G o = none) (h0 : H0 o = none) (h : H o = some (.lst vs)) (r : RA K M G vs ds) : EnvR K M H0 G0 (γ.set i (.ow ds)) (σ.set i (some (.ref o))) H G := by
  have key : ∀ (j : Nat) (s : Sl) (x : Option V), (γ.set i (.ow ds))[j]? = some s → (σ.set i (some (.ref o)))[j]? = some x → (j = i ∧ s = .ow ds ∧ x = some (.ref o)) ∨ (j ≠ i ∧ γ[j]? = some s ∧ σ[j]? = some x) := by
    intro j s x h1 h2
    by_cases hj : i = j
    · subst hj
      rw [List.getElem?_set] at h1 h2
      simp only [if_true] at h1 h2
      split at h1
      · split at h2
        · exact .inl ⟨rfl, (Option.some.inj h1).symm, (Option.some.inj h2).symm⟩
        · cases h2
      · cases h1
    · rw [List.getElem?_set_ne hj] at h1 h2
      exact .inr ⟨Ne.symm hj, h1, h2⟩
  refine ⟨e.st, by rw [List.length_set, List.length_set]; exact e.len, fun j s x h1 h2 => ?_, fun j k sj sk xj xk p h1 h2 h3 h4 h5 h6 => ?_, e.kp⟩
  · rcases key j s x h1 h2 with ⟨_, e1, e2⟩ | ⟨_, q1, q2⟩
    · subst e1; subst e2; exact ⟨o, vs, rfl, g, h0, h, r⟩
    · exact e.sl j s x q1 q2
  · rcases key j sj xj h1 h3 with ⟨ej, e1, e2⟩ | ⟨n1, q1, q2⟩
    · rcases key k sk xk h2 h4 with ⟨ek, _, _⟩ | ⟨n2, q3, q4⟩
      · rw [ej, ek]
      · subst e1; subst e2
        have ep : (some (V.ref o) : Option V) = some (.ref p) := h5
        cases ep
        cases sk with
        | ow dk =>
          have ek : xk = some (.ref o) := h6
          subst ek
          exact absurd rfl (old k dk o n2 q3 q4)
        | _ => exact h6.elim
    · rcases key k sk xk h2 h4 with ⟨_, e1, e2⟩ | ⟨n2, q3, q4⟩
      · subst e1; subst e2
        have ep : (some (V.ref o) : Option V) = some (.ref p) := h6
        cases ep
        cases sj with
        | ow dj =>
          have ek : xj = some (.ref o) := h5
          subst ek
          exact absurd rfl (old j dj o n1 q1 q2)
        | _ => exact h5.elim
      · exact e.ap j k sj sk xj xk p q1 q3 q2 q4 h5 h6
/-- an own list changed -/
theorem EnvR.wr {H0 G0 : Hp} {γ : Ge} {σ : L2.St} {i : Nat} {o : Addr} {vs ws : List V} {ds es : List D} (e : EnvR K M H0 G0 γ σ H G) (hi : γ[i]? = some (.ow ds)) (hs : σ[i]? = some (some (.ref o))) (h : H o = some (.lst vs))
    (r : RA K M G ws es) : EnvR K M H0 G0 (γ.set i (.ow es)) σ (upd H o (.lst ws)) G := by
  obtain ⟨o', vs', h1, g, h0, _, _⟩ := e.ow hi
  rw [hs] at h1; cases h1
  have hil : i < γ.length := (List.getElem?_eq_some_iff.mp hi).1
  refine ⟨⟨fun b u q => by rw [upd_ne (ne_of_none q h0)]; exact e.st.ex b u q, e.st.eg, fun b u q => by rw [upd_ne (ne_of_none q g)]; exact e.st.sub b u q, e.st.nw⟩, by rw [List.length_set]; exact e.len, fun j s x q1 q2 => ?_, fun j k sj sk xj xk p h1 h2 h3 h4 h5 h6 => ?_, e.kp⟩
  · by_cases hj : i = j
    · subst hj
      rw [List.getElem?_set_self hil] at q1
      rw [hs] at q2
      cases q1; cases q2
      exact ⟨o, ws, rfl, g, h0, upd_same, r⟩
    · rw [List.getElem?_set_ne hj] at q1
      have q := e.sl j s x q1 q2
      cases s with
      | no => trivial
      | va d => exact q
      | ow dj =>
        obtain ⟨p, vp, e1, gp, hp0, hp, rp⟩ := q
        subst e1
        refine ⟨p, vp, rfl, gp, hp0, ?_, rp⟩
        rw [upd_ne]
        · exact hp
        · intro ep
          subst ep
          exact hj (e.ap i j _ _ _ _ p hi q1 hs q2 rfl rfl)
  · have key : ∀ (j : Nat) (s : Sl) (x : Option V), (γ.set i (.ow es))[j]? = some s → σ[j]? = some x → isO s x p → ∃ s', γ[j]? = some s' ∧ isO s' x p := by
      intro j s x q1 q2 q3
      by_cases hj : i = j
      · subst hj
        rw [List.getElem?_set_self hil] at q1
        cases q1
        exact ⟨_, hi, q3⟩
      · rw [List.getElem?_set_ne hj] at q1
        exact ⟨s, q1, q3⟩
    obtain ⟨s1, a1, b1⟩ := key j sj xj h1 h3 h5
    obtain ⟨s2, a2, b2⟩ := key k sk xk h2 h4 h6
    exact e.ap j k s1 s2 xj xk p a1 a2 h3 h4 b1 b2
end
end Py

/-! PyB: judgements; expressions -/
namespace Py
open PySem PySem.Spec PyProof.Rows L2

inductive Rs | ok (d : D) | er (c : Str)
abbrev Fe := Ge → Option Rs
def bR (x : Option Rs) (k : D → Option Rs) : Option Rs := match x with
  | some (.ok d) => k d
  | some (.er c) => some (.er c)
  | none => none
inductive Rl | ok (ds : List D) | er (c : Str)
abbrev Fa := Ge → Option Rl
inductive Rb | ok (b : Bool) | er (c : Str)
abbrev Ft := Ge → Option Rb

section
variable (K : PySem.W.Frag) (M : Pm) (E : XK)
def PostE (m : Md) (H G : Hp) (Q : VK) : Rs → Prop
  | .ok d => ∀ v H' G', Stp H G H' G' → Res K M m H H' G' v d → Q v H'
  | .er c => ∀ H' G', Stp H G H' G' → E (M.exc c) none H'
def EO (m : Md) (t : TE) (f : Fe) : Prop := ∀ (H0 G0 : Hp) (γ : Ge) (σ : L2.St) (H G : Hp) (Q : VK) (r : Rs), EnvR K M H0 G0 γ σ H G → f γ = some r → PostE K M E m H G Q r → t σ H Q
def ROs (H G : Hp) : List V → List D → Prop := Paired fun v d => RO K M H G v d
def PostA (H G : Hp) (Q : List V → Hp → Prop) : Rl → Prop
  | .ok ds => ∀ vs H' G', Stp H G H' G' → ROs K M H' G' vs ds → Q vs H'
  | .er c => ∀ H' G', Stp H G H' G' → E (M.exc c) none H'
def PostC (H G : Hp) (Q : List V → Hp → Prop) : Rl → Prop
  | .ok ds => ∀ vs H' G', Stp H G H' G' → RA K M G' vs ds → Q vs H'
  | .er c => ∀ H' G', Stp H G H' G' → E (M.exc c) none H'
/-- arguments: operands; clean -/
def AO (t : TA) (f : Fa) : Prop := ∀ (H0 G0 : Hp) (γ : Ge) (σ : L2.St) (H G : Hp) (Q : List V → Hp → Prop) (r : Rl), EnvR K M H0 G0 γ σ H G → f γ = some r → PostA K M E H G Q r → t σ H Q
def AC (t : TA) (f : Fa) : Prop := ∀ (H0 G0 : Hp) (γ : Ge) (σ : L2.St) (H G : Hp) (Q : List V → Hp → Prop) (r : Rl), EnvR K M H0 G0 γ σ H G → f γ = some r → PostC K M E H G Q r → t σ H Q
def PostT (H G : Hp) (Q : Bool → Hp → Prop) : Rb → Prop
  | .ok b => ∀ H' G', Stp H G H' G' → Q b H'
  | .er c => ∀ H' G', Stp H G H' G' → E (M.exc c) none H'
def TO' (t : TT) (f : Ft) : Prop := ∀ (H0 G0 : Hp) (γ : Ge) (σ : L2.St) (H G : Hp) (Q : Bool → Hp → Prop) (r : Rb), EnvR K M H0 G0 γ σ H G → f γ = some r → PostT M E H G Q r → t σ H Q
end

structure JE (K : PySem.W.Frag) (X : Cx) (M : Pm) (E : XK) (m : Md) (e : Expr) (t : TE) (f : Fe) : Prop where
  pe : PE X e t
  eo : EO K M E m t f
structure JT (K : PySem.W.Frag) (X : Cx) (M : Pm) (E : XK) (e : Expr) (t : TT) (f : Ft) : Prop where
  pt : PT X e t
  to : TO' K M E t f
structure JW (K : PySem.W.Frag) (X : Cx) (M : Pm) (E : XK) (e : Expr) (t : TT) (f : Ft) : Prop where
  pw : PW X e t
  to : TO' K M E t f
/-- arguments as operands -/
structure JA (K : PySem.W.Frag) (X : Cx) (M : Pm) (E : XK) (es : List Expr) (t : TA) (f : Fa) : Prop where
  pa : PA X es t
  ao : AO K M E t f
/-- arguments, clean -/
structure JC (K : PySem.W.Frag) (X : Cx) (M : Pm) (E : XK) (es : List Expr) (t : TA) (f : Fa) : Prop where
  pa : PA X es t
  ac : AC K M E t f

/-- what a context must have -/
structure CxF (K : PySem.W.Frag) (X : Cx) (E : XK) (k : Nat) : Prop where
  hK : X.K = K
  calm : X.calm = true
  nd : X.N.Nodup
  pas : Passes (L2.CX X.prog X.w) X E
  own : PassesOwn (model X.prog X.w) X.A X.env X.xe
  room : Room k X.A

/-! ### what they reckon -/
def fVar (i : Nat) : Fe := fun γ => match γ[i]? with
  | some (.va d) => some (.ok d)
  | _ => none
def fOpd (i : Nat) : Fe := fun γ => match γ[i]? with
  | some (.va d) => some (.ok d)
  | some (.ow ds) => some (.ok (.list ds))
  | _ => none
def fCon (d : D) : Fe := fun _ => some (.ok d)
def oR (x : Option D) : Option Rs := match x with
  | some d => some (.ok d)
  | none => none
def f2 (o : D → D → Option D) (a b : Fe) : Fe := fun γ => bR (a γ) fun x => bR (b γ) fun y => oR (o x y)
def f1 (o : D → Option D) (a : Fe) : Fe := fun γ => bR (a γ) fun x => oR (o x)
def bL (x : Option Rs) (k : D → Option Rl) : Option Rl := match x with
  | some (.ok d) => k d
  | some (.er c) => some (.er c)
  | none => none
def bA (x : Option Rl) (k : List D → Option Rs) : Option Rs := match x with
  | some (.ok d) => k d
  | some (.er c) => some (.er c)
  | none => none
def bLL (x : Option Rl) (k : List D → Option Rl) : Option Rl := match x with
  | some (.ok d) => k d
  | some (.er c) => some (.er c)
  | none => none
def fNil : Fa := fun _ => some (.ok [])
def fCons (a : Fe) (r : Fa) : Fa := fun γ => bL (a γ) fun d => bLL (r γ) fun ds => some (.ok (d :: ds))
def big : Nat := 16000000
theorem big_line {n : Nat} (h : n ≤ big) : n ≤ sizeLine := Nat.le_trans h (by rw [sizeLine_eq]; decide)
theorem big_line' {n : Nat} (h : n ≤ big) : n < sizeLine := Nat.lt_of_le_of_lt h (by rw [sizeLine_eq]; decide)

section
variable {K : PySem.W.Frag} {X : Cx} {M : Pm} {E : XK} {k : Nat} {m : Md} {a b e : Expr} {ta tb te : TE} {fa fb fe : Fe} {pos : Pos}

theorem JE.c2o (h : JE K X M E .cl e te fe) : JE K X M E .op e te fe := ⟨h.pe, fun H0 G0 γ σ H G Q r ev hf p => h.eo H0 G0 γ σ H G Q r ev hf (by
  cases r with
  | ok d => exact fun v H' G' s r => p v H' G' s (R.ro r s.sub)
  | er c => exact p)⟩
theorem JE.f2o (h : JE K X M E .fr e te fe) : JE K X M E .op e te fe := ⟨h.pe, fun H0 G0 γ σ H G Q r ev hf p => h.eo H0 G0 γ σ H G Q r ev hf (by
  cases r with
  | ok d => exact fun v H' G' s r => p v H' G' s (RF.ro r)
  | er c => exact p)⟩
theorem freeze {K : PySem.W.Frag} {H G H' G' : Hp} {v : V} {d : D} (s : Stp H G H' G') (r : RF K M H H' G' v d) : ∃ G2, Stp H G H' G2 ∧ Same G' G2 ∧ R K M G2 v d := by
  cases d with
  | list ds =>
    obtain ⟨a, xs, e1, h0, hg, h, r⟩ := r
    subst e1
    have sg : Same G' (upd G' a (.lst xs)) := same_new hg
    refine ⟨upd G' a (.lst xs), ⟨s.ex, s.eg.trans sg, fun b u q => ?_, fun p o q n => ?_⟩, sg, .lst (.of upd_same) (r.mono sg)⟩
    · by_cases hb : b = a
      · subst hb; rw [upd_same] at q; cases q; exact h
      · rw [upd_ne hb] at q; exact s.sub b u q
    · rw [upd_ne (ne_of_none q h0)]; exact s.nw p o q n
  | _ => exact ⟨G', s, Same.refl _, r⟩
theorem JE.f2c (h : JE K X M E .fr e te fe) : JE K X M E .cl e te fe := ⟨h.pe, fun H0 G0 γ σ H G Q r ev hf p => h.eo H0 G0 γ σ H G Q r ev hf (by
  cases r with
  | ok d => exact fun v H' G' s r => let ⟨G2, s2, _, r2⟩ := freeze s r; p v H' G2 s2 r2
  | er c => exact p)⟩

theorem je_var {i : Nat} {x : Str} (hN : X.N[i]? = some x := by rfl) (hv : Vis X.env.scope x := by first | exact Or.inl rfl | exact Or.inr (Or.inl rfl) | exact Or.inr (Or.inr rfl)) (hd : (x == ("__debug__" : Str)) = false := by decide)
    (hcd : (x == ("__classdict__" : Str)) = false := by decide) : JE K X M E .cl (.Name x pos) (tVar i) (fVar i) := ⟨pe_var hN hv hd hcd, fun H0 G0 γ σ H G Q r ev hf p => by
  unfold fVar at hf
  split at hf
  · rename_i d hd
    cases hf
    obtain ⟨v, h1, h2⟩ := ev.va hd
    exact ⟨v, h1, p v H G (Stp.refl ev.sub) h2⟩
  · cases hf⟩
theorem jo_var {i : Nat} {x : Str} (hN : X.N[i]? = some x := by rfl) (hv : Vis X.env.scope x := by first | exact Or.inl rfl | exact Or.inr (Or.inl rfl) | exact Or.inr (Or.inr rfl)) (hd : (x == ("__debug__" : Str)) = false := by decide)
    (hcd : (x == ("__classdict__" : Str)) = false := by decide) : JE K X M E .op (.Name x pos) (tVar i) (fOpd i) := ⟨pe_var hN hv hd hcd, fun H0 G0 γ σ H G Q r ev hf p => by
  unfold fOpd at hf
  split at hf
  · rename_i d hd
    cases hf
    obtain ⟨v, h1, h2⟩ := ev.va hd
    exact ⟨v, h1, p v H G (Stp.refl ev.sub) (h2.ro ev.sub)⟩
  · rename_i ds hd
    cases hf
    obtain ⟨o, vs, h1, _, _, h2, h3⟩ := ev.ow hd
    exact ⟨_, h1, p _ H G (Stp.refl ev.sub) ⟨o, vs, rfl, .of h2, h3⟩⟩
  · cases hf⟩
theorem eo_con {K : PySem.W.Frag} {v : V} {d : D} (r : ∀ G, R K M G v d) : EO K M E .cl (tC v) (fCon d) := fun H0 G0 γ σ H G Q r' ev hf p => by
  cases hf
  exact p v H G (Stp.refl ev.sub) (r G)
theorem je_int {i : Int} {j : Nat} : JE K X M E .cl (.Constant (.int i) j pos) (tC (.int i)) (fCon (.int i)) := ⟨pe_int, eo_con fun _ => .int i⟩
theorem je_bl {i : Bool} {j : Nat} : JE K X M E .cl (.Constant (.bool i) j pos) (tC (.bl i)) (fCon (.bool i)) := ⟨pe_bl, eo_con fun _ => .bl i⟩
theorem je_non {j : Nat} : JE K X M E .cl (.Constant .none j pos) (tC .non) (fCon .none) := ⟨pe_non, eo_con fun _ => .non⟩
theorem je_str {x : Str} {j : Nat} : JE K X M E .cl (.Constant (.str x) j pos) (tC (.str x)) (fCon (.str x)) := ⟨pe_str, eo_con fun _ => .str x⟩

/-! ### operations of two values -/
def OpS (K : PySem.W.Frag) (M : Pm) (m : Md) (r : R2) (o : D → D → Option D) : Prop :=
  ∀ (H G : Hp) (x y : V) (dx dy dz : D) (Q : VK), Same G H → RO K M H G x dx → RO K M H G y dy → o dx dy = some dz → (∀ v H' G', Stp H G H' G' → Res K M m H H' G' v dz → Q v H') → r x y H Q
theorem Res.up {K : PySem.W.Frag} {H0 H H' G' : Hp} {v : V} {d : D} (r : Res K M m H H' G' v d) (e : Same H0 H) : Res K M m H0 H' G' v d := by
  cases m with
  | cl => exact r
  | op => exact r
  | fr => exact RF.up r e
theorem eo_op2 {K : PySem.W.Frag} {r : R2} {o : D → D → Option D} (ho : OpS K M m r o) (ha : EO K M E .op ta fa) (hb : EO K M E .op tb fb) : EO K M E m (tOp r ta tb) (f2 o fa fb) := by
  intro H0 G0 γ σ H G Q q ev hf p
  unfold f2 at hf
  cases e1 : fa γ with
  | none => rw [e1] at hf; cases hf
  | some q1 =>
    rw [e1] at hf
    cases q1 with
    | er c =>
      cases hf
      exact ha H0 G0 γ σ H G _ _ ev e1 p
    | ok dx =>
      refine ha H0 G0 γ σ H G _ _ ev e1 fun x H1 G1 s1 r1 => ?_
      have ev1 := ev.stp s1
      have hf : (bR (fb γ) fun y => oR (o dx y)) = some q := hf
      cases e2 : fb γ with
      | none => rw [e2] at hf; cases hf
      | some q2 =>
        rw [e2] at hf
        cases q2 with
        | er c =>
          cases hf
          exact hb H0 G0 γ σ H1 G1 _ _ ev1 e2 fun H' G' s' => p H' G' (s1.trans s')
        | ok dy =>
          refine hb H0 G0 γ σ H1 G1 _ _ ev1 e2 fun y H2 G2 s2 r2 => ?_
          have hf : oR (o dx dy) = some q := hf
          cases e3 : o dx dy with
          | none => rw [e3] at hf; cases hf
          | some dz =>
            rw [e3] at hf
            cases hf
            exact ho H2 G2 x y dx dy dz Q s2.sub (RO.mono r1 s2.ex s2.eg) r2 e3 fun v H' G' s3 r3 => p v H' G' ((s1.trans s2).trans s3) (r3.up (s1.ex.trans s2.ex))
theorem je_op {op : Operator} {r : R2} {o : D → D → Option D} (hr : OpR X (binaryOp op) r) (ho : OpS K M m r o) (ha : JE K X M E .op a ta fa) (hb : JE K X M E .op b tb fb) : JE K X M E m (.BinOp a op b pos) (tOp r ta tb) (f2 o fa fb) :=
  ⟨pe_op hr ha.pe hb.pe, eo_op2 ho ha.eo hb.eo⟩
theorem je_cmpR {op : CmpOp} {r : R2} {o : D → D → Option D} (hr : OpR X (compareOp op) r) (ho : OpS K M m r o) (ha : JE K X M E .op a ta fa) (hb : JE K X M E .op b tb fb) (hm : behindInMarks op b = false) : JE K X M E m (.Compare a [op] [b] pos) (tOp r ta tb) (f2 o fa fb) :=
  ⟨pe_cmpR hr ha.pe hb.pe hm, eo_op2 ho ha.eo hb.eo⟩
theorem je_ixR {r : R2} {o : D → D → Option D} (hr : IxR X r) (ho : OpS K M m r o) (ha : JE K X M E .op a ta fa) (hb : JE K X M E .op b tb fb) (hs : PlainIx b) : JE K X M E m (.Subscript a b pos) (tOp r ta tb) (f2 o fa fb) :=
  ⟨pe_ix hr ha.pe hb.pe hs, eo_op2 ho ha.eo hb.eo⟩

/-! ints -/
def oI (g : Int → Int → D) : D → D → Option D
  | .int i, .int j => some (g i j)
  | _, _ => none
def oIc (C : Int → Int → Bool) (g : Int → Int → D) : D → D → Option D
  | .int i, .int j => if C i j = true then some (g i j) else none
  | _, _ => none
theorem ops_I0 {K : PySem.W.Frag} {gV : Int → Int → V} {g : Int → Int → D} (h : ∀ i j G, R K M G (gV i j) (g i j)) : OpS K M .cl (rI0 gV) (oI g) := by
  intro H G x y dx dy dz Q e rx ry ho q
  cases dx with
  | int i =>
    cases dy with
    | int j =>
      cases ho
      cases (show R K M G x (.int i) from rx)
      cases (show R K M G y (.int j) from ry)
      exact ⟨i, j, rfl, rfl, q _ H G (Stp.refl e) (h i j G)⟩
    | _ => cases ho
  | _ => cases ho
theorem ops_I {K : PySem.W.Frag} {C : Int → Int → Prop} {c : Int → Int → Bool} {gV : Int → Int → V} {g : Int → Int → D} (hc : ∀ i j, c i j = true → C i j) (h : ∀ i j G, R K M G (gV i j) (g i j)) : OpS K M .cl (rI C gV) (oIc c g) := by
  intro H G x y dx dy dz Q e rx ry ho q
  cases dx with
  | int i =>
    cases dy with
    | int j =>
      unfold oIc at ho
      dsimp only at ho
      split at ho
      · rename_i hcc
        cases ho
        cases (show R K M G x (.int i) from rx)
        cases (show R K M G y (.int j) from ry)
        exact ⟨i, j, rfl, rfl, hc i j hcc, q _ H G (Stp.refl e) (h i j G)⟩
      · cases ho
    | _ => cases ho
  | _ => cases ho
def oSub : D → D → Option D := oI fun i j => .int (i - j)
def cMul (i j : Int) : Bool := (decide (-(2 ^ 64) < i) && decide (i < 2 ^ 64)) || (decide (-(2 ^ 64) < j) && decide (j < 2 ^ 64))
def oMul : D → D → Option D := oIc cMul fun i j => .int (i * j)
def cDiv (_ j : Int) : Bool := decide (0 < j) && decide (j < 1073741824)
def oDiv : D → D → Option D := oIc cDiv fun i j => .int (i / j)
def cMod (_ j : Int) : Bool := decide (0 < j)
def oMod : D → D → Option D := oIc cMod fun i j => .int (i % j)
def oLt : D → D → Option D := oI fun i j => .bool (decide (i < j))
def oLe : D → D → Option D := oI fun i j => .bool (decide (i ≤ j))
def oGt : D → D → Option D := oI fun i j => .bool (decide (j < i))
def oGe : D → D → Option D := oI fun i j => .bool (decide (j ≤ i))
theorem je_sub (ha : JE K X M E .op a ta fa) (hb : JE K X M E .op b tb fb) : JE K X M E .cl (.BinOp a .Sub b pos) (tOp (rI0 fun i j => .int (i - j)) ta tb) (f2 oSub fa fb) := je_op op_sub (ops_I0 fun _ _ _ => .int _) ha hb
theorem je_mul (ha : JE K X M E .op a ta fa) (hb : JE K X M E .op b tb fb) : JE K X M E .cl (.BinOp a .Mult b pos) (tOp (rI CMul fun i j => .int (i * j)) ta tb) (f2 oMul fa fb) := je_op op_mul (ops_I (fun i j h => by
  unfold cMul at h
  simp only [Bool.or_eq_true, Bool.and_eq_true, decide_eq_true_eq] at h
  exact h) fun _ _ _ => .int _) ha hb
theorem je_div (ha : JE K X M E .op a ta fa) (hb : JE K X M E .op b tb fb) : JE K X M E .cl (.BinOp a .FloorDiv b pos) (tOp (rI CDiv fun i j => .int (i / j)) ta tb) (f2 oDiv fa fb) := je_op op_fdiv (ops_I (fun i j h => by
  unfold cDiv at h
  simp only [Bool.and_eq_true, decide_eq_true_eq] at h
  exact h) fun _ _ _ => .int _) ha hb
theorem je_mod (ha : JE K X M E .op a ta fa) (hb : JE K X M E .op b tb fb) : JE K X M E .cl (.BinOp a .Mod b pos) (tOp (rI (fun _ j => 0 < j) fun i j => .int (i % j)) ta tb) (f2 oMod fa fb) := je_op op_mod (ops_I (fun i j h => by
  unfold cMod at h
  simpa using h) fun _ _ _ => .int _) ha hb
theorem je_lt (ha : JE K X M E .op a ta fa) (hb : JE K X M E .op b tb fb) : JE K X M E .cl (.Compare a [.Lt] [b] pos) (tOp (rI0 fun i j => .bl (decide (i < j))) ta tb) (f2 oLt fa fb) := je_cmpR op_lt (ops_I0 fun _ _ _ => .bl _) ha hb (nomark _)
theorem je_le (ha : JE K X M E .op a ta fa) (hb : JE K X M E .op b tb fb) : JE K X M E .cl (.Compare a [.LtE] [b] pos) (tOp (rI0 fun i j => .bl (decide (i ≤ j))) ta tb) (f2 oLe fa fb) := je_cmpR op_le (ops_I0 fun _ _ _ => .bl _) ha hb (nomark _)
theorem je_gt (ha : JE K X M E .op a ta fa) (hb : JE K X M E .op b tb fb) : JE K X M E .cl (.Compare a [.Gt] [b] pos) (tOp (rI0 fun i j => .bl (decide (j < i))) ta tb) (f2 oGt fa fb) := je_cmpR op_gt (ops_I0 fun _ _ _ => .bl _) ha hb (nomark _)
theorem je_ge (ha : JE K X M E .op a ta fa) (hb : JE K X M E .op b tb fb) : JE K X M E .cl (.Compare a [.GtE] [b] pos) (tOp (rI0 fun i j => .bl (decide (j ≤ i))) ta tb) (f2 oGe fa fb) := je_cmpR op_ge (ops_I0 fun _ _ _ => .bl _) ha hb (nomark _)

/-! a + b -/
def rCatL (K : PySem.W.Frag) : R2 := fun x y H Q => ∃ l b xs zs, x = .ref l ∧ y = .ref b ∧ SqL K H l xs ∧ SqL K H b zs ∧ xs.length + zs.length ≤ sizeLine ∧ ∀ p, H p = none → Q (.ref p) (upd H p (.lst (xs ++ zs)))
theorem op_catL : OpR X (binaryOp .Add) (rCatL X.K) := by
  intro pins s σ H x y v u Q I rx ry h
  obtain ⟨l, b, xs, zs, rfl, rfl, hH, hB, hz, q⟩ := h
  cases rx
  cases ry
  obtain ⟨its, r, pl, _⟩ := I.list hH
  obtain ⟨its2, r2, pl2, _⟩ := I.list hB
  have l1 := r.length
  have l2 := r2.length
  obtain ⟨⟨cls, dd, data, sl⟩, ho, hc, n, hd⟩ := id pl.isList
  obtain ⟨⟨cls2, dd2, data2, sl2⟩, ho2, hc2, n2, hd2⟩ := id pl2.isList
  simp only at hc hd hc2 hd2
  subst hc hd hc2 hd2
  refine concat_meets ⟨_, ho, rfl⟩ ⟨_, ho2, rfl⟩ noFill_list_add seq_list_add PySem.F.slot_list_add PySem.F.entry_list_add (PySem.F.args_list_add_2 _ _) (list_addW l b its.toArray its2.toArray n n2 dd dd2 sl sl2 (by simp only [List.size_toArray]; omega)) ⟨ho, ho2, ?_⟩
  have ea : its.toArray ++ its2.toArray = (its ++ its2).toArray := by simp
  rw [ea]
  exact ⟨.ref _, _, I.lnew (t' := s.toks) (r.append r2) (by rw [List.length_append]; omega), rfl, q _ I.fresh⟩
def rAddI : R2 := rI0 fun i j => .int (i + j)
def rAddSt : R2 := fun x y H Q => ∃ i j, x = .str i ∧ y = .str j ∧ i.length + j.length ≤ sizeLine ∧ Q (.str (i ++ j)) H
def rAddAll (K : PySem.W.Frag) : R2 := fun x y H Q => ((rAddI x y H Q ∨ rAddSt x y H Q) ∨ rCatL K x y H Q) ∨ rCatT K x y H Q
theorem op_addAll : OpR X (binaryOp .Add) (rAddAll X.K) := OpR.or (OpR.or (OpR.or op_add op_add_str) op_catL) op_catT
def oAdd : D → D → Option D
  | .int i, .int j => some (.int (i + j))
  | .str i, .str j => if i.length + j.length ≤ big then some (.str (i ++ j)) else none
  | .list x, .list y => if x.length + y.length ≤ big then some (.list (x ++ y)) else none
  | .tuple x, .tuple y => if x.length + y.length ≤ big ∧ x ≠ [] ∧ y ≠ [] then some (.tuple (x ++ y)) else none
  | _, _ => none
theorem ops_add {K : PySem.W.Frag} : OpS K M .fr (rAddAll K) oAdd := by
  intro H G x y dx dy dz Q e rx ry ho q
  unfold oAdd at ho
  split at ho
  · rename_i i j
    cases ho
    cases (show R K M G x (.int i) from rx)
    cases (show R K M G y (.int j) from ry)
    exact .inl (.inl (.inl ⟨i, j, rfl, rfl, q _ H G (Stp.refl e) (R.int _)⟩))
  · rename_i i j
    split at ho
    · rename_i hz
      cases ho
      cases (show R K M G x (.str i) from rx)
      cases (show R K M G y (.str j) from ry)
      exact .inl (.inl (.inr ⟨i, j, rfl, rfl, big_line hz, q _ H G (Stp.refl e) (R.str _)⟩))
    · cases ho
  · rename_i xs ys
    split at ho
    · rename_i hz
      cases ho
      obtain ⟨l, us, e1, h1, r1⟩ := rx
      obtain ⟨l', us', e2, h2, r2⟩ := ry
      subst e1; subst e2
      have n1 := r1.len
      have n2 := r2.len
      refine .inl (.inr ⟨l, l', us, us', rfl, rfl, h1, h2, by rw [n1, n2]; exact big_line hz, fun p hp => ?_⟩)
      exact q _ _ G (Stp.newO e hp) ⟨p, us ++ us', rfl, hp, e.free hp, upd_same, r1.app r2⟩
    · cases ho
  · rename_i xs ys
    split at ho
    · rename_i hz
      cases ho
      cases (show R K M G x (.tuple xs) from rx) with
      | tup h1 r1 =>
        rename_i l us
        cases (show R K M G y (.tuple ys) from ry) with
        | tup h2 r2 =>
          rename_i l' us'
          have n1 := r1.len
          have n2 := r2.len
          refine .inr ⟨l, l', us, us', rfl, rfl, same_T e h1, same_T e h2, fun z => ?_, by rw [n1, n2]; exact big_line hz.1, fun z => ?_, fun z p hp => ?_⟩
          · subst z; cases r1; exact hz.2.1 rfl
          · subst z; cases r2; exact (hz.2.2 rfl).elim
          · have s := Stp.new (o := .tup (us ++ us')) e hp
            exact q _ _ _ s (R.tup (.of upd_same) ((r1.app r2).mono s.eg))
    · cases ho
  · cases ho
theorem je_add (C : CxF K X E k) (ha : JE K X M E .op a ta fa) (hb : JE K X M E .op b tb fb) : JE K X M E .fr (.BinOp a .Add b pos) (tOp (rAddAll K) ta tb) (f2 oAdd fa fb) := by
  have hK := C.hK
  subst hK
  exact je_op op_addAll ops_add ha hb
/-! == and != of data -/
def scalD : D → D → Bool
  | .none, .none => true | .none, .int _ => true | .int _, .none => true | .none, .bool _ => true | .bool _, .none => true | .none, .str _ => true | .str _, .none => true
  | .int _, .int _ => true | .bool _, .bool _ => true | .str _, .str _ => true
  | .int _, .str _ => true | .str _, .int _ => true | .bool _, .str _ => true | .str _, .bool _ => true
  | _, _ => false
def oEq (x y : D) : Option D := if scalD x y = true ∨ (SeqAt.shaped x = true ∧ SeqAt.shaped y = true) then some (.bool (PyData.eqv x y)) else none
def oNe (x y : D) : Option D := if scalD x y = true ∨ (SeqAt.shaped x = true ∧ SeqAt.shaped y = true) then some (.bool (!PyData.eqv x y)) else none
theorem RO.dp {K : PySem.W.Frag} {H G : Hp} {v : V} {d : D} (r : RO K M H G v d) (e : Same G H) (c : SeqAt.shaped d = true) : Dp K H v d := R.dp (r.r e) (SeqAt.canLay_of_shaped c)
theorem scal_of {K : PySem.W.Frag} {H G : Hp} {x y : V} {dx dy : D} (rx : RO K M H G x dx) (ry : RO K M H G y dy) (h : scalD dx dy = true) : scal x y = true ∧ decide (x = y) = PyData.eqv dx dy := by
  unfold scalD at h
  split at h
  all_goals first
    | cases h; done
    | skip
  all_goals
    first
      | (rename_i i j
         first
           | (cases (show R K M G x (.int i) from rx))
           | (cases (show R K M G x (.bool i) from rx))
           | (cases (show R K M G x (.str i) from rx))
         first
           | (cases (show R K M G y (.int j) from ry))
           | (cases (show R K M G y (.bool j) from ry))
           | (cases (show R K M G y (.str j) from ry))
         refine ⟨rfl, ?_⟩
         simp only [PyData.eqv]
         first
           | exact dec_int
           | exact dec_bl
           | exact dec_str
           | simp)
      | (rename_i i
         first
           | (cases (show R K M G x .none from rx))
           | (cases (show R K M G x (.int i) from rx))
           | (cases (show R K M G x (.bool i) from rx))
           | (cases (show R K M G x (.str i) from rx))
         first
           | (cases (show R K M G y .none from ry))
           | (cases (show R K M G y (.int i) from ry))
           | (cases (show R K M G y (.bool i) from ry))
           | (cases (show R K M G y (.str i) from ry))
         refine ⟨rfl, ?_⟩
         simp [PyData.eqv])
      | (cases (show R K M G x .none from rx)
         cases (show R K M G y .none from ry)
         refine ⟨rfl, ?_⟩
         simp [PyData.eqv])
def rEqAll (K : PySem.W.Frag) : R2 := fun x y H Q => rEq x y H Q ∨ rEqD K x y H Q
def rNeAll (K : PySem.W.Frag) : R2 := fun x y H Q => rNe x y H Q ∨ rNeD K x y H Q
theorem ops_eq {K : PySem.W.Frag} : OpS K M .cl (rEqAll K) oEq := by
  intro H G x y dx dy dz Q e rx ry ho q
  unfold oEq at ho
  split at ho
  · rename_i hc
    cases ho
    have q' := q _ H G (Stp.refl e) (R.bl (PyData.eqv dx dy))
    rcases hc with hc | ⟨h1, h2⟩
    · obtain ⟨s, d⟩ := scal_of rx ry hc
      exact .inl ⟨s, by rw [d]; exact q'⟩
    · exact .inr ⟨dx, dy, rx.dp e h1, ry.dp e h2, h1, h2, q'⟩
  · cases ho
theorem ops_ne {K : PySem.W.Frag} : OpS K M .cl (rNeAll K) oNe := by
  intro H G x y dx dy dz Q e rx ry ho q
  unfold oNe at ho
  split at ho
  · rename_i hc
    cases ho
    have q' := q _ H G (Stp.refl e) (R.bl (!PyData.eqv dx dy))
    rcases hc with hc | ⟨h1, h2⟩
    · obtain ⟨s, d⟩ := scal_of rx ry hc
      exact .inl ⟨s, by rw [d]; exact q'⟩
    · exact .inr ⟨dx, dy, rx.dp e h1, ry.dp e h2, h1, h2, q'⟩
  · cases ho
theorem je_eq (C : CxF K X E k) (ha : JE K X M E .op a ta fa) (hb : JE K X M E .op b tb fb) : JE K X M E .cl (.Compare a [.Eq] [b] pos) (tOp (rEqAll K) ta tb) (f2 oEq fa fb) := by
  have hK := C.hK
  subst hK
  exact je_cmpR (OpR.or op_eq (op_eqD C.room.units)) ops_eq ha hb (nomark _)
theorem je_ne (C : CxF K X E k) (ha : JE K X M E .op a ta fa) (hb : JE K X M E .op b tb fb) : JE K X M E .cl (.Compare a [.NotEq] [b] pos) (tOp (rNeAll K) ta tb) (f2 oNe fa fb) := by
  have hK := C.hK
  subst hK
  exact je_cmpR (OpR.or op_ne (op_neD C.room.units)) ops_ne ha hb (nomark _)
end
end Py


/-! PyC: in, index, slices, displays, arguments, calls, tests -/
namespace Py
open PySem PySem.Spec PyProof.Rows L2

section
variable {K : PySem.W.Frag} {X : Cx} {M : Pm} {E : XK} {k : Nat} {m : Md} {a b e c : Expr} {ta tb te tc : TE} {fa fb fe fc : Fe} {pos : Pos}

theorem R.tupI {K : PySem.W.Frag} {G : Hp} {v : V} {ds : List D} (r : R K M G v (.tuple ds)) : ∃ p us, v = .ref p ∧ SqT K G p us ∧ RA K M G us ds := by
  cases r with
  | tup h r => exact ⟨_, _, rfl, h, r⟩
/-! ### in, not in -/
def flatD : D → Bool
  | .none => true | .bool _ => true | .int _ => true | .str _ => true
  | _ => false
theorem flat_of {K : PySem.W.Frag} {G : Hp} {v : V} {d : D} (r : R K M G v d) (h : flatD d = true) : flatV v = true ∧ nolist d = true := by
  cases r <;> first | exact ⟨rfl, rfl⟩ | cases h
theorem eqV_of {K : PySem.W.Frag} {G : Hp} {v w : V} {d e : D} (r : R K M G v d) (s : R K M G w e) (h : flatD d = true) (h' : flatD e = true) : eqV v w = PyData.eqv d e := by
  cases r <;> cases s <;> first | (simp only [eqV, PyData.eqv]; done) | cases h; done | cases h'; done
theorem flats_of {K : PySem.W.Frag} {G : Hp} : ∀ {vs : List V} {ds : List D}, RA K M G vs ds → ds.all flatD = true → vs.all flatV = true
  | _, _, .nil, _ => rfl
  | _, _, .cons r t, h => by
    rw [List.all_cons, Bool.and_eq_true] at h
    rw [List.all_cons, (flat_of r h.1).1, flats_of t h.2]
    rfl
theorem inV_of {K : PySem.W.Frag} {G : Hp} {x : V} {dx : D} (rx : R K M G x dx) (hx : flatD dx = true) : ∀ {vs : List V} {ds : List D}, RA K M G vs ds → ds.all flatD = true → inV x vs = ds.any fun z => PyData.eqv z dx
  | _, _, .nil, _ => rfl
  | _, _, .cons (v := v) (vs := vs) (d := d) (ds := ds) r t, h => by
    rw [List.all_cons, Bool.and_eq_true] at h
    have ih := inV_of rx hx t h.2
    show (eqV v x || inV x vs) = (PyData.eqv d dx || ds.any fun z => PyData.eqv z dx)
    rw [eqV_of r rx h.1 hx, ih]
def oIn (neg : Bool) (x : D) : D → Option D
  | .list ds => if SeqAt.shaped x = true ∧ SeqAt.shaped (.list ds) = true then some (.bool (if neg = true then !(ds.any fun z => PyData.eqv z x) else ds.any fun z => PyData.eqv z x)) else none
  | .tuple ds => if flatD x = true ∧ ds.all flatD = true then some (.bool (if neg = true then !(ds.any fun z => PyData.eqv z x) else ds.any fun z => PyData.eqv z x)) else none
  | .str z => match x with
    | .str y => if y.cps.size = 1 then some (.bool (if neg = true then !(decide (y.cps.getD 0 0 ∈ z.cps.toList)) else decide (y.cps.getD 0 0 ∈ z.cps.toList))) else none
    | _ => none
  | _ => none
def rInS1 : R2 := fun x y H Q => ∃ (c : Nat) (z : Str), x = .str ⟨#[c]⟩ ∧ y = .str z ∧ Q (.bl (decide (c ∈ z.cps.toList))) H
def rNiS1 : R2 := fun x y H Q => ∃ (c : Nat) (z : Str), x = .str ⟨#[c]⟩ ∧ y = .str z ∧ Q (.bl (!decide (c ∈ z.cps.toList))) H
def rInAll (K : PySem.W.Frag) : R2 := fun x y H Q => (rIn K false x y H Q ∨ rInD K x y H Q) ∨ rInS1 x y H Q
def rNiAll (K : PySem.W.Frag) : R2 := fun x y H Q => (rIn K true x y H Q ∨ rNotInD K x y H Q) ∨ rNiS1 x y H Q
theorem one_sign {y : Str} (h : y.cps.size = 1) : y = ⟨#[y.cps.getD 0 0]⟩ := by
  obtain ⟨cps⟩ := y
  congr 1
  apply Array.ext
  · simpa using h
  · intro i h1 h2
    have e : i = 0 := by simp at h2; exact h2
    subst e
    simp [Array.getD, h1]
theorem ops_in {K : PySem.W.Frag} : OpS K M .cl (rInAll K) (oIn false) := by
  intro H G x y dx dy dz Q e rx ry ho q
  unfold oIn at ho
  split at ho
  · rename_i ds
    split at ho
    · rename_i hc
      cases ho
      exact .inl (.inr ⟨dx, ds, rx.dp e hc.1, RO.dp ry e hc.2, hc.1, hc.2, q _ H G (Stp.refl e) (R.bl _)⟩)
    · cases ho
  · rename_i ds
    split at ho
    · rename_i hc
      cases ho
      cases (show R K M G y (.tuple ds) from ry) with
      | tup h r =>
        rename_i p us
        have nl : nolist dx = true := by
          have := hc.1
          cases dx <;> first | rfl | cases this
        have rx' := rx.nolist nl
        have q' := q _ H G (Stp.refl e) (R.bl (ds.any fun z => PyData.eqv z dx))
        refine .inl (.inl ⟨p, us, rfl, .inr (same_T e h), (flat_of rx' hc.1).1, flats_of r hc.2, ?_⟩)
        show Q (.bl (inV x us)) H
        rw [inV_of rx' hc.1 r hc.2]
        exact q'
    · cases ho
  · rename_i z
    split at ho
    · rename_i w
      split at ho
      · rename_i hw
        cases ho
        cases (show R K M G y (.str z) from ry)
        cases (show R K M G x (.str w) from rx)
        exact .inr ⟨_, z, congrArg V.str (one_sign hw), rfl, q _ H G (Stp.refl e) (R.bl _)⟩
      · cases ho
    · cases ho
  · cases ho
theorem ops_ni {K : PySem.W.Frag} : OpS K M .cl (rNiAll K) (oIn true) := by
  intro H G x y dx dy dz Q e rx ry ho q
  unfold oIn at ho
  split at ho
  · rename_i ds
    split at ho
    · rename_i hc
      cases ho
      exact .inl (.inr ⟨dx, ds, rx.dp e hc.1, RO.dp ry e hc.2, hc.1, hc.2, q _ H G (Stp.refl e) (R.bl _)⟩)
    · cases ho
  · rename_i ds
    split at ho
    · rename_i hc
      cases ho
      cases (show R K M G y (.tuple ds) from ry) with
      | tup h r =>
        rename_i p us
        have nl : nolist dx = true := by
          have := hc.1
          cases dx <;> first | rfl | cases this
        have rx' := rx.nolist nl
        have q' := q _ H G (Stp.refl e) (R.bl (!ds.any fun z => PyData.eqv z dx))
        refine .inl (.inl ⟨p, us, rfl, .inr (same_T e h), (flat_of rx' hc.1).1, flats_of r hc.2, ?_⟩)
        show Q (.bl (!inV x us)) H
        rw [inV_of rx' hc.1 r hc.2]
        exact q'
    · cases ho
  · rename_i z
    split at ho
    · rename_i w
      split at ho
      · rename_i hw
        cases ho
        cases (show R K M G y (.str z) from ry)
        cases (show R K M G x (.str w) from rx)
        exact .inr ⟨_, z, congrArg V.str (one_sign hw), rfl, q _ H G (Stp.refl e) (R.bl _)⟩
      · cases ho
    · cases ho
  · cases ho
theorem je_in (C : CxF K X E k) (ha : JE K X M E .op a ta fa) (hb : JE K X M E .op b tb fb) (hm : behindInMarks .In b = false := by rfl) : JE K X M E .cl (.Compare a [.In] [b] pos) (tOp (rInAll K) ta tb) (f2 (oIn false) fa fb) := by
  have hK := C.hK
  subst hK
  exact je_cmpR (OpR.or (OpR.or op_in_seq (op_inD (by have := C.room.un; omega))) op_in_sign) ops_in ha hb hm
theorem je_ni (C : CxF K X E k) (ha : JE K X M E .op a ta fa) (hb : JE K X M E .op b tb fb) (hm : behindInMarks .NotIn b = false := by rfl) : JE K X M E .cl (.Compare a [.NotIn] [b] pos) (tOp (rNiAll K) ta tb) (f2 (oIn true) fa fb) := by
  have hK := C.hK
  subst hK
  exact je_cmpR (OpR.or (OpR.or op_notIn_seq (op_notInD (by have := C.room.un; omega))) op_notIn_sign) ops_ni ha hb hm
/-! ### an item -/
def oIx : D → D → Option D
  | .list ds, .int i => atI ds i
  | .tuple ds, .int i => atI ds i
  | .str z, .int i => if z.length ≤ big then (match atI z.cps.toList i with | some c => some (.str ⟨#[c]⟩) | none => none) else none
  | _, _ => none
theorem RA.at {K : PySem.W.Frag} {G : Hp} {vs : List V} {ds : List D} {i : Int} {d : D} (r : RA K M G vs ds) (h : atI ds i = some d) : ∃ v, atI vs i = some v ∧ R K M G v d := by
  unfold atI at h ⊢
  rw [r.len]
  cases e : ixN ds.length i with
  | none => rw [e] at h; cases h
  | some j =>
    rw [e] at h
    exact r.get (show ds[j]? = some d from h)
theorem ops_ix {K : PySem.W.Frag} : OpS K M .cl (rIx K) oIx := by
  intro H G x y dx dy dz Q e rx ry ho q
  unfold oIx at ho
  split at ho
  · rename_i ds i
    obtain ⟨p, us, e1, h, r⟩ := rx
    subst e1
    cases (show R K M G y (.int i) from ry)
    obtain ⟨v, h1, h2⟩ := r.at ho
    exact .inl ⟨p, us, i, v, rfl, rfl, h, h1, q v H G (Stp.refl e) h2⟩
  · rename_i ds i
    cases (show R K M G x (.tuple ds) from rx) with
    | tup h r =>
      rename_i p us
      cases (show R K M G y (.int i) from ry)
      obtain ⟨v, h1, h2⟩ := r.at ho
      exact .inr (.inl ⟨p, us, i, v, rfl, rfl, same_T e h, h1, q v H G (Stp.refl e) h2⟩)
  · rename_i z i
    split at ho
    · rename_i hz
      cases hc : atI z.cps.toList i with
      | none => rw [hc] at ho; cases ho
      | some c =>
        rw [hc] at ho
        cases ho
        cases (show R K M G x (.str z) from rx)
        cases (show R K M G y (.int i) from ry)
        exact .inr (.inr ⟨z, i, c, rfl, rfl, big_line hz, hc, q _ H G (Stp.refl e) (R.str _)⟩)
    · cases ho
  · cases ho
theorem je_ix (C : CxF K X E k) (ha : JE K X M E .op a ta fa) (hb : JE K X M E .op b tb fb) (hs : PlainIx b := by exact fun _ _ => rfl) : JE K X M E .cl (.Subscript a b pos) (tOp (rIx K) ta tb) (f2 oIx fa fb) := by
  have hK := C.hK
  subst hK
  exact je_ixR ix_seq ops_ix ha hb hs
/-! ### slices -/
inductive Ri | ok (o : Option Int) | er (c : Str)
abbrev Fi := Ge → Option Ri
def PostI (M : Pm) (E : XK) (H G : Hp) (Q : Option Int → Hp → Prop) : Ri → Prop
  | .ok o => ∀ H' G', Stp H G H' G' → Q o H'
  | .er c => ∀ H' G', Stp H G H' G' → E (M.exc c) none H'
def IO (K : PySem.W.Frag) (M : Pm) (E : XK) (t : L2.TO) (f : Fi) : Prop := ∀ (H0 G0 : Hp) (γ : Ge) (σ : L2.St) (H G : Hp) (Q : Option Int → Hp → Prop) (r : Ri), EnvR K M H0 G0 γ σ H G → f γ = some r → PostI M E H G Q r → t σ H Q
structure JI' (K : PySem.W.Frag) (X : Cx) (M : Pm) (E : XK) (e : Option Expr) (t : L2.TO) (f : Fi) : Prop where
  po : PO X e t
  io : IO K M E t f
def fiNo : Fi := fun _ => some (.ok none)
def fiSm (a : Fe) : Fi := fun γ => match a γ with
  | some (.ok (.int i)) => some (.ok (some i))
  | some (.er c) => some (.er c)
  | _ => none
theorem ji_no : JI' K X M E none tNoPart fiNo := ⟨po_none, fun H0 G0 γ σ H G Q r ev hf p => by cases hf; exact p H G (Stp.refl ev.sub)⟩
theorem ji_sm (ha : JE K X M E .op a ta fa) : JI' K X M E (some a) (tPart ta) (fiSm fa) := ⟨po_some ha.pe, fun H0 G0 γ σ H G Q r ev hf p => by
  unfold fiSm at hf
  split at hf
  · rename_i i e1
    cases hf
    refine ha.eo H0 G0 γ σ H G _ _ ev e1 fun v H1 G1 s r => ?_
    cases (show R K M G1 v (.int i) from r)
    exact ⟨i, rfl, p H1 G1 s⟩
  · rename_i c e1
    cases hf
    exact ha.eo H0 G0 γ σ H G _ _ ev e1 p
  · cases hf⟩
def cutD (xs : List D) (lo hi : Option Int) : List D := (xs.drop (HT.sIx xs.length 0 lo)).take (HT.sIx xs.length xs.length hi - HT.sIx xs.length 0 lo)
def oSl (lo hi : Option Int) : D → Option D
  | .list ds => some (.list (cutD ds lo hi))
  | .tuple ds => if HT.sIx ds.length 0 lo = 0 ∧ HT.sIx ds.length ds.length hi = ds.length then none else some (.tuple (cutD ds lo hi))
  | .str z => if z.length ≤ big then some (.str (cutS z lo hi)) else none
  | _ => none
def rSlAll (K : PySem.W.Frag) : V → Option Int → Option Int → Hp → VK → Prop := fun x lo hi H Q => (rSlL K x lo hi H Q ∨ rSlT K x lo hi H Q) ∨ rSlS x lo hi H Q
theorem sl_all : L2.SlR X (rSlAll X.K) := L2.SlR.or (L2.SlR.or sl_list sl_tup) sl_str
theorem RA.cut {K : PySem.W.Frag} {G : Hp} {vs : List V} {ds : List D} (r : RA K M G vs ds) (lo hi : Option Int) : RA K M G (cutV vs lo hi) (cutD ds lo hi) := by
  unfold cutV cutD
  rw [r.len]
  exact (r.drop _).take _
theorem sl_snd {K : PySem.W.Frag} {H G : Hp} {x : V} {dx dz : D} {lo hi : Option Int} {Q : VK} (e : Same G H) (rx : RO K M H G x dx) (ho : oSl lo hi dx = some dz) (q : ∀ v H' G', Stp H G H' G' → Res K M .fr H H' G' v dz → Q v H') : rSlAll K x lo hi H Q := by
  unfold oSl at ho
  split at ho
  · rename_i ds
    cases ho
    obtain ⟨p, us, e1, h, r⟩ := rx
    subst e1
    exact .inl (.inl ⟨p, us, rfl, h, fun p hp => q _ _ G (Stp.newO e hp) ⟨p, _, rfl, hp, e.free hp, upd_same, r.cut lo hi⟩⟩)
  · rename_i ds
    split at ho
    · cases ho
    · rename_i hc
      cases ho
      cases (show R K M G x (.tuple ds) from rx) with
      | tup h r =>
        rename_i p us
        refine .inl (.inr ⟨p, us, rfl, same_T e h, by rw [r.len]; exact hc, fun p hp => ?_⟩)
        have s := Stp.new (o := .tup (cutV us lo hi)) e hp
        exact q _ _ _ s (R.tup (.of upd_same) ((r.cut lo hi).mono s.eg))
  · rename_i z
    split at ho
    · rename_i hz
      cases ho
      cases (show R K M G x (.str z) from rx)
      exact .inr ⟨z, rfl, big_line hz, q _ H G (Stp.refl e) (R.str _)⟩
    · cases ho
  · cases ho
def fSl (a : Fe) (lo hi : Fi) : Fe := fun γ => bR (a γ) fun x => match lo γ with
  | some (.ok l) => (match hi γ with
    | some (.ok u) => oR (oSl l u x)
    | some (.er c) => some (.er c)
    | none => none)
  | some (.er c) => some (.er c)
  | none => none
theorem je_slice {lo hi : Option Expr} {tl th : L2.TO} {fl fh : Fi} {p2 : Pos} (C : CxF K X E k) (ha : JE K X M E .op a ta fa) (hl : JI' K X M E lo tl fl) (hh : JI' K X M E hi th fh) : JE K X M E .fr (.Subscript a (.Slice lo hi none p2) pos) (tSl (rSlAll K) ta tl th) (fSl fa fl fh) := by
  have hK := C.hK
  subst hK
  refine ⟨pe_slice sl_all ha.pe hl.po hh.po, fun H0 G0 γ σ H G Q r ev hf p => ?_⟩
  unfold fSl at hf
  cases e1 : fa γ with
  | none => rw [e1] at hf; cases hf
  | some q1 =>
    rw [e1] at hf
    cases q1 with
    | er c =>
      cases hf
      exact ha.eo H0 G0 γ σ H G _ _ ev e1 p
    | ok dx =>
      refine ha.eo H0 G0 γ σ H G _ _ ev e1 fun x H1 G1 s1 r1 => ?_
      have ev1 := ev.stp s1
      simp only [bR] at hf
      cases e2 : fl γ with
      | none => rw [e2] at hf; cases hf
      | some q2 =>
        rw [e2] at hf
        cases q2 with
        | er c =>
          cases hf
          exact hl.io H0 G0 γ σ H1 G1 _ _ ev1 e2 fun H' G' s' => p H' G' (s1.trans s')
        | ok l =>
          refine hl.io H0 G0 γ σ H1 G1 _ _ ev1 e2 fun H2 G2 s2 => ?_
          have ev2 := ev1.stp s2
          simp only at hf
          cases e3 : fh γ with
          | none => rw [e3] at hf; cases hf
          | some q3 =>
            rw [e3] at hf
            cases q3 with
            | er c =>
              cases hf
              exact hh.io H0 G0 γ σ H2 G2 _ _ ev2 e3 fun H' G' s' => p H' G' ((s1.trans s2).trans s')
            | ok u =>
              refine hh.io H0 G0 γ σ H2 G2 _ _ ev2 e3 fun H3 G3 s3 => ?_
              simp only at hf
              cases e4 : oSl l u dx with
              | none => rw [e4] at hf; cases hf
              | some dz =>
                rw [e4] at hf
                cases hf
                have s23 := s2.trans s3
                exact sl_snd s3.sub (r1.mono s23.ex s23.eg) e4 fun v H' G' s' r' => p v H' G' ((s1.trans s23).trans s') (Res.up (m := .fr) r' (s1.ex.trans s23.ex))
/-- xs[::-1] -/
def oRev : D → Option D
  | .list ds => some (.list ds.reverse)
  | _ => none
theorem je_rev {k1 : Nat} {p1 p2 p3 : Pos} (C : CxF K X E k) (ha : JE K X M E .op a ta fa) : JE K X M E .fr (.Subscript a (.Slice none none (some (.UnaryOp .USub (.Constant (.int 1) k1 p1) p2)) p3) pos) (tRevL K ta) (f1 oRev fa) := by
  have hK := C.hK
  subst hK
  refine ⟨pe_revL ha.pe, fun H0 G0 γ σ H G Q r ev hf p => ?_⟩
  unfold f1 at hf
  cases e1 : fa γ with
  | none => rw [e1] at hf; cases hf
  | some q1 =>
    rw [e1] at hf
    cases q1 with
    | er c =>
      cases hf
      exact ha.eo H0 G0 γ σ H G _ _ ev e1 p
    | ok dx =>
      refine ha.eo H0 G0 γ σ H G _ _ ev e1 fun x H1 G1 s1 r1 => ?_
      cases dx with
      | list ds =>
        cases hf
        obtain ⟨l, us, e2, h, r⟩ := r1
        refine ⟨l, us, e2, h, fun q hq => ?_⟩
        exact p _ _ G1 (s1.trans (Stp.newO s1.sub hq)) ⟨q, _, rfl, s1.ex.free hq, s1.sub.free hq, upd_same, r.rev⟩
      | _ => cases hf

/-! ### arguments, displays -/
theorem ja_nil : JA K X M E [] tNil fNil := ⟨pa_nil, fun H0 G0 γ σ H G Q r ev hf p => by cases hf; exact p [] H G (Stp.refl ev.sub) .nil⟩
theorem jc_nil : JC K X M E [] tNil fNil := ⟨pa_nil, fun H0 G0 γ σ H G Q r ev hf p => by cases hf; exact p [] H G (Stp.refl ev.sub) .nil⟩
theorem ROs.mono {K : PySem.W.Frag} {H H' G G' : Hp} (e : Same H H') (g : Same G G') : ∀ {vs : List V} {ds : List D}, ROs K M H G vs ds → ROs K M H' G' vs ds
  | _, _, .nil => .nil
  | _, _, .cons r t => .cons (RO.mono r e g) (ROs.mono e g t)
theorem ja_cons {es : List Expr} {t : TA} {fr : Fa} (ha : JE K X M E .op a ta fa) (hr : JA K X M E es t fr) (hs : starEach (a :: es) X.env = (false, eval a X.env) :: starEach es X.env := by rfl) : JA K X M E (a :: es) (tCons ta t) (fCons fa fr) := by
  refine ⟨pa_cons ha.pe hr.pa hs, fun H0 G0 γ σ H G Q r ev hf p => ?_⟩
  unfold fCons at hf
  cases e1 : fa γ with
  | none => rw [e1] at hf; cases hf
  | some q1 =>
    rw [e1] at hf
    cases q1 with
    | er c => cases hf; exact ha.eo H0 G0 γ σ H G _ _ ev e1 p
    | ok d =>
      refine ha.eo H0 G0 γ σ H G _ _ ev e1 fun x H1 G1 s1 r1 => ?_
      simp only [bL] at hf
      cases e2 : fr γ with
      | none => rw [e2] at hf; cases hf
      | some q2 =>
        rw [e2] at hf
        cases q2 with
        | er c => cases hf; exact hr.ao H0 G0 γ σ H1 G1 _ _ (ev.stp s1) e2 fun H' G' s' => p H' G' (s1.trans s')
        | ok ds =>
          cases hf
          exact hr.ao H0 G0 γ σ H1 G1 _ _ (ev.stp s1) e2 fun vs H2 G2 s2 r2 => p _ H2 G2 (s1.trans s2) (.cons (r1.mono s2.ex s2.eg) r2)
theorem jc_cons {es : List Expr} {t : TA} {fr : Fa} (ha : JE K X M E .cl a ta fa) (hr : JC K X M E es t fr) (hs : starEach (a :: es) X.env = (false, eval a X.env) :: starEach es X.env := by rfl) : JC K X M E (a :: es) (tCons ta t) (fCons fa fr) := by
  refine ⟨pa_cons ha.pe hr.pa hs, fun H0 G0 γ σ H G Q r ev hf p => ?_⟩
  unfold fCons at hf
  cases e1 : fa γ with
  | none => rw [e1] at hf; cases hf
  | some q1 =>
    rw [e1] at hf
    cases q1 with
    | er c => cases hf; exact ha.eo H0 G0 γ σ H G _ _ ev e1 p
    | ok d =>
      refine ha.eo H0 G0 γ σ H G _ _ ev e1 fun x H1 G1 s1 r1 => ?_
      simp only [bL] at hf
      cases e2 : fr γ with
      | none => rw [e2] at hf; cases hf
      | some q2 =>
        rw [e2] at hf
        cases q2 with
        | er c => cases hf; exact hr.ac H0 G0 γ σ H1 G1 _ _ (ev.stp s1) e2 fun H' G' s' => p H' G' (s1.trans s')
        | ok ds =>
          cases hf
          exact hr.ac H0 G0 γ σ H1 G1 _ _ (ev.stp s1) e2 fun vs H2 G2 s2 r2 => p _ H2 G2 (s1.trans s2) (.cons (R.mono s2.eg r1) r2)
def fTup (a : Fa) : Fe := fun γ => bA (a γ) fun ds => if ds.length ≤ big then some (.ok (.tuple ds)) else none
def fLst (a : Fa) : Fe := fun γ => bA (a γ) fun ds => if ds.length ≤ big then some (.ok (.list ds)) else none
theorem je_tup {es : List Expr} {t : TA} {fr : Fa} {x1 : Nat} (h : JC K X M E es t fr) : JE K X M E .cl (.Tuple es x1 pos) (tTup t) (fTup fr) := by
  refine ⟨pe_tup h.pa, fun H0 G0 γ σ H G Q r ev hf p => ?_⟩
  unfold fTup at hf
  cases e1 : fr γ with
  | none => rw [e1] at hf; cases hf
  | some q1 =>
    rw [e1] at hf
    cases q1 with
    | er c => cases hf; exact h.ac H0 G0 γ σ H G _ _ ev e1 p
    | ok ds =>
      simp only [bA] at hf
      split at hf
      · rename_i hz
        cases hf
        refine h.ac H0 G0 γ σ H G _ _ ev e1 fun vs H1 G1 s1 r1 => ⟨by rw [r1.len]; exact big_line hz, fun q hq => ?_⟩
        have s := Stp.new (o := .tup vs) s1.sub hq
        exact p _ _ _ (s1.trans s) (R.tup (.of upd_same) (r1.mono s.eg))
      · cases hf
theorem je_lst {es : List Expr} {t : TA} {fr : Fa} (h : JC K X M E es t fr) : JE K X M E .fr (.List es pos) (tLst t) (fLst fr) := by
  refine ⟨pe_lst h.pa, fun H0 G0 γ σ H G Q r ev hf p => ?_⟩
  unfold fLst at hf
  cases e1 : fr γ with
  | none => rw [e1] at hf; cases hf
  | some q1 =>
    rw [e1] at hf
    cases q1 with
    | er c => cases hf; exact h.ac H0 G0 γ σ H G _ _ ev e1 p
    | ok ds =>
      simp only [bA] at hf
      split at hf
      · rename_i hz
        cases hf
        refine h.ac H0 G0 γ σ H G _ _ ev e1 fun vs H1 G1 s1 r1 => ⟨by rw [r1.len]; exact big_line hz, fun q hq => ?_⟩
        exact p _ _ _ (s1.trans (Stp.newO s1.sub hq)) ⟨q, vs, rfl, s1.ex.free hq, s1.sub.free hq, upd_same, r1⟩
      · cases hf

/-! ### calls of the text's own defs -/
def spF (K : PySem.W.Frag) (M : Pm) (φ : List D → Option Rs) : Sp := fun vs H Q E => ∃ (G : Hp) (ds : List D) (r : Rs), Same G H ∧ RA K M G vs ds ∧ φ ds = some r ∧ PostE K M E .cl H G Q r ∧ Same M.kp H
def fCall (φ : List D → Option Rs) (a : Fa) : Fe := fun γ => bA (a γ) φ
theorem passesAt_of {E' : XK} (h : Passes (L2.CX X.prog X.w) X E') : ∀ σ, PassesAt (L2.CX X.prog X.w) X σ ((fun _ => E') σ) := fun σ pins H s e s' I c => h pins σ H s e s' I c
theorem je_call {φ : List D → Option Rs} {j : Nat} {f : Addr} {fd : FuncData} {ps : List Str} {x : Str} {p : Pos} {es : List Expr} {t : TA} {fr : Fa} (C : CxF K X E k)
    (F : FnOk X.prog X.w X.K X.mg X.base (L2.CX X.prog X.w) j f fd ps (spF K M φ)) (hj : j ≤ k) (hb : Binds X.K fd ps []) (hm : X.mg x = some (.ref f)) (hk : PySem.W.keepIn X.K (.ref f) = true) (hg : Gl X x) (ha : JC K X M E (a :: es) t fr)
    (hdb : (x == ("__debug__" : Str)) = false := by decide) (he : starEach (a :: es) X.env = (false, eval a X.env) :: starEach es X.env := by rfl) (hpl : (backTo pos (starEach es X.env)).any (·.1) = false := by rfl) :
    JE K X M E .cl (.Call (.Name x p) (a :: es) [] pos) (tCallS (spF K M φ) (fun _ => E) t) (fCall φ fr) := by
  have hK := C.hK
  subst hK
  refine ⟨pe_callS F (C.room.mono hj) hg hm hk hb (passesAt_of C.pas) ha.pa hdb he hpl, fun H0 G0 γ σ H G Q r ev hf p => ?_⟩
  unfold fCall at hf
  cases e1 : fr γ with
  | none => rw [e1] at hf; cases hf
  | some q1 =>
    rw [e1] at hf
    cases q1 with
    | er c => cases hf; exact ha.ac H0 G0 γ σ H G _ _ ev e1 p
    | ok ds =>
      refine ha.ac H0 G0 γ σ H G _ _ ev e1 fun vs H1 G1 s1 r1 => ⟨G1, ds, r, s1.sub, r1, hf, ?_, ev.kp.trans (ev.stp s1).st.ex⟩
      cases r with
      | ok d => exact fun v H' G' s' r' => p v H' G' (s1.trans s') r'
      | er c => exact fun H' G' s' => p H' G' (s1.trans s')
/-- .. its arguments operands (an own list), where a flat datum comes back -/
def fCallO (φ : List D → Option Rs) (a : Fa) : Fe := fun γ => bA (a γ) fun ds => match φ ds with
  | some (.ok d) => if flatD d = true then some (.ok d) else none
  | some (.er c) => some (.er c)
  | none => none
theorem ROs.ra {K : PySem.W.Frag} {H G : Hp} (e : Same G H) : ∀ {vs : List V} {ds : List D}, ROs K M H G vs ds → RA K M H vs ds
  | _, _, .nil => .nil
  | _, _, .cons r t => .cons (RO.r r e) (ROs.ra e t)
theorem flat_any {K : PySem.W.Frag} {G G' : Hp} {v : V} {d : D} (r : R K M G v d) (h : flatD d = true) : R K M G' v d := by
  cases r <;> first | exact .non | exact .bl _ | exact .int _ | exact .str _ | cases h
theorem je_callO {φ : List D → Option Rs} {j : Nat} {f : Addr} {fd : FuncData} {ps : List Str} {x : Str} {p : Pos} {es : List Expr} {t : TA} {fr : Fa} (C : CxF K X E k)
    (F : FnOk X.prog X.w X.K X.mg X.base (L2.CX X.prog X.w) j f fd ps (spF K M φ)) (hj : j ≤ k) (hb : Binds X.K fd ps []) (hm : X.mg x = some (.ref f)) (hk : PySem.W.keepIn X.K (.ref f) = true) (hg : Gl X x) (ha : JA K X M E (a :: es) t fr)
    (hdb : (x == ("__debug__" : Str)) = false := by decide) (he : starEach (a :: es) X.env = (false, eval a X.env) :: starEach es X.env := by rfl) (hpl : (backTo pos (starEach es X.env)).any (·.1) = false := by rfl) :
    JE K X M E .cl (.Call (.Name x p) (a :: es) [] pos) (tCallS (spF K M φ) (fun _ => E) t) (fCallO φ fr) := by
  have hK := C.hK
  subst hK
  refine ⟨pe_callS F (C.room.mono hj) hg hm hk hb (passesAt_of C.pas) ha.pa hdb he hpl, fun H0 G0 γ σ H G Q r ev hf p => ?_⟩
  unfold fCallO at hf
  cases e1 : fr γ with
  | none => rw [e1] at hf; cases hf
  | some q1 =>
    rw [e1] at hf
    cases q1 with
    | er c => cases hf; exact ha.ao H0 G0 γ σ H G _ _ ev e1 p
    | ok ds =>
      refine ha.ao H0 G0 γ σ H G _ _ ev e1 fun vs H1 G1 s1 r1 => ?_
      simp only [bA] at hf
      split at hf
      · rename_i d ed
        split at hf
        · rename_i hfl
          cases hf
          refine ⟨H1, ds, .ok d, Same.refl _, r1.ra s1.sub, ed, fun v H' G' s' r' => ?_, ev.kp.trans (ev.stp s1).st.ex⟩
          exact p v H' G1 (s1.trans ⟨s'.ex, Same.refl _, s1.sub.trans s'.ex, fun _ _ _ n => n⟩) (flat_any r' hfl)
        · cases hf
      · rename_i c ed
        cases hf
        exact ⟨H1, ds, .er c, Same.refl _, r1.ra s1.sub, ed, fun H' G' s' => p H' G1 (s1.trans ⟨s'.ex, Same.refl _, s1.sub.trans s'.ex, fun _ _ _ n => n⟩), ev.kp.trans (ev.stp s1).st.ex⟩
      · cases hf

/-! ### calls of built-ins, by values -/
def CallS (K : PySem.W.Frag) (M : Pm) (m : Md) (r : List V → Hp → VK → Prop) (o : List D → Option D) : Prop :=
  ∀ (H G : Hp) (vs : List V) (ds : List D) (dz : D) (Q : VK), Same G H → ROs K M H G vs ds → o ds = some dz → (∀ v H' G', Stp H G H' G' → Res K M m H H' G' v dz → Q v H') → r vs H Q
def fB (o : List D → Option D) (a : Fa) : Fe := fun γ => bA (a γ) fun ds => oR (o ds)
theorem eo_blt {K : PySem.W.Frag} {r : List V → Hp → VK → Prop} {o : List D → Option D} {t : TA} {fr : Fa} (ho : CallS K M m r o) (ha : AO K M E t fr) : EO K M E m (tCB r t) (fB o fr) := by
  intro H0 G0 γ σ H G Q q ev hf p
  unfold fB at hf
  cases e1 : fr γ with
  | none => rw [e1] at hf; cases hf
  | some q1 =>
    rw [e1] at hf
    cases q1 with
    | er c => cases hf; exact ha H0 G0 γ σ H G _ _ ev e1 p
    | ok ds =>
      refine ha H0 G0 γ σ H G _ _ ev e1 fun vs H1 G1 s1 r1 => ?_
      simp only [bA] at hf
      cases e2 : o ds with
      | none => rw [e2] at hf; cases hf
      | some dz =>
        rw [e2] at hf
        cases hf
        exact ho H1 G1 vs ds dz Q s1.sub r1 e2 fun v H' G' s' r' => p v H' G' (s1.trans s') (r'.up s1.ex)
theorem je_callB {r : List V → Hp → VK → Prop} {o : List D → Option D} {t : TA} {fr : Fa} {es : List Expr} {id : String} {x : Str} {p : Pos} (hc : CallR X (.builtin id) r) (ho : CallS K M m r o) (hm : X.mg x = none) (hv : bootBuiltins x = some (.builtin id)) (hg : Gl X x) (ha : JA K X M E (a :: es) t fr)
    (hn : x ≠ "__name__" := by decide) (hdb : (x == ("__debug__" : Str)) = false := by decide)
    (he : starEach (a :: es) X.env = (false, eval a X.env) :: starEach es X.env := by rfl) (hpl : (backTo pos (starEach es X.env)).any (·.1) = false := by rfl) : JE K X M E m (.Call (.Name x p) (a :: es) [] pos) (tCB r t) (fB o fr) :=
  ⟨pe_callB hc hg hm hv ha.pa hn hdb he hpl, eo_blt ho ha.ao⟩
theorem je_callTy {r : List V → Hp → VK → Prop} {o : List D → Option D} {t : TA} {fr : Fa} {es : List Expr} {T : String} {x : Str} {p : Pos} (hc : CallR X (.type T) r) (ho : CallS K M m r o) (hm : X.mg x = none) (hv : bootBuiltins x = some (.type T)) (hg : Gl X x) (ha : JA K X M E (a :: es) t fr)
    (hn : x ≠ "__name__" := by decide) (hdb : (x == ("__debug__" : Str)) = false := by decide)
    (he : starEach (a :: es) X.env = (false, eval a X.env) :: starEach es X.env := by rfl) (hpl : (backTo pos (starEach es X.env)).any (·.1) = false := by rfl) : JE K X M E m (.Call (.Name x p) (a :: es) [] pos) (tCB r t) (fB o fr) :=
  ⟨pe_callTy hc hg hm hv ha.pa hn hdb he hpl, eo_blt ho ha.ao⟩
/-! len -/
def rLenA (K : PySem.W.Frag) : List V → Hp → VK → Prop := fun xs H Q => ∃ x n, xs = [x] ∧ LenV K x H n ∧ Q (.int n) H
def oLen : List D → Option D
  | [.list ds] => some (.int ds.length)
  | [.tuple ds] => some (.int ds.length)
  | [.str z] => if z.length ≤ big then some (.int z.length) else none
  | _ => none
theorem cs_len {K : PySem.W.Frag} : CallS K M .cl (rLenA K) oLen := by
  intro H G vs ds dz Q e r ho q
  unfold oLen at ho
  split at ho
  · rename_i ds
    cases ho
    cases r with
    | cons r t =>
      cases t
      obtain ⟨p, us, e1, h, r⟩ := r
      subst e1
      exact ⟨_, ds.length, rfl, .inl ⟨us, h, r.len.symm⟩, q _ H G (Stp.refl e) (R.int _)⟩
  · rename_i ds
    cases ho
    cases r with
    | cons r t =>
      cases t
      obtain ⟨p, us, e1, h, r2⟩ := R.tupI (show R K M G _ (.tuple ds) from r)
      subst e1
      exact ⟨_, ds.length, rfl, .inr ⟨us, same_T e h, r2.len.symm⟩, q _ H G (Stp.refl e) (R.int _)⟩
  · rename_i z
    split at ho
    · rename_i hz
      cases ho
      cases r with
      | cons r t =>
        cases t
        cases (show R K M G _ (.str z) from r)
        exact ⟨_, z.length, rfl, ⟨big_line hz, rfl⟩, q _ H G (Stp.refl e) (R.int _)⟩
    · cases ho
  · cases ho
theorem je_len {p : Pos} (C : CxF K X E k) (hm : X.mg "len" = none) (hg : Gl X "len") (ha : JE K X M E .op a ta fa) (hs : starEach [a] X.env = (false, eval a X.env) :: starEach [] X.env := by rfl) : JE K X M E .cl (.Call (.Name "len" p) [a] [] pos) (tCB (rLenA K) (tCons ta tNil)) (fB oLen (fCons fa fNil)) := by
  have hK := C.hK
  subst hK
  exact je_callB call_len cs_len hm PySem.boot_len hg (ja_cons ha ja_nil hs) (by decide) (by decide) hs rfl
end
end Py


/-! PyD: tests, truth values, walks, comprehensions -/
namespace Py
open PySem PySem.Spec PyProof.Rows L2

section
variable {K : PySem.W.Frag} {X : Cx} {M : Pm} {E : XK} {k : Nat} {m : Md} {a b e c : Expr} {ta tb te tc : TE} {fa fb fe fc : Fe} {pos : Pos}

/-! ### tests -/
def fT (f : Fe) : Ft := fun γ => match f γ with
  | some (.ok (.bool b)) => some (.ok b)
  | some (.er c) => some (.er c)
  | _ => none
theorem Res.bool {K : PySem.W.Frag} {H0 H G : Hp} {v : V} {b : Bool} (r : Res K M m H0 H G v (.bool b)) : v = .bl b := by
  cases m <;> exact (by cases (show R K M G v (.bool b) from r); rfl)
theorem to_val {K : PySem.W.Frag} (h : EO K M E m ta fa) : TO' K M E (tTest ta) (fT fa) := by
  intro H0 G0 γ σ H G Q r ev hf p
  unfold fT at hf
  split at hf
  · rename_i b e1
    cases hf
    exact h H0 G0 γ σ H G _ _ ev e1 fun v H' G' s r => ⟨b, r.bool, p H' G' s⟩
  · rename_i c e1
    cases hf
    exact h H0 G0 γ σ H G _ _ ev e1 p
  · cases hf
theorem jt_val (h : JE K X M E m a ta fa) (he : ∀ whole, isTrue a X.env whole = (do let v ← whole; standAt a.pos; holding [v] (truthy v)) := by intro _; rfl) : JT K X M E a (tTest ta) (fT fa) := ⟨pt_val h.pe he, to_val h.eo⟩
theorem jt_cmpR {op : CmpOp} {r : R2} {o : D → D → Option D} (hr : OpR X (compareOp op) r) (ho : OpS K M m r o) (ha : JE K X M E .op a ta fa) (hb : JE K X M E .op b tb fb) (hm : behindInMarks op b = false) : JT K X M E (.Compare a [op] [b] pos) (tTest (tOp r ta tb)) (fT (f2 o fa fb)) :=
  ⟨pt_cmpR hr ha.pe hb.pe hm, to_val (eo_op2 ho ha.eo hb.eo)⟩
theorem jt_lt (ha : JE K X M E .op a ta fa) (hb : JE K X M E .op b tb fb) : JT K X M E (.Compare a [.Lt] [b] pos) (tTest (tOp (rI0 fun i j => .bl (decide (i < j))) ta tb)) (fT (f2 oLt fa fb)) := jt_cmpR op_lt (ops_I0 fun _ _ _ => .bl _) ha hb (nomark _)
theorem jt_le (ha : JE K X M E .op a ta fa) (hb : JE K X M E .op b tb fb) : JT K X M E (.Compare a [.LtE] [b] pos) (tTest (tOp (rI0 fun i j => .bl (decide (i ≤ j))) ta tb)) (fT (f2 oLe fa fb)) := jt_cmpR op_le (ops_I0 fun _ _ _ => .bl _) ha hb (nomark _)
theorem jt_gt (ha : JE K X M E .op a ta fa) (hb : JE K X M E .op b tb fb) : JT K X M E (.Compare a [.Gt] [b] pos) (tTest (tOp (rI0 fun i j => .bl (decide (j < i))) ta tb)) (fT (f2 oGt fa fb)) := jt_cmpR op_gt (ops_I0 fun _ _ _ => .bl _) ha hb (nomark _)
theorem jt_ge (ha : JE K X M E .op a ta fa) (hb : JE K X M E .op b tb fb) : JT K X M E (.Compare a [.GtE] [b] pos) (tTest (tOp (rI0 fun i j => .bl (decide (j ≤ i))) ta tb)) (fT (f2 oGe fa fb)) := jt_cmpR op_ge (ops_I0 fun _ _ _ => .bl _) ha hb (nomark _)
theorem jt_eq (C : CxF K X E k) (ha : JE K X M E .op a ta fa) (hb : JE K X M E .op b tb fb) : JT K X M E (.Compare a [.Eq] [b] pos) (tTest (tOp (rEqAll K) ta tb)) (fT (f2 oEq fa fb)) := by
  have hK := C.hK
  subst hK
  exact jt_cmpR (OpR.or op_eq (op_eqD C.room.units)) ops_eq ha hb (nomark _)
theorem jt_ne (C : CxF K X E k) (ha : JE K X M E .op a ta fa) (hb : JE K X M E .op b tb fb) : JT K X M E (.Compare a [.NotEq] [b] pos) (tTest (tOp (rNeAll K) ta tb)) (fT (f2 oNe fa fb)) := by
  have hK := C.hK
  subst hK
  exact jt_cmpR (OpR.or op_ne (op_neD C.room.units)) ops_ne ha hb (nomark _)
theorem jt_in (C : CxF K X E k) (ha : JE K X M E .op a ta fa) (hb : JE K X M E .op b tb fb) (hm : behindInMarks .In b = false := by rfl) : JT K X M E (.Compare a [.In] [b] pos) (tTest (tOp (rInAll K) ta tb)) (fT (f2 (oIn false) fa fb)) := by
  have hK := C.hK
  subst hK
  exact jt_cmpR (OpR.or (OpR.or op_in_seq (op_inD (by have := C.room.un; omega))) op_in_sign) ops_in ha hb hm
theorem jt_ni (C : CxF K X E k) (ha : JE K X M E .op a ta fa) (hb : JE K X M E .op b tb fb) (hm : behindInMarks .NotIn b = false := by rfl) : JT K X M E (.Compare a [.NotIn] [b] pos) (tTest (tOp (rNiAll K) ta tb)) (fT (f2 (oIn true) fa fb)) := by
  have hK := C.hK
  subst hK
  exact jt_cmpR (OpR.or (OpR.or op_notIn_seq (op_notInD (by have := C.room.un; omega))) op_notIn_sign) ops_ni ha hb hm
def gAnd (f g : Ft) : Ft := fun γ => match f γ with
  | some (.ok true) => g γ
  | some (.ok false) => some (.ok false)
  | some (.er c) => some (.er c)
  | none => none
def gOr (f g : Ft) : Ft := fun γ => match f γ with
  | some (.ok false) => g γ
  | some (.ok true) => some (.ok true)
  | some (.er c) => some (.er c)
  | none => none
def gNot (f : Ft) : Ft := fun γ => match f γ with
  | some (.ok b) => some (.ok (!b))
  | some (.er c) => some (.er c)
  | none => none
theorem PostT.up {H G H1 G1 : Hp} {Q : Bool → Hp → Prop} {r : Rb} (s : Stp H G H1 G1) (p : PostT M E H G Q r) : PostT M E H1 G1 Q r := by
  cases r with
  | ok b => exact fun H' G' s' => p H' G' (s.trans s')
  | er c => exact fun H' G' s' => p H' G' (s.trans s')
theorem to_and {K : PySem.W.Frag} {t u : TT} {f g : Ft} (h1 : TO' K M E t f) (h2 : TO' K M E u g) : TO' K M E (tAnd t u) (gAnd f g) := by
  intro H0 G0 γ σ H G Q r ev hf p
  unfold gAnd at hf
  split at hf
  · rename_i e1
    refine h1 H0 G0 γ σ H G _ _ ev e1 fun H' G' s => ?_
    rw [if_pos rfl]
    exact h2 H0 G0 γ σ H' G' Q r (ev.stp s) hf (p.up s)
  · rename_i e1
    cases hf
    refine h1 H0 G0 γ σ H G _ _ ev e1 fun H' G' s => ?_
    rw [if_neg Bool.false_ne_true]
    exact p H' G' s
  · rename_i e1
    cases hf
    exact h1 H0 G0 γ σ H G _ _ ev e1 p
  · cases hf
theorem to_or {K : PySem.W.Frag} {t u : TT} {f g : Ft} (h1 : TO' K M E t f) (h2 : TO' K M E u g) : TO' K M E (tOr t u) (gOr f g) := by
  intro H0 G0 γ σ H G Q r ev hf p
  unfold gOr at hf
  split at hf
  · rename_i e1
    refine h1 H0 G0 γ σ H G _ _ ev e1 fun H' G' s => ?_
    rw [if_neg Bool.false_ne_true]
    exact h2 H0 G0 γ σ H' G' Q r (ev.stp s) hf (p.up s)
  · rename_i e1
    cases hf
    refine h1 H0 G0 γ σ H G _ _ ev e1 fun H' G' s => ?_
    rw [if_pos rfl]
    exact p H' G' s
  · rename_i e1
    cases hf
    exact h1 H0 G0 γ σ H G _ _ ev e1 p
  · cases hf
theorem jt_not {t : TT} {f : Ft} (h : JT K X M E a t f) : JT K X M E (.UnaryOp .Not a pos) (tNot t) (gNot f) := ⟨pt_not h.pt, fun H0 G0 γ σ H G Q r ev hf p => by
  unfold gNot at hf
  split at hf
  · rename_i b e1
    cases hf
    exact h.to H0 G0 γ σ H G _ _ ev e1 p
  · rename_i e1
    cases hf
    exact h.to H0 G0 γ σ H G _ _ ev e1 p
  · cases hf⟩
theorem JW.jt {t : TT} {f : Ft} (h : JW K X M E a t f) : JT K X M E a t f := ⟨h.pw.pt, h.to⟩
theorem jw_and1 {t : TT} {f : Ft} (h : JT K X M E a t f) : JW K X M E (.BoolOp .And [a] pos) t f := ⟨pw_and1 h.pt, h.to⟩
theorem jw_or1 {t : TT} {f : Ft} (h : JT K X M E a t f) : JW K X M E (.BoolOp .Or [a] pos) t f := ⟨pw_or1 h.pt, h.to⟩
theorem jw_and {t u : TT} {f g : Ft} {rest : List Expr} (h : JT K X M E a t f) (h2 : JW K X M E (.BoolOp .And (b :: rest) pos) u g) : JW K X M E (.BoolOp .And (a :: b :: rest) pos) (tAnd t u) (gAnd f g) := ⟨pw_and h.pt h2.pw, to_and h.to h2.to⟩
theorem jw_or {t u : TT} {f g : Ft} {rest : List Expr} (h : JT K X M E a t f) (h2 : JW K X M E (.BoolOp .Or (b :: rest) pos) u g) : JW K X M E (.BoolOp .Or (a :: b :: rest) pos) (tOr t u) (gOr f g) := ⟨pw_or h.pt h2.pw, to_or h.to h2.to⟩

/-! ### and, or, not, if as values -/
def fAnd (f g : Fe) : Fe := fun γ => match f γ with
  | some (.ok (.bool true)) => g γ
  | some (.ok (.bool false)) => some (.ok (.bool false))
  | some (.er c) => some (.er c)
  | _ => none
def fOr (f g : Fe) : Fe := fun γ => match f γ with
  | some (.ok (.bool false)) => g γ
  | some (.ok (.bool true)) => some (.ok (.bool true))
  | some (.er c) => some (.er c)
  | _ => none
def fNot (f : Fe) : Fe := fun γ => match f γ with
  | some (.ok (.bool b)) => some (.ok (.bool (!b)))
  | some (.er c) => some (.er c)
  | _ => none
def fIte (t : Ft) (f g : Fe) : Fe := fun γ => match t γ with
  | some (.ok true) => f γ
  | some (.ok false) => g γ
  | some (.er c) => some (.er c)
  | none => none
theorem PostE.up {K : PySem.W.Frag} {H G H1 G1 : Hp} {Q : VK} {r : Rs} (s : Stp H G H1 G1) (p : PostE K M E m H G Q r) : PostE K M E m H1 G1 Q r := by
  cases r with
  | ok b => exact fun v H' G' s' r' => p v H' G' (s.trans s') (r'.up s.ex)
  | er c => exact fun H' G' s' => p H' G' (s.trans s')
theorem je_one {op : PySem.BoolOp} (h : JE K X M E m a ta fa) : JE K X M E m (.BoolOp op [a] pos) ta fa := ⟨pe_one h.pe, h.eo⟩
theorem je_and {rest : List Expr} (ha : JE K X M E .cl a ta fa) (hb : JE K X M E .cl (.BoolOp .And (b :: rest) pos) tb fb) : JE K X M E .cl (.BoolOp .And (a :: b :: rest) pos) (tAndV ta tb) (fAnd fa fb) := by
  refine ⟨pe_and ha.pe hb.pe, fun H0 G0 γ σ H G Q r ev hf p => ?_⟩
  unfold fAnd at hf
  split at hf
  · rename_i e1
    refine ha.eo H0 G0 γ σ H G _ _ ev e1 fun v H' G' s r' => ⟨true, Res.bool (m := .cl) r', ?_⟩
    rw [if_pos rfl]
    exact hb.eo H0 G0 γ σ H' G' Q r (ev.stp s) hf (p.up s)
  · rename_i e1
    cases hf
    refine ha.eo H0 G0 γ σ H G _ _ ev e1 fun v H' G' s r' => ⟨false, Res.bool (m := .cl) r', ?_⟩
    rw [if_neg Bool.false_ne_true]
    exact p _ H' G' s (R.bl false)
  · rename_i e1
    cases hf
    exact ha.eo H0 G0 γ σ H G _ _ ev e1 p
  · cases hf
theorem je_or {rest : List Expr} (ha : JE K X M E .cl a ta fa) (hb : JE K X M E .cl (.BoolOp .Or (b :: rest) pos) tb fb) : JE K X M E .cl (.BoolOp .Or (a :: b :: rest) pos) (tOrV ta tb) (fOr fa fb) := by
  refine ⟨pe_or ha.pe hb.pe, fun H0 G0 γ σ H G Q r ev hf p => ?_⟩
  unfold fOr at hf
  split at hf
  · rename_i e1
    refine ha.eo H0 G0 γ σ H G _ _ ev e1 fun v H' G' s r' => ⟨false, Res.bool (m := .cl) r', ?_⟩
    rw [if_neg Bool.false_ne_true]
    exact hb.eo H0 G0 γ σ H' G' Q r (ev.stp s) hf (p.up s)
  · rename_i e1
    cases hf
    refine ha.eo H0 G0 γ σ H G _ _ ev e1 fun v H' G' s r' => ⟨true, Res.bool (m := .cl) r', ?_⟩
    rw [if_pos rfl]
    exact p _ H' G' s (R.bl true)
  · rename_i e1
    cases hf
    exact ha.eo H0 G0 γ σ H G _ _ ev e1 p
  · cases hf
theorem je_not (ha : JE K X M E .cl a ta fa) : JE K X M E .cl (.UnaryOp .Not a pos) (tNotV ta) (fNot fa) := by
  refine ⟨pe_not ha.pe, fun H0 G0 γ σ H G Q r ev hf p => ?_⟩
  unfold fNot at hf
  split at hf
  · rename_i b e1
    cases hf
    exact ha.eo H0 G0 γ σ H G _ _ ev e1 fun v H' G' s r' => ⟨b, Res.bool (m := .cl) r', p _ H' G' s (R.bl (!b))⟩
  · rename_i e1
    cases hf
    exact ha.eo H0 G0 γ σ H G _ _ ev e1 p
  · cases hf
theorem je_if {t : TT} {f : Ft} (ht : JT K X M E c t f) (ha : JE K X M E m a ta fa) (hb : JE K X M E m b tb fb) : JE K X M E m (.IfExp c a b pos) (tIf t ta tb) (fIte f fa fb) := by
  refine ⟨pe_ifExp ht.pt ha.pe hb.pe, fun H0 G0 γ σ H G Q r ev hf p => ?_⟩
  unfold fIte at hf
  split at hf
  · rename_i e1
    refine ht.to H0 G0 γ σ H G _ _ ev e1 fun H' G' s => ?_
    rw [if_pos rfl]
    exact ha.eo H0 G0 γ σ H' G' Q r (ev.stp s) hf (p.up s)
  · rename_i e1
    refine ht.to H0 G0 γ σ H G _ _ ev e1 fun H' G' s => ?_
    rw [if_neg Bool.false_ne_true]
    exact hb.eo H0 G0 γ σ H' G' Q r (ev.stp s) hf (p.up s)
  · rename_i e1
    cases hf
    exact ht.to H0 G0 γ σ H G _ _ ev e1 p
  · cases hf
/-- -i of a written number -/
def oNeg : D → Option D
  | .int i => some (.int (-i))
  | _ => none
theorem je_neg (ha : JE K X M E .op a ta fa) : JE K X M E .cl (.UnaryOp .USub a pos) (tUn (rU fun i => .int (-i)) ta) (f1 oNeg fa) := by
  refine ⟨pe_un un_neg ha.pe, fun H0 G0 γ σ H G Q r ev hf p => ?_⟩
  unfold f1 at hf
  cases e1 : fa γ with
  | none => rw [e1] at hf; cases hf
  | some q1 =>
    rw [e1] at hf
    cases q1 with
    | er c => cases hf; exact ha.eo H0 G0 γ σ H G _ _ ev e1 p
    | ok d =>
      refine ha.eo H0 G0 γ σ H G _ _ ev e1 fun v H' G' s r' => ?_
      cases d with
      | int i =>
        cases hf
        cases (show R K M G' v (.int i) from r')
        exact ⟨i, rfl, p _ H' G' s (R.int _)⟩
      | _ => cases hf

/-! ### what is walked -/
def ItR (K : PySem.W.Frag) (M : Pm) (J : It) (G1 : Hp) (ds : List D) : Prop := ∀ (H2 G2 : Hp), Same G1 G2 → Same G2 H2 → ∀ i : Nat,
  (i < ds.length → J.go i H2) ∧ (∀ (x : V) (H3 : Hp) (d : D), ds[i]? = some d → J.yld i H2 x H3 → ∃ G3, Stp H2 G2 H3 G3 ∧ R K M G3 x d) ∧ (ds.length ≤ i → J.stop i H2)
def PostR (K : PySem.W.Frag) (M : Pm) (E : XK) (H G : Hp) (Q : It → Hp → Prop) : Rl → Prop
  | .ok ds => ∀ J H' G', Stp H G H' G' → ItR K M J G' ds → Q J H'
  | .er c => ∀ H' G', Stp H G H' G' → E (M.exc c) none H'
def WO (K : PySem.W.Frag) (M : Pm) (E : XK) (t : TI) (f : Fa) : Prop := ∀ (H0 G0 : Hp) (γ : Ge) (σ : L2.St) (H G : Hp) (Q : It → Hp → Prop) (r : Rl), EnvR K M H0 G0 γ σ H G → f γ = some r → PostR K M E H G Q r → t σ H Q
structure JI (K : PySem.W.Frag) (X : Cx) (M : Pm) (E : XK) (tg e : Expr) (t : TI) (f : Fa) : Prop where
  pi : PI X tg e t
  wo : WO K M E t f
def wLst (a : Fe) : Fa := fun γ => match a γ with
  | some (.ok (.list ds)) => some (.ok ds)
  | some (.er c) => some (.er c)
  | _ => none
def wTup (a : Fe) : Fa := fun γ => match a γ with
  | some (.ok (.tuple ds)) => some (.ok ds)
  | some (.er c) => some (.er c)
  | _ => none
def wStr (a : Fe) : Fa := fun γ => match a γ with
  | some (.ok (.str z)) => some (.ok (z.cps.toList.map fun c => .str ⟨#[c]⟩))
  | some (.er c) => some (.er c)
  | _ => none
theorem get_lt {ds : List D} {i : Nat} {d : D} (h : ds[i]? = some d) : i < ds.length := (List.getElem?_eq_some_iff.mp h).1
theorem ji_list {tg : Expr} (C : CxF K X E k) (ha : JE K X M E .cl a ta fa) : JI K X M E tg a (iList K ta) (wLst fa) := by
  have hK := C.hK
  subst hK
  refine ⟨pi_list ha.pe, fun H0 G0 γ σ H G Q r ev hf p => ?_⟩
  unfold wLst at hf
  split at hf
  · rename_i ds e1
    cases hf
    refine ha.eo H0 G0 γ σ H G _ _ ev e1 fun v H1 G1 s1 r1 => ?_
    cases (show R X.K M G1 v (.list ds) from r1) with
    | lst h r =>
      rename_i l us
      refine ⟨l, rfl, ⟨us, s1.sub.seq h⟩, p _ H1 G1 s1 fun H2 G2 g1 g2 i => ⟨fun hi => ?_, fun x H3 d hd y => ?_, fun hi => ?_⟩⟩
      · have hu : i < us.length := by rw [r.len]; exact hi
        exact ⟨us, us[i], (g1.trans g2).seq h, List.getElem?_eq_getElem hu⟩
      · obtain ⟨e3, y⟩ := y
        subst e3
        obtain ⟨v, h1, h2⟩ := r.get hd
        have := y us ((g1.trans g2).seq h)
        rw [h1] at this
        cases this
        exact ⟨G2, Stp.refl g2, h2.mono g1⟩
      · exact ⟨us, (g1.trans g2).seq h, by rw [r.len]; exact hi⟩
  · rename_i e1
    cases hf
    exact ha.eo H0 G0 γ σ H G _ _ ev e1 p
  · cases hf
theorem ji_tup {tg : Expr} (C : CxF K X E k) (ha : JE K X M E .cl a ta fa) : JI K X M E tg a (iTup K ta) (wTup fa) := by
  have hK := C.hK
  subst hK
  refine ⟨pi_tup ha.pe, fun H0 G0 γ σ H G Q r ev hf p => ?_⟩
  unfold wTup at hf
  split at hf
  · rename_i ds e1
    cases hf
    refine ha.eo H0 G0 γ σ H G _ _ ev e1 fun v H1 G1 s1 r1 => ?_
    cases (show R X.K M G1 v (.tuple ds) from r1) with
    | tup h r =>
      rename_i l us
      refine ⟨l, rfl, ⟨us, same_T s1.sub h⟩, p _ H1 G1 s1 fun H2 G2 g1 g2 i => ⟨fun hi => ?_, fun x H3 d hd y => ?_, fun hi => ?_⟩⟩
      · have hu : i < us.length := by rw [r.len]; exact hi
        exact ⟨us, us[i], same_T (g1.trans g2) h, List.getElem?_eq_getElem hu⟩
      · obtain ⟨e3, y⟩ := y
        subst e3
        obtain ⟨v, h1, h2⟩ := r.get hd
        have := y us (same_T (g1.trans g2) h)
        rw [h1] at this
        cases this
        exact ⟨G2, Stp.refl g2, h2.mono g1⟩
      · exact ⟨us, same_T (g1.trans g2) h, by rw [r.len]; exact hi⟩
  · rename_i e1
    cases hf
    exact ha.eo H0 G0 γ σ H G _ _ ev e1 p
  · cases hf
theorem ji_str {tg : Expr} (ha : JE K X M E .cl a ta fa) : JI K X M E tg a (iStr ta) (wStr fa) := by
  refine ⟨pi_str ha.pe, fun H0 G0 γ σ H G Q r ev hf p => ?_⟩
  unfold wStr at hf
  split at hf
  · rename_i z e1
    cases hf
    refine ha.eo H0 G0 γ σ H G _ _ ev e1 fun v H1 G1 s1 r1 => ?_
    cases (show R K M G1 v (.str z) from r1)
    refine ⟨z, rfl, p _ H1 G1 s1 fun H2 G2 g1 g2 i => ⟨fun hi => ?_, fun x H3 d hd y => ?_, fun hi => ?_⟩⟩
    · simpa [Its] using hi
    · obtain ⟨e3, c, hc, e4⟩ := y
      subst e3; subst e4
      rw [List.getElem?_map, Array.getElem?_toList, hc] at hd
      cases hd
      exact ⟨G2, Stp.refl g2, .str _⟩
    · simpa [Its] using hi
  · rename_i e1
    cases hf
    exact ha.eo H0 G0 γ σ H G _ _ ev e1 p
  · cases hf
/-- range(n), range(a, b) -/
def rgD (lo hi : Int) : List D := (List.range (hi - lo).toNat).map fun i => .int (lo + (i : Nat))
def rgOk (lo hi : Int) : Bool := decide (-1000000 ≤ lo) && decide (lo ≤ 15000000) && decide (-1000000 ≤ hi) && decide (hi ≤ 15000000)
theorem rgD_len (lo hi : Int) : (rgD lo hi).length = (hi - lo).toNat := by unfold rgD; rw [List.length_map, List.length_range]
theorem rgD_get {lo hi : Int} {i : Nat} {d : D} (h : (rgD lo hi)[i]? = some d) : d = .int (lo + (i : Nat)) := by
  unfold rgD at h
  rw [List.getElem?_map] at h
  cases e : (List.range (hi - lo).toNat)[i]? with
  | none => rw [e] at h; cases h
  | some j =>
    rw [e] at h
    have hj : i < (List.range (hi - lo).toNat).length := (List.getElem?_eq_some_iff.mp e).1
    rw [List.getElem?_eq_getElem hj] at e
    rw [List.getElem_range] at e
    cases e
    exact (Option.some.inj h).symm
theorem itr_range {K : PySem.W.Frag} {G1 : Hp} (lo hi : Int) : ItR K M (Itr lo (hi - lo).toNat) G1 (rgD lo hi) := by
  intro H2 G2 g1 g2 i
  refine ⟨fun h => by rw [rgD_len] at h; exact h, fun x H3 d hd y => ?_, fun h => by rw [rgD_len] at h; exact h⟩
  obtain ⟨e1, e2⟩ := y
  subst e1; subst e2
  rw [rgD_get hd]
  exact ⟨G2, Stp.refl g2, .int _⟩
def wRg1 (a : Fa) : Fa := fun γ => match a γ with
  | some (.ok [.int j]) => if rgOk 0 j = true then some (.ok (rgD 0 j)) else none
  | some (.er c) => some (.er c)
  | _ => none
def wRg2 (a : Fa) : Fa := fun γ => match a γ with
  | some (.ok [.int i, .int j]) => if rgOk i j = true then some (.ok (rgD i j)) else none
  | some (.er c) => some (.er c)
  | _ => none
theorem rgOk_of {lo hi : Int} (h : rgOk lo hi = true) : -(2 ^ 62) ≤ lo ∧ lo < 2 ^ 62 ∧ -(2 ^ 62) ≤ hi ∧ hi < 2 ^ 62 := by
  unfold rgOk at h
  simp only [Bool.and_eq_true, decide_eq_true_eq] at h
  omega
theorem ji_rg1 {tg : Expr} {p : Pos} (hm : X.mg "range" = none) (hg : Gl X "range") (ha : JE K X M E .op a ta fa) (hs : starEach [a] X.env = [(false, eval a X.env)] := by rfl) (hs2 : starEach [a] X.env = (false, eval a X.env) :: starEach [] X.env := by rfl) :
    JI K X M E tg (.Call (.Name "range" p) [a] [] pos) (iRng1 (tCons ta tNil)) (wRg1 (fCons fa fNil)) := by
  have A := ja_cons ha (ja_nil (K := K) (X := X) (M := M) (E := E)) hs2
  refine ⟨pi_range1 hg hm A.pa hs, fun H0 G0 γ σ H G Q r ev hf p => ?_⟩
  unfold wRg1 at hf
  split at hf
  · rename_i j e1
    split at hf
    · rename_i hr
      cases hf
      refine A.ao H0 G0 γ σ H G _ _ ev e1 fun vs H1 G1 s1 r1 => ?_
      cases r1 with
      | cons r t =>
        cases t
        cases (show R K M G1 _ (.int j) from r)
        obtain ⟨_, _, h3, h4⟩ := rgOk_of hr
        refine ⟨j, rfl, h3, h4, p _ H1 G1 s1 ?_⟩
        have := itr_range (K := K) (M := M) (G1 := G1) 0 j
        rw [Int.sub_zero] at this
        exact this
    · cases hf
  · rename_i e1
    cases hf
    exact A.ao H0 G0 γ σ H G _ _ ev e1 p
  · cases hf
theorem ji_rg2 {tg : Expr} {p : Pos} (hm : X.mg "range" = none) (hg : Gl X "range") (ha : JE K X M E .op a ta fa) (hb : JE K X M E .op b tb fb) (hs : starEach [a, b] X.env = [(false, eval a X.env), (false, eval b X.env)] := by rfl) (hs2 : starEach [b] X.env = [(false, eval b X.env)] := by rfl)
    (hs3 : starEach [a, b] X.env = (false, eval a X.env) :: starEach [b] X.env := by rfl) (hs4 : starEach [b] X.env = (false, eval b X.env) :: starEach [] X.env := by rfl) :
    JI K X M E tg (.Call (.Name "range" p) [a, b] [] pos) (iRng2 (tCons ta (tCons tb tNil))) (wRg2 (fCons fa (fCons fb fNil))) := by
  have A := ja_cons ha (ja_cons hb (ja_nil (K := K) (X := X) (M := M) (E := E)) hs4) hs3
  refine ⟨pi_range2 hg hm A.pa hs hs2, fun H0 G0 γ σ H G Q r ev hf p => ?_⟩
  unfold wRg2 at hf
  split at hf
  · rename_i i j e1
    split at hf
    · rename_i hr
      cases hf
      refine A.ao H0 G0 γ σ H G _ _ ev e1 fun vs H1 G1 s1 r1 => ?_
      cases r1 with
      | cons r t =>
        cases t with
        | cons r' t =>
          cases t
          cases (show R K M G1 _ (.int i) from r)
          cases (show R K M G1 _ (.int j) from r')
          exact ⟨i, j, rfl, rgOk_of hr, p _ H1 G1 s1 (itr_range i j)⟩
    · cases hf
  · rename_i e1
    cases hf
    exact A.ao H0 G0 γ σ H G _ _ ev e1 p
  · cases hf
/-- zip(xs, ys) -/
def wZip (a : Fa) : Fa := fun γ => match a γ with
  | some (.ok [.list xs, .list ys]) => some (.ok ((xs.zip ys).map fun p => .tuple [p.1, p.2]))
  | some (.er c) => some (.er c)
  | _ => none
theorem zip_get {xs ys : List D} {i : Nat} {d : D} (h : ((xs.zip ys).map fun p => PyData.tuple [p.1, p.2])[i]? = some d) : ∃ x y, xs[i]? = some x ∧ ys[i]? = some y ∧ d = .tuple [x, y] := by
  rw [List.getElem?_map] at h
  cases e : (xs.zip ys)[i]? with
  | none => rw [e] at h; cases h
  | some q =>
    rw [e] at h
    obtain ⟨x, y⟩ := q
    rw [List.getElem?_zip_eq_some] at e
    exact ⟨x, y, e.1, e.2, (Option.some.inj h).symm⟩
end
end Py


/-! PyE: zip, enumerate, targets, comprehensions -/
namespace Py
open PySem PySem.Spec PyProof.Rows L2

section
variable {K : PySem.W.Frag} {X : Cx} {M : Pm} {E : XK} {k : Nat} {m : Md} {a b e c : Expr} {ta tb te tc : TE} {fa fb fe fc : Fe} {pos : Pos}
theorem ji_zip {es : List Expr} {kk : Nat} {tpos p : Pos} (C : CxF K X E k) (hm : X.mg "zip" = none) (hg : Gl X "zip") (ha : JE K X M E .cl a ta fa) (hb : JE K X M E .cl b tb fb)
    (hs3 : starEach [a, b] X.env = (false, eval a X.env) :: starEach [b] X.env := by rfl) (hs4 : starEach [b] X.env = (false, eval b X.env) :: starEach [] X.env := by rfl) (hpl : (backTo pos (starEach [b] X.env)).any (·.1) = false := by rfl) :
    JI K X M E (.Tuple es kk tpos) (.Call (.Name "zip" p) [a, b] [] pos) (iZip K (tCons ta (tCons tb tNil))) (wZip (fCons fa (fCons fb fNil))) := by
  have hK := C.hK
  subst hK
  have A := jc_cons ha (jc_cons hb (jc_nil (K := X.K) (X := X) (M := M) (E := E)) hs4) hs3
  refine ⟨pi_zip hg hm A.pa hs3 hpl, fun H0 G0 γ σ H G Q r ev hf p => ?_⟩
  unfold wZip at hf
  split at hf
  · rename_i xs ys e1
    cases hf
    refine A.ac H0 G0 γ σ H G _ _ ev e1 fun vs H1 G1 s1 r1 => ?_
    cases r1 with
    | cons r t =>
      cases t with
      | cons r' t =>
        cases t
        cases (show R X.K M G1 _ (.list xs) from r) with
        | lst h rx =>
          rename_i l us
          cases (show R X.K M G1 _ (.list ys) from r') with
          | lst h' ry =>
            rename_i l' us'
            refine ⟨l, l', us, us', rfl, s1.sub.seq h, s1.sub.seq h', p _ H1 G1 s1 fun H2 G2 g1 g2 i => ⟨fun hi => ?_, fun x H3 d hd y => ?_, fun hi => ?_⟩⟩
            · rw [List.length_map, List.length_zip] at hi
              have hu : i < us.length := by rw [rx.len]; omega
              have hu' : i < us'.length := by rw [ry.len]; omega
              exact ⟨us, us', us[i], us'[i], (g1.trans g2).seq h, (g1.trans g2).seq h', List.getElem?_eq_getElem hu, List.getElem?_eq_getElem hu'⟩
            · obtain ⟨T, x1, y1, e2, nT, e3, f1, f2⟩ := y
              subst e2; subst e3
              obtain ⟨dx, dy, h1, h2, e4⟩ := zip_get hd
              subst e4
              obtain ⟨v, q1, q2⟩ := rx.get h1
              obtain ⟨v', q1', q2'⟩ := ry.get h2
              have z1 := f1 us ((g1.trans g2).seq h)
              have z2 := f2 us' ((g1.trans g2).seq h')
              obtain rfl : v = x1 := Option.some.inj (q1.symm.trans z1)
              obtain rfl : v' = y1 := Option.some.inj (q1'.symm.trans z2)
              have s := Stp.new (o := .tup [v, v']) g2 nT
              exact ⟨_, s, R.tup (.of upd_same) (.cons (R.mono s.eg (q2.mono g1)) (.cons (R.mono s.eg (q2'.mono g1)) .nil))⟩
            · rw [List.length_map, List.length_zip] at hi
              refine ⟨us, us', (g1.trans g2).seq h, (g1.trans g2).seq h', ?_⟩
              rw [rx.len, ry.len]
              omega
  · rename_i e1
    cases hf
    exact A.ac H0 G0 γ σ H G _ _ ev e1 p
  · cases hf
def enD (ds : List D) : List D := (List.range ds.length).map fun i => .tuple [.int (i : Nat), ds.getD i .none]
def wEnum (a : Fa) : Fa := fun γ => match a γ with
  | some (.ok [.list xs]) => some (.ok (enD xs))
  | some (.er c) => some (.er c)
  | _ => none
theorem enD_get {ds : List D} {i : Nat} {d : D} (h : (enD ds)[i]? = some d) : ∃ x, ds[i]? = some x ∧ d = .tuple [.int (i : Nat), x] := by
  unfold enD at h
  rw [List.getElem?_map] at h
  cases e : (List.range ds.length)[i]? with
  | none => rw [e] at h; cases h
  | some j =>
    rw [e] at h
    have hj : i < (List.range ds.length).length := (List.getElem?_eq_some_iff.mp e).1
    rw [List.getElem?_eq_getElem hj, List.getElem_range] at e
    cases e
    rw [List.length_range] at hj
    refine ⟨ds[i], List.getElem?_eq_getElem hj, ?_⟩
    have h := (Option.some.inj h).symm
    rw [h]
    simp [List.getD, hj]
theorem ji_enum {es : List Expr} {kk : Nat} {tpos p : Pos} (C : CxF K X E k) (hm : X.mg "enumerate" = none) (hg : Gl X "enumerate") (ha : JE K X M E .cl a ta fa)
    (hs : starEach [a] X.env = [(false, eval a X.env)] := by rfl) (hs4 : starEach [a] X.env = (false, eval a X.env) :: starEach [] X.env := by rfl) :
    JI K X M E (.Tuple es kk tpos) (.Call (.Name "enumerate" p) [a] [] pos) (iEnum K (tCons ta tNil)) (wEnum (fCons fa fNil)) := by
  have hK := C.hK
  subst hK
  have A := jc_cons ha (jc_nil (K := X.K) (X := X) (M := M) (E := E)) hs4
  refine ⟨pi_enum hg hm A.pa hs, fun H0 G0 γ σ H G Q r ev hf p => ?_⟩
  unfold wEnum at hf
  split at hf
  · rename_i xs e1
    cases hf
    refine A.ac H0 G0 γ σ H G _ _ ev e1 fun vs H1 G1 s1 r1 => ?_
    cases r1 with
    | cons r t =>
      cases t
      cases (show R X.K M G1 _ (.list xs) from r) with
      | lst h rx =>
        rename_i l us
        have hlen : (enD xs).length = xs.length := by unfold enD; rw [List.length_map, List.length_range]
        refine ⟨l, us, rfl, s1.sub.seq h, p _ H1 G1 s1 fun H2 G2 g1 g2 i => ⟨fun hi => ?_, fun x H3 d hd y => ?_, fun hi => ?_⟩⟩
        · rw [hlen] at hi
          have hu : i < us.length := by rw [rx.len]; omega
          exact ⟨us, us[i], (g1.trans g2).seq h, List.getElem?_eq_getElem hu⟩
        · obtain ⟨T, x1, e2, nT, e3, f1⟩ := y
          subst e2; subst e3
          obtain ⟨dx, h1, e4⟩ := enD_get hd
          subst e4
          obtain ⟨v, q1, q2⟩ := rx.get h1
          have z1 := f1 us ((g1.trans g2).seq h)
          obtain rfl : v = x1 := Option.some.inj (q1.symm.trans z1)
          have s := Stp.new (o := .tup [.int (i : Nat), v]) g2 nT
          exact ⟨_, s, R.tup (.of upd_same) (.cons (R.int _) (.cons (R.mono s.eg (q2.mono g1)) .nil))⟩
        · rw [hlen] at hi
          exact ⟨us, (g1.trans g2).seq h, by rw [rx.len]; exact hi⟩
  · rename_i e1
    cases hf
    exact A.ac H0 G0 γ σ H G _ _ ev e1 p
  · cases hf

/-! ### targets -/
def Sets (js : List Nat) (σ σ' : L2.St) : Prop := ∀ vs : List Nat, (∀ j ∈ js, j ∈ vs) → wipe σ' vs = wipe σ vs
def GO (K : PySem.W.Frag) (M : Pm) (js : List Nat) (g : TG) (gf : D → Ge → Option Ge) : Prop := ∀ (H0 G0 : Hp) (γ γ' : Ge) (σ : L2.St) (H G : Hp) (v : V) (d : D) (Q : L2.St → Hp → Prop), EnvR K M H0 G0 γ σ H G → R K M G v d → gf d γ = some γ' →
  (∀ σ', EnvR K M H0 G0 γ' σ' H G → Sets js σ σ' → Q σ' H) → g v σ H Q
structure JG (K : PySem.W.Frag) (X : Cx) (M : Pm) (tg : Expr) (js : List Nat) (g : TG) (gf : D → Ge → Option Ge) : Prop where
  pg : PG X tg g
  go : GO K M js g gf
def gfN (i : Nat) : D → Ge → Option Ge := fun d γ => some (γ.set i (.va d))
theorem wipe_set {σ : L2.St} {j : Nat} {x : Option V} : ∀ {vs : List Nat}, j ∈ vs → wipe (σ.set j x) vs = wipe σ vs
  | [], h => by cases h
  | v :: vs, h => by
    unfold wipe
    by_cases e : v = j
    · subst e
      by_cases hm : v ∈ vs
      · rw [wipe_set hm]
      · have key : ∀ (vs : List Nat), v ∉ vs → ((wipe (σ.set v x) vs).set v none) = ((wipe σ vs).set v none) := by
          intro vs
          induction vs with
          | nil => intro _; show (σ.set v x).set v none = σ.set v none; rw [List.set_set]
          | cons w ws ih =>
            intro hn
            have h1 : v ≠ w := fun z => hn (z ▸ List.mem_cons_self)
            have h2 : v ∉ ws := fun z => hn (List.mem_cons_of_mem _ z)
            show ((wipe (σ.set v x) ws).set w none).set v none = ((wipe σ ws).set w none).set v none
            rw [List.set_comm _ _ (Ne.symm h1), ih h2, List.set_comm _ _ h1]
        exact key vs hm
    · rcases List.mem_cons.mp h with z | z
      · exact absurd z.symm e
      · rw [wipe_set z]
theorem wipe_wipe (σ : L2.St) : ∀ vs : List Nat, wipe (wipe σ vs) vs = wipe σ vs := by
  have key : ∀ (ws vs : List Nat), (∀ w ∈ ws, w ∈ vs) → wipe (wipe σ ws) vs = wipe σ vs := by
    intro ws
    induction ws with
    | nil => intro vs _; rfl
    | cons w ws ih =>
      intro vs h
      show wipe ((wipe σ ws).set w none) vs = wipe σ vs
      rw [wipe_set (h w List.mem_cons_self), ih vs fun z hz => h z (List.mem_cons_of_mem _ hz)]
  intro vs
  exact key vs vs fun _ h => h
theorem jg_name {i : Nat} {x : Str} (hN : X.N.Nodup) (hi : X.N[i]? = some x := by rfl) (hx : Loc X.env.scope x := by first | exact Or.inl rfl | exact Or.inr rfl) (hf : X.fn x = true ∨ X.env.scope.names.lookup x = some .local := by first | exact .inl rfl | exact .inr rfl) : JG K X M (.Name x pos) [i] (gName i) (gfN i) :=
  ⟨pg_name hN hi hx hf, fun H0 G0 γ γ' σ H G v d Q ev r hg q => by
    cases hg
    exact q _ (ev.setv r) fun vs h => wipe_set (h i (by simp))⟩
def GsO (K : PySem.W.Frag) (M : Pm) (js : List Nat) (g : TGs) (gf : List D → Ge → Option Ge) : Prop := ∀ (H0 G0 : Hp) (γ γ' : Ge) (σ : L2.St) (H G : Hp) (vs : List V) (ds : List D) (Q : L2.St → Hp → Prop), EnvR K M H0 G0 γ σ H G → RA K M G vs ds → gf ds γ = some γ' →
  (∀ σ', EnvR K M H0 G0 γ' σ' H G → Sets js σ σ' → Q σ' H) → g vs σ H Q
structure JGs (K : PySem.W.Frag) (X : Cx) (M : Pm) (tgs : List Expr) (js : List Nat) (g : TGs) (gf : List D → Ge → Option Ge) : Prop where
  pg : PGs X tgs g
  go : GsO K M js g gf
def gsNil : List D → Ge → Option Ge
  | [], γ => some γ
  | _ :: _, _ => none
def gsCons (g : D → Ge → Option Ge) (h : List D → Ge → Option Ge) : List D → Ge → Option Ge
  | [], _ => none
  | d :: ds, γ => match g d γ with
    | some γ1 => h ds γ1
    | none => none
def gfTup (g : List D → Ge → Option Ge) : D → Ge → Option Ge
  | .tuple ds, γ => g ds γ
  | _, _ => none
theorem jgs_nil : JGs K X M [] [] gNil gsNil := ⟨pgs_nil, fun H0 G0 γ γ' σ H G vs ds Q ev r hg q => by
  cases r with
  | nil => cases hg; exact ⟨rfl, q σ ev fun _ _ => rfl⟩
  | cons _ _ => cases hg⟩
theorem jgs_cons {tg : Expr} {tgs : List Expr} {js js' : List Nat} {g : TG} {gs : TGs} {gf : D → Ge → Option Ge} {gfs : List D → Ge → Option Ge} (h1 : JG K X M tg js g gf) (h2 : JGs K X M tgs js' gs gfs)
    (hs : (assignEach (tg :: tgs) X.env).map (·.2) = assign tg X.env :: (assignEach tgs X.env).map (·.2) := by rfl) : JGs K X M (tg :: tgs) (js ++ js') (gCons g gs) (gsCons gf gfs) := ⟨pgs_cons h1.pg h2.pg hs, fun H0 G0 γ γ' σ H G vs ds Q ev r hg q => by
  cases r with
  | nil => cases hg
  | cons r t =>
    unfold gsCons at hg
    simp only at hg
    split at hg
    · rename_i γ1 e1
      refine ⟨_, _, rfl, h1.go H0 G0 γ γ1 σ H G _ _ _ ev r e1 fun σ1 ev1 s1 => ?_⟩
      exact h2.go H0 G0 γ1 γ' σ1 H G _ _ _ ev1 t hg fun σ2 ev2 s2 => q σ2 ev2 fun ws h => by
        rw [s2 ws fun j hj => h j (List.mem_append_right _ hj), s1 ws fun j hj => h j (List.mem_append_left _ hj)]
    · cases hg⟩
theorem jg_tup {es : List Expr} {kk : Nat} {js : List Nat} {g : TGs} {gf : List D → Ge → Option Ge} {n : Nat} (C : CxF K X E k) (h : JGs K X M es js g gf)
    (hl : ∀ ds γ γ', gf ds γ = some γ' → ds.length = n) (hn : (assignEach es X.env).length = n := by rfl) (hst : (assignEach es X.env).findIdx? (·.1) = none := by rfl) : JG K X M (.Tuple es kk pos) js (gTup K n g) (gfTup gf) := by
  have hK := C.hK
  subst hK
  exact ⟨pg_tup C.calm h.pg hn hst, fun H0 G0 γ γ' σ H G v d Q ev r hg q => by
  unfold gfTup at hg
  split at hg
  · rename_i ds
    cases r with
    | tup hs rs =>
      exact ⟨_, _, rfl, same_T ev.sub hs, by rw [rs.len]; exact hl _ _ _ hg, h.go H0 G0 γ γ' σ H G _ _ Q ev rs hg q⟩
  · cases hg⟩
theorem gs2_len {g h : D → Ge → Option Ge} (ds : List D) (γ γ' : Ge) (e : gsCons g (gsCons h gsNil) ds γ = some γ') : ds.length = 2 := by
  cases ds with
  | nil => cases e
  | cons d ds =>
    simp only [gsCons] at e
    cases h1 : g d γ with
    | none => rw [h1] at e; cases e
    | some γ1 =>
      rw [h1] at e
      cases ds with
      | nil => cases e
      | cons d2 ds =>
        simp only at e
        cases h2 : h d2 γ1 with
        | none => rw [h2] at e; cases e
        | some γ2 =>
          rw [h2] at e
          cases ds with
          | nil => rfl
          | cons _ _ => cases e
/-- (a, b) = two names -/
theorem jg_two {i j : Nat} {x y : Str} {kk : Nat} {px py : Pos} (C : CxF K X E k) (h1 : JG K X M (.Name x px) [i] (gName i) (gfN i)) (h2 : JG K X M (.Name y py) [j] (gName j) (gfN j))
    (hs1 : (assignEach [.Name x px, .Name y py] X.env).map (·.2) = assign (.Name x px) X.env :: (assignEach [.Name y py] X.env).map (·.2) := by rfl) (hs2 : (assignEach [.Name y py] X.env).map (·.2) = assign (.Name y py) X.env :: (assignEach [] X.env).map (·.2) := by rfl)
    (hn : (assignEach [.Name x px, .Name y py] X.env).length = 2 := by rfl) (hst : (assignEach [.Name x px, .Name y py] X.env).findIdx? (·.1) = none := by rfl) :
    JG K X M (.Tuple [.Name x px, .Name y py] kk pos) [i, j] (gTup K 2 (gCons (gName i) (gCons (gName j) gNil))) (gfTup (gsCons (gfN i) (gsCons (gfN j) gsNil))) := by
  have hK := C.hK
  subst hK
  exact jg_tup C (jgs_cons h1 (jgs_cons h2 jgs_nil hs2) hs1) (fun ds γ γ' h => gs2_len ds γ γ' h) hn hst
/-! ### comprehensions -/
theorem CxF.blk (C : CxF K X E k) (s : Shared) (H : Hp) (scope : Scope) (cenv : Env) (fp : List Addr) : CxF K (X.blk s H scope cenv fp) E0 k := ⟨C.hK, C.calm, C.nd, passL, PassesOwn.never, C.room⟩
structure JTs (K : PySem.W.Frag) (X : Cx) (M : Pm) (E : XK) (es : List Expr) (t : TT) (f : Ft) : Prop where
  pts : PTs X es t
  to : TO' K M E t f
def gYes : Ft := fun _ => some (.ok true)
theorem jts_nil : JTs K X M E [] tYes gYes := ⟨pts_nil, fun H0 G0 γ σ H G Q r ev hf p => by cases hf; exact p H G (Stp.refl ev.sub)⟩
theorem jts_one {t : TT} {f : Ft} (h : JT K X M E c t f) : JTs K X M E [c] t f := ⟨pts_one h.pt, h.to⟩
def wipeG (γ : Ge) : List Nat → Ge
  | [] => γ
  | v :: vs => (wipeG γ vs).set v .no
theorem EnvR.setn {K : PySem.W.Frag} {H0 G0 H G : Hp} {γ : Ge} {σ : L2.St} {i : Nat} (e : EnvR K M H0 G0 γ σ H G) : EnvR K M H0 G0 (γ.set i .no) (σ.set i none) H G := by
  have key : ∀ (j : Nat) (s : Sl) (x : Option V), (γ.set i .no)[j]? = some s → (σ.set i none)[j]? = some x → (s = .no) ∨ (γ[j]? = some s ∧ σ[j]? = some x) := by
    intro j s x h1 h2
    by_cases hj : i = j
    · subst hj
      rw [List.getElem?_set] at h1
      simp only [if_true] at h1
      split at h1
      · exact .inl (Option.some.inj h1).symm
      · cases h1
    · rw [List.getElem?_set_ne hj] at h1 h2
      exact .inr ⟨h1, h2⟩
  refine ⟨e.st, by rw [List.length_set, List.length_set]; exact e.len, fun j s x h1 h2 => ?_, fun j k sj sk xj xk o h1 h2 h3 h4 h5 h6 => ?_, e.kp⟩
  · rcases key j s x h1 h2 with e1 | ⟨q1, q2⟩
    · subst e1; trivial
    · exact e.sl j s x q1 q2
  · rcases key j sj xj h1 h3 with e1 | ⟨q1, q2⟩
    · subst e1; exact h5.elim
    · rcases key k sk xk h2 h4 with e1 | ⟨q3, q4⟩
      · subst e1; exact h6.elim
      · exact e.ap j k sj sk xj xk o q1 q3 q2 q4 h5 h6
theorem EnvR.wipe {K : PySem.W.Frag} {H0 G0 H G : Hp} {γ : Ge} {σ : L2.St} (e : EnvR K M H0 G0 γ σ H G) : ∀ vs : List Nat, EnvR K M H0 G0 (wipeG γ vs) (L2.wipe σ vs) H G
  | [] => e
  | _ :: vs => (EnvR.wipe e vs).setn
def lcF (gf : D → Ge → Option Ge) (cf : Ft) (ef : Fe) (γ : Ge) : List D → Option (List D)
  | [] => some []
  | d :: ds => match gf d γ with
    | none => none
    | some γ1 => match cf γ1 with
      | some (.ok true) => (match ef γ1 with
        | some (.ok x) => (match lcF gf cf ef γ ds with
          | some xs => some (x :: xs)
          | none => none)
        | _ => none)
      | some (.ok false) => lcF gf cf ef γ ds
      | _ => none
def fLc (w : Fa) (gf : D → Ge → Option Ge) (cf : Ft) (ef : Fe) (vs : List Nat) : Fe := fun γ => match w γ with
  | some (.ok ds) => if ds.length ≤ big then (match lcF gf cf ef (wipeG γ vs) ds with
    | some xs => some (.ok (.list xs))
    | none => none) else none
  | some (.er c) => some (.er c)
  | none => none
theorem eo_lc {K : PySem.W.Frag} {wi : TI} {g : TG} {tt : TT} {te : TE} {vs js : List Nat} {w : Fa} {gf : D → Ge → Option Ge} {cf : Ft} {ef : Fe} (hw : WO K M E wi w) (hg : GO K M js g gf) (hj : ∀ j ∈ js, j ∈ vs) (hc : TO' K M E0 tt cf) (he : EO K M E0 .cl te ef) :
    EO K M E .fr (tLc wi g tt te vs) (fLc w gf cf ef vs) := by
  intro H0 G0 γ σ H G Q r ev hf p
  unfold fLc at hf
  split at hf
  · rename_i ds e1
    split at hf
    · rename_i hz
      split at hf
      · rename_i es e2
        cases hf
        refine hw H0 G0 γ σ H G _ _ ev e1 fun J H1 G1 s1 itr Dl hD => ?_
        have ev1 := ev.stp s1
        have nG1 : G1 Dl = none := s1.sub.free hD
        refine ⟨fun i mm H' => mm = ds.length - i ∧ i ≤ ds.length ∧ ∃ G' acc accD rest, Stp H1 G1 H' G' ∧ G' Dl = none ∧ H' Dl = some (.lst acc) ∧ RA K M G' acc accD ∧ lcF gf cf ef (wipeG γ vs) (ds.drop i) = some rest ∧ accD ++ rest = es ∧ acc.length ≤ i,
          ⟨ds.length, by simp, Nat.zero_le _, G1, [], [], es, Stp.newO s1.sub hD, nG1, upd_same, .nil, e2, rfl, Nat.le_refl _⟩, ?_⟩
        rintro i mm H2 ⟨rfl, hi, G2, acc, accD, rest, st, gD, hDl, ra, el, ee, al⟩
        have ev2 := (ev1.stp st).wipe vs
        obtain ⟨go, yl, sp⟩ := itr H2 G2 st.eg st.sub i
        by_cases hlt : i < ds.length
        · refine .inr ⟨go hlt, fun H' => ∃ m', m' < ds.length - i ∧ m' = ds.length - (i + 1) ∧ i + 1 ≤ ds.length ∧ ∃ G' acc accD rest, Stp H1 G1 H' G' ∧ G' Dl = none ∧ H' Dl = some (.lst acc) ∧ RA K M G' acc accD ∧ lcF gf cf ef (wipeG γ vs) (ds.drop (i + 1)) = some rest ∧ accD ++ rest = es ∧ acc.length ≤ i + 1,
            fun H' ⟨m', h1, h2⟩ => ⟨m', h1, h2⟩, fun x H3 hy => ?_⟩
          have hd : ds[i]? = some ds[i] := List.getElem?_eq_getElem hlt
          obtain ⟨G3, s3, rx⟩ := yl x H3 _ hd hy
          rw [List.drop_eq_getElem_cons hlt] at el
          unfold lcF at el
          split at el
          · cases el
          · rename_i γ1 eg
            refine hg H0 G0 (wipeG γ vs) γ1 (L2.wipe σ vs) H3 G3 x ds[i] _ (ev2.stp s3) rx eg fun σ2 ev3 sets => ⟨?_, ?_⟩
            · rw [sets vs hj, wipe_wipe]
            · split at el
              · rename_i ec
                split at el
                · rename_i y ey
                  split at el
                  · rename_i ys eys
                    cases el
                    refine hc H0 G0 γ1 σ2 H3 G3 _ _ ev3 ec fun H4 G4 s4 => ?_
                    rw [if_pos rfl]
                    refine he H0 G0 γ1 σ2 H4 G4 _ _ (ev3.stp s4) ey fun yv H5 G5 s5 ry => ?_
                    have s25 := (s3.trans s4).trans s5
                    have ry' : R K M G5 yv y := ry
                    have g5 : G5 Dl = none := s25.nw _ _ hDl gD
                    have h5 : H5 Dl = some (.lst acc) := s25.ex _ _ hDl
                    refine ⟨acc, h5, big_line' (by omega), ds.length - (i + 1), by omega, rfl, hlt, G5, acc ++ [yv], accD ++ [y], ys, ?_, g5, upd_same, (ra.mono s25.eg).app (.one ry'), eys, by rw [List.append_assoc]; exact ee, by rw [List.length_append]; simp; omega⟩
                    have sA := st.trans s25
                    exact ⟨fun b u q => by rw [upd_ne (ne_of_none q hD)]; exact sA.ex b u q, sA.eg, fun b u q => by rw [upd_ne (ne_of_none q g5)]; exact sA.sub b u q, sA.nw⟩
                  · cases el
                · cases el
              · rename_i ec
                refine hc H0 G0 γ1 σ2 H3 G3 _ _ ev3 ec fun H4 G4 s4 => ?_
                rw [if_neg Bool.false_ne_true]
                have s24 := s3.trans s4
                exact ⟨ds.length - (i + 1), by omega, rfl, hlt, G4, acc, accD, rest, st.trans s24, s24.nw _ _ hDl gD, s24.ex _ _ hDl, ra.mono s24.eg, el, ee, by omega⟩
              · cases el
        · have ei : i = ds.length := by omega
          subst ei
          rw [List.drop_length] at el
          cases el
          rw [List.append_nil] at ee
          subst ee
          refine .inl ⟨sp (Nat.le_refl _), p _ H2 G2 (s1.trans st) ⟨Dl, acc, rfl, s1.ex.free hD, gD, hDl, ra⟩⟩
      · cases hf
    · cases hf
  · rename_i e1
    cases hf
    exact hw H0 G0 γ σ H G _ _ ev e1 p
  · cases hf
theorem je_lc {elt tg iter : Expr} {ifs : List Expr} {scope : Scope} {own : List (Str × Nat)} {js : List Nat} {wi : TI} {g : TG} {tt : TT} {te : TE} {w : Fa} {gf : D → Ge → Option Ge} {cf : Ft} {ef : Fe} (C : CxF K X E k) (hi : JI K X M E tg iter wi w) (ok : BlkOk X.N X.env.scope scope own)
    (hg : ∀ (s : Shared) (H : Hp) (Cc : Addr) (cl : List (Str × Addr)) (fp : List Addr), JG K (X.blk s H scope (compEnvC scope cl Cc X.env) fp) M tg js g gf) (ht : ∀ (s : Shared) (H : Hp) (Cc : Addr) (cl : List (Str × Addr)) (fp : List Addr), JTs K (X.blk s H scope (compEnvC scope cl Cc X.env) fp) M E0 ifs tt cf)
    (he : ∀ (s : Shared) (H : Hp) (Cc : Addr) (cl : List (Str × Addr)) (fp : List Addr), JE K (X.blk s H scope (compEnvC scope cl Cc X.env) fp) M E0 .cl elt te ef) (hj : ∀ j ∈ js, j ∈ own.map (·.2) := by decide) (hs : ∀ x, foldedSetIterable iter X.env x = pure x := by intro _; rfl) :
    JE K X M E .fr (.ListComp elt [⟨tg, iter, ifs, 0⟩] scope pos) (tLc wi g tt te (own.map (·.2))) (fLc w gf cf ef (own.map (·.2))) :=
  ⟨pe_lc C.calm C.nd hi.pi ok (fun s H Cc cl fp => (hg s H Cc cl fp).pg) (fun s H Cc cl fp => (ht s H Cc cl fp).pts) (fun s H Cc cl fp => (he s H Cc cl fp).pe) hs,
    eo_lc hi.wo (hg ({} : Shared) (fun _ => none) 0 [] []).go hj (ht ({} : Shared) (fun _ => none) 0 [] []).to (he ({} : Shared) (fun _ => none) 0 [] []).eo⟩
end
end Py


/-! PyF: statements, the rule of a def -/
namespace Py
open PySem PySem.Spec PyProof.Rows L2

inductive Out | nx (γ : Ge) | rt (d : D) | er (c : Str) | bk (γ : Ge) | ct (γ : Ge)
abbrev Fs := Ge → Option Out
section
variable (K : PySem.W.Frag) (M : Pm) (E : XK)
def PostS (H0 G0 : Hp) (De : Ends) : Out → Prop
  | .nx γ => ∀ σ H G, EnvR K M H0 G0 γ σ H G → De.nx σ H
  | .bk γ => ∀ σ H G, EnvR K M H0 G0 γ σ H G → De.bk σ H
  | .ct γ => ∀ σ H G, EnvR K M H0 G0 γ σ H G → De.ct σ H
  | .rt d => ∀ v H G, Stp H0 G0 H G → R K M G v d → De.rt v H
  | .er c => ∀ H G, Stp H0 G0 H G → E (M.exc c) none H
def SO (t : TS) (f : Fs) : Prop := ∀ (H0 G0 : Hp) (γ : Ge) (σ : L2.St) (H G : Hp) (De : Ends) (o : Out), EnvR K M H0 G0 γ σ H G → f γ = some o → PostS K M E H0 G0 De o → t De σ H
end
structure JS (K : PySem.W.Frag) (X : Cx) (M : Pm) (E : XK) (st : Stmt) (t : TS) (f : Fs) : Prop where
  ps : PS X st t
  so : SO K M E t f
structure JB (K : PySem.W.Frag) (X : Cx) (M : Pm) (E : XK) (st : List Stmt) (t : TS) (f : Fs) : Prop where
  ps : PSs X st t
  so : SO K M E t f

def fNext : Fs := fun γ => some (.nx γ)
def fSeq (f g : Fs) : Fs := fun γ => match f γ with
  | some (.nx γ1) => g γ1
  | o => o
def sRet (a : Fe) : Fs := fun γ => match a γ with
  | some (.ok d) => some (.rt d)
  | some (.er c) => some (.er c)
  | none => none
def sRetN : Fs := fun _ => some (.rt .none)
def sIf (c : Ft) (f g : Fs) : Fs := fun γ => match c γ with
  | some (.ok true) => f γ
  | some (.ok false) => g γ
  | some (.er c) => some (.er c)
  | none => none
def sSet (i : Nat) (a : Fe) : Fs := fun γ => match a γ with
  | some (.ok d) => some (.nx (γ.set i (.va d)))
  | some (.er c) => some (.er c)
  | none => none
def sSetO (i : Nat) (a : Fe) : Fs := fun γ => match a γ with
  | some (.ok (.list ds)) => some (.nx (γ.set i (.ow ds)))
  | some (.er c) => some (.er c)
  | _ => none
def sAsg (a : Fe) (g : D → Ge → Option Ge) : Fs := fun γ => match a γ with
  | some (.ok d) => (match g d γ with
    | some γ1 => some (.nx γ1)
    | none => none)
  | some (.er c) => some (.er c)
  | none => none
def sApp (i : Nat) (a : Fe) : Fs := fun γ => match γ[i]? with
  | some (.ow ds) => (match a γ with
    | some (.ok d) => if ds.length ≤ big then some (.nx (γ.set i (.ow (ds ++ [d])))) else none
    | some (.er c) => some (.er c)
    | none => none)
  | _ => none
def sRaise (c : Str) : Fs := fun _ => some (.er c)
def forF (gf : D → Ge → Option Ge) (body : Fs) : List D → Ge → Option Out
  | [], γ => some (.nx γ)
  | d :: ds, γ => match gf d γ with
    | none => none
    | some γ1 => match body γ1 with
      | some (.nx γ2) => forF gf body ds γ2
      | some (.ct γ2) => forF gf body ds γ2
      | some (.bk γ2) => some (.nx γ2)
      | some (.rt d) => some (.rt d)
      | some (.er c) => some (.er c)
      | none => none
def sFor (w : Fa) (gf : D → Ge → Option Ge) (body : Fs) : Fs := fun γ => match w γ with
  | some (.ok ds) => forF gf body ds γ
  | some (.er c) => some (.er c)
  | none => none
def whF (c : Ft) (body : Fs) : Nat → Ge → Option Out
  | 0, _ => none
  | n + 1, γ => match c γ with
    | some (.ok true) => (match body γ with
      | some (.nx γ2) => whF c body n γ2
      | some (.ct γ2) => whF c body n γ2
      | some (.bk γ2) => some (.nx γ2)
      | some (.rt d) => some (.rt d)
      | some (.er c) => some (.er c)
      | none => none)
    | some (.ok false) => some (.nx γ)
    | some (.er c) => some (.er c)
    | none => none
/-- the fuel of a while: any number would do -/
def fuel : Nat := 2 ^ 40
def sWh (c : Ft) (body : Fs) : Fs := fun γ => whF c body fuel γ

section
variable {K : PySem.W.Frag} {X : Cx} {M : Pm} {E : XK} {k : Nat} {m : Md} {a b e c : Expr} {ta tb te tc : TE} {fa fb fe fc : Fe} {pos : Pos} {t u : TS} {f g : Fs} {st : Stmt} {rest : List Stmt}

theorem EnvR.er {K : PySem.W.Frag} {H0 G0 H G : Hp} {γ : Ge} {σ : L2.St} {De : Ends} {c : Str} {m : Md} {Q : VK} (ev : EnvR K M H0 G0 γ σ H G) (p : PostS K M E H0 G0 De (.er c)) : PostE K M E m H G Q (.er c) := fun H' G' s => p H' G' (ev.st.trans s)
theorem so_next {K : PySem.W.Frag} : SO K M E tNext fNext := fun H0 G0 γ σ H G De o ev hf p => by cases hf; exact p σ H G ev
theorem jb_nil : JB K X M E [] tNext fNext := ⟨pss_nil, so_next⟩
theorem so_seq {K : PySem.W.Frag} (h1 : SO K M E t f) (h2 : SO K M E u g) : SO K M E (tSeq t u) (fSeq f g) := fun H0 G0 γ σ H G De o ev hf p => by
  unfold fSeq at hf
  split at hf
  · rename_i γ1 e1
    exact h1 H0 G0 γ σ H G { De with nx := u De } _ ev e1 fun σ' H' G' ev' => h2 H0 G0 γ1 σ' H' G' De o ev' hf p
  · rename_i hn
    refine h1 H0 G0 γ σ H G { De with nx := u De } o ev hf ?_
    cases o with
    | nx γ1 => exact absurd hf (hn γ1)
    | _ => exact p
theorem jb_cons (h1 : JS K X M E st t f) (h2 : JB K X M E rest u g) : JB K X M E (st :: rest) (tSeq t u) (fSeq f g) := ⟨pss_cons h1.ps h2.ps, so_seq h1.so h2.so⟩
theorem jb_one (h1 : JS K X M E st t f) : JB K X M E [st] t f := ⟨pss_one h1.ps, h1.so⟩
theorem js_ret (ha : JE K X M E .cl a ta fa) : JS K X M E (.Return (some a) pos) (tRet ta) (sRet fa) := ⟨ps_ret ha.pe, fun H0 G0 γ σ H G De o ev hf p => by
  unfold sRet at hf
  split at hf
  · rename_i d e1
    cases hf
    exact ha.eo H0 G0 γ σ H G _ _ ev e1 fun v H' G' s r => p v H' G' (ev.st.trans s) r
  · rename_i c e1
    cases hf
    exact ha.eo H0 G0 γ σ H G _ _ ev e1 (ev.er p)
  · cases hf⟩
theorem js_retN : JS K X M E (.Return none pos) tRetN sRetN := ⟨ps_retN, fun H0 G0 γ σ H G De o ev hf p => by cases hf; exact p .non H G ev.st .non⟩
/-- return of a name that may hold an own list -/
theorem js_retV {i : Nat} {x : Str} {p0 : Pos} (h : JE K X M E .op (.Name x p0) (tVar i) (fOpd i)) : JS K X M E (.Return (some (.Name x p0)) pos) (tRet (tVar i)) (sRet (fOpd i)) := ⟨ps_ret h.pe, fun H0 G0 γ σ H G De o ev hf p => by
  unfold sRet fOpd at hf
  split at hf
  · rename_i d e1
    split at e1
    · rename_i d' e2
      cases e1
      cases hf
      obtain ⟨v, h1, h2⟩ := ev.va e2
      exact ⟨v, h1, p v H G ev.st h2⟩
    · rename_i ds e2
      cases e1
      cases hf
      obtain ⟨o, vs, h1, hg, h0, h2, h3⟩ := ev.ow e2
      have sg : Same G (upd G o (.lst vs)) := same_new hg
      refine ⟨_, h1, p _ H (upd G o (.lst vs)) ⟨ev.st.ex, ev.st.eg.trans sg, fun b u q => ?_, fun q u hq n => ?_⟩ (R.lst (.of upd_same) (h3.mono sg))⟩
      · by_cases hb : b = o
        · subst hb; rw [upd_same] at q; cases q; exact h2
        · rw [upd_ne hb] at q; exact ev.st.sub b u q
      · rw [upd_ne (ne_of_none hq h0)]; exact ev.st.nw q u hq n
    · cases e1
  · rename_i c e1
    split at e1
    · cases e1
    · cases e1
    · cases e1
  · cases hf⟩
theorem js_if {tt : TT} {ft : Ft} {as bs : List Stmt} (hc : JT K X M E c tt ft) (ha : JB K X M E as t f) (hb : JB K X M E bs u g) : JS K X M E (.If c as bs pos) (tIfS tt t u) (sIf ft f g) := ⟨ps_if hc.pt ha.ps hb.ps, fun H0 G0 γ σ H G De o ev hf p => by
  unfold sIf at hf
  split at hf
  · rename_i e1
    refine hc.to H0 G0 γ σ H G _ _ ev e1 fun H' G' s => ?_
    rw [if_pos rfl]
    exact ha.so H0 G0 γ σ H' G' De o (ev.stp s) hf p
  · rename_i e1
    refine hc.to H0 G0 γ σ H G _ _ ev e1 fun H' G' s => ?_
    rw [if_neg Bool.false_ne_true]
    exact hb.so H0 G0 γ σ H' G' De o (ev.stp s) hf p
  · rename_i e1
    cases hf
    exact hc.to H0 G0 γ σ H G _ _ ev e1 fun H' G' s => p H' G' (ev.st.trans s)
  · cases hf⟩
theorem so_set {K : PySem.W.Frag} {i : Nat} (ha : EO K M E .cl ta fa) : SO K M E (tAsg ta (gName i)) (sSet i fa) := fun H0 G0 γ σ H G De o ev hf p => by
  unfold sSet at hf
  split at hf
  · rename_i d e1
    cases hf
    exact ha H0 G0 γ σ H G _ _ ev e1 fun v H' G' s r => p _ H' G' ((ev.stp s).setv r)
  · rename_i c e1
    cases hf
    exact ha H0 G0 γ σ H G _ _ ev e1 (ev.er p)
  · cases hf
theorem so_setO {K : PySem.W.Frag} {i : Nat} (ha : EO K M E .fr ta fa) : SO K M E (tAsg ta (gName i)) (sSetO i fa) := fun H0 G0 γ σ H G De o ev hf p => by
  unfold sSetO at hf
  split at hf
  · rename_i ds e1
    cases hf
    refine ha H0 G0 γ σ H G _ _ ev e1 fun v H' G' s r => ?_
    obtain ⟨l, us, e2, h0, hg, hl, ra⟩ := r
    subst e2
    refine p _ H' G' ((ev.stp s).seto (HS := H) (fun j dj q _ h1 h2 => ?_) hg (ev.st.ex.free h0) hl ra)
    obtain ⟨o', vs', h3, _, _, h4, _⟩ := ev.ow h1
    rw [h2] at h3
    cases h3
    exact ne_of_none h4 h0
  · rename_i c e1
    cases hf
    exact ha H0 G0 γ σ H G _ _ ev e1 (ev.er p)
  · cases hf
theorem js_set {i : Nat} {x : Str} {p0 : Pos} (hN : X.N.Nodup) (ha : JE K X M E .cl a ta fa) (hi : X.N[i]? = some x := by rfl) (hx : Loc X.env.scope x := by first | exact Or.inl rfl | exact Or.inr rfl) (hs : swapsWith a (some (.Name x p0)) pos.line X.env = pure false := by rfl) (hf : X.fn x = true ∨ X.env.scope.names.lookup x = some .local := by first | exact .inl rfl | exact .inr rfl) :
    JS K X M E (.Assign [.Name x p0] a pos) (tAsg ta (gName i)) (sSet i fa) := ⟨ps_set hN hi hx ha.pe hs hf, so_set ha.eo⟩
theorem js_setO {i : Nat} {x : Str} {p0 : Pos} (hN : X.N.Nodup) (ha : JE K X M E .fr a ta fa) (hi : X.N[i]? = some x := by rfl) (hx : Loc X.env.scope x := by first | exact Or.inl rfl | exact Or.inr rfl) (hs : swapsWith a (some (.Name x p0)) pos.line X.env = pure false := by rfl) (hf : X.fn x = true ∨ X.env.scope.names.lookup x = some .local := by first | exact .inl rfl | exact .inr rfl) :
    JS K X M E (.Assign [.Name x p0] a pos) (tAsg ta (gName i)) (sSetO i fa) := ⟨ps_set hN hi hx ha.pe hs hf, so_setO ha.eo⟩
/-- target = e, any target -/
theorem so_asg {K : PySem.W.Frag} {js : List Nat} {gg : TG} {gf : D → Ge → Option Ge} (ha : EO K M E .cl ta fa) (hg : GO K M js gg gf) : SO K M E (tAsg ta gg) (sAsg fa gf) := fun H0 G0 γ σ H G De o ev hf p => by
  unfold sAsg at hf
  split at hf
  · rename_i d e1
    split at hf
    · rename_i γ1 e2
      cases hf
      exact ha H0 G0 γ σ H G _ _ ev e1 fun v H' G' s r => hg H0 G0 γ γ1 σ H' G' v d _ (ev.stp s) r e2 fun σ' ev' _ => p σ' H' G' ev'
    · cases hf
  · rename_i c e1
    cases hf
    exact ha H0 G0 γ σ H G _ _ ev e1 (ev.er p)
  · cases hf
theorem js_asg {tg : Expr} {js : List Nat} {gg : TG} {gf : D → Ge → Option Ge} (ha : JE K X M E .cl a ta fa) (hg : JG K X M tg js gg gf) (hs : swapsWithSole [tg] a pos.line X.env = pure false := by rfl) (hw : swappedStores [tg] a X.env = pure none := by rfl)
    (h1 : (assignEach [tg] X.env).map (·.2) = [assign tg X.env] := by rfl) : JS K X M E (.Assign [tg] a pos) (tAsg ta gg) (sAsg fa gf) := ⟨ps_asg ha.pe hg.pg hs hw h1, so_asg ha.eo hg.go⟩
/-- y = [.. for ..] on one line, y a local -/
theorem ps_lcset {i : Nat} {y : Str} {py : Pos} {elt tg iter : Expr} {ifs : List Expr} {scope : Scope} {own : List (Str × Nat)} {js : List Nat} {wi : TI} {g : TG} {tt : TT} {te : TE} {w : Fa} {gf : D → Ge → Option Ge} {cf : Ft} {ef : Fe} {spos : Pos} (C : CxF K X E k) (hi : JI K X M E tg iter wi w) (ok : BlkOk X.N X.env.scope scope own)
    (hg : ∀ (s : Shared) (H : Hp) (Cc : Addr) (cl : List (Str × Addr)) (fp : List Addr), JG K (X.blk s H scope (compEnvC scope cl Cc X.env) fp) M tg js g gf) (ht : ∀ (s : Shared) (H : Hp) (Cc : Addr) (cl : List (Str × Addr)) (fp : List Addr), JTs K (X.blk s H scope (compEnvC scope cl Cc X.env) fp) M E0 ifs tt cf)
    (he : ∀ (s : Shared) (H : Hp) (Cc : Addr) (cl : List (Str × Addr)) (fp : List Addr), JE K (X.blk s H scope (compEnvC scope cl Cc X.env) fp) M E0 .cl elt te ef)
    (hy : X.N[i]? = some y) (hyl : X.env.scope.names.lookup y = some .local)
    (hsw : swapsWith (.ListComp elt [⟨tg, iter, ifs, 0⟩] scope pos) (some (.Name y py)) spos.line X.env = pure true) (hs : ∀ x, foldedSetIterable iter X.env x = pure x) :
    PS X (.Assign [.Name y py] (.ListComp elt [⟨tg, iter, ifs, 0⟩] scope pos) spos) (tAsg (tLc wi g tt te (own.map (·.2))) (gName i)) :=
  ps_setLc C.calm C.nd hy hyl hsw hi.pi ok (fun s H Cc cl fp => (hg s H Cc cl fp).pg) (fun s H Cc cl fp => (ht s H Cc cl fp).pts) (fun s H Cc cl fp => (he s H Cc cl fp).pe) hs
theorem so_f2c {K : PySem.W.Frag} {te : TE} {fe : Fe} (h : EO K M E .fr te fe) : EO K M E .cl te fe := fun H0 G0 γ σ H G Q r ev hf p => h H0 G0 γ σ H G Q r ev hf (by
  cases r with
  | ok d => exact fun v H' G' s r => let ⟨G2, s2, _, r2⟩ := freeze s r; p v H' G2 s2 r2
  | er c => exact p)
theorem js_setLc {i : Nat} {y : Str} {py : Pos} {elt tg iter : Expr} {ifs : List Expr} {scope : Scope} {own : List (Str × Nat)} {js : List Nat} {wi : TI} {g : TG} {tt : TT} {te : TE} {w : Fa} {gf : D → Ge → Option Ge} {cf : Ft} {ef : Fe} {spos : Pos} (C : CxF K X E k) (hi : JI K X M E tg iter wi w) (ok : BlkOk X.N X.env.scope scope own)
    (hg : ∀ (s : Shared) (H : Hp) (Cc : Addr) (cl : List (Str × Addr)) (fp : List Addr), JG K (X.blk s H scope (compEnvC scope cl Cc X.env) fp) M tg js g gf) (ht : ∀ (s : Shared) (H : Hp) (Cc : Addr) (cl : List (Str × Addr)) (fp : List Addr), JTs K (X.blk s H scope (compEnvC scope cl Cc X.env) fp) M E0 ifs tt cf)
    (he : ∀ (s : Shared) (H : Hp) (Cc : Addr) (cl : List (Str × Addr)) (fp : List Addr), JE K (X.blk s H scope (compEnvC scope cl Cc X.env) fp) M E0 .cl elt te ef)
    (hsw : swapsWith (.ListComp elt [⟨tg, iter, ifs, 0⟩] scope pos) (some (.Name y py)) spos.line X.env = pure true) (hy : X.N[i]? = some y := by rfl) (hyl : X.env.scope.names.lookup y = some .local := by rfl) (hj : ∀ j ∈ js, j ∈ own.map (·.2) := by decide) (hs : ∀ x, foldedSetIterable iter X.env x = pure x := by intro _; rfl) :
    JS K X M E (.Assign [.Name y py] (.ListComp elt [⟨tg, iter, ifs, 0⟩] scope pos) spos) (tAsg (tLc wi g tt te (own.map (·.2))) (gName i)) (sSet i (fLc w gf cf ef (own.map (·.2)))) :=
  ⟨ps_lcset C hi ok hg ht he hy hyl hsw hs, so_set (so_f2c (eo_lc hi.wo (hg ({} : Shared) (fun _ => none) 0 [] []).go hj (ht ({} : Shared) (fun _ => none) 0 [] []).to (he ({} : Shared) (fun _ => none) 0 [] []).eo))⟩
theorem js_setLcO {i : Nat} {y : Str} {py : Pos} {elt tg iter : Expr} {ifs : List Expr} {scope : Scope} {own : List (Str × Nat)} {js : List Nat} {wi : TI} {g : TG} {tt : TT} {te : TE} {w : Fa} {gf : D → Ge → Option Ge} {cf : Ft} {ef : Fe} {spos : Pos} (C : CxF K X E k) (hi : JI K X M E tg iter wi w) (ok : BlkOk X.N X.env.scope scope own)
    (hg : ∀ (s : Shared) (H : Hp) (Cc : Addr) (cl : List (Str × Addr)) (fp : List Addr), JG K (X.blk s H scope (compEnvC scope cl Cc X.env) fp) M tg js g gf) (ht : ∀ (s : Shared) (H : Hp) (Cc : Addr) (cl : List (Str × Addr)) (fp : List Addr), JTs K (X.blk s H scope (compEnvC scope cl Cc X.env) fp) M E0 ifs tt cf)
    (he : ∀ (s : Shared) (H : Hp) (Cc : Addr) (cl : List (Str × Addr)) (fp : List Addr), JE K (X.blk s H scope (compEnvC scope cl Cc X.env) fp) M E0 .cl elt te ef)
    (hsw : swapsWith (.ListComp elt [⟨tg, iter, ifs, 0⟩] scope pos) (some (.Name y py)) spos.line X.env = pure true) (hy : X.N[i]? = some y := by rfl) (hyl : X.env.scope.names.lookup y = some .local := by rfl) (hj : ∀ j ∈ js, j ∈ own.map (·.2) := by decide) (hs : ∀ x, foldedSetIterable iter X.env x = pure x := by intro _; rfl) :
    JS K X M E (.Assign [.Name y py] (.ListComp elt [⟨tg, iter, ifs, 0⟩] scope pos) spos) (tAsg (tLc wi g tt te (own.map (·.2))) (gName i)) (sSetO i (fLc w gf cf ef (own.map (·.2)))) :=
  ⟨ps_lcset C hi ok hg ht he hy hyl hsw hs, so_setO (eo_lc hi.wo (hg ({} : Shared) (fun _ => none) 0 [] []).go hj (ht ({} : Shared) (fun _ => none) 0 [] []).to (he ({} : Shared) (fun _ => none) 0 [] []).eo)⟩
/-- x.append(e), x an own list -/
theorem js_app {i : Nat} {x : Str} {p0 apos cpos : Pos} (C : CxF K X E k) (ho : PE X (.Name x p0) (tVar i)) (ha : JE K X M E .cl a ta fa)
    (hp : PE X (.Call (.Attribute (.Name x p0) "append" apos) [a] [] cpos) (tBM K "list" rAppend (tVar i) (tCons ta tNil))) (hs : swapsWith (.Call (.Attribute (.Name x p0) "append" apos) [a] [] cpos) none pos.line X.env = pure false := by rfl) :
    JS K X M E (.Expr (.Call (.Attribute (.Name x p0) "append" apos) [a] [] cpos) pos) (tDrop (tBM K "list" rAppend (tVar i) (tCons ta tNil))) (sApp i fa) := by
  have hK := C.hK
  subst hK
  exact ⟨ps_expr hp hs, fun H0 G0 γ σ H G De o ev hf p => by
  unfold sApp at hf
  split at hf
  · rename_i ds e1
    obtain ⟨l, vs, h1, hg, h0, h2, h3⟩ := ev.ow e1
    split at hf
    · rename_i d e2
      split at hf
      · rename_i hz
        cases hf
        refine ⟨_, h1, .inl ⟨rfl, vs, .of h2⟩, ?_⟩
        refine ha.eo H0 G0 γ σ H G _ _ ev e2 fun v H' G' s r => ?_
        have hl : H' l = some (.lst vs) := s.ex _ _ h2
        have r' : R X.K M G' v d := r
        exact ⟨l, vs, v, rfl, rfl, hl, by rw [h3.len]; exact big_line' hz, p _ _ G' ((ev.stp s).wr e1 h1 hl ((h3.mono s.eg).app (.one r')))⟩
      · cases hf
    · rename_i c e2
      cases hf
      refine ⟨_, h1, .inl ⟨rfl, vs, .of h2⟩, ?_⟩
      exact ha.eo H0 G0 γ σ H G _ _ ev e2 (ev.er p)
    · cases hf
  · cases hf⟩
/-- .. its rule from its parts -/
theorem js_appX {i : Nat} {x : Str} {p0 apos cpos : Pos} (C : CxF K X E k) (ho : JE K X M E .op (.Name x p0) (tVar i) (fOpd i)) (ha : JE K X M E .cl a ta fa)
    (hbase : attributeBase (.Name x p0) "append" X.env (eval (.Name x p0) X.env) = eval (.Name x p0) X.env := by rfl)
    (hfew : ((backTo cpos (starEach [a] X.env)).all (fun x => !x.1) && (backToKw cpos (keywordEach [] X.env)).all (fun x => x.1.isSome)
      && decide ([a].length + ([] : List Keyword).length + (if ([] : List Keyword).isEmpty then 0 else 1) < 30)) = true := by rfl)
    (hline : (apos.endLine == cpos.line) = true := by rfl) (hst : starEach [a] X.env = (false, eval a X.env) :: starEach [] X.env := by rfl) (hs : swapsWith (.Call (.Attribute (.Name x p0) "append" apos) [a] [] cpos) none pos.line X.env = pure false := by rfl) :
    JS K X M E (.Expr (.Call (.Attribute (.Name x p0) "append" apos) [a] [] cpos) pos) (tDrop (tBM K "list" rAppend (tVar i) (tCons ta tNil))) (sApp i fa) := by
  have hK := C.hK
  subst hK
  exact js_app C ho.pe ha (pe_bm PySem.F.plainAttrs_list PySem.F.slot_list_append PySem.F.type_list_append mt_append ho.pe (pa_cons ha.pe pa_nil hst) hbase hfew hline hst rfl) hs
/-! ### loops -/
theorem EnvR.reG {K : PySem.W.Frag} {H0 G0 H G H1 G1 : Hp} {γ γ1 : Ge} {σ σ1 : L2.St} (e : EnvR K M H0 G0 γ σ H G) (e1 : EnvR K M H0 G γ1 σ1 H1 G1) : EnvR K M H0 G0 γ1 σ1 H1 G1 :=
  ⟨⟨e1.st.ex, e.st.eg.trans e1.st.eg, e1.st.sub, fun p o h n => e1.st.nw p o h (e.st.nw p o h n)⟩, e1.len, e1.sl, e1.ap, e1.kp⟩
theorem EnvR.toG {K : PySem.W.Frag} {H0 G0 H G : Hp} {γ : Ge} {σ : L2.St} (e : EnvR K M H0 G0 γ σ H G) : EnvR K M H0 G γ σ H G :=
  ⟨⟨e.st.ex, Same.refl _, e.st.sub, fun _ _ _ n => n⟩, e.len, e.sl, e.ap, e.kp⟩
theorem Stp.reG {H0 G0 H G H1 G1 : Hp} (e : Stp H0 G0 H G) (e1 : Stp H0 G H1 G1) : Stp H0 G0 H1 G1 := ⟨e1.ex, e.eg.trans e1.eg, e1.sub, fun p o h n => e1.nw p o h (e.nw p o h n)⟩
theorem PostS.reG {K : PySem.W.Frag} {H0 G0 H G : Hp} {γ : Ge} {σ : L2.St} {De : Ends} {o : Out} (e : EnvR K M H0 G0 γ σ H G) (p : PostS K M E H0 G0 De o) : PostS K M E H0 G De o := by
  cases o with
  | nx γ1 => exact fun σ' H' G' e' => p σ' H' G' (e.reG e')
  | bk γ1 => exact fun σ' H' G' e' => p σ' H' G' (e.reG e')
  | ct γ1 => exact fun σ' H' G' e' => p σ' H' G' (e.reG e')
  | rt d => exact fun v H' G' s r => p v H' G' (e.st.reG s) r
  | er c => exact fun H' G' s => p H' G' (e.st.reG s)
theorem so_for {K : PySem.W.Frag} {wi : TI} {js : List Nat} {gg : TG} {gf : D → Ge → Option Ge} {w : Fa} (hw : WO K M E wi w) (hg : GO K M js gg gf) (hb : SO K M E t f) : SO K M E (tFor wi gg t) (sFor w gf f) := fun H0 G0 γ σ H G De o ev hf p => by
  unfold sFor at hf
  split at hf
  · rename_i ds e1
    refine hw H0 G0 γ σ H G _ _ ev e1 fun J H1 G1 s1 itr => ?_
    have ev1 := ev.stp s1
    have p1 := p.reG ev1
    refine ⟨fun i mm σ' H' => mm = ds.length - i ∧ i ≤ ds.length ∧ ∃ γ' G', EnvR K M H0 G1 γ' σ' H' G' ∧ forF gf f (ds.drop i) γ' = some o, ⟨ds.length, by simp, Nat.zero_le _, γ, G1, ev1.toG, hf⟩, ?_⟩
    rintro i mm σ2 H2 ⟨rfl, hi, γ2, G2, ev2, el⟩
    obtain ⟨go, yl, sp⟩ := itr H2 G2 ev2.st.eg ev2.st.sub i
    by_cases hlt : i < ds.length
    · refine .inr ⟨go hlt, fun σ' H' => ∃ γ' G', EnvR K M H0 G1 γ' σ' H' G' ∧ forF gf f (ds.drop (i + 1)) γ' = some o, fun σ' H' ⟨γ', G', q1, q2⟩ => ⟨ds.length - (i + 1), by omega, rfl, hlt, γ', G', q1, q2⟩, fun x H3 hy => ?_⟩
      have hd : ds[i]? = some ds[i] := List.getElem?_eq_getElem hlt
      obtain ⟨G3, s3, rx⟩ := yl x H3 _ hd hy
      rw [List.drop_eq_getElem_cons hlt] at el
      unfold forF at el
      split at el
      · cases el
      · rename_i γ3 eg
        refine hg H0 G1 γ2 γ3 σ2 H3 G3 x ds[i] _ (ev2.stp s3) rx eg fun σ3 ev3 _ => ?_
        split at el
        · rename_i γ4 eb
          exact hb H0 G1 γ3 σ3 H3 G3 _ _ ev3 eb fun σ' H' G' q => ⟨γ4, G', q, el⟩
        · rename_i γ4 eb
          exact hb H0 G1 γ3 σ3 H3 G3 _ _ ev3 eb fun σ' H' G' q => ⟨γ4, G', q, el⟩
        · rename_i γ4 eb
          cases el
          exact hb H0 G1 γ3 σ3 H3 G3 _ _ ev3 eb fun σ' H' G' q => p1 σ' H' G' q
        · rename_i d eb
          cases el
          exact hb H0 G1 γ3 σ3 H3 G3 _ _ ev3 eb p1
        · rename_i c eb
          cases el
          exact hb H0 G1 γ3 σ3 H3 G3 _ _ ev3 eb p1
        · cases el
    · have ei : i = ds.length := by omega
      subst ei
      rw [List.drop_length] at el
      cases el
      exact .inl ⟨sp (Nat.le_refl _), p1 σ2 H2 G2 ev2⟩
  · rename_i e1
    cases hf
    exact hw H0 G0 γ σ H G _ _ ev e1 fun H' G' s => p H' G' (ev.st.trans s)
  · cases hf
theorem js_for {tg iter : Expr} {body : List Stmt} {wi : TI} {js : List Nat} {gg : TG} {gf : D → Ge → Option Ge} {w : Fa} (C : CxF K X E k) (hi : JI K X M E tg iter wi w) (hg : JG K X M tg js gg gf) (hb : JB K X M E body t f)
    (hs : ∀ x, foldedSetIterable iter X.env x = pure x := by intro _; rfl) : JS K X M E (.For tg iter body [] pos) (tFor wi gg t) (sFor w gf f) := ⟨ps_for C.own C.calm hi.pi hg.pg hb.ps hs, so_for hi.wo hg.go hb.so⟩
theorem so_wh {K : PySem.W.Frag} {tt : TT} {ft : Ft} (hc : TO' K M E tt ft) (hb : SO K M E t f) : SO K M E (tWhile tt t) (sWh ft f) := fun H0 G0 γ σ H G De o ev hf p => by
  refine ⟨fun m σ' H' => ∃ γ' G', EnvR K M H0 G0 γ' σ' H' G' ∧ whF ft f m γ' = some o, ⟨fuel, γ, G, ev, hf⟩, ?_⟩
  rintro m σ2 H2 ⟨γ2, G2, ev2, el⟩
  cases m with
  | zero => cases el
  | succ m =>
    unfold whF at el
    split at el
    · rename_i ec
      refine hc H0 G0 γ2 σ2 H2 G2 _ _ ev2 ec fun H3 G3 s3 => ?_
      rw [if_pos rfl]
      have ev3 := ev2.stp s3
      refine ⟨fun σ' H' => ∃ γ' G', EnvR K M H0 G0 γ' σ' H' G' ∧ whF ft f m γ' = some o, fun σ' H' q => ⟨m, Nat.lt_succ_self _, q⟩, ?_⟩
      split at el
      · rename_i γ4 eb
        exact hb H0 G0 γ2 σ2 H3 G3 _ _ ev3 eb fun σ' H' G' q => ⟨γ4, G', q, el⟩
      · rename_i γ4 eb
        exact hb H0 G0 γ2 σ2 H3 G3 _ _ ev3 eb fun σ' H' G' q => ⟨γ4, G', q, el⟩
      · rename_i γ4 eb
        cases el
        exact hb H0 G0 γ2 σ2 H3 G3 _ _ ev3 eb fun σ' H' G' q => p σ' H' G' q
      · rename_i d eb
        cases el
        exact hb H0 G0 γ2 σ2 H3 G3 _ _ ev3 eb p
      · rename_i c eb
        cases el
        exact hb H0 G0 γ2 σ2 H3 G3 _ _ ev3 eb p
      · cases el
    · rename_i ec
      cases el
      refine hc H0 G0 γ2 σ2 H2 G2 _ _ ev2 ec fun H3 G3 s3 => ?_
      rw [if_neg Bool.false_ne_true]
      exact p σ2 H3 G3 (ev2.stp s3)
    · rename_i ec
      cases el
      exact hc H0 G0 γ2 σ2 H2 G2 _ _ ev2 ec fun H' G' s => p H' G' (ev2.st.trans s)
    · cases el
theorem js_wh {body : List Stmt} {tt : TT} {ft : Ft} (C : CxF K X E k) (hc : JT K X M E c tt ft) (hb : JB K X M E body t f) : JS K X M E (.While c body [] pos) (tWhile tt t) (sWh ft f) := ⟨ps_while C.own hc.pt hb.ps, so_wh hc.to hb.so⟩
/-- raise X('..') -/
theorem js_raise {x : Str} {t : L2.St → Hp → XK → Prop} {cn : Str} (C : CxF K X E k) (tk : Takes X (fun cls d _ H => E cls d H)) (he : PMk X a t) (ht : ∀ σ H (Q : XK), Q (M.exc cn) none H → t σ H Q) : JS K X M E (.Raise (some a) none pos) (fun _ σ H => t σ H fun cls d H' => E cls d H') (sRaise cn) :=
  ⟨ps_raise C.calm tk he, fun H0 G0 γ σ H G De o ev hf p => by cases hf; exact ht σ H _ (p H G ev.st)⟩
end

/-! ### the rule of a def -/
def entry (n : Nat) (ds : List D) : Ge := ds.map Sl.va ++ List.replicate (n - ds.length) .no
def runF (np n : Nat) (f : Fs) : List D → Option Rs := fun ds => if ds.length = np then (match f (entry n ds) with
  | some (.nx _) => some (.ok .none)
  | some (.rt d) => some (.ok d)
  | some (.er c) => some (.er c)
  | _ => none) else none
theorem env_entry {K : PySem.W.Frag} {M : Pm} {H G : Hp} {N : List Str} {vs : List V} {ds : List D} (e : Same G H) (r : RA K M G vs ds) (kp : Same M.kp H) : EnvR K M H G (entry N.length ds) (L2.start N vs) H G := by
  refine ⟨Stp.refl e, by unfold L2.start entry; simp [r.len], fun i s x h1 h2 => ?_, fun i j si sj xi xj o h1 h2 h3 h4 h5 h6 => ?_, kp⟩
  · unfold entry at h1
    unfold L2.start at h2
    by_cases hi : i < ds.length
    · rw [List.getElem?_append_left (by simpa using hi), List.getElem?_map, List.getElem?_eq_getElem hi] at h1
      cases h1
      obtain ⟨v, q1, q2⟩ := r.get (List.getElem?_eq_getElem hi)
      rw [List.getElem?_append_left (by rw [List.length_map, r.len]; exact hi), List.getElem?_map, q1] at h2
      cases h2
      exact ⟨v, rfl, q2⟩
    · rw [List.getElem?_append_right (by simpa using hi), List.getElem?_replicate] at h1
      split at h1
      · cases h1; trivial
      · cases h1
  · exfalso
    unfold entry at h1
    by_cases hi : i < ds.length
    · rw [List.getElem?_append_left (by simpa using hi), List.getElem?_map, List.getElem?_eq_getElem hi] at h1
      cases h1
      exact h5
    · rw [List.getElem?_append_right (by simpa using hi), List.getElem?_replicate] at h1
      split at h1
      · cases h1; exact h5
      · cases h1
/-- what the body of a def stands in -/
theorem cxf_of {P : Program} {w : World} {K : PySem.W.Frag} {mg : Str → Option Value} {base : Heap} {N ps : List Str} {qual : Str} {scope : Scope} {f : Addr} {cd : Value} {A : Around} {outer : List Env} {s : Shared} {H : Hp} {E : XK} {k : Nat} (S : FnScope N ps scope)
    (hr : Room k (A.deeper (envOfC qual scope s.heap.objs.size f cd))) : CxF K (cxOf (L2.CX P w) P w K mg base N qual scope f cd A outer s H E) E k ∧ Takes (cxOf (L2.CX P w) P w K mg base N qual scope f cd A outer s H E) (fun cls d _ H => E cls d H) := by
  have tk : Takes (cxOf (L2.CX P w) P w K mg base N qual scope f cd A outer s H E) (fun cls d _ H => E cls d H) := takes_of rfl rfl rfl rfl
  exact ⟨⟨rfl, rfl, S.nd, passes_call tk fun _ _ _ _ h => h, passes_of (K := fun e s'' => L2.CX P w outer H s E e s'') rfl, hr⟩, tk⟩
theorem fn_ok {P : Program} {w : World} {K : PySem.W.Frag} {mg : Str → Option Value} {base : Heap} {M : Pm} {x qual : Str} {st : Stmt} {f : Addr} {fd : FuncData} {N ps : List Str} {k : Nat} {g : Fs} (F : Fun K x qual st f fd) (S : FnScope N ps (defScope st))
    (hb : ∀ (cdv : Value) (A : Around) (outer : List Env) (s : Shared) (H : Hp) (E : XK), CxF K (cxOf (L2.CX P w) P w K mg base N qual (defScope st) f cdv A outer s H E) E k → Takes (cxOf (L2.CX P w) P w K mg base N qual (defScope st) f cdv A outer s H E) (fun cls d _ H => E cls d H) →
      ∃ t, JB K (cxOf (L2.CX P w) P w K mg base N qual (defScope st) f cdv A outer s H E) M E (defBody st) t g) : FnOk P w K mg base (L2.CX P w) (k + 1) f fd ps (spF K M (runF ps.length N.length g)) := by
  have len : ∀ vs H Q E, spF K M (runF ps.length N.length g) vs H Q E → vs.length = ps.length := by
    rintro vs H Q E ⟨G, ds, r, _, ra, e, _⟩
    unfold runF at e
    split at e
    · rename_i hl
      rw [ra.len]; exact hl
    · cases e
  refine F.okX S len fun cdv A outer s H vs Q E hr h => ?_
  obtain ⟨C, tk⟩ := cxf_of (P := P) (w := w) (K := K) (mg := mg) (base := base) (qual := qual) (s := s) (H := H) (E := E) (outer := outer) S hr
  obtain ⟨t, J⟩ := hb cdv A outer s H E C tk
  refine ⟨t, J.ps, ?_⟩
  obtain ⟨G, ds, r, e, ra, er, p, kp⟩ := h
  unfold runF at er
  split at er
  · split at er
    · rename_i γ1 ef
      cases er
      exact J.so H G _ _ H G _ _ (env_entry e ra kp) ef fun σ' H' G' ev => p .non H' G' ev.st .non
    · rename_i d ef
      cases er
      exact J.so H G _ _ H G _ _ (env_entry e ra kp) ef fun v H' G' s r => p v H' G' s r
    · rename_i c ef
      cases er
      exact J.so H G _ _ H G _ _ (env_entry e ra kp) ef fun H' G' s => p H' G' s
    · cases er
  · cases er
/-- a def of the text, where it stands -/
structure Df (K : PySem.W.Frag) (mg : Str → Option Value) (x : Str) (st : Stmt) (ps : List Str) (f : Addr) (fd : FuncData) : Prop where
  F : Fun K x x st f fd
  b : Binds K fd ps []
  m : mg x = some (.ref f)
/-- with no level nothing is told -/
theorem fn_zero {P : Program} {w : World} {K : PySem.W.Frag} {mg : Str → Option Value} {base : Heap} {M : Pm} {f : Addr} {fd : FuncData} {ps : List Str} : FnOk P w K mg base (L2.CX P w) 0 f fd ps (spF K M fun _ => none) := by
  have no : ∀ vs H Q E, ¬ spF K M (fun _ => none) vs H Q E := by
    rintro vs H Q E ⟨_, _, _, _, _, e, _⟩
    cases e
  exact ⟨fun vs H Q E h => absurd h (no vs H Q E), fun A outer s H args us vs Q E _ _ _ _ h => absurd h (no vs H Q E)⟩
end Py


/-! PyG: built-ins -/
namespace Py
open PySem PySem.Spec PyProof.Rows L2

section
variable {K : PySem.W.Frag} {X : Cx} {M : Pm} {E : XK} {k : Nat} {m : Md} {a b e c : Expr} {ta tb te tc : TE} {fa fb fe fc : Fe} {pos : Pos}

/-! min of two ints -/
def rMin2 : List V → Hp → VK → Prop := fun xs H Q => ∃ i j, xs = [.int i, .int j] ∧ Q (.int (if j < i then j else i)) H
def oMin2 : List D → Option D
  | [.int i, .int j] => some (.int (if j < i then j else i))
  | _ => none
theorem cs_min2 {K : PySem.W.Frag} : CallS K M .cl rMin2 oMin2 := by
  intro H G vs ds dz Q e r ho q
  unfold oMin2 at ho
  split at ho
  · rename_i i j
    cases ho
    cases r with
    | cons r t =>
      cases t with
      | cons r' t =>
        cases t
        cases (show R K M G _ (.int i) from r)
        cases (show R K M G _ (.int j) from r')
        exact ⟨i, j, rfl, q _ H G (Stp.refl e) (R.int _)⟩
  · cases ho
theorem je_min2 {p : Pos} (C : CxF K X E k) (hm : X.mg "min" = none) (hg : Gl X "min") (ha : JE K X M E .op a ta fa) (hb : JE K X M E .op b tb fb)
    (hs3 : starEach [a, b] X.env = (false, eval a X.env) :: starEach [b] X.env := by rfl) (hs4 : starEach [b] X.env = (false, eval b X.env) :: starEach [] X.env := by rfl) (hpl : (backTo pos (starEach [b] X.env)).any (·.1) = false := by rfl) :
    JE K X M E .cl (.Call (.Name "min" p) [a, b] [] pos) (tCB rMin2 (tCons ta (tCons tb tNil))) (fB oMin2 (fCons fa (fCons fb fNil))) :=
  je_callB (call_min2 C.calm) cs_min2 hm (by decide +kernel) hg (ja_cons ha (ja_cons hb ja_nil hs4) hs3) (by decide) (by decide) hs3 hpl

/-! any, all of a list of truths -/
def boolsOf : List D → Option (List Bool)
  | [] => some []
  | .bool b :: r => (match boolsOf r with
    | some bs => some (b :: bs)
    | none => none)
  | _ :: _ => none
theorem boolsOf_eq : ∀ {ds : List D} {bs : List Bool}, boolsOf ds = some bs → ds = bs.map PyData.bool
  | [], bs, h => by cases h; rfl
  | d :: r, bs, h => by
    cases d with
    | bool b =>
      unfold boolsOf at h
      split at h
      · rename_i bs' e
        cases h
        rw [boolsOf_eq e]
        rfl
      · cases h
    | _ => cases h
theorem boolsOf_map : ∀ (bs : List Bool), boolsOf (bs.map PyData.bool) = some bs
  | [] => rfl
  | b :: r => by
    show (match boolsOf (r.map PyData.bool) with | some bs => some (b :: bs) | none => none) = _
    rw [boolsOf_map r]
def oAny : List D → Option D
  | [.list ds] => (match boolsOf ds with
    | some bs => some (.bool (bs.any id))
    | none => none)
  | _ => none
def oAll : List D → Option D
  | [.list ds] => (match boolsOf ds with
    | some bs => some (.bool (bs.all id))
    | none => none)
  | _ => none
theorem cs_any {K : PySem.W.Frag} : CallS K M .cl (rAny K) oAny := by
  intro H G vs ds dz Q e r ho q
  unfold oAny at ho
  split at ho
  · split at ho
    · rename_i bs eb
      cases ho
      have eb := boolsOf_eq eb
      subst eb
      cases r with
      | cons r t =>
        cases t
        obtain ⟨l, us, e1, h, ra⟩ := r
        subst e1
        exact ⟨l, bs, rfl, by rw [← ra.bools]; exact h, q _ H G (Stp.refl e) (R.bl _)⟩
    · cases ho
  · cases ho
theorem cs_all {K : PySem.W.Frag} : CallS K M .cl (rAll K) oAll := by
  intro H G vs ds dz Q e r ho q
  unfold oAll at ho
  split at ho
  · split at ho
    · rename_i bs eb
      cases ho
      have eb := boolsOf_eq eb
      subst eb
      cases r with
      | cons r t =>
        cases t
        obtain ⟨l, us, e1, h, ra⟩ := r
        subst e1
        exact ⟨l, bs, rfl, by rw [← ra.bools]; exact h, q _ H G (Stp.refl e) (R.bl _)⟩
    · cases ho
  · cases ho
theorem je_any {p : Pos} (C : CxF K X E k) (hm : X.mg "any" = none) (hg : Gl X "any") (ha : JE K X M E .op a ta fa) (hs : starEach [a] X.env = (false, eval a X.env) :: starEach [] X.env := by rfl) : JE K X M E .cl (.Call (.Name "any" p) [a] [] pos) (tCB (rAny K) (tCons ta tNil)) (fB oAny (fCons fa fNil)) := by
  have hK := C.hK
  subst hK
  exact je_callB (cr_any C.calm) cs_any hm (by decide +kernel) hg (ja_cons ha ja_nil hs) (by decide) (by decide) hs rfl
theorem je_all {p : Pos} (C : CxF K X E k) (hm : X.mg "all" = none) (hg : Gl X "all") (ha : JE K X M E .op a ta fa) (hs : starEach [a] X.env = (false, eval a X.env) :: starEach [] X.env := by rfl) : JE K X M E .cl (.Call (.Name "all" p) [a] [] pos) (tCB (rAll K) (tCons ta tNil)) (fB oAll (fCons fa fNil)) := by
  have hK := C.hK
  subst hK
  exact je_callB (cr_all C.calm) cs_all hm (by decide +kernel) hg (ja_cons ha ja_nil hs) (by decide) (by decide) hs rfl
/-! list(xs), tuple(xs), int(flag) -/
def rListA (K : PySem.W.Frag) : List V → Hp → VK → Prop := fun xs H Q => ∃ p ys, xs = [.ref p] ∧ (SqL K H p ys ∨ SqT K H p ys) ∧ ∀ l, H l = none → Q (.ref l) (upd H l (.lst ys))
def oList : List D → Option D
  | [.list ds] => some (.list ds)
  | [.tuple ds] => some (.list ds)
  | _ => none
theorem cs_list {K : PySem.W.Frag} : CallS K M .fr (rListA K) oList := by
  intro H G vs ds dz Q e r ho q
  unfold oList at ho
  split at ho
  · rename_i ds
    cases ho
    cases r with
    | cons r t =>
      cases t
      obtain ⟨l, us, e1, h, ra⟩ := r
      subst e1
      exact ⟨l, us, rfl, .inl h, fun p hp => q _ _ G (Stp.newO e hp) ⟨p, us, rfl, hp, e.free hp, upd_same, ra⟩⟩
  · rename_i ds
    cases ho
    cases r with
    | cons r t =>
      cases t
      obtain ⟨l, us, e1, h, ra⟩ := R.tupI (show R K M G _ (.tuple ds) from r)
      subst e1
      exact ⟨l, us, rfl, .inr (same_T e h), fun p hp => q _ _ G (Stp.newO e hp) ⟨p, us, rfl, hp, e.free hp, upd_same, ra⟩⟩
  · cases ho
theorem je_list {p : Pos} (C : CxF K X E k) (hm : X.mg "list" = none) (hg : Gl X "list") (ha : JE K X M E .op a ta fa) (hs : starEach [a] X.env = (false, eval a X.env) :: starEach [] X.env := by rfl) : JE K X M E .fr (.Call (.Name "list" p) [a] [] pos) (tCB (rListA K) (tCons ta tNil)) (fB oList (fCons fa fNil)) := by
  have hK := C.hK
  subst hK
  exact je_callTy call_list_of cs_list hm (by decide +kernel) hg (ja_cons ha ja_nil hs) (by decide) (by decide) hs rfl
def rTupleA (K : PySem.W.Frag) : List V → Hp → VK → Prop := fun xs H Q => ∃ p ys, xs = [.ref p] ∧ ((SqL K H p ys ∧ ∀ l, H l = none → Q (.ref l) (upd H l (.tup ys))) ∨ (SqT K H p ys ∧ Q (.ref p) H))
def oTuple : List D → Option D
  | [.list ds] => some (.tuple ds)
  | _ => none
theorem cs_tuple {K : PySem.W.Frag} : CallS K M .cl (rTupleA K) oTuple := by
  intro H G vs ds dz Q e r ho q
  unfold oTuple at ho
  split at ho
  · rename_i ds
    cases ho
    cases r with
    | cons r t =>
      cases t
      obtain ⟨l, us, e1, h, ra⟩ := r
      subst e1
      refine ⟨l, us, rfl, .inl ⟨h, fun p hp => ?_⟩⟩
      have s := Stp.new (o := .tup us) e hp
      exact q _ _ _ s (R.tup (.of upd_same) (ra.mono s.eg))
  · cases ho
theorem je_tuple {p : Pos} (C : CxF K X E k) (hm : X.mg "tuple" = none) (hg : Gl X "tuple") (ha : JE K X M E .op a ta fa) (hs : starEach [a] X.env = (false, eval a X.env) :: starEach [] X.env := by rfl) : JE K X M E .cl (.Call (.Name "tuple" p) [a] [] pos) (tCB (rTupleA K) (tCons ta tNil)) (fB oTuple (fCons fa fNil)) := by
  have hK := C.hK
  subst hK
  exact je_callTy call_tuple_of cs_tuple hm (by decide +kernel) hg (ja_cons ha ja_nil hs) (by decide) (by decide) hs rfl
def rInt1 : List V → Hp → VK → Prop := fun xs H Q => (∃ i, xs = [.int i] ∧ Q (.int i) H) ∨ ∃ k, xs = [.bl k] ∧ Q (.int (if k then 1 else 0)) H
def oInt1 : List D → Option D
  | [.bool b] => some (.int (if b then 1 else 0))
  | [.int i] => some (.int i)
  | _ => none
theorem cs_int1 {K : PySem.W.Frag} : CallS K M .cl rInt1 oInt1 := by
  intro H G vs ds dz Q e r ho q
  unfold oInt1 at ho
  split at ho
  · rename_i b
    cases ho
    cases r with
    | cons r t =>
      cases t
      cases (show R K M G _ (.bool b) from r)
      exact .inr ⟨b, rfl, q _ H G (Stp.refl e) (R.int _)⟩
  · rename_i i
    cases ho
    cases r with
    | cons r t =>
      cases t
      cases (show R K M G _ (.int i) from r)
      exact .inl ⟨i, rfl, q _ H G (Stp.refl e) (R.int _)⟩
  · cases ho
theorem je_int1 {p : Pos} (hm : X.mg "int" = none) (hg : Gl X "int") (ha : JE K X M E .op a ta fa) (hs : starEach [a] X.env = (false, eval a X.env) :: starEach [] X.env := by rfl) : JE K X M E .cl (.Call (.Name "int" p) [a] [] pos) (tCB rInt1 (tCons ta tNil)) (fB oInt1 (fCons fa fNil)) :=
  je_callTy call_int1 cs_int1 hm (by decide +kernel) hg (ja_cons ha ja_nil hs) (by decide) (by decide) hs rfl

/-! list(range(a, b)), list(range(a, b, -1)) -/
theorem RA.rg {K : PySem.W.Frag} {G : Hp} (f : Nat → Int) : ∀ l : List Nat, RA K M G (l.map fun i => V.int (f i)) (l.map fun i => PyData.int (f i))
  | [] => .nil
  | i :: r => .cons (.int _) (RA.rg f r)
def fLrg (a : Fa) : Fe := fun γ => match a γ with
  | some (.ok [.int i, .int j]) => if rgOk i j = true then some (.ok (.list (rgD i j))) else none
  | some (.er c) => some (.er c)
  | _ => none
theorem je_listRg {p p2 pos2 : Pos} (C : CxF K X E k) (hm : X.mg "list" = none) (hg : Gl X "list") (hm2 : X.mg "range" = none) (hg2 : Gl X "range") (ha : JE K X M E .op a ta fa) (hb : JE K X M E .op b tb fb)
    (hs3 : starEach [a, b] X.env = (false, eval a X.env) :: starEach [b] X.env := by rfl) (hs4 : starEach [b] X.env = (false, eval b X.env) :: starEach [] X.env := by rfl) (hpl : (backTo pos2 (starEach [b] X.env)).any (·.1) = false := by rfl)
    (na : starEach [Expr.Call (.Name "range" p2) [a, b] [] pos2] X.env = (false, eval (Expr.Call (.Name "range" p2) [a, b] [] pos2) X.env) :: starEach [] X.env := by rfl) :
    JE K X M E .fr (.Call (.Name "list" p) [.Call (.Name "range" p2) [a, b] [] pos2] [] pos) (tLstRg (tRg2 ta tb)) (fLrg (fCons fa (fCons fb fNil))) := by
  have A := ja_cons ha (ja_cons hb (ja_nil (K := K) (X := X) (M := M) (E := E)) hs4) hs3
  refine ⟨pe_listRg C.calm hg hm (prg_2 hg2 hm2 ha.pe hb.pe hs3 hs4 hpl) na, fun H0 G0 γ σ H G Q r ev hf p => ?_⟩
  unfold fLrg at hf
  have key : ∀ (z : Rl), fCons fa (fCons fb fNil) γ = some z → PostA K M E H G (fun vs H1 => ∃ i j, vs = [V.int i, V.int j] ∧ RgOk i j ∧ ∀ q, H1 q = none → Q (.ref q) (upd H1 q (.lst (rgV i j)))) z → tLstRg (tRg2 ta tb) σ H Q := by
    intro z ez pz
    unfold tLstRg tRg2
    cases e1 : fa γ with
    | none => simp only [fCons, e1, bL] at ez; cases ez
    | some q1 =>
      cases q1 with
      | er cc =>
        have ez' : z = .er cc := by simp only [fCons, e1, bL] at ez; cases ez; rfl
        subst ez'
        exact ha.eo H0 G0 γ σ H G _ _ ev e1 pz
      | ok dx =>
        refine ha.eo H0 G0 γ σ H G _ _ ev e1 fun x H1 G1 s1 r1 => ?_
        cases e2 : fb γ with
        | none => simp only [fCons, e1, e2, bL, bLL] at ez; cases ez
        | some q2 =>
          cases q2 with
          | er cc =>
            have ez' : z = .er cc := by simp only [fCons, e1, e2, bL, bLL, fNil] at ez; cases ez; rfl
            subst ez'
            exact hb.eo H0 G0 γ σ H1 G1 _ _ (ev.stp s1) e2 fun H' G' s => pz H' G' (s1.trans s)
          | ok dy =>
            have ez' : z = .ok [dx, dy] := by simp only [fCons, e1, e2, bL, bLL, fNil] at ez; cases ez; rfl
            subst ez'
            refine hb.eo H0 G0 γ σ H1 G1 _ _ (ev.stp s1) e2 fun y H2 G2 s2 r2 => ?_
            obtain ⟨i, j, e3, ok, q⟩ := pz [x, y] H2 G2 (s1.trans s2) (.cons (r1.mono s2.ex s2.eg) (.cons r2 .nil))
            cases e3
            exact ⟨i, j, rfl, rfl, ok, q⟩
  split at hf
  · rename_i i j e1
    split at hf
    · rename_i hr
      cases hf
      refine key _ e1 fun vs H1 G1 s1 r1 => ?_
      cases r1 with
      | cons r t =>
        cases t with
        | cons r' t =>
          cases t
          cases (show R K M G1 _ (.int i) from r)
          cases (show R K M G1 _ (.int j) from r')
          have hz := hr
          unfold rgOk at hz
          simp only [Bool.and_eq_true, decide_eq_true_eq] at hz
          obtain ⟨b1, b2, b3, b4⟩ := rgOk_of hr
          refine ⟨i, j, rfl, ⟨b1, b2, b3, b4, by omega⟩, fun q hq => ?_⟩
          exact p _ _ G1 (s1.trans (Stp.newO s1.sub hq)) ⟨q, _, rfl, s1.ex.free hq, s1.sub.free hq, upd_same, RA.rg _ _⟩
    · cases hf
  · rename_i e1
    cases hf
    exact key _ e1 p
  · cases hf
def tLrg3 (ta : TA) : TE := fun σ H Q => ta σ H fun vs H1 => ∃ i j : Int, vs = [.int i, .int j, .int (-1)] ∧ (-(2 ^ 62) ≤ i ∧ i < 2 ^ 62 ∧ -(2 ^ 62) ≤ j ∧ j < 2 ^ 62 ∧ (i - j).toNat ≤ 2 ^ 24) ∧ ∀ q, H1 q = none → Q (.ref q) (upd H1 q (.lst ((List.range (i - j).toNat).map fun n => V.int (i + (n : Nat) * (-1)))))
theorem pe_listRg3 {ta : TA} {p p2 pos2 : Pos} (hc : X.calm = true) (hg : Gl X "list") (hm : X.mg "list" = none) (hg2 : Gl X "range") (hm2 : X.mg "range" = none) (ha : PA X [a, b, c] ta) (hs : starEach [a, b, c] X.env = (false, eval a X.env) :: starEach [b, c] X.env) (hpl : (backTo pos2 (starEach [b, c] X.env)).any (·.1) = false)
    (na : starEach [Expr.Call (.Name "range" p2) [a, b, c] [] pos2] X.env = (false, eval (Expr.Call (.Name "range" p2) [a, b, c] [] pos2) X.env) :: starEach [] X.env) : PE X (.Call (.Name "list" p) [.Call (.Name "range" p2) [a, b, c] [] pos2] [] pos) (tLrg3 ta) := by
  refine ⟨fun pins s σ H Q I h => ?_⟩
  refine Call_ (ld_blt I hg hm boot_list (PyProof.Rows.callWith_type1 (args_cons ?_ na) na))
  refine Call_ (ld_blt I hg2 hm2 boot_range (PyProof.Rows.callWith_type1 (thn (ha.run pos2 pins s σ H _ I h) fun us s1 ⟨vs, H1, I1, r1, q1⟩ => ?_) hs hpl))
  obtain ⟨i, j, e, ⟨b1, b2, b3, b4, b5⟩, q⟩ := q1
  subst e
  cases r1 with
  | cons r rr =>
    cases rr with
    | cons r' rr =>
      cases rr with
      | cons r'' rr =>
        cases rr
        obtain ⟨t, rfl⟩ := r
        obtain ⟨t', rfl⟩ := r'
        obtain ⟨t'', rfl⟩ := r''
        refine call_range_3 (by decide) (args_nil ?_) (.inl (PyProof.noPylong_small (by decide)))
        obtain ⟨c0, c1, c2, c3⟩ := RgC.neg b1 b2 b3 b4
        have I2 : Inv X pins σ H1 { s1 with heap := s1.heap.push { cls := .type "range", data := .fields #[.int i t, .int j t', .int (-1) t''] } } := I1.kept (t' := s1.toks) fun b o e => Heap.get?_push_of_some _ e
        refine call_list_range (n := (i - j).toNat) (I1.ok.hd hc) (IsRange.new ..) c2 c3 b5 fun h' tk acc c' hk e' hi => ?_
        refine ⟨.ref _, upd H1 _ (.lst ((List.range (i - j).toNat).map fun n => V.int (i + (n : Nat) * (-1)))), I2.laid hk (Nat.le_refl _) (show ObjOk X.prog X.w _ _ _ (.lst _) from ⟨?_, acc.toList, c', ?_, ?_⟩), rfl, q _ (I2.hok.fresh (Nat.le_refl _))⟩
        · rw [List.length_map, List.length_range, sizeLine_eq]; omega
        · have e : acc.toList.length = (i - j).toNat := by rw [Array.length_toList]; exact hi.1
          rw [← e]
          refine vals_of_get acc.toList _ fun n u hj => ?_
          obtain ⟨t, rfl⟩ := hi.2 n u (by rw [← hj, Array.getElem?_toList])
          exact ⟨t, rfl⟩
        · rw [Array.toArray_toList]; exact e'
def rgDn (i j : Int) : List D := (List.range (i - j).toNat).map fun n => .int (i + (n : Nat) * (-1))
def fLrg3 (a : Fa) : Fe := fun γ => match a γ with
  | some (.ok [.int i, .int j, .int (-1)]) => if rgOk i j = true then some (.ok (.list (rgDn i j))) else none
  | some (.er c) => some (.er c)
  | _ => none
theorem je_listRg3 {p p2 pos2 : Pos} (C : CxF K X E k) (hm : X.mg "list" = none) (hg : Gl X "list") (hm2 : X.mg "range" = none) (hg2 : Gl X "range") (ha : JE K X M E .op a ta fa) (hb : JE K X M E .op b tb fb) (hc : JE K X M E .op c tc fc)
    (hs2 : starEach [a, b, c] X.env = (false, eval a X.env) :: starEach [b, c] X.env := by rfl) (hs3 : starEach [b, c] X.env = (false, eval b X.env) :: starEach [c] X.env := by rfl) (hs4 : starEach [c] X.env = (false, eval c X.env) :: starEach [] X.env := by rfl) (hpl : (backTo pos2 (starEach [b, c] X.env)).any (·.1) = false := by rfl)
    (na : starEach [Expr.Call (.Name "range" p2) [a, b, c] [] pos2] X.env = (false, eval (Expr.Call (.Name "range" p2) [a, b, c] [] pos2) X.env) :: starEach [] X.env := by rfl) :
    JE K X M E .fr (.Call (.Name "list" p) [.Call (.Name "range" p2) [a, b, c] [] pos2] [] pos) (tLrg3 (tCons ta (tCons tb (tCons tc tNil)))) (fLrg3 (fCons fa (fCons fb (fCons fc fNil)))) := by
  have A := ja_cons ha (ja_cons hb (ja_cons hc (ja_nil (K := K) (X := X) (M := M) (E := E)) hs4) hs3) hs2
  refine ⟨pe_listRg3 C.calm hg hm hg2 hm2 A.pa hs2 hpl na, fun H0 G0 γ σ H G Q r ev hf p => ?_⟩
  unfold fLrg3 at hf
  split at hf
  · rename_i i j e1
    split at hf
    · rename_i hr
      cases hf
      refine A.ao H0 G0 γ σ H G _ _ ev e1 fun vs H1 G1 s1 r1 => ?_
      cases r1 with
      | cons r t =>
        cases t with
        | cons r' t =>
          cases t with
          | cons r'' t =>
            cases t
            cases (show R K M G1 _ (.int i) from r)
            cases (show R K M G1 _ (.int j) from r')
            cases (show R K M G1 _ (.int (-1)) from r'')
            have hz := hr
            unfold rgOk at hz
            simp only [Bool.and_eq_true, decide_eq_true_eq] at hz
            obtain ⟨b1, b2, b3, b4⟩ := rgOk_of hr
            refine ⟨i, j, rfl, ⟨b1, b2, b3, b4, by omega⟩, fun q hq => ?_⟩
            exact p _ _ G1 (s1.trans (Stp.newO s1.sub hq)) ⟨q, _, rfl, s1.ex.free hq, s1.sub.free hq, upd_same, RA.rg _ _⟩
    · cases hf
  · rename_i e1
    cases hf
    exact A.ao H0 G0 γ σ H G _ _ ev e1 p
  · cases hf

/-! isinstance(x, T), T a built-in type -/
def tyN : D → Option String
  | .none => some "NoneType"
  | .bool _ => some "bool"
  | .int _ => some "int"
  | .str _ => some "str"
  | .list _ => some "list"
  | .tuple _ => some "tuple"
  | .dict [] => some "dict"
  | .dict _ => none
def isT (T : String) (d : D) : Option Bool := match tyN d with
  | some n => some (n == T || (n == "bool" && T == "int"))
  | none => none
def oIsi (T : String) (d : D) : Option D := match isT T d with
  | some b => some (.bool b)
  | none => none
theorem kit_isT {T : String} (hT : T = "str" ∨ T = "int" ∨ T = "bool" ∨ T = "tuple" ∨ T = "list") {n : String} (hn : n = "NoneType" ∨ n = "bool" ∨ n = "int" ∨ n = "str" ∨ n = "list" ∨ n = "tuple" ∨ n = "dict") : kitB n T = some (n == T || (n == "bool" && T == "int")) := by
  rcases hT with rfl | rfl | rfl | rfl | rfl <;> rcases hn with rfl | rfl | rfl | rfl | rfl | rfl | rfl <;> decide +kernel
theorem tyx_of {K : PySem.W.Frag} {H G : Hp} {v : V} {d : D} {n : String} (e : Same G H) (r : RO K M H G v d) (h : tyN d = some n) : TyX K H v (.type n) := by
  cases d with
  | none => cases h; cases (show R K M G v .none from r); exact .base .non
  | bool b => cases h; cases (show R K M G v (.bool b) from r); exact .base (.bl b)
  | int b => cases h; cases (show R K M G v (.int b) from r); exact .base (.int b)
  | str b => cases h; cases (show R K M G v (.str b) from r); exact .base (.str b)
  | list ds =>
    cases h
    obtain ⟨l, us, e1, h, ra⟩ := r
    subst e1
    rcases h with (h | ⟨o, h⟩) | ⟨o, its, n, h, c, _⟩
    · exact .base (.lst h)
    · exact .base (.frz h)
    · exact .kList h c
  | tuple ds =>
    cases h
    obtain ⟨l, us, e1, h, ra⟩ := R.tupI (show R K M G v (.tuple ds) from r)
    subst e1
    rcases same_T e h with (h | ⟨o, h⟩) | ⟨o, its, n, h, c, _⟩
    · exact .base (.tup h)
    · exact .fTuple h
    · exact .kTuple h c
  | dict kvs =>
    cases kvs with
    | nil =>
      cases h
      cases (show R K M G v (.dict []) from r) with
      | edict h => exact .base (.dK (e _ _ h))
    | cons _ _ => cases h
theorem tyN_ok {d : D} {n : String} (h : tyN d = some n) : n = "NoneType" ∨ n = "bool" ∨ n = "int" ∨ n = "str" ∨ n = "list" ∨ n = "tuple" ∨ n = "dict" := by
  cases d with
  | dict kvs =>
    cases kvs with
    | nil => cases h; simp
    | cons _ _ => cases h
  | _ => cases h; simp
def rIsiA (K : PySem.W.Frag) : List V → Hp → VK → Prop := fun xs H Q => ∃ (x c : V) (t u : Value) (b : Bool), xs = [x, c] ∧ ClsV c u ∧ TyX K H x t ∧ PySem.W.kitOne K t u = some b ∧ Q (.bl b) H
theorem je_isi {T : String} {y : Str} {p p2 : Pos} (C : CxF K X E k) (hm : X.mg "isinstance" = none) (hg : Gl X "isinstance") (hm2 : X.mg y = none) (hg2 : Gl X y) (hv : bootBuiltins y = some (.type T)) (hT : T = "str" ∨ T = "int" ∨ T = "bool" ∨ T = "tuple" ∨ T = "list") (ha : JE K X M E .op a ta fa)
    (hn : y ≠ "__name__" := by decide) (hdb : (y == ("__debug__" : Str)) = false := by decide) (hs3 : starEach [a, .Name y p2] X.env = (false, eval a X.env) :: starEach [.Name y p2] X.env := by rfl) (hs4 : starEach [.Name y p2] X.env = (false, eval (.Name y p2) X.env) :: starEach [] X.env := by rfl) (hpl : (backTo pos (starEach [.Name y p2] X.env)).any (·.1) = false := by rfl) :
    JE K X M E .cl (.Call (.Name "isinstance" p) [a, .Name y p2] [] pos) (tCB (rIsiA K) (tCons ta (tCons (tC (.ty T)) tNil))) (f1 (oIsi T) fa) := by
  have hK := C.hK
  subst hK
  refine ⟨pe_callB call_isi hg hm (by decide +kernel) (pa_cons ha.pe (pa_cons (pe_bltn (v := .ty T) hg2 hm2 hv rfl hn hdb) pa_nil hs4) hs3) (by decide) (by decide) hs3 hpl, fun H0 G0 γ σ H G Q r ev hf p' => ?_⟩
  unfold f1 at hf
  cases e1 : fa γ with
  | none => rw [e1] at hf; cases hf
  | some q1 =>
    rw [e1] at hf
    cases q1 with
    | er c => cases hf; exact ha.eo H0 G0 γ σ H G _ _ ev e1 p'
    | ok d =>
      refine ha.eo H0 G0 γ σ H G _ _ ev e1 fun v H1 G1 s r1 => ?_
      simp only [bR, oIsi, isT] at hf
      cases e2 : tyN d with
      | none => rw [e2] at hf; cases hf
      | some n =>
        rw [e2] at hf
        cases hf
        exact ⟨v, .ty T, .type n, .type T, _, rfl, .ty T, tyx_of s.sub r1 e2, kit_ty (kit_isT hT (tyN_ok e2)), p' _ H1 G1 s (R.bl _)⟩

/-! texts -/
def strsOf : List D → Option (List Str)
  | [] => some []
  | .str b :: r => (match strsOf r with
    | some bs => some (b :: bs)
    | none => none)
  | _ :: _ => none
theorem strsOf_eq : ∀ {ds : List D} {bs : List Str}, strsOf ds = some bs → ds = bs.map PyData.str
  | [], bs, h => by cases h; rfl
  | d :: r, bs, h => by
    cases d with
    | str b =>
      unfold strsOf at h
      split at h
      · rename_i bs' e
        cases h
        rw [strsOf_eq e]
        rfl
      · cases h
    | _ => cases h
theorem strsOf_map : ∀ (bs : List Str), strsOf (bs.map PyData.str) = some bs
  | [] => rfl
  | b :: r => by
    show (match strsOf (r.map PyData.str) with | some bs => some (b :: bs) | none => none) = _
    rw [strsOf_map r]
def rJoinA (K : PySem.W.Frag) : V → List V → Hp → VK → Prop := fun x xs H Q => ∃ a p, ∃ ys : List Str, x = .str a ∧ xs = [.ref p] ∧ (SqL K H p (ys.map V.str) ∨ SqT K H p (ys.map V.str)) ∧
    (ys.map (·.length)).sum + ys.length * a.length ≤ 16777216 ∧ Q (.str (Txt.join a ys)) H
def fM1 (o : Str → D → Option D) (a b : Fe) : Fe := fun γ => match a γ with
  | some (.ok (.str z)) => bR (b γ) fun y => oR (o z y)
  | some (.er c) => some (.er c)
  | _ => none
/-- a method of texts with one argument, by values -/
def Mt1S (K : PySem.W.Frag) (M : Pm) (m : Md) (r : V → List V → Hp → VK → Prop) (o : Str → D → Option D) : Prop :=
  ∀ (H G : Hp) (z : Str) (y : V) (dy dz : D) (Q : VK), Same G H → RO K M H G y dy → o z dy = some dz → (∀ v H' G', Stp H G H' G' → Res K M m H H' G' v dz → Q v H') → r (.str z) [y] H Q
theorem eo_m1 {K : PySem.W.Frag} {r : V → List V → Hp → VK → Prop} {o : Str → D → Option D} (ho : Mt1S K M m r o) (ha : EO K M E .op ta fa) (hb : EO K M E .op tb fb) : EO K M E m (tM1 r ta tb) (fM1 o fa fb) := by
  intro H0 G0 γ σ H G Q q ev hf p
  unfold fM1 at hf
  split at hf
  · rename_i z e1
    refine ha H0 G0 γ σ H G _ _ ev e1 fun x H1 G1 s1 r1 => ?_
    cases (show R K M G1 x (.str z) from r1)
    refine ⟨⟨z, rfl⟩, ?_⟩
    cases e2 : fb γ with
    | none => rw [e2] at hf; cases hf
    | some q2 =>
      rw [e2] at hf
      cases q2 with
      | er c => cases hf; exact hb H0 G0 γ σ H1 G1 _ _ (ev.stp s1) e2 fun H' G' s' => p H' G' (s1.trans s')
      | ok dy =>
        refine hb H0 G0 γ σ H1 G1 _ _ (ev.stp s1) e2 fun y H2 G2 s2 r2 => ?_
        simp only [bR] at hf
        cases e3 : o z dy with
        | none => rw [e3] at hf; cases hf
        | some dz =>
          rw [e3] at hf
          cases hf
          exact ho H2 G2 z y dy dz Q s2.sub r2 e3 fun v H' G' s3 r3 => p v H' G' ((s1.trans s2).trans s3) (r3.up (s1.ex.trans s2.ex))
  · rename_i c e1
    cases hf
    exact ha H0 G0 γ σ H G _ _ ev e1 p
  · cases hf
def oJoin (a : Str) : D → Option D
  | .list ds => (match strsOf ds with
    | some ys => if (ys.map (·.length)).sum + ys.length * a.length ≤ big then some (.str (Txt.join a ys)) else none
    | none => none)
  | _ => none
theorem ms_join {K : PySem.W.Frag} : Mt1S K M .cl (rJoinA K) oJoin := by
  intro H G z y dy dz Q e r ho q
  unfold oJoin at ho
  split at ho
  · split at ho
    · rename_i ys es
      split at ho
      · rename_i hz
        cases ho
        have es := strsOf_eq es
        subst es
        obtain ⟨l, us, e3, h, ra⟩ := r
        subst e3
        exact ⟨z, l, ys, rfl, rfl, .inl (by rw [← ra.strs]; exact h), Nat.le_trans hz (by decide), q _ H G (Stp.refl e) (R.str _)⟩
      · cases ho
    · cases ho
  · cases ho
theorem je_join {apos : Pos} (C : CxF K X E k) (ha : JE K X M E .op a ta fa) (hb : JE K X M E .op b tb fb) (hs : starEach [b] X.env = [(false, eval b X.env)] := by rfl) (hbase : attributeBase a "join" X.env (eval a X.env) = eval a X.env := by rfl) (hline : (apos.endLine == pos.line) = true := by rfl) :
    JE K X M E .cl (.Call (.Attribute a "join" apos) [b] [] pos) (tM1 (rJoinA K) ta tb) (fM1 oJoin fa fb) := by
  have hK := C.hK
  subst hK
  exact ⟨pe_join ha.pe hb.pe hs hbase hline, eo_m1 ms_join ha.eo hb.eo⟩
def rSplitA : V → List V → Hp → VK → Prop := fun x xs H Q => ∃ a b, x = .str a ∧ xs = [.str b] ∧ (b.length == 0) = false ∧ a.length + 2 ≤ sizeLine ∧ rNewStrs (Txt.split a b) H Q
def oSplit (a : Str) : D → Option D
  | .str b => if (b.length == 0) = false ∧ a.length + 2 ≤ big then some (.list ((Txt.split a b).map .str)) else none
  | _ => none
theorem ms_split {K : PySem.W.Frag} : Mt1S K M .fr rSplitA oSplit := by
  intro H G z y dy dz Q e r ho q
  unfold oSplit at ho
  split at ho
  · rename_i b
    split at ho
    · rename_i hz
      cases ho
      cases (show R K M G y (.str b) from r)
      exact ⟨z, b, rfl, rfl, hz.1, big_line hz.2, fun p hp => q _ _ G (Stp.newO e hp) ⟨p, _, rfl, hp, e.free hp, upd_same, RA.of_strs _⟩⟩
    · cases ho
  · cases ho
theorem je_split {apos : Pos} (ha : JE K X M E .op a ta fa) (hb : JE K X M E .op b tb fb) (hs : starEach [b] X.env = [(false, eval b X.env)] := by rfl) (hbase : attributeBase a "split" X.env (eval a X.env) = eval a X.env := by rfl) (hline : (apos.endLine == pos.line) = true := by rfl) :
    JE K X M E .fr (.Call (.Attribute a "split" apos) [b] [] pos) (tM1 rSplitA ta tb) (fM1 oSplit fa fb) := ⟨pe_split ha.pe hb.pe hs hbase hline, eo_m1 ms_split ha.eo hb.eo⟩
end
end Py

namespace Py
open PySem PySem.Spec PyProof.Rows L2
/-- at the law's end -/
theorem law_end {K : PySem.W.Frag} {M : Pm} {φ : List D → Option Rs} {H : Hp} {a : Addr} {ns : List Int} (kp : M.kp = fun _ => none) (hS : SqL K H a (ns.map V.int)) (h : φ [.list (ns.map .int)] = some (.ok (.bool true))) : spF K M φ [.ref a] H (fun v _ => v = .bl true) fun _ _ _ => False :=
  ⟨H, _, _, Same.refl _, .cons (.lst hS (RA.of_ints ns)) .nil, h, fun v H' G' _ r => by
    cases (show R K M G' v (.bool true) from r)
    rfl, fun p o e => by rw [kp] at e; cases e⟩
theorem no_exc {P : Program} {w : World} {H : Hp} {s : Shared} {e : Value} {s' : Shared} (z : L2.CX P w [] H s (fun _ _ _ => False) e s') : False := by
  obtain ⟨_, _, _, _, _, _, _, _, _, _, _, _, z⟩ := z
  exact z.elim
end Py

/-! PyX: defs that share one list of one number -/
namespace Py
open PySem PySem.Spec PyProof.Rows L2

/-- a step of the heap that may change the list at o -/
structure StpX (o : Addr) (H G H' G' : Hp) : Prop where
  ex : ∀ (p : Addr) (u : HO), p ≠ o → H p = some u → H' p = some u
  eg : Same G G'
  sub : Same G' H'
  nw : ∀ (p : Addr) (u : HO), H p = some u → G p = none → G' p = none
/-- slot i is the shared list at o -/
structure EnvX (K : PySem.W.Frag) (M : Pm) (i : Nat) (o : Addr) (H0 G0 : Hp) (γ : Ge) (σ : L2.St) (H G : Hp) : Prop where
  ev : EnvR K M H0 G0 γ σ H G
  sp : σ[i]? = some (some (.ref o))
section
variable {K : PySem.W.Frag} {M : Pm} {H0 G0 H G H' G' : Hp} {γ : Ge} {σ : L2.St} {i : Nat} {o : Addr}
theorem EnvX.stp {H1 G1 : Hp} (e : EnvX K M i o H0 G0 γ σ H G) (s : Stp H G H1 G1) : EnvX K M i o H0 G0 γ σ H1 G1 := ⟨e.ev.stp s, e.sp⟩
theorem EnvX.setv {j : Nat} {v : V} {d : D} (e : EnvX K M i o H0 G0 γ σ H G) (hj : j ≠ i) (r : R K M G v d) : EnvX K M i o H0 G0 (γ.set j (.va d)) (σ.set j (some v)) H G :=
  ⟨e.ev.setv r, by rw [List.getElem?_set_ne hj]; exact e.sp⟩
theorem EnvX.own {ds : List D} (e : EnvX K M i o H0 G0 γ σ H G) (h : γ[i]? = some (.ow ds)) : ∃ vs, G o = none ∧ H0 o = none ∧ H o = some (.lst vs) ∧ RA K M G vs ds := by
  obtain ⟨p, vs, h1, h2⟩ := e.ev.ow h
  have q := e.sp
  rw [h1] at q
  cases q
  exact ⟨vs, h2⟩
theorem EnvX.call {ds es : List D} {ws : List V} (e : EnvX K M i o H0 G0 γ σ H G) (h : γ[i]? = some (.ow ds)) (s : StpX o H G H' G') (hw : H' o = some (.lst ws)) (rw_ : RA K M G' ws es) : EnvX K M i o H0 G0 (γ.set i (.ow es)) σ H' G' := by
  obtain ⟨vs, g, h0, hh, r⟩ := e.own h
  have hil : i < γ.length := (List.getElem?_eq_some_iff.mp h).1
  refine ⟨⟨⟨fun b u q => s.ex b u (ne_of_none q h0) (e.ev.st.ex b u q), e.ev.st.eg.trans s.eg, s.sub, fun p u q n => s.nw p _ (e.ev.st.ex p u q) (e.ev.st.nw p u q n)⟩, by rw [List.length_set]; exact e.ev.len, fun j t x q1 q2 => ?_, fun j k sj sk xj xk p h1 h2 h3 h4 h5 h6 => ?_, e.ev.kp⟩, e.sp⟩
  · by_cases hj : i = j
    · subst hj
      rw [List.getElem?_set_self hil] at q1
      rw [e.sp] at q2
      cases q1; cases q2
      exact ⟨o, ws, rfl, s.nw _ _ hh g, h0, hw, rw_⟩
    · rw [List.getElem?_set_ne hj] at q1
      have q := e.ev.sl j t x q1 q2
      cases t with
      | no => trivial
      | va d => obtain ⟨v, e1, rv⟩ := q; exact ⟨v, e1, rv.mono s.eg⟩
      | ow dj =>
        obtain ⟨p, vp, e1, gp, hp0, hp, rp⟩ := q
        subst e1
        have hpo : p ≠ o := by
          intro ep
          subst ep
          exact hj (e.ev.ap i j _ _ _ _ p h q1 e.sp q2 rfl rfl)
        exact ⟨p, vp, rfl, s.nw _ _ hp gp, hp0, s.ex _ _ hpo hp, rp.mono s.eg⟩
  · have key : ∀ (j : Nat) (t : Sl) (x : Option V), (γ.set i (.ow es))[j]? = some t → σ[j]? = some x → isO t x p → ∃ t', γ[j]? = some t' ∧ isO t' x p := by
      intro j t x q1 q2 q3
      by_cases hj : i = j
      · subst hj
        rw [List.getElem?_set_self hil] at q1
        cases q1
        exact ⟨_, h, q3⟩
      · rw [List.getElem?_set_ne hj] at q1
        exact ⟨t, q1, q3⟩
    obtain ⟨s1, a1, b1⟩ := key j sj xj h1 h3 h5
    obtain ⟨s2, a2, b2⟩ := key k sk xk h2 h4 h6
    exact e.ev.ap j k s1 s2 xj xk p a1 a2 h3 h4 b1 b2
end

/-! ### reckonings, judgements -/
abbrev Fx := Ge → Option (D × Ge)
abbrev Fxa := Ge → Option (List D × Ge)
inductive Ox | nx (γ : Ge) | rt (d : D) (γ : Ge)
abbrev Fxs := Ge → Option Ox
section
variable (K : PySem.W.Frag) (M : Pm) (i : Nat)
def XE (t : TE) (f : Fx) : Prop := ∀ (o : Addr) (H0 G0 : Hp) (γ : Ge) (σ : L2.St) (H G : Hp) (Q : VK) (d : D) (γ' : Ge), EnvX K M i o H0 G0 γ σ H G → f γ = some (d, γ') →
  (∀ v H' G', Same G G' → EnvX K M i o H0 G0 γ' σ H' G' → R K M G' v d → Q v H') → t σ H Q
def XA (t : TA) (f : Fxa) : Prop := ∀ (o : Addr) (H0 G0 : Hp) (γ : Ge) (σ : L2.St) (H G : Hp) (Q : List V → Hp → Prop) (ds : List D) (γ' : Ge), EnvX K M i o H0 G0 γ σ H G → f γ = some (ds, γ') →
  (∀ vs H' G', Same G G' → EnvX K M i o H0 G0 γ' σ H' G' → RA K M G' vs ds → Q vs H') → t σ H Q
def PostX (o : Addr) (H0 G0 : Hp) (De : Ends) : Ox → Prop
  | .nx γ => ∀ σ H G, EnvX K M i o H0 G0 γ σ H G → De.nx σ H
  | .rt d γ => ∀ v σ H G, EnvX K M i o H0 G0 γ σ H G → R K M G v d → De.rt v H
def XO (t : TS) (f : Fxs) : Prop := ∀ (o : Addr) (H0 G0 : Hp) (γ : Ge) (σ : L2.St) (H G : Hp) (De : Ends) (r : Ox), EnvX K M i o H0 G0 γ σ H G → f γ = some r → PostX K M i o H0 G0 De r → t De σ H
end
structure JXE (K : PySem.W.Frag) (X : Cx) (M : Pm) (i : Nat) (e : Expr) (t : TE) (f : Fx) : Prop where
  pe : PE X e t
  xe : XE K M i t f
structure JXA (K : PySem.W.Frag) (X : Cx) (M : Pm) (i : Nat) (es : List Expr) (t : TA) (f : Fxa) : Prop where
  pa : PA X es t
  xa : XA K M i t f
structure JXS (K : PySem.W.Frag) (X : Cx) (M : Pm) (i : Nat) (st : Stmt) (t : TS) (f : Fxs) : Prop where
  ps : PS X st t
  xo : XO K M i t f
structure JXB (K : PySem.W.Frag) (X : Cx) (M : Pm) (i : Nat) (st : List Stmt) (t : TS) (f : Fxs) : Prop where
  ps : PSs X st t
  xo : XO K M i t f
def xOf (f : Fe) : Fx := fun γ => match f γ with
  | some (.ok d) => some (d, γ)
  | _ => none
def xNil : Fxa := fun γ => some ([], γ)
def xCons (f : Fx) (g : Fxa) : Fxa := fun γ => match f γ with
  | some (d, γ1) => (match g γ1 with
    | some (ds, γ2) => some (d :: ds, γ2)
    | none => none)
  | none => none
def xTup (f : Fxa) : Fx := fun γ => match f γ with
  | some (ds, γ1) => if ds.length ≤ big then some (.tuple ds, γ1) else none
  | none => none
def xCallP (φ : List D → Option Rs) (f : Fxa) : Fx := fun γ => match f γ with
  | some (ds, γ1) => (match φ ds with
    | some (.ok d) => some (d, γ1)
    | _ => none)
  | none => none
abbrev Phx := D → Int → List D → Option (D × Int)
def xCall (i : Nat) (φ : Phx) (f0 : Fe) (fr : Fa) : Fx := fun γ => match f0 γ with
  | some (.ok d0) => (match γ[i]? with
    | some (.ow [.int k]) => (match fr γ with
      | some (.ok ds) => (match φ d0 k ds with
        | some (d, k') => some (d, γ.set i (.ow [.int k']))
        | none => none)
      | _ => none)
    | _ => none)
  | _ => none
def xSet (j : Nat) (f : Fx) : Fxs := fun γ => match f γ with
  | some (d, γ1) => some (.nx (γ1.set j (.va d)))
  | none => none
def xRet (f : Fx) : Fxs := fun γ => match f γ with
  | some (d, γ1) => some (.rt d γ1)
  | none => none
def xIf (c : Ft) (f g : Fxs) : Fxs := fun γ => match c γ with
  | some (.ok true) => f γ
  | some (.ok false) => g γ
  | _ => none
def xNext : Fxs := fun γ => some (.nx γ)
def xSeq (f g : Fxs) : Fxs := fun γ => match f γ with
  | some (.nx γ1) => g γ1
  | r => r
def xPut (i : Nat) (fi : Fe) (fa : Fe) : Fxs := fun γ => match fa γ with
  | some (.ok d) => (match γ[i]? with
    | some (.ow ds) => (match fi γ with
      | some (.ok (.int k)) => (match ixN ds.length k with
        | some j => some (.nx (γ.set i (.ow (ds.set j d))))
        | none => none)
      | _ => none)
    | _ => none)
  | _ => none
/-- the promise of a def with the shared list -/
def spS (K : PySem.W.Frag) (M : Pm) (φ : Phx) : Sp := fun vs H Q E => ∃ (G : Hp) (o : Addr) (k : Int) (v0 : V) (d0 : D) (vr : List V) (ds : List D) (d : D) (k' : Int), vs = v0 :: .ref o :: vr ∧ Same G H ∧ G o = none ∧ H o = some (.lst [.int k]) ∧
  R K M G v0 d0 ∧ RA K M G vr ds ∧ φ d0 k ds = some (d, k') ∧ (∀ v H' G', StpX o H G H' G' → H' o = some (.lst [.int k']) → R K M G' v d → Q v H') ∧ Same M.kp (fun p => if p = o then none else H p)
def entryX (n : Nat) (d0 : D) (k : Int) (ds : List D) : Ge := (entry n (d0 :: .none :: ds)).set 1 (.ow [.int k])
def runX (np n : Nat) (f : Fxs) : Phx := fun d0 k ds => if ds.length + 2 = np then (match f (entryX n d0 k ds) with
  | some (Ox.rt d γ) => (match (γ[1]? : Option Sl) with
    | some (Sl.ow [PyData.int k']) => some (d, k')
    | _ => none)
  | _ => none) else none

section
variable {K : PySem.W.Frag} {X : Cx} {M : Pm} {E : XK} {k : Nat} {i : Nat} {a b e c : Expr} {ta tb te : TE} {fa fb : Fe} {Fa_ Fb_ : Fx} {pos : Pos} {t u : TS} {f g : Fxs} {st : Stmt} {rest : List Stmt}
theorem xe_of (h : JE K X M E .cl a ta fa) : JXE K X M i a ta (xOf fa) := ⟨h.pe, fun o H0 G0 γ σ H G Q d γ' ev hf p => by
  unfold xOf at hf
  split at hf
  · rename_i d' e1
    cases hf
    exact h.eo H0 G0 γ σ H G _ _ ev.ev e1 fun v H' G' s r => p v H' G' s.eg (ev.stp s) r
  · cases hf⟩
theorem xa_nil : JXA K X M i [] tNil xNil := ⟨pa_nil, fun o H0 G0 γ σ H G Q ds γ' ev hf p => by cases hf; exact p [] H G (Same.refl _) ev .nil⟩
theorem xa_cons {es : List Expr} {tr : TA} {fr : Fxa} (ha : JXE K X M i a ta Fa_) (hr : JXA K X M i es tr fr) (hs : starEach (a :: es) X.env = (false, eval a X.env) :: starEach es X.env := by rfl) : JXA K X M i (a :: es) (tCons ta tr) (xCons Fa_ fr) :=
  ⟨pa_cons ha.pe hr.pa hs, fun o H0 G0 γ σ H G Q ds γ' ev hf p => by
    unfold xCons at hf
    split at hf
    · rename_i d γ1 e1
      split at hf
      · rename_i ds' γ2 e2
        cases hf
        exact ha.xe o H0 G0 γ σ H G _ _ _ ev e1 fun v H1 G1 s1 ev1 r1 => hr.xa o H0 G0 γ1 σ H1 G1 _ _ _ ev1 e2 fun vs H2 G2 s2 ev2 r2 => p _ H2 G2 (s1.trans s2) ev2 (.cons (r1.mono s2) r2)
      · cases hf
    · cases hf⟩
theorem xe_tup {es : List Expr} {tr : TA} {fr : Fxa} {x1 : Nat} (h : JXA K X M i es tr fr) : JXE K X M i (.Tuple es x1 pos) (tTup tr) (xTup fr) :=
  ⟨pe_tup h.pa, fun o H0 G0 γ σ H G Q d γ' ev hf p => by
    unfold xTup at hf
    split at hf
    · rename_i ds γ1 e1
      split at hf
      · rename_i hz
        cases hf
        refine h.xa o H0 G0 γ σ H G _ _ _ ev e1 fun vs H1 G1 s1 ev1 r1 => ⟨by rw [r1.len]; exact big_line hz, fun q hq => ?_⟩
        have s := Stp.new (o := .tup vs) ev1.ev.sub hq
        exact p _ _ _ (s1.trans s.eg) (ev1.stp s) (R.tup (.of upd_same) (r1.mono s.eg))
      · cases hf
    · cases hf⟩
theorem xe_callP {φ : List D → Option Rs} {j : Nat} {fd : FuncData} {fn : Addr} {ps : List Str} {x : Str} {p : Pos} {es : List Expr} {tr : TA} {fr : Fxa} (C : CxF K X E k)
    (F : FnOk X.prog X.w X.K X.mg X.base (L2.CX X.prog X.w) j fn fd ps (spF K M φ)) (hj : j ≤ k) (hb : Binds X.K fd ps []) (hm : X.mg x = some (.ref fn)) (hk : PySem.W.keepIn X.K (.ref fn) = true) (hg : Gl X x) (ha : JXA K X M i (a :: es) tr fr)
    (hdb : (x == ("__debug__" : Str)) = false := by decide) (he : starEach (a :: es) X.env = (false, eval a X.env) :: starEach es X.env := by rfl) (hpl : (backTo pos (starEach es X.env)).any (·.1) = false := by rfl) :
    JXE K X M i (.Call (.Name x p) (a :: es) [] pos) (tCallS (spF K M φ) (fun _ => E) tr) (xCallP φ fr) := by
  have hK := C.hK
  subst hK
  refine ⟨pe_callS F (C.room.mono hj) hg hm hk hb (passesAt_of C.pas) ha.pa hdb he hpl, fun o H0 G0 γ σ H G Q d γ' ev hf p => ?_⟩
  unfold xCallP at hf
  split at hf
  · rename_i ds γ1 e1
    split at hf
    · rename_i d' e2
      cases hf
      exact ha.xa o H0 G0 γ σ H G _ _ _ ev e1 fun vs H1 G1 s1 ev1 r1 => ⟨G1, ds, .ok d, ev1.ev.sub, r1, e2, fun v H' G' s' r' => p v H' G' (s1.trans s'.eg) (ev1.stp s') r', ev1.ev.kp.trans ev1.ev.st.ex⟩
    · cases hf
  · cases hf
theorem xe_call {φ : Phx} {j : Nat} {fd : FuncData} {fn : Addr} {ps : List Str} {x y : Str} {p py : Pos} {es : List Expr} {tr : TA} {fr : Fa} (C : CxF K X E k)
    (F : FnOk X.prog X.w X.K X.mg X.base (L2.CX X.prog X.w) j fn fd ps (spS K M φ)) (hj : j ≤ k) (hb : Binds X.K fd ps []) (hm : X.mg x = some (.ref fn)) (hk : PySem.W.keepIn X.K (.ref fn) = true) (hg : Gl X x)
    (h0 : JE K X M E .cl a ta fa) (hy : PE X (.Name y py) (tVar i)) (ha : JC K X M E es tr fr)
    (hdb : (x == ("__debug__" : Str)) = false := by decide) (hs : starEach (.Name y py :: es) X.env = (false, eval (.Name y py) X.env) :: starEach es X.env := by rfl) (he : starEach (a :: .Name y py :: es) X.env = (false, eval a X.env) :: starEach (.Name y py :: es) X.env := by rfl)
    (hpl : (backTo pos (starEach (.Name y py :: es) X.env)).any (·.1) = false := by rfl) :
    JXE K X M i (.Call (.Name x p) (a :: .Name y py :: es) [] pos) (tCallS (spS K M φ) (fun _ => E) (tCons ta (tCons (tVar i) tr))) (xCall i φ fa fr) := by
  have hK := C.hK
  subst hK
  refine ⟨pe_callS F (C.room.mono hj) hg hm hk hb (passesAt_of C.pas) (pa_cons h0.pe (pa_cons hy ha.pa hs) he) hdb he hpl, fun o H0 G0 γ σ H G Q d γ' ev hf p => ?_⟩
  unfold xCall at hf
  split at hf
  · rename_i d0 e0
    split at hf
    · rename_i n e1
      split at hf
      · rename_i ds e2
        split at hf
        · rename_i d' n' e3
          cases hf
          refine h0.eo H0 G0 γ σ H G _ _ ev.ev e0 fun v0 H1 G1 s1 r1 => ?_
          refine ⟨.ref o, ev.sp, ?_⟩
          refine ha.ac H0 G0 γ σ H1 G1 _ _ (ev.ev.stp s1) e2 fun vr H2 G2 s2 r2 => ?_
          have ev2 := (ev.stp s1).stp s2
          obtain ⟨vs, hgo, h0o, ho, rv⟩ := ev2.own e1
          have evs : vs = [.int n] := by
            have q := RA.ints (bs := [n]) rv
            simpa using q
          subst evs
          refine ⟨G2, o, n, v0, d0, vr, ds, d, n', rfl, s2.sub, hgo, ho, r1.mono s2.eg, r2, e3, fun v H' G' s' ho' r' => ?_, fun q u e => ?_⟩
          · exact p v H' G' ((s1.eg.trans s2.eg).trans s'.eg) (ev2.call e1 s' ho' (RA.of_ints [n'])) r'
          · have q0 := ev2.ev.kp q u e
            have : q ≠ o := fun z => by rw [z, h0o] at q0; cases q0
            show (if q = o then none else H2 q) = some u
            rw [if_neg this]
            exact ev2.ev.st.ex q u q0
        · cases hf
      · cases hf
    · cases hf
  · cases hf
theorem xb_nil : JXB K X M i [] tNext xNext := ⟨pss_nil, fun o H0 G0 γ σ H G De r ev hf p => by cases hf; exact p σ H G ev⟩
theorem xb_one (h : JXS K X M i st t f) : JXB K X M i [st] t f := ⟨pss_one h.ps, h.xo⟩
theorem xb_cons (h1 : JXS K X M i st t f) (h2 : JXB K X M i rest u g) : JXB K X M i (st :: rest) (tSeq t u) (xSeq f g) := ⟨pss_cons h1.ps h2.ps, fun o H0 G0 γ σ H G De r ev hf p => by
  unfold xSeq at hf
  split at hf
  · rename_i γ1 e1
    exact h1.xo o H0 G0 γ σ H G { De with nx := u De } _ ev e1 fun σ' H' G' ev' => h2.xo o H0 G0 γ1 σ' H' G' De r ev' hf p
  · rename_i hn
    refine h1.xo o H0 G0 γ σ H G { De with nx := u De } r ev hf ?_
    cases r with
    | nx γ1 => exact absurd hf (hn γ1)
    | rt d γ1 => exact p⟩
theorem xs_ret (ha : JXE K X M i a ta Fa_) : JXS K X M i (.Return (some a) pos) (tRet ta) (xRet Fa_) := ⟨ps_ret ha.pe, fun o H0 G0 γ σ H G De r ev hf p => by
  unfold xRet at hf
  split at hf
  · rename_i d γ1 e1
    cases hf
    exact ha.xe o H0 G0 γ σ H G _ _ _ ev e1 fun v H' G' s ev' rv => p v σ H' G' ev' rv
  · cases hf⟩
theorem xs_if {tt : TT} {ft : Ft} {as bs : List Stmt} (hc : JT K X M E c tt ft) (ha : JXB K X M i as t f) (hb : JXB K X M i bs u g) : JXS K X M i (.If c as bs pos) (tIfS tt t u) (xIf ft f g) := ⟨ps_if hc.pt ha.ps hb.ps, fun o H0 G0 γ σ H G De r ev hf p => by
  unfold xIf at hf
  split at hf
  · rename_i e1
    refine hc.to H0 G0 γ σ H G _ _ ev.ev e1 fun H' G' s => ?_
    rw [if_pos rfl]
    exact ha.xo o H0 G0 γ σ H' G' De r (ev.stp s) hf p
  · rename_i e1
    refine hc.to H0 G0 γ σ H G _ _ ev.ev e1 fun H' G' s => ?_
    rw [if_neg Bool.false_ne_true]
    exact hb.xo o H0 G0 γ σ H' G' De r (ev.stp s) hf p
  · cases hf⟩
theorem xs_set {j : Nat} {x : Str} {p0 : Pos} (hN : X.N.Nodup) (ha : JXE K X M i a ta Fa_) (hj : j ≠ i := by decide) (hi : X.N[j]? = some x := by rfl) (hx : Loc X.env.scope x := by first | exact Or.inl rfl | exact Or.inr rfl) (hs : swapsWith a (some (.Name x p0)) pos.line X.env = pure false := by rfl) (hf : X.fn x = true ∨ X.env.scope.names.lookup x = some .local := by first | exact .inl rfl | exact .inr rfl) :
    JXS K X M i (.Assign [.Name x p0] a pos) (tAsg ta (gName j)) (xSet j Fa_) := ⟨ps_set hN hi hx ha.pe hs hf, fun o H0 G0 γ σ H G De r ev hfx p => by
  unfold xSet at hfx
  split at hfx
  · rename_i d γ1 e1
    cases hfx
    exact ha.xe o H0 G0 γ σ H G _ _ _ ev e1 fun v H' G' s ev' rv => p _ H' G' (ev'.setv hj rv)
  · cases hfx⟩
theorem xs_put {y : Str} {p0 : Pos} {ti : TE} {fi : Fe} {pos' : Pos} (ha : JE K X M E .cl a ta fa) (hy : PE X (.Name y p0) (tVar i)) (hi : JE K X M E .op b ti fi)
    (hs : swapsWithSole [.Subscript (.Name y p0) b pos'] a pos.line X.env = pure false := by rfl) (hw : swappedStores [.Subscript (.Name y p0) b pos'] a X.env = pure none := by rfl) (h1 : (assignEach [.Subscript (.Name y p0) b pos'] X.env).map (·.2) = [assign (.Subscript (.Name y p0) b pos') X.env] := by rfl)
    (hgg : ∀ v, assign (.Subscript (.Name y p0) b pos') X.env v = (do
      let ov ← holding [v] (eval (.Name y p0) X.env)
      let iv ← holding [v, ov] (eval b X.env)
      standAt pos'
      holding [v, ov, iv] (setItem ov iv v)
      release [v, ov, iv] []) := by intro _; rfl) :
    JXS K X M i (.Assign [.Subscript (.Name y p0) b pos'] a pos) (tAsg ta (gSub (tVar i) ti rSetL)) (xPut i fi fa) := ⟨ps_asg ha.pe (pg_sub hy hi.pe set_list hgg) hs hw h1, fun o H0 G0 γ σ H G De r ev hf p => by
  unfold xPut at hf
  split at hf
  · rename_i d e0
    split at hf
    · rename_i ds e1
      split at hf
      · rename_i n e2
        split at hf
        · rename_i j e3
          cases hf
          refine ha.eo H0 G0 γ σ H G _ _ ev.ev e0 fun v H1 G1 s1 r1 => ?_
          refine ⟨.ref o, ev.sp, ?_⟩
          refine hi.eo H0 G0 γ σ H1 G1 _ _ (ev.ev.stp s1) e2 fun w H2 G2 s2 r2 => ?_
          cases (show R K M G2 w (.int n) from r2)
          have ev2 := (ev.stp s1).stp s2
          obtain ⟨vs, hgo, h0o, ho, rv⟩ := ev2.own e1
          refine ⟨o, vs, n, j, rfl, rfl, ho, by rw [rv.len]; exact e3, ?_⟩
          exact p σ _ G2 ⟨ev2.ev.wr e1 ev.sp ho (RA.set (r1.mono s2.eg) j rv), ev.sp⟩
        · cases hf
      · cases hf
    · cases hf
  · cases hf⟩
/-- in a plain body: return of such an expression -/
def sRetX (f : Fx) : Fs := fun γ => match f γ with
  | some (d, _) => some (.rt d)
  | none => none
/-- what it reckons needs the shared list -/
def Us (i : Nat) (f : Fx) : Prop := ∀ (γ : Ge) (d : D) (γ' : Ge), f γ = some (d, γ') → ∃ ds, γ[i]? = some (.ow ds)
def Usa (i : Nat) (f : Fxa) : Prop := ∀ (γ : Ge) (d : List D) (γ' : Ge), f γ = some (d, γ') → ∃ ds, γ[i]? = some (.ow ds)
theorem us_call {φ : Phx} {fr : Fa} : Us i (xCall i φ fa fr) := fun γ d γ' h => by
  unfold xCall at h
  split at h
  · split at h
    · rename_i n e1; exact ⟨_, e1⟩
    · cases h
  · cases h
theorem usa_cons {fr : Fxa} (h1 : Us i Fa_) : Usa i (xCons Fa_ fr) := fun γ d γ' h => by
  unfold xCons at h
  split at h
  · rename_i e1; exact h1 _ _ _ e1
  · cases h
theorem us_callP {φ : List D → Option Rs} {fr : Fxa} (h1 : Usa i fr) : Us i (xCallP φ fr) := fun γ d γ' h => by
  unfold xCallP at h
  split at h
  · rename_i e1; exact h1 _ _ _ e1
  · cases h
theorem js_retX (i : Nat) (ha : JXE K X M i a ta Fa_) (hw : Us i Fa_) : JS K X M E (.Return (some a) pos) (tRet ta) (sRetX Fa_) := ⟨ps_ret ha.pe, fun H0 G0 γ σ H G De o ev hf p => by
  unfold sRetX at hf
  split at hf
  · rename_i d γ1 e1
    cases hf
    obtain ⟨ds, e2⟩ := hw _ _ _ e1
    obtain ⟨q, vs, h1, _⟩ := ev.ow e2
    exact ha.xe q H0 G0 γ σ H G _ _ _ ⟨ev, h1⟩ e1 fun v H' G' s ev' rv => p v H' G' ev'.ev.st rv
  · cases hf⟩
end
/-! ### the rule of such a def -/
theorem EnvR.base {K : PySem.W.Frag} {M : Pm} {H0 G0 H1 G1 H G : Hp} {γ : Ge} {σ : L2.St} (e : EnvR K M H1 G1 γ σ H G) (n : ∀ (j : Nat) (ds : List D), γ[j]? ≠ some (.ow ds)) (s : Stp H0 G0 H G) (kp : Same M.kp H0) : EnvR K M H0 G0 γ σ H G :=
  ⟨s, e.len, fun i sl x h1 h2 => by
    have q := e.sl i sl x h1 h2
    cases sl with
    | no => trivial
    | va d => exact q
    | ow ds => exact absurd h1 (n i ds), e.ap, kp⟩
theorem entry_noow {n : Nat} {ds : List D} (j : Nat) (es : List D) : (entry n ds)[j]? ≠ some (.ow es) := by
  intro h
  have m := List.mem_of_getElem? h
  unfold entry at m
  rcases List.mem_append.mp m with q | q
  · obtain ⟨d, _, e⟩ := List.mem_map.mp q; cases e
  · have := (List.mem_replicate.mp q).2; cases this
def eraseH (o : Addr) (H : Hp) : Hp := fun p => if p = o then none else H p
theorem erase_o {o : Addr} {H : Hp} : eraseH o H o = none := by unfold eraseH; rw [if_pos rfl]
theorem erase_ne {o p : Addr} {H : Hp} {u : HO} (h : eraseH o H p = some u) : p ≠ o ∧ H p = some u := by
  unfold eraseH at h
  split at h
  · cases h
  · rename_i n; exact ⟨n, h⟩
theorem env_entryX {K : PySem.W.Frag} {M : Pm} {H G : Hp} {N : List Str} {v0 : V} {o : Addr} {vr : List V} {d0 : D} {k : Int} {ds : List D} (e : Same G H) (hg : G o = none) (ho : H o = some (.lst [.int k])) (r0 : R K M G v0 d0) (rr : RA K M G vr ds) (kp : Same M.kp (eraseH o H)) :
    EnvX K M 1 o (eraseH o H) G (entryX N.length d0 k ds) (L2.start N (v0 :: .ref o :: vr)) H G := by
  have e1 := env_entry (N := N) e (RA.cons r0 (RA.cons .non rr)) (kp.trans fun p u q => (erase_ne q).2)
  have st : Stp (eraseH o H) G H G := ⟨fun p u q => (erase_ne q).2, Same.refl _, e, fun _ _ _ n => n⟩
  have e2 := e1.base entry_noow st kp
  have e3 := e2.seto (i := 1) (HS := H) (o := o) (vs := [.int k]) (ds := [.int k]) (fun j dj p _ h => absurd h (entry_noow j dj)) hg erase_o ho (RA.of_ints [k])
  have es : (L2.start N (v0 :: .non :: vr)).set 1 (some (.ref o)) = L2.start N (v0 :: .ref o :: vr) := by unfold L2.start; rfl
  rw [es] at e3
  exact ⟨e3, by unfold L2.start; rfl⟩
theorem fnX_ok {P : Program} {w : World} {K : PySem.W.Frag} {mg : Str → Option Value} {base : Heap} {M : Pm} {x qual : Str} {st : Stmt} {f : Addr} {fd : FuncData} {N ps : List Str} {k : Nat} {g : Fxs} (F : Fun K x qual st f fd) (S : FnScope N ps (defScope st))
    (hb : ∀ (cdv : Value) (A : Around) (outer : List Env) (s : Shared) (H : Hp) (E : XK), CxF K (cxOf (L2.CX P w) P w K mg base N qual (defScope st) f cdv A outer s H E) E k → Takes (cxOf (L2.CX P w) P w K mg base N qual (defScope st) f cdv A outer s H E) (fun cls d _ H => E cls d H) →
      ∃ t, JXB K (cxOf (L2.CX P w) P w K mg base N qual (defScope st) f cdv A outer s H E) M 1 (defBody st) t g) : FnOk P w K mg base (L2.CX P w) (k + 1) f fd ps (spS K M (runX ps.length N.length g)) := by
  have len : ∀ vs H Q E, spS K M (runX ps.length N.length g) vs H Q E → vs.length = ps.length := by
    rintro vs H Q E ⟨G, o, n, v0, d0, vr, ds, d, n', rfl, _, _, _, _, ra, e, _⟩
    unfold runX at e
    split at e
    · rename_i hl
      simp only [List.length_cons, ra.len]
      omega
    · cases e
  refine F.okX S len fun cdv A outer s H vs Q E hr h => ?_
  obtain ⟨C, tk⟩ := cxf_of (P := P) (w := w) (K := K) (mg := mg) (base := base) (qual := qual) (s := s) (H := H) (E := E) (outer := outer) S hr
  obtain ⟨t, J⟩ := hb cdv A outer s H E C tk
  refine ⟨t, J.ps, ?_⟩
  obtain ⟨G, o, n, v0, d0, vr, ds, d, n', rfl, e, hg, ho, r0, ra, er, p, kp⟩ := h
  unfold runX at er
  split at er
  · split at er
    · rename_i d1 γ1 ef
      split at er
      · rename_i k1 ek
        cases er
        refine J.xo o (eraseH o H) G _ _ H G _ _ (env_entryX e hg ho r0 ra kp) ef fun v σ' H' G' ev rv => ?_
        obtain ⟨vs, hgo, h0o, ho', rv'⟩ := ev.own ek
        have evs : vs = [.int n'] := by
          have q := RA.ints (bs := [n']) rv'
          simpa using q
        subst evs
        refine p v H' G' ⟨fun q u hq h => ev.ev.st.ex q u (by unfold eraseH; rw [if_neg hq]; exact h), ev.ev.st.eg, ev.ev.st.sub, fun q u h n => ?_⟩ ho' rv
        by_cases hq : q = o
        · subst hq; exact hgo
        · exact ev.ev.st.nw q u (by unfold eraseH; rw [if_neg hq]; exact h) n
      · cases er
    · cases er
  · cases er
/-- of a def of which nothing is told -/
theorem fn_none {P : Program} {w : World} {K : PySem.W.Frag} {mg : Str → Option Value} {base : Heap} {M : Pm} {f : Addr} {fd : FuncData} {ps : List Str} {k : Nat} : FnOk P w K mg base (L2.CX P w) k f fd ps (spF K M fun _ => none) := by
  have no : ∀ vs H Q E, ¬ spF K M (fun _ => none) vs H Q E := by
    rintro vs H Q E ⟨_, _, _, _, _, e, _⟩
    cases e
  exact ⟨fun vs H Q E h => absurd h (no vs H Q E), fun A outer s H args us vs Q E _ _ _ _ h => absurd h (no vs H Q E)⟩
theorem fnX_zero {P : Program} {w : World} {K : PySem.W.Frag} {mg : Str → Option Value} {base : Heap} {M : Pm} {f : Addr} {fd : FuncData} {ps : List Str} {k : Nat} : FnOk P w K mg base (L2.CX P w) k f fd ps (spS K M fun _ _ _ => none) := by
  have no : ∀ vs H Q E, ¬ spS K M (fun _ _ _ => none) vs H Q E := by
    rintro vs H Q E ⟨_, _, _, _, _, _, _, _, _, _, _, _, _, _, _, e, _⟩
    cases e
  exact ⟨fun vs H Q E h => absurd h (no vs H Q E), fun A outer s H args us vs Q E _ _ _ _ h => absurd h (no vs H Q E)⟩
end Py

/-! PyS: statements as data; what evaluates -/
namespace Py
open PySem PySem.Spec PyProof.Rows L2

inductive Sta
  | mark (m : Str) | yes | nt (s : Sta) | an (s t : Sta) | or (s t : Sta) | nx (s : Sta) | un (s t : Sta) | wi (k : Nat) (s : Sta) | bf (s : Sta) | si (s t : Sta)
  deriving DecidableEq
def enc : Sta → D
  | .mark m => .tuple [.str "mark", .str m]
  | .yes => .tuple [.str "yes"]
  | .nt s => .tuple [.str "not", enc s]
  | .an s t => .tuple [.str "and", enc s, enc t]
  | .or s t => .tuple [.str "or", enc s, enc t]
  | .nx s => .tuple [.str "next", enc s]
  | .un s t => .tuple [.str "until", enc s, enc t]
  | .wi k s => .tuple [.str "within", .int k, enc s]
  | .bf s => .tuple [.str "before", enc s]
  | .si s t => .tuple [.str "since", enc s, enc t]
def Sta.depth : Sta → Nat
  | .mark _ => 1
  | .yes => 1
  | .nt s => s.depth + 1
  | .an s t => max s.depth t.depth + 1
  | .or s t => max s.depth t.depth + 1
  | .nx s => s.depth + 1
  | .un s t => max s.depth t.depth + 1
  | .wi _ s => s.depth + 1
  | .bf s => s.depth + 1
  | .si s t => max s.depth t.depth + 1
/-- every mark in it keeps p -/
def Sta.Marks (p : Str → Prop) : Sta → Prop
  | .mark m => p m
  | .yes => True
  | .nt s => s.Marks p
  | .an s t => s.Marks p ∧ t.Marks p
  | .or s t => s.Marks p ∧ t.Marks p
  | .nx s => s.Marks p
  | .un s t => s.Marks p ∧ t.Marks p
  | .wi _ s => s.Marks p
  | .bf s => s.Marks p
  | .si s t => s.Marks p ∧ t.Marks p
theorem Sta.depth_pos (s : Sta) : 1 ≤ s.depth := by cases s <;> simp [Sta.depth]
theorem enc_depth : ∀ s : Sta, (enc s).depth ≤ s.depth
  | .mark m => by simp [enc, PyData.depth, PyData.depthAll, Sta.depth]
  | .yes => by simp [enc, PyData.depth, PyData.depthAll, Sta.depth]
  | .nt s => by have := enc_depth s; simp [enc, PyData.depth, PyData.depthAll, Sta.depth]; omega
  | .an s t => by have := enc_depth s; have := enc_depth t; simp [enc, PyData.depth, PyData.depthAll, Sta.depth]; omega
  | .or s t => by have := enc_depth s; have := enc_depth t; simp [enc, PyData.depth, PyData.depthAll, Sta.depth]; omega
  | .nx s => by have := enc_depth s; simp [enc, PyData.depth, PyData.depthAll, Sta.depth]; omega
  | .un s t => by have := enc_depth s; have := enc_depth t; simp [enc, PyData.depth, PyData.depthAll, Sta.depth]; omega
  | .wi k s => by have := enc_depth s; simp [enc, PyData.depth, PyData.depthAll, Sta.depth]; omega
  | .bf s => by have := enc_depth s; simp [enc, PyData.depth, PyData.depthAll, Sta.depth]; omega
  | .si s t => by have := enc_depth s; have := enc_depth t; simp [enc, PyData.depth, PyData.depthAll, Sta.depth]; omega
theorem ok_words : PyData.strOk "mark" = true ∧ PyData.strOk "yes" = true ∧ PyData.strOk "not" = true ∧ PyData.strOk "and" = true ∧ PyData.strOk "or" = true ∧ PyData.strOk "next" = true ∧ PyData.strOk "until" = true ∧ PyData.strOk "within" = true ∧ PyData.strOk "before" = true ∧ PyData.strOk "since" = true := by decide +kernel
def okM (m : Str) : Prop := PyData.strOk m = true
theorem enc_lay : ∀ {s : Sta}, s.Marks okM → (enc s).canLay0 = true
  | .mark m, h => by simp only [enc, PyData.canLay0, PyData.canLayAll0, ok_words]; simpa [Sta.Marks, okM] using h
  | .yes, h => by simp only [enc, PyData.canLay0, PyData.canLayAll0, ok_words]; rfl
  | .nt s, h => by simp only [enc, PyData.canLay0, PyData.canLayAll0, ok_words, enc_lay (s := s) h]; rfl
  | .an s t, h => by simp only [enc, PyData.canLay0, PyData.canLayAll0, ok_words, enc_lay (s := s) h.1, enc_lay (s := t) h.2]; rfl
  | .or s t, h => by simp only [enc, PyData.canLay0, PyData.canLayAll0, ok_words, enc_lay (s := s) h.1, enc_lay (s := t) h.2]; rfl
  | .nx s, h => by simp only [enc, PyData.canLay0, PyData.canLayAll0, ok_words, enc_lay (s := s) h]; rfl
  | .un s t, h => by simp only [enc, PyData.canLay0, PyData.canLayAll0, ok_words, enc_lay (s := s) h.1, enc_lay (s := t) h.2]; rfl
  | .wi k s, h => by simp only [enc, PyData.canLay0, PyData.canLayAll0, ok_words, enc_lay (s := s) h]; rfl
  | .bf s, h => by simp only [enc, PyData.canLay0, PyData.canLayAll0, ok_words, enc_lay (s := s) h]; rfl
  | .si s t, h => by simp only [enc, PyData.canLay0, PyData.canLayAll0, ok_words, enc_lay (s := s) h.1, enc_lay (s := t) h.2]; rfl
theorem enc_shaped {s : Sta} (h : s.Marks okM) (hd : s.depth ≤ 60) : SeqAt.shaped (enc s) = true := by
  have := enc_depth s
  show ((enc s).canLay0 && decide ((enc s).depth ≤ 64)) = true
  rw [enc_lay h, Bool.true_and]
  exact decide_eq_true (by omega)
theorem encs_lay : ∀ {l : List Sta}, (∀ s ∈ l, s.Marks okM) → PyData.canLayAll0 (l.map enc) = true
  | [], _ => by simp [PyData.canLayAll0]
  | s :: l, h => by
    simp only [List.map_cons, PyData.canLayAll0, enc_lay (h s List.mem_cons_self), encs_lay fun t ht => h t (List.mem_cons_of_mem _ ht)]
    rfl
theorem encs_depth : ∀ {l : List Sta}, (∀ s ∈ l, s.depth ≤ 60) → PyData.depthAll (l.map enc) ≤ 60
  | [], _ => by simp [PyData.depthAll]
  | s :: l, h => by
    have h1 := enc_depth s
    have h2 := h s List.mem_cons_self
    have h3 := encs_depth (l := l) fun t ht => h t (List.mem_cons_of_mem _ ht)
    simp only [List.map_cons, PyData.depthAll]
    omega
theorem encs_shaped {l : List Sta} (h : ∀ s ∈ l, s.Marks okM) (hd : ∀ s ∈ l, s.depth ≤ 60) : SeqAt.shaped (.list (l.map enc)) = true := by
  have h1 := encs_depth hd
  show ((PyData.list (l.map enc)).canLay0 && decide ((PyData.list (l.map enc)).depth ≤ 64)) = true
  have e : (PyData.list (l.map enc)).canLay0 = true := by simp only [PyData.canLay0]; exact encs_lay h
  rw [e, Bool.true_and]
  refine decide_eq_true ?_
  simp only [PyData.depth]
  omega
/-! equal statements -/
theorem W_ne : (("mark" : Str) == "yes") = false := by decide +kernel
def word : Sta → Str
  | .mark _ => "mark" | .yes => "yes" | .nt _ => "not" | .an _ _ => "and" | .or _ _ => "or" | .nx _ => "next" | .un _ _ => "until" | .wi _ _ => "within" | .bf _ => "before" | .si _ _ => "since"
def tag : Sta → Nat
  | .mark _ => 0 | .yes => 1 | .nt _ => 2 | .an _ _ => 3 | .or _ _ => 4 | .nx _ => 5 | .un _ _ => 6 | .wi _ _ => 7 | .bf _ => 8 | .si _ _ => 9
def wordAt : Nat → Str
  | 0 => "mark" | 1 => "yes" | 2 => "not" | 3 => "and" | 4 => "or" | 5 => "next" | 6 => "until" | 7 => "within" | 8 => "before" | _ => "since"
theorem word_at (s : Sta) : word s = wordAt (tag s) := by cases s <;> rfl
theorem tag_lt (s : Sta) : tag s < 10 := by cases s <;> simp [tag]
theorem wordAt_eq : ∀ i, i < 10 → ∀ j, j < 10 → (wordAt i == wordAt j) = decide (i = j) := by decide +kernel
theorem word_eq (s t : Sta) : (word s == word t) = decide (tag s = tag t) := by rw [word_at, word_at]; exact wordAt_eq _ (tag_lt s) _ (tag_lt t)
theorem enc_word (s : Sta) : ∃ r, enc s = .tuple (.str (word s) :: r) := by cases s <;> exact ⟨_, rfl⟩
theorem enc_tag {s t : Sta} (h : tag s ≠ tag t) : PyData.eqv (enc s) (enc t) = false := by
  obtain ⟨r, e⟩ := enc_word s
  obtain ⟨q, f⟩ := enc_word t
  rw [e, f]
  simp only [PyData.eqv, PyData.eqvAll, word_eq, decide_eq_false h, Bool.false_and]
theorem ww (i : Nat) (h : i < 10) : (wordAt i == wordAt i) = true := by rw [wordAt_eq i h i h]; simp
theorem enc_eqv : ∀ s t : Sta, PyData.eqv (enc s) (enc t) = decide (s = t) := by
  intro s
  induction s with
  | mark m =>
    intro t
    cases t with
    | mark n => simp [enc, PyData.eqv, PyData.eqvAll, Bool.beq_eq_decide_eq]
    | _ => rw [enc_tag (by simp [tag])]; simp
  | yes =>
    intro t
    cases t with
    | yes => simp [enc, PyData.eqv, PyData.eqvAll]
    | _ => rw [enc_tag (by simp [tag])]; simp
  | nt s ih =>
    intro t
    cases t with
    | nt u => simp [enc, PyData.eqv, PyData.eqvAll, ih]
    | _ => rw [enc_tag (by simp [tag])]; simp
  | an s s' ih ih' =>
    intro t
    cases t with
    | an u u' => simp [enc, PyData.eqv, PyData.eqvAll, ih, ih']
    | _ => rw [enc_tag (by simp [tag])]; simp
  | or s s' ih ih' =>
    intro t
    cases t with
    | or u u' => simp [enc, PyData.eqv, PyData.eqvAll, ih, ih']
    | _ => rw [enc_tag (by simp [tag])]; simp
  | nx s ih =>
    intro t
    cases t with
    | nx u => simp [enc, PyData.eqv, PyData.eqvAll, ih]
    | _ => rw [enc_tag (by simp [tag])]; simp
  | un s s' ih ih' =>
    intro t
    cases t with
    | un u u' => simp [enc, PyData.eqv, PyData.eqvAll, ih, ih']
    | _ => rw [enc_tag (by simp [tag])]; simp
  | wi k s ih =>
    intro t
    cases t with
    | wi j u =>
      simp [enc, PyData.eqv, PyData.eqvAll, ih]
      by_cases h : k = j
      · subst h; simp
      · have : ((k : Int) == (j : Int)) = false := beq_eq_false_iff_ne.mpr (by omega)
        simp [h, this]
    | _ => rw [enc_tag (by simp [tag])]; simp
  | bf s ih =>
    intro t
    cases t with
    | bf u => simp [enc, PyData.eqv, PyData.eqvAll, ih]
    | _ => rw [enc_tag (by simp [tag])]; simp
  | si s s' ih ih' =>
    intro t
    cases t with
    | si u u' => simp [enc, PyData.eqv, PyData.eqvAll, ih, ih']
    | _ => rw [enc_tag (by simp [tag])]; simp
theorem encs_any (l : List Sta) (s : Sta) : ((l.map enc).any fun z => PyData.eqv z (enc s)) = decide (s ∈ l) := by
  induction l with
  | nil => simp
  | cons t l ih =>
    rw [List.map_cons, List.any_cons, ih, enc_eqv]
    by_cases h : t = s
    · subst h; simp
    · by_cases h2 : s ∈ l
      · simp [h2]
      · have : ¬ s = t := fun e => h e.symm
        simp [h, h2, this]
theorem in_encs {l : List Sta} {s : Sta} (h : ∀ t ∈ l, t.Marks okM) (hd : ∀ t ∈ l, t.depth ≤ 60) (hs : s.Marks okM) (hsd : s.depth ≤ 60) (neg : Bool) :
    oIn neg (enc s) (.list (l.map enc)) = some (.bool (if neg = true then !decide (s ∈ l) else decide (s ∈ l))) := by
  show (if SeqAt.shaped (enc s) = true ∧ SeqAt.shaped (.list (l.map enc)) = true then some (PyData.bool (if neg = true then !((l.map enc).any fun z => PyData.eqv z (enc s)) else (l.map enc).any fun z => PyData.eqv z (enc s))) else none) = _
  rw [if_pos ⟨enc_shaped hs hsd, encs_shaped h hd⟩, encs_any]

/-! the words differ -/
@[simp] theorem w_mark_yes : (("mark" : Str) == "yes") = false := by decide +kernel
@[simp] theorem w_mark_not : (("mark" : Str) == "not") = false := by decide +kernel
@[simp] theorem w_mark_and : (("mark" : Str) == "and") = false := by decide +kernel
@[simp] theorem w_mark_or : (("mark" : Str) == "or") = false := by decide +kernel
@[simp] theorem w_mark_next : (("mark" : Str) == "next") = false := by decide +kernel
@[simp] theorem w_mark_until : (("mark" : Str) == "until") = false := by decide +kernel
@[simp] theorem w_mark_within : (("mark" : Str) == "within") = false := by decide +kernel
@[simp] theorem w_mark_before : (("mark" : Str) == "before") = false := by decide +kernel
@[simp] theorem w_mark_since : (("mark" : Str) == "since") = false := by decide +kernel
@[simp] theorem w_yes_mark : (("yes" : Str) == "mark") = false := by decide +kernel
@[simp] theorem w_yes_not : (("yes" : Str) == "not") = false := by decide +kernel
@[simp] theorem w_yes_and : (("yes" : Str) == "and") = false := by decide +kernel
@[simp] theorem w_yes_or : (("yes" : Str) == "or") = false := by decide +kernel
@[simp] theorem w_yes_next : (("yes" : Str) == "next") = false := by decide +kernel
@[simp] theorem w_yes_until : (("yes" : Str) == "until") = false := by decide +kernel
@[simp] theorem w_yes_within : (("yes" : Str) == "within") = false := by decide +kernel
@[simp] theorem w_yes_before : (("yes" : Str) == "before") = false := by decide +kernel
@[simp] theorem w_yes_since : (("yes" : Str) == "since") = false := by decide +kernel
@[simp] theorem w_not_mark : (("not" : Str) == "mark") = false := by decide +kernel
@[simp] theorem w_not_yes : (("not" : Str) == "yes") = false := by decide +kernel
@[simp] theorem w_not_and : (("not" : Str) == "and") = false := by decide +kernel
@[simp] theorem w_not_or : (("not" : Str) == "or") = false := by decide +kernel
@[simp] theorem w_not_next : (("not" : Str) == "next") = false := by decide +kernel
@[simp] theorem w_not_until : (("not" : Str) == "until") = false := by decide +kernel
@[simp] theorem w_not_within : (("not" : Str) == "within") = false := by decide +kernel
@[simp] theorem w_not_before : (("not" : Str) == "before") = false := by decide +kernel
@[simp] theorem w_not_since : (("not" : Str) == "since") = false := by decide +kernel
@[simp] theorem w_and_mark : (("and" : Str) == "mark") = false := by decide +kernel
@[simp] theorem w_and_yes : (("and" : Str) == "yes") = false := by decide +kernel
@[simp] theorem w_and_not : (("and" : Str) == "not") = false := by decide +kernel
@[simp] theorem w_and_or : (("and" : Str) == "or") = false := by decide +kernel
@[simp] theorem w_and_next : (("and" : Str) == "next") = false := by decide +kernel
@[simp] theorem w_and_until : (("and" : Str) == "until") = false := by decide +kernel
@[simp] theorem w_and_within : (("and" : Str) == "within") = false := by decide +kernel
@[simp] theorem w_and_before : (("and" : Str) == "before") = false := by decide +kernel
@[simp] theorem w_and_since : (("and" : Str) == "since") = false := by decide +kernel
@[simp] theorem w_or_mark : (("or" : Str) == "mark") = false := by decide +kernel
@[simp] theorem w_or_yes : (("or" : Str) == "yes") = false := by decide +kernel
@[simp] theorem w_or_not : (("or" : Str) == "not") = false := by decide +kernel
@[simp] theorem w_or_and : (("or" : Str) == "and") = false := by decide +kernel
@[simp] theorem w_or_next : (("or" : Str) == "next") = false := by decide +kernel
@[simp] theorem w_or_until : (("or" : Str) == "until") = false := by decide +kernel
@[simp] theorem w_or_within : (("or" : Str) == "within") = false := by decide +kernel
@[simp] theorem w_or_before : (("or" : Str) == "before") = false := by decide +kernel
@[simp] theorem w_or_since : (("or" : Str) == "since") = false := by decide +kernel
@[simp] theorem w_next_mark : (("next" : Str) == "mark") = false := by decide +kernel
@[simp] theorem w_next_yes : (("next" : Str) == "yes") = false := by decide +kernel
@[simp] theorem w_next_not : (("next" : Str) == "not") = false := by decide +kernel
@[simp] theorem w_next_and : (("next" : Str) == "and") = false := by decide +kernel
@[simp] theorem w_next_or : (("next" : Str) == "or") = false := by decide +kernel
@[simp] theorem w_next_until : (("next" : Str) == "until") = false := by decide +kernel
@[simp] theorem w_next_within : (("next" : Str) == "within") = false := by decide +kernel
@[simp] theorem w_next_before : (("next" : Str) == "before") = false := by decide +kernel
@[simp] theorem w_next_since : (("next" : Str) == "since") = false := by decide +kernel
@[simp] theorem w_until_mark : (("until" : Str) == "mark") = false := by decide +kernel
@[simp] theorem w_until_yes : (("until" : Str) == "yes") = false := by decide +kernel
@[simp] theorem w_until_not : (("until" : Str) == "not") = false := by decide +kernel
@[simp] theorem w_until_and : (("until" : Str) == "and") = false := by decide +kernel
@[simp] theorem w_until_or : (("until" : Str) == "or") = false := by decide +kernel
@[simp] theorem w_until_next : (("until" : Str) == "next") = false := by decide +kernel
@[simp] theorem w_until_within : (("until" : Str) == "within") = false := by decide +kernel
@[simp] theorem w_until_before : (("until" : Str) == "before") = false := by decide +kernel
@[simp] theorem w_until_since : (("until" : Str) == "since") = false := by decide +kernel
@[simp] theorem w_within_mark : (("within" : Str) == "mark") = false := by decide +kernel
@[simp] theorem w_within_yes : (("within" : Str) == "yes") = false := by decide +kernel
@[simp] theorem w_within_not : (("within" : Str) == "not") = false := by decide +kernel
@[simp] theorem w_within_and : (("within" : Str) == "and") = false := by decide +kernel
@[simp] theorem w_within_or : (("within" : Str) == "or") = false := by decide +kernel
@[simp] theorem w_within_next : (("within" : Str) == "next") = false := by decide +kernel
@[simp] theorem w_within_until : (("within" : Str) == "until") = false := by decide +kernel
@[simp] theorem w_within_before : (("within" : Str) == "before") = false := by decide +kernel
@[simp] theorem w_within_since : (("within" : Str) == "since") = false := by decide +kernel
@[simp] theorem w_before_mark : (("before" : Str) == "mark") = false := by decide +kernel
@[simp] theorem w_before_yes : (("before" : Str) == "yes") = false := by decide +kernel
@[simp] theorem w_before_not : (("before" : Str) == "not") = false := by decide +kernel
@[simp] theorem w_before_and : (("before" : Str) == "and") = false := by decide +kernel
@[simp] theorem w_before_or : (("before" : Str) == "or") = false := by decide +kernel
@[simp] theorem w_before_next : (("before" : Str) == "next") = false := by decide +kernel
@[simp] theorem w_before_until : (("before" : Str) == "until") = false := by decide +kernel
@[simp] theorem w_before_within : (("before" : Str) == "within") = false := by decide +kernel
@[simp] theorem w_before_since : (("before" : Str) == "since") = false := by decide +kernel
@[simp] theorem w_since_mark : (("since" : Str) == "mark") = false := by decide +kernel
@[simp] theorem w_since_yes : (("since" : Str) == "yes") = false := by decide +kernel
@[simp] theorem w_since_not : (("since" : Str) == "not") = false := by decide +kernel
@[simp] theorem w_since_and : (("since" : Str) == "and") = false := by decide +kernel
@[simp] theorem w_since_or : (("since" : Str) == "or") = false := by decide +kernel
@[simp] theorem w_since_next : (("since" : Str) == "next") = false := by decide +kernel
@[simp] theorem w_since_until : (("since" : Str) == "until") = false := by decide +kernel
@[simp] theorem w_since_within : (("since" : Str) == "within") = false := by decide +kernel
@[simp] theorem w_since_before : (("since" : Str) == "before") = false := by decide +kernel
/-! small sizes -/
@[simp] theorem big_0 : 0 ≤ big := by decide
@[simp] theorem big_1 : 1 ≤ big := by decide
@[simp] theorem big_2 : 2 ≤ big := by decide
@[simp] theorem big_3 : 3 ≤ big := by decide
@[simp] theorem big_4 : 4 ≤ big := by decide
@[simp] theorem big_5 : 5 ≤ big := by decide
@[simp] theorem big_6 : 6 ≤ big := by decide
@[simp] theorem big_7 : 7 ≤ big := by decide
@[simp] theorem big_8 : 8 ≤ big := by decide
@[simp] theorem big_9 : 9 ≤ big := by decide
@[simp] theorem big_10 : 10 ≤ big := by decide
@[simp] theorem big_11 : 11 ≤ big := by decide
@[simp] theorem big_12 : 12 ≤ big := by decide
@[simp] theorem big_13 : 13 ≤ big := by decide
@[simp] theorem big_14 : 14 ≤ big := by decide
@[simp] theorem big_15 : 15 ≤ big := by decide
@[simp] theorem big_16 : 16 ≤ big := by decide
@[simp] theorem big_17 : 17 ≤ big := by decide
@[simp] theorem big_18 : 18 ≤ big := by decide
@[simp] theorem big_19 : 19 ≤ big := by decide
@[simp] theorem big_20 : 20 ≤ big := by decide
@[simp] theorem big_21 : 21 ≤ big := by decide
@[simp] theorem big_22 : 22 ≤ big := by decide
@[simp] theorem big_23 : 23 ≤ big := by decide
@[simp] theorem big_24 : 24 ≤ big := by decide
@[simp] theorem big_25 : 25 ≤ big := by decide
@[simp] theorem big_26 : 26 ≤ big := by decide
@[simp] theorem big_27 : 27 ≤ big := by decide
@[simp] theorem big_28 : 28 ≤ big := by decide
@[simp] theorem big_29 : 29 ≤ big := by decide
@[simp] theorem big_30 : 30 ≤ big := by decide
@[simp] theorem big_40 : 40 ≤ big := by decide
@[simp] theorem big_64 : 64 ≤ big := by decide
/-! ### readers -/
@[simp] theorem atI_0 {α : Type} (a : α) (l : List α) : atI (a :: l) 0 = some a := atI_nat (j := 0) rfl
@[simp] theorem atI_1 {α : Type} (a b : α) (l : List α) : atI (a :: b :: l) 1 = some b := atI_nat (j := 1) rfl
@[simp] theorem atI_2 {α : Type} (a b c : α) (l : List α) : atI (a :: b :: c :: l) 2 = some c := atI_nat (j := 2) rfl
theorem atI_neg1 {α : Type} (l : List α) (a : α) (h : l.getLast? = some a) : atI l (-1) = some a := by
  cases l with
  | nil => simp at h
  | cons b r =>
    have e : (b :: r) = (b :: r).dropLast ++ [a] := by
      have h' : (b :: r).getLast (by simp) = a := by
        rw [List.getLast?_eq_getLast (by simp)] at h
        exact Option.some.inj h
      rw [← h', List.dropLast_concat_getLast]
    rw [e]
    exact atI_last _ _
theorem atI_cast {α : Type} {l : List α} {i : Nat} {a : α} (h : l[i]? = some a) : atI l (i : Int) = some a := atI_nat h
@[simp] theorem bR_ok (d : D) (k : D → Option Rs) : bR (some (.ok d)) k = k d := rfl
@[simp] theorem bR_er (c : Str) (k : D → Option Rs) : bR (some (.er c)) k = some (.er c) := rfl
@[simp] theorem bL_ok (d : D) (k : D → Option Rl) : bL (some (.ok d)) k = k d := rfl
@[simp] theorem bA_ok (d : List D) (k : List D → Option Rs) : bA (some (.ok d)) k = k d := rfl
@[simp] theorem bLL_ok (d : List D) (k : List D → Option Rl) : bLL (some (.ok d)) k = k d := rfl
@[simp] theorem oR_some (d : D) : oR (some d) = some (.ok d) := rfl
@[simp] theorem oIx_tup (ds : List D) (i : Int) : oIx (.tuple ds) (.int i) = atI ds i := rfl
@[simp] theorem oIx_lst (ds : List D) (i : Int) : oIx (.list ds) (.int i) = atI ds i := rfl
@[simp] theorem oEq_str (x y : Str) : oEq (.str x) (.str y) = some (.bool (x == y)) := by simp [oEq, scalD, PyData.eqv]
@[simp] theorem oEq_int (x y : Int) : oEq (.int x) (.int y) = some (.bool (x == y)) := by simp [oEq, scalD, PyData.eqv]
@[simp] theorem oEq_bool (x y : Bool) : oEq (.bool x) (.bool y) = some (.bool (x == y)) := by simp [oEq, scalD, PyData.eqv]
@[simp] theorem oNe_str (x y : Str) : oNe (.str x) (.str y) = some (.bool (!(x == y))) := by simp [oNe, scalD, PyData.eqv]
@[simp] theorem oNe_int (x y : Int) : oNe (.int x) (.int y) = some (.bool (!(x == y))) := by simp [oNe, scalD, PyData.eqv]
@[simp] theorem oNe_bool (x y : Bool) : oNe (.bool x) (.bool y) = some (.bool (!(x == y))) := by simp [oNe, scalD, PyData.eqv]
@[simp] theorem oAdd_int (x y : Int) : oAdd (.int x) (.int y) = some (.int (x + y)) := rfl
@[simp] theorem oSub_int (x y : Int) : oSub (.int x) (.int y) = some (.int (x - y)) := rfl
@[simp] theorem oLt_int (x y : Int) : oLt (.int x) (.int y) = some (.bool (decide (x < y))) := rfl
@[simp] theorem oLe_int (x y : Int) : oLe (.int x) (.int y) = some (.bool (decide (x ≤ y))) := rfl
@[simp] theorem oGt_int (x y : Int) : oGt (.int x) (.int y) = some (.bool (decide (y < x))) := rfl
@[simp] theorem oGe_int (x y : Int) : oGe (.int x) (.int y) = some (.bool (decide (y ≤ x))) := rfl
@[simp] theorem oNeg_int (x : Int) : oNeg (.int x) = some (.int (-x)) := rfl
@[simp] theorem oLen_list (ds : List D) : oLen [.list ds] = some (.int ds.length) := rfl
@[simp] theorem oLen_tup (ds : List D) : oLen [.tuple ds] = some (.int ds.length) := rfl
@[simp] theorem oMin2_int (x y : Int) : oMin2 [.int x, .int y] = some (.int (if y < x then y else x)) := rfl
@[simp] theorem oAny_bools (bs : List Bool) : oAny [.list (bs.map .bool)] = some (.bool (bs.any id)) := by
  show (match boolsOf (bs.map PyData.bool) with | some bs => some (PyData.bool (bs.any id)) | none => none) = _
  rw [boolsOf_map]
@[simp] theorem oAll_bools (bs : List Bool) : oAll [.list (bs.map .bool)] = some (.bool (bs.all id)) := by
  show (match boolsOf (bs.map PyData.bool) with | some bs => some (PyData.bool (bs.all id)) | none => none) = _
  rw [boolsOf_map]
@[simp] theorem oMod_int (x y : Int) (h : 0 < y) : oMod (.int x) (.int y) = some (.int (x % y)) := by unfold oMod oIc; simp [cMod, h]
@[simp] theorem oDiv_int (x y : Int) (h : 0 < y) (h2 : y < 1073741824) : oDiv (.int x) (.int y) = some (.int (x / y)) := by unfold oDiv oIc; simp [cDiv, h, h2]
theorem oMul_int (x y : Int) (h : (-(2 ^ 64) < x ∧ x < 2 ^ 64) ∨ (-(2 ^ 64) < y ∧ y < 2 ^ 64)) : oMul (.int x) (.int y) = some (.int (x * y)) := by
  unfold oMul oIc
  have : cMul x y = true := by
    unfold cMul
    simp only [Bool.or_eq_true, Bool.and_eq_true, decide_eq_true_eq]
    exact h
  simp [this]
@[simp] theorem oSl_list (ds : List D) (lo hi : Option Int) : oSl lo hi (.list ds) = some (.list (cutD ds lo hi)) := rfl
theorem lcF_map {gf : D → Ge → Option Ge} {cf : Ft} {ef : Fe} {γ : Ge} {α : Type} (e : α → D) (g : α → D) : ∀ (l : List α), (∀ x ∈ l, ∃ γ1, gf (e x) γ = some γ1 ∧ cf γ1 = some (.ok true) ∧ ef γ1 = some (.ok (g x))) → lcF gf cf ef γ (l.map e) = some (l.map g)
  | [], _ => rfl
  | x :: l, h => by
    obtain ⟨γ1, h1, h2, h3⟩ := h x List.mem_cons_self
    simp only [List.map_cons, lcF, h1, h2, h3, lcF_map e g l fun y hy => h y (List.mem_cons_of_mem _ hy)]
theorem lcF_filter {gf : D → Ge → Option Ge} {cf : Ft} {ef : Fe} {γ : Ge} {α : Type} (e : α → D) (p : α → Bool) (g : α → D) : ∀ (l : List α), (∀ x ∈ l, ∃ γ1, gf (e x) γ = some γ1 ∧ cf γ1 = some (.ok (p x)) ∧ (p x = true → ef γ1 = some (.ok (g x)))) → lcF gf cf ef γ (l.map e) = some ((l.filter p).map g)
  | [], _ => rfl
  | x :: l, h => by
    obtain ⟨γ1, h1, h2, h3⟩ := h x List.mem_cons_self
    have ih := lcF_filter e p g l fun y hy => h y (List.mem_cons_of_mem _ hy)
    cases hp : p x with
    | true =>
      have hf : (x :: l).filter p = x :: l.filter p := by rw [List.filter_cons, if_pos hp]
      simp only [List.map_cons, lcF, h1, h2, hp, h3 hp, ih, hf]
    | false =>
      have hf : (x :: l).filter p = l.filter p := by rw [List.filter_cons, if_neg (by rw [hp]; decide)]
      simp only [List.map_cons, lcF, h1, h2, hp, ih, hf]
end Py

/-! PyT: sorted(set(texts)) -/
namespace Py
open PySem PySem.Spec PyProof.Rows L2 PySem.Froz

def keyS (e : Int × Value) : Str := match e.2 with | .str k _ => k | _ => Str.empty
/-- the payload of a set of the texts l, walkable -/
structure TxR (P : Program) (w : World) (d : SD) (l : List Str) : Prop where
  F : TxOk P w d l
  ks : (d.1.toList.map keyS).Perm l
  st : ∀ e ∈ d.1.toList, ∃ (k : Str) (u : Tok), e.2 = Value.str k u
  ris : L2.Ris d.2.2.place.toList
  led : w.params.followText "set-order" = true ∨ d.2.2.led = true
theorem off_ris {t : SetTable} : (if t.plain = true then { t with plain := false } else t).place = t.place := by split <;> rfl
theorem off_led {t : SetTable} : (if t.plain = true then { t with plain := false } else t).led = t.led := by split <;> rfl
theorem tail_r {P : Program} {w : World} {ep : Nat} {es1 : Array (Int × Value)} {t2 : SetTable} {wd : Bool} {l : List Str} (R : TxR P w (es1, ep, t2) l) : TxR P w (tailTx ep es1 t2 wd) l := by
  refine ⟨tail_ok R.F, ?_, ?_, ?_, ?_⟩ <;> unfold tailTx <;> split
  · exact ((relayAll_perm t2 es1 _).map keyS).trans R.ks
  · exact R.ks
  · exact fun e he => R.st e ((relayAll_perm t2 es1 _).mem_iff.mp he)
  · exact R.st
  · exact L2.relayAll_ris t2 es1 _
  · exact R.ris
  · exact R.led.imp id fun z => (L2.relayAll_led t2 es1 _).trans z
  · exact R.led
theorem add_r {P : Program} {w : World} {d : SD} {l : List Str} (k : Str) (u : Tok) (R : TxR P w d l) : TxR P w (addTx (hashStr w k) (.str k u) d) (k :: l) := by
  obtain ⟨es, ep, t⟩ := d
  have pm := layNew_perm t es (hashStr w k) (.str k u)
  rw [Array.toList_push] at pm
  have pc := pm.trans (List.perm_append_singleton _ _)
  have F2 := add_ok u R.F (k := k)
  refine tail_r (ep := ep) ⟨?_, ?_, ?_, ?_, ?_⟩
  · refine R.F.push (layNew_perm t es (hashStr w k) (.str k u)) ?_
    have hf := layNew_fits t es (hashStr w k) (.str k u)
    split
    · exact SetTable.fits_plain_off hf
    · exact hf
  · exact (pc.map keyS).trans ((List.perm_cons k).mpr R.ks)
  · intro e he
    rcases List.mem_cons.mp (pc.mem_iff.mp he) with z | z
    · exact ⟨k, u, by rw [z]⟩
    · exact R.st e z
  · show L2.Ris (if _ then _ else _ : SetTable).place.toList
    rw [off_ris]
    exact L2.layNew_ris t es _ _ R.ris
  · refine R.led.imp id fun z => ?_
    show (if _ then _ else _ : SetTable).led = true
    rw [off_led, L2.layNew_led]
    exact z
section
variable {P : Program} {w : World} {A : Around} {E : Value → Shared → Prop} {s : Shared}
/-- a text that is there already -/
theorem dup_x {a : Addr} {T : String} {d : SD} {l : List Str} {k : Str} {u : Tok} {Q : Bool → Shared → Prop} (ho : s.heap.get? a = some (sObj T d)) (F : TxOk P w d l) (hk : k ∈ l) (hb : l.length < scanBound) (h : Q false s) :
    wpAny (model P w) A (setAddHashed a (.str k u) (hashStr w k)) Q E s := by
  obtain ⟨es, ep, t⟩ := d
  have hsz : es.size = l.length := F.sz
  have hel : ElemsOf (strKind P w) es.toList := F.el
  have hd : (sObj T (es, ep, t)).data = .set es ep t := rfl
  obtain ⟨e, he, ie⟩ := (F.mem k).mp hk
  unfold setAddHashed
  unfold setAddHashedIn
  refine wpAny_holding (wpAny_bind (wpAny_setState_of ho hd F.fit ?_))
  show wpAny _ _ (if _ then _ else _) _ _ _
  rw [byScan_of rfl (by omega) hel, if_pos rfl]
  unfold setAddByScan
  refine wpAny_bind (wpAny_bind (wpAny_rule (wpAny_bind (wpAny_setScan_of (knd := strKind P w) (k := k) (is_str k u) ho hd F.fit hel ?_))))
  cases hf : List.findIdx? (fun q => (strKind P w).is k q.2) es.toList with
  | none =>
    have c := List.findIdx?_eq_none_iff.mp hf e he
    rw [ie] at c
    cases c
  | some j => exact wpAny_pure (wpAny_pure h)
/-- the set of texts at a -/
def TxH (P : Program) (w : World) (h : Heap) (a : Addr) (l : List Str) : Prop := ∃ d, h.get? a = some (sObj "set" d) ∧ TxR P w d l
theorem TxH.at {h h' : Heap} {a : Addr} {l : List Str} (x : TxH P w h a l) (k : ∀ o, h.get? a = some o → h'.get? a = some o) : TxH P w h' a l := by
  obtain ⟨d, e, r⟩ := x
  exact ⟨d, k _ e, r⟩
def addL (l : List Str) (k : Str) : List Str := if k ∈ l then l else k :: l
theorem addL_len (l : List Str) (k : Str) : (addL l k).length ≤ l.length + 1 := by unfold addL; split <;> simp <;> omega
theorem add_any {a : Addr} {l : List Str} {k : Str} {u : Tok} {Q : Bool → Shared → Prop} (x : TxH P w s.heap a l) (hb : l.length + 1 < scanBound)
    (h : ∀ b h', (∀ c o, c ≠ a → s.heap.get? c = some o → h'.get? c = some o) → TxH P w h' a (addL l k) → Q b { s with heap := h' }) :
    wpAny (model P w) A (setAddHashed a (.str k u) (hashStr w k)) Q E s := by
  obtain ⟨d, e, r⟩ := x
  by_cases hk : k ∈ l
  · refine dup_x e r.F hk (by omega) ?_
    exact h false s.heap (fun _ _ _ q => q) (by unfold addL; rw [if_pos hk]; exact ⟨d, e, r⟩)
  · refine add_x e r.F hk hb ?_
    exact h true _ (fun c o hc q => PySem.Heap.get?_update_of_ne _ (Ne.symm hc) q) (by unfold addL; rw [if_neg hk]; exact ⟨_, get_upd _ e rfl, add_r k u r⟩)
end
section
variable {P : Program} {w : World} {A : Around} {R : Result → Shared → Prop} {I : Addr} {fp wr : List Addr} {n : Nat} {Pv : Nat → Value → Prop} {St : Nat → Heap → Prop}
theorem loop_txs (W : Walks P w A.in1 I fp wr n Pv St) (S : Addr) (hSf : S ∉ fp) (xs : List Str) (hsz : xs.length = n) (hn1 : n + 1 < scanBound) (hval : ∀ i v, Pv i v → ∃ t, v = Value.str (xs.getD i Str.empty) t) :
    ∀ (k i : Nat) (l : List Str) (s : Shared), n - i = k → i ≤ n → St i s.heap → l.length ≤ i → TxH P w s.heap S l →
      (∀ h' tk, (∀ b o, b ∉ S :: wr → s.heap.get? b = some o → h'.get? b = some o) → TxH P w h' S ((xs.drop i).foldl addL l) → R (.ok (.ret .none)) { s with heap := h', toks := tk }) →
      codeAny (model P w) A (.builtin "set.update.loop" ⟨[.ref S, .ref I], []⟩) R s := by
  have hSw : S ∉ wr := fun h => hSf (W.sub _ h)
  intro k
  induction k with
  | zero =>
    intro i l s hk hi hst hl hS hR
    have hin : i = n := by omega
    subst hin
    refine codeAny_builtin PyProof.Rows.F.entry_set_update_loop ?_
    rw [Around.under_plainId PyProof.Rows.F.plain_set_update_loop _]
    show wpAny _ A.in1 (pyNext (.ref I) >>= _) _ _ s
    refine wpAny_bind (W.done s _ _ hst fun h' tk hm => ?_)
    show wpAny _ A.in1 (ret Value.none) _ _ _
    refine wpAny_pure (hR h' tk (fun b o hb e => hm b o (fun z => hb (List.mem_cons_of_mem _ z)) e) ?_)
    rw [List.drop_eq_nil_of_le (by omega)]
    exact hS.at (hm S · hSw)
  | succ k ih =>
    intro i l s hk hi hst hl hS hR
    have hlt : i < n := by omega
    refine codeAny_builtin PyProof.Rows.F.entry_set_update_loop ?_
    rw [Around.under_plainId PyProof.Rows.F.plain_set_update_loop _]
    show wpAny _ A.in1 (pyNext (.ref I) >>= _) _ _ s
    refine wpAny_bind (W.item i s _ _ hlt hst fun v h1 tk1 hP hst1 hm => ?_)
    obtain ⟨t, rfl⟩ := hval i v hP
    have hS1 : TxH P w h1 S l := hS.at (hm S · hSw)
    show wpAny _ A.in1 (holding [Value.str (xs.getD i Str.empty) t] (setAdd S (.str (xs.getD i Str.empty) t)) >>= _) _ _ _
    refine wpAny_bind (wpAny_holding ?_)
    unfold setAdd
    refine wpAny_holding (wpAny_bind ((strKind P w).pyHash (k := xs.getD i Str.empty) (is_str _ _) ?_))
    refine add_any (s := { s with heap := h1, toks := tk1 + 1 }) hS1 (by omega) fun b h2 hk2 hS2 => ?_
    have hd : xs.drop i = xs.getD i Str.empty :: xs.drop (i + 1) := by
      rw [List.getD_eq_getElem?_getD, List.getElem?_eq_getElem (by omega)]
      exact List.drop_eq_getElem_cons (by omega)
    refine wpAny_pure ⟨plainId_quiet PyProof.Rows.F.plain_set_update_loop _, ih (i + 1) (addL l (xs.getD i Str.empty)) _ (by omega) hlt (W.frame _ h1 h2 hst1 fun b hb o e => hk2 b o (fun z => hSf (z ▸ hb)) e) (by have := addL_len l (xs.getD i Str.empty); omega) hS2 fun h3 tk3 hk3 hS3 => ?_⟩
    refine hR h3 tk3 (fun b o hb e => hk3 b o hb (hk2 b o (fun z => hb (z ▸ List.mem_cons_self)) (hm b o (fun z => hb (List.mem_cons_of_mem _ z)) e))) ?_
    rw [hd]
    exact hS3
end
end Py

namespace Py
open PySem PySem.Spec PyProof.Rows L2 PySem.Froz
section
variable {prog : Program} {w : World} {A : Around} {E : Value → Shared → Prop} {s : Shared}
theorem set_new_led (a : Value) {Q₁ : Value → Shared → Prop}
    (h : Q₁ (.ref s.heap.objs.size) { s with heap := s.heap.push { cls := .type "set", dict := none, data := .set #[] 0 (.fresh 0 0 (!w.params.followText "set-order")) } }) :
    codeAny (model prog w) A (.call (.builtin "set.__new__") ⟨[.type "set", a], []⟩) (wants Q₁ E) s := by
  refine codeAny_of_tree ?_
  show wpAny _ A.in1 (checkBuiltinCall "set.__new__" ⟨[.type "set", a], []⟩ >>= fun _ => again (.builtin "set.__new__" ⟨[.type "set", a], []⟩)) _ _ s
  refine wpAny_bind (wpAny_of_eq (PySem.F.newCall_set_1 a) (wpAny_pure ⟨plainId_quiet PySem.F.plain_set_new _, codeAny_builtin PySem.F.entry_set_new ?_⟩))
  rw [Around.under_plainId PySem.F.plain_set_new _]
  unfold Builtin.«set.__new__» Builtin.Frozenset.newClass
  have hsub := sub_set_self
  obtain ⟨hp, g, d, tk, os⟩ := s
  dsimp only
  wp_walk
  refine wpAny_askSetting (wpAny_pure ?_)
  dsimp only
  simp only [newObj]
  exact wpAny_bind (wpAny_alloc (wpAny_pure (wpAny_pure h)))
theorem fresh_h (P : Program) (w : World) (h : Heap) : TxH P w (h.push { cls := .type "set", dict := none, data := .set #[] 0 (.fresh 0 0 (!w.params.followText "set-order")) }) h.objs.size [] := by
  refine ⟨(#[], 0, .fresh 0 0 (!w.params.followText "set-order")), Heap.get?_push_size _ rfl, TxOk.nil (by rfl), List.Perm.refl _, fun e he => by simp at he, List.Pairwise.nil, ?_⟩
  show _ ∨ (!w.params.followText "set-order") = true
  cases w.params.followText "set-order"
  · exact .inr rfl
  · exact .inl rfl
theorem call_set_txs {l : Addr} {items : Array Value} {xs : List Str} {Q : Value → Shared → Prop}
    (hh : A.handled = none) (hl : s.heap.IsList l items) (hi : PyProof.Rows.StrsAre items.toList xs) (hn1 : xs.length + 1 < scanBound)
    (h : ∀ (h' : Heap) (tk : Nat), TxH prog w h' s.heap.objs.size (xs.foldl addL []) → (∀ b o, b < s.heap.objs.size → s.heap.get? b = some o → h'.get? b = some o) → Q (.ref s.heap.objs.size) { s with heap := h', toks := tk }) :
    wpAny (model prog w) A (call (.type "set") [.ref l]) Q E s := by
  obtain ⟨c, tl, hmro⟩ := PySem.F.called_set.mro
  have hmade := PySem.F.called_set.made
  have hsub := PySem.F.called_set.sub
  refine wpAny_call (codeAny_of_tree ?_)
  show wpAny _ _ (callAny (.type "set") _) _ _ _
  refine wpAny_pure ⟨Code.quiet_builtin _ (by decide +kernel), codeAny_builtin PySem.F.entry_type_call ?_⟩
  rw [Around.under_plain (weight_type_call_type "set" [.ref l] []) rfl]
  have h1 := PySem.F.called_set.notType
  have h2 := PySem.F.called_set.canCreate
  have hct := PySem.F.typeCall_set_1 (.ref l)
  repeat (any_goals (first | assumption | wp_step))

  generalize hled : (!w.params.followText "set-order") = led
  refine codeAny_mono (set_new_led (.ref l) (E := E) (Q₁ := fun obj s₁ => obj = .ref s.heap.objs.size ∧ s₁ = { s with heap := s.heap.push { cls := .type "set", dict := none, data := .set #[] 0 (.fresh 0 0 led) } }) ⟨rfl, by rw [hled]⟩) fun r s₁ hr => ?_
  cases r with
  | error e => exact hr
  | ok fl =>
    cases fl with
    | ret obj =>
      obtain ⟨rfl, rfl⟩ := hr
      have hS : (s.heap.push { cls := .type "set", dict := none, data := .set #[] 0 (.fresh 0 0 led) }).get? s.heap.objs.size = some { cls := .type "set", dict := none, data := .set #[] 0 (.fresh 0 0 led) } := Heap.get?_push_size _ rfl
      have hT : Shared.TypeIs { s with heap := s.heap.push { cls := .type "set", dict := none, data := .set #[] 0 (.fresh 0 0 led) } } (.ref s.heap.objs.size) "set" := ⟨_, hS, rfl⟩
      have hli := PySem.F.called_set.init.lookup
      have hbi := PySem.F.called_set.init.bind (.ref s.heap.objs.size)
      repeat (any_goals (first | assumption | wp_step))

      refine codeAny_mono (codeAny_call_builtin (R := wants (fun r s₂ => r = .none ∧ ∃ h' tk, s₂ = { s with heap := h', toks := tk } ∧ TxH prog w h' s.heap.objs.size (xs.foldl addL []) ∧
          (∀ b o, b < s.heap.objs.size → s.heap.get? b = some o → h'.get? b = some o)) E) PySem.F.called_set.init.plain PySem.F.entry_set_init (check_set_init_1 hT ?_)) fun r₂ s₂ hr₂ => ?_
      · obtain ⟨ol, hol, hcl, nl, hdl⟩ := hl
        obtain ⟨ocls, odict, odata, oslots⟩ := ol
        simp only at hcl hdl
        subst hcl; subst hdl
        have hol' : (s.heap.push { cls := .type "set", dict := none, data := .set #[] 0 (.fresh 0 0 led) }).get? l = some { cls := .type "list", dict := odict, data := .seq items nl, slots := oslots } := Heap.get?_push_of_some _ hol
        have hsls := PySem.F.sub_list_set
        have hslf := PySem.F.sub_list_frozenset
        have hne : (Value.type "list" == Value.type "dict") = false := by decide
        have hl1 : (s.heap.push { cls := .type "set", dict := none, data := .set #[] 0 (.fresh 0 0 led) }).IsList l items := ⟨_, hol', rfl, nl, rfl⟩
        unfold Builtin.«set.__init__» noKeywords Builtin.Frozenset.updateFrom
        generalize hPI : pyIter = PI
        wp_walk
        subst hPI

        refine wpAny_pyIter_list hl1 ?_
        refine wpAny_bind (wpAny_runValue ?_)
        have hlS : l < s.heap.objs.size := Heap.lt_size hol
        have hh3 : A.in1.in1.in1.handled = none := by simp [hh]
        have hneI : l ≠ (s.heap.push { cls := .type "set", dict := none, data := .set #[] 0 (.fresh 0 0 led) }).objs.size := by
          rw [Heap.size_push]; exact Nat.ne_of_lt (Nat.lt_succ_of_lt hlS)
        have hSf : s.heap.objs.size ∉ [(s.heap.push { cls := .type "set", dict := none, data := .set #[] 0 (.fresh 0 0 led) }).objs.size, l] := by
          rw [Heap.size_push]; simp only [List.mem_cons, List.not_mem_nil, or_false, not_or]
          exact ⟨Nat.ne_of_lt (Nat.lt_succ_self _), Nat.ne_of_gt hlS⟩
        have hsz : xs.length = items.size := by rw [← StrsAre.len_eq hi, Array.length_toList]
        have hval : ∀ (i : Nat) (v : Value), items[i]? = some v → ∃ t, v = .str (xs.getD i Str.empty) t := fun i v hv => SS.strs_at hi i v (by rw [Array.getElem?_toList]; exact hv)
        refine loop_txs (Walks.list hh3 _ l hneI items) s.heap.objs.size hSf xs hsz (by rw [← hsz]; exact hn1) hval (items.size - 0) 0 [] _ (by omega) (Nat.zero_le _) ⟨⟨_, Heap.get?_push_size _ rfl, rfl, rfl⟩, (hl1.push _)⟩ (Nat.le_refl _) ?hS0 ?hR
        case hS0 =>
          have q := fresh_h prog w s.heap
          rw [hled] at q
          exact q.at fun o e => Heap.get?_push_of_some _ e
        case hR =>
          intro h' tk hm hS'
          refine wpAny_pure ?_
          show wpAny _ _ (ret Value.none) _ _ _
          refine wpAny_pure ⟨rfl, h', tk, rfl, hS', fun b o hb e => ?_⟩
          have hb1 : b ≠ s.heap.objs.size := Nat.ne_of_lt hb
          have hb2 : b ≠ (s.heap.push { cls := .type "set", dict := none, data := .set #[] 0 (.fresh 0 0 led) }).objs.size := by
            rw [Heap.size_push]; exact Nat.ne_of_lt (Nat.lt_succ_of_lt hb)
          exact hm b o (by simp only [List.mem_cons, List.not_mem_nil, or_false, not_or]; exact ⟨hb1, hb2⟩) (Heap.get?_push_of_some _ (Heap.get?_push_of_some _ e))
      · cases r₂ with
        | error e => exact hr₂
        | ok fl₂ =>
          cases fl₂ with
          | ret r =>
            obtain ⟨rfl, h', tk, rfl, hS', hk'⟩ := hr₂
            repeat (any_goals (first | assumption | wp_step))
            exact h _ _ hS' hk'
          | _ => exact hr₂.elim
    | _ => exact hr.elim
end
end Py

namespace Py
open PySem PySem.Spec PyProof.Rows L2 PySem.Froz
/-! ### texts in order -/
def leB (a b : Str) : Bool := !ltCps b.cps.toList a.cps.toList
theorem leB_iff (a b : Str) : leB a b = true ↔ a.cps.toList ≤ b.cps.toList := by
  unfold leB
  rw [ltCps_eq, Bool.not_eq_true', decide_eq_false_iff_not]
  exact List.not_lt
theorem leB_trans (a b c : Str) (h : leB a b = true) (h2 : leB b c = true) : leB a c = true := by
  rw [leB_iff] at h h2 ⊢
  exact List.le_trans h h2
theorem leB_total (a b : Str) : (leB a b || leB b a) = true := by
  rw [Bool.or_eq_true, leB_iff, leB_iff]
  exact List.le_total _ _
theorem leB_anti (a b : Str) (h : leB a b = true) (h2 : leB b a = true) : a = b := by
  rw [leB_iff] at h h2
  exact Str.ext' (Array.toList_inj.mp (List.le_antisymm h h2))
theorem pair_of_rising : ∀ (l : List Str) (p : Str), risingS p l = true → (p :: l).Pairwise fun a b => leB a b = true
  | [], p, _ => List.pairwise_singleton _ _
  | x :: r, p, h => by
    have h' : (!ltCps x.cps.toList p.cps.toList && risingS x r) = true := h
    rw [Bool.and_eq_true] at h'
    have ih := pair_of_rising r x h'.2
    refine List.pairwise_cons.mpr ⟨fun y hy => ?_, ih⟩
    rcases List.mem_cons.mp hy with e | e
    · rw [e]; exact h'.1
    · exact leB_trans p x y h'.1 ((List.pairwise_cons.mp ih).1 y e)
theorem pair_of_sorted : ∀ {l : List Str}, sortedS l = true → l.Pairwise fun a b => leB a b = true
  | [], _ => List.Pairwise.nil
  | x :: r, h => pair_of_rising r x h
def sortT (l : List Str) : List Str := l.mergeSort leB
theorem sortT_perm (l : List Str) : (sortT l).Perm l := List.mergeSort_perm l leB
theorem sortT_pair (l : List Str) : (sortT l).Pairwise fun a b => leB a b = true := List.pairwise_mergeSort leB_trans leB_total l
theorem sortT_uniq {l ys : List Str} (p : ys.Perm l) (h : ys.Pairwise fun a b => leB a b = true) : ys = sortT l :=
  List.Perm.eq_of_pairwise (fun a b _ _ => leB_anti a b) h (sortT_pair l) (p.trans (sortT_perm l).symm)
section
variable {prog : Program} {w : World} {A : Around} {E : Value → Shared → Prop} {s : Shared}
theorem sorted_txs {a : Addr} {l : List Str} {Q : Value → Shared → Prop} (x : TxH prog w s.heap a l) (hh : A.handled = none) (h64 : l.length < 64)
    (hQ : ∀ s' p (out : Array Value) (c : Nat), (∀ b o, s.heap.get? b = some o → s'.heap.get? b = some o) → s'.gens = s.gens → s'.os = s.os → s.heap.objs.size ≤ p →
      s'.heap.get? p = some (seqObj "list" out c) → StrsAre out.toList (sortT l) → Q (.ref p) s') : wpAny (model prog w) A (call (.builtin "sorted") [.ref a]) Q E s := by
  obtain ⟨d, ho, R⟩ := x
  have hsz : d.1.size = l.length := R.F.sz
  have sb : scanBound = scanBound := rfl
  refine Calls.call_function_entry PyProof.Rows.kind_sorted PyProof.Rows.plain_sorted PyProof.Rows.entry_sorted (PyProof.Rows.args_sorted1 _) ?_
  unfold Builtin.«sorted»
  refine wpAny_bind (m := checkCount "sorted" 1 1 _) (wpAny_pure ?_)
  refine wpAny_bind (L2.collect_set (A := A.in1) (es := d.1) (ep := d.2.1) (t := d.2.2) hh ⟨_, ho, rfl, rfl⟩ R.F.fit (by rw [hsz]; unfold scanBound; omega) R.ris R.led fun s1 vs k1 hz g1 o1 pm => ?_)
  have hS : StrsAre vs (vs.map strOf) := strsAre_map vs fun v hv => by
    obtain ⟨e, he, q⟩ := List.mem_map.mp (pm.mem_iff.mp hv)
    obtain ⟨k, u, q2⟩ := R.st e he
    exact ⟨k, u, q ▸ q2⟩
  have pk : (vs.map strOf).Perm l := by
    refine (pm.map strOf).trans ?_
    rw [List.map_map]
    refine List.Perm.trans (List.Perm.of_eq (List.map_congr_left fun e he => ?_)) R.ks
    obtain ⟨k, u, q2⟩ := R.st e he
    show strOf e.2 = keyS e
    unfold keyS
    rw [q2]
    rfl
  have hvl : vs.length = l.length := by rw [← pk.length_eq, List.length_map]
  refine wpAny_bind (wpAny_newList ?_ (by rw [hvl, sizeLine_eq]; omega))
  have hoL : (s1.heap.push (seqObj "list" vs.toArray 0)).get? s1.heap.objs.size = some (seqObj "list" vs.toArray 0) := Heap.get?_push_size _ rfl
  refine wpAny_bind (wpAny_holding (wpAny_call_entry PyProof.Rows.slot_list_sort ⟨_, hoL, rfl⟩ PyProof.Rows.entry_list_sort (PyProof.Rows.list_sort_treeK strKind_oneLt hoL hS.keysOf (fun v₁ v₂ rest e => keyKind_strs (by rw [← e]; exact hS)) (by rw [hvl]; exact h64) fun st' a1 a2 => ⟨_, rfl, ?_⟩) (PyProof.Rows.args_list_sort _)))
  obtain ⟨ss', b1, b2, b3⟩ := sorted_out_str hS a1 a2
  obtain ⟨c, hc⟩ := sortedHeap_at (vs := vs) (out := (arrOf st').map (·.2)) hoL
  have e := sortT_uniq (b2.trans pk) (pair_of_sorted b3)
  subst e
  refine wpAny_pure ⟨_, rfl, hQ _ s1.heap.objs.size _ c (fun b u e => ?_) g1 o1 hz hc b1⟩
  have hlt := Heap.lt_size (k1 b u e)
  show (sortedHeap (s1.heap.push (seqObj "list" vs.toArray 0)) s1.heap.objs.size vs _).get? b = some u
  rw [sortedHeap_old (Nat.ne_of_lt hlt) (by rw [size_push']; exact Nat.lt_succ_of_lt hlt)]
  exact Heap.get?_push_of_some _ (k1 b u e)
end
/-! ### sorted(set(xs)), sorted(xs) -/
theorem foldL_len (xs : List Str) : ∀ l : List Str, (xs.foldl addL l).length ≤ l.length + xs.length := by
  induction xs with
  | nil => intro l; simp
  | cons x r ih =>
    intro l
    have h1 := ih (addL l x)
    have h2 := addL_len l x
    simp only [List.foldl_cons, List.length_cons]
    omega
def tSortSet (K : PySem.W.Frag) (ta : TE) : TE := fun σ H Q => ta σ H fun x H1 => ∃ (l : Addr) (xs : List Str), x = .ref l ∧ SqL K H1 l (xs.map V.str) ∧ xs.length < 64 ∧ ∀ p, H1 p = none → Q (.ref p) (upd H1 p (.lst ((sortT (xs.foldl addL [])).map V.str)))
theorem pe_sortset {X : Cx} {a : Expr} {ta : TE} {p p2 q pos : Pos} (hc : X.calm = true) (hm : X.mg "sorted" = none) (hg : Gl X "sorted") (hm2 : X.mg "set" = none) (hg2 : Gl X "set") (ha : PE X a ta)
    (na : starEach [a] X.env = (false, eval a X.env) :: starEach [] X.env := by rfl) : PE X (.Call (.Name "sorted" p) [.Call (.Name "set" p2) [a] [] q] [] pos) (tSortSet X.K ta) := by
  refine ⟨fun pins s σ H Q I h => ?_⟩
  refine Call_ (ld_blt I hg hm (show bootBuiltins "sorted" = some (.builtin "sorted") by decide +kernel) ?_)
  refine PyProof.Rows.callWith_builtin1 (PyProof.Rows.args_cons ?_ rfl) rfl rfl
  refine Call_ (ld_blt I hg2 hm2 (show bootBuiltins "set" = some (.type "set") by decide +kernel) ?_)
  refine PyProof.Rows.callWith_type1 (PyProof.Rows.args_cons (thn (ha.run pins s σ H _ I h) fun v s1 ⟨x, H1, I1, r1, q1⟩ => PyProof.Rows.args_nil ?_) na) na rfl
  obtain ⟨l, xs, rfl, hq, h64, q1⟩ := q1
  cases r1
  obtain ⟨its, r, pl, hz⟩ := I1.list hq
  have hll := foldL_len xs []
  simp only [List.length_nil, Nat.zero_add] at hll
  refine call_set_txs (I1.ok.hd hc) pl.isList (by simpa using strsAre_of r) (by unfold scanBound; omega) fun h' tk hS hk => ?_
  refine PyProof.Rows.args_nil ?_
  have I2 : Inv X pins σ H1 { s1 with heap := h', toks := tk } := I1.kept fun b o e => hk b o (Heap.lt_size e) e
  refine sorted_txs (s := { s1 with heap := h', toks := tk }) hS (I2.ok.hd hc) (by omega) fun s2 p out c k2 g2 o2 hp ho hs => ?_
  have hlen : ((sortT (xs.foldl addL [])).map V.str).length ≤ sizeLine := by rw [List.length_map, (sortT_perm _).length_eq, sizeLine_eq]; omega
  have hn : H1 p = none := I2.hok.fresh hp
  have J : Inv X pins σ (upd H1 p (.lst ((sortT (xs.foldl addL [])).map V.str))) { ({ s1 with heap := h', toks := tk } : Shared) with heap := s2.heap, gens := s2.gens, drawn := s2.drawn, toks := s2.toks } :=
    I2.call (ch := []) (Un.laid k2 hp hn) (I2.hok.laid k2 hp ⟨hlen, out.toList, c, vals_of_strs hs, ho⟩) (by rw [g2]; exact I2.bare) (fun _ z => nomatch z)
  have e : s2 = { ({ s1 with heap := h', toks := tk } : Shared) with heap := s2.heap, gens := s2.gens, drawn := s2.drawn, toks := s2.toks } := by
    cases s2
    cases o2
    rfl
  rw [e]
  exact ⟨.ref p, _, J, rfl, q1 p hn⟩
def oSortSet : List D → Option D
  | [.list ds] => (match strsOf ds with
    | some xs => if xs.length < 64 then some (.list ((sortT (xs.foldl addL [])).map .str)) else none
    | none => none)
  | _ => none
section
variable {K : PySem.W.Frag} {X : Cx} {M : Pm} {E : XK} {k : Nat} {a : Expr} {ta : TE} {fa : Fe} {pos : Pos}
theorem je_sortset {p p2 q : Pos} (C : CxF K X E k) (hm : X.mg "sorted" = none) (hg : Gl X "sorted") (hm2 : X.mg "set" = none) (hg2 : Gl X "set") (ha : JE K X M E .op a ta fa)
    (na : starEach [a] X.env = (false, eval a X.env) :: starEach [] X.env := by rfl) : JE K X M E .fr (.Call (.Name "sorted" p) [.Call (.Name "set" p2) [a] [] q] [] pos) (tSortSet K ta) (fB oSortSet (fCons fa fNil)) := by
  have hK := C.hK
  subst hK
  refine ⟨pe_sortset C.calm hm hg hm2 hg2 ha.pe na, fun H0 G0 γ σ H G Q r ev hf p => ?_⟩
  unfold fB fCons fNil at hf
  cases e1 : fa γ with
  | none => simp only [e1, bL, bA] at hf; cases hf
  | some q1 =>
    cases q1 with
    | er c => simp only [e1, bL, bA] at hf; cases hf; exact ha.eo H0 G0 γ σ H G _ _ ev e1 p
    | ok d =>
      simp only [e1, bL, bLL, bA] at hf
      refine ha.eo H0 G0 γ σ H G _ _ ev e1 fun v H1 G1 s1 r1 => ?_
      cases e2 : oSortSet [d] with
      | none => rw [e2] at hf; cases hf
      | some dz =>
        rw [e2] at hf
        cases hf
        unfold oSortSet at e2
        split at e2
        · rename_i ds hd
          cases hd
          split at e2
          · rename_i xs hx
            split at e2
            · rename_i h64
              cases e2
              obtain ⟨l, us, e3, hs, ra⟩ := r1
              subst e3
              have ed := strsOf_eq hx
              subst ed
              refine ⟨l, xs, rfl, by rw [← ra.strs]; exact hs, h64, fun p' hp => ?_⟩
              exact p _ _ G1 (s1.trans (Stp.newO s1.sub hp)) ⟨p', _, rfl, s1.ex.free hp, s1.sub.free hp, upd_same, RA.of_strs _⟩
            · cases e2
          · cases e2
        · cases e2
end
end Py

/-! PyP: plans: their fields, their methods, their making -/
namespace Py
open PySem PySem.Spec PyProof.Rows L2
abbrev plNs : List Str := ["wishes", "pasts", "marks", "weights"]
def MP (C : Addr) : Pm := { ci := fun c => if c = "Plan" then some (C, plNs) else none, exc := fun _ => .none }
/-- what is asked of the class -/
structure CP (K : PySem.W.Frag) (mg : Str → Option Value) (M : Pm) (C : Addr) : Prop where
  ci : M.ci "Plan" = some (C, plNs)
  cl : Cls K C
  na : ∀ f ∈ plNs, NoAttr K C f
  mg : mg "Plan" = some (.ref C)
def planD (ds : List D) : D := .dict [(.str "Plan", .list ds)]
def oFld (f : Str) : D → Option D
  | .dict [(.str c, .list ds)] => if c = "Plan" then (plNs.zip ds).lookup f else none
  | _ => none
theorem lookup_fs {K : PySem.W.Frag} {M : Pm} {G : Hp} {f : Str} : ∀ {fs : List (Str × V)} {ds : List D} {d : D}, RA K M G (fs.map (·.2)) ds → ((fs.map (·.1)).zip ds).lookup f = some d → ∃ v, fs.lookup f = some v ∧ R K M G v d
  | [], _, _, _, h => by cases h
  | (g, v) :: fs, _, d, .cons r t, h => by
    simp only [List.map_cons, List.zip_cons_cons, List.lookup_cons] at h ⊢
    cases e : (f == g) with
    | true => rw [e] at h; cases h; exact ⟨v, rfl, r⟩
    | false => rw [e] at h; exact lookup_fs t h
theorem lookup_no {f : Str} : ∀ {fs : List (Str × V)}, f ∉ fs.map (·.1) → fs.lookup f = none
  | [], _ => rfl
  | (g, v) :: fs, h => by
    simp only [List.map_cons, List.mem_cons, not_or] at h
    rw [List.lookup_cons, beq_eq_false_iff_ne.mpr h.1]
    exact lookup_no h.2
theorem mem_of_zip {f : Str} {d : D} : ∀ {ns : List Str} {ds : List D}, (ns.zip ds).lookup f = some d → f ∈ ns
  | [], _, h => by cases h
  | _ :: _, [], h => by cases h
  | n :: ns, x :: ds, h => by
    simp only [List.zip_cons_cons, List.lookup_cons] at h
    cases e : (f == n) with
    | true => rw [beq_iff_eq.mp e]; exact List.mem_cons_self
    | false => rw [e] at h; exact List.mem_cons_of_mem _ (mem_of_zip h)
section
variable {K : PySem.W.Frag} {X : Cx} {M : Pm} {E : XK} {k : Nat} {a o : Expr} {ta to : TE} {fa fo : Fe} {pos apos : Pos} {Cc : Addr}
theorem je_fld {f : Str} (C : CxF K X E k) (P : CP K X.mg M Cc) (ha : JE K X M E .op a ta fa) (hb : attributeBase a f X.env (eval a X.env) = eval a X.env := by rfl) : JE K X M E .cl (.Attribute a f pos) (tFld K ta f) (f1 (oFld f) fa) := by
  have hK := C.hK
  subst hK
  refine ⟨pe_fld ha.pe hb, fun H0 G0 γ σ H G Q r ev hf p => ?_⟩
  unfold f1 at hf
  cases e1 : fa γ with
  | none => rw [e1] at hf; cases hf
  | some q =>
    rw [e1] at hf
    cases q with
    | er c => cases hf; exact ha.eo H0 G0 γ σ H G _ _ ev e1 p
    | ok d =>
      simp only [bR] at hf
      refine ha.eo H0 G0 γ σ H G _ _ ev e1 fun v H1 G1 s1 r1 => ?_
      cases e2 : oFld f d with
      | none => rw [e2] at hf; cases hf
      | some dz =>
        rw [e2] at hf
        cases hf
        unfold oFld at e2
        split at e2
        · rename_i c ds
          split at e2
          · rename_i hc
            subst hc
            have rr : R X.K M G1 v (.dict [(.str "Plan", .list ds)]) := r1
            cases rr with
            | ins hg hci hns hra =>
              rename_i b C' dx fs ns
              have e3 := P.ci
              rw [hci] at e3
              cases e3
              rw [← hns] at e2
              have hm : f ∈ plNs := by rw [← hns]; exact mem_of_zip e2
              obtain ⟨w, h1, h2⟩ := lookup_fs hra e2
              exact ⟨b, _, dx, fs, w, rfl, s1.sub _ _ hg, P.cl, P.na f hm, h1, p w H1 G1 s1 h2⟩
          · cases e2
        · cases e2
/-- a plan's method -/
def isPlan : D → Bool
  | .dict [(.str c, .list _)] => decide (c = "Plan")
  | _ => false
def fMeth (φ : List D → Option Rs) (a : Fe) (b : Fa) : Fe := fun γ => bR (a γ) fun d => if isPlan d = true then bA (b γ) fun ds => φ (d :: ds) else none
theorem je_meth {φ : List D → Option Rs} {j : Nat} {m : Str} {f : Addr} {fd : FuncData} {ps : List Str} {e : Expr} {es : List Expr} {t : TA} {fr : Fa} {pl : Sem Bool} (C : CxF K X E k) (P : CP K X.mg M Cc) (hm : Meth X.K Cc m f) (hn : m ∉ plNs)
    (F : FnOk X.prog X.w X.K X.mg X.base (L2.CX X.prog X.w) j f fd ps (spF K M φ)) (hj : j ≤ k) (hb : Binds X.K fd ps []) (ho : JE K X M E .op o to fo) (ha : JC K X M E (e :: es) t fr)
    (hst : starEach (e :: es) X.env = (false, eval e X.env) :: starEach es X.env := by rfl) (hpl : (backTo pos (starEach es X.env)).any (·.1) = false := by rfl)
    (ht : eval (.Call (.Attribute o m apos) (e :: es) [] pos) X.env = (do
      let ov ← eval o X.env
      standAt apos.atName
      let (g, first) ← holding [ov] (getMethod ov m pl)
      callWith pos g first (backTo pos (starEach (e :: es) X.env)) (backToKw pos (keywordEach [] X.env))) := by rfl) :
    JE K X M E .cl (.Call (.Attribute o m apos) (e :: es) [] pos) (tMeth Cc m (spF K M φ) [] E to t) (fMeth φ fo fr) := by
  have hK := C.hK
  subst hK
  refine ⟨pe_meth ho.pe P.cl hm F (C.room.mono hj) hb .nil C.pas ha.pa hst hpl ht, fun H0 G0 γ σ H G Q r ev hf p => ?_⟩
  unfold fMeth at hf
  cases e1 : fo γ with
  | none => rw [e1] at hf; cases hf
  | some q =>
    rw [e1] at hf
    cases q with
    | er c => cases hf; exact ho.eo H0 G0 γ σ H G _ _ ev e1 p
    | ok d =>
      simp only [bR] at hf
      refine ho.eo H0 G0 γ σ H G _ _ ev e1 fun v H1 G1 s1 r1 => ?_
      split at hf
      case isFalse => cases hf
      rename_i hp
      have key : (∃ b dx fs, v = .ref b ∧ H1 b = some (.ins Cc dx fs) ∧ fs.lookup m = none) ∧ R X.K M G1 v d := by
        unfold isPlan at hp
        split at hp
        · rename_i c ds
          have hc := of_decide_eq_true hp
          subst hc
          have rr : R X.K M G1 v (.dict [(.str "Plan", .list ds)]) := r1
          refine ⟨?_, rr⟩
          cases rr with
          | ins hg hci hns hra =>
            rename_i b C' dx fs ns
            have e3 := P.ci
            rw [hci] at e3
            cases e3
            exact ⟨b, dx, fs, rfl, s1.sub _ _ hg, lookup_no (by rw [hns]; exact hn)⟩
        · cases hp
      obtain ⟨⟨b, dx, fs, e3, h1, h2⟩, rd⟩ := key
      refine ⟨b, dx, fs, e3, h1, h2, ?_⟩
      cases e2 : fr γ with
      | none => rw [e2] at hf; cases hf
      | some q2 =>
        rw [e2] at hf
        cases q2 with
        | er c => cases hf; exact ha.ac H0 G0 γ σ H1 G1 _ _ (ev.stp s1) e2 fun H' G' s' => p H' G' (s1.trans s')
        | ok ds =>
          refine ha.ac H0 G0 γ σ H1 G1 _ _ (ev.stp s1) e2 fun vs H2 G2 s2 r2 => ?_
          rw [List.append_nil]
          refine ⟨G2, d :: ds, r, s2.sub, .cons (rd.mono s2.eg) r2, hf, ?_, ev.kp.trans ((ev.stp s1).stp s2).st.ex⟩
          cases r with
          | ok d' => exact fun v' H' G' s' r' => p v' H' G' ((s1.trans s2).trans s') r'
          | er c => exact fun H' G' s' => p H' G' ((s1.trans s2).trans s')
/-! ### the making -/
/-- a step of the heap that leaves x free to change, and to be frozen -/
structure StpN (x : Addr) (H G H' G' : Hp) : Prop where
  ex : ∀ (p : Addr) (u : HO), p ≠ x → H p = some u → H' p = some u
  eg : Same G G'
  sub : Same G' H'
  nw : ∀ (p : Addr) (u : HO), p ≠ x → H p = some u → G p = none → G' p = none
theorem StpN.step {x : Addr} {H G H1 G1 H2 G2 : Hp} (a : StpN x H G H1 G1) (b : Stp H1 G1 H2 G2) : StpN x H G H2 G2 :=
  ⟨fun p u n q => b.ex p u (a.ex p u n q), a.eg.trans b.eg, b.sub, fun p u n q z => b.nw p u (a.ex p u n q) (a.nw p u n q z)⟩
theorem StpN.wr {x : Addr} {H G H1 G1 : Hp} {o : HO} (a : StpN x H G H1 G1) (g : G1 x = none) : StpN x H G (upd H1 x o) G1 :=
  ⟨fun p u n q => by rw [upd_ne n]; exact a.ex p u n q, a.eg, fun p u q => by rw [upd_ne (ne_of_none q g)]; exact a.sub p u q, a.nw⟩
/-- a new list written -/
theorem StpN.wrN {x l : Addr} {H G H1 G1 : Hp} {o : HO} (a : StpN x H G H1 G1) (n0 : H l = none) (g : G1 l = none) : StpN x H G (upd H1 l o) G1 :=
  ⟨fun p u n q => by rw [upd_ne (ne_of_none q n0)]; exact a.ex p u n q, a.eg, fun p u q => by rw [upd_ne (ne_of_none q g)]; exact a.sub p u q, a.nw⟩
/-- the promise of __init__: a plan's datum, and the instance stands for it -/
def spI (K : PySem.W.Frag) (M : Pm) (Cc : Addr) (φ : D → Option D) : Sp := fun vs H Q E => ∃ (G : Hp) (x dx : Addr) (v : V) (d pd : D), vs = [.ref x, v] ∧ Same G H ∧ G x = none ∧ H x = some (.ins Cc dx []) ∧ R K M G v d ∧ φ d = some pd ∧
  (∀ H' G', StpN x H G H' G' → R K M G' (.ref x) pd → Q .non H') ∧ Same M.kp H ∧ M.kp x = none
def fMake (φ : D → Option D) (b : Fa) : Fe := fun γ => match b γ with
  | some (.ok [d]) => oR (φ d)
  | some (.er c) => some (.er c)
  | _ => none
theorem je_make {φ : D → Option D} {j : Nat} {f : Addr} {fd : FuncData} {ps : List Str} {x : Str} {p : Pos} {t : TA} {fr : Fa} (C : CxF K X E k) (hm : X.mg x = some (.ref Cc)) (mk : Mk X.K Cc f)
    (F : FnOk X.prog X.w X.K X.mg X.base (L2.CX X.prog X.w) j f fd ps (spI K M Cc φ)) (hj : j + 1 ≤ k) (hb : Binds X.K fd ps []) (hg : Gl X x) (ha : JC K X M E [a] t fr)
    (hdb : (x == ("__debug__" : Str)) = false := by decide) (he : starEach [a] X.env = (false, eval a X.env) :: starEach [] X.env := by rfl) (hpl : (backTo pos (starEach [] X.env)).any (·.1) = false := by rfl) :
    JE K X M E .cl (.Call (.Name x p) [a] [] pos) (tMake Cc (spI K M Cc φ) [] E t) (fMake φ fr) := by
  have hK := C.hK
  subst hK
  refine ⟨pe_make mk F (C.room.mono hj) hg hm hb .nil C.pas ha.pa hdb he hpl, fun H0 G0 γ σ H G Q r ev hf p => ?_⟩
  unfold fMake at hf
  split at hf
  · rename_i d e1
    refine ha.ac H0 G0 γ σ H G _ _ ev e1 fun vs H1 G1 s1 r1 => ?_
    intro y dx hy hdx hne
    cases e2 : φ d with
    | none => rw [e2] at hf; cases hf
    | some pd =>
      rw [e2] at hf
      cases hf
      cases r1 with
      | cons r1 r2 =>
        cases r2
        rename_i v
        have gy : G1 y = none := s1.sub.free hy
        have gdx : G1 dx = none := s1.sub.free hdx
        refine ⟨G1, y, dx, v, d, pd, rfl, fun q u z => ?_, gy, upd_same, r1, e2, fun H' G' st rp => ⟨rfl, ?_⟩, fun q u e => ?_, ?_⟩
        · rw [upd_ne (ne_of_none z gy), upd_ne (ne_of_none z gdx)]; exact s1.sub q u z
        · refine p _ H' G' (s1.trans ⟨fun q u z => ?_, st.eg, st.sub, fun q u z n => ?_⟩) rp
          · exact st.ex q u (ne_of_none z hy) (by rw [upd_ne (ne_of_none z hy), upd_ne (ne_of_none z hdx)]; exact z)
          · exact st.nw q u (ne_of_none z hy) (by rw [upd_ne (ne_of_none z hy), upd_ne (ne_of_none z hdx)]; exact z) n
        · have z := (ev.stp s1).st.ex q u (ev.kp q u e)
          rw [upd_ne (ne_of_none z hy), upd_ne (ne_of_none z hdx)]
          exact z
        · cases e : M.kp y with
          | none => rfl
          | some u => have z := (ev.stp s1).st.ex y u (ev.kp y u e); rw [hy] at z; cases z
  · rename_i c e1
    cases hf
    exact ha.ac H0 G0 γ σ H G _ _ ev e1 p
  · cases hf
end
end Py

/-! PyI: the making of a plan, its __init__ -/
namespace Py
open PySem PySem.Spec PyProof.Rows L2
def wts (n : Nat) : List D := (List.range (n + 1)).map fun i => .int (2 ^ i : Nat)
theorem wts_succ (n : Nat) : wts (n + 1) = wts n ++ [.int (2 ^ (n + 1) : Nat)] := by unfold wts; rw [List.range_succ (n := n + 1), List.map_append]; rfl
theorem wts_len (n : Nat) : (wts n).length = n + 1 := by unfold wts; simp
theorem EnvR.re {K : PySem.W.Frag} {M : Pm} {H0 G0 H G H2 : Hp} {γ : Ge} {σ : L2.St} (e : EnvR K M H0 G0 γ σ H G) (n : ∀ (j : Nat) (ds : List D), γ[j]? ≠ some (.ow ds)) (s : Same G H2) (kp : Same M.kp H2) : EnvR K M H2 G γ σ H2 G :=
  ⟨Stp.refl s, e.len, fun i sl x h1 h2 => by
    have q := e.sl i sl x h1 h2
    cases sl with
    | no => trivial
    | va d => exact q
    | ow ds => exact absurd h1 (n i ds), e.ap, kp⟩
theorem noow3 (d : D) (j : Nat) (ds : List D) : ([.no, .va d, .no] : Ge)[j]? ≠ some (.ow ds) := by
  intro h
  have m := List.mem_of_getElem? h
  simp at m
structure IV (K : PySem.W.Frag) (M : Pm) (Cc x dx : Addr) (Hs Gs : Hp) (d : D) (fs : List (Str × V)) (σ : L2.St) (H G : Hp) : Prop where
  ev : EnvR K M H G [.no, .va d, .no] σ H G
  sx : σ[0]? = some (some (.ref x))
  hx : H x = some (.ins Cc dx fs)
  gx : G x = none
  fr : StpN x Hs Gs H G
  kh : Same M.kp Hs
  kx : M.kp x = none
theorem kp_upd {M : Pm} {H H' : Hp} {a : Addr} {o : HO} (k : Same M.kp H) (s : Same H H') (n : M.kp a = none) : Same M.kp (upd H' a o) := fun p u e => by
  rw [upd_ne (fun z => by rw [z, n] at e; cases e)]
  exact s p u (k p u e)
section
variable {K : PySem.W.Frag} {M : Pm} {E : XK} {Cc x dx : Addr} {Hs Gs : Hp} {d : D} {fs : List (Str × V)} {σ : L2.St} {H G : Hp} {De : Ends}
theorem fld_step {t : TE} {fa : Fe} {nm : Str} {dv : D} {y : V} {H1 G1 : Hp} (I : IV K M Cc x dx Hs Gs d fs σ H G) (s1 : Stp H G H1 G1) : IV K M Cc x dx Hs Gs d (putF nm y fs) σ (upd H1 x (.ins Cc dx (putF nm y fs))) G1 := by
  have hx1 : H1 x = some (.ins Cc dx fs) := s1.ex _ _ I.hx
  have gx1 : G1 x = none := s1.nw _ _ I.hx I.gx
  have fr1 := (I.fr.step s1).wr (o := .ins Cc dx (putF nm y fs)) gx1
  exact ⟨(I.ev.stp s1).re (noow3 d) fr1.sub (kp_upd I.ev.kp s1.ex I.kx), I.sx, upd_same, gx1, fr1, I.kh, I.kx⟩
theorem set_cl {t : TE} {fa : Fe} {nm : Str} {dv : D} (cl : Cls K Cc) (na : NoAttr K Cc nm) (hl : fs.length < 1000) (I : IV K M Cc x dx Hs Gs d fs σ H G) (ha : EO K M E .cl t fa) (hf : fa [.no, .va d, .no] = some (.ok dv))
    (p : ∀ y H1 G1, Same G G1 → R K M G1 y dv → IV K M Cc x dx Hs Gs d (putF nm y fs) σ H1 G1 → De.nx σ H1) : sFld K (tVar 0) t nm De σ H := by
  refine ha H G _ σ H G _ _ I.ev hf fun y H1 G1 s1 r1 => ?_
  refine ⟨.ref x, I.sx, x, Cc, dx, fs, rfl, s1.ex _ _ I.hx, cl, na, hl, ?_⟩
  exact p y _ G1 s1.eg r1 (fld_step (t := t) (fa := fa) (dv := dv) I s1)
theorem set_fr {t : TE} {fa : Fe} {nm : Str} {dl : List D} (cl : Cls K Cc) (na : NoAttr K Cc nm) (hl : fs.length < 1000) (I : IV K M Cc x dx Hs Gs d fs σ H G) (ha : EO K M E .fr t fa) (hf : fa [.no, .va d, .no] = some (.ok (.list dl)))
    (p : ∀ l ws H1 G1, Same G G1 → l ≠ x → Hs l = none → H1 l = some (.lst ws) → G1 l = none → RA K M G1 ws dl → IV K M Cc x dx Hs Gs d (putF nm (.ref l) fs) σ H1 G1 → De.nx σ H1) : sFld K (tVar 0) t nm De σ H := by
  refine ha H G _ σ H G _ _ I.ev hf fun y H1 G1 s1 r1 => ?_
  obtain ⟨l, ws, rfl, h0, g1, h1, ra⟩ := r1
  have lx : l ≠ x := fun e => by rw [e, I.hx] at h0; cases h0
  have hs : Hs l = none := by
    cases q : Hs l with
    | none => rfl
    | some u => have := I.fr.ex l u lx q; rw [h0] at this; cases this
  refine ⟨.ref x, I.sx, x, Cc, dx, fs, rfl, s1.ex _ _ I.hx, cl, na, hl, ?_⟩
  exact p l ws _ G1 s1.eg lx hs (by rw [upd_ne lx]; exact h1) g1 ra (fld_step (t := t) (fa := fa) (dv := .none) I s1)
end
/-- the loop of the weights -/
structure LW (K : PySem.W.Frag) (M : Pm) (Cc x dx l : Addr) (Hs Gs : Hp) (d : D) (fs : List (Str × V)) (i : Nat) (σ : L2.St) (H G : Hp) : Prop where
  I : IV K M Cc x dx Hs Gs d fs σ H G
  wl : ∃ ws, H l = some (.lst ws) ∧ RA K M G ws (wts i)
  gl : G l = none
theorem two_pow (i : Nat) : (2 : Int) * ((2 ^ i : Nat) : Int) = ((2 ^ (i + 1) : Nat) : Int) := by rw [Nat.pow_succ]; omega
theorem loop_w {K : PySem.W.Frag} {M : Pm} {E : XK} {Cc x dx l : Addr} {Hs Gs : Hp} {d : D} {fs : List (Str × V)} {σ : L2.St} {H G : Hp} {De : Ends} {tn : TE} {fn : Fe} {W : List D} {vW : V} (cl : Cls K Cc) (naW : NoAttr K Cc "wishes") (naT : NoAttr K Cc "weights")
    (fW : fs.lookup ("wishes" : Str) = some vW) (fT : fs.lookup ("weights" : Str) = some (V.ref l)) (lx : l ≠ x) (hsl : Hs l = none) (rW : R K M G vW (.list W)) (hn : W.length ≤ 1000) (I : LW K M Cc x dx l Hs Gs d fs 0 σ H G) (en : EO K M E .cl tn fn) (hf : ∀ γ, fn γ = some (.ok (.int (-1))))
    (p : ∀ σ' H' G', Same G G' → LW K M Cc x dx l Hs Gs d fs W.length σ' H' G' → De.nx σ' H') :
    tFor (iList K (tFld K (tVar 0) "wishes")) (gName 2) (tDrop (tBM K "list" rAppend (tFld K (tVar 0) "weights") (tCons (tOp (rI CMul fun i j => .int (i * j)) (tC (.int 2)) (tOp (rIx K) (tFld K (tVar 0) "weights") tn)) tNil))) De σ H := by
  cases rW with
  | lst hsq hra =>
    rename_i lw us
    refine ⟨.ref x, I.I.sx, x, Cc, dx, fs, _, rfl, I.I.hx, cl, naW, fW, lw, rfl, ⟨us, I.I.ev.sub.seq hsq⟩, ?_⟩
    refine ⟨fun i m σ' H' => m = W.length - i ∧ i ≤ W.length ∧ ∃ G', Same G G' ∧ LW K M Cc x dx l Hs Gs d fs i σ' H' G', ⟨W.length, by simp, Nat.zero_le _, G, Same.refl _, I⟩, ?_⟩
    rintro i m σ2 H2 ⟨rfl, hi, G2, g2, L⟩
    by_cases hlt : i < W.length
    · have hu : i < us.length := by rw [hra.len]; exact hlt
      have hs2 : SqL K H2 lw us := (g2.trans L.I.ev.sub).seq hsq
      refine .inr ⟨⟨us, us[i], hs2, List.getElem?_eq_getElem hu⟩, fun σ' H' => ∃ G', Same G G' ∧ LW K M Cc x dx l Hs Gs d fs (i + 1) σ' H' G', fun σ' H' ⟨G', q1, q2⟩ => ⟨W.length - (i + 1), by omega, rfl, hlt, G', q1, q2⟩, fun y H3 hy => ?_⟩
      obtain ⟨e3, hy⟩ := hy
      subst e3
      obtain ⟨ws, hl, rw_⟩ := L.wl
      have sx2 : (σ2.set 2 (some y))[0]? = some (some (.ref x)) := by rw [List.getElem?_set_ne (by decide)]; exact L.I.sx
      have ev2 : EnvR K M H3 G2 [.no, .va d, .no] (σ2.set 2 (some y)) H3 G2 := by
        have e := L.I.ev
        refine ⟨e.st, by rw [List.length_set]; exact e.len, fun j sl xx h1 h2 => ?_, fun j k sj sk xj xk q h1 h2 h3 h4 h5 h6 => ?_, e.kp⟩
        · by_cases hj : j = 2
          · subst hj; cases h1; trivial
          · rw [List.getElem?_set_ne (Ne.symm hj)] at h2; exact e.sl j sl xx h1 h2
        · cases sj with
          | ow ds => exact absurd h1 (noow3 d j ds)
          | _ => exact h5.elim
      have kl : M.kp l = none := by
        cases e : M.kp l with
        | none => rfl
        | some u => have := L.I.kh l u e; rw [hsl] at this; cases this
      have hlen : ws.length = i + 1 := by rw [rw_.len, wts_len]
      refine ⟨.ref x, sx2, x, Cc, dx, fs, V.ref l, rfl, L.I.hx, cl, naT, fT, (show tyV K "list" (V.ref l) H3 from Or.inl ⟨rfl, ws, .of hl⟩), ?_⟩
      show tOp (rI CMul fun i j => .int (i * j)) (tC (.int 2)) _ (σ2.set 2 (some y)) H3 _
      refine ⟨.ref x, sx2, x, Cc, dx, fs, _, rfl, L.I.hx, cl, naT, fT, ?_⟩
      refine en H3 G2 _ _ H3 G2 _ _ ev2 (hf _) fun w H4 G4 s4 r4 => ?_
      cases (show R K M G4 w (.int (-1)) from r4)
      have hl4 : H4 l = some (.lst ws) := s4.ex _ _ hl
      have last : atI (wts i) (-1) = some (.int (2 ^ i : Nat)) := by
        cases i with
        | zero => rfl
        | succ i => rw [wts_succ]; exact atI_last _ _
      obtain ⟨v, hv1, hv2⟩ := (rw_.mono s4.eg).at last
      cases (show R K M G4 v (.int (2 ^ i : Nat)) from hv2)
      refine .inl ⟨l, ws, -1, _, rfl, rfl, .of hl4, hv1, 2, ((2 ^ i : Nat) : Int), rfl, rfl, .inl ⟨by decide, by decide⟩, ?_⟩
      refine ⟨l, ws, _, rfl, rfl, hl4, by rw [hlen, sizeLine_eq]; omega, ?_⟩
      have g4l : G4 l = none := s4.nw _ _ hl L.gl
      have g4x : G4 x = none := s4.nw _ _ L.I.hx L.I.gx
      have fr4 := ((L.I.fr.step s4).wrN (o := .lst (ws ++ [.int (2 * ((2 ^ i : Nat) : Int))])) hsl g4l)
      refine ⟨G4, g2.trans s4.eg, ⟨(ev2.stp s4).re (noow3 d) fr4.sub (kp_upd L.I.ev.kp s4.ex kl), sx2, by rw [upd_ne (Ne.symm lx)]; exact s4.ex _ _ L.I.hx, g4x, fr4, L.I.kh, L.I.kx⟩, ⟨_, upd_same, ?_⟩, g4l⟩
      rw [wts_succ, ← two_pow]
      exact (rw_.mono s4.eg).app (.one (.int _))
    · have hie : i = W.length := by omega
      subst hie
      exact .inl ⟨⟨us, (g2.trans L.I.ev.sub).seq hsq, by rw [hra.len]; omega⟩, p σ2 H2 G2 g2 L⟩
/-- self.nm = e -/
structure JF (K : PySem.W.Frag) (X : Cx) (M : Pm) (E : XK) (m : Md) (st : Stmt) (nm : Str) (t : TE) (f : Fe) : Prop where
  ps : PS X st (sFld K (tVar 0) t nm)
  eo : EO K M E m t f
/-- the loop of the weights -/
structure JL (K : PySem.W.Frag) (X : Cx) (M : Pm) (E : XK) (st : Stmt) (tn : TE) (fn : Fe) : Prop where
  ps : PS X st (tFor (iList K (tFld K (tVar 0) "wishes")) (gName 2) (tDrop (tBM K "list" rAppend (tFld K (tVar 0) "weights") (tCons (tOp (rI CMul fun i j => .int (i * j)) (tC (.int 2)) (tOp (rIx K) (tFld K (tVar 0) "weights") tn)) tNil))))
  eo : EO K M E .cl tn fn
section
variable {K : PySem.W.Frag} {X : Cx} {M : Pm} {E : XK} {k : Nat} {a : Expr} {ta : TE} {fa : Fe} {m : Md}
theorem js_fld {nm x : Str} {p0 p' pos : Pos} (C : CxF K X E k) (ha : JE K X M E m a ta fa) (ho : PE X (.Name x p0) (tVar 0)) (hs : swapsWith a (some (.Attribute (.Name x p0) nm p')) pos.line X.env = pure false := by rfl) :
    JF K X M E m (.Assign [.Attribute (.Name x p0) nm p'] a pos) nm ta fa := by
  have hK := C.hK
  subst hK
  exact ⟨ps_fld ho ha.pe hs, ha.eo⟩
theorem js_loop {x w : Str} {p1 p2 p3 p4 p5 p6 p7 p8 p9 p10 pos : Pos} {j2 : Nat} (C : CxF K X E k) (ho : ∀ p, PE X (.Name x p) (tVar 0)) (hi : X.N[2]? = some w) (hx : Loc X.env.scope w) (hf : X.fn w = true ∨ X.env.scope.names.lookup w = some .local) (ha : JE K X M E .cl a ta fa)
    (hs : PlainIx a) (hb1 : attributeBase (.Name x p1) "wishes" X.env (eval (.Name x p1) X.env) = eval (.Name x p1) X.env) (hb2 : ∀ p, attributeBase (.Name x p) "weights" X.env (eval (.Name x p) X.env) = eval (.Name x p) X.env)
    (he : PE X (.Call (.Attribute (.Attribute (.Name x p3) "weights" p4) "append" p5) [.BinOp (.Constant (.int 2) j2 p6) .Mult (.Subscript (.Attribute (.Name x p7) "weights" p8) a p9) p10] [] p2) (tBM K "list" rAppend (tFld K (tVar 0) "weights") (tCons (tOp (rI CMul fun i j => .int (i * j)) (tC (.int 2)) (tOp (rIx K) (tFld K (tVar 0) "weights") ta)) tNil)))
    (hsw : swapsWith (.Call (.Attribute (.Attribute (.Name x p3) "weights" p4) "append" p5) [.BinOp (.Constant (.int 2) j2 p6) .Mult (.Subscript (.Attribute (.Name x p7) "weights" p8) a p9) p10] [] p2) none pos.line X.env = pure false)
    {pt pa pfor : Pos} (hfo : ∀ y, foldedSetIterable (.Attribute (.Name x p1) "wishes" pa) X.env y = pure y) :
    JL K X M E (.For (.Name w pt) (.Attribute (.Name x p1) "wishes" pa) [.Expr (.Call (.Attribute (.Attribute (.Name x p3) "weights" p4) "append" p5) [.BinOp (.Constant (.int 2) j2 p6) .Mult (.Subscript (.Attribute (.Name x p7) "weights" p8) a p9) p10] [] p2) pos] [] pfor) ta fa := by
  have hK := C.hK
  subst hK
  exact ⟨ps_for C.own C.calm (pi_list (pe_fld (ho _) hb1)) (pg_name C.nd hi hx hf) (pss_one (ps_expr he hsw)) hfo, ha.eo⟩
/-- __init__'s body -/
structure JN (K : PySem.W.Frag) (X : Cx) (M : Pm) (E : XK) (body : List Stmt) (tW tP tM tL tn : TE) (fW fP fM fL fn : Fe) : Prop where
  ps : PSs X body (tSeq (sFld K (tVar 0) tW "wishes") (tSeq (sFld K (tVar 0) tP "pasts") (tSeq (sFld K (tVar 0) tM "marks") (tSeq (sFld K (tVar 0) tL "weights")
    (tFor (iList K (tFld K (tVar 0) "wishes")) (gName 2) (tDrop (tBM K "list" rAppend (tFld K (tVar 0) "weights") (tCons (tOp (rI CMul fun i j => .int (i * j)) (tC (.int 2)) (tOp (rIx K) (tFld K (tVar 0) "weights") tn)) tNil))))))))
  w : EO K M E .cl tW fW
  p : EO K M E .cl tP fP
  m : EO K M E .cl tM fM
  l : EO K M E .fr tL fL
  n : EO K M E .cl tn fn
theorem jn_of {s1 s2 s3 s4 s5 : Stmt} {tW tP tM tL tn : TE} {fW fP fM fL fn : Fe} (h1 : JF K X M E .cl s1 "wishes" tW fW) (h2 : JF K X M E .cl s2 "pasts" tP fP) (h3 : JF K X M E .cl s3 "marks" tM fM) (h4 : JF K X M E .fr s4 "weights" tL fL) (h5 : JL K X M E s5 tn fn) :
    JN K X M E [s1, s2, s3, s4, s5] tW tP tM tL tn fW fP fM fL fn := ⟨pss_cons h1.ps (pss_cons h2.ps (pss_cons h3.ps (pss_cons h4.ps (pss_one h5.ps)))), h1.eo, h2.eo, h3.eo, h4.eo, h5.eo⟩
end
def initT (φW φP φM : List D → Option Rs) (d : D) : Option D := match φW [d], φP [d], φM [d] with
  | some (.ok (.list W)), some (.ok Pd), some (.ok Md) => if W.length ≤ 1000 then some (planD [.list W, Pd, Md, .list (wts W.length)]) else none
  | _, _, _ => none
theorem putF_len (f : Str) (v : V) : ∀ fs : List (Str × V), (putF f v fs).length ≤ fs.length + 1
  | [] => Nat.le_refl _
  | (g, x) :: r => by
    unfold putF
    split
    · simp
    · simp only [List.length_cons]; have := putF_len f v r; omega
theorem init_ok {P : Program} {w : World} {K : PySem.W.Frag} {mg : Str → Option Value} {base : Heap} {M : Pm} {st : Stmt} {f : Addr} {fd : FuncData} {N : List Str} {k : Nat} {Cc : Addr} {φW φP φM : List D → Option Rs} (F : Fun K "__init__" "Plan.__init__" st f fd) (S : FnScope N ["self", "statement"] (defScope st)) (hN : N.length = 3) (cp : CP K mg M Cc)
    (hb : ∀ (cdv : Value) (A : Around) (outer : List Env) (s : Shared) (H : Hp) (E : XK), CxF K (cxOf (L2.CX P w) P w K mg base N "Plan.__init__" (defScope st) f cdv A outer s H E) E k → Takes (cxOf (L2.CX P w) P w K mg base N "Plan.__init__" (defScope st) f cdv A outer s H E) (fun cls d _ H => E cls d H) →
      ∃ tW tP tM tL tn, JN K (cxOf (L2.CX P w) P w K mg base N "Plan.__init__" (defScope st) f cdv A outer s H E) M E (defBody st) tW tP tM tL tn (fCall φW (fCons (fVar 1) fNil)) (fCall φP (fCons (fVar 1) fNil)) (fCall φM (fCons (fVar 1) fNil)) (fLst (fCons (fCon (.int 1)) fNil)) (f1 oNeg (fCon (.int 1)))) :
    FnOk P w K mg base (L2.CX P w) (k + 1) f fd ["self", "statement"] (spI K M Cc (initT φW φP φM)) := by
  have len : ∀ vs H Q E, spI K M Cc (initT φW φP φM) vs H Q E → vs.length = (["self", "statement"] : List Str).length := by
    rintro vs H Q E ⟨G, x, dx, v, d, pd, rfl, _⟩
    rfl
  refine F.okX S len fun cdv A outer s H vs Q E hr h => ?_
  obtain ⟨C, tk⟩ := cxf_of (P := P) (w := w) (K := K) (mg := mg) (base := base) (qual := "Plan.__init__") (s := s) (H := H) (E := E) (outer := outer) S hr
  obtain ⟨tW, tP, tM, tL, tn, J⟩ := hb cdv A outer s H E C tk
  refine ⟨_, J.ps, ?_⟩
  obtain ⟨G, x, dx, v, d, pd, rfl, e, gx, hx, r, hi, p, kh, kx⟩ := h
  unfold initT at hi
  split at hi
  case h_2 => cases hi
  rename_i W Pd Md eW eP eM
  split at hi
  case isFalse => cases hi
  rename_i hW
  cases hi
  obtain ⟨n0, n1, n2, rfl⟩ : ∃ a b c, N = [a, b, c] := by
    match N, hN with
    | [a, b, c], _ => exact ⟨a, b, c, rfl⟩
  have I0 : IV K M Cc x dx H G d [] (L2.start [n0, n1, n2] [.ref x, v]) H G := by
    refine ⟨⟨Stp.refl e, rfl, fun j sl y h1 h2 => ?_, fun j k sj sk xj xk q h1 h2 h3 h4 h5 h6 => ?_, kh⟩, rfl, hx, gx, ⟨fun _ _ _ q => q, Same.refl _, e, fun _ _ _ _ n => n⟩, kh, kx⟩
    · match j, h1, h2 with
      | 0, h1, h2 => cases h1; trivial
      | 1, h1, h2 => cases h1; cases h2; exact ⟨v, rfl, r⟩
      | 2, h1, h2 => cases h1; trivial
      | j + 3, h1, _ => simp at h1
    · cases sj with
      | ow ds => exact absurd h1 (noow3 d j ds)
      | _ => exact h5.elim
  have na : ∀ f ∈ plNs, NoAttr K Cc f := cp.na
  have ev : ∀ φ : List D → Option Rs, (fCall φ (fCons (fVar 1) fNil)) [.no, .va d, .no] = φ [d] := fun φ => rfl
  refine set_cl cp.cl (na "wishes" (by simp)) (by decide) I0 J.w ((ev φW).trans eW) fun vW H1 G1 g1 rW I1 => ?_
  have l1 := putF_len "wishes" vW []
  simp only [List.length_nil] at l1
  refine set_cl cp.cl (na "pasts" (by simp)) (by omega) I1 J.p ((ev φP).trans eP) fun vP H2 G2 g2 rP I2 => ?_
  have l2 := putF_len "pasts" vP (putF "wishes" vW [])
  refine set_cl cp.cl (na "marks" (by simp)) (by omega) I2 J.m ((ev φM).trans eM) fun vM H3 G3 g3 rM I3 => ?_
  have l3 := putF_len "marks" vM (putF "pasts" vP (putF "wishes" vW []))
  refine set_fr cp.cl (na "weights" (by simp)) (by omega) I3 J.l (dl := [.int 1]) rfl fun l ws H4 G4 g4 lx hsl hl gl ra I4 => ?_
  have L0 : LW K M Cc x dx l H G d _ 0 (L2.start [n0, n1, n2] [.ref x, v]) H4 G4 := ⟨I4, ⟨ws, hl, ra⟩, gl⟩
  refine loop_w cp.cl (na "wishes" (by simp)) (na "weights" (by simp)) (vW := vW) (W := W) rfl rfl lx hsl (rW.mono ((g2.trans g3).trans g4)) hW L0 J.n (fun _ => rfl) fun σ5 H5 G5 g5 L5 => ?_
  obtain ⟨wl, hwl, rwl⟩ := L5.wl
  have gl5 : G5 l = none := L5.gl
  have gx5 : G5 x = none := L5.I.gx
  have e1 : Same G5 (upd G5 l (.lst wl)) := same_new gl5
  have gx6 : (upd G5 l (.lst wl)) x = none := by rw [upd_ne (Ne.symm lx)]; exact gx5
  have e2 : Same (upd G5 l (.lst wl)) (upd (upd G5 l (.lst wl)) x (.ins Cc dx [("wishes", vW), ("pasts", vP), ("marks", vM), ("weights", .ref l)])) := same_new gx6
  have e3 := e1.trans e2
  refine p H5 (upd (upd G5 l (.lst wl)) x (.ins Cc dx [("wishes", vW), ("pasts", vP), ("marks", vM), ("weights", .ref l)])) ⟨L5.I.fr.ex, L5.I.fr.eg.trans e3, fun q u z => ?_, fun q u nq z n => ?_⟩ ?_
  · by_cases hq : q = x
    · subst hq; rw [upd_same] at z; cases z; exact L5.I.hx
    · rw [upd_ne hq] at z
      by_cases hq2 : q = l
      · subst hq2; rw [upd_same] at z; cases z; exact hwl
      · rw [upd_ne hq2] at z; exact L5.I.ev.sub q u z
  · rw [upd_ne nq, upd_ne (ne_of_none z hsl)]
    exact L5.I.fr.nw q u nq z n
  · refine .ins upd_same cp.ci rfl ?_
    refine .cons (rW.mono ((((g2.trans g3).trans g4).trans g5).trans e3)) (.cons (rP.mono (((g3.trans g4).trans g5).trans e3)) (.cons (rM.mono ((g4.trans g5).trans e3)) (.one (.lst (.of (e2 _ _ upd_same)) (rwl.mono e3)))))
end Py

/-! PyJ: xs.index(x), sorted(xs) -/
namespace Py
open PySem PySem.Spec PyProof.Rows L2
def oIndex : D → D → Option D
  | .list ds, d => if SeqAt.shaped (.list ds) = true ∧ SeqAt.shaped d = true then (match ds.findIdx? fun z => PyData.eqv z d with
    | some j => some (.int (j : Nat))
    | none => none) else none
  | _, _ => none
def oSorted : List D → Option D
  | [.list ds] => (match strsOf ds with
    | some xs => if xs.length < 64 then some (.list ((sortT xs).map .str)) else none
    | none => none)
  | _ => none
def fIdx (a b : Fe) : Fe := fun γ => match a γ with
  | some (.ok (.list ds)) => (match b γ with
    | some (.ok d) => oR (oIndex (.list ds) d)
    | _ => none)
  | some (.er c) => some (.er c)
  | _ => none
theorem cs_sorted {K : PySem.W.Frag} {M : Pm} : CallS K M .fr (rSortedS K) oSorted := by
  intro H G vs ds dz Q e r ho q
  unfold oSorted at ho
  split at ho
  · rename_i ds
    split at ho
    · rename_i xs hx
      split at ho
      · rename_i h64
        cases ho
        cases r with
        | cons r t =>
          cases t
          obtain ⟨l, us, e1, h, ra⟩ := r
          subst e1
          have es := strsOf_eq hx
          subst es
          refine ⟨l, xs, rfl, by rw [← ra.strs]; exact h, h64, fun ys p hp hs hn => ?_⟩
          have eu := sortT_uniq hp (pair_of_sorted hs)
          subst eu
          exact q _ _ G (Stp.newO e hn) ⟨p, _, rfl, hn, e.free hn, upd_same, RA.of_strs _⟩
      · cases ho
    · cases ho
  · cases ho
section
variable {K : PySem.W.Frag} {X : Cx} {M : Pm} {E : XK} {k : Nat} {a b : Expr} {ta tb : TE} {fa fb : Fe} {pos apos : Pos}
theorem je_sorted {p : Pos} (C : CxF K X E k) (hm : X.mg "sorted" = none) (hg : Gl X "sorted") (ha : JE K X M E .op a ta fa) (hs : starEach [a] X.env = (false, eval a X.env) :: starEach [] X.env := by rfl) : JE K X M E .fr (.Call (.Name "sorted" p) [a] [] pos) (tCB (rSortedS K) (tCons ta tNil)) (fB oSorted (fCons fa fNil)) := by
  have hK := C.hK
  subst hK
  exact je_callB cr_sortedS cs_sorted hm (by decide +kernel) hg (ja_cons ha ja_nil hs) (by decide) (by decide) hs rfl
theorem je_index (C : CxF K X E k) (ha : JE K X M E .op a ta fa) (hb : JE K X M E .op b tb fb)
    (hbase : attributeBase a "index" X.env (eval a X.env) = eval a X.env := by rfl)
    (hfew : ((backTo pos (starEach [b] X.env)).all (fun x => !x.1) && (backToKw pos (keywordEach [] X.env)).all (fun x => x.1.isSome)
      && decide ([b].length + ([] : List Keyword).length + (if ([] : List Keyword).isEmpty then 0 else 1) < 30)) = true := by rfl)
    (hline : (apos.endLine == pos.line) = true := by rfl) (hst : starEach [b] X.env = (false, eval b X.env) :: starEach [] X.env := by rfl) :
    JE K X M E .cl (.Call (.Attribute a "index" apos) [b] [] pos) (tBM K "list" (rIndexD K) ta (tCons tb tNil)) (fIdx fa fb) := by
  have hK := C.hK
  subst hK
  refine ⟨pe_bm PySem.F.plainAttrs_list PySem.F.slot_list_index PySem.F.type_list_index (mt_indexD (by have := C.room.un; omega)) ha.pe (pa_cons hb.pe pa_nil hst) hbase hfew hline hst rfl, fun H0 G0 γ σ H G Q r ev hf p => ?_⟩
  unfold fIdx at hf
  split at hf
  · rename_i ds e1
    refine ha.eo H0 G0 γ σ H G _ _ ev e1 fun x H1 G1 s1 r1 => ?_
    split at hf
    · rename_i d e2
      cases e3 : oIndex (.list ds) d with
      | none => rw [e3] at hf; cases hf
      | some dz =>
        rw [e3] at hf
        cases hf
        unfold oIndex at e3
        simp only at e3
        split at e3
        · rename_i hsh
          split at e3
          · rename_i j hj
            cases e3
            obtain ⟨l, us, e4, hs, ra⟩ := id r1
            subst e4
            refine ⟨(show tyV X.K "list" (V.ref l) H1 from Or.inl ⟨rfl, us, hs⟩), ?_⟩
            refine hb.eo H0 G0 γ σ H1 G1 _ _ (ev.stp s1) e2 fun y H2 G2 s2 r2 => ?_
            obtain ⟨hlt, hz, hno⟩ := List.findIdx?_eq_some_iff_getElem.mp hj
            have r3 : RO X.K M H2 G2 (.ref l) (.list ds) := RO.mono (d := .list ds) r1 s2.ex s2.eg
            have d1 : Dp X.K H2 (.ref l) (.list ds) := RO.dp r3 s2.sub hsh.1
            have d2 : Dp X.K H2 y d := RO.dp r2 s2.sub hsh.2
            refine ⟨l, y, d, ds, j, ds[j], rfl, rfl, d1, d2, hsh.1, hsh.2, List.getElem?_eq_getElem hlt, hz, fun m z' hm hz' => ?_, p _ H2 G2 (s1.trans s2) (R.int _)⟩
            obtain ⟨hml, rfl⟩ := List.getElem?_eq_some_iff.mp hz'
            have := hno m hm
            simpa using this
          · cases e3
        · cases e3
    · cases hf
  · rename_i c e1
    cases hf
    exact ha.eo H0 G0 γ σ H G _ _ ev e1 p
  · cases hf
end
/-! ### in a plain body: a name stored from an expression that uses the shared list -/
section
variable {K : PySem.W.Frag} {X : Cx} {M : Pm} {E : XK} {k : Nat} {a : Expr} {ta : TE} {fa : Fe} {pos : Pos} {i : Nat} {F_ : Fx}
theorem usa_consO {fr : Fxa} (h : Usa i fr) : Usa i (xCons (xOf fa) fr) := fun γ d γ' e => by
  unfold xCons xOf at e
  split at e
  · rename_i d1 γ1 e1
    split at e1
    · cases e1
      split at e
      · rename_i ds γ2 e2; exact h _ _ _ e2
      · cases e
    · cases e1
  · cases e
theorem us_tup {fr : Fxa} (h : Usa i fr) : Us i (xTup fr) := fun γ d γ' e => by
  unfold xTup at e
  split at e
  · rename_i e1; exact h _ _ _ e1
  · cases e
def sSetX (j : Nat) (f : Fx) : Fs := fun γ => match f γ with
  | some (d, γ1) => some (.nx (γ1.set j (.va d)))
  | none => none
theorem js_setX {j : Nat} {x : Str} {p0 : Pos} (i : Nat) (hN : X.N.Nodup) (ha : JXE K X M i a ta F_) (hw : Us i F_) (hi : X.N[j]? = some x := by rfl) (hx : Loc X.env.scope x := by first | exact Or.inl rfl | exact Or.inr rfl) (hs : swapsWith a (some (.Name x p0)) pos.line X.env = pure false := by rfl) (hf : X.fn x = true ∨ X.env.scope.names.lookup x = some .local := by first | exact .inl rfl | exact .inr rfl) :
    JS K X M E (.Assign [.Name x p0] a pos) (tAsg ta (gName j)) (sSetX j F_) := ⟨ps_set hN hi hx ha.pe hs hf, fun H0 G0 γ σ H G De o ev hfx p => by
  unfold sSetX at hfx
  split at hfx
  · rename_i d γ1 e1
    cases hfx
    obtain ⟨ds, e2⟩ := hw _ _ _ e1
    obtain ⟨q, vs, h1, _⟩ := ev.ow e2
    exact ha.xe q H0 G0 γ σ H G _ _ _ ⟨ev, h1⟩ e1 fun v H' G' s ev' rv => p _ H' G' (ev'.ev.setv rv)
  · cases hfx⟩
end
end Py

/-! PyU: defs whose result is a new list -/
namespace Py
open PySem PySem.Spec PyProof.Rows L2
section
variable (K : PySem.W.Frag) (M : Pm) (E : XK)
def PostF (H0 G0 : Hp) (De : Ends) : Out → Prop
  | .rt d => ∀ v H G, Stp H0 G0 H G → RF K M H0 H G v d → De.rt v H
  | o => PostS K M E H0 G0 De o
def SOF (t : TS) (f : Fs) : Prop := ∀ (H0 G0 : Hp) (γ : Ge) (σ : L2.St) (H G : Hp) (De : Ends) (o : Out), EnvR K M H0 G0 γ σ H G → f γ = some o → PostF K M E H0 G0 De o → t De σ H
end
/-- an own list, nothing else -/
def fOwn (i : Nat) : Fe := fun γ => match γ[i]? with
  | some (.ow ds) => some (.ok (.list ds))
  | _ => none
/-- it never returns -/
def NoRt (f : Fs) : Prop := ∀ γ d, f γ ≠ some (.rt d)
section
variable {K : PySem.W.Frag} {X : Cx} {M : Pm} {E : XK} {k : Nat} {a : Expr} {ta : TE} {fa : Fe} {t u : TS} {f g : Fs} {pos : Pos} {st : Stmt} {rest : List Stmt}
theorem uf_lift (h : SO K M E t f) (n : NoRt f) : SOF K M E t f := fun H0 G0 γ σ H G De o ev hf p => by
  refine h H0 G0 γ σ H G De o ev hf ?_
  cases o with
  | rt d => exact absurd hf (n γ d)
  | _ => exact p
theorem uf_seq (h1 : SO K M E t f) (n : NoRt f) (h2 : SOF K M E u g) : SOF K M E (tSeq t u) (fSeq f g) := fun H0 G0 γ σ H G De o ev hf p => by
  unfold fSeq at hf
  split at hf
  · rename_i γ1 e1
    exact h1 H0 G0 γ σ H G { De with nx := u De } _ ev e1 fun σ' H' G' ev' => h2 H0 G0 γ1 σ' H' G' De o ev' hf p
  · rename_i hn
    refine h1 H0 G0 γ σ H G { De with nx := u De } o ev hf ?_
    cases o with
    | nx γ1 => exact absurd hf (hn γ1)
    | rt d => exact absurd hf (n γ d)
    | _ => exact p
/-- return of an own list -/
theorem uf_retO {i : Nat} : SOF K M E (tRet (tVar i)) (sRet (fOwn i)) := fun H0 G0 γ σ H G De o ev hf p => by
  unfold sRet at hf
  split at hf
  · rename_i d e1
    unfold fOwn at e1
    split at e1
    · rename_i ds e2
      cases e1
      cases hf
      obtain ⟨l, vs, h1, hg, h0, h2, h3⟩ := ev.ow e2
      exact ⟨_, h1, p _ H G ev.st ⟨l, vs, rfl, h0, hg, h2, h3⟩⟩
    · cases e1
  · rename_i c e1
    unfold fOwn at e1
    split at e1 <;> cases e1
  · cases hf
/-- return of an expression that makes a new list -/
theorem uf_retF (ha : EO K M E .fr ta fa) : SOF K M E (tRet ta) (sRet fa) := fun H0 G0 γ σ H G De o ev hf p => by
  unfold sRet at hf
  split at hf
  · rename_i d e1
    cases hf
    exact ha H0 G0 γ σ H G _ _ ev e1 fun v H' G' s r => p v H' G' (ev.st.trans s) (RF.up r ev.st.ex)
  · rename_i c e1
    cases hf
    exact ha H0 G0 γ σ H G _ _ ev e1 fun H' G' s => p H' G' (ev.st.trans s)
  · cases hf
theorem nr_set (i : Nat) : NoRt (sSet i fa) := fun γ d h => by unfold sSet at h; split at h <;> cases h
theorem nr_setO (i : Nat) : NoRt (sSetO i fa) := fun γ d h => by unfold sSetO at h; split at h <;> cases h
theorem nr_app (i : Nat) : NoRt (sApp i fa) := fun γ d h => by
  unfold sApp at h
  split at h
  · split at h
    · split at h <;> cases h
    · cases h
    · cases h
  · cases h
theorem nr_next : NoRt fNext := fun γ d h => by cases h
theorem nr_if {c : Ft} (h1 : NoRt f) (h2 : NoRt g) : NoRt (sIf c f g) := fun γ d h => by
  unfold sIf at h
  split at h
  · exact h1 _ _ h
  · exact h2 _ _ h
  · cases h
  · cases h
theorem nr_seq (h1 : NoRt f) (h2 : NoRt g) : NoRt (fSeq f g) := fun γ d h => by
  unfold fSeq at h
  split at h
  · exact h2 _ _ h
  · exact h1 _ _ h
theorem nr_forF {gf : D → Ge → Option Ge} (h1 : NoRt f) : ∀ (ds : List D) (γ : Ge) (d : D), forF gf f ds γ ≠ some (.rt d)
  | [], γ, d, h => by cases h
  | x :: ds, γ, d, h => by
    unfold forF at h
    split at h
    · cases h
    · split at h
      · exact nr_forF h1 ds _ d h
      · exact nr_forF h1 ds _ d h
      · cases h
      · rename_i e; exact h1 _ _ e
      · cases h
      · cases h
theorem nr_for {w : Fa} {gf : D → Ge → Option Ge} (h1 : NoRt f) : NoRt (sFor w gf f) := fun γ d h => by
  unfold sFor at h
  split at h
  · exact nr_forF h1 _ _ _ h
  · cases h
  · cases h
end
end Py

namespace Py
open PySem PySem.Spec PyProof.Rows L2
/-- the promise of a def whose result is a new list -/
def spFr (K : PySem.W.Frag) (M : Pm) (φ : List D → Option Rs) : Sp := fun vs H Q E => ∃ (G : Hp) (ds : List D) (r : Rs), Same G H ∧ RA K M G vs ds ∧ φ ds = some r ∧ PostE K M E .fr H G Q r ∧ Same M.kp H
theorem fnFr_ok {P : Program} {w : World} {K : PySem.W.Frag} {mg : Str → Option Value} {base : Heap} {M : Pm} {x qual : Str} {st : Stmt} {f : Addr} {fd : FuncData} {N ps : List Str} {k : Nat} {g : Fs} (F : Fun K x qual st f fd) (S : FnScope N ps (defScope st)) (hnx : ∀ γ γ', g γ ≠ some (.nx γ'))
    (hb : ∀ (cdv : Value) (A : Around) (outer : List Env) (s : Shared) (H : Hp) (E : XK), CxF K (cxOf (L2.CX P w) P w K mg base N qual (defScope st) f cdv A outer s H E) E k → Takes (cxOf (L2.CX P w) P w K mg base N qual (defScope st) f cdv A outer s H E) (fun cls d _ H => E cls d H) →
      ∃ t, PSs (cxOf (L2.CX P w) P w K mg base N qual (defScope st) f cdv A outer s H E) (defBody st) t ∧ SOF K M E t g) : FnOk P w K mg base (L2.CX P w) (k + 1) f fd ps (spFr K M (runF ps.length N.length g)) := by
  have len : ∀ vs H Q E, spFr K M (runF ps.length N.length g) vs H Q E → vs.length = ps.length := by
    rintro vs H Q E ⟨G, ds, r, _, ra, e, _⟩
    unfold runF at e
    split at e
    · rename_i hl
      rw [ra.len]; exact hl
    · cases e
  refine F.okX S len fun cdv A outer s H vs Q E hr h => ?_
  obtain ⟨C, tk⟩ := cxf_of (P := P) (w := w) (K := K) (mg := mg) (base := base) (qual := qual) (s := s) (H := H) (E := E) (outer := outer) S hr
  obtain ⟨t, Jp, Jo⟩ := hb cdv A outer s H E C tk
  refine ⟨t, Jp, ?_⟩
  obtain ⟨G, ds, r, e, ra, er, p, kp⟩ := h
  unfold runF at er
  split at er
  · split at er
    · rename_i γ1 ef
      exact absurd ef (hnx _ _)
    · rename_i d ef
      cases er
      exact Jo H G _ _ H G _ _ (env_entry e ra kp) ef fun v H' G' s r => p v H' G' s r
    · rename_i c ef
      cases er
      exact Jo H G _ _ H G _ _ (env_entry e ra kp) ef fun H' G' s => p H' G' s
    · cases er
  · cases er
end Py

/-! PyU3: bodies whose result is a new list; calls of them -/
namespace Py
open PySem PySem.Spec PyProof.Rows L2
structure JSF (K : PySem.W.Frag) (X : Cx) (M : Pm) (E : XK) (st : Stmt) (t : TS) (f : Fs) : Prop where
  ps : PS X st t
  so : SOF K M E t f
structure JBF (K : PySem.W.Frag) (X : Cx) (M : Pm) (E : XK) (st : List Stmt) (t : TS) (f : Fs) : Prop where
  ps : PSs X st t
  so : SOF K M E t f
section
variable {K : PySem.W.Frag} {X : Cx} {M : Pm} {E : XK} {k : Nat} {a c : Expr} {ta : TE} {fa : Fe} {t u : TS} {f g : Fs} {pos : Pos} {st : Stmt} {rest : List Stmt}
theorem uf_seqF (h1 : SOF K M E t f) (h2 : SOF K M E u g) : SOF K M E (tSeq t u) (fSeq f g) := fun H0 G0 γ σ H G De o ev hf p => by
  unfold fSeq at hf
  split at hf
  · rename_i γ1 e1
    exact h1 H0 G0 γ σ H G { De with nx := u De } _ ev e1 fun σ' H' G' ev' => h2 H0 G0 γ1 σ' H' G' De o ev' hf p
  · rename_i hn
    refine h1 H0 G0 γ σ H G { De with nx := u De } o ev hf ?_
    cases o with
    | nx γ1 => exact absurd hf (hn γ1)
    | _ => exact p
theorem jbf_nil : JBF K X M E [] tNext fNext := ⟨pss_nil, uf_lift so_next nr_next⟩
theorem jbf_one (h : JSF K X M E st t f) : JBF K X M E [st] t f := ⟨pss_one h.ps, h.so⟩
theorem jbf_cons (h1 : JSF K X M E st t f) (h2 : JBF K X M E rest u g) : JBF K X M E (st :: rest) (tSeq t u) (fSeq f g) := ⟨pss_cons h1.ps h2.ps, uf_seqF h1.so h2.so⟩
theorem jsf_lift (h : JS K X M E st t f) (n : NoRt f) : JSF K X M E st t f := ⟨h.ps, uf_lift h.so n⟩
theorem jsf_if {tt : TT} {ft : Ft} {as bs : List Stmt} (hc : JT K X M E c tt ft) (ha : JBF K X M E as t f) (hb : JBF K X M E bs u g) : JSF K X M E (.If c as bs pos) (tIfS tt t u) (sIf ft f g) := ⟨ps_if hc.pt ha.ps hb.ps, fun H0 G0 γ σ H G De o ev hf p => by
  unfold sIf at hf
  split at hf
  · rename_i e1
    refine hc.to H0 G0 γ σ H G _ _ ev e1 fun H' G' s => ?_
    rw [if_pos rfl]
    exact ha.so H0 G0 γ σ H' G' De o (ev.stp s) hf p
  · rename_i e1
    refine hc.to H0 G0 γ σ H G _ _ ev e1 fun H' G' s => ?_
    rw [if_neg Bool.false_ne_true]
    exact hb.so H0 G0 γ σ H' G' De o (ev.stp s) hf p
  · rename_i e1
    cases hf
    exact hc.to H0 G0 γ σ H G _ _ ev e1 fun H' G' s => p H' G' (ev.st.trans s)
  · cases hf⟩
theorem jsf_retO {i : Nat} {x : Str} {p0 : Pos} (h : JE K X M E .op (.Name x p0) (tVar i) (fOpd i)) : JSF K X M E (.Return (some (.Name x p0)) pos) (tRet (tVar i)) (sRet (fOwn i)) := ⟨ps_ret h.pe, uf_retO⟩
theorem jsf_retF (ha : JE K X M E .fr a ta fa) : JSF K X M E (.Return (some a) pos) (tRet ta) (sRet fa) := ⟨ps_ret ha.pe, uf_retF ha.eo⟩
theorem fOwn_opd {i : Nat} {γ : Ge} {r : Rs} (h : fOwn i γ = some r) : fOpd i γ = some r := by
  unfold fOwn at h
  unfold fOpd
  split at h
  · rename_i ds e
    rw [e]
    exact h
  · cases h
/-- return of an own list, as a frozen one -/
theorem js_retVO {i : Nat} {x : Str} {p0 : Pos} (h : JE K X M E .op (.Name x p0) (tVar i) (fOpd i)) : JS K X M E (.Return (some (.Name x p0)) pos) (tRet (tVar i)) (sRet (fOwn i)) := ⟨ps_ret h.pe, fun H0 G0 γ σ H G De o ev hf p => (js_retV (pos := pos) h).so H0 G0 γ σ H G De o ev (by
  unfold sRet at hf ⊢
  split at hf
  · rename_i d e; rw [fOwn_opd e]; exact hf
  · rename_i d e; rw [fOwn_opd e]; exact hf
  · cases hf) p⟩
/-- the call of a def whose result is a new list -/
theorem je_callF {φ : List D → Option Rs} {j : Nat} {f : Addr} {fd : FuncData} {ps : List Str} {x : Str} {p : Pos} {es : List Expr} {t : TA} {fr : Fa} (C : CxF K X E k)
    (F : FnOk X.prog X.w X.K X.mg X.base (L2.CX X.prog X.w) j f fd ps (spFr K M φ)) (hj : j ≤ k) (hb : Binds X.K fd ps []) (hm : X.mg x = some (.ref f)) (hk : PySem.W.keepIn X.K (.ref f) = true) (hg : Gl X x) (ha : JC K X M E (a :: es) t fr)
    (hdb : (x == ("__debug__" : Str)) = false := by decide) (he : starEach (a :: es) X.env = (false, eval a X.env) :: starEach es X.env := by rfl) (hpl : (backTo pos (starEach es X.env)).any (·.1) = false := by rfl) :
    JE K X M E .fr (.Call (.Name x p) (a :: es) [] pos) (tCallS (spFr K M φ) (fun _ => E) t) (fCall φ fr) := by
  have hK := C.hK
  subst hK
  refine ⟨pe_callS F (C.room.mono hj) hg hm hk hb (passesAt_of C.pas) ha.pa hdb he hpl, fun H0 G0 γ σ H G Q r ev hf p => ?_⟩
  unfold fCall at hf
  cases e1 : fr γ with
  | none => rw [e1] at hf; cases hf
  | some q1 =>
    rw [e1] at hf
    cases q1 with
    | er c => cases hf; exact ha.ac H0 G0 γ σ H G _ _ ev e1 p
    | ok ds =>
      refine ha.ac H0 G0 γ σ H G _ _ ev e1 fun vs H1 G1 s1 r1 => ⟨G1, ds, r, s1.sub, r1, hf, ?_, ev.kp.trans (ev.stp s1).st.ex⟩
      cases r with
      | ok d => exact fun v H' G' s' r' => p v H' G' (s1.trans s') (Res.up (m := .fr) r' s1.ex)
      | er c => exact fun H' G' s' => p H' G' (s1.trans s')
theorem nr_whF {c : Ft} (h1 : NoRt f) : ∀ (n : Nat) (γ : Ge) (d : D), whF c f n γ ≠ some (.rt d)
  | 0, γ, d, h => by cases h
  | n + 1, γ, d, h => by
    unfold whF at h
    split at h
    · split at h
      · exact nr_whF h1 n _ d h
      · exact nr_whF h1 n _ d h
      · cases h
      · rename_i e; exact h1 _ _ e
      · cases h
      · cases h
    · cases h
    · cases h
    · cases h
theorem nr_wh {c : Ft} (h1 : NoRt f) : NoRt (sWh c f) := fun γ d h => nr_whF h1 fuel γ d h
theorem nr_asg {g : D → Ge → Option Ge} : NoRt (sAsg fa g) := fun γ d h => by
  unfold sAsg at h
  split at h
  · split at h <;> cases h
  · cases h
  · cases h
/-- it always returns -/
def NoNx (f : Fs) : Prop := ∀ γ γ', f γ ≠ some (.nx γ')
theorem nn_ret : NoNx (sRet fa) := fun γ γ' h => by unfold sRet at h; split at h <;> cases h
theorem nn_seq (h2 : NoNx g) : NoNx (fSeq f g) := fun γ γ' h => by
  unfold fSeq at h
  split at h
  · exact h2 _ _ h
  · rename_i hn; exact hn _ h
end
end Py

/-! PyN: new lists within data, and their return -/
namespace Py
open PySem PySem.Spec PyProof.Rows L2
def newD (ds : List D) : D := .dict [(.none, .list ds)]
def fNew (a : Fe) : Fe := fun γ => match a γ with
  | some (.ok (.list ds)) => some (.ok (newD ds))
  | some (.er c) => some (.er c)
  | _ => none
def fOpN (i : Nat) : Fe := fun γ => match γ[i]? with
  | some (.va (.dict [(.none, .list ds)])) => some (.ok (.list ds))
  | _ => none
section
variable {K : PySem.W.Frag} {X : Cx} {M : Pm} {E : XK} {k : Nat} {a c : Expr} {ta : TE} {fa : Fe} {t u : TS} {f g : Fs} {pos : Pos} {st : Stmt} {rest : List Stmt}
theorem je_new (h : JE K X M E .fr a ta fa) : JE K X M E .cl a ta (fNew fa) := ⟨h.pe, fun H0 G0 γ σ H G Q r ev hf p => by
  unfold fNew at hf
  split at hf
  · rename_i ds e1
    cases hf
    refine h.eo H0 G0 γ σ H G Q _ ev e1 fun v H' G' s r => ?_
    obtain ⟨l, xs, rfl, h0, hg, hl, ra⟩ := r
    have sg : Same G' (upd G' l (.lst xs)) := same_new hg
    refine p _ H' (upd G' l (.lst xs)) ⟨s.ex, s.eg.trans sg, fun b u q => ?_, fun q u hq n => ?_⟩ (.new upd_same ?_ (ra.mono sg))
    · by_cases hb : b = l
      · subst hb; rw [upd_same] at q; cases q; exact hl
      · rw [upd_ne hb] at q; exact s.sub b u q
    · rw [upd_ne (ne_of_none hq h0)]; exact s.nw q u hq n
    · cases e : M.kp l with
      | none => rfl
      | some u => have := ev.st.ex l u (ev.kp l u e); rw [h0] at this; cases this
  · rename_i c e1
    cases hf
    exact h.eo H0 G0 γ σ H G Q _ ev e1 p
  · cases hf⟩
theorem jo_varN {i : Nat} {x : Str} {p0 : Pos} (h : JE K X M E .op (.Name x p0) (tVar i) (fOpd i)) : JE K X M E .op (.Name x p0) (tVar i) (fOpN i) := ⟨h.pe, fun H0 G0 γ σ H G Q r ev hf p => by
  unfold fOpN at hf
  split at hf
  · rename_i ds e1
    cases hf
    obtain ⟨v, h1, h2⟩ := ev.va e1
    cases h2 with
    | new hg hk ra => exact ⟨_, h1, p _ H G (Stp.refl ev.sub) ⟨_, _, rfl, .of (ev.sub _ _ hg), ra⟩⟩
  · cases hf⟩
/-! ### bodies that return such a list -/
def RN (K : PySem.W.Frag) (M : Pm) (H G : Hp) (v : V) : D → Prop
  | .list ds => ∃ a xs, v = .ref a ∧ M.kp a = none ∧ H a = some (.lst xs) ∧ RA K M G xs ds ∧ ds.all flatD = true
  | d => R K M G v d ∧ flatD d = true
section
variable (K : PySem.W.Frag) (M : Pm) (E : XK)
def PostN (H0 G0 : Hp) (De : Ends) : Out → Prop
  | .rt d => ∀ v H G, Stp H0 G0 H G → RN K M H G v d → De.rt v H
  | o => PostS K M E H0 G0 De o
def SON (t : TS) (f : Fs) : Prop := ∀ (H0 G0 : Hp) (γ : Ge) (σ : L2.St) (H G : Hp) (De : Ends) (o : Out), EnvR K M H0 G0 γ σ H G → f γ = some o → PostN K M E H0 G0 De o → t De σ H
end
structure JSN (K : PySem.W.Frag) (X : Cx) (M : Pm) (E : XK) (st : Stmt) (t : TS) (f : Fs) : Prop where
  ps : PS X st t
  so : SON K M E t f
structure JBN (K : PySem.W.Frag) (X : Cx) (M : Pm) (E : XK) (st : List Stmt) (t : TS) (f : Fs) : Prop where
  ps : PSs X st t
  so : SON K M E t f
theorem un_lift (h : SO K M E t f) (n : NoRt f) : SON K M E t f := fun H0 G0 γ σ H G De o ev hf p => by
  refine h H0 G0 γ σ H G De o ev hf ?_
  cases o with
  | rt d => exact absurd hf (n γ d)
  | _ => exact p
theorem un_seq (h1 : SON K M E t f) (h2 : SON K M E u g) : SON K M E (tSeq t u) (fSeq f g) := fun H0 G0 γ σ H G De o ev hf p => by
  unfold fSeq at hf
  split at hf
  · rename_i γ1 e1
    exact h1 H0 G0 γ σ H G { De with nx := u De } _ ev e1 fun σ' H' G' ev' => h2 H0 G0 γ1 σ' H' G' De o ev' hf p
  · rename_i hn
    refine h1 H0 G0 γ σ H G { De with nx := u De } o ev hf ?_
    cases o with
    | nx γ1 => exact absurd hf (hn γ1)
    | _ => exact p
theorem jbn_nil : JBN K X M E [] tNext fNext := ⟨pss_nil, un_lift so_next nr_next⟩
theorem jbn_one (h : JSN K X M E st t f) : JBN K X M E [st] t f := ⟨pss_one h.ps, h.so⟩
theorem jbn_cons (h1 : JSN K X M E st t f) (h2 : JBN K X M E rest u g) : JBN K X M E (st :: rest) (tSeq t u) (fSeq f g) := ⟨pss_cons h1.ps h2.ps, un_seq h1.so h2.so⟩
theorem jsn_lift (h : JS K X M E st t f) (n : NoRt f) : JSN K X M E st t f := ⟨h.ps, un_lift h.so n⟩
theorem jsn_if {tt : TT} {ft : Ft} {as bs : List Stmt} (hc : JT K X M E c tt ft) (ha : JBN K X M E as t f) (hb : JBN K X M E bs u g) : JSN K X M E (.If c as bs pos) (tIfS tt t u) (sIf ft f g) := ⟨ps_if hc.pt ha.ps hb.ps, fun H0 G0 γ σ H G De o ev hf p => by
  unfold sIf at hf
  split at hf
  · rename_i e1
    refine hc.to H0 G0 γ σ H G _ _ ev e1 fun H' G' s => ?_
    rw [if_pos rfl]
    exact ha.so H0 G0 γ σ H' G' De o (ev.stp s) hf p
  · rename_i e1
    refine hc.to H0 G0 γ σ H G _ _ ev e1 fun H' G' s => ?_
    rw [if_neg Bool.false_ne_true]
    exact hb.so H0 G0 γ σ H' G' De o (ev.stp s) hf p
  · rename_i e1
    cases hf
    exact hc.to H0 G0 γ σ H G _ _ ev e1 fun H' G' s => p H' G' (ev.st.trans s)
  · cases hf⟩
/-- return of a variable that holds a new list of flat data -/
def sRetW (i : Nat) : Fs := fun γ => match γ[i]? with
  | some (.va (.dict [(.none, .list ds)])) => if ds.all flatD = true then some (.rt (.list ds)) else none
  | _ => none
theorem jsn_retW {i : Nat} {x : Str} {p0 : Pos} (h : JE K X M E .op (.Name x p0) (tVar i) (fOpd i)) : JSN K X M E (.Return (some (.Name x p0)) pos) (tRet (tVar i)) (sRetW i) := ⟨ps_ret h.pe, fun H0 G0 γ σ H G De o ev hf p => by
  unfold sRetW at hf
  split at hf
  · rename_i ds e1
    split at hf
    · rename_i hfl
      cases hf
      obtain ⟨v, h1, h2⟩ := ev.va e1
      cases h2 with
      | new hg hk ra => exact ⟨_, h1, p _ H G ev.st ⟨_, _, rfl, hk, ev.sub _ _ hg, ra, hfl⟩⟩
    · cases hf
  · cases hf⟩
/-- return None -/
theorem jsn_retC {j : Nat} {p1 p2 : Pos} (h : JE K X M E .cl (.Constant .none j p1) ta (fCon .none)) : JSN K X M E (.Return (some (.Constant .none j p1)) p2) (tRet ta) (sRet (fCon .none)) := ⟨ps_ret h.pe, fun H0 G0 γ σ H G De o ev hf p => by
  unfold sRet fCon at hf
  cases hf
  exact h.eo H0 G0 γ σ H G _ _ ev rfl fun v H' G' s r => p v H' G' (ev.st.trans s) ⟨r, rfl⟩⟩
theorem un_wh {tt : TT} {ft : Ft} (hc : TO' K M E tt ft) (hb : SON K M E t f) : SON K M E (tWhile tt t) (sWh ft f) := fun H0 G0 γ σ H G De o ev hf p => by
  refine ⟨fun m σ' H' => ∃ γ' G', EnvR K M H0 G0 γ' σ' H' G' ∧ whF ft f m γ' = some o, ⟨fuel, γ, G, ev, hf⟩, ?_⟩
  rintro m σ2 H2 ⟨γ2, G2, ev2, el⟩
  cases m with
  | zero => cases el
  | succ m =>
    unfold whF at el
    split at el
    · rename_i ec
      refine hc H0 G0 γ2 σ2 H2 G2 _ _ ev2 ec fun H3 G3 s3 => ?_
      rw [if_pos rfl]
      have ev3 := ev2.stp s3
      refine ⟨fun σ' H' => ∃ γ' G', EnvR K M H0 G0 γ' σ' H' G' ∧ whF ft f m γ' = some o, fun σ' H' q => ⟨m, Nat.lt_succ_self _, q⟩, ?_⟩
      split at el
      · rename_i γ4 eb
        exact hb H0 G0 γ2 σ2 H3 G3 _ _ ev3 eb fun σ' H' G' q => ⟨γ4, G', q, el⟩
      · rename_i γ4 eb
        exact hb H0 G0 γ2 σ2 H3 G3 _ _ ev3 eb fun σ' H' G' q => ⟨γ4, G', q, el⟩
      · rename_i γ4 eb
        cases el
        exact hb H0 G0 γ2 σ2 H3 G3 _ _ ev3 eb fun σ' H' G' q => p σ' H' G' q
      · rename_i d eb
        cases el
        exact hb H0 G0 γ2 σ2 H3 G3 _ _ ev3 eb p
      · rename_i c eb
        cases el
        exact hb H0 G0 γ2 σ2 H3 G3 _ _ ev3 eb p
      · cases el
    · rename_i ec
      cases el
      refine hc H0 G0 γ2 σ2 H2 G2 _ _ ev2 ec fun H3 G3 s3 => ?_
      rw [if_neg Bool.false_ne_true]
      exact p σ2 H3 G3 (ev2.stp s3)
    · rename_i ec
      cases el
      exact hc H0 G0 γ2 σ2 H2 G2 _ _ ev2 ec fun H' G' s => p H' G' (ev2.st.trans s)
    · cases el
theorem jsn_wh {body : List Stmt} {tt : TT} {ft : Ft} (C : CxF K X E k) (hc : JT K X M E c tt ft) (hb : JBN K X M E body t f) : JSN K X M E (.While c body [] pos) (tWhile tt t) (sWh ft f) := ⟨ps_while C.own hc.pt hb.ps, un_wh hc.to hb.so⟩
theorem nn_retN : NoNx (sRet fa) := nn_ret
/-! ### data without parts, whatever else is known -/
theorem flat_M {M' : Pm} {G G' : Hp} {v : V} {d : D} (r : R K M G v d) (h : flatD d = true) : R K M' G' v d := by
  cases r <;> first | exact .non | exact .bl _ | exact .int _ | exact .str _ | cases h
theorem flats_M {M' : Pm} {G G' : Hp} : ∀ {vs : List V} {ds : List D}, RA K M G vs ds → ds.all flatD = true → RA K M' G' vs ds
  | _, _, .nil, _ => .nil
  | _, _, .cons r t, h => by
    rw [List.all_cons, Bool.and_eq_true] at h
    exact .cons (flat_M r h.1) (flats_M t h.2)
/-! no new list in the data -/
mutual
def nnw : D → Bool
  | .list ds => nnws ds
  | .tuple ds => nnws ds
  | .dict [(.none, .list _)] => false
  | .dict [(.str _, .list ds)] => nnws ds
  | .dict [(.none, .tuple ds)] => nnws ds
  | .dict [(.str _, .tuple ds)] => nnws ds
  | _ => true
def nnws : List D → Bool
  | [] => true
  | d :: ds => nnw d && nnws ds
end
mutual
theorem R.toK {N : Hp} (sn : Same M.kp N) : ∀ {G : Hp} {v : V} {d : D}, R K M G v d → nnw d = true → R K { M with kp := N } G v d
  | _, _, _, .non, _ => .non
  | _, _, _, .bl b, _ => .bl b
  | _, _, _, .int i, _ => .int i
  | _, _, _, .str x, _ => .str x
  | _, _, _, .lst h r, n => .lst h (RA.toK sn r (by simpa only [nnw] using n))
  | _, _, _, .tup h r, n => .tup h (RA.toK sn r (by simpa only [nnw] using n))
  | _, _, _, .ins h c m r, n => .ins h c m (RA.toK sn r (by simpa only [nnw] using n))
  | _, _, _, .edict h, _ => .edict h
  | _, _, _, .live h, _ => .live h
  | _, _, _, .new h m r, n => by simp only [nnw] at n; cases n
  | _, _, _, .kl h r, n => .kl (sn _ _ h) (RA.toK sn r (by simpa only [nnw] using n))
  | _, _, _, .ki l h c m r, n => .ki l (sn _ _ h) c m (RA.toK sn r (by simp only [nnw, nnws] at n; simpa using n))
theorem RA.toK {N : Hp} (sn : Same M.kp N) : ∀ {G : Hp} {vs : List V} {ds : List D}, RA K M G vs ds → nnws ds = true → RA K { M with kp := N } G vs ds
  | _, _, _, .nil, _ => .nil
  | _, _, _, .cons r t, n => by
    simp only [nnws, Bool.and_eq_true] at n
    exact .cons (R.toK sn r n.1) (RA.toK sn t n.2)
end
/-- the promise, of a body that returns a new list of flat data: its arguments hold nothing new -/
def runNw (np n : Nat) (f : Fs) : List D → Option Rs := fun ds => if ds.length = np ∧ nnws ds = true then (match f (entry n ds) with
  | some (.rt d) => some (.ok d)
  | some (.er c) => some (.er c)
  | _ => none) else none
theorem fnN_ok {P : Program} {w : World} {K : PySem.W.Frag} {mg : Str → Option Value} {base : Heap} {M : Pm} {x qual : Str} {st : Stmt} {f : Addr} {fd : FuncData} {N ps : List Str} {k : Nat} {g : Fs} (F : Fun K x qual st f fd) (S : FnScope N ps (defScope st))
    (hb : ∀ (kp : Hp) (cdv : Value) (A : Around) (outer : List Env) (s : Shared) (H : Hp) (E : XK), CxF K (cxOf (L2.CX P w) P w K mg base N qual (defScope st) f cdv A outer s H E) E k → Takes (cxOf (L2.CX P w) P w K mg base N qual (defScope st) f cdv A outer s H E) (fun cls d _ H => E cls d H) →
      ∃ t, JBN K (cxOf (L2.CX P w) P w K mg base N qual (defScope st) f cdv A outer s H E) { M with kp := kp } E (defBody st) t g) : FnOk P w K mg base (L2.CX P w) (k + 1) f fd ps (spFr K M (runNw ps.length N.length g)) := by
  have len : ∀ vs H Q E, spFr K M (runNw ps.length N.length g) vs H Q E → vs.length = ps.length := by
    rintro vs H Q E ⟨G, ds, r, _, ra, e, _⟩
    unfold runNw at e
    split at e
    · rename_i hl
      rw [ra.len]; exact hl.1
    · cases e
  refine F.okX S len fun cdv A outer s H vs Q E hr h => ?_
  obtain ⟨C, tk⟩ := cxf_of (P := P) (w := w) (K := K) (mg := mg) (base := base) (qual := qual) (s := s) (H := H) (E := E) (outer := outer) S hr
  obtain ⟨t, J⟩ := hb H cdv A outer s H E C tk
  refine ⟨t, J.ps, ?_⟩
  obtain ⟨G, ds, r, e, ra, er, p, kp⟩ := h
  unfold runNw at er
  split at er
  · rename_i hl
    have ra' := RA.toK kp ra hl.2
    split at er
    · rename_i d ef
      cases er
      refine J.so H G _ _ H G _ _ (env_entry e ra' (Same.refl H)) ef fun v H' G' s r => ?_
      have same : Stp H G H' G := ⟨s.ex, Same.refl _, e.trans s.ex, fun _ _ _ n => n⟩
      cases d with
      | list ds =>
        obtain ⟨a, xs, rfl, h1, h2, h3, h4⟩ := r
        exact p _ H' G same ⟨a, xs, rfl, h1, e.free h1, h2, flats_M h3 h4⟩
      | none => exact p _ H' G same (flat_M r.1 r.2)
      | bool b => exact p _ H' G same (flat_M r.1 r.2)
      | int b => exact p _ H' G same (flat_M r.1 r.2)
      | str b => exact p _ H' G same (flat_M r.1 r.2)
      | _ => have := r.2; cases this
    · rename_i c ef
      cases er
      exact J.so H G _ _ H G _ _ (env_entry e ra' (Same.refl H)) ef fun H' G' s => p H' G' s
    · cases er
  · cases er
/-- a new list may be frozen -/
theorem fr_cl {K : PySem.W.Frag} {M : Pm} {φ : List D → Option Rs} {vs : List V} {H : Hp} {Q : VK} {E : XK} (h : spF K M φ vs H Q E) : spFr K M φ vs H Q E := by
  obtain ⟨G, ds, r, e, ra, er, p, kp⟩ := h
  refine ⟨G, ds, r, e, ra, er, ?_, kp⟩
  cases r with
  | ok d => exact fun v H' G' s r => let ⟨G2, s2, _, r2⟩ := freeze s r; p v H' G2 s2 r2
  | er c => exact p
end
end Py

/-! PyM: x is None, xs.extend(..), a name that may hold a new list or None -/
namespace Py
open PySem PySem.Spec PyProof.Rows L2
def isNon : D → Bool
  | .none => true
  | _ => false
def oIs : D → D → Option D
  | d, .none => some (.bool (isNon d))
  | _, _ => none
def oIsNt : D → D → Option D
  | d, .none => some (.bool (!isNon d))
  | _, _ => none
theorem non_of {K : PySem.W.Frag} {M : Pm} {H G : Hp} {v : V} {d : D} (r : RO K M H G v d) : decide (v = V.non) = isNon d := by
  cases d with
  | none => cases (show R K M G v .none from r); rfl
  | bool b => cases (show R K M G v (.bool b) from r); rfl
  | int b => cases (show R K M G v (.int b) from r); rfl
  | str b => cases (show R K M G v (.str b) from r); rfl
  | list ds => obtain ⟨l, us, e, _⟩ := r; subst e; rfl
  | tuple ds => obtain ⟨l, us, e, _⟩ := R.tupI (show R K M G v (.tuple ds) from r); subst e; rfl
  | dict ds =>
    have r' : R K M G v (.dict ds) := r
    cases r' <;> rfl
section
variable {K : PySem.W.Frag} {X : Cx} {M : Pm} {E : XK} {k : Nat} {a c e : Expr} {ta : TE} {fa : Fe} {t u : TS} {f g : Fs} {pos : Pos} {st : Stmt} {rest : List Stmt}
theorem ops_is {K : PySem.W.Frag} : OpS K M .cl (fun x y H Q => y = V.non ∧ Q (.bl (decide (x = .non))) H) oIs := by
  intro H G x y dx dy dz Q e rx ry ho q
  unfold oIs at ho
  split at ho
  · cases ho
    cases (show R K M G y .none from ry)
    exact ⟨rfl, by rw [non_of rx]; exact q _ H G (Stp.refl e) (R.bl _)⟩
  · cases ho
theorem ops_isnt {K : PySem.W.Frag} : OpS K M .cl (fun x y H Q => y = V.non ∧ Q (.bl (!decide (x = .non))) H) oIsNt := by
  intro H G x y dx dy dz Q e rx ry ho q
  unfold oIsNt at ho
  split at ho
  · cases ho
    cases (show R K M G y .none from ry)
    exact ⟨rfl, by rw [non_of rx]; exact q _ H G (Stp.refl e) (R.bl _)⟩
  · cases ho
theorem je_isN {j : Nat} {p2 : Pos} (ha : JE K X M E .op a ta fa) : JE K X M E .cl (.Compare a [.Is] [.Constant .none j p2] pos) (tOp (fun x y H Q => y = V.non ∧ Q (.bl (decide (x = .non))) H) ta (tC .non)) (f2 oIs fa (fCon .none)) := je_cmpR op_isN ops_is ha (JE.c2o je_non) rfl
theorem je_notN {j : Nat} {p2 : Pos} (ha : JE K X M E .op a ta fa) : JE K X M E .cl (.Compare a [.IsNot] [.Constant .none j p2] pos) (tOp (fun x y H Q => y = V.non ∧ Q (.bl (!decide (x = .non))) H) ta (tC .non)) (f2 oIsNt fa (fCon .none)) := je_cmpR op_notN ops_isnt ha (JE.c2o je_non) rfl
theorem jt_isN {j : Nat} {p2 : Pos} (ha : JE K X M E .op a ta fa) : JT K X M E (.Compare a [.Is] [.Constant .none j p2] pos) (tTest (tOp (fun x y H Q => y = V.non ∧ Q (.bl (decide (x = .non))) H) ta (tC .non))) (fT (f2 oIs fa (fCon .none))) := jt_cmpR op_isN ops_is ha (JE.c2o je_non) rfl
theorem jt_notN {j : Nat} {p2 : Pos} (ha : JE K X M E .op a ta fa) : JT K X M E (.Compare a [.IsNot] [.Constant .none j p2] pos) (tTest (tOp (fun x y H Q => y = V.non ∧ Q (.bl (!decide (x = .non))) H) ta (tC .non))) (fT (f2 oIsNt fa (fCon .none))) := jt_cmpR op_notN ops_isnt ha (JE.c2o je_non) rfl
/-! xs.extend(e), xs an own list, e a new one -/
def sExt (i : Nat) (a : Fe) : Fs := fun γ => match γ[i]? with
  | some (.ow ds) => (match a γ with
    | some (.ok (.list es)) => if ds.length + es.length ≤ big then some (.nx (γ.set i (.ow (ds ++ es)))) else none
    | some (.er c) => some (.er c)
    | _ => none)
  | _ => none
theorem nr_ext (i : Nat) : NoRt (sExt i fa) := fun γ d h => by
  unfold sExt at h
  split at h
  · split at h
    · split at h <;> cases h
    · cases h
    · cases h
  · cases h
theorem js_extX {i : Nat} {x : Str} {p0 apos cpos : Pos} (C : CxF K X E k) (ho : JE K X M E .op (.Name x p0) (tVar i) (fOpd i)) (ha : JE K X M E .fr a ta fa)
    (hbase : attributeBase (.Name x p0) "extend" X.env (eval (.Name x p0) X.env) = eval (.Name x p0) X.env := by rfl)
    (hfew : ((backTo cpos (starEach [a] X.env)).all (fun x => !x.1) && (backToKw cpos (keywordEach [] X.env)).all (fun x => x.1.isSome)
      && decide ([a].length + ([] : List Keyword).length + (if ([] : List Keyword).isEmpty then 0 else 1) < 30)) = true := by rfl)
    (hline : (apos.endLine == cpos.line) = true := by rfl) (hst : starEach [a] X.env = (false, eval a X.env) :: starEach [] X.env := by rfl) (hs : swapsWith (.Call (.Attribute (.Name x p0) "extend" apos) [a] [] cpos) none pos.line X.env = pure false := by rfl) :
    JS K X M E (.Expr (.Call (.Attribute (.Name x p0) "extend" apos) [a] [] cpos) pos) (tDrop (tBM K "list" rExtend (tVar i) (tCons ta tNil))) (sExt i fa) := by
  have hK := C.hK
  subst hK
  exact ⟨ps_expr (pe_bm PySem.F.plainAttrs_list PySem.F.slot_list_extend PySem.F.type_list_extend mt_extend ho.pe (pa_cons ha.pe pa_nil hst) hbase hfew hline hst rfl) hs, fun H0 G0 γ σ H G De o ev hf p => by
  unfold sExt at hf
  split at hf
  · rename_i ds e1
    obtain ⟨l, vs, h1, hg, h0, h2, h3⟩ := ev.ow e1
    split at hf
    · rename_i es e2
      split at hf
      · rename_i hz
        cases hf
        refine ⟨_, h1, .inl ⟨rfl, vs, .of h2⟩, ?_⟩
        refine ha.eo H0 G0 γ σ H G _ _ ev e2 fun v H' G' s r => ?_
        obtain ⟨b, xs, rfl, hb0, hbg, hb, ra⟩ := r
        have hl : H' l = some (.lst vs) := s.ex _ _ h2
        exact ⟨l, b, vs, xs, rfl, rfl, hl, hb, by rw [h3.len, ra.len]; exact big_line hz, p _ _ G' ((ev.stp s).wr e1 h1 hl ((h3.mono s.eg).app ra))⟩
      · cases hf
    · rename_i c e2
      cases hf
      refine ⟨_, h1, .inl ⟨rfl, vs, .of h2⟩, ?_⟩
      exact ha.eo H0 G0 γ σ H G _ _ ev e2 (ev.er p)
    · cases hf
  · cases hf⟩
/-! x = e, e a new list, or no list at all -/
def sSetM (i : Nat) (a : Fe) : Fs := fun γ => match a γ with
  | some (.ok (.list ds)) => some (.nx (γ.set i (.ow ds)))
  | some (.ok d) => some (.nx (γ.set i (.va d)))
  | some (.er c) => some (.er c)
  | none => none
theorem nr_setM (i : Nat) : NoRt (sSetM i fa) := fun γ d h => by unfold sSetM at h; split at h <;> cases h
theorem so_setM {i : Nat} (ha : EO K M E .fr ta fa) : SO K M E (tAsg ta (gName i)) (sSetM i fa) := fun H0 G0 γ σ H G De o ev hf p => by
  unfold sSetM at hf
  split at hf
  · rename_i ds e1
    exact so_setO ha H0 G0 γ σ H G De o ev (by unfold sSetO; rw [e1]; exact hf) p
  · rename_i d hn e1
    cases hf
    refine ha H0 G0 γ σ H G _ _ ev e1 fun v H' G' s r => ?_
    have r' : R K M G' v d := by
      cases d with
      | list ds => exact (hn ds rfl).elim
      | _ => exact r
    exact p _ H' G' ((ev.stp s).setv r')
  · rename_i c e1
    cases hf
    exact ha H0 G0 γ σ H G _ _ ev e1 (ev.er p)
  · cases hf
theorem js_setM {i : Nat} {x : Str} {p0 : Pos} (hN : X.N.Nodup) (ha : JE K X M E .fr a ta fa) (hi : X.N[i]? = some x := by rfl) (hx : Loc X.env.scope x := by first | exact Or.inl rfl | exact Or.inr rfl) (hs : swapsWith a (some (.Name x p0)) pos.line X.env = pure false := by rfl) (hf : X.fn x = true ∨ X.env.scope.names.lookup x = some .local := by first | exact .inl rfl | exact .inr rfl) :
    JS K X M E (.Assign [.Name x p0] a pos) (tAsg ta (gName i)) (sSetM i fa) := ⟨ps_set hN hi hx ha.pe hs hf, so_setM ha.eo⟩
end
end Py
namespace Py
open PySem PySem.Spec PyProof.Rows L2
theorem CP.kp {K : PySem.W.Frag} {mg : Str → Option Value} {M : Pm} {C : Addr} (N : Hp) (c : CP K mg M C) : CP K mg { M with kp := N } C := ⟨c.ci, c.cl, c.na, c.mg⟩
end Py
/-! [.. for x in xs ..], xs an own list -/
namespace Py
open PySem PySem.Spec PyProof.Rows L2
def fLcO (i : Nat) (gf : D → Ge → Option Ge) (cf : Ft) (ef : Fe) (vs : List Nat) : Fe := fun γ => match γ[i]? with
  | some (.ow ds) => if ds.length ≤ big then (match lcF gf cf ef (wipeG γ vs) ds with
    | some xs => some (.ok (.list xs))
    | none => none) else none
  | _ => none
section
variable {K : PySem.W.Frag} {X : Cx} {M : Pm} {E : XK} {k : Nat} {pos : Pos}
theorem eo_lcO {K : PySem.W.Frag} {i : Nat} {g : TG} {tt : TT} {te : TE} {vs js : List Nat} {gf : D → Ge → Option Ge} {cf : Ft} {ef : Fe} (hg : GO K M js g gf) (hj : ∀ j ∈ js, j ∈ vs) (hc : TO' K M E0 tt cf) (he : EO K M E0 .cl te ef) :
    EO K M E .fr (tLc (iList K (tVar i)) g tt te vs) (fLcO i gf cf ef vs) := by
  intro H0 G0 γ σ H G Q r ev hf p
  unfold fLcO at hf
  split at hf
  · rename_i ds e1
    split at hf
    · rename_i hz
      split at hf
      · rename_i es e2
        cases hf
        obtain ⟨l, us, h1, hg0, h0, hl, rl⟩ := ev.ow e1
        refine ⟨.ref l, h1, l, rfl, ⟨us, .of hl⟩, fun Dl hD => ?_⟩
        have nG : G Dl = none := ev.st.sub.free hD
        refine ⟨fun i mm H' => mm = ds.length - i ∧ i ≤ ds.length ∧ ∃ G' acc accD rest, Stp H G H' G' ∧ G' Dl = none ∧ H' Dl = some (.lst acc) ∧ RA K M G' acc accD ∧ lcF gf cf ef (wipeG γ vs) (ds.drop i) = some rest ∧ accD ++ rest = es ∧ acc.length ≤ i,
          ⟨ds.length, by simp, Nat.zero_le _, G, [], [], es, Stp.newO ev.st.sub hD, nG, upd_same, .nil, e2, rfl, Nat.le_refl _⟩, ?_⟩
        rintro i mm H2 ⟨rfl, hi, G2, acc, accD, rest, st, gD, hDl, ra, el, ee, al⟩
        have ev2 := (ev.stp st).wipe vs
        have hl2 : SqL K H2 l us := .of (st.ex _ _ hl)
        by_cases hlt : i < ds.length
        · have hu : i < us.length := by rw [rl.len]; exact hlt
          refine .inr ⟨⟨us, us[i], hl2, List.getElem?_eq_getElem hu⟩, fun H' => ∃ m', m' < ds.length - i ∧ m' = ds.length - (i + 1) ∧ i + 1 ≤ ds.length ∧ ∃ G' acc accD rest, Stp H G H' G' ∧ G' Dl = none ∧ H' Dl = some (.lst acc) ∧ RA K M G' acc accD ∧ lcF gf cf ef (wipeG γ vs) (ds.drop (i + 1)) = some rest ∧ accD ++ rest = es ∧ acc.length ≤ i + 1,
            fun H' ⟨m', h1, h2⟩ => ⟨m', h1, h2⟩, fun x H3 hy => ?_⟩
          obtain ⟨e3, hy⟩ := hy
          subst e3
          have hd : ds[i]? = some ds[i] := List.getElem?_eq_getElem hlt
          obtain ⟨v, q1, q2⟩ := rl.get hd
          have hx := hy _ hl2
          rw [q1] at hx
          cases hx
          have rx := q2.mono st.eg
          rw [List.drop_eq_getElem_cons hlt] at el
          unfold lcF at el
          split at el
          · cases el
          · rename_i γ1 eg
            refine hg H0 G0 (wipeG γ vs) γ1 (L2.wipe σ vs) H3 G2 _ ds[i] _ ev2 rx eg fun σ2 ev3 sets => ⟨?_, ?_⟩
            · rw [sets vs hj, wipe_wipe]
            · split at el
              · rename_i ec
                split at el
                · rename_i y ey
                  split at el
                  · rename_i ys eys
                    cases el
                    refine hc H0 G0 γ1 σ2 H3 G2 _ _ ev3 ec fun H4 G4 s4 => ?_
                    rw [if_pos rfl]
                    refine he H0 G0 γ1 σ2 H4 G4 _ _ (ev3.stp s4) ey fun yv H5 G5 s5 ry => ?_
                    have s25 := s4.trans s5
                    have ry' : R K M G5 yv y := ry
                    have g5 : G5 Dl = none := s25.nw _ _ hDl gD
                    have h5 : H5 Dl = some (.lst acc) := s25.ex _ _ hDl
                    refine ⟨acc, h5, big_line' (by omega), ds.length - (i + 1), by omega, rfl, hlt, G5, acc ++ [yv], accD ++ [y], ys, ?_, g5, upd_same, (ra.mono s25.eg).app (.one ry'), eys, by rw [List.append_assoc]; exact ee, by rw [List.length_append]; simp; omega⟩
                    have sA := st.trans s25
                    exact ⟨fun b u q => by rw [upd_ne (ne_of_none q hD)]; exact sA.ex b u q, sA.eg, fun b u q => by rw [upd_ne (ne_of_none q g5)]; exact sA.sub b u q, sA.nw⟩
                  · cases el
                · cases el
              · rename_i ec
                refine hc H0 G0 γ1 σ2 H3 G2 _ _ ev3 ec fun H4 G4 s4 => ?_
                rw [if_neg Bool.false_ne_true]
                exact ⟨ds.length - (i + 1), by omega, rfl, hlt, G4, acc, accD, rest, st.trans s4, s4.nw _ _ hDl gD, s4.ex _ _ hDl, ra.mono s4.eg, el, ee, by omega⟩
              · cases el
        · have ei : i = ds.length := by omega
          subst ei
          rw [List.drop_length] at el
          cases el
          rw [List.append_nil] at ee
          subst ee
          refine .inl ⟨⟨us, hl2, by rw [rl.len]; omega⟩, p _ H2 G2 st ⟨Dl, acc, rfl, hD, gD, hDl, ra⟩⟩
      · cases hf
    · cases hf
  · cases hf
theorem je_lcO {elt tg : Expr} {i : Nat} {x : Str} {p0 : Pos} {ifs : List Expr} {scope : Scope} {own : List (Str × Nat)} {js : List Nat} {g : TG} {tt : TT} {te : TE} {gf : D → Ge → Option Ge} {cf : Ft} {ef : Fe} (C : CxF K X E k) (hi : JE K X M E .op (.Name x p0) (tVar i) (fOpd i)) (ok : BlkOk X.N X.env.scope scope own)
    (hg : ∀ (s : Shared) (H : Hp) (Cc : Addr) (cl : List (Str × Addr)) (fp : List Addr), JG K (X.blk s H scope (compEnvC scope cl Cc X.env) fp) M tg js g gf) (ht : ∀ (s : Shared) (H : Hp) (Cc : Addr) (cl : List (Str × Addr)) (fp : List Addr), JTs K (X.blk s H scope (compEnvC scope cl Cc X.env) fp) M E0 ifs tt cf)
    (he : ∀ (s : Shared) (H : Hp) (Cc : Addr) (cl : List (Str × Addr)) (fp : List Addr), JE K (X.blk s H scope (compEnvC scope cl Cc X.env) fp) M E0 .cl elt te ef) (hj : ∀ j ∈ js, j ∈ own.map (·.2) := by decide) (hs : ∀ y, foldedSetIterable (.Name x p0) X.env y = pure y := by intro _; rfl) :
    JE K X M E .fr (.ListComp elt [⟨tg, .Name x p0, ifs, 0⟩] scope pos) (tLc (iList K (tVar i)) g tt te (own.map (·.2))) (fLcO i gf cf ef (own.map (·.2))) := by
  have hK := C.hK
  subst hK
  exact ⟨pe_lc C.calm C.nd (pi_list hi.pe) ok (fun s H Cc cl fp => (hg s H Cc cl fp).pg) (fun s H Cc cl fp => (ht s H Cc cl fp).pts) (fun s H Cc cl fp => (he s H Cc cl fp).pe) hs,
    eo_lcO (hg ({} : Shared) (fun _ => none) 0 [] []).go hj (ht ({} : Shared) (fun _ => none) 0 [] []).to (he ({} : Shared) (fun _ => none) 0 [] []).eo⟩
end
end Py
namespace Py
open PySem PySem.Spec PyProof.Rows L2
theorem fnF_zero {P : Program} {w : World} {K : PySem.W.Frag} {mg : Str → Option Value} {base : Heap} {M : Pm} {f : Addr} {fd : FuncData} {ps : List Str} : FnOk P w K mg base (L2.CX P w) 0 f fd ps (spFr K M fun _ => none) := by
  have no : ∀ vs H Q E, ¬ spFr K M (fun _ => none) vs H Q E := by
    rintro vs H Q E ⟨_, _, _, _, _, e, _⟩
    cases e
  exact ⟨fun vs H Q E h => absurd h (no vs H Q E), fun A outer s H args us vs Q E _ _ _ _ h => absurd h (no vs H Q E)⟩
end Py

/-! PyK: what never comes, constants of the text, chains; the class Teller: its fields, its methods that only read -/
namespace Py
open PySem PySem.Spec PyProof.Rows L2
section
variable {K : PySem.W.Frag} {X : Cx} {M : Pm} {E : XK} {k : Nat} {a b c o : Expr} {ta tb tc to : TE} {fa fb fc fo : Fe} {pos apos : Pos} {st : Stmt}
def sNever : Fs := fun _ => none
theorem js_never : JS K X M E st (fun _ _ _ => False) sNever := ⟨⟨fun _ _ _ _ _ _ h => h.elim⟩, fun _ _ _ _ _ _ _ _ _ hf _ => by cases hf⟩
theorem nr_never : NoRt sNever := fun _ _ h => by cases h
theorem je_gint {x : Str} {i : Int} (h : ∃ t, X.mg x = some (.int i t)) (hg : Gl X x) (hd : (x == ("__debug__" : Str)) = false := by decide) : JE K X M E .cl (.Name x pos) (tC (.int i)) (fCon (.int i)) := by
  obtain ⟨t, ht⟩ := h
  exact ⟨pe_glob hg ht ⟨t, rfl⟩ hd, fun H0 G0 γ σ H G Q r ev hf p => by cases hf; exact p _ H G (Stp.refl ev.sub) (R.int i)⟩
theorem je_gstr {x s : Str} (h : ∃ t, X.mg x = some (.str s t)) (hg : Gl X x) (hd : (x == ("__debug__" : Str)) = false := by decide) : JE K X M E .cl (.Name x pos) (tC (.str s)) (fCon (.str s)) := by
  obtain ⟨t, ht⟩ := h
  exact ⟨pe_glob hg ht ⟨t, rfl⟩ hd, fun H0 G0 γ σ H G Q r ev hf p => by cases hf; exact p _ H G (Stp.refl ev.sub) (R.str s)⟩
/-- a <= b <= c -/
def fChain (f g h : Fe) : Fe := fun γ => match f γ with
  | some (.ok (.int i)) => (match g γ with
    | some (.ok (.int j)) => if decide (i ≤ j) = true then (match h γ with
        | some (.ok (.int l)) => some (.ok (.bool (decide (j ≤ l))))
        | _ => none) else some (.ok (.bool false))
    | _ => none)
  | _ => none
theorem je_chain (ha : JE K X M E .op a ta fa) (hb : JE K X M E .op b tb fb) (hc : JE K X M E .op c tc fc) (hm : lastMarks [.LtE, .LtE] [b, c] = false := by with_unfolding_all rfl) : JE K X M E .cl (.Compare a [.LtE, .LtE] [b, c] pos) (tChain (rI0 fun i j => .bl (decide (i ≤ j))) (rI0 fun i j => .bl (decide (i ≤ j))) ta tb tc) (fChain fa fb fc) :=
  ⟨pe_chain op_le op_le ha.pe hb.pe hc.pe hm, fun H0 G0 γ σ H G Q r ev hf p => by
    unfold fChain at hf
    split at hf
    · rename_i i e1
      refine ha.eo H0 G0 γ σ H G _ _ ev e1 fun x H1 G1 s1 r1 => ?_
      cases (show R K M G1 x (.int i) from r1)
      split at hf
      · rename_i j e2
        refine hb.eo H0 G0 γ σ H1 G1 _ _ (ev.stp s1) e2 fun y H2 G2 s2 r2 => ?_
        cases (show R K M G2 y (.int j) from r2)
        refine ⟨i, j, rfl, rfl, decide (i ≤ j), rfl, ?_⟩
        split at hf
        · rename_i hij
          rw [if_pos hij]
          split at hf
          · rename_i l e3
            cases hf
            refine hc.eo H0 G0 γ σ H2 G2 _ _ ((ev.stp s1).stp s2) e3 fun z H3 G3 s3 r3 => ?_
            cases (show R K M G3 z (.int l) from r3)
            exact ⟨j, l, rfl, rfl, p _ H3 G3 ((s1.trans s2).trans s3) (R.bl _)⟩
          · cases hf
        · rename_i hij
          rw [if_neg hij]
          cases hf
          exact p _ H2 G2 (s1.trans s2) (R.bl false)
      · cases hf
    · cases hf⟩
/-! ### Teller -/
abbrev tlNs : List Str := ["plan", "state", "run", "word"]
def MP2 (C T : Addr) (lv : Nat → Option Addr) : Pm := { ci := fun c => if c = "Plan" then some (C, plNs) else if c = "Teller" then some (T, tlNs) else none, exc := fun _ => .none, lv := lv }
structure CT (K : PySem.W.Frag) (mg : Str → Option Value) (M : Pm) (C : Addr) : Prop where
  ci : M.ci "Teller" = some (C, tlNs)
  cl : Cls K C
  na : ∀ f ∈ tlNs, NoAttr K C f
  mg : mg "Teller" = some (.ref C)
theorem CT.kp {K : PySem.W.Frag} {mg : Str → Option Value} {M : Pm} {C : Addr} (N : Hp) (c : CT K mg M C) : CT K mg { M with kp := N } C := ⟨c.ci, c.cl, c.na, c.mg⟩
def telD (k : Nat) (ds : List D) : D := .dict [(.str "Teller", .tuple (.int k :: ds))]
def runD (ds : List D) : D := .dict [(.none, .tuple ds)]
def oFldT (f : Str) : D → Option D
  | .dict [(.str c, .tuple (.int _ :: ds))] => if c = "Teller" then (tlNs.zip ds).lookup f else none
  | _ => none
theorem je_fldT {Cc : Addr} {f : Str} (C : CxF K X E k) (P : CT K X.mg M Cc) (ha : JE K X M E .op a ta fa) (hb : attributeBase a f X.env (eval a X.env) = eval a X.env := by rfl) : JE K X M E .cl (.Attribute a f pos) (tFld K ta f) (f1 (oFldT f) fa) := by
  have hK := C.hK
  subst hK
  refine ⟨pe_fld ha.pe hb, fun H0 G0 γ σ H G Q r ev hf p => ?_⟩
  unfold f1 at hf
  cases e1 : fa γ with
  | none => rw [e1] at hf; cases hf
  | some q =>
    rw [e1] at hf
    cases q with
    | er c => cases hf; exact ha.eo H0 G0 γ σ H G _ _ ev e1 p
    | ok d =>
      simp only [bR] at hf
      refine ha.eo H0 G0 γ σ H G _ _ ev e1 fun v H1 G1 s1 r1 => ?_
      cases e2 : oFldT f d with
      | none => rw [e2] at hf; cases hf
      | some dz =>
        rw [e2] at hf
        cases hf
        unfold oFldT at e2
        split at e2
        · rename_i c i ds
          split at e2
          · rename_i hc
            subst hc
            have rr : R X.K M G1 v (.dict [(.str "Teller", .tuple (.int i :: ds))]) := r1
            cases rr with
            | ki hl hg hci hns hra =>
              rename_i b C' dx k' fs ns
              have e3 := P.ci
              rw [hci] at e3
              cases e3
              rw [← hns] at e2
              have hm : f ∈ tlNs := by rw [← hns]; exact mem_of_zip e2
              obtain ⟨w, h1, h2⟩ := lookup_fs hra e2
              exact ⟨b, _, dx, fs, w, rfl, s1.ex _ _ (ev.st.ex _ _ (ev.kp _ _ hg)), P.cl, P.na f hm, h1, p w H1 G1 s1 h2⟩
          · cases e2
        · cases e2
def isTel : D → Bool
  | .dict [(.str c, .tuple (.int _ :: _))] => decide (c = "Teller")
  | _ => false
/-- t.m(), t a teller that only is read -/
def fMeth0 (φ : List D → Option Rs) (a : Fe) : Fe := fun γ => bR (a γ) fun d => if isTel d = true then φ [d] else none
theorem je_meth0 {Cc : Addr} {φ : List D → Option Rs} {j : Nat} {m : Str} {f : Addr} {fd : FuncData} {ps : List Str} {pl : Sem Bool} (C : CxF K X E k) (P : CT K X.mg M Cc) (hm : Meth X.K Cc m f) (hn : m ∉ tlNs)
    (F : FnOk X.prog X.w X.K X.mg X.base (L2.CX X.prog X.w) j f fd ps (spF K M φ)) (hj : j ≤ k) (hb : Binds X.K fd ps []) (ho : JE K X M E .op o to fo)
    (ht : eval (.Call (.Attribute o m apos) [] [] pos) X.env = (do
      let ov ← eval o X.env
      standAt apos.atName
      let (g, first) ← holding [ov] (getMethod ov m pl)
      callWith pos g first (backTo pos (starEach [] X.env)) (backToKw pos (keywordEach [] X.env))) := by rfl) :
    JE K X M E .cl (.Call (.Attribute o m apos) [] [] pos) (tMeth Cc m (spF K M φ) [] E to tNil) (fMeth0 φ fo) := by
  have hK := C.hK
  subst hK
  refine ⟨pe_meth0 ho.pe P.cl hm F (C.room.mono hj) hb .nil C.pas ht, fun H0 G0 γ σ H G Q r ev hf p => ?_⟩
  unfold fMeth0 at hf
  cases e1 : fo γ with
  | none => rw [e1] at hf; cases hf
  | some q =>
    rw [e1] at hf
    cases q with
    | er c => cases hf; exact ho.eo H0 G0 γ σ H G _ _ ev e1 p
    | ok d =>
      simp only [bR] at hf
      refine ho.eo H0 G0 γ σ H G _ _ ev e1 fun v H1 G1 s1 r1 => ?_
      split at hf
      case isFalse => cases hf
      rename_i hp
      have key : (∃ b dx fs, v = .ref b ∧ H1 b = some (.ins Cc dx fs) ∧ fs.lookup m = none) ∧ R X.K M G1 v d := by
        unfold isTel at hp
        split at hp
        · rename_i c i ds
          have hc := of_decide_eq_true hp
          subst hc
          have rr : R X.K M G1 v (.dict [(.str "Teller", .tuple (.int i :: ds))]) := r1
          refine ⟨?_, rr⟩
          cases rr with
          | ki hl hg hci hns hra =>
            rename_i b C' dx k' fs ns
            have e3 := P.ci
            rw [hci] at e3
            cases e3
            exact ⟨b, dx, fs, rfl, s1.ex _ _ (ev.st.ex _ _ (ev.kp _ _ hg)), lookup_no (by rw [hns]; exact hn)⟩
        · cases hp
      obtain ⟨⟨b, dx, fs, e3, h1, h2⟩, rd⟩ := key
      refine ⟨b, dx, fs, e3, h1, h2, ?_⟩
      refine ⟨G1, [d], r, s1.sub, .cons rd .nil, hf, ?_, ev.kp.trans (ev.stp s1).st.ex⟩
      cases r with
      | ok d' => exact fun v' H' G' s' r' => p v' H' G' (s1.trans s') r'
      | er c => exact fun H' G' s' => p H' G' (s1.trans s')
/-- a list of the frozen teller, read -/
def fKl (a : Fe) : Fe := fun γ => match a γ with
  | some (.ok (.dict [(.none, .tuple ds)])) => some (.ok (.list ds))
  | some (.er c) => some (.er c)
  | _ => none
theorem je_kl (h : JE K X M E .cl a ta fa) : JE K X M E .op a ta (fKl fa) := ⟨h.pe, fun H0 G0 γ σ H G Q r ev hf p => by
  unfold fKl at hf
  split at hf
  · rename_i ds e1
    cases hf
    refine h.eo H0 G0 γ σ H G Q _ ev e1 fun v H' G' s r => ?_
    cases (show R K M G' v (.dict [(.none, .tuple ds)]) from r) with
    | kl hk ra => exact p _ H' G' s ⟨_, _, rfl, .of (s.ex _ _ (ev.st.ex _ _ (ev.kp _ _ hk))), ra⟩
  · rename_i c e1
    cases hf
    exact h.eo H0 G0 γ σ H G Q _ ev e1 p
  · cases hf⟩
end
end Py

/-! PyK2: a teller is made; a teller is told a mark -/
namespace Py
open PySem PySem.Spec PyProof.Rows L2
def noow (γ : Ge) : Prop := ∀ (j : Nat) (ds : List D), γ[j]? ≠ some (.ow ds)
/-- self at x, while its fields are written -/
structure IG (K : PySem.W.Frag) (M : Pm) (Cc x dx : Addr) (Hs Gs : Hp) (γ : Ge) (fs : List (Str × V)) (σ : L2.St) (H G : Hp) : Prop where
  ev : EnvR K M H G γ σ H G
  no : noow γ
  sx : σ[0]? = some (some (.ref x))
  hx : H x = some (.ins Cc dx fs)
  gx : G x = none
  fr : StpN x Hs Gs H G
  kh : Same M.kp Hs
  kx : M.kp x = none
section
variable {K : PySem.W.Frag} {M : Pm} {E : XK} {Cc x dx : Addr} {Hs Gs : Hp} {γ : Ge} {fs : List (Str × V)} {σ : L2.St} {H G : Hp} {De : Ends}
theorem StpN.of {x : Addr} {H G H1 G1 : Hp} (s : Stp H G H1 G1) : StpN x H G H1 G1 := ⟨fun p u _ q => s.ex p u q, s.eg, s.sub, fun p u _ q z => s.nw p u q z⟩
theorem ig_step {nm : Str} {y : V} {H1 G1 : Hp} (I : IG K M Cc x dx Hs Gs γ fs σ H G) (s1 : Stp H G H1 G1) : IG K M Cc x dx Hs Gs γ (putF nm y fs) σ (upd H1 x (.ins Cc dx (putF nm y fs))) G1 ∧ StpN x H G (upd H1 x (.ins Cc dx (putF nm y fs))) G1 := by
  have gx1 : G1 x = none := s1.nw _ _ I.hx I.gx
  have fr1 := (I.fr.step s1).wr (o := .ins Cc dx (putF nm y fs)) gx1
  exact ⟨⟨(I.ev.stp s1).re I.no fr1.sub (kp_upd I.ev.kp s1.ex I.kx), I.no, I.sx, upd_same, gx1, fr1, I.kh, I.kx⟩, (StpN.of s1).wr gx1⟩
theorem ig_cl {t : TE} {fa : Fe} {nm : Str} {dv : D} (cl : Cls K Cc) (na : NoAttr K Cc nm) (hl : fs.length < 1000) (I : IG K M Cc x dx Hs Gs γ fs σ H G) (ha : EO K M E .cl t fa) (hf : fa γ = some (.ok dv))
    (p : ∀ y H1 G1, StpN x H G H1 G1 → R K M G1 y dv → IG K M Cc x dx Hs Gs γ (putF nm y fs) σ H1 G1 → De.nx σ H1) : sFld K (tVar 0) t nm De σ H := by
  refine ha H G _ σ H G _ _ I.ev hf fun y H1 G1 s1 r1 => ?_
  refine ⟨.ref x, I.sx, x, Cc, dx, fs, rfl, s1.ex _ _ I.hx, cl, na, hl, ?_⟩
  exact p y _ G1 (ig_step I s1).2 r1 (ig_step I s1).1
theorem ig_fr {t : TE} {fa : Fe} {nm : Str} {dl : List D} (cl : Cls K Cc) (na : NoAttr K Cc nm) (hl : fs.length < 1000) (I : IG K M Cc x dx Hs Gs γ fs σ H G) (ha : EO K M E .fr t fa) (hf : fa γ = some (.ok (.list dl)))
    (p : ∀ l ws H1 G1, StpN x H G H1 G1 → l ≠ x → Hs l = none → H1 l = some (.lst ws) → G1 l = none → RA K M G1 ws dl → IG K M Cc x dx Hs Gs γ (putF nm (.ref l) fs) σ H1 G1 → De.nx σ H1) : sFld K (tVar 0) t nm De σ H := by
  refine ha H G _ σ H G _ _ I.ev hf fun y H1 G1 s1 r1 => ?_
  obtain ⟨l, ws, rfl, h0, g1, h1, ra⟩ := r1
  have lx : l ≠ x := fun e => by rw [e, I.hx] at h0; cases h0
  have hs : Hs l = none := by
    cases q : Hs l with
    | none => rfl
    | some u => have := I.fr.ex l u lx q; rw [h0] at this; cases this
  refine ⟨.ref x, I.sx, x, Cc, dx, fs, rfl, s1.ex _ _ I.hx, cl, na, hl, ?_⟩
  exact p l ws _ G1 (ig_step I s1).2 lx hs (by rw [upd_ne lx]; exact h1) g1 ra (ig_step I s1).1
end
/-- what the making of a teller reckons: its plan and its first state -/
def initTel (φN : List D → Option Rs) (psi_ : D → Option D) (φB : List D → Option Rs) (d : D) : Option (D × D) := match φN [d] with
  | some (.ok d1) => (match psi_ d1 with
    | some pD => (match φB [pD] with
      | some (.ok sD) => some (pD, sD)
      | _ => none)
    | none => none)
  | _ => none
def telF (vp vs : V) (l : Addr) (vw : V) : List (Str × V) := [("plan", vp), ("state", vs), ("run", .ref l), ("word", vw)]
def spTI (K : PySem.W.Frag) (M : Pm) (Tc : Addr) (φ : D → Option (D × D)) : Sp := fun vs H Q E => ∃ (G : Hp) (x dx : Addr) (v : V) (d pD sD : D), vs = [.ref x, v] ∧ Same G H ∧ G x = none ∧ H x = some (.ins Tc dx []) ∧ R K M G v d ∧ φ d = some (pD, sD) ∧
  (∀ l vp vs H' G', StpN x H G H' G' → H l = none → l ≠ x → G' x = none → G' l = none → H' x = some (.ins Tc dx (telF vp vs l (.str "open"))) → H' l = some (.lst []) → R K M G' vp pD → R K M G' vs sD → Q .non H') ∧ Same M.kp H ∧ M.kp x = none
structure JTI (K : PySem.W.Frag) (X : Cx) (M : Pm) (E : XK) (body : List Stmt) (tP tR tO : TE) (fP : Fe) (φB : List D → Option Rs) : Prop where
  ps : PSs X body (tSeq (sFld K (tVar 0) tP "plan") (tSeq (sFld K (tVar 0) (tCallS (spF K M φB) (fun _ => E) (tCons (tFld K (tVar 0) "plan") tNil)) "state") (tSeq (sFld K (tVar 0) tR "run") (sFld K (tVar 0) tO "word"))))
  p : EO K M E .cl tP fP
  r : EO K M E .fr tR (fLst fNil)
  o : EO K M E .cl tO (fCon (.str "open"))
theorem jti_of {K : PySem.W.Frag} {X : Cx} {M : Pm} {E : XK} {s1 s2 s3 s4 : Stmt} {tP tR tO : TE} {fP : Fe} {φB : List D → Option Rs} (h1 : JF K X M E .cl s1 "plan" tP fP) (h2 : PS X s2 (sFld K (tVar 0) (tCallS (spF K M φB) (fun _ => E) (tCons (tFld K (tVar 0) "plan") tNil)) "state")) (h3 : JF K X M E .fr s3 "run" tR (fLst fNil)) (h4 : JF K X M E .cl s4 "word" tO (fCon (.str "open"))) :
    JTI K X M E [s1, s2, s3, s4] tP tR tO fP φB := ⟨pss_cons h1.ps (pss_cons h2 (pss_cons h3.ps (pss_one h4.ps))), h1.eo, h3.eo, h4.eo⟩
theorem tinit_ok {P : Program} {w : World} {K : PySem.W.Frag} {mg : Str → Option Value} {base : Heap} {M : Pm} {st : Stmt} {f : Addr} {fd : FuncData} {N : List Str} {k : Nat} {Tc : Addr} {φN φB : List D → Option Rs} {psi_ : D → Option D} (F : Fun K "__init__" "Teller.__init__" st f fd) (S : FnScope N ["self", "statement"] (defScope st)) (hN : N.length = 2) (ct : CT K mg M Tc)
    (hb : ∀ (cdv : Value) (A : Around) (outer : List Env) (s : Shared) (H : Hp) (E : XK), CxF K (cxOf (L2.CX P w) P w K mg base N "Teller.__init__" (defScope st) f cdv A outer s H E) E k → Takes (cxOf (L2.CX P w) P w K mg base N "Teller.__init__" (defScope st) f cdv A outer s H E) (fun cls d _ H => E cls d H) →
      ∃ tP tR tO, JTI K (cxOf (L2.CX P w) P w K mg base N "Teller.__init__" (defScope st) f cdv A outer s H E) M E (defBody st) tP tR tO (fMake psi_ (fCons (fCall φN (fCons (fVar 1) fNil)) fNil)) φB) :
    FnOk P w K mg base (L2.CX P w) (k + 1) f fd ["self", "statement"] (spTI K M Tc (initTel φN psi_ φB)) := by
  have len : ∀ vs H Q E, spTI K M Tc (initTel φN psi_ φB) vs H Q E → vs.length = (["self", "statement"] : List Str).length := by
    rintro vs H Q E ⟨G, x, dx, v, d, pD, sD, rfl, _⟩
    rfl
  refine F.okX S len fun cdv A outer s H vs Q E hr h => ?_
  obtain ⟨C, tk⟩ := cxf_of (P := P) (w := w) (K := K) (mg := mg) (base := base) (qual := "Teller.__init__") (s := s) (H := H) (E := E) (outer := outer) S hr
  obtain ⟨tP, tR, tO, J⟩ := hb cdv A outer s H E C tk
  refine ⟨_, J.ps, ?_⟩
  obtain ⟨G, x, dx, v, d, pD, sD, rfl, e, gx, hx, r, hi, p, kh, kx⟩ := h
  unfold initTel at hi
  split at hi
  case h_2 => cases hi
  rename_i d1 eN
  split at hi
  case h_2 => cases hi
  rename_i pD' eP
  split at hi
  case h_2 => cases hi
  rename_i sD' eB
  cases hi
  obtain ⟨n0, n1, rfl⟩ : ∃ a b, N = [a, b] := by
    match N, hN with
    | [a, b], _ => exact ⟨a, b, rfl⟩
  have noow2 : noow [.no, .va d] := fun j ds h => by
    have m := List.mem_of_getElem? h
    simp at m
  have I0 : IG K M Tc x dx H G [.no, .va d] [] (L2.start [n0, n1] [.ref x, v]) H G := by
    refine ⟨⟨Stp.refl e, rfl, fun j sl y h1 h2 => ?_, fun j k sj sk xj xk q h1 h2 h3 h4 h5 h6 => ?_, kh⟩, noow2, rfl, hx, gx, ⟨fun _ _ _ q => q, Same.refl _, e, fun _ _ _ _ n => n⟩, kh, kx⟩
    · match j, h1, h2 with
      | 0, h1, h2 => cases h1; trivial
      | 1, h1, h2 => cases h1; cases h2; exact ⟨v, rfl, r⟩
      | j + 2, h1, _ => simp at h1
    · cases sj with
      | ow ds => exact absurd h1 (noow2 j ds)
      | _ => exact h5.elim
  have na : ∀ f ∈ tlNs, NoAttr K Tc f := ct.na
  have fP : (fMake psi_ (fCons (fCall φN (fCons (fVar 1) fNil)) fNil)) [.no, .va d] = some (.ok pD) := by
    have e1 : fCall φN (fCons (fVar 1) fNil) [.no, .va d] = some (.ok d1) := eN
    have e2 : fCons (fCall φN (fCons (fVar 1) fNil)) fNil [.no, .va d] = some (.ok [d1]) := by
      show bL (fCall φN (fCons (fVar 1) fNil) [.no, .va d]) _ = _
      rw [e1]
      rfl
    unfold fMake
    rw [e2]
    show oR (psi_ d1) = _
    rw [eP]
    rfl
  refine ig_cl ct.cl (na "plan" (by simp)) (by decide) I0 J.p fP fun vP H1 G1 g1 rP I1 => ?_
  have l1 := putF_len "plan" vP []
  simp only [List.length_nil] at l1
  -- the state
  refine ⟨.ref x, I1.sx, x, Tc, dx, _, vP, rfl, I1.hx, ct.cl, na "plan" (by simp), rfl, ?_⟩
  refine ⟨G1, [pD], .ok sD, I1.ev.sub, .cons rP .nil, eB, fun vS H2 G2 s2 rS => ?_, I1.ev.kp⟩
  refine ⟨.ref x, I1.sx, x, Tc, dx, _, rfl, s2.ex _ _ I1.hx, ct.cl, na "state" (by simp), by omega, ?_⟩
  obtain ⟨I2, S2⟩ := ig_step (nm := "state") (y := vS) I1 s2
  have l2 := putF_len "state" vS (putF "plan" vP [])
  refine ig_fr ct.cl (na "run" (by simp)) (by omega) I2 J.r (dl := []) rfl fun l ws H3 G3 g3 lx hsl hl gl ra I3 => ?_
  have l3 := putF_len "run" (.ref l) (putF "state" vS (putF "plan" vP []))
  refine ig_cl ct.cl (na "word" (by simp)) (by omega) I3 J.o rfl fun vO H4 G4 g4 rO I4 => ?_
  cases (show R K M G4 vO (.str "open") from rO)
  cases ra
  exact p l vP vS H4 G4 I4.fr hsl lx I4.gx (g4.nw l _ lx hl gl) I4.hx (g4.ex l _ lx hl) (((rP.mono s2.eg).mono g3.eg).mono g4.eg) ((rS.mono g3.eg).mono g4.eg)
end Py

/-! PyQ: errors that are caught: what is asked of one in a suite -/
namespace Py
open PySem PySem.Spec PyProof.Rows L2
/-! ### xs.count(y) of flat data -/
theorem countP_vals {y : V} : ∀ {ys : List V} {us : List Value}, Vals ys us → ys.all flatV = true → us.countP (eqU y) = ys.countP fun z => eqV z y
  | _, _, .nil, _ => rfl
  | z :: ys, u :: us, .cons r t, f => by
    rw [List.all_cons, Bool.and_eq_true] at f
    rw [List.countP_cons, List.countP_cons, eqU_of r f.1, countP_vals t f.2]
def rCountF (K : PySem.W.Frag) : V → List V → Hp → VK → Prop := fun x xs H Q => ∃ (a : Addr) (ys : List V) (y : V), x = .ref a ∧ xs = [y] ∧ SqL K H a ys ∧ flatV y = true ∧ ys.all flatV = true ∧ Q (.int (ys.countP fun z => eqV z y : Nat)) H
theorem mt_countF {X : Cx} : MtR X "list.count" (rCountF X.K) := by
  intro pins s σ H x xs v us Q I rx rxs h
  obtain ⟨p, zs, y, rfl, rfl, hs, fy, fz, q⟩ := h
  cases rx
  cases rxs with
  | cons ry rt =>
    rename_i w wt
    cases rt
    obtain ⟨ls, rv, ⟨⟨oc, od, dt, sl⟩, m, ho, e1, hd, e2⟩, hl⟩ := I.list hs
    simp only at e1 e2
    subst e1 e2
    have ek := countP_vals (y := y) rv fz
    refine call_meets PySem.F.slot_list_count ⟨_, ho, rfl⟩ PySem.F.entry_list_count (PySem.F.args_list_count_2 _ _) (SeqAt.list_countAt p ls.toArray m od sl w (eqU y)) ⟨ho, fun u hu => mem_eqAt ry fy rv fz u (by simpa using hu), ?_⟩
    refine ⟨.int (zs.countP fun z => eqV z y : Nat), H, I.tok _, ⟨s.toks, ?_⟩, q⟩
    show Value.int ((ls.toArray.toList.countP (eqU y) : Nat) : Int) s.toks = _
    rw [← ek]
/-! ### isinstance(e, C), e pinned -/
theorem call_isP {X : Cx} {a D : Addr} {oe : Obj} (C : ExcC X.K D) (hp : (a, oe) ∈ X.pn) (hz : Zc (.ref D) none oe) (hf : ∃ vs, oe.data = .fields vs) : CallR X (.builtin "isinstance") (rIsE X.K D a) := by
  intro pins s σ H xs us Q I r h
  obtain ⟨c, cv, b, rfl, hc, e, q⟩ := h
  cases r with
  | cons r1 rr =>
    cases rr with
    | cons r2 rr =>
      cases rr
      cases r1
      cases hc _ r2
      have hg := (I.pin (a, oe) (List.mem_append_left _ hp)).1
      obtain ⟨ws, hw⟩ := hf
      have J : PySem.W.InstAt s.heap a oe D none := by
        rcases oe with ⟨k1, k2, k3, k4⟩
        obtain ⟨z1, z2⟩ := hz
        simp only at z1 z2 hw
        subst z1 z2 hw
        exact ⟨hg, rfl, rfl, trivial⟩
      refine PySem.W.kia_one (PySem.W.handS_kitx_exc C.hg C.hk C.hs C.hd C.ha C.hn C.ht C.hm) I.kIn J e (fun z => by cases z) fun t => ?_
      exact ⟨.bl b, H, I.kept (t' := t) fun _ _ z => z, rfl, q⟩
/-! ### a def that is called in a suite, and raises nothing -/
def noX : XK := fun _ _ _ => False
abbrev cxP (P : Program) (w : World) (K : PySem.W.Frag) (mg : Str → Option Value) (base : Heap) (N : List Str) (qual : Str) (st : Stmt) (f : Addr) (cd : Value) (A : Around) (outer : List Env) (s : Shared) (H : Hp) (p : Addr × Obj) : Cx :=
  L2H.cxH (L2.CX P w) P w K mg base N qual (defScope st) f cd A outer s H noX p
structure FnW (P : Program) (w : World) (K : PySem.W.Frag) (mg : Str → Option Value) (base : Heap) (k : Nat) (f : Addr) (fd : FuncData) (ps : List Str) (p : Addr × Obj) (sp : Sp) : Prop where
  len : ∀ vs H Q, sp vs H Q noX → vs.length = ps.length
  run : ∀ (A : Around) (outer : List Env) (s : Shared) (H : Hp) (us : List Value) (vs : List V) (Q : VK), L2H.RoomH k A → L2H.PinOk outer H s p → Env0 P w K mg base A outer s H → BindsTo s fd ⟨us, []⟩ (ps.zip us) → Vals vs us → sp vs H Q noX →
    codeAny (model P w) A (.call (.ref f) ⟨us, []⟩) (CR (L2.CX P w) outer P w H s Q noX) s
theorem fnW_of {P : Program} {w : World} {K : PySem.W.Frag} {mg : Str → Option Value} {base : Heap} {x qual : Str} {st : Stmt} {f : Addr} {fd : FuncData} {N ps : List Str} {k : Nat} {p : Addr × Obj} {sp : Sp} (F : Fun K x qual st f fd) (S : FnScope N ps (defScope st)) (len : ∀ vs H Q, sp vs H Q noX → vs.length = ps.length)
    (hb : ∀ (cd : Value) (A : Around) (outer : List Env) (s : Shared) (H : Hp) (vs : List V) (Q : VK), L2H.RoomH k (A.deeper (envOfC qual (defScope st) s.heap.objs.size f cd)) → sp vs H Q noX →
      ∃ t, PSs (cxP P w K mg base N qual st f cd A outer s H p) (defBody st) t ∧ t { nx := fun _ H' => Q .non H', rt := Q } (L2.start N vs) H) : FnW P w K mg base (k + 1) f fd ps p sp := by
  obtain ⟨oc, od, kV, doc, pm, an, cd, ct, sl, rfl, lk, hc⟩ := F.ex
  refine ⟨len, fun A outer s H us vs Q hr hp e0 b r h => ?_⟩
  have kin : K.In s.heap := e0.mod.kin.keeps fun b o e => (e0.bs b o e).1
  have lim := e0.mod.nolimit.keeps fun b o e => (e0.bs b o e).1
  have kd : ∀ y ∈ ps.zip us, (defScope st).names.lookup y.1 = some .local ∨ ((defScope st).names.lookup y.1 = some .cell ∧ ((cellsFrom (s.heap.objs.size + 1) (defScope st).names []).lookup y.1).isSome = true) := by
    rintro ⟨n, v⟩ hy
    exact (S.par n (List.of_mem_zip hy).1).imp id fun q => ⟨q, PySem.W.cellsFrom_some _ _ _ (.inl q)⟩
  refine codeAny_call_function hr.depth (kin _ _ lk) rfl S.co S.gen rfl (PySem.W.codeRec_of kin hc) (b _ _ _ _ ?_)
  refine wpAny_newFunctionEnv_cells S.kind kd fun env he s1 xc => ?_
  subst he
  refine ⟨lim.keeps xc.toInCall.keep, codeAny_func ?_⟩
  obtain ⟨t, ht, hq⟩ := hb cd A outer s H vs Q (hr.deeper _) h
  have I : Inv (cxP P w K mg base N qual st f cd A outer s H p) [] (L2.start N vs) H s1 := L2H.inv_startH S hp e0 (len _ _ _ h) r xc
  refine wpAny_mono (ht.run [] s1 (L2.start N vs) H _ I hq) (fun fl s2 h2 => ?_) fun e s2 h2 => h2
  have fin : ∀ (σ' : L2.St) (H' : Hp) (v : V) (u : Value), Inv (cxP P w K mg base N qual st f cd A outer s H p) [] σ' H' s2 → RelV v u → Q v H' → CE outer P w H s Q u s2 := fun σ' H' v u J rv q => ⟨v, H', J.os, J.bare, J.base, J.hok, rv, q⟩
  cases fl with
  | ret u => obtain ⟨v, σ', H', J, rv, q⟩ := h2; exact fin σ' H' v u J rv q
  | next => obtain ⟨σ', H', J, q⟩ := h2; exact fin σ' H' .non .none J rfl q
  | brk => exact h2.elim fun _ z => z.elim fun _ z => z.2.elim
  | cont => exact h2.elim fun _ z => z.elim fun _ z => z.2.elim
/-- its call in a suite -/
theorem pe_callW {X : Cx} {k : Nat} {f : Addr} {fd : FuncData} {ps : List Str} {sp : Sp} {p : Addr × Obj} {x : Str} {q pos : Pos} {e : Expr} {es : List Expr} {t : TA} (F : FnW X.prog X.w X.K X.mg X.base k f fd ps p sp) (hr : L2H.RoomH k X.A) (hp : p ∈ X.pn) (hg : Gl X x) (hm : X.mg x = some (.ref f)) (hk : PySem.W.keepIn X.K (.ref f) = true) (hb : Binds X.K fd ps []) (ha : PA X (e :: es) t)
    (hdb : (x == ("__debug__" : Str)) = false := by decide) (he : starEach (e :: es) X.env = (false, eval e X.env) :: starEach es X.env := by rfl) (hpl : (backTo pos (starEach es X.env)).any (·.1) = false := by rfl) : PE X (.Call (.Name x q) (e :: es) [] pos) (tCallS sp (fun _ => noX) t) := by
  refine ⟨fun pins s σ H Q I h => ?_⟩
  refine wpAny_Call_Name_kw (ld_glob I hg hm ?_ hdb)
  refine PySem.W.callWith_K (h₀ := X.base) I.ok.mod.kin hk (thn (ha.run pos pins s σ H _ I h) fun us s1 ⟨vs, H1, J, r, q⟩ => ⟨J.kIn, ?_⟩) he hpl
  have hl : us.length = ps.length := by rw [← r.length]; exact F.len _ _ _ q
  have b := hb s1 us J.kIn (by rw [List.append_nil]; exact hl)
  rw [List.append_nil] at b
  have P1 := J.pin p (List.mem_append_left _ hp)
  have pk : L2H.PinOk X.stack H1 s1 p := ⟨P1.1, P1.2.1, fun z => (List.mem_cons.mp (J.stkSub p.1 z)).elim P1.2.2.1 P1.2.2.2.1, P1.2.2.2.2⟩
  refine wpAny_call (codeAny_mono (F.run X.A X.stack s1 H1 us vs Q hr pk J.env0 b r q) fun r s' hq => ?_)
  cases r with
  | error u => obtain ⟨_, _, _, _, _, _, _, _, _, _, _, _, z⟩ := hq; exact z.elim
  | ok fl =>
    cases fl with
    | ret u => exact J.after hq
    | next => exact hq.elim
    | brk => exact hq.elim
    | cont => exact hq.elim
end Py

/-! PyQ2: the law's own name for an error: six times isinstance, count, index -/
namespace Py
open PySem PySem.Spec PyProof.Rows L2
/-- what is known of an error class D: its place j among the classes cs -/
structure EK (K : PySem.W.Frag) (D : Addr) (cs : List Addr) (j : Nat) : Prop where
  exc : ExcC K D
  lt : j < 6
  len : cs.length = 6
  is : ∀ (i : Nat) (C : Addr), cs[i]? = some C → PySem.W.kitOne K (.ref D) (.ref C) = some (decide (i = j))
  val : PySem.W.kitOne K (.ref D) (.type "ValueError") = some true
section
variable {X : Cx} {a D : Addr} {oe : Obj} {x y : Str} {p p0 p2 pos : Pos} {c : V} {i : Nat}
def tIs (K : PySem.W.Frag) (D a : Addr) (i : Nat) (c : V) : TE := tCB (rIsE K D a) (tCons (tVar i) (tCons (tC c) tNil))
theorem pe_isP (hX : X.K = X.K) (C : ExcC X.K D) (hp : (a, oe) ∈ X.pn) (hz : Zc (.ref D) none oe) (hf : ∃ vs, oe.data = .fields vs) (hm : X.mg "isinstance" = none) (hg : Gl X "isinstance") (hv : PE X (.Name x p0) (tVar i)) (hc : PE X (.Name y p2) (tC c))
    (hs3 : starEach [.Name x p0, .Name y p2] X.env = (false, eval (.Name x p0) X.env) :: starEach [.Name y p2] X.env := by rfl) (hs4 : starEach [.Name y p2] X.env = (false, eval (.Name y p2) X.env) :: starEach [] X.env := by rfl) (hpl : (backTo pos (starEach [.Name y p2] X.env)).any (·.1) = false := by rfl) :
    PE X (.Call (.Name "isinstance" p) [.Name x p0, .Name y p2] [] pos) (tIs X.K D a i c) :=
  pe_callB (call_isP C hp hz hf) hg hm (by decide +kernel) (pa_cons hv (pa_cons hc pa_nil hs4) hs3) (by decide) (by decide) hs3 hpl
end
theorem tIs_of {K : PySem.W.Frag} {D a : Addr} {i : Nat} {c : V} {cv : Value} {b : Bool} {σ : L2.St} {H : Hp} {Q : VK} (hσ : σ[i]? = some (some (.ref a))) (hc : ∀ u, RelV c u → u = cv) (hk : PySem.W.kitOne K (.ref D) cv = some b) (q : Q (.bl b) H) : tIs K D a i c σ H Q :=
  ⟨.ref a, hσ, c, cv, b, rfl, hc, hk, q⟩
theorem tIs_ref {K : PySem.W.Frag} {D a C : Addr} {i : Nat} {b : Bool} {σ : L2.St} {H : Hp} {Q : VK} (hσ : σ[i]? = some (some (.ref a))) (hk : PySem.W.kitOne K (.ref D) (.ref C) = some b) (q : Q (.bl b) H) : tIs K D a i (.ref C) σ H Q := tIs_of hσ (fun u h => h) hk q
/-- the list of the six answers is made, counted; what follows has it in slot 1 -/
def tWord (K : PySem.W.Frag) (D a : Addr) (c0 c1 c2 c3 c4 c5 : Addr) (tR : TS) : TS :=
  tSeq (tAsg (tLst (tCons (tIs K D a 0 (.ref c0)) (tCons (tIs K D a 0 (.ref c1)) (tCons (tIs K D a 0 (.ref c2)) (tCons (tIs K D a 0 (.ref c3)) tNil))))) (gName 1))
    (tSeq (tAsg (tOp (rCatL K) (tVar 1) (tLst (tCons (tIs K D a 0 (.ref c4)) (tCons (tIs K D a 0 (.ref c5)) tNil)))) (gName 1))
      (tSeq (tIfS (tOr (tTest (tOp rNe (tBM K "list" (rCountF K) (tVar 1) (tCons (tC (.bl true)) tNil)) (tC (.int 1)))) (tNot (tB (tIs K D a 0 (.ty "ValueError"))))) (tRet (tC (.int 9))) tNext) tR))
def sixB (j : Nat) : List V := (List.range 6).map fun i => V.bl (decide (i = j))
theorem sixB_cnt : ∀ j, j < 6 → (sixB j).countP (fun z => eqV z (.bl true)) = 1 := by decide
theorem sixB_flat : ∀ j, j < 6 → (sixB j).all flatV = true := by decide
theorem sixB_at (j : Nat) (h : j < 6) : (sixB j)[j]? = some (.bl true) := by
  unfold sixB
  rw [List.getElem?_map, List.getElem?_range h]
  simp
theorem sixB_ne (j m : Nat) (h : m < j) (hj : j < 6) (z : V) (e : (sixB j)[m]? = some z) : eqV z (.bl true) = false := by
  unfold sixB at e
  rw [List.getElem?_map, List.getElem?_range (by omega)] at e
  cases e
  have : ¬ m = j := by omega
  simp [eqV, this]
theorem word_sem {K : PySem.W.Frag} {D a c0 c1 c2 c3 c4 c5 : Addr} {j : Nat} (E : EK K D [c0, c1, c2, c3, c4, c5] j) {tR : TS} {De : Ends} {x1 : Option V} {H G : Hp} (sub : Same G H)
    (q : ∀ (l : Addr) (H' : Hp), Stp H G H' G → H' l = some (.lst (sixB j)) → tR De [some (.ref a), some (.ref l)] H') : tWord K D a c0 c1 c2 c3 c4 c5 tR De [some (.ref a), x1] H := by
  have is := E.is
  refine tIs_ref rfl (is 0 c0 rfl) (tIs_ref rfl (is 1 c1 rfl) (tIs_ref rfl (is 2 c2 rfl) (tIs_ref rfl (is 3 c3 rfl) ?_)))
  refine ⟨by simp [sizeLine_eq], fun l1 n1 => ?_⟩
  have s1 := Stp.newO (o := .lst [.bl (decide (0 = j)), .bl (decide (1 = j)), .bl (decide (2 = j)), .bl (decide (3 = j))]) sub n1
  refine ⟨.ref l1, rfl, ?_⟩
  refine tIs_ref rfl (is 4 c4 rfl) (tIs_ref rfl (is 5 c5 rfl) ?_)
  refine ⟨by simp [sizeLine_eq], fun l2 n2 => ?_⟩
  have s2 := Stp.newO (o := .lst [.bl (decide (4 = j)), .bl (decide (5 = j))]) s1.sub n2
  have h1 : upd (upd H l1 (.lst [.bl (decide (0 = j)), .bl (decide (1 = j)), .bl (decide (2 = j)), .bl (decide (3 = j))])) l2 (.lst [.bl (decide (4 = j)), .bl (decide (5 = j))]) l1 = some (.lst [.bl (decide (0 = j)), .bl (decide (1 = j)), .bl (decide (2 = j)), .bl (decide (3 = j))]) := s2.ex _ _ upd_same
  refine ⟨l1, l2, _, _, rfl, rfl, .of h1, .of upd_same, by simp [sizeLine_eq], fun l3 n3 => ?_⟩
  have s3 := Stp.newO (o := .lst (sixB j)) s2.sub n3
  have st := (s1.trans s2).trans s3
  have e6 : ([.bl (decide (0 = j)), .bl (decide (1 = j)), .bl (decide (2 = j)), .bl (decide (3 = j))] : List V) ++ [.bl (decide (4 = j)), .bl (decide (5 = j))] = sixB j := rfl
  rw [e6]
  refine ⟨.ref l3, rfl, .inl ⟨rfl, sixB j, .of upd_same⟩, ?_⟩
  refine ⟨l3, sixB j, .bl true, rfl, rfl, .of upd_same, rfl, sixB_flat j E.lt, ?_⟩
  rw [sixB_cnt j E.lt]
  refine ⟨rfl, ?_⟩
  refine ⟨false, rfl, ?_⟩
  show (if false = true then _ else _)
  rw [if_neg Bool.false_ne_true]
  refine tIs_of (cv := .type "ValueError") rfl (fun u h => h) E.val ?_
  refine ⟨true, rfl, ?_⟩
  show (if (!true) = true then _ else _)
  exact q l3 _ st upd_same
/-- found.index(True) -/
abbrev tIdx (K : PySem.W.Frag) : TE := tBM K "list" (rIndex K) (tVar 1) (tCons (tC (.bl true)) tNil)
theorem idx_sem {K : PySem.W.Frag} {a l : Addr} {j : Nat} {H : Hp} {Q : VK} (hj : j < 6) (h : H l = some (.lst (sixB j))) (q : Q (.int (j : Nat)) H) : tIdx K [some (.ref a), some (.ref l)] H Q :=
  ⟨.ref l, rfl, .inl ⟨rfl, sixB j, .of h⟩, l, sixB j, .bl true, j, .bl true, rfl, rfl, .of h, rfl, sixB_flat j hj, sixB_at j hj, rfl, fun m z hm e => sixB_ne j m hm hj z e, q⟩
/-! the statements of such a def -/
section
variable {X : Cx} {a D : Addr} {oe : Obj} {e : Expr} {te : TE} {pos : Pos} {i : Nat} {x : Str} {p0 : Pos} {st : Stmt}
theorem ps_setP (hN : X.N.Nodup) (he : PE X e te) (hi : X.N[i]? = some x := by rfl) (hx : Loc X.env.scope x := by first | exact Or.inl rfl | exact Or.inr rfl) (hs : swapsWith e (some (.Name x p0)) pos.line X.env = pure false := by rfl) (hf : X.fn x = true ∨ X.env.scope.names.lookup x = some .local := by first | exact .inl rfl | exact .inr rfl) :
    PS X (.Assign [.Name x p0] e pos) (tAsg te (gName i)) := ps_set hN hi hx he hs hf
theorem pe_cntP {j : Nat} {p1 apos cpos : Pos} (ho : PE X (.Name x p0) (tVar i)) (hbase : attributeBase (.Name x p0) "count" X.env (eval (.Name x p0) X.env) = eval (.Name x p0) X.env := by rfl)
    (hfew : ((backTo cpos (starEach [.Constant (.bool true) j p1] X.env)).all (fun x => !x.1) && (backToKw cpos (keywordEach [] X.env)).all (fun x => x.1.isSome)
      && decide ([Expr.Constant (.bool true) j p1].length + ([] : List Keyword).length + (if ([] : List Keyword).isEmpty then 0 else 1) < 30)) = true := by rfl)
    (hline : (apos.endLine == cpos.line) = true := by rfl) (hst : starEach [.Constant (.bool true) j p1] X.env = (false, eval (.Constant (.bool true) j p1) X.env) :: starEach [] X.env := by rfl) :
    PE X (.Call (.Attribute (.Name x p0) "count" apos) [.Constant (.bool true) j p1] [] cpos) (tBM X.K "list" (rCountF X.K) (tVar i) (tCons (tC (.bl true)) tNil)) :=
  pe_bm PySem.F.plainAttrs_list PySem.F.slot_list_count PySem.F.type_list_count mt_countF ho (pa_cons pe_bl pa_nil hst) hbase hfew hline hst rfl
theorem pe_idxP {j : Nat} {p1 apos cpos : Pos} (ho : PE X (.Name x p0) (tVar i)) (hbase : attributeBase (.Name x p0) "index" X.env (eval (.Name x p0) X.env) = eval (.Name x p0) X.env := by rfl)
    (hfew : ((backTo cpos (starEach [.Constant (.bool true) j p1] X.env)).all (fun x => !x.1) && (backToKw cpos (keywordEach [] X.env)).all (fun x => x.1.isSome)
      && decide ([Expr.Constant (.bool true) j p1].length + ([] : List Keyword).length + (if ([] : List Keyword).isEmpty then 0 else 1) < 30)) = true := by rfl)
    (hline : (apos.endLine == cpos.line) = true := by rfl) (hst : starEach [.Constant (.bool true) j p1] X.env = (false, eval (.Constant (.bool true) j p1) X.env) :: starEach [] X.env := by rfl) :
    PE X (.Call (.Attribute (.Name x p0) "index" apos) [.Constant (.bool true) j p1] [] cpos) (tBM X.K "list" (rIndex X.K) (tVar i) (tCons (tC (.bl true)) tNil)) :=
  pe_bm PySem.F.plainAttrs_list PySem.F.slot_list_index PySem.F.type_list_index mt_index ho (pa_cons pe_bl pa_nil hst) hbase hfew hline hst rfl
end
/-- the promise of the law's own name for an error of class D: it tells d -/
def spW (K : PySem.W.Frag) (M : Pm) (d : D) (a : Addr) : Sp := fun vs H Q _ => ∃ G, vs = [.ref a] ∧ Same G H ∧ ∀ v H' G', Stp H G H' G' → R K M G' v d → Q v H'
theorem word_int {P : Program} {w : World} {K : PySem.W.Frag} {mg : Str → Option Value} {base : Heap} {M : Pm} {x qual : Str} {st : Stmt} {f : Addr} {fd : FuncData} {N : List Str} {k j : Nat} {p : Addr × Obj} {D c0 c1 c2 c3 c4 c5 : Addr} (F : Fun K x qual st f fd) (hN : N.length = 2) {e0 : Str} (S : FnScope N [e0] (defScope st)) (E : EK K D [c0, c1, c2, c3, c4, c5] j)
    (hb : ∀ (cd : Value) (A : Around) (outer : List Env) (s : Shared) (H : Hp), PSs (cxP P w K mg base N qual st f cd A outer s H p) (defBody st) (tWord K D p.1 c0 c1 c2 c3 c4 c5 (tRet (tIdx K)))) : FnW P w K mg base (k + 1) f fd [e0] p (spW K M (.int (j : Nat)) p.1) := by
  refine fnW_of F S (by rintro vs H Q ⟨G, rfl, _⟩; rfl) fun cd A outer s H vs Q hr h => ⟨_, hb cd A outer s H, ?_⟩
  obtain ⟨G, rfl, sub, q⟩ := h
  have es : L2.start N [.ref p.1] = [some (.ref p.1), none] := by
    unfold L2.start
    rw [hN]; rfl
  rw [es]
  exact word_sem E sub fun l H' st hl => idx_sem E.lt hl (q _ H' G st (.int _))
end Py

/-! PyQ3: try .. except E as e -/
namespace Py
open PySem PySem.Spec PyProof.Rows L2
theorem EnvR.setno2 {K : PySem.W.Frag} {M : Pm} {H0 G0 H G : Hp} {γ : Ge} {σ : L2.St} {i : Nat} {x : Option V} (e : EnvR K M H0 G0 γ σ H G) : EnvR K M H0 G0 (γ.set i .no) (σ.set i x) H G := by
  have key : ∀ (j : Nat) (s : Sl) (y : Option V), (γ.set i .no)[j]? = some s → (σ.set i x)[j]? = some y → s = .no ∨ (γ[j]? = some s ∧ σ[j]? = some y) := by
    intro j s y h1 h2
    by_cases hj : i = j
    · subst hj
      rw [List.getElem?_set] at h1
      simp only [if_true] at h1
      split at h1
      · cases h1; exact .inl rfl
      · cases h1
    · rw [List.getElem?_set_ne hj] at h1 h2
      exact .inr ⟨h1, h2⟩
  refine ⟨e.st, by rw [List.length_set, List.length_set]; exact e.len, fun j s y h1 h2 => ?_, fun j k sj sk xj xk o h1 h2 h3 h4 h5 h6 => ?_, e.kp⟩
  · rcases key j s y h1 h2 with rfl | ⟨q1, q2⟩
    · trivial
    · exact e.sl j s y q1 q2
  · rcases key j sj xj h1 h3 with rfl | ⟨q1, q2⟩
    · exact h5.elim
    · rcases key k sk xk h2 h4 with rfl | ⟨q3, q4⟩
      · exact h6.elim
      · exact e.ap j k sj sk xj xk o q1 q3 q2 q4 h5 h6
/-- the law's own name for errors: ω tells what it tells of each -/
structure Wd (P : Program) (w : World) (K : PySem.W.Frag) (mg : Str → Option Value) (base : Heap) (M : Pm) (Cs : Addr) (k : Nat) (wn : Str) (fw : Addr) (fdw : FuncData) (e0 : Str) (ω : Str → Option D) : Prop where
  mgS : mg "SaidError" = some (.ref Cs)
  mgW : mg wn = some (.ref fw)
  kp : PySem.W.keepIn K (.ref fw) = true
  bd : Binds K fdw [e0] []
  ex : ∀ (cn : Str) (d : D), ω cn = some d → ∃ D, M.exc cn = .ref D ∧ PySem.W.exmOne K (.ref D) (.ref Cs) = some true ∧ ∀ p : Addr × Obj, Zc (.ref D) none p.2 → (∃ vs, p.2.data = .fields vs) → FnW P w K mg base k fw fdw [e0] p (spW K M d p.1)
section
variable {K : PySem.W.Frag} {X : Cx} {M : Pm} {E : XK} {k : Nat} {Cs fw Tc : Addr} {fdw : FuncData} {e0 wn n x y g : Str} {ω : Str → Option D} {i xi yi ti : Nat} {body : List Stmt} {f : Fs} {pos pos' np rpos cpos q0 p0 p1 p2 p3 p4 p5 : Pos}
def EofW (n : Nat) (W : WX) : XK := fun cls d H => ∀ σ', σ'.length = n → W cls d σ' H
theorem cxf_tr (C : CxF K X E k) {W : WX} {pn : List (Addr × Obj)} {xe : Value → Shared → Prop} (tk : Takes (X.tr pn xe) W) (own : PassesOwn (model X.prog X.w) X.A X.env xe) : CxF K (X.tr pn xe) (EofW X.N.length W) k :=
  ⟨C.hK, C.calm, C.nd, fun pins σ H s e s' I c => tk e s' (XE.of_call I (fun cls d H' h => h σ I.len) c), own, C.room⟩
/-- return W(e) in the suite -/
def tSu (K : PySem.W.Frag) (M : Pm) (ω : Str → Option D) (i : Nat) (a : Addr) (cls : Value) (d : Option Addr) : TS := fun De σ H => ∃ (cn : Str) (dd : D), cls = M.exc cn ∧ d = none ∧ ω cn = some dd ∧ σ[i]? = some (some (.ref a)) ∧ spW K M dd a [.ref a] H De.rt noX
theorem pss_su (C : CxF K X E k) {jw : Nat} (W : Wd X.prog X.w X.K X.mg X.base M Cs jw wn fw fdw e0 ω) (hjw : jw ≤ k) {a : Addr} {oe : Obj} {cls : Value} {d : Option Addr} {pn : List (Addr × Obj)} (hz : Zc cls d oe) (hf : ∃ vs, oe.data = .fields vs) (hg : Gl X wn) (hv : PE (X.suite a ((a, oe) :: pn)) (.Name n p0) (tVar i)) (hdb : (wn == ("__debug__" : Str)) = false := by decide)
    (he : starEach [.Name n p0] (X.suite a ((a, oe) :: pn)).env = (false, eval (.Name n p0) (X.suite a ((a, oe) :: pn)).env) :: starEach [] (X.suite a ((a, oe) :: pn)).env := by rfl) (hpl : (backTo cpos (starEach [] (X.suite a ((a, oe) :: pn)).env)).any (·.1) = false := by rfl) :
    PSs (X.suite a ((a, oe) :: pn)) [.Return (some (.Call (.Name wn q0) [.Name n p0] [] cpos)) rpos] (tSu K M ω i a cls d) := by
  have hK := C.hK
  subst hK
  refine ⟨fun pins s σ H De I h => ?_⟩
  obtain ⟨cn, dd, rfl, rfl, e1, hσ, sp⟩ := h
  obtain ⟨D, e2, _, F⟩ := W.ex cn dd e1
  rw [e2] at hz
  have hr : L2H.RoomH jw (X.suite a ((a, oe) :: pn)).A := L2H.RoomH.mono (k := k) ⟨C.room.dp, C.room.un⟩ hjw
  refine (pss_one (ps_ret (pe_callW (X := X.suite a ((a, oe) :: pn)) (F (a, oe) hz hf) hr List.mem_cons_self hg W.mgW W.kp W.bd (pa_cons hv pa_nil he) hdb he hpl))).run pins s σ H De I ?_
  exact ⟨.ref a, hσ, sp⟩
def tTryW (K : PySem.W.Frag) (X : Cx) (M : Pm) (k : Nat) (body : List Stmt) (f : Fs) (W : WX) : TS := fun De σ H => ∀ (pn : List (Addr × Obj)) (xe : Value → Shared → Prop), CxF K (X.tr pn xe) (EofW X.N.length W) k → ∃ t, PSs (X.tr pn xe) body t ∧ SO K M (EofW X.N.length W) t f ∧ t De σ H
def sTryW (ω : Str → Option D) (f : Fs) : Fs := fun γ => match f γ with
  | some (.er cn) => (match ω cn with
    | some d => some (.rt d)
    | none => none)
  | some (.nx γ') => some (.nx γ')
  | some (.rt d) => some (.rt d)
  | _ => none
theorem js_tryW (C : CxF K X E k) {jw : Nat} (W : Wd X.prog X.w X.K X.mg X.base M Cs jw wn fw fdw e0 ω) (hjw : jw ≤ k) (hS : Gl X "SaidError") (hW : Gl X wn) (hb : ∀ (pn : List (Addr × Obj)) (xe : Value → Shared → Prop) (E' : XK), CxF K (X.tr pn xe) E' k → ∃ t, JB K (X.tr pn xe) M E' body t f)
    (hv : ∀ (a : Addr) (oe : Obj) (pn : List (Addr × Obj)), PE (X.suite a ((a, oe) :: pn)) (.Name n p0) (tVar i)) (hdb : (wn == ("__debug__" : Str)) = false := by decide)
    (he : ∀ (a : Addr) (oe : Obj) (pn : List (Addr × Obj)), starEach [.Name n p0] (X.suite a ((a, oe) :: pn)).env = (false, eval (.Name n p0) (X.suite a ((a, oe) :: pn)).env) :: starEach [] (X.suite a ((a, oe) :: pn)).env := by intro _ _ _; rfl) (hpl : ∀ (a : Addr) (oe : Obj) (pn : List (Addr × Obj)), (backTo cpos (starEach [] (X.suite a ((a, oe) :: pn)).env)).any (·.1) = false := by intro _ _ _; rfl)
    (hs : X.stack = X.env :: X.outer := by rfl) (hf : X.env.frame = some X.env.locals := by rfl) (hi : X.N[i]? = some n := by rfl) (hl : X.env.kindOf n = some .local := by rfl) :
    JS K X M E (.Try body [.ExceptHandler (some (.Name "SaidError" np)) (some n) [.Return (some (.Call (.Name wn q0) [.Name n p0] [] cpos)) rpos] pos'] [] [] pos) (fun De σ H => tTryW K X M k body f (wAs K (.ref Cs) i (tSu K M ω i) (fun _ _ _ _ => False) De) De σ H) (sTryW ω f) := by
  have hK := C.hK
  subst hK
  refine ⟨ps_try_as (tb := tTryW X.K X M k body f) (ts := tSu X.K M ω i) hs hf C.nd hi hl ⟨hS, by decide, .inl W.mgS⟩ takes0 (fun W' pn xe tk own => ⟨fun pins s σ H De I h => ?_⟩) fun a oe cls d pn hz hd => pss_su C W hjw hz hd hW (hv a oe pn) hdb (he a oe pn) (hpl a oe pn), fun H0 G0 γ σ H G De o ev hfx p => ?_⟩
  · obtain ⟨t, h1, _, h2⟩ := h pn xe (cxf_tr C tk own)
    exact h1.run pins s σ H De I h2
  · intro pn xe C'
    obtain ⟨t, J⟩ := hb pn xe _ C'
    refine ⟨t, J.ps, J.so, ?_⟩
    have hil : ∀ σ' : L2.St, σ'.length = X.N.length → i < σ'.length := fun σ' e => by rw [e]; exact (List.getElem?_eq_some_iff.mp hi).1
    unfold sTryW at hfx
    split at hfx
    · rename_i cn e1
      split at hfx
      · rename_i d e2
        cases hfx
        refine J.so H0 G0 γ σ H G De _ ev e1 fun H' G' st σ' hl' => ?_
        obtain ⟨D, e3, e4, _⟩ := W.ex cn d e2
        refine ⟨true, by rw [e3]; exact e4, fun _ a ha => ⟨cn, d, rfl, rfl, e2, List.getElem?_set_self (hil σ' hl'), G', rfl, st.sub, fun v H2 G2 s2 r => p v H2 G2 (st.trans s2) r⟩, fun z => by cases z⟩
      · cases hfx
    · rename_i γ' e1
      cases hfx
      exact J.so H0 G0 γ σ H G De _ ev e1 p
    · rename_i d e1
      cases hfx
      exact J.so H0 G0 γ σ H G De _ ev e1 p
    · cases hfx
/-! try: x = g(t) == t  except E as e: y = W(e) -/
def tSy (K : PySem.W.Frag) (M : Pm) (ω : Str → Option D) (i yi : Nat) (a : Addr) (cls : Value) (d : Option Addr) : TS := fun De σ H => ∃ (cn : Str) (dd : D), cls = M.exc cn ∧ d = none ∧ ω cn = some dd ∧ σ[i]? = some (some (.ref a)) ∧ spW K M dd a [.ref a] H (fun v H' => De.nx (σ.set yi (some v)) H') noX
theorem pss_sy (C : CxF K X E k) {jw : Nat} (W : Wd X.prog X.w X.K X.mg X.base M Cs jw wn fw fdw e0 ω) (hjw : jw ≤ k) {a : Addr} {oe : Obj} {cls : Value} {d : Option Addr} {pn : List (Addr × Obj)} (hz : Zc cls d oe) (hf : ∃ vs, oe.data = .fields vs) (hg : Gl X wn) (hv : PE (X.suite a ((a, oe) :: pn)) (.Name n p0) (tVar i)) (hdb : (wn == ("__debug__" : Str)) = false := by decide)
    (he : starEach [.Name n p0] (X.suite a ((a, oe) :: pn)).env = (false, eval (.Name n p0) (X.suite a ((a, oe) :: pn)).env) :: starEach [] (X.suite a ((a, oe) :: pn)).env := by rfl) (hpl : (backTo cpos (starEach [] (X.suite a ((a, oe) :: pn)).env)).any (·.1) = false := by rfl)
    (hi : X.N[yi]? = some y) (hx : Loc X.env.scope y) (hs : swapsWith (.Call (.Name wn q0) [.Name n p0] [] cpos) (some (.Name y p1)) rpos.line X.env = pure false) (hfn : X.fn y = true ∨ X.env.scope.names.lookup y = some .local) :
    PSs (X.suite a ((a, oe) :: pn)) [.Assign [.Name y p1] (.Call (.Name wn q0) [.Name n p0] [] cpos) rpos] (tSy K M ω i yi a cls d) := by
  have hK := C.hK
  subst hK
  refine ⟨fun pins s σ H De I h => ?_⟩
  obtain ⟨cn, dd, rfl, rfl, e1, hσ, sp⟩ := h
  obtain ⟨D, e2, _, F⟩ := W.ex cn dd e1
  rw [e2] at hz
  have hr : L2H.RoomH jw (X.suite a ((a, oe) :: pn)).A := L2H.RoomH.mono (k := k) ⟨C.room.dp, C.room.un⟩ hjw
  refine (pss_one (ps_set (X := X.suite a ((a, oe) :: pn)) C.nd hi hx (pe_callW (X := X.suite a ((a, oe) :: pn)) (F (a, oe) hz hf) hr List.mem_cons_self hg W.mgW W.kp W.bd (pa_cons hv pa_nil he) hdb he hpl) hs hfn)).run pins s σ H De I ?_
  exact ⟨.ref a, hσ, sp⟩
def tTryA (K : PySem.W.Frag) (M : Pm) (φ : List D → Option Rs) (ti xi : Nat) (W : WX) : TS := tAsg (tOp (rEqAll K) (tCallS (spF K M φ) (WE W) (tCons (tVar ti) tNil)) (tVar ti)) (gName xi)
def sTryA (φ : List D → Option Rs) (ω : Str → Option D) (i ti xi yi : Nat) : Fs := fun γ => match γ[ti]? with
  | some (.va d) => (match φ [d] with
    | some (.ok d') => (match oEq d' d with
      | some r => some (.nx (γ.set xi (.va r)))
      | none => none)
    | some (.er cn) => (match ω cn with
      | some w => if i < γ.length then some (.nx (((γ.set i .no).set yi (.va w)).set i .no)) else none
      | none => none)
    | none => none)
  | _ => none
theorem js_tryA {φ : List D → Option Rs} {j : Nat} {fg : Addr} {fdg : FuncData} {ps : List Str} (C : CxF K X E k) {jw : Nat} (W : Wd X.prog X.w X.K X.mg X.base M Cs jw wn fw fdw e0 ω) (hjw : jw ≤ k) (hS : Gl X "SaidError") (hW : Gl X wn)
    (F : FnOk X.prog X.w X.K X.mg X.base (L2.CX X.prog X.w) j fg fdg ps (spF K M φ)) (hj : j ≤ k) (hbd : Binds X.K fdg ps []) (hm : X.mg g = some (.ref fg)) (hkp : PySem.W.keepIn X.K (.ref fg) = true) (hg : Gl X g)
    (ht : ∀ (pn : List (Addr × Obj)) (xe : Value → Shared → Prop), PE (X.tr pn xe) (.Name x p2) (tVar ti)) (ht2 : ∀ (pn : List (Addr × Obj)) (xe : Value → Shared → Prop), PE (X.tr pn xe) (.Name x p3) (tVar ti))
    (hv : ∀ (a : Addr) (oe : Obj) (pn : List (Addr × Obj)), PE (X.suite a ((a, oe) :: pn)) (.Name n p0) (tVar i)) {z : Str} {z0 z1 z2 z3 : Pos} (hdb : (wn == ("__debug__" : Str)) = false := by decide) (hdb2 : (g == ("__debug__" : Str)) = false := by decide)
    (he : ∀ (a : Addr) (oe : Obj) (pn : List (Addr × Obj)), starEach [.Name n p0] (X.suite a ((a, oe) :: pn)).env = (false, eval (.Name n p0) (X.suite a ((a, oe) :: pn)).env) :: starEach [] (X.suite a ((a, oe) :: pn)).env := by intro _ _ _; rfl) (hpl : ∀ (a : Addr) (oe : Obj) (pn : List (Addr × Obj)), (backTo cpos (starEach [] (X.suite a ((a, oe) :: pn)).env)).any (·.1) = false := by intro _ _ _; rfl)
    (heg : starEach [.Name x p2] X.env = (false, eval (.Name x p2) X.env) :: starEach [] X.env := by rfl) (hplg : (backTo z1 (starEach [] X.env)).any (·.1) = false := by rfl)
    (hs : X.stack = X.env :: X.outer := by rfl) (hf : X.env.frame = some X.env.locals := by rfl) (hi : X.N[i]? = some n := by rfl) (hl : X.env.kindOf n = some .local := by rfl)
    (hyi : X.N[yi]? = some y := by rfl) (hy : Loc X.env.scope y := by first | exact Or.inl rfl | exact Or.inr rfl) (hsw : swapsWith (.Call (.Name wn q0) [.Name n p0] [] cpos) (some (.Name y p1)) rpos.line X.env = pure false := by rfl) (hyf : X.fn y = true ∨ X.env.scope.names.lookup y = some .local := by first | exact .inl rfl | exact .inr rfl)
    (hxi : X.N[xi]? = some z := by rfl) (hxx : Loc X.env.scope z := by first | exact Or.inl rfl | exact Or.inr rfl) (hsx : swapsWith (.Compare (.Call (.Name g z0) [.Name x p2] [] z1) [.Eq] [.Name x p3] z2) (some (.Name z z3)) p4.line X.env = pure false := by rfl) (hxf : X.fn z = true ∨ X.env.scope.names.lookup z = some .local := by first | exact .inl rfl | exact .inr rfl) :
    JS K X M E (.Try [.Assign [.Name z z3] (.Compare (.Call (.Name g z0) [.Name x p2] [] z1) [.Eq] [.Name x p3] z2) p4] [.ExceptHandler (some (.Name "SaidError" np)) (some n) [.Assign [.Name y p1] (.Call (.Name wn q0) [.Name n p0] [] cpos) rpos] pos'] [] [] pos)
      (fun De σ H => tTryA K M φ ti xi (wAs K (.ref Cs) i (tSy K M ω i yi) (fun _ _ _ _ => False) De) De σ H) (sTryA φ ω i ti xi yi) := by
  have hK := C.hK
  subst hK
  refine ⟨ps_try_as (tb := tTryA X.K M φ ti xi) (ts := tSy X.K M ω i yi) hs hf C.nd hi hl ⟨hS, by decide, .inl W.mgS⟩ takes0 (fun W' pn xe tk own => pss_one (ps_set (X := X.tr pn xe) C.nd hxi hxx (pe_cmpR (OpR.or op_eq (op_eqD C.room.units)) (pe_callS (X := X.tr pn xe) F (C.room.mono hj) hg hm hkp hbd (fun σ => passAt tk σ) (pa_cons (ht pn xe) pa_nil heg) hdb2 heg hplg) (ht2 pn xe) (nomark _)) hsx hxf)) fun a oe cls d pn hz hd => pss_sy C W hjw hz hd hW (hv a oe pn) hdb (he a oe pn) (hpl a oe pn) hyi hy hsw hyf, fun H0 G0 γ σ H G De o ev hfx p => ?_⟩
  unfold sTryA at hfx
  split at hfx
  case h_2 => cases hfx
  rename_i d e0
  obtain ⟨v, h1, r1⟩ := ev.va e0
  refine ⟨v, h1, ?_⟩
  split at hfx
  · rename_i d' e1
    split at hfx
    · rename_i r e2
      cases hfx
      refine ⟨G, [d], _, ev.sub, .cons r1 .nil, e1, fun v1 H1 G1 s1 rv => ?_, ev.kp.trans ev.st.ex⟩
      refine ⟨v, h1, ?_⟩
      refine ops_eq (M := M) H1 G1 v1 v d' d r _ s1.sub (rv.ro s1.sub) ((r1.mono s1.eg).ro s1.sub) e2 fun v2 H2 G2 s2 r2 => ?_
      exact p (σ.set xi (some v2)) H2 G2 ((ev.stp (s1.trans s2)).setv r2)
    · cases hfx
  · rename_i cn e1
    split at hfx
    · rename_i w e2
      split at hfx
      · rename_i hil
        cases hfx
        refine ⟨G, [d], _, ev.sub, .cons r1 .nil, e1, fun H1 G1 s1 => ?_, ev.kp.trans ev.st.ex⟩
        obtain ⟨D, e3, e4, _⟩ := W.ex cn w e2
        refine ⟨true, by rw [e3]; exact e4, fun _ a ha => ⟨cn, w, rfl, rfl, e2, List.getElem?_set_self (by rw [ev.len]; exact hil), G1, rfl, s1.sub, fun v2 H2 G2 s2 r2 => ?_⟩, fun z => by cases z⟩
        exact p _ H2 G2 ((((ev.stp (s1.trans s2)).setno2 (i := i) (x := some (.ref a))).setv r2).setno2 (i := i) (x := none))
      · cases hfx
    · cases hfx
  · cases hfx
end
end Py

/-! PyQ4: a teller that may be refused; raise of the program's own errors; {}; what the classes say -/
namespace Py
open PySem PySem.Spec PyProof.Rows L2
/-! ### the making of a teller, a refusal or not -/
def initTE (φN : List D → Option Rs) (psi_ : D → Option D) (φB : List D → Option Rs) (d : D) : Option Rs := match φN [d] with
  | some (.ok d1) => (match psi_ d1 with
    | some pD => (match φB [pD] with
      | some (.ok _) => some (.ok .none)
      | _ => none)
    | none => none)
  | some (.er c) => some (.er c)
  | none => none
def PostTE (K : PySem.W.Frag) (M : Pm) (x : Addr) (H G : Hp) (Q : VK) (E : XK) : Rs → Prop
  | .ok _ => ∀ H' G', StpN x H G H' G' → Q .non H'
  | .er c => ∀ H' G', StpN x H G H' G' → E (M.exc c) none H'
def spTE (K : PySem.W.Frag) (M : Pm) (Tc : Addr) (φ : D → Option Rs) : Sp := fun vs H Q E => ∃ (G : Hp) (x dx : Addr) (v : V) (d : D) (r : Rs), vs = [.ref x, v] ∧ Same G H ∧ G x = none ∧ H x = some (.ins Tc dx []) ∧ R K M G v d ∧ φ d = some r ∧ PostTE K M x H G Q E r ∧ Same M.kp H ∧ M.kp x = none
theorem tinitE_ok {P : Program} {w : World} {K : PySem.W.Frag} {mg : Str → Option Value} {base : Heap} {M : Pm} {st : Stmt} {f : Addr} {fd : FuncData} {N : List Str} {k : Nat} {Tc : Addr} {φN φB : List D → Option Rs} {psi_ : D → Option D} (F : Fun K "__init__" "Teller.__init__" st f fd) (S : FnScope N ["self", "statement"] (defScope st)) (hN : N.length = 2) (ct : CT K mg M Tc)
    (hb : ∀ (cdv : Value) (A : Around) (outer : List Env) (s : Shared) (H : Hp) (E : XK), CxF K (cxOf (L2.CX P w) P w K mg base N "Teller.__init__" (defScope st) f cdv A outer s H E) E k → Takes (cxOf (L2.CX P w) P w K mg base N "Teller.__init__" (defScope st) f cdv A outer s H E) (fun cls d _ H => E cls d H) →
      ∃ tP tR tO, JTI K (cxOf (L2.CX P w) P w K mg base N "Teller.__init__" (defScope st) f cdv A outer s H E) M E (defBody st) tP tR tO (fMake psi_ (fCons (fCall φN (fCons (fVar 1) fNil)) fNil)) φB) :
    FnOk P w K mg base (L2.CX P w) (k + 1) f fd ["self", "statement"] (spTE K M Tc (initTE φN psi_ φB)) := by
  have len : ∀ vs H Q E, spTE K M Tc (initTE φN psi_ φB) vs H Q E → vs.length = (["self", "statement"] : List Str).length := by
    rintro vs H Q E ⟨G, x, dx, v, d, r, rfl, _⟩
    rfl
  refine F.okX S len fun cdv A outer s H vs Q E hr h => ?_
  obtain ⟨C, tk⟩ := cxf_of (P := P) (w := w) (K := K) (mg := mg) (base := base) (qual := "Teller.__init__") (s := s) (H := H) (E := E) (outer := outer) S hr
  obtain ⟨tP, tR, tO, J⟩ := hb cdv A outer s H E C tk
  refine ⟨_, J.ps, ?_⟩
  obtain ⟨G, x, dx, v, d, r, rfl, e, gx, hx, rv, hi, p, kh, kx⟩ := h
  obtain ⟨n0, n1, rfl⟩ : ∃ a b, N = [a, b] := by
    match N, hN with
    | [a, b], _ => exact ⟨a, b, rfl⟩
  have noow2 : noow [.no, .va d] := fun j ds h => by
    have m := List.mem_of_getElem? h
    simp at m
  have I0 : IG K M Tc x dx H G [.no, .va d] [] (L2.start [n0, n1] [.ref x, v]) H G := by
    refine ⟨⟨Stp.refl e, rfl, fun j sl y h1 h2 => ?_, fun j k sj sk xj xk q h1 h2 h3 h4 h5 h6 => ?_, kh⟩, noow2, rfl, hx, gx, ⟨fun _ _ _ q => q, Same.refl _, e, fun _ _ _ _ n => n⟩, kh, kx⟩
    · match j, h1, h2 with
      | 0, h1, h2 => cases h1; trivial
      | 1, h1, h2 => cases h1; cases h2; exact ⟨v, rfl, rv⟩
      | j + 2, h1, _ => simp at h1
    · cases sj with
      | ow ds => exact absurd h1 (noow2 j ds)
      | _ => exact h5.elim
  have na : ∀ f ∈ tlNs, NoAttr K Tc f := ct.na
  unfold initTE at hi
  split at hi
  · rename_i d1 eN
    split at hi
    case h_2 => cases hi
    rename_i pD' eP
    split at hi
    case h_2 => cases hi
    rename_i sD' eB
    cases hi
    have fP : (fMake psi_ (fCons (fCall φN (fCons (fVar 1) fNil)) fNil)) [.no, .va d] = some (.ok pD') := by
      have e1 : fCall φN (fCons (fVar 1) fNil) [.no, .va d] = some (.ok d1) := eN
      have e2 : fCons (fCall φN (fCons (fVar 1) fNil)) fNil [.no, .va d] = some (.ok [d1]) := by
        show bL (fCall φN (fCons (fVar 1) fNil) [.no, .va d]) _ = _
        rw [e1]
        rfl
      unfold fMake
      rw [e2]
      show oR (psi_ d1) = _
      rw [eP]
      rfl
    refine ig_cl ct.cl (na "plan" (by simp)) (by decide) I0 J.p fP fun vP H1 G1 g1 rP I1 => ?_
    have l1 := putF_len "plan" vP []
    simp only [List.length_nil] at l1
    refine ⟨.ref x, I1.sx, x, Tc, dx, _, vP, rfl, I1.hx, ct.cl, na "plan" (by simp), rfl, ?_⟩
    refine ⟨G1, [pD'], .ok sD', I1.ev.sub, .cons rP .nil, eB, fun vS H2 G2 s2 rS => ?_, I1.ev.kp⟩
    refine ⟨.ref x, I1.sx, x, Tc, dx, _, rfl, s2.ex _ _ I1.hx, ct.cl, na "state" (by simp), by omega, ?_⟩
    obtain ⟨I2, S2⟩ := ig_step (nm := "state") (y := vS) I1 s2
    have l2 := putF_len "state" vS (putF "plan" vP [])
    refine ig_fr ct.cl (na "run" (by simp)) (by omega) I2 J.r (dl := []) rfl fun l ws H3 G3 g3 lx hsl hl gl ra I3 => ?_
    have l3 := putF_len "run" (.ref l) (putF "state" vS (putF "plan" vP []))
    refine ig_cl ct.cl (na "word" (by simp)) (by omega) I3 J.o rfl fun vO H4 G4 g4 rO I4 => ?_
    exact p H4 G4 I4.fr
  · rename_i c eN
    cases hi
    have fP : (fMake psi_ (fCons (fCall φN (fCons (fVar 1) fNil)) fNil)) [.no, .va d] = some (.er c) := by
      have e1 : fCall φN (fCons (fVar 1) fNil) [.no, .va d] = some (.er c) := eN
      have e2 : fCons (fCall φN (fCons (fVar 1) fNil)) fNil [.no, .va d] = some (.er c) := by
        show bL (fCall φN (fCons (fVar 1) fNil) [.no, .va d]) _ = _
        rw [e1]
        rfl
      unfold fMake
      rw [e2]
    exact J.p H G _ _ H G _ _ I0.ev fP fun H' G' s' => p H' G' (StpN.of s')
  · cases hi
section
variable {K : PySem.W.Frag} {X : Cx} {M : Pm} {E : XK} {k : Nat} {a : Expr} {ta : TE} {fa : Fe} {pos : Pos} {Cc : Addr}
/-- T(e), as a statement -/
def sTel (φ : D → Option Rs) (fa : Fe) : Fs := fun γ => match fa γ with
  | some (.ok d) => (match φ d with
    | some (.ok _) => some (.nx γ)
    | some (.er c) => some (.er c)
    | none => none)
  | some (.er c) => some (.er c)
  | none => none
theorem js_mkE {φ : D → Option Rs} {j : Nat} {f : Addr} {fd : FuncData} {ps : List Str} {x : Str} {p cpos : Pos} (C : CxF K X E k) (hm : X.mg x = some (.ref Cc)) (mk : Mk X.K Cc f)
    (F : FnOk X.prog X.w X.K X.mg X.base (L2.CX X.prog X.w) j f fd ps (spTE K M Cc φ)) (hj : j + 1 ≤ k) (hb : Binds X.K fd ps []) (hg : Gl X x) (ha : JE K X M E .cl a ta fa)
    (hdb : (x == ("__debug__" : Str)) = false := by decide) (he : starEach [a] X.env = (false, eval a X.env) :: starEach [] X.env := by rfl) (hpl : (backTo cpos (starEach [] X.env)).any (·.1) = false := by rfl) (hs : swapsWith (.Call (.Name x p) [a] [] cpos) none pos.line X.env = pure false := by rfl) :
    JS K X M E (.Expr (.Call (.Name x p) [a] [] cpos) pos) (tDrop (tMake Cc (spTE K M Cc φ) [] E (tCons ta tNil))) (sTel φ fa) := by
  have hK := C.hK
  subst hK
  refine ⟨ps_expr (pe_make mk F (C.room.mono hj) hg hm hb .nil C.pas (pa_cons ha.pe pa_nil he) hdb he hpl) hs, fun H0 G0 γ σ H G De o ev hf p => ?_⟩
  unfold sTel at hf
  split at hf
  · rename_i d e1
    refine ha.eo H0 G0 γ σ H G _ _ ev e1 fun v H1 G1 s1 r1 => ?_
    intro y dx hy hdx hne
    have gy : G1 y = none := s1.sub.free hy
    have gdx : G1 dx = none := s1.sub.free hdx
    have conv : ∀ H' G', StpN y (upd (upd H1 dx (.own y)) y (.ins Cc dx [])) G1 H' G' → Stp H G H' G' := fun H' G' st => s1.trans ⟨fun q u z => st.ex q u (ne_of_none z hy) (by rw [upd_ne (ne_of_none z hy), upd_ne (ne_of_none z hdx)]; exact z), st.eg, st.sub, fun q u z n => st.nw q u (ne_of_none z hy) (by rw [upd_ne (ne_of_none z hy), upd_ne (ne_of_none z hdx)]; exact z) n⟩
    split at hf
    · rename_i d' e2
      cases hf
      refine ⟨G1, y, dx, v, d, _, rfl, fun q u z => ?_, gy, upd_same, r1, e2, fun H' G' st => ⟨rfl, ?_⟩, fun q u e => ?_, ?_⟩
      · rw [upd_ne (ne_of_none z gy), upd_ne (ne_of_none z gdx)]; exact s1.sub q u z
      · exact p σ H' G' (ev.stp (conv H' G' st))
      · have z := (ev.stp s1).st.ex q u (ev.kp q u e)
        rw [upd_ne (ne_of_none z hy), upd_ne (ne_of_none z hdx)]
        exact z
      · cases e : M.kp y with
        | none => rfl
        | some u => have z := (ev.stp s1).st.ex y u (ev.kp y u e); rw [hy] at z; cases z
    · rename_i c e2
      cases hf
      refine ⟨G1, y, dx, v, d, _, rfl, fun q u z => ?_, gy, upd_same, r1, e2, fun H' G' st => ?_, fun q u e => ?_, ?_⟩
      · rw [upd_ne (ne_of_none z gy), upd_ne (ne_of_none z gdx)]; exact s1.sub q u z
      · exact p H' G' (ev.st.trans (conv H' G' st))
      · have z := (ev.stp s1).st.ex q u (ev.kp q u e)
        rw [upd_ne (ne_of_none z hy), upd_ne (ne_of_none z hdx)]
        exact z
      · cases e : M.kp y with
        | none => rfl
        | some u => have z := (ev.stp s1).st.ex y u (ev.kp y u e); rw [hy] at z; cases z
    · cases hf
  · rename_i c e1
    cases hf
    exact ha.eo H0 G0 γ σ H G _ _ ev e1 fun H' G' s => p H' G' (ev.st.trans s)
  · cases hf
/-! ### raise -/
abbrev veB : List Value := [.type "ValueError", .type "Exception", .type "BaseException", .type "object"]
structure Er (K : PySem.W.Frag) (mg : Str → Option Value) (M : Pm) (cn : Str) (D : Addr) : Prop where
  ex : M.exc cn = .ref D
  g : mg cn = some (.ref D)
  x : PySem.W.excIn K D veB "ValueError.__new__" = true
  k : PySem.W.keepIn K (.ref D) = true
  b : PySem.W.subIn K (.ref D) (.type "BaseException") = some true
  t : PySem.W.typeIn K (.ref D) = some (.type "type")
theorem js_raiseE {cn m : Str} {D : Addr} {j : Nat} {p p2 p3 : Pos} (C : CxF K X E k) (tk : Takes X (fun cls d _ H => E cls d H)) (e : Er K X.mg M cn D) (hg : Gl X cn) (hdb : (cn == ("__debug__" : Str)) = false := by decide) : JS K X M E (.Raise (some (.Call (.Name cn p) [.Constant (.str m) j p2] [] p3)) none pos) (fun _ _ H => E (.ref D) none H) (sRaise cn) := by
  have hK := C.hK
  subst hK
  exact js_raise (x := cn) C tk (pmk_own PySem.F.excBase_ValueError e.x e.g e.k (raises_own e.b e.t) hg hdb) fun σ H Q h => by rw [e.ex] at h; exact h
/-! ### {} -/
theorem je_edict : JE K X M E .cl (.Dict [] [] pos) tDNewK (fCon (.dict [])) := ⟨pe_dnewK, fun H0 G0 γ σ H G Q r ev hf p => by
  cases hf
  intro d hd
  have s := Stp.new (o := .dK []) ev.sub hd
  exact p _ _ _ s (.edict upd_same)⟩
end
/-! ### what the classes say -/
theorem kit_ne {K : PySem.W.Frag} {D C : Addr} (hs : PySem.W.subIn K (.ref D) (.ref D) = some true) (h : PySem.W.subIn K (.ref D) (.ref C) = some false) (ht : PySem.W.typeIn K (.ref C) = some (.type "type")) (hd : PySem.W.hasDictIn K C = true) : PySem.W.kitOne K (.ref D) (.ref C) = some false := by
  have ne : D ≠ C := fun e => by subst e; rw [hs] at h; cases h
  have e1 : ((Value.ref D) == (Value.ref C)) = false := beq_eq_false_iff_ne.mpr fun z => ne (by cases z; rfl)
  obtain ⟨cd, hc, _⟩ := PySem.W.any_some hd
  unfold PySem.W.kitOne
  rw [e1, if_neg Bool.false_ne_true]
  show (if ((PySem.W.clsIn K C).isSome && PySem.W.typeIn K (.ref C) == some (.type "type")) = true then PySem.W.subIn K (.ref D) (.ref C) else none) = _
  rw [hc, ht, h]
  rfl
theorem kit_eq {K : PySem.W.Frag} {D : Addr} : PySem.W.kitOne K (.ref D) (.ref D) = some true := by
  unfold PySem.W.kitOne
  rw [beq_self_eq_true]
  rfl
theorem kit_val {K : PySem.W.Frag} {D : Addr} (h : PySem.W.subIn K (.ref D) (.type "ValueError") = some true) : PySem.W.kitOne K (.ref D) (.type "ValueError") = some true := by
  unfold PySem.W.kitOne
  rw [show ((Value.ref D) == (Value.type "ValueError")) = false from rfl, if_neg Bool.false_ne_true]
  show (if PySem.W.kitMeta "ValueError" = true then PySem.W.subIn K (.ref D) (.type "ValueError") else none) = _
  rw [if_pos (by decide +kernel), h]
/-- what is asked of any class of errors that is asked for -/
structure Ec (K : PySem.W.Frag) (C : Addr) : Prop where
  t : PySem.W.typeIn K (.ref C) = some (.type "type")
  d : PySem.W.hasDictIn K C = true
theorem ek_of {K : PySem.W.Frag} {D : Addr} {cs : List Addr} {j : Nat} (hc : cs.length = 6) (hj : cs[j]? = some D) (he : ∀ C ∈ cs, Ec K C) (hs : PySem.W.subIn K (.ref D) (.ref D) = some true) (hn : ∀ (i : Nat) (C : Addr), cs[i]? = some C → i ≠ j → PySem.W.subIn K (.ref D) (.ref C) = some false)
    (hv : PySem.W.subIn K (.ref D) (.type "ValueError") = some true) (hx : ExcC K D) : EK K D cs j := by
  refine ⟨hx, by rw [← hc]; exact (List.getElem?_eq_some_iff.mp hj).1, hc, fun i C hi => ?_, kit_val hv⟩
  by_cases e : i = j
  · subst e
    rw [hj] at hi
    cases hi
    rw [kit_eq]; simp
  · have m := he C (List.mem_of_getElem? hi)
    rw [kit_ne hs (hn i C hi e) m.t m.d, decide_eq_false e]
def MP3 (C T : Addr) (exc : Str → Value) : Pm := { ci := fun c => if c = "Plan" then some (C, plNs) else if c = "Teller" then some (T, tlNs) else none, exc := exc }
/-- what a law is asked, and a plain def of its name -/
def spLw2 (K : PySem.W.Frag) : Sp := fun vs H Q _ => ∃ (a : Addr) (ns : List Int), vs = [.ref a] ∧ SqL K H a (ns.map V.int) ∧ ns.length ≤ 63 ∧ ∀ H', Q (.bl true) H'
theorem law_imp {P : Program} {w : World} {K : PySem.W.Frag} {mg : Str → Option Value} {base : Heap} {M : Pm} {CX : CXT} {k : Nat} {f : Addr} {fd : FuncData} {ps : List Str} {φ : List D → Option Rs} (kp : M.kp = fun _ => none) (F : FnOk P w K mg base CX k f fd ps (spF K M φ)) (h : ∀ ns : List Int, ns.length ≤ 63 → φ [.list (ns.map .int)] = some (.ok (.bool true))) : FnOk P w K mg base CX k f fd ps (spLw2 K) :=
  F.imp fun vs H Q E z => by
    obtain ⟨a, ns, rfl, hs, hl, q⟩ := z
    refine ⟨H, [.list (ns.map .int)], _, Same.refl H, .cons (.lst hs (RA.of_ints ns)) .nil, h ns hl, fun v H' G' s r => ?_, fun p u e => by rw [kp] at e; cases e⟩
    cases (show R K M G' v (.bool true) from r)
    exact q H'
/-! ### max of a list of whole numbers -/
def intsOf2 : List D → Option (List Int)
  | [] => some []
  | .int i :: r => (match intsOf2 r with
    | some l => some (i :: l)
    | none => none)
  | _ => none
theorem intsOf2_eq : ∀ {ds : List D} {ns : List Int}, intsOf2 ds = some ns → ds = ns.map PyData.int
  | [], _, h => by cases h; rfl
  | d :: r, _, h => by
    unfold intsOf2 at h
    split at h
    · rename_i e; cases e
    · rename_i e
      cases e
      split at h
      · rename_i l e2
        cases h
        rw [intsOf2_eq e2]; rfl
      · cases h
    · cases h
theorem intsOf2_map : ∀ ns : List Int, intsOf2 (ns.map PyData.int) = some ns
  | [] => rfl
  | i :: r => by simp only [List.map_cons, intsOf2, intsOf2_map r]
def maxI : List Int → Int
  | [] => 0
  | [x] => x
  | x :: r => max x (maxI r)
theorem maxI_spec : ∀ {ns : List Int}, ns ≠ [] → maxI ns ∈ ns ∧ ∀ y ∈ ns, y ≤ maxI ns
  | [], h => absurd rfl h
  | [x], _ => ⟨by simp [maxI], fun y hy => by simp at hy; subst hy; exact Int.le_refl _⟩
  | x :: z :: r, _ => by
    obtain ⟨h1, h2⟩ := maxI_spec (ns := z :: r) (by simp)
    have e : maxI (x :: z :: r) = max x (maxI (z :: r)) := rfl
    rw [e]
    refine ⟨?_, fun y hy => ?_⟩
    · rcases Int.le_total x (maxI (z :: r)) with q | q
      · rw [Int.max_eq_right q]; exact List.mem_cons_of_mem _ h1
      · rw [Int.max_eq_left q]; exact List.mem_cons_self
    · rcases List.mem_cons.mp hy with rfl | hy
      · exact Int.le_max_left _ _
      · exact Int.le_trans (h2 y hy) (Int.le_max_right _ _)
def oMaxL : List D → Option D
  | [.list ds] => (match intsOf2 ds with
    | some ns => if ns ≠ [] then some (.int (maxI ns)) else none
    | none => none)
  | _ => none
theorem cs_maxL {K : PySem.W.Frag} {M : Pm} : CallS K M .cl (rMax K) oMaxL := by
  intro H G vs ds dz Q e r ho q
  unfold oMaxL at ho
  split at ho
  · rename_i ds
    split at ho
    · rename_i ns e1
      split at ho
      · rename_i hne
        cases ho
        cases r with
        | cons r t =>
          cases t
          obtain ⟨l, us, e2, h, ra⟩ := r
          subst e2
          rw [intsOf2_eq e1] at ra
          rw [RA.ints ra] at h
          obtain ⟨h1, h2⟩ := maxI_spec hne
          refine ⟨l, ns, rfl, h, List.length_pos_iff.mpr hne, fun m hm hle => ?_⟩
          have : m = maxI ns := Int.le_antisymm (h2 m hm) (hle _ h1)
          rw [this]
          exact q _ H G (Stp.refl e) (R.int _)
      · cases ho
    · cases ho
  · cases ho
theorem je_maxL {K : PySem.W.Frag} {X : Cx} {M : Pm} {E : XK} {k : Nat} {a : Expr} {ta : TE} {fa : Fe} {p pos : Pos} (C : CxF K X E k) (hm : X.mg "max" = none) (hg : Gl X "max") (ha : JE K X M E .op a ta fa) (hs : starEach [a] X.env = (false, eval a X.env) :: starEach [] X.env := by rfl) : JE K X M E .cl (.Call (.Name "max" p) [a] [] pos) (tCB (rMax K) (tCons ta tNil)) (fB oMaxL (fCons fa fNil)) := by
  have hK := C.hK
  subst hK
  exact je_callB (cr_max C.calm) cs_maxL hm (by decide +kernel) hg (ja_cons ha ja_nil hs) (by decide) (by decide) hs rfl
end Py

/-! PyR: texts: find, str of a number, int of a text, a text so many times; max of two; in a tuple of lists; xs[i] = e; zip of tuples; chains as tests -/
namespace Py
open PySem PySem.Spec PyProof.Rows L2
section
variable {K : PySem.W.Frag} {X : Cx} {M : Pm} {E : XK} {k : Nat} {m : Md} {a b c e : Expr} {ta tb tc te : TE} {fa fb fc fe : Fe} {pos p : Pos}
/-! str(n) -/
def oStr : List D → Option D
  | [.int i] => if 0 ≤ i ∧ i ≤ 1000 then some (.str (toString i)) else none
  | _ => none
theorem small_log {i : Int} (h0 : 0 ≤ i) (h : i ≤ 1000) : i.natAbs.log2 < 1920 := by
  have h1 : i.natAbs < 2 ^ 1000 := Nat.lt_of_le_of_lt (m := 1000) (by omega) (Nat.lt_of_lt_of_le (show 1000 < 2 ^ 10 by decide) (Nat.pow_le_pow_right (by omega) (by omega)))
  by_cases z : i.natAbs = 0
  · rw [z]; decide
  · have := (Nat.log2_lt z).mpr h1
    omega
theorem cs_strI {K : PySem.W.Frag} : CallS K M .cl (fun xs H Q => ∃ i, xs = [V.int i] ∧ i.natAbs.log2 < 1920 ∧ Q (.str (toString i)) H) oStr := by
  intro H G vs ds dz Q e r ho q
  unfold oStr at ho
  split at ho
  · rename_i i
    split at ho
    · rename_i h
      cases ho
      cases r with
      | cons r t =>
        cases t
        cases (show R K M G _ (.int i) from r)
        exact ⟨i, rfl, small_log h.1 h.2, q _ H G (Stp.refl e) (R.str _)⟩
    · cases ho
  · cases ho
theorem je_strOf (hm : X.mg "str" = none) (hg : Gl X "str") (ha : JE K X M E .op a ta fa) (hs : starEach [a] X.env = (false, eval a X.env) :: starEach [] X.env := by rfl) : JE K X M E .cl (.Call (.Name "str" p) [a] [] pos) (tCB (fun xs H Q => ∃ i, xs = [V.int i] ∧ i.natAbs.log2 < 1920 ∧ Q (.str (toString i)) H) (tCons ta tNil)) (fB oStr (fCons fa fNil)) :=
  je_callTy call_str_int cs_strI hm (by decide +kernel) hg (ja_cons ha ja_nil hs) (by decide) (by decide) hs rfl
/-! int of a text -/
def oIntS : List D → Option D
  | [.str z] => if z.length ≤ 640 then (match PySem.intText? z with
    | some n => some (.int n)
    | none => none) else none
  | _ => none
theorem cs_intS {K : PySem.W.Frag} : CallS K M .cl (fun xs H Q => ∃ a n, xs = [V.str a] ∧ PySem.intText? a = some n ∧ a.length ≤ 640 ∧ Q (.int n) H) oIntS := by
  intro H G vs ds dz Q e r ho q
  unfold oIntS at ho
  split at ho
  · rename_i z
    split at ho
    · rename_i hz
      split at ho
      · rename_i n hn
        cases ho
        cases r with
        | cons r t =>
          cases t
          cases (show R K M G _ (.str z) from r)
          exact ⟨z, n, rfl, hn, hz, q _ H G (Stp.refl e) (R.int _)⟩
      · cases ho
    · cases ho
  · cases ho
theorem je_intS (hm : X.mg "int" = none) (hg : Gl X "int") (ha : JE K X M E .op a ta fa) (hs : starEach [a] X.env = (false, eval a X.env) :: starEach [] X.env := by rfl) : JE K X M E .cl (.Call (.Name "int" p) [a] [] pos) (tCB (fun xs H Q => ∃ a n, xs = [V.str a] ∧ PySem.intText? a = some n ∧ a.length ≤ 640 ∧ Q (.int n) H) (tCons ta tNil)) (fB oIntS (fCons fa fNil)) :=
  je_callTy call_int_str cs_intS hm (by decide +kernel) hg (ja_cons ha ja_nil hs) (by decide) (by decide) hs rfl
/-! max of two -/
def oMax2 : List D → Option D
  | [.int i, .int j] => some (.int (if j > i then j else i))
  | _ => none
theorem cs_max2 {K : PySem.W.Frag} : CallS K M .cl (fun xs H Q => ∃ i j, xs = [V.int i, V.int j] ∧ Q (.int (if j > i then j else i)) H) oMax2 := by
  intro H G vs ds dz Q e r ho q
  unfold oMax2 at ho
  split at ho
  · rename_i i j
    cases ho
    cases r with
    | cons r t =>
      cases t with
      | cons r' t =>
        cases t
        cases (show R K M G _ (.int i) from r)
        cases (show R K M G _ (.int j) from r')
        exact ⟨i, j, rfl, q _ H G (Stp.refl e) (R.int _)⟩
  · cases ho
theorem je_max2 (C : CxF K X E k) (hm : X.mg "max" = none) (hg : Gl X "max") (ha : JE K X M E .op a ta fa) (hb : JE K X M E .op b tb fb) (hs : starEach [a, b] X.env = (false, eval a X.env) :: starEach [b] X.env := by rfl) (hs2 : starEach [b] X.env = (false, eval b X.env) :: starEach [] X.env := by rfl) (hpl : (backTo pos (starEach [b] X.env)).any (·.1) = false := by rfl) :
    JE K X M E .cl (.Call (.Name "max" p) [a, b] [] pos) (tCB (fun xs H Q => ∃ i j, xs = [V.int i, V.int j] ∧ Q (.int (if j > i then j else i)) H) (tCons ta (tCons tb tNil))) (fB oMax2 (fCons fa (fCons fb fNil))) :=
  je_callB (call_max2 C.calm) cs_max2 hm (by decide +kernel) hg (ja_cons ha (ja_cons hb ja_nil hs2) hs) (by decide) (by decide) hs hpl
/-! t.find(s, i) -/
def fM2 (o : Str → D → D → Option D) (a b c : Fe) : Fe := fun γ => bR (a γ) fun x => match x with
  | .str za => bR (b γ) fun y => bR (c γ) fun z => oR (o za y z)
  | _ => none
def oFind3 (a : Str) (y z : D) : Option D := match y, z with
  | .str b, .int i => some (.int (Txt.find3 a b i))
  | _, _ => none
theorem je_find3 {apos : Pos} (C : CxF K X E k) (ha : JE K X M E .op a ta fa) (hb : JE K X M E .op b tb fb) (hc : JE K X M E .op c tc fc)
    (hbase : attributeBase a "find" X.env (eval a X.env) = eval a X.env := by rfl)
    (hfew : ((backTo pos (starEach [b, c] X.env)).all (fun x => !x.1) && (backToKw pos (keywordEach [] X.env)).all (fun x => x.1.isSome)
      && decide ([b, c].length + ([] : List Keyword).length + (if ([] : List Keyword).isEmpty then 0 else 1) < 30)) = true := by rfl)
    (hline : (apos.endLine == pos.line) = true := by rfl) (hst : starEach [b, c] X.env = (false, eval b X.env) :: starEach [c] X.env := by rfl) (hst2 : starEach [c] X.env = (false, eval c X.env) :: starEach [] X.env := by rfl) (hpl : (backTo pos (starEach [c] X.env)).any (·.1) = false := by rfl) :
    JE K X M E .cl (.Call (.Attribute a "find" apos) [b, c] [] pos) (tBM K "str" (fun x xs H Q => ∃ (a b : Str) (i : Int), x = .str a ∧ xs = [.str b, .int i] ∧ Q (.int (Txt.find3 a b i)) H) ta (tCons tb (tCons tc tNil))) (fM2 oFind3 fa fb fc) := by
  have hK := C.hK
  subst hK
  refine ⟨pe_bm PySem.F.plainAttrs_str PySem.F.slot_str_find PySem.F.type_str_find mt_find3 ha.pe (pa_cons hb.pe (pa_cons hc.pe pa_nil hst2) hst) hbase hfew hline hst hpl, fun H0 G0 γ σ H G Q r ev hf p => ?_⟩
  unfold fM2 at hf
  cases e1 : fa γ with
  | none => rw [e1] at hf; cases hf
  | some q1 =>
    rw [e1] at hf
    cases q1 with
    | er c => cases hf; exact ha.eo H0 G0 γ σ H G _ _ ev e1 p
    | ok dx =>
      simp only [bR] at hf
      cases dx with
      | str za =>
        refine ha.eo H0 G0 γ σ H G _ _ ev e1 fun x H1 G1 s1 r1 => ?_
        have ev1 := ev.stp s1
        cases (show R X.K M G1 x (.str za) from r1)
        refine ⟨rfl, ?_⟩
        cases e2 : fb γ with
        | none => rw [e2] at hf; cases hf
        | some q2 =>
          rw [e2] at hf
          cases q2 with
          | er c => cases hf; exact hb.eo H0 G0 γ σ H1 G1 _ _ ev1 e2 fun H' G' s => p H' G' (s1.trans s)
          | ok dy =>
            simp only at hf
            refine hb.eo H0 G0 γ σ H1 G1 _ _ ev1 e2 fun y H2 G2 s2 r2 => ?_
            have ev2 := ev1.stp s2
            cases e3 : fc γ with
            | none => rw [e3] at hf; cases hf
            | some q3 =>
              rw [e3] at hf
              cases q3 with
              | er c => cases hf; exact hc.eo H0 G0 γ σ H2 G2 _ _ ev2 e3 fun H' G' s => p H' G' ((s1.trans s2).trans s)
              | ok dz =>
                simp only at hf
                refine hc.eo H0 G0 γ σ H2 G2 _ _ ev2 e3 fun z H3 G3 s3 r3 => ?_
                cases dy with
                | str zb =>
                  cases dz with
                  | int i =>
                    cases hf
                    cases (show R X.K M G2 y (.str zb) from r2)
                    cases (show R X.K M G3 z (.int i) from r3)
                    exact ⟨za, zb, i, rfl, rfl, p _ H3 G3 ((s1.trans s2).trans s3) (R.int _)⟩
                  | _ => cases hf
                | _ => cases hf
      | _ => cases hf
/-! in a tuple of data -/
def rInTD (K : PySem.W.Frag) : R2 := fun x y H Q => ∃ d ds, Dp K H x d ∧ Dp K H y (.tuple ds) ∧ SeqAt.shaped d = true ∧ SeqAt.shaped (.tuple ds) = true ∧ Q (.bl (ds.any fun z => PyData.eqv z d)) H
theorem op_inTD (hu : X.A.units + 65 < cLine) : OpR X (compareOp .In) (rInTD X.K) := by
  intro pins s σ H x y v u Q I rx ry h
  obtain ⟨d, ds, hd, he, sd, se, q⟩ := h
  obtain ⟨as, r1⟩ := Dp.reads I d x v hd rx
  obtain ⟨bs, r2⟩ := Dp.reads I (.tuple ds) y u he ry
  exact SeqAt.in_tuple_reads r2 r1 (SeqAt.canLay_of_shaped se) (SeqAt.canLay_of_shaped sd) (room_in_shaped sd hu) ⟨.bl _, H, I, rfl, q⟩
def oInT (x : D) : D → Option D
  | .tuple ds => if SeqAt.shaped x = true ∧ SeqAt.shaped (.tuple ds) = true then some (.bool (ds.any fun z => PyData.eqv z x)) else none
  | _ => none
theorem ops_inT {K : PySem.W.Frag} : OpS K M .cl (rInTD K) oInT := by
  intro H G x y dx dy dz Q e rx ry ho q
  unfold oInT at ho
  split at ho
  · rename_i ds
    split at ho
    · rename_i hc
      cases ho
      exact ⟨dx, ds, rx.dp e hc.1, RO.dp ry e hc.2, hc.1, hc.2, q _ H G (Stp.refl e) (R.bl _)⟩
    · cases ho
  · cases ho
theorem je_inT (C : CxF K X E k) (ha : JE K X M E .op a ta fa) (hb : JE K X M E .op b tb fb) (hm : behindInMarks .In b = false := by rfl) : JE K X M E .cl (.Compare a [.In] [b] pos) (tOp (rInTD K) ta tb) (f2 oInT fa fb) := by
  have hK := C.hK
  subst hK
  exact je_cmpR (op_inTD (by have := C.room.un; omega)) ops_inT ha hb hm
theorem jt_inT (C : CxF K X E k) (ha : JE K X M E .op a ta fa) (hb : JE K X M E .op b tb fb) (hm : behindInMarks .In b = false := by rfl) : JT K X M E (.Compare a [.In] [b] pos) (tTest (tOp (rInTD K) ta tb)) (fT (f2 oInT fa fb)) := by
  have hK := C.hK
  subst hK
  exact jt_cmpR (op_inTD (by have := C.room.un; omega)) ops_inT ha hb hm
/-! a text, so many times -/
def repS (z : Str) (n : Nat) : Str := ⟨(List.replicate n z.cps).foldl (· ++ ·) #[]⟩
theorem size_fold (z : Array Nat) : ∀ (n : Nat) (a : Array Nat), ((List.replicate n z).foldl (· ++ ·) a).size = a.size + n * z.size
  | 0, a => by simp
  | n + 1, a => by
    rw [List.replicate_succ, List.foldl_cons, size_fold z n (a ++ z), Array.size_append, Nat.add_mul]
    omega
def rMulS : R2 := fun x y H Q => ∃ (z : Str) (n : Nat), x = .str z ∧ y = .int (n : Int) ∧ 2 ≤ n ∧ n ≤ 1000 ∧ 1 ≤ z.length ∧ z.length ≤ 1000 ∧ Q (.str (repS z n)) H
theorem op_mulS : OpR X (binaryOp .Mult) rMulS := by
  intro pins s σ H x y v u Q I rx ry h
  obtain ⟨z, n, rfl, rfl, h1, h2, h3, h4, q⟩ := h
  obtain ⟨t, rfl⟩ := rx
  obtain ⟨t', rfl⟩ := ry
  have n1 : ¬ ((n : Int) < 1) := by omega
  have hb : (((n : Int) == 1) || z.length == 0) = false := by
    rw [Bool.or_eq_false_iff]
    exact ⟨beq_eq_false_iff_ne.mpr (by omega), beq_eq_false_iff_ne.mpr (by omega)⟩
  refine P.mul_str (by rw [decide_eq_false (by omega), decide_eq_false (by omega)]; rfl) (fun _ _ => ?_) (fun _ _ => ?_) ?_
  · have : ((2 : Int) ^ 63 - 1) / (n : Int) ≥ 1000 := by
      rw [ge_iff_le, Int.le_ediv_iff_mul_le (by omega)]
      omega
    omega
  · unfold Builtin.Str.tooLong
    rw [decide_eq_false]
    have e : ((n : Nat) : Int).toNat = n := by omega
    rw [e, sizeLine_eq]
    have := Nat.mul_le_mul h4 h2
    omega
  · rw [if_neg n1, hb, if_neg Bool.false_ne_true]
    have e : ((n : Nat) : Int).toNat = n := by omega
    rw [e]
    refine ⟨?_, ⟨.str (repS z n), H, I.tok _, ⟨_, rfl⟩, q⟩⟩
    have := Nat.mul_le_mul h2 h4
    show ((List.replicate n z.cps).foldl (· ++ ·) #[]).size ≤ sizeLine
    have h4' : z.cps.size ≤ 1000 := h4
    have h5 := Nat.mul_le_mul h2 h4'
    rw [size_fold, sizeLine_eq]
    simp only [Array.size_empty]
    omega
def oMulS : D → D → Option D
  | .str z, .int i => if 2 ≤ i ∧ i ≤ 1000 ∧ 1 ≤ z.length ∧ z.length ≤ 1000 then some (.str (repS z i.toNat)) else none
  | _, _ => none
theorem ops_mulS {K : PySem.W.Frag} : OpS K M .cl rMulS oMulS := by
  intro H G x y dx dy dz Q e rx ry ho q
  unfold oMulS at ho
  split at ho
  · rename_i z i
    split at ho
    · rename_i hc
      cases ho
      cases (show R K M G x (.str z) from rx)
      cases (show R K M G y (.int i) from ry)
      refine ⟨z, i.toNat, rfl, ?_, ?_, ?_, hc.2.2.1, hc.2.2.2, q _ H G (Stp.refl e) (R.str _)⟩
      · rw [Int.toNat_of_nonneg (by omega)]
      · omega
      · omega
    · cases ho
  · cases ho
theorem je_mulS (ha : JE K X M E .op a ta fa) (hb : JE K X M E .op b tb fb) : JE K X M E .cl (.BinOp a .Mult b pos) (tOp rMulS ta tb) (f2 oMulS fa fb) := je_op op_mulS ops_mulS ha hb
/-! xs[i] = e, xs an own list -/
def sSetI (i : Nat) (fi fa : Fe) : Fs := fun γ => match γ[i]? with
  | some (.ow ds) => (match fa γ with
    | some (.ok d) => (match fi γ with
      | some (.ok (.int n)) => (match ixN ds.length n with
        | some j => some (.nx (γ.set i (.ow (ds.set j d))))
        | none => none)
      | _ => none)
    | _ => none)
  | _ => none
theorem js_setI {i : Nat} {x : Str} {p0 spos : Pos} (C : CxF K X E k) (ho : JE K X M E .op (.Name x p0) (tVar i) (fOpd i)) (hi : JE K X M E .op b tb fb) (ha : JE K X M E .cl a ta fa)
    (hs : swapsWithSole [.Subscript (.Name x p0) b spos] a pos.line X.env = pure false := by rfl) (hw : swappedStores [.Subscript (.Name x p0) b spos] a X.env = pure none := by rfl)
    (h1 : (assignEach [.Subscript (.Name x p0) b spos] X.env).map (·.2) = [assign (.Subscript (.Name x p0) b spos) X.env] := by rfl)
    (hg : ∀ v, assign (.Subscript (.Name x p0) b spos) X.env v = (do
      let ov ← holding [v] (eval (.Name x p0) X.env)
      let iv ← holding [v, ov] (eval b X.env)
      standAt spos
      holding [v, ov, iv] (setItem ov iv v)
      release [v, ov, iv] []) := by intro _; rfl) :
    JS K X M E (.Assign [.Subscript (.Name x p0) b spos] a pos) (tAsg ta (gSub (tVar i) tb rSetL)) (sSetI i fb fa) := by
  refine ⟨ps_asg ha.pe (pg_sub ho.pe hi.pe set_list hg) hs hw h1, fun H0 G0 γ σ H G De o ev hf p => ?_⟩
  unfold sSetI at hf
  split at hf
  · rename_i ds e1
    split at hf
    · rename_i d e2
      split at hf
      · rename_i n e3
        split at hf
        · rename_i j e4
          cases hf
          obtain ⟨l, vs, q1, hg', h0, h2, h3⟩ := ev.ow e1
          refine ha.eo H0 G0 γ σ H G _ _ ev e2 fun v H' G' s r => ?_
          have ev1 := ev.stp s
          refine ⟨_, q1, ?_⟩
          refine hi.eo H0 G0 γ σ H' G' _ _ ev1 e3 fun y H2 G2 s2 r2 => ?_
          have ev2 := ev1.stp s2
          cases (show R K M G2 y (.int n) from r2)
          have hl : H2 l = some (.lst vs) := s2.ex _ _ (s.ex _ _ h2)
          have st := s.trans s2
          have h3' := h3.mono st.eg
          refine ⟨l, vs, n, j, rfl, rfl, hl, by rw [h3.len]; exact e4, p _ _ G2 (ev2.wr e1 q1 hl (h3'.set (R.mono s2.eg r) j))⟩
        · cases hf
      · cases hf
    · cases hf
  · cases hf
/-! the expression alone -/
def sDrop (fa : Fe) : Fs := fun γ => match fa γ with
  | some (.ok _) => some (.nx γ)
  | some (.er c) => some (.er c)
  | none => none
theorem js_drop (ha : JE K X M E .cl a ta fa) (hs : swapsWith a none pos.line X.env = pure false := by rfl) : JS K X M E (.Expr a pos) (tDrop ta) (sDrop fa) := by
  refine ⟨ps_expr ha.pe hs, fun H0 G0 γ σ H G De o ev hf p => ?_⟩
  unfold sDrop at hf
  split at hf
  · rename_i d e1
    cases hf
    exact ha.eo H0 G0 γ σ H G _ _ ev e1 fun v H' G' s r => p σ H' G' (ev.stp s)
  · rename_i c e1
    cases hf
    exact ha.eo H0 G0 γ σ H G _ _ ev e1 (ev.er p)
  · cases hf
/-! a < b < c -/
def fChainT (fa fb fc : Fe) : Ft := fun γ => match fa γ, fb γ, fc γ with
  | some (.ok (.int i)), some (.ok (.int j)), some (.ok (.int n)) => some (.ok (decide (i < j) && decide (j < n)))
  | _, _, _ => none
theorem jt_chain (ha : JE K X M E .op a ta fa) (hb : JE K X M E .op b tb fb) (hc : JE K X M E .op c tc fc) (hm : lastMarks [.Lt, .Lt] [b, c] = false := by with_unfolding_all rfl) :
    JT K X M E (.Compare a [.Lt, .Lt] [b, c] pos) (tTest (tChain (rI0 fun i j => .bl (decide (i < j))) (rI0 fun i j => .bl (decide (i < j))) ta tb tc)) (fChainT fa fb fc) := by
  refine ⟨pt_chain op_lt op_lt ha.pe hb.pe hc.pe hm, fun H0 G0 γ σ H G Q r ev hf p => ?_⟩
  unfold fChainT at hf
  split at hf
  · rename_i i j n e1 e2 e3
    cases hf
    refine ha.eo H0 G0 γ σ H G _ _ ev e1 fun x H1 G1 s1 r1 => ?_
    have ev1 := ev.stp s1
    cases (show R K M G1 x (.int i) from r1)
    refine hb.eo H0 G0 γ σ H1 G1 _ _ ev1 e2 fun y H2 G2 s2 r2 => ?_
    have ev2 := ev1.stp s2
    cases (show R K M G2 y (.int j) from r2)
    refine ⟨i, j, rfl, rfl, _, rfl, ?_⟩
    by_cases h : i < j
    · rw [if_pos (decide_eq_true h)]
      refine hc.eo H0 G0 γ σ H2 G2 _ _ ev2 e3 fun z H3 G3 s3 r3 => ?_
      cases (show R K M G3 z (.int n) from r3)
      refine ⟨j, n, rfl, rfl, decide (j < n), rfl, ?_⟩
      have q := p H3 G3 ((s1.trans s2).trans s3)
      rw [decide_eq_true h, Bool.true_and] at q
      exact q
    · rw [if_neg (by rw [decide_eq_false h]; exact Bool.false_ne_true)]
      refine ⟨false, rfl, ?_⟩
      have q := p H2 G2 (s1.trans s2)
      rw [decide_eq_false h, Bool.false_and] at q
      exact q
  · cases hf
/-! zip of two tuples -/
def wZipT (a : Fa) : Fa := fun γ => match a γ with
  | some (.ok [.tuple xs, .tuple ys]) => some (.ok ((xs.zip ys).map fun p => .tuple [p.1, p.2]))
  | some (.er c) => some (.er c)
  | _ => none
theorem ji_zipT {es : List Expr} {kk : Nat} {tpos p : Pos} (C : CxF K X E k) (hm : X.mg "zip" = none) (hg : Gl X "zip") (ha : JE K X M E .cl a ta fa) (hb : JE K X M E .cl b tb fb)
    (hs3 : starEach [a, b] X.env = (false, eval a X.env) :: starEach [b] X.env := by rfl) (hs4 : starEach [b] X.env = (false, eval b X.env) :: starEach [] X.env := by rfl) (hpl : (backTo pos (starEach [b] X.env)).any (·.1) = false := by rfl) :
    JI K X M E (.Tuple es kk tpos) (.Call (.Name "zip" p) [a, b] [] pos) (RZ.iZipA K (tCons ta (tCons tb tNil))) (wZipT (fCons fa (fCons fb fNil))) := by
  have hK := C.hK
  subst hK
  have A := jc_cons ha (jc_cons hb (jc_nil (K := X.K) (X := X) (M := M) (E := E)) hs4) hs3
  refine ⟨RZ.pi_zipA hg hm A.pa hs3 hpl, fun H0 G0 γ σ H G Q r ev hf p => ?_⟩
  unfold wZipT at hf
  split at hf
  · rename_i xs ys e1
    cases hf
    refine A.ac H0 G0 γ σ H G _ _ ev e1 fun vs H1 G1 s1 r1 => ?_
    cases r1 with
    | cons r t =>
      cases t with
      | cons r' t =>
        cases t
        cases (show R X.K M G1 _ (.tuple xs) from r) with
        | tup h rx =>
          rename_i l us
          cases (show R X.K M G1 _ (.tuple ys) from r') with
          | tup h' ry =>
            rename_i l' us'
            refine ⟨l, l', us, us', rfl, .inr ⟨same_T s1.sub h, same_T s1.sub h', p _ H1 G1 s1 fun H2 G2 g1 g2 i => ⟨fun hi => ?_, fun x H3 d hd y => ?_, fun hi => ?_⟩⟩⟩
            · rw [List.length_map, List.length_zip] at hi
              have hu : i < us.length := by rw [rx.len]; omega
              have hu' : i < us'.length := by rw [ry.len]; omega
              exact ⟨us, us', us[i], us'[i], same_T (g1.trans g2) h, same_T (g1.trans g2) h', List.getElem?_eq_getElem hu, List.getElem?_eq_getElem hu'⟩
            · obtain ⟨T, x1, y1, e2, nT, e3, f1, f2⟩ := y
              subst e2; subst e3
              obtain ⟨dx, dy, h1, h2, e4⟩ := zip_get hd
              subst e4
              obtain ⟨v, q1, q2⟩ := rx.get h1
              obtain ⟨v', q1', q2'⟩ := ry.get h2
              have z1 := f1 us (same_T (g1.trans g2) h)
              have z2 := f2 us' (same_T (g1.trans g2) h')
              obtain rfl : v = x1 := Option.some.inj (q1.symm.trans z1)
              obtain rfl : v' = y1 := Option.some.inj (q1'.symm.trans z2)
              have s := Stp.new (o := .tup [v, v']) g2 nT
              exact ⟨_, s, R.tup (.of upd_same) (.cons (R.mono s.eg (q2.mono g1)) (.cons (R.mono s.eg (q2'.mono g1)) .nil))⟩
            · rw [List.length_map, List.length_zip] at hi
              refine ⟨us, us', same_T (g1.trans g2) h, same_T (g1.trans g2) h', ?_⟩
              rw [rx.len, ry.len]
              omega
  · rename_i e1
    cases hf
    exact A.ac H0 G0 γ σ H G _ _ ev e1 p
  · cases hf
/-! isinstance(e, (C1, ..)), e pinned -/
def rIsET (K : PySem.W.Frag) (D a : Addr) : List V → Hp → VK → Prop := fun xs H Q => ∃ (tp : Addr) (cs : List V) (us : List Value) (b : Bool), xs = [.ref a, .ref tp] ∧ H tp = some (.tup cs) ∧ Paired ClsV cs us ∧ PySem.W.kitAny K (.ref D) us = some b ∧ Q (.bl b) H
theorem call_isPT {X : Cx} {a D : Addr} {oe : Obj} (C : ExcC X.K D) (hp : (a, oe) ∈ X.pn) (hz : Zc (.ref D) none oe) (hf : ∃ vs, oe.data = .fields vs) : CallR X (.builtin "isinstance") (rIsET X.K D a) := by
  intro pins s σ H xs us Q I r h
  obtain ⟨tp, cs, ws', b, rfl, hT, k, e, q⟩ := h
  cases r with
  | cons r1 rr =>
    cases rr with
    | cons r2 rr =>
      cases rr
      cases r1
      cases (show _ = Value.ref tp from r2)
      have hg := (I.pin (a, oe) (List.mem_append_left _ hp)).1
      obtain ⟨ws, hw⟩ := hf
      have J : PySem.W.InstAt s.heap a oe D none := by
        rcases oe with ⟨k1, k2, k3, k4⟩
        obtain ⟨z1, z2⟩ := hz
        simp only at z1 z2 hw
        subst z1 z2 hw
        exact ⟨hg, rfl, rfl, trivial⟩
      obtain ⟨_, its, rv, o, h1, h2, n, h3⟩ := (show ObjOk X.prog X.w H s.heap tp (.tup cs) from I.hok tp _ hT)
      have e3 := ClsV.all k rv
      subst e3
      obtain ⟨oc, od, dt, sl⟩ := o
      simp only at h2 h3
      subst h2 h3
      exact PySem.W.kia_tup (PySem.W.handS_kitx_exc C.hg C.hk C.hs C.hd C.ha C.hn C.ht C.hm) I.kIn J h1 e (fun z => by cases z) fun t => ⟨.bl b, H, I.kept (t' := t) fun _ _ z => z, rfl, q⟩
end
/-! try: g(t)  except E as e: o = isinstance(e, (..)); return isinstance(e, C) and isinstance(e, ValueError) and not o -/
/-- what is known of the classes of errors that the law tells apart; D is the one that is raised -/
structure Rfw (K : PySem.W.Frag) (mg : Str → Option Value) (M : Pm) (Cs D c0 c1 c2 c3 c4 : Addr) : Prop where
  S : mg "SaidError" = some (.ref Cs)
  x : M.exc "BadText" = .ref D
  xm : PySem.W.exmOne K (.ref D) (.ref Cs) = some true
  e : EK K D [c0, c1, c2, c3, c4, D] 5
  g0 : mg "BadMark" = some (.ref c0)
  g1 : mg "BadStatement" = some (.ref c1)
  g2 : mg "Mixed" = some (.ref c2)
  g3 : mg "NoMark" = some (.ref c3)
  g4 : mg "TooMany" = some (.ref c4)
  g5 : mg "BadText" = some (.ref D)
section
variable {K : PySem.W.Frag} {X : Cx} {M : Pm} {E : XK} {k : Nat} {Cs D c0 c1 c2 c3 c4 : Addr} {n o : Str} {i oi kt : Nat} {body : List Stmt} {f : Fs} {pos pos' np rpos apos bpos npos p0 p1 p2 p3 q1 q2 q3 z0 z1 z2 z3 z4 z5 z6 pt cp1 cp2 cp3 xp2 xp3 : Pos}
def tRf (M : Pm) (i oi : Nat) (a : Addr) (cls : Value) (d : Option Addr) : TS := fun De σ H => ∃ (G : Hp), cls = M.exc "BadText" ∧ d = none ∧ σ[i]? = some (some (.ref a)) ∧ oi < σ.length ∧ i ≠ oi ∧ Same G H ∧ ∀ H' G', Stp H G H' G' → De.rt (.bl true) H'
abbrev sOth (n o : Str) (p1 q1 p2 z0 z1 z2 z3 z4 pt cp1 apos : Pos) (kt : Nat) : Stmt :=
  .Assign [.Name o p1] (.Call (.Name "isinstance" q1) [.Name n p2, .Tuple [.Name "BadMark" z0, .Name "BadStatement" z1, .Name "Mixed" z2, .Name "NoMark" z3, .Name "TooMany" z4] kt pt] [] cp1) apos
abbrev sRetE (n o : Str) (q2 xp2 z5 cp2 q3 xp3 z6 cp3 p3 npos bpos rpos : Pos) : Stmt :=
  .Return (some (.BoolOp .And [.Call (.Name "isinstance" q2) [.Name n xp2, .Name "BadText" z5] [] cp2, .Call (.Name "isinstance" q3) [.Name n xp3, .Name "ValueError" z6] [] cp3, .UnaryOp .Not (.Name o p3) npos] bpos)) rpos
theorem pss_rf (C : CxF K X E k) (W : Rfw K X.mg M Cs D c0 c1 c2 c3 c4) {a : Addr} {oe : Obj} {cls : Value} {d : Option Addr} {pn : List (Addr × Obj)} (hz : Zc cls d oe) (hf : ∃ vs, oe.data = .fields vs)
    (hI : X.mg "isinstance" = none) (hV : X.mg "ValueError" = none) (hgl : ∀ x : Str, x ∈ (["isinstance", "ValueError", "BadMark", "BadStatement", "Mixed", "NoMark", "TooMany", "BadText"] : List Str) → Gl X x)
    (hv : ∀ p : Pos, PE (X.suite a ((a, oe) :: pn)) (.Name n p) (tVar i)) (ho : ∀ p : Pos, PE (X.suite a ((a, oe) :: pn)) (.Name o p) (tVar oi)) (hoi : X.N[oi]? = some o) (hx : Loc X.env.scope o)
    (hs : swapsWith (.Call (.Name "isinstance" q1) [.Name n p2, .Tuple [.Name "BadMark" z0, .Name "BadStatement" z1, .Name "Mixed" z2, .Name "NoMark" z3, .Name "TooMany" z4] kt pt] [] cp1) (some (.Name o p1)) apos.line X.env = pure false)
    (hfn : X.fn o = true ∨ X.env.scope.names.lookup o = some .local) :
    PSs (X.suite a ((a, oe) :: pn)) [sOth n o p1 q1 p2 z0 z1 z2 z3 z4 pt cp1 apos kt, sRetE n o q2 xp2 z5 cp2 q3 xp3 z6 cp3 p3 npos bpos rpos] (tRf M i oi a cls d) := by
  have hK := C.hK
  subst hK
  refine ⟨fun pins s σ H De I h => ?_⟩
  obtain ⟨G, rfl, rfl, hσ, hl, hne, sub, q⟩ := h
  rw [W.x] at hz
  let Y := X.suite a ((a, oe) :: pn)
  have gl : ∀ x : Str, x ∈ (["isinstance", "ValueError", "BadMark", "BadStatement", "Mixed", "NoMark", "TooMany", "BadText"] : List Str) → Gl Y x := hgl
  have gn : ∀ (x : Str) (p : Pos) (c : Addr), x ∈ (["isinstance", "ValueError", "BadMark", "BadStatement", "Mixed", "NoMark", "TooMany", "BadText"] : List Str) → X.mg x = some (.ref c) → (x == ("__debug__" : Str)) = false → PE Y (.Name x p) (tC (.ref c)) :=
    fun x p c hx hm hd => pe_glob (gl x hx) hm rfl hd
  have T := pe_tup (x1 := kt) (pos := pt) (X := Y) (pa_cons (gn "BadMark" z0 c0 (by simp) W.g0 (by decide)) (pa_cons (gn "BadStatement" z1 c1 (by simp) W.g1 (by decide)) (pa_cons (gn "Mixed" z2 c2 (by simp) W.g2 (by decide)) (pa_cons (gn "NoMark" z3 c3 (by simp) W.g3 (by decide)) (pa_cons (gn "TooMany" z4 c4 (by simp) W.g4 (by decide)) pa_nil)))))
  have A := pe_callB (X := Y) (pos := cp1) (p := q1) (call_isPT W.e.exc List.mem_cons_self hz hf) (gl "isinstance" (by simp)) hI (by decide +kernel) (pa_cons (hv p2) (pa_cons T pa_nil rfl) rfl) (by decide) (by decide) rfl rfl
  have B1 := pe_isP (X := Y) (pos := cp2) (p := q2) (p0 := xp2) (p2 := z5) rfl W.e.exc List.mem_cons_self hz hf hI (gl "isinstance" (by simp)) (hv xp2) (gn "BadText" z5 D (by simp) W.g5 (by decide)) rfl rfl rfl
  have B2 := pe_isP (X := Y) (pos := cp3) (p := q3) (p0 := xp3) (p2 := z6) rfl W.e.exc List.mem_cons_self hz hf hI (gl "isinstance" (by simp)) (hv xp3) (pe_bltn (v := .ty "ValueError") (u := .type "ValueError") (gl "ValueError" (by simp)) hV (by decide +kernel) rfl) rfl rfl rfl
  have S1 := ps_set (X := Y) (pos := apos) C.nd hoi hx A hs hfn
  have S2 := ps_ret (X := Y) (pos := rpos) (pe_and (pos := bpos) B1 (pe_and (pos := bpos) B2 (pe_one (op := .And) (pos := bpos) (pe_not (pos := npos) (ho p3)))))
  refine (pss_cons S1 (pss_one S2)).run pins s σ H De I ?_
  have is := W.e.is
  refine ⟨.ref a, hσ, ⟨by simp [sizeLine_eq], fun tp n1 => ?_⟩⟩
  have s1 := Stp.newO (o := .tup [.ref c0, .ref c1, .ref c2, .ref c3, .ref c4]) sub n1
  refine ⟨tp, [.ref c0, .ref c1, .ref c2, .ref c3, .ref c4], [.ref c0, .ref c1, .ref c2, .ref c3, .ref c4], false, rfl, upd_same, .cons (.own _) (.cons (.own _) (.cons (.own _) (.cons (.own _) (.cons (.own _) .nil)))), ?_, ?_⟩
  · refine kitAny_cons (is 0 c0 rfl) (fun _ => kitAny_cons (is 1 c1 rfl) (fun _ => kitAny_cons (is 2 c2 rfl) (fun _ => kitAny_cons (is 3 c3 rfl) (fun _ => kitAny_cons (is 4 c4 rfl) (fun _ => rfl) (fun z => by cases z)) (fun z => by cases z)) (fun z => by cases z)) (fun z => by cases z)) (fun z => by cases z)
  · have hσ2 : (σ.set oi (some (.bl false)))[i]? = some (some (.ref a)) := by rw [List.getElem?_set_ne (Ne.symm hne)]; exact hσ
    have hσ3 : (σ.set oi (some (.bl false)))[oi]? = some (some (.bl false)) := List.getElem?_set_self hl
    refine tIs_ref hσ2 (is 5 D rfl) ⟨true, rfl, ?_⟩
    rw [if_pos rfl]
    refine tIs_of (cv := .type "ValueError") hσ2 (fun u h => h) W.e.val ⟨true, rfl, ?_⟩
    rw [if_pos rfl]
    exact ⟨_, hσ3, false, rfl, q _ G s1⟩
def omR : Str → Option PyData := fun cn => if cn = "BadText" then some (.bool true) else none
theorem js_refused (C : CxF K X E k) (W : Rfw K X.mg M Cs D c0 c1 c2 c3 c4) (hb : ∀ (pn : List (Addr × Obj)) (xe : Value → Shared → Prop) (E' : XK), CxF K (X.tr pn xe) E' k → ∃ t, JB K (X.tr pn xe) M E' body t f)
    (hI : X.mg "isinstance" = none) (hV : X.mg "ValueError" = none) (hgl : ∀ x : Str, x ∈ (["isinstance", "ValueError", "BadMark", "BadStatement", "Mixed", "NoMark", "TooMany", "BadText"] : List Str) → Gl X x)
    (hv : ∀ (a : Addr) (oe : Obj) (pn : List (Addr × Obj)) (p : Pos), PE (X.suite a ((a, oe) :: pn)) (.Name n p) (tVar i)) (ho : ∀ (a : Addr) (oe : Obj) (pn : List (Addr × Obj)) (p : Pos), PE (X.suite a ((a, oe) :: pn)) (.Name o p) (tVar oi))
    (hSd : Gl X "SaidError" := by rfl) (hoi : X.N[oi]? = some o := by rfl) (hne : i ≠ oi := by decide)
    (hx : Loc X.env.scope o := by first | exact Or.inl rfl | exact Or.inr rfl)
    (hsw : swapsWith (.Call (.Name "isinstance" q1) [.Name n p2, .Tuple [.Name "BadMark" z0, .Name "BadStatement" z1, .Name "Mixed" z2, .Name "NoMark" z3, .Name "TooMany" z4] kt pt] [] cp1) (some (.Name o p1)) apos.line X.env = pure false := by rfl)
    (hfn : X.fn o = true ∨ X.env.scope.names.lookup o = some .local := by first | exact .inl rfl | exact .inr rfl)
    (hs : X.stack = X.env :: X.outer := by rfl) (hf : X.env.frame = some X.env.locals := by rfl) (hi : X.N[i]? = some n := by rfl) (hl : X.env.kindOf n = some .local := by rfl) :
    JS K X M E (.Try body [.ExceptHandler (some (.Name "SaidError" np)) (some n) [sOth n o p1 q1 p2 z0 z1 z2 z3 z4 pt cp1 apos kt, sRetE n o q2 xp2 z5 cp2 q3 xp3 z6 cp3 p3 npos bpos rpos] pos'] [] [] pos)
      (fun De σ H => tTryW K X M k body f (wAs K (.ref Cs) i (tRf M i oi) (fun _ _ _ _ => False) De) De σ H) (sTryW omR f) := by
  have hK := C.hK
  subst hK
  refine ⟨ps_try_as (tb := tTryW X.K X M k body f) (ts := tRf M i oi) hs hf C.nd hi hl ⟨hSd, by decide, .inl W.S⟩ takes0 (fun W' pn xe tk own => ⟨fun pins s σ H De I h => ?_⟩) fun a oe cls d pn hz hd => pss_rf C W hz hd hI hV hgl (hv a oe pn) (ho a oe pn) hoi hx hsw hfn, fun H0 G0 γ σ H G De oo ev hfx p => ?_⟩
  · obtain ⟨t, h1, _, h2⟩ := h pn xe (cxf_tr C tk own)
    exact h1.run pins s σ H De I h2
  · intro pn xe C'
    obtain ⟨t, J⟩ := hb pn xe _ C'
    refine ⟨t, J.ps, J.so, ?_⟩
    have hil : ∀ σ' : L2.St, σ'.length = X.N.length → i < σ'.length := fun σ' e => by rw [e]; exact (List.getElem?_eq_some_iff.mp hi).1
    have hol : ∀ σ' : L2.St, σ'.length = X.N.length → oi < σ'.length := fun σ' e => by rw [e]; exact (List.getElem?_eq_some_iff.mp hoi).1
    unfold sTryW at hfx
    split at hfx
    · rename_i cn e1
      split at hfx
      · rename_i d e2
        cases hfx
        unfold omR at e2
        split at e2
        · rename_i e3
          subst e3
          cases e2
          refine J.so H0 G0 γ σ H G De _ ev e1 fun H' G' st σ' hl' => ?_
          refine ⟨true, by rw [W.x]; exact W.xm, fun _ a ha => ⟨G', rfl, rfl, List.getElem?_set_self (hil σ' hl'), by rw [List.length_set]; exact hol σ' hl', hne, st.sub, fun H2 G2 s2 => p _ H2 G2 (st.trans s2) (R.bl true)⟩, fun z => by cases z⟩
        · cases e2
      · cases hfx
    · rename_i γ' e1
      cases hfx
      exact J.so H0 G0 γ σ H G De _ ev e1 p
    · rename_i d e1
      cases hfx
      exact J.so H0 G0 γ σ H G De _ ev e1 p
    · cases hfx
end
end Py

namespace K02
open PySem PySem.Spec PyProof.Rows L2 Py
def topS (i : Nat) : Stmt := PySem.Challenge.pw_soonsaid_k02_written_and_read.main.body.getD i (.Pass ⟨0, 0, 0, 0⟩)
inductive Nm | is_mark | is_number | is_formed | is_statement | written | piece_at | pieces_of | part_of | read_at | read | l_cell_at | l_names | l_all | l_wishes | l_fit | l_built | l_text | l_part_text | l_mark_at | l_at | l_parts_at | l_due | l_odd | l_bent | l_same | l_refused | l_draw | l_made | law
abbrev s_is_mark : Stmt := topS 13
abbrev N_is_mark : List Str := ["thing", "sign"]
abbrev P_is_mark : List Str := ["thing"]
theorem sc_is_mark : FnScope N_is_mark P_is_mark (defScope s_is_mark) := ⟨rfl, rfl, rfl, by decide +kernel, rfl, by decide +kernel, by decide +kernel⟩
abbrev s_is_number : Stmt := topS 14
abbrev N_is_number : List Str := ["thing"]
abbrev P_is_number : List Str := ["thing"]
theorem sc_is_number : FnScope N_is_number P_is_number (defScope s_is_number) := ⟨rfl, rfl, rfl, by decide +kernel, rfl, by decide +kernel, by decide +kernel⟩
abbrev s_is_formed : Stmt := topS 15
abbrev N_is_formed : List Str := ["thing", "deep"]
abbrev P_is_formed : List Str := ["thing", "deep"]
theorem sc_is_formed : FnScope N_is_formed P_is_formed (defScope s_is_formed) := ⟨rfl, rfl, rfl, by decide +kernel, rfl, by decide +kernel, by decide +kernel⟩
abbrev s_is_statement : Stmt := topS 16
abbrev N_is_statement : List Str := ["thing"]
abbrev P_is_statement : List Str := ["thing"]
theorem sc_is_statement : FnScope N_is_statement P_is_statement (defScope s_is_statement) := ⟨rfl, rfl, rfl, by decide +kernel, rfl, by decide +kernel, by decide +kernel⟩
abbrev s_written : Stmt := topS 18
abbrev N_written : List Str := ["statement", "words", "part"]
abbrev P_written : List Str := ["statement"]
theorem sc_written : FnScope N_written P_written (defScope s_written) := ⟨rfl, rfl, rfl, by decide +kernel, rfl, by decide +kernel, by decide +kernel⟩
abbrev s_piece_at : Stmt := topS 19
abbrev N_piece_at : List Str := ["text", "at", "end"]
abbrev P_piece_at : List Str := ["text", "at"]
theorem sc_piece_at : FnScope N_piece_at P_piece_at (defScope s_piece_at) := ⟨rfl, rfl, rfl, by decide +kernel, rfl, by decide +kernel, by decide +kernel⟩
abbrev s_pieces_of : Stmt := topS 20
abbrev N_pieces_of : List Str := ["text", "found", "at"]
abbrev P_pieces_of : List Str := ["text"]
theorem sc_pieces_of : FnScope N_pieces_of P_pieces_of (defScope s_pieces_of) := ⟨rfl, rfl, rfl, by decide +kernel, rfl, by decide +kernel, by decide +kernel⟩
abbrev s_part_of : Stmt := topS 21
abbrev N_part_of : List Str := ["word"]
abbrev P_part_of : List Str := ["word"]
theorem sc_part_of : FnScope N_part_of P_part_of (defScope s_part_of) := ⟨rfl, rfl, rfl, by decide +kernel, rfl, by decide +kernel, by decide +kernel⟩
abbrev s_read_at : Stmt := topS 22
abbrev N_read_at : List Str := ["pieces", "at", "deep", "found", "end", "part"]
abbrev P_read_at : List Str := ["pieces", "at", "deep"]
theorem sc_read_at : FnScope N_read_at P_read_at (defScope s_read_at) := ⟨rfl, rfl, rfl, by decide +kernel, rfl, by decide +kernel, by decide +kernel⟩
abbrev s_read : Stmt := topS 23
abbrev N_read : List Str := ["text", "found", "end"]
abbrev P_read : List Str := ["text"]
theorem sc_read : FnScope N_read P_read (defScope s_read) := ⟨rfl, rfl, rfl, by decide +kernel, rfl, by decide +kernel, by decide +kernel⟩
abbrev s_l_cell_at : Stmt := topS 25
abbrev N_l_cell_at : List Str := ["_law_script", "_law_k"]
abbrev P_l_cell_at : List Str := ["_law_script", "_law_k"]
theorem sc_l_cell_at : FnScope N_l_cell_at P_l_cell_at (defScope s_l_cell_at) := ⟨rfl, rfl, rfl, by decide +kernel, rfl, by decide +kernel, by decide +kernel⟩
abbrev s_l_names : Stmt := topS 27
abbrev N_l_names : List Str := ["_law_cell", "_law_letters", "_law_rest", "_law_size", "_law_at_here", "_law_found", "_law_k", "_law_letter", "_law_j"]
abbrev P_l_names : List Str := ["_law_cell"]
theorem sc_l_names : FnScope N_l_names P_l_names (defScope s_l_names) := ⟨rfl, rfl, rfl, by decide +kernel, rfl, by decide +kernel, by decide +kernel⟩
abbrev s_l_all : Stmt := topS 29
abbrev N_l_all : List Str := ["_law_statement", "_law_found", "_law_part"]
abbrev P_l_all : List Str := ["_law_statement"]
theorem sc_l_all : FnScope N_l_all P_l_all (defScope s_l_all) := ⟨rfl, rfl, rfl, by decide +kernel, rfl, by decide +kernel, by decide +kernel⟩
abbrev s_l_wishes : Stmt := topS 30
abbrev N_l_wishes : List Str := ["_law_statement", "_law_found", "_law_one", "_law_more", "_law_other", "_law_k"]
abbrev P_l_wishes : List Str := ["_law_statement"]
theorem sc_l_wishes : FnScope N_l_wishes P_l_wishes (defScope s_l_wishes) := ⟨rfl, rfl, rfl, by decide +kernel, rfl, by decide +kernel, by decide +kernel⟩
abbrev s_l_fit : Stmt := topS 31
abbrev N_l_fit : List Str := ["_law_statement", "_law_most"]
abbrev P_l_fit : List Str := ["_law_statement", "_law_most"]
theorem sc_l_fit : FnScope N_l_fit P_l_fit (defScope s_l_fit) := ⟨rfl, rfl, rfl, by decide +kernel, rfl, by decide +kernel, by decide +kernel⟩
abbrev s_l_built : Stmt := topS 32
abbrev N_l_built : List Str := ["_law_script", "_law_names_here", "_law_most", "_law_spot", "_law_deep"]
abbrev P_l_built : List Str := ["_law_script", "_law_names_here", "_law_most"]
theorem sc_l_built : FnScope N_l_built P_l_built (defScope s_l_built) := ⟨rfl, rfl, rfl, by decide +kernel, rfl, by decide +kernel, by decide +kernel⟩
abbrev s_l_text : Stmt := topS 33
abbrev N_l_text : List Str := ["_law_statement", "_law_part"]
abbrev P_l_text : List Str := ["_law_statement"]
theorem sc_l_text : FnScope N_l_text P_l_text (defScope s_l_text) := ⟨rfl, rfl, rfl, by decide +kernel, rfl, by decide +kernel, by decide +kernel⟩
abbrev s_l_part_text : Stmt := topS 34
abbrev N_l_part_text : List Str := ["_law_part"]
abbrev P_l_part_text : List Str := ["_law_part"]
theorem sc_l_part_text : FnScope N_l_part_text P_l_part_text (defScope s_l_part_text) := ⟨rfl, rfl, rfl, by decide +kernel, rfl, by decide +kernel, by decide +kernel⟩
abbrev s_l_mark_at : Stmt := topS 35
abbrev N_l_mark_at : List Str := ["_law_text_here", "_law_at_here", "_law_end"]
abbrev P_l_mark_at : List Str := ["_law_text_here", "_law_at_here"]
theorem sc_l_mark_at : FnScope N_l_mark_at P_l_mark_at (defScope s_l_mark_at) := ⟨rfl, rfl, rfl, by decide +kernel, rfl, by decide +kernel, by decide +kernel⟩
abbrev s_l_at : Stmt := topS 36
abbrev N_l_at : List Str := ["_law_text_here", "_law_at_here", "_law_deep", "_law_word"]
abbrev P_l_at : List Str := ["_law_text_here", "_law_at_here", "_law_deep"]
theorem sc_l_at : FnScope N_l_at P_l_at (defScope s_l_at) := ⟨rfl, rfl, rfl, by decide +kernel, rfl, by decide +kernel, by decide +kernel⟩
abbrev s_l_parts_at : Stmt := topS 37
abbrev N_l_parts_at : List Str := ["_law_text_here", "_law_at_here", "_law_word", "_law_deep", "_law_found", "_law_k", "_law_part"]
abbrev P_l_parts_at : List Str := ["_law_text_here", "_law_at_here", "_law_word", "_law_deep"]
theorem sc_l_parts_at : FnScope N_l_parts_at P_l_parts_at (defScope s_l_parts_at) := ⟨rfl, rfl, rfl, by decide +kernel, rfl, by decide +kernel, by decide +kernel⟩
abbrev s_l_due : Stmt := topS 38
abbrev N_l_due : List Str := ["_law_text_here", "_law_found", "_law_end"]
abbrev P_l_due : List Str := ["_law_text_here"]
theorem sc_l_due : FnScope N_l_due P_l_due (defScope s_l_due) := ⟨rfl, rfl, rfl, by decide +kernel, rfl, by decide +kernel, by decide +kernel⟩
abbrev s_l_odd : Stmt := topS 39
abbrev N_l_odd : List Str := ["_law_cell", "_law_name", "_law_some"]
abbrev P_l_odd : List Str := ["_law_cell", "_law_name"]
theorem sc_l_odd : FnScope N_l_odd P_l_odd (defScope s_l_odd) := ⟨rfl, rfl, rfl, by decide +kernel, rfl, by decide +kernel, by decide +kernel⟩
abbrev s_l_bent : Stmt := topS 40
abbrev N_l_bent : List Str := ["_law_text_here", "_law_cell", "_law_name", "_law_at_here", "_law_sign", "_law_way", "_law_pieces", "_law_one", "_law_other", "_law_kept"]
abbrev P_l_bent : List Str := ["_law_text_here", "_law_cell", "_law_name"]
theorem sc_l_bent : FnScope N_l_bent P_l_bent (defScope s_l_bent) := ⟨rfl, rfl, rfl, by decide +kernel, rfl, by decide +kernel, by decide +kernel⟩
abbrev s_l_same : Stmt := topS 41
abbrev N_l_same : List Str := ["_law_found", "_law_due_here", "_law_one", "_law_other"]
abbrev P_l_same : List Str := ["_law_found", "_law_due_here"]
theorem sc_l_same : FnScope N_l_same P_l_same (defScope s_l_same) := ⟨rfl, rfl, rfl, by decide +kernel, rfl, by decide +kernel, by decide +kernel⟩
abbrev s_l_refused : Stmt := topS 42
abbrev N_l_refused : List Str := ["_law_thing", "e", "_law_others"]
abbrev P_l_refused : List Str := ["_law_thing"]
theorem sc_l_refused : FnScope N_l_refused P_l_refused (defScope s_l_refused) := ⟨rfl, rfl, rfl, by decide +kernel, rfl, by decide +kernel, by decide +kernel⟩
abbrev s_l_draw : Stmt := topS 26
abbrev N_l_draw : List Str := ["_law_script", "_law_spot", "_law_k"]
abbrev P_l_draw : List Str := ["_law_script", "_law_spot"]
theorem sc_l_draw : FnScope N_l_draw P_l_draw (defScope s_l_draw) := ⟨rfl, rfl, rfl, by decide +kernel, rfl, by decide +kernel, by decide +kernel⟩
abbrev s_l_made : Stmt := topS 28
abbrev N_l_made : List Str := ["_law_script", "_law_spot", "_law_names_here", "_law_deep", "_law_ahead", "_law_cell", "_law_more", "_law_kinds", "_law_kind", "_law_one"]
abbrev P_l_made : List Str := ["_law_script", "_law_spot", "_law_names_here", "_law_deep", "_law_ahead"]
theorem sc_l_made : FnScope N_l_made P_l_made (defScope s_l_made) := ⟨rfl, rfl, rfl, by decide +kernel, rfl, by decide +kernel, by decide +kernel⟩
abbrev s_law : Stmt := topS 43
abbrev N_law : List Str := ["_law_script", "_law_names_here", "_law_statement", "_law_text_here", "_law_bent_here", "_law_one", "_law_due_here"]
abbrev P_law : List Str := ["_law_script"]
theorem sc_law : FnScope N_law P_law (defScope s_law) := ⟨rfl, rfl, rfl, by decide +kernel, rfl, by decide +kernel, by decide +kernel⟩
def nmS : Nm → Str
  | .is_mark => "is_mark"
  | .is_number => "is_number"
  | .is_formed => "is_formed"
  | .is_statement => "is_statement"
  | .written => "written"
  | .piece_at => "piece_at"
  | .pieces_of => "pieces_of"
  | .part_of => "part_of"
  | .read_at => "read_at"
  | .read => "read"
  | .l_cell_at => "_law_cell_at"
  | .l_names => "_law_names"
  | .l_all => "_law_all"
  | .l_wishes => "_law_wishes"
  | .l_fit => "_law_fit"
  | .l_built => "_law_built"
  | .l_text => "_law_text"
  | .l_part_text => "_law_part_text"
  | .l_mark_at => "_law_mark_at"
  | .l_at => "_law_at"
  | .l_parts_at => "_law_parts_at"
  | .l_due => "_law_due"
  | .l_odd => "_law_odd"
  | .l_bent => "_law_bent"
  | .l_same => "_law_same"
  | .l_refused => "_law_refused"
  | .l_draw => "_law_draw"
  | .l_made => "_law_made"
  | .law => "law"
def stm : Nm → Stmt
  | .is_mark => s_is_mark
  | .is_number => s_is_number
  | .is_formed => s_is_formed
  | .is_statement => s_is_statement
  | .written => s_written
  | .piece_at => s_piece_at
  | .pieces_of => s_pieces_of
  | .part_of => s_part_of
  | .read_at => s_read_at
  | .read => s_read
  | .l_cell_at => s_l_cell_at
  | .l_names => s_l_names
  | .l_all => s_l_all
  | .l_wishes => s_l_wishes
  | .l_fit => s_l_fit
  | .l_built => s_l_built
  | .l_text => s_l_text
  | .l_part_text => s_l_part_text
  | .l_mark_at => s_l_mark_at
  | .l_at => s_l_at
  | .l_parts_at => s_l_parts_at
  | .l_due => s_l_due
  | .l_odd => s_l_odd
  | .l_bent => s_l_bent
  | .l_same => s_l_same
  | .l_refused => s_l_refused
  | .l_draw => s_l_draw
  | .l_made => s_l_made
  | .law => s_law
def psN : Nm → List Str
  | .is_mark => P_is_mark
  | .is_number => P_is_number
  | .is_formed => P_is_formed
  | .is_statement => P_is_statement
  | .written => P_written
  | .piece_at => P_piece_at
  | .pieces_of => P_pieces_of
  | .part_of => P_part_of
  | .read_at => P_read_at
  | .read => P_read
  | .l_cell_at => P_l_cell_at
  | .l_names => P_l_names
  | .l_all => P_l_all
  | .l_wishes => P_l_wishes
  | .l_fit => P_l_fit
  | .l_built => P_l_built
  | .l_text => P_l_text
  | .l_part_text => P_l_part_text
  | .l_mark_at => P_l_mark_at
  | .l_at => P_l_at
  | .l_parts_at => P_l_parts_at
  | .l_due => P_l_due
  | .l_odd => P_l_odd
  | .l_bent => P_l_bent
  | .l_same => P_l_same
  | .l_refused => P_l_refused
  | .l_draw => P_l_draw
  | .l_made => P_l_made
  | .law => P_law
structure Dm (K : PySem.W.Frag) (mg : Str → Option Value) (i : Nm) (f : Addr) (fd : FuncData) : Prop where
  F : Fun K (nmS i) (nmS i) (stm i) f fd
  b : Binds K fd (psN i) []
  m : mg (nmS i) = some (.ref f)
structure DD (K : PySem.W.Frag) (mg : Str → Option Value) (fa : Nm → Addr) (fdd : Nm → FuncData) : Prop where
  d : ∀ i : Nm, Dm K mg i (fa i) (fdd i)
structure EE (K : PySem.W.Frag) (mg : Str → Option Value) (M : Pm) (dE : Str → Addr) : Prop where
  BadText : Er K mg M "BadText" (dE "BadText")
inductive Nx | l_draw | l_made
def Nx.n : Nx → Nm
  | .l_draw => .l_draw
  | .l_made => .l_made
def f_l_draw (Psy : Nx → Phx) : Fxs :=
    (xSeq (xPut 1 (fCon (.int 0)) (f2 oAdd (f2 oIx (fOpd 1) (fCon (.int 0))) (fCon (.int 1))))
    (xSeq (xSet 2 (xOf (f2 oSub (f2 oIx (fOpd 1) (fCon (.int 0))) (fCon (.int 1)))))
    (xSeq (xIf (fT (f2 oLt (fOpd 2) (fB oLen (fCons (fOpd 0) fNil)))) (xRet (xOf (f2 oIx (fOpd 0) (fOpd 2)))) xNext)
    (xSeq (xIf (gAnd (fT (f2 oGt (fB oLen (fCons (fOpd 0) fNil)) (fCon (.int 4)))) (fT (f2 oLt (fOpd 2) (fCon (.int 40))))) (xRet (xOf (f2 oMod (f2 oMul (f2 oAdd (f2 oIx (fOpd 0) (f2 oMod (fOpd 2) (fB oLen (fCons (fOpd 0) fNil)))) (f2 oMul (fCon (.int 7919)) (fOpd 2))) (fCon (.int 48271))) (fCon (.int 1000003))))) xNext)
    (xRet (xOf (fCon (.int 0))))))))
def f_l_made (Psy : Nx → Phx) : Fxs :=
    (xSeq (xSet 5 (xCall 1 (Psy .l_draw) (fVar 0) fNil))
    (xSeq (xSet 6 (xOf (f2 oDiv (fOpd 5) (fCon (.int 14)))))
    (xSeq (xIf (gOr (fT (f2 oLt (fOpd 3) (fCon (.int 2)))) (fT (f2 oLt (f2 oMod (fOpd 5) (fCon (.int 14))) (fCon (.int 2))))) (xSeq (xIf (fT (f2 oEq (f2 oMod (fOpd 6) (fCon (.int 9))) (fCon (.int 4)))) (xRet (xOf (fTup (fCons (fCon (.str "yes")) fNil)))) xNext)
    (xRet (xOf (fTup (fCons (fCon (.str "mark")) (fCons (f2 oIx (fOpd 2) (f2 oMod (fOpd 6) (fCon (.int 3)))) fNil)))))) xNext)
    (xSeq (xSet 7 (xOf (fCon (.str "not and or before since not and before since or since before"))))
    (xSeq (xIf (fT (fVar 4)) (xSet 7 (xOf (fCon (.str "not and or next until within until next since before until within")))) xNext)
    (xSeq (xSet 8 (xOf (f2 oIx (fM1 oSplit (fOpd 7) (fCon (.str " "))) (f2 oSub (f2 oMod (fOpd 5) (fCon (.int 14))) (fCon (.int 2))))))
    (xSeq (xSet 4 (xOf (fAnd (fVar 4) (f2 (oIn true) (fOpd 8) (fTup (fCons (fCon (.str "before")) (fCons (fCon (.str "since")) fNil)))))))
    (xSeq (xSet 9 (xCall 1 (Psy .l_made) (fVar 0) (fCons (fVar 2) (fCons (f2 oSub (fOpd 3) (fCon (.int 1))) (fCons (fVar 4) fNil)))))
    (xSeq (xIf (fT (f2 oEq (fOpd 8) (fCon (.str "within")))) (xRet (xOf (fTup (fCons (fVar 8) (fCons (f2 oIx (fLst (fCons (fCon (.int 1)) (fCons (fCon (.int 2)) (fCons (fCon (.int 0)) (fCons (fCon (.int 1)) (fCons (f2 oMod (f2 oDiv (fOpd 6) (fCon (.int 6))) (fCon (.int 5))) fNil)))))) (f2 oMod (fOpd 6) (fCon (.int 5)))) (fCons (fVar 9) fNil)))))) xNext)
    (xSeq (xIf (fT (f2 (oIn false) (fOpd 8) (fTup (fCons (fCon (.str "not")) (fCons (fCon (.str "next")) (fCons (fCon (.str "before")) fNil)))))) (xRet (xOf (fTup (fCons (fVar 8) (fCons (fVar 9) fNil))))) xNext)
    (xRet (xTup (xCons (xOf (fVar 8)) (xCons (xOf (fVar 9)) (xCons (xCall 1 (Psy .l_made) (fVar 0) (fCons (fVar 2) (fCons (f2 oSub (fOpd 3) (fCon (.int 1))) (fCons (fVar 4) fNil)))) xNil)))))))))))))))
def Psi : Nat → Nx → Phx
  | 0 => fun _ _ _ _ => none
  | n + 1 => fun i => match i with
    | .l_draw => runX 2 3 (f_l_draw (Psi n))
    | .l_made => runX 5 10 (f_l_made (Psi n))
theorem psi_l_draw (n : Nat) : Psi (n + 1) .l_draw = runX 2 3 (f_l_draw (Psi n)) := rfl
theorem psi_l_made (n : Nat) : Psi (n + 1) .l_made = runX 5 10 (f_l_made (Psi n)) := rfl
def f_is_mark (Phi : Nm → List D → Option Rs) : Fs :=
    (fSeq (sIf (gOr (gNot (fT (f1 (oIsi "str") (fOpd 0)))) (fT (f2 oGt (fB oLen (fCons (fOpd 0) fNil)) (fCon (.int 6))))) (sRet (fCon (.bool false))) fNext)
    (fSeq (sFor (wStr (fVar 0)) (gfN 1) (sIf (fT (f2 (oIn true) (fOpd 1) (fCon (.str "abcdefghijklmnopqrstuvwxyz")))) (sRet (fCon (.bool false))) fNext))
    (sRet (fCon (.bool true)))))
def f_is_number (Phi : Nm → List D → Option Rs) : Fs :=
    (sRet (fAnd (f1 (oIsi "int") (fOpd 0)) (fAnd (fNot (f1 (oIsi "bool") (fOpd 0))) (fChain (fCon (.int 0)) (fOpd 0) (fCon (.int 4))))))
def f_is_formed (Phi : Nm → List D → Option Rs) : Fs :=
    (fSeq (sIf (gOr (fT (f2 oEq (fOpd 1) (fCon (.int 0)))) (gOr (gNot (fT (f1 (oIsi "tuple") (fOpd 0)))) (gOr (fT (f2 oEq (fB oLen (fCons (fOpd 0) fNil)) (fCon (.int 0)))) (gNot (fT (f1 (oIsi "str") (f2 oIx (fOpd 0) (fCon (.int 0))))))))) (sRet (fCon (.bool false))) fNext)
    (fSeq (sIf (fT (f2 oEq (f2 oIx (fOpd 0) (fCon (.int 0))) (fCon (.str "mark")))) (sRet (fAnd (f2 oEq (fB oLen (fCons (fOpd 0) fNil)) (fCon (.int 2))) (fAnd (fCall (Phi .is_mark) (fCons (f2 oIx (fOpd 0) (fCon (.int 1))) fNil)) (f2 oNe (f2 oIx (fOpd 0) (fCon (.int 1))) (fCon (.str "")))))) fNext)
    (fSeq (sIf (fT (f2 oEq (f2 oIx (fOpd 0) (fCon (.int 0))) (fCon (.str "yes")))) (sRet (f2 oEq (fB oLen (fCons (fOpd 0) fNil)) (fCon (.int 1)))) fNext)
    (fSeq (sIf (fT (f2 oEq (f2 oIx (fOpd 0) (fCon (.int 0))) (fCon (.str "within")))) (sRet (fAnd (f2 oEq (fB oLen (fCons (fOpd 0) fNil)) (fCon (.int 3))) (fAnd (fCall (Phi .is_number) (fCons (f2 oIx (fOpd 0) (fCon (.int 1))) fNil)) (fCall (Phi .is_formed) (fCons (f2 oIx (fOpd 0) (fCon (.int 2))) (fCons (f2 oSub (fOpd 1) (fCon (.int 1))) fNil)))))) fNext)
    (fSeq (sIf (fT (f2 (oIn false) (f2 oIx (fOpd 0) (fCon (.int 0))) (fTup (fCons (fCon (.str "not")) (fCons (fCon (.str "next")) (fCons (fCon (.str "before")) fNil)))))) (sRet (fAnd (f2 oEq (fB oLen (fCons (fOpd 0) fNil)) (fCon (.int 2))) (fCall (Phi .is_formed) (fCons (f2 oIx (fOpd 0) (fCon (.int 1))) (fCons (f2 oSub (fOpd 1) (fCon (.int 1))) fNil))))) fNext)
    (fSeq (sIf (fT (f2 (oIn false) (f2 oIx (fOpd 0) (fCon (.int 0))) (fTup (fCons (fCon (.str "and")) (fCons (fCon (.str "or")) (fCons (fCon (.str "until")) (fCons (fCon (.str "since")) fNil))))))) (sRet (fAnd (f2 oEq (fB oLen (fCons (fOpd 0) fNil)) (fCon (.int 3))) (fAnd (fCall (Phi .is_formed) (fCons (f2 oIx (fOpd 0) (fCon (.int 1))) (fCons (f2 oSub (fOpd 1) (fCon (.int 1))) fNil))) (fCall (Phi .is_formed) (fCons (f2 oIx (fOpd 0) (fCon (.int 2))) (fCons (f2 oSub (fOpd 1) (fCon (.int 1))) fNil)))))) fNext)
    (sRet (fCon (.bool false)))))))))
def f_is_statement (Phi : Nm → List D → Option Rs) : Fs :=
    (sRet (fCall (Phi .is_formed) (fCons (fVar 0) (fCons (fCon (.int 6)) fNil))))
def f_written (Phi : Nm → List D → Option Rs) : Fs :=
    (fSeq (sIf (fT (f2 oEq (f2 oIx (fOpd 0) (fCon (.int 0))) (fCon (.str "mark")))) (sRet (f2 oAdd (f2 oAdd (fCon (.str "'")) (f2 oIx (fOpd 0) (fCon (.int 1)))) (fCon (.str "'")))) fNext)
    (fSeq (sIf (fT (f2 oEq (f2 oIx (fOpd 0) (fCon (.int 0))) (fCon (.str "yes")))) (sRet (fCon (.str "yes"))) fNext)
    (fSeq (sSetO 1 (fLst fNil))
    (fSeq (sFor (wTup (fSl (fOpd 0) (fiSm (fCon (.int 1))) fiNo)) (gfN 2) (sIf (fT (f1 (oIsi "tuple") (fOpd 2))) (sApp 1 (fCall (Phi .written) (fCons (fVar 2) fNil))) (sApp 1 (fB oStr (fCons (fOpd 2) fNil)))))
    (sRet (f2 oAdd (f2 oAdd (f2 oAdd (f2 oIx (fOpd 0) (fCon (.int 0))) (fCon (.str "("))) (fM1 oJoin (fCon (.str ", ")) (fOpd 1))) (fCon (.str ")"))))))))
def f_piece_at (Phi : Nm → List D → Option Rs) : Fs :=
    (fSeq (sIf (fT (f2 oEq (f2 oIx (fOpd 0) (fOpd 1)) (fCon (.str "'")))) (fSeq (sSet 2 (fM2 oFind3 (fOpd 0) (fCon (.str "'")) (f2 oAdd (fOpd 1) (fCon (.int 1)))))
    (fSeq (sIf (fT (f2 oLt (fOpd 2) (fCon (.int 0)))) (sRaise "BadText") fNext)
    (sRet (fSl (fOpd 0) (fiSm (fOpd 1)) (fiSm (f2 oAdd (fOpd 2) (fCon (.int 1)))))))) fNext)
    (fSeq (sSet 2 (fVar 1))
    (fSeq (sWh (gAnd (fT (f2 oLt (fOpd 2) (fB oLen (fCons (fOpd 0) fNil)))) (fT (f2 (oIn true) (f2 oIx (fOpd 0) (fOpd 2)) (fCon (.str "(), '"))))) (sSet 2 (f2 oAdd (fOpd 2) (fCon (.int 1)))))
    (sRet (fSl (fOpd 0) (fiSm (fOpd 1)) (fiSm (fB oMax2 (fCons (fOpd 2) (fCons (f2 oAdd (fOpd 1) (fCon (.int 1))) fNil)))))))))
def f_pieces_of (Phi : Nm → List D → Option Rs) : Fs :=
    (fSeq (sSetO 1 (fLst fNil))
    (fSeq (sSet 2 (fCon (.int 0)))
    (fSeq (sWh (fT (f2 oLt (fOpd 2) (fB oLen (fCons (fOpd 0) fNil)))) (fSeq (sApp 1 (fCall (Phi .piece_at) (fCons (fVar 0) (fCons (fVar 2) fNil))))
    (sSet 2 (f2 oAdd (fOpd 2) (fB oLen (fCons (f2 oIx (fOpd 1) (f1 oNeg (fCon (.int 1)))) fNil))))))
    (sRet (fOpd 1)))))
def f_part_of (Phi : Nm → List D → Option Rs) : Fs :=
    (fSeq (sIf (fT (f2 oEq (f2 oIx (fOpd 0) (fCon (.int 0))) (fCon (.str "'")))) (sRet (fTup (fCons (fCon (.str "mark")) (fCons (fSl (fOpd 0) (fiSm (fCon (.int 1))) (fiSm (f1 oNeg (fCon (.int 1))))) fNil)))) fNext)
    (fSeq (sIf (fT (f2 oEq (fOpd 0) (fCon (.str "yes")))) (sRet (fTup (fCons (fCon (.str "yes")) fNil))) fNext)
    (fSeq (sIf (fT (f2 (oIn false) (fOpd 0) (fTup (fCons (fCon (.str "0")) (fCons (fCon (.str "1")) (fCons (fCon (.str "2")) (fCons (fCon (.str "3")) (fCons (fCon (.str "4")) fNil)))))))) (sRet (fB oIntS (fCons (fOpd 0) fNil))) fNext)
    (sRaise "BadText"))))
def f_read_at (Phi : Nm → List D → Option Rs) : Fs :=
    (fSeq (sIf (gOr (fT (f2 oGe (fOpd 1) (fB oLen (fCons (fOpd 0) fNil)))) (fT (f2 oGt (fOpd 2) (fCon (.int 8))))) (sRaise "BadText") fNext)
    (fSeq (sIf (fT (f2 oNe (fSl (fOpd 0) (fiSm (f2 oAdd (fOpd 1) (fCon (.int 1)))) (fiSm (f2 oAdd (fOpd 1) (fCon (.int 2))))) (fLst (fCons (fCon (.str "(")) fNil)))) (sRet (fTup (fCons (fCall (Phi .part_of) (fCons (f2 oIx (fOpd 0) (fOpd 1)) fNil)) (fCons (f2 oAdd (fOpd 1) (fCon (.int 1))) fNil)))) fNext)
    (fSeq (sSetO 3 (fLst (fCons (f2 oIx (fOpd 0) (fOpd 1)) fNil)))
    (fSeq (sSet 4 (f2 oAdd (fOpd 1) (fCon (.int 1))))
    (fSeq (sWh (fT (f2 oInT (fSl (fOpd 0) (fiSm (fOpd 4)) (fiSm (f2 oAdd (fOpd 4) (fCon (.int 1))))) (fTup (fCons (fLst (fCons (fCon (.str "(")) fNil)) (fCons (fLst (fCons (fCon (.str ",")) fNil)) fNil))))) (fSeq (sAsg (fCall (Phi .read_at) (fCons (fVar 0) (fCons (f2 oAdd (f2 oAdd (fOpd 4) (fCon (.int 1))) (fB oInt1 (fCons (f2 oEq (f2 oIx (fOpd 0) (fOpd 4)) (fCon (.str ","))) fNil))) (fCons (f2 oAdd (fOpd 2) (fCon (.int 1))) fNil)))) (gfTup (gsCons (gfN 5) (gsCons (gfN 4) gsNil))))
    (sApp 3 (fVar 5))))
    (fSeq (sIf (fT (f2 oNe (fSl (fOpd 0) (fiSm (fOpd 4)) (fiSm (f2 oAdd (fOpd 4) (fCon (.int 1))))) (fLst (fCons (fCon (.str ")")) fNil)))) (sRaise "BadText") fNext)
    (sRet (fTup (fCons (fB oTuple (fCons (fOpd 3) fNil)) (fCons (f2 oAdd (fOpd 4) (fCon (.int 1))) fNil))))))))))
def f_read (Phi : Nm → List D → Option Rs) : Fs :=
    (fSeq (sIf (gNot (fT (f1 (oIsi "str") (fOpd 0)))) (sRaise "BadText") fNext)
    (fSeq (sAsg (fCall (Phi .read_at) (fCons (fCall (Phi .pieces_of) (fCons (fVar 0) fNil)) (fCons (fCon (.int 0)) (fCons (fCon (.int 0)) fNil)))) (gfTup (gsCons (gfN 1) (gsCons (gfN 2) gsNil))))
    (fSeq (sIf (gOr (gNot (fT (fCall (Phi .is_statement) (fCons (fVar 1) fNil)))) (fT (f2 oNe (fCall (Phi .written) (fCons (fVar 1) fNil)) (fOpd 0)))) (sRaise "BadText") fNext)
    (sRet (fVar 1)))))
def f_l_cell_at (Phi : Nm → List D → Option Rs) : Fs :=
    (fSeq (sIf (fT (f2 oLt (fOpd 1) (fB oLen (fCons (fOpd 0) fNil)))) (sRet (f2 oIx (fOpd 0) (fOpd 1))) fNext)
    (sRet (fCon (.int 0))))
def f_l_names (Phi : Nm → List D → Option Rs) : Fs :=
    (fSeq (sSet 1 (fCon (.str "abcdefghijklmnopqrstuvwxyz")))
    (fSeq (sSet 2 (fM1 oJoin (fCon (.str "")) (fLc (wRg1 (fCons (fCon (.int 6)) fNil)) (gfN 8) gYes (f2 oIx (fOpd 1) (f2 oMod (f2 oAdd (f2 oDiv (fOpd 0) (fCon (.int 7))) (f2 oMul (fCon (.int 5)) (fOpd 8))) (fCon (.int 26)))) [8])))
    (fSeq (sIf (fT (f2 oEq (f2 oMod (fOpd 0) (fCon (.int 3))) (fCon (.int 2)))) (fSeq (sSet 3 (f2 oAdd (fCon (.int 1)) (f2 oMod (f2 oDiv (fOpd 0) (fCon (.int 3))) (fCon (.int 4)))))
    (sRet (fLc (wRg1 (fCons (fCon (.int 3)) fNil)) (gfN 6) gYes (fSl (fOpd 2) fiNo (fiSm (f2 oAdd (fOpd 3) (fOpd 6)))) [6]))) fNext)
    (fSeq (sSet 3 (f2 oMod (f2 oDiv (fOpd 0) (fCon (.int 3))) (fCon (.int 6))))
    (fSeq (sSet 4 (f2 oMod (f2 oDiv (fOpd 0) (fCon (.int 18))) (f2 oAdd (fOpd 3) (fCon (.int 1)))))
    (fSeq (sSetO 5 (fLst fNil))
    (fSeq (sFor (wRg1 (fCons (fCon (.int 3)) fNil)) (gfN 6) (fSeq (sSet 7 (f2 oIx (fOpd 1) (f2 oMod (f2 oAdd (f2 oDiv (fOpd 0) (fCon (.int 90))) (f2 oMul (fCon (.int 7)) (fOpd 6))) (fCon (.int 26)))))
    (sApp 5 (f2 oAdd (f2 oAdd (fSl (fOpd 2) fiNo (fiSm (fOpd 4))) (fOpd 7)) (fSl (fOpd 2) (fiSm (fOpd 4)) (fiSm (fOpd 3)))))))
    (sRet (fOpd 5)))))))))
def f_l_all (Phi : Nm → List D → Option Rs) : Fs :=
    (fSeq (sSet 1 (fLst (fCons (fVar 0) fNil)))
    (fSeq (sFor (wTup (fSl (fOpd 0) (fiSm (fCon (.int 1))) fiNo)) (gfN 2) (sIf (fT (f1 (oIsi "tuple") (fOpd 2))) (sSet 1 (f2 oAdd (fOpd 1) (fCall (Phi .l_all) (fCons (fVar 2) fNil)))) fNext))
    (sRet (fVar 1))))
def f_l_wishes (Phi : Nm → List D → Option Rs) : Fs :=
    (fSeq (sSet 1 (fLst (fCons (fVar 0) fNil)))
    (fSeq (sFor (wLst (fCall (Phi .l_all) (fCons (fVar 0) fNil))) (gfN 2) (fSeq (sSet 3 (fLst fNil))
    (fSeq (sIf (fT (f2 oEq (f2 oIx (fOpd 2) (fCon (.int 0))) (fCon (.str "next")))) (sSet 3 (fLst (fCons (f2 oIx (fOpd 2) (fCon (.int 1))) fNil))) (sIf (fT (f2 oEq (f2 oIx (fOpd 2) (fCon (.int 0))) (fCon (.str "until")))) (sSet 3 (fLst (fCons (fVar 2) fNil))) (sIf (fT (f2 oEq (f2 oIx (fOpd 2) (fCon (.int 0))) (fCon (.str "within")))) (sSet 3 (fLc (wRg1 (fCons (f2 oIx (fOpd 2) (fCon (.int 1))) fNil)) (gfN 5) gYes (fTup (fCons (fCon (.str "within")) (fCons (fVar 5) (fCons (f2 oIx (fOpd 2) (fCon (.int 2))) fNil)))) [5])) fNext)))
    (sSet 1 (f2 oAdd (fOpd 1) (fLc (wLst (fVar 3)) (gfN 4) (fT (f2 (oIn true) (fOpd 4) (fOpd 1))) (fVar 4) [4]))))))
    (sRet (fVar 1))))
def f_l_fit (Phi : Nm → List D → Option Rs) : Fs :=
    (fSeq (sWh (fT (f2 oGt (fB oLen (fCons (fCall (Phi .l_wishes) (fCons (fVar 0) fNil)) fNil)) (fOpd 1))) (sSet 0 (f2 oIx (fOpd 0) (f1 oNeg (fCon (.int 1))))))
    (sRet (fVar 0)))
def f_l_built (Phi : Nm → List D → Option Rs) (Psy : Nx → Phx) : Fs :=
    (fSeq (sSetO 3 (fLst (fCons (fCon (.int 2)) fNil)))
    (fSeq (sSet 4 (f2 oAdd (fCon (.int 5)) (fB oInt1 (fCons (f2 oEq (f2 oMod (fCall (Phi .l_cell_at) (fCons (fVar 0) (fCons (fCon (.int 1)) fNil))) (fCon (.int 8))) (fCon (.int 5))) fNil))))
    (sRetX (xCallP (Phi .l_fit) (xCons (xCall 3 (Psy .l_made) (fVar 0) (fCons (fVar 1) (fCons (fVar 4) (fCons (fCon (.bool true)) fNil)))) (xCons (xOf (fVar 2)) xNil))))))
def f_l_text (Phi : Nm → List D → Option Rs) : Fs :=
    (fSeq (sIf (fT (f2 oEq (f2 oIx (fOpd 0) (fCon (.int 0))) (fCon (.str "mark")))) (sRet (f2 oAdd (f2 oAdd (fCon (.str "'")) (f2 oIx (fOpd 0) (fCon (.int 1)))) (fCon (.str "'")))) fNext)
    (fSeq (sIf (fT (f2 oEq (f2 oIx (fOpd 0) (fCon (.int 0))) (fCon (.str "yes")))) (sRet (fCon (.str "yes"))) fNext)
    (sRet (f2 oAdd (f2 oAdd (f2 oAdd (f2 oIx (fOpd 0) (fCon (.int 0))) (fCon (.str "("))) (fM1 oJoin (fCon (.str ", ")) (fLc (wTup (fSl (fOpd 0) (fiSm (fCon (.int 1))) fiNo)) (gfN 1) gYes (fCall (Phi .l_part_text) (fCons (fVar 1) fNil)) [1]))) (fCon (.str ")"))))))
def f_l_part_text (Phi : Nm → List D → Option Rs) : Fs :=
    (fSeq (sIf (fT (f1 (oIsi "tuple") (fOpd 0))) (sRet (fCall (Phi .l_text) (fCons (fVar 0) fNil))) fNext)
    (sRet (fB oStr (fCons (fOpd 0) fNil))))
def f_l_mark_at (Phi : Nm → List D → Option Rs) : Fs :=
    (fSeq (sSet 2 (f2 oAdd (fOpd 1) (fCon (.int 1))))
    (fSeq (sWh (gAnd (fT (f2 oLt (fOpd 2) (fB oLen (fCons (fOpd 0) fNil)))) (fT (f2 (oIn false) (f2 oIx (fOpd 0) (fOpd 2)) (fCon (.str "abcdefghijklmnopqrstuvwxyz"))))) (sSet 2 (f2 oAdd (fOpd 2) (fCon (.int 1)))))
    (fSeq (sIf (gOr (fT (f2 oNe (fSl (fOpd 0) (fiSm (fOpd 2)) (fiSm (f2 oAdd (fOpd 2) (fCon (.int 1))))) (fCon (.str "'")))) (gNot (fChainT (fCon (.int 1)) (f2 oSub (fOpd 2) (fOpd 1)) (fCon (.int 8))))) (sRet (fTup (fCons (fCon .none) (fCons (fVar 1) fNil)))) fNext)
    (sRet (fTup (fCons (fTup (fCons (fCon (.str "mark")) (fCons (fSl (fOpd 0) (fiSm (f2 oAdd (fOpd 1) (fCon (.int 1)))) (fiSm (fOpd 2))) fNil))) (fCons (f2 oAdd (fOpd 2) (fCon (.int 1))) fNil)))))))
def f_l_at (Phi : Nm → List D → Option Rs) : Fs :=
    (fSeq (sIf (fT (f2 oEq (fOpd 2) (fCon (.int 0)))) (sRet (fTup (fCons (fCon .none) (fCons (fVar 1) fNil)))) fNext)
    (fSeq (sIf (fT (f2 oEq (fSl (fOpd 0) (fiSm (fOpd 1)) (fiSm (f2 oAdd (fOpd 1) (fCon (.int 1))))) (fCon (.str "'")))) (sRet (fCall (Phi .l_mark_at) (fCons (fVar 0) (fCons (fVar 1) fNil)))) fNext)
    (fSeq (sIf (fT (f2 oEq (fSl (fOpd 0) (fiSm (fOpd 1)) (fiSm (f2 oAdd (fOpd 1) (fCon (.int 3))))) (fCon (.str "yes")))) (sRet (fTup (fCons (fTup (fCons (fCon (.str "yes")) fNil)) (fCons (f2 oAdd (fOpd 1) (fCon (.int 3))) fNil)))) fNext)
    (fSeq (sFor (wLst (fLst (fCons (fCon (.str "not")) (fCons (fCon (.str "and")) (fCons (fCon (.str "or")) (fCons (fCon (.str "next")) (fCons (fCon (.str "until")) (fCons (fCon (.str "within")) (fCons (fCon (.str "before")) (fCons (fCon (.str "since")) fNil)))))))))) (gfN 3) (sIf (fT (f2 oEq (fSl (fOpd 0) (fiSm (fOpd 1)) (fiSm (f2 oAdd (f2 oAdd (fOpd 1) (fB oLen (fCons (fOpd 3) fNil))) (fCon (.int 1))))) (f2 oAdd (fOpd 3) (fCon (.str "("))))) (sRet (fCall (Phi .l_parts_at) (fCons (fVar 0) (fCons (f2 oAdd (f2 oAdd (fOpd 1) (fB oLen (fCons (fOpd 3) fNil))) (fCon (.int 1))) (fCons (fVar 3) (fCons (fVar 2) fNil)))))) fNext))
    (sRet (fTup (fCons (fCon .none) (fCons (fVar 1) fNil))))))))
def f_l_parts_at (Phi : Nm → List D → Option Rs) : Fs :=
    (fSeq (sSet 4 (fTup (fCons (fVar 2) fNil)))
    (fSeq (sIf (fT (f2 oEq (fOpd 2) (fCon (.str "within")))) (fSeq (sIf (gOr (fT (f2 (oIn true) (fSl (fOpd 0) (fiSm (fOpd 1)) (fiSm (f2 oAdd (fOpd 1) (fCon (.int 1))))) (fLst (fCons (fCon (.str "0")) (fCons (fCon (.str "1")) (fCons (fCon (.str "2")) (fCons (fCon (.str "3")) (fCons (fCon (.str "4")) fNil)))))))) (fT (f2 oNe (fSl (fOpd 0) (fiSm (f2 oAdd (fOpd 1) (fCon (.int 1)))) (fiSm (f2 oAdd (fOpd 1) (fCon (.int 3))))) (fCon (.str ", "))))) (sRet (fTup (fCons (fCon .none) (fCons (fVar 1) fNil)))) fNext)
    (fSeq (sSet 4 (fTup (fCons (fVar 2) (fCons (fB oIntS (fCons (f2 oIx (fOpd 0) (fOpd 1)) fNil)) fNil))))
    (sSet 1 (f2 oAdd (fOpd 1) (fCon (.int 3)))))) fNext)
    (fSeq (sFor (wRg1 (fCons (f2 oAdd (fCon (.int 1)) (fB oInt1 (fCons (f2 (oIn false) (fOpd 2) (fTup (fCons (fCon (.str "and")) (fCons (fCon (.str "or")) (fCons (fCon (.str "until")) (fCons (fCon (.str "since")) fNil)))))) fNil))) fNil)) (gfN 5) (fSeq (sIf (gAnd (fT (f2 oEq (fOpd 5) (fCon (.int 1)))) (fT (f2 oNe (fSl (fOpd 0) (fiSm (fOpd 1)) (fiSm (f2 oAdd (fOpd 1) (fCon (.int 2))))) (fCon (.str ", "))))) (sRet (fTup (fCons (fCon .none) (fCons (fVar 1) fNil)))) fNext)
    (fSeq (sAsg (fCall (Phi .l_at) (fCons (fVar 0) (fCons (f2 oAdd (fOpd 1) (f2 oMul (fCon (.int 2)) (fOpd 5))) (fCons (f2 oSub (fOpd 3) (fCon (.int 1))) fNil)))) (gfTup (gsCons (gfN 6) (gsCons (gfN 1) gsNil))))
    (fSeq (sIf (fT (f2 oIs (fOpd 6) (fCon .none))) (sRet (fTup (fCons (fCon .none) (fCons (fVar 1) fNil)))) fNext)
    (sSet 4 (f2 oAdd (fOpd 4) (fTup (fCons (fVar 6) fNil))))))))
    (fSeq (sIf (fT (f2 oNe (fSl (fOpd 0) (fiSm (fOpd 1)) (fiSm (f2 oAdd (fOpd 1) (fCon (.int 1))))) (fCon (.str ")")))) (sRet (fTup (fCons (fCon .none) (fCons (fVar 1) fNil)))) fNext)
    (sRet (fTup (fCons (fVar 4) (fCons (f2 oAdd (fOpd 1) (fCon (.int 1))) fNil))))))))
def f_l_due (Phi : Nm → List D → Option Rs) : Fs :=
    (fSeq (sAsg (fCall (Phi .l_at) (fCons (fVar 0) (fCons (fCon (.int 0)) (fCons (fCon (.int 6)) fNil)))) (gfTup (gsCons (gfN 1) (gsCons (gfN 2) gsNil))))
    (fSeq (sIf (fT (f2 oNe (fOpd 2) (fB oLen (fCons (fOpd 0) fNil)))) (sRet (fCon .none)) fNext)
    (sRet (fVar 1))))
def f_l_odd (Phi : Nm → List D → Option Rs) : Fs :=
    (fSeq (sSet 2 (fLst (fCons (fCon (.str "")) (fCons (fCon (.str "no")) (fCons (fCon (.str "yes ")) (fCons (fCon (.str " yes")) (fCons (fCon (.str "Yes")) (fCons (fCon (.str "''")) (fCons (fCon (.str "'A'")) (fCons (fCon (.str "'abcdefg'")) (fCons (fCon (.str "(yes)")) (fCons (fCon (.str "not yes")) (fCons (fCon (.str "not(yes, yes)")) fNil)))))))))))))
    (fSeq (sSet 2 (f2 oAdd (fOpd 2) (fLst (fCons (fCon (.str "and(yes)")) (fCons (fCon (.str "yes()")) (fCons (fCon (.str "within(yes, 2)")) (fCons (fCon (.str "within(5, yes)")) (fCons (fCon (.str "within(02, yes)")) (fCons (fCon (.str "within(2,yes)")) fNil)))))))))
    (fSeq (sSet 2 (f2 oAdd (fOpd 2) (fLst (fCons (fCon (.str "not( yes)")) (fCons (fCon (.str "not(yes")) (fCons (fCon (.str "'a")) (fCons (fCon (.str "mark('a')")) fNil)))))))
    (sRet (f2 oIx (f2 oAdd (fOpd 2) (fLst (fCons (fCon (.str "or(yes,  yes)")) (fCons (f2 oAdd (f2 oAdd (f2 oMulS (fCon (.str "not(")) (fCon (.int 6))) (fCon (.str "yes"))) (f2 oMulS (fCon (.str ")")) (fCon (.int 6)))) (fCons (fVar 1) (fCons (fCon (.str "yes)")) (fCons (fCon (.str "within(2 , yes)")) fNil))))))) (f2 oMod (fOpd 0) (fCon (.int 26))))))))
def f_l_bent (Phi : Nm → List D → Option Rs) : Fs :=
    (fSeq (sSet 3 (f2 oMod (f2 oDiv (fOpd 1) (fCon (.int 4))) (f2 oAdd (fB oLen (fCons (fOpd 0) fNil)) (fCon (.int 1)))))
    (fSeq (sSet 4 (f2 oIx (fCon (.str "()', ynotaduwis02345zA\t")) (f2 oMod (f2 oDiv (fOpd 1) (fCon (.int 400))) (fCon (.int 23)))))
    (fSeq (sSet 5 (f2 oMod (fOpd 1) (fCon (.int 8))))
    (fSeq (sIf (fT (f2 oEq (fOpd 5) (fCon (.int 0)))) (sRet (f2 oAdd (f2 oAdd (fSl (fOpd 0) fiNo (fiSm (fOpd 3))) (fOpd 4)) (fSl (fOpd 0) (fiSm (fOpd 3)) fiNo))) fNext)
    (fSeq (sIf (fT (f2 oEq (fOpd 5) (fCon (.int 1)))) (sRet (f2 oAdd (fSl (fOpd 0) fiNo (fiSm (fOpd 3))) (fSl (fOpd 0) (fiSm (f2 oAdd (fOpd 3) (fCon (.int 1)))) fiNo))) fNext)
    (fSeq (sIf (fT (f2 oEq (fOpd 5) (fCon (.int 2)))) (sRet (f2 oAdd (f2 oAdd (fSl (fOpd 0) fiNo (fiSm (fOpd 3))) (fOpd 4)) (fSl (fOpd 0) (fiSm (f2 oAdd (fOpd 3) (fCon (.int 1)))) fiNo))) fNext)
    (fSeq (sIf (fT (f2 oEq (fOpd 5) (fCon (.int 3)))) (fSeq (sSetO 6 (fM1 oSplit (fOpd 0) (fCon (.str ", "))))
    (fSeq (sSet 7 (f2 oMod (f2 oDiv (fOpd 1) (fCon (.int 8))) (fB oLen (fCons (fOpd 6) fNil))))
    (fSeq (sSet 8 (f2 oMod (f2 oDiv (fOpd 1) (fCon (.int 80))) (fB oLen (fCons (fOpd 6) fNil))))
    (fSeq (sSet 9 (f2 oIx (fOpd 6) (fOpd 7)))
    (fSeq (sSetI 6 (fOpd 7) (f2 oIx (fOpd 6) (fOpd 8)))
    (fSeq (sSetI 6 (fOpd 8) (fVar 9))
    (sRet (fM1 oJoin (fCon (.str ", ")) (fOpd 6))))))))) fNext)
    (fSeq (sIf (fT (f2 oEq (fOpd 5) (fCon (.int 4)))) (sRet (fCall (Phi .l_odd) (fCons (f2 oDiv (fOpd 1) (fCon (.int 8))) (fCons (fVar 2) fNil)))) fNext)
    (sRet (fVar 0))))))))))
def f_l_same (Phi : Nm → List D → Option Rs) : Fs :=
    (fSeq (sIf (fT (f1 (oIsi "tuple") (fOpd 1))) (fSeq (sIf (gOr (gNot (fT (f1 (oIsi "tuple") (fOpd 0)))) (fT (f2 oNe (fB oLen (fCons (fOpd 0) fNil)) (fB oLen (fCons (fOpd 1) fNil))))) (sRet (fCon (.bool false))) fNext)
    (sRet (fB oAll (fCons (fLc (wZipT (fCons (fVar 0) (fCons (fVar 1) fNil))) (gfTup (gsCons (gfN 2) (gsCons (gfN 3) gsNil))) gYes (fCall (Phi .l_same) (fCons (fVar 2) (fCons (fVar 3) fNil))) [2, 3]) fNil)))) fNext)
    (sRet (fAnd (fNot (f1 (oIsi "bool") (fOpd 0))) (fAnd (f2 oEq (f1 (oIsi "int") (fOpd 0)) (f1 (oIsi "int") (fOpd 1))) (f2 oEq (fOpd 0) (fOpd 1))))))
def f_l_refused (Phi : Nm → List D → Option Rs) : Fs :=
    (fSeq (sTryW omR (sDrop (fCall (Phi .read) (fCons (fVar 0) fNil))))
    (sRet (fCon (.bool false))))
def f_law (Phi : Nm → List D → Option Rs) : Fs :=
    (fSeq (sSet 1 (fCall (Phi .l_names) (fCons (fCall (Phi .l_cell_at) (fCons (fVar 0) (fCons (fCon (.int 0)) fNil))) fNil)))
    (fSeq (sSet 2 (fCall (Phi .l_built) (fCons (fVar 0) (fCons (fVar 1) (fCons (fCon (.int 99)) fNil)))))
    (fSeq (sSet 3 (fCall (Phi .written) (fCons (fVar 2) fNil)))
    (fSeq (sIf (gOr (gNot (fT (f1 (oIsi "str") (fOpd 3)))) (fT (f2 oNe (fOpd 3) (fCall (Phi .l_text) (fCons (fVar 2) fNil))))) (sRet (fCon (.bool false))) fNext)
    (fSeq (sIf (gNot (fT (fCall (Phi .l_refused) (fCons (f2 oIx (fLst (fCons (fCon .none) (fCons (fCon (.int 5)) (fCons (fLst (fCons (fCon (.str "yes")) fNil)) (fCons (fTup (fCons (fCon (.str "yes")) fNil)) (fCons (fCon (.bool true)) fNil)))))) (f2 oMod (f2 oDiv (fCall (Phi .l_cell_at) (fCons (fVar 0) (fCons (fCon (.int 1)) fNil))) (fCon (.int 8))) (fCon (.int 5)))) fNil)))) (sRet (fCon (.bool false))) fNext)
    (fSeq (sSet 4 (fCall (Phi .l_bent) (fCons (fVar 3) (fCons (f2 oAdd (f2 oDiv (fCall (Phi .l_cell_at) (fCons (fVar 0) (fCons (fCon (.int 1)) fNil))) (fCon (.int 40))) (fCall (Phi .l_cell_at) (fCons (fVar 0) (fCons (fCon (.int 0)) fNil)))) (fCons (f2 oIx (fOpd 1) (fCon (.int 0))) fNil)))))
    (fSeq (sFor (wLst (fLst (fCons (fVar 3) (fCons (fVar 4) fNil)))) (gfN 5) (fSeq (sSet 6 (fCall (Phi .l_due) (fCons (fVar 5) fNil)))
    (fSeq (sIf (gAnd (fT (f2 oIs (fOpd 6) (fCon .none))) (gNot (fT (fCall (Phi .l_refused) (fCons (fVar 5) fNil))))) (sRet (fCon (.bool false))) fNext)
    (sIf (gAnd (fT (f2 oIsNt (fOpd 6) (fCon .none))) (gOr (fT (fCall (Phi .l_refused) (fCons (fVar 5) fNil))) (gNot (fT (fCall (Phi .l_same) (fCons (fCall (Phi .read) (fCons (fVar 5) fNil)) (fCons (fVar 6) fNil))))))) (sRet (fCon (.bool false))) fNext))))
    (sRet (fCon (.bool true))))))))))
def Phi : Nat → Nm → List D → Option Rs
  | 0 => fun _ _ => none
  | n + 1 => fun i => match i with
    | .is_mark => runF 1 2 (f_is_mark (Phi n))
    | .is_number => runF 1 1 (f_is_number (Phi n))
    | .is_formed => runF 2 2 (f_is_formed (Phi n))
    | .is_statement => runF 1 1 (f_is_statement (Phi n))
    | .written => runF 1 3 (f_written (Phi n))
    | .piece_at => runF 2 3 (f_piece_at (Phi n))
    | .pieces_of => runF 1 3 (f_pieces_of (Phi n))
    | .part_of => runF 1 1 (f_part_of (Phi n))
    | .read_at => runF 3 6 (f_read_at (Phi n))
    | .read => runF 1 3 (f_read (Phi n))
    | .l_cell_at => runF 2 2 (f_l_cell_at (Phi n))
    | .l_names => runF 1 9 (f_l_names (Phi n))
    | .l_all => runF 1 3 (f_l_all (Phi n))
    | .l_wishes => runF 1 6 (f_l_wishes (Phi n))
    | .l_fit => runF 2 2 (f_l_fit (Phi n))
    | .l_built => runF 3 5 (f_l_built (Phi n) (Psi n))
    | .l_text => runF 1 2 (f_l_text (Phi n))
    | .l_part_text => runF 1 1 (f_l_part_text (Phi n))
    | .l_mark_at => runF 2 3 (f_l_mark_at (Phi n))
    | .l_at => runF 3 4 (f_l_at (Phi n))
    | .l_parts_at => runF 4 7 (f_l_parts_at (Phi n))
    | .l_due => runF 1 3 (f_l_due (Phi n))
    | .l_odd => runF 2 3 (f_l_odd (Phi n))
    | .l_bent => runF 3 10 (f_l_bent (Phi n))
    | .l_same => runF 2 4 (f_l_same (Phi n))
    | .l_refused => runF 1 3 (f_l_refused (Phi n))
    | .l_draw => fun _ => none
    | .l_made => fun _ => none
    | .law => fun _ => none
theorem phi_is_mark (n : Nat) : Phi (n + 1) .is_mark = runF 1 2 (f_is_mark (Phi n)) := rfl
theorem phi_is_number (n : Nat) : Phi (n + 1) .is_number = runF 1 1 (f_is_number (Phi n)) := rfl
theorem phi_is_formed (n : Nat) : Phi (n + 1) .is_formed = runF 2 2 (f_is_formed (Phi n)) := rfl
theorem phi_is_statement (n : Nat) : Phi (n + 1) .is_statement = runF 1 1 (f_is_statement (Phi n)) := rfl
theorem phi_written (n : Nat) : Phi (n + 1) .written = runF 1 3 (f_written (Phi n)) := rfl
theorem phi_piece_at (n : Nat) : Phi (n + 1) .piece_at = runF 2 3 (f_piece_at (Phi n)) := rfl
theorem phi_pieces_of (n : Nat) : Phi (n + 1) .pieces_of = runF 1 3 (f_pieces_of (Phi n)) := rfl
theorem phi_part_of (n : Nat) : Phi (n + 1) .part_of = runF 1 1 (f_part_of (Phi n)) := rfl
theorem phi_read_at (n : Nat) : Phi (n + 1) .read_at = runF 3 6 (f_read_at (Phi n)) := rfl
theorem phi_read (n : Nat) : Phi (n + 1) .read = runF 1 3 (f_read (Phi n)) := rfl
theorem phi_l_cell_at (n : Nat) : Phi (n + 1) .l_cell_at = runF 2 2 (f_l_cell_at (Phi n)) := rfl
theorem phi_l_names (n : Nat) : Phi (n + 1) .l_names = runF 1 9 (f_l_names (Phi n)) := rfl
theorem phi_l_all (n : Nat) : Phi (n + 1) .l_all = runF 1 3 (f_l_all (Phi n)) := rfl
theorem phi_l_wishes (n : Nat) : Phi (n + 1) .l_wishes = runF 1 6 (f_l_wishes (Phi n)) := rfl
theorem phi_l_fit (n : Nat) : Phi (n + 1) .l_fit = runF 2 2 (f_l_fit (Phi n)) := rfl
theorem phi_l_built (n : Nat) : Phi (n + 1) .l_built = runF 3 5 (f_l_built (Phi n) (Psi n)) := rfl
theorem phi_l_text (n : Nat) : Phi (n + 1) .l_text = runF 1 2 (f_l_text (Phi n)) := rfl
theorem phi_l_part_text (n : Nat) : Phi (n + 1) .l_part_text = runF 1 1 (f_l_part_text (Phi n)) := rfl
theorem phi_l_mark_at (n : Nat) : Phi (n + 1) .l_mark_at = runF 2 3 (f_l_mark_at (Phi n)) := rfl
theorem phi_l_at (n : Nat) : Phi (n + 1) .l_at = runF 3 4 (f_l_at (Phi n)) := rfl
theorem phi_l_parts_at (n : Nat) : Phi (n + 1) .l_parts_at = runF 4 7 (f_l_parts_at (Phi n)) := rfl
theorem phi_l_due (n : Nat) : Phi (n + 1) .l_due = runF 1 3 (f_l_due (Phi n)) := rfl
theorem phi_l_odd (n : Nat) : Phi (n + 1) .l_odd = runF 2 3 (f_l_odd (Phi n)) := rfl
theorem phi_l_bent (n : Nat) : Phi (n + 1) .l_bent = runF 3 10 (f_l_bent (Phi n)) := rfl
theorem phi_l_same (n : Nat) : Phi (n + 1) .l_same = runF 2 4 (f_l_same (Phi n)) := rfl
theorem phi_l_refused (n : Nat) : Phi (n + 1) .l_refused = runF 1 3 (f_l_refused (Phi n)) := rfl
structure ZZ (mg : Str → Option Value) : Prop where
  len : mg "len" = none
  isinstance : mg "isinstance" = none
  str : mg "str" = none
  int : mg "int" = none
  bool : mg "bool" = none
  tuple : mg "tuple" = none
  max : mg "max" = none
  range : mg "range" = none
  zip : mg "zip" = none
  all : mg "all" = none
  ValueError : mg "ValueError" = none
structure GG (mg : Str → Option Value) : Prop where
  LETTERS : ∃ t, mg "LETTERS" = some (.str "abcdefghijklmnopqrstuvwxyz" t)
  MOST_LETTERS : ∃ t, mg "MOST_LETTERS" = some (.int 6 t)
  MOST_WITHIN : ∃ t, mg "MOST_WITHIN" = some (.int 4 t)
  MOST_DEEP : ∃ t, mg "MOST_DEEP" = some (.int 6 t)
section
variable {P : Program} {w : World} {K : PySem.W.Frag} {mg : Str → Option Value} {base : Heap} {M : Pm} {Cc Tc fI : Addr} {fdI : FuncData} {fa : Nm → Addr} {fdd : Nm → FuncData} {dE : Str → Addr} {Phi : Nm → List D → Option Rs} {Psy : Nx → Phx} {psi_ : D → Option D} {τ : D → Option Rs} {ω : Str → Option D} {j ji jT jw k : Nat} {Cs fw fT : Addr} {fdw fdT : FuncData} {rD rc0 rc1 rc2 rc3 rc4 : Addr}
theorem d_l_draw (D : DD K mg fa fdd) (Z : ZZ mg) (G : GG mg) (EE_ : EE K mg M dE) (RW : Rfw K mg M Cs rD rc0 rc1 rc2 rc3 rc4) (OX : ∀ i : Nx, FnOk P w K mg base (L2.CX P w) j (fa i.n) (fdd i.n) (psN i.n) (spS K M (Psy i))) (hk : j ≤ k) (cdv : Value) (A : Around) (outer : List Env) (s : Shared) (H : Hp) (E : XK) (C : CxF K (cxOf (L2.CX P w) P w K mg base N_l_draw (nmS .l_draw) (defScope s_l_draw) (fa .l_draw) cdv A outer s H E) E k)
    (tk : Takes (cxOf (L2.CX P w) P w K mg base N_l_draw (nmS .l_draw) (defScope s_l_draw) (fa .l_draw) cdv A outer s H E) (fun cls d _ H => E cls d H)) : ∃ t, JXB K (cxOf (L2.CX P w) P w K mg base N_l_draw (nmS .l_draw) (defScope s_l_draw) (fa .l_draw) cdv A outer s H E) M 1 (defBody s_l_draw) t (f_l_draw Psy) := ⟨_,
    (xb_cons (xs_put (E := E) (JE.f2c (je_add C (JE.c2o (je_ix C (jo_var (i := 1)) (JE.c2o je_int))) (JE.c2o je_int))) (JE.pe (K := K) (M := M) (E := E) (jo_var (i := 1))) (JE.c2o je_int))
    (xb_cons (xs_set (j := 2) C.nd (xe_of (E := E) (je_sub (JE.c2o (je_ix C (jo_var (i := 1)) (JE.c2o je_int))) (JE.c2o je_int))))
    (xb_cons (xs_if (E := E) (jt_lt (jo_var (i := 2)) (JE.c2o (je_len C Z.len (by rfl) (jo_var (i := 0))))) (xb_one (xs_ret (xe_of (E := E) (je_ix C (jo_var (i := 0)) (jo_var (i := 2)))))) xb_nil)
    (xb_cons (xs_if (E := E) (JW.jt (jw_and (jt_gt (JE.c2o (je_len C Z.len (by rfl) (jo_var (i := 0)))) (JE.c2o je_int)) (jw_and1 (jt_lt (jo_var (i := 2)) (JE.c2o je_int))))) (xb_one (xs_ret (xe_of (E := E) (je_mod (JE.c2o (je_mul (JE.f2o (je_add C (JE.c2o (je_ix C (jo_var (i := 0)) (JE.c2o (je_mod (jo_var (i := 2)) (JE.c2o (je_len C Z.len (by rfl) (jo_var (i := 0)))))))) (JE.c2o (je_mul (JE.c2o je_int) (jo_var (i := 2)))))) (JE.c2o je_int))) (JE.c2o je_int))))) xb_nil)
    (xb_one (xs_ret (xe_of (E := E) je_int)))))))⟩
theorem d_l_made (D : DD K mg fa fdd) (Z : ZZ mg) (G : GG mg) (EE_ : EE K mg M dE) (RW : Rfw K mg M Cs rD rc0 rc1 rc2 rc3 rc4) (OX : ∀ i : Nx, FnOk P w K mg base (L2.CX P w) j (fa i.n) (fdd i.n) (psN i.n) (spS K M (Psy i))) (hk : j ≤ k) (cdv : Value) (A : Around) (outer : List Env) (s : Shared) (H : Hp) (E : XK) (C : CxF K (cxOf (L2.CX P w) P w K mg base N_l_made (nmS .l_made) (defScope s_l_made) (fa .l_made) cdv A outer s H E) E k)
    (tk : Takes (cxOf (L2.CX P w) P w K mg base N_l_made (nmS .l_made) (defScope s_l_made) (fa .l_made) cdv A outer s H E) (fun cls d _ H => E cls d H)) : ∃ t, JXB K (cxOf (L2.CX P w) P w K mg base N_l_made (nmS .l_made) (defScope s_l_made) (fa .l_made) cdv A outer s H E) M 1 (defBody s_l_made) t (f_l_made Psy) := ⟨_,
    (xb_cons (xs_set (j := 5) C.nd (xe_call C (OX .l_draw) hk (D.d .l_draw).b (D.d .l_draw).m (D.d .l_draw).F.kp  (by rfl) (je_var (i := 0)) (JE.pe (K := K) (M := M) (E := E) (jo_var (i := 1))) jc_nil))
    (xb_cons (xs_set (j := 6) C.nd (xe_of (E := E) (je_div (jo_var (i := 5)) (JE.c2o je_int))))
    (xb_cons (xs_if (E := E) (JW.jt (jw_or (jt_lt (jo_var (i := 3)) (JE.c2o je_int)) (jw_or1 (jt_lt (JE.c2o (je_mod (jo_var (i := 5)) (JE.c2o je_int))) (JE.c2o je_int))))) (xb_cons (xs_if (E := E) (jt_eq C (JE.c2o (je_mod (jo_var (i := 6)) (JE.c2o je_int))) (JE.c2o je_int)) (xb_one (xs_ret (xe_of (E := E) (je_tup (jc_cons je_str jc_nil))))) xb_nil)
    (xb_one (xs_ret (xe_of (E := E) (je_tup (jc_cons je_str (jc_cons (je_ix C (jo_var (i := 2)) (JE.c2o (je_mod (jo_var (i := 6)) (JE.c2o je_int)))) jc_nil))))))) xb_nil)
    (xb_cons (xs_set (j := 7) C.nd (xe_of (E := E) je_str))
    (xb_cons (xs_if (E := E) (jt_val (je_var (i := 4))) (xb_one (xs_set (j := 7) C.nd (xe_of (E := E) je_str))) xb_nil)
    (xb_cons (xs_set (j := 8) C.nd (xe_of (E := E) (je_ix C (JE.f2o (je_split (jo_var (i := 7)) (JE.c2o je_str))) (JE.c2o (je_sub (JE.c2o (je_mod (jo_var (i := 5)) (JE.c2o je_int))) (JE.c2o je_int))))))
    (xb_cons (xs_set (j := 4) C.nd (xe_of (E := E) (je_and (je_var (i := 4)) (je_one (je_ni C (jo_var (i := 8)) (JE.c2o (je_tup (jc_cons je_str (jc_cons je_str jc_nil)))))))))
    (xb_cons (xs_set (j := 9) C.nd (xe_call C (OX .l_made) hk (D.d .l_made).b (D.d .l_made).m (D.d .l_made).F.kp  (by rfl) (je_var (i := 0)) (JE.pe (K := K) (M := M) (E := E) (jo_var (i := 1))) (jc_cons (je_var (i := 2)) (jc_cons (je_sub (jo_var (i := 3)) (JE.c2o je_int)) (jc_cons (je_var (i := 4)) jc_nil)))))
    (xb_cons (xs_if (E := E) (jt_eq C (jo_var (i := 8)) (JE.c2o je_str)) (xb_one (xs_ret (xe_of (E := E) (je_tup (jc_cons (je_var (i := 8)) (jc_cons (je_ix C (JE.f2o (je_lst (jc_cons je_int (jc_cons je_int (jc_cons je_int (jc_cons je_int (jc_cons (je_mod (JE.c2o (je_div (jo_var (i := 6)) (JE.c2o je_int))) (JE.c2o je_int)) jc_nil))))))) (JE.c2o (je_mod (jo_var (i := 6)) (JE.c2o je_int)))) (jc_cons (je_var (i := 9)) jc_nil))))))) xb_nil)
    (xb_cons (xs_if (E := E) (jt_in C (jo_var (i := 8)) (JE.c2o (je_tup (jc_cons je_str (jc_cons je_str (jc_cons je_str jc_nil)))))) (xb_one (xs_ret (xe_of (E := E) (je_tup (jc_cons (je_var (i := 8)) (jc_cons (je_var (i := 9)) jc_nil)))))) xb_nil)
    (xb_one (xs_ret (xe_tup (xa_cons (xe_of (E := E) (je_var (i := 8))) (xa_cons (xe_of (E := E) (je_var (i := 9))) (xa_cons (xe_call C (OX .l_made) hk (D.d .l_made).b (D.d .l_made).m (D.d .l_made).F.kp  (by rfl) (je_var (i := 0)) (JE.pe (K := K) (M := M) (E := E) (jo_var (i := 1))) (jc_cons (je_var (i := 2)) (jc_cons (je_sub (jo_var (i := 3)) (JE.c2o je_int)) (jc_cons (je_var (i := 4)) jc_nil)))) xa_nil))))))))))))))))⟩
theorem d_is_mark (D : DD K mg fa fdd) (Z : ZZ mg) (G : GG mg) (EE_ : EE K mg M dE) (RW : Rfw K mg M Cs rD rc0 rc1 rc2 rc3 rc4) (OK : ∀ i : Nm, FnOk P w K mg base (L2.CX P w) j (fa i) (fdd i) (psN i) (spF K M (Phi i))) (hk : j ≤ k) (cdv : Value) (A : Around) (outer : List Env) (s : Shared) (H : Hp) (E : XK) (C : CxF K (cxOf (L2.CX P w) P w K mg base N_is_mark (nmS .is_mark) (defScope s_is_mark) (fa .is_mark) cdv A outer s H E) E k)
    (tk : Takes (cxOf (L2.CX P w) P w K mg base N_is_mark (nmS .is_mark) (defScope s_is_mark) (fa .is_mark) cdv A outer s H E) (fun cls d _ H => E cls d H)) : ∃ t, JB K (cxOf (L2.CX P w) P w K mg base N_is_mark (nmS .is_mark) (defScope s_is_mark) (fa .is_mark) cdv A outer s H E) M E (defBody s_is_mark) t (f_is_mark Phi) := ⟨_,
    (jb_cons (js_if (JW.jt (jw_or (jt_not (jt_val (je_isi (T := "str") C Z.isinstance (by rfl) Z.str (by rfl) (by decide +kernel) (by decide) (jo_var (i := 0))))) (jw_or1 (jt_gt (JE.c2o (je_len C Z.len (by rfl) (jo_var (i := 0)))) (JE.c2o (je_gint G.MOST_LETTERS rfl)))))) (jb_one (js_ret je_bl)) jb_nil)
    (jb_cons (js_for C (ji_str (je_var (i := 0))) (jg_name (i := 1) C.nd) (jb_one (js_if (jt_ni C (jo_var (i := 1)) (JE.c2o (je_gstr G.LETTERS rfl))) (jb_one (js_ret je_bl)) jb_nil)))
    (jb_one (js_ret je_bl))))⟩
theorem d_is_number (D : DD K mg fa fdd) (Z : ZZ mg) (G : GG mg) (EE_ : EE K mg M dE) (RW : Rfw K mg M Cs rD rc0 rc1 rc2 rc3 rc4) (OK : ∀ i : Nm, FnOk P w K mg base (L2.CX P w) j (fa i) (fdd i) (psN i) (spF K M (Phi i))) (hk : j ≤ k) (cdv : Value) (A : Around) (outer : List Env) (s : Shared) (H : Hp) (E : XK) (C : CxF K (cxOf (L2.CX P w) P w K mg base N_is_number (nmS .is_number) (defScope s_is_number) (fa .is_number) cdv A outer s H E) E k)
    (tk : Takes (cxOf (L2.CX P w) P w K mg base N_is_number (nmS .is_number) (defScope s_is_number) (fa .is_number) cdv A outer s H E) (fun cls d _ H => E cls d H)) : ∃ t, JB K (cxOf (L2.CX P w) P w K mg base N_is_number (nmS .is_number) (defScope s_is_number) (fa .is_number) cdv A outer s H E) M E (defBody s_is_number) t (f_is_number Phi) := ⟨_,
    (jb_one (js_ret (je_and (je_isi (T := "int") C Z.isinstance (by rfl) Z.int (by rfl) (by decide +kernel) (by decide) (jo_var (i := 0))) (je_and (je_not (je_isi (T := "bool") C Z.isinstance (by rfl) Z.bool (by rfl) (by decide +kernel) (by decide) (jo_var (i := 0)))) (je_one (je_chain (JE.c2o je_int) (jo_var (i := 0)) (JE.c2o (je_gint G.MOST_WITHIN rfl))))))))⟩
theorem d_is_formed (D : DD K mg fa fdd) (Z : ZZ mg) (G : GG mg) (EE_ : EE K mg M dE) (RW : Rfw K mg M Cs rD rc0 rc1 rc2 rc3 rc4) (OK : ∀ i : Nm, FnOk P w K mg base (L2.CX P w) j (fa i) (fdd i) (psN i) (spF K M (Phi i))) (hk : j ≤ k) (cdv : Value) (A : Around) (outer : List Env) (s : Shared) (H : Hp) (E : XK) (C : CxF K (cxOf (L2.CX P w) P w K mg base N_is_formed (nmS .is_formed) (defScope s_is_formed) (fa .is_formed) cdv A outer s H E) E k)
    (tk : Takes (cxOf (L2.CX P w) P w K mg base N_is_formed (nmS .is_formed) (defScope s_is_formed) (fa .is_formed) cdv A outer s H E) (fun cls d _ H => E cls d H)) : ∃ t, JB K (cxOf (L2.CX P w) P w K mg base N_is_formed (nmS .is_formed) (defScope s_is_formed) (fa .is_formed) cdv A outer s H E) M E (defBody s_is_formed) t (f_is_formed Phi) := ⟨_,
    (jb_cons (js_if (JW.jt (jw_or (jt_eq C (jo_var (i := 1)) (JE.c2o je_int)) (jw_or (jt_not (jt_val (je_isi (T := "tuple") C Z.isinstance (by rfl) Z.tuple (by rfl) (by decide +kernel) (by decide) (jo_var (i := 0))))) (jw_or (jt_eq C (JE.c2o (je_len C Z.len (by rfl) (jo_var (i := 0)))) (JE.c2o je_int)) (jw_or1 (jt_not (jt_val (je_isi (T := "str") C Z.isinstance (by rfl) Z.str (by rfl) (by decide +kernel) (by decide) (JE.c2o (je_ix C (jo_var (i := 0)) (JE.c2o je_int))))))))))) (jb_one (js_ret je_bl)) jb_nil)
    (jb_cons (js_if (jt_eq C (JE.c2o (je_ix C (jo_var (i := 0)) (JE.c2o je_int))) (JE.c2o je_str)) (jb_one (js_ret (je_and (je_eq C (JE.c2o (je_len C Z.len (by rfl) (jo_var (i := 0)))) (JE.c2o je_int)) (je_and (je_call C (OK .is_mark) hk (D.d .is_mark).b (D.d .is_mark).m (D.d .is_mark).F.kp  (by rfl) (jc_cons (je_ix C (jo_var (i := 0)) (JE.c2o je_int)) jc_nil)) (je_one (je_ne C (JE.c2o (je_ix C (jo_var (i := 0)) (JE.c2o je_int))) (JE.c2o je_str))))))) jb_nil)
    (jb_cons (js_if (jt_eq C (JE.c2o (je_ix C (jo_var (i := 0)) (JE.c2o je_int))) (JE.c2o je_str)) (jb_one (js_ret (je_eq C (JE.c2o (je_len C Z.len (by rfl) (jo_var (i := 0)))) (JE.c2o je_int)))) jb_nil)
    (jb_cons (js_if (jt_eq C (JE.c2o (je_ix C (jo_var (i := 0)) (JE.c2o je_int))) (JE.c2o je_str)) (jb_one (js_ret (je_and (je_eq C (JE.c2o (je_len C Z.len (by rfl) (jo_var (i := 0)))) (JE.c2o je_int)) (je_and (je_call C (OK .is_number) hk (D.d .is_number).b (D.d .is_number).m (D.d .is_number).F.kp  (by rfl) (jc_cons (je_ix C (jo_var (i := 0)) (JE.c2o je_int)) jc_nil)) (je_one (je_call C (OK .is_formed) hk (D.d .is_formed).b (D.d .is_formed).m (D.d .is_formed).F.kp  (by rfl) (jc_cons (je_ix C (jo_var (i := 0)) (JE.c2o je_int)) (jc_cons (je_sub (jo_var (i := 1)) (JE.c2o je_int)) jc_nil)))))))) jb_nil)
    (jb_cons (js_if (jt_in C (JE.c2o (je_ix C (jo_var (i := 0)) (JE.c2o je_int))) (JE.c2o (je_tup (jc_cons je_str (jc_cons je_str (jc_cons je_str jc_nil)))))) (jb_one (js_ret (je_and (je_eq C (JE.c2o (je_len C Z.len (by rfl) (jo_var (i := 0)))) (JE.c2o je_int)) (je_one (je_call C (OK .is_formed) hk (D.d .is_formed).b (D.d .is_formed).m (D.d .is_formed).F.kp  (by rfl) (jc_cons (je_ix C (jo_var (i := 0)) (JE.c2o je_int)) (jc_cons (je_sub (jo_var (i := 1)) (JE.c2o je_int)) jc_nil))))))) jb_nil)
    (jb_cons (js_if (jt_in C (JE.c2o (je_ix C (jo_var (i := 0)) (JE.c2o je_int))) (JE.c2o (je_tup (jc_cons je_str (jc_cons je_str (jc_cons je_str (jc_cons je_str jc_nil))))))) (jb_one (js_ret (je_and (je_eq C (JE.c2o (je_len C Z.len (by rfl) (jo_var (i := 0)))) (JE.c2o je_int)) (je_and (je_call C (OK .is_formed) hk (D.d .is_formed).b (D.d .is_formed).m (D.d .is_formed).F.kp  (by rfl) (jc_cons (je_ix C (jo_var (i := 0)) (JE.c2o je_int)) (jc_cons (je_sub (jo_var (i := 1)) (JE.c2o je_int)) jc_nil))) (je_one (je_call C (OK .is_formed) hk (D.d .is_formed).b (D.d .is_formed).m (D.d .is_formed).F.kp  (by rfl) (jc_cons (je_ix C (jo_var (i := 0)) (JE.c2o je_int)) (jc_cons (je_sub (jo_var (i := 1)) (JE.c2o je_int)) jc_nil)))))))) jb_nil)
    (jb_one (js_ret je_bl))))))))⟩
theorem d_is_statement (D : DD K mg fa fdd) (Z : ZZ mg) (G : GG mg) (EE_ : EE K mg M dE) (RW : Rfw K mg M Cs rD rc0 rc1 rc2 rc3 rc4) (OK : ∀ i : Nm, FnOk P w K mg base (L2.CX P w) j (fa i) (fdd i) (psN i) (spF K M (Phi i))) (hk : j ≤ k) (cdv : Value) (A : Around) (outer : List Env) (s : Shared) (H : Hp) (E : XK) (C : CxF K (cxOf (L2.CX P w) P w K mg base N_is_statement (nmS .is_statement) (defScope s_is_statement) (fa .is_statement) cdv A outer s H E) E k)
    (tk : Takes (cxOf (L2.CX P w) P w K mg base N_is_statement (nmS .is_statement) (defScope s_is_statement) (fa .is_statement) cdv A outer s H E) (fun cls d _ H => E cls d H)) : ∃ t, JB K (cxOf (L2.CX P w) P w K mg base N_is_statement (nmS .is_statement) (defScope s_is_statement) (fa .is_statement) cdv A outer s H E) M E (defBody s_is_statement) t (f_is_statement Phi) := ⟨_,
    (jb_one (js_ret (je_call C (OK .is_formed) hk (D.d .is_formed).b (D.d .is_formed).m (D.d .is_formed).F.kp  (by rfl) (jc_cons (je_var (i := 0)) (jc_cons (je_gint G.MOST_DEEP rfl) jc_nil)))))⟩
theorem d_written (D : DD K mg fa fdd) (Z : ZZ mg) (G : GG mg) (EE_ : EE K mg M dE) (RW : Rfw K mg M Cs rD rc0 rc1 rc2 rc3 rc4) (OK : ∀ i : Nm, FnOk P w K mg base (L2.CX P w) j (fa i) (fdd i) (psN i) (spF K M (Phi i))) (hk : j ≤ k) (cdv : Value) (A : Around) (outer : List Env) (s : Shared) (H : Hp) (E : XK) (C : CxF K (cxOf (L2.CX P w) P w K mg base N_written (nmS .written) (defScope s_written) (fa .written) cdv A outer s H E) E k)
    (tk : Takes (cxOf (L2.CX P w) P w K mg base N_written (nmS .written) (defScope s_written) (fa .written) cdv A outer s H E) (fun cls d _ H => E cls d H)) : ∃ t, JB K (cxOf (L2.CX P w) P w K mg base N_written (nmS .written) (defScope s_written) (fa .written) cdv A outer s H E) M E (defBody s_written) t (f_written Phi) := ⟨_,
    (jb_cons (js_if (jt_eq C (JE.c2o (je_ix C (jo_var (i := 0)) (JE.c2o je_int))) (JE.c2o je_str)) (jb_one (js_ret (JE.f2c (je_add C (JE.f2o (je_add C (JE.c2o je_str) (JE.c2o (je_ix C (jo_var (i := 0)) (JE.c2o je_int))))) (JE.c2o je_str))))) jb_nil)
    (jb_cons (js_if (jt_eq C (JE.c2o (je_ix C (jo_var (i := 0)) (JE.c2o je_int))) (JE.c2o je_str)) (jb_one (js_ret je_str)) jb_nil)
    (jb_cons (js_setO (i := 1) C.nd (je_lst jc_nil))
    (jb_cons (js_for C (ji_tup C (JE.f2c (je_slice C (jo_var (i := 0)) (ji_sm (JE.c2o je_int)) ji_no))) (jg_name (i := 2) C.nd) (jb_one (js_if (jt_val (je_isi (T := "tuple") C Z.isinstance (by rfl) Z.tuple (by rfl) (by decide +kernel) (by decide) (jo_var (i := 2)))) (jb_one (js_appX (i := 1) C (jo_var (i := 1)) (je_call C (OK .written) hk (D.d .written).b (D.d .written).m (D.d .written).F.kp  (by rfl) (jc_cons (je_var (i := 2)) jc_nil)))) (jb_one (js_appX (i := 1) C (jo_var (i := 1)) (je_strOf Z.str (by rfl) (jo_var (i := 2))))))))
    (jb_one (js_ret (JE.f2c (je_add C (JE.f2o (je_add C (JE.f2o (je_add C (JE.c2o (je_ix C (jo_var (i := 0)) (JE.c2o je_int))) (JE.c2o je_str))) (JE.c2o (je_join C (JE.c2o je_str) (jo_var (i := 1)))))) (JE.c2o je_str)))))))))⟩
theorem d_piece_at (D : DD K mg fa fdd) (Z : ZZ mg) (G : GG mg) (EE_ : EE K mg M dE) (RW : Rfw K mg M Cs rD rc0 rc1 rc2 rc3 rc4) (OK : ∀ i : Nm, FnOk P w K mg base (L2.CX P w) j (fa i) (fdd i) (psN i) (spF K M (Phi i))) (hk : j ≤ k) (cdv : Value) (A : Around) (outer : List Env) (s : Shared) (H : Hp) (E : XK) (C : CxF K (cxOf (L2.CX P w) P w K mg base N_piece_at (nmS .piece_at) (defScope s_piece_at) (fa .piece_at) cdv A outer s H E) E k)
    (tk : Takes (cxOf (L2.CX P w) P w K mg base N_piece_at (nmS .piece_at) (defScope s_piece_at) (fa .piece_at) cdv A outer s H E) (fun cls d _ H => E cls d H)) : ∃ t, JB K (cxOf (L2.CX P w) P w K mg base N_piece_at (nmS .piece_at) (defScope s_piece_at) (fa .piece_at) cdv A outer s H E) M E (defBody s_piece_at) t (f_piece_at Phi) := ⟨_,
    (jb_cons (js_if (jt_eq C (JE.c2o (je_ix C (jo_var (i := 0)) (jo_var (i := 1)))) (JE.c2o je_str)) (jb_cons (js_set (i := 2) C.nd (je_find3 C (jo_var (i := 0)) (JE.c2o je_str) (JE.f2o (je_add C (jo_var (i := 1)) (JE.c2o je_int)))))
    (jb_cons (js_if (jt_lt (jo_var (i := 2)) (JE.c2o je_int)) (jb_one (js_raiseE C tk EE_.BadText (by rfl))) jb_nil)
    (jb_one (js_ret (JE.f2c (je_slice C (jo_var (i := 0)) (ji_sm (jo_var (i := 1))) (ji_sm (JE.f2o (je_add C (jo_var (i := 2)) (JE.c2o je_int)))))))))) jb_nil)
    (jb_cons (js_set (i := 2) C.nd (je_var (i := 1)))
    (jb_cons (js_wh C (JW.jt (jw_and (jt_lt (jo_var (i := 2)) (JE.c2o (je_len C Z.len (by rfl) (jo_var (i := 0))))) (jw_and1 (jt_ni C (JE.c2o (je_ix C (jo_var (i := 0)) (jo_var (i := 2)))) (JE.c2o je_str))))) (jb_one (js_set (i := 2) C.nd (JE.f2c (je_add C (jo_var (i := 2)) (JE.c2o je_int))))))
    (jb_one (js_ret (JE.f2c (je_slice C (jo_var (i := 0)) (ji_sm (jo_var (i := 1))) (ji_sm (JE.c2o (je_max2 C Z.max (by rfl) (jo_var (i := 2)) (JE.f2o (je_add C (jo_var (i := 1)) (JE.c2o je_int)))))))))))))⟩
theorem d_pieces_of (D : DD K mg fa fdd) (Z : ZZ mg) (G : GG mg) (EE_ : EE K mg M dE) (RW : Rfw K mg M Cs rD rc0 rc1 rc2 rc3 rc4) (OK : ∀ i : Nm, FnOk P w K mg base (L2.CX P w) j (fa i) (fdd i) (psN i) (spF K M (Phi i))) (hk : j ≤ k) (cdv : Value) (A : Around) (outer : List Env) (s : Shared) (H : Hp) (E : XK) (C : CxF K (cxOf (L2.CX P w) P w K mg base N_pieces_of (nmS .pieces_of) (defScope s_pieces_of) (fa .pieces_of) cdv A outer s H E) E k)
    (tk : Takes (cxOf (L2.CX P w) P w K mg base N_pieces_of (nmS .pieces_of) (defScope s_pieces_of) (fa .pieces_of) cdv A outer s H E) (fun cls d _ H => E cls d H)) : ∃ t, JB K (cxOf (L2.CX P w) P w K mg base N_pieces_of (nmS .pieces_of) (defScope s_pieces_of) (fa .pieces_of) cdv A outer s H E) M E (defBody s_pieces_of) t (f_pieces_of Phi) := ⟨_,
    (jb_cons (js_setO (i := 1) C.nd (je_lst jc_nil))
    (jb_cons (js_set (i := 2) C.nd je_int)
    (jb_cons (js_wh C (jt_lt (jo_var (i := 2)) (JE.c2o (je_len C Z.len (by rfl) (jo_var (i := 0))))) (jb_cons (js_appX (i := 1) C (jo_var (i := 1)) (je_call C (OK .piece_at) hk (D.d .piece_at).b (D.d .piece_at).m (D.d .piece_at).F.kp  (by rfl) (jc_cons (je_var (i := 0)) (jc_cons (je_var (i := 2)) jc_nil))))
    (jb_one (js_set (i := 2) C.nd (JE.f2c (je_add C (jo_var (i := 2)) (JE.c2o (je_len C Z.len (by rfl) (JE.c2o (je_ix C (jo_var (i := 1)) (JE.c2o (je_neg (JE.c2o je_int)))))))))))))
    (jb_one (js_retV (jo_var (i := 1)))))))⟩
theorem d_part_of (D : DD K mg fa fdd) (Z : ZZ mg) (G : GG mg) (EE_ : EE K mg M dE) (RW : Rfw K mg M Cs rD rc0 rc1 rc2 rc3 rc4) (OK : ∀ i : Nm, FnOk P w K mg base (L2.CX P w) j (fa i) (fdd i) (psN i) (spF K M (Phi i))) (hk : j ≤ k) (cdv : Value) (A : Around) (outer : List Env) (s : Shared) (H : Hp) (E : XK) (C : CxF K (cxOf (L2.CX P w) P w K mg base N_part_of (nmS .part_of) (defScope s_part_of) (fa .part_of) cdv A outer s H E) E k)
    (tk : Takes (cxOf (L2.CX P w) P w K mg base N_part_of (nmS .part_of) (defScope s_part_of) (fa .part_of) cdv A outer s H E) (fun cls d _ H => E cls d H)) : ∃ t, JB K (cxOf (L2.CX P w) P w K mg base N_part_of (nmS .part_of) (defScope s_part_of) (fa .part_of) cdv A outer s H E) M E (defBody s_part_of) t (f_part_of Phi) := ⟨_,
    (jb_cons (js_if (jt_eq C (JE.c2o (je_ix C (jo_var (i := 0)) (JE.c2o je_int))) (JE.c2o je_str)) (jb_one (js_ret (je_tup (jc_cons je_str (jc_cons (JE.f2c (je_slice C (jo_var (i := 0)) (ji_sm (JE.c2o je_int)) (ji_sm (JE.c2o (je_neg (JE.c2o je_int)))))) jc_nil))))) jb_nil)
    (jb_cons (js_if (jt_eq C (jo_var (i := 0)) (JE.c2o je_str)) (jb_one (js_ret (je_tup (jc_cons je_str jc_nil)))) jb_nil)
    (jb_cons (js_if (jt_in C (jo_var (i := 0)) (JE.c2o (je_tup (jc_cons je_str (jc_cons je_str (jc_cons je_str (jc_cons je_str (jc_cons je_str jc_nil)))))))) (jb_one (js_ret (je_intS Z.int (by rfl) (jo_var (i := 0))))) jb_nil)
    (jb_one (js_raiseE C tk EE_.BadText (by rfl))))))⟩
theorem d_read_at (D : DD K mg fa fdd) (Z : ZZ mg) (G : GG mg) (EE_ : EE K mg M dE) (RW : Rfw K mg M Cs rD rc0 rc1 rc2 rc3 rc4) (OK : ∀ i : Nm, FnOk P w K mg base (L2.CX P w) j (fa i) (fdd i) (psN i) (spF K M (Phi i))) (hk : j ≤ k) (cdv : Value) (A : Around) (outer : List Env) (s : Shared) (H : Hp) (E : XK) (C : CxF K (cxOf (L2.CX P w) P w K mg base N_read_at (nmS .read_at) (defScope s_read_at) (fa .read_at) cdv A outer s H E) E k)
    (tk : Takes (cxOf (L2.CX P w) P w K mg base N_read_at (nmS .read_at) (defScope s_read_at) (fa .read_at) cdv A outer s H E) (fun cls d _ H => E cls d H)) : ∃ t, JB K (cxOf (L2.CX P w) P w K mg base N_read_at (nmS .read_at) (defScope s_read_at) (fa .read_at) cdv A outer s H E) M E (defBody s_read_at) t (f_read_at Phi) := ⟨_,
    (jb_cons (js_if (JW.jt (jw_or (jt_ge (jo_var (i := 1)) (JE.c2o (je_len C Z.len (by rfl) (jo_var (i := 0))))) (jw_or1 (jt_gt (jo_var (i := 2)) (JE.c2o je_int))))) (jb_one (js_raiseE C tk EE_.BadText (by rfl))) jb_nil)
    (jb_cons (js_if (jt_ne C (JE.f2o (je_slice C (jo_var (i := 0)) (ji_sm (JE.f2o (je_add C (jo_var (i := 1)) (JE.c2o je_int)))) (ji_sm (JE.f2o (je_add C (jo_var (i := 1)) (JE.c2o je_int)))))) (JE.f2o (je_lst (jc_cons je_str jc_nil)))) (jb_one (js_ret (je_tup (jc_cons (je_call C (OK .part_of) hk (D.d .part_of).b (D.d .part_of).m (D.d .part_of).F.kp  (by rfl) (jc_cons (je_ix C (jo_var (i := 0)) (jo_var (i := 1))) jc_nil)) (jc_cons (JE.f2c (je_add C (jo_var (i := 1)) (JE.c2o je_int))) jc_nil))))) jb_nil)
    (jb_cons (js_setO (i := 3) C.nd (je_lst (jc_cons (je_ix C (jo_var (i := 0)) (jo_var (i := 1))) jc_nil)))
    (jb_cons (js_set (i := 4) C.nd (JE.f2c (je_add C (jo_var (i := 1)) (JE.c2o je_int))))
    (jb_cons (js_wh C (jt_inT C (JE.f2o (je_slice C (jo_var (i := 0)) (ji_sm (jo_var (i := 4))) (ji_sm (JE.f2o (je_add C (jo_var (i := 4)) (JE.c2o je_int)))))) (JE.c2o (je_tup (jc_cons (JE.f2c (je_lst (jc_cons je_str jc_nil))) (jc_cons (JE.f2c (je_lst (jc_cons je_str jc_nil))) jc_nil))))) (jb_cons (js_asg (je_call C (OK .read_at) hk (D.d .read_at).b (D.d .read_at).m (D.d .read_at).F.kp  (by rfl) (jc_cons (je_var (i := 0)) (jc_cons (JE.f2c (je_add C (JE.f2o (je_add C (jo_var (i := 4)) (JE.c2o je_int))) (JE.c2o (je_int1 Z.int (by rfl) (JE.c2o (je_eq C (JE.c2o (je_ix C (jo_var (i := 0)) (jo_var (i := 4)))) (JE.c2o je_str))))))) (jc_cons (JE.f2c (je_add C (jo_var (i := 2)) (JE.c2o je_int))) jc_nil)))) (jg_two C (jg_name (i := 5) C.nd) (jg_name (i := 4) C.nd)))
    (jb_one (js_appX (i := 3) C (jo_var (i := 3)) (je_var (i := 5))))))
    (jb_cons (js_if (jt_ne C (JE.f2o (je_slice C (jo_var (i := 0)) (ji_sm (jo_var (i := 4))) (ji_sm (JE.f2o (je_add C (jo_var (i := 4)) (JE.c2o je_int)))))) (JE.f2o (je_lst (jc_cons je_str jc_nil)))) (jb_one (js_raiseE C tk EE_.BadText (by rfl))) jb_nil)
    (jb_one (js_ret (je_tup (jc_cons (je_tuple C Z.tuple (by rfl) (jo_var (i := 3))) (jc_cons (JE.f2c (je_add C (jo_var (i := 4)) (JE.c2o je_int))) jc_nil)))))))))))⟩
theorem d_read (D : DD K mg fa fdd) (Z : ZZ mg) (G : GG mg) (EE_ : EE K mg M dE) (RW : Rfw K mg M Cs rD rc0 rc1 rc2 rc3 rc4) (OK : ∀ i : Nm, FnOk P w K mg base (L2.CX P w) j (fa i) (fdd i) (psN i) (spF K M (Phi i))) (hk : j ≤ k) (cdv : Value) (A : Around) (outer : List Env) (s : Shared) (H : Hp) (E : XK) (C : CxF K (cxOf (L2.CX P w) P w K mg base N_read (nmS .read) (defScope s_read) (fa .read) cdv A outer s H E) E k)
    (tk : Takes (cxOf (L2.CX P w) P w K mg base N_read (nmS .read) (defScope s_read) (fa .read) cdv A outer s H E) (fun cls d _ H => E cls d H)) : ∃ t, JB K (cxOf (L2.CX P w) P w K mg base N_read (nmS .read) (defScope s_read) (fa .read) cdv A outer s H E) M E (defBody s_read) t (f_read Phi) := ⟨_,
    (jb_cons (js_if (jt_not (jt_val (je_isi (T := "str") C Z.isinstance (by rfl) Z.str (by rfl) (by decide +kernel) (by decide) (jo_var (i := 0))))) (jb_one (js_raiseE C tk EE_.BadText (by rfl))) jb_nil)
    (jb_cons (js_asg (je_call C (OK .read_at) hk (D.d .read_at).b (D.d .read_at).m (D.d .read_at).F.kp  (by rfl) (jc_cons (je_call C (OK .pieces_of) hk (D.d .pieces_of).b (D.d .pieces_of).m (D.d .pieces_of).F.kp  (by rfl) (jc_cons (je_var (i := 0)) jc_nil)) (jc_cons je_int (jc_cons je_int jc_nil)))) (jg_two C (jg_name (i := 1) C.nd) (jg_name (i := 2) C.nd)))
    (jb_cons (js_if (JW.jt (jw_or (jt_not (jt_val (je_call C (OK .is_statement) hk (D.d .is_statement).b (D.d .is_statement).m (D.d .is_statement).F.kp  (by rfl) (jc_cons (je_var (i := 1)) jc_nil)))) (jw_or1 (jt_ne C (JE.c2o (je_call C (OK .written) hk (D.d .written).b (D.d .written).m (D.d .written).F.kp  (by rfl) (jc_cons (je_var (i := 1)) jc_nil))) (jo_var (i := 0)))))) (jb_one (js_raiseE C tk EE_.BadText (by rfl))) jb_nil)
    (jb_one (js_ret (je_var (i := 1)))))))⟩
theorem d_l_cell_at (D : DD K mg fa fdd) (Z : ZZ mg) (G : GG mg) (EE_ : EE K mg M dE) (RW : Rfw K mg M Cs rD rc0 rc1 rc2 rc3 rc4) (OK : ∀ i : Nm, FnOk P w K mg base (L2.CX P w) j (fa i) (fdd i) (psN i) (spF K M (Phi i))) (hk : j ≤ k) (cdv : Value) (A : Around) (outer : List Env) (s : Shared) (H : Hp) (E : XK) (C : CxF K (cxOf (L2.CX P w) P w K mg base N_l_cell_at (nmS .l_cell_at) (defScope s_l_cell_at) (fa .l_cell_at) cdv A outer s H E) E k)
    (tk : Takes (cxOf (L2.CX P w) P w K mg base N_l_cell_at (nmS .l_cell_at) (defScope s_l_cell_at) (fa .l_cell_at) cdv A outer s H E) (fun cls d _ H => E cls d H)) : ∃ t, JB K (cxOf (L2.CX P w) P w K mg base N_l_cell_at (nmS .l_cell_at) (defScope s_l_cell_at) (fa .l_cell_at) cdv A outer s H E) M E (defBody s_l_cell_at) t (f_l_cell_at Phi) := ⟨_,
    (jb_cons (js_if (jt_lt (jo_var (i := 1)) (JE.c2o (je_len C Z.len (by rfl) (jo_var (i := 0))))) (jb_one (js_ret (je_ix C (jo_var (i := 0)) (jo_var (i := 1))))) jb_nil)
    (jb_one (js_ret je_int)))⟩
theorem d_l_names (D : DD K mg fa fdd) (Z : ZZ mg) (G : GG mg) (EE_ : EE K mg M dE) (RW : Rfw K mg M Cs rD rc0 rc1 rc2 rc3 rc4) (OK : ∀ i : Nm, FnOk P w K mg base (L2.CX P w) j (fa i) (fdd i) (psN i) (spF K M (Phi i))) (hk : j ≤ k) (cdv : Value) (A : Around) (outer : List Env) (s : Shared) (H : Hp) (E : XK) (C : CxF K (cxOf (L2.CX P w) P w K mg base N_l_names (nmS .l_names) (defScope s_l_names) (fa .l_names) cdv A outer s H E) E k)
    (tk : Takes (cxOf (L2.CX P w) P w K mg base N_l_names (nmS .l_names) (defScope s_l_names) (fa .l_names) cdv A outer s H E) (fun cls d _ H => E cls d H)) : ∃ t, JB K (cxOf (L2.CX P w) P w K mg base N_l_names (nmS .l_names) (defScope s_l_names) (fa .l_names) cdv A outer s H E) M E (defBody s_l_names) t (f_l_names Phi) := ⟨_,
    (jb_cons (js_set (i := 1) C.nd je_str)
    (jb_cons (js_set (i := 2) C.nd (je_join C (JE.c2o je_str) (JE.f2o (je_lc (own := [("_law_j", 8)]) C (ji_rg1 Z.range (by rfl) (JE.c2o je_int)) (blkOk_by (N := N_l_names) (sc := defScope s_l_names) (by decide +kernel)) (by exact fun s1 H1 Cc1 cl1 fp1 => (jg_name (i := 8) (CxF.blk C s1 H1 _ (compEnvC _ cl1 Cc1 _) fp1).nd)) (by exact fun s1 H1 Cc1 cl1 fp1 => jts_nil) (by exact fun s1 H1 Cc1 cl1 fp1 => (je_ix (CxF.blk C s1 H1 _ (compEnvC _ cl1 Cc1 _) fp1) (jo_var (i := 1)) (JE.c2o (je_mod (JE.f2o (je_add (CxF.blk C s1 H1 _ (compEnvC _ cl1 Cc1 _) fp1) (JE.c2o (je_div (jo_var (i := 0)) (JE.c2o je_int))) (JE.c2o (je_mul (JE.c2o je_int) (jo_var (i := 8)))))) (JE.c2o je_int)))))))))
    (jb_cons (js_if (jt_eq C (JE.c2o (je_mod (jo_var (i := 0)) (JE.c2o je_int))) (JE.c2o je_int)) (jb_cons (js_set (i := 3) C.nd (JE.f2c (je_add C (JE.c2o je_int) (JE.c2o (je_mod (JE.c2o (je_div (jo_var (i := 0)) (JE.c2o je_int))) (JE.c2o je_int))))))
    (jb_one (js_ret (JE.f2c (je_lc (own := [("_law_k", 6)]) C (ji_rg1 Z.range (by rfl) (JE.c2o je_int)) (blkOk_by (N := N_l_names) (sc := defScope s_l_names) (by decide +kernel)) (by exact fun s2 H2 Cc2 cl2 fp2 => (jg_name (i := 6) (CxF.blk C s2 H2 _ (compEnvC _ cl2 Cc2 _) fp2).nd)) (by exact fun s2 H2 Cc2 cl2 fp2 => jts_nil) (by exact fun s2 H2 Cc2 cl2 fp2 => (JE.f2c (je_slice (CxF.blk C s2 H2 _ (compEnvC _ cl2 Cc2 _) fp2) (jo_var (i := 2)) ji_no (ji_sm (JE.f2o (je_add (CxF.blk C s2 H2 _ (compEnvC _ cl2 Cc2 _) fp2) (jo_var (i := 3)) (jo_var (i := 6))))))))))))) jb_nil)
    (jb_cons (js_set (i := 3) C.nd (je_mod (JE.c2o (je_div (jo_var (i := 0)) (JE.c2o je_int))) (JE.c2o je_int)))
    (jb_cons (js_set (i := 4) C.nd (je_mod (JE.c2o (je_div (jo_var (i := 0)) (JE.c2o je_int))) (JE.f2o (je_add C (jo_var (i := 3)) (JE.c2o je_int)))))
    (jb_cons (js_setO (i := 5) C.nd (je_lst jc_nil))
    (jb_cons (js_for C (ji_rg1 Z.range (by rfl) (JE.c2o je_int)) (jg_name (i := 6) C.nd) (jb_cons (js_set (i := 7) C.nd (je_ix C (jo_var (i := 1)) (JE.c2o (je_mod (JE.f2o (je_add C (JE.c2o (je_div (jo_var (i := 0)) (JE.c2o je_int))) (JE.c2o (je_mul (JE.c2o je_int) (jo_var (i := 6)))))) (JE.c2o je_int)))))
    (jb_one (js_appX (i := 5) C (jo_var (i := 5)) (JE.f2c (je_add C (JE.f2o (je_add C (JE.f2o (je_slice C (jo_var (i := 2)) ji_no (ji_sm (jo_var (i := 4))))) (jo_var (i := 7)))) (JE.f2o (je_slice C (jo_var (i := 2)) (ji_sm (jo_var (i := 4))) (ji_sm (jo_var (i := 3)))))))))))
    (jb_one (js_retV (jo_var (i := 5)))))))))))⟩
theorem d_l_all (D : DD K mg fa fdd) (Z : ZZ mg) (G : GG mg) (EE_ : EE K mg M dE) (RW : Rfw K mg M Cs rD rc0 rc1 rc2 rc3 rc4) (OK : ∀ i : Nm, FnOk P w K mg base (L2.CX P w) j (fa i) (fdd i) (psN i) (spF K M (Phi i))) (hk : j ≤ k) (cdv : Value) (A : Around) (outer : List Env) (s : Shared) (H : Hp) (E : XK) (C : CxF K (cxOf (L2.CX P w) P w K mg base N_l_all (nmS .l_all) (defScope s_l_all) (fa .l_all) cdv A outer s H E) E k)
    (tk : Takes (cxOf (L2.CX P w) P w K mg base N_l_all (nmS .l_all) (defScope s_l_all) (fa .l_all) cdv A outer s H E) (fun cls d _ H => E cls d H)) : ∃ t, JB K (cxOf (L2.CX P w) P w K mg base N_l_all (nmS .l_all) (defScope s_l_all) (fa .l_all) cdv A outer s H E) M E (defBody s_l_all) t (f_l_all Phi) := ⟨_,
    (jb_cons (js_set (i := 1) C.nd (JE.f2c (je_lst (jc_cons (je_var (i := 0)) jc_nil))))
    (jb_cons (js_for C (ji_tup C (JE.f2c (je_slice C (jo_var (i := 0)) (ji_sm (JE.c2o je_int)) ji_no))) (jg_name (i := 2) C.nd) (jb_one (js_if (jt_val (je_isi (T := "tuple") C Z.isinstance (by rfl) Z.tuple (by rfl) (by decide +kernel) (by decide) (jo_var (i := 2)))) (jb_one (js_set (i := 1) C.nd (JE.f2c (je_add C (jo_var (i := 1)) (JE.c2o (je_call C (OK .l_all) hk (D.d .l_all).b (D.d .l_all).m (D.d .l_all).F.kp  (by rfl) (jc_cons (je_var (i := 2)) jc_nil))))))) jb_nil)))
    (jb_one (js_ret (je_var (i := 1))))))⟩
theorem d_l_wishes (D : DD K mg fa fdd) (Z : ZZ mg) (G : GG mg) (EE_ : EE K mg M dE) (RW : Rfw K mg M Cs rD rc0 rc1 rc2 rc3 rc4) (OK : ∀ i : Nm, FnOk P w K mg base (L2.CX P w) j (fa i) (fdd i) (psN i) (spF K M (Phi i))) (hk : j ≤ k) (cdv : Value) (A : Around) (outer : List Env) (s : Shared) (H : Hp) (E : XK) (C : CxF K (cxOf (L2.CX P w) P w K mg base N_l_wishes (nmS .l_wishes) (defScope s_l_wishes) (fa .l_wishes) cdv A outer s H E) E k)
    (tk : Takes (cxOf (L2.CX P w) P w K mg base N_l_wishes (nmS .l_wishes) (defScope s_l_wishes) (fa .l_wishes) cdv A outer s H E) (fun cls d _ H => E cls d H)) : ∃ t, JB K (cxOf (L2.CX P w) P w K mg base N_l_wishes (nmS .l_wishes) (defScope s_l_wishes) (fa .l_wishes) cdv A outer s H E) M E (defBody s_l_wishes) t (f_l_wishes Phi) := ⟨_,
    (jb_cons (js_set (i := 1) C.nd (JE.f2c (je_lst (jc_cons (je_var (i := 0)) jc_nil))))
    (jb_cons (js_for C (ji_list C (je_call C (OK .l_all) hk (D.d .l_all).b (D.d .l_all).m (D.d .l_all).F.kp  (by rfl) (jc_cons (je_var (i := 0)) jc_nil))) (jg_name (i := 2) C.nd) (jb_cons (js_set (i := 3) C.nd (JE.f2c (je_lst jc_nil)))
    (jb_cons (js_if (jt_eq C (JE.c2o (je_ix C (jo_var (i := 2)) (JE.c2o je_int))) (JE.c2o je_str)) (jb_one (js_set (i := 3) C.nd (JE.f2c (je_lst (jc_cons (je_ix C (jo_var (i := 2)) (JE.c2o je_int)) jc_nil))))) (jb_one (js_if (jt_eq C (JE.c2o (je_ix C (jo_var (i := 2)) (JE.c2o je_int))) (JE.c2o je_str)) (jb_one (js_set (i := 3) C.nd (JE.f2c (je_lst (jc_cons (je_var (i := 2)) jc_nil))))) (jb_one (js_if (jt_eq C (JE.c2o (je_ix C (jo_var (i := 2)) (JE.c2o je_int))) (JE.c2o je_str)) (jb_one (js_setLc (i := 3) (own := [("_law_k", 5)]) C (ji_rg1 Z.range (by rfl) (JE.c2o (je_ix C (jo_var (i := 2)) (JE.c2o je_int)))) (blkOk_by (N := N_l_wishes) (sc := defScope s_l_wishes) (by decide +kernel)) (by exact fun s1 H1 Cc1 cl1 fp1 => (jg_name (i := 5) (CxF.blk C s1 H1 _ (compEnvC _ cl1 Cc1 _) fp1).nd)) (by exact fun s1 H1 Cc1 cl1 fp1 => jts_nil) (by exact fun s1 H1 Cc1 cl1 fp1 => (je_tup (jc_cons je_str (jc_cons (je_var (i := 5)) (jc_cons (je_ix (CxF.blk C s1 H1 _ (compEnvC _ cl1 Cc1 _) fp1) (jo_var (i := 2)) (JE.c2o je_int)) jc_nil))))) (sw_true rfl rfl rfl (by decide +kernel)))) jb_nil)))))
    (jb_one (js_set (i := 1) C.nd (JE.f2c (je_add C (jo_var (i := 1)) (JE.f2o (je_lc (own := [("_law_other", 4)]) C (ji_list C (je_var (i := 3))) (blkOk_by (N := N_l_wishes) (sc := defScope s_l_wishes) (by decide +kernel)) (by exact fun s2 H2 Cc2 cl2 fp2 => (jg_name (i := 4) (CxF.blk C s2 H2 _ (compEnvC _ cl2 Cc2 _) fp2).nd)) (by exact fun s2 H2 Cc2 cl2 fp2 => (jts_one (jt_ni (CxF.blk C s2 H2 _ (compEnvC _ cl2 Cc2 _) fp2) (jo_var (i := 4)) (jo_var (i := 1))))) (by exact fun s2 H2 Cc2 cl2 fp2 => (je_var (i := 4))))))))))))
    (jb_one (js_ret (je_var (i := 1))))))⟩
theorem d_l_fit (D : DD K mg fa fdd) (Z : ZZ mg) (G : GG mg) (EE_ : EE K mg M dE) (RW : Rfw K mg M Cs rD rc0 rc1 rc2 rc3 rc4) (OK : ∀ i : Nm, FnOk P w K mg base (L2.CX P w) j (fa i) (fdd i) (psN i) (spF K M (Phi i))) (hk : j ≤ k) (cdv : Value) (A : Around) (outer : List Env) (s : Shared) (H : Hp) (E : XK) (C : CxF K (cxOf (L2.CX P w) P w K mg base N_l_fit (nmS .l_fit) (defScope s_l_fit) (fa .l_fit) cdv A outer s H E) E k)
    (tk : Takes (cxOf (L2.CX P w) P w K mg base N_l_fit (nmS .l_fit) (defScope s_l_fit) (fa .l_fit) cdv A outer s H E) (fun cls d _ H => E cls d H)) : ∃ t, JB K (cxOf (L2.CX P w) P w K mg base N_l_fit (nmS .l_fit) (defScope s_l_fit) (fa .l_fit) cdv A outer s H E) M E (defBody s_l_fit) t (f_l_fit Phi) := ⟨_,
    (jb_cons (js_wh C (jt_gt (JE.c2o (je_len C Z.len (by rfl) (JE.c2o (je_call C (OK .l_wishes) hk (D.d .l_wishes).b (D.d .l_wishes).m (D.d .l_wishes).F.kp  (by rfl) (jc_cons (je_var (i := 0)) jc_nil))))) (jo_var (i := 1))) (jb_one (js_set (i := 0) C.nd (je_ix C (jo_var (i := 0)) (JE.c2o (je_neg (JE.c2o je_int)))))))
    (jb_one (js_ret (je_var (i := 0)))))⟩
theorem d_l_built (D : DD K mg fa fdd) (Z : ZZ mg) (G : GG mg) (EE_ : EE K mg M dE) (RW : Rfw K mg M Cs rD rc0 rc1 rc2 rc3 rc4) (OK : ∀ i : Nm, FnOk P w K mg base (L2.CX P w) j (fa i) (fdd i) (psN i) (spF K M (Phi i))) (OX : ∀ i : Nx, FnOk P w K mg base (L2.CX P w) j (fa i.n) (fdd i.n) (psN i.n) (spS K M (Psy i))) (hk : j ≤ k) (cdv : Value) (A : Around) (outer : List Env) (s : Shared) (H : Hp) (E : XK) (C : CxF K (cxOf (L2.CX P w) P w K mg base N_l_built (nmS .l_built) (defScope s_l_built) (fa .l_built) cdv A outer s H E) E k)
    (tk : Takes (cxOf (L2.CX P w) P w K mg base N_l_built (nmS .l_built) (defScope s_l_built) (fa .l_built) cdv A outer s H E) (fun cls d _ H => E cls d H)) : ∃ t, JB K (cxOf (L2.CX P w) P w K mg base N_l_built (nmS .l_built) (defScope s_l_built) (fa .l_built) cdv A outer s H E) M E (defBody s_l_built) t (f_l_built Phi Psy) := ⟨_,
    (jb_cons (js_setO (i := 3) C.nd (je_lst (jc_cons je_int jc_nil)))
    (jb_cons (js_set (i := 4) C.nd (JE.f2c (je_add C (JE.c2o je_int) (JE.c2o (je_int1 Z.int (by rfl) (JE.c2o (je_eq C (JE.c2o (je_mod (JE.c2o (je_call C (OK .l_cell_at) hk (D.d .l_cell_at).b (D.d .l_cell_at).m (D.d .l_cell_at).F.kp  (by rfl) (jc_cons (je_var (i := 0)) (jc_cons je_int jc_nil)))) (JE.c2o je_int))) (JE.c2o je_int))))))))
    (jb_one (js_retX 3 (xe_callP C (OK .l_fit) hk (D.d .l_fit).b (D.d .l_fit).m (D.d .l_fit).F.kp  (by rfl) (xa_cons (xe_call C (OX .l_made) hk (D.d .l_made).b (D.d .l_made).m (D.d .l_made).F.kp  (by rfl) (je_var (i := 0)) (JE.pe (K := K) (M := M) (E := E) (jo_var (i := 3))) (jc_cons (je_var (i := 1)) (jc_cons (je_var (i := 4)) (jc_cons je_bl jc_nil)))) (xa_cons (xe_of (E := E) (je_var (i := 2))) xa_nil))) (us_callP (usa_cons us_call))))))⟩
theorem d_l_text (D : DD K mg fa fdd) (Z : ZZ mg) (G : GG mg) (EE_ : EE K mg M dE) (RW : Rfw K mg M Cs rD rc0 rc1 rc2 rc3 rc4) (OK : ∀ i : Nm, FnOk P w K mg base (L2.CX P w) j (fa i) (fdd i) (psN i) (spF K M (Phi i))) (hk : j ≤ k) (cdv : Value) (A : Around) (outer : List Env) (s : Shared) (H : Hp) (E : XK) (C : CxF K (cxOf (L2.CX P w) P w K mg base N_l_text (nmS .l_text) (defScope s_l_text) (fa .l_text) cdv A outer s H E) E k)
    (tk : Takes (cxOf (L2.CX P w) P w K mg base N_l_text (nmS .l_text) (defScope s_l_text) (fa .l_text) cdv A outer s H E) (fun cls d _ H => E cls d H)) : ∃ t, JB K (cxOf (L2.CX P w) P w K mg base N_l_text (nmS .l_text) (defScope s_l_text) (fa .l_text) cdv A outer s H E) M E (defBody s_l_text) t (f_l_text Phi) := ⟨_,
    (jb_cons (js_if (jt_eq C (JE.c2o (je_ix C (jo_var (i := 0)) (JE.c2o je_int))) (JE.c2o je_str)) (jb_one (js_ret (JE.f2c (je_add C (JE.f2o (je_add C (JE.c2o je_str) (JE.c2o (je_ix C (jo_var (i := 0)) (JE.c2o je_int))))) (JE.c2o je_str))))) jb_nil)
    (jb_cons (js_if (jt_eq C (JE.c2o (je_ix C (jo_var (i := 0)) (JE.c2o je_int))) (JE.c2o je_str)) (jb_one (js_ret je_str)) jb_nil)
    (jb_one (js_ret (JE.f2c (je_add C (JE.f2o (je_add C (JE.f2o (je_add C (JE.c2o (je_ix C (jo_var (i := 0)) (JE.c2o je_int))) (JE.c2o je_str))) (JE.c2o (je_join C (JE.c2o je_str) (JE.f2o (je_lc (own := [("_law_part", 1)]) C (ji_tup C (JE.f2c (je_slice C (jo_var (i := 0)) (ji_sm (JE.c2o je_int)) ji_no))) (blkOk_by (N := N_l_text) (sc := defScope s_l_text) (by decide +kernel)) (by exact fun s1 H1 Cc1 cl1 fp1 => (jg_name (i := 1) (CxF.blk C s1 H1 _ (compEnvC _ cl1 Cc1 _) fp1).nd)) (by exact fun s1 H1 Cc1 cl1 fp1 => jts_nil) (by exact fun s1 H1 Cc1 cl1 fp1 => (je_call (CxF.blk C s1 H1 _ (compEnvC _ cl1 Cc1 _) fp1) (OK .l_part_text) hk (D.d .l_part_text).b (D.d .l_part_text).m (D.d .l_part_text).F.kp  (by rfl) (jc_cons (je_var (i := 1)) jc_nil))))))))) (JE.c2o je_str)))))))⟩
theorem d_l_part_text (D : DD K mg fa fdd) (Z : ZZ mg) (G : GG mg) (EE_ : EE K mg M dE) (RW : Rfw K mg M Cs rD rc0 rc1 rc2 rc3 rc4) (OK : ∀ i : Nm, FnOk P w K mg base (L2.CX P w) j (fa i) (fdd i) (psN i) (spF K M (Phi i))) (hk : j ≤ k) (cdv : Value) (A : Around) (outer : List Env) (s : Shared) (H : Hp) (E : XK) (C : CxF K (cxOf (L2.CX P w) P w K mg base N_l_part_text (nmS .l_part_text) (defScope s_l_part_text) (fa .l_part_text) cdv A outer s H E) E k)
    (tk : Takes (cxOf (L2.CX P w) P w K mg base N_l_part_text (nmS .l_part_text) (defScope s_l_part_text) (fa .l_part_text) cdv A outer s H E) (fun cls d _ H => E cls d H)) : ∃ t, JB K (cxOf (L2.CX P w) P w K mg base N_l_part_text (nmS .l_part_text) (defScope s_l_part_text) (fa .l_part_text) cdv A outer s H E) M E (defBody s_l_part_text) t (f_l_part_text Phi) := ⟨_,
    (jb_cons (js_if (jt_val (je_isi (T := "tuple") C Z.isinstance (by rfl) Z.tuple (by rfl) (by decide +kernel) (by decide) (jo_var (i := 0)))) (jb_one (js_ret (je_call C (OK .l_text) hk (D.d .l_text).b (D.d .l_text).m (D.d .l_text).F.kp  (by rfl) (jc_cons (je_var (i := 0)) jc_nil)))) jb_nil)
    (jb_one (js_ret (je_strOf Z.str (by rfl) (jo_var (i := 0))))))⟩
theorem d_l_mark_at (D : DD K mg fa fdd) (Z : ZZ mg) (G : GG mg) (EE_ : EE K mg M dE) (RW : Rfw K mg M Cs rD rc0 rc1 rc2 rc3 rc4) (OK : ∀ i : Nm, FnOk P w K mg base (L2.CX P w) j (fa i) (fdd i) (psN i) (spF K M (Phi i))) (hk : j ≤ k) (cdv : Value) (A : Around) (outer : List Env) (s : Shared) (H : Hp) (E : XK) (C : CxF K (cxOf (L2.CX P w) P w K mg base N_l_mark_at (nmS .l_mark_at) (defScope s_l_mark_at) (fa .l_mark_at) cdv A outer s H E) E k)
    (tk : Takes (cxOf (L2.CX P w) P w K mg base N_l_mark_at (nmS .l_mark_at) (defScope s_l_mark_at) (fa .l_mark_at) cdv A outer s H E) (fun cls d _ H => E cls d H)) : ∃ t, JB K (cxOf (L2.CX P w) P w K mg base N_l_mark_at (nmS .l_mark_at) (defScope s_l_mark_at) (fa .l_mark_at) cdv A outer s H E) M E (defBody s_l_mark_at) t (f_l_mark_at Phi) := ⟨_,
    (jb_cons (js_set (i := 2) C.nd (JE.f2c (je_add C (jo_var (i := 1)) (JE.c2o je_int))))
    (jb_cons (js_wh C (JW.jt (jw_and (jt_lt (jo_var (i := 2)) (JE.c2o (je_len C Z.len (by rfl) (jo_var (i := 0))))) (jw_and1 (jt_in C (JE.c2o (je_ix C (jo_var (i := 0)) (jo_var (i := 2)))) (JE.c2o je_str))))) (jb_one (js_set (i := 2) C.nd (JE.f2c (je_add C (jo_var (i := 2)) (JE.c2o je_int))))))
    (jb_cons (js_if (JW.jt (jw_or (jt_ne C (JE.f2o (je_slice C (jo_var (i := 0)) (ji_sm (jo_var (i := 2))) (ji_sm (JE.f2o (je_add C (jo_var (i := 2)) (JE.c2o je_int)))))) (JE.c2o je_str)) (jw_or1 (jt_not (jt_chain (JE.c2o je_int) (JE.c2o (je_sub (jo_var (i := 2)) (jo_var (i := 1)))) (JE.c2o je_int)))))) (jb_one (js_ret (je_tup (jc_cons je_non (jc_cons (je_var (i := 1)) jc_nil))))) jb_nil)
    (jb_one (js_ret (je_tup (jc_cons (je_tup (jc_cons je_str (jc_cons (JE.f2c (je_slice C (jo_var (i := 0)) (ji_sm (JE.f2o (je_add C (jo_var (i := 1)) (JE.c2o je_int)))) (ji_sm (jo_var (i := 2))))) jc_nil))) (jc_cons (JE.f2c (je_add C (jo_var (i := 2)) (JE.c2o je_int))) jc_nil))))))))⟩
theorem d_l_at (D : DD K mg fa fdd) (Z : ZZ mg) (G : GG mg) (EE_ : EE K mg M dE) (RW : Rfw K mg M Cs rD rc0 rc1 rc2 rc3 rc4) (OK : ∀ i : Nm, FnOk P w K mg base (L2.CX P w) j (fa i) (fdd i) (psN i) (spF K M (Phi i))) (hk : j ≤ k) (cdv : Value) (A : Around) (outer : List Env) (s : Shared) (H : Hp) (E : XK) (C : CxF K (cxOf (L2.CX P w) P w K mg base N_l_at (nmS .l_at) (defScope s_l_at) (fa .l_at) cdv A outer s H E) E k)
    (tk : Takes (cxOf (L2.CX P w) P w K mg base N_l_at (nmS .l_at) (defScope s_l_at) (fa .l_at) cdv A outer s H E) (fun cls d _ H => E cls d H)) : ∃ t, JB K (cxOf (L2.CX P w) P w K mg base N_l_at (nmS .l_at) (defScope s_l_at) (fa .l_at) cdv A outer s H E) M E (defBody s_l_at) t (f_l_at Phi) := ⟨_,
    (jb_cons (js_if (jt_eq C (jo_var (i := 2)) (JE.c2o je_int)) (jb_one (js_ret (je_tup (jc_cons je_non (jc_cons (je_var (i := 1)) jc_nil))))) jb_nil)
    (jb_cons (js_if (jt_eq C (JE.f2o (je_slice C (jo_var (i := 0)) (ji_sm (jo_var (i := 1))) (ji_sm (JE.f2o (je_add C (jo_var (i := 1)) (JE.c2o je_int)))))) (JE.c2o je_str)) (jb_one (js_ret (je_call C (OK .l_mark_at) hk (D.d .l_mark_at).b (D.d .l_mark_at).m (D.d .l_mark_at).F.kp  (by rfl) (jc_cons (je_var (i := 0)) (jc_cons (je_var (i := 1)) jc_nil))))) jb_nil)
    (jb_cons (js_if (jt_eq C (JE.f2o (je_slice C (jo_var (i := 0)) (ji_sm (jo_var (i := 1))) (ji_sm (JE.f2o (je_add C (jo_var (i := 1)) (JE.c2o je_int)))))) (JE.c2o je_str)) (jb_one (js_ret (je_tup (jc_cons (je_tup (jc_cons je_str jc_nil)) (jc_cons (JE.f2c (je_add C (jo_var (i := 1)) (JE.c2o je_int))) jc_nil))))) jb_nil)
    (jb_cons (js_for C (ji_list C (JE.f2c (je_lst (jc_cons je_str (jc_cons je_str (jc_cons je_str (jc_cons je_str (jc_cons je_str (jc_cons je_str (jc_cons je_str (jc_cons je_str jc_nil))))))))))) (jg_name (i := 3) C.nd) (jb_one (js_if (jt_eq C (JE.f2o (je_slice C (jo_var (i := 0)) (ji_sm (jo_var (i := 1))) (ji_sm (JE.f2o (je_add C (JE.f2o (je_add C (jo_var (i := 1)) (JE.c2o (je_len C Z.len (by rfl) (jo_var (i := 3)))))) (JE.c2o je_int)))))) (JE.f2o (je_add C (jo_var (i := 3)) (JE.c2o je_str)))) (jb_one (js_ret (je_call C (OK .l_parts_at) hk (D.d .l_parts_at).b (D.d .l_parts_at).m (D.d .l_parts_at).F.kp  (by rfl) (jc_cons (je_var (i := 0)) (jc_cons (JE.f2c (je_add C (JE.f2o (je_add C (jo_var (i := 1)) (JE.c2o (je_len C Z.len (by rfl) (jo_var (i := 3)))))) (JE.c2o je_int))) (jc_cons (je_var (i := 3)) (jc_cons (je_var (i := 2)) jc_nil))))))) jb_nil)))
    (jb_one (js_ret (je_tup (jc_cons je_non (jc_cons (je_var (i := 1)) jc_nil)))))))))⟩
theorem d_l_parts_at (D : DD K mg fa fdd) (Z : ZZ mg) (G : GG mg) (EE_ : EE K mg M dE) (RW : Rfw K mg M Cs rD rc0 rc1 rc2 rc3 rc4) (OK : ∀ i : Nm, FnOk P w K mg base (L2.CX P w) j (fa i) (fdd i) (psN i) (spF K M (Phi i))) (hk : j ≤ k) (cdv : Value) (A : Around) (outer : List Env) (s : Shared) (H : Hp) (E : XK) (C : CxF K (cxOf (L2.CX P w) P w K mg base N_l_parts_at (nmS .l_parts_at) (defScope s_l_parts_at) (fa .l_parts_at) cdv A outer s H E) E k)
    (tk : Takes (cxOf (L2.CX P w) P w K mg base N_l_parts_at (nmS .l_parts_at) (defScope s_l_parts_at) (fa .l_parts_at) cdv A outer s H E) (fun cls d _ H => E cls d H)) : ∃ t, JB K (cxOf (L2.CX P w) P w K mg base N_l_parts_at (nmS .l_parts_at) (defScope s_l_parts_at) (fa .l_parts_at) cdv A outer s H E) M E (defBody s_l_parts_at) t (f_l_parts_at Phi) := ⟨_,
    (jb_cons (js_set (i := 4) C.nd (je_tup (jc_cons (je_var (i := 2)) jc_nil)))
    (jb_cons (js_if (jt_eq C (jo_var (i := 2)) (JE.c2o je_str)) (jb_cons (js_if (JW.jt (jw_or (jt_ni C (JE.f2o (je_slice C (jo_var (i := 0)) (ji_sm (jo_var (i := 1))) (ji_sm (JE.f2o (je_add C (jo_var (i := 1)) (JE.c2o je_int)))))) (JE.f2o (je_lst (jc_cons je_str (jc_cons je_str (jc_cons je_str (jc_cons je_str (jc_cons je_str jc_nil)))))))) (jw_or1 (jt_ne C (JE.f2o (je_slice C (jo_var (i := 0)) (ji_sm (JE.f2o (je_add C (jo_var (i := 1)) (JE.c2o je_int)))) (ji_sm (JE.f2o (je_add C (jo_var (i := 1)) (JE.c2o je_int)))))) (JE.c2o je_str))))) (jb_one (js_ret (je_tup (jc_cons je_non (jc_cons (je_var (i := 1)) jc_nil))))) jb_nil)
    (jb_cons (js_set (i := 4) C.nd (je_tup (jc_cons (je_var (i := 2)) (jc_cons (je_intS Z.int (by rfl) (JE.c2o (je_ix C (jo_var (i := 0)) (jo_var (i := 1))))) jc_nil))))
    (jb_one (js_set (i := 1) C.nd (JE.f2c (je_add C (jo_var (i := 1)) (JE.c2o je_int))))))) jb_nil)
    (jb_cons (js_for C (ji_rg1 Z.range (by rfl) (JE.f2o (je_add C (JE.c2o je_int) (JE.c2o (je_int1 Z.int (by rfl) (JE.c2o (je_in C (jo_var (i := 2)) (JE.c2o (je_tup (jc_cons je_str (jc_cons je_str (jc_cons je_str (jc_cons je_str jc_nil))))))))))))) (jg_name (i := 5) C.nd) (jb_cons (js_if (JW.jt (jw_and (jt_eq C (jo_var (i := 5)) (JE.c2o je_int)) (jw_and1 (jt_ne C (JE.f2o (je_slice C (jo_var (i := 0)) (ji_sm (jo_var (i := 1))) (ji_sm (JE.f2o (je_add C (jo_var (i := 1)) (JE.c2o je_int)))))) (JE.c2o je_str))))) (jb_one (js_ret (je_tup (jc_cons je_non (jc_cons (je_var (i := 1)) jc_nil))))) jb_nil)
    (jb_cons (js_asg (je_call C (OK .l_at) hk (D.d .l_at).b (D.d .l_at).m (D.d .l_at).F.kp  (by rfl) (jc_cons (je_var (i := 0)) (jc_cons (JE.f2c (je_add C (jo_var (i := 1)) (JE.c2o (je_mul (JE.c2o je_int) (jo_var (i := 5)))))) (jc_cons (je_sub (jo_var (i := 3)) (JE.c2o je_int)) jc_nil)))) (jg_two C (jg_name (i := 6) C.nd) (jg_name (i := 1) C.nd)))
    (jb_cons (js_if (jt_isN (jo_var (i := 6))) (jb_one (js_ret (je_tup (jc_cons je_non (jc_cons (je_var (i := 1)) jc_nil))))) jb_nil)
    (jb_one (js_set (i := 4) C.nd (JE.f2c (je_add C (jo_var (i := 4)) (JE.c2o (je_tup (jc_cons (je_var (i := 6)) jc_nil)))))))))))
    (jb_cons (js_if (jt_ne C (JE.f2o (je_slice C (jo_var (i := 0)) (ji_sm (jo_var (i := 1))) (ji_sm (JE.f2o (je_add C (jo_var (i := 1)) (JE.c2o je_int)))))) (JE.c2o je_str)) (jb_one (js_ret (je_tup (jc_cons je_non (jc_cons (je_var (i := 1)) jc_nil))))) jb_nil)
    (jb_one (js_ret (je_tup (jc_cons (je_var (i := 4)) (jc_cons (JE.f2c (je_add C (jo_var (i := 1)) (JE.c2o je_int))) jc_nil)))))))))⟩
theorem d_l_due (D : DD K mg fa fdd) (Z : ZZ mg) (G : GG mg) (EE_ : EE K mg M dE) (RW : Rfw K mg M Cs rD rc0 rc1 rc2 rc3 rc4) (OK : ∀ i : Nm, FnOk P w K mg base (L2.CX P w) j (fa i) (fdd i) (psN i) (spF K M (Phi i))) (hk : j ≤ k) (cdv : Value) (A : Around) (outer : List Env) (s : Shared) (H : Hp) (E : XK) (C : CxF K (cxOf (L2.CX P w) P w K mg base N_l_due (nmS .l_due) (defScope s_l_due) (fa .l_due) cdv A outer s H E) E k)
    (tk : Takes (cxOf (L2.CX P w) P w K mg base N_l_due (nmS .l_due) (defScope s_l_due) (fa .l_due) cdv A outer s H E) (fun cls d _ H => E cls d H)) : ∃ t, JB K (cxOf (L2.CX P w) P w K mg base N_l_due (nmS .l_due) (defScope s_l_due) (fa .l_due) cdv A outer s H E) M E (defBody s_l_due) t (f_l_due Phi) := ⟨_,
    (jb_cons (js_asg (je_call C (OK .l_at) hk (D.d .l_at).b (D.d .l_at).m (D.d .l_at).F.kp  (by rfl) (jc_cons (je_var (i := 0)) (jc_cons je_int (jc_cons je_int jc_nil)))) (jg_two C (jg_name (i := 1) C.nd) (jg_name (i := 2) C.nd)))
    (jb_cons (js_if (jt_ne C (jo_var (i := 2)) (JE.c2o (je_len C Z.len (by rfl) (jo_var (i := 0))))) (jb_one (js_ret je_non)) jb_nil)
    (jb_one (js_ret (je_var (i := 1))))))⟩
theorem d_l_odd (D : DD K mg fa fdd) (Z : ZZ mg) (G : GG mg) (EE_ : EE K mg M dE) (RW : Rfw K mg M Cs rD rc0 rc1 rc2 rc3 rc4) (OK : ∀ i : Nm, FnOk P w K mg base (L2.CX P w) j (fa i) (fdd i) (psN i) (spF K M (Phi i))) (hk : j ≤ k) (cdv : Value) (A : Around) (outer : List Env) (s : Shared) (H : Hp) (E : XK) (C : CxF K (cxOf (L2.CX P w) P w K mg base N_l_odd (nmS .l_odd) (defScope s_l_odd) (fa .l_odd) cdv A outer s H E) E k)
    (tk : Takes (cxOf (L2.CX P w) P w K mg base N_l_odd (nmS .l_odd) (defScope s_l_odd) (fa .l_odd) cdv A outer s H E) (fun cls d _ H => E cls d H)) : ∃ t, JB K (cxOf (L2.CX P w) P w K mg base N_l_odd (nmS .l_odd) (defScope s_l_odd) (fa .l_odd) cdv A outer s H E) M E (defBody s_l_odd) t (f_l_odd Phi) := ⟨_,
    (jb_cons (js_set (i := 2) C.nd (JE.f2c (je_lst (jc_cons je_str (jc_cons je_str (jc_cons je_str (jc_cons je_str (jc_cons je_str (jc_cons je_str (jc_cons je_str (jc_cons je_str (jc_cons je_str (jc_cons je_str (jc_cons je_str jc_nil))))))))))))))
    (jb_cons (js_set (i := 2) C.nd (JE.f2c (je_add C (jo_var (i := 2)) (JE.f2o (je_lst (jc_cons je_str (jc_cons je_str (jc_cons je_str (jc_cons je_str (jc_cons je_str (jc_cons je_str jc_nil)))))))))))
    (jb_cons (js_set (i := 2) C.nd (JE.f2c (je_add C (jo_var (i := 2)) (JE.f2o (je_lst (jc_cons je_str (jc_cons je_str (jc_cons je_str (jc_cons je_str jc_nil)))))))))
    (jb_one (js_ret (je_ix C (JE.f2o (je_add C (jo_var (i := 2)) (JE.f2o (je_lst (jc_cons je_str (jc_cons (JE.f2c (je_add C (JE.f2o (je_add C (JE.c2o (je_mulS (JE.c2o je_str) (JE.c2o je_int))) (JE.c2o je_str))) (JE.c2o (je_mulS (JE.c2o je_str) (JE.c2o je_int))))) (jc_cons (je_var (i := 1)) (jc_cons je_str (jc_cons je_str jc_nil))))))))) (JE.c2o (je_mod (jo_var (i := 0)) (JE.c2o je_int)))))))))⟩
theorem d_l_bent (D : DD K mg fa fdd) (Z : ZZ mg) (G : GG mg) (EE_ : EE K mg M dE) (RW : Rfw K mg M Cs rD rc0 rc1 rc2 rc3 rc4) (OK : ∀ i : Nm, FnOk P w K mg base (L2.CX P w) j (fa i) (fdd i) (psN i) (spF K M (Phi i))) (hk : j ≤ k) (cdv : Value) (A : Around) (outer : List Env) (s : Shared) (H : Hp) (E : XK) (C : CxF K (cxOf (L2.CX P w) P w K mg base N_l_bent (nmS .l_bent) (defScope s_l_bent) (fa .l_bent) cdv A outer s H E) E k)
    (tk : Takes (cxOf (L2.CX P w) P w K mg base N_l_bent (nmS .l_bent) (defScope s_l_bent) (fa .l_bent) cdv A outer s H E) (fun cls d _ H => E cls d H)) : ∃ t, JB K (cxOf (L2.CX P w) P w K mg base N_l_bent (nmS .l_bent) (defScope s_l_bent) (fa .l_bent) cdv A outer s H E) M E (defBody s_l_bent) t (f_l_bent Phi) := ⟨_,
    (jb_cons (js_set (i := 3) C.nd (je_mod (JE.c2o (je_div (jo_var (i := 1)) (JE.c2o je_int))) (JE.f2o (je_add C (JE.c2o (je_len C Z.len (by rfl) (jo_var (i := 0)))) (JE.c2o je_int)))))
    (jb_cons (js_set (i := 4) C.nd (je_ix C (JE.c2o je_str) (JE.c2o (je_mod (JE.c2o (je_div (jo_var (i := 1)) (JE.c2o je_int))) (JE.c2o je_int)))))
    (jb_cons (js_set (i := 5) C.nd (je_mod (jo_var (i := 1)) (JE.c2o je_int)))
    (jb_cons (js_if (jt_eq C (jo_var (i := 5)) (JE.c2o je_int)) (jb_one (js_ret (JE.f2c (je_add C (JE.f2o (je_add C (JE.f2o (je_slice C (jo_var (i := 0)) ji_no (ji_sm (jo_var (i := 3))))) (jo_var (i := 4)))) (JE.f2o (je_slice C (jo_var (i := 0)) (ji_sm (jo_var (i := 3))) ji_no)))))) jb_nil)
    (jb_cons (js_if (jt_eq C (jo_var (i := 5)) (JE.c2o je_int)) (jb_one (js_ret (JE.f2c (je_add C (JE.f2o (je_slice C (jo_var (i := 0)) ji_no (ji_sm (jo_var (i := 3))))) (JE.f2o (je_slice C (jo_var (i := 0)) (ji_sm (JE.f2o (je_add C (jo_var (i := 3)) (JE.c2o je_int)))) ji_no)))))) jb_nil)
    (jb_cons (js_if (jt_eq C (jo_var (i := 5)) (JE.c2o je_int)) (jb_one (js_ret (JE.f2c (je_add C (JE.f2o (je_add C (JE.f2o (je_slice C (jo_var (i := 0)) ji_no (ji_sm (jo_var (i := 3))))) (jo_var (i := 4)))) (JE.f2o (je_slice C (jo_var (i := 0)) (ji_sm (JE.f2o (je_add C (jo_var (i := 3)) (JE.c2o je_int)))) ji_no)))))) jb_nil)
    (jb_cons (js_if (jt_eq C (jo_var (i := 5)) (JE.c2o je_int)) (jb_cons (js_setO (i := 6) C.nd (je_split (jo_var (i := 0)) (JE.c2o je_str)))
    (jb_cons (js_set (i := 7) C.nd (je_mod (JE.c2o (je_div (jo_var (i := 1)) (JE.c2o je_int))) (JE.c2o (je_len C Z.len (by rfl) (jo_var (i := 6))))))
    (jb_cons (js_set (i := 8) C.nd (je_mod (JE.c2o (je_div (jo_var (i := 1)) (JE.c2o je_int))) (JE.c2o (je_len C Z.len (by rfl) (jo_var (i := 6))))))
    (jb_cons (js_set (i := 9) C.nd (je_ix C (jo_var (i := 6)) (jo_var (i := 7))))
    (jb_cons (js_setI (i := 6) C (jo_var (i := 6)) (jo_var (i := 7)) (je_ix C (jo_var (i := 6)) (jo_var (i := 8))))
    (jb_cons (js_setI (i := 6) C (jo_var (i := 6)) (jo_var (i := 8)) (je_var (i := 9)))
    (jb_one (js_ret (je_join C (JE.c2o je_str) (jo_var (i := 6))))))))))) jb_nil)
    (jb_cons (js_if (jt_eq C (jo_var (i := 5)) (JE.c2o je_int)) (jb_one (js_ret (je_call C (OK .l_odd) hk (D.d .l_odd).b (D.d .l_odd).m (D.d .l_odd).F.kp  (by rfl) (jc_cons (je_div (jo_var (i := 1)) (JE.c2o je_int)) (jc_cons (je_var (i := 2)) jc_nil))))) jb_nil)
    (jb_one (js_ret (je_var (i := 0))))))))))))⟩
theorem d_l_same (D : DD K mg fa fdd) (Z : ZZ mg) (G : GG mg) (EE_ : EE K mg M dE) (RW : Rfw K mg M Cs rD rc0 rc1 rc2 rc3 rc4) (OK : ∀ i : Nm, FnOk P w K mg base (L2.CX P w) j (fa i) (fdd i) (psN i) (spF K M (Phi i))) (hk : j ≤ k) (cdv : Value) (A : Around) (outer : List Env) (s : Shared) (H : Hp) (E : XK) (C : CxF K (cxOf (L2.CX P w) P w K mg base N_l_same (nmS .l_same) (defScope s_l_same) (fa .l_same) cdv A outer s H E) E k)
    (tk : Takes (cxOf (L2.CX P w) P w K mg base N_l_same (nmS .l_same) (defScope s_l_same) (fa .l_same) cdv A outer s H E) (fun cls d _ H => E cls d H)) : ∃ t, JB K (cxOf (L2.CX P w) P w K mg base N_l_same (nmS .l_same) (defScope s_l_same) (fa .l_same) cdv A outer s H E) M E (defBody s_l_same) t (f_l_same Phi) := ⟨_,
    (jb_cons (js_if (jt_val (je_isi (T := "tuple") C Z.isinstance (by rfl) Z.tuple (by rfl) (by decide +kernel) (by decide) (jo_var (i := 1)))) (jb_cons (js_if (JW.jt (jw_or (jt_not (jt_val (je_isi (T := "tuple") C Z.isinstance (by rfl) Z.tuple (by rfl) (by decide +kernel) (by decide) (jo_var (i := 0))))) (jw_or1 (jt_ne C (JE.c2o (je_len C Z.len (by rfl) (jo_var (i := 0)))) (JE.c2o (je_len C Z.len (by rfl) (jo_var (i := 1)))))))) (jb_one (js_ret je_bl)) jb_nil)
    (jb_one (js_ret (je_all C Z.all (by rfl) (JE.f2o (je_lc (own := [("_law_one", 2), ("_law_other", 3)]) C (ji_zipT C Z.zip (by rfl) (je_var (i := 0)) (je_var (i := 1))) (blkOk_by (N := N_l_same) (sc := defScope s_l_same) (by decide +kernel)) (by exact fun s1 H1 Cc1 cl1 fp1 => (jg_two (CxF.blk C s1 H1 _ (compEnvC _ cl1 Cc1 _) fp1) (jg_name (i := 2) (CxF.blk C s1 H1 _ (compEnvC _ cl1 Cc1 _) fp1).nd) (jg_name (i := 3) (CxF.blk C s1 H1 _ (compEnvC _ cl1 Cc1 _) fp1).nd))) (by exact fun s1 H1 Cc1 cl1 fp1 => jts_nil) (by exact fun s1 H1 Cc1 cl1 fp1 => (je_call (CxF.blk C s1 H1 _ (compEnvC _ cl1 Cc1 _) fp1) (OK .l_same) hk (D.d .l_same).b (D.d .l_same).m (D.d .l_same).F.kp  (by rfl) (jc_cons (je_var (i := 2)) (jc_cons (je_var (i := 3)) jc_nil)))))))))) jb_nil)
    (jb_one (js_ret (je_and (je_not (je_isi (T := "bool") C Z.isinstance (by rfl) Z.bool (by rfl) (by decide +kernel) (by decide) (jo_var (i := 0)))) (je_and (je_eq C (JE.c2o (je_isi (T := "int") C Z.isinstance (by rfl) Z.int (by rfl) (by decide +kernel) (by decide) (jo_var (i := 0)))) (JE.c2o (je_isi (T := "int") C Z.isinstance (by rfl) Z.int (by rfl) (by decide +kernel) (by decide) (jo_var (i := 1))))) (je_one (je_eq C (jo_var (i := 0)) (jo_var (i := 1)))))))))⟩
theorem d_l_refused (D : DD K mg fa fdd) (Z : ZZ mg) (G : GG mg) (EE_ : EE K mg M dE) (RW : Rfw K mg M Cs rD rc0 rc1 rc2 rc3 rc4) (OK : ∀ i : Nm, FnOk P w K mg base (L2.CX P w) j (fa i) (fdd i) (psN i) (spF K M (Phi i))) (hk : j ≤ k) (cdv : Value) (A : Around) (outer : List Env) (s : Shared) (H : Hp) (E : XK) (C : CxF K (cxOf (L2.CX P w) P w K mg base N_l_refused (nmS .l_refused) (defScope s_l_refused) (fa .l_refused) cdv A outer s H E) E k)
    (tk : Takes (cxOf (L2.CX P w) P w K mg base N_l_refused (nmS .l_refused) (defScope s_l_refused) (fa .l_refused) cdv A outer s H E) (fun cls d _ H => E cls d H)) : ∃ t, JB K (cxOf (L2.CX P w) P w K mg base N_l_refused (nmS .l_refused) (defScope s_l_refused) (fa .l_refused) cdv A outer s H E) M E (defBody s_l_refused) t (f_l_refused Phi) := ⟨_,
    (jb_cons (js_refused (i := 1) (oi := 2) C RW (fun pn xe E' C' => ⟨_, (jb_one (js_drop (je_call C' (OK .read) hk (D.d .read).b (D.d .read).m (D.d .read).F.kp  (by rfl) (jc_cons (je_var (i := 0)) jc_nil))))⟩) Z.isinstance Z.ValueError (by intro x hx; simp only [List.mem_cons, List.not_mem_nil, or_false] at hx; rcases hx with rfl | rfl | rfl | rfl | rfl | rfl | rfl | rfl <;> rfl) (fun a oe pn p => (pe_var (i := 1) rfl (Or.inl rfl))) (fun a oe pn p => (pe_var (i := 2) rfl (Or.inl rfl))))
    (jb_one (js_ret je_bl)))⟩
theorem d_law (D : DD K mg fa fdd) (Z : ZZ mg) (G : GG mg) (EE_ : EE K mg M dE) (RW : Rfw K mg M Cs rD rc0 rc1 rc2 rc3 rc4) (OK : ∀ i : Nm, FnOk P w K mg base (L2.CX P w) j (fa i) (fdd i) (psN i) (spF K M (Phi i))) (hk : j ≤ k) (cdv : Value) (A : Around) (outer : List Env) (s : Shared) (H : Hp) (E : XK) (C : CxF K (cxOf (L2.CX P w) P w K mg base N_law (nmS .law) (defScope s_law) (fa .law) cdv A outer s H E) E k)
    (tk : Takes (cxOf (L2.CX P w) P w K mg base N_law (nmS .law) (defScope s_law) (fa .law) cdv A outer s H E) (fun cls d _ H => E cls d H)) : ∃ t, JB K (cxOf (L2.CX P w) P w K mg base N_law (nmS .law) (defScope s_law) (fa .law) cdv A outer s H E) M E (defBody s_law) t (f_law Phi) := ⟨_,
    (jb_cons (js_set (i := 1) C.nd (je_call C (OK .l_names) hk (D.d .l_names).b (D.d .l_names).m (D.d .l_names).F.kp  (by rfl) (jc_cons (je_call C (OK .l_cell_at) hk (D.d .l_cell_at).b (D.d .l_cell_at).m (D.d .l_cell_at).F.kp  (by rfl) (jc_cons (je_var (i := 0)) (jc_cons je_int jc_nil))) jc_nil)))
    (jb_cons (js_set (i := 2) C.nd (je_call C (OK .l_built) hk (D.d .l_built).b (D.d .l_built).m (D.d .l_built).F.kp  (by rfl) (jc_cons (je_var (i := 0)) (jc_cons (je_var (i := 1)) (jc_cons je_int jc_nil)))))
    (jb_cons (js_set (i := 3) C.nd (je_call C (OK .written) hk (D.d .written).b (D.d .written).m (D.d .written).F.kp  (by rfl) (jc_cons (je_var (i := 2)) jc_nil)))
    (jb_cons (js_if (JW.jt (jw_or (jt_not (jt_val (je_isi (T := "str") C Z.isinstance (by rfl) Z.str (by rfl) (by decide +kernel) (by decide) (jo_var (i := 3))))) (jw_or1 (jt_ne C (jo_var (i := 3)) (JE.c2o (je_call C (OK .l_text) hk (D.d .l_text).b (D.d .l_text).m (D.d .l_text).F.kp  (by rfl) (jc_cons (je_var (i := 2)) jc_nil))))))) (jb_one (js_ret je_bl)) jb_nil)
    (jb_cons (js_if (jt_not (jt_val (je_call C (OK .l_refused) hk (D.d .l_refused).b (D.d .l_refused).m (D.d .l_refused).F.kp  (by rfl) (jc_cons (je_ix C (JE.f2o (je_lst (jc_cons je_non (jc_cons je_int (jc_cons (JE.f2c (je_lst (jc_cons je_str jc_nil))) (jc_cons (je_tup (jc_cons je_str jc_nil)) (jc_cons je_bl jc_nil))))))) (JE.c2o (je_mod (JE.c2o (je_div (JE.c2o (je_call C (OK .l_cell_at) hk (D.d .l_cell_at).b (D.d .l_cell_at).m (D.d .l_cell_at).F.kp  (by rfl) (jc_cons (je_var (i := 0)) (jc_cons je_int jc_nil)))) (JE.c2o je_int))) (JE.c2o je_int)))) jc_nil)))) (jb_one (js_ret je_bl)) jb_nil)
    (jb_cons (js_set (i := 4) C.nd (je_call C (OK .l_bent) hk (D.d .l_bent).b (D.d .l_bent).m (D.d .l_bent).F.kp  (by rfl) (jc_cons (je_var (i := 3)) (jc_cons (JE.f2c (je_add C (JE.c2o (je_div (JE.c2o (je_call C (OK .l_cell_at) hk (D.d .l_cell_at).b (D.d .l_cell_at).m (D.d .l_cell_at).F.kp  (by rfl) (jc_cons (je_var (i := 0)) (jc_cons je_int jc_nil)))) (JE.c2o je_int))) (JE.c2o (je_call C (OK .l_cell_at) hk (D.d .l_cell_at).b (D.d .l_cell_at).m (D.d .l_cell_at).F.kp  (by rfl) (jc_cons (je_var (i := 0)) (jc_cons je_int jc_nil)))))) (jc_cons (je_ix C (jo_var (i := 1)) (JE.c2o je_int)) jc_nil)))))
    (jb_cons (js_for C (ji_list C (JE.f2c (je_lst (jc_cons (je_var (i := 3)) (jc_cons (je_var (i := 4)) jc_nil))))) (jg_name (i := 5) C.nd) (jb_cons (js_set (i := 6) C.nd (je_call C (OK .l_due) hk (D.d .l_due).b (D.d .l_due).m (D.d .l_due).F.kp  (by rfl) (jc_cons (je_var (i := 5)) jc_nil)))
    (jb_cons (js_if (JW.jt (jw_and (jt_isN (jo_var (i := 6))) (jw_and1 (jt_not (jt_val (je_call C (OK .l_refused) hk (D.d .l_refused).b (D.d .l_refused).m (D.d .l_refused).F.kp  (by rfl) (jc_cons (je_var (i := 5)) jc_nil))))))) (jb_one (js_ret je_bl)) jb_nil)
    (jb_one (js_if (JW.jt (jw_and (jt_notN (jo_var (i := 6))) (jw_and1 (JW.jt (jw_or (jt_val (je_call C (OK .l_refused) hk (D.d .l_refused).b (D.d .l_refused).m (D.d .l_refused).F.kp  (by rfl) (jc_cons (je_var (i := 5)) jc_nil))) (jw_or1 (jt_not (jt_val (je_call C (OK .l_same) hk (D.d .l_same).b (D.d .l_same).m (D.d .l_same).F.kp  (by rfl) (jc_cons (je_call C (OK .read) hk (D.d .read).b (D.d .read).m (D.d .read).F.kp  (by rfl) (jc_cons (je_var (i := 5)) jc_nil)) (jc_cons (je_var (i := 6)) jc_nil))))))))))) (jb_one (js_ret je_bl)) jb_nil)))))
    (jb_one (js_ret je_bl)))))))))⟩
end
def T_law : List D → Option Rs := runF 1 7 (f_law (Phi 60))
end K02

namespace K02
open PySem PySem.Spec PyProof.Rows L2 Py
/-! ### small things -/
def runD (run : List Str) : D := .list (run.map .str)
theorem runD_at {run : List Str} {i : Nat} (h : i < run.length) : atI (run.map PyData.str) (i : Int) = some (.str (run.getD i "")) := by
  refine atI_nat ?_
  rw [List.getElem?_map, List.getElem?_eq_getElem h]
  simp [List.getD, h]
theorem rg_nat (i j : Nat) : rgD (i : Int) (j : Int) = (List.range (j - i)).map fun n => .int ((i + n : Nat) : Int) := by
  unfold rgD
  have e : ((j : Int) - (i : Int)).toNat = j - i := by omega
  rw [e]
  apply List.map_congr_left
  intro n _
  simp
/-- every k of a within is at most 4 -/
def ksOk : Sta → Prop
  | .mark _ => True | .yes => True
  | .nt s => ksOk s | .nx s => ksOk s | .bf s => ksOk s
  | .wi k s => k ≤ 4 ∧ ksOk s
  | .an s t => ksOk s ∧ ksOk t | .or s t => ksOk s ∧ ksOk t | .un s t => ksOk s ∧ ksOk t | .si s t => ksOk s ∧ ksOk t
theorem rgOk_nat {i j : Nat} (h : i ≤ 14000000) (h2 : j ≤ 14000000) : rgOk (i : Int) (j : Int) = true := by
  unfold rgOk
  simp only [Bool.and_eq_true, decide_eq_true_eq]
  omega
/-- nothing that looks ahead -/
def noFut : Sta → Prop
  | .mark _ => True | .yes => True
  | .nt s => noFut s | .bf s => noFut s
  | .nx _ => False | .wi _ _ => False | .un _ _ => False
  | .an s t => noFut s ∧ noFut t | .or s t => noFut s ∧ noFut t | .si s t => noFut s ∧ noFut t
/-- nothing that looks ahead within before and since -/
def unm : Sta → Prop
  | .mark _ => True | .yes => True
  | .nt s => unm s | .nx s => unm s | .wi _ s => unm s
  | .bf s => noFut s
  | .an s t => unm s ∧ unm t | .or s t => unm s ∧ unm t | .un s t => unm s ∧ unm t
  | .si s t => noFut s ∧ noFut t
end K02

namespace K02
open PySem PySem.Spec PyProof.Rows L2 Py
/-! ### cuts, kinds (for laws without rows) -/
theorem cut_from (ds : List D) (n : Nat) (h : n ≤ ds.length) : Py.cutD ds (some (n : Int)) none = ds.drop n := by
  unfold Py.cutD
  rw [HT.sIx_nat, HT.sIx_none, Nat.min_eq_left h]
  exact List.take_of_length_le (by simp)
theorem cut_to (ds : List D) (n : Nat) : Py.cutD ds none (some (n : Int)) = ds.take n := by
  unfold Py.cutD
  rw [HT.sIx_nat, HT.sIx_none, List.drop_zero, Nat.sub_zero]
  by_cases h : n ≤ ds.length
  · rw [Nat.min_eq_left h]
  · rw [Nat.min_eq_right (by omega), List.take_of_length_le (Nat.le_refl _), List.take_of_length_le (by omega)]
theorem cut_mid (ds : List D) (i j : Nat) (h : i ≤ ds.length) (h2 : i ≤ j) : Py.cutD ds (some (i : Int)) (some (j : Int)) = (ds.drop i).take (j - i) := by
  unfold Py.cutD
  rw [HT.sIx_nat, HT.sIx_nat, Nat.min_eq_left h]
  by_cases h3 : j ≤ ds.length
  · rw [Nat.min_eq_left h3]
  · rw [Nat.min_eq_right (by omega), List.take_of_length_le (by simp), List.take_of_length_le (by simp; omega)]
theorem tail_tup (a b : D) (r : List D) : oSl (some 1) none (.tuple (a :: b :: r)) = some (.tuple (b :: r)) := by
  have h1 : HT.sIx (a :: b :: r).length 0 (some (1 : Int)) = 1 := by
    have := HT.sIx_nat (a :: b :: r).length 0 1
    simp at this
    simpa using this
  have h2 := cut_from (a :: b :: r) 1 (by simp)
  unfold oSl
  simp only [h1, HT.sIx_none]
  simp
  exact h2
theorem tail_one (a : D) : oSl (some 1) none (.tuple [a]) = some (.tuple []) := by
  have h1 : HT.sIx ([a] : List D).length 0 (some (1 : Int)) = 1 := by
    have := HT.sIx_nat ([a] : List D).length 0 1
    simpa using this
  have h2 := cut_from [a] 1 (by simp)
  unfold oSl
  simp only [h1, HT.sIx_none]
  simp
  exact h2
theorem isi_str (x : Str) : oIsi "tuple" (.str x) = some (.bool false) := by simp [oIsi, isT, tyN]
theorem isi_int (x : Int) : oIsi "tuple" (.int x) = some (.bool false) := by simp [oIsi, isT, tyN]
theorem isi_tup (x : List D) : oIsi "tuple" (.tuple x) = some (.bool true) := by simp [oIsi, isT, tyN]
theorem isi_enc (s : Sta) : oIsi "tuple" (enc s) = some (.bool true) := by
  obtain ⟨r, e⟩ := enc_word s
  rw [e]; exact isi_tup _
end K02

namespace K02
open PySem PySem.Spec PyProof.Rows L2 Py
/-! ### a statement's parts, and its wishes as the law counts them -/
def allT : Sta → List Sta
  | .mark m => [.mark m]
  | .yes => [.yes]
  | .nt s => .nt s :: allT s
  | .an s t => .an s t :: (allT s ++ allT t)
  | .or s t => .or s t :: (allT s ++ allT t)
  | .nx s => .nx s :: allT s
  | .un s t => .un s t :: (allT s ++ allT t)
  | .wi k s => .wi k s :: allT s
  | .bf s => .bf s :: allT s
  | .si s t => .si s t :: (allT s ++ allT t)
theorem allT_len : ∀ s : Sta, (allT s).length + 1 ≤ 2 ^ s.depth
  | .mark m => by simp [allT, Sta.depth]
  | .yes => by simp [allT, Sta.depth]
  | .nt s => by have h := allT_len s; simp only [allT, Sta.depth, List.length_cons, Nat.pow_succ]; omega
  | .nx s => by have h := allT_len s; simp only [allT, Sta.depth, List.length_cons, Nat.pow_succ]; omega
  | .wi k s => by have h := allT_len s; simp only [allT, Sta.depth, List.length_cons, Nat.pow_succ]; omega
  | .bf s => by have h := allT_len s; simp only [allT, Sta.depth, List.length_cons, Nat.pow_succ]; omega
  | .an s t => by
    have h := allT_len s; have h2 := allT_len t
    have p1 : 2 ^ s.depth ≤ 2 ^ (max s.depth t.depth) := Nat.pow_le_pow_right (by omega) (by omega)
    have p2 : 2 ^ t.depth ≤ 2 ^ (max s.depth t.depth) := Nat.pow_le_pow_right (by omega) (by omega)
    simp only [allT, Sta.depth, List.length_cons, List.length_append, Nat.pow_succ]; omega
  | .or s t => by
    have h := allT_len s; have h2 := allT_len t
    have p1 : 2 ^ s.depth ≤ 2 ^ (max s.depth t.depth) := Nat.pow_le_pow_right (by omega) (by omega)
    have p2 : 2 ^ t.depth ≤ 2 ^ (max s.depth t.depth) := Nat.pow_le_pow_right (by omega) (by omega)
    simp only [allT, Sta.depth, List.length_cons, List.length_append, Nat.pow_succ]; omega
  | .un s t => by
    have h := allT_len s; have h2 := allT_len t
    have p1 : 2 ^ s.depth ≤ 2 ^ (max s.depth t.depth) := Nat.pow_le_pow_right (by omega) (by omega)
    have p2 : 2 ^ t.depth ≤ 2 ^ (max s.depth t.depth) := Nat.pow_le_pow_right (by omega) (by omega)
    simp only [allT, Sta.depth, List.length_cons, List.length_append, Nat.pow_succ]; omega
  | .si s t => by
    have h := allT_len s; have h2 := allT_len t
    have p1 : 2 ^ s.depth ≤ 2 ^ (max s.depth t.depth) := Nat.pow_le_pow_right (by omega) (by omega)
    have p2 : 2 ^ t.depth ≤ 2 ^ (max s.depth t.depth) := Nat.pow_le_pow_right (by omega) (by omega)
    simp only [allT, Sta.depth, List.length_cons, List.length_append, Nat.pow_succ]; omega
/-- what is so of a statement and all its parts -/
structure Fine (d : Nat) (p : Str → Prop) (s : Sta) : Prop where
  dep : s.depth ≤ d
  mks : s.Marks p
  ks : ksOk s
theorem allT_fine {d : Nat} {p : Str → Prop} : ∀ {s : Sta}, Fine d p s → ∀ t ∈ allT s, Fine d p t := by
  intro s
  induction s with
  | mark m => intro h t ht; simp [allT] at ht; subst ht; exact h
  | yes => intro h t ht; simp [allT] at ht; subst ht; exact h
  | nt s ih =>
    intro h t ht
    rcases List.mem_cons.mp ht with rfl | ht
    · exact h
    · exact ih ⟨by have := h.dep; simp [Sta.depth] at this; omega, h.mks, h.ks⟩ t ht
  | nx s ih =>
    intro h t ht
    rcases List.mem_cons.mp ht with rfl | ht
    · exact h
    · exact ih ⟨by have := h.dep; simp [Sta.depth] at this; omega, h.mks, h.ks⟩ t ht
  | wi k s ih =>
    intro h t ht
    rcases List.mem_cons.mp ht with rfl | ht
    · exact h
    · exact ih ⟨by have := h.dep; simp [Sta.depth] at this; omega, h.mks, h.ks.2⟩ t ht
  | bf s ih =>
    intro h t ht
    rcases List.mem_cons.mp ht with rfl | ht
    · exact h
    · exact ih ⟨by have := h.dep; simp [Sta.depth] at this; omega, h.mks, h.ks⟩ t ht
  | an s s' ih ih' =>
    intro h t ht
    have hd := h.dep
    simp [Sta.depth] at hd
    rcases List.mem_cons.mp ht with rfl | ht
    · exact h
    · rcases List.mem_append.mp ht with ht | ht
      · exact ih ⟨by omega, h.mks.1, h.ks.1⟩ t ht
      · exact ih' ⟨by omega, h.mks.2, h.ks.2⟩ t ht
  | or s s' ih ih' =>
    intro h t ht
    have hd := h.dep
    simp [Sta.depth] at hd
    rcases List.mem_cons.mp ht with rfl | ht
    · exact h
    · rcases List.mem_append.mp ht with ht | ht
      · exact ih ⟨by omega, h.mks.1, h.ks.1⟩ t ht
      · exact ih' ⟨by omega, h.mks.2, h.ks.2⟩ t ht
  | un s s' ih ih' =>
    intro h t ht
    have hd := h.dep
    simp [Sta.depth] at hd
    rcases List.mem_cons.mp ht with rfl | ht
    · exact h
    · rcases List.mem_append.mp ht with ht | ht
      · exact ih ⟨by omega, h.mks.1, h.ks.1⟩ t ht
      · exact ih' ⟨by omega, h.mks.2, h.ks.2⟩ t ht
  | si s s' ih ih' =>
    intro h t ht
    have hd := h.dep
    simp [Sta.depth] at hd
    rcases List.mem_cons.mp ht with rfl | ht
    · exact h
    · rcases List.mem_append.mp ht with ht | ht
      · exact ih ⟨by omega, h.mks.1, h.ks.1⟩ t ht
      · exact ih' ⟨by omega, h.mks.2, h.ks.2⟩ t ht
def encL (l : List Sta) : D := .list (l.map enc)
theorem big_pow {d : Nat} (h : d ≤ 20) : 2 ^ d ≤ big := Nat.le_trans (Nat.pow_le_pow_right (by omega) h) (by decide)
theorem run_all : ∀ (s : Sta) (n : Nat), s.depth ≤ 19 → s.depth ≤ n → Phi n .l_all [enc s] = some (.ok (encL (allT s))) := by
  have one : ∀ (n : Nat) (s t : Sta) (w : Str), enc t = .tuple [.str w, enc s] → Phi n .l_all [enc s] = some (.ok (encL (allT s))) → (allT s).length + 1 ≤ big → Phi (n + 1) .l_all [enc t] = some (.ok (encL (t :: allT s))) := by
    intro n s t w e h hz
    have hz' : 1 + (allT s).length ≤ big := by omega
    rw [phi_l_all]
    simp [runF, entry, f_l_all, e, fOwn, fOpN,  fSeq, fNext, sRet, sRetN, sIf, sSet, sSetO, sAsg, sApp, sFor, forF, fVar, fOpd, fCon, f2, f1, fNil, fCons, bR, bL, bA, bLL, oR, fT, gAnd, gOr, gNot, gYes, fAnd, fOr, fNot, fIte, fTup, fLst, fCall, fCallO, fB, fM1, fSl, fiNo, fiSm, fLc, wLst, wTup, wStr, wRg1, wRg2, wZip, wEnum, gfN, gfTup, gsNil, gsCons, fLrg, fLrg3, wipeG, xSeq, xSet, xOf, xCall, xIf, xRet, xNext, xTup, xCons, xNil, xPut, xCallP, sRetX, sSetX, List.getElem?_cons_zero, List.getElem?_cons_succ, List.set_cons_zero, List.set_cons_succ, tail_tup, isi_enc, h, encL, hz, hz', oAdd]
  have oneK : ∀ (n : Nat) (s t : Sta) (w : Str) (k : Int), enc t = .tuple [.str w, .int k, enc s] → Phi n .l_all [enc s] = some (.ok (encL (allT s))) → (allT s).length + 1 ≤ big → Phi (n + 1) .l_all [enc t] = some (.ok (encL (t :: allT s))) := by
    intro n s t w k e h hz
    have hz' : 1 + (allT s).length ≤ big := by omega
    rw [phi_l_all]
    simp [runF, entry, f_l_all, e, fOwn, fOpN,  fSeq, fNext, sRet, sRetN, sIf, sSet, sSetO, sAsg, sApp, sFor, forF, fVar, fOpd, fCon, f2, f1, fNil, fCons, bR, bL, bA, bLL, oR, fT, gAnd, gOr, gNot, gYes, fAnd, fOr, fNot, fIte, fTup, fLst, fCall, fCallO, fB, fM1, fSl, fiNo, fiSm, fLc, wLst, wTup, wStr, wRg1, wRg2, wZip, wEnum, gfN, gfTup, gsNil, gsCons, fLrg, fLrg3, wipeG, xSeq, xSet, xOf, xCall, xIf, xRet, xNext, xTup, xCons, xNil, xPut, xCallP, sRetX, sSetX, List.getElem?_cons_zero, List.getElem?_cons_succ, List.set_cons_zero, List.set_cons_succ, tail_tup, isi_enc, isi_int, h, encL, hz, hz', oAdd]
  have two : ∀ (n : Nat) (s s' t : Sta) (w : Str), enc t = .tuple [.str w, enc s, enc s'] → Phi n .l_all [enc s] = some (.ok (encL (allT s))) → Phi n .l_all [enc s'] = some (.ok (encL (allT s'))) → (allT s).length + (allT s').length + 1 ≤ big → Phi (n + 1) .l_all [enc t] = some (.ok (encL (t :: (allT s ++ allT s')))) := by
    intro n s s' t w e h h' hz
    have h1 : 1 + (allT s).length ≤ big := by omega
    have h2 : (allT s).length + 1 + (allT s').length ≤ big := by omega
    have h3 : 1 + (allT s).length + (allT s').length ≤ big := by omega
    rw [phi_l_all]
    simp [runF, entry, f_l_all, e, fOwn, fOpN,  fSeq, fNext, sRet, sRetN, sIf, sSet, sSetO, sAsg, sApp, sFor, forF, fVar, fOpd, fCon, f2, f1, fNil, fCons, bR, bL, bA, bLL, oR, fT, gAnd, gOr, gNot, gYes, fAnd, fOr, fNot, fIte, fTup, fLst, fCall, fCallO, fB, fM1, fSl, fiNo, fiSm, fLc, wLst, wTup, wStr, wRg1, wRg2, wZip, wEnum, gfN, gfTup, gsNil, gsCons, fLrg, fLrg3, wipeG, xSeq, xSet, xOf, xCall, xIf, xRet, xNext, xTup, xCons, xNil, xPut, xCallP, sRetX, sSetX, List.getElem?_cons_zero, List.getElem?_cons_succ, List.set_cons_zero, List.set_cons_succ, tail_tup, isi_enc, h, h', encL, h1, h2, h3, oAdd]
  intro s
  induction s with
  | mark m =>
    intro n hd hn
    obtain ⟨n, rfl⟩ : ∃ k, n = k + 1 := ⟨n - 1, by simp [Sta.depth] at hn; omega⟩
    rw [phi_l_all]
    simp [runF, entry, f_l_all, enc, fOwn, fOpN,  fSeq, fNext, sRet, sRetN, sIf, sSet, sSetO, sAsg, sApp, sFor, forF, fVar, fOpd, fCon, f2, f1, fNil, fCons, bR, bL, bA, bLL, oR, fT, gAnd, gOr, gNot, gYes, fAnd, fOr, fNot, fIte, fTup, fLst, fCall, fCallO, fB, fM1, fSl, fiNo, fiSm, fLc, wLst, wTup, wStr, wRg1, wRg2, wZip, wEnum, gfN, gfTup, gsNil, gsCons, fLrg, fLrg3, wipeG, xSeq, xSet, xOf, xCall, xIf, xRet, xNext, xTup, xCons, xNil, xPut, xCallP, sRetX, sSetX, List.getElem?_cons_zero, List.getElem?_cons_succ, List.set_cons_zero, List.set_cons_succ, tail_tup, isi_str, encL, allT]
  | yes =>
    intro n hd hn
    obtain ⟨n, rfl⟩ : ∃ k, n = k + 1 := ⟨n - 1, by simp [Sta.depth] at hn; omega⟩
    rw [phi_l_all]
    simp [runF, entry, f_l_all, enc, fOwn, fOpN,  fSeq, fNext, sRet, sRetN, sIf, sSet, sSetO, sAsg, sApp, sFor, forF, fVar, fOpd, fCon, f2, f1, fNil, fCons, bR, bL, bA, bLL, oR, fT, gAnd, gOr, gNot, gYes, fAnd, fOr, fNot, fIte, fTup, fLst, fCall, fCallO, fB, fM1, fSl, fiNo, fiSm, fLc, wLst, wTup, wStr, wRg1, wRg2, wZip, wEnum, gfN, gfTup, gsNil, gsCons, fLrg, fLrg3, wipeG, xSeq, xSet, xOf, xCall, xIf, xRet, xNext, xTup, xCons, xNil, xPut, xCallP, sRetX, sSetX, List.getElem?_cons_zero, List.getElem?_cons_succ, List.set_cons_zero, List.set_cons_succ, tail_one, encL, allT]
  | nt s ih =>
    intro n hd hn
    simp [Sta.depth] at hn hd
    obtain ⟨n, rfl⟩ : ∃ k, n = k + 1 := ⟨n - 1, by omega⟩
    exact one n s _ _ rfl (ih n (by omega) (by omega)) (Nat.le_trans (allT_len s) (big_pow (by omega)))
  | nx s ih =>
    intro n hd hn
    simp [Sta.depth] at hn hd
    obtain ⟨n, rfl⟩ : ∃ k, n = k + 1 := ⟨n - 1, by omega⟩
    exact one n s _ _ rfl (ih n (by omega) (by omega)) (Nat.le_trans (allT_len s) (big_pow (by omega)))
  | bf s ih =>
    intro n hd hn
    simp [Sta.depth] at hn hd
    obtain ⟨n, rfl⟩ : ∃ k, n = k + 1 := ⟨n - 1, by omega⟩
    exact one n s _ _ rfl (ih n (by omega) (by omega)) (Nat.le_trans (allT_len s) (big_pow (by omega)))
  | wi k s ih =>
    intro n hd hn
    simp [Sta.depth] at hn hd
    obtain ⟨n, rfl⟩ : ∃ k, n = k + 1 := ⟨n - 1, by omega⟩
    exact oneK n s _ _ _ rfl (ih n (by omega) (by omega)) (Nat.le_trans (allT_len s) (big_pow (by omega)))
  | an s t ih ih' =>
    intro n hd hn
    have hl := allT_len (.an s t)
    have hb := big_pow (d := (Sta.an s t).depth) (by omega)
    simp [Sta.depth] at hn hd
    obtain ⟨n, rfl⟩ : ∃ k, n = k + 1 := ⟨n - 1, by omega⟩
    simp only [allT, List.length_cons, List.length_append] at hl
    exact two n s t _ _ rfl (ih n (by omega) (by omega)) (ih' n (by omega) (by omega)) (by omega)
  | or s t ih ih' =>
    intro n hd hn
    have hl := allT_len (.or s t)
    have hb := big_pow (d := (Sta.or s t).depth) (by omega)
    simp [Sta.depth] at hn hd
    obtain ⟨n, rfl⟩ : ∃ k, n = k + 1 := ⟨n - 1, by omega⟩
    simp only [allT, List.length_cons, List.length_append] at hl
    exact two n s t _ _ rfl (ih n (by omega) (by omega)) (ih' n (by omega) (by omega)) (by omega)
  | un s t ih ih' =>
    intro n hd hn
    have hl := allT_len (.un s t)
    have hb := big_pow (d := (Sta.un s t).depth) (by omega)
    simp [Sta.depth] at hn hd
    obtain ⟨n, rfl⟩ : ∃ k, n = k + 1 := ⟨n - 1, by omega⟩
    simp only [allT, List.length_cons, List.length_append] at hl
    exact two n s t _ _ rfl (ih n (by omega) (by omega)) (ih' n (by omega) (by omega)) (by omega)
  | si s t ih ih' =>
    intro n hd hn
    have hl := allT_len (.si s t)
    have hb := big_pow (d := (Sta.si s t).depth) (by omega)
    simp [Sta.depth] at hn hd
    obtain ⟨n, rfl⟩ : ∃ k, n = k + 1 := ⟨n - 1, by omega⟩
    simp only [allT, List.length_cons, List.length_append] at hl
    exact two n s t _ _ rfl (ih n (by omega) (by omega)) (ih' n (by omega) (by omega)) (by omega)
def moreT : Sta → List Sta
  | .nx s => [s]
  | .un s t => [.un s t]
  | .wi k s => (List.range k).map fun j => .wi j s
  | _ => []
def stepW (found : List Sta) (one : Sta) : List Sta := found ++ (moreT one).filter fun o => !decide (o ∈ found)
def wishesT (s : Sta) : List Sta := (allT s).foldl stepW [s]
theorem moreT_fine {d : Nat} {p : Str → Prop} {s : Sta} (h : Fine d p s) : ∀ t ∈ moreT s, Fine d p t := by
  intro t ht
  have hd := h.dep
  cases s with
  | nx s => simp [moreT] at ht; subst ht; exact ⟨by simp [Sta.depth] at hd; omega, h.mks, h.ks⟩
  | un s s' => simp [moreT] at ht; subst ht; exact h
  | wi k s =>
    simp only [moreT, List.mem_map, List.mem_range] at ht
    obtain ⟨j, hj, rfl⟩ := ht
    have hk := h.ks
    exact ⟨by simpa [Sta.depth] using hd, h.mks, by have := hk.1; omega, hk.2⟩
  | _ => simp [moreT] at ht
theorem moreT_len {s : Sta} (h : ksOk s) : (moreT s).length ≤ 4 := by
  cases s with
  | wi k s => simp [moreT]; exact h.1
  | _ => simp [moreT]
theorem stepW_fine {d : Nat} {p : Str → Prop} {found : List Sta} {s : Sta} (hf : ∀ t ∈ found, Fine d p t) (h : Fine d p s) : ∀ t ∈ stepW found s, Fine d p t := by
  intro t ht
  rcases List.mem_append.mp ht with q | q
  · exact hf t q
  · exact moreT_fine h t (List.mem_filter.mp q).1
theorem stepW_len {found : List Sta} {s : Sta} (h : ksOk s) : (stepW found s).length ≤ found.length + 4 := by
  unfold stepW
  have h1 := List.length_filter_le (fun o => !decide (o ∈ found)) (moreT s)
  have h2 := moreT_len h
  rw [List.length_append]
  omega
theorem foldW_fine {d : Nat} {p : Str → Prop} : ∀ {l found : List Sta}, (∀ t ∈ found, Fine d p t) → (∀ t ∈ l, Fine d p t) → ∀ t ∈ l.foldl stepW found, Fine d p t
  | [], _, h, _ => h
  | s :: l, found, h, hl => foldW_fine (l := l) (stepW_fine h (hl s List.mem_cons_self)) fun t ht => hl t (List.mem_cons_of_mem _ ht)
theorem wishesT_fine {d : Nat} {p : Str → Prop} {s : Sta} (h : Fine d p s) : ∀ t ∈ wishesT s, Fine d p t :=
  foldW_fine (by intro t ht; simp at ht; subst ht; exact h) (allT_fine h)
theorem enc_at0 (s : Sta) : ∃ r, enc s = .tuple (.str (word s) :: r) := enc_word s
theorem ix0 (s : Sta) : oIx (enc s) (.int 0) = some (.str (word s)) := by
  obtain ⟨r, e⟩ := enc_word s
  rw [e]; simp
theorem more_part {Phi : Nm → List D → Option Rs} {d : Nat} (hd : d ≤ 18) {s : Sta} (h : Fine d okM s) (P F y z u : Sl) :
    fSeq (sSet 3 (fLst fNil)) (sIf (fT (f2 oEq (f2 oIx (fOpd 2) (fCon (.int 0))) (fCon (.str "next")))) (sSet 3 (fLst (fCons (f2 oIx (fOpd 2) (fCon (.int 1))) fNil))) (sIf (fT (f2 oEq (f2 oIx (fOpd 2) (fCon (.int 0))) (fCon (.str "until")))) (sSet 3 (fLst (fCons (fVar 2) fNil))) (sIf (fT (f2 oEq (f2 oIx (fOpd 2) (fCon (.int 0))) (fCon (.str "within")))) (sSet 3 (fLc (wRg1 (fCons (f2 oIx (fOpd 2) (fCon (.int 1))) fNil)) (gfN 5) gYes (fTup (fCons (fCon (.str "within")) (fCons (fVar 5) (fCons (f2 oIx (fOpd 2) (fCon (.int 2))) fNil)))) [5])) fNext)))
      [P, F, .va (enc s), y, z, u] = some (.nx [P, F, .va (enc s), .va (encL (moreT s)), z, u]) := by
  cases s with
  | wi k s =>
    have hk := h.ks.1
    have rg : rgOk 0 (k : Int) = true := by have := rgOk_nat (i := 0) (j := k) (by omega) (by omega); simpa using this
    have rd : rgD 0 (k : Int) = (List.range k).map fun i => .int ((i : Nat) : Int) := by have := rg_nat 0 k; simpa using this
    have lw : ∀ (a b c : Sl), lcF (gfN 5) gYes (fTup (fCons (fCon (.str "within")) (fCons (fVar 5) (fCons (f2 oIx (fOpd 2) (fCon (.int 2))) fNil)))) [a, b, .va (.tuple [.str "within", .int k, enc s]), .va (.list []), c, .no] ((List.range k).map fun i => .int ((i : Nat) : Int)) = some ((List.range k).map fun i => enc (.wi i s)) := fun a b c =>
      lcF_map (fun i : Nat => .int (i : Int)) (fun i => enc (.wi i s)) _ fun i _ => ⟨_, rfl, rfl, by simp [fOwn, fOpN,  fSeq, fNext, sRet, sRetN, sIf, sSet, sSetO, sAsg, sApp, sFor, forF, fVar, fOpd, fCon, f2, f1, fNil, fCons, bR, bL, bA, bLL, oR, fT, gAnd, gOr, gNot, gYes, fAnd, fOr, fNot, fIte, fTup, fLst, fCall, fCallO, fB, fM1, fSl, fiNo, fiSm, fLc, wLst, wTup, wStr, wRg1, wRg2, wZip, wEnum, gfN, gfTup, gsNil, gsCons, fLrg, fLrg3, wipeG, xSeq, xSet, xOf, xCall, xIf, xRet, xNext, xTup, xCons, xNil, xPut, xCallP, sRetX, sSetX, List.getElem?_cons_zero, List.getElem?_cons_succ, List.set_cons_zero, List.set_cons_succ, enc]⟩
    have kb : k ≤ big := Nat.le_trans hk (by decide)
    simp only [enc] at lw
    simp [fOwn, fOpN,  fSeq, fNext, sRet, sRetN, sIf, sSet, sSetO, sAsg, sApp, sFor, forF, fVar, fOpd, fCon, f2, f1, fNil, fCons, bR, bL, bA, bLL, oR, fT, gAnd, gOr, gNot, gYes, fAnd, fOr, fNot, fIte, fTup, fLst, fCall, fCallO, fB, fM1, fSl, fiNo, fiSm, fLc, wLst, wTup, wStr, wRg1, wRg2, wZip, wEnum, gfN, gfTup, gsNil, gsCons, fLrg, fLrg3, wipeG, xSeq, xSet, xOf, xCall, xIf, xRet, xNext, xTup, xCons, xNil, xPut, xCallP, sRetX, sSetX, List.getElem?_cons_zero, List.getElem?_cons_succ, List.set_cons_zero, List.set_cons_succ, encL, moreT, enc, rg, rd, lw, kb, List.map_map, Function.comp_def]
  | _ => simp [fOwn, fOpN,  fSeq, fNext, sRet, sRetN, sIf, sSet, sSetO, sAsg, sApp, sFor, forF, fVar, fOpd, fCon, f2, f1, fNil, fCons, bR, bL, bA, bLL, oR, fT, gAnd, gOr, gNot, gYes, fAnd, fOr, fNot, fIte, fTup, fLst, fCall, fCallO, fB, fM1, fSl, fiNo, fiSm, fLc, wLst, wTup, wStr, wRg1, wRg2, wZip, wEnum, gfN, gfTup, gsNil, gsCons, fLrg, fLrg3, wipeG, xSeq, xSet, xOf, xCall, xIf, xRet, xNext, xTup, xCons, xNil, xPut, xCallP, sRetX, sSetX, List.getElem?_cons_zero, List.getElem?_cons_succ, List.set_cons_zero, List.set_cons_succ, enc, encL, moreT]
theorem wish_body {Phi : Nm → List D → Option Rs} {d : Nat} (hd : d ≤ 18) {s : Sta} (h : Fine d okM s) {found : List Sta} (hf : ∀ t ∈ found, Fine d okM t) (hz : found.length + 4 ≤ big) (P y z u : Sl) :
    fSeq (sSet 3 (fLst fNil))
        (fSeq (sIf (fT (f2 oEq (f2 oIx (fOpd 2) (fCon (.int 0))) (fCon (.str "next")))) (sSet 3 (fLst (fCons (f2 oIx (fOpd 2) (fCon (.int 1))) fNil))) (sIf (fT (f2 oEq (f2 oIx (fOpd 2) (fCon (.int 0))) (fCon (.str "until")))) (sSet 3 (fLst (fCons (fVar 2) fNil))) (sIf (fT (f2 oEq (f2 oIx (fOpd 2) (fCon (.int 0))) (fCon (.str "within")))) (sSet 3 (fLc (wRg1 (fCons (f2 oIx (fOpd 2) (fCon (.int 1))) fNil)) (gfN 5) gYes (fTup (fCons (fCon (.str "within")) (fCons (fVar 5) (fCons (f2 oIx (fOpd 2) (fCon (.int 2))) fNil)))) [5])) fNext)))
        (sSet 1 (f2 oAdd (fOpd 1) (fLc (wLst (fVar 3)) (gfN 4) (fT (f2 (oIn true) (fOpd 4) (fOpd 1))) (fVar 4) [4])))) [P, .va (encL found), .va (enc s), y, z, u] =
      some (.nx [P, .va (encL (stepW found s)), .va (enc s), .va (encL (moreT s)), z, u]) := by
  have mp := more_part (Phi := Phi) hd h P (.va (encL found)) y z u
  have mf := moreT_fine h
  have ml := moreT_len h.ks
  have lc : ∀ (z u : Sl), lcF (gfN 4) (fT (f2 (oIn true) (fOpd 4) (fOpd 1))) (fVar 4) [P, .va (.list (found.map enc)), .va (enc s), .va (.list ((moreT s).map enc)), z, u] ((moreT s).map enc) = some (((moreT s).filter fun o => !decide (o ∈ found)).map enc) := fun z u =>
    lcF_filter enc (fun o => !decide (o ∈ found)) enc (moreT s) fun o ho => by
      have i := in_encs (l := found) (s := o) (fun t ht => (hf t ht).mks) (fun t ht => by have := (hf t ht).dep; omega) (mf o ho).mks (by have := (mf o ho).dep; omega) true
      refine ⟨_, rfl, ?_, fun _ => ?_⟩
      · simp [fOwn, fOpN,  fSeq, fNext, sRet, sRetN, sIf, sSet, sSetO, sAsg, sApp, sFor, forF, fVar, fOpd, fCon, f2, f1, fNil, fCons, bR, bL, bA, bLL, oR, fT, gAnd, gOr, gNot, gYes, fAnd, fOr, fNot, fIte, fTup, fLst, fCall, fCallO, fB, fM1, fSl, fiNo, fiSm, fLc, wLst, wTup, wStr, wRg1, wRg2, wZip, wEnum, gfN, gfTup, gsNil, gsCons, fLrg, fLrg3, wipeG, xSeq, xSet, xOf, xCall, xIf, xRet, xNext, xTup, xCons, xNil, xPut, xCallP, sRetX, sSetX, List.getElem?_cons_zero, List.getElem?_cons_succ, List.set_cons_zero, List.set_cons_succ, i]
      · simp [fOwn, fOpN,  fSeq, fNext, sRet, sRetN, sIf, sSet, sSetO, sAsg, sApp, sFor, forF, fVar, fOpd, fCon, f2, f1, fNil, fCons, bR, bL, bA, bLL, oR, fT, gAnd, gOr, gNot, gYes, fAnd, fOr, fNot, fIte, fTup, fLst, fCall, fCallO, fB, fM1, fSl, fiNo, fiSm, fLc, wLst, wTup, wStr, wRg1, wRg2, wZip, wEnum, gfN, gfTup, gsNil, gsCons, fLrg, fLrg3, wipeG, xSeq, xSet, xOf, xCall, xIf, xRet, xNext, xTup, xCons, xNil, xPut, xCallP, sRetX, sSetX, List.getElem?_cons_zero, List.getElem?_cons_succ, List.set_cons_zero, List.set_cons_succ]
  have hfl : found.length + ((moreT s).filter fun o => !decide (o ∈ found)).length ≤ big := by
    have := List.length_filter_le (fun o => !decide (o ∈ found)) (moreT s)
    omega
  have hml : (moreT s).length ≤ big := Nat.le_trans ml (by decide)
  have assoc : ∀ (f g h : Fs) (γ : Ge), fSeq f (fSeq g h) γ = fSeq (fSeq f g) h γ := by
    intro f g h γ
    unfold fSeq
    cases f γ with
    | none => rfl
    | some o => cases o <;> rfl
  rw [assoc]
  unfold fSeq at mp ⊢
  rw [mp]
  simp [fOwn, fOpN,  fSeq, fNext, sRet, sRetN, sIf, sSet, sSetO, sAsg, sApp, sFor, forF, fVar, fOpd, fCon, f2, f1, fNil, fCons, bR, bL, bA, bLL, oR, fT, gAnd, gOr, gNot, gYes, fAnd, fOr, fNot, fIte, fTup, fLst, fCall, fCallO, fB, fM1, fSl, fiNo, fiSm, fLc, wLst, wTup, wStr, wRg1, wRg2, wZip, wEnum, gfN, gfTup, gsNil, gsCons, fLrg, fLrg3, wipeG, xSeq, xSet, xOf, xCall, xIf, xRet, xNext, xTup, xCons, xNil, xPut, xCallP, sRetX, sSetX, List.getElem?_cons_zero, List.getElem?_cons_succ, List.set_cons_zero, List.set_cons_succ, encL, lc, hml, oAdd, hfl, stepW]
theorem run_wishes {d : Nat} (hd : d ≤ 18) {s : Sta} (h : Fine d okM s) {n : Nat} (hn : d + 1 ≤ n) : Phi n .l_wishes [enc s] = some (.ok (encL (wishesT s))) := by
  obtain ⟨n, rfl⟩ : ∃ k, n = k + 1 := ⟨n - 1, by omega⟩
  have ha := run_all s n (by have := h.dep; omega) (by have := h.dep; omega)
  have key : ∀ (l found : List Sta) (P x y z u : Sl), (∀ t ∈ found, Fine d okM t) → (∀ t ∈ l, Fine d okM t) → found.length + 4 * l.length ≤ big →
      ∃ x' y', forF (gfN 2) (fSeq (sSet 3 (fLst fNil))
        (fSeq (sIf (fT (f2 oEq (f2 oIx (fOpd 2) (fCon (.int 0))) (fCon (.str "next")))) (sSet 3 (fLst (fCons (f2 oIx (fOpd 2) (fCon (.int 1))) fNil))) (sIf (fT (f2 oEq (f2 oIx (fOpd 2) (fCon (.int 0))) (fCon (.str "until")))) (sSet 3 (fLst (fCons (fVar 2) fNil))) (sIf (fT (f2 oEq (f2 oIx (fOpd 2) (fCon (.int 0))) (fCon (.str "within")))) (sSet 3 (fLc (wRg1 (fCons (f2 oIx (fOpd 2) (fCon (.int 1))) fNil)) (gfN 5) gYes (fTup (fCons (fCon (.str "within")) (fCons (fVar 5) (fCons (f2 oIx (fOpd 2) (fCon (.int 2))) fNil)))) [5])) fNext)))
        (sSet 1 (f2 oAdd (fOpd 1) (fLc (wLst (fVar 3)) (gfN 4) (fT (f2 (oIn true) (fOpd 4) (fOpd 1))) (fVar 4) [4]))))) (l.map enc) [P, .va (encL found), x, y, z, u] =
      some (.nx [P, .va (encL (l.foldl stepW found)), x', y', z, u]) := by
    intro l
    induction l with
    | nil => intro found P x y z u _ _ _; exact ⟨x, y, rfl⟩
    | cons s l ih =>
      intro found P x y z u hf hl hz
      have fs := hl s List.mem_cons_self
      have sl := stepW_len (found := found) fs.ks
      simp only [List.length_cons] at hz
      obtain ⟨x', y', ih'⟩ := ih (stepW found s) P (.va (enc s)) (.va (encL (moreT s))) z u (stepW_fine hf fs) (fun t ht => hl t (List.mem_cons_of_mem _ ht)) (by omega)
      have b := wish_body (Phi := Phi n) hd fs hf (by omega) P y z u
      refine ⟨x', y', ?_⟩
      simp only [List.map_cons, forF, gfN, List.set_cons_zero, List.set_cons_succ, b, List.foldl_cons]
      exact ih'
  have la := allT_len s
  have lb := big_pow (d := 18) (by omega)
  have lp : 2 ^ s.depth ≤ 2 ^ 18 := Nat.pow_le_pow_right (by omega) (by have := h.dep; omega)
  obtain ⟨x', y', k⟩ := key (allT s) [s] (.va (enc s)) .no .no .no .no (by intro t ht; simp at ht; subst ht; exact h) (allT_fine h) (by simp; unfold big; omega)
  rw [phi_l_wishes]
  simp only [encL, List.map_cons, List.map_nil] at k ha
  unfold runF f_l_wishes
  simp only [entry, fSeq, sSet, fLst, fCons, fNil, fVar, bA_ok, bL_ok, bLL_ok, List.getElem?_cons_zero, List.getElem?_cons_succ, List.set_cons_zero, List.set_cons_succ, List.length_cons, List.length_nil, List.map_cons, List.map_nil, List.cons_append, List.nil_append, List.replicate, sFor, wLst, fCall, ha, big_1, if_true, if_pos, sRet, Nat.reduceAdd, Nat.reduceSub]
  rw [k]
  rfl
end K02

namespace K02
open PySem PySem.Spec PyProof.Rows L2 Py
/-! ### the fitting -/
def fitT (most : Nat) : Sta → Sta
  | .mark m => .mark m
  | .yes => .yes
  | .nt s => if (wishesT (.nt s)).length ≤ most then .nt s else fitT most s
  | .an s t => if (wishesT (.an s t)).length ≤ most then .an s t else fitT most t
  | .or s t => if (wishesT (.or s t)).length ≤ most then .or s t else fitT most t
  | .nx s => if (wishesT (.nx s)).length ≤ most then .nx s else fitT most s
  | .un s t => if (wishesT (.un s t)).length ≤ most then .un s t else fitT most t
  | .wi k s => if (wishesT (.wi k s)).length ≤ most then .wi k s else fitT most s
  | .bf s => if (wishesT (.bf s)).length ≤ most then .bf s else fitT most s
  | .si s t => if (wishesT (.si s t)).length ≤ most then .si s t else fitT most t
theorem fitT_len {most : Nat} (h1 : 1 ≤ most) : ∀ s : Sta, (wishesT (fitT most s)).length ≤ most := by
  intro s
  induction s with
  | mark m => simpa [fitT, wishesT, allT, stepW, moreT] using h1
  | yes => simpa [fitT, wishesT, allT, stepW, moreT] using h1
  | nt s ih => unfold fitT; split; assumption; exact ih
  | nx s ih => unfold fitT; split; assumption; exact ih
  | wi k s ih => unfold fitT; split; assumption; exact ih
  | bf s ih => unfold fitT; split; assumption; exact ih
  | an s t ih ih' => unfold fitT; split; assumption; exact ih'
  | or s t ih ih' => unfold fitT; split; assumption; exact ih'
  | un s t ih ih' => unfold fitT; split; assumption; exact ih'
  | si s t ih ih' => unfold fitT; split; assumption; exact ih'
theorem fitT_fine {most d : Nat} {p : Str → Prop} : ∀ {s : Sta}, Fine d p s → Fine d p (fitT most s) := by
  intro s
  induction s with
  | mark m => intro h; exact h
  | yes => intro h; exact h
  | nt s ih => intro h; have hd := h.dep; simp [Sta.depth] at hd; unfold fitT; split; exact h; exact ih ⟨by omega, h.mks, h.ks⟩
  | nx s ih => intro h; have hd := h.dep; simp [Sta.depth] at hd; unfold fitT; split; exact h; exact ih ⟨by omega, h.mks, h.ks⟩
  | wi k s ih => intro h; have hd := h.dep; simp [Sta.depth] at hd; unfold fitT; split; exact h; exact ih ⟨by omega, h.mks, h.ks.2⟩
  | bf s ih => intro h; have hd := h.dep; simp [Sta.depth] at hd; unfold fitT; split; exact h; exact ih ⟨by omega, h.mks, h.ks⟩
  | an s t ih ih' => intro h; have hd := h.dep; simp [Sta.depth] at hd; unfold fitT; split; exact h; exact ih' ⟨by omega, h.mks.2, h.ks.2⟩
  | or s t ih ih' => intro h; have hd := h.dep; simp [Sta.depth] at hd; unfold fitT; split; exact h; exact ih' ⟨by omega, h.mks.2, h.ks.2⟩
  | un s t ih ih' => intro h; have hd := h.dep; simp [Sta.depth] at hd; unfold fitT; split; exact h; exact ih' ⟨by omega, h.mks.2, h.ks.2⟩
  | si s t ih ih' => intro h; have hd := h.dep; simp [Sta.depth] at hd; unfold fitT; split; exact h; exact ih' ⟨by omega, h.mks.2, h.ks.2⟩
theorem foldW_len {l : List Sta} (hl : ∀ t ∈ l, ksOk t) : ∀ found : List Sta, (l.foldl stepW found).length ≤ found.length + 4 * l.length := by
  induction l with
  | nil => intro f; simp
  | cons s l ih =>
    intro f
    have h1 := ih (fun t ht => hl t (List.mem_cons_of_mem _ ht)) (stepW f s)
    have h2 := stepW_len (found := f) (hl s List.mem_cons_self)
    simp only [List.foldl_cons, List.length_cons]
    omega
theorem wishesT_len {d : Nat} {p : Str → Prop} {s : Sta} (hd : d ≤ 18) (h : Fine d p s) : (wishesT s).length ≤ big := by
  have h1 := foldW_len (l := allT s) (fun t ht => (allT_fine h t ht).ks) [s]
  have h2 := allT_len s
  have h3 : 2 ^ s.depth ≤ 2 ^ 18 := Nat.pow_le_pow_right (by omega) (by have := h.dep; omega)
  unfold wishesT
  simp only [List.length_cons, List.length_nil] at h1
  unfold big
  omega
theorem neg1 (ds : List D) (a : D) (h : ds.getLast? = some a) : oIx (.tuple ds) (.int (-1)) = some a := by
  rw [oIx_tup, atI_neg1 ds a h]
theorem fit_loop {d n : Nat} (hd : d ≤ 18) (hn : d + 1 ≤ n) {most : Nat} (h1 : 1 ≤ most) : ∀ {s : Sta}, Fine d okM s → ∀ m, s.depth + 1 ≤ m →
    whF (fT (f2 oGt (fB oLen (fCons (fCall (Phi n .l_wishes) (fCons (fVar 0) fNil)) fNil)) (fOpd 1))) (sSet 0 (f2 oIx (fOpd 0) (f1 oNeg (fCon (.int 1))))) m [.va (enc s), .va (.int most)]
      = some (.nx [.va (enc (fitT most s)), .va (.int most)]) := by
  have stop : ∀ (s : Sta) (m : Nat), Fine d okM s → (wishesT s).length ≤ most → whF (fT (f2 oGt (fB oLen (fCons (fCall (Phi n .l_wishes) (fCons (fVar 0) fNil)) fNil)) (fOpd 1))) (sSet 0 (f2 oIx (fOpd 0) (f1 oNeg (fCon (.int 1))))) (m + 1) [.va (enc s), .va (.int most)] = some (.nx [.va (enc s), .va (.int most)]) := by
    intro s m h hl
    have w := run_wishes hd h hn
    have c : ¬ ((most : Int) < (((wishesT s).length : Nat) : Int)) := by omega
    unfold whF
    simp [fOwn, fOpN,  fSeq, fNext, sRet, sRetN, sIf, sSet, sSetO, sAsg, sApp, sFor, forF, fVar, fOpd, fCon, f2, f1, fNil, fCons, bR, bL, bA, bLL, oR, fT, gAnd, gOr, gNot, gYes, fAnd, fOr, fNot, fIte, fTup, fLst, fCall, fCallO, fB, fM1, fSl, fiNo, fiSm, fLc, wLst, wTup, wStr, wRg1, wRg2, wZip, wEnum, gfN, gfTup, gsNil, gsCons, fLrg, fLrg3, wipeG, xSeq, xSet, xOf, xCall, xIf, xRet, xNext, xTup, xCons, xNil, xPut, xCallP, sRetX, sSetX, List.getElem?_cons_zero, List.getElem?_cons_succ, List.set_cons_zero, List.set_cons_succ, w, encL, c]
  have go : ∀ (s t : Sta) (m : Nat), Fine d okM s → ¬ (wishesT s).length ≤ most → oIx (enc s) (.int (-1)) = some (enc t) → whF (fT (f2 oGt (fB oLen (fCons (fCall (Phi n .l_wishes) (fCons (fVar 0) fNil)) fNil)) (fOpd 1))) (sSet 0 (f2 oIx (fOpd 0) (f1 oNeg (fCon (.int 1))))) (m + 1) [.va (enc s), .va (.int most)] = whF (fT (f2 oGt (fB oLen (fCons (fCall (Phi n .l_wishes) (fCons (fVar 0) fNil)) fNil)) (fOpd 1))) (sSet 0 (f2 oIx (fOpd 0) (f1 oNeg (fCon (.int 1))))) m [.va (enc t), .va (.int most)] := by
    intro s t m h hl e
    have w := run_wishes hd h hn
    have c : (most : Int) < (((wishesT s).length : Nat) : Int) := by omega
    conv => lhs; unfold whF
    simp [fOwn, fOpN,  fSeq, fNext, sRet, sRetN, sIf, sSet, sSetO, sAsg, sApp, sFor, forF, fVar, fOpd, fCon, f2, f1, fNil, fCons, bR, bL, bA, bLL, oR, fT, gAnd, gOr, gNot, gYes, fAnd, fOr, fNot, fIte, fTup, fLst, fCall, fCallO, fB, fM1, fSl, fiNo, fiSm, fLc, wLst, wTup, wStr, wRg1, wRg2, wZip, wEnum, gfN, gfTup, gsNil, gsCons, fLrg, fLrg3, wipeG, xSeq, xSet, xOf, xCall, xIf, xRet, xNext, xTup, xCons, xNil, xPut, xCallP, sRetX, sSetX, List.getElem?_cons_zero, List.getElem?_cons_succ, List.set_cons_zero, List.set_cons_succ, w, encL, c, oNeg, e]
  intro s
  induction s with
  | mark x => intro h m hm; obtain ⟨m, rfl⟩ : ∃ k, m = k + 1 := ⟨m - 1, by omega⟩; exact stop _ m h (by have := fitT_len h1 (.mark x); exact this)
  | yes => intro h m hm; obtain ⟨m, rfl⟩ : ∃ k, m = k + 1 := ⟨m - 1, by omega⟩; exact stop _ m h (by have := fitT_len h1 .yes; exact this)
  | nt s ih =>
    intro h m hm; have hk := h.dep; simp [Sta.depth] at hk hm; obtain ⟨m, rfl⟩ : ∃ k, m = k + 1 := ⟨m - 1, by omega⟩
    unfold fitT; split
    · exact stop _ m h (by assumption)
    · rw [go _ s m h (by assumption) (neg1 _ _ rfl)]; exact ih ⟨by omega, h.mks, h.ks⟩ m (by omega)
  | nx s ih =>
    intro h m hm; have hk := h.dep; simp [Sta.depth] at hk hm; obtain ⟨m, rfl⟩ : ∃ k, m = k + 1 := ⟨m - 1, by omega⟩
    unfold fitT; split
    · exact stop _ m h (by assumption)
    · rw [go _ s m h (by assumption) (neg1 _ _ rfl)]; exact ih ⟨by omega, h.mks, h.ks⟩ m (by omega)
  | bf s ih =>
    intro h m hm; have hk := h.dep; simp [Sta.depth] at hk hm; obtain ⟨m, rfl⟩ : ∃ k, m = k + 1 := ⟨m - 1, by omega⟩
    unfold fitT; split
    · exact stop _ m h (by assumption)
    · rw [go _ s m h (by assumption) (neg1 _ _ rfl)]; exact ih ⟨by omega, h.mks, h.ks⟩ m (by omega)
  | wi k s ih =>
    intro h m hm; have hk := h.dep; simp [Sta.depth] at hk hm; obtain ⟨m, rfl⟩ : ∃ k, m = k + 1 := ⟨m - 1, by omega⟩
    unfold fitT; split
    · exact stop _ m h (by assumption)
    · rw [go _ s m h (by assumption) (neg1 _ _ rfl)]; exact ih ⟨by omega, h.mks, h.ks.2⟩ m (by omega)
  | an s t ih ih' =>
    intro h m hm; have hk := h.dep; simp [Sta.depth] at hk hm; obtain ⟨m, rfl⟩ : ∃ k, m = k + 1 := ⟨m - 1, by omega⟩
    unfold fitT; split
    · exact stop _ m h (by assumption)
    · rw [go _ t m h (by assumption) (neg1 _ _ rfl)]; exact ih' ⟨by omega, h.mks.2, h.ks.2⟩ m (by omega)
  | or s t ih ih' =>
    intro h m hm; have hk := h.dep; simp [Sta.depth] at hk hm; obtain ⟨m, rfl⟩ : ∃ k, m = k + 1 := ⟨m - 1, by omega⟩
    unfold fitT; split
    · exact stop _ m h (by assumption)
    · rw [go _ t m h (by assumption) (neg1 _ _ rfl)]; exact ih' ⟨by omega, h.mks.2, h.ks.2⟩ m (by omega)
  | un s t ih ih' =>
    intro h m hm; have hk := h.dep; simp [Sta.depth] at hk hm; obtain ⟨m, rfl⟩ : ∃ k, m = k + 1 := ⟨m - 1, by omega⟩
    unfold fitT; split
    · exact stop _ m h (by assumption)
    · rw [go _ t m h (by assumption) (neg1 _ _ rfl)]; exact ih' ⟨by omega, h.mks.2, h.ks.2⟩ m (by omega)
  | si s t ih ih' =>
    intro h m hm; have hk := h.dep; simp [Sta.depth] at hk hm; obtain ⟨m, rfl⟩ : ∃ k, m = k + 1 := ⟨m - 1, by omega⟩
    unfold fitT; split
    · exact stop _ m h (by assumption)
    · rw [go _ t m h (by assumption) (neg1 _ _ rfl)]; exact ih' ⟨by omega, h.mks.2, h.ks.2⟩ m (by omega)
theorem run_fit {d n : Nat} (hd : d ≤ 18) (hn : d + 2 ≤ n) {most : Nat} (h1 : 1 ≤ most) {s : Sta} (h : Fine d okM s) : Phi n .l_fit [enc s, .int most] = some (.ok (enc (fitT most s))) := by
  obtain ⟨n, rfl⟩ : ∃ k, n = k + 1 := ⟨n - 1, by omega⟩
  have hf : s.depth + 1 ≤ fuel := Nat.le_trans (show s.depth + 1 ≤ 19 by have := h.dep; omega) (by unfold fuel; decide)
  have k := fit_loop hd (n := n) (by omega) h1 h fuel hf
  rw [phi_l_fit]
  unfold runF f_l_fit
  simp [entry, fSeq, sWh, k, sRet, fVar]
end K02

namespace K02
open PySem PySem.Spec PyProof.Rows L2 Py
/-! ### the names -/
/-- a short text of small letters -/
structure Low (n : Nat) (s : Str) : Prop where
  let_ : ∀ x ∈ s.cps.toList, 97 ≤ x ∧ x ≤ 122
  len : s.length ≤ n
theorem Low.ok {n : Nat} {s : Str} (h : Low n s) : okM s := by
  unfold okM PyData.strOk
  rw [← Array.all_toList, List.all_eq_true]
  intro x hx
  have := h.let_ x hx
  exact decide_eq_true (by omega)
theorem Low.cut {n : Nat} {s : Str} (h : Low n s) (lo hi : Option Int) : Low n (cutS s lo hi) :=
  ⟨fun x hx => by
    unfold cutS at hx
    simp only [List.toList_toArray] at hx
    exact h.let_ x (List.drop_subset _ _ (List.take_subset _ _ hx)), Nat.le_trans (cutS_length s lo hi) h.len⟩
theorem Low.app {n m : Nat} {s t : Str} (h : Low n s) (h2 : Low m t) : Low (n + m) (s ++ t) :=
  ⟨fun x hx => by
    have e : (s ++ t).cps.toList = s.cps.toList ++ t.cps.toList := TL.tl_append s t
    rw [e] at hx
    rcases List.mem_append.mp hx with q | q
    · exact h.let_ x q
    · exact h2.let_ x q, by
    have : (s ++ t).length = s.length + t.length := Str.length_append s t
    have := h.len; have := h2.len; omega⟩
def letS (x : Int) : Str := ⟨#[97 + (x % 26).toNat]⟩
theorem letS_low (x : Int) : Low 1 (letS x) :=
  ⟨fun y hy => by
    unfold letS at hy
    simp only [List.mem_singleton] at hy
    subst hy
    have h1 := Int.emod_nonneg x (show (26 : Int) ≠ 0 by decide)
    have h2 := Int.emod_lt_of_pos x (show (0 : Int) < 26 by decide)
    omega, Nat.le_refl _⟩
theorem letters_at : ∀ j : _root_.Fin 26, atI ("abcdefghijklmnopqrstuvwxyz" : Str).cps.toList (j.val : Int) = some (97 + j.val) := by decide +kernel
theorem letters_len : ("abcdefghijklmnopqrstuvwxyz" : Str).length ≤ big := by decide +kernel
theorem ix_letter (x : Int) : oIx (.str "abcdefghijklmnopqrstuvwxyz") (.int (x % 26)) = some (.str (letS x)) := by
  have h1 := Int.emod_nonneg x (show (26 : Int) ≠ 0 by decide)
  have h2 := Int.emod_lt_of_pos x (show (0 : Int) < 26 by decide)
  have h := letters_at ⟨(x % 26).toNat, by omega⟩
  have e : (((x % 26).toNat : Nat) : Int) = x % 26 := Int.toNat_of_nonneg h1
  simp only [e] at h
  show (if ("abcdefghijklmnopqrstuvwxyz" : Str).length ≤ big then (match atI ("abcdefghijklmnopqrstuvwxyz" : Str).cps.toList (x % 26) with | some c => some (PyData.str ⟨#[c]⟩) | none => none) else none) = _
  rw [if_pos letters_len, h]
  rfl
theorem joinN_low : ∀ l : List Str, (∀ s ∈ l, Low 1 s) → Low l.length (Str.join "" l)
  | [], _ => ⟨fun x hx => (by cases hx), Nat.le_refl _⟩
  | [a], h => h a List.mem_cons_self
  | a :: b :: r, h => by
    have e : Str.join "" (a :: b :: r) = a ++ "" ++ Str.join "" (b :: r) := rfl
    have ih := joinN_low (b :: r) fun s hs => h s (List.mem_cons_of_mem _ hs)
    have he : Low 0 ("" : Str) := ⟨fun x hx => (by cases hx), Nat.le_refl _⟩
    have := ((h a List.mem_cons_self).app he).app ih
    rw [e]
    simp only [List.length_cons] at this ⊢
    exact ⟨this.let_, by have := this.len; omega⟩
theorem join_low (l : List Str) (h : ∀ s ∈ l, Low 1 s) : Low l.length (Txt.join "" l) := by
  rw [TL.join_eq]; exact joinN_low l h
theorem oSl_str {z : Str} (h : z.length ≤ big) (lo hi : Option Int) : oSl lo hi (.str z) = some (.str (cutS z lo hi)) := by
  show (if z.length ≤ big then some (PyData.str (cutS z lo hi)) else none) = _; rw [if_pos h]
theorem oAdd_str {y z : Str} (h : y.length + z.length ≤ big) : oAdd (.str y) (.str z) = some (.str (y ++ z)) := by
  show (if y.length + z.length ≤ big then some (PyData.str (y ++ z)) else none) = _; rw [if_pos h]
theorem oJoin_six {a b c d e f : Str} (h : ∀ s ∈ [a, b, c, d, e, f], Low 1 s) : oJoin "" (.list [.str a, .str b, .str c, .str d, .str e, .str f]) = some (.str (Txt.join "" [a, b, c, d, e, f])) := by
  have hs : strsOf [.str a, .str b, .str c, .str d, .str e, .str f] = some [a, b, c, d, e, f] := rfl
  have z : (([a, b, c, d, e, f] : List Str).map (·.length)).sum + [a, b, c, d, e, f].length * (("" : Str)).length ≤ big := by
    have h1 := (h a (by simp)).len
    have h2 := (h b (by simp)).len
    have h3 := (h c (by simp)).len
    have h4 := (h d (by simp)).len
    have h5 := (h e (by simp)).len
    have h6 := (h f (by simp)).len
    have h0 : ("" : Str).length = 0 := rfl
    rw [h0]
    simp only [List.map_cons, List.map_nil, List.sum_cons, List.sum_nil, big]
    omega
  unfold oJoin
  simp only [hs, if_pos z]
theorem mul5 (j : Int) : oMul (.int 5) (.int j) = some (.int (5 * j)) := oMul_int _ _ (.inl ⟨by decide, by decide⟩)
theorem mul7 (j : Int) : oMul (.int 7) (.int j) = some (.int (7 * j)) := oMul_int _ _ (.inl ⟨by decide, by decide⟩)
theorem rg6 : rgD 0 6 = [.int 0, .int 1, .int 2, .int 3, .int 4, .int 5] := rfl
theorem rg3 : rgD 0 3 = [.int 0, .int 1, .int 2] := rfl
theorem rgo6 : rgOk 0 6 = true := by decide
theorem rgo3 : rgOk 0 3 = true := by decide
theorem run_names (n : Nat) (c : Int) : ∃ a b d : Str, Low 13 a ∧ Low 13 b ∧ Low 13 d ∧ Phi (n + 1) .l_names [.int c] = some (.ok (.list [.str a, .str b, .str d])) := by
  rw [phi_l_names]
  have hl : ∀ s ∈ [letS (c / 7), letS (c / 7 + 5), letS (c / 7 + 10), letS (c / 7 + 15), letS (c / 7 + 20), letS (c / 7 + 25)], Low 1 s := by
    intro s hs
    simp only [List.mem_cons, List.not_mem_nil, or_false] at hs
    rcases hs with rfl | rfl | rfl | rfl | rfl | rfl <;> exact letS_low _
  have hj := oJoin_six hl
  have hr := join_low _ hl
  generalize hz : Txt.join "" [letS (c / 7), letS (c / 7 + 5), letS (c / 7 + 10), letS (c / 7 + 15), letS (c / 7 + 20), letS (c / 7 + 25)] = z at hj hr
  have hr : Low 6 z := hr
  have hb : z.length ≤ big := Nat.le_trans hr.len (by decide)
  have sl := fun lo hi => oSl_str hb lo hi
  have hrest : lcF (gfN 8) gYes (f2 oIx (fOpd 1) (f2 oMod (f2 oAdd (f2 oDiv (fOpd 0) (fCon (.int 7))) (f2 oMul (fCon (.int 5)) (fOpd 8))) (fCon (.int 26)))) [.va (.int c), .va (.str "abcdefghijklmnopqrstuvwxyz"), .no, .no, .no, .no, .no, .no, .no] [.int 0, .int 1, .int 2, .int 3, .int 4, .int 5]
      = some [.str (letS (c / 7)), .str (letS (c / 7 + 5)), .str (letS (c / 7 + 10)), .str (letS (c / 7 + 15)), .str (letS (c / 7 + 20)), .str (letS (c / 7 + 25))] := by
    simp [lcF, fOwn, fOpN,  fSeq, fNext, sRet, sRetN, sIf, sSet, sSetO, sAsg, sApp, sFor, forF, fVar, fOpd, fCon, f2, f1, fNil, fCons, bR, bL, bA, bLL, oR, fT, gAnd, gOr, gNot, gYes, fAnd, fOr, fNot, fIte, fTup, fLst, fCall, fCallO, fB, fM1, fSl, fiNo, fiSm, fLc, wLst, wTup, wStr, wRg1, wRg2, wZip, wEnum, gfN, gfTup, gsNil, gsCons, fLrg, fLrg3, wipeG, xSeq, xSet, xOf, xCall, xIf, xRet, xNext, xTup, xCons, xNil, xPut, xCallP, sRetX, sSetX, List.getElem?_cons_zero, List.getElem?_cons_succ, List.set_cons_zero, List.set_cons_succ, mul5, ix_letter]
  by_cases h2 : c % 3 = 2
  · refine ⟨cutS z none (some (1 + c / 3 % 4 + 0)), cutS z none (some (1 + c / 3 % 4 + 1)), cutS z none (some (1 + c / 3 % 4 + 2)), ?_, ?_, ?_, ?_⟩
    · exact ⟨(hr.cut _ _).let_, Nat.le_trans (hr.cut _ _).len (by decide)⟩
    · exact ⟨(hr.cut _ _).let_, Nat.le_trans (hr.cut _ _).len (by decide)⟩
    · exact ⟨(hr.cut _ _).let_, Nat.le_trans (hr.cut _ _).len (by decide)⟩
    have hsl : lcF (gfN 6) gYes (fSl (fOpd 2) fiNo (fiSm (f2 oAdd (fOpd 3) (fOpd 6)))) [.va (.int c), .va (.str "abcdefghijklmnopqrstuvwxyz"), .va (.str z), .va (.int (1 + c / 3 % 4)), .no, .no, .no, .no, .no] [.int 0, .int 1, .int 2]
        = some [.str (cutS z none (some (1 + c / 3 % 4 + 0))), .str (cutS z none (some (1 + c / 3 % 4 + 1))), .str (cutS z none (some (1 + c / 3 % 4 + 2)))] := by
      simp [lcF, fOwn, fOpN,  fSeq, fNext, sRet, sRetN, sIf, sSet, sSetO, sAsg, sApp, sFor, forF, fVar, fOpd, fCon, f2, f1, fNil, fCons, bR, bL, bA, bLL, oR, fT, gAnd, gOr, gNot, gYes, fAnd, fOr, fNot, fIte, fTup, fLst, fCall, fCallO, fB, fM1, fSl, fiNo, fiSm, fLc, wLst, wTup, wStr, wRg1, wRg2, wZip, wEnum, gfN, gfTup, gsNil, gsCons, fLrg, fLrg3, wipeG, xSeq, xSet, xOf, xCall, xIf, xRet, xNext, xTup, xCons, xNil, xPut, xCallP, sRetX, sSetX, List.getElem?_cons_zero, List.getElem?_cons_succ, List.set_cons_zero, List.set_cons_succ, sl]
    unfold runF f_l_names
    simp [entry, fOwn, fOpN,  fSeq, fNext, sRet, sRetN, sIf, sSet, sSetO, sAsg, sApp, sFor, forF, fVar, fOpd, fCon, f2, f1, fNil, fCons, bR, bL, bA, bLL, oR, fT, gAnd, gOr, gNot, gYes, fAnd, fOr, fNot, fIte, fTup, fLst, fCall, fCallO, fB, fM1, fSl, fiNo, fiSm, fLc, wLst, wTup, wStr, wRg1, wRg2, wZip, wEnum, gfN, gfTup, gsNil, gsCons, fLrg, fLrg3, wipeG, xSeq, xSet, xOf, xCall, xIf, xRet, xNext, xTup, xCons, xNil, xPut, xCallP, sRetX, sSetX, List.getElem?_cons_zero, List.getElem?_cons_succ, List.set_cons_zero, List.set_cons_succ, rg6, rg3, rgo6, rgo3, hrest, hj, h2, List.replicate, hsl]
  · have hs := Int.emod_nonneg (c / 3) (show (6 : Int) ≠ 0 by decide)
    have c2 : (c % 3 == 2) = false := beq_eq_false_iff_ne.mpr h2
    have w1 : ∀ x : Int, (cutS z none (some (c / 18 % (c / 3 % 6 + 1)))).length + (letS x).length ≤ big := fun x => by
      have h1 := (hr.cut none (some (c / 18 % (c / 3 % 6 + 1)))).len
      have h2 := (letS_low x).len
      unfold big; omega
    have w2 : ∀ x : Int, (cutS z none (some (c / 18 % (c / 3 % 6 + 1))) ++ letS x).length + (cutS z (some (c / 18 % (c / 3 % 6 + 1))) (some (c / 3 % 6))).length ≤ big := fun x => by
      have h1 := ((hr.cut none (some (c / 18 % (c / 3 % 6 + 1)))).app (letS_low x)).len
      have h2 := (hr.cut (some (c / 18 % (c / 3 % 6 + 1))) (some (c / 3 % 6))).len
      unfold big; omega
    have low : ∀ x : Int, Low 13 (cutS z none (some (c / 18 % (c / 3 % 6 + 1))) ++ letS x ++ cutS z (some (c / 18 % (c / 3 % 6 + 1))) (some (c / 3 % 6))) := fun x =>
      ((hr.cut none (some (c / 18 % (c / 3 % 6 + 1)))).app (letS_low x)).app (hr.cut (some (c / 18 % (c / 3 % 6 + 1))) (some (c / 3 % 6)))
    refine ⟨_, _, _, low (c / 90 + 7 * 0), low (c / 90 + 7 * 1), low (c / 90 + 7 * 2), ?_⟩
    have pos : (0 : Int) < c / 3 % 6 + 1 := by omega
    unfold runF f_l_names
    simp [entry, fOwn, fOpN,  fSeq, fNext, sRet, sRetN, sIf, sSet, sSetO, sAsg, sApp, sFor, forF, fVar, fOpd, fCon, f2, f1, fNil, fCons, bR, bL, bA, bLL, oR, fT, gAnd, gOr, gNot, gYes, fAnd, fOr, fNot, fIte, fTup, fLst, fCall, fCallO, fB, fM1, fSl, fiNo, fiSm, fLc, wLst, wTup, wStr, wRg1, wRg2, wZip, wEnum, gfN, gfTup, gsNil, gsCons, fLrg, fLrg3, wipeG, xSeq, xSet, xOf, xCall, xIf, xRet, xNext, xTup, xCons, xNil, xPut, xCallP, sRetX, sSetX, List.getElem?_cons_zero, List.getElem?_cons_succ, List.set_cons_zero, List.set_cons_succ, rg6, rg3, rgo6, rgo3, hrest, hj, c2, List.replicate, sl, ix_letter, mul7, oAdd_str (w1 _), oAdd_str (w2 _), oMod_int _ _ pos]
end K02

namespace K02
open PySem PySem.Spec PyProof.Rows L2 Py
/-! ### the cells (for laws without runs) -/
def cellT (ns : List Int) (k : Nat) : Int := ns.getD k 0
def nsD (ns : List Int) : D := .list (ns.map .int)
theorem run_cell (n : Nat) (ns : List Int) (k : Nat) : Phi (n + 1) .l_cell_at [nsD ns, .int k] = some (.ok (.int (cellT ns k))) := by
  rw [phi_l_cell_at]
  unfold runF f_l_cell_at
  by_cases h : k < ns.length
  · have h1 : (k : Int) < (ns.length : Int) := by omega
    have e : atI (ns.map PyData.int) (k : Int) = some (.int (cellT ns k)) := by
      refine atI_cast ?_
      rw [List.getElem?_map, List.getElem?_eq_getElem h]
      simp [cellT, List.getD, List.getElem?_eq_getElem h]
    simp [entry, fOwn, fOpN,  fSeq, fNext, sRet, sRetN, sIf, sSet, sSetO, sAsg, sApp, sFor, forF, fVar, fOpd, fCon, f2, f1, fNil, fCons, bR, bL, bA, bLL, oR, fT, gAnd, gOr, gNot, gYes, fAnd, fOr, fNot, fIte, fTup, fLst, fCall, fCallO, fB, fM1, fSl, fiNo, fiSm, fLc, wLst, wTup, wStr, wRg1, wRg2, wZip, wEnum, gfN, gfTup, gsNil, gsCons, fLrg, fLrg3, wipeG, xSeq, xSet, xOf, xCall, xIf, xRet, xNext, xTup, xCons, xNil, xPut, xCallP, sRetX, sSetX, List.getElem?_cons_zero, List.getElem?_cons_succ, List.set_cons_zero, List.set_cons_succ, nsD, h, e]
  · have h1 : ¬ (k : Int) < (ns.length : Int) := by omega
    have e : cellT ns k = 0 := by unfold cellT; rw [List.getD_eq_getElem?_getD, List.getElem?_eq_none (by omega)]; rfl
    simp [entry, fOwn, fOpN,  fSeq, fNext, sRet, sRetN, sIf, sSet, sSetO, sAsg, sApp, sFor, forF, fVar, fOpd, fCon, f2, f1, fNil, fCons, bR, bL, bA, bLL, oR, fT, gAnd, gOr, gNot, gYes, fAnd, fOr, fNot, fIte, fTup, fLst, fCall, fCallO, fB, fM1, fSl, fiNo, fiSm, fLc, wLst, wTup, wStr, wRg1, wRg2, wZip, wEnum, gfN, gfTup, gsNil, gsCons, fLrg, fLrg3, wipeG, xSeq, xSet, xOf, xCall, xIf, xRet, xNext, xTup, xCons, xNil, xPut, xCallP, sRetX, sSetX, List.getElem?_cons_zero, List.getElem?_cons_succ, List.set_cons_zero, List.set_cons_succ, nsD, h, e]
theorem oAdd_lst (x y : List D) : oAdd (.list x) (.list y) = if x.length + y.length ≤ big then some (.list (x ++ y)) else none := rfl
end K02

namespace K02
open PySem PySem.Spec PyProof.Rows L2 Py
/-! ### the statement that the script makes -/
theorem set_one (d : D) : ([.int 0] : List D).set 0 d = [d] := rfl
theorem run_draw (n : Nat) (ns : List Int) (k : Nat) : ∃ c : Int, Psi (n + 1) .l_draw (nsD ns) (k : Int) [] = some (.int c, ((k + 1 : Nat) : Int)) := by
  have i0 : ixN 1 0 = some 0 := by decide
  have e1 : ((k + 1 : Nat) : Int) = (k : Int) + 1 := by omega
  have e2 : (k : Int) + 1 - 1 = k := by omega
  have at_ : ∀ j : Nat, j < ns.length → atI (ns.map PyData.int) (j : Int) = some (.int (ns.getD j 0)) := fun j h => by
    refine atI_cast ?_
    rw [List.getElem?_map, List.getElem?_eq_getElem h]
    simp [List.getD, List.getElem?_eq_getElem h]
  rw [psi_l_draw, e1]
  unfold runX f_l_draw
  by_cases h : k < ns.length
  · refine ⟨ns.getD k 0, ?_⟩
    have a := at_ k h
    simp [entryX, entry, fOwn, fOpN,  fSeq, fNext, sRet, sRetN, sIf, sSet, sSetO, sAsg, sApp, sFor, forF, fVar, fOpd, fCon, f2, f1, fNil, fCons, bR, bL, bA, bLL, oR, fT, gAnd, gOr, gNot, gYes, fAnd, fOr, fNot, fIte, fTup, fLst, fCall, fCallO, fB, fM1, fSl, fiNo, fiSm, fLc, wLst, wTup, wStr, wRg1, wRg2, wZip, wEnum, gfN, gfTup, gsNil, gsCons, fLrg, fLrg3, wipeG, xSeq, xSet, xOf, xCall, xIf, xRet, xNext, xTup, xCons, xNil, xPut, xCallP, sRetX, sSetX, List.getElem?_cons_zero, List.getElem?_cons_succ, List.set_cons_zero, List.set_cons_succ, nsD, i0, e2, h, a, List.replicate]
  · by_cases h2 : 4 < ns.length ∧ k < 40
    · have hm : k % ns.length < ns.length := Nat.mod_lt _ (by omega)
      have a := at_ (k % ns.length) hm
      have em : (((k % ns.length : Nat)) : Int) = (k : Int) % (ns.length : Int) := by omega
      rw [em] at a
      have m1 : oMul (.int 7919) (.int (k : Int)) = some (.int (7919 * (k : Int))) := oMul_int _ _ (.inl ⟨by decide, by decide⟩)
      have m2 : ∀ x : Int, oMul (.int x) (.int 48271) = some (.int (x * 48271)) := fun x => oMul_int _ _ (.inr ⟨by decide, by decide⟩)
      have pos : (0 : Int) < (ns.length : Int) := by omega
      refine ⟨(ns.getD (k % ns.length) 0 + 7919 * (k : Int)) * 48271 % 1000003, ?_⟩
      have c4 : (4 : Int) < (ns.length : Int) := by omega
      have c40 : (k : Int) < 40 := by omega
      simp [entryX, entry, fOwn, fOpN,  fSeq, fNext, sRet, sRetN, sIf, sSet, sSetO, sAsg, sApp, sFor, forF, fVar, fOpd, fCon, f2, f1, fNil, fCons, bR, bL, bA, bLL, oR, fT, gAnd, gOr, gNot, gYes, fAnd, fOr, fNot, fIte, fTup, fLst, fCall, fCallO, fB, fM1, fSl, fiNo, fiSm, fLc, wLst, wTup, wStr, wRg1, wRg2, wZip, wEnum, gfN, gfTup, gsNil, gsCons, fLrg, fLrg3, wipeG, xSeq, xSet, xOf, xCall, xIf, xRet, xNext, xTup, xCons, xNil, xPut, xCallP, sRetX, sSetX, List.getElem?_cons_zero, List.getElem?_cons_succ, List.set_cons_zero, List.set_cons_succ, nsD, i0, e2, h, a, m1, m2, c4, c40, oMod_int _ _ pos, List.replicate]
    · refine ⟨0, ?_⟩
      by_cases h3 : 4 < ns.length
      · have c4 : (4 : Int) < (ns.length : Int) := by omega
        have c40 : ¬ (k : Int) < 40 := by omega
        simp [entryX, entry, fOwn, fOpN,  fSeq, fNext, sRet, sRetN, sIf, sSet, sSetO, sAsg, sApp, sFor, forF, fVar, fOpd, fCon, f2, f1, fNil, fCons, bR, bL, bA, bLL, oR, fT, gAnd, gOr, gNot, gYes, fAnd, fOr, fNot, fIte, fTup, fLst, fCall, fCallO, fB, fM1, fSl, fiNo, fiSm, fLc, wLst, wTup, wStr, wRg1, wRg2, wZip, wEnum, gfN, gfTup, gsNil, gsCons, fLrg, fLrg3, wipeG, xSeq, xSet, xOf, xCall, xIf, xRet, xNext, xTup, xCons, xNil, xPut, xCallP, sRetX, sSetX, List.getElem?_cons_zero, List.getElem?_cons_succ, List.set_cons_zero, List.set_cons_succ, nsD, i0, e2, h, c4, c40, List.replicate]
      · have c4 : ¬ (4 : Int) < (ns.length : Int) := by omega
        simp [entryX, entry, fOwn, fOpN,  fSeq, fNext, sRet, sRetN, sIf, sSet, sSetO, sAsg, sApp, sFor, forF, fVar, fOpd, fCon, f2, f1, fNil, fCons, bR, bL, bA, bLL, oR, fT, gAnd, gOr, gNot, gYes, fAnd, fOr, fNot, fIte, fTup, fLst, fCall, fCallO, fB, fM1, fSl, fiNo, fiSm, fLc, wLst, wTup, wStr, wRg1, wRg2, wZip, wEnum, gfN, gfTup, gsNil, gsCons, fLrg, fLrg3, wipeG, xSeq, xSet, xOf, xCall, xIf, xRet, xNext, xTup, xCons, xNil, xPut, xCallP, sRetX, sSetX, List.getElem?_cons_zero, List.getElem?_cons_succ, List.set_cons_zero, List.set_cons_succ, nsD, i0, e2, h, c4, List.replicate]
abbrev kindsA : List Str := ["not", "and", "or", "before", "since", "not", "and", "before", "since", "or", "since", "before"]
abbrev kindsB : List Str := ["not", "and", "or", "next", "until", "within", "until", "next", "since", "before", "until", "within"]
def words : List Str := ["not", "and", "or", "next", "until", "within", "before", "since"]
theorem oSplit_str {a b : Str} (g : (b.length == 0) = false ∧ a.length + 2 ≤ big) : oSplit a (.str b) = some (.list ((Txt.split a b).map .str)) := by
  show (if (b.length == 0) = false ∧ a.length + 2 ≤ big then some (PyData.list ((Txt.split a b).map .str)) else none) = _
  rw [if_pos g]
theorem split_a : oSplit "not and or before since not and before since or since before" (.str " ") = some (.list (kindsA.map .str)) := by
  have h : Txt.split "not and or before since not and before since or since before" " " = kindsA := by decide +kernel
  have g : (((" " : Str).length == 0) = false ∧ ("not and or before since not and before since or since before" : Str).length + 2 ≤ big) := by decide +kernel
  rw [oSplit_str g, h]
theorem split_b : oSplit "not and or next until within until next since before until within" (.str " ") = some (.list (kindsB.map .str)) := by
  have h : Txt.split "not and or next until within until next since before until within" " " = kindsB := by decide +kernel
  have g : (((" " : Str).length == 0) = false ∧ ("not and or next until within until next since before until within" : Str).length + 2 ≤ big) := by decide +kernel
  rw [oSplit_str g, h]
def wordsP : List Str := ["not", "and", "or", "before", "since"]
theorem at_words (W l : List Str) (hl : l.length = 12) (hw : ∀ w ∈ l, w ∈ W) (c : Int) (h : ¬ c % 14 < 2) : ∃ w ∈ W, atI (l.map PyData.str) (c % 14 - 2) = some (.str w) := by
  have h1 := Int.emod_nonneg c (show (14 : Int) ≠ 0 by decide)
  have h2 := Int.emod_lt_of_pos c (show (0 : Int) < 14 by decide)
  have hi : (c % 14 - 2).toNat < l.length := by omega
  refine ⟨l[(c % 14 - 2).toNat], hw _ (List.getElem_mem hi), ?_⟩
  have e : (((c % 14 - 2).toNat : Nat) : Int) = c % 14 - 2 := Int.toNat_of_nonneg (by omega)
  have a : atI (l.map PyData.str) (((c % 14 - 2).toNat : Nat) : Int) = some (.str l[(c % 14 - 2).toNat]) := by
    refine atI_cast ?_
    rw [List.getElem?_map, List.getElem?_eq_getElem hi]
    rfl
  rw [e] at a
  exact a
theorem at_ks (x y : Int) : ∃ j : Nat, j ≤ 4 ∧ atI ([.int 1, .int 2, .int 0, .int 1, .int (y % 5)] : List D) (x % 5) = some (.int j) := by
  have h1 := Int.emod_nonneg x (show (5 : Int) ≠ 0 by decide)
  have h2 := Int.emod_lt_of_pos x (show (0 : Int) < 5 by decide)
  have g1 := Int.emod_nonneg y (show (5 : Int) ≠ 0 by decide)
  have g2 := Int.emod_lt_of_pos y (show (0 : Int) < 5 by decide)
  have e : (((x % 5).toNat : Nat) : Int) = x % 5 := Int.toNat_of_nonneg h1
  generalize x % 5 = z at h1 h2 e ⊢
  have hz : z = 0 ∨ z = 1 ∨ z = 2 ∨ z = 3 ∨ z = 4 := by omega
  rcases hz with rfl | rfl | rfl | rfl | rfl
  · exact ⟨1, by decide, rfl⟩
  · exact ⟨2, by decide, rfl⟩
  · exact ⟨0, by decide, rfl⟩
  · exact ⟨1, by decide, rfl⟩
  · refine ⟨(y % 5).toNat, by omega, ?_⟩
    rw [Int.toNat_of_nonneg g1]
    rfl
theorem at_three (x y z : Str) (c : Int) : ∃ w ∈ [x, y, z], atI ([.str x, .str y, .str z] : List D) (c % 3) = some (.str w) := by
  have h1 := Int.emod_nonneg c (show (3 : Int) ≠ 0 by decide)
  have h2 := Int.emod_lt_of_pos c (show (0 : Int) < 3 by decide)
  generalize c % 3 = i at h1 h2 ⊢
  have hz : i = 0 ∨ i = 1 ∨ i = 2 := by omega
  rcases hz with rfl | rfl | rfl
  · exact ⟨x, by simp, rfl⟩
  · exact ⟨y, by simp, rfl⟩
  · exact ⟨z, by simp, rfl⟩
theorem made_leaf {ns : List Int} {x y z : Str} {p : Str → Prop} (hp : ∀ w ∈ [x, y, z], p w) (d : Nat) (D0 K0 K1 : Int) (ahead : Bool) (c : Int) (Psy : Nx → Phx) (hd : Psy .l_draw (nsD ns) K0 [] = some (.int c, K1)) (hc : D0 < 2 ∨ c % 14 < 2) :
      ∃ s : Sta, Fine (d + 1) p s ∧ noFut s ∧ unm s ∧ runX 5 10 (f_l_made Psy) (nsD ns) K0 [.list [.str x, .str y, .str z], .int D0, .bool ahead] = some (enc s, K1) := by
  by_cases h4 : c / 14 % 9 = 4
  · refine ⟨.yes, ⟨by simp [Sta.depth], trivial, trivial⟩, trivial, trivial, ?_⟩
    unfold runX f_l_made
    by_cases h0 : D0 < 2
    · simp [fOwn, fOpN,  fSeq, fNext, sRet, sRetN, sIf, sSet, sSetO, sAsg, sApp, sFor, forF, fVar, fOpd, fCon, f2, f1, fNil, fCons, bR, bL, bA, bLL, oR, fT, gAnd, gOr, gNot, gYes, fAnd, fOr, fNot, fIte, fTup, fLst, fCall, fCallO, fB, fM1, fSl, fiNo, fiSm, fLc, wLst, wTup, wStr, wRg1, wRg2, wZip, wEnum, gfN, gfTup, gsNil, gsCons, fLrg, fLrg3, wipeG, xSeq, xSet, xOf, xCall, xIf, xRet, xNext, xTup, xCons, xNil, xPut, xCallP, sRetX, sSetX, List.getElem?_cons_zero, List.getElem?_cons_succ, List.set_cons_zero, List.set_cons_succ, entryX, entry, List.replicate, hd, h0, h4, enc]
    · have h := hc.resolve_left h0
      simp [fOwn, fOpN,  fSeq, fNext, sRet, sRetN, sIf, sSet, sSetO, sAsg, sApp, sFor, forF, fVar, fOpd, fCon, f2, f1, fNil, fCons, bR, bL, bA, bLL, oR, fT, gAnd, gOr, gNot, gYes, fAnd, fOr, fNot, fIte, fTup, fLst, fCall, fCallO, fB, fM1, fSl, fiNo, fiSm, fLc, wLst, wTup, wStr, wRg1, wRg2, wZip, wEnum, gfN, gfTup, gsNil, gsCons, fLrg, fLrg3, wipeG, xSeq, xSet, xOf, xCall, xIf, xRet, xNext, xTup, xCons, xNil, xPut, xCallP, sRetX, sSetX, List.getElem?_cons_zero, List.getElem?_cons_succ, List.set_cons_zero, List.set_cons_succ, entryX, entry, List.replicate, hd, h, h0, h4, enc]
  · obtain ⟨w, hw, e⟩ := at_three x y z (c / 14)
    have h4b : (c / 14 % 9 == 4) = false := beq_eq_false_iff_ne.mpr h4
    refine ⟨.mark w, ⟨by simp [Sta.depth], hp w hw, trivial⟩, trivial, trivial, ?_⟩
    unfold runX f_l_made
    by_cases h0 : D0 < 2
    · simp [fOwn, fOpN,  fSeq, fNext, sRet, sRetN, sIf, sSet, sSetO, sAsg, sApp, sFor, forF, fVar, fOpd, fCon, f2, f1, fNil, fCons, bR, bL, bA, bLL, oR, fT, gAnd, gOr, gNot, gYes, fAnd, fOr, fNot, fIte, fTup, fLst, fCall, fCallO, fB, fM1, fSl, fiNo, fiSm, fLc, wLst, wTup, wStr, wRg1, wRg2, wZip, wEnum, gfN, gfTup, gsNil, gsCons, fLrg, fLrg3, wipeG, xSeq, xSet, xOf, xCall, xIf, xRet, xNext, xTup, xCons, xNil, xPut, xCallP, sRetX, sSetX, List.getElem?_cons_zero, List.getElem?_cons_succ, List.set_cons_zero, List.set_cons_succ, entryX, entry, List.replicate, hd, h0, h4b, e, enc]
    · have h := hc.resolve_left h0
      simp [fOwn, fOpN,  fSeq, fNext, sRet, sRetN, sIf, sSet, sSetO, sAsg, sApp, sFor, forF, fVar, fOpd, fCon, f2, f1, fNil, fCons, bR, bL, bA, bLL, oR, fT, gAnd, gOr, gNot, gYes, fAnd, fOr, fNot, fIte, fTup, fLst, fCall, fCallO, fB, fM1, fSl, fiNo, fiSm, fLc, wLst, wTup, wStr, wRg1, wRg2, wZip, wEnum, gfN, gfTup, gsNil, gsCons, fLrg, fLrg3, wipeG, xSeq, xSet, xOf, xCall, xIf, xRet, xNext, xTup, xCons, xNil, xPut, xCallP, sRetX, sSetX, List.getElem?_cons_zero, List.getElem?_cons_succ, List.set_cons_zero, List.set_cons_succ, entryX, entry, List.replicate, hd, h, h0, h4b, e, enc]
theorem wordsP_sub : ∀ w ∈ wordsP, w ∈ words := by decide +kernel
/-- the kind's name, as the script draws it -/
theorem kind_at (ahead : Bool) (c : Int) (h : ¬ c % 14 < 2) : ∃ w ∈ words, ∃ l : List D, (ahead = false → w ∈ wordsP) ∧ oSplit (if ahead = true then "not and or next until within until next since before until within" else "not and or before since not and before since or since before") (.str " ") = some (.list l) ∧ atI l (c % 14 - 2) = some (.str w) := by
  cases ahead with
  | true =>
    obtain ⟨w, hw, e⟩ := at_words words kindsB rfl (by decide +kernel) c h
    exact ⟨w, hw, _, (fun z => by cases z), split_b, e⟩
  | false =>
    obtain ⟨w, hw, e⟩ := at_words wordsP kindsA rfl (by decide +kernel) c h
    exact ⟨w, wordsP_sub w hw, _, fun _ => hw, split_a, e⟩
theorem made_node {ns : List Int} {P : D} (D0 K0 K1 : Int) (ahead : Bool) (c : Int) (Psy : Nx → Phx) (hd : Psy .l_draw (nsD ns) K0 [] = some (.int c, K1)) (h0 : ¬ D0 < 2) (hc : ¬ c % 14 < 2) {d : Nat} {p : Str → Prop}
    (hm : ∀ (k : Int) (b : Bool), (∃ j : Nat, k = j) → ∃ (s : Sta) (k' : Int), (∃ j : Nat, k' = j) ∧ Fine (d + 1) p s ∧ (b = false → noFut s) ∧ unm s ∧ Psy .l_made (nsD ns) k [P, .int (D0 - 1), .bool b] = some (enc s, k')) (hk : ∃ j : Nat, K1 = j) :
      ∃ (s : Sta) (k' : Int), (∃ j : Nat, k' = j) ∧ Fine (d + 1 + 1) p s ∧ (ahead = false → noFut s) ∧ unm s ∧ runX 5 10 (f_l_made Psy) (nsD ns) K0 [P, .int D0, .bool ahead] = some (enc s, k') := by
  obtain ⟨w, hw, l, hP, e1, e2⟩ := kind_at ahead c hc
  obtain ⟨s, K2, hk2, fs, ns_, us, es⟩ := hm K1 (ahead && !(w == "before" || w == "since")) hk
  obtain ⟨t, K3, hk3, ft, nt_, ut, et⟩ := hm K2 (ahead && !(w == "before" || w == "since")) hk2
  obtain ⟨j, hj, ej⟩ := at_ks (c / 14) (c / 14 / 6)
  have ds := fs.dep
  have dt := ft.dep
  simp only [words, List.mem_cons, List.not_mem_nil, or_false] at hw
  rcases hw with rfl | rfl | rfl | rfl | rfl | rfl | rfl | rfl
  · refine ⟨.nt s, K2, hk2, ⟨by simp [Sta.depth]; omega, fs.mks, fs.ks⟩, fun z => ns_ (by rw [z]; rfl), us, ?_⟩
    unfold runX f_l_made
    cases ahead <;> simp at e1 es et <;> simp [fOwn, fOpN,  fSeq, fNext, sRet, sRetN, sIf, sSet, sSetO, sAsg, sApp, sFor, forF, fVar, fOpd, fCon, f2, f1, fNil, fCons, bR, bL, bA, bLL, oR, fT, gAnd, gOr, gNot, gYes, fAnd, fOr, fNot, fIte, fTup, fLst, fCall, fCallO, fB, fM1, fSl, fiNo, fiSm, fLc, wLst, wTup, wStr, wRg1, wRg2, wZip, wEnum, gfN, gfTup, gsNil, gsCons, fLrg, fLrg3, wipeG, xSeq, xSet, xOf, xCall, xIf, xRet, xNext, xTup, xCons, xNil, xPut, xCallP, sRetX, sSetX, List.getElem?_cons_zero, List.getElem?_cons_succ, List.set_cons_zero, List.set_cons_succ, entryX, entry, List.replicate, hd, h0, hc, e1, e2, es, et, oIn, flatD, PyData.eqv, enc]
  · refine ⟨.an s t, K3, hk3, ⟨by simp [Sta.depth]; omega, ⟨fs.mks, ft.mks⟩, ⟨fs.ks, ft.ks⟩⟩, fun z => ⟨ns_ (by rw [z]; rfl), nt_ (by rw [z]; rfl)⟩, ⟨us, ut⟩, ?_⟩
    unfold runX f_l_made
    cases ahead <;> simp at e1 es et <;> simp [fOwn, fOpN,  fSeq, fNext, sRet, sRetN, sIf, sSet, sSetO, sAsg, sApp, sFor, forF, fVar, fOpd, fCon, f2, f1, fNil, fCons, bR, bL, bA, bLL, oR, fT, gAnd, gOr, gNot, gYes, fAnd, fOr, fNot, fIte, fTup, fLst, fCall, fCallO, fB, fM1, fSl, fiNo, fiSm, fLc, wLst, wTup, wStr, wRg1, wRg2, wZip, wEnum, gfN, gfTup, gsNil, gsCons, fLrg, fLrg3, wipeG, xSeq, xSet, xOf, xCall, xIf, xRet, xNext, xTup, xCons, xNil, xPut, xCallP, sRetX, sSetX, List.getElem?_cons_zero, List.getElem?_cons_succ, List.set_cons_zero, List.set_cons_succ, entryX, entry, List.replicate, hd, h0, hc, e1, e2, es, et, oIn, flatD, PyData.eqv, enc]
  · refine ⟨.or s t, K3, hk3, ⟨by simp [Sta.depth]; omega, ⟨fs.mks, ft.mks⟩, ⟨fs.ks, ft.ks⟩⟩, fun z => ⟨ns_ (by rw [z]; rfl), nt_ (by rw [z]; rfl)⟩, ⟨us, ut⟩, ?_⟩
    unfold runX f_l_made
    cases ahead <;> simp at e1 es et <;> simp [fOwn, fOpN,  fSeq, fNext, sRet, sRetN, sIf, sSet, sSetO, sAsg, sApp, sFor, forF, fVar, fOpd, fCon, f2, f1, fNil, fCons, bR, bL, bA, bLL, oR, fT, gAnd, gOr, gNot, gYes, fAnd, fOr, fNot, fIte, fTup, fLst, fCall, fCallO, fB, fM1, fSl, fiNo, fiSm, fLc, wLst, wTup, wStr, wRg1, wRg2, wZip, wEnum, gfN, gfTup, gsNil, gsCons, fLrg, fLrg3, wipeG, xSeq, xSet, xOf, xCall, xIf, xRet, xNext, xTup, xCons, xNil, xPut, xCallP, sRetX, sSetX, List.getElem?_cons_zero, List.getElem?_cons_succ, List.set_cons_zero, List.set_cons_succ, entryX, entry, List.replicate, hd, h0, hc, e1, e2, es, et, oIn, flatD, PyData.eqv, enc]
  · refine ⟨.nx s, K2, hk2, ⟨by simp [Sta.depth]; omega, fs.mks, fs.ks⟩, fun z => absurd (hP z) (by decide +kernel), us, ?_⟩
    unfold runX f_l_made
    cases ahead <;> simp at e1 es et <;> simp [fOwn, fOpN,  fSeq, fNext, sRet, sRetN, sIf, sSet, sSetO, sAsg, sApp, sFor, forF, fVar, fOpd, fCon, f2, f1, fNil, fCons, bR, bL, bA, bLL, oR, fT, gAnd, gOr, gNot, gYes, fAnd, fOr, fNot, fIte, fTup, fLst, fCall, fCallO, fB, fM1, fSl, fiNo, fiSm, fLc, wLst, wTup, wStr, wRg1, wRg2, wZip, wEnum, gfN, gfTup, gsNil, gsCons, fLrg, fLrg3, wipeG, xSeq, xSet, xOf, xCall, xIf, xRet, xNext, xTup, xCons, xNil, xPut, xCallP, sRetX, sSetX, List.getElem?_cons_zero, List.getElem?_cons_succ, List.set_cons_zero, List.set_cons_succ, entryX, entry, List.replicate, hd, h0, hc, e1, e2, es, et, oIn, flatD, PyData.eqv, enc]
  · refine ⟨.un s t, K3, hk3, ⟨by simp [Sta.depth]; omega, ⟨fs.mks, ft.mks⟩, ⟨fs.ks, ft.ks⟩⟩, fun z => absurd (hP z) (by decide +kernel), ⟨us, ut⟩, ?_⟩
    unfold runX f_l_made
    cases ahead <;> simp at e1 es et <;> simp [fOwn, fOpN,  fSeq, fNext, sRet, sRetN, sIf, sSet, sSetO, sAsg, sApp, sFor, forF, fVar, fOpd, fCon, f2, f1, fNil, fCons, bR, bL, bA, bLL, oR, fT, gAnd, gOr, gNot, gYes, fAnd, fOr, fNot, fIte, fTup, fLst, fCall, fCallO, fB, fM1, fSl, fiNo, fiSm, fLc, wLst, wTup, wStr, wRg1, wRg2, wZip, wEnum, gfN, gfTup, gsNil, gsCons, fLrg, fLrg3, wipeG, xSeq, xSet, xOf, xCall, xIf, xRet, xNext, xTup, xCons, xNil, xPut, xCallP, sRetX, sSetX, List.getElem?_cons_zero, List.getElem?_cons_succ, List.set_cons_zero, List.set_cons_succ, entryX, entry, List.replicate, hd, h0, hc, e1, e2, es, et, oIn, flatD, PyData.eqv, enc]
  · refine ⟨.wi j s, K2, hk2, ⟨by simp [Sta.depth]; omega, fs.mks, ⟨hj, fs.ks⟩⟩, fun z => absurd (hP z) (by decide +kernel), us, ?_⟩
    unfold runX f_l_made
    cases ahead <;> simp at e1 es et <;> simp [fOwn, fOpN,  fSeq, fNext, sRet, sRetN, sIf, sSet, sSetO, sAsg, sApp, sFor, forF, fVar, fOpd, fCon, f2, f1, fNil, fCons, bR, bL, bA, bLL, oR, fT, gAnd, gOr, gNot, gYes, fAnd, fOr, fNot, fIte, fTup, fLst, fCall, fCallO, fB, fM1, fSl, fiNo, fiSm, fLc, wLst, wTup, wStr, wRg1, wRg2, wZip, wEnum, gfN, gfTup, gsNil, gsCons, fLrg, fLrg3, wipeG, xSeq, xSet, xOf, xCall, xIf, xRet, xNext, xTup, xCons, xNil, xPut, xCallP, sRetX, sSetX, List.getElem?_cons_zero, List.getElem?_cons_succ, List.set_cons_zero, List.set_cons_succ, entryX, entry, List.replicate, hd, h0, hc, e1, e2, es, et, ej, oIn, flatD, PyData.eqv, enc]
  · refine ⟨.bf s, K2, hk2, ⟨by simp [Sta.depth]; omega, fs.mks, fs.ks⟩, fun z => ns_ (by rw [z]; rfl), ns_ (by simp), ?_⟩
    unfold runX f_l_made
    cases ahead <;> simp at e1 es et <;> simp [fOwn, fOpN,  fSeq, fNext, sRet, sRetN, sIf, sSet, sSetO, sAsg, sApp, sFor, forF, fVar, fOpd, fCon, f2, f1, fNil, fCons, bR, bL, bA, bLL, oR, fT, gAnd, gOr, gNot, gYes, fAnd, fOr, fNot, fIte, fTup, fLst, fCall, fCallO, fB, fM1, fSl, fiNo, fiSm, fLc, wLst, wTup, wStr, wRg1, wRg2, wZip, wEnum, gfN, gfTup, gsNil, gsCons, fLrg, fLrg3, wipeG, xSeq, xSet, xOf, xCall, xIf, xRet, xNext, xTup, xCons, xNil, xPut, xCallP, sRetX, sSetX, List.getElem?_cons_zero, List.getElem?_cons_succ, List.set_cons_zero, List.set_cons_succ, entryX, entry, List.replicate, hd, h0, hc, e1, e2, es, et, oIn, flatD, PyData.eqv, enc]
  · refine ⟨.si s t, K3, hk3, ⟨by simp [Sta.depth]; omega, ⟨fs.mks, ft.mks⟩, ⟨fs.ks, ft.ks⟩⟩, fun z => ⟨ns_ (by rw [z]; rfl), nt_ (by rw [z]; rfl)⟩, ⟨ns_ (by simp), nt_ (by simp)⟩, ?_⟩
    unfold runX f_l_made
    cases ahead <;> simp at e1 es et <;> simp [fOwn, fOpN,  fSeq, fNext, sRet, sRetN, sIf, sSet, sSetO, sAsg, sApp, sFor, forF, fVar, fOpd, fCon, f2, f1, fNil, fCons, bR, bL, bA, bLL, oR, fT, gAnd, gOr, gNot, gYes, fAnd, fOr, fNot, fIte, fTup, fLst, fCall, fCallO, fB, fM1, fSl, fiNo, fiSm, fLc, wLst, wTup, wStr, wRg1, wRg2, wZip, wEnum, gfN, gfTup, gsNil, gsCons, fLrg, fLrg3, wipeG, xSeq, xSet, xOf, xCall, xIf, xRet, xNext, xTup, xCons, xNil, xPut, xCallP, sRetX, sSetX, List.getElem?_cons_zero, List.getElem?_cons_succ, List.set_cons_zero, List.set_cons_succ, entryX, entry, List.replicate, hd, h0, hc, e1, e2, es, et, oIn, flatD, PyData.eqv, enc]
theorem run_made {ns : List Int} {x y z : Str} {p : Str → Prop} (hp : ∀ w ∈ [x, y, z], p w) : ∀ (d n : Nat) (k : Int) (ahead : Bool), (∃ j : Nat, k = j) → d + 3 ≤ n →
    ∃ (s : Sta) (k' : Int), (∃ j : Nat, k' = j) ∧ Fine (d + 1) p s ∧ (ahead = false → noFut s) ∧ unm s ∧ Psi n .l_made (nsD ns) k [.list [.str x, .str y, .str z], .int ((d : Int) + 1), .bool ahead] = some (enc s, k') := by
  intro d
  induction d with
  | zero =>
    rintro n k ahead ⟨j, rfl⟩ hn
    obtain ⟨n, rfl⟩ : ∃ m, n = m + 2 := ⟨n - 2, by omega⟩
    obtain ⟨c, hc⟩ := run_draw n ns j
    rw [psi_l_made]
    obtain ⟨s, fs, ns_, us, es⟩ := made_leaf hp 0 (((0 : Nat) : Int) + 1) _ _ ahead c _ hc (.inl (by decide))
    exact ⟨s, _, ⟨_, rfl⟩, fs, fun _ => ns_, us, es⟩
  | succ d ih =>
    rintro n k ahead ⟨j, rfl⟩ hn
    obtain ⟨n, rfl⟩ : ∃ m, n = m + 2 := ⟨n - 2, by omega⟩
    obtain ⟨c, hc⟩ := run_draw n ns j
    rw [psi_l_made]
    by_cases hl : c % 14 < 2
    · obtain ⟨s, fs, ns_, us, es⟩ := made_leaf hp (d + 1) (((d + 1 : Nat) : Int) + 1) _ _ ahead c _ hc (.inr hl)
      exact ⟨s, _, ⟨_, rfl⟩, fs, fun _ => ns_, us, es⟩
    · refine made_node (((d + 1 : Nat) : Int) + 1) _ _ ahead c _ hc (by omega) hl (fun k b hk => ?_) ⟨_, rfl⟩
      have e : ((d + 1 : Nat) : Int) + 1 - 1 = (d : Int) + 1 := by omega
      rw [e]
      exact ih (n + 1) k b hk (by omega)
end K02

namespace K02
open PySem PySem.Spec PyProof.Rows L2 Py
/-! ### parts and wishes (for laws without rows) -/
theorem noFut_all : ∀ {s : Sta}, noFut s → ∀ o ∈ allT s, noFut o := by
  intro s
  induction s with
  | mark m => intro h o ho; simp [allT] at ho; subst ho; exact h
  | yes => intro h o ho; simp [allT] at ho; subst ho; exact h
  | nt s ih => intro h o ho; rcases List.mem_cons.mp ho with rfl | q; exact h; exact ih h o q
  | bf s ih => intro h o ho; rcases List.mem_cons.mp ho with rfl | q; exact h; exact ih h o q
  | nx s ih => intro h; exact h.elim
  | wi k s ih => intro h; exact h.elim
  | un s t ih ih' => intro h; exact h.elim
  | an s t ih ih' => intro h o ho; rcases List.mem_cons.mp ho with rfl | q; exact h; rcases List.mem_append.mp q with q | q; exact ih h.1 o q; exact ih' h.2 o q
  | or s t ih ih' => intro h o ho; rcases List.mem_cons.mp ho with rfl | q; exact h; rcases List.mem_append.mp q with q | q; exact ih h.1 o q; exact ih' h.2 o q
  | si s t ih ih' => intro h o ho; rcases List.mem_cons.mp ho with rfl | q; exact h; rcases List.mem_append.mp q with q | q; exact ih h.1 o q; exact ih' h.2 o q
theorem noFut_unm : ∀ {s : Sta}, noFut s → unm s := by
  intro s
  induction s with
  | mark m => intro h; trivial
  | yes => intro h; trivial
  | nt s ih => intro h; exact ih h
  | bf s ih => intro h; exact h
  | nx s ih => intro h; exact h.elim
  | wi k s ih => intro h; exact h.elim
  | un s t ih ih' => intro h; exact h.elim
  | an s t ih ih' => intro h; exact ⟨ih h.1, ih' h.2⟩
  | or s t ih ih' => intro h; exact ⟨ih h.1, ih' h.2⟩
  | si s t ih ih' => intro h; exact h
end K02

namespace K02
open PySem PySem.Spec PyProof.Rows L2 Py
/-! ### data alike -/
structure OkD (n : Nat) (d : D) : Prop where
  lay : d.canLay0 = true
  dep : d.depth ≤ n
  self : PyData.eqv d d = true
theorem okD_alls {n : Nat} : ∀ {l : List D}, (∀ x ∈ l, OkD n x) → PyData.canLayAll0 l = true ∧ PyData.depthAll l ≤ n ∧ PyData.eqvAll l l = true
  | [], _ => by simp [PyData.canLayAll0, PyData.depthAll, PyData.eqvAll]
  | x :: l, h => by
    obtain ⟨h1, h2, h3⟩ := okD_alls (l := l) fun y hy => h y (List.mem_cons_of_mem _ hy)
    have hx := h x List.mem_cons_self
    have h4 := hx.dep
    simp only [PyData.canLayAll0, PyData.depthAll, PyData.eqvAll, hx.lay, hx.self, h1, h3, Bool.and_self, and_true, true_and]
    omega
theorem okD_list {n : Nat} {l : List D} (h : ∀ x ∈ l, OkD n x) : OkD (n + 1) (.list l) := by
  obtain ⟨h1, h2, h3⟩ := okD_alls h
  exact ⟨by simp only [PyData.canLay0]; exact h1, by simp only [PyData.depth]; omega, by simp only [PyData.eqv]; exact h3⟩
theorem okD_enc {d : Nat} {s : Sta} (f : Fine d okM s) : OkD d (enc s) := ⟨enc_lay f.mks, Nat.le_trans (enc_depth s) f.dep, by rw [enc_eqv]; simp⟩
theorem okD_str {n : Nat} {m : Str} (h : okM m) : OkD n (.str m) := ⟨by simp only [PyData.canLay0]; exact h, by simp [PyData.depth], by simp [PyData.eqv]⟩
theorem OkD.mono {n m : Nat} {d : D} (h : OkD n d) (e : n ≤ m) : OkD m d := ⟨h.lay, Nat.le_trans h.dep e, h.self⟩
theorem OkD.shaped {n : Nat} {d : D} (h : OkD n d) (e : n ≤ 64) : SeqAt.shaped d = true := by
  show (d.canLay0 && decide (d.depth ≤ 64)) = true
  have := h.dep
  rw [h.lay, Bool.true_and]
  exact decide_eq_true (by omega)
theorem OkD.eq {n : Nat} {d : D} (h : OkD n d) (e : n ≤ 64) : oEq d d = some (.bool true) := by
  unfold oEq
  rw [if_pos (.inr ⟨h.shaped e, h.shaped e⟩), h.self]
theorem OkD.ne {n : Nat} {d : D} (h : OkD n d) (e : n ≤ 64) : oNe d d = some (.bool false) := by
  unfold oNe
  rw [if_pos (.inr ⟨h.shaped e, h.shaped e⟩), h.self]
  rfl
/-! ### the statement built -/
theorem Marks.mono {p q : Str → Prop} (h : ∀ m, p m → q m) : ∀ {s : Sta}, s.Marks p → s.Marks q := by
  intro s
  induction s with
  | mark m => exact h m
  | yes => exact fun _ => trivial
  | nt s ih => exact ih
  | nx s ih => exact ih
  | wi k s ih => exact ih
  | bf s ih => exact ih
  | an s t ih ih' => exact fun a => ⟨ih a.1, ih' a.2⟩
  | or s t ih ih' => exact fun a => ⟨ih a.1, ih' a.2⟩
  | un s t ih ih' => exact fun a => ⟨ih a.1, ih' a.2⟩
  | si s t ih ih' => exact fun a => ⟨ih a.1, ih' a.2⟩
theorem Marks.at {p : Str → Prop} : ∀ {s : Sta}, s.Marks p → ∀ m, Sta.mark m ∈ allT s → p m := by
  intro s
  induction s with
  | mark m => intro h m' hm; simp [allT] at hm; subst hm; exact h
  | yes => intro _ m' hm; simp [allT] at hm
  | nt s ih => intro h m' hm; simp [allT] at hm; exact ih h m' hm
  | nx s ih => intro h m' hm; simp [allT] at hm; exact ih h m' hm
  | wi k s ih => intro h m' hm; simp [allT] at hm; exact ih h m' hm
  | bf s ih => intro h m' hm; simp [allT] at hm; exact ih h m' hm
  | an s t ih ih' => intro h m' hm; simp [allT] at hm; exact hm.elim (ih h.1 m') (ih' h.2 m')
  | or s t ih ih' => intro h m' hm; simp [allT] at hm; exact hm.elim (ih h.1 m') (ih' h.2 m')
  | un s t ih ih' => intro h m' hm; simp [allT] at hm; exact hm.elim (ih h.1 m') (ih' h.2 m')
  | si s t ih ih' => intro h m' hm; simp [allT] at hm; exact hm.elim (ih h.1 m') (ih' h.2 m')
theorem Fine.mono {d d' : Nat} {p q : Str → Prop} {s : Sta} (f : Fine d p s) (hd : d ≤ d') (h : ∀ m, p m → q m) : Fine d' q s := ⟨Nat.le_trans f.dep hd, Marks.mono h f.mks, f.ks⟩
theorem fitT_unm {most : Nat} : ∀ {s : Sta}, unm s → unm (fitT most s) := by
  intro s
  induction s with
  | mark m => intro h; exact h
  | yes => intro h; exact h
  | nt s ih => intro h; unfold fitT; split; exact h; exact ih h
  | nx s ih => intro h; unfold fitT; split; exact h; exact ih h
  | wi k s ih => intro h; unfold fitT; split; exact h; exact ih h
  | bf s ih => intro h; unfold fitT; split; exact h; exact ih (noFut_unm h)
  | an s t ih ih' => intro h; unfold fitT; split; exact h; exact ih' h.2
  | or s t ih ih' => intro h; unfold fitT; split; exact h; exact ih' h.2
  | un s t ih ih' => intro h; unfold fitT; split; exact h; exact ih' h.2
  | si s t ih ih' => intro h; unfold fitT; split; exact h; exact ih' (noFut_unm h.2)
theorem oInt1_bool (b : Bool) : oInt1 [.bool b] = some (.int (if b = true then 1 else 0)) := by cases b <;> rfl
theorem run_built {ns : List Int} {x y z : Str} {p : Str → Prop} (hp : ∀ w ∈ [x, y, z], p w) (hk : ∀ m, p m → okM m) {most : Nat} (h1 : 1 ≤ most) {n : Nat} (hn : 10 ≤ n) : ∃ s : Sta, Fine 6 p s ∧ unm s ∧ (wishesT s).length ≤ most ∧ Phi (n + 1) .l_built [nsD ns, .list [.str x, .str y, .str z], .int most] = some (.ok (enc s)) := by
  obtain ⟨n, rfl⟩ : ∃ m, n = m + 1 := ⟨n - 1, by omega⟩
  have hc : Phi (n + 1) .l_cell_at [nsD ns, .int 1] = some (.ok (.int (cellT ns 1))) := run_cell n ns 1
  have key : ∀ (b : Bool) (s : Sta) (k' : Int), Fine 6 p s → unm s → (cellT ns 1 % 8 == 5) = b → Psi (n + 1) .l_made (nsD ns) 2 [.list [.str x, .str y, .str z], .int (5 + (if b = true then 1 else 0)), .bool true] = some (enc s, k') →
      ∃ s : Sta, Fine 6 p s ∧ unm s ∧ (wishesT s).length ≤ most ∧ Phi (n + 1 + 1) .l_built [nsD ns, .list [.str x, .str y, .str z], .int most] = some (.ok (enc s)) := by
    intro b s k' hs us hb hm
    refine ⟨fitT most s, fitT_fine hs, fitT_unm us, fitT_len h1 s, ?_⟩
    have hf := run_fit (d := 6) (by omega) (n := n + 1) (by omega) h1 (hs.mono (Nat.le_refl _) hk)
    rw [phi_l_built]
    unfold runF f_l_built
    cases b <;> simp at hm <;> simp [entry, fOwn, fOpN,  fSeq, fNext, sRet, sRetN, sIf, sSet, sSetO, sAsg, sApp, sFor, forF, fVar, fOpd, fCon, f2, f1, fNil, fCons, bR, bL, bA, bLL, oR, fT, gAnd, gOr, gNot, gYes, fAnd, fOr, fNot, fIte, fTup, fLst, fCall, fCallO, fB, fM1, fSl, fiNo, fiSm, fLc, wLst, wTup, wStr, wRg1, wRg2, wZip, wEnum, gfN, gfTup, gsNil, gsCons, fLrg, fLrg3, wipeG, xSeq, xSet, xOf, xCall, xIf, xRet, xNext, xTup, xCons, xNil, xPut, xCallP, sRetX, sSetX, List.getElem?_cons_zero, List.getElem?_cons_succ, List.set_cons_zero, List.set_cons_succ, List.replicate, hc, hb, hm, hf, oInt1_bool]
  cases hb : (cellT ns 1 % 8 == 5) with
  | false =>
    obtain ⟨s, k', _, fs, _, us, es⟩ := run_made (ns := ns) hp 4 (n + 1) 2 true ⟨2, rfl⟩ (by omega)
    exact key false s k' ⟨by have := fs.dep; omega, fs.mks, fs.ks⟩ us hb es
  | true =>
    obtain ⟨s, k', _, fs, _, us, es⟩ := run_made (ns := ns) hp 5 (n + 1) 2 true ⟨2, rfl⟩ (by omega)
    exact key true s k' ⟨by have := fs.dep; omega, fs.mks, fs.ks⟩ us hb es
theorem unm_parts : ∀ {s : Sta}, unm s → ∀ o ∈ allT s, unm o := by
  intro s
  induction s with
  | mark m => intro h o ho; simp [allT] at ho; subst ho; exact h
  | yes => intro h o ho; simp [allT] at ho; subst ho; exact h
  | nt s ih => intro h o ho; rcases List.mem_cons.mp ho with rfl | q; exact h; exact ih h o q
  | nx s ih => intro h o ho; rcases List.mem_cons.mp ho with rfl | q; exact h; exact ih h o q
  | wi k s ih => intro h o ho; rcases List.mem_cons.mp ho with rfl | q; exact h; exact ih h o q
  | bf s ih => intro h o ho; exact noFut_unm (noFut_all (s := .bf s) h o ho)
  | an s t ih ih' => intro h o ho; rcases List.mem_cons.mp ho with rfl | q; exact h; rcases List.mem_append.mp q with q | q; exact ih h.1 o q; exact ih' h.2 o q
  | or s t ih ih' => intro h o ho; rcases List.mem_cons.mp ho with rfl | q; exact h; rcases List.mem_append.mp q with q | q; exact ih h.1 o q; exact ih' h.2 o q
  | un s t ih ih' => intro h o ho; rcases List.mem_cons.mp ho with rfl | q; exact h; rcases List.mem_append.mp q with q | q; exact ih h.1 o q; exact ih' h.2 o q
  | si s t ih ih' => intro h o ho; exact noFut_unm (noFut_all (s := .si s t) h o ho)
end K02

namespace K02
open PySem PySem.Spec PyProof.Rows L2 Py
/-! ### the names, none of them zzzzzz -/
/-- six letters, none like the next one -/
def zig (l : List Nat) : Prop := ∃ a b c d e f : Nat, l = [a, b, c, d, e, f] ∧ a ≠ b ∧ b ≠ c
theorem join_cps (a : Str) (r : List Str) : (Txt.join "" (a :: r)).cps.toList = a.cps.toList ++ (Txt.join "" r).cps.toList := by
  rw [TL.join_eq, TL.join_eq]
  cases r with
  | nil => simp [Str.join]; rfl
  | cons b r =>
    have e : Str.join "" (a :: b :: r) = a ++ "" ++ Str.join "" (b :: r) := rfl
    rw [e]
    show (a.cps ++ ("" : Str).cps ++ (Str.join "" (b :: r)).cps).toList = _
    have e0 : ("" : Str).cps = #[] := rfl
    rw [e0, Array.append_empty, Array.toList_append]
theorem join_zig (x : Int) : zig (Txt.join "" [letS x, letS (x + 5), letS (x + 10), letS (x + 15), letS (x + 20), letS (x + 25)]).cps.toList := by
  refine ⟨97 + (x % 26).toNat, 97 + ((x + 5) % 26).toNat, 97 + ((x + 10) % 26).toNat, 97 + ((x + 15) % 26).toNat, 97 + ((x + 20) % 26).toNat, 97 + ((x + 25) % 26).toNat, ?_, by omega, by omega⟩
  rw [join_cps, join_cps, join_cps, join_cps, join_cps, join_cps]
  rfl
theorem zz_cps : ("zzzzzz" : Str).cps.toList = [122, 122, 122, 122, 122, 122] := by decide +kernel
theorem zig_cut {z : Str} (h : zig z.cps.toList) (i : Int) : cutS z none (some i) ≠ "zzzzzz" := by
  intro e
  obtain ⟨a, b, c, d, e', f, hl, n1, n2⟩ := h
  have q : (cutS z none (some i)).cps.toList = [122, 122, 122, 122, 122, 122] := by rw [e]; exact zz_cps
  unfold cutS at q
  rw [hl, HT.sIx_none, List.drop_zero, Nat.sub_zero] at q
  simp only [List.toList_toArray] at q
  generalize HT.sIx _ _ _ = k at q
  match k with
  | 0 => cases q
  | 1 => simp at q
  | k + 2 => simp at q; exact n1 (q.1.trans q.2.1.symm)
theorem zig_mid {z : Str} (h : zig z.cps.toList) {s t : Int} (hs : 0 ≤ s) (h6 : s < 6) (ht : 0 ≤ t) (hts : t ≤ s) (x : Int) : cutS z none (some t) ++ letS x ++ cutS z (some t) (some s) ≠ "zzzzzz" := by
  intro e
  obtain ⟨a, b, c, d, e', f, hl, n1, n2⟩ := h
  obtain ⟨s, rfl⟩ : ∃ k : Nat, s = k := ⟨s.toNat, by omega⟩
  obtain ⟨t, rfl⟩ : ∃ k : Nat, t = k := ⟨t.toNat, by omega⟩
  have q : (cutS z none (some (t : Int))).cps.toList ++ (letS x).cps.toList ++ (cutS z (some (t : Int)) (some (s : Int))).cps.toList = [122, 122, 122, 122, 122, 122] := by
    rw [← Array.toList_append, ← Array.toList_append]
    exact (congrArg (fun s : Str => s.cps.toList) e).trans zz_cps
  have hz : z.length = 6 := by
    show z.cps.size = 6
    rw [← Array.length_toList, hl]; rfl
  have m1 : min t 6 = t := Nat.min_eq_left (by omega)
  have m2 : min s 6 = s := Nat.min_eq_left (by omega)
  unfold cutS at q
  simp only [HT.sIx_nat, HT.sIx_none, List.drop_zero, Nat.sub_zero, hl, hz, m1, m2, List.toList_toArray, letS] at q
  clear m1 m2 hz hl e hs ht
  match t, s, h6, hts with
  | 0, 0, _, _ => simp at q
  | 0, 1, _, _ => simp at q
  | 0, s + 2, _, _ => simp at q; exact n1 (q.2.1.trans q.2.2.1.symm)
  | 1, 0, _, h => omega
  | 1, 1, _, _ => simp at q
  | 1, 2, _, _ => simp at q
  | 1, s + 3, _, _ => simp at q; exact n2 (q.2.2.1.trans q.2.2.2.1.symm)
  | t + 2, s, _, _ => simp at q; exact n1 (q.1.trans q.2.1.symm)
/-! ### the names, none empty -/
theorem join_one (a b : Str) (r : List Str) : a.length ≤ (Txt.join "" (a :: b :: r)).length := by
  rw [TL.join_eq]
  have e : Str.join "" (a :: b :: r) = a ++ "" ++ Str.join "" (b :: r) := rfl
  rw [e, Str.length_append, Str.length_append]
  omega
theorem cut_one {z : Str} {i : Int} (hz : 1 ≤ z.length) (hi : 1 ≤ i) : 1 ≤ (cutS z none (some i)).length := by
  obtain ⟨j, rfl⟩ : ∃ j : Nat, i = j := ⟨i.toNat, by omega⟩
  unfold cutS
  rw [HT.sIx_nat, HT.sIx_none, List.drop_zero, Nat.sub_zero]
  show 1 ≤ (List.toArray _).size
  rw [List.size_toArray, List.length_take, Array.length_toList]
  have : z.length = z.cps.size := rfl
  omega
theorem mid_one (a b : Str) (x : Int) : 1 ≤ (a ++ letS x ++ b).length := by
  rw [Str.length_append, Str.length_append]
  have : (letS x).length = 1 := rfl
  omega
theorem run_names3 (n : Nat) (c : Int) : ∃ a b d : Str, Low 13 a ∧ Low 13 b ∧ Low 13 d ∧ (1 ≤ a.length ∧ 1 ≤ b.length ∧ 1 ≤ d.length) ∧ (a ≠ "zzzzzz" ∧ b ≠ "zzzzzz" ∧ d ≠ "zzzzzz") ∧ Phi (n + 1) .l_names [.int c] = some (.ok (.list [.str a, .str b, .str d])) := by
  rw [phi_l_names]
  have hl : ∀ s ∈ [letS (c / 7), letS (c / 7 + 5), letS (c / 7 + 10), letS (c / 7 + 15), letS (c / 7 + 20), letS (c / 7 + 25)], Low 1 s := by
    intro s hs
    simp only [List.mem_cons, List.not_mem_nil, or_false] at hs
    rcases hs with rfl | rfl | rfl | rfl | rfl | rfl <;> exact letS_low _
  have hj := oJoin_six hl
  have zz := join_zig (c / 7)
  have hr := join_low _ hl
  generalize hz : Txt.join "" [letS (c / 7), letS (c / 7 + 5), letS (c / 7 + 10), letS (c / 7 + 15), letS (c / 7 + 20), letS (c / 7 + 25)] = z at hj hr zz
  have hr : Low 6 z := hr
  have hz1 : 1 ≤ z.length := by rw [← hz]; exact Nat.le_trans (show 1 ≤ (letS (c / 7)).length from Nat.le_refl 1) (join_one _ _ _)
  have hb : z.length ≤ big := Nat.le_trans hr.len (by decide)
  have sl := fun lo hi => oSl_str hb lo hi
  have hrest : lcF (gfN 8) gYes (f2 oIx (fOpd 1) (f2 oMod (f2 oAdd (f2 oDiv (fOpd 0) (fCon (.int 7))) (f2 oMul (fCon (.int 5)) (fOpd 8))) (fCon (.int 26)))) [.va (.int c), .va (.str "abcdefghijklmnopqrstuvwxyz"), .no, .no, .no, .no, .no, .no, .no] [.int 0, .int 1, .int 2, .int 3, .int 4, .int 5]
      = some [.str (letS (c / 7)), .str (letS (c / 7 + 5)), .str (letS (c / 7 + 10)), .str (letS (c / 7 + 15)), .str (letS (c / 7 + 20)), .str (letS (c / 7 + 25))] := by
    simp [lcF, fOwn, fOpN,  fSeq, fNext, sRet, sRetN, sIf, sSet, sSetO, sAsg, sApp, sFor, forF, fVar, fOpd, fCon, f2, f1, fNil, fCons, bR, bL, bA, bLL, oR, fT, gAnd, gOr, gNot, gYes, fAnd, fOr, fNot, fIte, fTup, fLst, fCall, fCallO, fB, fM1, fSl, fiNo, fiSm, fLc, wLst, wTup, wStr, wRg1, wRg2, wZip, wEnum, gfN, gfTup, gsNil, gsCons, fLrg, fLrg3, wipeG, xSeq, xSet, xOf, xCall, xIf, xRet, xNext, xTup, xCons, xNil, xPut, xCallP, sRetX, sSetX, List.getElem?_cons_zero, List.getElem?_cons_succ, List.set_cons_zero, List.set_cons_succ, mul5, ix_letter]
  by_cases h2 : c % 3 = 2
  · refine ⟨cutS z none (some (1 + c / 3 % 4 + 0)), cutS z none (some (1 + c / 3 % 4 + 1)), cutS z none (some (1 + c / 3 % 4 + 2)), ?_, ?_, ?_, ?_, ⟨zig_cut zz _, zig_cut zz _, zig_cut zz _⟩, ?_⟩
    · exact ⟨(hr.cut _ _).let_, Nat.le_trans (hr.cut _ _).len (by decide)⟩
    · exact ⟨(hr.cut _ _).let_, Nat.le_trans (hr.cut _ _).len (by decide)⟩
    · exact ⟨(hr.cut _ _).let_, Nat.le_trans (hr.cut _ _).len (by decide)⟩
    · have h4 := Int.emod_nonneg (c / 3) (show (4 : Int) ≠ 0 by decide)
      exact ⟨cut_one hz1 (by omega), cut_one hz1 (by omega), cut_one hz1 (by omega)⟩
    have hsl : lcF (gfN 6) gYes (fSl (fOpd 2) fiNo (fiSm (f2 oAdd (fOpd 3) (fOpd 6)))) [.va (.int c), .va (.str "abcdefghijklmnopqrstuvwxyz"), .va (.str z), .va (.int (1 + c / 3 % 4)), .no, .no, .no, .no, .no] [.int 0, .int 1, .int 2]
        = some [.str (cutS z none (some (1 + c / 3 % 4 + 0))), .str (cutS z none (some (1 + c / 3 % 4 + 1))), .str (cutS z none (some (1 + c / 3 % 4 + 2)))] := by
      simp [lcF, fOwn, fOpN,  fSeq, fNext, sRet, sRetN, sIf, sSet, sSetO, sAsg, sApp, sFor, forF, fVar, fOpd, fCon, f2, f1, fNil, fCons, bR, bL, bA, bLL, oR, fT, gAnd, gOr, gNot, gYes, fAnd, fOr, fNot, fIte, fTup, fLst, fCall, fCallO, fB, fM1, fSl, fiNo, fiSm, fLc, wLst, wTup, wStr, wRg1, wRg2, wZip, wEnum, gfN, gfTup, gsNil, gsCons, fLrg, fLrg3, wipeG, xSeq, xSet, xOf, xCall, xIf, xRet, xNext, xTup, xCons, xNil, xPut, xCallP, sRetX, sSetX, List.getElem?_cons_zero, List.getElem?_cons_succ, List.set_cons_zero, List.set_cons_succ, sl]
    unfold runF f_l_names
    simp [entry, fOwn, fOpN,  fSeq, fNext, sRet, sRetN, sIf, sSet, sSetO, sAsg, sApp, sFor, forF, fVar, fOpd, fCon, f2, f1, fNil, fCons, bR, bL, bA, bLL, oR, fT, gAnd, gOr, gNot, gYes, fAnd, fOr, fNot, fIte, fTup, fLst, fCall, fCallO, fB, fM1, fSl, fiNo, fiSm, fLc, wLst, wTup, wStr, wRg1, wRg2, wZip, wEnum, gfN, gfTup, gsNil, gsCons, fLrg, fLrg3, wipeG, xSeq, xSet, xOf, xCall, xIf, xRet, xNext, xTup, xCons, xNil, xPut, xCallP, sRetX, sSetX, List.getElem?_cons_zero, List.getElem?_cons_succ, List.set_cons_zero, List.set_cons_succ, rg6, rg3, rgo6, rgo3, hrest, hj, h2, List.replicate, hsl]
  · have hs := Int.emod_nonneg (c / 3) (show (6 : Int) ≠ 0 by decide)
    have h6 := Int.emod_lt_of_pos (c / 3) (show (0 : Int) < 6 by decide)
    have pos' : (0 : Int) < c / 3 % 6 + 1 := by omega
    have a0 := Int.emod_nonneg (c / 18) (show c / 3 % 6 + 1 ≠ 0 by omega)
    have a1 := Int.emod_lt_of_pos (c / 18) pos'
    have c2 : (c % 3 == 2) = false := beq_eq_false_iff_ne.mpr h2
    have w1 : ∀ x : Int, (cutS z none (some (c / 18 % (c / 3 % 6 + 1)))).length + (letS x).length ≤ big := fun x => by
      have h1 := (hr.cut none (some (c / 18 % (c / 3 % 6 + 1)))).len
      have h2 := (letS_low x).len
      unfold big; omega
    have w2 : ∀ x : Int, (cutS z none (some (c / 18 % (c / 3 % 6 + 1))) ++ letS x).length + (cutS z (some (c / 18 % (c / 3 % 6 + 1))) (some (c / 3 % 6))).length ≤ big := fun x => by
      have h1 := ((hr.cut none (some (c / 18 % (c / 3 % 6 + 1)))).app (letS_low x)).len
      have h2 := (hr.cut (some (c / 18 % (c / 3 % 6 + 1))) (some (c / 3 % 6))).len
      unfold big; omega
    have low : ∀ x : Int, Low 13 (cutS z none (some (c / 18 % (c / 3 % 6 + 1))) ++ letS x ++ cutS z (some (c / 18 % (c / 3 % 6 + 1))) (some (c / 3 % 6))) := fun x =>
      ((hr.cut none (some (c / 18 % (c / 3 % 6 + 1)))).app (letS_low x)).app (hr.cut (some (c / 18 % (c / 3 % 6 + 1))) (some (c / 3 % 6)))
    refine ⟨_, _, _, low (c / 90 + 7 * 0), low (c / 90 + 7 * 1), low (c / 90 + 7 * 2), ⟨mid_one _ _ _, mid_one _ _ _, mid_one _ _ _⟩, ⟨zig_mid zz hs h6 (by omega) (by omega) _, zig_mid zz hs h6 (by omega) (by omega) _, zig_mid zz hs h6 (by omega) (by omega) _⟩, ?_⟩
    have pos : (0 : Int) < c / 3 % 6 + 1 := by omega
    unfold runF f_l_names
    simp [entry, fOwn, fOpN,  fSeq, fNext, sRet, sRetN, sIf, sSet, sSetO, sAsg, sApp, sFor, forF, fVar, fOpd, fCon, f2, f1, fNil, fCons, bR, bL, bA, bLL, oR, fT, gAnd, gOr, gNot, gYes, fAnd, fOr, fNot, fIte, fTup, fLst, fCall, fCallO, fB, fM1, fSl, fiNo, fiSm, fLc, wLst, wTup, wStr, wRg1, wRg2, wZip, wEnum, gfN, gfTup, gsNil, gsCons, fLrg, fLrg3, wipeG, xSeq, xSet, xOf, xCall, xIf, xRet, xNext, xTup, xCons, xNil, xPut, xCallP, sRetX, sSetX, List.getElem?_cons_zero, List.getElem?_cons_succ, List.set_cons_zero, List.set_cons_succ, rg6, rg3, rgo6, rgo3, hrest, hj, c2, List.replicate, sl, ix_letter, mul7, oAdd_str (w1 _), oAdd_str (w2 _), oMod_int _ _ pos]
end K02

namespace K02
open PySem PySem.Spec PyProof.Rows L2 Py
/-! ### names of no more than six letters -/
theorem cut_lo (z : Str) {i : Int} (h : 0 ≤ i) : ((cutS z none (some i)).length : Int) ≤ i := by
  obtain ⟨j, rfl⟩ : ∃ j : Nat, i = j := ⟨i.toNat, by omega⟩
  unfold cutS
  rw [HT.sIx_nat, HT.sIx_none, List.drop_zero, Nat.sub_zero]
  show (((List.toArray _).size : Nat) : Int) ≤ _
  rw [List.size_toArray, List.length_take, Array.length_toList]
  omega
theorem cut_mi (z : Str) {i j : Int} (h : 0 ≤ i) (hj : i ≤ j) : ((cutS z (some i) (some j)).length : Int) ≤ j - i := by
  obtain ⟨a, rfl⟩ : ∃ a : Nat, i = a := ⟨i.toNat, by omega⟩
  obtain ⟨b, rfl⟩ : ∃ b : Nat, j = b := ⟨j.toNat, by omega⟩
  unfold cutS
  rw [HT.sIx_nat, HT.sIx_nat]
  show (((List.toArray _).size : Nat) : Int) ≤ _
  rw [List.size_toArray, List.length_take, List.length_drop, Array.length_toList]
  omega
theorem run_names6 (n : Nat) (c : Int) : ∃ a b d : Str, Low 6 a ∧ Low 6 b ∧ Low 6 d ∧ (1 ≤ a.length ∧ 1 ≤ b.length ∧ 1 ≤ d.length) ∧ (a ≠ "zzzzzz" ∧ b ≠ "zzzzzz" ∧ d ≠ "zzzzzz") ∧ Phi (n + 1) .l_names [.int c] = some (.ok (.list [.str a, .str b, .str d])) := by
  rw [phi_l_names]
  have hl : ∀ s ∈ [letS (c / 7), letS (c / 7 + 5), letS (c / 7 + 10), letS (c / 7 + 15), letS (c / 7 + 20), letS (c / 7 + 25)], Low 1 s := by
    intro s hs
    simp only [List.mem_cons, List.not_mem_nil, or_false] at hs
    rcases hs with rfl | rfl | rfl | rfl | rfl | rfl <;> exact letS_low _
  have hj := oJoin_six hl
  have zz := join_zig (c / 7)
  have hr := join_low _ hl
  generalize hz : Txt.join "" [letS (c / 7), letS (c / 7 + 5), letS (c / 7 + 10), letS (c / 7 + 15), letS (c / 7 + 20), letS (c / 7 + 25)] = z at hj hr zz
  have hr : Low 6 z := hr
  have hz1 : 1 ≤ z.length := by rw [← hz]; exact Nat.le_trans (show 1 ≤ (letS (c / 7)).length from Nat.le_refl 1) (join_one _ _ _)
  have hb : z.length ≤ big := Nat.le_trans hr.len (by decide)
  have sl := fun lo hi => oSl_str hb lo hi
  have hrest : lcF (gfN 8) gYes (f2 oIx (fOpd 1) (f2 oMod (f2 oAdd (f2 oDiv (fOpd 0) (fCon (.int 7))) (f2 oMul (fCon (.int 5)) (fOpd 8))) (fCon (.int 26)))) [.va (.int c), .va (.str "abcdefghijklmnopqrstuvwxyz"), .no, .no, .no, .no, .no, .no, .no] [.int 0, .int 1, .int 2, .int 3, .int 4, .int 5]
      = some [.str (letS (c / 7)), .str (letS (c / 7 + 5)), .str (letS (c / 7 + 10)), .str (letS (c / 7 + 15)), .str (letS (c / 7 + 20)), .str (letS (c / 7 + 25))] := by
    simp [lcF, fOwn, fOpN,  fSeq, fNext, sRet, sRetN, sIf, sSet, sSetO, sAsg, sApp, sFor, forF, fVar, fOpd, fCon, f2, f1, fNil, fCons, bR, bL, bA, bLL, oR, fT, gAnd, gOr, gNot, gYes, fAnd, fOr, fNot, fIte, fTup, fLst, fCall, fCallO, fB, fM1, fSl, fiNo, fiSm, fLc, wLst, wTup, wStr, wRg1, wRg2, wZip, wEnum, gfN, gfTup, gsNil, gsCons, fLrg, fLrg3, wipeG, xSeq, xSet, xOf, xCall, xIf, xRet, xNext, xTup, xCons, xNil, xPut, xCallP, sRetX, sSetX, List.getElem?_cons_zero, List.getElem?_cons_succ, List.set_cons_zero, List.set_cons_succ, mul5, ix_letter]
  by_cases h2 : c % 3 = 2
  · refine ⟨cutS z none (some (1 + c / 3 % 4 + 0)), cutS z none (some (1 + c / 3 % 4 + 1)), cutS z none (some (1 + c / 3 % 4 + 2)), ?_, ?_, ?_, ?_, ⟨zig_cut zz _, zig_cut zz _, zig_cut zz _⟩, ?_⟩
    · exact hr.cut _ _
    · exact hr.cut _ _
    · exact hr.cut _ _
    · have h4 := Int.emod_nonneg (c / 3) (show (4 : Int) ≠ 0 by decide)
      exact ⟨cut_one hz1 (by omega), cut_one hz1 (by omega), cut_one hz1 (by omega)⟩
    have hsl : lcF (gfN 6) gYes (fSl (fOpd 2) fiNo (fiSm (f2 oAdd (fOpd 3) (fOpd 6)))) [.va (.int c), .va (.str "abcdefghijklmnopqrstuvwxyz"), .va (.str z), .va (.int (1 + c / 3 % 4)), .no, .no, .no, .no, .no] [.int 0, .int 1, .int 2]
        = some [.str (cutS z none (some (1 + c / 3 % 4 + 0))), .str (cutS z none (some (1 + c / 3 % 4 + 1))), .str (cutS z none (some (1 + c / 3 % 4 + 2)))] := by
      simp [lcF, fOwn, fOpN,  fSeq, fNext, sRet, sRetN, sIf, sSet, sSetO, sAsg, sApp, sFor, forF, fVar, fOpd, fCon, f2, f1, fNil, fCons, bR, bL, bA, bLL, oR, fT, gAnd, gOr, gNot, gYes, fAnd, fOr, fNot, fIte, fTup, fLst, fCall, fCallO, fB, fM1, fSl, fiNo, fiSm, fLc, wLst, wTup, wStr, wRg1, wRg2, wZip, wEnum, gfN, gfTup, gsNil, gsCons, fLrg, fLrg3, wipeG, xSeq, xSet, xOf, xCall, xIf, xRet, xNext, xTup, xCons, xNil, xPut, xCallP, sRetX, sSetX, List.getElem?_cons_zero, List.getElem?_cons_succ, List.set_cons_zero, List.set_cons_succ, sl]
    unfold runF f_l_names
    simp [entry, fOwn, fOpN,  fSeq, fNext, sRet, sRetN, sIf, sSet, sSetO, sAsg, sApp, sFor, forF, fVar, fOpd, fCon, f2, f1, fNil, fCons, bR, bL, bA, bLL, oR, fT, gAnd, gOr, gNot, gYes, fAnd, fOr, fNot, fIte, fTup, fLst, fCall, fCallO, fB, fM1, fSl, fiNo, fiSm, fLc, wLst, wTup, wStr, wRg1, wRg2, wZip, wEnum, gfN, gfTup, gsNil, gsCons, fLrg, fLrg3, wipeG, xSeq, xSet, xOf, xCall, xIf, xRet, xNext, xTup, xCons, xNil, xPut, xCallP, sRetX, sSetX, List.getElem?_cons_zero, List.getElem?_cons_succ, List.set_cons_zero, List.set_cons_succ, rg6, rg3, rgo6, rgo3, hrest, hj, h2, List.replicate, hsl]
  · have hs := Int.emod_nonneg (c / 3) (show (6 : Int) ≠ 0 by decide)
    have h6 := Int.emod_lt_of_pos (c / 3) (show (0 : Int) < 6 by decide)
    have pos' : (0 : Int) < c / 3 % 6 + 1 := by omega
    have a0 := Int.emod_nonneg (c / 18) (show c / 3 % 6 + 1 ≠ 0 by omega)
    have a1 := Int.emod_lt_of_pos (c / 18) pos'
    have c2 : (c % 3 == 2) = false := beq_eq_false_iff_ne.mpr h2
    have w1 : ∀ x : Int, (cutS z none (some (c / 18 % (c / 3 % 6 + 1)))).length + (letS x).length ≤ big := fun x => by
      have h1 := (hr.cut none (some (c / 18 % (c / 3 % 6 + 1)))).len
      have h2 := (letS_low x).len
      unfold big; omega
    have w2 : ∀ x : Int, (cutS z none (some (c / 18 % (c / 3 % 6 + 1))) ++ letS x).length + (cutS z (some (c / 18 % (c / 3 % 6 + 1))) (some (c / 3 % 6))).length ≤ big := fun x => by
      have h1 := ((hr.cut none (some (c / 18 % (c / 3 % 6 + 1)))).app (letS_low x)).len
      have h2 := (hr.cut (some (c / 18 % (c / 3 % 6 + 1))) (some (c / 3 % 6))).len
      unfold big; omega
    have low : ∀ x : Int, Low 6 (cutS z none (some (c / 18 % (c / 3 % 6 + 1))) ++ letS x ++ cutS z (some (c / 18 % (c / 3 % 6 + 1))) (some (c / 3 % 6))) := fun x =>
      ⟨(((hr.cut none (some (c / 18 % (c / 3 % 6 + 1)))).app (letS_low x)).app (hr.cut (some (c / 18 % (c / 3 % 6 + 1))) (some (c / 3 % 6)))).let_, by
        rw [Str.length_append, Str.length_append]
        have q1 := cut_lo z a0
        have q2 := cut_mi z a0 (show c / 18 % (c / 3 % 6 + 1) ≤ c / 3 % 6 by omega)
        have q3 : (letS x).length = 1 := rfl
        omega⟩
    refine ⟨_, _, _, low (c / 90 + 7 * 0), low (c / 90 + 7 * 1), low (c / 90 + 7 * 2), ⟨mid_one _ _ _, mid_one _ _ _, mid_one _ _ _⟩, ⟨zig_mid zz hs h6 (by omega) (by omega) _, zig_mid zz hs h6 (by omega) (by omega) _, zig_mid zz hs h6 (by omega) (by omega) _⟩, ?_⟩
    have pos : (0 : Int) < c / 3 % 6 + 1 := by omega
    unfold runF f_l_names
    simp [entry, fOwn, fOpN,  fSeq, fNext, sRet, sRetN, sIf, sSet, sSetO, sAsg, sApp, sFor, forF, fVar, fOpd, fCon, f2, f1, fNil, fCons, bR, bL, bA, bLL, oR, fT, gAnd, gOr, gNot, gYes, fAnd, fOr, fNot, fIte, fTup, fLst, fCall, fCallO, fB, fM1, fSl, fiNo, fiSm, fLc, wLst, wTup, wStr, wRg1, wRg2, wZip, wEnum, gfN, gfTup, gsNil, gsCons, fLrg, fLrg3, wipeG, xSeq, xSet, xOf, xCall, xIf, xRet, xNext, xTup, xCons, xNil, xPut, xCallP, sRetX, sSetX, List.getElem?_cons_zero, List.getElem?_cons_succ, List.set_cons_zero, List.set_cons_succ, rg6, rg3, rgo6, rgo3, hrest, hj, c2, List.replicate, sl, ix_letter, mul7, oAdd_str (w1 _), oAdd_str (w2 _), oMod_int _ _ pos]
end K02

namespace K02
open PySem PySem.Spec PyProof.Rows L2 Py
/-! ### bodies, what they tell -/
theorem fSeq_nx {f g : Fs} {γ γ1 : Ge} (h : f γ = some (.nx γ1)) : fSeq f g γ = g γ1 := by unfold fSeq; rw [h]
theorem runF_rt {np n : Nat} {f : Fs} {ds : List D} {d : D} (hl : ds.length = np) (h : f (entry n ds) = some (.rt d)) : runF np n f ds = some (.ok d) := by unfold runF; rw [if_pos hl, h]
theorem runF_er {np n : Nat} {f : Fs} {ds : List D} {c : Str} (hl : ds.length = np) (h : f (entry n ds) = some (.er c)) : runF np n f ds = some (.er c) := by
  unfold runF
  rw [if_pos hl, h]
end K02

namespace K02
open PySem PySem.Spec PyProof.Rows L2 Py
/-! ### who is told: marks, statements, none of them mixed -/
/-- a mark that a statement may name -/
structure Lm (m : Str) : Prop where
  low : Low 6 m
  ne : m ≠ ""
def isFl : Option D → Bool
  | some (.bool false) => true
  | _ => false
theorem isFl_eq {r : Option D} (h : isFl r = true) : r = some (.bool false) := by
  unfold isFl at h
  split at h
  · rfl
  · cases h
theorem let_inB : ∀ j : _root_.Fin 26, isFl (oIn true (.str ⟨#[97 + j.val]⟩) (.str "abcdefghijklmnopqrstuvwxyz")) = true := by decide +kernel
theorem let_in (j : _root_.Fin 26) : oIn true (.str ⟨#[97 + j.val]⟩) (.str "abcdefghijklmnopqrstuvwxyz") = some (.bool false) := isFl_eq (let_inB j)
theorem let_in' {c : Nat} (h : 97 ≤ c ∧ c ≤ 122) : oIn true (.str ⟨#[c]⟩) (.str "abcdefghijklmnopqrstuvwxyz") = some (.bool false) := by
  have := let_in ⟨c - 97, by omega⟩
  simpa [show 97 + (c - 97) = c by omega] using this
theorem mark_loop0 : ∀ (l : List Nat) (A : D) (x : Sl), (∀ c ∈ l, 97 ≤ c ∧ c ≤ 122) → ∃ x', forF (gfN 1) (sIf (fT (f2 (oIn true) (fOpd 1) (fCon (.str "abcdefghijklmnopqrstuvwxyz")))) (sRet (fCon (.bool false))) fNext) (l.map fun c => .str ⟨#[c]⟩) [.va A, x] = some (.nx [.va A, x'])
  | [], A, x, _ => ⟨x, rfl⟩
  | c :: l, A, x, h => by
    obtain ⟨x', e⟩ := mark_loop0 l A (.va (.str ⟨#[c]⟩)) fun d hd => h d (List.mem_cons_of_mem _ hd)
    refine ⟨x', ?_⟩
    have hc := let_in' (h c List.mem_cons_self)
    rw [← e]
    simp [fOwn, fOpN,  fSeq, fNext, sRet, sRetN, sIf, sSet, sSetO, sAsg, sApp, sFor, forF, fVar, fOpd, fCon, f2, f1, fNil, fCons, bR, bL, bA, bLL, oR, fT, gAnd, gOr, gNot, gYes, fAnd, fOr, fNot, fIte, fTup, fLst, fCall, fCallO, fB, fM1, fSl, fiNo, fiSm, fLc, wLst, wTup, wStr, wRg1, wRg2, wZip, wEnum, gfN, gfTup, gsNil, gsCons, fLrg, fLrg3, wipeG, xSeq, xSet, xOf, xCall, xIf, xRet, xNext, xTup, xCons, xNil, xPut, xCallP, sRetX, sSetX, List.getElem?_cons_zero, List.getElem?_cons_succ, List.set_cons_zero, List.set_cons_succ, hc]
theorem run_is_mark {m : Str} (h : Low 6 m) (n : Nat) : Phi (n + 1) .is_mark [.str m] = some (.ok (.bool true)) := by
  obtain ⟨x', e⟩ := mark_loop0 m.cps.toList (.str m) .no h.let_
  have hl := h.len
  have h6 : ¬ (6 : Int) < (m.length : Int) := by omega
  rw [phi_is_mark]
  refine runF_rt rfl ?_
  unfold f_is_mark
  have s1 : oIsi "str" (.str m) = some (.bool true) := by simp [oIsi, Py.isT, tyN]
  have s2 : oLen [.str m] = some (.int (m.length : Int)) := by
    have : m.length ≤ big := by unfold big; omega
    simp [oLen, this]
  rw [fSeq_nx (γ1 := [.va (.str m), .no]) (by simp [entry, fOwn, fOpN,  fSeq, fNext, sRet, sRetN, sIf, sSet, sSetO, sAsg, sApp, sFor, forF, fVar, fOpd, fCon, f2, f1, fNil, fCons, bR, bL, bA, bLL, oR, fT, gAnd, gOr, gNot, gYes, fAnd, fOr, fNot, fIte, fTup, fLst, fCall, fCallO, fB, fM1, fSl, fiNo, fiSm, fLc, wLst, wTup, wStr, wRg1, wRg2, wZip, wEnum, gfN, gfTup, gsNil, gsCons, fLrg, fLrg3, wipeG, xSeq, xSet, xOf, xCall, xIf, xRet, xNext, xTup, xCons, xNil, xPut, xCallP, sRetX, sSetX, List.getElem?_cons_zero, List.getElem?_cons_succ, List.set_cons_zero, List.set_cons_succ, List.replicate, s1, s2, oGt, oI, h6])]
  rw [fSeq_nx (γ1 := [.va (.str m), x']) (by simpa [sFor, wStr, fVar] using e)]
  simp [fOwn, fOpN,  fSeq, fNext, sRet, sRetN, sIf, sSet, sSetO, sAsg, sApp, sFor, forF, fVar, fOpd, fCon, f2, f1, fNil, fCons, bR, bL, bA, bLL, oR, fT, gAnd, gOr, gNot, gYes, fAnd, fOr, fNot, fIte, fTup, fLst, fCall, fCallO, fB, fM1, fSl, fiNo, fiSm, fLc, wLst, wTup, wStr, wRg1, wRg2, wZip, wEnum, gfN, gfTup, gsNil, gsCons, fLrg, fLrg3, wipeG, xSeq, xSet, xOf, xCall, xIf, xRet, xNext, xTup, xCons, xNil, xPut, xCallP, sRetX, sSetX, List.getElem?_cons_zero, List.getElem?_cons_succ, List.set_cons_zero, List.set_cons_succ]
theorem run_is_number {k : Nat} (h : k ≤ 4) (n : Nat) : Phi (n + 1) .is_number [.int k] = some (.ok (.bool true)) := by
  rw [phi_is_number]
  refine runF_rt rfl ?_
  unfold f_is_number
  have s1 : oIsi "int" (.int (k : Int)) = some (.bool true) := by simp [oIsi, Py.isT, tyN]
  have s2 : oIsi "bool" (.int (k : Int)) = some (.bool false) := by simp [oIsi, Py.isT, tyN]
  have h1 : (0 : Int) ≤ (k : Int) := by omega
  have h2 : (k : Int) ≤ 4 := by omega
  simp [entry, fOwn, fOpN,  fSeq, fNext, sRet, sRetN, sIf, sSet, sSetO, sAsg, sApp, sFor, forF, fVar, fOpd, fCon, f2, f1, fNil, fCons, bR, bL, bA, bLL, oR, fT, gAnd, gOr, gNot, gYes, fAnd, fOr, fNot, fIte, fTup, fLst, fCall, fCallO, fB, fM1, fSl, fiNo, fiSm, fLc, wLst, wTup, wStr, wRg1, wRg2, wZip, wEnum, gfN, gfTup, gsNil, gsCons, fLrg, fLrg3, wipeG, xSeq, xSet, xOf, xCall, xIf, xRet, xNext, xTup, xCons, xNil, xPut, xCallP, sRetX, sSetX, List.getElem?_cons_zero, List.getElem?_cons_succ, List.set_cons_zero, List.set_cons_succ, List.replicate, s1, s2, fChain, h1, h2]
/-! ### what has the form of a statement, and what has not -/
theorem tpT (l : List D) : oIsi "tuple" (.tuple l) = some (.bool true) := by simp [oIsi, Py.isT, tyN]
theorem tpS (x : Str) : oIsi "str" (.str x) = some (.bool true) := by simp [oIsi, Py.isT, tyN]
theorem run_formed2 : ∀ (d : Nat) (s : Sta), s.Marks Lm → ksOk s → ∀ n, d + 1 ≤ n → Phi n .is_formed [enc s, .int d] = some (.ok (.bool (decide (s.depth ≤ d)))) := by
  intro d
  induction d with
  | zero =>
    intro s hm hk n hn
    obtain ⟨n, rfl⟩ : ∃ k, n = k + 1 := ⟨n - 1, by omega⟩
    have h0 : decide (s.depth ≤ 0) = false := decide_eq_false (by have := s.depth_pos; omega)
    rw [h0, phi_is_formed]
    refine runF_rt rfl ?_
    unfold f_is_formed
    simp [entry, fOwn, fOpN,  fSeq, fNext, sRet, sRetN, sIf, sSet, sSetO, sAsg, sApp, sFor, forF, fVar, fOpd, fCon, f2, f1, fNil, fCons, bR, bL, bA, bLL, oR, fT, gAnd, gOr, gNot, gYes, fAnd, fOr, fNot, fIte, fTup, fLst, fCall, fCallO, fB, fM1, fSl, fiNo, fiSm, fLc, wLst, wTup, wStr, wRg1, wRg2, wZip, wEnum, gfN, gfTup, gsNil, gsCons, fLrg, fLrg3, wipeG, xSeq, xSet, xOf, xCall, xIf, xRet, xNext, xTup, xCons, xNil, xPut, xCallP, sRetX, sSetX, List.getElem?_cons_zero, List.getElem?_cons_succ, List.set_cons_zero, List.set_cons_succ, List.replicate]
  | succ d ih =>
    intro s hm hk n hn
    obtain ⟨n, rfl⟩ : ∃ k, n = k + 1 := ⟨n - 1, by omega⟩
    have e1 : ((d : Int) + 1 == 0) = false := beq_eq_false_iff_ne.mpr (by omega)
    have e2 : (d : Int) + 1 - 1 = (d : Int) := by omega
    rw [phi_is_formed]
    refine runF_rt rfl ?_
    unfold f_is_formed
    cases s with
    | mark m =>
      obtain ⟨n, rfl⟩ : ∃ k, n = k + 1 := ⟨n - 1, by omega⟩
      have hmm : Lm m := hm
      have im := run_is_mark hmm.low n
      simp [entry, fOwn, fOpN,  fSeq, fNext, sRet, sRetN, sIf, sSet, sSetO, sAsg, sApp, sFor, forF, fVar, fOpd, fCon, f2, f1, fNil, fCons, bR, bL, bA, bLL, oR, fT, gAnd, gOr, gNot, gYes, fAnd, fOr, fNot, fIte, fTup, fLst, fCall, fCallO, fB, fM1, fSl, fiNo, fiSm, fLc, wLst, wTup, wStr, wRg1, wRg2, wZip, wEnum, gfN, gfTup, gsNil, gsCons, fLrg, fLrg3, wipeG, xSeq, xSet, xOf, xCall, xIf, xRet, xNext, xTup, xCons, xNil, xPut, xCallP, sRetX, sSetX, List.getElem?_cons_zero, List.getElem?_cons_succ, List.set_cons_zero, List.set_cons_succ, List.replicate, enc, tpT, tpS, e1, im, oLen, hmm.ne, Sta.depth]
    | yes => simp [entry, fOwn, fOpN,  fSeq, fNext, sRet, sRetN, sIf, sSet, sSetO, sAsg, sApp, sFor, forF, fVar, fOpd, fCon, f2, f1, fNil, fCons, bR, bL, bA, bLL, oR, fT, gAnd, gOr, gNot, gYes, fAnd, fOr, fNot, fIte, fTup, fLst, fCall, fCallO, fB, fM1, fSl, fiNo, fiSm, fLc, wLst, wTup, wStr, wRg1, wRg2, wZip, wEnum, gfN, gfTup, gsNil, gsCons, fLrg, fLrg3, wipeG, xSeq, xSet, xOf, xCall, xIf, xRet, xNext, xTup, xCons, xNil, xPut, xCallP, sRetX, sSetX, List.getElem?_cons_zero, List.getElem?_cons_succ, List.set_cons_zero, List.set_cons_succ, List.replicate, enc, tpT, tpS, e1, oLen, Sta.depth]
    | wi k s =>
      obtain ⟨n, rfl⟩ : ∃ k, n = k + 1 := ⟨n - 1, by omega⟩
      have hk' : k ≤ 4 ∧ ksOk s := hk
      have hm' : s.Marks Lm := hm
      have im := run_is_number hk'.1 n
      have i2 := ih s hm' hk'.2 (n + 1) (by omega)
      simp [entry, fOwn, fOpN,  fSeq, fNext, sRet, sRetN, sIf, sSet, sSetO, sAsg, sApp, sFor, forF, fVar, fOpd, fCon, f2, f1, fNil, fCons, bR, bL, bA, bLL, oR, fT, gAnd, gOr, gNot, gYes, fAnd, fOr, fNot, fIte, fTup, fLst, fCall, fCallO, fB, fM1, fSl, fiNo, fiSm, fLc, wLst, wTup, wStr, wRg1, wRg2, wZip, wEnum, gfN, gfTup, gsNil, gsCons, fLrg, fLrg3, wipeG, xSeq, xSet, xOf, xCall, xIf, xRet, xNext, xTup, xCons, xNil, xPut, xCallP, sRetX, sSetX, List.getElem?_cons_zero, List.getElem?_cons_succ, List.set_cons_zero, List.set_cons_succ, List.replicate, enc, tpT, tpS, e1, e2, im, i2, oLen, Sta.depth]
    | nt s =>
      have i2 := ih s hm hk n (by omega)
      simp [entry, fOwn, fOpN,  fSeq, fNext, sRet, sRetN, sIf, sSet, sSetO, sAsg, sApp, sFor, forF, fVar, fOpd, fCon, f2, f1, fNil, fCons, bR, bL, bA, bLL, oR, fT, gAnd, gOr, gNot, gYes, fAnd, fOr, fNot, fIte, fTup, fLst, fCall, fCallO, fB, fM1, fSl, fiNo, fiSm, fLc, wLst, wTup, wStr, wRg1, wRg2, wZip, wEnum, gfN, gfTup, gsNil, gsCons, fLrg, fLrg3, wipeG, xSeq, xSet, xOf, xCall, xIf, xRet, xNext, xTup, xCons, xNil, xPut, xCallP, sRetX, sSetX, List.getElem?_cons_zero, List.getElem?_cons_succ, List.set_cons_zero, List.set_cons_succ, List.replicate, enc, tpT, tpS, e1, e2, i2, oLen, oIn, flatD, PyData.eqv, Sta.depth]
    | nx s =>
      have i2 := ih s hm hk n (by omega)
      simp [entry, fOwn, fOpN,  fSeq, fNext, sRet, sRetN, sIf, sSet, sSetO, sAsg, sApp, sFor, forF, fVar, fOpd, fCon, f2, f1, fNil, fCons, bR, bL, bA, bLL, oR, fT, gAnd, gOr, gNot, gYes, fAnd, fOr, fNot, fIte, fTup, fLst, fCall, fCallO, fB, fM1, fSl, fiNo, fiSm, fLc, wLst, wTup, wStr, wRg1, wRg2, wZip, wEnum, gfN, gfTup, gsNil, gsCons, fLrg, fLrg3, wipeG, xSeq, xSet, xOf, xCall, xIf, xRet, xNext, xTup, xCons, xNil, xPut, xCallP, sRetX, sSetX, List.getElem?_cons_zero, List.getElem?_cons_succ, List.set_cons_zero, List.set_cons_succ, List.replicate, enc, tpT, tpS, e1, e2, i2, oLen, oIn, flatD, PyData.eqv, Sta.depth]
    | bf s =>
      have i2 := ih s hm hk n (by omega)
      simp [entry, fOwn, fOpN,  fSeq, fNext, sRet, sRetN, sIf, sSet, sSetO, sAsg, sApp, sFor, forF, fVar, fOpd, fCon, f2, f1, fNil, fCons, bR, bL, bA, bLL, oR, fT, gAnd, gOr, gNot, gYes, fAnd, fOr, fNot, fIte, fTup, fLst, fCall, fCallO, fB, fM1, fSl, fiNo, fiSm, fLc, wLst, wTup, wStr, wRg1, wRg2, wZip, wEnum, gfN, gfTup, gsNil, gsCons, fLrg, fLrg3, wipeG, xSeq, xSet, xOf, xCall, xIf, xRet, xNext, xTup, xCons, xNil, xPut, xCallP, sRetX, sSetX, List.getElem?_cons_zero, List.getElem?_cons_succ, List.set_cons_zero, List.set_cons_succ, List.replicate, enc, tpT, tpS, e1, e2, i2, oLen, oIn, flatD, PyData.eqv, Sta.depth]
    | an s t =>
      have i2 := ih s hm.1 hk.1 n (by omega)
      have i3 := ih t hm.2 hk.2 n (by omega)
      by_cases h : s.depth ≤ d
      · simp [entry, fOwn, fOpN,  fSeq, fNext, sRet, sRetN, sIf, sSet, sSetO, sAsg, sApp, sFor, forF, fVar, fOpd, fCon, f2, f1, fNil, fCons, bR, bL, bA, bLL, oR, fT, gAnd, gOr, gNot, gYes, fAnd, fOr, fNot, fIte, fTup, fLst, fCall, fCallO, fB, fM1, fSl, fiNo, fiSm, fLc, wLst, wTup, wStr, wRg1, wRg2, wZip, wEnum, gfN, gfTup, gsNil, gsCons, fLrg, fLrg3, wipeG, xSeq, xSet, xOf, xCall, xIf, xRet, xNext, xTup, xCons, xNil, xPut, xCallP, sRetX, sSetX, List.getElem?_cons_zero, List.getElem?_cons_succ, List.set_cons_zero, List.set_cons_succ, List.replicate, enc, tpT, tpS, e1, e2, i2, i3, oLen, oIn, flatD, PyData.eqv, Sta.depth, h]
        omega
      · simp [entry, fOwn, fOpN,  fSeq, fNext, sRet, sRetN, sIf, sSet, sSetO, sAsg, sApp, sFor, forF, fVar, fOpd, fCon, f2, f1, fNil, fCons, bR, bL, bA, bLL, oR, fT, gAnd, gOr, gNot, gYes, fAnd, fOr, fNot, fIte, fTup, fLst, fCall, fCallO, fB, fM1, fSl, fiNo, fiSm, fLc, wLst, wTup, wStr, wRg1, wRg2, wZip, wEnum, gfN, gfTup, gsNil, gsCons, fLrg, fLrg3, wipeG, xSeq, xSet, xOf, xCall, xIf, xRet, xNext, xTup, xCons, xNil, xPut, xCallP, sRetX, sSetX, List.getElem?_cons_zero, List.getElem?_cons_succ, List.set_cons_zero, List.set_cons_succ, List.replicate, enc, tpT, tpS, e1, e2, i2, i3, oLen, oIn, flatD, PyData.eqv, Sta.depth, h]
        omega
    | or s t =>
      have i2 := ih s hm.1 hk.1 n (by omega)
      have i3 := ih t hm.2 hk.2 n (by omega)
      by_cases h : s.depth ≤ d
      · simp [entry, fOwn, fOpN,  fSeq, fNext, sRet, sRetN, sIf, sSet, sSetO, sAsg, sApp, sFor, forF, fVar, fOpd, fCon, f2, f1, fNil, fCons, bR, bL, bA, bLL, oR, fT, gAnd, gOr, gNot, gYes, fAnd, fOr, fNot, fIte, fTup, fLst, fCall, fCallO, fB, fM1, fSl, fiNo, fiSm, fLc, wLst, wTup, wStr, wRg1, wRg2, wZip, wEnum, gfN, gfTup, gsNil, gsCons, fLrg, fLrg3, wipeG, xSeq, xSet, xOf, xCall, xIf, xRet, xNext, xTup, xCons, xNil, xPut, xCallP, sRetX, sSetX, List.getElem?_cons_zero, List.getElem?_cons_succ, List.set_cons_zero, List.set_cons_succ, List.replicate, enc, tpT, tpS, e1, e2, i2, i3, oLen, oIn, flatD, PyData.eqv, Sta.depth, h]
        omega
      · simp [entry, fOwn, fOpN,  fSeq, fNext, sRet, sRetN, sIf, sSet, sSetO, sAsg, sApp, sFor, forF, fVar, fOpd, fCon, f2, f1, fNil, fCons, bR, bL, bA, bLL, oR, fT, gAnd, gOr, gNot, gYes, fAnd, fOr, fNot, fIte, fTup, fLst, fCall, fCallO, fB, fM1, fSl, fiNo, fiSm, fLc, wLst, wTup, wStr, wRg1, wRg2, wZip, wEnum, gfN, gfTup, gsNil, gsCons, fLrg, fLrg3, wipeG, xSeq, xSet, xOf, xCall, xIf, xRet, xNext, xTup, xCons, xNil, xPut, xCallP, sRetX, sSetX, List.getElem?_cons_zero, List.getElem?_cons_succ, List.set_cons_zero, List.set_cons_succ, List.replicate, enc, tpT, tpS, e1, e2, i2, i3, oLen, oIn, flatD, PyData.eqv, Sta.depth, h]
        omega
    | un s t =>
      have i2 := ih s hm.1 hk.1 n (by omega)
      have i3 := ih t hm.2 hk.2 n (by omega)
      by_cases h : s.depth ≤ d
      · simp [entry, fOwn, fOpN,  fSeq, fNext, sRet, sRetN, sIf, sSet, sSetO, sAsg, sApp, sFor, forF, fVar, fOpd, fCon, f2, f1, fNil, fCons, bR, bL, bA, bLL, oR, fT, gAnd, gOr, gNot, gYes, fAnd, fOr, fNot, fIte, fTup, fLst, fCall, fCallO, fB, fM1, fSl, fiNo, fiSm, fLc, wLst, wTup, wStr, wRg1, wRg2, wZip, wEnum, gfN, gfTup, gsNil, gsCons, fLrg, fLrg3, wipeG, xSeq, xSet, xOf, xCall, xIf, xRet, xNext, xTup, xCons, xNil, xPut, xCallP, sRetX, sSetX, List.getElem?_cons_zero, List.getElem?_cons_succ, List.set_cons_zero, List.set_cons_succ, List.replicate, enc, tpT, tpS, e1, e2, i2, i3, oLen, oIn, flatD, PyData.eqv, Sta.depth, h]
        omega
      · simp [entry, fOwn, fOpN,  fSeq, fNext, sRet, sRetN, sIf, sSet, sSetO, sAsg, sApp, sFor, forF, fVar, fOpd, fCon, f2, f1, fNil, fCons, bR, bL, bA, bLL, oR, fT, gAnd, gOr, gNot, gYes, fAnd, fOr, fNot, fIte, fTup, fLst, fCall, fCallO, fB, fM1, fSl, fiNo, fiSm, fLc, wLst, wTup, wStr, wRg1, wRg2, wZip, wEnum, gfN, gfTup, gsNil, gsCons, fLrg, fLrg3, wipeG, xSeq, xSet, xOf, xCall, xIf, xRet, xNext, xTup, xCons, xNil, xPut, xCallP, sRetX, sSetX, List.getElem?_cons_zero, List.getElem?_cons_succ, List.set_cons_zero, List.set_cons_succ, List.replicate, enc, tpT, tpS, e1, e2, i2, i3, oLen, oIn, flatD, PyData.eqv, Sta.depth, h]
        omega
    | si s t =>
      have i2 := ih s hm.1 hk.1 n (by omega)
      have i3 := ih t hm.2 hk.2 n (by omega)
      by_cases h : s.depth ≤ d
      · simp [entry, fOwn, fOpN,  fSeq, fNext, sRet, sRetN, sIf, sSet, sSetO, sAsg, sApp, sFor, forF, fVar, fOpd, fCon, f2, f1, fNil, fCons, bR, bL, bA, bLL, oR, fT, gAnd, gOr, gNot, gYes, fAnd, fOr, fNot, fIte, fTup, fLst, fCall, fCallO, fB, fM1, fSl, fiNo, fiSm, fLc, wLst, wTup, wStr, wRg1, wRg2, wZip, wEnum, gfN, gfTup, gsNil, gsCons, fLrg, fLrg3, wipeG, xSeq, xSet, xOf, xCall, xIf, xRet, xNext, xTup, xCons, xNil, xPut, xCallP, sRetX, sSetX, List.getElem?_cons_zero, List.getElem?_cons_succ, List.set_cons_zero, List.set_cons_succ, List.replicate, enc, tpT, tpS, e1, e2, i2, i3, oLen, oIn, flatD, PyData.eqv, Sta.depth, h]
        omega
      · simp [entry, fOwn, fOpN,  fSeq, fNext, sRet, sRetN, sIf, sSet, sSetO, sAsg, sApp, sFor, forF, fVar, fOpd, fCon, f2, f1, fNil, fCons, bR, bL, bA, bLL, oR, fT, gAnd, gOr, gNot, gYes, fAnd, fOr, fNot, fIte, fTup, fLst, fCall, fCallO, fB, fM1, fSl, fiNo, fiSm, fLc, wLst, wTup, wStr, wRg1, wRg2, wZip, wEnum, gfN, gfTup, gsNil, gsCons, fLrg, fLrg3, wipeG, xSeq, xSet, xOf, xCall, xIf, xRet, xNext, xTup, xCons, xNil, xPut, xCallP, sRetX, sSetX, List.getElem?_cons_zero, List.getElem?_cons_succ, List.set_cons_zero, List.set_cons_succ, List.replicate, enc, tpT, tpS, e1, e2, i2, i3, oLen, oIn, flatD, PyData.eqv, Sta.depth, h]
        omega
/-- no statement, however deep one may be -/
def Bad (d : D) : Prop := ∀ (deep n : Nat), deep + 1 ≤ n → Phi n .is_formed [d, .int deep] = some (.ok (.bool false))
theorem bad_of {d : D} (h : ∀ (deep n : Nat), deep + 1 ≤ n → f_is_formed (Phi n) [.va d, .va (.int ((deep : Int) + 1))] = some (.rt (.bool false))) : Bad d := by
  intro deep n hn
  obtain ⟨n, rfl⟩ : ∃ k, n = k + 1 := ⟨n - 1, by omega⟩
  rw [phi_is_formed]
  cases deep with
  | zero =>
    refine runF_rt rfl ?_
    unfold f_is_formed
    simp [entry, fOwn, fOpN,  fSeq, fNext, sRet, sRetN, sIf, sSet, sSetO, sAsg, sApp, sFor, forF, fVar, fOpd, fCon, f2, f1, fNil, fCons, bR, bL, bA, bLL, oR, fT, gAnd, gOr, gNot, gYes, fAnd, fOr, fNot, fIte, fTup, fLst, fCall, fCallO, fB, fM1, fSl, fiNo, fiSm, fLc, wLst, wTup, wStr, wRg1, wRg2, wZip, wEnum, gfN, gfTup, gsNil, gsCons, fLrg, fLrg3, wipeG, xSeq, xSet, xOf, xCall, xIf, xRet, xNext, xTup, xCons, xNil, xPut, xCallP, sRetX, sSetX, List.getElem?_cons_zero, List.getElem?_cons_succ, List.set_cons_zero, List.set_cons_succ, List.replicate]
  | succ deep => exact runF_rt rfl (h deep n (by omega))
/-- a part that is none spoils the whole -/
theorem bad_one {w : Str} {d : D} (hw : w = "not" ∨ w = "next" ∨ w = "before") (h : Bad d) : Bad (.tuple [.str w, d]) := by
  refine bad_of fun deep n hn => ?_
  have e1 : ((deep : Int) + 1 == 0) = false := beq_eq_false_iff_ne.mpr (by omega)
  have e2 : (deep : Int) + 1 - 1 = (deep : Int) := by omega
  have i := h deep n hn
  unfold f_is_formed
  rcases hw with rfl | rfl | rfl <;> simp [fOwn, fOpN,  fSeq, fNext, sRet, sRetN, sIf, sSet, sSetO, sAsg, sApp, sFor, forF, fVar, fOpd, fCon, f2, f1, fNil, fCons, bR, bL, bA, bLL, oR, fT, gAnd, gOr, gNot, gYes, fAnd, fOr, fNot, fIte, fTup, fLst, fCall, fCallO, fB, fM1, fSl, fiNo, fiSm, fLc, wLst, wTup, wStr, wRg1, wRg2, wZip, wEnum, gfN, gfTup, gsNil, gsCons, fLrg, fLrg3, wipeG, xSeq, xSet, xOf, xCall, xIf, xRet, xNext, xTup, xCons, xNil, xPut, xCallP, sRetX, sSetX, List.getElem?_cons_zero, List.getElem?_cons_succ, List.set_cons_zero, List.set_cons_succ, tpT, tpS, e1, e2, i, oLen, oIn, flatD, PyData.eqv]
theorem bad_wi {k : Nat} (hk : k ≤ 4) {d : D} (h : Bad d) : Bad (.tuple [.str "within", .int k, d]) := by
  refine bad_of fun deep n hn => ?_
  have e1 : ((deep : Int) + 1 == 0) = false := beq_eq_false_iff_ne.mpr (by omega)
  have e2 : (deep : Int) + 1 - 1 = (deep : Int) := by omega
  have i := h deep n hn
  obtain ⟨n, rfl⟩ : ∃ k, n = k + 1 := ⟨n - 1, by omega⟩
  have im := run_is_number hk n
  unfold f_is_formed
  simp [fOwn, fOpN,  fSeq, fNext, sRet, sRetN, sIf, sSet, sSetO, sAsg, sApp, sFor, forF, fVar, fOpd, fCon, f2, f1, fNil, fCons, bR, bL, bA, bLL, oR, fT, gAnd, gOr, gNot, gYes, fAnd, fOr, fNot, fIte, fTup, fLst, fCall, fCallO, fB, fM1, fSl, fiNo, fiSm, fLc, wLst, wTup, wStr, wRg1, wRg2, wZip, wEnum, gfN, gfTup, gsNil, gsCons, fLrg, fLrg3, wipeG, xSeq, xSet, xOf, xCall, xIf, xRet, xNext, xTup, xCons, xNil, xPut, xCallP, sRetX, sSetX, List.getElem?_cons_zero, List.getElem?_cons_succ, List.set_cons_zero, List.set_cons_succ, tpT, tpS, e1, e2, i, im, oLen, oIn, flatD, PyData.eqv]
theorem bad_l {w : Str} {d d2 : D} (hw : w = "and" ∨ w = "or" ∨ w = "until" ∨ w = "since") (h : Bad d) : Bad (.tuple [.str w, d, d2]) := by
  refine bad_of fun deep n hn => ?_
  have e1 : ((deep : Int) + 1 == 0) = false := beq_eq_false_iff_ne.mpr (by omega)
  have e2 : (deep : Int) + 1 - 1 = (deep : Int) := by omega
  have i := h deep n hn
  unfold f_is_formed
  rcases hw with rfl | rfl | rfl | rfl <;> simp [fOwn, fOpN,  fSeq, fNext, sRet, sRetN, sIf, sSet, sSetO, sAsg, sApp, sFor, forF, fVar, fOpd, fCon, f2, f1, fNil, fCons, bR, bL, bA, bLL, oR, fT, gAnd, gOr, gNot, gYes, fAnd, fOr, fNot, fIte, fTup, fLst, fCall, fCallO, fB, fM1, fSl, fiNo, fiSm, fLc, wLst, wTup, wStr, wRg1, wRg2, wZip, wEnum, gfN, gfTup, gsNil, gsCons, fLrg, fLrg3, wipeG, xSeq, xSet, xOf, xCall, xIf, xRet, xNext, xTup, xCons, xNil, xPut, xCallP, sRetX, sSetX, List.getElem?_cons_zero, List.getElem?_cons_succ, List.set_cons_zero, List.set_cons_succ, tpT, tpS, e1, e2, i, oLen, oIn, flatD, PyData.eqv]
theorem bad_r {w : Str} {s : Sta} {d2 : D} (hw : w = "and" ∨ w = "or" ∨ w = "until" ∨ w = "since") (hm : s.Marks Lm) (hk : ksOk s) (h : Bad d2) : Bad (.tuple [.str w, enc s, d2]) := by
  refine bad_of fun deep n hn => ?_
  have e1 : ((deep : Int) + 1 == 0) = false := beq_eq_false_iff_ne.mpr (by omega)
  have e2 : (deep : Int) + 1 - 1 = (deep : Int) := by omega
  have i := h deep n hn
  have i2 := run_formed2 deep s hm hk n hn
  unfold f_is_formed
  by_cases hd : s.depth ≤ deep
  · rcases hw with rfl | rfl | rfl | rfl <;> simp [fOwn, fOpN,  fSeq, fNext, sRet, sRetN, sIf, sSet, sSetO, sAsg, sApp, sFor, forF, fVar, fOpd, fCon, f2, f1, fNil, fCons, bR, bL, bA, bLL, oR, fT, gAnd, gOr, gNot, gYes, fAnd, fOr, fNot, fIte, fTup, fLst, fCall, fCallO, fB, fM1, fSl, fiNo, fiSm, fLc, wLst, wTup, wStr, wRg1, wRg2, wZip, wEnum, gfN, gfTup, gsNil, gsCons, fLrg, fLrg3, wipeG, xSeq, xSet, xOf, xCall, xIf, xRet, xNext, xTup, xCons, xNil, xPut, xCallP, sRetX, sSetX, List.getElem?_cons_zero, List.getElem?_cons_succ, List.set_cons_zero, List.set_cons_succ, tpT, tpS, e1, e2, i, i2, hd, oLen, oIn, flatD, PyData.eqv]
  · rcases hw with rfl | rfl | rfl | rfl <;> simp [fOwn, fOpN,  fSeq, fNext, sRet, sRetN, sIf, sSet, sSetO, sAsg, sApp, sFor, forF, fVar, fOpd, fCon, f2, f1, fNil, fCons, bR, bL, bA, bLL, oR, fT, gAnd, gOr, gNot, gYes, fAnd, fOr, fNot, fIte, fTup, fLst, fCall, fCallO, fB, fM1, fSl, fiNo, fiSm, fLc, wLst, wTup, wStr, wRg1, wRg2, wZip, wEnum, gfN, gfTup, gsNil, gsCons, fLrg, fLrg3, wipeG, xSeq, xSet, xOf, xCall, xIf, xRet, xNext, xTup, xCons, xNil, xPut, xCallP, sRetX, sSetX, List.getElem?_cons_zero, List.getElem?_cons_succ, List.set_cons_zero, List.set_cons_succ, tpT, tpS, e1, e2, i, i2, hd, oLen, oIn, flatD, PyData.eqv]
/-- what is no tuple -/
theorem bad_nt {d : D} (h : oIsi "tuple" d = some (.bool false)) : Bad d := by
  refine bad_of fun deep n hn => ?_
  have e1 : ((deep : Int) + 1 == 0) = false := beq_eq_false_iff_ne.mpr (by omega)
  unfold f_is_formed
  simp [fOwn, fOpN,  fSeq, fNext, sRet, sRetN, sIf, sSet, sSetO, sAsg, sApp, sFor, forF, fVar, fOpd, fCon, f2, f1, fNil, fCons, bR, bL, bA, bLL, oR, fT, gAnd, gOr, gNot, gYes, fAnd, fOr, fNot, fIte, fTup, fLst, fCall, fCallO, fB, fM1, fSl, fiNo, fiSm, fLc, wLst, wTup, wStr, wRg1, wRg2, wZip, wEnum, gfN, gfTup, gsNil, gsCons, fLrg, fLrg3, wipeG, xSeq, xSet, xOf, xCall, xIf, xRet, xNext, xTup, xCons, xNil, xPut, xCallP, sRetX, sSetX, List.getElem?_cons_zero, List.getElem?_cons_succ, List.set_cons_zero, List.set_cons_succ, e1, h]
theorem run_mark_no {d : D} (n : Nat) (h : oIsi "str" d = some (.bool false)) : Phi (n + 1) .is_mark [d] = some (.ok (.bool false)) := by
  rw [phi_is_mark]
  refine runF_rt rfl ?_
  unfold f_is_mark
  simp [entry, fOwn, fOpN,  fSeq, fNext, sRet, sRetN, sIf, sSet, sSetO, sAsg, sApp, sFor, forF, fVar, fOpd, fCon, f2, f1, fNil, fCons, bR, bL, bA, bLL, oR, fT, gAnd, gOr, gNot, gYes, fAnd, fOr, fNot, fIte, fTup, fLst, fCall, fCallO, fB, fM1, fSl, fiNo, fiSm, fLc, wLst, wTup, wStr, wRg1, wRg2, wZip, wEnum, gfN, gfTup, gsNil, gsCons, fLrg, fLrg3, wipeG, xSeq, xSet, xOf, xCall, xIf, xRet, xNext, xTup, xCons, xNil, xPut, xCallP, sRetX, sSetX, List.getElem?_cons_zero, List.getElem?_cons_succ, List.set_cons_zero, List.set_cons_succ, List.replicate, h]
theorem run_num_no {d : D} (n : Nat) (h : oIsi "int" d = some (.bool false)) : Phi (n + 1) .is_number [d] = some (.ok (.bool false)) := by
  rw [phi_is_number]
  refine runF_rt rfl ?_
  unfold f_is_number
  simp [entry, fOwn, fOpN,  fSeq, fNext, sRet, sRetN, sIf, sSet, sSetO, sAsg, sApp, sFor, forF, fVar, fOpd, fCon, f2, f1, fNil, fCons, bR, bL, bA, bLL, oR, fT, gAnd, gOr, gNot, gYes, fAnd, fOr, fNot, fIte, fTup, fLst, fCall, fCallO, fB, fM1, fSl, fiNo, fiSm, fLc, wLst, wTup, wStr, wRg1, wRg2, wZip, wEnum, gfN, gfTup, gsNil, gsCons, fLrg, fLrg3, wipeG, xSeq, xSet, xOf, xCall, xIf, xRet, xNext, xTup, xCons, xNil, xPut, xCallP, sRetX, sSetX, List.getElem?_cons_zero, List.getElem?_cons_succ, List.set_cons_zero, List.set_cons_succ, List.replicate, h]
/-! is_mark of any text -/
def lett (c : Nat) : Bool := decide (c ∈ ("abcdefghijklmnopqrstuvwxyz" : Str).cps.toList)
theorem in_lett (neg : Bool) (c : Nat) : oIn neg (.str ⟨#[c]⟩) (.str "abcdefghijklmnopqrstuvwxyz") = some (.bool (if neg = true then !lett c else lett c)) := rfl
theorem mark_loop1 : ∀ (l : List Nat) (A : D) (x : Sl), (l.all lett = true ∧ ∃ x', forF (gfN 1) (sIf (fT (f2 (oIn true) (fOpd 1) (fCon (.str "abcdefghijklmnopqrstuvwxyz")))) (sRet (fCon (.bool false))) fNext) (l.map fun c => .str ⟨#[c]⟩) [.va A, x] = some (.nx [.va A, x'])) ∨
    (l.all lett = false ∧ forF (gfN 1) (sIf (fT (f2 (oIn true) (fOpd 1) (fCon (.str "abcdefghijklmnopqrstuvwxyz")))) (sRet (fCon (.bool false))) fNext) (l.map fun c => .str ⟨#[c]⟩) [.va A, x] = some (.rt (.bool false)))
  | [], A, x => .inl ⟨rfl, x, rfl⟩
  | c :: l, A, x => by
    have e := in_lett true c
    simp only [if_true] at e
    cases hc : lett c with
    | false =>
      refine .inr ⟨by simp [hc], ?_⟩
      rw [hc] at e
      simp [fOwn, fOpN,  fSeq, fNext, sRet, sRetN, sIf, sSet, sSetO, sAsg, sApp, sFor, forF, fVar, fOpd, fCon, f2, f1, fNil, fCons, bR, bL, bA, bLL, oR, fT, gAnd, gOr, gNot, gYes, fAnd, fOr, fNot, fIte, fTup, fLst, fCall, fCallO, fB, fM1, fSl, fiNo, fiSm, fLc, wLst, wTup, wStr, wRg1, wRg2, wZip, wEnum, gfN, gfTup, gsNil, gsCons, fLrg, fLrg3, wipeG, xSeq, xSet, xOf, xCall, xIf, xRet, xNext, xTup, xCons, xNil, xPut, xCallP, sRetX, sSetX, List.getElem?_cons_zero, List.getElem?_cons_succ, List.set_cons_zero, List.set_cons_succ, forF, e]
    | true =>
      rw [hc] at e
      rcases mark_loop1 l A (.va (.str ⟨#[c]⟩)) with ⟨h, x', q⟩ | ⟨h, q⟩
      · refine .inl ⟨by simp [hc, h], x', ?_⟩
        rw [← q]
        simp [fOwn, fOpN,  fSeq, fNext, sRet, sRetN, sIf, sSet, sSetO, sAsg, sApp, sFor, forF, fVar, fOpd, fCon, f2, f1, fNil, fCons, bR, bL, bA, bLL, oR, fT, gAnd, gOr, gNot, gYes, fAnd, fOr, fNot, fIte, fTup, fLst, fCall, fCallO, fB, fM1, fSl, fiNo, fiSm, fLc, wLst, wTup, wStr, wRg1, wRg2, wZip, wEnum, gfN, gfTup, gsNil, gsCons, fLrg, fLrg3, wipeG, xSeq, xSet, xOf, xCall, xIf, xRet, xNext, xTup, xCons, xNil, xPut, xCallP, sRetX, sSetX, List.getElem?_cons_zero, List.getElem?_cons_succ, List.set_cons_zero, List.set_cons_succ, forF, e]
      · refine .inr ⟨by simp [hc, h], ?_⟩
        rw [← q]
        simp [fOwn, fOpN,  fSeq, fNext, sRet, sRetN, sIf, sSet, sSetO, sAsg, sApp, sFor, forF, fVar, fOpd, fCon, f2, f1, fNil, fCons, bR, bL, bA, bLL, oR, fT, gAnd, gOr, gNot, gYes, fAnd, fOr, fNot, fIte, fTup, fLst, fCall, fCallO, fB, fM1, fSl, fiNo, fiSm, fLc, wLst, wTup, wStr, wRg1, wRg2, wZip, wEnum, gfN, gfTup, gsNil, gsCons, fLrg, fLrg3, wipeG, xSeq, xSet, xOf, xCall, xIf, xRet, xNext, xTup, xCons, xNil, xPut, xCallP, sRetX, sSetX, List.getElem?_cons_zero, List.getElem?_cons_succ, List.set_cons_zero, List.set_cons_succ, forF, e]
def isMk (m : Str) : Bool := decide (m.length ≤ 6) && m.cps.toList.all lett
theorem run_mark_str {m : Str} (hb : m.length ≤ big) (n : Nat) : Phi (n + 1) .is_mark [.str m] = some (.ok (.bool (isMk m))) := by
  rw [phi_is_mark]
  refine runF_rt rfl ?_
  unfold f_is_mark isMk
  have s2 : oLen [.str m] = some (.int (m.length : Int)) := by simp [oLen, hb]
  by_cases h : m.length ≤ 6
  · have h6 : ¬ (6 : Int) < (m.length : Int) := by omega
    rw [decide_eq_true h, Bool.true_and]
    rw [fSeq_nx (γ1 := [.va (.str m), .no]) (by simp [entry, fOwn, fOpN,  fSeq, fNext, sRet, sRetN, sIf, sSet, sSetO, sAsg, sApp, sFor, forF, fVar, fOpd, fCon, f2, f1, fNil, fCons, bR, bL, bA, bLL, oR, fT, gAnd, gOr, gNot, gYes, fAnd, fOr, fNot, fIte, fTup, fLst, fCall, fCallO, fB, fM1, fSl, fiNo, fiSm, fLc, wLst, wTup, wStr, wRg1, wRg2, wZip, wEnum, gfN, gfTup, gsNil, gsCons, fLrg, fLrg3, wipeG, xSeq, xSet, xOf, xCall, xIf, xRet, xNext, xTup, xCons, xNil, xPut, xCallP, sRetX, sSetX, List.getElem?_cons_zero, List.getElem?_cons_succ, List.set_cons_zero, List.set_cons_succ, List.replicate, tpS, s2, oGt, oI, h6])]
    rcases mark_loop1 m.cps.toList (.str m) .no with ⟨e, x', q⟩ | ⟨e, q⟩
    · rw [e, fSeq_nx (γ1 := [.va (.str m), x']) (by simpa [sFor, wStr, fVar] using q)]
      simp [fOwn, fOpN,  fSeq, fNext, sRet, sRetN, sIf, sSet, sSetO, sAsg, sApp, sFor, forF, fVar, fOpd, fCon, f2, f1, fNil, fCons, bR, bL, bA, bLL, oR, fT, gAnd, gOr, gNot, gYes, fAnd, fOr, fNot, fIte, fTup, fLst, fCall, fCallO, fB, fM1, fSl, fiNo, fiSm, fLc, wLst, wTup, wStr, wRg1, wRg2, wZip, wEnum, gfN, gfTup, gsNil, gsCons, fLrg, fLrg3, wipeG, xSeq, xSet, xOf, xCall, xIf, xRet, xNext, xTup, xCons, xNil, xPut, xCallP, sRetX, sSetX, List.getElem?_cons_zero, List.getElem?_cons_succ, List.set_cons_zero, List.set_cons_succ]
    · rw [e]
      unfold fSeq
      rw [show sFor (wStr (fVar 0)) (gfN 1) (sIf (fT (f2 (oIn true) (fOpd 1) (fCon (.str "abcdefghijklmnopqrstuvwxyz")))) (sRet (fCon (.bool false))) fNext) [.va (.str m), .no] = some (.rt (.bool false)) from by simpa [sFor, wStr, fVar] using q]
  · have h6 : (6 : Int) < (m.length : Int) := by omega
    rw [decide_eq_false h, Bool.false_and]
    simp [entry, fOwn, fOpN,  fSeq, fNext, sRet, sRetN, sIf, sSet, sSetO, sAsg, sApp, sFor, forF, fVar, fOpd, fCon, f2, f1, fNil, fCons, bR, bL, bA, bLL, oR, fT, gAnd, gOr, gNot, gYes, fAnd, fOr, fNot, fIte, fTup, fLst, fCall, fCallO, fB, fM1, fSl, fiNo, fiSm, fLc, wLst, wTup, wStr, wRg1, wRg2, wZip, wEnum, gfN, gfTup, gsNil, gsCons, fLrg, fLrg3, wipeG, xSeq, xSet, xOf, xCall, xIf, xRet, xNext, xTup, xCons, xNil, xPut, xCallP, sRetX, sSetX, List.getElem?_cons_zero, List.getElem?_cons_succ, List.set_cons_zero, List.set_cons_succ, List.replicate, tpS, s2, oGt, oI, h6]
end K02

namespace K02
open PySem PySem.Spec PyProof.Rows L2 Py
/-! ### steps of what is reckoned -/
theorem seq_rt {f g : Fs} {γ : Ge} {d : D} (h : f γ = some (.rt d)) : fSeq f g γ = some (.rt d) := by unfold fSeq; rw [h]
theorem f2_of {o : D → D → Option D} {a b : Fe} {γ : Ge} {x y z : D} (ha : a γ = some (.ok x)) (hb : b γ = some (.ok y)) (ho : o x y = some z) : f2 o a b γ = some (.ok z) := by
  unfold f2
  rw [ha]
  simp only [bR_ok]
  rw [hb]
  simp only [bR_ok, ho, oR_some]
theorem fT_of {f : Fe} {γ : Ge} {b : Bool} (h : f γ = some (.ok (.bool b))) : fT f γ = some (.ok b) := by
  unfold fT
  rw [h]
theorem len_at {i : Nat} {γ : Ge} {x : List D} (h : γ[i]? = some (.va (.list x))) : fB oLen (fCons (fOpd i) fNil) γ = some (.ok (.int x.length)) := by
  unfold fB fCons fNil fOpd
  simp only [h, bL_ok, bLL_ok, bA_ok, oLen_list, oR_some]
theorem sIf_of {c : Ft} {f g : Fs} {γ : Ge} {b : Bool} (h : c γ = some (.ok b)) : sIf c f g γ = if b = true then f γ else g γ := by
  unfold sIf
  rw [h]
  cases b <;> rfl
theorem seq_nx {f g : Fs} {γ γ1 : Ge} {o : Option Out} (h : f γ = some (.nx γ1)) (h2 : g γ1 = o) : fSeq f g γ = o := (fSeq_nx h).trans h2
theorem ret_of {a : Fe} {γ : Ge} {d : D} (h : a γ = some (.ok d)) : sRet a γ = some (.rt d) := by unfold sRet; rw [h]
theorem cons_of {f : Fe} {g : Fa} {γ : Ge} {d : D} {ds : List D} (h : f γ = some (.ok d)) (h2 : g γ = some (.ok ds)) : fCons f g γ = some (.ok (d :: ds)) := by
  unfold fCons
  rw [h]
  simp only [bL_ok]
  rw [h2]
  rfl
theorem call_of {φ : List D → Option Rs} {a : Fa} {γ : Ge} {ds : List D} {r : Rs} (h : a γ = some (.ok ds)) (h2 : φ ds = some r) : fCall φ a γ = some r := by
  unfold fCall
  rw [h]
  simp only [bA_ok]
  exact h2
theorem callO_of {φ : List D → Option Rs} {a : Fa} {γ : Ge} {ds : List D} {d : D} (h : a γ = some (.ok ds)) (h2 : φ ds = some (.ok d)) (hf : flatD d = true) : fCallO φ a γ = some (.ok d) := by
  unfold fCallO
  rw [h]
  simp only [bA_ok]
  rw [h2]
  simp only
  rw [if_pos hf]
theorem gOr_of {f g : Ft} {γ : Ge} {b : Bool} (h : f γ = some (.ok false)) (h2 : g γ = some (.ok b)) : gOr f g γ = some (.ok b) := by
  unfold gOr
  rw [h]
  exact h2
theorem gNot_of {f : Ft} {γ : Ge} {b : Bool} (h : f γ = some (.ok b)) : gNot f γ = some (.ok (!b)) := by
  unfold gNot
  rw [h]
theorem gAnd_of {f g : Ft} {γ : Ge} {a b : Bool} (h : f γ = some (.ok a)) (h2 : a = true → g γ = some (.ok b)) (h3 : a = false → b = false) : gAnd f g γ = some (.ok b) := by
  unfold gAnd
  rw [h]
  cases a with
  | true => exact h2 rfl
  | false => rw [h3 rfl]
theorem if_no {c : Ft} {f : Fs} {γ : Ge} (h : c γ = some (.ok false)) : sIf c f fNext γ = some (.nx γ) := by
  rw [sIf_of h]
  rfl
theorem f1_of {o : D → Option D} {a : Fe} {γ : Ge} {x z : D} (ha : a γ = some (.ok x)) (ho : o x = some z) : f1 o a γ = some (.ok z) := by
  unfold f1
  rw [ha]
  simp only [bR_ok, ho, oR_some]
theorem set_of {i : Nat} {a : Fe} {γ : Ge} {d : D} (h : a γ = some (.ok d)) : sSet i a γ = some (.nx (γ.set i (.va d))) := by
  unfold sSet
  rw [h]
theorem lc_of {w : Fa} {gf : D → Ge → Option Ge} {cf : Ft} {ef : Fe} {vs : List Nat} {γ : Ge} {ds xs : List D} (h : w γ = some (.ok ds)) (hz : ds.length ≤ big) (h2 : lcF gf cf ef (wipeG γ vs) ds = some xs) : fLc w gf cf ef vs γ = some (.ok (.list xs)) := by
  unfold fLc
  rw [h]
  simp only
  rw [if_pos hz, h2]
end K02

namespace K02
open PySem PySem.Spec PyProof.Rows L2 Py
/-! ### reached, looked at by the law; rows of up to two marks -/
theorem oSl_list' (lo hi : Option Int) (ds : List D) : oSl lo hi (.list ds) = some (.list (Py.cutD ds lo hi)) := rfl
theorem forF_nx {gf : D → Ge → Option Ge} {b : Fs} {d : D} {ds : List D} {γ γ1 γ2 : Ge} (h1 : gf d γ = some γ1) (h2 : b γ1 = some (.nx γ2)) : forF gf b (d :: ds) γ = forF gf b ds γ2 := by
  conv => lhs; unfold forF
  simp only [h1, h2]
theorem one_of {a : Fe} {γ : Ge} {d : D} (h : a γ = some (.ok d)) : fCons a fNil γ = some (.ok [d]) := by
  unfold fCons fNil
  rw [h]
  rfl
theorem rg_of {a : Fe} {γ : Ge} {k : Nat} (h : a γ = some (.ok (.int (k : Int)))) (hk : k ≤ 14000000) : wRg1 (fCons a fNil) γ = some (.ok ((List.range k).map fun q : Nat => .int (q : Int))) := by
  have rg : ∀ j : Nat, j ≤ 14000000 → rgOk 0 (j : Int) = true := fun j hj => rgOk_nat (i := 0) (by omega) hj
  have r0 : rgD 0 (k : Int) = (List.range k).map fun q : Nat => .int (q : Int) := by
    have := rg_nat 0 k
    simpa using this
  unfold wRg1
  rw [one_of h]
  simp only
  rw [if_pos (rg _ hk), r0]
end K02

namespace K02
open PySem PySem.Spec PyProof.Rows L2 Py
/-! ### texts as lists of code points -/
def mk (l : List Nat) : Str := ⟨l.toArray⟩
theorem mk_tl (l : List Nat) : (mk l).cps.toList = l := rfl
theorem mk_len (l : List Nat) : (mk l).length = l.length := by
  show (List.toArray l).size = l.length
  simp
theorem mk_of (z : Str) : mk z.cps.toList = z := rfl
theorem mk_inj {a b : List Nat} (h : mk a = mk b) : a = b := by
  have := congrArg (fun s : Str => s.cps.toList) h
  exact this
theorem mk_beq (a b : List Nat) : (mk a == mk b) = decide (a = b) := by
  by_cases h : a = b
  · subst h; simp
  · rw [decide_eq_false h]
    exact beq_eq_false_iff_ne.mpr fun e => h (mk_inj e)
theorem mk_app (a b : List Nat) : mk a ++ mk b = mk (a ++ b) := by
  show (⟨a.toArray ++ b.toArray⟩ : Str) = ⟨(a ++ b).toArray⟩
  simp
def MX : Nat := 2000000
theorem MX_big {n : Nat} (h : n ≤ MX) : n ≤ big := by unfold MX at h; unfold big; omega
theorem fuel_gt {n : Nat} (h : n ≤ 3000000) : n < fuel := by
  unfold fuel
  have : (3000000 : Nat) < 2 ^ 40 := by decide
  omega
theorem len_mk {l : List Nat} (h : l.length ≤ MX) : oLen [.str (mk l)] = some (.int (l.length : Int)) := by
  simp [oLen, mk_len, MX_big h]
theorem sl_mid {l : List Nat} (h : l.length ≤ MX) {i j : Nat} (hij : i ≤ j) : oSl (some (i : Int)) (some (j : Int)) (.str (mk l)) = some (.str (mk ((l.drop i).take (j - i)))) := by
  rw [oSl_str (by rw [mk_len]; exact MX_big h)]
  unfold cutS
  rw [HT.sIx_nat, HT.sIx_nat, mk_len, mk_tl]
  congr 2
  unfold mk
  congr 1
  congr 1
  by_cases h1 : i ≤ l.length
  · rw [Nat.min_eq_left h1]
    by_cases h3 : j ≤ l.length
    · rw [Nat.min_eq_left h3]
    · rw [Nat.min_eq_right (by omega), List.take_of_length_le (by simp), List.take_of_length_le (by simp; omega)]
  · rw [Nat.min_eq_right (by omega), Nat.min_eq_right (by omega), List.drop_of_length_le (Nat.le_refl _), List.drop_of_length_le (by omega)]
    simp
theorem sl_to {l : List Nat} (h : l.length ≤ MX) (j : Nat) : oSl none (some (j : Int)) (.str (mk l)) = some (.str (mk (l.take j))) := by
  rw [oSl_str (by rw [mk_len]; exact MX_big h)]
  unfold cutS
  rw [HT.sIx_nat, HT.sIx_none, mk_len, mk_tl, List.drop_zero, Nat.sub_zero]
  congr 2
  unfold mk
  congr 1
  congr 1
  by_cases h3 : j ≤ l.length
  · rw [Nat.min_eq_left h3]
  · rw [Nat.min_eq_right (by omega), List.take_of_length_le (Nat.le_refl _), List.take_of_length_le (by omega)]
theorem sl_from {l : List Nat} (h : l.length ≤ MX) (i : Nat) : oSl (some (i : Int)) none (.str (mk l)) = some (.str (mk (l.drop i))) := by
  rw [oSl_str (by rw [mk_len]; exact MX_big h)]
  unfold cutS
  rw [HT.sIx_nat, HT.sIx_none, mk_len, mk_tl]
  congr 2
  unfold mk
  congr 1
  congr 1
  by_cases h3 : i ≤ l.length
  · rw [Nat.min_eq_left h3, List.take_of_length_le (by simp)]
  · rw [Nat.min_eq_right (by omega), Nat.sub_self, List.take_zero, List.drop_of_length_le (by omega)]
theorem ix_mk {l : List Nat} (h : l.length ≤ MX) {i c : Nat} (hc : l[i]? = some c) : oIx (.str (mk l)) (.int (i : Int)) = some (.str (mk [c])) := by
  have e : atI (mk l).cps.toList (i : Int) = some c := atI_cast (by rw [mk_tl]; exact hc)
  show (if (mk l).length ≤ big then (match atI (mk l).cps.toList (i : Int) with | some c => some (PyData.str ⟨#[c]⟩) | none => none) else none) = _
  rw [if_pos (by rw [mk_len]; exact MX_big h), e]
  rfl
theorem add_mk {a b : List Nat} (h : a.length + b.length ≤ MX) : oAdd (.str (mk a)) (.str (mk b)) = some (.str (mk (a ++ b))) := by
  rw [oAdd_str (by rw [mk_len, mk_len]; exact MX_big h), mk_app]
/-- the text's pieces may be laid -/
def Tx (l : List Nat) : Prop := ∀ c ∈ l, c < 1114112
theorem Tx.ok {l : List Nat} (h : Tx l) : PyData.strOk (mk l) = true := by
  unfold PyData.strOk
  rw [← Array.all_toList, List.all_eq_true]
  intro x hx
  exact decide_eq_true (h x hx)
theorem Tx.sub {l k : List Nat} (h : Tx l) (hs : ∀ c ∈ k, c ∈ l) : Tx k := fun c hc => h c (hs c hc)
theorem Tx.app {l k : List Nat} (h : Tx l) (h2 : Tx k) : Tx (l ++ k) := fun c hc => (List.mem_append.mp hc).elim (h c) (h2 c)
/-! signs -/
theorem s_quote : ("'" : Str) = mk [39] := by decide +kernel
theorem s_open : ("(" : Str) = mk [40] := by decide +kernel
theorem s_close : (")" : Str) = mk [41] := by decide +kernel
theorem s_comma : ("," : Str) = mk [44] := by decide +kernel
theorem s_sep : (", " : Str) = mk [44, 32] := by decide +kernel
theorem s_empty : ("" : Str) = mk [] := by decide +kernel
def cN : List Nat := [110, 111, 116]
def cA : List Nat := [97, 110, 100]
def cO : List Nat := [111, 114]
def cX : List Nat := [110, 101, 120, 116]
def cU : List Nat := [117, 110, 116, 105, 108]
def cW : List Nat := [119, 105, 116, 104, 105, 110]
def cB : List Nat := [98, 101, 102, 111, 114, 101]
def cS : List Nat := [115, 105, 110, 99, 101]
def cY : List Nat := [121, 101, 115]
def cM : List Nat := [109, 97, 114, 107]
theorem s_N : ("not" : Str) = mk cN := by decide +kernel
theorem s_A : ("and" : Str) = mk cA := by decide +kernel
theorem s_O : ("or" : Str) = mk cO := by decide +kernel
theorem s_X : ("next" : Str) = mk cX := by decide +kernel
theorem s_U : ("until" : Str) = mk cU := by decide +kernel
theorem s_W : ("within" : Str) = mk cW := by decide +kernel
theorem s_B : ("before" : Str) = mk cB := by decide +kernel
theorem s_S : ("since" : Str) = mk cS := by decide +kernel
theorem s_Y : ("yes" : Str) = mk cY := by decide +kernel
theorem s_M : ("mark" : Str) = mk cM := by decide +kernel
/-- a statement as a text -/
def textL : Sta → List Nat
  | .mark m => 39 :: (m.cps.toList ++ [39])
  | .yes => cY
  | .nt s => cN ++ 40 :: (textL s ++ [41])
  | .an s t => cA ++ 40 :: (textL s ++ 44 :: 32 :: (textL t ++ [41]))
  | .or s t => cO ++ 40 :: (textL s ++ 44 :: 32 :: (textL t ++ [41]))
  | .nx s => cX ++ 40 :: (textL s ++ [41])
  | .un s t => cU ++ 40 :: (textL s ++ 44 :: 32 :: (textL t ++ [41]))
  | .wi k s => cW ++ 40 :: (48 + k) :: 44 :: 32 :: (textL s ++ [41])
  | .bf s => cB ++ 40 :: (textL s ++ [41])
  | .si s t => cS ++ 40 :: (textL s ++ 44 :: 32 :: (textL t ++ [41]))
/-- what may be written and read: marks of one to six letters, figures up to 4, no more than so many within one another -/
structure Val (d : Nat) (s : Sta) : Prop where
  mks : s.Marks Lm
  ks : ksOk s
  dep : s.depth ≤ d
theorem textL_len : ∀ {s : Sta}, s.Marks Lm → (textL s).length + 11 ≤ 20 * 2 ^ s.depth := by
  intro s
  induction s with
  | mark m =>
    intro h
    have : m.cps.toList.length ≤ 6 := by have := h.low.len; rw [Array.length_toList]; exact this
    simp only [textL, Sta.depth, List.length_append, List.length_cons, List.length_nil]; omega
  | yes => intro _; simp [textL, Sta.depth, cY]
  | nt s ih => intro h; have := ih h; simp [textL, Sta.depth, cN, Nat.pow_succ]; omega
  | nx s ih => intro h; have := ih h; simp [textL, Sta.depth, cX, Nat.pow_succ]; omega
  | bf s ih => intro h; have := ih h; simp [textL, Sta.depth, cB, Nat.pow_succ]; omega
  | wi k s ih => intro h; have := ih h; simp [textL, Sta.depth, cW, Nat.pow_succ]; omega
  | an s t ih ih' =>
    intro h
    have h1 := ih h.1; have h2 := ih' h.2
    have p1 := Nat.pow_le_pow_right (show 0 < 2 by decide) (Nat.le_max_left s.depth t.depth)
    have p2 := Nat.pow_le_pow_right (show 0 < 2 by decide) (Nat.le_max_right s.depth t.depth)
    simp only [textL, Sta.depth, cA, Nat.pow_succ, List.length_append, List.length_cons, List.length_nil]; omega
  | or s t ih ih' =>
    intro h
    have h1 := ih h.1; have h2 := ih' h.2
    have p1 := Nat.pow_le_pow_right (show 0 < 2 by decide) (Nat.le_max_left s.depth t.depth)
    have p2 := Nat.pow_le_pow_right (show 0 < 2 by decide) (Nat.le_max_right s.depth t.depth)
    simp only [textL, Sta.depth, cO, Nat.pow_succ, List.length_append, List.length_cons, List.length_nil]; omega
  | un s t ih ih' =>
    intro h
    have h1 := ih h.1; have h2 := ih' h.2
    have p1 := Nat.pow_le_pow_right (show 0 < 2 by decide) (Nat.le_max_left s.depth t.depth)
    have p2 := Nat.pow_le_pow_right (show 0 < 2 by decide) (Nat.le_max_right s.depth t.depth)
    simp only [textL, Sta.depth, cU, Nat.pow_succ, List.length_append, List.length_cons, List.length_nil]; omega
  | si s t ih ih' =>
    intro h
    have h1 := ih h.1; have h2 := ih' h.2
    have p1 := Nat.pow_le_pow_right (show 0 < 2 by decide) (Nat.le_max_left s.depth t.depth)
    have p2 := Nat.pow_le_pow_right (show 0 < 2 by decide) (Nat.le_max_right s.depth t.depth)
    simp only [textL, Sta.depth, cS, Nat.pow_succ, List.length_append, List.length_cons, List.length_nil]; omega
theorem Val.len {d : Nat} {s : Sta} (v : Val d s) (hd : d ≤ 6) : (textL s).length ≤ 1280 := by
  have h := textL_len v.mks
  have p := Nat.pow_le_pow_right (show 0 < 2 by decide) (Nat.le_trans v.dep hd)
  omega
theorem textL_tx : ∀ {s : Sta}, s.Marks Lm → ksOk s → Tx (textL s) := by
  intro s
  induction s with
  | mark m =>
    intro hm _ c hc
    simp only [textL, List.mem_cons, List.mem_append, List.not_mem_nil, or_false] at hc
    rcases hc with rfl | hc | rfl
    · decide
    · have := (show Lm m from hm).low.let_ c hc; omega
    · decide
  | yes => intro _ _ c hc; simp only [textL, cY, List.mem_cons, List.not_mem_nil, or_false] at hc; omega
  | nt s ih =>
    intro hm hk c hc
    simp only [textL, cN, List.mem_cons, List.mem_append, List.not_mem_nil, or_false, List.cons_append, List.nil_append] at hc
    by_cases q : c ∈ textL s
    · exact ih hm hk c q
    · simp only [q, false_or] at hc
      omega
  | nx s ih =>
    intro hm hk c hc
    simp only [textL, cX, List.mem_cons, List.mem_append, List.not_mem_nil, or_false, List.cons_append, List.nil_append] at hc
    by_cases q : c ∈ textL s
    · exact ih hm hk c q
    · simp only [q, false_or] at hc
      omega
  | bf s ih =>
    intro hm hk c hc
    simp only [textL, cB, List.mem_cons, List.mem_append, List.not_mem_nil, or_false, List.cons_append, List.nil_append] at hc
    by_cases q : c ∈ textL s
    · exact ih hm hk c q
    · simp only [q, false_or] at hc
      omega
  | wi k s ih =>
    intro hm hk c hc
    simp only [textL, cW, List.mem_cons, List.mem_append, List.not_mem_nil, or_false, List.cons_append, List.nil_append] at hc
    have := hk.1
    by_cases q : c ∈ textL s
    · exact ih hm hk.2 c q
    · simp only [q, false_or] at hc
      omega
  | an s t ih ih' =>
    intro hm hk c hc
    simp only [textL, cA, List.mem_cons, List.mem_append, List.not_mem_nil, or_false, List.cons_append, List.nil_append] at hc
    by_cases q : c ∈ textL s
    · exact ih hm.1 hk.1 c q
    · by_cases q' : c ∈ textL t
      · exact ih' hm.2 hk.2 c q'
      · simp only [q, q', false_or] at hc
        omega
  | or s t ih ih' =>
    intro hm hk c hc
    simp only [textL, cO, List.mem_cons, List.mem_append, List.not_mem_nil, or_false, List.cons_append, List.nil_append] at hc
    by_cases q : c ∈ textL s
    · exact ih hm.1 hk.1 c q
    · by_cases q' : c ∈ textL t
      · exact ih' hm.2 hk.2 c q'
      · simp only [q, q', false_or] at hc
        omega
  | un s t ih ih' =>
    intro hm hk c hc
    simp only [textL, cU, List.mem_cons, List.mem_append, List.not_mem_nil, or_false, List.cons_append, List.nil_append] at hc
    by_cases q : c ∈ textL s
    · exact ih hm.1 hk.1 c q
    · by_cases q' : c ∈ textL t
      · exact ih' hm.2 hk.2 c q'
      · simp only [q, q', false_or] at hc
        omega
  | si s t ih ih' =>
    intro hm hk c hc
    simp only [textL, cS, List.mem_cons, List.mem_append, List.not_mem_nil, or_false, List.cons_append, List.nil_append] at hc
    by_cases q : c ∈ textL s
    · exact ih hm.1 hk.1 c q
    · by_cases q' : c ∈ textL t
      · exact ih' hm.2 hk.2 c q'
      · simp only [q, q', false_or] at hc
        omega
end K02

namespace K02
open PySem PySem.Spec PyProof.Rows L2 Py
/-! ### the pieces of a text -/
theorem whF_t {c : Ft} {b : Fs} {n : Nat} {γ γ2 : Ge} (h : c γ = some (.ok true)) (h2 : b γ = some (.nx γ2)) : whF c b (n + 1) γ = whF c b n γ2 := by
  conv => lhs; unfold whF
  rw [h]; simp only [h2]
theorem whF_f {c : Ft} {b : Fs} {n : Nat} {γ : Ge} (h : c γ = some (.ok false)) : whF c b (n + 1) γ = some (.nx γ) := by
  conv => lhs; unfold whF
  rw [h]
theorem whF_er {c : Ft} {b : Fs} {n : Nat} {γ : Ge} {e : Str} (h : c γ = some (.ok true)) (h2 : b γ = some (.er e)) : whF c b (n + 1) γ = some (.er e) := by
  conv => lhs; unfold whF
  rw [h]; simp only [h2]
theorem sWh_of {c : Ft} {b : Fs} {γ : Ge} {o : Option Out} (m : Nat) (hm : m ≤ 3000000) (h : ∀ n, m < n → whF c b n γ = o) : sWh c b γ = o := h fuel (fuel_gt hm)
def stop (c : Nat) : Bool := decide (c ∈ ("(), '" : Str).cps.toList)
theorem stop_eq (c : Nat) : stop c = (c == 40 || c == 41 || c == 44 || c == 32 || c == 39) := by
  have e : ("(), '" : Str).cps.toList = [40, 41, 44, 32, 39] := by decide +kernel
  unfold stop
  rw [e]
  by_cases h0 : c = 40
  · simp [h0]
  · by_cases h1 : c = 41
    · simp [h1]
    · by_cases h2 : c = 44
      · simp [h2]
      · by_cases h3 : c = 32
        · simp [h3]
        · by_cases h4 : c = 39
          · simp [h4]
          · simp [h0, h1, h2, h3, h4]
theorem in_stop (c : Nat) : oIn true (.str (mk [c])) (.str "(), '") = some (.bool (!stop c)) := rfl
theorem drop_cons {l : List Nat} {e c : Nat} {r : List Nat} (h : l.drop e = c :: r) : l[e]? = some c ∧ e < l.length ∧ l.drop (e + 1) = r := by
  have h1 : e < l.length := by
    have := congrArg List.length h
    rw [List.length_drop, List.length_cons] at this
    omega
  rw [List.drop_eq_getElem_cons h1] at h
  injection h with h2 h3
  exact ⟨by rw [List.getElem?_eq_getElem h1, h2], h1, h3⟩
theorem drop_nil {α : Type} {l : List α} {e : Nat} (h : l.drop e = []) : l.length ≤ e := List.drop_eq_nil_iff.mp h
abbrev pcC : Ft := gAnd (fT (f2 oLt (fOpd 2) (fB oLen (fCons (fOpd 0) fNil)))) (fT (f2 (oIn true) (f2 oIx (fOpd 0) (fOpd 2)) (fCon (.str "(), '"))))
abbrev pcB : Fs := sSet 2 (f2 oAdd (fOpd 2) (fCon (.int 1)))
theorem piece_loop {L : List Nat} (hL : L.length ≤ MX) (A : Sl) : ∀ (s : List Nat) (e : Nat), L.drop e = s → ∀ n, s.length < n → whF pcC pcB n [.va (.str (mk L)), A, .va (.int (e : Int))] = some (.nx [.va (.str (mk L)), A, .va (.int ((max e (e + (s.takeWhile fun c => !stop c).length) : Nat) : Int))])
  | [], e, h, n, hn => by
    obtain ⟨n, rfl⟩ : ∃ k, n = k + 1 := ⟨n - 1, by simp at hn; omega⟩
    have h1 := drop_nil h
    have h2 : ¬ (e : Int) < (L.length : Int) := by omega
    rw [whF_f (by simp [fOwn, fOpN,  fSeq, fNext, sRet, sRetN, sIf, sSet, sSetO, sAsg, sApp, sFor, forF, fVar, fOpd, fCon, f2, f1, fNil, fCons, bR, bL, bA, bLL, oR, fT, gAnd, gOr, gNot, gYes, fAnd, fOr, fNot, fIte, fTup, fLst, fCall, fCallO, fB, fM1, fSl, fiNo, fiSm, fLc, wLst, wTup, wStr, wRg1, wRg2, wZip, wEnum, gfN, gfTup, gsNil, gsCons, fLrg, fLrg3, wipeG, xSeq, xSet, xOf, xCall, xIf, xRet, xNext, xTup, xCons, xNil, xPut, xCallP, sRetX, sSetX, List.getElem?_cons_zero, List.getElem?_cons_succ, List.set_cons_zero, List.set_cons_succ, len_mk hL, h2])]
    simp
  | c :: r, e, h, n, hn => by
    obtain ⟨n, rfl⟩ : ∃ k, n = k + 1 := ⟨n - 1, by simp at hn; omega⟩
    obtain ⟨h1, h2, h3⟩ := drop_cons h
    have h4 : (e : Int) < (L.length : Int) := by omega
    have i := ix_mk hL h1
    cases hs : stop c with
    | true =>
      rw [whF_f (by simp [fOwn, fOpN,  fSeq, fNext, sRet, sRetN, sIf, sSet, sSetO, sAsg, sApp, sFor, forF, fVar, fOpd, fCon, f2, f1, fNil, fCons, bR, bL, bA, bLL, oR, fT, gAnd, gOr, gNot, gYes, fAnd, fOr, fNot, fIte, fTup, fLst, fCall, fCallO, fB, fM1, fSl, fiNo, fiSm, fLc, wLst, wTup, wStr, wRg1, wRg2, wZip, wEnum, gfN, gfTup, gsNil, gsCons, fLrg, fLrg3, wipeG, xSeq, xSet, xOf, xCall, xIf, xRet, xNext, xTup, xCons, xNil, xPut, xCallP, sRetX, sSetX, List.getElem?_cons_zero, List.getElem?_cons_succ, List.set_cons_zero, List.set_cons_succ, len_mk hL, h4, i, in_stop, hs])]
      simp [hs]
    | false =>
      have ec : ((e : Int) + 1) = ((e + 1 : Nat) : Int) := by omega
      rw [whF_t (γ2 := [.va (.str (mk L)), A, .va (.int ((e + 1 : Nat) : Int))]) (by simp [fOwn, fOpN,  fSeq, fNext, sRet, sRetN, sIf, sSet, sSetO, sAsg, sApp, sFor, forF, fVar, fOpd, fCon, f2, f1, fNil, fCons, bR, bL, bA, bLL, oR, fT, gAnd, gOr, gNot, gYes, fAnd, fOr, fNot, fIte, fTup, fLst, fCall, fCallO, fB, fM1, fSl, fiNo, fiSm, fLc, wLst, wTup, wStr, wRg1, wRg2, wZip, wEnum, gfN, gfTup, gsNil, gsCons, fLrg, fLrg3, wipeG, xSeq, xSet, xOf, xCall, xIf, xRet, xNext, xTup, xCons, xNil, xPut, xCallP, sRetX, sSetX, List.getElem?_cons_zero, List.getElem?_cons_succ, List.set_cons_zero, List.set_cons_succ, len_mk hL, h4, i, in_stop, hs]) (by simp only [fOwn, fOpN,  fSeq, fNext, sRet, sRetN, sIf, sSet, sSetO, sAsg, sApp, sFor, forF, fVar, fOpd, fCon, f2, f1, fNil, fCons, bR, bL, bA, bLL, oR, fT, gAnd, gOr, gNot, gYes, fAnd, fOr, fNot, fIte, fTup, fLst, fCall, fCallO, fB, fM1, fSl, fiNo, fiSm, fLc, wLst, wTup, wStr, wRg1, wRg2, wZip, wEnum, gfN, gfTup, gsNil, gsCons, fLrg, fLrg3, wipeG, xSeq, xSet, xOf, xCall, xIf, xRet, xNext, xTup, xCons, xNil, xPut, xCallP, sRetX, sSetX, List.getElem?_cons_zero, List.getElem?_cons_succ, List.set_cons_zero, List.set_cons_succ, bR_ok, oR_some, oAdd_int, ec])]
      rw [piece_loop hL A r (e + 1) h3 n (by simp at hn; omega)]
      have : max (e + 1) (e + 1 + (r.takeWhile fun c => !stop c).length) = max e (e + ((c :: r).takeWhile fun c => !stop c).length) := by
        rw [List.takeWhile_cons, hs]
        simp
        omega
      rw [this]
theorem tw_spec (c : Nat) : ∀ r : List Nat, ((r.takeWhile (· != c)).length = r.length ∧ ∀ v, v < r.length → r[v]? ≠ some c) ∨
    ((r.takeWhile (· != c)).length < r.length ∧ r[(r.takeWhile (· != c)).length]? = some c ∧ ∀ v, v < (r.takeWhile (· != c)).length → r[v]? ≠ some c)
  | [] => .inl ⟨rfl, fun v h => by simp at h⟩
  | a :: r => by
    by_cases h : a = c
    · subst h
      refine .inr ⟨by simp, by simp, fun v hv => by simp at hv⟩
    · have hb : (a != c) = true := by simpa using h
      rw [List.takeWhile_cons, hb]
      rcases tw_spec c r with ⟨h1, h2⟩ | ⟨h1, h2, h3⟩
      · refine .inl ⟨by simp [h1], fun v hv => ?_⟩
        cases v with
        | zero => simpa using h
        | succ v => simpa using h2 v (by simp at hv; omega)
      · refine .inr ⟨by simpa using h1, by simpa using h2, fun v hv => ?_⟩
        cases v with
        | zero => simpa using h
        | succ v => simpa using h3 v (by simp at hv; omega)
theorem find_q {L r : List Nat} {a : Nat} (h : L.drop (a + 1) = r) : Txt.find3 (mk L) (mk [39]) ((a : Int) + 1) = if (r.takeWhile (· != 39)).length < r.length then ((a + 1 + (r.takeWhile (· != 39)).length : Nat) : Int) else -1 := by
  have hf : fromIndex (mk L).length ((a : Int) + 1) = a + 1 := by
    unfold fromIndex
    rw [if_neg (by omega)]
    omega
  have hr : ∀ v, r[v]? = L[a + 1 + v]? := fun v => by rw [← h, List.getElem?_drop]
  have hl : r.length = L.length - (a + 1) := by rw [← h, List.length_drop]
  have h1 := StrLaws.find3_spec (mk L) 39 ((a : Int) + 1)
  rw [hf, mk_len] at h1
  have e39 : (⟨#[39]⟩ : Str) = mk [39] := rfl
  rw [e39] at h1
  have gd : ∀ v, v < L.length → ((mk L).cps.getD v 0 = 39 ↔ L[v]? = some 39) := fun v hv =>
    ⟨fun q => StrLaws.getElem?_of_getD (by rw [mk_len]; exact hv) q, fun q => StrLaws.getD_of_getElem? q⟩
  rcases h1 with ⟨q, hn⟩ | ⟨k, q, h2, h3, h4, h5⟩
  · rw [q]
    rcases tw_spec 39 r with ⟨t1, _⟩ | ⟨t1, t2, _⟩
    · rw [if_neg (by omega)]
    · rw [hr] at t2
      exact absurd ((gd _ (by omega)).mpr t2) (hn _ (by omega) (by omega))
  · rw [q]
    have hk := (gd k h3).mp h4
    rcases tw_spec 39 r with ⟨t1, t2⟩ | ⟨t1, t2, t3⟩
    · have := t2 (k - (a + 1)) (by omega)
      rw [hr, show a + 1 + (k - (a + 1)) = k by omega] at this
      exact absurd hk this
    · rw [if_pos t1]
      rw [hr] at t2
      have c1 : ¬ k < a + 1 + (r.takeWhile (· != 39)).length := fun z => by
        have := t3 (k - (a + 1)) (by omega)
        rw [hr, show a + 1 + (k - (a + 1)) = k by omega] at this
        exact this hk
      have c2 : ¬ a + 1 + (r.takeWhile (· != 39)).length < k := fun z => h5 _ (by omega) z ((gd _ (by omega)).mpr t2)
      omega
/-- the piece at the head of a text -/
def pieceL : List Nat → Option (List Nat)
  | [] => none
  | c :: r => if c = 39 then (if (r.takeWhile (· != 39)).length < r.length then some (39 :: (r.takeWhile (· != 39) ++ [39])) else none)
    else if stop c = true then some [c] else some ((c :: r).takeWhile fun c => !stop c)
theorem pieceL_cons (c : Nat) (r : List Nat) : pieceL (c :: r) = if c = 39 then (if (r.takeWhile (· != 39)).length < r.length then some (39 :: (r.takeWhile (· != 39) ++ [39])) else none)
    else if stop c = true then some [c] else some ((c :: r).takeWhile fun c => !stop c) := rfl
theorem take_tw (p : Nat → Bool) : ∀ r : List Nat, r.take (r.takeWhile p).length = r.takeWhile p
  | [] => rfl
  | a :: r => by
    rw [List.takeWhile_cons]
    split
    · simp [take_tw p r]
    · rfl
theorem pieceL_take : ∀ {s p : List Nat}, pieceL s = some p → p = s.take p.length ∧ 1 ≤ p.length
  | [], p, h => by cases h
  | c :: r, p, h => by
    rw [pieceL_cons] at h
    split at h
    · rename_i hc
      subst hc
      split at h
      · rename_i hr
        cases h
        refine ⟨?_, by simp⟩
        rcases tw_spec 39 r with ⟨t1, _⟩ | ⟨t1, t2, _⟩
        · omega
        · simp only [List.length_cons, List.length_append, List.length_nil, List.take_succ_cons]
          rw [List.take_add_one, take_tw, t2]
          rfl
      · cases h
    · split at h
      · cases h; simp
      · rename_i hs
        cases h
        refine ⟨(take_tw _ _).symm, ?_⟩
        rw [List.takeWhile_cons]
        have : stop c = false := by simpa using hs
        simp [this]
theorem run_piece {L : List Nat} (hL : L.length ≤ MX) (n : Nat) {a : Nat} (ha : a < L.length) : Phi (n + 1) .piece_at [.str (mk L), .int (a : Int)] = match pieceL (L.drop a) with
    | some p => some (.ok (.str (mk p)))
    | none => some (.er "BadText") := by
  obtain ⟨c, r, hs⟩ : ∃ c r, L.drop a = c :: r := ⟨_, _, List.drop_eq_getElem_cons ha⟩
  obtain ⟨h1, _, h3⟩ := drop_cons hs
  have i := ix_mk hL h1
  have ea : ((a : Int) + 1) = ((a + 1 : Nat) : Int) := by omega
  rw [hs, phi_piece_at, pieceL_cons]
  by_cases hc : c = 39
  · subst hc
    rw [if_pos rfl]
    have hf := find_q h3
    by_cases hr : (r.takeWhile (· != 39)).length < r.length
    · rw [if_pos hr] at hf
      rw [if_pos hr]
      refine runF_rt rfl ?_
      have e2 : (((a + 1 + (r.takeWhile (· != 39)).length : Nat) : Int) + 1) = ((a + 1 + (r.takeWhile (· != 39)).length + 1 : Nat) : Int) := by omega
      have e3 : ¬ ((a + 1 + (r.takeWhile (· != 39)).length : Nat) : Int) < 0 := by omega
      have sl := sl_mid hL (i := a) (j := a + 1 + (r.takeWhile (· != 39)).length + 1) (by omega)
      have e4 : (L.drop a).take (a + 1 + (r.takeWhile (· != 39)).length + 1 - a) = 39 :: (r.takeWhile (· != 39) ++ [39]) := by
        have := (pieceL_take (s := 39 :: r) (p := 39 :: (r.takeWhile (· != 39) ++ [39])) (by rw [pieceL_cons, if_pos rfl, if_pos hr])).1
        rw [hs]
        simp only [List.length_cons, List.length_append, List.length_nil] at this
        rw [show a + 1 + (r.takeWhile (· != 39)).length + 1 - a = (r.takeWhile (· != 39)).length + (0 + 1) + 1 by omega]
        exact this.symm
      rw [e4] at sl
      unfold f_piece_at
      generalize (a + 1 + (r.takeWhile (· != 39)).length) = j at hf e2 e3 sl ⊢
      have o1 : oFind3 (mk L) (.str (mk [39])) (.int ((a : Int) + 1)) = some (.int ((j : Nat) : Int)) := by unfold oFind3; simp only [hf]
      rw [← e2] at sl
      simp [entry, fOwn, fOpN,  fSeq, fNext, sRet, sRetN, sIf, sSet, sSetO, sAsg, sApp, sFor, forF, fVar, fOpd, fCon, f2, f1, fNil, fCons, bR, bL, bA, bLL, oR, fT, gAnd, gOr, gNot, gYes, fAnd, fOr, fNot, fIte, fTup, fLst, fCall, fCallO, fB, fM1, fSl, fiNo, fiSm, fLc, wLst, wTup, wStr, wRg1, wRg2, wZip, wEnum, gfN, gfTup, gsNil, gsCons, fLrg, fLrg3, wipeG, xSeq, xSet, xOf, xCall, xIf, xRet, xNext, xTup, xCons, xNil, xPut, xCallP, sRetX, sSetX, List.getElem?_cons_zero, List.getElem?_cons_succ, List.set_cons_zero, List.set_cons_succ, List.replicate, i, s_quote, mk_beq, fM2, o1, e3, sl]
    · rw [if_neg hr] at hf
      rw [if_neg hr]
      refine runF_er rfl ?_
      have o1 : oFind3 (mk L) (.str (mk [39])) (.int ((a : Int) + 1)) = some (.int (-1)) := by unfold oFind3; simp only [hf]
      unfold f_piece_at
      simp [entry, fOwn, fOpN,  fSeq, fNext, sRet, sRetN, sIf, sSet, sSetO, sAsg, sApp, sFor, forF, fVar, fOpd, fCon, f2, f1, fNil, fCons, bR, bL, bA, bLL, oR, fT, gAnd, gOr, gNot, gYes, fAnd, fOr, fNot, fIte, fTup, fLst, fCall, fCallO, fB, fM1, fSl, fiNo, fiSm, fLc, wLst, wTup, wStr, wRg1, wRg2, wZip, wEnum, gfN, gfTup, gsNil, gsCons, fLrg, fLrg3, wipeG, xSeq, xSet, xOf, xCall, xIf, xRet, xNext, xTup, xCons, xNil, xPut, xCallP, sRetX, sSetX, List.getElem?_cons_zero, List.getElem?_cons_succ, List.set_cons_zero, List.set_cons_succ, List.replicate, i, s_quote, mk_beq, fM2, o1, sRaise]
  · rw [if_neg hc]
    have hw : sWh pcC pcB [.va (.str (mk L)), .va (.int (a : Int)), .va (.int (a : Int))] = some (.nx [.va (.str (mk L)), .va (.int (a : Int)), .va (.int ((max a (a + ((c :: r).takeWhile fun c => !stop c).length) : Nat) : Int))]) :=
      sWh_of L.length (by unfold MX at hL; omega) fun n hn => piece_loop hL _ _ a hs n (by have := congrArg List.length hs; rw [List.length_drop] at this; omega)
    have key : ∀ p : List Nat, p = (c :: r).take p.length → 1 ≤ p.length → ((if ((a + 1 : Nat) : Int) > ((max a (a + ((c :: r).takeWhile fun c => !stop c).length) : Nat) : Int) then ((a + 1 : Nat) : Int) else ((max a (a + ((c :: r).takeWhile fun c => !stop c).length) : Nat) : Int)) = ((a + p.length : Nat) : Int)) →
        runF 2 3 (f_piece_at (Phi n)) [.str (mk L), .int (a : Int)] = some (.ok (.str (mk p))) := by
      intro p hp h1' hm
      refine runF_rt rfl ?_
      have sl := sl_mid hL (i := a) (j := a + p.length) (by omega)
      rw [hs, show a + p.length - a = p.length by omega, ← hp] at sl
      unfold f_piece_at
      rw [fSeq_nx (γ1 := [.va (.str (mk L)), .va (.int (a : Int)), .no]) (by simp [entry, fOwn, fOpN,  fSeq, fNext, sRet, sRetN, sIf, sSet, sSetO, sAsg, sApp, sFor, forF, fVar, fOpd, fCon, f2, f1, fNil, fCons, bR, bL, bA, bLL, oR, fT, gAnd, gOr, gNot, gYes, fAnd, fOr, fNot, fIte, fTup, fLst, fCall, fCallO, fB, fM1, fSl, fiNo, fiSm, fLc, wLst, wTup, wStr, wRg1, wRg2, wZip, wEnum, gfN, gfTup, gsNil, gsCons, fLrg, fLrg3, wipeG, xSeq, xSet, xOf, xCall, xIf, xRet, xNext, xTup, xCons, xNil, xPut, xCallP, sRetX, sSetX, List.getElem?_cons_zero, List.getElem?_cons_succ, List.set_cons_zero, List.set_cons_succ, List.replicate, i, s_quote, mk_beq, hc])]
      rw [fSeq_nx (γ1 := [.va (.str (mk L)), .va (.int (a : Int)), .va (.int (a : Int))]) (by simp [fOwn, fOpN,  fSeq, fNext, sRet, sRetN, sIf, sSet, sSetO, sAsg, sApp, sFor, forF, fVar, fOpd, fCon, f2, f1, fNil, fCons, bR, bL, bA, bLL, oR, fT, gAnd, gOr, gNot, gYes, fAnd, fOr, fNot, fIte, fTup, fLst, fCall, fCallO, fB, fM1, fSl, fiNo, fiSm, fLc, wLst, wTup, wStr, wRg1, wRg2, wZip, wEnum, gfN, gfTup, gsNil, gsCons, fLrg, fLrg3, wipeG, xSeq, xSet, xOf, xCall, xIf, xRet, xNext, xTup, xCons, xNil, xPut, xCallP, sRetX, sSetX, List.getElem?_cons_zero, List.getElem?_cons_succ, List.set_cons_zero, List.set_cons_succ])]
      rw [fSeq_nx hw]
      have o1 : oMax2 [.int ((max a (a + ((c :: r).takeWhile fun c => !stop c).length) : Nat) : Int), .int ((a + 1 : Nat) : Int)] = some (.int ((a + p.length : Nat) : Int)) := by
        unfold oMax2
        simp only [hm]
      generalize (((max a (a + ((c :: r).takeWhile fun c => !stop c).length) : Nat) : Int)) = j at o1 ⊢
      simp only [fOwn, fOpN,  fSeq, fNext, sRet, sRetN, sIf, sSet, sSetO, sAsg, sApp, sFor, forF, fVar, fOpd, fCon, f2, f1, fNil, fCons, bR, bL, bA, bLL, oR, fT, gAnd, gOr, gNot, gYes, fAnd, fOr, fNot, fIte, fTup, fLst, fCall, fCallO, fB, fM1, fSl, fiNo, fiSm, fLc, wLst, wTup, wStr, wRg1, wRg2, wZip, wEnum, gfN, gfTup, gsNil, gsCons, fLrg, fLrg3, wipeG, xSeq, xSet, xOf, xCall, xIf, xRet, xNext, xTup, xCons, xNil, xPut, xCallP, sRetX, sSetX, List.getElem?_cons_zero, List.getElem?_cons_succ, List.set_cons_zero, List.set_cons_succ, bR_ok, bL_ok, bLL_ok, bA_ok, oR_some, oAdd_int, ea, o1, sl]
    cases hst : stop c with
    | true =>
      rw [if_pos rfl]
      refine key [c] (by simp) (by simp) ?_
      have e0 : ((c :: r).takeWhile fun c => !stop c) = [] := by rw [List.takeWhile_cons, hst]; rfl
      rw [e0]
      simp only [List.length_nil, Nat.add_zero, Nat.max_self]
      rw [if_pos (by omega)]
      rfl
    | false =>
      rw [if_neg (by simp)]
      have hpl : 1 ≤ ((c :: r).takeWhile fun c => !stop c).length := by rw [List.takeWhile_cons, hst]; simp
      refine key _ (take_tw _ _).symm hpl ?_
      rw [if_neg (by omega)]
      congr 1
      omega
/-- all pieces -/
def tokP : Nat → List Nat → Option (List (List Nat))
  | _, [] => some []
  | 0, _ :: _ => none
  | f + 1, c :: r => match pieceL (c :: r) with
    | none => none
    | some p => (match tokP f ((c :: r).drop p.length) with
      | none => none
      | some ps => some (p :: ps))
theorem tokP_cons (f c : Nat) (r : List Nat) : tokP (f + 1) (c :: r) = match pieceL (c :: r) with
    | none => none
    | some p => (match tokP f ((c :: r).drop p.length) with
      | none => none
      | some ps => some (p :: ps)) := rfl
theorem seq_er {f g : Fs} {γ : Ge} {c : Str} (h : f γ = some (.er c)) : fSeq f g γ = some (.er c) := by unfold fSeq; rw [h]
def pD (p : List Nat) : D := .str (mk p)
abbrev psC : Ft := fT (f2 oLt (fOpd 2) (fB oLen (fCons (fOpd 0) fNil)))
abbrev psB (Phi : Nm → List D → Option Rs) : Fs := fSeq (sApp 1 (fCall (Phi .piece_at) (fCons (fVar 0) (fCons (fVar 2) fNil)))) (sSet 2 (f2 oAdd (fOpd 2) (fB oLen (fCons (f2 oIx (fOpd 1) (f1 oNeg (fCon (.int 1)))) fNil))))
theorem last_ix (acc : List D) (d : D) : oIx (.list (acc ++ [d])) (.int (-1)) = some d := by
  rw [oIx_lst]
  exact atI_last _ _
theorem pieces_loop {L : List Nat} (hL : L.length ≤ MX) (n0 : Nat) : ∀ (f : Nat) (s : List Nat) (a : Nat) (acc : List D), L.drop a = s → s.length ≤ f → acc.length ≤ a → ∀ n, s.length < n →
    (∃ ps, tokP f s = some ps ∧ ∃ x, whF psC (psB (Phi (n0 + 1))) n [.va (.str (mk L)), .ow acc, .va (.int (a : Int))] = some (.nx [.va (.str (mk L)), .ow (acc ++ ps.map pD), x])) ∨
    (tokP f s = none ∧ whF psC (psB (Phi (n0 + 1))) n [.va (.str (mk L)), .ow acc, .va (.int (a : Int))] = some (.er "BadText"))
  | f, [], a, acc, h, _, _, n, hn => by
    obtain ⟨n, rfl⟩ : ∃ k, n = k + 1 := ⟨n - 1, by simp at hn; omega⟩
    have h1 := drop_nil h
    have h2 : ¬ (a : Int) < (L.length : Int) := by omega
    refine .inl ⟨[], by cases f <;> rfl, .va (.int (a : Int)), ?_⟩
    rw [whF_f (by simp [fOwn, fOpN,  fSeq, fNext, sRet, sRetN, sIf, sSet, sSetO, sAsg, sApp, sFor, forF, fVar, fOpd, fCon, f2, f1, fNil, fCons, bR, bL, bA, bLL, oR, fT, gAnd, gOr, gNot, gYes, fAnd, fOr, fNot, fIte, fTup, fLst, fCall, fCallO, fB, fM1, fSl, fiNo, fiSm, fLc, wLst, wTup, wStr, wRg1, wRg2, wZip, wEnum, gfN, gfTup, gsNil, gsCons, fLrg, fLrg3, wipeG, xSeq, xSet, xOf, xCall, xIf, xRet, xNext, xTup, xCons, xNil, xPut, xCallP, sRetX, sSetX, List.getElem?_cons_zero, List.getElem?_cons_succ, List.set_cons_zero, List.set_cons_succ, len_mk hL, h2])]
    simp
  | 0, c :: r, a, acc, h, hf, _, n, hn => by simp at hf
  | f + 1, c :: r, a, acc, h, hf, ha, n, hn => by
    obtain ⟨n, rfl⟩ : ∃ k, n = k + 1 := ⟨n - 1, by simp at hn; omega⟩
    obtain ⟨h1, h2, h3⟩ := drop_cons h
    have h4 : (a : Int) < (L.length : Int) := by omega
    have rp := run_piece hL n0 h2
    rw [h] at rp
    have hc : psC [.va (.str (mk L)), .ow acc, .va (.int (a : Int))] = some (.ok true) := by simp [fOwn, fOpN,  fSeq, fNext, sRet, sRetN, sIf, sSet, sSetO, sAsg, sApp, sFor, forF, fVar, fOpd, fCon, f2, f1, fNil, fCons, bR, bL, bA, bLL, oR, fT, gAnd, gOr, gNot, gYes, fAnd, fOr, fNot, fIte, fTup, fLst, fCall, fCallO, fB, fM1, fSl, fiNo, fiSm, fLc, wLst, wTup, wStr, wRg1, wRg2, wZip, wEnum, gfN, gfTup, gsNil, gsCons, fLrg, fLrg3, wipeG, xSeq, xSet, xOf, xCall, xIf, xRet, xNext, xTup, xCons, xNil, xPut, xCallP, sRetX, sSetX, List.getElem?_cons_zero, List.getElem?_cons_succ, List.set_cons_zero, List.set_cons_succ, len_mk hL, h4]
    have hb : acc.length ≤ big := MX_big (by omega)
    rw [tokP_cons]
    cases hp : pieceL (c :: r) with
    | none =>
      rw [hp] at rp
      simp only at rp
      refine .inr ⟨rfl, ?_⟩
      exact whF_er hc (by simp [fOwn, fOpN,  fSeq, fNext, sRet, sRetN, sIf, sSet, sSetO, sAsg, sApp, sFor, forF, fVar, fOpd, fCon, f2, f1, fNil, fCons, bR, bL, bA, bLL, oR, fT, gAnd, gOr, gNot, gYes, fAnd, fOr, fNot, fIte, fTup, fLst, fCall, fCallO, fB, fM1, fSl, fiNo, fiSm, fLc, wLst, wTup, wStr, wRg1, wRg2, wZip, wEnum, gfN, gfTup, gsNil, gsCons, fLrg, fLrg3, wipeG, xSeq, xSet, xOf, xCall, xIf, xRet, xNext, xTup, xCons, xNil, xPut, xCallP, sRetX, sSetX, List.getElem?_cons_zero, List.getElem?_cons_succ, List.set_cons_zero, List.set_cons_succ, rp])
    | some p =>
      rw [hp] at rp
      simp only at rp
      obtain ⟨p1, p2⟩ := pieceL_take hp
      have pl : p.length ≤ (c :: r).length := by
        have := congrArg List.length p1
        rw [List.length_take] at this
        omega
      have lp : oLen [.str (mk p)] = some (.int (p.length : Int)) := len_mk (by have := congrArg List.length h; rw [List.length_drop] at this; omega)
      have e1 : (a : Int) + (p.length : Int) = ((a + p.length : Nat) : Int) := by omega
      have step := whF_t (n := n) hc (b := psB (Phi (n0 + 1))) (γ2 := [.va (.str (mk L)), .ow (acc ++ [pD p]), .va (.int ((a + p.length : Nat) : Int))]) (by
        have li := last_ix acc (.str (mk p))
        simp only [fOwn, fOpN,  fSeq, fNext, sRet, sRetN, sIf, sSet, sSetO, sAsg, sApp, sFor, forF, fVar, fOpd, fCon, f2, f1, fNil, fCons, bR, bL, bA, bLL, oR, fT, gAnd, gOr, gNot, gYes, fAnd, fOr, fNot, fIte, fTup, fLst, fCall, fCallO, fB, fM1, fSl, fiNo, fiSm, fLc, wLst, wTup, wStr, wRg1, wRg2, wZip, wEnum, gfN, gfTup, gsNil, gsCons, fLrg, fLrg3, wipeG, xSeq, xSet, xOf, xCall, xIf, xRet, xNext, xTup, xCons, xNil, xPut, xCallP, sRetX, sSetX, List.getElem?_cons_zero, List.getElem?_cons_succ, List.set_cons_zero, List.set_cons_succ, bR_ok, bL_ok, bLL_ok, bA_ok, oR_some, rp, hb, if_true, oNeg_int, li, lp, oAdd_int, e1, pD])
      rw [step]
      have hd : L.drop (a + p.length) = (c :: r).drop p.length := by rw [← h, List.drop_drop]
      have hl : ((c :: r).drop p.length).length < (c :: r).length := by rw [List.length_drop]; simp at *; omega
      rcases pieces_loop hL n0 f ((c :: r).drop p.length) (a + p.length) (acc ++ [pD p]) hd (by have := hl; have := hf; omega) (by rw [List.length_append]; simp only [List.length_cons, List.length_nil]; omega) n (by omega) with ⟨ps, e2, x, e3⟩ | ⟨e2, e3⟩
      · refine .inl ⟨p :: ps, by simp only [e2], x, ?_⟩
        rw [e3]
        simp
      · exact .inr ⟨by simp only [e2], e3⟩
theorem run_pieces {L : List Nat} (hL : L.length ≤ MX) (n : Nat) : Phi (n + 2) .pieces_of [.str (mk L)] = match tokP L.length L with
    | some ps => some (.ok (.list (ps.map pD)))
    | none => some (.er "BadText") := by
  have e0 : L.drop 0 = L := rfl
  rw [phi_pieces_of]
  rcases (show (∃ ps, tokP L.length L = some ps ∧ ∃ x, sWh psC (psB (Phi (n + 1))) [.va (.str (mk L)), .ow [], .va (.int ((0 : Nat) : Int))] = some (.nx [.va (.str (mk L)), .ow ([] ++ ps.map pD), x])) ∨ (tokP L.length L = none ∧ sWh psC (psB (Phi (n + 1))) [.va (.str (mk L)), .ow [], .va (.int ((0 : Nat) : Int))] = some (.er "BadText")) from by
    have := pieces_loop hL n L.length L 0 [] e0 (Nat.le_refl _) (Nat.le_refl _) fuel (fuel_gt (by unfold MX at hL; omega))
    exact this) with ⟨ps, e1, x, e2⟩ | ⟨e1, e2⟩
  · rw [e1]
    refine runF_rt rfl ?_
    unfold f_pieces_of
    rw [fSeq_nx (γ1 := [.va (.str (mk L)), .ow [], .no]) (by simp [entry, fOwn, fOpN,  fSeq, fNext, sRet, sRetN, sIf, sSet, sSetO, sAsg, sApp, sFor, forF, fVar, fOpd, fCon, f2, f1, fNil, fCons, bR, bL, bA, bLL, oR, fT, gAnd, gOr, gNot, gYes, fAnd, fOr, fNot, fIte, fTup, fLst, fCall, fCallO, fB, fM1, fSl, fiNo, fiSm, fLc, wLst, wTup, wStr, wRg1, wRg2, wZip, wEnum, gfN, gfTup, gsNil, gsCons, fLrg, fLrg3, wipeG, xSeq, xSet, xOf, xCall, xIf, xRet, xNext, xTup, xCons, xNil, xPut, xCallP, sRetX, sSetX, List.getElem?_cons_zero, List.getElem?_cons_succ, List.set_cons_zero, List.set_cons_succ, List.replicate])]
    rw [fSeq_nx (γ1 := [.va (.str (mk L)), .ow [], .va (.int ((0 : Nat) : Int))]) (by simp [fOwn, fOpN,  fSeq, fNext, sRet, sRetN, sIf, sSet, sSetO, sAsg, sApp, sFor, forF, fVar, fOpd, fCon, f2, f1, fNil, fCons, bR, bL, bA, bLL, oR, fT, gAnd, gOr, gNot, gYes, fAnd, fOr, fNot, fIte, fTup, fLst, fCall, fCallO, fB, fM1, fSl, fiNo, fiSm, fLc, wLst, wTup, wStr, wRg1, wRg2, wZip, wEnum, gfN, gfTup, gsNil, gsCons, fLrg, fLrg3, wipeG, xSeq, xSet, xOf, xCall, xIf, xRet, xNext, xTup, xCons, xNil, xPut, xCallP, sRetX, sSetX, List.getElem?_cons_zero, List.getElem?_cons_succ, List.set_cons_zero, List.set_cons_succ])]
    rw [fSeq_nx e2]
    simp [fOwn, fOpN,  fSeq, fNext, sRet, sRetN, sIf, sSet, sSetO, sAsg, sApp, sFor, forF, fVar, fOpd, fCon, f2, f1, fNil, fCons, bR, bL, bA, bLL, oR, fT, gAnd, gOr, gNot, gYes, fAnd, fOr, fNot, fIte, fTup, fLst, fCall, fCallO, fB, fM1, fSl, fiNo, fiSm, fLc, wLst, wTup, wStr, wRg1, wRg2, wZip, wEnum, gfN, gfTup, gsNil, gsCons, fLrg, fLrg3, wipeG, xSeq, xSet, xOf, xCall, xIf, xRet, xNext, xTup, xCons, xNil, xPut, xCallP, sRetX, sSetX, List.getElem?_cons_zero, List.getElem?_cons_succ, List.set_cons_zero, List.set_cons_succ]
  · rw [e1]
    refine runF_er rfl ?_
    unfold f_pieces_of
    rw [fSeq_nx (γ1 := [.va (.str (mk L)), .ow [], .no]) (by simp [entry, fOwn, fOpN,  fSeq, fNext, sRet, sRetN, sIf, sSet, sSetO, sAsg, sApp, sFor, forF, fVar, fOpd, fCon, f2, f1, fNil, fCons, bR, bL, bA, bLL, oR, fT, gAnd, gOr, gNot, gYes, fAnd, fOr, fNot, fIte, fTup, fLst, fCall, fCallO, fB, fM1, fSl, fiNo, fiSm, fLc, wLst, wTup, wStr, wRg1, wRg2, wZip, wEnum, gfN, gfTup, gsNil, gsCons, fLrg, fLrg3, wipeG, xSeq, xSet, xOf, xCall, xIf, xRet, xNext, xTup, xCons, xNil, xPut, xCallP, sRetX, sSetX, List.getElem?_cons_zero, List.getElem?_cons_succ, List.set_cons_zero, List.set_cons_succ, List.replicate])]
    rw [fSeq_nx (γ1 := [.va (.str (mk L)), .ow [], .va (.int ((0 : Nat) : Int))]) (by simp [fOwn, fOpN,  fSeq, fNext, sRet, sRetN, sIf, sSet, sSetO, sAsg, sApp, sFor, forF, fVar, fOpd, fCon, f2, f1, fNil, fCons, bR, bL, bA, bLL, oR, fT, gAnd, gOr, gNot, gYes, fAnd, fOr, fNot, fIte, fTup, fLst, fCall, fCallO, fB, fM1, fSl, fiNo, fiSm, fLc, wLst, wTup, wStr, wRg1, wRg2, wZip, wEnum, gfN, gfTup, gsNil, gsCons, fLrg, fLrg3, wipeG, xSeq, xSet, xOf, xCall, xIf, xRet, xNext, xTup, xCons, xNil, xPut, xCallP, sRetX, sSetX, List.getElem?_cons_zero, List.getElem?_cons_succ, List.set_cons_zero, List.set_cons_succ])]
    exact seq_er e2
end K02

namespace K02
open PySem PySem.Spec PyProof.Rows L2 Py
/-! ### a mark, a figure, or yes -/
def fig (w : List Nat) : Option Nat := if w = [48] then some 0 else if w = [49] then some 1 else if w = [50] then some 2 else if w = [51] then some 3 else if w = [52] then some 4 else none
def partP (w : List Nat) : Option D :=
  if w.head? = some 39 then some (.tuple [.str "mark", .str (mk ((w.drop 1).take (w.length - 2)))])
  else if w = cY then some (.tuple [.str "yes"])
  else match fig w with
    | some i => some (.int (i : Int))
    | none => none
theorem s_d : ("0" : Str) = mk [48] ∧ ("1" : Str) = mk [49] ∧ ("2" : Str) = mk [50] ∧ ("3" : Str) = mk [51] ∧ ("4" : Str) = mk [52] := by decide +kernel
theorem int_d : PySem.intText? (mk [48]) = some 0 ∧ PySem.intText? (mk [49]) = some 1 ∧ PySem.intText? (mk [50]) = some 2 ∧ PySem.intText? (mk [51]) = some 3 ∧ PySem.intText? (mk [52]) = some 4 := by decide +kernel
theorem fig_int {w : List Nat} {i : Nat} (h : fig w = some i) : oIntS [.str (mk w)] = some (.int (i : Int)) := by
  unfold fig at h
  have go : ∀ c : Nat, ∀ j : Nat, PySem.intText? (mk [c]) = some (j : Int) → oIntS [.str (mk [c])] = some (.int (j : Int)) := fun c j e => by
    unfold oIntS
    simp only [mk_len, List.length_cons, List.length_nil, e]
    rfl
  split at h
  · cases h; rename_i e; subst e; exact go _ 0 int_d.1
  · split at h
    · cases h; rename_i e; subst e; exact go _ 1 int_d.2.1
    · split at h
      · cases h; rename_i e; subst e; exact go _ 2 int_d.2.2.1
      · split at h
        · cases h; rename_i e; subst e; exact go _ 3 int_d.2.2.2.1
        · split at h
          · cases h; rename_i e; subst e; exact go _ 4 int_d.2.2.2.2
          · cases h
theorem fig_in (w : List Nat) : oIn false (.str (mk w)) (.tuple [.str "0", .str "1", .str "2", .str "3", .str "4"]) = some (.bool (fig w).isSome) := by
  have e : (fig w).isSome = (decide (w = [48]) || decide (w = [49]) || decide (w = [50]) || decide (w = [51]) || decide (w = [52])) := by
    unfold fig
    by_cases h0 : w = [48]
    · simp [h0]
    · by_cases h1 : w = [49]
      · simp [h1]
      · by_cases h2 : w = [50]
        · simp [h2]
        · by_cases h3 : w = [51]
          · simp [h3]
          · by_cases h4 : w = [52]
            · simp [h4]
            · simp [h0, h1, h2, h3, h4]
  have b : ∀ c : Nat, (mk [c] == mk w) = decide (w = [c]) := fun c => by
    rw [mk_beq]
    by_cases h : w = [c]
    · subst h; simp
    · rw [decide_eq_false h, decide_eq_false (fun z => h z.symm)]
  rw [e]
  obtain ⟨e0, e1, e2, e3, e4⟩ := s_d
  simp [oIn, flatD, PyData.eqv, e0, e1, e2, e3, e4, b, Bool.or_assoc]
theorem run_part {w : List Nat} (hw : 1 ≤ w.length) (hL : w.length ≤ MX) (n : Nat) : Phi (n + 1) .part_of [.str (mk w)] = match partP w with
    | some d => some (.ok d)
    | none => some (.er "BadText") := by
  obtain ⟨c, r, rfl⟩ : ∃ c r, w = c :: r := by
    cases w with
    | nil => simp at hw
    | cons c r => exact ⟨c, r, rfl⟩
  have i := ix_mk hL (i := 0) (c := c) rfl
  simp only [Int.ofNat_zero, Int.natCast_zero] at i
  rw [phi_part_of]
  unfold partP
  by_cases hc : c = 39
  · subst hc
    rw [if_pos (show (39 :: r).head? = some 39 from rfl)]
    refine runF_rt rfl ?_
    have sl : oSl (some 1) (some (-1)) (.str (mk (39 :: r))) = some (.str (mk (((39 :: r).drop 1).take ((39 :: r).length - 2)))) := by
      rw [oSl_str (by rw [mk_len]; exact MX_big hL)]
      unfold cutS
      have h1 : HT.sIx (mk (39 :: r)).length 0 (some (1 : Int)) = 1 := by
        have := HT.sIx_nat (mk (39 :: r)).length 0 1
        rw [mk_len] at this ⊢
        simpa using this
      have h2 : HT.sIx (mk (39 :: r)).length (mk (39 :: r)).length (some (-1 : Int)) = r.length := by
        unfold HT.sIx
        rw [mk_len]
        simp only [List.length_cons]
        rw [if_pos (by decide)]
        omega
      rw [h1, h2, mk_tl]
      simp only [List.length_cons]
      rfl
    unfold f_part_of
    simp [entry, fOwn, fOpN,  fSeq, fNext, sRet, sRetN, sIf, sSet, sSetO, sAsg, sApp, sFor, forF, fVar, fOpd, fCon, f2, f1, fNil, fCons, bR, bL, bA, bLL, oR, fT, gAnd, gOr, gNot, gYes, fAnd, fOr, fNot, fIte, fTup, fLst, fCall, fCallO, fB, fM1, fSl, fiNo, fiSm, fLc, wLst, wTup, wStr, wRg1, wRg2, wZip, wEnum, gfN, gfTup, gsNil, gsCons, fLrg, fLrg3, wipeG, xSeq, xSet, xOf, xCall, xIf, xRet, xNext, xTup, xCons, xNil, xPut, xCallP, sRetX, sSetX, List.getElem?_cons_zero, List.getElem?_cons_succ, List.set_cons_zero, List.set_cons_succ, List.replicate, i, s_quote, mk_beq, sl]
  · rw [if_neg (by simpa using hc)]
    have b1 : (mk [c] == mk [39]) = false := by rw [mk_beq]; simpa using hc
    have b2 : (mk (c :: r) == mk cY) = decide (c :: r = cY) := mk_beq _ _
    by_cases hy : c :: r = cY
    · rw [if_pos hy]
      refine runF_rt rfl ?_
      rw [decide_eq_true hy] at b2
      unfold f_part_of
      simp [entry, fOwn, fOpN,  fSeq, fNext, sRet, sRetN, sIf, sSet, sSetO, sAsg, sApp, sFor, forF, fVar, fOpd, fCon, f2, f1, fNil, fCons, bR, bL, bA, bLL, oR, fT, gAnd, gOr, gNot, gYes, fAnd, fOr, fNot, fIte, fTup, fLst, fCall, fCallO, fB, fM1, fSl, fiNo, fiSm, fLc, wLst, wTup, wStr, wRg1, wRg2, wZip, wEnum, gfN, gfTup, gsNil, gsCons, fLrg, fLrg3, wipeG, xSeq, xSet, xOf, xCall, xIf, xRet, xNext, xTup, xCons, xNil, xPut, xCallP, sRetX, sSetX, List.getElem?_cons_zero, List.getElem?_cons_succ, List.set_cons_zero, List.set_cons_succ, List.replicate, i, s_quote, b1, s_Y, b2]
    · rw [if_neg hy]
      rw [decide_eq_false hy] at b2
      have fi := fig_in (c :: r)
      cases hf : fig (c :: r) with
      | some j =>
        rw [hf] at fi
        refine runF_rt rfl ?_
        have fj := fig_int hf
        unfold f_part_of
        simp only [Option.isSome_some] at fi
        simp [entry, fOwn, fOpN,  fSeq, fNext, sRet, sRetN, sIf, sSet, sSetO, sAsg, sApp, sFor, forF, fVar, fOpd, fCon, f2, f1, fNil, fCons, bR, bL, bA, bLL, oR, fT, gAnd, gOr, gNot, gYes, fAnd, fOr, fNot, fIte, fTup, fLst, fCall, fCallO, fB, fM1, fSl, fiNo, fiSm, fLc, wLst, wTup, wStr, wRg1, wRg2, wZip, wEnum, gfN, gfTup, gsNil, gsCons, fLrg, fLrg3, wipeG, xSeq, xSet, xOf, xCall, xIf, xRet, xNext, xTup, xCons, xNil, xPut, xCallP, sRetX, sSetX, List.getElem?_cons_zero, List.getElem?_cons_succ, List.set_cons_zero, List.set_cons_succ, List.replicate, i, s_quote, b1, s_Y, b2, fi, fj]
      | none =>
        rw [hf] at fi
        refine runF_er rfl ?_
        simp only [Option.isSome_none] at fi
        unfold f_part_of
        simp [entry, fOwn, fOpN,  fSeq, fNext, sRet, sRetN, sIf, sSet, sSetO, sAsg, sApp, sFor, forF, fVar, fOpd, fCon, f2, f1, fNil, fCons, bR, bL, bA, bLL, oR, fT, gAnd, gOr, gNot, gYes, fAnd, fOr, fNot, fIte, fTup, fLst, fCall, fCallO, fB, fM1, fSl, fiNo, fiSm, fLc, wLst, wTup, wStr, wRg1, wRg2, wZip, wEnum, gfN, gfTup, gsNil, gsCons, fLrg, fLrg3, wipeG, xSeq, xSet, xOf, xCall, xIf, xRet, xNext, xTup, xCons, xNil, xPut, xCallP, sRetX, sSetX, List.getElem?_cons_zero, List.getElem?_cons_succ, List.set_cons_zero, List.set_cons_succ, List.replicate, i, s_quote, b1, s_Y, b2, fi, sRaise]
end K02

namespace K02
open PySem PySem.Spec PyProof.Rows L2 Py
/-! ### the part that begins at a piece -/
def rdL (g : List (List Nat) → Option (D × List (List Nat))) : Nat → List D → List (List Nat) → Option (List D × List (List Nat))
  | 0, _, _ => none
  | _ + 1, acc, [] => some (acc, [])
  | f + 1, acc, t :: r =>
    if t = [40] then (match g r with
      | none => none
      | some (d, r') => rdL g f (acc ++ [d]) r')
    else if t = [44] then (match g (r.drop 1) with
      | none => none
      | some (d, r') => rdL g f (acc ++ [d]) r')
    else some (acc, t :: r)
def rdP : Nat → List (List Nat) → Option (D × List (List Nat))
  | 0, _ => none
  | _ + 1, [] => none
  | f + 1, w :: r => if r.head? = some [40] then (match rdL (rdP f) (r.length + 1) [pD w] r with
        | some (acc, t :: r') => if t = [41] then some (.tuple acc, r') else none
        | _ => none)
      else (match partP w with
        | some d => some (d, r)
        | none => none)
theorem rdL_cons (g : List (List Nat) → Option (D × List (List Nat))) (f : Nat) (acc : List D) (t : List Nat) (r : List (List Nat)) : rdL g (f + 1) acc (t :: r) = if t = [40] then (match g r with
      | none => none
      | some (d, r') => rdL g f (acc ++ [d]) r')
    else if t = [44] then (match g (r.drop 1) with
      | none => none
      | some (d, r') => rdL g f (acc ++ [d]) r')
    else some (acc, t :: r) := rfl
theorem rdP_cons (f : Nat) (w : List Nat) (r : List (List Nat)) : rdP (f + 1) (w :: r) = if r.head? = some [40] then (match rdL (rdP f) (r.length + 1) [pD w] r with
        | some (acc, t :: r') => if t = [41] then some (.tuple acc, r') else none
        | _ => none)
      else (match partP w with
        | some d => some (d, r)
        | none => none) := rfl
theorem sl_lst (ds : List D) (i j : Nat) (h : i ≤ j) : oSl (some (i : Int)) (some (j : Int)) (.list ds) = some (.list ((ds.drop i).take (j - i))) := by
  rw [oSl_list]
  congr 2
  unfold Py.cutD
  rw [HT.sIx_nat, HT.sIx_nat]
  by_cases h1 : i ≤ ds.length
  · rw [Nat.min_eq_left h1]
    by_cases h3 : j ≤ ds.length
    · rw [Nat.min_eq_left h3]
    · rw [Nat.min_eq_right (by omega), List.take_of_length_le (by simp), List.take_of_length_le (by simp; omega)]
  · rw [Nat.min_eq_right (by omega), Nat.min_eq_right (by omega), List.drop_of_length_le (Nat.le_refl _), List.drop_of_length_le (by omega)]
    simp
/-- the pieces may be laid -/
def TxL (P : List (List Nat)) : Prop := ∀ p ∈ P, Tx p
theorem pD_ok {P : List (List Nat)} (h : TxL P) : OkD 1 (.list (P.map pD)) := by
  refine okD_list (n := 0) fun x hx => ?_
  obtain ⟨p, hp, rfl⟩ := List.mem_map.mp hx
  exact okD_str (h p hp).ok
theorem eqv_tok (l : List (List Nat)) (t : List Nat) : PyData.eqv (.list (l.map pD)) (.list [pD t]) = decide (l = [t]) ∧ PyData.eqv (.list [pD t]) (.list (l.map pD)) = decide (l = [t]) := by
  match l with
  | [] => exact ⟨by simp [PyData.eqv, PyData.eqvAll], by simp [PyData.eqv, PyData.eqvAll]⟩
  | [p] =>
    refine ⟨by simp [PyData.eqv, PyData.eqvAll, pD, mk_beq], ?_⟩
    simp only [List.map_cons, List.map_nil, PyData.eqv, PyData.eqvAll, pD, mk_beq, Bool.and_true]
    by_cases e : p = t
    · subst e; simp
    · rw [decide_eq_false (fun z => e z.symm), decide_eq_false (by simpa using e)]
  | p :: q :: r => exact ⟨by simp [PyData.eqv, PyData.eqvAll], by simp [PyData.eqv, PyData.eqvAll]⟩
theorem ne_tok {l : List (List Nat)} (h : TxL l) {t : List Nat} (ht : Tx t) : oNe (.list (l.map pD)) (.list [.str (mk t)]) = some (.bool (!decide (l = [t]))) := by
  have h2 : TxL [t] := fun p hp => by simp only [List.mem_singleton] at hp; subst hp; exact ht
  unfold oNe
  rw [if_pos (.inr ⟨(pD_ok h).shaped (by decide), (pD_ok h2).shaped (by decide)⟩)]
  have := (eqv_tok l t).1
  unfold pD at this ⊢
  rw [this]
theorem shp_two : SeqAt.shaped (.tuple [.list [.str (mk [40])], .list [.str (mk [44])]]) = true := by decide +kernel
theorem in_tok {l : List (List Nat)} (h : TxL l) : oInT (.list (l.map pD)) (.tuple [.list [.str (mk [40])], .list [.str (mk [44])]]) = some (.bool (decide (l = [[40]]) || decide (l = [[44]]))) := by
  unfold oInT
  simp only
  rw [if_pos ⟨(pD_ok h).shaped (by decide), shp_two⟩]
  have h1 := (eqv_tok l [40]).2
  have h2 := (eqv_tok l [44]).2
  unfold pD at h1 h2 ⊢
  simp only [List.any_cons, List.any_nil, h1, h2, Bool.or_false]
theorem TxL.drop {P : List (List Nat)} (h : TxL P) (a : Nat) : TxL (P.drop a) := fun p hp => h p (List.mem_of_mem_drop hp)
theorem TxL.take {P : List (List Nat)} (h : TxL P) (a : Nat) : TxL (P.take a) := fun p hp => h p (List.mem_of_mem_take hp)
theorem tx1 (c : Nat) (h : c < 1114112 := by decide) : Tx [c] := fun x hx => by simp only [List.mem_singleton] at hx; omega
theorem sl_one (P : List (List Nat)) (a : Nat) : oSl (some (a : Int)) (some ((a : Int) + 1)) (.list (P.map pD)) = some (.list (((P.drop a).take 1).map pD)) := by
  have e : ((a : Int) + 1) = ((a + 1 : Nat) : Int) := by omega
  rw [e, sl_lst _ a (a + 1) (by omega), show a + 1 - a = 1 by omega, List.map_take, List.map_drop]
theorem sl_next (P : List (List Nat)) (a : Nat) : oSl (some ((a : Int) + 1)) (some ((a : Int) + 2)) (.list (P.map pD)) = some (.list (((P.drop (a + 1)).take 1).map pD)) := by
  have e : ((a : Int) + 1) = ((a + 1 : Nat) : Int) := by omega
  have e2 : ((a : Int) + 2) = ((a + 2 : Nat) : Int) := by omega
  rw [e, e2, sl_lst _ (a + 1) (a + 2) (by omega), show a + 2 - (a + 1) = 1 by omega, List.map_take, List.map_drop]
theorem ix_tok {P : List (List Nat)} {a : Nat} {t : List Nat} {r : List (List Nat)} (h : P.drop a = t :: r) : oIx (.list (P.map pD)) (.int (a : Int)) = some (.str (mk t)) ∧ a < P.length ∧ P.drop (a + 1) = r := by
  have h1 : a < P.length := by
    have := congrArg List.length h
    rw [List.length_drop, List.length_cons] at this
    omega
  rw [List.drop_eq_getElem_cons h1] at h
  injection h with h2 h3
  refine ⟨?_, h1, h3⟩
  rw [oIx_lst]
  refine atI_cast ?_
  rw [List.getElem?_map, List.getElem?_eq_getElem h1, h2]
  rfl
abbrev rcC : Ft := fT (f2 oInT (fSl (fOpd 0) (fiSm (fOpd 4)) (fiSm (f2 oAdd (fOpd 4) (fCon (.int 1))))) (fTup (fCons (fLst (fCons (fCon (.str "(")) fNil)) (fCons (fLst (fCons (fCon (.str ",")) fNil)) fNil))))
abbrev rcB (φ : List D → Option Rs) : Fs := fSeq (sAsg (fCall φ (fCons (fVar 0) (fCons (f2 oAdd (f2 oAdd (fOpd 4) (fCon (.int 1))) (fB oInt1 (fCons (f2 oEq (f2 oIx (fOpd 0) (fOpd 4)) (fCon (.str ","))) fNil))) (fCons (f2 oAdd (fOpd 2) (fCon (.int 1))) fNil)))) (gfTup (gsCons (gfN 5) (gsCons (gfN 4) gsNil)))) (sApp 3 (fVar 5))
/-- what read_at tells at a place -/
def RdOk (P : List (List Nat)) (g : List (List Nat) → Option (D × List (List Nat))) (φ : List D → Option Rs) (dp : Int) (b : Nat) : Prop :=
  (g (P.drop b) = none ∧ φ [.list (P.map pD), .int (b : Int), .int dp] = some (.er "BadText")) ∨
  ∃ d e, g (P.drop b) = some (d, P.drop e) ∧ b < e ∧ e ≤ P.length ∧ φ [.list (P.map pD), .int (b : Int), .int dp] = some (.ok (.tuple [d, .int (e : Int)]))
theorem big_two : ∀ (a b : D), [a, b].length ≤ big := fun _ _ => by show 2 ≤ big; decide
theorem rc_test {P : List (List Nat)} (hP : TxL P) (A B C : Sl) (e : Nat) (x : Sl) : rcC [.va (.list (P.map pD)), A, B, C, .va (.int (e : Int)), x] = some (.ok (decide ((P.drop e).take 1 = [[40]]) || decide ((P.drop e).take 1 = [[44]]))) := by
  have h1 := sl_one P e
  have h2 := in_tok (l := (P.drop e).take 1) ((hP.drop e).take 1)
  have b2 : (2 : Nat) ≤ big := by decide
  have b1 : (1 : Nat) ≤ big := by decide
  simp only [fOwn, fOpN,  fSeq, fNext, sRet, sRetN, sIf, sSet, sSetO, sAsg, sApp, sFor, forF, fVar, fOpd, fCon, f2, f1, fNil, fCons, bR, bL, bA, bLL, oR, fT, gAnd, gOr, gNot, gYes, fAnd, fOr, fNot, fIte, fTup, fLst, fCall, fCallO, fB, fM1, fSl, fiNo, fiSm, fLc, wLst, wTup, wStr, wRg1, wRg2, wZip, wEnum, gfN, gfTup, gsNil, gsCons, fLrg, fLrg3, wipeG, xSeq, xSet, xOf, xCall, xIf, xRet, xNext, xTup, xCons, xNil, xPut, xCallP, sRetX, sSetX, List.getElem?_cons_zero, List.getElem?_cons_succ, List.set_cons_zero, List.set_cons_succ, bR_ok, bL_ok, bLL_ok, bA_ok, oR_some, oAdd_int, h1, s_open, s_comma, h2, b1, b2, List.length_cons, List.length_nil, Nat.zero_add, Nat.reduceAdd, if_true]
theorem read_loop {P : List (List Nat)} (hP : TxL P) (hL : P.length ≤ MX) (g : List (List Nat) → Option (D × List (List Nat))) (φ : List D → Option Rs) (dp : Int) (A : Sl) (H : ∀ b, RdOk P g φ (dp + 1) b) :
    ∀ (f : Nat) (e : Nat) (acc : List D) (x : Sl), (P.drop e).length < f → e ≤ P.length → acc.length ≤ e → ∀ n, (P.drop e).length < n →
    (∃ acc' e', rdL g f acc (P.drop e) = some (acc', P.drop e') ∧ e ≤ e' ∧ e' ≤ P.length ∧ acc'.length ≤ e' ∧ ∃ x', whF rcC (rcB φ) n [.va (.list (P.map pD)), A, .va (.int dp), .ow acc, .va (.int (e : Int)), x] = some (.nx [.va (.list (P.map pD)), A, .va (.int dp), .ow acc', .va (.int (e' : Int)), x'])) ∨
    (rdL g f acc (P.drop e) = none ∧ whF rcC (rcB φ) n [.va (.list (P.map pD)), A, .va (.int dp), .ow acc, .va (.int (e : Int)), x] = some (.er "BadText"))
  | 0, e, acc, x, hf, _, _, n, hn => by omega
  | f + 1, e, acc, x, hf, he, ha, n, hn => by
    obtain ⟨n, rfl⟩ : ∃ k, n = k + 1 := ⟨n - 1, by omega⟩
    have tst := rc_test hP A (.va (.int dp)) (.ow acc) e x
    have hab : acc.length ≤ big := MX_big (by omega)
    cases hs : P.drop e with
    | nil =>
      rw [hs] at tst
      refine .inl ⟨acc, e, by rw [hs]; rfl, Nat.le_refl _, he, ha, x, ?_⟩
      rw [whF_f (by rw [tst]; rfl)]
    | cons t r =>
      rw [hs] at tst hf hn
      obtain ⟨i1, i2, i3⟩ := ix_tok hs
      simp only [List.take_succ_cons, List.take_zero] at tst
      rw [rdL_cons]
      -- a step
      have step : ∀ (q : Nat) (c : Bool), (decide (t = [44]) = c) → (q = if c = true then 1 else 0) → rcC [.va (.list (P.map pD)), A, .va (.int dp), .ow acc, .va (.int (e : Int)), x] = some (.ok true) →
          (∃ acc' e', (match g (P.drop (e + 1 + q)) with
            | none => none
            | some (d, r') => rdL g f (acc ++ [d]) r') = some (acc', P.drop e') ∧ e ≤ e' ∧ e' ≤ P.length ∧ acc'.length ≤ e' ∧ ∃ x', whF rcC (rcB φ) (n + 1) [.va (.list (P.map pD)), A, .va (.int dp), .ow acc, .va (.int (e : Int)), x] = some (.nx [.va (.list (P.map pD)), A, .va (.int dp), .ow acc', .va (.int (e' : Int)), x'])) ∨
          ((match g (P.drop (e + 1 + q)) with
            | none => none
            | some (d, r') => rdL g f (acc ++ [d]) r') = none ∧ whF rcC (rcB φ) (n + 1) [.va (.list (P.map pD)), A, .va (.int dp), .ow acc, .va (.int (e : Int)), x] = some (.er "BadText")) := by
        intro q c hc hq ht
        have eq1 : oInt1 [.bool (mk t == mk [44])] = some (.int (q : Int)) := by
          rw [mk_beq, hc, hq]
          cases c <;> rfl
        have ee : (e : Int) + 1 + (q : Int) = ((e + 1 + q : Nat) : Int) := by omega
        have arg : ∀ y : Sl, fCons (fVar 0) (fCons (f2 oAdd (f2 oAdd (fOpd 4) (fCon (.int 1))) (fB oInt1 (fCons (f2 oEq (f2 oIx (fOpd 0) (fOpd 4)) (fCon (.str ","))) fNil))) (fCons (f2 oAdd (fOpd 2) (fCon (.int 1))) fNil)) [.va (.list (P.map pD)), A, .va (.int dp), .ow acc, .va (.int (e : Int)), y] = some (.ok [.list (P.map pD), .int ((e + 1 + q : Nat) : Int), .int (dp + 1)]) := by
          intro y
          simp only [fOwn, fOpN,  fSeq, fNext, sRet, sRetN, sIf, sSet, sSetO, sAsg, sApp, sFor, forF, fVar, fOpd, fCon, f2, f1, fNil, fCons, bR, bL, bA, bLL, oR, fT, gAnd, gOr, gNot, gYes, fAnd, fOr, fNot, fIte, fTup, fLst, fCall, fCallO, fB, fM1, fSl, fiNo, fiSm, fLc, wLst, wTup, wStr, wRg1, wRg2, wZip, wEnum, gfN, gfTup, gsNil, gsCons, fLrg, fLrg3, wipeG, xSeq, xSet, xOf, xCall, xIf, xRet, xNext, xTup, xCons, xNil, xPut, xCallP, sRetX, sSetX, List.getElem?_cons_zero, List.getElem?_cons_succ, List.set_cons_zero, List.set_cons_succ, bR_ok, bL_ok, bLL_ok, bA_ok, oR_some, i1, s_comma, oEq_str, eq1, oAdd_int, ee]
        rcases H (e + 1 + q) with ⟨h1, h2⟩ | ⟨d, e', h1, h2, h3, h4⟩
        · rw [h1]
          refine .inr ⟨rfl, whF_er ht (seq_er ?_)⟩
          unfold sAsg
          rw [call_of (arg x) h2]
        · rw [h1]
          have st : whF rcC (rcB φ) (n + 1) [.va (.list (P.map pD)), A, .va (.int dp), .ow acc, .va (.int (e : Int)), x] = whF rcC (rcB φ) n [.va (.list (P.map pD)), A, .va (.int dp), .ow (acc ++ [d]), .va (.int (e' : Int)), .va d] := by
            refine whF_t ht (seq_nx (γ1 := [.va (.list (P.map pD)), A, .va (.int dp), .ow acc, .va (.int (e' : Int)), .va d]) ?_ ?_)
            · unfold sAsg
              rw [call_of (arg x) h4]
              rfl
            · simp only [fOwn, fOpN,  fSeq, fNext, sRet, sRetN, sIf, sSet, sSetO, sAsg, sApp, sFor, forF, fVar, fOpd, fCon, f2, f1, fNil, fCons, bR, bL, bA, bLL, oR, fT, gAnd, gOr, gNot, gYes, fAnd, fOr, fNot, fIte, fTup, fLst, fCall, fCallO, fB, fM1, fSl, fiNo, fiSm, fLc, wLst, wTup, wStr, wRg1, wRg2, wZip, wEnum, gfN, gfTup, gsNil, gsCons, fLrg, fLrg3, wipeG, xSeq, xSet, xOf, xCall, xIf, xRet, xNext, xTup, xCons, xNil, xPut, xCallP, sRetX, sSetX, List.getElem?_cons_zero, List.getElem?_cons_succ, List.set_cons_zero, List.set_cons_succ, hab, if_true]
          rw [st]
          have l1 := List.length_drop (i := e) (l := P)
          rw [hs] at l1
          have l2 := List.length_drop (i := e') (l := P)
          rcases read_loop hP hL g φ dp A H f e' (acc ++ [d]) (.va d) (by omega) h3 (by rw [List.length_append]; simp only [List.length_cons, List.length_nil]; omega) n (by omega) with ⟨acc', e'', k1, k2, k3, k4, x', k5⟩ | ⟨k1, k2⟩
          · exact .inl ⟨acc', e'', k1, by omega, k3, k4, x', k5⟩
          · exact .inr ⟨k1, k2⟩
      by_cases t40 : t = [40]
      · rw [if_pos t40]
        have s1 := step 0 false (by rw [t40]; rfl) rfl (by rw [tst, t40]; rfl)
        rw [show e + 1 + 0 = e + 1 from rfl, i3] at s1
        exact s1
      · rw [if_neg t40]
        by_cases t44 : t = [44]
        · rw [if_pos t44]
          have s1 := step 1 true (by rw [t44]; rfl) rfl (by rw [tst, t44]; rfl)
          rw [show P.drop (e + 1 + 1) = r.drop 1 from by rw [← i3, List.drop_drop]] at s1
          exact s1
        · rw [if_neg t44]
          refine .inl ⟨acc, e, by rw [hs], Nat.le_refl _, he, ha, x, ?_⟩
          rw [whF_f (by rw [tst]; simp [t40, t44])]
end K02

namespace K02
open PySem PySem.Spec PyProof.Rows L2 Py
/-! ### read_at -/
theorem head_take {r : List (List Nat)} {t : List Nat} : r.take 1 = [t] ↔ r.head? = some t := by
  cases r with
  | nil => simp
  | cons a r => simp
theorem run_read_at {P : List (List Nat)} (hP : TxL P) (hw : ∀ p ∈ P, 1 ≤ p.length ∧ p.length ≤ MX) (hL : P.length ≤ MX) : ∀ f : Nat, ∀ n, f + 2 ≤ n → ∀ b, RdOk P (rdP f) (Phi n .read_at) (9 - (f : Int)) b := by
  intro f
  induction f with
  | zero =>
    intro n hn b
    obtain ⟨n, rfl⟩ : ∃ k, n = k + 1 := ⟨n - 1, by omega⟩
    refine .inl ⟨rfl, ?_⟩
    rw [phi_read_at]
    refine runF_er rfl ?_
    unfold f_read_at
    refine seq_er ?_
    by_cases hb : (P.length : Int) ≤ (b : Int)
    · simp [entry, fOwn, fOpN,  fSeq, fNext, sRet, sRetN, sIf, sSet, sSetO, sAsg, sApp, sFor, forF, fVar, fOpd, fCon, f2, f1, fNil, fCons, bR, bL, bA, bLL, oR, fT, gAnd, gOr, gNot, gYes, fAnd, fOr, fNot, fIte, fTup, fLst, fCall, fCallO, fB, fM1, fSl, fiNo, fiSm, fLc, wLst, wTup, wStr, wRg1, wRg2, wZip, wEnum, gfN, gfTup, gsNil, gsCons, fLrg, fLrg3, wipeG, xSeq, xSet, xOf, xCall, xIf, xRet, xNext, xTup, xCons, xNil, xPut, xCallP, sRetX, sSetX, List.getElem?_cons_zero, List.getElem?_cons_succ, List.set_cons_zero, List.set_cons_succ, List.replicate, hb, sRaise]
    · simp [entry, fOwn, fOpN,  fSeq, fNext, sRet, sRetN, sIf, sSet, sSetO, sAsg, sApp, sFor, forF, fVar, fOpd, fCon, f2, f1, fNil, fCons, bR, bL, bA, bLL, oR, fT, gAnd, gOr, gNot, gYes, fAnd, fOr, fNot, fIte, fTup, fLst, fCall, fCallO, fB, fM1, fSl, fiNo, fiSm, fLc, wLst, wTup, wStr, wRg1, wRg2, wZip, wEnum, gfN, gfTup, gsNil, gsCons, fLrg, fLrg3, wipeG, xSeq, xSet, xOf, xCall, xIf, xRet, xNext, xTup, xCons, xNil, xPut, xCallP, sRetX, sSetX, List.getElem?_cons_zero, List.getElem?_cons_succ, List.set_cons_zero, List.set_cons_succ, List.replicate, hb, sRaise]
  | succ f ih =>
    intro n hn b
    obtain ⟨n, rfl⟩ : ∃ k, n = k + 1 := ⟨n - 1, by omega⟩
    have hdp : (9 - ((f + 1 : Nat) : Int)) + 1 = 9 - (f : Int) := by omega
    have H : ∀ b, RdOk P (rdP f) (Phi n .read_at) ((9 - ((f + 1 : Nat) : Int)) + 1) b := fun b => by rw [hdp]; exact ih n (by omega) b
    have hd8 : ¬ (8 : Int) < 9 - ((f + 1 : Nat) : Int) := by omega
    generalize (9 - ((f + 1 : Nat) : Int)) = dp at H hd8 ⊢
    unfold RdOk
    rw [phi_read_at]
    cases hs : P.drop b with
    | nil =>
      refine .inl ⟨rfl, runF_er rfl ?_⟩
      have hb : (P.length : Int) ≤ (b : Int) := by have := drop_nil hs; omega
      unfold f_read_at
      refine seq_er ?_
      simp [entry, fOwn, fOpN,  fSeq, fNext, sRet, sRetN, sIf, sSet, sSetO, sAsg, sApp, sFor, forF, fVar, fOpd, fCon, f2, f1, fNil, fCons, bR, bL, bA, bLL, oR, fT, gAnd, gOr, gNot, gYes, fAnd, fOr, fNot, fIte, fTup, fLst, fCall, fCallO, fB, fM1, fSl, fiNo, fiSm, fLc, wLst, wTup, wStr, wRg1, wRg2, wZip, wEnum, gfN, gfTup, gsNil, gsCons, fLrg, fLrg3, wipeG, xSeq, xSet, xOf, xCall, xIf, xRet, xNext, xTup, xCons, xNil, xPut, xCallP, sRetX, sSetX, List.getElem?_cons_zero, List.getElem?_cons_succ, List.set_cons_zero, List.set_cons_succ, List.replicate, hb, sRaise]
    | cons w r =>
      obtain ⟨i1, i2, i3⟩ := ix_tok hs
      have hwm : w ∈ P := List.mem_of_mem_drop (by rw [hs]; exact List.mem_cons_self)
      have hb : ¬ (P.length : Int) ≤ (b : Int) := by omega
      have b1 : (1 : Nat) ≤ big := by decide
      have b2 : (2 : Nat) ≤ big := by decide
      have sn := sl_next P b
      rw [i3] at sn
      have ne := ne_tok (l := r.take 1) (by rw [← i3]; exact (hP.drop _).take 1) (tx1 40)
      have g0 : entry 6 [.list (P.map pD), .int (b : Int), .int dp] = [.va (.list (P.map pD)), .va (.int (b : Int)), .va (.int dp), .no, .no, .no] := rfl
      have first : ∀ (rest : Fs), fSeq (sIf (gOr (fT (f2 oGe (fOpd 1) (fB oLen (fCons (fOpd 0) fNil)))) (fT (f2 oGt (fOpd 2) (fCon (.int 8))))) (sRaise "BadText") fNext) rest [.va (.list (P.map pD)), .va (.int (b : Int)), .va (.int dp), .no, .no, .no] = rest [.va (.list (P.map pD)), .va (.int (b : Int)), .va (.int dp), .no, .no, .no] := fun rest => fSeq_nx (by simp [fOwn, fOpN,  fSeq, fNext, sRet, sRetN, sIf, sSet, sSetO, sAsg, sApp, sFor, forF, fVar, fOpd, fCon, f2, f1, fNil, fCons, bR, bL, bA, bLL, oR, fT, gAnd, gOr, gNot, gYes, fAnd, fOr, fNot, fIte, fTup, fLst, fCall, fCallO, fB, fM1, fSl, fiNo, fiSm, fLc, wLst, wTup, wStr, wRg1, wRg2, wZip, wEnum, gfN, gfTup, gsNil, gsCons, fLrg, fLrg3, wipeG, xSeq, xSet, xOf, xCall, xIf, xRet, xNext, xTup, xCons, xNil, xPut, xCallP, sRetX, sSetX, List.getElem?_cons_zero, List.getElem?_cons_succ, List.set_cons_zero, List.set_cons_succ, hb, hd8])
      rw [rdP_cons]
      by_cases ho : r.head? = some [40]
      · rw [if_pos ho]
        rw [show decide (r.take 1 = [[40]]) = true from decide_eq_true (head_take.mpr ho)] at ne
        have l1 := List.length_drop (i := b + 1) (l := P)
        rw [i3] at l1
        have second : ∀ (rest : Fs), fSeq (sIf (fT (f2 oNe (fSl (fOpd 0) (fiSm (f2 oAdd (fOpd 1) (fCon (.int 1)))) (fiSm (f2 oAdd (fOpd 1) (fCon (.int 2))))) (fLst (fCons (fCon (.str "(")) fNil)))) (sRet (fTup (fCons (fCall (Phi n .part_of) (fCons (f2 oIx (fOpd 0) (fOpd 1)) fNil)) (fCons (f2 oAdd (fOpd 1) (fCon (.int 1))) fNil)))) fNext) rest [.va (.list (P.map pD)), .va (.int (b : Int)), .va (.int dp), .no, .no, .no] = rest [.va (.list (P.map pD)), .va (.int (b : Int)), .va (.int dp), .no, .no, .no] := fun rest => fSeq_nx (by
          simp only [fOwn, fOpN,  fSeq, fNext, sRet, sRetN, sIf, sSet, sSetO, sAsg, sApp, sFor, forF, fVar, fOpd, fCon, f2, f1, fNil, fCons, bR, bL, bA, bLL, oR, fT, gAnd, gOr, gNot, gYes, fAnd, fOr, fNot, fIte, fTup, fLst, fCall, fCallO, fB, fM1, fSl, fiNo, fiSm, fLc, wLst, wTup, wStr, wRg1, wRg2, wZip, wEnum, gfN, gfTup, gsNil, gsCons, fLrg, fLrg3, wipeG, xSeq, xSet, xOf, xCall, xIf, xRet, xNext, xTup, xCons, xNil, xPut, xCallP, sRetX, sSetX, List.getElem?_cons_zero, List.getElem?_cons_succ, List.set_cons_zero, List.set_cons_succ, bR_ok, bL_ok, bLL_ok, bA_ok, oR_some, oAdd_int, sn, s_open, ne, b1, List.length_cons, List.length_nil, Nat.zero_add, if_true, Bool.not_true])
        have third : sSetO 3 (fLst (fCons (f2 oIx (fOpd 0) (fOpd 1)) fNil)) [.va (.list (P.map pD)), .va (.int (b : Int)), .va (.int dp), .no, .no, .no] = some (.nx [.va (.list (P.map pD)), .va (.int (b : Int)), .va (.int dp), .ow [pD w], .no, .no]) := by
          simp only [fOwn, fOpN,  fSeq, fNext, sRet, sRetN, sIf, sSet, sSetO, sAsg, sApp, sFor, forF, fVar, fOpd, fCon, f2, f1, fNil, fCons, bR, bL, bA, bLL, oR, fT, gAnd, gOr, gNot, gYes, fAnd, fOr, fNot, fIte, fTup, fLst, fCall, fCallO, fB, fM1, fSl, fiNo, fiSm, fLc, wLst, wTup, wStr, wRg1, wRg2, wZip, wEnum, gfN, gfTup, gsNil, gsCons, fLrg, fLrg3, wipeG, xSeq, xSet, xOf, xCall, xIf, xRet, xNext, xTup, xCons, xNil, xPut, xCallP, sRetX, sSetX, List.getElem?_cons_zero, List.getElem?_cons_succ, List.set_cons_zero, List.set_cons_succ, bR_ok, bL_ok, bLL_ok, bA_ok, oR_some, i1, b1, List.length_cons, List.length_nil, Nat.zero_add, if_true, pD]
        have e1 : (b : Int) + 1 = ((b + 1 : Nat) : Int) := by omega
        have fourth : sSet 4 (f2 oAdd (fOpd 1) (fCon (.int 1))) [.va (.list (P.map pD)), .va (.int (b : Int)), .va (.int dp), .ow [pD w], .no, .no] = some (.nx [.va (.list (P.map pD)), .va (.int (b : Int)), .va (.int dp), .ow [pD w], .va (.int ((b + 1 : Nat) : Int)), .no]) := by
          simp only [fOwn, fOpN,  fSeq, fNext, sRet, sRetN, sIf, sSet, sSetO, sAsg, sApp, sFor, forF, fVar, fOpd, fCon, f2, f1, fNil, fCons, bR, bL, bA, bLL, oR, fT, gAnd, gOr, gNot, gYes, fAnd, fOr, fNot, fIte, fTup, fLst, fCall, fCallO, fB, fM1, fSl, fiNo, fiSm, fLc, wLst, wTup, wStr, wRg1, wRg2, wZip, wEnum, gfN, gfTup, gsNil, gsCons, fLrg, fLrg3, wipeG, xSeq, xSet, xOf, xCall, xIf, xRet, xNext, xTup, xCons, xNil, xPut, xCallP, sRetX, sSetX, List.getElem?_cons_zero, List.getElem?_cons_succ, List.set_cons_zero, List.set_cons_succ, bR_ok, oR_some, oAdd_int, e1]
        have lp := read_loop hP hL (rdP f) (Phi n .read_at) dp (.va (.int (b : Int))) H (r.length + 1) (b + 1) [pD w] .no (by rw [i3]; omega) (by omega) (by simp) fuel (by rw [i3]; exact fuel_gt (by unfold MX at hL; omega))
        rw [i3] at lp
        rcases lp with ⟨acc', e', k1, k2, k3, k4, x', k5⟩ | ⟨k1, k2⟩
        · rw [k1]
          have so := sl_one P e'
          have ne2 := ne_tok (l := (P.drop e').take 1) ((hP.drop _).take 1) (tx1 41)
          have tst : fT (f2 oNe (fSl (fOpd 0) (fiSm (fOpd 4)) (fiSm (f2 oAdd (fOpd 4) (fCon (.int 1))))) (fLst (fCons (fCon (.str ")")) fNil))) [.va (.list (P.map pD)), .va (.int (b : Int)), .va (.int dp), .ow acc', .va (.int (e' : Int)), x'] = some (.ok (!decide ((P.drop e').take 1 = [[41]]))) := by
            simp only [fOwn, fOpN,  fSeq, fNext, sRet, sRetN, sIf, sSet, sSetO, sAsg, sApp, sFor, forF, fVar, fOpd, fCon, f2, f1, fNil, fCons, bR, bL, bA, bLL, oR, fT, gAnd, gOr, gNot, gYes, fAnd, fOr, fNot, fIte, fTup, fLst, fCall, fCallO, fB, fM1, fSl, fiNo, fiSm, fLc, wLst, wTup, wStr, wRg1, wRg2, wZip, wEnum, gfN, gfTup, gsNil, gsCons, fLrg, fLrg3, wipeG, xSeq, xSet, xOf, xCall, xIf, xRet, xNext, xTup, xCons, xNil, xPut, xCallP, sRetX, sSetX, List.getElem?_cons_zero, List.getElem?_cons_succ, List.set_cons_zero, List.set_cons_succ, bR_ok, bL_ok, bLL_ok, bA_ok, oR_some, oAdd_int, so, s_close, ne2, b1, List.length_cons, List.length_nil, Nat.zero_add, if_true]
          have all : ∀ o : Option Out, (fSeq (sIf (fT (f2 oNe (fSl (fOpd 0) (fiSm (fOpd 4)) (fiSm (f2 oAdd (fOpd 4) (fCon (.int 1))))) (fLst (fCons (fCon (.str ")")) fNil)))) (sRaise "BadText") fNext) (sRet (fTup (fCons (fB oTuple (fCons (fOpd 3) fNil)) (fCons (f2 oAdd (fOpd 4) (fCon (.int 1))) fNil)))) [.va (.list (P.map pD)), .va (.int (b : Int)), .va (.int dp), .ow acc', .va (.int (e' : Int)), x'] = o) → f_read_at (Phi n) (entry 6 [.list (P.map pD), .int (b : Int), .int dp]) = o := by
            intro o ho'
            unfold f_read_at
            rw [g0, first, second, fSeq_nx third, fSeq_nx fourth]
            exact seq_nx k5 ho'
          cases hs' : P.drop e' with
          | nil =>
            refine .inl ⟨rfl, runF_er rfl (all _ ?_)⟩
            rw [hs'] at tst
            refine seq_er ?_
            rw [sIf_of tst]
            rfl
          | cons t r' =>
            obtain ⟨j1, j2, j3⟩ := ix_tok hs'
            rw [hs'] at tst
            by_cases ht : t = [41]
            · refine .inr ⟨.tuple acc', e' + 1, by simp only [ht, if_true, j3], by omega, by omega, runF_rt rfl (all _ ?_)⟩
              have e2 : (e' : Int) + 1 = ((e' + 1 : Nat) : Int) := by omega
              rw [fSeq_nx (γ1 := [.va (.list (P.map pD)), .va (.int (b : Int)), .va (.int dp), .ow acc', .va (.int (e' : Int)), x']) (by rw [sIf_of tst, ht]; rfl)]
              simp only [fOwn, fOpN,  fSeq, fNext, sRet, sRetN, sIf, sSet, sSetO, sAsg, sApp, sFor, forF, fVar, fOpd, fCon, f2, f1, fNil, fCons, bR, bL, bA, bLL, oR, fT, gAnd, gOr, gNot, gYes, fAnd, fOr, fNot, fIte, fTup, fLst, fCall, fCallO, fB, fM1, fSl, fiNo, fiSm, fLc, wLst, wTup, wStr, wRg1, wRg2, wZip, wEnum, gfN, gfTup, gsNil, gsCons, fLrg, fLrg3, wipeG, xSeq, xSet, xOf, xCall, xIf, xRet, xNext, xTup, xCons, xNil, xPut, xCallP, sRetX, sSetX, List.getElem?_cons_zero, List.getElem?_cons_succ, List.set_cons_zero, List.set_cons_succ, bR_ok, bL_ok, bLL_ok, bA_ok, oR_some, oAdd_int, oTuple, e2, b2, List.length_cons, List.length_nil, Nat.zero_add, Nat.reduceAdd, if_true]
            · refine .inl ⟨by simp only [ht, if_false], runF_er rfl (all _ ?_)⟩
              refine seq_er ?_
              rw [sIf_of tst]
              rw [show decide ((t :: r').take 1 = [[41]]) = false from decide_eq_false (by simpa using ht)]
              rfl
        · rw [k1]
          refine .inl ⟨rfl, runF_er rfl ?_⟩
          unfold f_read_at
          rw [g0, first, second, fSeq_nx third, fSeq_nx fourth]
          exact seq_er k2
      · rw [if_neg ho]
        rw [show decide (r.take 1 = [[40]]) = false from decide_eq_false (fun z => ho (head_take.mp z))] at ne
        have rp := run_part (hw w hwm).1 (hw w hwm).2 (n - 1)
        rw [show n - 1 + 1 = n by omega] at rp
        have tst : fT (f2 oNe (fSl (fOpd 0) (fiSm (f2 oAdd (fOpd 1) (fCon (.int 1)))) (fiSm (f2 oAdd (fOpd 1) (fCon (.int 2))))) (fLst (fCons (fCon (.str "(")) fNil))) [.va (.list (P.map pD)), .va (.int (b : Int)), .va (.int dp), .no, .no, .no] = some (.ok true) := by
          simp only [fOwn, fOpN,  fSeq, fNext, sRet, sRetN, sIf, sSet, sSetO, sAsg, sApp, sFor, forF, fVar, fOpd, fCon, f2, f1, fNil, fCons, bR, bL, bA, bLL, oR, fT, gAnd, gOr, gNot, gYes, fAnd, fOr, fNot, fIte, fTup, fLst, fCall, fCallO, fB, fM1, fSl, fiNo, fiSm, fLc, wLst, wTup, wStr, wRg1, wRg2, wZip, wEnum, gfN, gfTup, gsNil, gsCons, fLrg, fLrg3, wipeG, xSeq, xSet, xOf, xCall, xIf, xRet, xNext, xTup, xCons, xNil, xPut, xCallP, sRetX, sSetX, List.getElem?_cons_zero, List.getElem?_cons_succ, List.set_cons_zero, List.set_cons_succ, bR_ok, bL_ok, bLL_ok, bA_ok, oR_some, oAdd_int, sn, s_open, ne, b1, List.length_cons, List.length_nil, Nat.zero_add, if_true, Bool.not_false]
        have e1 : (b : Int) + 1 = ((b + 1 : Nat) : Int) := by omega
        cases hp : partP w with
        | none =>
          rw [hp] at rp
          simp only at rp
          refine .inl ⟨rfl, runF_er rfl ?_⟩
          unfold f_read_at
          rw [g0, first]
          refine seq_er ?_
          rw [sIf_of tst, if_pos rfl]
          simp only [fOwn, fOpN,  fSeq, fNext, sRet, sRetN, sIf, sSet, sSetO, sAsg, sApp, sFor, forF, fVar, fOpd, fCon, f2, f1, fNil, fCons, bR, bL, bA, bLL, oR, fT, gAnd, gOr, gNot, gYes, fAnd, fOr, fNot, fIte, fTup, fLst, fCall, fCallO, fB, fM1, fSl, fiNo, fiSm, fLc, wLst, wTup, wStr, wRg1, wRg2, wZip, wEnum, gfN, gfTup, gsNil, gsCons, fLrg, fLrg3, wipeG, xSeq, xSet, xOf, xCall, xIf, xRet, xNext, xTup, xCons, xNil, xPut, xCallP, sRetX, sSetX, List.getElem?_cons_zero, List.getElem?_cons_succ, List.set_cons_zero, List.set_cons_succ, bR_ok, bL_ok, bLL_ok, bA_ok, oR_some, i1, rp]
        | some d =>
          rw [hp] at rp
          simp only at rp
          refine .inr ⟨d, b + 1, by rw [i3], by omega, by omega, runF_rt rfl ?_⟩
          unfold f_read_at
          rw [g0, first]
          refine seq_rt ?_
          rw [sIf_of tst, if_pos rfl]
          simp only [fOwn, fOpN,  fSeq, fNext, sRet, sRetN, sIf, sSet, sSetO, sAsg, sApp, sFor, forF, fVar, fOpd, fCon, f2, f1, fNil, fCons, bR, bL, bA, bLL, oR, fT, gAnd, gOr, gNot, gYes, fAnd, fOr, fNot, fIte, fTup, fLst, fCall, fCallO, fB, fM1, fSl, fiNo, fiSm, fLc, wLst, wTup, wStr, wRg1, wRg2, wZip, wEnum, gfN, gfTup, gsNil, gsCons, fLrg, fLrg3, wipeG, xSeq, xSet, xOf, xCall, xIf, xRet, xNext, xTup, xCons, xNil, xPut, xCallP, sRetX, sSetX, List.getElem?_cons_zero, List.getElem?_cons_succ, List.set_cons_zero, List.set_cons_succ, bR_ok, bL_ok, bLL_ok, bA_ok, oR_some, oAdd_int, i1, rp, e1, b2, List.length_cons, List.length_nil, Nat.zero_add, Nat.reduceAdd, if_true]
end K02

namespace K02
open PySem PySem.Spec PyProof.Rows L2 Py
/-! ### what is no statement -/
theorem bad_eval {ds : List D} (h : ∀ (deep n : Nat), deep + 1 ≤ n → f_is_formed (Phi n) [.va (.tuple ds), .va (.int ((deep : Int) + 1))] = some (.rt (.bool false))) : Bad (.tuple ds) := bad_of h
theorem bad_mark {d : D} (h : ∀ n, Phi (n + 1) .is_mark [d] = some (.ok (.bool false))) : Bad (.tuple [.str "mark", d]) := by
  refine bad_of fun deep n hn => ?_
  have e1 : ((deep : Int) + 1 == 0) = false := beq_eq_false_iff_ne.mpr (by omega)
  obtain ⟨n, rfl⟩ : ∃ k, n = k + 1 := ⟨n - 1, by omega⟩
  have i := h n
  unfold f_is_formed
  simp [fOwn, fOpN,  fSeq, fNext, sRet, sRetN, sIf, sSet, sSetO, sAsg, sApp, sFor, forF, fVar, fOpd, fCon, f2, f1, fNil, fCons, bR, bL, bA, bLL, oR, fT, gAnd, gOr, gNot, gYes, fAnd, fOr, fNot, fIte, fTup, fLst, fCall, fCallO, fB, fM1, fSl, fiNo, fiSm, fLc, wLst, wTup, wStr, wRg1, wRg2, wZip, wEnum, gfN, gfTup, gsNil, gsCons, fLrg, fLrg3, wipeG, xSeq, xSet, xOf, xCall, xIf, xRet, xNext, xTup, xCons, xNil, xPut, xCallP, sRetX, sSetX, List.getElem?_cons_zero, List.getElem?_cons_succ, List.set_cons_zero, List.set_cons_succ, tpT, tpS, e1, i, oLen]
theorem bad_mark0 : Bad (.tuple [.str "mark", .str ""]) := by
  refine bad_of fun deep n hn => ?_
  have e1 : ((deep : Int) + 1 == 0) = false := beq_eq_false_iff_ne.mpr (by omega)
  obtain ⟨n, rfl⟩ : ∃ k, n = k + 1 := ⟨n - 1, by omega⟩
  have i : Phi (n + 1) .is_mark [.str ""] = some (.ok (.bool true)) := run_mark_str (m := "") (by decide) n
  have e : oNe (.str "") (.str "") = some (.bool false) := by rw [oNe_str, beq_self_eq_true]; rfl
  unfold f_is_formed
  simp [fOwn, fOpN,  fSeq, fNext, sRet, sRetN, sIf, sSet, sSetO, sAsg, sApp, sFor, forF, fVar, fOpd, fCon, f2, f1, fNil, fCons, bR, bL, bA, bLL, oR, fT, gAnd, gOr, gNot, gYes, fAnd, fOr, fNot, fIte, fTup, fLst, fCall, fCallO, fB, fM1, fSl, fiNo, fiSm, fLc, wLst, wTup, wStr, wRg1, wRg2, wZip, wEnum, gfN, gfTup, gsNil, gsCons, fLrg, fLrg3, wipeG, xSeq, xSet, xOf, xCall, xIf, xRet, xNext, xTup, xCons, xNil, xPut, xCallP, sRetX, sSetX, List.getElem?_cons_zero, List.getElem?_cons_succ, List.set_cons_zero, List.set_cons_succ, tpT, tpS, e1, i, oLen]
theorem bad_within {d : D} {g : D} (h : ∀ n, Phi (n + 1) .is_number [d] = some (.ok (.bool false))) : Bad (.tuple [.str "within", d, g]) := by
  refine bad_of fun deep n hn => ?_
  have e1 : ((deep : Int) + 1 == 0) = false := beq_eq_false_iff_ne.mpr (by omega)
  obtain ⟨n, rfl⟩ : ∃ k, n = k + 1 := ⟨n - 1, by omega⟩
  have i := h n
  unfold f_is_formed
  simp [fOwn, fOpN,  fSeq, fNext, sRet, sRetN, sIf, sSet, sSetO, sAsg, sApp, sFor, forF, fVar, fOpd, fCon, f2, f1, fNil, fCons, bR, bL, bA, bLL, oR, fT, gAnd, gOr, gNot, gYes, fAnd, fOr, fNot, fIte, fTup, fLst, fCall, fCallO, fB, fM1, fSl, fiNo, fiSm, fLc, wLst, wTup, wStr, wRg1, wRg2, wZip, wEnum, gfN, gfTup, gsNil, gsCons, fLrg, fLrg3, wipeG, xSeq, xSet, xOf, xCall, xIf, xRet, xNext, xTup, xCons, xNil, xPut, xCallP, sRetX, sSetX, List.getElem?_cons_zero, List.getElem?_cons_succ, List.set_cons_zero, List.set_cons_succ, tpT, tpS, e1, i, oLen]
/-- as many parts as it has not -/
theorem bad_size {w : Str} {ds : List D} (h : (w = "mark" ∧ ds.length ≠ 1) ∨ (w = "yes" ∧ ds.length ≠ 0) ∨ (w = "within" ∧ ds.length ≠ 2) ∨ ((w = "not" ∨ w = "next" ∨ w = "before") ∧ ds.length ≠ 1) ∨ ((w = "and" ∨ w = "or" ∨ w = "until" ∨ w = "since") ∧ ds.length ≠ 2)) : Bad (.tuple (.str w :: ds)) := by
  refine bad_of fun deep n hn => ?_
  have e1 : ((deep : Int) + 1 == 0) = false := beq_eq_false_iff_ne.mpr (by omega)
  have l0 : ((ds.length : Int) + 1 == 0) = false := beq_eq_false_iff_ne.mpr (by omega)
  unfold f_is_formed
  rcases h with ⟨rfl, h⟩ | ⟨rfl, h⟩ | ⟨rfl, h⟩ | ⟨rfl | rfl | rfl, h⟩ | ⟨rfl | rfl | rfl | rfl, h⟩
  · have l : ((ds.length : Int) + 1 == 2) = false := beq_eq_false_iff_ne.mpr (by omega)
    simp [fOwn, fOpN,  fSeq, fNext, sRet, sRetN, sIf, sSet, sSetO, sAsg, sApp, sFor, forF, fVar, fOpd, fCon, f2, f1, fNil, fCons, bR, bL, bA, bLL, oR, fT, gAnd, gOr, gNot, gYes, fAnd, fOr, fNot, fIte, fTup, fLst, fCall, fCallO, fB, fM1, fSl, fiNo, fiSm, fLc, wLst, wTup, wStr, wRg1, wRg2, wZip, wEnum, gfN, gfTup, gsNil, gsCons, fLrg, fLrg3, wipeG, xSeq, xSet, xOf, xCall, xIf, xRet, xNext, xTup, xCons, xNil, xPut, xCallP, sRetX, sSetX, List.getElem?_cons_zero, List.getElem?_cons_succ, List.set_cons_zero, List.set_cons_succ, tpT, tpS, e1, oLen, l0, l]
  · have l : ((ds.length : Int) + 1 == 1) = false := beq_eq_false_iff_ne.mpr (by omega)
    simp [fOwn, fOpN,  fSeq, fNext, sRet, sRetN, sIf, sSet, sSetO, sAsg, sApp, sFor, forF, fVar, fOpd, fCon, f2, f1, fNil, fCons, bR, bL, bA, bLL, oR, fT, gAnd, gOr, gNot, gYes, fAnd, fOr, fNot, fIte, fTup, fLst, fCall, fCallO, fB, fM1, fSl, fiNo, fiSm, fLc, wLst, wTup, wStr, wRg1, wRg2, wZip, wEnum, gfN, gfTup, gsNil, gsCons, fLrg, fLrg3, wipeG, xSeq, xSet, xOf, xCall, xIf, xRet, xNext, xTup, xCons, xNil, xPut, xCallP, sRetX, sSetX, List.getElem?_cons_zero, List.getElem?_cons_succ, List.set_cons_zero, List.set_cons_succ, tpT, tpS, e1, oLen, l0, l]
  · have l : ((ds.length : Int) + 1 == 3) = false := beq_eq_false_iff_ne.mpr (by omega)
    simp [fOwn, fOpN,  fSeq, fNext, sRet, sRetN, sIf, sSet, sSetO, sAsg, sApp, sFor, forF, fVar, fOpd, fCon, f2, f1, fNil, fCons, bR, bL, bA, bLL, oR, fT, gAnd, gOr, gNot, gYes, fAnd, fOr, fNot, fIte, fTup, fLst, fCall, fCallO, fB, fM1, fSl, fiNo, fiSm, fLc, wLst, wTup, wStr, wRg1, wRg2, wZip, wEnum, gfN, gfTup, gsNil, gsCons, fLrg, fLrg3, wipeG, xSeq, xSet, xOf, xCall, xIf, xRet, xNext, xTup, xCons, xNil, xPut, xCallP, sRetX, sSetX, List.getElem?_cons_zero, List.getElem?_cons_succ, List.set_cons_zero, List.set_cons_succ, tpT, tpS, e1, oLen, l0, l]
  · have l : ((ds.length : Int) + 1 == 2) = false := beq_eq_false_iff_ne.mpr (by omega)
    simp [fOwn, fOpN,  fSeq, fNext, sRet, sRetN, sIf, sSet, sSetO, sAsg, sApp, sFor, forF, fVar, fOpd, fCon, f2, f1, fNil, fCons, bR, bL, bA, bLL, oR, fT, gAnd, gOr, gNot, gYes, fAnd, fOr, fNot, fIte, fTup, fLst, fCall, fCallO, fB, fM1, fSl, fiNo, fiSm, fLc, wLst, wTup, wStr, wRg1, wRg2, wZip, wEnum, gfN, gfTup, gsNil, gsCons, fLrg, fLrg3, wipeG, xSeq, xSet, xOf, xCall, xIf, xRet, xNext, xTup, xCons, xNil, xPut, xCallP, sRetX, sSetX, List.getElem?_cons_zero, List.getElem?_cons_succ, List.set_cons_zero, List.set_cons_succ, tpT, tpS, e1, oLen, l0, l, oIn, flatD, PyData.eqv]
  · have l : ((ds.length : Int) + 1 == 2) = false := beq_eq_false_iff_ne.mpr (by omega)
    simp [fOwn, fOpN,  fSeq, fNext, sRet, sRetN, sIf, sSet, sSetO, sAsg, sApp, sFor, forF, fVar, fOpd, fCon, f2, f1, fNil, fCons, bR, bL, bA, bLL, oR, fT, gAnd, gOr, gNot, gYes, fAnd, fOr, fNot, fIte, fTup, fLst, fCall, fCallO, fB, fM1, fSl, fiNo, fiSm, fLc, wLst, wTup, wStr, wRg1, wRg2, wZip, wEnum, gfN, gfTup, gsNil, gsCons, fLrg, fLrg3, wipeG, xSeq, xSet, xOf, xCall, xIf, xRet, xNext, xTup, xCons, xNil, xPut, xCallP, sRetX, sSetX, List.getElem?_cons_zero, List.getElem?_cons_succ, List.set_cons_zero, List.set_cons_succ, tpT, tpS, e1, oLen, l0, l, oIn, flatD, PyData.eqv]
  · have l : ((ds.length : Int) + 1 == 2) = false := beq_eq_false_iff_ne.mpr (by omega)
    simp [fOwn, fOpN,  fSeq, fNext, sRet, sRetN, sIf, sSet, sSetO, sAsg, sApp, sFor, forF, fVar, fOpd, fCon, f2, f1, fNil, fCons, bR, bL, bA, bLL, oR, fT, gAnd, gOr, gNot, gYes, fAnd, fOr, fNot, fIte, fTup, fLst, fCall, fCallO, fB, fM1, fSl, fiNo, fiSm, fLc, wLst, wTup, wStr, wRg1, wRg2, wZip, wEnum, gfN, gfTup, gsNil, gsCons, fLrg, fLrg3, wipeG, xSeq, xSet, xOf, xCall, xIf, xRet, xNext, xTup, xCons, xNil, xPut, xCallP, sRetX, sSetX, List.getElem?_cons_zero, List.getElem?_cons_succ, List.set_cons_zero, List.set_cons_succ, tpT, tpS, e1, oLen, l0, l, oIn, flatD, PyData.eqv]
  · have l : ((ds.length : Int) + 1 == 3) = false := beq_eq_false_iff_ne.mpr (by omega)
    simp [fOwn, fOpN,  fSeq, fNext, sRet, sRetN, sIf, sSet, sSetO, sAsg, sApp, sFor, forF, fVar, fOpd, fCon, f2, f1, fNil, fCons, bR, bL, bA, bLL, oR, fT, gAnd, gOr, gNot, gYes, fAnd, fOr, fNot, fIte, fTup, fLst, fCall, fCallO, fB, fM1, fSl, fiNo, fiSm, fLc, wLst, wTup, wStr, wRg1, wRg2, wZip, wEnum, gfN, gfTup, gsNil, gsCons, fLrg, fLrg3, wipeG, xSeq, xSet, xOf, xCall, xIf, xRet, xNext, xTup, xCons, xNil, xPut, xCallP, sRetX, sSetX, List.getElem?_cons_zero, List.getElem?_cons_succ, List.set_cons_zero, List.set_cons_succ, tpT, tpS, e1, oLen, l0, l, oIn, flatD, PyData.eqv]
  · have l : ((ds.length : Int) + 1 == 3) = false := beq_eq_false_iff_ne.mpr (by omega)
    simp [fOwn, fOpN,  fSeq, fNext, sRet, sRetN, sIf, sSet, sSetO, sAsg, sApp, sFor, forF, fVar, fOpd, fCon, f2, f1, fNil, fCons, bR, bL, bA, bLL, oR, fT, gAnd, gOr, gNot, gYes, fAnd, fOr, fNot, fIte, fTup, fLst, fCall, fCallO, fB, fM1, fSl, fiNo, fiSm, fLc, wLst, wTup, wStr, wRg1, wRg2, wZip, wEnum, gfN, gfTup, gsNil, gsCons, fLrg, fLrg3, wipeG, xSeq, xSet, xOf, xCall, xIf, xRet, xNext, xTup, xCons, xNil, xPut, xCallP, sRetX, sSetX, List.getElem?_cons_zero, List.getElem?_cons_succ, List.set_cons_zero, List.set_cons_succ, tpT, tpS, e1, oLen, l0, l, oIn, flatD, PyData.eqv]
  · have l : ((ds.length : Int) + 1 == 3) = false := beq_eq_false_iff_ne.mpr (by omega)
    simp [fOwn, fOpN,  fSeq, fNext, sRet, sRetN, sIf, sSet, sSetO, sAsg, sApp, sFor, forF, fVar, fOpd, fCon, f2, f1, fNil, fCons, bR, bL, bA, bLL, oR, fT, gAnd, gOr, gNot, gYes, fAnd, fOr, fNot, fIte, fTup, fLst, fCall, fCallO, fB, fM1, fSl, fiNo, fiSm, fLc, wLst, wTup, wStr, wRg1, wRg2, wZip, wEnum, gfN, gfTup, gsNil, gsCons, fLrg, fLrg3, wipeG, xSeq, xSet, xOf, xCall, xIf, xRet, xNext, xTup, xCons, xNil, xPut, xCallP, sRetX, sSetX, List.getElem?_cons_zero, List.getElem?_cons_succ, List.set_cons_zero, List.set_cons_succ, tpT, tpS, e1, oLen, l0, l, oIn, flatD, PyData.eqv]
  · have l : ((ds.length : Int) + 1 == 3) = false := beq_eq_false_iff_ne.mpr (by omega)
    simp [fOwn, fOpN,  fSeq, fNext, sRet, sRetN, sIf, sSet, sSetO, sAsg, sApp, sFor, forF, fVar, fOpd, fCon, f2, f1, fNil, fCons, bR, bL, bA, bLL, oR, fT, gAnd, gOr, gNot, gYes, fAnd, fOr, fNot, fIte, fTup, fLst, fCall, fCallO, fB, fM1, fSl, fiNo, fiSm, fLc, wLst, wTup, wStr, wRg1, wRg2, wZip, wEnum, gfN, gfTup, gsNil, gsCons, fLrg, fLrg3, wipeG, xSeq, xSet, xOf, xCall, xIf, xRet, xNext, xTup, xCons, xNil, xPut, xCallP, sRetX, sSetX, List.getElem?_cons_zero, List.getElem?_cons_succ, List.set_cons_zero, List.set_cons_succ, tpT, tpS, e1, oLen, l0, l, oIn, flatD, PyData.eqv]
theorem run_mk1 {d : D} (h : oIsi "str" d = some (.bool false)) : Bad (.tuple [.str "mark", d]) := bad_mark fun n => run_mark_no n h
/-- another word -/
theorem bad_other {w : Str} {ds : List D} (h : ∀ v ∈ (["mark", "yes", "within", "not", "next", "before", "and", "or", "until", "since"] : List Str), w ≠ v) : Bad (.tuple (.str w :: ds)) := by
  refine bad_of fun deep n hn => ?_
  have e1 : ((deep : Int) + 1 == 0) = false := beq_eq_false_iff_ne.mpr (by omega)
  have l0 : ((ds.length : Int) + 1 == 0) = false := beq_eq_false_iff_ne.mpr (by omega)
  have b : ∀ v ∈ (["mark", "yes", "within", "not", "next", "before", "and", "or", "until", "since"] : List Str), (w == v) = false ∧ (v == w) = false := fun v hv => ⟨beq_eq_false_iff_ne.mpr (h v hv), beq_eq_false_iff_ne.mpr fun z => h v hv z.symm⟩
  have b0 := b "mark" (by simp)
  have b1 := b "yes" (by simp)
  have b2 := b "within" (by simp)
  have b3 := b "not" (by simp)
  have b4 := b "next" (by simp)
  have b5 := b "before" (by simp)
  have b6 := b "and" (by simp)
  have b7 := b "or" (by simp)
  have b8 := b "until" (by simp)
  have b9 := b "since" (by simp)
  clear b h
  unfold f_is_formed
  simp [fOwn, fOpN,  fSeq, fNext, sRet, sRetN, sIf, sSet, sSetO, sAsg, sApp, sFor, forF, fVar, fOpd, fCon, f2, f1, fNil, fCons, bR, bL, bA, bLL, oR, fT, gAnd, gOr, gNot, gYes, fAnd, fOr, fNot, fIte, fTup, fLst, fCall, fCallO, fB, fM1, fSl, fiNo, fiSm, fLc, wLst, wTup, wStr, wRg1, wRg2, wZip, wEnum, gfN, gfTup, gsNil, gsCons, fLrg, fLrg3, wipeG, xSeq, xSet, xOf, xCall, xIf, xRet, xNext, xTup, xCons, xNil, xPut, xCallP, sRetX, sSetX, List.getElem?_cons_zero, List.getElem?_cons_succ, List.set_cons_zero, List.set_cons_succ, tpT, tpS, e1, oLen, l0, b0.1, b1.1, b2.1, oIn, flatD, PyData.eqv, b3.2, b4.2, b5.2, b6.2, b7.2, b8.2, b9.2]
/-- what read_at makes -/
inductive Tr : D → Prop
  | mark (m : Str) (h : m.length ≤ MX) : Tr (.tuple [.str "mark", .str m])
  | yes : Tr (.tuple [.str "yes"])
  | num (i : Nat) (h : i ≤ 4) : Tr (.int (i : Int))
  | node (w : Str) (ds : List D) (h : ∀ d, d ∈ ds → Tr d) : Tr (.tuple (.str w :: ds))
theorem Tr.isi {d : D} (h : Tr d) : oIsi "str" d = some (.bool false) := by
  cases h <;> simp [oIsi, isT, tyN]
def FmOk (deep : Nat) (d : D) : Prop := ∀ n, deep + 1 ≤ n → ∃ b, Phi n .is_formed [d, .int deep] = some (.ok (.bool b)) ∧ (b = true → ∃ s, Val deep s ∧ d = enc s)
theorem Bad.fm {d : D} (h : Bad d) (deep : Nat) : FmOk deep d := fun n hn => ⟨false, h deep n hn, fun z => by cases z⟩
theorem lett_low : ∀ c : Nat, lett c = true → 97 ≤ c ∧ c ≤ 122 := by
  intro c h
  have e : ("abcdefghijklmnopqrstuvwxyz" : Str).cps.toList = (List.range 26).map (97 + ·) := by decide +kernel
  have h' : c ∈ ("abcdefghijklmnopqrstuvwxyz" : Str).cps.toList := by unfold lett at h; exact of_decide_eq_true h
  rw [e] at h'
  obtain ⟨i, hi, rfl⟩ := List.mem_map.mp h'
  have := List.mem_range.mp hi
  omega
theorem isMk_lm {m : Str} (h : isMk m = true) (hn : m ≠ "") : Lm m := by
  unfold isMk at h
  rw [Bool.and_eq_true] at h
  refine ⟨⟨fun x hx => lett_low x (List.all_eq_true.mp h.2 x hx), of_decide_eq_true h.1⟩, hn⟩
theorem fm_step {ds : List D} {deep : Nat} (h : ∀ n, deep + 1 ≤ n → ∃ b, f_is_formed (Phi n) [.va (.tuple ds), .va (.int ((deep : Int) + 1))] = some (.rt (.bool b)) ∧ (b = true → ∃ s, Val (deep + 1) s ∧ .tuple ds = enc s)) : FmOk (deep + 1) (.tuple ds) := by
  intro n hn
  obtain ⟨n, rfl⟩ : ∃ k, n = k + 1 := ⟨n - 1, by omega⟩
  obtain ⟨b, h1, h2⟩ := h n (by omega)
  refine ⟨b, ?_, h2⟩
  rw [phi_is_formed]
  exact runF_rt rfl h1
theorem fm_mark {m : Str} (hm : m.length ≤ MX) (deep : Nat) : FmOk (deep + 1) (.tuple [.str "mark", .str m]) := by
  refine fm_step fun n hn => ?_
  have e1 : ((deep : Int) + 1 == 0) = false := beq_eq_false_iff_ne.mpr (by omega)
  obtain ⟨n, rfl⟩ : ∃ k, n = k + 1 := ⟨n - 1, by omega⟩
  have im := run_mark_str (MX_big hm) n
  unfold f_is_formed
  cases h : isMk m with
  | false =>
    rw [h] at im
    exact ⟨false, by simp [fOwn, fOpN,  fSeq, fNext, sRet, sRetN, sIf, sSet, sSetO, sAsg, sApp, sFor, forF, fVar, fOpd, fCon, f2, f1, fNil, fCons, bR, bL, bA, bLL, oR, fT, gAnd, gOr, gNot, gYes, fAnd, fOr, fNot, fIte, fTup, fLst, fCall, fCallO, fB, fM1, fSl, fiNo, fiSm, fLc, wLst, wTup, wStr, wRg1, wRg2, wZip, wEnum, gfN, gfTup, gsNil, gsCons, fLrg, fLrg3, wipeG, xSeq, xSet, xOf, xCall, xIf, xRet, xNext, xTup, xCons, xNil, xPut, xCallP, sRetX, sSetX, List.getElem?_cons_zero, List.getElem?_cons_succ, List.set_cons_zero, List.set_cons_succ, tpT, tpS, e1, im, oLen], fun z => by cases z⟩
  | true =>
    rw [h] at im
    refine ⟨!(m == ""), by simp [fOwn, fOpN,  fSeq, fNext, sRet, sRetN, sIf, sSet, sSetO, sAsg, sApp, sFor, forF, fVar, fOpd, fCon, f2, f1, fNil, fCons, bR, bL, bA, bLL, oR, fT, gAnd, gOr, gNot, gYes, fAnd, fOr, fNot, fIte, fTup, fLst, fCall, fCallO, fB, fM1, fSl, fiNo, fiSm, fLc, wLst, wTup, wStr, wRg1, wRg2, wZip, wEnum, gfN, gfTup, gsNil, gsCons, fLrg, fLrg3, wipeG, xSeq, xSet, xOf, xCall, xIf, xRet, xNext, xTup, xCons, xNil, xPut, xCallP, sRetX, sSetX, List.getElem?_cons_zero, List.getElem?_cons_succ, List.set_cons_zero, List.set_cons_succ, tpT, tpS, e1, im, oLen], fun z => ⟨.mark m, ⟨isMk_lm h (by simpa using z), trivial, by simp [Sta.depth]⟩, rfl⟩⟩
theorem fm_yes (deep : Nat) : FmOk (deep + 1) (.tuple [.str "yes"]) := by
  refine fm_step fun n hn => ?_
  have e1 : ((deep : Int) + 1 == 0) = false := beq_eq_false_iff_ne.mpr (by omega)
  unfold f_is_formed
  exact ⟨true, by simp [fOwn, fOpN,  fSeq, fNext, sRet, sRetN, sIf, sSet, sSetO, sAsg, sApp, sFor, forF, fVar, fOpd, fCon, f2, f1, fNil, fCons, bR, bL, bA, bLL, oR, fT, gAnd, gOr, gNot, gYes, fAnd, fOr, fNot, fIte, fTup, fLst, fCall, fCallO, fB, fM1, fSl, fiNo, fiSm, fLc, wLst, wTup, wStr, wRg1, wRg2, wZip, wEnum, gfN, gfTup, gsNil, gsCons, fLrg, fLrg3, wipeG, xSeq, xSet, xOf, xCall, xIf, xRet, xNext, xTup, xCons, xNil, xPut, xCallP, sRetX, sSetX, List.getElem?_cons_zero, List.getElem?_cons_succ, List.set_cons_zero, List.set_cons_succ, tpT, tpS, e1, oLen], fun _ => ⟨.yes, ⟨trivial, trivial, by simp [Sta.depth]⟩, rfl⟩⟩
theorem fm_one {w : Str} {f : Sta → Sta} (hf : (w = "not" ∧ f = .nt) ∨ (w = "next" ∧ f = .nx) ∨ (w = "before" ∧ f = .bf)) {deep : Nat} {d : D} (h : FmOk deep d) : FmOk (deep + 1) (.tuple [.str w, d]) := by
  refine fm_step fun n hn => ?_
  have e1 : ((deep : Int) + 1 == 0) = false := beq_eq_false_iff_ne.mpr (by omega)
  have e2 : (deep : Int) + 1 - 1 = (deep : Int) := by omega
  obtain ⟨b, i, hb⟩ := h n hn
  unfold f_is_formed
  refine ⟨b, ?_, fun z => ?_⟩
  · rcases hf with ⟨rfl, rfl⟩ | ⟨rfl, rfl⟩ | ⟨rfl, rfl⟩ <;> simp [fOwn, fOpN,  fSeq, fNext, sRet, sRetN, sIf, sSet, sSetO, sAsg, sApp, sFor, forF, fVar, fOpd, fCon, f2, f1, fNil, fCons, bR, bL, bA, bLL, oR, fT, gAnd, gOr, gNot, gYes, fAnd, fOr, fNot, fIte, fTup, fLst, fCall, fCallO, fB, fM1, fSl, fiNo, fiSm, fLc, wLst, wTup, wStr, wRg1, wRg2, wZip, wEnum, gfN, gfTup, gsNil, gsCons, fLrg, fLrg3, wipeG, xSeq, xSet, xOf, xCall, xIf, xRet, xNext, xTup, xCons, xNil, xPut, xCallP, sRetX, sSetX, List.getElem?_cons_zero, List.getElem?_cons_succ, List.set_cons_zero, List.set_cons_succ, tpT, tpS, e1, e2, i, oLen, oIn, flatD, PyData.eqv]
  · obtain ⟨s, v, rfl⟩ := hb z
    refine ⟨f s, ?_, ?_⟩
    · have := v.dep
      rcases hf with ⟨rfl, rfl⟩ | ⟨rfl, rfl⟩ | ⟨rfl, rfl⟩ <;> exact ⟨v.mks, v.ks, by simp only [Sta.depth]; omega⟩
    · rcases hf with ⟨rfl, rfl⟩ | ⟨rfl, rfl⟩ | ⟨rfl, rfl⟩ <;> rfl
theorem fm_two {w : Str} {f : Sta → Sta → Sta} (hf : (w = "and" ∧ f = .an) ∨ (w = "or" ∧ f = .or) ∨ (w = "until" ∧ f = .un) ∨ (w = "since" ∧ f = .si)) {deep : Nat} {d d2 : D} (h : FmOk deep d) (h2 : FmOk deep d2) : FmOk (deep + 1) (.tuple [.str w, d, d2]) := by
  refine fm_step fun n hn => ?_
  have e1 : ((deep : Int) + 1 == 0) = false := beq_eq_false_iff_ne.mpr (by omega)
  have e2 : (deep : Int) + 1 - 1 = (deep : Int) := by omega
  obtain ⟨b, i, hb⟩ := h n hn
  obtain ⟨b2, i2, hb2⟩ := h2 n hn
  unfold f_is_formed
  refine ⟨b && b2, ?_, fun z => ?_⟩
  · rcases hf with ⟨rfl, rfl⟩ | ⟨rfl, rfl⟩ | ⟨rfl, rfl⟩ | ⟨rfl, rfl⟩ <;> cases b <;> simp [fOwn, fOpN,  fSeq, fNext, sRet, sRetN, sIf, sSet, sSetO, sAsg, sApp, sFor, forF, fVar, fOpd, fCon, f2, f1, fNil, fCons, bR, bL, bA, bLL, oR, fT, gAnd, gOr, gNot, gYes, fAnd, fOr, fNot, fIte, fTup, fLst, fCall, fCallO, fB, fM1, fSl, fiNo, fiSm, fLc, wLst, wTup, wStr, wRg1, wRg2, wZip, wEnum, gfN, gfTup, gsNil, gsCons, fLrg, fLrg3, wipeG, xSeq, xSet, xOf, xCall, xIf, xRet, xNext, xTup, xCons, xNil, xPut, xCallP, sRetX, sSetX, List.getElem?_cons_zero, List.getElem?_cons_succ, List.set_cons_zero, List.set_cons_succ, tpT, tpS, e1, e2, i, i2, oLen, oIn, flatD, PyData.eqv]
  · rw [Bool.and_eq_true] at z
    obtain ⟨s, v, rfl⟩ := hb z.1
    obtain ⟨t, u, rfl⟩ := hb2 z.2
    have := v.dep
    have := u.dep
    refine ⟨f s t, ?_, ?_⟩
    · rcases hf with ⟨rfl, rfl⟩ | ⟨rfl, rfl⟩ | ⟨rfl, rfl⟩ | ⟨rfl, rfl⟩ <;> exact ⟨⟨v.mks, u.mks⟩, ⟨v.ks, u.ks⟩, by simp only [Sta.depth]; omega⟩
    · rcases hf with ⟨rfl, rfl⟩ | ⟨rfl, rfl⟩ | ⟨rfl, rfl⟩ | ⟨rfl, rfl⟩ <;> rfl
theorem fm_wi {i : Nat} (hi : i ≤ 4) {deep : Nat} {d : D} (h : FmOk deep d) : FmOk (deep + 1) (.tuple [.str "within", .int (i : Int), d]) := by
  refine fm_step fun n hn => ?_
  have e1 : ((deep : Int) + 1 == 0) = false := beq_eq_false_iff_ne.mpr (by omega)
  have e2 : (deep : Int) + 1 - 1 = (deep : Int) := by omega
  obtain ⟨b, i', hb⟩ := h n hn
  obtain ⟨n, rfl⟩ : ∃ k, n = k + 1 := ⟨n - 1, by omega⟩
  have im := run_is_number hi n
  unfold f_is_formed
  refine ⟨b, by simp [fOwn, fOpN,  fSeq, fNext, sRet, sRetN, sIf, sSet, sSetO, sAsg, sApp, sFor, forF, fVar, fOpd, fCon, f2, f1, fNil, fCons, bR, bL, bA, bLL, oR, fT, gAnd, gOr, gNot, gYes, fAnd, fOr, fNot, fIte, fTup, fLst, fCall, fCallO, fB, fM1, fSl, fiNo, fiSm, fLc, wLst, wTup, wStr, wRg1, wRg2, wZip, wEnum, gfN, gfTup, gsNil, gsCons, fLrg, fLrg3, wipeG, xSeq, xSet, xOf, xCall, xIf, xRet, xNext, xTup, xCons, xNil, xPut, xCallP, sRetX, sSetX, List.getElem?_cons_zero, List.getElem?_cons_succ, List.set_cons_zero, List.set_cons_succ, tpT, tpS, e1, e2, i', im, oLen, oIn, flatD, PyData.eqv], fun z => ?_⟩
  obtain ⟨s, v, rfl⟩ := hb z
  have := v.dep
  exact ⟨.wi i s, ⟨v.mks, ⟨hi, v.ks⟩, by simp only [Sta.depth]; omega⟩, rfl⟩
theorem fm_tr : ∀ (deep : Nat) (d : D), Tr d → FmOk deep d := by
  intro deep
  induction deep with
  | zero =>
    intro d _ n hn
    obtain ⟨n, rfl⟩ : ∃ k, n = k + 1 := ⟨n - 1, by omega⟩
    refine ⟨false, ?_, fun z => by cases z⟩
    rw [phi_is_formed]
    refine runF_rt rfl ?_
    unfold f_is_formed
    simp [entry, fOwn, fOpN,  fSeq, fNext, sRet, sRetN, sIf, sSet, sSetO, sAsg, sApp, sFor, forF, fVar, fOpd, fCon, f2, f1, fNil, fCons, bR, bL, bA, bLL, oR, fT, gAnd, gOr, gNot, gYes, fAnd, fOr, fNot, fIte, fTup, fLst, fCall, fCallO, fB, fM1, fSl, fiNo, fiSm, fLc, wLst, wTup, wStr, wRg1, wRg2, wZip, wEnum, gfN, gfTup, gsNil, gsCons, fLrg, fLrg3, wipeG, xSeq, xSet, xOf, xCall, xIf, xRet, xNext, xTup, xCons, xNil, xPut, xCallP, sRetX, sSetX, List.getElem?_cons_zero, List.getElem?_cons_succ, List.set_cons_zero, List.set_cons_succ, List.replicate]
  | succ deep ih =>
    intro d hd
    cases hd with
    | mark m h => exact fm_mark h deep
    | yes => exact fm_yes deep
    | num i h => exact (bad_nt (isi_int _)).fm _
    | node w ds h =>
      by_cases hw : ∀ v ∈ (["mark", "yes", "within", "not", "next", "before", "and", "or", "until", "since"] : List Str), w ≠ v
      · exact (bad_other hw).fm _
      · have hw' : w ∈ (["mark", "yes", "within", "not", "next", "before", "and", "or", "until", "since"] : List Str) := Classical.byContradiction fun z => hw fun v hv e => z (by rw [e]; exact hv)
        simp only [List.mem_cons, List.not_mem_nil, or_false] at hw'
        have two : ∀ f : Sta → Sta → Sta, ((w = "and" ∧ f = .an) ∨ (w = "or" ∧ f = .or) ∨ (w = "until" ∧ f = .un) ∨ (w = "since" ∧ f = .si)) → FmOk (deep + 1) (.tuple (.str w :: ds)) := fun f hf => by
          match ds, h with
          | [a, b], h => exact fm_two hf (ih a (h a (by simp))) (ih b (h b (by simp)))
          | [], _ => exact (bad_size (.inr (.inr (.inr (.inr ⟨by rcases hf with ⟨e, _⟩ | ⟨e, _⟩ | ⟨e, _⟩ | ⟨e, _⟩ <;> simp [e], by simp⟩))))).fm _
          | [_], _ => exact (bad_size (.inr (.inr (.inr (.inr ⟨by rcases hf with ⟨e, _⟩ | ⟨e, _⟩ | ⟨e, _⟩ | ⟨e, _⟩ <;> simp [e], by simp⟩))))).fm _
          | _ :: _ :: _ :: _, _ => exact (bad_size (.inr (.inr (.inr (.inr ⟨by rcases hf with ⟨e, _⟩ | ⟨e, _⟩ | ⟨e, _⟩ | ⟨e, _⟩ <;> simp [e], by simp⟩))))).fm _
        have one : ∀ f : Sta → Sta, ((w = "not" ∧ f = .nt) ∨ (w = "next" ∧ f = .nx) ∨ (w = "before" ∧ f = .bf)) → FmOk (deep + 1) (.tuple (.str w :: ds)) := fun f hf => by
          match ds, h with
          | [a], h => exact fm_one hf (ih a (h a (by simp)))
          | [], _ => exact (bad_size (.inr (.inr (.inr (.inl ⟨by rcases hf with ⟨e, _⟩ | ⟨e, _⟩ | ⟨e, _⟩ <;> simp [e], by simp⟩))))).fm _
          | _ :: _ :: _, _ => exact (bad_size (.inr (.inr (.inr (.inl ⟨by rcases hf with ⟨e, _⟩ | ⟨e, _⟩ | ⟨e, _⟩ <;> simp [e], by simp⟩))))).fm _
        rcases hw' with e | e | e | e | e | e | e | e | e | e
        · subst e
          match ds, h with
          | [a], h => exact (run_mk1 (h a (by simp)).isi).fm _
          | [], _ => exact (bad_size (.inl ⟨rfl, by simp⟩)).fm _
          | _ :: _ :: _, _ => exact (bad_size (.inl ⟨rfl, by simp⟩)).fm _
        · subst e
          match ds, h with
          | [], _ => exact fm_yes deep
          | _ :: _, _ => exact (bad_size (.inr (.inl ⟨rfl, by simp⟩))).fm _
        · subst e
          match ds, h with
          | [a, b], h =>
            have ha := h a (by simp)
            have hb := ih b (h b (by simp))
            cases ha with
            | num i hi => exact fm_wi hi hb
            | mark m hm => exact (bad_within fun n => run_num_no n (by simp [oIsi, isT, tyN])).fm _
            | yes => exact (bad_within fun n => run_num_no n (by simp [oIsi, isT, tyN])).fm _
            | node w ds' hds => exact (bad_within fun n => run_num_no n (by simp [oIsi, isT, tyN])).fm _
          | [], _ => exact (bad_size (.inr (.inr (.inl ⟨rfl, by simp⟩)))).fm _
          | [_], _ => exact (bad_size (.inr (.inr (.inl ⟨rfl, by simp⟩)))).fm _
          | _ :: _ :: _ :: _, _ => exact (bad_size (.inr (.inr (.inl ⟨rfl, by simp⟩)))).fm _
        · exact one .nt (.inl ⟨e, rfl⟩)
        · exact one .nx (.inr (.inl ⟨e, rfl⟩))
        · exact one .bf (.inr (.inr ⟨e, rfl⟩))
        · exact two .an (.inl ⟨e, rfl⟩)
        · exact two .or (.inr (.inl ⟨e, rfl⟩))
        · exact two .un (.inr (.inr (.inl ⟨e, rfl⟩)))
        · exact two .si (.inr (.inr (.inr ⟨e, rfl⟩)))
end K02

namespace K02
open PySem PySem.Spec PyProof.Rows L2 Py
/-! ### a statement written -/
theorem join1 (x : List Nat) (h : x.length ≤ MX) : oJoin (mk [44, 32]) (.list [.str (mk x)]) = some (.str (mk x)) := by
  have e : strsOf [.str (mk x)] = some [mk x] := rfl
  have z : (([mk x] : List Str).map (·.length)).sum + [mk x].length * (mk [44, 32]).length ≤ big := by
    simp only [List.map_cons, List.map_nil, List.sum_cons, List.sum_nil, mk_len, List.length_cons, List.length_nil]
    unfold MX at h; unfold big; omega
  unfold oJoin
  simp only [e, if_pos z]
  rw [TL.join_eq]
  rfl
theorem join2 (x y : List Nat) (h : x.length + y.length ≤ MX) : oJoin (mk [44, 32]) (.list [.str (mk x), .str (mk y)]) = some (.str (mk (x ++ 44 :: 32 :: y))) := by
  have e : strsOf [.str (mk x), .str (mk y)] = some [mk x, mk y] := rfl
  have z : (([mk x, mk y] : List Str).map (·.length)).sum + [mk x, mk y].length * (mk [44, 32]).length ≤ big := by
    simp only [List.map_cons, List.map_nil, List.sum_cons, List.sum_nil, mk_len, List.length_cons, List.length_nil]
    unfold MX at h; unfold big; omega
  unfold oJoin
  simp only [e, if_pos z]
  rw [TL.join_eq]
  have e2 : Str.join (mk [44, 32]) [mk x, mk y] = mk x ++ mk [44, 32] ++ mk y := rfl
  rw [e2, mk_app, mk_app]
  simp
theorem str_fig {k : Nat} (h : k ≤ 4) : oStr [.int (k : Int)] = some (.str (mk [48 + k])) := by
  have hk : k = 0 ∨ k = 1 ∨ k = 2 ∨ k = 3 ∨ k = 4 := by omega
  have e0 : ((toString (0 : Int) : String) : Str) = mk [48] := by decide +kernel
  have e1 : ((toString (1 : Int) : String) : Str) = mk [49] := by decide +kernel
  have e2 : ((toString (2 : Int) : String) : Str) = mk [50] := by decide +kernel
  have e3 : ((toString (3 : Int) : String) : Str) = mk [51] := by decide +kernel
  have e4 : ((toString (4 : Int) : String) : Str) = mk [52] := by decide +kernel
  have go : ∀ (i : Int) (z : Str), 0 ≤ i → i ≤ 1000 → ((toString i : String) : Str) = z → oStr [.int i] = some (.str z) := fun i z h1 h2 e => by
    unfold oStr
    simp only
    rw [if_pos ⟨h1, h2⟩, e]
  rcases hk with rfl | rfl | rfl | rfl | rfl
  · exact go 0 _ (by decide) (by decide) e0
  · exact go 1 _ (by decide) (by decide) e1
  · exact go 2 _ (by decide) (by decide) e2
  · exact go 3 _ (by decide) (by decide) e3
  · exact go 4 _ (by decide) (by decide) e4
theorem glue {w x : List Nat} (h : w.length + x.length + 10 ≤ MX) : oAdd (.str (mk w)) (.str "(") = some (.str (mk (w ++ [40]))) ∧ oAdd (.str (mk (w ++ [40]))) (.str (mk x)) = some (.str (mk (w ++ 40 :: x))) ∧ oAdd (.str (mk (w ++ 40 :: x))) (.str ")") = some (.str (mk (w ++ 40 :: (x ++ [41])))) := by
  rw [s_open, s_close]
  refine ⟨add_mk (by simp; omega), ?_, ?_⟩
  · rw [add_mk (by simp; omega)]
    simp
  · rw [add_mk (by simp; omega)]
    simp
theorem wr_one {Phi : Nm → List D → Option Rs} {w x : List Nat} {t : Sta} {W : Str} (hW : W = mk w) (hne : (W == "mark") = false ∧ (W == "yes") = false) (h : Phi .written [enc t] = some (.ok (.str (mk x)))) (hl : w.length + x.length + 10 ≤ MX) :
    runF 1 3 (f_written Phi) [.tuple [.str W, enc t]] = some (.ok (.str (mk (w ++ 40 :: (x ++ [41]))))) := by
  obtain ⟨g1, g2, g3⟩ := glue (w := w) (x := x) hl
  have j := join1 x (by omega)
  subst hW
  refine runF_rt rfl ?_
  unfold f_written
  simp [entry, fOwn, fOpN,  fSeq, fNext, sRet, sRetN, sIf, sSet, sSetO, sAsg, sApp, sFor, forF, fVar, fOpd, fCon, f2, f1, fNil, fCons, bR, bL, bA, bLL, oR, fT, gAnd, gOr, gNot, gYes, fAnd, fOr, fNot, fIte, fTup, fLst, fCall, fCallO, fB, fM1, fSl, fiNo, fiSm, fLc, wLst, wTup, wStr, wRg1, wRg2, wZip, wEnum, gfN, gfTup, gsNil, gsCons, fLrg, fLrg3, wipeG, xSeq, xSet, xOf, xCall, xIf, xRet, xNext, xTup, xCons, xNil, xPut, xCallP, sRetX, sSetX, List.getElem?_cons_zero, List.getElem?_cons_succ, List.set_cons_zero, List.set_cons_succ, List.replicate, hne, tail_tup, isi_enc, h, s_sep, j, g1, g2, g3]
theorem wr_two {Phi : Nm → List D → Option Rs} {w x y : List Nat} {t u : Sta} {W : Str} (hW : W = mk w) (hne : (W == "mark") = false ∧ (W == "yes") = false) (h : Phi .written [enc t] = some (.ok (.str (mk x)))) (h2 : Phi .written [enc u] = some (.ok (.str (mk y)))) (hl : w.length + x.length + y.length + 20 ≤ MX) :
    runF 1 3 (f_written Phi) [.tuple [.str W, enc t, enc u]] = some (.ok (.str (mk (w ++ 40 :: (x ++ 44 :: 32 :: (y ++ [41])))))) := by
  obtain ⟨g1, g2, g3⟩ := glue (w := w) (x := x ++ 44 :: 32 :: y) (by simp; omega)
  have j := join2 x y (by omega)
  subst hW
  refine runF_rt rfl ?_
  unfold f_written
  simp [entry, fOwn, fOpN,  fSeq, fNext, sRet, sRetN, sIf, sSet, sSetO, sAsg, sApp, sFor, forF, fVar, fOpd, fCon, f2, f1, fNil, fCons, bR, bL, bA, bLL, oR, fT, gAnd, gOr, gNot, gYes, fAnd, fOr, fNot, fIte, fTup, fLst, fCall, fCallO, fB, fM1, fSl, fiNo, fiSm, fLc, wLst, wTup, wStr, wRg1, wRg2, wZip, wEnum, gfN, gfTup, gsNil, gsCons, fLrg, fLrg3, wipeG, xSeq, xSet, xOf, xCall, xIf, xRet, xNext, xTup, xCons, xNil, xPut, xCallP, sRetX, sSetX, List.getElem?_cons_zero, List.getElem?_cons_succ, List.set_cons_zero, List.set_cons_succ, List.replicate, hne, tail_tup, isi_enc, h, h2, s_sep, j, g1, g2, g3]
theorem wr_wi {Phi : Nm → List D → Option Rs} {x : List Nat} {t : Sta} {k : Nat} (hk : k ≤ 4) (h : Phi .written [enc t] = some (.ok (.str (mk x)))) (hl : x.length + 20 ≤ MX) :
    runF 1 3 (f_written Phi) [.tuple [.str "within", .int (k : Int), enc t]] = some (.ok (.str (mk (cW ++ 40 :: (48 + k) :: 44 :: 32 :: (x ++ [41]))))) := by
  obtain ⟨g1, g2, g3⟩ := glue (w := cW) (x := [48 + k] ++ 44 :: 32 :: x) (by simp [cW]; omega)
  have j := join2 [48 + k] x (by simp; omega)
  have sf := str_fig hk
  rw [← s_W] at g1
  simp only [List.cons_append, List.nil_append] at g2 g3 j
  refine runF_rt rfl ?_
  unfold f_written
  simp [entry, fOwn, fOpN,  fSeq, fNext, sRet, sRetN, sIf, sSet, sSetO, sAsg, sApp, sFor, forF, fVar, fOpd, fCon, f2, f1, fNil, fCons, bR, bL, bA, bLL, oR, fT, gAnd, gOr, gNot, gYes, fAnd, fOr, fNot, fIte, fTup, fLst, fCall, fCallO, fB, fM1, fSl, fiNo, fiSm, fLc, wLst, wTup, wStr, wRg1, wRg2, wZip, wEnum, gfN, gfTup, gsNil, gsCons, fLrg, fLrg3, wipeG, xSeq, xSet, xOf, xCall, xIf, xRet, xNext, xTup, xCons, xNil, xPut, xCallP, sRetX, sSetX, List.getElem?_cons_zero, List.getElem?_cons_succ, List.set_cons_zero, List.set_cons_succ, List.replicate, tail_tup, isi_enc, isi_int, h, sf, s_sep, j, g1, g2, g3]
theorem wr_mark {Phi : Nm → List D → Option Rs} {m : Str} (hm : Lm m) : runF 1 3 (f_written Phi) [enc (.mark m)] = some (.ok (.str (mk (textL (.mark m))))) := by
  have hl := hm.low.len
  have e0 : m = mk m.cps.toList := rfl
  have hl' : m.cps.toList.length ≤ 6 := by rw [Array.length_toList]; exact hl
  generalize m.cps.toList = l at e0 hl'
  subst e0
  have a1 : oAdd (.str "'") (.str (mk l)) = some (.str (mk ([39] ++ l))) := by rw [s_quote]; exact add_mk (by simp; unfold MX; omega)
  have a2 : oAdd (.str (mk ([39] ++ l))) (.str "'") = some (.str (mk ([39] ++ l ++ [39]))) := by rw [s_quote]; exact add_mk (by simp; unfold MX; omega)
  refine runF_rt rfl ?_
  unfold f_written
  simp only [List.cons_append, List.nil_append] at a1 a2
  simp [entry, fOwn, fOpN,  fSeq, fNext, sRet, sRetN, sIf, sSet, sSetO, sAsg, sApp, sFor, forF, fVar, fOpd, fCon, f2, f1, fNil, fCons, bR, bL, bA, bLL, oR, fT, gAnd, gOr, gNot, gYes, fAnd, fOr, fNot, fIte, fTup, fLst, fCall, fCallO, fB, fM1, fSl, fiNo, fiSm, fLc, wLst, wTup, wStr, wRg1, wRg2, wZip, wEnum, gfN, gfTup, gsNil, gsCons, fLrg, fLrg3, wipeG, xSeq, xSet, xOf, xCall, xIf, xRet, xNext, xTup, xCons, xNil, xPut, xCallP, sRetX, sSetX, List.getElem?_cons_zero, List.getElem?_cons_succ, List.set_cons_zero, List.set_cons_succ, List.replicate, enc, a1, a2, textL, mk_tl]
theorem wne : (("not" : Str) == "mark") = false ∧ (("not" : Str) == "yes") = false ∧ (("next" : Str) == "mark") = false ∧ (("next" : Str) == "yes") = false ∧ (("before" : Str) == "mark") = false ∧ (("before" : Str) == "yes") = false ∧ (("and" : Str) == "mark") = false ∧ (("and" : Str) == "yes") = false ∧ (("or" : Str) == "mark") = false ∧ (("or" : Str) == "yes") = false ∧ (("until" : Str) == "mark") = false ∧ (("until" : Str) == "yes") = false ∧ (("since" : Str) == "mark") = false ∧ (("since" : Str) == "yes") = false := by decide +kernel
theorem lenOf {s : Sta} (h : s.Marks Lm) (hd : s.depth ≤ 6) : (textL s).length ≤ 1280 := by
  have h := textL_len h
  have p := Nat.pow_le_pow_right (show 0 < 2 by decide) hd
  omega
theorem run_written : ∀ (s : Sta), s.Marks Lm → ksOk s → s.depth ≤ 6 → ∀ n, s.depth ≤ n → Phi n .written [enc s] = some (.ok (.str (mk (textL s)))) := by
  obtain ⟨n1, n2, x1, x2, b1, b2, a1, a2, o1, o2, u1, u2, s1, s2⟩ := wne
  intro s
  induction s with
  | mark m => intro hm _ _ n hn; obtain ⟨n, rfl⟩ : ∃ k, n = k + 1 := ⟨n - 1, by simp [Sta.depth] at hn; omega⟩; rw [phi_written]; exact wr_mark hm
  | yes =>
    intro _ _ _ n hn; obtain ⟨n, rfl⟩ : ∃ k, n = k + 1 := ⟨n - 1, by simp [Sta.depth] at hn; omega⟩
    rw [phi_written, show textL .yes = cY from rfl, ← s_Y]
    refine runF_rt rfl ?_
    unfold f_written
    simp [entry, fOwn, fOpN,  fSeq, fNext, sRet, sRetN, sIf, sSet, sSetO, sAsg, sApp, sFor, forF, fVar, fOpd, fCon, f2, f1, fNil, fCons, bR, bL, bA, bLL, oR, fT, gAnd, gOr, gNot, gYes, fAnd, fOr, fNot, fIte, fTup, fLst, fCall, fCallO, fB, fM1, fSl, fiNo, fiSm, fLc, wLst, wTup, wStr, wRg1, wRg2, wZip, wEnum, gfN, gfTup, gsNil, gsCons, fLrg, fLrg3, wipeG, xSeq, xSet, xOf, xCall, xIf, xRet, xNext, xTup, xCons, xNil, xPut, xCallP, sRetX, sSetX, List.getElem?_cons_zero, List.getElem?_cons_succ, List.set_cons_zero, List.set_cons_succ, List.replicate, enc]
  | nt s ih =>
    intro hm hk hd n hn; obtain ⟨n, rfl⟩ : ∃ k, n = k + 1 := ⟨n - 1, by simp [Sta.depth] at hn; omega⟩
    simp only [Sta.depth] at hd hn
    have v := lenOf (s := s) hm (by omega)
    rw [phi_written]; exact wr_one s_N ⟨n1, n2⟩ (ih hm hk (by omega) n (by omega)) (by simp [cN]; unfold MX; omega)
  | nx s ih =>
    intro hm hk hd n hn; obtain ⟨n, rfl⟩ : ∃ k, n = k + 1 := ⟨n - 1, by simp [Sta.depth] at hn; omega⟩
    simp only [Sta.depth] at hd hn
    have v := lenOf (s := s) hm (by omega)
    rw [phi_written]; exact wr_one s_X ⟨x1, x2⟩ (ih hm hk (by omega) n (by omega)) (by simp [cX]; unfold MX; omega)
  | bf s ih =>
    intro hm hk hd n hn; obtain ⟨n, rfl⟩ : ∃ k, n = k + 1 := ⟨n - 1, by simp [Sta.depth] at hn; omega⟩
    simp only [Sta.depth] at hd hn
    have v := lenOf (s := s) hm (by omega)
    rw [phi_written]; exact wr_one s_B ⟨b1, b2⟩ (ih hm hk (by omega) n (by omega)) (by simp [cB]; unfold MX; omega)
  | wi k s ih =>
    intro hm hk hd n hn; obtain ⟨n, rfl⟩ : ∃ k, n = k + 1 := ⟨n - 1, by simp [Sta.depth] at hn; omega⟩
    simp only [Sta.depth] at hd hn
    have v := lenOf (s := s) hm (by omega)
    rw [phi_written]; exact wr_wi hk.1 (ih hm hk.2 (by omega) n (by omega)) (by unfold MX; omega)
  | an s t ih ih' =>
    intro hm hk hd n hn; obtain ⟨n, rfl⟩ : ∃ k, n = k + 1 := ⟨n - 1, by simp [Sta.depth] at hn; omega⟩
    simp only [Sta.depth] at hd hn
    have v := lenOf (s := s) hm.1 (by omega)
    have v' := lenOf (s := t) hm.2 (by omega)
    rw [phi_written]; exact wr_two s_A ⟨a1, a2⟩ (ih hm.1 hk.1 (by omega) n (by omega)) (ih' hm.2 hk.2 (by omega) n (by omega)) (by simp [cA]; unfold MX; omega)
  | or s t ih ih' =>
    intro hm hk hd n hn; obtain ⟨n, rfl⟩ : ∃ k, n = k + 1 := ⟨n - 1, by simp [Sta.depth] at hn; omega⟩
    simp only [Sta.depth] at hd hn
    have v := lenOf (s := s) hm.1 (by omega)
    have v' := lenOf (s := t) hm.2 (by omega)
    rw [phi_written]; exact wr_two s_O ⟨o1, o2⟩ (ih hm.1 hk.1 (by omega) n (by omega)) (ih' hm.2 hk.2 (by omega) n (by omega)) (by simp [cO]; unfold MX; omega)
  | un s t ih ih' =>
    intro hm hk hd n hn; obtain ⟨n, rfl⟩ : ∃ k, n = k + 1 := ⟨n - 1, by simp [Sta.depth] at hn; omega⟩
    simp only [Sta.depth] at hd hn
    have v := lenOf (s := s) hm.1 (by omega)
    have v' := lenOf (s := t) hm.2 (by omega)
    rw [phi_written]; exact wr_two s_U ⟨u1, u2⟩ (ih hm.1 hk.1 (by omega) n (by omega)) (ih' hm.2 hk.2 (by omega) n (by omega)) (by simp [cU]; unfold MX; omega)
  | si s t ih ih' =>
    intro hm hk hd n hn; obtain ⟨n, rfl⟩ : ∃ k, n = k + 1 := ⟨n - 1, by simp [Sta.depth] at hn; omega⟩
    simp only [Sta.depth] at hd hn
    have v := lenOf (s := s) hm.1 (by omega)
    have v' := lenOf (s := t) hm.2 (by omega)
    rw [phi_written]; exact wr_two s_S ⟨s1, s2⟩ (ih hm.1 hk.1 (by omega) n (by omega)) (ih' hm.2 hk.2 (by omega) n (by omega)) (by simp [cS]; unfold MX; omega)
end K02

namespace K02
open PySem PySem.Spec PyProof.Rows L2 Py
/-! ### the pieces of what is written -/
theorem tokP_fuel : ∀ (f : Nat) (s : List Nat), s.length ≤ f → tokP f s = tokP s.length s
  | f, [], _ => by cases f <;> rfl
  | 0, c :: r, h => by simp at h
  | f + 1, c :: r, h => by
    rw [show (c :: r).length = r.length + 1 from rfl, tokP_cons, tokP_cons]
    cases hp : pieceL (c :: r) with
    | none => rfl
    | some p =>
      have h1 := (pieceL_take hp).2
      have hl : ((c :: r).drop p.length).length ≤ r.length := by rw [List.length_drop, List.length_cons]; omega
      simp only
      rw [tokP_fuel f _ (by rw [List.length_cons] at h; omega), tokP_fuel r.length _ hl]
termination_by f => f
/-- all pieces of a text -/
def tok (s : List Nat) : Option (List (List Nat)) := tokP s.length s
theorem tok_nil : tok [] = some [] := rfl
theorem tok_step {p R : List Nat} (hp : pieceL (p ++ R) = some p) : tok (p ++ R) = (tok R).map (p :: ·) := by
  have h1 := (pieceL_take hp).2
  obtain ⟨c, r, e⟩ : ∃ c r, p ++ R = c :: r := by
    cases p with
    | nil => simp at h1
    | cons c r => exact ⟨c, r ++ R, rfl⟩
  have hd : (p ++ R).drop p.length = R := by simp
  have hl : R.length ≤ r.length := by
    have := congrArg List.length e
    rw [List.length_append, List.length_cons] at this
    omega
  unfold tok
  rw [e] at hp hd ⊢
  rw [show (c :: r).length = r.length + 1 from rfl, tokP_cons, hp]
  simp only
  rw [hd, tokP_fuel r.length R hl]
  cases tokP R.length R <;> rfl
/-- ends a word -/
def St (R : List Nat) : Prop := R = [] ∨ ∃ c r, R = c :: r ∧ stop c = true
theorem tw_app (p : Nat → Bool) : ∀ (w R : List Nat), w.all p = true → (R = [] ∨ ∃ c r, R = c :: r ∧ p c = false) → (w ++ R).takeWhile p = w
  | [], R, _, h => by
    rcases h with rfl | ⟨c, r, rfl, h⟩
    · rfl
    · rw [List.nil_append, List.takeWhile_cons, h]; rfl
  | a :: w, R, hw, h => by
    rw [List.all_cons, Bool.and_eq_true] at hw
    rw [List.cons_append, List.takeWhile_cons, hw.1, if_pos rfl, tw_app p w R hw.2 h]
theorem piece_word {w R : List Nat} (hw : w.all (fun c => !stop c) = true) (hn : w ≠ []) (hR : St R) : pieceL (w ++ R) = some w := by
  cases w with
  | nil => exact absurd rfl hn
  | cons c r =>
    have hc : stop c = false := by rw [List.all_cons, Bool.and_eq_true] at hw; simpa using hw.1
    have h39 : c ≠ 39 := fun z => by subst z; rw [stop_eq] at hc; cases hc
    have ht := tw_app (fun c => !stop c) (c :: r) R hw (by
      rcases hR with h | ⟨c, r, h, hs⟩
      · exact .inl h
      · exact .inr ⟨c, r, h, by rw [hs]; rfl⟩)
    rw [List.cons_append, pieceL_cons, if_neg h39, hc, if_neg Bool.false_ne_true, ← List.cons_append, ht]
theorem piece_sign {c : Nat} (h : stop c = true) (hn : c ≠ 39) (R : List Nat) : pieceL ([c] ++ R) = some [c] := by
  rw [List.cons_append, List.nil_append, pieceL_cons, if_neg hn, if_pos h]
theorem piece_mark {m : List Nat} (h : ∀ c ∈ m, c ≠ 39) (R : List Nat) : pieceL (39 :: (m ++ [39]) ++ R) = some (39 :: (m ++ [39])) := by
  have ht : (m ++ ([39] ++ R)).takeWhile (· != 39) = m := tw_app (· != 39) m ([39] ++ R) (List.all_eq_true.mpr fun c hc => by simpa using h c hc) (.inr ⟨39, R, rfl, rfl⟩)
  rw [List.cons_append, List.append_assoc, pieceL_cons, if_pos rfl, ht, if_pos (by simp)]
theorem tok_sign {c : Nat} (h : stop c = true) (hn : c ≠ 39) (R : List Nat) : tok (c :: R) = (tok R).map ([c] :: ·) := tok_step (p := [c]) (piece_sign h hn R)
theorem tok_word {w R : List Nat} (hw : w.all (fun c => !stop c) = true) (hn : w ≠ []) (hR : St R) : tok (w ++ R) = (tok R).map (w :: ·) := tok_step (piece_word hw hn hR)
def toks : Sta → List (List Nat)
  | .mark m => [39 :: (m.cps.toList ++ [39])]
  | .yes => [cY]
  | .nt s => cN :: [40] :: (toks s ++ [[41]])
  | .an s t => cA :: [40] :: (toks s ++ [44] :: [32] :: (toks t ++ [[41]]))
  | .or s t => cO :: [40] :: (toks s ++ [44] :: [32] :: (toks t ++ [[41]]))
  | .nx s => cX :: [40] :: (toks s ++ [[41]])
  | .un s t => cU :: [40] :: (toks s ++ [44] :: [32] :: (toks t ++ [[41]]))
  | .wi k s => cW :: [40] :: [48 + k] :: [44] :: [32] :: (toks s ++ [[41]])
  | .bf s => cB :: [40] :: (toks s ++ [[41]])
  | .si s t => cS :: [40] :: (toks s ++ [44] :: [32] :: (toks t ++ [[41]]))
theorem s40 : stop 40 = true := by rw [stop_eq]; rfl
theorem s41 : stop 41 = true := by rw [stop_eq]; rfl
theorem s44 : stop 44 = true := by rw [stop_eq]; rfl
theorem s32 : stop 32 = true := by rw [stop_eq]; rfl
theorem St40 (R : List Nat) : St (40 :: R) := .inr ⟨40, R, rfl, s40⟩
theorem St41 (R : List Nat) : St (41 :: R) := .inr ⟨41, R, rfl, s41⟩
theorem St44 (R : List Nat) : St (44 :: R) := .inr ⟨44, R, rfl, s44⟩
theorem words_all : cN.all (fun c => !stop c) = true ∧ cA.all (fun c => !stop c) = true ∧ cO.all (fun c => !stop c) = true ∧ cX.all (fun c => !stop c) = true ∧ cU.all (fun c => !stop c) = true ∧ cW.all (fun c => !stop c) = true ∧ cB.all (fun c => !stop c) = true ∧ cS.all (fun c => !stop c) = true ∧ cY.all (fun c => !stop c) = true := by
  have e : (fun c => !stop c) = fun c => !(c == 40 || c == 41 || c == 44 || c == 32 || c == 39) := by funext c; rw [stop_eq]
  rw [e]
  decide
theorem tok_one {w : List Nat} {s : Sta} (hw : w.all (fun c => !stop c) = true) (hn : w ≠ []) (h : ∀ R, St R → tok (textL s ++ R) = (tok R).map (toks s ++ ·)) (R : List Nat) :
    tok (w ++ 40 :: (textL s ++ [41]) ++ R) = (tok R).map ((w :: [40] :: (toks s ++ [[41]])) ++ ·) := by
  rw [show w ++ 40 :: (textL s ++ [41]) ++ R = w ++ 40 :: (textL s ++ 41 :: R) by simp]
  rw [tok_word hw hn (St40 _), tok_sign s40 (by decide), h _ (St41 _), tok_sign s41 (by decide)]
  cases tok R <;> simp
theorem tok_two {w : List Nat} {s t : Sta} (hw : w.all (fun c => !stop c) = true) (hn : w ≠ []) (h : ∀ R, St R → tok (textL s ++ R) = (tok R).map (toks s ++ ·)) (h2 : ∀ R, St R → tok (textL t ++ R) = (tok R).map (toks t ++ ·)) (R : List Nat) :
    tok (w ++ 40 :: (textL s ++ 44 :: 32 :: (textL t ++ [41])) ++ R) = (tok R).map ((w :: [40] :: (toks s ++ [44] :: [32] :: (toks t ++ [[41]]))) ++ ·) := by
  rw [show w ++ 40 :: (textL s ++ 44 :: 32 :: (textL t ++ [41])) ++ R = w ++ 40 :: (textL s ++ 44 :: 32 :: (textL t ++ 41 :: R)) by simp]
  rw [tok_word hw hn (St40 _), tok_sign s40 (by decide), h _ (St44 _), tok_sign s44 (by decide), tok_sign s32 (by decide), h2 _ (St41 _), tok_sign s41 (by decide)]
  cases tok R <;> simp
theorem tok_text : ∀ (s : Sta), s.Marks Lm → ksOk s → ∀ R, St R → tok (textL s ++ R) = (tok R).map (toks s ++ ·) := by
  obtain ⟨wN, wA, wO, wX, wU, wW, wB, wS, wY⟩ := words_all
  intro s
  induction s with
  | mark m =>
    intro hm _ R _
    have hl := (show Lm m from hm).low.let_
    exact tok_step (piece_mark (fun c hc => by have := hl c hc; omega) R)
  | yes => intro _ _ R hR; exact tok_word wY (by decide) hR
  | nt s ih => intro hm hk R _; exact tok_one wN (by decide) (ih hm hk) R
  | nx s ih => intro hm hk R _; exact tok_one wX (by decide) (ih hm hk) R
  | bf s ih => intro hm hk R _; exact tok_one wB (by decide) (ih hm hk) R
  | an s t ih ih' => intro hm hk R _; exact tok_two wA (by decide) (ih hm.1 hk.1) (ih' hm.2 hk.2) R
  | or s t ih ih' => intro hm hk R _; exact tok_two wO (by decide) (ih hm.1 hk.1) (ih' hm.2 hk.2) R
  | un s t ih ih' => intro hm hk R _; exact tok_two wU (by decide) (ih hm.1 hk.1) (ih' hm.2 hk.2) R
  | si s t ih ih' => intro hm hk R _; exact tok_two wS (by decide) (ih hm.1 hk.1) (ih' hm.2 hk.2) R
  | wi k s ih =>
    intro hm hk R _
    have hf : ([48 + k] : List Nat).all (fun c => !stop c) = true := by
      have h4 := hk.1
      have : k = 0 ∨ k = 1 ∨ k = 2 ∨ k = 3 ∨ k = 4 := by omega
      rcases this with rfl | rfl | rfl | rfl | rfl <;> simp [stop_eq]
    rw [show textL (.wi k s) ++ R = cW ++ 40 :: ([48 + k] ++ 44 :: 32 :: (textL s ++ 41 :: R)) by simp [textL]]
    rw [tok_word wW (by decide) (St40 _), tok_sign s40 (by decide), tok_word hf (by simp) (St44 _), tok_sign s44 (by decide), tok_sign s32 (by decide), ih hm hk.2 _ (St41 _), tok_sign s41 (by decide)]
    cases tok R <;> simp [toks]
theorem tok_all {s : Sta} (hm : s.Marks Lm) (hk : ksOk s) : tok (textL s) = some (toks s) := by
  have := tok_text s hm hk [] (.inl rfl)
  rw [List.append_nil, tok_nil] at this
  simpa using this
/-! their pieces read -/
theorem hd_c {α : Type} (a : α) (l : List α) : (a :: l).head? = some a := rfl
theorem rdP_one {f : Nat} {w : List Nat} {s : Sta} {R : List (List Nat)} (h : ∀ R, R.head? ≠ some [40] → rdP f (toks s ++ R) = some (enc s, R)) : rdP (f + 1) ((w :: [40] :: (toks s ++ [[41]])) ++ R) = some (.tuple [pD w, enc s], R) := by
  rw [List.cons_append, List.cons_append, rdP_cons, if_pos (hd_c _ _)]
  rw [show toks s ++ [[41]] ++ R = toks s ++ [41] :: R by simp]
  obtain ⟨F, hF⟩ : ∃ F, ([40] :: (toks s ++ [41] :: R)).length + 1 = F + 2 := ⟨([40] :: (toks s ++ [41] :: R)).length - 1, by simp only [List.length_cons]; omega⟩
  rw [hF, rdL_cons, if_pos rfl, h _ (by simp)]
  simp only
  rw [rdL_cons, if_neg (by decide), if_neg (by decide)]
  simp
theorem rdP_two {f : Nat} {w : List Nat} {s t : Sta} {R : List (List Nat)} (h : ∀ R, R.head? ≠ some [40] → rdP f (toks s ++ R) = some (enc s, R)) (h2 : ∀ R, R.head? ≠ some [40] → rdP f (toks t ++ R) = some (enc t, R)) :
    rdP (f + 1) ((w :: [40] :: (toks s ++ [44] :: [32] :: (toks t ++ [[41]]))) ++ R) = some (.tuple [pD w, enc s, enc t], R) := by
  rw [List.cons_append, List.cons_append, rdP_cons, if_pos (hd_c _ _)]
  rw [show toks s ++ [44] :: [32] :: (toks t ++ [[41]]) ++ R = toks s ++ [44] :: [32] :: (toks t ++ [41] :: R) by simp]
  obtain ⟨F, hF⟩ : ∃ F, ([40] :: (toks s ++ [44] :: [32] :: (toks t ++ [41] :: R))).length + 1 = F + 3 := ⟨([40] :: (toks s ++ [44] :: [32] :: (toks t ++ [41] :: R))).length - 2, by simp only [List.length_cons, List.length_append]; omega⟩
  rw [hF, rdL_cons, if_pos rfl, h _ (by simp)]
  simp only
  rw [rdL_cons, if_neg (by decide), if_pos rfl]
  rw [show List.drop 1 ([32] :: (toks t ++ [41] :: R)) = toks t ++ [41] :: R from rfl, h2 _ (by simp)]
  simp only
  rw [rdL_cons, if_neg (by decide), if_neg (by decide)]
  simp
theorem fig_of {k : Nat} (h : k ≤ 4) : partP [48 + k] = some (.int (k : Int)) := by
  have : k = 0 ∨ k = 1 ∨ k = 2 ∨ k = 3 ∨ k = 4 := by omega
  rcases this with rfl | rfl | rfl | rfl | rfl <;> simp [partP, fig, cY]
theorem rdP_wi {f : Nat} {s : Sta} {k : Nat} (hk : k ≤ 4) {R : List (List Nat)} (hf : 1 ≤ f) (h : ∀ R, R.head? ≠ some [40] → rdP f (toks s ++ R) = some (enc s, R)) :
    rdP (f + 1) ((cW :: [40] :: [48 + k] :: [44] :: [32] :: (toks s ++ [[41]])) ++ R) = some (.tuple [pD cW, .int (k : Int), enc s], R) := by
  obtain ⟨f, rfl⟩ : ∃ g, f = g + 1 := ⟨f - 1, by omega⟩
  simp only [List.cons_append]
  rw [rdP_cons, if_pos (hd_c _ _)]
  rw [show toks s ++ [[41]] ++ R = toks s ++ [41] :: R by simp]
  obtain ⟨F, hF⟩ : ∃ F, ([40] :: [48 + k] :: [44] :: [32] :: (toks s ++ [41] :: R)).length + 1 = F + 3 := ⟨([40] :: [48 + k] :: [44] :: [32] :: (toks s ++ [41] :: R)).length - 2, by simp only [List.length_cons, List.length_append]; omega⟩
  have hfig : rdP (f + 1) ([48 + k] :: [44] :: [32] :: (toks s ++ [41] :: R)) = some (.int (k : Int), [44] :: [32] :: (toks s ++ [41] :: R)) := by
    rw [rdP_cons, if_neg (by simp), fig_of hk]
  rw [hF, rdL_cons, if_pos rfl, hfig]
  simp only
  rw [rdL_cons, if_neg (by decide), if_pos rfl]
  rw [show List.drop 1 ([32] :: (toks s ++ [41] :: R)) = toks s ++ [41] :: R from rfl, h _ (by simp)]
  simp only
  rw [rdL_cons, if_neg (by decide), if_neg (by decide)]
  simp
theorem rdP_toks : ∀ (s : Sta), s.Marks Lm → ksOk s → ∀ f, s.depth ≤ f → ∀ R, R.head? ≠ some [40] → rdP f (toks s ++ R) = some (enc s, R) := by
  intro s
  induction s with
  | mark m =>
    intro hm _ f hf R hR
    obtain ⟨f, rfl⟩ : ∃ k, f = k + 1 := ⟨f - 1, by simp [Sta.depth] at hf; omega⟩
    show rdP (f + 1) ((39 :: (m.cps.toList ++ [39])) :: R) = _
    rw [rdP_cons, if_neg hR]
    have e : partP (39 :: (m.cps.toList ++ [39])) = some (enc (.mark m)) := by
      unfold partP
      rw [if_pos (hd_c _ _)]
      simp only [List.length_cons, List.length_append, List.length_nil, List.drop_succ_cons, List.drop_zero]
      rw [show m.cps.toList.length + (0 + 1) + 1 - 2 = m.cps.toList.length by omega]
      rw [List.take_left]
      rfl
    rw [e]
  | yes =>
    intro _ _ f hf R hR
    obtain ⟨f, rfl⟩ : ∃ k, f = k + 1 := ⟨f - 1, by simp [Sta.depth] at hf; omega⟩
    show rdP (f + 1) (cY :: R) = _
    rw [rdP_cons, if_neg hR]
    have e : partP cY = some (enc .yes) := by
      unfold partP
      rw [if_neg (by decide), if_pos rfl]
      rfl
    rw [e]
  | nt s ih => intro hm hk f hf R _; simp only [Sta.depth] at hf; obtain ⟨f, rfl⟩ : ∃ k, f = k + 1 := ⟨f - 1, by omega⟩; have := rdP_one (w := cN) (R := R) (ih hm hk f (by omega)); unfold pD at this; rw [← s_N] at this; exact this
  | nx s ih => intro hm hk f hf R _; simp only [Sta.depth] at hf; obtain ⟨f, rfl⟩ : ∃ k, f = k + 1 := ⟨f - 1, by omega⟩; have := rdP_one (w := cX) (R := R) (ih hm hk f (by omega)); unfold pD at this; rw [← s_X] at this; exact this
  | bf s ih => intro hm hk f hf R _; simp only [Sta.depth] at hf; obtain ⟨f, rfl⟩ : ∃ k, f = k + 1 := ⟨f - 1, by omega⟩; have := rdP_one (w := cB) (R := R) (ih hm hk f (by omega)); unfold pD at this; rw [← s_B] at this; exact this
  | an s t ih ih' => intro hm hk f hf R _; simp only [Sta.depth] at hf; obtain ⟨f, rfl⟩ : ∃ k, f = k + 1 := ⟨f - 1, by omega⟩; have := rdP_two (w := cA) (R := R) (ih hm.1 hk.1 f (by omega)) (ih' hm.2 hk.2 f (by omega)); unfold pD at this; rw [← s_A] at this; exact this
  | or s t ih ih' => intro hm hk f hf R _; simp only [Sta.depth] at hf; obtain ⟨f, rfl⟩ : ∃ k, f = k + 1 := ⟨f - 1, by omega⟩; have := rdP_two (w := cO) (R := R) (ih hm.1 hk.1 f (by omega)) (ih' hm.2 hk.2 f (by omega)); unfold pD at this; rw [← s_O] at this; exact this
  | un s t ih ih' => intro hm hk f hf R _; simp only [Sta.depth] at hf; obtain ⟨f, rfl⟩ : ∃ k, f = k + 1 := ⟨f - 1, by omega⟩; have := rdP_two (w := cU) (R := R) (ih hm.1 hk.1 f (by omega)) (ih' hm.2 hk.2 f (by omega)); unfold pD at this; rw [← s_U] at this; exact this
  | si s t ih ih' => intro hm hk f hf R _; simp only [Sta.depth] at hf; obtain ⟨f, rfl⟩ : ∃ k, f = k + 1 := ⟨f - 1, by omega⟩; have := rdP_two (w := cS) (R := R) (ih hm.1 hk.1 f (by omega)) (ih' hm.2 hk.2 f (by omega)); unfold pD at this; rw [← s_S] at this; exact this
  | wi k s ih => intro hm hk f hf R _; simp only [Sta.depth] at hf; have := s.depth_pos; obtain ⟨f, rfl⟩ : ∃ k, f = k + 1 := ⟨f - 1, by omega⟩; have := rdP_wi (R := R) hk.1 (by omega) (ih hm hk.2 f (by omega)); unfold pD at this; rw [← s_W] at this; exact this
end K02

namespace K02
open PySem PySem.Spec PyProof.Rows L2 Py
/-! ### read, of any text -/
theorem tokP_props : ∀ (f : Nat) (s : List Nat) (P : List (List Nat)), tokP f s = some P → (∀ p ∈ P, 1 ≤ p.length ∧ p.length ≤ s.length ∧ ∀ c ∈ p, c ∈ s) ∧ P.length ≤ s.length
  | f, [], P, h => by
    have : P = [] := by cases f <;> cases h <;> rfl
    subst this
    exact ⟨fun p hp => by simp at hp, Nat.le_refl _⟩
  | 0, c :: r, P, h => by cases h
  | f + 1, c :: r, P, h => by
    rw [tokP_cons] at h
    cases hp : pieceL (c :: r) with
    | none => rw [hp] at h; cases h
    | some p =>
      rw [hp] at h
      simp only at h
      obtain ⟨h1, h2⟩ := pieceL_take hp
      cases hq : tokP f ((c :: r).drop p.length) with
      | none => rw [hq] at h; cases h
      | some ps =>
        rw [hq] at h
        cases h
        obtain ⟨k1, k2⟩ := tokP_props f _ ps hq
        have hpl : p.length ≤ (c :: r).length := by
          have := congrArg List.length h1
          rw [List.length_take] at this
          omega
        rw [List.length_drop] at k2
        refine ⟨fun q hq => ?_, by simp only [List.length_cons] at hpl k2 ⊢; omega⟩
        rcases List.mem_cons.mp hq with rfl | hq
        · exact ⟨h2, hpl, fun x hx => by rw [h1] at hx; exact List.mem_of_mem_take hx⟩
        · obtain ⟨j1, j2, j3⟩ := k1 q hq
          rw [List.length_drop] at j2
          exact ⟨j1, by omega, fun x hx => List.mem_of_mem_drop (j3 x hx)⟩
theorem fig_le {w : List Nat} {i : Nat} (h : fig w = some i) : i ≤ 4 := by
  unfold fig at h
  split at h
  · cases h; decide
  · split at h
    · cases h; decide
    · split at h
      · cases h; decide
      · split at h
        · cases h; decide
        · split at h
          · cases h; decide
          · cases h
theorem partP_tr {w : List Nat} {d : D} (hw : w.length ≤ MX) (h : partP w = some d) : Tr d := by
  unfold partP at h
  split at h
  · cases h
    refine .mark _ ?_
    rw [mk_len, List.length_take, List.length_drop]
    omega
  · split at h
    · cases h; exact .yes
    · split at h
      · rename_i i hi
        cases h
        exact .num i (fig_le hi)
      · cases h
def GTr (g : List (List Nat) → Option (D × List (List Nat))) : Prop := ∀ s d r, (∀ p ∈ s, p.length ≤ MX) → g s = some (d, r) → Tr d ∧ ∀ p ∈ r, p ∈ s
theorem rdL_tr {g : List (List Nat) → Option (D × List (List Nat))} (hg : GTr g) : ∀ (F : Nat) (acc : List D) (s : List (List Nat)) (acc' : List D) (r : List (List Nat)), (∀ p ∈ s, p.length ≤ MX) → rdL g F acc s = some (acc', r) → (∃ ds, acc' = acc ++ ds ∧ ∀ d ∈ ds, Tr d) ∧ ∀ p ∈ r, p ∈ s
  | 0, acc, s, acc', r, _, h => by cases h
  | F + 1, acc, [], acc', r, _, h => by cases h; exact ⟨⟨[], by simp, fun d hd => by simp at hd⟩, fun p hp => hp⟩
  | F + 1, acc, t :: s, acc', r, hs, h => by
    rw [rdL_cons] at h
    have go : ∀ X : List (List Nat), (∀ p ∈ X, p ∈ t :: s) → (match g X with
      | none => none
      | some (d, r') => rdL g F (acc ++ [d]) r') = some (acc', r) → (∃ ds, acc' = acc ++ ds ∧ ∀ d ∈ ds, Tr d) ∧ ∀ p ∈ r, p ∈ t :: s := by
      intro X hX h
      cases hgx : g X with
      | none => rw [hgx] at h; cases h
      | some q =>
        obtain ⟨d, r'⟩ := q
        rw [hgx] at h
        simp only at h
        obtain ⟨td, sub⟩ := hg X d r' (fun p hp => hs p (hX p hp)) hgx
        obtain ⟨⟨ds, e, hds⟩, sub2⟩ := rdL_tr hg F (acc ++ [d]) r' acc' r (fun p hp => hs p (hX p (sub p hp))) h
        refine ⟨⟨d :: ds, by rw [e]; simp, fun x hx => ?_⟩, fun p hp => hX p (sub p (sub2 p hp))⟩
        rcases List.mem_cons.mp hx with rfl | hx
        · exact td
        · exact hds x hx
    split at h
    · exact go s (fun p hp => List.mem_cons_of_mem _ hp) h
    · split at h
      · exact go (s.drop 1) (fun p hp => List.mem_cons_of_mem _ (List.mem_of_mem_drop hp)) h
      · cases h
        exact ⟨⟨[], by simp, fun d hd => by simp at hd⟩, fun p hp => hp⟩
theorem rdP_tr : ∀ f, GTr (rdP f) := by
  intro f
  induction f with
  | zero => intro s d r _ h; cases h
  | succ f ih =>
    intro s d r hs h
    cases s with
    | nil => cases h
    | cons w s =>
      rw [rdP_cons] at h
      split at h
      · split at h
        · rename_i acc t r' hl
          split at h
          · cases h
            obtain ⟨⟨ds, e, hds⟩, sub⟩ := rdL_tr ih _ _ _ _ _ (fun p hp => hs p (List.mem_cons_of_mem _ hp)) hl
            refine ⟨?_, fun p hp => List.mem_cons_of_mem _ (sub p (List.mem_cons_of_mem _ hp))⟩
            rw [e]
            exact .node _ ds hds
          · cases h
        · cases h
      · split at h
        · rename_i x hx
          cases h
          exact ⟨partP_tr (hs w List.mem_cons_self) hx, fun p hp => List.mem_cons_of_mem _ hp⟩
        · cases h
abbrev rdT : Fs := sIf (gNot (fT (f1 (oIsi "str") (fOpd 0)))) (sRaise "BadText") fNext
theorem read_not {d : D} (h : oIsi "str" d = some (.bool false)) (n : Nat) : Phi (n + 1) .read [d] = some (.er "BadText") := by
  rw [phi_read]
  refine runF_er rfl ?_
  unfold f_read
  refine seq_er ?_
  simp [entry, fOwn, fOpN,  fSeq, fNext, sRet, sRetN, sIf, sSet, sSetO, sAsg, sApp, sFor, forF, fVar, fOpd, fCon, f2, f1, fNil, fCons, bR, bL, bA, bLL, oR, fT, gAnd, gOr, gNot, gYes, fAnd, fOr, fNot, fIte, fTup, fLst, fCall, fCallO, fB, fM1, fSl, fiNo, fiSm, fLc, wLst, wTup, wStr, wRg1, wRg2, wZip, wEnum, gfN, gfTup, gsNil, gsCons, fLrg, fLrg3, wipeG, xSeq, xSet, xOf, xCall, xIf, xRet, xNext, xTup, xCons, xNil, xPut, xCallP, sRetX, sSetX, List.getElem?_cons_zero, List.getElem?_cons_succ, List.set_cons_zero, List.set_cons_succ, List.replicate, h, sRaise]
/-- what read tells of a text whose pieces and parts are found -/
theorem read_of {L : List Nat} (hT : Tx L) (hL : L.length ≤ MX) {n : Nat} (hn : 20 ≤ n) :
    (∃ S, Val 6 S ∧ textL S = L ∧ Phi (n + 1) .read [.str (mk L)] = some (.ok (enc S)) ∧ ∃ P r, tok L = some P ∧ rdP 9 P = some (enc S, r)) ∨
    (Phi (n + 1) .read [.str (mk L)] = some (.er "BadText") ∧ ∀ P S r, tok L = some P → rdP 9 P = some (enc S, r) → Val 6 S → textL S ≠ L) := by
  obtain ⟨n, rfl⟩ : ∃ k, n = k + 2 := ⟨n - 2, by omega⟩
  have rp := run_pieces hL n
  have g0 : entry 3 [.str (mk L)] = [.va (.str (mk L)), .no, .no] := rfl
  have first : ∀ rest : Fs, fSeq rdT rest [.va (.str (mk L)), .no, .no] = rest [.va (.str (mk L)), .no, .no] := fun rest => fSeq_nx (by simp [fOwn, fOpN,  fSeq, fNext, sRet, sRetN, sIf, sSet, sSetO, sAsg, sApp, sFor, forF, fVar, fOpd, fCon, f2, f1, fNil, fCons, bR, bL, bA, bLL, oR, fT, gAnd, gOr, gNot, gYes, fAnd, fOr, fNot, fIte, fTup, fLst, fCall, fCallO, fB, fM1, fSl, fiNo, fiSm, fLc, wLst, wTup, wStr, wRg1, wRg2, wZip, wEnum, gfN, gfTup, gsNil, gsCons, fLrg, fLrg3, wipeG, xSeq, xSet, xOf, xCall, xIf, xRet, xNext, xTup, xCons, xNil, xPut, xCallP, sRetX, sSetX, List.getElem?_cons_zero, List.getElem?_cons_succ, List.set_cons_zero, List.set_cons_succ, tpS])
  rw [phi_read]
  cases ht : tokP L.length L with
  | none =>
    rw [ht] at rp
    simp only at rp
    refine .inr ⟨runF_er rfl ?_, fun P S r h1 => by rw [show tok L = none from ht] at h1; cases h1⟩
    unfold f_read
    rw [g0, first]
    refine seq_er ?_
    unfold sAsg
    simp only [fOwn, fOpN,  fSeq, fNext, sRet, sRetN, sIf, sSet, sSetO, sAsg, sApp, sFor, forF, fVar, fOpd, fCon, f2, f1, fNil, fCons, bR, bL, bA, bLL, oR, fT, gAnd, gOr, gNot, gYes, fAnd, fOr, fNot, fIte, fTup, fLst, fCall, fCallO, fB, fM1, fSl, fiNo, fiSm, fLc, wLst, wTup, wStr, wRg1, wRg2, wZip, wEnum, gfN, gfTup, gsNil, gsCons, fLrg, fLrg3, wipeG, xSeq, xSet, xOf, xCall, xIf, xRet, xNext, xTup, xCons, xNil, xPut, xCallP, sRetX, sSetX, List.getElem?_cons_zero, List.getElem?_cons_succ, List.set_cons_zero, List.set_cons_succ, bR_ok, bL_ok, bLL_ok, bA_ok, rp, bL, bA]
  | some P =>
    rw [ht] at rp
    simp only at rp
    obtain ⟨h1, h2⟩ := tokP_props _ _ _ ht
    have hP : TxL P := fun p hp => hT.sub (h1 p hp).2.2
    have ra := run_read_at hP (fun p hp => ⟨(h1 p hp).1, Nat.le_trans (h1 p hp).2.1 hL⟩) (Nat.le_trans h2 hL) 9 (n + 2) (by omega) 0
    have e0 : (9 : Int) - ((9 : Nat) : Int) = 0 := by decide
    unfold RdOk at ra
    rw [e0, List.drop_zero] at ra
    rcases ra with ⟨k1, k2⟩ | ⟨d, e, k1, _, _, k2⟩
    · refine .inr ⟨runF_er rfl ?_, fun P' S r h1 h2 => by rw [show tok L = some P from ht] at h1; cases h1; rw [k1] at h2; cases h2⟩
      simp only [Int.ofNat_zero, Int.natCast_zero] at k2
      unfold f_read
      rw [g0, first]
      refine seq_er ?_
      unfold sAsg
      simp only [fOwn, fOpN,  fSeq, fNext, sRet, sRetN, sIf, sSet, sSetO, sAsg, sApp, sFor, forF, fVar, fOpd, fCon, f2, f1, fNil, fCons, bR, bL, bA, bLL, oR, fT, gAnd, gOr, gNot, gYes, fAnd, fOr, fNot, fIte, fTup, fLst, fCall, fCallO, fB, fM1, fSl, fiNo, fiSm, fLc, wLst, wTup, wStr, wRg1, wRg2, wZip, wEnum, gfN, gfTup, gsNil, gsCons, fLrg, fLrg3, wipeG, xSeq, xSet, xOf, xCall, xIf, xRet, xNext, xTup, xCons, xNil, xPut, xCallP, sRetX, sSetX, List.getElem?_cons_zero, List.getElem?_cons_succ, List.set_cons_zero, List.set_cons_succ, bR_ok, bL_ok, bLL_ok, bA_ok, rp, k2]
    · simp only [Int.ofNat_zero, Int.natCast_zero] at k2
      have hd := (rdP_tr 9 P d _ (fun p hp => Nat.le_trans (h1 p hp).2.1 hL) k1).1
      have second : ∀ rest : Fs, fSeq (sAsg (fCall (Phi (n + 2) .read_at) (fCons (fCall (Phi (n + 2) .pieces_of) (fCons (fVar 0) fNil)) (fCons (fCon (.int 0)) (fCons (fCon (.int 0)) fNil)))) (gfTup (gsCons (gfN 1) (gsCons (gfN 2) gsNil)))) rest [.va (.str (mk L)), .no, .no] = rest [.va (.str (mk L)), .va d, .va (.int (e : Int))] := fun rest => fSeq_nx (by
        unfold sAsg
        simp only [fOwn, fOpN,  fSeq, fNext, sRet, sRetN, sIf, sSet, sSetO, sAsg, sApp, sFor, forF, fVar, fOpd, fCon, f2, f1, fNil, fCons, bR, bL, bA, bLL, oR, fT, gAnd, gOr, gNot, gYes, fAnd, fOr, fNot, fIte, fTup, fLst, fCall, fCallO, fB, fM1, fSl, fiNo, fiSm, fLc, wLst, wTup, wStr, wRg1, wRg2, wZip, wEnum, gfN, gfTup, gsNil, gsCons, fLrg, fLrg3, wipeG, xSeq, xSet, xOf, xCall, xIf, xRet, xNext, xTup, xCons, xNil, xPut, xCallP, sRetX, sSetX, List.getElem?_cons_zero, List.getElem?_cons_succ, List.set_cons_zero, List.set_cons_succ, bR_ok, bL_ok, bLL_ok, bA_ok, rp, k2])
      obtain ⟨b, q1, q2⟩ := fm_tr 6 d hd (n + 1) (by omega)
      have st : Phi (n + 2) .is_statement [d] = some (.ok (.bool b)) := by
        rw [phi_is_statement]
        refine runF_rt rfl ?_
        unfold f_is_statement
        exact ret_of (call_of (cons_of (d := d) rfl (one_of (d := .int 6) rfl)) q1)
      cases b with
      | false =>
        refine .inr ⟨runF_er rfl ?_, fun P' S r h1 h2 v => ?_⟩
        · unfold f_read
          rw [g0, first, second]
          refine seq_er ?_
          simp [fOwn, fOpN,  fSeq, fNext, sRet, sRetN, sIf, sSet, sSetO, sAsg, sApp, sFor, forF, fVar, fOpd, fCon, f2, f1, fNil, fCons, bR, bL, bA, bLL, oR, fT, gAnd, gOr, gNot, gYes, fAnd, fOr, fNot, fIte, fTup, fLst, fCall, fCallO, fB, fM1, fSl, fiNo, fiSm, fLc, wLst, wTup, wStr, wRg1, wRg2, wZip, wEnum, gfN, gfTup, gsNil, gsCons, fLrg, fLrg3, wipeG, xSeq, xSet, xOf, xCall, xIf, xRet, xNext, xTup, xCons, xNil, xPut, xCallP, sRetX, sSetX, List.getElem?_cons_zero, List.getElem?_cons_succ, List.set_cons_zero, List.set_cons_succ, st, sRaise]
        · rw [show tok L = some P from ht] at h1
          cases h1
          rw [k1] at h2
          cases h2
          have := run_formed2 6 S v.mks v.ks (n + 1) (by omega)
          rw [decide_eq_true v.dep] at this
          rw [this] at q1
          cases q1
      | true =>
        obtain ⟨S, v, rfl⟩ := q2 rfl
        have wr := run_written S v.mks v.ks v.dep (n + 2) (by have := v.dep; omega)
        by_cases he : textL S = L
        · refine .inl ⟨S, v, he, runF_rt rfl ?_, P, _, ht, k1⟩
          rw [he] at wr
          unfold f_read
          rw [g0, first, second]
          rw [fSeq_nx (γ1 := [.va (.str (mk L)), .va (enc S), .va (.int (e : Int))]) (by simp [fOwn, fOpN,  fSeq, fNext, sRet, sRetN, sIf, sSet, sSetO, sAsg, sApp, sFor, forF, fVar, fOpd, fCon, f2, f1, fNil, fCons, bR, bL, bA, bLL, oR, fT, gAnd, gOr, gNot, gYes, fAnd, fOr, fNot, fIte, fTup, fLst, fCall, fCallO, fB, fM1, fSl, fiNo, fiSm, fLc, wLst, wTup, wStr, wRg1, wRg2, wZip, wEnum, gfN, gfTup, gsNil, gsCons, fLrg, fLrg3, wipeG, xSeq, xSet, xOf, xCall, xIf, xRet, xNext, xTup, xCons, xNil, xPut, xCallP, sRetX, sSetX, List.getElem?_cons_zero, List.getElem?_cons_succ, List.set_cons_zero, List.set_cons_succ, st, wr])]
          simp [fOwn, fOpN,  fSeq, fNext, sRet, sRetN, sIf, sSet, sSetO, sAsg, sApp, sFor, forF, fVar, fOpd, fCon, f2, f1, fNil, fCons, bR, bL, bA, bLL, oR, fT, gAnd, gOr, gNot, gYes, fAnd, fOr, fNot, fIte, fTup, fLst, fCall, fCallO, fB, fM1, fSl, fiNo, fiSm, fLc, wLst, wTup, wStr, wRg1, wRg2, wZip, wEnum, gfN, gfTup, gsNil, gsCons, fLrg, fLrg3, wipeG, xSeq, xSet, xOf, xCall, xIf, xRet, xNext, xTup, xCons, xNil, xPut, xCallP, sRetX, sSetX, List.getElem?_cons_zero, List.getElem?_cons_succ, List.set_cons_zero, List.set_cons_succ]
        · have hne : (mk (textL S) == mk L) = false := by rw [mk_beq]; exact decide_eq_false he
          refine .inr ⟨runF_er rfl ?_, fun P' S' r h1 h2 v' => ?_⟩
          · unfold f_read
            rw [g0, first, second]
            refine seq_er ?_
            simp [fOwn, fOpN,  fSeq, fNext, sRet, sRetN, sIf, sSet, sSetO, sAsg, sApp, sFor, forF, fVar, fOpd, fCon, f2, f1, fNil, fCons, bR, bL, bA, bLL, oR, fT, gAnd, gOr, gNot, gYes, fAnd, fOr, fNot, fIte, fTup, fLst, fCall, fCallO, fB, fM1, fSl, fiNo, fiSm, fLc, wLst, wTup, wStr, wRg1, wRg2, wZip, wEnum, gfN, gfTup, gsNil, gsCons, fLrg, fLrg3, wipeG, xSeq, xSet, xOf, xCall, xIf, xRet, xNext, xTup, xCons, xNil, xPut, xCallP, sRetX, sSetX, List.getElem?_cons_zero, List.getElem?_cons_succ, List.set_cons_zero, List.set_cons_succ, st, wr, hne, sRaise]
          · rw [show tok L = some P from ht] at h1
            cases h1
            rw [k1] at h2
            injection h2 with h2
            injection h2 with h2
            have : S = S' := by
              have q := enc_eqv S S'
              rw [← h2, show PyData.eqv (enc S) (enc S) = true from by rw [enc_eqv]; simp] at q
              exact of_decide_eq_true q.symm
            subst this
            exact he
theorem read_all {L : List Nat} (hT : Tx L) (hL : L.length ≤ MX) {n : Nat} (hn : 20 ≤ n) :
    (∃ S, Val 6 S ∧ textL S = L ∧ Phi (n + 1) .read [.str (mk L)] = some (.ok (enc S))) ∨
    (Phi (n + 1) .read [.str (mk L)] = some (.er "BadText") ∧ ∀ S, Val 6 S → textL S ≠ L) := by
  rcases read_of hT hL hn with ⟨S, v, h1, h2, _⟩ | ⟨h1, h2⟩
  · exact .inl ⟨S, v, h1, h2⟩
  · refine .inr ⟨h1, fun S v e => ?_⟩
    have ht : tok L = some (toks S) := by rw [← e]; exact tok_all v.mks v.ks
    have hr := rdP_toks S v.mks v.ks 9 (by have := v.dep; omega) [] (by simp)
    rw [List.append_nil] at hr
    exact h2 _ S [] ht hr v e
end K02

namespace K02
open PySem PySem.Spec PyProof.Rows L2 Py
/-! ### the law's own reading: a mark -/
abbrev maC : Ft := gAnd (fT (f2 oLt (fOpd 2) (fB oLen (fCons (fOpd 0) fNil)))) (fT (f2 (oIn false) (f2 oIx (fOpd 0) (fOpd 2)) (fCon (.str "abcdefghijklmnopqrstuvwxyz"))))
theorem in_letf (c : Nat) : oIn false (.str (mk [c])) (.str "abcdefghijklmnopqrstuvwxyz") = some (.bool (lett c)) := rfl
theorem mark_loopL {L : List Nat} (hL : L.length ≤ MX) (A : Sl) : ∀ (s : List Nat) (e : Nat), L.drop e = s → ∀ n, s.length < n → whF maC pcB n [.va (.str (mk L)), A, .va (.int (e : Int))] = some (.nx [.va (.str (mk L)), A, .va (.int ((e + (s.takeWhile lett).length : Nat) : Int))])
  | [], e, h, n, hn => by
    obtain ⟨n, rfl⟩ : ∃ k, n = k + 1 := ⟨n - 1, by simp at hn; omega⟩
    have h1 := drop_nil h
    have h2 : ¬ (e : Int) < (L.length : Int) := by omega
    rw [whF_f (by simp [fOwn, fOpN,  fSeq, fNext, sRet, sRetN, sIf, sSet, sSetO, sAsg, sApp, sFor, forF, fVar, fOpd, fCon, f2, f1, fNil, fCons, bR, bL, bA, bLL, oR, fT, gAnd, gOr, gNot, gYes, fAnd, fOr, fNot, fIte, fTup, fLst, fCall, fCallO, fB, fM1, fSl, fiNo, fiSm, fLc, wLst, wTup, wStr, wRg1, wRg2, wZip, wEnum, gfN, gfTup, gsNil, gsCons, fLrg, fLrg3, wipeG, xSeq, xSet, xOf, xCall, xIf, xRet, xNext, xTup, xCons, xNil, xPut, xCallP, sRetX, sSetX, List.getElem?_cons_zero, List.getElem?_cons_succ, List.set_cons_zero, List.set_cons_succ, len_mk hL, h2])]
    simp
  | c :: r, e, h, n, hn => by
    obtain ⟨n, rfl⟩ : ∃ k, n = k + 1 := ⟨n - 1, by simp at hn; omega⟩
    obtain ⟨h1, h2, h3⟩ := drop_cons h
    have h4 : (e : Int) < (L.length : Int) := by omega
    have i := ix_mk hL h1
    cases hs : lett c with
    | false =>
      rw [whF_f (by simp [fOwn, fOpN,  fSeq, fNext, sRet, sRetN, sIf, sSet, sSetO, sAsg, sApp, sFor, forF, fVar, fOpd, fCon, f2, f1, fNil, fCons, bR, bL, bA, bLL, oR, fT, gAnd, gOr, gNot, gYes, fAnd, fOr, fNot, fIte, fTup, fLst, fCall, fCallO, fB, fM1, fSl, fiNo, fiSm, fLc, wLst, wTup, wStr, wRg1, wRg2, wZip, wEnum, gfN, gfTup, gsNil, gsCons, fLrg, fLrg3, wipeG, xSeq, xSet, xOf, xCall, xIf, xRet, xNext, xTup, xCons, xNil, xPut, xCallP, sRetX, sSetX, List.getElem?_cons_zero, List.getElem?_cons_succ, List.set_cons_zero, List.set_cons_succ, len_mk hL, h4, i, in_letf, hs])]
      simp [hs]
    | true =>
      have ec : ((e : Int) + 1) = ((e + 1 : Nat) : Int) := by omega
      rw [whF_t (γ2 := [.va (.str (mk L)), A, .va (.int ((e + 1 : Nat) : Int))]) (by simp [fOwn, fOpN,  fSeq, fNext, sRet, sRetN, sIf, sSet, sSetO, sAsg, sApp, sFor, forF, fVar, fOpd, fCon, f2, f1, fNil, fCons, bR, bL, bA, bLL, oR, fT, gAnd, gOr, gNot, gYes, fAnd, fOr, fNot, fIte, fTup, fLst, fCall, fCallO, fB, fM1, fSl, fiNo, fiSm, fLc, wLst, wTup, wStr, wRg1, wRg2, wZip, wEnum, gfN, gfTup, gsNil, gsCons, fLrg, fLrg3, wipeG, xSeq, xSet, xOf, xCall, xIf, xRet, xNext, xTup, xCons, xNil, xPut, xCallP, sRetX, sSetX, List.getElem?_cons_zero, List.getElem?_cons_succ, List.set_cons_zero, List.set_cons_succ, len_mk hL, h4, i, in_letf, hs]) (by simp only [fOwn, fOpN,  fSeq, fNext, sRet, sRetN, sIf, sSet, sSetO, sAsg, sApp, sFor, forF, fVar, fOpd, fCon, f2, f1, fNil, fCons, bR, bL, bA, bLL, oR, fT, gAnd, gOr, gNot, gYes, fAnd, fOr, fNot, fIte, fTup, fLst, fCall, fCallO, fB, fM1, fSl, fiNo, fiSm, fLc, wLst, wTup, wStr, wRg1, wRg2, wZip, wEnum, gfN, gfTup, gsNil, gsCons, fLrg, fLrg3, wipeG, xSeq, xSet, xOf, xCall, xIf, xRet, xNext, xTup, xCons, xNil, xPut, xCallP, sRetX, sSetX, List.getElem?_cons_zero, List.getElem?_cons_succ, List.set_cons_zero, List.set_cons_succ, bR_ok, oR_some, oAdd_int, ec])]
      rw [mark_loopL hL A r (e + 1) h3 n (by simp at hn; omega)]
      have : e + 1 + (r.takeWhile lett).length = e + ((c :: r).takeWhile lett).length := by
        rw [List.takeWhile_cons, hs]
        simp
        omega
      rw [this]
def markP (r : List Nat) : Option (Sta × List Nat) :=
  if (r.drop (r.takeWhile lett).length).take 1 = [39] ∧ 1 ≤ (r.takeWhile lett).length ∧ (r.takeWhile lett).length ≤ 6 then some (.mark (mk (r.takeWhile lett)), (r.drop (r.takeWhile lett).length).drop 1) else none
/-- what the law's reading tells at a place -/
def LwOk (L : List Nat) (g : Option (Sta × List Nat)) (x : Option Rs) : Prop :=
  (g = none ∧ ∃ k : Int, x = some (.ok (.tuple [.none, .int k]))) ∨
  ∃ S b, g = some (S, L.drop b) ∧ b ≤ L.length ∧ x = some (.ok (.tuple [enc S, .int (b : Int)]))
theorem take1_len {l : List Nat} {c : Nat} (h : l.take 1 = [c]) : 1 ≤ l.length := by
  have := congrArg List.length h
  rw [List.length_take] at this
  simp at this
  omega
theorem run_mark_at {L : List Nat} (hL : L.length ≤ MX) (n : Nat) {a : Nat} {r : List Nat} (h : L.drop a = 39 :: r) : LwOk L (markP r) (Phi (n + 1) .l_mark_at [.str (mk L), .int (a : Int)]) := by
  obtain ⟨_, h2, h3⟩ := drop_cons h
  have hw := mark_loopL hL (.va (.int (a : Int))) r (a + 1) h3 fuel (fuel_gt (by
    have := congrArg List.length h3
    rw [List.length_drop] at this
    unfold MX at hL; omega))
  have tk := take_tw lett r
  unfold markP
  generalize r.takeWhile lett = w at hw tk ⊢
  have e1 : ((a : Int) + 1) = ((a + 1 : Nat) : Int) := by omega
  have e2 : ((a + 1 + w.length : Nat) : Int) + 1 = ((a + 1 + w.length + 1 : Nat) : Int) := by omega
  have sl := sl_mid hL (i := a + 1 + w.length) (j := a + 1 + w.length + 1) (by omega)
  have sl2 := sl_mid hL (i := a + 1) (j := a + 1 + w.length) (by omega)
  rw [show a + 1 + w.length + 1 - (a + 1 + w.length) = 1 by omega] at sl
  rw [show a + 1 + w.length - (a + 1) = w.length by omega, h3, tk] at sl2
  have ed : L.drop (a + 1 + w.length) = r.drop w.length := by rw [← h3, List.drop_drop]
  rw [ed, ← e2] at sl
  rw [← e1] at sl2
  have g0 : entry 3 [.str (mk L), .int (a : Int)] = [.va (.str (mk L)), .va (.int (a : Int)), .no] := rfl
  have first : ∀ rest : Fs, fSeq (sSet 2 (f2 oAdd (fOpd 1) (fCon (.int 1)))) (fSeq (sWh maC pcB) rest) [.va (.str (mk L)), .va (.int (a : Int)), .no] = rest [.va (.str (mk L)), .va (.int (a : Int)), .va (.int ((a + 1 + w.length : Nat) : Int))] := fun rest => by
    rw [fSeq_nx (γ1 := [.va (.str (mk L)), .va (.int (a : Int)), .va (.int ((a + 1 : Nat) : Int))]) (by simp only [fOwn, fOpN,  fSeq, fNext, sRet, sRetN, sIf, sSet, sSetO, sAsg, sApp, sFor, forF, fVar, fOpd, fCon, f2, f1, fNil, fCons, bR, bL, bA, bLL, oR, fT, gAnd, gOr, gNot, gYes, fAnd, fOr, fNot, fIte, fTup, fLst, fCall, fCallO, fB, fM1, fSl, fiNo, fiSm, fLc, wLst, wTup, wStr, wRg1, wRg2, wZip, wEnum, gfN, gfTup, gsNil, gsCons, fLrg, fLrg3, wipeG, xSeq, xSet, xOf, xCall, xIf, xRet, xNext, xTup, xCons, xNil, xPut, xCallP, sRetX, sSetX, List.getElem?_cons_zero, List.getElem?_cons_succ, List.set_cons_zero, List.set_cons_succ, bR_ok, oR_some, oAdd_int, e1])]
    exact fSeq_nx hw
  have tst : gOr (fT (f2 oNe (fSl (fOpd 0) (fiSm (fOpd 2)) (fiSm (f2 oAdd (fOpd 2) (fCon (.int 1))))) (fCon (.str "'")))) (gNot (fChainT (fCon (.int 1)) (f2 oSub (fOpd 2) (fOpd 1)) (fCon (.int 8)))) [.va (.str (mk L)), .va (.int (a : Int)), .va (.int ((a + 1 + w.length : Nat) : Int))]
      = some (.ok (!decide ((r.drop w.length).take 1 = [39] ∧ 1 ≤ w.length ∧ w.length ≤ 6))) := by
    have c1 : fT (f2 oNe (fSl (fOpd 0) (fiSm (fOpd 2)) (fiSm (f2 oAdd (fOpd 2) (fCon (.int 1))))) (fCon (.str "'"))) [.va (.str (mk L)), .va (.int (a : Int)), .va (.int ((a + 1 + w.length : Nat) : Int))] = some (.ok (!decide ((r.drop w.length).take 1 = [39]))) := by
      simp only [fOwn, fOpN,  fSeq, fNext, sRet, sRetN, sIf, sSet, sSetO, sAsg, sApp, sFor, forF, fVar, fOpd, fCon, f2, f1, fNil, fCons, bR, bL, bA, bLL, oR, fT, gAnd, gOr, gNot, gYes, fAnd, fOr, fNot, fIte, fTup, fLst, fCall, fCallO, fB, fM1, fSl, fiNo, fiSm, fLc, wLst, wTup, wStr, wRg1, wRg2, wZip, wEnum, gfN, gfTup, gsNil, gsCons, fLrg, fLrg3, wipeG, xSeq, xSet, xOf, xCall, xIf, xRet, xNext, xTup, xCons, xNil, xPut, xCallP, sRetX, sSetX, List.getElem?_cons_zero, List.getElem?_cons_succ, List.set_cons_zero, List.set_cons_succ, bR_ok, oR_some, oAdd_int, sl, s_quote, oNe_str, mk_beq]
    have c2 : fChainT (fCon (.int 1)) (f2 oSub (fOpd 2) (fOpd 1)) (fCon (.int 8)) [.va (.str (mk L)), .va (.int (a : Int)), .va (.int ((a + 1 + w.length : Nat) : Int))] = some (.ok (decide (1 ≤ w.length ∧ w.length ≤ 6))) := by
      simp only [fChainT, fOwn, fOpN,  fSeq, fNext, sRet, sRetN, sIf, sSet, sSetO, sAsg, sApp, sFor, forF, fVar, fOpd, fCon, f2, f1, fNil, fCons, bR, bL, bA, bLL, oR, fT, gAnd, gOr, gNot, gYes, fAnd, fOr, fNot, fIte, fTup, fLst, fCall, fCallO, fB, fM1, fSl, fiNo, fiSm, fLc, wLst, wTup, wStr, wRg1, wRg2, wZip, wEnum, gfN, gfTup, gsNil, gsCons, fLrg, fLrg3, wipeG, xSeq, xSet, xOf, xCall, xIf, xRet, xNext, xTup, xCons, xNil, xPut, xCallP, sRetX, sSetX, List.getElem?_cons_zero, List.getElem?_cons_succ, List.set_cons_zero, List.set_cons_succ, bR_ok, oR_some, oSub_int]
      congr 2
      rw [← Bool.decide_and]
      apply decide_eq_decide.mpr
      omega
    unfold gOr gNot
    rw [c1, c2]
    by_cases q : (r.drop w.length).take 1 = [39]
    · simp [q]
    · simp [q]
  rw [phi_l_mark_at]
  have b2 : (2 : Nat) ≤ big := by decide
  by_cases hc : (r.drop w.length).take 1 = [39] ∧ 1 ≤ w.length ∧ w.length ≤ 6
  · rw [if_pos hc]
    rw [decide_eq_true hc] at tst
    have := take1_len hc.1
    rw [List.length_drop] at this
    have l3 := congrArg List.length h3
    rw [List.length_drop] at l3
    refine .inr ⟨.mark (mk w), a + 1 + w.length + 1, by rw [← ed, List.drop_drop], by omega, runF_rt rfl ?_⟩
    unfold f_l_mark_at
    rw [g0, first]
    rw [fSeq_nx (γ1 := [.va (.str (mk L)), .va (.int (a : Int)), .va (.int ((a + 1 + w.length : Nat) : Int))]) (by rw [sIf_of tst]; rfl)]
    simp only [fOwn, fOpN,  fSeq, fNext, sRet, sRetN, sIf, sSet, sSetO, sAsg, sApp, sFor, forF, fVar, fOpd, fCon, f2, f1, fNil, fCons, bR, bL, bA, bLL, oR, fT, gAnd, gOr, gNot, gYes, fAnd, fOr, fNot, fIte, fTup, fLst, fCall, fCallO, fB, fM1, fSl, fiNo, fiSm, fLc, wLst, wTup, wStr, wRg1, wRg2, wZip, wEnum, gfN, gfTup, gsNil, gsCons, fLrg, fLrg3, wipeG, xSeq, xSet, xOf, xCall, xIf, xRet, xNext, xTup, xCons, xNil, xPut, xCallP, sRetX, sSetX, List.getElem?_cons_zero, List.getElem?_cons_succ, List.set_cons_zero, List.set_cons_succ, bR_ok, bL_ok, bLL_ok, bA_ok, oR_some, oAdd_int, sl2, b2, List.length_cons, List.length_nil, Nat.zero_add, Nat.reduceAdd, if_true, enc, e2]
  · rw [if_neg hc]
    rw [decide_eq_false hc] at tst
    refine .inl ⟨rfl, (a : Int), runF_rt rfl ?_⟩
    unfold f_l_mark_at
    rw [g0, first]
    refine seq_rt ?_
    rw [sIf_of tst]
    simp only [fOwn, fOpN,  fSeq, fNext, sRet, sRetN, sIf, sSet, sSetO, sAsg, sApp, sFor, forF, fVar, fOpd, fCon, f2, f1, fNil, fCons, bR, bL, bA, bLL, oR, fT, gAnd, gOr, gNot, gYes, fAnd, fOr, fNot, fIte, fTup, fLst, fCall, fCallO, fB, fM1, fSl, fiNo, fiSm, fLc, wLst, wTup, wStr, wRg1, wRg2, wZip, wEnum, gfN, gfTup, gsNil, gsCons, fLrg, fLrg3, wipeG, xSeq, xSet, xOf, xCall, xIf, xRet, xNext, xTup, xCons, xNil, xPut, xCallP, sRetX, sSetX, List.getElem?_cons_zero, List.getElem?_cons_succ, List.set_cons_zero, List.set_cons_succ, bR_ok, bL_ok, bLL_ok, bA_ok, oR_some, b2, List.length_cons, List.length_nil, Nat.zero_add, Nat.reduceAdd, if_true, Bool.not_false]
/-! ### .. the parts behind a word -/
def oneL (f : Sta → Sta) (g : List Nat → Option (Sta × List Nat)) (r : List Nat) : Option (Sta × List Nat) := match g r with
  | none => none
  | some (S, r') => if r'.take 1 = [41] then some (f S, r'.drop 1) else none
def twoL (f : Sta → Sta → Sta) (g : List Nat → Option (Sta × List Nat)) (r : List Nat) : Option (Sta × List Nat) := match g r with
  | none => none
  | some (S, r') => if r'.take 2 = [44, 32] then (match g (r'.drop 2) with
    | none => none
    | some (T, r'') => if r''.take 1 = [41] then some (f S T, r''.drop 1) else none) else none
def wiL (g : List Nat → Option (Sta × List Nat)) (r : List Nat) : Option (Sta × List Nat) := match fig (r.take 1) with
  | none => none
  | some k => if (r.drop 1).take 2 = [44, 32] then oneL (.wi k) g (r.drop 3) else none
abbrev paB (φ : List D → Option Rs) : Fs := fSeq (sIf (gAnd (fT (f2 oEq (fOpd 5) (fCon (.int 1)))) (fT (f2 oNe (fSl (fOpd 0) (fiSm (fOpd 1)) (fiSm (f2 oAdd (fOpd 1) (fCon (.int 2))))) (fCon (.str ", "))))) (sRet (fTup (fCons (fCon .none) (fCons (fVar 1) fNil)))) fNext)
    (fSeq (sAsg (fCall φ (fCons (fVar 0) (fCons (f2 oAdd (fOpd 1) (f2 oMul (fCon (.int 2)) (fOpd 5))) (fCons (f2 oSub (fOpd 3) (fCon (.int 1))) fNil)))) (gfTup (gsCons (gfN 6) (gsCons (gfN 1) gsNil))))
    (fSeq (sIf (fT (f2 oIs (fOpd 6) (fCon .none))) (sRet (fTup (fCons (fCon .none) (fCons (fVar 1) fNil)))) fNext)
    (sSet 4 (f2 oAdd (fOpd 4) (fTup (fCons (fVar 6) fNil))))))
abbrev paE : Fs := fSeq (sIf (fT (f2 oNe (fSl (fOpd 0) (fiSm (fOpd 1)) (fiSm (f2 oAdd (fOpd 1) (fCon (.int 1))))) (fCon (.str ")")))) (sRet (fTup (fCons (fCon .none) (fCons (fVar 1) fNil)))) fNext)
    (sRet (fTup (fCons (fVar 4) (fCons (f2 oAdd (fOpd 1) (fCon (.int 1))) fNil))))
theorem mul2 (j : Int) : oMul (.int 2) (.int j) = some (.int (2 * j)) := oMul_int _ _ (.inl ⟨by decide, by decide⟩)
theorem isnon_enc (s : Sta) : oIs (enc s) .none = some (.bool false) := by cases s <;> rfl
/-- a turn of the loop, the comma seen to -/
theorem pa_turn {L : List Nat} (hL : L.length ≤ MX) {g : List Nat → Option (Sta × List Nat)} {φ : List D → Option Rs} {dp : Int} {W x : Sl} {ds : List D} (hds : ds.length ≤ 10) (hd0 : ds ≠ []) {a q : Nat} (hq : q = 0 ∨ (q = 1 ∧ (L.drop a).take 2 = [44, 32]))
    (h : LwOk L (g (L.drop (a + 2 * q))) (φ [.str (mk L), .int ((a + 2 * q : Nat) : Int), .int (dp - 1)])) :
    (g (L.drop (a + 2 * q)) = none ∧ ∃ k : Int, paB φ [.va (.str (mk L)), .va (.int (a : Int)), W, .va (.int dp), .va (.tuple ds), .va (.int (q : Int)), x] = some (.rt (.tuple [.none, .int k]))) ∨
    ∃ S b, g (L.drop (a + 2 * q)) = some (S, L.drop b) ∧ b ≤ L.length ∧ paB φ [.va (.str (mk L)), .va (.int (a : Int)), W, .va (.int dp), .va (.tuple ds), .va (.int (q : Int)), x] = some (.nx [.va (.str (mk L)), .va (.int (b : Int)), W, .va (.int dp), .va (.tuple (ds ++ [enc S])), .va (.int (q : Int)), .va (enc S)]) := by
  have b2 : (2 : Nat) ≤ big := by decide
  have b1 : (1 : Nat) ≤ big := by decide
  have bd : ds.length + 1 ≤ big := by unfold big; omega
  have e2 : (a : Int) + 2 = ((a + 2 : Nat) : Int) := by omega
  have sl := sl_mid hL (i := a) (j := a + 2) (by omega)
  rw [show a + 2 - a = 2 by omega, ← e2] at sl
  have first : ∀ rest : Fs, fSeq (sIf (gAnd (fT (f2 oEq (fOpd 5) (fCon (.int 1)))) (fT (f2 oNe (fSl (fOpd 0) (fiSm (fOpd 1)) (fiSm (f2 oAdd (fOpd 1) (fCon (.int 2))))) (fCon (.str ", "))))) (sRet (fTup (fCons (fCon .none) (fCons (fVar 1) fNil)))) fNext) rest [.va (.str (mk L)), .va (.int (a : Int)), W, .va (.int dp), .va (.tuple ds), .va (.int (q : Int)), x] = rest [.va (.str (mk L)), .va (.int (a : Int)), W, .va (.int dp), .va (.tuple ds), .va (.int (q : Int)), x] := fun rest => fSeq_nx (by
    rcases hq with rfl | ⟨rfl, h2⟩
    · simp [fOwn, fOpN,  fSeq, fNext, sRet, sRetN, sIf, sSet, sSetO, sAsg, sApp, sFor, forF, fVar, fOpd, fCon, f2, f1, fNil, fCons, bR, bL, bA, bLL, oR, fT, gAnd, gOr, gNot, gYes, fAnd, fOr, fNot, fIte, fTup, fLst, fCall, fCallO, fB, fM1, fSl, fiNo, fiSm, fLc, wLst, wTup, wStr, wRg1, wRg2, wZip, wEnum, gfN, gfTup, gsNil, gsCons, fLrg, fLrg3, wipeG, xSeq, xSet, xOf, xCall, xIf, xRet, xNext, xTup, xCons, xNil, xPut, xCallP, sRetX, sSetX, List.getElem?_cons_zero, List.getElem?_cons_succ, List.set_cons_zero, List.set_cons_succ]
    · rw [h2] at sl
      simp [fOwn, fOpN,  fSeq, fNext, sRet, sRetN, sIf, sSet, sSetO, sAsg, sApp, sFor, forF, fVar, fOpd, fCon, f2, f1, fNil, fCons, bR, bL, bA, bLL, oR, fT, gAnd, gOr, gNot, gYes, fAnd, fOr, fNot, fIte, fTup, fLst, fCall, fCallO, fB, fM1, fSl, fiNo, fiSm, fLc, wLst, wTup, wStr, wRg1, wRg2, wZip, wEnum, gfN, gfTup, gsNil, gsCons, fLrg, fLrg3, wipeG, xSeq, xSet, xOf, xCall, xIf, xRet, xNext, xTup, xCons, xNil, xPut, xCallP, sRetX, sSetX, List.getElem?_cons_zero, List.getElem?_cons_succ, List.set_cons_zero, List.set_cons_succ, sl, s_sep])
  have arg : fCons (fVar 0) (fCons (f2 oAdd (fOpd 1) (f2 oMul (fCon (.int 2)) (fOpd 5))) (fCons (f2 oSub (fOpd 3) (fCon (.int 1))) fNil)) [.va (.str (mk L)), .va (.int (a : Int)), W, .va (.int dp), .va (.tuple ds), .va (.int (q : Int)), x] = some (.ok [.str (mk L), .int ((a + 2 * q : Nat) : Int), .int (dp - 1)]) := by
    have e3 : (a : Int) + 2 * (q : Int) = ((a + 2 * q : Nat) : Int) := by omega
    simp only [fOwn, fOpN,  fSeq, fNext, sRet, sRetN, sIf, sSet, sSetO, sAsg, sApp, sFor, forF, fVar, fOpd, fCon, f2, f1, fNil, fCons, bR, bL, bA, bLL, oR, fT, gAnd, gOr, gNot, gYes, fAnd, fOr, fNot, fIte, fTup, fLst, fCall, fCallO, fB, fM1, fSl, fiNo, fiSm, fLc, wLst, wTup, wStr, wRg1, wRg2, wZip, wEnum, gfN, gfTup, gsNil, gsCons, fLrg, fLrg3, wipeG, xSeq, xSet, xOf, xCall, xIf, xRet, xNext, xTup, xCons, xNil, xPut, xCallP, sRetX, sSetX, List.getElem?_cons_zero, List.getElem?_cons_succ, List.set_cons_zero, List.set_cons_succ, bR_ok, bL_ok, bLL_ok, bA_ok, oR_some, oAdd_int, oSub_int, mul2, e3]
  rcases h with ⟨h1, k, h2⟩ | ⟨S, b, h1, hb, h2⟩
  · refine .inl ⟨h1, k, ?_⟩
    unfold paB
    rw [first]
    rw [fSeq_nx (γ1 := [.va (.str (mk L)), .va (.int k), W, .va (.int dp), .va (.tuple ds), .va (.int (q : Int)), .va .none]) (by
      unfold sAsg
      rw [call_of arg h2]
      rfl)]
    refine seq_rt ?_
    simp [fOwn, fOpN,  fSeq, fNext, sRet, sRetN, sIf, sSet, sSetO, sAsg, sApp, sFor, forF, fVar, fOpd, fCon, f2, f1, fNil, fCons, bR, bL, bA, bLL, oR, fT, gAnd, gOr, gNot, gYes, fAnd, fOr, fNot, fIte, fTup, fLst, fCall, fCallO, fB, fM1, fSl, fiNo, fiSm, fLc, wLst, wTup, wStr, wRg1, wRg2, wZip, wEnum, gfN, gfTup, gsNil, gsCons, fLrg, fLrg3, wipeG, xSeq, xSet, xOf, xCall, xIf, xRet, xNext, xTup, xCons, xNil, xPut, xCallP, sRetX, sSetX, List.getElem?_cons_zero, List.getElem?_cons_succ, List.set_cons_zero, List.set_cons_succ, oIs, isNon, b2]
  · refine .inr ⟨S, b, h1, hb, ?_⟩
    unfold paB
    rw [first]
    rw [fSeq_nx (γ1 := [.va (.str (mk L)), .va (.int (b : Int)), W, .va (.int dp), .va (.tuple ds), .va (.int (q : Int)), .va (enc S)]) (by
      unfold sAsg
      rw [call_of arg h2]
      rfl)]
    rw [fSeq_nx (γ1 := [.va (.str (mk L)), .va (.int (b : Int)), W, .va (.int dp), .va (.tuple ds), .va (.int (q : Int)), .va (enc S)]) (by simp [fOwn, fOpN,  fSeq, fNext, sRet, sRetN, sIf, sSet, sSetO, sAsg, sApp, sFor, forF, fVar, fOpd, fCon, f2, f1, fNil, fCons, bR, bL, bA, bLL, oR, fT, gAnd, gOr, gNot, gYes, fAnd, fOr, fNot, fIte, fTup, fLst, fCall, fCallO, fB, fM1, fSl, fiNo, fiSm, fLc, wLst, wTup, wStr, wRg1, wRg2, wZip, wEnum, gfN, gfTup, gsNil, gsCons, fLrg, fLrg3, wipeG, xSeq, xSet, xOf, xCall, xIf, xRet, xNext, xTup, xCons, xNil, xPut, xCallP, sRetX, sSetX, List.getElem?_cons_zero, List.getElem?_cons_succ, List.set_cons_zero, List.set_cons_succ, isnon_enc])]
    have oa : oAdd (.tuple ds) (.tuple [enc S]) = some (.tuple (ds ++ [enc S])) := by
      show (if ds.length + [enc S].length ≤ big ∧ ds ≠ [] ∧ [enc S] ≠ [] then some (PyData.tuple (ds ++ [enc S])) else none) = _
      rw [if_pos ⟨by simpa using bd, hd0, by simp⟩]
    simp only [fOwn, fOpN,  fSeq, fNext, sRet, sRetN, sIf, sSet, sSetO, sAsg, sApp, sFor, forF, fVar, fOpd, fCon, f2, f1, fNil, fCons, bR, bL, bA, bLL, oR, fT, gAnd, gOr, gNot, gYes, fAnd, fOr, fNot, fIte, fTup, fLst, fCall, fCallO, fB, fM1, fSl, fiNo, fiSm, fLc, wLst, wTup, wStr, wRg1, wRg2, wZip, wEnum, gfN, gfTup, gsNil, gsCons, fLrg, fLrg3, wipeG, xSeq, xSet, xOf, xCall, xIf, xRet, xNext, xTup, xCons, xNil, xPut, xCallP, sRetX, sSetX, List.getElem?_cons_zero, List.getElem?_cons_succ, List.set_cons_zero, List.set_cons_succ, bR_ok, bL_ok, bLL_ok, bA_ok, oR_some, b1, oa, List.length_cons, List.length_nil, Nat.zero_add, Nat.reduceAdd, if_true]
theorem pa_end {L : List Nat} (hL : L.length ≤ MX) {W dp x y : Sl} {d : D} (b : Nat) : paE [.va (.str (mk L)), .va (.int (b : Int)), W, dp, .va d, x, y] = if (L.drop b).take 1 = [41] then some (.rt (.tuple [d, .int ((b + 1 : Nat) : Int)])) else some (.rt (.tuple [.none, .int (b : Int)])) := by
  have b2 : (2 : Nat) ≤ big := by decide
  have e1 : (b : Int) + 1 = ((b + 1 : Nat) : Int) := by omega
  have sl := sl_mid hL (i := b) (j := b + 1) (by omega)
  rw [show b + 1 - b = 1 by omega, ← e1] at sl
  have tst : fT (f2 oNe (fSl (fOpd 0) (fiSm (fOpd 1)) (fiSm (f2 oAdd (fOpd 1) (fCon (.int 1))))) (fCon (.str ")"))) [.va (.str (mk L)), .va (.int (b : Int)), W, dp, .va d, x, y] = some (.ok (!decide ((L.drop b).take 1 = [41]))) := by
    simp only [fOwn, fOpN,  fSeq, fNext, sRet, sRetN, sIf, sSet, sSetO, sAsg, sApp, sFor, forF, fVar, fOpd, fCon, f2, f1, fNil, fCons, bR, bL, bA, bLL, oR, fT, gAnd, gOr, gNot, gYes, fAnd, fOr, fNot, fIte, fTup, fLst, fCall, fCallO, fB, fM1, fSl, fiNo, fiSm, fLc, wLst, wTup, wStr, wRg1, wRg2, wZip, wEnum, gfN, gfTup, gsNil, gsCons, fLrg, fLrg3, wipeG, xSeq, xSet, xOf, xCall, xIf, xRet, xNext, xTup, xCons, xNil, xPut, xCallP, sRetX, sSetX, List.getElem?_cons_zero, List.getElem?_cons_succ, List.set_cons_zero, List.set_cons_succ, bR_ok, oR_some, oAdd_int, sl, s_close, oNe_str, mk_beq]
  unfold paE
  by_cases h : (L.drop b).take 1 = [41]
  · rw [decide_eq_true h] at tst
    rw [if_pos h, fSeq_nx (γ1 := [.va (.str (mk L)), .va (.int (b : Int)), W, dp, .va d, x, y]) (by rw [sIf_of tst]; rfl)]
    simp only [fOwn, fOpN,  fSeq, fNext, sRet, sRetN, sIf, sSet, sSetO, sAsg, sApp, sFor, forF, fVar, fOpd, fCon, f2, f1, fNil, fCons, bR, bL, bA, bLL, oR, fT, gAnd, gOr, gNot, gYes, fAnd, fOr, fNot, fIte, fTup, fLst, fCall, fCallO, fB, fM1, fSl, fiNo, fiSm, fLc, wLst, wTup, wStr, wRg1, wRg2, wZip, wEnum, gfN, gfTup, gsNil, gsCons, fLrg, fLrg3, wipeG, xSeq, xSet, xOf, xCall, xIf, xRet, xNext, xTup, xCons, xNil, xPut, xCallP, sRetX, sSetX, List.getElem?_cons_zero, List.getElem?_cons_succ, List.set_cons_zero, List.set_cons_succ, bR_ok, bL_ok, bLL_ok, bA_ok, oR_some, oAdd_int, e1, b2, List.length_cons, List.length_nil, Nat.zero_add, Nat.reduceAdd, if_true]
  · rw [decide_eq_false h] at tst
    rw [if_neg h]
    refine seq_rt ?_
    rw [sIf_of tst]
    simp only [fOwn, fOpN,  fSeq, fNext, sRet, sRetN, sIf, sSet, sSetO, sAsg, sApp, sFor, forF, fVar, fOpd, fCon, f2, f1, fNil, fCons, bR, bL, bA, bLL, oR, fT, gAnd, gOr, gNot, gYes, fAnd, fOr, fNot, fIte, fTup, fLst, fCall, fCallO, fB, fM1, fSl, fiNo, fiSm, fLc, wLst, wTup, wStr, wRg1, wRg2, wZip, wEnum, gfN, gfTup, gsNil, gsCons, fLrg, fLrg3, wipeG, xSeq, xSet, xOf, xCall, xIf, xRet, xNext, xTup, xCons, xNil, xPut, xCallP, sRetX, sSetX, List.getElem?_cons_zero, List.getElem?_cons_succ, List.set_cons_zero, List.set_cons_succ, bR_ok, bL_ok, bLL_ok, bA_ok, oR_some, b2, List.length_cons, List.length_nil, Nat.zero_add, Nat.reduceAdd, if_true, Bool.not_false]
end K02

namespace K02
open PySem PySem.Spec PyProof.Rows L2 Py
/-! ### .. a word and its parts -/
theorem forF_rt {gf : D → Ge → Option Ge} {b : Fs} {d : D} {ds : List D} {γ γ1 : Ge} {r : D} (h1 : gf d γ = some γ1) (h2 : b γ1 = some (.rt r)) : forF gf b (d :: ds) γ = some (.rt r) := by
  conv => lhs; unfold forF
  simp only [h1, h2]
/-- the words of one part, of two parts -/
inductive W1 : List Nat → (Sta → Sta) → Prop
  | n : W1 cN .nt | x : W1 cX .nx | b : W1 cB .bf
inductive W2 : List Nat → (Sta → Sta → Sta) → Prop
  | a : W2 cA .an | o : W2 cO .or | u : W2 cU .un | s : W2 cS .si
theorem W1.enc {w : List Nat} {f : Sta → Sta} (h : W1 w f) (s : Sta) : Py.enc (f s) = .tuple [pD w, Py.enc s] := by
  cases h
  · show PyData.tuple [.str "not", _] = _; rw [s_N]; rfl
  · show PyData.tuple [.str "next", _] = _; rw [s_X]; rfl
  · show PyData.tuple [.str "before", _] = _; rw [s_B]; rfl
theorem W2.enc {w : List Nat} {f : Sta → Sta → Sta} (h : W2 w f) (s t : Sta) : Py.enc (f s t) = .tuple [pD w, Py.enc s, Py.enc t] := by
  cases h
  · show PyData.tuple [.str "and", _, _] = _; rw [s_A]; rfl
  · show PyData.tuple [.str "or", _, _] = _; rw [s_O]; rfl
  · show PyData.tuple [.str "until", _, _] = _; rw [s_U]; rfl
  · show PyData.tuple [.str "since", _, _] = _; rw [s_S]; rfl
abbrev paW : Fs := sIf (fT (f2 oEq (fOpd 2) (fCon (.str "within")))) (fSeq (sIf (gOr (fT (f2 (oIn true) (fSl (fOpd 0) (fiSm (fOpd 1)) (fiSm (f2 oAdd (fOpd 1) (fCon (.int 1))))) (fLst (fCons (fCon (.str "0")) (fCons (fCon (.str "1")) (fCons (fCon (.str "2")) (fCons (fCon (.str "3")) (fCons (fCon (.str "4")) fNil)))))))) (fT (f2 oNe (fSl (fOpd 0) (fiSm (f2 oAdd (fOpd 1) (fCon (.int 1)))) (fiSm (f2 oAdd (fOpd 1) (fCon (.int 3))))) (fCon (.str ", "))))) (sRet (fTup (fCons (fCon .none) (fCons (fVar 1) fNil)))) fNext)
    (fSeq (sSet 4 (fTup (fCons (fVar 2) (fCons (fB oIntS (fCons (f2 oIx (fOpd 0) (fOpd 1)) fNil)) fNil))))
    (sSet 1 (f2 oAdd (fOpd 1) (fCon (.int 3)))))) fNext
abbrev paR (φ : List D → Option Rs) : Fs := sFor (wRg1 (fCons (f2 oAdd (fCon (.int 1)) (fB oInt1 (fCons (f2 (oIn false) (fOpd 2) (fTup (fCons (fCon (.str "and")) (fCons (fCon (.str "or")) (fCons (fCon (.str "until")) (fCons (fCon (.str "since")) fNil)))))) fNil))) fNil)) (gfN 5) (paB φ)
theorem in_two {w : List Nat} : oIn false (pD w) (.tuple [.str "and", .str "or", .str "until", .str "since"]) = some (.bool (decide (w = cA) || (decide (w = cO) || (decide (w = cU) || decide (w = cS))))) := by
  have b : ∀ c : List Nat, (mk c == mk w) = decide (w = c) := fun c => by
    rw [mk_beq]
    by_cases h : w = c
    · subst h; simp
    · rw [decide_eq_false h, decide_eq_false (fun z => h z.symm)]
  simp [oIn, flatD, PyData.eqv, s_A, s_O, s_U, s_S, pD, b]
theorem rg1 : wRg1 = wRg1 := rfl
theorem paR_walk {w : List Nat} {γ : Ge} (h2 : γ[2]? = some (.va (pD w))) (two : Bool) (ht : (decide (w = cA) || (decide (w = cO) || (decide (w = cU) || decide (w = cS)))) = two) :
    wRg1 (fCons (f2 oAdd (fCon (.int 1)) (fB oInt1 (fCons (f2 (oIn false) (fOpd 2) (fTup (fCons (fCon (.str "and")) (fCons (fCon (.str "or")) (fCons (fCon (.str "until")) (fCons (fCon (.str "since")) fNil)))))) fNil))) fNil) γ = some (.ok (if two = true then [.int 0, .int 1] else [.int 0])) := by
  have b4 : (4 : Nat) ≤ big := by decide
  have i := in_two (w := w)
  rw [ht] at i
  have r2 : rgD 0 2 = [.int 0, .int 1] := rfl
  have r1 : rgD 0 1 = [.int 0] := rfl
  have k2 : rgOk 0 2 = true := by decide
  have k1 : rgOk 0 1 = true := by decide
  cases two with
  | true => simp [fOwn, fOpN,  fSeq, fNext, sRet, sRetN, sIf, sSet, sSetO, sAsg, sApp, sFor, forF, fVar, fOpd, fCon, f2, f1, fNil, fCons, bR, bL, bA, bLL, oR, fT, gAnd, gOr, gNot, gYes, fAnd, fOr, fNot, fIte, fTup, fLst, fCall, fCallO, fB, fM1, fSl, fiNo, fiSm, fLc, wLst, wTup, wStr, wRg1, wRg2, wZip, wEnum, gfN, gfTup, gsNil, gsCons, fLrg, fLrg3, wipeG, xSeq, xSet, xOf, xCall, xIf, xRet, xNext, xTup, xCons, xNil, xPut, xCallP, sRetX, sSetX, List.getElem?_cons_zero, List.getElem?_cons_succ, List.set_cons_zero, List.set_cons_succ, h2, i, b4, oInt1, r2, k2]
  | false => simp [fOwn, fOpN,  fSeq, fNext, sRet, sRetN, sIf, sSet, sSetO, sAsg, sApp, sFor, forF, fVar, fOpd, fCon, f2, f1, fNil, fCons, bR, bL, bA, bLL, oR, fT, gAnd, gOr, gNot, gYes, fAnd, fOr, fNot, fIte, fTup, fLst, fCall, fCallO, fB, fM1, fSl, fiNo, fiSm, fLc, wLst, wTup, wStr, wRg1, wRg2, wZip, wEnum, gfN, gfTup, gsNil, gsCons, fLrg, fLrg3, wipeG, xSeq, xSet, xOf, xCall, xIf, xRet, xNext, xTup, xCons, xNil, xPut, xCallP, sRetX, sSetX, List.getElem?_cons_zero, List.getElem?_cons_succ, List.set_cons_zero, List.set_cons_succ, h2, i, b4, oInt1, r1, k1]
/-- the loop over one part -/
theorem pa_one {L : List Nat} (hL : L.length ≤ MX) {g : List Nat → Option (Sta × List Nat)} {φ : List D → Option Rs} {dp : Int} {w : List Nat} {ds : List D} (hds : ds.length ≤ 10) (hd0 : ds ≠ []) (hw : (decide (w = cA) || (decide (w = cO) || (decide (w = cU) || decide (w = cS)))) = false) {a : Nat} {f : Sta → Sta} (he : ∀ s, enc (f s) = .tuple (ds ++ [enc s]))
    (h : ∀ a, LwOk L (g (L.drop a)) (φ [.str (mk L), .int (a : Int), .int (dp - 1)])) {x y : Sl} :
    ∃ r, fSeq (paR φ) paE [.va (.str (mk L)), .va (.int (a : Int)), .va (pD w), .va (.int dp), .va (.tuple ds), x, y] = some (.rt r) ∧ LwOk L (oneL f g (L.drop a)) (some (.ok r)) := by
  have wk := paR_walk (w := w) (γ := [.va (.str (mk L)), .va (.int (a : Int)), .va (pD w), .va (.int dp), .va (.tuple ds), x, y]) rfl false hw
  have t := pa_turn hL hds hd0 (W := .va (pD w)) (x := y) (a := a) (q := 0) (.inl rfl) (h (a + 2 * 0))
  simp only [Nat.mul_zero, Nat.add_zero, Int.ofNat_zero, Int.natCast_zero] at t
  have hfor : paR φ [.va (.str (mk L)), .va (.int (a : Int)), .va (pD w), .va (.int dp), .va (.tuple ds), x, y] = forF (gfN 5) (paB φ) [.int 0] [.va (.str (mk L)), .va (.int (a : Int)), .va (pD w), .va (.int dp), .va (.tuple ds), x, y] := by
    unfold paR sFor
    rw [wk]
    rfl
  unfold oneL
  rcases t with ⟨t1, k, t2⟩ | ⟨S, b, t1, hb, t2⟩
  · refine ⟨_, seq_rt (by rw [hfor]; exact forF_rt (γ1 := [.va (.str (mk L)), .va (.int (a : Int)), .va (pD w), .va (.int dp), .va (.tuple ds), .va (.int 0), y]) rfl t2), ?_⟩
    rw [t1]
    exact .inl ⟨rfl, k, rfl⟩
  · have hn : paR φ [.va (.str (mk L)), .va (.int (a : Int)), .va (pD w), .va (.int dp), .va (.tuple ds), x, y] = some (.nx [.va (.str (mk L)), .va (.int (b : Int)), .va (pD w), .va (.int dp), .va (.tuple (ds ++ [enc S])), .va (.int 0), .va (enc S)]) := by
      rw [hfor]
      rw [forF_nx (γ1 := [.va (.str (mk L)), .va (.int (a : Int)), .va (pD w), .va (.int dp), .va (.tuple ds), .va (.int 0), y]) rfl t2]
      rfl
    rw [fSeq_nx hn, pa_end hL b, t1]
    simp only
    by_cases hc : (L.drop b).take 1 = [41]
    · rw [if_pos hc, if_pos hc]
      refine ⟨_, rfl, .inr ⟨f S, b + 1, by rw [List.drop_drop], ?_, by rw [he]⟩⟩
      have := take1_len hc
      rw [List.length_drop] at this
      omega
    · rw [if_neg hc, if_neg hc]
      exact ⟨_, rfl, .inl ⟨rfl, _, rfl⟩⟩
/-- .. over two -/
theorem pa_two {L : List Nat} (hL : L.length ≤ MX) {g : List Nat → Option (Sta × List Nat)} {φ : List D → Option Rs} {dp : Int} {w : List Nat} {ds : List D} (hds : ds.length ≤ 9) (hd0 : ds ≠ []) (hw : (decide (w = cA) || (decide (w = cO) || (decide (w = cU) || decide (w = cS)))) = true) {a : Nat} {f : Sta → Sta → Sta} (he : ∀ s t, enc (f s t) = .tuple (ds ++ [enc s] ++ [enc t]))
    (h : ∀ a, LwOk L (g (L.drop a)) (φ [.str (mk L), .int (a : Int), .int (dp - 1)])) {x y : Sl} :
    ∃ r, fSeq (paR φ) paE [.va (.str (mk L)), .va (.int (a : Int)), .va (pD w), .va (.int dp), .va (.tuple ds), x, y] = some (.rt r) ∧ LwOk L (twoL f g (L.drop a)) (some (.ok r)) := by
  have wk := paR_walk (w := w) (γ := [.va (.str (mk L)), .va (.int (a : Int)), .va (pD w), .va (.int dp), .va (.tuple ds), x, y]) rfl true hw
  have t := pa_turn hL (Nat.le_trans hds (by decide)) hd0 (W := .va (pD w)) (x := y) (a := a) (q := 0) (.inl rfl) (h (a + 2 * 0))
  simp only [Nat.mul_zero, Nat.add_zero, Int.ofNat_zero, Int.natCast_zero] at t
  have hfor : paR φ [.va (.str (mk L)), .va (.int (a : Int)), .va (pD w), .va (.int dp), .va (.tuple ds), x, y] = forF (gfN 5) (paB φ) [.int 0, .int 1] [.va (.str (mk L)), .va (.int (a : Int)), .va (pD w), .va (.int dp), .va (.tuple ds), x, y] := by
    unfold paR sFor
    rw [wk]
    rfl
  unfold twoL
  rcases t with ⟨t1, k, t2⟩ | ⟨S, b, t1, hb, t2⟩
  · refine ⟨_, seq_rt (by rw [hfor]; exact forF_rt (γ1 := [.va (.str (mk L)), .va (.int (a : Int)), .va (pD w), .va (.int dp), .va (.tuple ds), .va (.int 0), y]) rfl t2), ?_⟩
    rw [t1]
    exact .inl ⟨rfl, k, rfl⟩
  · rw [t1]
    simp only
    have f1 : forF (gfN 5) (paB φ) [.int 0, .int 1] [.va (.str (mk L)), .va (.int (a : Int)), .va (pD w), .va (.int dp), .va (.tuple ds), x, y] = forF (gfN 5) (paB φ) [.int 1] [.va (.str (mk L)), .va (.int (b : Int)), .va (pD w), .va (.int dp), .va (.tuple (ds ++ [enc S])), .va (.int 0), .va (enc S)] :=
      forF_nx (γ1 := [.va (.str (mk L)), .va (.int (a : Int)), .va (pD w), .va (.int dp), .va (.tuple ds), .va (.int 0), y]) rfl t2
    by_cases hc2 : (L.drop b).take 2 = [44, 32]
    · rw [if_pos hc2]
      have u := pa_turn hL (ds := ds ++ [enc S]) (by simp; omega) (by simp) (W := .va (pD w)) (x := .va (enc S)) (a := b) (q := 1) (.inr ⟨rfl, hc2⟩) (h (b + 2 * 1))
      rw [show b + 2 * 1 = b + 2 from rfl] at u
      rw [List.drop_drop, show (b + 2) = b + 2 from rfl]
      rcases u with ⟨u1, k, u2⟩ | ⟨T, c, u1, hcl, u2⟩
      · simp only [Int.natCast_one] at u2
        refine ⟨_, seq_rt (by rw [hfor, f1]; exact forF_rt (γ1 := [.va (.str (mk L)), .va (.int (b : Int)), .va (pD w), .va (.int dp), .va (.tuple (ds ++ [enc S])), .va (.int 1), .va (enc S)]) rfl u2), ?_⟩
        rw [u1]
        exact .inl ⟨rfl, k, rfl⟩
      · simp only [Int.natCast_one] at u2
        have hn : paR φ [.va (.str (mk L)), .va (.int (a : Int)), .va (pD w), .va (.int dp), .va (.tuple ds), x, y] = some (.nx [.va (.str (mk L)), .va (.int (c : Int)), .va (pD w), .va (.int dp), .va (.tuple (ds ++ [enc S] ++ [enc T])), .va (.int 1), .va (enc T)]) := by
          rw [hfor, f1]
          rw [forF_nx (γ1 := [.va (.str (mk L)), .va (.int (b : Int)), .va (pD w), .va (.int dp), .va (.tuple (ds ++ [enc S])), .va (.int 1), .va (enc S)]) rfl u2]
          rfl
        rw [fSeq_nx hn, pa_end hL c, u1]
        simp only
        by_cases hc : (L.drop c).take 1 = [41]
        · rw [if_pos hc, if_pos hc]
          refine ⟨_, rfl, .inr ⟨f S T, c + 1, by rw [List.drop_drop], ?_, by rw [he]⟩⟩
          have := take1_len hc
          rw [List.length_drop] at this
          omega
        · rw [if_neg hc, if_neg hc]
          exact ⟨_, rfl, .inl ⟨rfl, _, rfl⟩⟩
    · rw [if_neg hc2]
      have b2 : (2 : Nat) ≤ big := by decide
      have e2 : (b : Int) + 2 = ((b + 2 : Nat) : Int) := by omega
      have sl := sl_mid hL (i := b) (j := b + 2) (by omega)
      rw [show b + 2 - b = 2 by omega, ← e2] at sl
      have hq : (mk ((L.drop b).take 2) == mk [44, 32]) = false := by rw [mk_beq]; exact decide_eq_false hc2
      have bt : paB φ [.va (.str (mk L)), .va (.int (b : Int)), .va (pD w), .va (.int dp), .va (.tuple (ds ++ [enc S])), .va (.int 1), .va (enc S)] = some (.rt (.tuple [.none, .int (b : Int)])) := by
        refine seq_rt ?_
        simp [fOwn, fOpN,  fSeq, fNext, sRet, sRetN, sIf, sSet, sSetO, sAsg, sApp, sFor, forF, fVar, fOpd, fCon, f2, f1, fNil, fCons, bR, bL, bA, bLL, oR, fT, gAnd, gOr, gNot, gYes, fAnd, fOr, fNot, fIte, fTup, fLst, fCall, fCallO, fB, fM1, fSl, fiNo, fiSm, fLc, wLst, wTup, wStr, wRg1, wRg2, wZip, wEnum, gfN, gfTup, gsNil, gsCons, fLrg, fLrg3, wipeG, xSeq, xSet, xOf, xCall, xIf, xRet, xNext, xTup, xCons, xNil, xPut, xCallP, sRetX, sSetX, List.getElem?_cons_zero, List.getElem?_cons_succ, List.set_cons_zero, List.set_cons_succ, sl, s_sep, hq, b2]
      refine ⟨_, seq_rt (by rw [hfor, f1]; exact forF_rt (γ1 := [.va (.str (mk L)), .va (.int (b : Int)), .va (pD w), .va (.int dp), .va (.tuple (ds ++ [enc S])), .va (.int 1), .va (enc S)]) rfl bt), .inl ⟨rfl, (b : Int), rfl⟩⟩
/-- behind a word -/
def partsP (w : List Nat) (g : List Nat → Option (Sta × List Nat)) (r : List Nat) : Option (Sta × List Nat) :=
  if w = cN then oneL .nt g r else if w = cA then twoL .an g r else if w = cO then twoL .or g r else if w = cX then oneL .nx g r else if w = cU then twoL .un g r
  else if w = cW then wiL g r else if w = cB then oneL .bf g r else twoL .si g r
theorem parts_go {L : List Nat} (hL : L.length ≤ MX) {Phi : Nm → List D → Option Rs} {w : List Nat} {dp : Int} {a : Nat} {g : Option (Sta × List Nat)} (hw : w ≠ cW) (h : ∃ r, fSeq (paR (Phi .l_at)) paE [.va (.str (mk L)), .va (.int (a : Int)), .va (pD w), .va (.int dp), .va (.tuple [pD w]), .no, .no] = some (.rt r) ∧ LwOk L g (some (.ok r))) :
    LwOk L g (runF 4 7 (f_l_parts_at Phi) [.str (mk L), .int (a : Int), pD w, .int dp]) := by
  obtain ⟨r, h1, h2⟩ := h
  have b1 : (1 : Nat) ≤ big := by decide
  have hq : (mk w == mk cW) = false := by rw [mk_beq]; exact decide_eq_false hw
  have e : runF 4 7 (f_l_parts_at Phi) [.str (mk L), .int (a : Int), pD w, .int dp] = some (.ok r) := by
    refine runF_rt rfl ?_
    unfold f_l_parts_at
    rw [fSeq_nx (γ1 := [.va (.str (mk L)), .va (.int (a : Int)), .va (pD w), .va (.int dp), .va (.tuple [pD w]), .no, .no]) (by simp [entry, fOwn, fOpN,  fSeq, fNext, sRet, sRetN, sIf, sSet, sSetO, sAsg, sApp, sFor, forF, fVar, fOpd, fCon, f2, f1, fNil, fCons, bR, bL, bA, bLL, oR, fT, gAnd, gOr, gNot, gYes, fAnd, fOr, fNot, fIte, fTup, fLst, fCall, fCallO, fB, fM1, fSl, fiNo, fiSm, fLc, wLst, wTup, wStr, wRg1, wRg2, wZip, wEnum, gfN, gfTup, gsNil, gsCons, fLrg, fLrg3, wipeG, xSeq, xSet, xOf, xCall, xIf, xRet, xNext, xTup, xCons, xNil, xPut, xCallP, sRetX, sSetX, List.getElem?_cons_zero, List.getElem?_cons_succ, List.set_cons_zero, List.set_cons_succ, List.replicate, b1])]
    rw [fSeq_nx (γ1 := [.va (.str (mk L)), .va (.int (a : Int)), .va (pD w), .va (.int dp), .va (.tuple [pD w]), .no, .no]) (by simp [fOwn, fOpN,  fSeq, fNext, sRet, sRetN, sIf, sSet, sSetO, sAsg, sApp, sFor, forF, fVar, fOpd, fCon, f2, f1, fNil, fCons, bR, bL, bA, bLL, oR, fT, gAnd, gOr, gNot, gYes, fAnd, fOr, fNot, fIte, fTup, fLst, fCall, fCallO, fB, fM1, fSl, fiNo, fiSm, fLc, wLst, wTup, wStr, wRg1, wRg2, wZip, wEnum, gfN, gfTup, gsNil, gsCons, fLrg, fLrg3, wipeG, xSeq, xSet, xOf, xCall, xIf, xRet, xNext, xTup, xCons, xNil, xPut, xCallP, sRetX, sSetX, List.getElem?_cons_zero, List.getElem?_cons_succ, List.set_cons_zero, List.set_cons_succ, pD, s_W, hq])]
    exact h1
  rw [e]
  exact h2
theorem in_fig (w : List Nat) (hw : Tx w) : oIn true (.str (mk w)) (.list [.str "0", .str "1", .str "2", .str "3", .str "4"]) = some (.bool (!(fig w).isSome)) := by
  have h := fig_in w
  have sh : SeqAt.shaped (.list [.str "0", .str "1", .str "2", .str "3", .str "4"]) = true := by decide +kernel
  have sw : SeqAt.shaped (.str (mk w)) = true := (okD_str (n := 0) hw.ok).shaped (by decide)
  unfold oIn at h ⊢
  simp only at h ⊢
  rw [if_pos ⟨sw, sh⟩]
  split at h
  · simp only [Bool.false_eq_true, if_false] at h
    injection h with h
    injection h with h
    rw [h]
    rfl
  · cases h
theorem take1_fig {r : List Nat} {k : Nat} (h : fig (r.take 1) = some k) : ∃ c t, r = c :: t ∧ fig [c] = some k := by
  cases r with
  | nil => simp [fig] at h
  | cons c t => exact ⟨c, t, rfl, h⟩
theorem run_parts {L : List Nat} (hT : Tx L) (hL : L.length ≤ MX) {n : Nat} {w : List Nat} (hw : w ∈ [cN, cA, cO, cX, cU, cW, cB, cS]) {dp : Int} {a : Nat} {g : List Nat → Option (Sta × List Nat)}
    (h : ∀ a, LwOk L (g (L.drop a)) (Phi n .l_at [.str (mk L), .int (a : Int), .int (dp - 1)])) :
    LwOk L (partsP w g (L.drop a)) (Phi (n + 1) .l_parts_at [.str (mk L), .int (a : Int), pD w, .int dp]) := by
  rw [phi_l_parts_at]
  have one : ∀ (f : Sta → Sta), W1 w f → (decide (w = cA) || (decide (w = cO) || (decide (w = cU) || decide (w = cS)))) = false → w ≠ cW → LwOk L (oneL f g (L.drop a)) (runF 4 7 (f_l_parts_at (Phi n)) [.str (mk L), .int (a : Int), pD w, .int dp]) :=
    fun f hf h2 h3 => parts_go hL h3 (pa_one hL (ds := [pD w]) (by simp) (by simp) h2 (fun s => hf.enc s) h)
  have two : ∀ (f : Sta → Sta → Sta), W2 w f → (decide (w = cA) || (decide (w = cO) || (decide (w = cU) || decide (w = cS)))) = true → w ≠ cW → LwOk L (twoL f g (L.drop a)) (runF 4 7 (f_l_parts_at (Phi n)) [.str (mk L), .int (a : Int), pD w, .int dp]) :=
    fun f hf h2 h3 => parts_go hL h3 (pa_two hL (ds := [pD w]) (by simp) (by simp) h2 (fun s t => hf.enc s t) h)
  unfold partsP
  simp only [List.mem_cons, List.not_mem_nil, or_false] at hw
  rcases hw with rfl | rfl | rfl | rfl | rfl | rfl | rfl | rfl
  · rw [if_pos rfl]; exact one _ .n (by decide) (by decide)
  · rw [if_neg (by decide), if_pos rfl]; exact two _ .a (by decide) (by decide)
  · rw [if_neg (by decide), if_neg (by decide), if_pos rfl]; exact two _ .o (by decide) (by decide)
  · rw [if_neg (by decide), if_neg (by decide), if_neg (by decide), if_pos rfl]; exact one _ .x (by decide) (by decide)
  · rw [if_neg (by decide), if_neg (by decide), if_neg (by decide), if_neg (by decide), if_pos rfl]; exact two _ .u (by decide) (by decide)
  · rw [if_neg (by decide), if_neg (by decide), if_neg (by decide), if_neg (by decide), if_neg (by decide), if_pos rfl]
    have b1 : (1 : Nat) ≤ big := by decide
    have b2 : (2 : Nat) ≤ big := by decide
    have b5 : (5 : Nat) ≤ big := by decide
    have e1 : (a : Int) + 1 = ((a + 1 : Nat) : Int) := by omega
    have e3 : (a : Int) + 3 = ((a + 3 : Nat) : Int) := by omega
    have sl := sl_mid hL (i := a) (j := a + 1) (by omega)
    rw [show a + 1 - a = 1 by omega, ← e1] at sl
    have sl2 := sl_mid hL (i := a + 1) (j := a + 3) (by omega)
    rw [show a + 3 - (a + 1) = 2 by omega, ← e1, ← e3] at sl2
    have ed : L.drop (a + 1) = (L.drop a).drop 1 := by rw [List.drop_drop]
    rw [ed] at sl2
    have inf := in_fig ((L.drop a).take 1) (hT.sub fun c hc => List.mem_of_mem_drop (List.mem_of_mem_take hc))
    have g0 : fSeq (sSet 4 (fTup (fCons (fVar 2) fNil))) (fSeq paW (fSeq (paR (Phi n .l_at)) paE)) (entry 7 [.str (mk L), .int (a : Int), pD cW, .int dp]) = fSeq paW (fSeq (paR (Phi n .l_at)) paE) [.va (.str (mk L)), .va (.int (a : Int)), .va (pD cW), .va (.int dp), .va (.tuple [pD cW]), .no, .no] := fSeq_nx (by simp [entry, fOwn, fOpN,  fSeq, fNext, sRet, sRetN, sIf, sSet, sSetO, sAsg, sApp, sFor, forF, fVar, fOpd, fCon, f2, f1, fNil, fCons, bR, bL, bA, bLL, oR, fT, gAnd, gOr, gNot, gYes, fAnd, fOr, fNot, fIte, fTup, fLst, fCall, fCallO, fB, fM1, fSl, fiNo, fiSm, fLc, wLst, wTup, wStr, wRg1, wRg2, wZip, wEnum, gfN, gfTup, gsNil, gsCons, fLrg, fLrg3, wipeG, xSeq, xSet, xOf, xCall, xIf, xRet, xNext, xTup, xCons, xNil, xPut, xCallP, sRetX, sSetX, List.getElem?_cons_zero, List.getElem?_cons_succ, List.set_cons_zero, List.set_cons_succ, List.replicate, b1])
    have wq : fT (f2 oEq (fOpd 2) (fCon (.str "within"))) [.va (.str (mk L)), .va (.int (a : Int)), .va (pD cW), .va (.int dp), .va (.tuple [pD cW]), .no, .no] = some (.ok true) := by simp [fOwn, fOpN,  fSeq, fNext, sRet, sRetN, sIf, sSet, sSetO, sAsg, sApp, sFor, forF, fVar, fOpd, fCon, f2, f1, fNil, fCons, bR, bL, bA, bLL, oR, fT, gAnd, gOr, gNot, gYes, fAnd, fOr, fNot, fIte, fTup, fLst, fCall, fCallO, fB, fM1, fSl, fiNo, fiSm, fLc, wLst, wTup, wStr, wRg1, wRg2, wZip, wEnum, gfN, gfTup, gsNil, gsCons, fLrg, fLrg3, wipeG, xSeq, xSet, xOf, xCall, xIf, xRet, xNext, xTup, xCons, xNil, xPut, xCallP, sRetX, sSetX, List.getElem?_cons_zero, List.getElem?_cons_succ, List.set_cons_zero, List.set_cons_succ, pD, s_W]
    unfold wiL
    cases hf : fig ((L.drop a).take 1) with
    | none =>
      rw [hf] at inf
      refine .inl ⟨rfl, (a : Int), runF_rt rfl ?_⟩
      unfold f_l_parts_at
      rw [g0]
      refine seq_rt ?_
      unfold paW
      rw [sIf_of wq, if_pos rfl]
      refine seq_rt ?_
      simp only [Option.isSome_none, Bool.not_false] at inf
      simp [fOwn, fOpN,  fSeq, fNext, sRet, sRetN, sIf, sSet, sSetO, sAsg, sApp, sFor, forF, fVar, fOpd, fCon, f2, f1, fNil, fCons, bR, bL, bA, bLL, oR, fT, gAnd, gOr, gNot, gYes, fAnd, fOr, fNot, fIte, fTup, fLst, fCall, fCallO, fB, fM1, fSl, fiNo, fiSm, fLc, wLst, wTup, wStr, wRg1, wRg2, wZip, wEnum, gfN, gfTup, gsNil, gsCons, fLrg, fLrg3, wipeG, xSeq, xSet, xOf, xCall, xIf, xRet, xNext, xTup, xCons, xNil, xPut, xCallP, sRetX, sSetX, List.getElem?_cons_zero, List.getElem?_cons_succ, List.set_cons_zero, List.set_cons_succ, sl, inf, b2, b5]
    | some k =>
      rw [hf] at inf
      simp only [Option.isSome_some, Bool.not_true] at inf
      simp only
      by_cases hc : ((L.drop a).drop 1).take 2 = [44, 32]
      · rw [if_pos hc]
        obtain ⟨c, t, hct, hk⟩ := take1_fig hf
        obtain ⟨i1, _, _⟩ := drop_cons hct
        have ix := ix_mk hL i1
        have oi := fig_int hk
        rw [hc, ← s_sep] at sl2
        have hpw : paW [.va (.str (mk L)), .va (.int (a : Int)), .va (pD cW), .va (.int dp), .va (.tuple [pD cW]), .no, .no] = some (.nx [.va (.str (mk L)), .va (.int ((a + 3 : Nat) : Int)), .va (pD cW), .va (.int dp), .va (.tuple [pD cW, .int (k : Int)]), .no, .no]) := by
          unfold paW
          rw [sIf_of wq, if_pos rfl]
          rw [fSeq_nx (γ1 := [.va (.str (mk L)), .va (.int (a : Int)), .va (pD cW), .va (.int dp), .va (.tuple [pD cW]), .no, .no]) (by simp [fOwn, fOpN,  fSeq, fNext, sRet, sRetN, sIf, sSet, sSetO, sAsg, sApp, sFor, forF, fVar, fOpd, fCon, f2, f1, fNil, fCons, bR, bL, bA, bLL, oR, fT, gAnd, gOr, gNot, gYes, fAnd, fOr, fNot, fIte, fTup, fLst, fCall, fCallO, fB, fM1, fSl, fiNo, fiSm, fLc, wLst, wTup, wStr, wRg1, wRg2, wZip, wEnum, gfN, gfTup, gsNil, gsCons, fLrg, fLrg3, wipeG, xSeq, xSet, xOf, xCall, xIf, xRet, xNext, xTup, xCons, xNil, xPut, xCallP, sRetX, sSetX, List.getElem?_cons_zero, List.getElem?_cons_succ, List.set_cons_zero, List.set_cons_succ, sl, inf, b5, sl2])]
          rw [fSeq_nx (γ1 := [.va (.str (mk L)), .va (.int (a : Int)), .va (pD cW), .va (.int dp), .va (.tuple [pD cW, .int (k : Int)]), .no, .no]) (by simp [fOwn, fOpN,  fSeq, fNext, sRet, sRetN, sIf, sSet, sSetO, sAsg, sApp, sFor, forF, fVar, fOpd, fCon, f2, f1, fNil, fCons, bR, bL, bA, bLL, oR, fT, gAnd, gOr, gNot, gYes, fAnd, fOr, fNot, fIte, fTup, fLst, fCall, fCallO, fB, fM1, fSl, fiNo, fiSm, fLc, wLst, wTup, wStr, wRg1, wRg2, wZip, wEnum, gfN, gfTup, gsNil, gsCons, fLrg, fLrg3, wipeG, xSeq, xSet, xOf, xCall, xIf, xRet, xNext, xTup, xCons, xNil, xPut, xCallP, sRetX, sSetX, List.getElem?_cons_zero, List.getElem?_cons_succ, List.set_cons_zero, List.set_cons_succ, ix, oi, b2])]
          simp only [fOwn, fOpN,  fSeq, fNext, sRet, sRetN, sIf, sSet, sSetO, sAsg, sApp, sFor, forF, fVar, fOpd, fCon, f2, f1, fNil, fCons, bR, bL, bA, bLL, oR, fT, gAnd, gOr, gNot, gYes, fAnd, fOr, fNot, fIte, fTup, fLst, fCall, fCallO, fB, fM1, fSl, fiNo, fiSm, fLc, wLst, wTup, wStr, wRg1, wRg2, wZip, wEnum, gfN, gfTup, gsNil, gsCons, fLrg, fLrg3, wipeG, xSeq, xSet, xOf, xCall, xIf, xRet, xNext, xTup, xCons, xNil, xPut, xCallP, sRetX, sSetX, List.getElem?_cons_zero, List.getElem?_cons_succ, List.set_cons_zero, List.set_cons_succ, bR_ok, oR_some, oAdd_int, e3]
        obtain ⟨r, h1, h2⟩ := pa_one hL (φ := Phi n .l_at) (dp := dp) (w := cW) (ds := [pD cW, .int (k : Int)]) (by simp) (by simp) (by decide) (a := a + 3) (f := .wi k) (fun s => by show PyData.tuple [.str "within", _, _] = _; rw [s_W]; rfl) h (x := .no) (y := .no)
        have e : runF 4 7 (f_l_parts_at (Phi n)) [.str (mk L), .int (a : Int), pD cW, .int dp] = some (.ok r) := by
          refine runF_rt rfl ?_
          unfold f_l_parts_at
          rw [g0, fSeq_nx hpw]
          exact h1
        rw [e, List.drop_drop]
        exact h2
      · rw [if_neg hc]
        have hq : (mk (((L.drop a).drop 1).take 2) == mk [44, 32]) = false := by rw [mk_beq]; exact decide_eq_false hc
        refine .inl ⟨rfl, (a : Int), runF_rt rfl ?_⟩
        unfold f_l_parts_at
        rw [g0]
        refine seq_rt ?_
        unfold paW
        rw [sIf_of wq, if_pos rfl]
        refine seq_rt ?_
        have c1 : fT (f2 oNe (fSl (fOpd 0) (fiSm (f2 oAdd (fOpd 1) (fCon (.int 1)))) (fiSm (f2 oAdd (fOpd 1) (fCon (.int 3))))) (fCon (.str ", "))) [.va (.str (mk L)), .va (.int (a : Int)), .va (pD cW), .va (.int dp), .va (.tuple [pD cW]), .no, .no] = some (.ok true) := by
          simp only [fOwn, fOpN,  fSeq, fNext, sRet, sRetN, sIf, sSet, sSetO, sAsg, sApp, sFor, forF, fVar, fOpd, fCon, f2, f1, fNil, fCons, bR, bL, bA, bLL, oR, fT, gAnd, gOr, gNot, gYes, fAnd, fOr, fNot, fIte, fTup, fLst, fCall, fCallO, fB, fM1, fSl, fiNo, fiSm, fLc, wLst, wTup, wStr, wRg1, wRg2, wZip, wEnum, gfN, gfTup, gsNil, gsCons, fLrg, fLrg3, wipeG, xSeq, xSet, xOf, xCall, xIf, xRet, xNext, xTup, xCons, xNil, xPut, xCallP, sRetX, sSetX, List.getElem?_cons_zero, List.getElem?_cons_succ, List.set_cons_zero, List.set_cons_succ, bR_ok, oR_some, oAdd_int, sl2, s_sep, oNe_str, hq, Bool.not_false]
        have c0 : fT (f2 (oIn true) (fSl (fOpd 0) (fiSm (fOpd 1)) (fiSm (f2 oAdd (fOpd 1) (fCon (.int 1))))) (fLst (fCons (fCon (.str "0")) (fCons (fCon (.str "1")) (fCons (fCon (.str "2")) (fCons (fCon (.str "3")) (fCons (fCon (.str "4")) fNil))))))) [.va (.str (mk L)), .va (.int (a : Int)), .va (pD cW), .va (.int dp), .va (.tuple [pD cW]), .no, .no] = some (.ok false) := by
          simp [fOwn, fOpN,  fSeq, fNext, sRet, sRetN, sIf, sSet, sSetO, sAsg, sApp, sFor, forF, fVar, fOpd, fCon, f2, f1, fNil, fCons, bR, bL, bA, bLL, oR, fT, gAnd, gOr, gNot, gYes, fAnd, fOr, fNot, fIte, fTup, fLst, fCall, fCallO, fB, fM1, fSl, fiNo, fiSm, fLc, wLst, wTup, wStr, wRg1, wRg2, wZip, wEnum, gfN, gfTup, gsNil, gsCons, fLrg, fLrg3, wipeG, xSeq, xSet, xOf, xCall, xIf, xRet, xNext, xTup, xCons, xNil, xPut, xCallP, sRetX, sSetX, List.getElem?_cons_zero, List.getElem?_cons_succ, List.set_cons_zero, List.set_cons_succ, sl, inf, b5]
        rw [sIf_of (gOr_of c0 c1), if_pos rfl]
        simp [fOwn, fOpN,  fSeq, fNext, sRet, sRetN, sIf, sSet, sSetO, sAsg, sApp, sFor, forF, fVar, fOpd, fCon, f2, f1, fNil, fCons, bR, bL, bA, bLL, oR, fT, gAnd, gOr, gNot, gYes, fAnd, fOr, fNot, fIte, fTup, fLst, fCall, fCallO, fB, fM1, fSl, fiNo, fiSm, fLc, wLst, wTup, wStr, wRg1, wRg2, wZip, wEnum, gfN, gfTup, gsNil, gsCons, fLrg, fLrg3, wipeG, xSeq, xSet, xOf, xCall, xIf, xRet, xNext, xTup, xCons, xNil, xPut, xCallP, sRetX, sSetX, List.getElem?_cons_zero, List.getElem?_cons_succ, List.set_cons_zero, List.set_cons_succ, b2]
  · rw [if_neg (by decide), if_neg (by decide), if_neg (by decide), if_neg (by decide), if_neg (by decide), if_neg (by decide), if_pos rfl]; exact one _ .b (by decide) (by decide)
  · rw [if_neg (by decide), if_neg (by decide), if_neg (by decide), if_neg (by decide), if_neg (by decide), if_neg (by decide), if_neg (by decide)]; exact two _ .s (by decide) (by decide)
end K02

namespace K02
open PySem PySem.Spec PyProof.Rows L2 Py
/-! ### the law's own reading -/
def pickW : List (List Nat) → List Nat → Option (List Nat)
  | [], _ => none
  | w :: ws, l => if l.take (w.length + 1) = w ++ [40] then some w else pickW ws l
def WS : List (List Nat) := [cN, cA, cO, cX, cU, cW, cB, cS]
def lawP : Nat → List Nat → Option (Sta × List Nat)
  | 0, _ => none
  | d + 1, l => if l.take 1 = [39] then markP (l.drop 1) else if l.take 3 = cY then some (.yes, l.drop 3) else match pickW WS l with
    | none => none
    | some w => partsP w (lawP d) (l.drop (w.length + 1))
theorem lawP_succ (d : Nat) (l : List Nat) : lawP (d + 1) l = if l.take 1 = [39] then markP (l.drop 1) else if l.take 3 = cY then some (.yes, l.drop 3) else match pickW WS l with
    | none => none
    | some w => partsP w (lawP d) (l.drop (w.length + 1)) := rfl
abbrev atB (φ : List D → Option Rs) : Fs := sIf (fT (f2 oEq (fSl (fOpd 0) (fiSm (fOpd 1)) (fiSm (f2 oAdd (f2 oAdd (fOpd 1) (fB oLen (fCons (fOpd 3) fNil))) (fCon (.int 1))))) (f2 oAdd (fOpd 3) (fCon (.str "("))))) (sRet (fCall φ (fCons (fVar 0) (fCons (f2 oAdd (f2 oAdd (fOpd 1) (fB oLen (fCons (fOpd 3) fNil))) (fCon (.int 1))) (fCons (fVar 3) (fCons (fVar 2) fNil)))))) fNext
theorem at_loop {L : List Nat} (hL : L.length ≤ MX) {φ : List D → Option Rs} {dp : Int} {a : Nat} (G : List Nat → Option (Sta × List Nat)) : ∀ (ws : List (List Nat)) (x : Sl), (∀ w ∈ ws, w.length ≤ 6 ∧ LwOk L (G w) (φ [.str (mk L), .int ((a + (w.length + 1) : Nat) : Int), pD w, .int dp])) →
    (pickW ws (L.drop a) = none ∧ ∃ x', forF (gfN 3) (atB φ) (ws.map pD) [.va (.str (mk L)), .va (.int (a : Int)), .va (.int dp), x] = some (.nx [.va (.str (mk L)), .va (.int (a : Int)), .va (.int dp), x'])) ∨
    ∃ w r, pickW ws (L.drop a) = some w ∧ w ∈ ws ∧ forF (gfN 3) (atB φ) (ws.map pD) [.va (.str (mk L)), .va (.int (a : Int)), .va (.int dp), x] = some (.rt r) ∧ LwOk L (G w) (some (.ok r))
  | [], x, _ => .inl ⟨rfl, x, rfl⟩
  | w :: ws, x, h => by
    obtain ⟨hl, hw⟩ := h w List.mem_cons_self
    have lw : oLen [.str (mk w)] = some (.int (w.length : Int)) := len_mk (by unfold MX; omega)
    have e1 : (a : Int) + (w.length : Int) + 1 = ((a + (w.length + 1) : Nat) : Int) := by omega
    have sl := sl_mid hL (i := a) (j := a + (w.length + 1)) (by omega)
    rw [show a + (w.length + 1) - a = w.length + 1 by omega] at sl
    have ad : oAdd (.str (mk w)) (.str "(") = some (.str (mk (w ++ [40]))) := by rw [s_open]; exact add_mk (by simp; unfold MX; omega)
    have tst : fT (f2 oEq (fSl (fOpd 0) (fiSm (fOpd 1)) (fiSm (f2 oAdd (f2 oAdd (fOpd 1) (fB oLen (fCons (fOpd 3) fNil))) (fCon (.int 1))))) (f2 oAdd (fOpd 3) (fCon (.str "(")))) [.va (.str (mk L)), .va (.int (a : Int)), .va (.int dp), .va (pD w)] = some (.ok (decide ((L.drop a).take (w.length + 1) = w ++ [40]))) := by
      simp only [fOwn, fOpN,  fSeq, fNext, sRet, sRetN, sIf, sSet, sSetO, sAsg, sApp, sFor, forF, fVar, fOpd, fCon, f2, f1, fNil, fCons, bR, bL, bA, bLL, oR, fT, gAnd, gOr, gNot, gYes, fAnd, fOr, fNot, fIte, fTup, fLst, fCall, fCallO, fB, fM1, fSl, fiNo, fiSm, fLc, wLst, wTup, wStr, wRg1, wRg2, wZip, wEnum, gfN, gfTup, gsNil, gsCons, fLrg, fLrg3, wipeG, xSeq, xSet, xOf, xCall, xIf, xRet, xNext, xTup, xCons, xNil, xPut, xCallP, sRetX, sSetX, List.getElem?_cons_zero, List.getElem?_cons_succ, List.set_cons_zero, List.set_cons_succ, pD, bR_ok, bL_ok, bLL_ok, bA_ok, oR_some, oAdd_int, lw, e1, sl, ad, oEq_str, mk_beq]
    by_cases hc : (L.drop a).take (w.length + 1) = w ++ [40]
    · rw [decide_eq_true hc] at tst
      have hp : pickW (w :: ws) (L.drop a) = some w := by unfold pickW; rw [if_pos hc]
      have hr : ∃ r, φ [.str (mk L), .int ((a + (w.length + 1) : Nat) : Int), pD w, .int dp] = some (.ok r) := by
        rcases hw with ⟨_, k, e⟩ | ⟨S, b, _, _, e⟩ <;> exact ⟨_, e⟩
      obtain ⟨r, hr⟩ := hr
      rw [hr] at hw
      refine .inr ⟨w, r, hp, List.mem_cons_self, ?_, hw⟩
      refine forF_rt (γ1 := [.va (.str (mk L)), .va (.int (a : Int)), .va (.int dp), .va (pD w)]) rfl ?_
      unfold atB
      rw [sIf_of tst, if_pos rfl]
      refine ret_of (call_of (ds := [.str (mk L), .int ((a + (w.length + 1) : Nat) : Int), pD w, .int dp]) ?_ hr)
      simp only [fOwn, fOpN,  fSeq, fNext, sRet, sRetN, sIf, sSet, sSetO, sAsg, sApp, sFor, forF, fVar, fOpd, fCon, f2, f1, fNil, fCons, bR, bL, bA, bLL, oR, fT, gAnd, gOr, gNot, gYes, fAnd, fOr, fNot, fIte, fTup, fLst, fCall, fCallO, fB, fM1, fSl, fiNo, fiSm, fLc, wLst, wTup, wStr, wRg1, wRg2, wZip, wEnum, gfN, gfTup, gsNil, gsCons, fLrg, fLrg3, wipeG, xSeq, xSet, xOf, xCall, xIf, xRet, xNext, xTup, xCons, xNil, xPut, xCallP, sRetX, sSetX, List.getElem?_cons_zero, List.getElem?_cons_succ, List.set_cons_zero, List.set_cons_succ, pD, bR_ok, bL_ok, bLL_ok, bA_ok, oR_some, oAdd_int, lw, e1]
    · rw [decide_eq_false hc] at tst
      have hp : pickW (w :: ws) (L.drop a) = pickW ws (L.drop a) := by
        conv => lhs; unfold pickW
        rw [if_neg hc]
      have st : forF (gfN 3) (atB φ) ((w :: ws).map pD) [.va (.str (mk L)), .va (.int (a : Int)), .va (.int dp), x] = forF (gfN 3) (atB φ) (ws.map pD) [.va (.str (mk L)), .va (.int (a : Int)), .va (.int dp), .va (pD w)] :=
        forF_nx (γ1 := [.va (.str (mk L)), .va (.int (a : Int)), .va (.int dp), .va (pD w)]) rfl (by unfold atB; rw [sIf_of tst]; rfl)
      rw [hp, st]
      rcases at_loop hL G ws (.va (pD w)) (fun v hv => h v (List.mem_cons_of_mem _ hv)) with h1 | ⟨v, r, h1, h2, h3⟩
      · exact .inl h1
      · exact .inr ⟨v, r, h1, List.mem_cons_of_mem _ h2, h3⟩
theorem ws_data : ([.str "not", .str "and", .str "or", .str "next", .str "until", .str "within", .str "before", .str "since"] : List D) = WS.map pD := by
  rw [s_N, s_A, s_O, s_X, s_U, s_W, s_B, s_S]; rfl
theorem ws_len : ∀ w ∈ WS, w.length ≤ 6 := by decide
theorem run_at {L : List Nat} (hT : Tx L) (hL : L.length ≤ MX) : ∀ d n, 2 * d + 1 ≤ n → ∀ a, LwOk L (lawP d (L.drop a)) (Phi n .l_at [.str (mk L), .int (a : Int), .int (d : Int)]) := by
  intro d
  have b2 : (2 : Nat) ≤ big := by decide
  have b1 : (1 : Nat) ≤ big := by decide
  have b8 : (8 : Nat) ≤ big := by decide
  induction d with
  | zero =>
    intro n hn a
    obtain ⟨n, rfl⟩ : ∃ k, n = k + 1 := ⟨n - 1, by omega⟩
    refine .inl ⟨rfl, (a : Int), ?_⟩
    rw [phi_l_at]
    refine runF_rt rfl ?_
    unfold f_l_at
    refine seq_rt ?_
    simp [entry, fOwn, fOpN,  fSeq, fNext, sRet, sRetN, sIf, sSet, sSetO, sAsg, sApp, sFor, forF, fVar, fOpd, fCon, f2, f1, fNil, fCons, bR, bL, bA, bLL, oR, fT, gAnd, gOr, gNot, gYes, fAnd, fOr, fNot, fIte, fTup, fLst, fCall, fCallO, fB, fM1, fSl, fiNo, fiSm, fLc, wLst, wTup, wStr, wRg1, wRg2, wZip, wEnum, gfN, gfTup, gsNil, gsCons, fLrg, fLrg3, wipeG, xSeq, xSet, xOf, xCall, xIf, xRet, xNext, xTup, xCons, xNil, xPut, xCallP, sRetX, sSetX, List.getElem?_cons_zero, List.getElem?_cons_succ, List.set_cons_zero, List.set_cons_succ, List.replicate, b2]
  | succ d ih =>
    intro n hn a
    obtain ⟨n, rfl⟩ : ∃ k, n = k + 2 := ⟨n - 2, by omega⟩
    have e1 : (a : Int) + 1 = ((a + 1 : Nat) : Int) := by omega
    have e3 : (a : Int) + 3 = ((a + 3 : Nat) : Int) := by omega
    have d1 : ((((d + 1 : Nat) : Int)) == 0) = false := beq_eq_false_iff_ne.mpr (by omega)
    have sl1 := sl_mid hL (i := a) (j := a + 1) (by omega)
    rw [show a + 1 - a = 1 by omega, ← e1] at sl1
    have sl3 := sl_mid hL (i := a) (j := a + 3) (by omega)
    rw [show a + 3 - a = 3 by omega, ← e3] at sl3
    have g0 : entry 4 [.str (mk L), .int (a : Int), .int ((d + 1 : Nat) : Int)] = [.va (.str (mk L)), .va (.int (a : Int)), .va (.int ((d + 1 : Nat) : Int)), .no] := rfl
    rw [phi_l_at, lawP_succ]
    have first : ∀ rest : Fs, fSeq (sIf (fT (f2 oEq (fOpd 2) (fCon (.int 0)))) (sRet (fTup (fCons (fCon .none) (fCons (fVar 1) fNil)))) fNext) rest [.va (.str (mk L)), .va (.int (a : Int)), .va (.int ((d + 1 : Nat) : Int)), .no] = rest [.va (.str (mk L)), .va (.int (a : Int)), .va (.int ((d + 1 : Nat) : Int)), .no] := fun rest => fSeq_nx (by
      simp only [fOwn, fOpN,  fSeq, fNext, sRet, sRetN, sIf, sSet, sSetO, sAsg, sApp, sFor, forF, fVar, fOpd, fCon, f2, f1, fNil, fCons, bR, bL, bA, bLL, oR, fT, gAnd, gOr, gNot, gYes, fAnd, fOr, fNot, fIte, fTup, fLst, fCall, fCallO, fB, fM1, fSl, fiNo, fiSm, fLc, wLst, wTup, wStr, wRg1, wRg2, wZip, wEnum, gfN, gfTup, gsNil, gsCons, fLrg, fLrg3, wipeG, xSeq, xSet, xOf, xCall, xIf, xRet, xNext, xTup, xCons, xNil, xPut, xCallP, sRetX, sSetX, List.getElem?_cons_zero, List.getElem?_cons_succ, List.set_cons_zero, List.set_cons_succ, bR_ok, oR_some, oEq_int, d1])
    have t1 : fT (f2 oEq (fSl (fOpd 0) (fiSm (fOpd 1)) (fiSm (f2 oAdd (fOpd 1) (fCon (.int 1))))) (fCon (.str "'"))) [.va (.str (mk L)), .va (.int (a : Int)), .va (.int ((d + 1 : Nat) : Int)), .no] = some (.ok (decide ((L.drop a).take 1 = [39]))) := by
      simp only [fOwn, fOpN,  fSeq, fNext, sRet, sRetN, sIf, sSet, sSetO, sAsg, sApp, sFor, forF, fVar, fOpd, fCon, f2, f1, fNil, fCons, bR, bL, bA, bLL, oR, fT, gAnd, gOr, gNot, gYes, fAnd, fOr, fNot, fIte, fTup, fLst, fCall, fCallO, fB, fM1, fSl, fiNo, fiSm, fLc, wLst, wTup, wStr, wRg1, wRg2, wZip, wEnum, gfN, gfTup, gsNil, gsCons, fLrg, fLrg3, wipeG, xSeq, xSet, xOf, xCall, xIf, xRet, xNext, xTup, xCons, xNil, xPut, xCallP, sRetX, sSetX, List.getElem?_cons_zero, List.getElem?_cons_succ, List.set_cons_zero, List.set_cons_succ, bR_ok, oR_some, oAdd_int, sl1, s_quote, oEq_str, mk_beq]
    have t3 : fT (f2 oEq (fSl (fOpd 0) (fiSm (fOpd 1)) (fiSm (f2 oAdd (fOpd 1) (fCon (.int 3))))) (fCon (.str "yes"))) [.va (.str (mk L)), .va (.int (a : Int)), .va (.int ((d + 1 : Nat) : Int)), .no] = some (.ok (decide ((L.drop a).take 3 = cY))) := by
      simp only [fOwn, fOpN,  fSeq, fNext, sRet, sRetN, sIf, sSet, sSetO, sAsg, sApp, sFor, forF, fVar, fOpd, fCon, f2, f1, fNil, fCons, bR, bL, bA, bLL, oR, fT, gAnd, gOr, gNot, gYes, fAnd, fOr, fNot, fIte, fTup, fLst, fCall, fCallO, fB, fM1, fSl, fiNo, fiSm, fLc, wLst, wTup, wStr, wRg1, wRg2, wZip, wEnum, gfN, gfTup, gsNil, gsCons, fLrg, fLrg3, wipeG, xSeq, xSet, xOf, xCall, xIf, xRet, xNext, xTup, xCons, xNil, xPut, xCallP, sRetX, sSetX, List.getElem?_cons_zero, List.getElem?_cons_succ, List.set_cons_zero, List.set_cons_succ, bR_ok, oR_some, oAdd_int, sl3, s_Y, oEq_str, mk_beq]
    by_cases h1 : (L.drop a).take 1 = [39]
    · rw [if_pos h1]
      rw [decide_eq_true h1] at t1
      obtain ⟨r, hr⟩ : ∃ r, L.drop a = 39 :: r := by
        cases hs : L.drop a with
        | nil => rw [hs] at h1; cases h1
        | cons c r => rw [hs] at h1; simp at h1; exact ⟨r, by rw [h1]⟩
      have mr := run_mark_at hL n hr
      rw [hr]
      show LwOk L (markP r) _
      have hx : ∃ r', Phi (n + 1) .l_mark_at [.str (mk L), .int (a : Int)] = some (.ok r') := by
        rcases mr with ⟨_, k, e⟩ | ⟨S, b, _, _, e⟩ <;> exact ⟨_, e⟩
      obtain ⟨r', hx⟩ := hx
      rw [hx] at mr
      have e : runF 3 4 (f_l_at (Phi (n + 1))) [.str (mk L), .int (a : Int), .int ((d + 1 : Nat) : Int)] = some (.ok r') := by
        refine runF_rt rfl ?_
        unfold f_l_at
        rw [g0, first]
        refine seq_rt ?_
        rw [sIf_of t1, if_pos rfl]
        exact ret_of (call_of (cons_of (d := .str (mk L)) rfl (one_of (d := .int (a : Int)) rfl)) hx)
      rw [e]
      exact mr
    · rw [if_neg h1]
      rw [decide_eq_false h1] at t1
      have second : ∀ (s : Fs) (rest : Fs), fSeq (sIf (fT (f2 oEq (fSl (fOpd 0) (fiSm (fOpd 1)) (fiSm (f2 oAdd (fOpd 1) (fCon (.int 1))))) (fCon (.str "'")))) s fNext) rest [.va (.str (mk L)), .va (.int (a : Int)), .va (.int ((d + 1 : Nat) : Int)), .no] = rest [.va (.str (mk L)), .va (.int (a : Int)), .va (.int ((d + 1 : Nat) : Int)), .no] := fun s rest => fSeq_nx (by rw [sIf_of t1]; rfl)
      by_cases h3 : (L.drop a).take 3 = cY
      · rw [if_pos h3]
        rw [decide_eq_true h3] at t3
        refine .inr ⟨.yes, a + 3, by rw [List.drop_drop], ?_, runF_rt rfl ?_⟩
        · have := congrArg List.length h3
          rw [List.length_take, List.length_drop] at this
          simp [cY] at this
          omega
        · unfold f_l_at
          rw [g0, first, second]
          refine seq_rt ?_
          rw [sIf_of t3, if_pos rfl]
          simp only [fOwn, fOpN,  fSeq, fNext, sRet, sRetN, sIf, sSet, sSetO, sAsg, sApp, sFor, forF, fVar, fOpd, fCon, f2, f1, fNil, fCons, bR, bL, bA, bLL, oR, fT, gAnd, gOr, gNot, gYes, fAnd, fOr, fNot, fIte, fTup, fLst, fCall, fCallO, fB, fM1, fSl, fiNo, fiSm, fLc, wLst, wTup, wStr, wRg1, wRg2, wZip, wEnum, gfN, gfTup, gsNil, gsCons, fLrg, fLrg3, wipeG, xSeq, xSet, xOf, xCall, xIf, xRet, xNext, xTup, xCons, xNil, xPut, xCallP, sRetX, sSetX, List.getElem?_cons_zero, List.getElem?_cons_succ, List.set_cons_zero, List.set_cons_succ, bR_ok, bL_ok, bLL_ok, bA_ok, oR_some, oAdd_int, e3, b1, b2, List.length_cons, List.length_nil, Nat.zero_add, Nat.reduceAdd, if_true, enc]
      · rw [if_neg h3]
        rw [decide_eq_false h3] at t3
        have third : ∀ (s : Fs) (rest : Fs), fSeq (sIf (fT (f2 oEq (fSl (fOpd 0) (fiSm (fOpd 1)) (fiSm (f2 oAdd (fOpd 1) (fCon (.int 3))))) (fCon (.str "yes")))) s fNext) rest [.va (.str (mk L)), .va (.int (a : Int)), .va (.int ((d + 1 : Nat) : Int)), .no] = rest [.va (.str (mk L)), .va (.int (a : Int)), .va (.int ((d + 1 : Nat) : Int)), .no] := fun s rest => fSeq_nx (by rw [sIf_of t3]; rfl)
        have hd : ((d + 1 : Nat) : Int) - 1 = (d : Int) := by omega
        have lp := at_loop hL (φ := Phi (n + 1) .l_parts_at) (dp := ((d + 1 : Nat) : Int)) (a := a) (fun w => partsP w (lawP d) (L.drop (a + (w.length + 1)))) WS .no (fun w hw => ⟨ws_len w hw, run_parts hT hL hw (fun a' => by rw [hd]; exact ih n (by omega) a')⟩)
        have wk : wLst (fLst (fCons (fCon (.str "not")) (fCons (fCon (.str "and")) (fCons (fCon (.str "or")) (fCons (fCon (.str "next")) (fCons (fCon (.str "until")) (fCons (fCon (.str "within")) (fCons (fCon (.str "before")) (fCons (fCon (.str "since")) fNil))))))))) [.va (.str (mk L)), .va (.int (a : Int)), .va (.int ((d + 1 : Nat) : Int)), .no] = some (.ok (WS.map pD)) := by
          rw [← ws_data]
          simp [fOwn, fOpN,  fSeq, fNext, sRet, sRetN, sIf, sSet, sSetO, sAsg, sApp, sFor, forF, fVar, fOpd, fCon, f2, f1, fNil, fCons, bR, bL, bA, bLL, oR, fT, gAnd, gOr, gNot, gYes, fAnd, fOr, fNot, fIte, fTup, fLst, fCall, fCallO, fB, fM1, fSl, fiNo, fiSm, fLc, wLst, wTup, wStr, wRg1, wRg2, wZip, wEnum, gfN, gfTup, gsNil, gsCons, fLrg, fLrg3, wipeG, xSeq, xSet, xOf, xCall, xIf, xRet, xNext, xTup, xCons, xNil, xPut, xCallP, sRetX, sSetX, List.getElem?_cons_zero, List.getElem?_cons_succ, List.set_cons_zero, List.set_cons_succ, b8]
        have hfor : sFor (wLst (fLst (fCons (fCon (.str "not")) (fCons (fCon (.str "and")) (fCons (fCon (.str "or")) (fCons (fCon (.str "next")) (fCons (fCon (.str "until")) (fCons (fCon (.str "within")) (fCons (fCon (.str "before")) (fCons (fCon (.str "since")) fNil)))))))))) (gfN 3) (atB (Phi (n + 1) .l_parts_at)) [.va (.str (mk L)), .va (.int (a : Int)), .va (.int ((d + 1 : Nat) : Int)), .no] = forF (gfN 3) (atB (Phi (n + 1) .l_parts_at)) (WS.map pD) [.va (.str (mk L)), .va (.int (a : Int)), .va (.int ((d + 1 : Nat) : Int)), .no] := by
          unfold sFor
          rw [wk]
        rcases lp with ⟨k1, x', k2⟩ | ⟨w, r, k1, k2, k3, k4⟩
        · rw [k1]
          refine .inl ⟨rfl, (a : Int), runF_rt rfl ?_⟩
          unfold f_l_at
          rw [g0, first, second, third, fSeq_nx (hfor.trans k2)]
          simp only [fOwn, fOpN,  fSeq, fNext, sRet, sRetN, sIf, sSet, sSetO, sAsg, sApp, sFor, forF, fVar, fOpd, fCon, f2, f1, fNil, fCons, bR, bL, bA, bLL, oR, fT, gAnd, gOr, gNot, gYes, fAnd, fOr, fNot, fIte, fTup, fLst, fCall, fCallO, fB, fM1, fSl, fiNo, fiSm, fLc, wLst, wTup, wStr, wRg1, wRg2, wZip, wEnum, gfN, gfTup, gsNil, gsCons, fLrg, fLrg3, wipeG, xSeq, xSet, xOf, xCall, xIf, xRet, xNext, xTup, xCons, xNil, xPut, xCallP, sRetX, sSetX, List.getElem?_cons_zero, List.getElem?_cons_succ, List.set_cons_zero, List.set_cons_succ, bR_ok, bL_ok, bLL_ok, bA_ok, oR_some, b2, List.length_cons, List.length_nil, Nat.zero_add, Nat.reduceAdd, if_true]
        · rw [k1]
          simp only
          have e : runF 3 4 (f_l_at (Phi (n + 1))) [.str (mk L), .int (a : Int), .int ((d + 1 : Nat) : Int)] = some (.ok r) := by
            refine runF_rt rfl ?_
            unfold f_l_at
            rw [g0, first, second, third]
            exact seq_rt (hfor.trans k3)
          rw [e, List.drop_drop]
          exact k4
/-! it reads just what is written -/
theorem take_split {l x : List Nat} {k : Nat} (h : l.take k = x) : l = x ++ l.drop k := by rw [← h, List.take_append_drop]
def Snd (d : Nat) (g : List Nat → Option (Sta × List Nat)) : Prop := ∀ l S r, g l = some (S, r) → l = textL S ++ r ∧ Val d S
theorem one_snd {d : Nat} {g : List Nat → Option (Sta × List Nat)} (hg : Snd d g) {f : Sta → Sta} {r R : List Nat} {T : Sta} (h : oneL f g r = some (T, R)) : ∃ S, T = f S ∧ Val d S ∧ r = textL S ++ 41 :: R := by
  unfold oneL at h
  cases hr : g r with
  | none => rw [hr] at h; cases h
  | some q =>
    obtain ⟨S, r'⟩ := q
    rw [hr] at h
    simp only at h
    split at h
    · rename_i hc
      cases h
      obtain ⟨e, v⟩ := hg _ _ _ hr
      refine ⟨S, rfl, v, ?_⟩
      rw [e]
      congr 1
      exact take_split hc
    · cases h
theorem two_snd {d : Nat} {g : List Nat → Option (Sta × List Nat)} (hg : Snd d g) {f : Sta → Sta → Sta} {r R : List Nat} {T : Sta} (h : twoL f g r = some (T, R)) : ∃ S U, T = f S U ∧ Val d S ∧ Val d U ∧ r = textL S ++ 44 :: 32 :: (textL U ++ 41 :: R) := by
  unfold twoL at h
  cases hr : g r with
  | none => rw [hr] at h; cases h
  | some q =>
    obtain ⟨S, r'⟩ := q
    rw [hr] at h
    simp only at h
    split at h
    · rename_i hc
      cases hr2 : g (r'.drop 2) with
      | none => rw [hr2] at h; cases h
      | some q2 =>
        obtain ⟨U, r''⟩ := q2
        rw [hr2] at h
        simp only at h
        split at h
        · rename_i hc2
          cases h
          obtain ⟨e, v⟩ := hg _ _ _ hr
          obtain ⟨e2, v2⟩ := hg _ _ _ hr2
          refine ⟨S, U, rfl, v, v2, ?_⟩
          rw [e]
          congr 1
          have q1 := take_split hc
          have q2 := take_split hc2
          rw [q1, e2, q2]
          simp
        · cases h
    · cases h
theorem fig_chr {w : List Nat} {k : Nat} (h : fig w = some k) : w = [48 + k] := by
  unfold fig at h
  split at h
  · cases h; assumption
  · split at h
    · cases h; assumption
    · split at h
      · cases h; assumption
      · split at h
        · cases h; assumption
        · split at h
          · cases h; assumption
          · cases h
theorem parts_snd {d : Nat} {g : List Nat → Option (Sta × List Nat)} (hg : Snd d g) {w : List Nat} (hw : w ∈ WS) {r R : List Nat} {T : Sta} (h : partsP w g r = some (T, R)) : w ++ 40 :: r = textL T ++ R ∧ Val (d + 1) T := by
  have one : ∀ f : Sta → Sta, (∀ S, textL (f S) = w ++ 40 :: (textL S ++ [41])) → (∀ S, Val d S → Val (d + 1) (f S)) → oneL f g r = some (T, R) → w ++ 40 :: r = textL T ++ R ∧ Val (d + 1) T := fun f h1 h2 h => by
    obtain ⟨S, rfl, v, e⟩ := one_snd hg h
    exact ⟨by rw [h1, e]; simp, h2 S v⟩
  have two : ∀ f : Sta → Sta → Sta, (∀ S U, textL (f S U) = w ++ 40 :: (textL S ++ 44 :: 32 :: (textL U ++ [41]))) → (∀ S U, Val d S → Val d U → Val (d + 1) (f S U)) → twoL f g r = some (T, R) → w ++ 40 :: r = textL T ++ R ∧ Val (d + 1) T := fun f h1 h2 h => by
    obtain ⟨S, U, rfl, v, v2, e⟩ := two_snd hg h
    exact ⟨by rw [h1, e]; simp, h2 S U v v2⟩
  have v1 : ∀ (f : Sta → Sta), (f = .nt ∨ f = .nx ∨ f = .bf) → ∀ S, Val d S → Val (d + 1) (f S) := fun f hf S v => by
    have := v.dep
    rcases hf with rfl | rfl | rfl <;> exact ⟨v.mks, v.ks, by simp only [Sta.depth]; omega⟩
  have v2 : ∀ (f : Sta → Sta → Sta), (f = .an ∨ f = .or ∨ f = .un ∨ f = .si) → ∀ S U, Val d S → Val d U → Val (d + 1) (f S U) := fun f hf S U v u => by
    have := v.dep
    have := u.dep
    rcases hf with rfl | rfl | rfl | rfl <;> exact ⟨⟨v.mks, u.mks⟩, ⟨v.ks, u.ks⟩, by simp only [Sta.depth]; omega⟩
  unfold partsP at h
  simp only [WS, List.mem_cons, List.not_mem_nil, or_false] at hw
  rcases hw with rfl | rfl | rfl | rfl | rfl | rfl | rfl | rfl
  · rw [if_pos rfl] at h; exact one _ (fun _ => rfl) (v1 _ (by simp)) h
  · rw [if_neg (by decide), if_pos rfl] at h; exact two _ (fun _ _ => rfl) (v2 _ (by simp)) h
  · rw [if_neg (by decide), if_neg (by decide), if_pos rfl] at h; exact two _ (fun _ _ => rfl) (v2 _ (by simp)) h
  · rw [if_neg (by decide), if_neg (by decide), if_neg (by decide), if_pos rfl] at h; exact one _ (fun _ => rfl) (v1 _ (by simp)) h
  · rw [if_neg (by decide), if_neg (by decide), if_neg (by decide), if_neg (by decide), if_pos rfl] at h; exact two _ (fun _ _ => rfl) (v2 _ (by simp)) h
  · rw [if_neg (by decide), if_neg (by decide), if_neg (by decide), if_neg (by decide), if_neg (by decide), if_pos rfl] at h
    unfold wiL at h
    cases hf : fig (r.take 1) with
    | none => rw [hf] at h; cases h
    | some k =>
      rw [hf] at h
      simp only at h
      split at h
      · rename_i hc
        obtain ⟨S, rfl, v, e⟩ := one_snd hg h
        have h4 := fig_le hf
        have q1 := take_split (fig_chr hf)
        have q2 := take_split hc
        rw [List.drop_drop] at q2
        have := v.dep
        refine ⟨?_, v.mks, ⟨h4, v.ks⟩, by simp only [Sta.depth]; omega⟩
        rw [q1, q2, show 1 + 2 = 3 from rfl, e]
        simp [textL]
      · cases h
  · rw [if_neg (by decide), if_neg (by decide), if_neg (by decide), if_neg (by decide), if_neg (by decide), if_neg (by decide), if_pos rfl] at h; exact one _ (fun _ => rfl) (v1 _ (by simp)) h
  · rw [if_neg (by decide), if_neg (by decide), if_neg (by decide), if_neg (by decide), if_neg (by decide), if_neg (by decide), if_neg (by decide)] at h; exact two _ (fun _ _ => rfl) (v2 _ (by simp)) h
theorem pick_mem : ∀ {ws : List (List Nat)} {l w : List Nat}, pickW ws l = some w → w ∈ ws ∧ l.take (w.length + 1) = w ++ [40]
  | [], l, w, h => by cases h
  | v :: ws, l, w, h => by
    unfold pickW at h
    split at h
    · cases h; rename_i hc; exact ⟨List.mem_cons_self, hc⟩
    · obtain ⟨h1, h2⟩ := pick_mem h
      exact ⟨List.mem_cons_of_mem _ h1, h2⟩
theorem tw_all (p : Nat → Bool) : ∀ l : List Nat, ∀ x ∈ l.takeWhile p, p x = true
  | [], x, h => by cases h
  | a :: l, x, h => by
    rw [List.takeWhile_cons] at h
    split at h
    · rename_i ha
      rcases List.mem_cons.mp h with rfl | h
      · exact ha
      · exact tw_all p l x h
    · cases h
theorem law_snd : ∀ d, Snd d (lawP d) := by
  intro d
  induction d with
  | zero => intro l S r h; cases h
  | succ d ih =>
    intro l S r h
    rw [lawP_succ] at h
    split at h
    · rename_i h1
      unfold markP at h
      split at h
      · rename_i hc
        cases h
        have q1 := take_split h1
        have q2 := take_split hc.1
        have q3 := take_split (take_tw lett (l.drop 1))
        refine ⟨?_, ?_, trivial, by simp only [Sta.depth]; omega⟩
        · conv => lhs; rw [q1, q3, q2]
          simp [textL, mk_tl]
        · have hl := tw_all lett (l.drop 1)
          refine ⟨⟨fun x hx => lett_low x (hl x (by rw [mk_tl] at hx; exact hx)), by rw [mk_len]; exact hc.2.2⟩, fun e => ?_⟩
          rw [s_empty] at e
          have := mk_inj e
          have h1 := hc.2.1
          rw [this] at h1
          simp at h1
      · cases h
    · split at h
      · rename_i h3
        cases h
        exact ⟨take_split h3, trivial, trivial, by simp only [Sta.depth]; omega⟩
      · split at h
        · cases h
        · rename_i w hw
          obtain ⟨h1, h2⟩ := pick_mem hw
          obtain ⟨e, v⟩ := parts_snd ih h1 h
          refine ⟨?_, v⟩
          rw [← e]
          have q := take_split h2
          conv => lhs; rw [q]
          simp
theorem pick_w : ∀ w ∈ WS, ∀ X : List Nat, pickW WS (w ++ 40 :: X) = some w ∧ (w ++ 40 :: X).take 1 ≠ [39] ∧ (w ++ 40 :: X).take 3 ≠ cY := by
  intro w hw X
  simp only [WS, List.mem_cons, List.not_mem_nil, or_false] at hw
  rcases hw with rfl | rfl | rfl | rfl | rfl | rfl | rfl | rfl <;> simp [pickW, WS, cN, cA, cO, cX, cU, cW, cB, cS, cY]
theorem lawP_word {d : Nat} {w X : List Nat} (hw : w ∈ WS) : lawP (d + 1) (w ++ 40 :: X) = partsP w (lawP d) X := by
  obtain ⟨h1, h2, h3⟩ := pick_w w hw X
  rw [lawP_succ, if_neg h2, if_neg h3, h1]
  simp only
  congr 1
  rw [show w ++ 40 :: X = (w ++ [40]) ++ X by simp]
  exact List.drop_left' (by simp)
theorem lett_of {c : Nat} (h : 97 ≤ c ∧ c ≤ 122) : lett c = true := by
  have := let_in' h
  have e := in_lett true c
  rw [e] at this
  injection this with this
  injection this with this
  simpa using this
theorem one_cpl {g : List Nat → Option (Sta × List Nat)} {f : Sta → Sta} {s : Sta} (h : ∀ R, g (textL s ++ R) = some (s, R)) (R : List Nat) : oneL f g (textL s ++ 41 :: R) = some (f s, R) := by
  unfold oneL
  rw [h]
  simp
theorem two_cpl {g : List Nat → Option (Sta × List Nat)} {f : Sta → Sta → Sta} {s t : Sta} (h : ∀ R, g (textL s ++ R) = some (s, R)) (h2 : ∀ R, g (textL t ++ R) = some (t, R)) (R : List Nat) : twoL f g (textL s ++ 44 :: 32 :: (textL t ++ 41 :: R)) = some (f s t, R) := by
  unfold twoL
  rw [h]
  simp only [List.take_succ_cons, List.take_zero, if_true, List.drop_succ_cons, List.drop_zero]
  rw [h2]
  simp
theorem law_cpl : ∀ (s : Sta), s.Marks Lm → ksOk s → ∀ d, s.depth ≤ d → ∀ R, lawP d (textL s ++ R) = some (s, R) := by
  intro s
  induction s with
  | mark m =>
    intro hm _ d hd R
    obtain ⟨d, rfl⟩ : ∃ k, d = k + 1 := ⟨d - 1, by simp [Sta.depth] at hd; omega⟩
    have hm : Lm m := hm
    have hl := hm.low.let_
    have h6 := hm.low.len
    have h1 : 1 ≤ m.cps.toList.length := by
      cases hq : m.cps.toList with
      | nil =>
        exfalso
        apply hm.ne
        rw [s_empty, ← hq]
        rfl
      | cons c r => simp
    have h6' : m.cps.toList.length ≤ 6 := by rw [Array.length_toList]; exact h6
    have l39 : lett 39 = false := by
      cases hq : lett 39 with
      | false => rfl
      | true => have := lett_low 39 hq; omega
    have ht : (m.cps.toList ++ 39 :: R).takeWhile lett = m.cps.toList := tw_app lett _ _ (List.all_eq_true.mpr fun c hc => lett_of (hl c hc)) (.inr ⟨39, R, rfl, l39⟩)
    rw [show textL (.mark m) ++ R = 39 :: (m.cps.toList ++ 39 :: R) by simp [textL]]
    rw [lawP_succ, if_pos (by simp)]
    show markP (m.cps.toList ++ 39 :: R) = _
    unfold markP
    rw [ht, List.drop_left, if_pos ⟨by simp, h1, h6'⟩]
    rfl
  | yes =>
    intro _ _ d hd R
    obtain ⟨d, rfl⟩ : ∃ k, d = k + 1 := ⟨d - 1, by simp [Sta.depth] at hd; omega⟩
    rw [show textL .yes ++ R = 121 :: 101 :: 115 :: R from rfl, lawP_succ, if_neg (by simp), if_pos (by simp [cY])]
    rfl
  | nt s ih =>
    intro hm hk d hd R; simp only [Sta.depth] at hd
    obtain ⟨d, rfl⟩ : ∃ k, d = k + 1 := ⟨d - 1, by omega⟩
    rw [show textL (.nt s) ++ R = cN ++ 40 :: (textL s ++ 41 :: R) by simp [textL], lawP_word (by simp [WS])]
    exact one_cpl (ih hm hk d (by omega)) R
  | nx s ih =>
    intro hm hk d hd R; simp only [Sta.depth] at hd
    obtain ⟨d, rfl⟩ : ∃ k, d = k + 1 := ⟨d - 1, by omega⟩
    rw [show textL (.nx s) ++ R = cX ++ 40 :: (textL s ++ 41 :: R) by simp [textL], lawP_word (by simp [WS])]
    exact one_cpl (ih hm hk d (by omega)) R
  | bf s ih =>
    intro hm hk d hd R; simp only [Sta.depth] at hd
    obtain ⟨d, rfl⟩ : ∃ k, d = k + 1 := ⟨d - 1, by omega⟩
    rw [show textL (.bf s) ++ R = cB ++ 40 :: (textL s ++ 41 :: R) by simp [textL], lawP_word (by simp [WS])]
    exact one_cpl (ih hm hk d (by omega)) R
  | wi k s ih =>
    intro hm hk d hd R; simp only [Sta.depth] at hd
    obtain ⟨d, rfl⟩ : ∃ k, d = k + 1 := ⟨d - 1, by omega⟩
    rw [show textL (.wi k s) ++ R = cW ++ 40 :: ([48 + k] ++ 44 :: 32 :: (textL s ++ 41 :: R)) by simp [textL], lawP_word (by simp [WS])]
    show wiL (lawP d) _ = _
    unfold wiL
    have hfig : fig [48 + k] = some k := by
      have h4 := hk.1
      have : k = 0 ∨ k = 1 ∨ k = 2 ∨ k = 3 ∨ k = 4 := by omega
      rcases this with rfl | rfl | rfl | rfl | rfl <;> simp [fig]
    rw [show ([48 + k] ++ 44 :: 32 :: (textL s ++ 41 :: R)).take 1 = [48 + k] from rfl, hfig]
    simp only
    rw [if_pos (by simp)]
    exact one_cpl (ih hm hk.2 d (by omega)) R
  | an s t ih ih' =>
    intro hm hk d hd R; simp only [Sta.depth] at hd
    obtain ⟨d, rfl⟩ : ∃ k, d = k + 1 := ⟨d - 1, by omega⟩
    rw [show textL (.an s t) ++ R = cA ++ 40 :: (textL s ++ 44 :: 32 :: (textL t ++ 41 :: R)) by simp [textL], lawP_word (by simp [WS])]
    exact two_cpl (ih hm.1 hk.1 d (by omega)) (ih' hm.2 hk.2 d (by omega)) R
  | or s t ih ih' =>
    intro hm hk d hd R; simp only [Sta.depth] at hd
    obtain ⟨d, rfl⟩ : ∃ k, d = k + 1 := ⟨d - 1, by omega⟩
    rw [show textL (.or s t) ++ R = cO ++ 40 :: (textL s ++ 44 :: 32 :: (textL t ++ 41 :: R)) by simp [textL], lawP_word (by simp [WS])]
    exact two_cpl (ih hm.1 hk.1 d (by omega)) (ih' hm.2 hk.2 d (by omega)) R
  | un s t ih ih' =>
    intro hm hk d hd R; simp only [Sta.depth] at hd
    obtain ⟨d, rfl⟩ : ∃ k, d = k + 1 := ⟨d - 1, by omega⟩
    rw [show textL (.un s t) ++ R = cU ++ 40 :: (textL s ++ 44 :: 32 :: (textL t ++ 41 :: R)) by simp [textL], lawP_word (by simp [WS])]
    exact two_cpl (ih hm.1 hk.1 d (by omega)) (ih' hm.2 hk.2 d (by omega)) R
  | si s t ih ih' =>
    intro hm hk d hd R; simp only [Sta.depth] at hd
    obtain ⟨d, rfl⟩ : ∃ k, d = k + 1 := ⟨d - 1, by omega⟩
    rw [show textL (.si s t) ++ R = cS ++ 40 :: (textL s ++ 44 :: 32 :: (textL t ++ 41 :: R)) by simp [textL], lawP_word (by simp [WS])]
    exact two_cpl (ih hm.1 hk.1 d (by omega)) (ih' hm.2 hk.2 d (by omega)) R
theorem run_due {L : List Nat} (hT : Tx L) (hL : L.length ≤ MX) {n : Nat} (hn : 13 ≤ n) :
    (∃ S, Val 6 S ∧ textL S = L ∧ Phi (n + 1) .l_due [.str (mk L)] = some (.ok (enc S))) ∨
    (Phi (n + 1) .l_due [.str (mk L)] = some (.ok .none) ∧ ∀ S, Val 6 S → textL S ≠ L) := by
  have ra := run_at hT hL 6 n (by omega) 0
  rw [List.drop_zero] at ra
  rw [phi_l_due]
  have g0 : entry 3 [.str (mk L)] = [.va (.str (mk L)), .no, .no] := rfl
  have go : ∀ (d : D) (k : Int), Phi n .l_at [.str (mk L), .int 0, .int 6] = some (.ok (.tuple [d, .int k])) → runF 1 3 (f_l_due (Phi n)) [.str (mk L)] = some (.ok (if k = (L.length : Int) then d else .none)) := by
    intro d k h
    refine runF_rt rfl ?_
    unfold f_l_due
    rw [g0, fSeq_nx (γ1 := [.va (.str (mk L)), .va d, .va (.int k)]) (by
      unfold sAsg
      rw [call_of (cons_of (d := .str (mk L)) rfl (cons_of (d := .int 0) rfl (one_of (d := .int 6) rfl))) h]
      rfl)]
    by_cases hk : k = (L.length : Int)
    · simp [fOwn, fOpN,  fSeq, fNext, sRet, sRetN, sIf, sSet, sSetO, sAsg, sApp, sFor, forF, fVar, fOpd, fCon, f2, f1, fNil, fCons, bR, bL, bA, bLL, oR, fT, gAnd, gOr, gNot, gYes, fAnd, fOr, fNot, fIte, fTup, fLst, fCall, fCallO, fB, fM1, fSl, fiNo, fiSm, fLc, wLst, wTup, wStr, wRg1, wRg2, wZip, wEnum, gfN, gfTup, gsNil, gsCons, fLrg, fLrg3, wipeG, xSeq, xSet, xOf, xCall, xIf, xRet, xNext, xTup, xCons, xNil, xPut, xCallP, sRetX, sSetX, List.getElem?_cons_zero, List.getElem?_cons_succ, List.set_cons_zero, List.set_cons_succ, len_mk hL, hk]
    · have : (k == (L.length : Int)) = false := beq_eq_false_iff_ne.mpr hk
      simp [fOwn, fOpN,  fSeq, fNext, sRet, sRetN, sIf, sSet, sSetO, sAsg, sApp, sFor, forF, fVar, fOpd, fCon, f2, f1, fNil, fCons, bR, bL, bA, bLL, oR, fT, gAnd, gOr, gNot, gYes, fAnd, fOr, fNot, fIte, fTup, fLst, fCall, fCallO, fB, fM1, fSl, fiNo, fiSm, fLc, wLst, wTup, wStr, wRg1, wRg2, wZip, wEnum, gfN, gfTup, gsNil, gsCons, fLrg, fLrg3, wipeG, xSeq, xSet, xOf, xCall, xIf, xRet, xNext, xTup, xCons, xNil, xPut, xCallP, sRetX, sSetX, List.getElem?_cons_zero, List.getElem?_cons_succ, List.set_cons_zero, List.set_cons_succ, len_mk hL, hk, this]
  rcases ra with ⟨h1, k, h2⟩ | ⟨S, b, h1, hb, h2⟩
  · refine .inr ⟨?_, fun S v e => ?_⟩
    · rw [go _ _ h2]
      split <;> rfl
    · have := law_cpl S v.mks v.ks 6 v.dep []
      rw [List.append_nil, e, h1] at this
      cases this
  · obtain ⟨e, v⟩ := law_snd 6 _ _ _ h1
    by_cases hk : (b : Int) = (L.length : Int)
    · refine .inl ⟨S, v, ?_, by rw [go _ _ h2, if_pos hk]⟩
      rw [List.drop_of_length_le (by omega), List.append_nil] at e
      exact e.symm
    · refine .inr ⟨by rw [go _ _ h2, if_neg hk], fun S' v' e' => ?_⟩
      have := law_cpl S' v'.mks v'.ks 6 v'.dep []
      rw [List.append_nil, e', h1] at this
      injection this with this
      injection this with _ this
      have := drop_nil this
      omega
end K02

namespace K02
open PySem PySem.Spec PyProof.Rows L2 Py
/-! ### the text put together by the law -/
theorem lp_enc {n : Nat} {t : Sta} {x : List Nat} (h : Phi n .l_text [enc t] = some (.ok (.str (mk x)))) : Phi (n + 1) .l_part_text [enc t] = some (.ok (.str (mk x))) := by
  rw [phi_l_part_text]
  refine runF_rt rfl ?_
  unfold f_l_part_text
  simp [entry, fOwn, fOpN,  fSeq, fNext, sRet, sRetN, sIf, sSet, sSetO, sAsg, sApp, sFor, forF, fVar, fOpd, fCon, f2, f1, fNil, fCons, bR, bL, bA, bLL, oR, fT, gAnd, gOr, gNot, gYes, fAnd, fOr, fNot, fIte, fTup, fLst, fCall, fCallO, fB, fM1, fSl, fiNo, fiSm, fLc, wLst, wTup, wStr, wRg1, wRg2, wZip, wEnum, gfN, gfTup, gsNil, gsCons, fLrg, fLrg3, wipeG, xSeq, xSet, xOf, xCall, xIf, xRet, xNext, xTup, xCons, xNil, xPut, xCallP, sRetX, sSetX, List.getElem?_cons_zero, List.getElem?_cons_succ, List.set_cons_zero, List.set_cons_succ, List.replicate, isi_enc, h]
theorem lp_int {n k : Nat} (hk : k ≤ 4) : Phi (n + 1) .l_part_text [.int (k : Int)] = some (.ok (.str (mk [48 + k]))) := by
  have sf := str_fig hk
  rw [phi_l_part_text]
  refine runF_rt rfl ?_
  unfold f_l_part_text
  simp [entry, fOwn, fOpN,  fSeq, fNext, sRet, sRetN, sIf, sSet, sSetO, sAsg, sApp, sFor, forF, fVar, fOpd, fCon, f2, f1, fNil, fCons, bR, bL, bA, bLL, oR, fT, gAnd, gOr, gNot, gYes, fAnd, fOr, fNot, fIte, fTup, fLst, fCall, fCallO, fB, fM1, fSl, fiNo, fiSm, fLc, wLst, wTup, wStr, wRg1, wRg2, wZip, wEnum, gfN, gfTup, gsNil, gsCons, fLrg, fLrg3, wipeG, xSeq, xSet, xOf, xCall, xIf, xRet, xNext, xTup, xCons, xNil, xPut, xCallP, sRetX, sSetX, List.getElem?_cons_zero, List.getElem?_cons_succ, List.set_cons_zero, List.set_cons_succ, List.replicate, isi_int, sf]
theorem lt_one {Phi : Nm → List D → Option Rs} {w x : List Nat} {t : Sta} {W : Str} (hW : W = mk w) (hne : (W == "mark") = false ∧ (W == "yes") = false) (h : Phi .l_part_text [enc t] = some (.ok (.str (mk x)))) (hl : w.length + x.length + 10 ≤ MX) :
    runF 1 2 (f_l_text Phi) [.tuple [.str W, enc t]] = some (.ok (.str (mk (w ++ 40 :: (x ++ [41]))))) := by
  obtain ⟨g1, g2, g3⟩ := glue (w := w) (x := x) hl
  have j := join1 x (by omega)
  have b1 : (1 : Nat) ≤ big := by decide
  subst hW
  refine runF_rt rfl ?_
  unfold f_l_text
  simp [entry, fOwn, fOpN,  fSeq, fNext, sRet, sRetN, sIf, sSet, sSetO, sAsg, sApp, sFor, forF, fVar, fOpd, fCon, f2, f1, fNil, fCons, bR, bL, bA, bLL, oR, fT, gAnd, gOr, gNot, gYes, fAnd, fOr, fNot, fIte, fTup, fLst, fCall, fCallO, fB, fM1, fSl, fiNo, fiSm, fLc, wLst, wTup, wStr, wRg1, wRg2, wZip, wEnum, gfN, gfTup, gsNil, gsCons, fLrg, fLrg3, wipeG, xSeq, xSet, xOf, xCall, xIf, xRet, xNext, xTup, xCons, xNil, xPut, xCallP, sRetX, sSetX, List.getElem?_cons_zero, List.getElem?_cons_succ, List.set_cons_zero, List.set_cons_succ, List.replicate, hne, tail_tup, lcF, h, s_sep, j, g1, g2, g3, b1]
theorem lt_two {Phi : Nm → List D → Option Rs} {w x y : List Nat} {t u : Sta} {W : Str} (hW : W = mk w) (hne : (W == "mark") = false ∧ (W == "yes") = false) (h : Phi .l_part_text [enc t] = some (.ok (.str (mk x)))) (h2 : Phi .l_part_text [enc u] = some (.ok (.str (mk y)))) (hl : w.length + x.length + y.length + 20 ≤ MX) :
    runF 1 2 (f_l_text Phi) [.tuple [.str W, enc t, enc u]] = some (.ok (.str (mk (w ++ 40 :: (x ++ 44 :: 32 :: (y ++ [41])))))) := by
  obtain ⟨g1, g2, g3⟩ := glue (w := w) (x := x ++ 44 :: 32 :: y) (by simp; omega)
  have j := join2 x y (by omega)
  have b2 : (2 : Nat) ≤ big := by decide
  subst hW
  refine runF_rt rfl ?_
  unfold f_l_text
  simp [entry, fOwn, fOpN,  fSeq, fNext, sRet, sRetN, sIf, sSet, sSetO, sAsg, sApp, sFor, forF, fVar, fOpd, fCon, f2, f1, fNil, fCons, bR, bL, bA, bLL, oR, fT, gAnd, gOr, gNot, gYes, fAnd, fOr, fNot, fIte, fTup, fLst, fCall, fCallO, fB, fM1, fSl, fiNo, fiSm, fLc, wLst, wTup, wStr, wRg1, wRg2, wZip, wEnum, gfN, gfTup, gsNil, gsCons, fLrg, fLrg3, wipeG, xSeq, xSet, xOf, xCall, xIf, xRet, xNext, xTup, xCons, xNil, xPut, xCallP, sRetX, sSetX, List.getElem?_cons_zero, List.getElem?_cons_succ, List.set_cons_zero, List.set_cons_succ, List.replicate, hne, tail_tup, lcF, h, h2, s_sep, j, g1, g2, g3, b2]
theorem lt_wi {Phi : Nm → List D → Option Rs} {x : List Nat} {t : Sta} {k : Nat} (h : Phi .l_part_text [enc t] = some (.ok (.str (mk x)))) (h2 : Phi .l_part_text [.int (k : Int)] = some (.ok (.str (mk [48 + k])))) (hl : x.length + 20 ≤ MX) :
    runF 1 2 (f_l_text Phi) [.tuple [.str "within", .int (k : Int), enc t]] = some (.ok (.str (mk (cW ++ 40 :: (48 + k) :: 44 :: 32 :: (x ++ [41]))))) := by
  obtain ⟨g1, g2, g3⟩ := glue (w := cW) (x := [48 + k] ++ 44 :: 32 :: x) (by simp [cW]; omega)
  have j := join2 [48 + k] x (by simp; omega)
  have b2 : (2 : Nat) ≤ big := by decide
  rw [← s_W] at g1
  simp only [List.cons_append, List.nil_append] at g2 g3 j
  refine runF_rt rfl ?_
  unfold f_l_text
  simp [entry, fOwn, fOpN,  fSeq, fNext, sRet, sRetN, sIf, sSet, sSetO, sAsg, sApp, sFor, forF, fVar, fOpd, fCon, f2, f1, fNil, fCons, bR, bL, bA, bLL, oR, fT, gAnd, gOr, gNot, gYes, fAnd, fOr, fNot, fIte, fTup, fLst, fCall, fCallO, fB, fM1, fSl, fiNo, fiSm, fLc, wLst, wTup, wStr, wRg1, wRg2, wZip, wEnum, gfN, gfTup, gsNil, gsCons, fLrg, fLrg3, wipeG, xSeq, xSet, xOf, xCall, xIf, xRet, xNext, xTup, xCons, xNil, xPut, xCallP, sRetX, sSetX, List.getElem?_cons_zero, List.getElem?_cons_succ, List.set_cons_zero, List.set_cons_succ, List.replicate, tail_tup, lcF, h, h2, s_sep, j, g1, g2, g3, b2]
theorem lt_mark {Phi : Nm → List D → Option Rs} {m : Str} (hm : Lm m) : runF 1 2 (f_l_text Phi) [enc (.mark m)] = some (.ok (.str (mk (textL (.mark m))))) := by
  have hl := hm.low.len
  have e0 : m = mk m.cps.toList := rfl
  have hl' : m.cps.toList.length ≤ 6 := by rw [Array.length_toList]; exact hl
  generalize m.cps.toList = l at e0 hl'
  subst e0
  have a1 : oAdd (.str "'") (.str (mk l)) = some (.str (mk ([39] ++ l))) := by rw [s_quote]; exact add_mk (by simp; unfold MX; omega)
  have a2 : oAdd (.str (mk ([39] ++ l))) (.str "'") = some (.str (mk ([39] ++ l ++ [39]))) := by rw [s_quote]; exact add_mk (by simp; unfold MX; omega)
  refine runF_rt rfl ?_
  unfold f_l_text
  simp only [List.cons_append, List.nil_append] at a1 a2
  simp [entry, fOwn, fOpN,  fSeq, fNext, sRet, sRetN, sIf, sSet, sSetO, sAsg, sApp, sFor, forF, fVar, fOpd, fCon, f2, f1, fNil, fCons, bR, bL, bA, bLL, oR, fT, gAnd, gOr, gNot, gYes, fAnd, fOr, fNot, fIte, fTup, fLst, fCall, fCallO, fB, fM1, fSl, fiNo, fiSm, fLc, wLst, wTup, wStr, wRg1, wRg2, wZip, wEnum, gfN, gfTup, gsNil, gsCons, fLrg, fLrg3, wipeG, xSeq, xSet, xOf, xCall, xIf, xRet, xNext, xTup, xCons, xNil, xPut, xCallP, sRetX, sSetX, List.getElem?_cons_zero, List.getElem?_cons_succ, List.set_cons_zero, List.set_cons_succ, List.replicate, enc, a1, a2, textL, mk_tl]
theorem run_ltext : ∀ (s : Sta), s.Marks Lm → ksOk s → s.depth ≤ 6 → ∀ n, 2 * s.depth ≤ n → Phi n .l_text [enc s] = some (.ok (.str (mk (textL s)))) := by
  obtain ⟨n1, n2, x1, x2, b1, b2, a1, a2, o1, o2, u1, u2, s1, s2⟩ := wne
  intro s
  induction s with
  | mark m => intro hm _ _ n hn; obtain ⟨n, rfl⟩ : ∃ k, n = k + 1 := ⟨n - 1, by simp [Sta.depth] at hn; omega⟩; rw [phi_l_text]; exact lt_mark hm
  | yes =>
    intro _ _ _ n hn; obtain ⟨n, rfl⟩ : ∃ k, n = k + 1 := ⟨n - 1, by simp [Sta.depth] at hn; omega⟩
    rw [phi_l_text, show textL .yes = cY from rfl, ← s_Y]
    refine runF_rt rfl ?_
    unfold f_l_text
    simp [entry, fOwn, fOpN,  fSeq, fNext, sRet, sRetN, sIf, sSet, sSetO, sAsg, sApp, sFor, forF, fVar, fOpd, fCon, f2, f1, fNil, fCons, bR, bL, bA, bLL, oR, fT, gAnd, gOr, gNot, gYes, fAnd, fOr, fNot, fIte, fTup, fLst, fCall, fCallO, fB, fM1, fSl, fiNo, fiSm, fLc, wLst, wTup, wStr, wRg1, wRg2, wZip, wEnum, gfN, gfTup, gsNil, gsCons, fLrg, fLrg3, wipeG, xSeq, xSet, xOf, xCall, xIf, xRet, xNext, xTup, xCons, xNil, xPut, xCallP, sRetX, sSetX, List.getElem?_cons_zero, List.getElem?_cons_succ, List.set_cons_zero, List.set_cons_succ, List.replicate, enc]
  | nt s ih =>
    intro hm hk hd n hn; simp only [Sta.depth] at hd hn; obtain ⟨n, rfl⟩ : ∃ k, n = k + 2 := ⟨n - 2, by omega⟩
    have v := lenOf (s := s) hm (by omega)
    rw [phi_l_text]; exact lt_one s_N ⟨n1, n2⟩ (lp_enc (ih hm hk (by omega) n (by omega))) (by simp [cN]; unfold MX; omega)
  | nx s ih =>
    intro hm hk hd n hn; simp only [Sta.depth] at hd hn; obtain ⟨n, rfl⟩ : ∃ k, n = k + 2 := ⟨n - 2, by omega⟩
    have v := lenOf (s := s) hm (by omega)
    rw [phi_l_text]; exact lt_one s_X ⟨x1, x2⟩ (lp_enc (ih hm hk (by omega) n (by omega))) (by simp [cX]; unfold MX; omega)
  | bf s ih =>
    intro hm hk hd n hn; simp only [Sta.depth] at hd hn; obtain ⟨n, rfl⟩ : ∃ k, n = k + 2 := ⟨n - 2, by omega⟩
    have v := lenOf (s := s) hm (by omega)
    rw [phi_l_text]; exact lt_one s_B ⟨b1, b2⟩ (lp_enc (ih hm hk (by omega) n (by omega))) (by simp [cB]; unfold MX; omega)
  | wi k s ih =>
    intro hm hk hd n hn; simp only [Sta.depth] at hd hn; obtain ⟨n, rfl⟩ : ∃ k, n = k + 2 := ⟨n - 2, by omega⟩
    have v := lenOf (s := s) hm (by omega)
    rw [phi_l_text]; exact lt_wi (lp_enc (ih hm hk.2 (by omega) n (by omega))) (lp_int hk.1) (by unfold MX; omega)
  | an s t ih ih' =>
    intro hm hk hd n hn; simp only [Sta.depth] at hd hn; obtain ⟨n, rfl⟩ : ∃ k, n = k + 2 := ⟨n - 2, by omega⟩
    have v := lenOf (s := s) hm.1 (by omega)
    have v' := lenOf (s := t) hm.2 (by omega)
    rw [phi_l_text]; exact lt_two s_A ⟨a1, a2⟩ (lp_enc (ih hm.1 hk.1 (by omega) n (by omega))) (lp_enc (ih' hm.2 hk.2 (by omega) n (by omega))) (by simp [cA]; unfold MX; omega)
  | or s t ih ih' =>
    intro hm hk hd n hn; simp only [Sta.depth] at hd hn; obtain ⟨n, rfl⟩ : ∃ k, n = k + 2 := ⟨n - 2, by omega⟩
    have v := lenOf (s := s) hm.1 (by omega)
    have v' := lenOf (s := t) hm.2 (by omega)
    rw [phi_l_text]; exact lt_two s_O ⟨o1, o2⟩ (lp_enc (ih hm.1 hk.1 (by omega) n (by omega))) (lp_enc (ih' hm.2 hk.2 (by omega) n (by omega))) (by simp [cO]; unfold MX; omega)
  | un s t ih ih' =>
    intro hm hk hd n hn; simp only [Sta.depth] at hd hn; obtain ⟨n, rfl⟩ : ∃ k, n = k + 2 := ⟨n - 2, by omega⟩
    have v := lenOf (s := s) hm.1 (by omega)
    have v' := lenOf (s := t) hm.2 (by omega)
    rw [phi_l_text]; exact lt_two s_U ⟨u1, u2⟩ (lp_enc (ih hm.1 hk.1 (by omega) n (by omega))) (lp_enc (ih' hm.2 hk.2 (by omega) n (by omega))) (by simp [cU]; unfold MX; omega)
  | si s t ih ih' =>
    intro hm hk hd n hn; simp only [Sta.depth] at hd hn; obtain ⟨n, rfl⟩ : ∃ k, n = k + 2 := ⟨n - 2, by omega⟩
    have v := lenOf (s := s) hm.1 (by omega)
    have v' := lenOf (s := t) hm.2 (by omega)
    rw [phi_l_text]; exact lt_two s_S ⟨s1, s2⟩ (lp_enc (ih hm.1 hk.1 (by omega) n (by omega))) (lp_enc (ih' hm.2 hk.2 (by omega) n (by omega))) (by simp [cS]; unfold MX; omega)
/-! ### the same; refused -/
theorem same_str (w : Str) (n : Nat) : Phi (n + 1) .l_same [.str w, .str w] = some (.ok (.bool true)) := by
  rw [phi_l_same]
  refine runF_rt rfl ?_
  unfold f_l_same
  have i1 : oIsi "int" (.str w) = some (.bool false) := by simp [oIsi, isT, tyN]
  have i2 : oIsi "bool" (.str w) = some (.bool false) := by simp [oIsi, isT, tyN]
  simp [entry, fOwn, fOpN,  fSeq, fNext, sRet, sRetN, sIf, sSet, sSetO, sAsg, sApp, sFor, forF, fVar, fOpd, fCon, f2, f1, fNil, fCons, bR, bL, bA, bLL, oR, fT, gAnd, gOr, gNot, gYes, fAnd, fOr, fNot, fIte, fTup, fLst, fCall, fCallO, fB, fM1, fSl, fiNo, fiSm, fLc, wLst, wTup, wStr, wRg1, wRg2, wZip, wEnum, gfN, gfTup, gsNil, gsCons, fLrg, fLrg3, wipeG, xSeq, xSet, xOf, xCall, xIf, xRet, xNext, xTup, xCons, xNil, xPut, xCallP, sRetX, sSetX, List.getElem?_cons_zero, List.getElem?_cons_succ, List.set_cons_zero, List.set_cons_succ, List.replicate, isi_str, i1, i2]
theorem same_int (k : Int) (n : Nat) : Phi (n + 1) .l_same [.int k, .int k] = some (.ok (.bool true)) := by
  rw [phi_l_same]
  refine runF_rt rfl ?_
  unfold f_l_same
  have i1 : oIsi "int" (.int k) = some (.bool true) := by simp [oIsi, isT, tyN]
  have i2 : oIsi "bool" (.int k) = some (.bool false) := by simp [oIsi, isT, tyN]
  simp [entry, fOwn, fOpN,  fSeq, fNext, sRet, sRetN, sIf, sSet, sSetO, sAsg, sApp, sFor, forF, fVar, fOpd, fCon, f2, f1, fNil, fCons, bR, bL, bA, bLL, oR, fT, gAnd, gOr, gNot, gYes, fAnd, fOr, fNot, fIte, fTup, fLst, fCall, fCallO, fB, fM1, fSl, fiNo, fiSm, fLc, wLst, wTup, wStr, wRg1, wRg2, wZip, wEnum, gfN, gfTup, gsNil, gsCons, fLrg, fLrg3, wipeG, xSeq, xSet, xOf, xCall, xIf, xRet, xNext, xTup, xCons, xNil, xPut, xCallP, sRetX, sSetX, List.getElem?_cons_zero, List.getElem?_cons_succ, List.set_cons_zero, List.set_cons_succ, List.replicate, isi_int, i1, i2]
theorem same_tup {Phi : Nm → List D → Option Rs} {ds : List D} (h : ∀ d ∈ ds, Phi .l_same [d, d] = some (.ok (.bool true))) (hl : ds.length ≤ 10) : runF 2 4 (f_l_same Phi) [.tuple ds, .tuple ds] = some (.ok (.bool true)) := by
  have hz : ((ds.zip ds).map fun p => PyData.tuple [p.1, p.2]) = ds.map fun d => PyData.tuple [d, d] := by
    clear h hl
    induction ds with
    | nil => rfl
    | cons d ds ih => simp only [List.zip_cons_cons, List.map_cons, ih]
  have lc : lcF (gfTup (gsCons (gfN 2) (gsCons (gfN 3) gsNil))) gYes (fCall (Phi .l_same) (fCons (fVar 2) (fCons (fVar 3) fNil))) [.va (.tuple ds), .va (.tuple ds), .no, .no] (ds.map fun d => PyData.tuple [d, d]) = some (ds.map fun _ => PyData.bool true) := by
    refine lcF_map (fun d => PyData.tuple [d, d]) (fun _ => PyData.bool true) ds fun d hd => ⟨[.va (.tuple ds), .va (.tuple ds), .va d, .va d], rfl, rfl, ?_⟩
    exact call_of (ds := [d, d]) (cons_of (d := d) rfl (one_of (d := d) rfl)) (h d hd)
  have al : oAll [.list (ds.map fun _ => PyData.bool true)] = some (.bool true) := by
    have := oAll_bools (ds.map fun _ => true)
    rw [List.map_map] at this
    rw [show (ds.map fun _ => PyData.bool true) = ds.map (PyData.bool ∘ fun _ => true) from rfl, this]
    simp
  refine runF_rt rfl ?_
  unfold f_l_same
  have hb : ds.length ≤ big := by unfold big; omega
  refine seq_rt ?_
  have t1 : fT (f1 (oIsi "tuple") (fOpd 1)) (entry 4 [.tuple ds, .tuple ds]) = some (.ok true) := by simp [entry, fOwn, fOpN,  fSeq, fNext, sRet, sRetN, sIf, sSet, sSetO, sAsg, sApp, sFor, forF, fVar, fOpd, fCon, f2, f1, fNil, fCons, bR, bL, bA, bLL, oR, fT, gAnd, gOr, gNot, gYes, fAnd, fOr, fNot, fIte, fTup, fLst, fCall, fCallO, fB, fM1, fSl, fiNo, fiSm, fLc, wLst, wTup, wStr, wRg1, wRg2, wZip, wEnum, gfN, gfTup, gsNil, gsCons, fLrg, fLrg3, wipeG, xSeq, xSet, xOf, xCall, xIf, xRet, xNext, xTup, xCons, xNil, xPut, xCallP, sRetX, sSetX, List.getElem?_cons_zero, List.getElem?_cons_succ, List.set_cons_zero, List.set_cons_succ, List.replicate, isi_tup]
  rw [sIf_of t1, if_pos rfl]
  rw [fSeq_nx (γ1 := [.va (.tuple ds), .va (.tuple ds), .no, .no]) (by simp [entry, fOwn, fOpN,  fSeq, fNext, sRet, sRetN, sIf, sSet, sSetO, sAsg, sApp, sFor, forF, fVar, fOpd, fCon, f2, f1, fNil, fCons, bR, bL, bA, bLL, oR, fT, gAnd, gOr, gNot, gYes, fAnd, fOr, fNot, fIte, fTup, fLst, fCall, fCallO, fB, fM1, fSl, fiNo, fiSm, fLc, wLst, wTup, wStr, wRg1, wRg2, wZip, wEnum, gfN, gfTup, gsNil, gsCons, fLrg, fLrg3, wipeG, xSeq, xSet, xOf, xCall, xIf, xRet, xNext, xTup, xCons, xNil, xPut, xCallP, sRetX, sSetX, List.getElem?_cons_zero, List.getElem?_cons_succ, List.set_cons_zero, List.set_cons_succ, List.replicate, isi_tup])]
  refine ret_of ?_
  have lcv : fLc (wZipT (fCons (fVar 0) (fCons (fVar 1) fNil))) (gfTup (gsCons (gfN 2) (gsCons (gfN 3) gsNil))) gYes (fCall (Phi .l_same) (fCons (fVar 2) (fCons (fVar 3) fNil))) [2, 3] [.va (.tuple ds), .va (.tuple ds), .no, .no] = some (.ok (.list (ds.map fun _ => PyData.bool true))) := by
    refine lc_of (ds := ds.map fun d => PyData.tuple [d, d]) ?_ (by rw [List.length_map]; exact hb) lc
    simp only [wZipT, fOwn, fOpN,  fSeq, fNext, sRet, sRetN, sIf, sSet, sSetO, sAsg, sApp, sFor, forF, fVar, fOpd, fCon, f2, f1, fNil, fCons, bR, bL, bA, bLL, oR, fT, gAnd, gOr, gNot, gYes, fAnd, fOr, fNot, fIte, fTup, fLst, fCall, fCallO, fB, fM1, fSl, fiNo, fiSm, fLc, wLst, wTup, wStr, wRg1, wRg2, wZip, wEnum, gfN, gfTup, gsNil, gsCons, fLrg, fLrg3, wipeG, xSeq, xSet, xOf, xCall, xIf, xRet, xNext, xTup, xCons, xNil, xPut, xCallP, sRetX, sSetX, List.getElem?_cons_zero, List.getElem?_cons_succ, List.set_cons_zero, List.set_cons_succ, bL_ok, bLL_ok, hz]
  unfold fB
  rw [one_of lcv]
  simp only [bA_ok, al, oR_some]
theorem run_same : ∀ (s : Sta) (n : Nat), s.depth + 1 ≤ n → Phi n .l_same [enc s, enc s] = some (.ok (.bool true)) := by
  intro s
  induction s with
  | mark m =>
    intro n hn; obtain ⟨n, rfl⟩ : ∃ k, n = k + 2 := ⟨n - 2, by simp [Sta.depth] at hn; omega⟩
    rw [phi_l_same]
    exact same_tup (fun d hd => by simp only [List.mem_cons, List.not_mem_nil, or_false] at hd; rcases hd with rfl | rfl <;> exact same_str _ n) (by simp)
  | yes =>
    intro n hn; obtain ⟨n, rfl⟩ : ∃ k, n = k + 2 := ⟨n - 2, by simp [Sta.depth] at hn; omega⟩
    rw [phi_l_same]
    exact same_tup (fun d hd => by simp only [List.mem_cons, List.not_mem_nil, or_false] at hd; subst hd; exact same_str _ n) (by simp)
  | nt s ih =>
    intro n hn; obtain ⟨n, rfl⟩ : ∃ k, n = k + 2 := ⟨n - 2, by simp [Sta.depth] at hn; omega⟩
    rw [phi_l_same]
    exact same_tup (fun d hd => by simp only [List.mem_cons, List.not_mem_nil, or_false] at hd; rcases hd with rfl | rfl; exact same_str _ n; exact ih _ (by simp [Sta.depth] at hn; omega)) (by simp)
  | nx s ih =>
    intro n hn; obtain ⟨n, rfl⟩ : ∃ k, n = k + 2 := ⟨n - 2, by simp [Sta.depth] at hn; omega⟩
    rw [phi_l_same]
    exact same_tup (fun d hd => by simp only [List.mem_cons, List.not_mem_nil, or_false] at hd; rcases hd with rfl | rfl; exact same_str _ n; exact ih _ (by simp [Sta.depth] at hn; omega)) (by simp)
  | bf s ih =>
    intro n hn; obtain ⟨n, rfl⟩ : ∃ k, n = k + 2 := ⟨n - 2, by simp [Sta.depth] at hn; omega⟩
    rw [phi_l_same]
    exact same_tup (fun d hd => by simp only [List.mem_cons, List.not_mem_nil, or_false] at hd; rcases hd with rfl | rfl; exact same_str _ n; exact ih _ (by simp [Sta.depth] at hn; omega)) (by simp)
  | wi k s ih =>
    intro n hn; obtain ⟨n, rfl⟩ : ∃ k, n = k + 2 := ⟨n - 2, by simp [Sta.depth] at hn; omega⟩
    rw [phi_l_same]
    exact same_tup (fun d hd => by simp only [List.mem_cons, List.not_mem_nil, or_false] at hd; rcases hd with rfl | rfl | rfl; exact same_str _ n; exact same_int _ n; exact ih _ (by simp [Sta.depth] at hn; omega)) (by simp)
  | an s t ih ih' =>
    intro n hn; obtain ⟨n, rfl⟩ : ∃ k, n = k + 2 := ⟨n - 2, by simp [Sta.depth] at hn; omega⟩
    rw [phi_l_same]
    exact same_tup (fun d hd => by simp only [List.mem_cons, List.not_mem_nil, or_false] at hd; rcases hd with rfl | rfl | rfl; exact same_str _ n; exact ih _ (by simp [Sta.depth] at hn; omega); exact ih' _ (by simp [Sta.depth] at hn; omega)) (by simp)
  | or s t ih ih' =>
    intro n hn; obtain ⟨n, rfl⟩ : ∃ k, n = k + 2 := ⟨n - 2, by simp [Sta.depth] at hn; omega⟩
    rw [phi_l_same]
    exact same_tup (fun d hd => by simp only [List.mem_cons, List.not_mem_nil, or_false] at hd; rcases hd with rfl | rfl | rfl; exact same_str _ n; exact ih _ (by simp [Sta.depth] at hn; omega); exact ih' _ (by simp [Sta.depth] at hn; omega)) (by simp)
  | un s t ih ih' =>
    intro n hn; obtain ⟨n, rfl⟩ : ∃ k, n = k + 2 := ⟨n - 2, by simp [Sta.depth] at hn; omega⟩
    rw [phi_l_same]
    exact same_tup (fun d hd => by simp only [List.mem_cons, List.not_mem_nil, or_false] at hd; rcases hd with rfl | rfl | rfl; exact same_str _ n; exact ih _ (by simp [Sta.depth] at hn; omega); exact ih' _ (by simp [Sta.depth] at hn; omega)) (by simp)
  | si s t ih ih' =>
    intro n hn; obtain ⟨n, rfl⟩ : ∃ k, n = k + 2 := ⟨n - 2, by simp [Sta.depth] at hn; omega⟩
    rw [phi_l_same]
    exact same_tup (fun d hd => by simp only [List.mem_cons, List.not_mem_nil, or_false] at hd; rcases hd with rfl | rfl | rfl; exact same_str _ n; exact ih _ (by simp [Sta.depth] at hn; omega); exact ih' _ (by simp [Sta.depth] at hn; omega)) (by simp)
theorem ref_yes {n : Nat} {d : D} (h : Phi n .read [d] = some (.er "BadText")) : Phi (n + 1) .l_refused [d] = some (.ok (.bool true)) := by
  rw [phi_l_refused]
  refine runF_rt rfl ?_
  unfold f_l_refused
  refine seq_rt ?_
  unfold sTryW sDrop
  simp [entry, fOwn, fOpN,  fSeq, fNext, sRet, sRetN, sIf, sSet, sSetO, sAsg, sApp, sFor, forF, fVar, fOpd, fCon, f2, f1, fNil, fCons, bR, bL, bA, bLL, oR, fT, gAnd, gOr, gNot, gYes, fAnd, fOr, fNot, fIte, fTup, fLst, fCall, fCallO, fB, fM1, fSl, fiNo, fiSm, fLc, wLst, wTup, wStr, wRg1, wRg2, wZip, wEnum, gfN, gfTup, gsNil, gsCons, fLrg, fLrg3, wipeG, xSeq, xSet, xOf, xCall, xIf, xRet, xNext, xTup, xCons, xNil, xPut, xCallP, sRetX, sSetX, List.getElem?_cons_zero, List.getElem?_cons_succ, List.set_cons_zero, List.set_cons_succ, List.replicate, h, omR]
theorem ref_no {n : Nat} {d x : D} (h : Phi n .read [d] = some (.ok x)) : Phi (n + 1) .l_refused [d] = some (.ok (.bool false)) := by
  rw [phi_l_refused]
  refine runF_rt rfl ?_
  unfold f_l_refused
  rw [fSeq_nx (γ1 := entry 3 [d]) (by
    unfold sTryW sDrop
    simp [entry, fOwn, fOpN,  fSeq, fNext, sRet, sRetN, sIf, sSet, sSetO, sAsg, sApp, sFor, forF, fVar, fOpd, fCon, f2, f1, fNil, fCons, bR, bL, bA, bLL, oR, fT, gAnd, gOr, gNot, gYes, fAnd, fOr, fNot, fIte, fTup, fLst, fCall, fCallO, fB, fM1, fSl, fiNo, fiSm, fLc, wLst, wTup, wStr, wRg1, wRg2, wZip, wEnum, gfN, gfTup, gsNil, gsCons, fLrg, fLrg3, wipeG, xSeq, xSet, xOf, xCall, xIf, xRet, xNext, xTup, xCons, xNil, xPut, xCallP, sRetX, sSetX, List.getElem?_cons_zero, List.getElem?_cons_succ, List.set_cons_zero, List.set_cons_succ, List.replicate, h])]
  simp [fOwn, fOpN,  fSeq, fNext, sRet, sRetN, sIf, sSet, sSetO, sAsg, sApp, sFor, forF, fVar, fOpd, fCon, f2, f1, fNil, fCons, bR, bL, bA, bLL, oR, fT, gAnd, gOr, gNot, gYes, fAnd, fOr, fNot, fIte, fTup, fLst, fCall, fCallO, fB, fM1, fSl, fiNo, fiSm, fLc, wLst, wTup, wStr, wRg1, wRg2, wZip, wEnum, gfN, gfTup, gsNil, gsCons, fLrg, fLrg3, wipeG, xSeq, xSet, xOf, xCall, xIf, xRet, xNext, xTup, xCons, xNil, xPut, xCallP, sRetX, sSetX, List.getElem?_cons_zero, List.getElem?_cons_succ, List.set_cons_zero, List.set_cons_succ]
end K02

namespace K02
open PySem PySem.Spec PyProof.Rows L2 Py
/-! ### texts bent -/
theorem at_memG {α : Type} {l : List α} {k : Int} (hk : (l.length : Int) = k) (h0 : 0 < k) (c : Int) : ∃ d ∈ l, atI l (c % k) = some d := by
  have h1 := Int.emod_nonneg c (show k ≠ 0 by omega)
  have h2 := Int.emod_lt_of_pos c h0
  have hi : (c % k).toNat < l.length := by omega
  have e : (((c % k).toNat : Nat) : Int) = c % k := Int.toNat_of_nonneg h1
  have a : atI l (((c % k).toNat : Nat) : Int) = some l[(c % k).toNat] := atI_cast (List.getElem?_eq_getElem hi)
  rw [e] at a
  exact ⟨_, List.getElem_mem hi, a⟩
/-- texts that read takes without a fault -/
def okS : D → Bool
  | .str z => z.cps.toList.all (fun c => decide (c < 1114112)) && decide (z.cps.toList.length ≤ 1000)
  | _ => false
theorem okS_of {d : D} (h : okS d = true) : ∃ z, d = .str (mk z) ∧ Tx z ∧ z.length ≤ 1000 := by
  unfold okS at h
  split at h
  · rename_i z
    rw [Bool.and_eq_true] at h
    exact ⟨z.cps.toList, rfl, fun c hc => of_decide_eq_true (List.all_eq_true.mp h.1 c hc), of_decide_eq_true h.2⟩
  · cases h
theorem okS_lm {m : Str} (h : Lm m) : okS (.str m) = true := by
  unfold okS
  simp only [Bool.and_eq_true]
  refine ⟨List.all_eq_true.mpr fun c hc => decide_eq_true (by have := h.low.let_ c hc; omega), decide_eq_true ?_⟩
  have := h.low.len
  rw [Array.length_toList]
  show m.length ≤ 1000
  omega
def oddA : List D := [.str "", .str "no", .str "yes ", .str " yes", .str "Yes", .str "''", .str "'A'", .str "'abcdefg'", .str "(yes)", .str "not yes", .str "not(yes, yes)"]
def oddB : List D := [.str "and(yes)", .str "yes()", .str "within(yes, 2)", .str "within(5, yes)", .str "within(02, yes)", .str "within(2,yes)"]
def oddC : List D := [.str "not( yes)", .str "not(yes", .str "'a", .str "mark('a')"]
def six : D := .str (repS "not(" 6 ++ "yes" ++ repS ")" 6)
def oddD (m : Str) : List D := [.str "or(yes,  yes)", six, .str m, .str "yes)", .str "within(2 , yes)"]
theorem odd_ok : oddA.all okS = true ∧ oddB.all okS = true ∧ oddC.all okS = true ∧ okS (.str "or(yes,  yes)") = true ∧ okS six = true ∧ okS (.str "yes)") = true ∧ okS (.str "within(2 , yes)") = true := by decide +kernel
theorem mul_six : oMulS (.str "not(") (.int 6) = some (.str (repS "not(" 6)) ∧ oMulS (.str ")") (.int 6) = some (.str (repS ")" 6)) := by
  have h1 : ("not(" : Str).length = 4 := by decide +kernel
  have h2 : (")" : Str).length = 1 := by decide +kernel
  unfold oMulS
  simp only [h1, h2]
  exact ⟨rfl, rfl⟩
theorem add_six : oAdd (.str (repS "not(" 6)) (.str "yes") = some (.str (repS "not(" 6 ++ "yes")) ∧ oAdd (.str (repS "not(" 6 ++ "yes")) (.str (repS ")" 6)) = some six := by
  have h1 : (repS "not(" 6).length = 24 := by decide +kernel
  have h2 : ("yes" : Str).length = 3 := by decide +kernel
  have h3 : (repS "not(" 6 ++ "yes").length = 27 := by decide +kernel
  have h4 : (repS ")" 6).length = 6 := by decide +kernel
  exact ⟨oAdd_str (by rw [h1, h2]; decide), oAdd_str (by rw [h3, h4]; decide)⟩
theorem run_odd {m : Str} (hm : Lm m) (c : Int) (n : Nat) : ∃ z, Phi (n + 1) .l_odd [.int c, .str m] = some (.ok (.str (mk z))) ∧ Tx z ∧ z.length ≤ 1000 := by
  obtain ⟨oA, oB, oC, o1, o2, o3, o4⟩ := odd_ok
  obtain ⟨d, hd, e⟩ := at_memG (l := oddA ++ oddB ++ oddC ++ oddD m) (k := 26) rfl (by decide) c
  have hok : okS d = true := by
    simp only [List.mem_append, oddD, List.mem_cons, List.not_mem_nil, or_false] at hd
    rcases hd with ((h | h) | h) | rfl | rfl | rfl | rfl | rfl
    · exact List.all_eq_true.mp oA d h
    · exact List.all_eq_true.mp oB d h
    · exact List.all_eq_true.mp oC d h
    · exact o1
    · exact o2
    · exact okS_lm hm
    · exact o3
    · exact o4
  obtain ⟨z, rfl, h1, h2⟩ := okS_of hok
  refine ⟨z, ?_, h1, h2⟩
  have bA : (11 : Nat) ≤ big := by decide
  have bB : (6 : Nat) ≤ big := by decide
  have bC : (4 : Nat) ≤ big := by decide
  have bD : (5 : Nat) ≤ big := by decide
  have aAB : oAdd (.list oddA) (.list oddB) = some (.list (oddA ++ oddB)) := rfl
  have aABC : oAdd (.list (oddA ++ oddB)) (.list oddC) = some (.list (oddA ++ oddB ++ oddC)) := rfl
  have aAll : oAdd (.list (oddA ++ oddB ++ oddC)) (.list (oddD m)) = some (.list (oddA ++ oddB ++ oddC ++ oddD m)) := rfl
  obtain ⟨m1, m2⟩ := mul_six
  obtain ⟨a1, a2⟩ := add_six
  have md : oMod (.int c) (.int 26) = some (.int (c % 26)) := oMod_int _ _ (by decide)
  rw [phi_l_odd]
  refine runF_rt rfl ?_
  unfold f_l_odd
  rw [fSeq_nx (γ1 := [.va (.int c), .va (.str m), .va (.list oddA)]) (by simp [entry, fOwn, fOpN,  fSeq, fNext, sRet, sRetN, sIf, sSet, sSetO, sAsg, sApp, sFor, forF, fVar, fOpd, fCon, f2, f1, fNil, fCons, bR, bL, bA, bLL, oR, fT, gAnd, gOr, gNot, gYes, fAnd, fOr, fNot, fIte, fTup, fLst, fCall, fCallO, fB, fM1, fSl, fiNo, fiSm, fLc, wLst, wTup, wStr, wRg1, wRg2, wZip, wEnum, gfN, gfTup, gsNil, gsCons, fLrg, fLrg3, wipeG, xSeq, xSet, xOf, xCall, xIf, xRet, xNext, xTup, xCons, xNil, xPut, xCallP, sRetX, sSetX, List.getElem?_cons_zero, List.getElem?_cons_succ, List.set_cons_zero, List.set_cons_succ, List.replicate, bA, oddA])]
  rw [fSeq_nx (γ1 := [.va (.int c), .va (.str m), .va (.list (oddA ++ oddB))]) (by
    have : fLst (fCons (fCon (.str "and(yes)")) (fCons (fCon (.str "yes()")) (fCons (fCon (.str "within(yes, 2)")) (fCons (fCon (.str "within(5, yes)")) (fCons (fCon (.str "within(02, yes)")) (fCons (fCon (.str "within(2,yes)")) fNil)))))) [.va (.int c), .va (.str m), .va (.list oddA)] = some (.ok (.list oddB)) := by simp [fOwn, fOpN,  fSeq, fNext, sRet, sRetN, sIf, sSet, sSetO, sAsg, sApp, sFor, forF, fVar, fOpd, fCon, f2, f1, fNil, fCons, bR, bL, bA, bLL, oR, fT, gAnd, gOr, gNot, gYes, fAnd, fOr, fNot, fIte, fTup, fLst, fCall, fCallO, fB, fM1, fSl, fiNo, fiSm, fLc, wLst, wTup, wStr, wRg1, wRg2, wZip, wEnum, gfN, gfTup, gsNil, gsCons, fLrg, fLrg3, wipeG, xSeq, xSet, xOf, xCall, xIf, xRet, xNext, xTup, xCons, xNil, xPut, xCallP, sRetX, sSetX, List.getElem?_cons_zero, List.getElem?_cons_succ, List.set_cons_zero, List.set_cons_succ, bB, oddB]
    exact set_of (f2_of (x := .list oddA) rfl this aAB))]
  rw [fSeq_nx (γ1 := [.va (.int c), .va (.str m), .va (.list (oddA ++ oddB ++ oddC))]) (by
    have : fLst (fCons (fCon (.str "not( yes)")) (fCons (fCon (.str "not(yes")) (fCons (fCon (.str "'a")) (fCons (fCon (.str "mark('a')")) fNil)))) [.va (.int c), .va (.str m), .va (.list (oddA ++ oddB))] = some (.ok (.list oddC)) := by simp [fOwn, fOpN,  fSeq, fNext, sRet, sRetN, sIf, sSet, sSetO, sAsg, sApp, sFor, forF, fVar, fOpd, fCon, f2, f1, fNil, fCons, bR, bL, bA, bLL, oR, fT, gAnd, gOr, gNot, gYes, fAnd, fOr, fNot, fIte, fTup, fLst, fCall, fCallO, fB, fM1, fSl, fiNo, fiSm, fLc, wLst, wTup, wStr, wRg1, wRg2, wZip, wEnum, gfN, gfTup, gsNil, gsCons, fLrg, fLrg3, wipeG, xSeq, xSet, xOf, xCall, xIf, xRet, xNext, xTup, xCons, xNil, xPut, xCallP, sRetX, sSetX, List.getElem?_cons_zero, List.getElem?_cons_succ, List.set_cons_zero, List.set_cons_succ, bC, oddC]
    exact set_of (f2_of (x := .list (oddA ++ oddB)) rfl this aABC))]
  refine ret_of (f2_of (x := .list (oddA ++ oddB ++ oddC ++ oddD m)) (y := .int (c % 26)) (f2_of (x := .list (oddA ++ oddB ++ oddC)) (y := .list (oddD m)) rfl ?_ aAll) ?_ e)
  · simp [fOwn, fOpN,  fSeq, fNext, sRet, sRetN, sIf, sSet, sSetO, sAsg, sApp, sFor, forF, fVar, fOpd, fCon, f2, f1, fNil, fCons, bR, bL, bA, bLL, oR, fT, gAnd, gOr, gNot, gYes, fAnd, fOr, fNot, fIte, fTup, fLst, fCall, fCallO, fB, fM1, fSl, fiNo, fiSm, fLc, wLst, wTup, wStr, wRg1, wRg2, wZip, wEnum, gfN, gfTup, gsNil, gsCons, fLrg, fLrg3, wipeG, xSeq, xSet, xOf, xCall, xIf, xRet, xNext, xTup, xCons, xNil, xPut, xCallP, sRetX, sSetX, List.getElem?_cons_zero, List.getElem?_cons_succ, List.set_cons_zero, List.set_cons_succ, bD, oddD, m1, m2, a1, a2]
  · simp [fOwn, fOpN,  fSeq, fNext, sRet, sRetN, sIf, sSet, sSetO, sAsg, sApp, sFor, forF, fVar, fOpd, fCon, f2, f1, fNil, fCons, bR, bL, bA, bLL, oR, fT, gAnd, gOr, gNot, gYes, fAnd, fOr, fNot, fIte, fTup, fLst, fCall, fCallO, fB, fM1, fSl, fiNo, fiSm, fLc, wLst, wTup, wStr, wRg1, wRg2, wZip, wEnum, gfN, gfTup, gsNil, gsCons, fLrg, fLrg3, wipeG, xSeq, xSet, xOf, xCall, xIf, xRet, xNext, xTup, xCons, xNil, xPut, xCallP, sRetX, sSetX, List.getElem?_cons_zero, List.getElem?_cons_succ, List.set_cons_zero, List.set_cons_succ, md]
/-! pieces between commas, exchanged -/
theorem spl_sub (S : List Nat) : ∀ (k : Nat) (acc l : List Nat), (∀ p ∈ TL.spl S k acc l, (∀ c ∈ p, c ∈ acc ∨ c ∈ l) ∧ p.length ≤ acc.length + l.length) ∧ TL.spl S k acc l ≠ [] ∧ (TL.spl S k acc l).length ≤ l.length + 1
  | k, acc, [] => by
    rw [TL.spl_nil]
    exact ⟨fun p hp => by simp only [List.mem_singleton] at hp; subst hp; exact ⟨fun c hc => .inl hc, by simp⟩, by simp, by simp⟩
  | 0, acc, c :: r => by
    unfold TL.spl
    split
    · obtain ⟨h1, h2, h3⟩ := spl_sub S (S.length - 1) [] r
      refine ⟨fun p hp => ?_, by simp, by simp only [List.length_cons]; omega⟩
      rcases List.mem_cons.mp hp with rfl | hp
      · exact ⟨fun c hc => .inl hc, by omega⟩
      · obtain ⟨k1, k2⟩ := h1 p hp
        exact ⟨fun x hx => .inr (List.mem_cons_of_mem _ ((k1 x hx).resolve_left (by simp))), by simp only [List.length_nil, List.length_cons] at *; omega⟩
    · obtain ⟨h1, h2, h3⟩ := spl_sub S 0 (acc ++ [c]) r
      refine ⟨fun p hp => ?_, h2, by simp only [List.length_cons]; omega⟩
      obtain ⟨k1, k2⟩ := h1 p hp
      refine ⟨fun x hx => ?_, by simp only [List.length_append, List.length_cons, List.length_nil] at *; omega⟩
      rcases k1 x hx with h | h
      · rcases List.mem_append.mp h with h | h
        · exact .inl h
        · simp only [List.mem_singleton] at h; subst h; exact .inr List.mem_cons_self
      · exact .inr (List.mem_cons_of_mem _ h)
  | k + 1, acc, c :: r => by
    unfold TL.spl
    obtain ⟨h1, h2, h3⟩ := spl_sub S k acc r
    refine ⟨fun p hp => ?_, h2, by simp only [List.length_cons]; omega⟩
    obtain ⟨k1, k2⟩ := h1 p hp
    exact ⟨fun x hx => (k1 x hx).elim .inl fun h => .inr (List.mem_cons_of_mem _ h), by simp only [List.length_cons]; omega⟩
/-- such a piece -/
def Pc (B : Nat) (d : D) : Prop := ∃ z, d = .str (mk z) ∧ Tx z ∧ z.length ≤ B
theorem split_pc {L : List Nat} (hT : Tx L) (hL : L.length ≤ MX) : ∃ ds : List D, oSplit (mk L) (.str ", ") = some (.list ds) ∧ (∀ d ∈ ds, Pc L.length d) ∧ ds ≠ [] ∧ ds.length ≤ L.length + 1 := by
  have hs := TL.split_spl (mk L) (mk [44, 32]) (by show [44, 32] ≠ []; simp) (TL.kind_ok (by decide +kernel))
  have q := spl_sub (TL.tl (mk [44, 32])) 0 [] (TL.tl (mk L))
  rw [← hs] at q
  have etl : TL.tl (mk L) = L := rfl
  rw [etl] at q
  obtain ⟨h1, h2, h3⟩ := q
  refine ⟨(Txt.split (mk L) (mk [44, 32])).map .str, ?_, fun d hd => ?_, fun z => h2 ?_, by rw [List.length_map] at h3 ⊢; exact h3⟩
  · rw [s_sep]
    have e : ((mk [44, 32]).length == 0) = false ∧ (mk L).length + 2 ≤ big := ⟨rfl, by rw [mk_len]; unfold MX at hL; unfold big; omega⟩
    unfold oSplit
    simp only
    rw [if_pos e]
  · obtain ⟨p, hp, rfl⟩ := List.mem_map.mp hd
    obtain ⟨k1, k2⟩ := h1 (TL.tl p) (List.mem_map.mpr ⟨p, hp, rfl⟩)
    exact ⟨TL.tl p, rfl, hT.sub fun c hc => (k1 c hc).resolve_left (by simp), by simpa using k2⟩
  · rw [List.map_eq_nil_iff] at z ⊢
    exact z
theorem join_pc {B : Nat} : ∀ {ds : List D}, (∀ d ∈ ds, Pc B d) → ∃ ys : List Str, strsOf ds = some ys ∧ ys.length = ds.length ∧ (ys.map (·.length)).sum ≤ ds.length * B ∧ ∃ z, Str.join (mk [44, 32]) ys = mk z ∧ Tx z ∧ z.length ≤ ds.length * (B + 2)
  | [], _ => ⟨[], rfl, rfl, by simp, [], rfl, fun c hc => by simp at hc, by simp⟩
  | [d], h => by
    obtain ⟨z, rfl, h1, h2⟩ := h d (by simp)
    refine ⟨[mk z], rfl, rfl, ?_, z, rfl, h1, by simp; omega⟩
    simp only [List.map_cons, List.map_nil, List.sum_cons, List.sum_nil, mk_len, List.length_cons, List.length_nil]
    omega
  | d :: d2 :: ds, h => by
    obtain ⟨z, rfl, h1, h2⟩ := h d (by simp)
    obtain ⟨ys, k1, k2, k3, z', k4, k5, k6⟩ := join_pc (ds := d2 :: ds) fun x hx => h x (List.mem_cons_of_mem _ hx)
    have e : strsOf (.str (mk z) :: d2 :: ds) = some (mk z :: ys) := by
      show (match strsOf (d2 :: ds) with | some bs => some (mk z :: bs) | none => none) = _
      rw [k1]
    refine ⟨mk z :: ys, e, by simp [k2], ?_, z ++ 44 :: 32 :: z', ?_, ?_, ?_⟩
    · simp only [List.map_cons, List.sum_cons, mk_len]
      rw [show (PyData.str (mk z) :: d2 :: ds).length = (d2 :: ds).length + 1 from rfl, Nat.add_mul]
      omega
    · cases ys with
      | nil => simp at k2
      | cons y ys =>
        have : Str.join (mk [44, 32]) (mk z :: y :: ys) = mk z ++ mk [44, 32] ++ Str.join (mk [44, 32]) (y :: ys) := rfl
        rw [this, k4, mk_app, mk_app]
        simp
    · exact h1.app (fun c hc => by
        rcases List.mem_cons.mp hc with rfl | hc
        · decide
        · rcases List.mem_cons.mp hc with rfl | hc
          · decide
          · exact k5 c hc)
    · rw [show (PyData.str (mk z) :: d2 :: ds).length = (d2 :: ds).length + 1 from rfl, Nat.add_mul]
      simp only [List.length_append, List.length_cons] at *
      omega
theorem mod_nat (x : Int) {n : Nat} (h : 0 < n) : ∃ i : Nat, i < n ∧ x % (n : Int) = (i : Int) := by
  have h1 := Int.emod_nonneg x (show (n : Int) ≠ 0 by omega)
  have h2 := Int.emod_lt_of_pos x (show (0 : Int) < (n : Int) by omega)
  exact ⟨(x % (n : Int)).toNat, by omega, by omega⟩
theorem ixN_nat {n i : Nat} (h : i < n) : ixN n (i : Int) = some i := by
  unfold ixN
  rw [if_pos (by omega), if_pos (by omega)]
  rfl
theorem bent_pieces {L : List Nat} (hT : Tx L) (hL : L.length ≤ 1280) (c : Int) (C E F G : Sl) : ∃ z,
    fSeq (sSetO 6 (fM1 oSplit (fOpd 0) (fCon (.str ", ")))) (fSeq (sSet 7 (f2 oMod (f2 oDiv (fOpd 1) (fCon (.int 8))) (fB oLen (fCons (fOpd 6) fNil)))) (fSeq (sSet 8 (f2 oMod (f2 oDiv (fOpd 1) (fCon (.int 80))) (fB oLen (fCons (fOpd 6) fNil))))
      (fSeq (sSet 9 (f2 oIx (fOpd 6) (fOpd 7))) (fSeq (sSetI 6 (fOpd 7) (f2 oIx (fOpd 6) (fOpd 8))) (fSeq (sSetI 6 (fOpd 8) (fVar 9)) (sRet (fM1 oJoin (fCon (.str ", ")) (fOpd 6)))))))) [.va (.str (mk L)), .va (.int c), C, E, F, G, .no, .no, .no, .no] = some (.rt (.str (mk z))) ∧ Tx z ∧ z.length ≤ MX := by
  obtain ⟨ds, h1, h2, h3, h4⟩ := split_pc hT (by unfold MX; omega)
  have hn : 0 < ds.length := List.length_pos_iff.mpr h3
  obtain ⟨i, hi, ei⟩ := mod_nat (c / 8) hn
  obtain ⟨j, hj, ej⟩ := mod_nat (c / 80) hn
  have m8 : oMod (.int (c / 8)) (.int (ds.length : Int)) = some (.int (i : Int)) := by rw [oMod_int _ _ (by omega), ei]
  have m80 : oMod (.int (c / 80)) (.int (ds.length : Int)) = some (.int (j : Int)) := by rw [oMod_int _ _ (by omega), ej]
  have xi : atI ds (i : Int) = some ds[i] := atI_cast (List.getElem?_eq_getElem hi)
  have xj : atI ds (j : Int) = some ds[j] := atI_cast (List.getElem?_eq_getElem hj)
  have pcs : ∀ d ∈ (ds.set i ds[j]).set j ds[i], Pc L.length d := by
    intro d hd
    rcases List.mem_or_eq_of_mem_set hd with hd | rfl
    · rcases List.mem_or_eq_of_mem_set hd with hd | rfl
      · exact h2 d hd
      · exact h2 _ (List.getElem_mem hj)
    · exact h2 _ (List.getElem_mem hi)
  obtain ⟨ys, k1, k2, k3, z, k4, k5, k6⟩ := join_pc pcs
  have hlen : ((ds.set i ds[j]).set j ds[i]).length = ds.length := by simp
  rw [hlen] at k2 k3 k6
  have bnd : ds.length * (L.length + 2) ≤ 1281 * 1282 := Nat.mul_le_mul (by omega) (by omega)
  have bnd2 : ds.length * L.length ≤ 1281 * 1280 := Nat.mul_le_mul (by omega) (by omega)
  have jn : oJoin ", " (.list ((ds.set i ds[j]).set j ds[i])) = some (.str (mk z)) := by
    rw [s_sep]
    unfold oJoin
    simp only [k1]
    rw [if_pos (by
      have e2 : (mk [44, 32]).length = 2 := rfl
      rw [e2, k2]
      unfold big
      omega)]
    rw [TL.join_eq, k4]
  have i1 := ixN_nat hi
  have i2 : ixN (ds.set i ds[j]).length (j : Int) = some j := by rw [List.length_set]; exact ixN_nat hj
  refine ⟨z, ?_, k5, by unfold MX; omega⟩
  rw [fSeq_nx (γ1 := [.va (.str (mk L)), .va (.int c), C, E, F, G, .ow ds, .no, .no, .no]) (by simp [fOwn, fOpN,  fSeq, fNext, sRet, sRetN, sIf, sSet, sSetO, sAsg, sApp, sFor, forF, fVar, fOpd, fCon, f2, f1, fNil, fCons, bR, bL, bA, bLL, oR, fT, gAnd, gOr, gNot, gYes, fAnd, fOr, fNot, fIte, fTup, fLst, fCall, fCallO, fB, fM1, fSl, fiNo, fiSm, fLc, wLst, wTup, wStr, wRg1, wRg2, wZip, wEnum, gfN, gfTup, gsNil, gsCons, fLrg, fLrg3, wipeG, xSeq, xSet, xOf, xCall, xIf, xRet, xNext, xTup, xCons, xNil, xPut, xCallP, sRetX, sSetX, List.getElem?_cons_zero, List.getElem?_cons_succ, List.set_cons_zero, List.set_cons_succ, h1])]
  rw [fSeq_nx (γ1 := [.va (.str (mk L)), .va (.int c), C, E, F, G, .ow ds, .va (.int (i : Int)), .no, .no]) (by simp [fOwn, fOpN,  fSeq, fNext, sRet, sRetN, sIf, sSet, sSetO, sAsg, sApp, sFor, forF, fVar, fOpd, fCon, f2, f1, fNil, fCons, bR, bL, bA, bLL, oR, fT, gAnd, gOr, gNot, gYes, fAnd, fOr, fNot, fIte, fTup, fLst, fCall, fCallO, fB, fM1, fSl, fiNo, fiSm, fLc, wLst, wTup, wStr, wRg1, wRg2, wZip, wEnum, gfN, gfTup, gsNil, gsCons, fLrg, fLrg3, wipeG, xSeq, xSet, xOf, xCall, xIf, xRet, xNext, xTup, xCons, xNil, xPut, xCallP, sRetX, sSetX, List.getElem?_cons_zero, List.getElem?_cons_succ, List.set_cons_zero, List.set_cons_succ, m8])]
  rw [fSeq_nx (γ1 := [.va (.str (mk L)), .va (.int c), C, E, F, G, .ow ds, .va (.int (i : Int)), .va (.int (j : Int)), .no]) (by simp [fOwn, fOpN,  fSeq, fNext, sRet, sRetN, sIf, sSet, sSetO, sAsg, sApp, sFor, forF, fVar, fOpd, fCon, f2, f1, fNil, fCons, bR, bL, bA, bLL, oR, fT, gAnd, gOr, gNot, gYes, fAnd, fOr, fNot, fIte, fTup, fLst, fCall, fCallO, fB, fM1, fSl, fiNo, fiSm, fLc, wLst, wTup, wStr, wRg1, wRg2, wZip, wEnum, gfN, gfTup, gsNil, gsCons, fLrg, fLrg3, wipeG, xSeq, xSet, xOf, xCall, xIf, xRet, xNext, xTup, xCons, xNil, xPut, xCallP, sRetX, sSetX, List.getElem?_cons_zero, List.getElem?_cons_succ, List.set_cons_zero, List.set_cons_succ, m80])]
  rw [fSeq_nx (γ1 := [.va (.str (mk L)), .va (.int c), C, E, F, G, .ow ds, .va (.int (i : Int)), .va (.int (j : Int)), .va ds[i]]) (by simp [fOwn, fOpN,  fSeq, fNext, sRet, sRetN, sIf, sSet, sSetO, sAsg, sApp, sFor, forF, fVar, fOpd, fCon, f2, f1, fNil, fCons, bR, bL, bA, bLL, oR, fT, gAnd, gOr, gNot, gYes, fAnd, fOr, fNot, fIte, fTup, fLst, fCall, fCallO, fB, fM1, fSl, fiNo, fiSm, fLc, wLst, wTup, wStr, wRg1, wRg2, wZip, wEnum, gfN, gfTup, gsNil, gsCons, fLrg, fLrg3, wipeG, xSeq, xSet, xOf, xCall, xIf, xRet, xNext, xTup, xCons, xNil, xPut, xCallP, sRetX, sSetX, List.getElem?_cons_zero, List.getElem?_cons_succ, List.set_cons_zero, List.set_cons_succ, xi])]
  rw [fSeq_nx (γ1 := [.va (.str (mk L)), .va (.int c), C, E, F, G, .ow (ds.set i ds[j]), .va (.int (i : Int)), .va (.int (j : Int)), .va ds[i]]) (by
    unfold sSetI
    simp [fOwn, fOpN,  fSeq, fNext, sRet, sRetN, sIf, sSet, sSetO, sAsg, sApp, sFor, forF, fVar, fOpd, fCon, f2, f1, fNil, fCons, bR, bL, bA, bLL, oR, fT, gAnd, gOr, gNot, gYes, fAnd, fOr, fNot, fIte, fTup, fLst, fCall, fCallO, fB, fM1, fSl, fiNo, fiSm, fLc, wLst, wTup, wStr, wRg1, wRg2, wZip, wEnum, gfN, gfTup, gsNil, gsCons, fLrg, fLrg3, wipeG, xSeq, xSet, xOf, xCall, xIf, xRet, xNext, xTup, xCons, xNil, xPut, xCallP, sRetX, sSetX, List.getElem?_cons_zero, List.getElem?_cons_succ, List.set_cons_zero, List.set_cons_succ, xj, i1])]
  rw [fSeq_nx (γ1 := [.va (.str (mk L)), .va (.int c), C, E, F, G, .ow ((ds.set i ds[j]).set j ds[i]), .va (.int (i : Int)), .va (.int (j : Int)), .va ds[i]]) (by
    unfold sSetI
    simp only [fOwn, fOpN,  fSeq, fNext, sRet, sRetN, sIf, sSet, sSetO, sAsg, sApp, sFor, forF, fVar, fOpd, fCon, f2, f1, fNil, fCons, bR, bL, bA, bLL, oR, fT, gAnd, gOr, gNot, gYes, fAnd, fOr, fNot, fIte, fTup, fLst, fCall, fCallO, fB, fM1, fSl, fiNo, fiSm, fLc, wLst, wTup, wStr, wRg1, wRg2, wZip, wEnum, gfN, gfTup, gsNil, gsCons, fLrg, fLrg3, wipeG, xSeq, xSet, xOf, xCall, xIf, xRet, xNext, xTup, xCons, xNil, xPut, xCallP, sRetX, sSetX, List.getElem?_cons_zero, List.getElem?_cons_succ, List.set_cons_zero, List.set_cons_succ, i2])]
  simp [fOwn, fOpN,  fSeq, fNext, sRet, sRetN, sIf, sSet, sSetO, sAsg, sApp, sFor, forF, fVar, fOpd, fCon, f2, f1, fNil, fCons, bR, bL, bA, bLL, oR, fT, gAnd, gOr, gNot, gYes, fAnd, fOr, fNot, fIte, fTup, fLst, fCall, fCallO, fB, fM1, fSl, fiNo, fiSm, fLc, wLst, wTup, wStr, wRg1, wRg2, wZip, wEnum, gfN, gfTup, gsNil, gsCons, fLrg, fLrg3, wipeG, xSeq, xSet, xOf, xCall, xIf, xRet, xNext, xTup, xCons, xNil, xPut, xCallP, sRetX, sSetX, List.getElem?_cons_zero, List.getElem?_cons_succ, List.set_cons_zero, List.set_cons_succ, jn]
theorem signs_ok : ("()', ynotaduwis02345zA\t" : Str).cps.toList.length = 23 ∧ ("()', ynotaduwis02345zA\t" : Str).cps.toList.all (fun c => decide (c < 1114112)) = true ∧ ("()', ynotaduwis02345zA\t" : Str).length = 23 := by decide +kernel
theorem sign_at (c : Int) : ∃ s : Nat, s < 1114112 ∧ oIx (.str "()', ynotaduwis02345zA\t") (.int (c % 23)) = some (.str (mk [s])) := by
  obtain ⟨h1, h2, h3⟩ := signs_ok
  obtain ⟨s, hs, e⟩ := at_memG (l := ("()', ynotaduwis02345zA\t" : Str).cps.toList) (k := 23) (by rw [h1]; rfl) (by decide) c
  refine ⟨s, of_decide_eq_true (List.all_eq_true.mp h2 s hs), ?_⟩
  show (if ("()', ynotaduwis02345zA\t" : Str).length ≤ big then (match atI ("()', ynotaduwis02345zA\t" : Str).cps.toList (c % 23) with | some c => some (PyData.str ⟨#[c]⟩) | none => none) else none) = _
  rw [if_pos (by rw [h3]; decide), e]
  rfl
theorem run_bent {L : List Nat} (hT : Tx L) (hL : L.length ≤ 1280) {m : Str} (hm : Lm m) (c : Int) (n : Nat) : ∃ z, Phi (n + 2) .l_bent [.str (mk L), .int c, .str m] = some (.ok (.str (mk z))) ∧ Tx z ∧ z.length ≤ MX := by
  have hM : L.length ≤ MX := by unfold MX; omega
  obtain ⟨a, ha, ea⟩ := mod_nat (c / 4) (show 0 < L.length + 1 by omega)
  obtain ⟨s, hs, es⟩ := sign_at (c / 400)
  obtain ⟨zo, ho, to, lo⟩ := run_odd hm (c / 8) n
  have mL : oMod (.int (c / 4)) (.int ((L.length : Int) + 1)) = some (.int (a : Int)) := by
    have e1 : (L.length : Int) + 1 = ((L.length + 1 : Nat) : Int) := by omega
    rw [e1, oMod_int _ _ (by omega), ea]
  have e1 : (a : Int) + 1 = ((a + 1 : Nat) : Int) := by omega
  have st := sl_to hM a
  have sf := sl_from hM a
  have sf1 := sl_from hM (a + 1)
  rw [← e1] at sf1
  have Tt : Tx (L.take a) := hT.sub fun x hx => List.mem_of_mem_take hx
  have Tf : Tx (L.drop a) := hT.sub fun x hx => List.mem_of_mem_drop hx
  have Tf1 : Tx (L.drop (a + 1)) := hT.sub fun x hx => List.mem_of_mem_drop hx
  have Ts : Tx [s] := tx1 s hs
  have lt : (L.take a).length ≤ 1280 := by rw [List.length_take]; omega
  have lf : (L.drop a).length ≤ 1280 := by rw [List.length_drop]; omega
  have lf1 : (L.drop (a + 1)).length ≤ 1280 := by rw [List.length_drop]; omega
  have A1 : oAdd (.str (mk (L.take a))) (.str (mk [s])) = some (.str (mk (L.take a ++ [s]))) := add_mk (by simp only [List.length_cons, List.length_nil]; unfold MX; omega)
  have A2 : oAdd (.str (mk (L.take a ++ [s]))) (.str (mk (L.drop a))) = some (.str (mk (L.take a ++ [s] ++ L.drop a))) := add_mk (by simp only [List.length_append, List.length_cons, List.length_nil]; unfold MX; omega)
  have A3 : oAdd (.str (mk (L.take a ++ [s]))) (.str (mk (L.drop (a + 1)))) = some (.str (mk (L.take a ++ [s] ++ L.drop (a + 1)))) := add_mk (by simp only [List.length_append, List.length_cons, List.length_nil]; unfold MX; omega)
  have A4 : oAdd (.str (mk (L.take a))) (.str (mk (L.drop (a + 1)))) = some (.str (mk (L.take a ++ L.drop (a + 1)))) := add_mk (by unfold MX; omega)
  have d4 : oDiv (.int c) (.int 4) = some (.int (c / 4)) := oDiv_int _ _ (by decide) (by decide)
  have d400 : oDiv (.int c) (.int 400) = some (.int (c / 400)) := oDiv_int _ _ (by decide) (by decide)
  have d8 : oDiv (.int c) (.int 8) = some (.int (c / 8)) := oDiv_int _ _ (by decide) (by decide)
  have m8 : oMod (.int c) (.int 8) = some (.int (c % 8)) := oMod_int _ _ (by decide)
  have m23 : oMod (.int (c / 400)) (.int 23) = some (.int (c / 400 % 23)) := oMod_int _ _ (by decide)
  rw [phi_l_bent]
  generalize c % 8 = w at m8
  obtain ⟨γ, hγ⟩ : ∃ γ : Ge, γ = [.va (.str (mk L)), .va (.int c), .va (.str m), .va (.int (a : Int)), .va (.str (mk [s])), .va (.int w), .no, .no, .no, .no] := ⟨_, rfl⟩
  have start : ∀ rest : Fs, fSeq (sSet 3 (f2 oMod (f2 oDiv (fOpd 1) (fCon (.int 4))) (f2 oAdd (fB oLen (fCons (fOpd 0) fNil)) (fCon (.int 1))))) (fSeq (sSet 4 (f2 oIx (fCon (.str "()', ynotaduwis02345zA\t")) (f2 oMod (f2 oDiv (fOpd 1) (fCon (.int 400))) (fCon (.int 23))))) (fSeq (sSet 5 (f2 oMod (fOpd 1) (fCon (.int 8)))) rest)) (entry 10 [.str (mk L), .int c, .str m]) = rest γ := fun rest => by
    subst hγ
    rw [fSeq_nx (γ1 := [.va (.str (mk L)), .va (.int c), .va (.str m), .va (.int (a : Int)), .no, .no, .no, .no, .no, .no]) (by
      simp only [entry, List.length_cons, List.length_nil, List.replicate, List.map_cons, List.map_nil, List.cons_append, List.nil_append, fOwn, fOpN,  fSeq, fNext, sRet, sRetN, sIf, sSet, sSetO, sAsg, sApp, sFor, forF, fVar, fOpd, fCon, f2, f1, fNil, fCons, bR, bL, bA, bLL, oR, fT, gAnd, gOr, gNot, gYes, fAnd, fOr, fNot, fIte, fTup, fLst, fCall, fCallO, fB, fM1, fSl, fiNo, fiSm, fLc, wLst, wTup, wStr, wRg1, wRg2, wZip, wEnum, gfN, gfTup, gsNil, gsCons, fLrg, fLrg3, wipeG, xSeq, xSet, xOf, xCall, xIf, xRet, xNext, xTup, xCons, xNil, xPut, xCallP, sRetX, sSetX, List.getElem?_cons_zero, List.getElem?_cons_succ, List.set_cons_zero, List.set_cons_succ, bR_ok, bL_ok, bLL_ok, bA_ok, oR_some, d4, len_mk hM, oAdd_int, mL])]
    rw [fSeq_nx (γ1 := [.va (.str (mk L)), .va (.int c), .va (.str m), .va (.int (a : Int)), .va (.str (mk [s])), .no, .no, .no, .no, .no]) (by
      simp only [fOwn, fOpN,  fSeq, fNext, sRet, sRetN, sIf, sSet, sSetO, sAsg, sApp, sFor, forF, fVar, fOpd, fCon, f2, f1, fNil, fCons, bR, bL, bA, bLL, oR, fT, gAnd, gOr, gNot, gYes, fAnd, fOr, fNot, fIte, fTup, fLst, fCall, fCallO, fB, fM1, fSl, fiNo, fiSm, fLc, wLst, wTup, wStr, wRg1, wRg2, wZip, wEnum, gfN, gfTup, gsNil, gsCons, fLrg, fLrg3, wipeG, xSeq, xSet, xOf, xCall, xIf, xRet, xNext, xTup, xCons, xNil, xPut, xCallP, sRetX, sSetX, List.getElem?_cons_zero, List.getElem?_cons_succ, List.set_cons_zero, List.set_cons_succ, bR_ok, oR_some, d400, m23, es])]
    exact fSeq_nx (by simp only [fOwn, fOpN,  fSeq, fNext, sRet, sRetN, sIf, sSet, sSetO, sAsg, sApp, sFor, forF, fVar, fOpd, fCon, f2, f1, fNil, fCons, bR, bL, bA, bLL, oR, fT, gAnd, gOr, gNot, gYes, fAnd, fOr, fNot, fIte, fTup, fLst, fCall, fCallO, fB, fM1, fSl, fiNo, fiSm, fLc, wLst, wTup, wStr, wRg1, wRg2, wZip, wEnum, gfN, gfTup, gsNil, gsCons, fLrg, fLrg3, wipeG, xSeq, xSet, xOf, xCall, xIf, xRet, xNext, xTup, xCons, xNil, xPut, xCallP, sRetX, sSetX, List.getElem?_cons_zero, List.getElem?_cons_succ, List.set_cons_zero, List.set_cons_succ, bR_ok, oR_some, m8])
  have tw : ∀ k : Int, fT (f2 oEq (fOpd 5) (fCon (.int k))) γ = some (.ok (w == k)) := fun k => by subst hγ; simp only [fOwn, fOpN,  fSeq, fNext, sRet, sRetN, sIf, sSet, sSetO, sAsg, sApp, sFor, forF, fVar, fOpd, fCon, f2, f1, fNil, fCons, bR, bL, bA, bLL, oR, fT, gAnd, gOr, gNot, gYes, fAnd, fOr, fNot, fIte, fTup, fLst, fCall, fCallO, fB, fM1, fSl, fiNo, fiSm, fLc, wLst, wTup, wStr, wRg1, wRg2, wZip, wEnum, gfN, gfTup, gsNil, gsCons, fLrg, fLrg3, wipeG, xSeq, xSet, xOf, xCall, xIf, xRet, xNext, xTup, xCons, xNil, xPut, xCallP, sRetX, sSetX, List.getElem?_cons_zero, List.getElem?_cons_succ, List.set_cons_zero, List.set_cons_succ, bR_ok, oR_some, oEq_int]
  have skip : ∀ (k : Int) (f rest : Fs), w ≠ k → fSeq (sIf (fT (f2 oEq (fOpd 5) (fCon (.int k)))) f fNext) rest γ = rest γ := fun k f rest h => fSeq_nx (by
    rw [sIf_of (tw k), show (w == k) = false from beq_eq_false_iff_ne.mpr h]
    rfl)
  have take : ∀ (k : Int) (f rest : Fs) (d : D), w = k → f γ = some (.rt d) → fSeq (sIf (fT (f2 oEq (fOpd 5) (fCon (.int k)))) f fNext) rest γ = some (.rt d) := fun k f rest d h hf => seq_rt (by
    rw [sIf_of (tw k), h, beq_self_eq_true, if_pos rfl]
    exact hf)
  by_cases h0 : w = 0
  · refine ⟨L.take a ++ [s] ++ L.drop a, runF_rt rfl ?_, (Tt.app Ts).app Tf, by simp only [List.length_append, List.length_cons, List.length_nil]; unfold MX; omega⟩
    unfold f_l_bent
    rw [start]
    refine take 0 _ _ _ h0 ?_
    subst hγ
    simp only [fOwn, fOpN,  fSeq, fNext, sRet, sRetN, sIf, sSet, sSetO, sAsg, sApp, sFor, forF, fVar, fOpd, fCon, f2, f1, fNil, fCons, bR, bL, bA, bLL, oR, fT, gAnd, gOr, gNot, gYes, fAnd, fOr, fNot, fIte, fTup, fLst, fCall, fCallO, fB, fM1, fSl, fiNo, fiSm, fLc, wLst, wTup, wStr, wRg1, wRg2, wZip, wEnum, gfN, gfTup, gsNil, gsCons, fLrg, fLrg3, wipeG, xSeq, xSet, xOf, xCall, xIf, xRet, xNext, xTup, xCons, xNil, xPut, xCallP, sRetX, sSetX, List.getElem?_cons_zero, List.getElem?_cons_succ, List.set_cons_zero, List.set_cons_succ, bR_ok, oR_some, st, sf, A1, A2]
  · by_cases h1 : w = 1
    · refine ⟨L.take a ++ L.drop (a + 1), runF_rt rfl ?_, Tt.app Tf1, by simp only [List.length_append]; unfold MX; omega⟩
      unfold f_l_bent
      rw [start, skip 0 _ _ h0]
      refine take 1 _ _ _ h1 ?_
      subst hγ
      simp only [fOwn, fOpN,  fSeq, fNext, sRet, sRetN, sIf, sSet, sSetO, sAsg, sApp, sFor, forF, fVar, fOpd, fCon, f2, f1, fNil, fCons, bR, bL, bA, bLL, oR, fT, gAnd, gOr, gNot, gYes, fAnd, fOr, fNot, fIte, fTup, fLst, fCall, fCallO, fB, fM1, fSl, fiNo, fiSm, fLc, wLst, wTup, wStr, wRg1, wRg2, wZip, wEnum, gfN, gfTup, gsNil, gsCons, fLrg, fLrg3, wipeG, xSeq, xSet, xOf, xCall, xIf, xRet, xNext, xTup, xCons, xNil, xPut, xCallP, sRetX, sSetX, List.getElem?_cons_zero, List.getElem?_cons_succ, List.set_cons_zero, List.set_cons_succ, bR_ok, oR_some, oAdd_int, st, sf1, A4]
    · by_cases h2 : w = 2
      · refine ⟨L.take a ++ [s] ++ L.drop (a + 1), runF_rt rfl ?_, (Tt.app Ts).app Tf1, by simp only [List.length_append, List.length_cons, List.length_nil]; unfold MX; omega⟩
        unfold f_l_bent
        rw [start, skip 0 _ _ h0, skip 1 _ _ h1]
        refine take 2 _ _ _ h2 ?_
        subst hγ
        simp only [fOwn, fOpN,  fSeq, fNext, sRet, sRetN, sIf, sSet, sSetO, sAsg, sApp, sFor, forF, fVar, fOpd, fCon, f2, f1, fNil, fCons, bR, bL, bA, bLL, oR, fT, gAnd, gOr, gNot, gYes, fAnd, fOr, fNot, fIte, fTup, fLst, fCall, fCallO, fB, fM1, fSl, fiNo, fiSm, fLc, wLst, wTup, wStr, wRg1, wRg2, wZip, wEnum, gfN, gfTup, gsNil, gsCons, fLrg, fLrg3, wipeG, xSeq, xSet, xOf, xCall, xIf, xRet, xNext, xTup, xCons, xNil, xPut, xCallP, sRetX, sSetX, List.getElem?_cons_zero, List.getElem?_cons_succ, List.set_cons_zero, List.set_cons_succ, bR_ok, oR_some, oAdd_int, st, sf1, A1, A3]
      · by_cases h3 : w = 3
        · obtain ⟨z, e, t, l⟩ := bent_pieces hT hL c (.va (.str m)) (.va (.int (a : Int))) (.va (.str (mk [s]))) (.va (.int w))
          refine ⟨z, runF_rt rfl ?_, t, l⟩
          unfold f_l_bent
          rw [start, skip 0 _ _ h0, skip 1 _ _ h1, skip 2 _ _ h2]
          refine take 3 _ _ _ h3 ?_
          subst hγ
          exact e
        · by_cases h4 : w = 4
          · refine ⟨zo, runF_rt rfl ?_, to, by unfold MX; omega⟩
            unfold f_l_bent
            rw [start, skip 0 _ _ h0, skip 1 _ _ h1, skip 2 _ _ h2, skip 3 _ _ h3]
            refine take 4 _ _ _ h4 ?_
            subst hγ
            simp only [fOwn, fOpN,  fSeq, fNext, sRet, sRetN, sIf, sSet, sSetO, sAsg, sApp, sFor, forF, fVar, fOpd, fCon, f2, f1, fNil, fCons, bR, bL, bA, bLL, oR, fT, gAnd, gOr, gNot, gYes, fAnd, fOr, fNot, fIte, fTup, fLst, fCall, fCallO, fB, fM1, fSl, fiNo, fiSm, fLc, wLst, wTup, wStr, wRg1, wRg2, wZip, wEnum, gfN, gfTup, gsNil, gsCons, fLrg, fLrg3, wipeG, xSeq, xSet, xOf, xCall, xIf, xRet, xNext, xTup, xCons, xNil, xPut, xCallP, sRetX, sSetX, List.getElem?_cons_zero, List.getElem?_cons_succ, List.set_cons_zero, List.set_cons_succ, bR_ok, bL_ok, bLL_ok, bA_ok, oR_some, d8, ho]
          · refine ⟨L, runF_rt rfl ?_, hT, hM⟩
            unfold f_l_bent
            rw [start, skip 0 _ _ h0, skip 1 _ _ h1, skip 2 _ _ h2, skip 3 _ _ h3, skip 4 _ _ h4]
            subst hγ
            simp only [fOwn, fOpN,  fSeq, fNext, sRet, sRetN, sIf, sSet, sSetO, sAsg, sApp, sFor, forF, fVar, fOpd, fCon, f2, f1, fNil, fCons, bR, bL, bA, bLL, oR, fT, gAnd, gOr, gNot, gYes, fAnd, fOr, fNot, fIte, fTup, fLst, fCall, fCallO, fB, fM1, fSl, fiNo, fiSm, fLc, wLst, wTup, wStr, wRg1, wRg2, wZip, wEnum, gfN, gfTup, gsNil, gsCons, fLrg, fLrg3, wipeG, xSeq, xSet, xOf, xCall, xIf, xRet, xNext, xTup, xCons, xNil, xPut, xCallP, sRetX, sSetX, List.getElem?_cons_zero, List.getElem?_cons_succ, List.set_cons_zero, List.set_cons_succ]
end K02

namespace K02
open PySem PySem.Spec PyProof.Rows L2 Py
/-! ### the law -/
theorem text_inj {S T : Sta} (v : Val 6 S) (u : Val 6 T) (h : textL S = textL T) : S = T := by
  have h1 := law_cpl S v.mks v.ks 6 v.dep []
  have h2 := law_cpl T u.mks u.ks 6 u.dep []
  rw [h, h2] at h1
  injection h1 with h1
  injection h1 with h1
  exact h1.symm
abbrev lwB (Phi : Nm → List D → Option Rs) : Fs := fSeq (sSet 6 (fCall (Phi .l_due) (fCons (fVar 5) fNil)))
    (fSeq (sIf (gAnd (fT (f2 oIs (fOpd 6) (fCon .none))) (gNot (fT (fCall (Phi .l_refused) (fCons (fVar 5) fNil))))) (sRet (fCon (.bool false))) fNext)
    (sIf (gAnd (fT (f2 oIsNt (fOpd 6) (fCon .none))) (gOr (fT (fCall (Phi .l_refused) (fCons (fVar 5) fNil))) (gNot (fT (fCall (Phi .l_same) (fCons (fCall (Phi .read) (fCons (fVar 5) fNil)) (fCons (fVar 6) fNil))))))) (sRet (fCon (.bool false))) fNext))
theorem isnt_enc (s : Sta) : oIsNt (enc s) .none = some (.bool true) := by cases s <;> rfl
theorem law_turn {L : List Nat} (hT : Tx L) (hL : L.length ≤ MX) {n : Nat} (hn : 22 ≤ n) (A B C E F x : Sl) : ∃ x', lwB (Phi (n + 2)) [A, B, C, E, F, .va (.str (mk L)), x] = some (.nx [A, B, C, E, F, .va (.str (mk L)), x']) := by
  have d := run_due hT hL (n := n + 1) (by omega)
  rcases read_all hT hL (n := n) (by omega) with ⟨S, v, e, r⟩ | ⟨r, no⟩
  · have r2 : Phi (n + 2) .read [.str (mk L)] = some (.ok (enc S)) := by
      rcases read_all hT hL (n := n + 1) (by omega) with ⟨T, u, e2, r2⟩ | ⟨_, no⟩
      · rw [r2, text_inj v u (e.trans e2.symm)]
      · exact absurd e (no S v)
    have hd : Phi (n + 2) .l_due [.str (mk L)] = some (.ok (enc S)) := by
      rcases d with ⟨T, u, e2, r3⟩ | ⟨_, no⟩
      · rw [r3, text_inj v u (e.trans e2.symm)]
      · exact absurd e (no S v)
    have rf := ref_no r
    have sm := run_same S (n + 2) (by have := v.dep; omega)
    refine ⟨.va (enc S), ?_⟩
    unfold lwB
    rw [fSeq_nx (γ1 := [A, B, C, E, F, .va (.str (mk L)), .va (enc S)]) (by simp only [fOwn, fOpN,  fSeq, fNext, sRet, sRetN, sIf, sSet, sSetO, sAsg, sApp, sFor, forF, fVar, fOpd, fCon, f2, f1, fNil, fCons, bR, bL, bA, bLL, oR, fT, gAnd, gOr, gNot, gYes, fAnd, fOr, fNot, fIte, fTup, fLst, fCall, fCallO, fB, fM1, fSl, fiNo, fiSm, fLc, wLst, wTup, wStr, wRg1, wRg2, wZip, wEnum, gfN, gfTup, gsNil, gsCons, fLrg, fLrg3, wipeG, xSeq, xSet, xOf, xCall, xIf, xRet, xNext, xTup, xCons, xNil, xPut, xCallP, sRetX, sSetX, List.getElem?_cons_zero, List.getElem?_cons_succ, List.set_cons_zero, List.set_cons_succ, bA_ok, bL_ok, bLL_ok, hd])]
    rw [fSeq_nx (γ1 := [A, B, C, E, F, .va (.str (mk L)), .va (enc S)]) (by simp only [fOwn, fOpN,  fSeq, fNext, sRet, sRetN, sIf, sSet, sSetO, sAsg, sApp, sFor, forF, fVar, fOpd, fCon, f2, f1, fNil, fCons, bR, bL, bA, bLL, oR, fT, gAnd, gOr, gNot, gYes, fAnd, fOr, fNot, fIte, fTup, fLst, fCall, fCallO, fB, fM1, fSl, fiNo, fiSm, fLc, wLst, wTup, wStr, wRg1, wRg2, wZip, wEnum, gfN, gfTup, gsNil, gsCons, fLrg, fLrg3, wipeG, xSeq, xSet, xOf, xCall, xIf, xRet, xNext, xTup, xCons, xNil, xPut, xCallP, sRetX, sSetX, List.getElem?_cons_zero, List.getElem?_cons_succ, List.set_cons_zero, List.set_cons_succ, bR_ok, oR_some, isnon_enc])]
    simp only [fOwn, fOpN,  fSeq, fNext, sRet, sRetN, sIf, sSet, sSetO, sAsg, sApp, sFor, forF, fVar, fOpd, fCon, f2, f1, fNil, fCons, bR, bL, bA, bLL, oR, fT, gAnd, gOr, gNot, gYes, fAnd, fOr, fNot, fIte, fTup, fLst, fCall, fCallO, fB, fM1, fSl, fiNo, fiSm, fLc, wLst, wTup, wStr, wRg1, wRg2, wZip, wEnum, gfN, gfTup, gsNil, gsCons, fLrg, fLrg3, wipeG, xSeq, xSet, xOf, xCall, xIf, xRet, xNext, xTup, xCons, xNil, xPut, xCallP, sRetX, sSetX, List.getElem?_cons_zero, List.getElem?_cons_succ, List.set_cons_zero, List.set_cons_succ, bR_ok, bA_ok, bL_ok, bLL_ok, oR_some, isnt_enc, rf, r2, sm, Bool.not_true]
  · have hd : Phi (n + 2) .l_due [.str (mk L)] = some (.ok .none) := by
      rcases d with ⟨T, u, e2, _⟩ | ⟨r3, _⟩
      · exact absurd e2 (no T u)
      · exact r3
    have rf := ref_yes r
    have o1 : oIs .none .none = some (.bool true) := rfl
    have o2 : oIsNt .none .none = some (.bool false) := rfl
    refine ⟨.va .none, ?_⟩
    unfold lwB
    rw [fSeq_nx (γ1 := [A, B, C, E, F, .va (.str (mk L)), .va .none]) (by simp only [fOwn, fOpN,  fSeq, fNext, sRet, sRetN, sIf, sSet, sSetO, sAsg, sApp, sFor, forF, fVar, fOpd, fCon, f2, f1, fNil, fCons, bR, bL, bA, bLL, oR, fT, gAnd, gOr, gNot, gYes, fAnd, fOr, fNot, fIte, fTup, fLst, fCall, fCallO, fB, fM1, fSl, fiNo, fiSm, fLc, wLst, wTup, wStr, wRg1, wRg2, wZip, wEnum, gfN, gfTup, gsNil, gsCons, fLrg, fLrg3, wipeG, xSeq, xSet, xOf, xCall, xIf, xRet, xNext, xTup, xCons, xNil, xPut, xCallP, sRetX, sSetX, List.getElem?_cons_zero, List.getElem?_cons_succ, List.set_cons_zero, List.set_cons_succ, bA_ok, bL_ok, bLL_ok, hd])]
    rw [fSeq_nx (γ1 := [A, B, C, E, F, .va (.str (mk L)), .va .none]) (by simp only [fOwn, fOpN,  fSeq, fNext, sRet, sRetN, sIf, sSet, sSetO, sAsg, sApp, sFor, forF, fVar, fOpd, fCon, f2, f1, fNil, fCons, bR, bL, bA, bLL, oR, fT, gAnd, gOr, gNot, gYes, fAnd, fOr, fNot, fIte, fTup, fLst, fCall, fCallO, fB, fM1, fSl, fiNo, fiSm, fLc, wLst, wTup, wStr, wRg1, wRg2, wZip, wEnum, gfN, gfTup, gsNil, gsCons, fLrg, fLrg3, wipeG, xSeq, xSet, xOf, xCall, xIf, xRet, xNext, xTup, xCons, xNil, xPut, xCallP, sRetX, sSetX, List.getElem?_cons_zero, List.getElem?_cons_succ, List.set_cons_zero, List.set_cons_succ, bR_ok, bA_ok, bL_ok, bLL_ok, oR_some, o1, rf, Bool.not_true])]
    simp only [fOwn, fOpN,  fSeq, fNext, sRet, sRetN, sIf, sSet, sSetO, sAsg, sApp, sFor, forF, fVar, fOpd, fCon, f2, f1, fNil, fCons, bR, bL, bA, bLL, oR, fT, gAnd, gOr, gNot, gYes, fAnd, fOr, fNot, fIte, fTup, fLst, fCall, fCallO, fB, fM1, fSl, fiNo, fiSm, fLc, wLst, wTup, wStr, wRg1, wRg2, wZip, wEnum, gfN, gfTup, gsNil, gsCons, fLrg, fLrg3, wipeG, xSeq, xSet, xOf, xCall, xIf, xRet, xNext, xTup, xCons, xNil, xPut, xCallP, sRetX, sSetX, List.getElem?_cons_zero, List.getElem?_cons_succ, List.set_cons_zero, List.set_cons_succ, bR_ok, oR_some, o2]
def nots : List D := [.none, .int 5, .list [.str "yes"], .tuple [.str "yes"], .bool true]
theorem nots_no : ∀ d ∈ nots, oIsi "str" d = some (.bool false) := by
  intro d hd
  simp only [nots, List.mem_cons, List.not_mem_nil, or_false] at hd
  rcases hd with rfl | rfl | rfl | rfl | rfl <;> simp [oIsi, isT, tyN]
theorem law_true (ns : List Int) (hl : ns.length ≤ 63) : T_law [.list (ns.map .int)] = some (.ok (.bool true)) := by
  obtain ⟨x, y, z, hx, hy, hz, ⟨nx_, ny_, nz_⟩, _, en⟩ := run_names6 59 (cellT ns 0)
  have ne0 : ∀ {m : Str}, 1 ≤ m.length → m ≠ "" := fun {m} h e => by subst e; exact absurd h (by decide)
  have lx : Lm x := ⟨hx, ne0 nx_⟩
  have ly : Lm y := ⟨hy, ne0 ny_⟩
  have lz : Lm z := ⟨hz, ne0 nz_⟩
  have hp : ∀ w ∈ [x, y, z], Lm w := by
    intro w hw
    simp only [List.mem_cons, List.not_mem_nil, or_false] at hw
    rcases hw with rfl | rfl | rfl
    · exact lx
    · exact ly
    · exact lz
  obtain ⟨S, fS, _, _, eb⟩ := run_built (ns := ns) hp (fun m h => h.low.ok) (most := 99) (by decide) (n := 59) (by decide)
  have v : Val 6 S := ⟨fS.mks, fS.ks, fS.dep⟩
  have c0 : Phi 60 .l_cell_at [nsD ns, .int 0] = some (.ok (.int (cellT ns 0))) := run_cell 59 ns 0
  have c1 : Phi 60 .l_cell_at [nsD ns, .int 1] = some (.ok (.int (cellT ns 1))) := run_cell 59 ns 1
  have wr := run_written S v.mks v.ks v.dep 60 (by have := v.dep; omega)
  have lt := run_ltext S v.mks v.ks v.dep 60 (by have := v.dep; omega)
  have hT := textL_tx v.mks v.ks
  have hL := v.len (Nat.le_refl 6)
  obtain ⟨d, hd, ed⟩ := at_memG (l := nots) (k := 5) rfl (by decide) (cellT ns 1 / 8)
  have rn : Phi 60 .l_refused [d] = some (.ok (.bool true)) := ref_yes (read_not (nots_no d hd) 58)
  obtain ⟨t, eb2, tT, tL⟩ := run_bent hT hL lx (cellT ns 1 / 40 + cellT ns 0) 58
  have en : Phi 60 .l_names [.int (cellT ns 0)] = some (.ok (.list [.str x, .str y, .str z])) := en
  have eb : Phi 60 .l_built [nsD ns, .list [.str x, .str y, .str z], .int 99] = some (.ok (enc S)) := eb
  have eb2 : Phi 60 .l_bent [.str (mk (textL S)), .int (cellT ns 1 / 40 + cellT ns 0), .str x] = some (.ok (.str (mk t))) := eb2
  have b5 : (5 : Nat) ≤ big := by decide
  have b1 : (1 : Nat) ≤ big := by decide
  have b2 : (2 : Nat) ≤ big := by decide
  have d8 : oDiv (.int (cellT ns 1)) (.int 8) = some (.int (cellT ns 1 / 8)) := oDiv_int _ _ (by decide) (by decide)
  have d40 : oDiv (.int (cellT ns 1)) (.int 40) = some (.int (cellT ns 1 / 40)) := oDiv_int _ _ (by decide) (by decide)
  have m5 : oMod (.int (cellT ns 1 / 8)) (.int 5) = some (.int (cellT ns 1 / 8 % 5)) := oMod_int _ _ (by decide)
  have hM : (textL S).length ≤ MX := by unfold MX; omega
  obtain ⟨x1, e1⟩ := law_turn hT hM (n := 58) (by decide) (.va (nsD ns)) (.va (.list [.str x, .str y, .str z])) (.va (enc S)) (.va (.str (mk (textL S)))) (.va (.str (mk t))) .no
  obtain ⟨x2, e2⟩ := law_turn tT tL (n := 58) (by decide) (.va (nsD ns)) (.va (.list [.str x, .str y, .str z])) (.va (enc S)) (.va (.str (mk (textL S)))) (.va (.str (mk t))) x1
  unfold T_law
  refine runF_rt rfl ?_
  show f_law (Phi 60) [.va (nsD ns), .no, .no, .no, .no, .no, .no] = _
  unfold f_law
  rw [fSeq_nx (γ1 := [.va (nsD ns), .va (.list [.str x, .str y, .str z]), .no, .no, .no, .no, .no]) (by simp only [fOwn, fOpN,  fSeq, fNext, sRet, sRetN, sIf, sSet, sSetO, sAsg, sApp, sFor, forF, fVar, fOpd, fCon, f2, f1, fNil, fCons, bR, bL, bA, bLL, oR, fT, gAnd, gOr, gNot, gYes, fAnd, fOr, fNot, fIte, fTup, fLst, fCall, fCallO, fB, fM1, fSl, fiNo, fiSm, fLc, wLst, wTup, wStr, wRg1, wRg2, wZip, wEnum, gfN, gfTup, gsNil, gsCons, fLrg, fLrg3, wipeG, xSeq, xSet, xOf, xCall, xIf, xRet, xNext, xTup, xCons, xNil, xPut, xCallP, sRetX, sSetX, List.getElem?_cons_zero, List.getElem?_cons_succ, List.set_cons_zero, List.set_cons_succ, bA_ok, bL_ok, bLL_ok, c0, en])]
  rw [fSeq_nx (γ1 := [.va (nsD ns), .va (.list [.str x, .str y, .str z]), .va (enc S), .no, .no, .no, .no]) (by simp only [fOwn, fOpN,  fSeq, fNext, sRet, sRetN, sIf, sSet, sSetO, sAsg, sApp, sFor, forF, fVar, fOpd, fCon, f2, f1, fNil, fCons, bR, bL, bA, bLL, oR, fT, gAnd, gOr, gNot, gYes, fAnd, fOr, fNot, fIte, fTup, fLst, fCall, fCallO, fB, fM1, fSl, fiNo, fiSm, fLc, wLst, wTup, wStr, wRg1, wRg2, wZip, wEnum, gfN, gfTup, gsNil, gsCons, fLrg, fLrg3, wipeG, xSeq, xSet, xOf, xCall, xIf, xRet, xNext, xTup, xCons, xNil, xPut, xCallP, sRetX, sSetX, List.getElem?_cons_zero, List.getElem?_cons_succ, List.set_cons_zero, List.set_cons_succ, bA_ok, bL_ok, bLL_ok, eb])]
  rw [fSeq_nx (γ1 := [.va (nsD ns), .va (.list [.str x, .str y, .str z]), .va (enc S), .va (.str (mk (textL S))), .no, .no, .no]) (by simp only [fOwn, fOpN,  fSeq, fNext, sRet, sRetN, sIf, sSet, sSetO, sAsg, sApp, sFor, forF, fVar, fOpd, fCon, f2, f1, fNil, fCons, bR, bL, bA, bLL, oR, fT, gAnd, gOr, gNot, gYes, fAnd, fOr, fNot, fIte, fTup, fLst, fCall, fCallO, fB, fM1, fSl, fiNo, fiSm, fLc, wLst, wTup, wStr, wRg1, wRg2, wZip, wEnum, gfN, gfTup, gsNil, gsCons, fLrg, fLrg3, wipeG, xSeq, xSet, xOf, xCall, xIf, xRet, xNext, xTup, xCons, xNil, xPut, xCallP, sRetX, sSetX, List.getElem?_cons_zero, List.getElem?_cons_succ, List.set_cons_zero, List.set_cons_succ, bA_ok, bL_ok, bLL_ok, wr])]
  rw [fSeq_nx (γ1 := [.va (nsD ns), .va (.list [.str x, .str y, .str z]), .va (enc S), .va (.str (mk (textL S))), .no, .no, .no]) (by
    simp only [fOwn, fOpN,  fSeq, fNext, sRet, sRetN, sIf, sSet, sSetO, sAsg, sApp, sFor, forF, fVar, fOpd, fCon, f2, f1, fNil, fCons, bR, bL, bA, bLL, oR, fT, gAnd, gOr, gNot, gYes, fAnd, fOr, fNot, fIte, fTup, fLst, fCall, fCallO, fB, fM1, fSl, fiNo, fiSm, fLc, wLst, wTup, wStr, wRg1, wRg2, wZip, wEnum, gfN, gfTup, gsNil, gsCons, fLrg, fLrg3, wipeG, xSeq, xSet, xOf, xCall, xIf, xRet, xNext, xTup, xCons, xNil, xPut, xCallP, sRetX, sSetX, List.getElem?_cons_zero, List.getElem?_cons_succ, List.set_cons_zero, List.set_cons_succ, bR_ok, bA_ok, bL_ok, bLL_ok, oR_some, tpS, lt, oNe_str, beq_self_eq_true, Bool.not_true])]
  rw [fSeq_nx (γ1 := [.va (nsD ns), .va (.list [.str x, .str y, .str z]), .va (enc S), .va (.str (mk (textL S))), .no, .no, .no]) (by
    unfold nots at ed
    simp only [fOwn, fOpN,  fSeq, fNext, sRet, sRetN, sIf, sSet, sSetO, sAsg, sApp, sFor, forF, fVar, fOpd, fCon, f2, f1, fNil, fCons, bR, bL, bA, bLL, oR, fT, gAnd, gOr, gNot, gYes, fAnd, fOr, fNot, fIte, fTup, fLst, fCall, fCallO, fB, fM1, fSl, fiNo, fiSm, fLc, wLst, wTup, wStr, wRg1, wRg2, wZip, wEnum, gfN, gfTup, gsNil, gsCons, fLrg, fLrg3, wipeG, xSeq, xSet, xOf, xCall, xIf, xRet, xNext, xTup, xCons, xNil, xPut, xCallP, sRetX, sSetX, List.getElem?_cons_zero, List.getElem?_cons_succ, List.set_cons_zero, List.set_cons_succ, bR_ok, bA_ok, bL_ok, bLL_ok, oR_some, c1, d8, m5, b1, b5, List.length_cons, List.length_nil, Nat.zero_add, Nat.reduceAdd, if_true, oIx_lst, ed, rn, Bool.not_true])]
  rw [fSeq_nx (γ1 := [.va (nsD ns), .va (.list [.str x, .str y, .str z]), .va (enc S), .va (.str (mk (textL S))), .va (.str (mk t)), .no, .no]) (by
    have a0 : atI ([.str x, .str y, .str z] : List D) 0 = some (.str x) := rfl
    simp only [fOwn, fOpN,  fSeq, fNext, sRet, sRetN, sIf, sSet, sSetO, sAsg, sApp, sFor, forF, fVar, fOpd, fCon, f2, f1, fNil, fCons, bR, bL, bA, bLL, oR, fT, gAnd, gOr, gNot, gYes, fAnd, fOr, fNot, fIte, fTup, fLst, fCall, fCallO, fB, fM1, fSl, fiNo, fiSm, fLc, wLst, wTup, wStr, wRg1, wRg2, wZip, wEnum, gfN, gfTup, gsNil, gsCons, fLrg, fLrg3, wipeG, xSeq, xSet, xOf, xCall, xIf, xRet, xNext, xTup, xCons, xNil, xPut, xCallP, sRetX, sSetX, List.getElem?_cons_zero, List.getElem?_cons_succ, List.set_cons_zero, List.set_cons_succ, bR_ok, bA_ok, bL_ok, bLL_ok, oR_some, c0, c1, d40, oAdd_int, oIx_lst, a0, eb2])]
  have wk : wLst (fLst (fCons (fVar 3) (fCons (fVar 4) fNil))) [.va (nsD ns), .va (.list [.str x, .str y, .str z]), .va (enc S), .va (.str (mk (textL S))), .va (.str (mk t)), .no, .no] = some (.ok [.str (mk (textL S)), .str (mk t)]) := by
    simp only [fOwn, fOpN,  fSeq, fNext, sRet, sRetN, sIf, sSet, sSetO, sAsg, sApp, sFor, forF, fVar, fOpd, fCon, f2, f1, fNil, fCons, bR, bL, bA, bLL, oR, fT, gAnd, gOr, gNot, gYes, fAnd, fOr, fNot, fIte, fTup, fLst, fCall, fCallO, fB, fM1, fSl, fiNo, fiSm, fLc, wLst, wTup, wStr, wRg1, wRg2, wZip, wEnum, gfN, gfTup, gsNil, gsCons, fLrg, fLrg3, wipeG, xSeq, xSet, xOf, xCall, xIf, xRet, xNext, xTup, xCons, xNil, xPut, xCallP, sRetX, sSetX, List.getElem?_cons_zero, List.getElem?_cons_succ, List.set_cons_zero, List.set_cons_succ, bR_ok, bA_ok, bL_ok, bLL_ok, oR_some, b2, List.length_cons, List.length_nil, Nat.zero_add, Nat.reduceAdd, if_true]
  rw [fSeq_nx (γ1 := [.va (nsD ns), .va (.list [.str x, .str y, .str z]), .va (enc S), .va (.str (mk (textL S))), .va (.str (mk t)), .va (.str (mk t)), x2]) (by
    unfold sFor
    rw [wk]
    simp only
    rw [forF_nx (γ1 := [.va (nsD ns), .va (.list [.str x, .str y, .str z]), .va (enc S), .va (.str (mk (textL S))), .va (.str (mk t)), .va (.str (mk (textL S))), .no]) rfl e1]
    rw [forF_nx (γ1 := [.va (nsD ns), .va (.list [.str x, .str y, .str z]), .va (enc S), .va (.str (mk (textL S))), .va (.str (mk t)), .va (.str (mk t)), x1]) rfl e2]
    rfl)]
  simp only [fOwn, fOpN,  fSeq, fNext, sRet, sRetN, sIf, sSet, sSetO, sAsg, sApp, sFor, forF, fVar, fOpd, fCon, f2, f1, fNil, fCons, bR, bL, bA, bLL, oR, fT, gAnd, gOr, gNot, gYes, fAnd, fOr, fNot, fIte, fTup, fLst, fCall, fCallO, fB, fM1, fSl, fiNo, fiSm, fLc, wLst, wTup, wStr, wRg1, wRg2, wZip, wEnum, gfN, gfTup, gsNil, gsCons, fLrg, fLrg3, wipeG, xSeq, xSet, xOf, xCall, xIf, xRet, xNext, xTup, xCons, xNil, xPut, xCallP, sRetX, sSetX, List.getElem?_cons_zero, List.getElem?_cons_succ, List.set_cons_zero, List.set_cons_succ]
end K02

namespace K02
open PySem PySem.Spec PyProof.Rows L2 Py
section
variable {P : Program} {w : World} {K : PySem.W.Frag} {mg : Str → Option Value} {base : Heap} {M : Pm} {Cc Tc fI fT fw Cs : Addr} {fdI fdT fdw : FuncData} {fa : Nm → Addr} {fdd : Nm → FuncData} {dE : Str → Addr} {jw : Nat} {rD rc0 rc1 rc2 rc3 rc4 : Addr}
theorem okX_all (D : DD K mg fa fdd) (Z : ZZ mg) (G : GG mg) (EE_ : EE K mg M dE) (RW : Rfw K mg M Cs rD rc0 rc1 rc2 rc3 rc4) : ∀ (n : Nat) (i : Nx), FnOk P w K mg base (L2.CX P w) n (fa i.n) (fdd i.n) (psN i.n) (spS K M (Psi n i))
  | 0, _ => fnX_zero
  | n + 1, i => by
    have OX := okX_all D Z G EE_ RW n
    cases i with
    | l_draw => exact fnX_ok (D.d .l_draw).F sc_l_draw fun cdv A outer s H E C tk => d_l_draw D Z G EE_ RW OX (Nat.le_refl n) cdv A outer s H E C tk
    | l_made => exact fnX_ok (D.d .l_made).F sc_l_made fun cdv A outer s H E C tk => d_l_made D Z G EE_ RW OX (Nat.le_refl n) cdv A outer s H E C tk
theorem ok_all (D : DD K mg fa fdd) (Z : ZZ mg) (G : GG mg) (EE_ : EE K mg M dE) (RW : Rfw K mg M Cs rD rc0 rc1 rc2 rc3 rc4) : ∀ (n : Nat) (i : Nm), FnOk P w K mg base (L2.CX P w) n (fa i) (fdd i) (psN i) (spF K M (Phi n i))
  | 0, _ => fn_zero
  | n + 1, i => by
    have OK := ok_all D Z G EE_ RW n
    cases i with
    | is_mark => exact fn_ok (D.d .is_mark).F sc_is_mark fun cdv A outer s H E C tk => d_is_mark D Z G EE_ RW OK (Nat.le_refl n) cdv A outer s H E C tk
    | is_number => exact fn_ok (D.d .is_number).F sc_is_number fun cdv A outer s H E C tk => d_is_number D Z G EE_ RW OK (Nat.le_refl n) cdv A outer s H E C tk
    | is_formed => exact fn_ok (D.d .is_formed).F sc_is_formed fun cdv A outer s H E C tk => d_is_formed D Z G EE_ RW OK (Nat.le_refl n) cdv A outer s H E C tk
    | is_statement => exact fn_ok (D.d .is_statement).F sc_is_statement fun cdv A outer s H E C tk => d_is_statement D Z G EE_ RW OK (Nat.le_refl n) cdv A outer s H E C tk
    | written => exact fn_ok (D.d .written).F sc_written fun cdv A outer s H E C tk => d_written D Z G EE_ RW OK (Nat.le_refl n) cdv A outer s H E C tk
    | piece_at => exact fn_ok (D.d .piece_at).F sc_piece_at fun cdv A outer s H E C tk => d_piece_at D Z G EE_ RW OK (Nat.le_refl n) cdv A outer s H E C tk
    | pieces_of => exact fn_ok (D.d .pieces_of).F sc_pieces_of fun cdv A outer s H E C tk => d_pieces_of D Z G EE_ RW OK (Nat.le_refl n) cdv A outer s H E C tk
    | part_of => exact fn_ok (D.d .part_of).F sc_part_of fun cdv A outer s H E C tk => d_part_of D Z G EE_ RW OK (Nat.le_refl n) cdv A outer s H E C tk
    | read_at => exact fn_ok (D.d .read_at).F sc_read_at fun cdv A outer s H E C tk => d_read_at D Z G EE_ RW OK (Nat.le_refl n) cdv A outer s H E C tk
    | read => exact fn_ok (D.d .read).F sc_read fun cdv A outer s H E C tk => d_read D Z G EE_ RW OK (Nat.le_refl n) cdv A outer s H E C tk
    | l_cell_at => exact fn_ok (D.d .l_cell_at).F sc_l_cell_at fun cdv A outer s H E C tk => d_l_cell_at D Z G EE_ RW OK (Nat.le_refl n) cdv A outer s H E C tk
    | l_names => exact fn_ok (D.d .l_names).F sc_l_names fun cdv A outer s H E C tk => d_l_names D Z G EE_ RW OK (Nat.le_refl n) cdv A outer s H E C tk
    | l_all => exact fn_ok (D.d .l_all).F sc_l_all fun cdv A outer s H E C tk => d_l_all D Z G EE_ RW OK (Nat.le_refl n) cdv A outer s H E C tk
    | l_wishes => exact fn_ok (D.d .l_wishes).F sc_l_wishes fun cdv A outer s H E C tk => d_l_wishes D Z G EE_ RW OK (Nat.le_refl n) cdv A outer s H E C tk
    | l_fit => exact fn_ok (D.d .l_fit).F sc_l_fit fun cdv A outer s H E C tk => d_l_fit D Z G EE_ RW OK (Nat.le_refl n) cdv A outer s H E C tk
    | l_built => exact fn_ok (D.d .l_built).F sc_l_built fun cdv A outer s H E C tk => d_l_built D Z G EE_ RW OK (okX_all D Z G EE_ RW n) (Nat.le_refl n) cdv A outer s H E C tk
    | l_text => exact fn_ok (D.d .l_text).F sc_l_text fun cdv A outer s H E C tk => d_l_text D Z G EE_ RW OK (Nat.le_refl n) cdv A outer s H E C tk
    | l_part_text => exact fn_ok (D.d .l_part_text).F sc_l_part_text fun cdv A outer s H E C tk => d_l_part_text D Z G EE_ RW OK (Nat.le_refl n) cdv A outer s H E C tk
    | l_mark_at => exact fn_ok (D.d .l_mark_at).F sc_l_mark_at fun cdv A outer s H E C tk => d_l_mark_at D Z G EE_ RW OK (Nat.le_refl n) cdv A outer s H E C tk
    | l_at => exact fn_ok (D.d .l_at).F sc_l_at fun cdv A outer s H E C tk => d_l_at D Z G EE_ RW OK (Nat.le_refl n) cdv A outer s H E C tk
    | l_parts_at => exact fn_ok (D.d .l_parts_at).F sc_l_parts_at fun cdv A outer s H E C tk => d_l_parts_at D Z G EE_ RW OK (Nat.le_refl n) cdv A outer s H E C tk
    | l_due => exact fn_ok (D.d .l_due).F sc_l_due fun cdv A outer s H E C tk => d_l_due D Z G EE_ RW OK (Nat.le_refl n) cdv A outer s H E C tk
    | l_odd => exact fn_ok (D.d .l_odd).F sc_l_odd fun cdv A outer s H E C tk => d_l_odd D Z G EE_ RW OK (Nat.le_refl n) cdv A outer s H E C tk
    | l_bent => exact fn_ok (D.d .l_bent).F sc_l_bent fun cdv A outer s H E C tk => d_l_bent D Z G EE_ RW OK (Nat.le_refl n) cdv A outer s H E C tk
    | l_same => exact fn_ok (D.d .l_same).F sc_l_same fun cdv A outer s H E C tk => d_l_same D Z G EE_ RW OK (Nat.le_refl n) cdv A outer s H E C tk
    | l_refused => exact fn_ok (D.d .l_refused).F sc_l_refused fun cdv A outer s H E C tk => d_l_refused D Z G EE_ RW OK (Nat.le_refl n) cdv A outer s H E C tk
    | l_draw => exact fn_none
    | l_made => exact fn_none
    | law => exact fn_none
theorem okt_law (D : DD K mg fa fdd) (Z : ZZ mg) (G : GG mg) (EE_ : EE K mg M dE) (RW : Rfw K mg M Cs rD rc0 rc1 rc2 rc3 rc4) : FnOk P w K mg base (L2.CX P w) 61 (fa .law) (fdd .law) (psN .law) (spF K M T_law) :=
  fn_ok (D.d .law).F sc_law fun cdv A outer s H E C tk => d_law D Z G EE_ RW (ok_all D Z G EE_ RW 60) (Nat.le_refl _) cdv A outer s H E C tk
end
theorem all_mk {l : PySem.W.OpenLaw} {w : World} {K : PySem.W.Frag} {h : Heap} {mg : Str → Option Value} {fl : Addr} (X : K.In h) (G : h.Ns mainGlobals mg) (hfa : mg "law" = some (.ref fl)) {f1 f2 f3 f4 f5 f6 f7 f8 f9 f10 f11 f12 f13 f14 f15 f16 f17 f18 f19 f20 f21 f22 f23 f24 f25 f26 f27 f28 f29 : Addr}
    {od1 an1 od2 an2 od3 an3 od4 an4 od5 an5 od6 an6 od7 an7 od8 an8 od9 an9 od10 an10 od11 an11 od12 an12 od13 an13 od14 an14 od15 an15 od16 an16 od17 an17 od18 an18 od19 an19 od20 an20 od21 an21 od22 an22 od23 an23 od24 an24 od25 an25 od26 an26 od27 an27 od28 an28 od29 an29 : Option Addr} {sl1 sl2 sl3 sl4 sl5 sl6 sl7 sl8 sl9 sl10 sl11 sl12 sl13 sl14 sl15 sl16 sl17 sl18 sl19 sl20 sl21 sl22 sl23 sl24 sl25 sl26 sl27 sl28 sl29 : Array (Option Value)} {oc1 kV1 dc1 pm1 cd1 ct1 oc2 kV2 dc2 pm2 cd2 ct2 oc3 kV3 dc3 pm3 cd3 ct3 oc4 kV4 dc4 pm4 cd4 ct4 oc5 kV5 dc5 pm5 cd5 ct5 oc6 kV6 dc6 pm6 cd6 ct6 oc7 kV7 dc7 pm7 cd7 ct7 oc8 kV8 dc8 pm8 cd8 ct8 oc9 kV9 dc9 pm9 cd9 ct9 oc10 kV10 dc10 pm10 cd10 ct10 oc11 kV11 dc11 pm11 cd11 ct11 oc12 kV12 dc12 pm12 cd12 ct12 oc13 kV13 dc13 pm13 cd13 ct13 oc14 kV14 dc14 pm14 cd14 ct14 oc15 kV15 dc15 pm15 cd15 ct15 oc16 kV16 dc16 pm16 cd16 ct16 oc17 kV17 dc17 pm17 cd17 ct17 oc18 kV18 dc18 pm18 cd18 ct18 oc19 kV19 dc19 pm19 cd19 ct19 oc20 kV20 dc20 pm20 cd20 ct20 oc21 kV21 dc21 pm21 cd21 ct21 oc22 kV22 dc22 pm22 cd22 ct22 oc23 kV23 dc23 pm23 cd23 ct23 oc24 kV24 dc24 pm24 cd24 ct24 oc25 kV25 dc25 pm25 cd25 ct25 oc26 kV26 dc26 pm26 cd26 ct26 oc27 kV27 dc27 pm27 cd27 ct27 oc28 kV28 dc28 pm28 cd28 ct28 oc29 kV29 dc29 pm29 cd29 ct29 : Value}
    {tk0 tk1 tk2 tk3 : Tok}
    {Cs e0 e1 e2 e3 e4 e5 : Addr}
    (a1 : PySem.W.nsIn K mainGlobals "is_mark" = some (some (.ref f1)))
    (l1 : K.lookup f1 = some ⟨oc1, od1, .func (PySem.W.fnOf "is_mark" "is_mark" (defArgs s_is_mark) (defBody s_is_mark) (defScope s_is_mark) .none kV1 dc1 pm1 an1 cd1 ct1), sl1⟩)
    (c1 : PySem.W.codeIn K cd1 "is_mark" = true)
    (k1 : PySem.W.keepIn K (.ref f1) = true)
    (a2 : PySem.W.nsIn K mainGlobals "is_number" = some (some (.ref f2)))
    (l2 : K.lookup f2 = some ⟨oc2, od2, .func (PySem.W.fnOf "is_number" "is_number" (defArgs s_is_number) (defBody s_is_number) (defScope s_is_number) .none kV2 dc2 pm2 an2 cd2 ct2), sl2⟩)
    (c2 : PySem.W.codeIn K cd2 "is_number" = true)
    (k2 : PySem.W.keepIn K (.ref f2) = true)
    (a3 : PySem.W.nsIn K mainGlobals "is_formed" = some (some (.ref f3)))
    (l3 : K.lookup f3 = some ⟨oc3, od3, .func (PySem.W.fnOf "is_formed" "is_formed" (defArgs s_is_formed) (defBody s_is_formed) (defScope s_is_formed) .none kV3 dc3 pm3 an3 cd3 ct3), sl3⟩)
    (c3 : PySem.W.codeIn K cd3 "is_formed" = true)
    (k3 : PySem.W.keepIn K (.ref f3) = true)
    (a4 : PySem.W.nsIn K mainGlobals "is_statement" = some (some (.ref f4)))
    (l4 : K.lookup f4 = some ⟨oc4, od4, .func (PySem.W.fnOf "is_statement" "is_statement" (defArgs s_is_statement) (defBody s_is_statement) (defScope s_is_statement) .none kV4 dc4 pm4 an4 cd4 ct4), sl4⟩)
    (c4 : PySem.W.codeIn K cd4 "is_statement" = true)
    (k4 : PySem.W.keepIn K (.ref f4) = true)
    (a5 : PySem.W.nsIn K mainGlobals "written" = some (some (.ref f5)))
    (l5 : K.lookup f5 = some ⟨oc5, od5, .func (PySem.W.fnOf "written" "written" (defArgs s_written) (defBody s_written) (defScope s_written) .none kV5 dc5 pm5 an5 cd5 ct5), sl5⟩)
    (c5 : PySem.W.codeIn K cd5 "written" = true)
    (k5 : PySem.W.keepIn K (.ref f5) = true)
    (a6 : PySem.W.nsIn K mainGlobals "piece_at" = some (some (.ref f6)))
    (l6 : K.lookup f6 = some ⟨oc6, od6, .func (PySem.W.fnOf "piece_at" "piece_at" (defArgs s_piece_at) (defBody s_piece_at) (defScope s_piece_at) .none kV6 dc6 pm6 an6 cd6 ct6), sl6⟩)
    (c6 : PySem.W.codeIn K cd6 "piece_at" = true)
    (k6 : PySem.W.keepIn K (.ref f6) = true)
    (a7 : PySem.W.nsIn K mainGlobals "pieces_of" = some (some (.ref f7)))
    (l7 : K.lookup f7 = some ⟨oc7, od7, .func (PySem.W.fnOf "pieces_of" "pieces_of" (defArgs s_pieces_of) (defBody s_pieces_of) (defScope s_pieces_of) .none kV7 dc7 pm7 an7 cd7 ct7), sl7⟩)
    (c7 : PySem.W.codeIn K cd7 "pieces_of" = true)
    (k7 : PySem.W.keepIn K (.ref f7) = true)
    (a8 : PySem.W.nsIn K mainGlobals "part_of" = some (some (.ref f8)))
    (l8 : K.lookup f8 = some ⟨oc8, od8, .func (PySem.W.fnOf "part_of" "part_of" (defArgs s_part_of) (defBody s_part_of) (defScope s_part_of) .none kV8 dc8 pm8 an8 cd8 ct8), sl8⟩)
    (c8 : PySem.W.codeIn K cd8 "part_of" = true)
    (k8 : PySem.W.keepIn K (.ref f8) = true)
    (a9 : PySem.W.nsIn K mainGlobals "read_at" = some (some (.ref f9)))
    (l9 : K.lookup f9 = some ⟨oc9, od9, .func (PySem.W.fnOf "read_at" "read_at" (defArgs s_read_at) (defBody s_read_at) (defScope s_read_at) .none kV9 dc9 pm9 an9 cd9 ct9), sl9⟩)
    (c9 : PySem.W.codeIn K cd9 "read_at" = true)
    (k9 : PySem.W.keepIn K (.ref f9) = true)
    (a10 : PySem.W.nsIn K mainGlobals "read" = some (some (.ref f10)))
    (l10 : K.lookup f10 = some ⟨oc10, od10, .func (PySem.W.fnOf "read" "read" (defArgs s_read) (defBody s_read) (defScope s_read) .none kV10 dc10 pm10 an10 cd10 ct10), sl10⟩)
    (c10 : PySem.W.codeIn K cd10 "read" = true)
    (k10 : PySem.W.keepIn K (.ref f10) = true)
    (a11 : PySem.W.nsIn K mainGlobals "_law_cell_at" = some (some (.ref f11)))
    (l11 : K.lookup f11 = some ⟨oc11, od11, .func (PySem.W.fnOf "_law_cell_at" "_law_cell_at" (defArgs s_l_cell_at) (defBody s_l_cell_at) (defScope s_l_cell_at) .none kV11 dc11 pm11 an11 cd11 ct11), sl11⟩)
    (c11 : PySem.W.codeIn K cd11 "_law_cell_at" = true)
    (k11 : PySem.W.keepIn K (.ref f11) = true)
    (a12 : PySem.W.nsIn K mainGlobals "_law_names" = some (some (.ref f12)))
    (l12 : K.lookup f12 = some ⟨oc12, od12, .func (PySem.W.fnOf "_law_names" "_law_names" (defArgs s_l_names) (defBody s_l_names) (defScope s_l_names) .none kV12 dc12 pm12 an12 cd12 ct12), sl12⟩)
    (c12 : PySem.W.codeIn K cd12 "_law_names" = true)
    (k12 : PySem.W.keepIn K (.ref f12) = true)
    (a13 : PySem.W.nsIn K mainGlobals "_law_all" = some (some (.ref f13)))
    (l13 : K.lookup f13 = some ⟨oc13, od13, .func (PySem.W.fnOf "_law_all" "_law_all" (defArgs s_l_all) (defBody s_l_all) (defScope s_l_all) .none kV13 dc13 pm13 an13 cd13 ct13), sl13⟩)
    (c13 : PySem.W.codeIn K cd13 "_law_all" = true)
    (k13 : PySem.W.keepIn K (.ref f13) = true)
    (a14 : PySem.W.nsIn K mainGlobals "_law_wishes" = some (some (.ref f14)))
    (l14 : K.lookup f14 = some ⟨oc14, od14, .func (PySem.W.fnOf "_law_wishes" "_law_wishes" (defArgs s_l_wishes) (defBody s_l_wishes) (defScope s_l_wishes) .none kV14 dc14 pm14 an14 cd14 ct14), sl14⟩)
    (c14 : PySem.W.codeIn K cd14 "_law_wishes" = true)
    (k14 : PySem.W.keepIn K (.ref f14) = true)
    (a15 : PySem.W.nsIn K mainGlobals "_law_fit" = some (some (.ref f15)))
    (l15 : K.lookup f15 = some ⟨oc15, od15, .func (PySem.W.fnOf "_law_fit" "_law_fit" (defArgs s_l_fit) (defBody s_l_fit) (defScope s_l_fit) .none kV15 dc15 pm15 an15 cd15 ct15), sl15⟩)
    (c15 : PySem.W.codeIn K cd15 "_law_fit" = true)
    (k15 : PySem.W.keepIn K (.ref f15) = true)
    (a16 : PySem.W.nsIn K mainGlobals "_law_built" = some (some (.ref f16)))
    (l16 : K.lookup f16 = some ⟨oc16, od16, .func (PySem.W.fnOf "_law_built" "_law_built" (defArgs s_l_built) (defBody s_l_built) (defScope s_l_built) .none kV16 dc16 pm16 an16 cd16 ct16), sl16⟩)
    (c16 : PySem.W.codeIn K cd16 "_law_built" = true)
    (k16 : PySem.W.keepIn K (.ref f16) = true)
    (a17 : PySem.W.nsIn K mainGlobals "_law_text" = some (some (.ref f17)))
    (l17 : K.lookup f17 = some ⟨oc17, od17, .func (PySem.W.fnOf "_law_text" "_law_text" (defArgs s_l_text) (defBody s_l_text) (defScope s_l_text) .none kV17 dc17 pm17 an17 cd17 ct17), sl17⟩)
    (c17 : PySem.W.codeIn K cd17 "_law_text" = true)
    (k17 : PySem.W.keepIn K (.ref f17) = true)
    (a18 : PySem.W.nsIn K mainGlobals "_law_part_text" = some (some (.ref f18)))
    (l18 : K.lookup f18 = some ⟨oc18, od18, .func (PySem.W.fnOf "_law_part_text" "_law_part_text" (defArgs s_l_part_text) (defBody s_l_part_text) (defScope s_l_part_text) .none kV18 dc18 pm18 an18 cd18 ct18), sl18⟩)
    (c18 : PySem.W.codeIn K cd18 "_law_part_text" = true)
    (k18 : PySem.W.keepIn K (.ref f18) = true)
    (a19 : PySem.W.nsIn K mainGlobals "_law_mark_at" = some (some (.ref f19)))
    (l19 : K.lookup f19 = some ⟨oc19, od19, .func (PySem.W.fnOf "_law_mark_at" "_law_mark_at" (defArgs s_l_mark_at) (defBody s_l_mark_at) (defScope s_l_mark_at) .none kV19 dc19 pm19 an19 cd19 ct19), sl19⟩)
    (c19 : PySem.W.codeIn K cd19 "_law_mark_at" = true)
    (k19 : PySem.W.keepIn K (.ref f19) = true)
    (a20 : PySem.W.nsIn K mainGlobals "_law_at" = some (some (.ref f20)))
    (l20 : K.lookup f20 = some ⟨oc20, od20, .func (PySem.W.fnOf "_law_at" "_law_at" (defArgs s_l_at) (defBody s_l_at) (defScope s_l_at) .none kV20 dc20 pm20 an20 cd20 ct20), sl20⟩)
    (c20 : PySem.W.codeIn K cd20 "_law_at" = true)
    (k20 : PySem.W.keepIn K (.ref f20) = true)
    (a21 : PySem.W.nsIn K mainGlobals "_law_parts_at" = some (some (.ref f21)))
    (l21 : K.lookup f21 = some ⟨oc21, od21, .func (PySem.W.fnOf "_law_parts_at" "_law_parts_at" (defArgs s_l_parts_at) (defBody s_l_parts_at) (defScope s_l_parts_at) .none kV21 dc21 pm21 an21 cd21 ct21), sl21⟩)
    (c21 : PySem.W.codeIn K cd21 "_law_parts_at" = true)
    (k21 : PySem.W.keepIn K (.ref f21) = true)
    (a22 : PySem.W.nsIn K mainGlobals "_law_due" = some (some (.ref f22)))
    (l22 : K.lookup f22 = some ⟨oc22, od22, .func (PySem.W.fnOf "_law_due" "_law_due" (defArgs s_l_due) (defBody s_l_due) (defScope s_l_due) .none kV22 dc22 pm22 an22 cd22 ct22), sl22⟩)
    (c22 : PySem.W.codeIn K cd22 "_law_due" = true)
    (k22 : PySem.W.keepIn K (.ref f22) = true)
    (a23 : PySem.W.nsIn K mainGlobals "_law_odd" = some (some (.ref f23)))
    (l23 : K.lookup f23 = some ⟨oc23, od23, .func (PySem.W.fnOf "_law_odd" "_law_odd" (defArgs s_l_odd) (defBody s_l_odd) (defScope s_l_odd) .none kV23 dc23 pm23 an23 cd23 ct23), sl23⟩)
    (c23 : PySem.W.codeIn K cd23 "_law_odd" = true)
    (k23 : PySem.W.keepIn K (.ref f23) = true)
    (a24 : PySem.W.nsIn K mainGlobals "_law_bent" = some (some (.ref f24)))
    (l24 : K.lookup f24 = some ⟨oc24, od24, .func (PySem.W.fnOf "_law_bent" "_law_bent" (defArgs s_l_bent) (defBody s_l_bent) (defScope s_l_bent) .none kV24 dc24 pm24 an24 cd24 ct24), sl24⟩)
    (c24 : PySem.W.codeIn K cd24 "_law_bent" = true)
    (k24 : PySem.W.keepIn K (.ref f24) = true)
    (a25 : PySem.W.nsIn K mainGlobals "_law_same" = some (some (.ref f25)))
    (l25 : K.lookup f25 = some ⟨oc25, od25, .func (PySem.W.fnOf "_law_same" "_law_same" (defArgs s_l_same) (defBody s_l_same) (defScope s_l_same) .none kV25 dc25 pm25 an25 cd25 ct25), sl25⟩)
    (c25 : PySem.W.codeIn K cd25 "_law_same" = true)
    (k25 : PySem.W.keepIn K (.ref f25) = true)
    (a26 : PySem.W.nsIn K mainGlobals "_law_refused" = some (some (.ref f26)))
    (l26 : K.lookup f26 = some ⟨oc26, od26, .func (PySem.W.fnOf "_law_refused" "_law_refused" (defArgs s_l_refused) (defBody s_l_refused) (defScope s_l_refused) .none kV26 dc26 pm26 an26 cd26 ct26), sl26⟩)
    (c26 : PySem.W.codeIn K cd26 "_law_refused" = true)
    (k26 : PySem.W.keepIn K (.ref f26) = true)
    (a27 : PySem.W.nsIn K mainGlobals "_law_draw" = some (some (.ref f27)))
    (l27 : K.lookup f27 = some ⟨oc27, od27, .func (PySem.W.fnOf "_law_draw" "_law_draw" (defArgs s_l_draw) (defBody s_l_draw) (defScope s_l_draw) .none kV27 dc27 pm27 an27 cd27 ct27), sl27⟩)
    (c27 : PySem.W.codeIn K cd27 "_law_draw" = true)
    (k27 : PySem.W.keepIn K (.ref f27) = true)
    (a28 : PySem.W.nsIn K mainGlobals "_law_made" = some (some (.ref f28)))
    (l28 : K.lookup f28 = some ⟨oc28, od28, .func (PySem.W.fnOf "_law_made" "_law_made" (defArgs s_l_made) (defBody s_l_made) (defScope s_l_made) .none kV28 dc28 pm28 an28 cd28 ct28), sl28⟩)
    (c28 : PySem.W.codeIn K cd28 "_law_made" = true)
    (k28 : PySem.W.keepIn K (.ref f28) = true)
    (a29 : PySem.W.nsIn K mainGlobals "law" = some (some (.ref f29)))
    (l29 : K.lookup f29 = some ⟨oc29, od29, .func (PySem.W.fnOf "law" "law" (defArgs s_law) (defBody s_law) (defScope s_law) .none kV29 dc29 pm29 an29 cd29 ct29), sl29⟩)
    (c29 : PySem.W.codeIn K cd29 "law" = true)
    (k29 : PySem.W.keepIn K (.ref f29) = true)
    (gc0 : PySem.W.nsIn K mainGlobals "LETTERS" = some (some (.str "abcdefghijklmnopqrstuvwxyz" tk0)))
    (gc1 : PySem.W.nsIn K mainGlobals "MOST_LETTERS" = some (some (.int 6 tk1)))
    (gc2 : PySem.W.nsIn K mainGlobals "MOST_WITHIN" = some (some (.int 4 tk2)))
    (gc3 : PySem.W.nsIn K mainGlobals "MOST_DEEP" = some (some (.int 6 tk3)))
    (z1 : PySem.W.nsIn K mainGlobals "len" = some none)
    (z2 : PySem.W.nsIn K mainGlobals "isinstance" = some none)
    (z3 : PySem.W.nsIn K mainGlobals "str" = some none)
    (z4 : PySem.W.nsIn K mainGlobals "int" = some none)
    (z5 : PySem.W.nsIn K mainGlobals "bool" = some none)
    (z6 : PySem.W.nsIn K mainGlobals "tuple" = some none)
    (z7 : PySem.W.nsIn K mainGlobals "max" = some none)
    (z8 : PySem.W.nsIn K mainGlobals "range" = some none)
    (z9 : PySem.W.nsIn K mainGlobals "zip" = some none)
    (z10 : PySem.W.nsIn K mainGlobals "all" = some none)
    (z11 : PySem.W.nsIn K mainGlobals "ValueError" = some none)
    (aS : PySem.W.nsIn K mainGlobals "SaidError" = some (some (.ref Cs)))
    (bS : PySem.W.subIn K (.ref Cs) (.type "BaseException") = some true)
    (tS : PySem.W.typeIn K (.ref Cs) = some (.type "type"))
    (dS : PySem.W.hasDictIn K Cs = true)
    (oN : PySem.W.specialIn K (.builtin "object.__class__") "__get__" = some (some (.builtin "getset_descriptor.__get__")))
    (oT : PySem.W.takesIn K (.builtin "object.__class__") = some true)
    (ae0 : PySem.W.nsIn K mainGlobals "BadMark" = some (some (.ref e0)))
    (te0 : PySem.W.typeIn K (.ref e0) = some (.type "type"))
    (de0 : PySem.W.hasDictIn K e0 = true)
    (ae1 : PySem.W.nsIn K mainGlobals "BadStatement" = some (some (.ref e1)))
    (te1 : PySem.W.typeIn K (.ref e1) = some (.type "type"))
    (de1 : PySem.W.hasDictIn K e1 = true)
    (ae2 : PySem.W.nsIn K mainGlobals "Mixed" = some (some (.ref e2)))
    (te2 : PySem.W.typeIn K (.ref e2) = some (.type "type"))
    (de2 : PySem.W.hasDictIn K e2 = true)
    (ae3 : PySem.W.nsIn K mainGlobals "NoMark" = some (some (.ref e3)))
    (te3 : PySem.W.typeIn K (.ref e3) = some (.type "type"))
    (de3 : PySem.W.hasDictIn K e3 = true)
    (ae4 : PySem.W.nsIn K mainGlobals "TooMany" = some (some (.ref e4)))
    (te4 : PySem.W.typeIn K (.ref e4) = some (.type "type"))
    (de4 : PySem.W.hasDictIn K e4 = true)
    (ae5 : PySem.W.nsIn K mainGlobals "BadText" = some (some (.ref e5)))
    (te5 : PySem.W.typeIn K (.ref e5) = some (.type "type"))
    (de5 : PySem.W.hasDictIn K e5 = true)
    (xe5 : PySem.W.excIn K e5 veB "ValueError.__new__" = true)
    (ke5 : PySem.W.keepIn K (.ref e5) = true)
    (be5 : PySem.W.subIn K (.ref e5) (.type "BaseException") = some true)
    (se5 : PySem.W.subIn K (.ref e5) (.ref Cs) = some true)
    (ve5 : PySem.W.subIn K (.ref e5) (.type "ValueError") = some true)
    (ga5 : PySem.W.findIn K (.ref e5) "__getattribute__" = some (some (.builtin "BaseException.__getattribute__")))
    (gg5 : PySem.W.findIn K (.ref e5) "__getattr__" = some none)
    (gk5 : PySem.W.findIn K (.ref e5) "__class__" = some (some (.builtin "object.__class__")))
    (go5 : PySem.W.mroIn K e5 (.type "object") = some true)
    (s5_0 : PySem.W.subIn K (.ref e5) (.ref e0) = some false)
    (s5_1 : PySem.W.subIn K (.ref e5) (.ref e1) = some false)
    (s5_2 : PySem.W.subIn K (.ref e5) (.ref e2) = some false)
    (s5_3 : PySem.W.subIn K (.ref e5) (.ref e3) = some false)
    (s5_4 : PySem.W.subIn K (.ref e5) (.ref e4) = some false)
    (s5_5 : PySem.W.subIn K (.ref e5) (.ref e5) = some true)
    : ∃ fd : FuncData, (∀ (s : Shared) (v : Value), BindsTo s fd ⟨[v], []⟩ [("_law_script", v)]) ∧ ∀ base : Heap, K.In base → base.Ns mainGlobals mg → FnOk l.prog w K mg base (L2.CX l.prog w) 61 fl fd ["_law_script"] (spLw2 K) := by
  have e := hfa.symm.trans (PySem.W.mg_of X G a29)
  cases e
  let fa : Nm → Addr := fun i => match i with
    | .is_mark => f1
    | .is_number => f2
    | .is_formed => f3
    | .is_statement => f4
    | .written => f5
    | .piece_at => f6
    | .pieces_of => f7
    | .part_of => f8
    | .read_at => f9
    | .read => f10
    | .l_cell_at => f11
    | .l_names => f12
    | .l_all => f13
    | .l_wishes => f14
    | .l_fit => f15
    | .l_built => f16
    | .l_text => f17
    | .l_part_text => f18
    | .l_mark_at => f19
    | .l_at => f20
    | .l_parts_at => f21
    | .l_due => f22
    | .l_odd => f23
    | .l_bent => f24
    | .l_same => f25
    | .l_refused => f26
    | .l_draw => f27
    | .l_made => f28
    | .law => fl
  let fdd : Nm → FuncData := fun i => match i with
    | .is_mark => PySem.W.fnOf "is_mark" "is_mark" (defArgs s_is_mark) (defBody s_is_mark) (defScope s_is_mark) .none kV1 dc1 pm1 an1 cd1 ct1
    | .is_number => PySem.W.fnOf "is_number" "is_number" (defArgs s_is_number) (defBody s_is_number) (defScope s_is_number) .none kV2 dc2 pm2 an2 cd2 ct2
    | .is_formed => PySem.W.fnOf "is_formed" "is_formed" (defArgs s_is_formed) (defBody s_is_formed) (defScope s_is_formed) .none kV3 dc3 pm3 an3 cd3 ct3
    | .is_statement => PySem.W.fnOf "is_statement" "is_statement" (defArgs s_is_statement) (defBody s_is_statement) (defScope s_is_statement) .none kV4 dc4 pm4 an4 cd4 ct4
    | .written => PySem.W.fnOf "written" "written" (defArgs s_written) (defBody s_written) (defScope s_written) .none kV5 dc5 pm5 an5 cd5 ct5
    | .piece_at => PySem.W.fnOf "piece_at" "piece_at" (defArgs s_piece_at) (defBody s_piece_at) (defScope s_piece_at) .none kV6 dc6 pm6 an6 cd6 ct6
    | .pieces_of => PySem.W.fnOf "pieces_of" "pieces_of" (defArgs s_pieces_of) (defBody s_pieces_of) (defScope s_pieces_of) .none kV7 dc7 pm7 an7 cd7 ct7
    | .part_of => PySem.W.fnOf "part_of" "part_of" (defArgs s_part_of) (defBody s_part_of) (defScope s_part_of) .none kV8 dc8 pm8 an8 cd8 ct8
    | .read_at => PySem.W.fnOf "read_at" "read_at" (defArgs s_read_at) (defBody s_read_at) (defScope s_read_at) .none kV9 dc9 pm9 an9 cd9 ct9
    | .read => PySem.W.fnOf "read" "read" (defArgs s_read) (defBody s_read) (defScope s_read) .none kV10 dc10 pm10 an10 cd10 ct10
    | .l_cell_at => PySem.W.fnOf "_law_cell_at" "_law_cell_at" (defArgs s_l_cell_at) (defBody s_l_cell_at) (defScope s_l_cell_at) .none kV11 dc11 pm11 an11 cd11 ct11
    | .l_names => PySem.W.fnOf "_law_names" "_law_names" (defArgs s_l_names) (defBody s_l_names) (defScope s_l_names) .none kV12 dc12 pm12 an12 cd12 ct12
    | .l_all => PySem.W.fnOf "_law_all" "_law_all" (defArgs s_l_all) (defBody s_l_all) (defScope s_l_all) .none kV13 dc13 pm13 an13 cd13 ct13
    | .l_wishes => PySem.W.fnOf "_law_wishes" "_law_wishes" (defArgs s_l_wishes) (defBody s_l_wishes) (defScope s_l_wishes) .none kV14 dc14 pm14 an14 cd14 ct14
    | .l_fit => PySem.W.fnOf "_law_fit" "_law_fit" (defArgs s_l_fit) (defBody s_l_fit) (defScope s_l_fit) .none kV15 dc15 pm15 an15 cd15 ct15
    | .l_built => PySem.W.fnOf "_law_built" "_law_built" (defArgs s_l_built) (defBody s_l_built) (defScope s_l_built) .none kV16 dc16 pm16 an16 cd16 ct16
    | .l_text => PySem.W.fnOf "_law_text" "_law_text" (defArgs s_l_text) (defBody s_l_text) (defScope s_l_text) .none kV17 dc17 pm17 an17 cd17 ct17
    | .l_part_text => PySem.W.fnOf "_law_part_text" "_law_part_text" (defArgs s_l_part_text) (defBody s_l_part_text) (defScope s_l_part_text) .none kV18 dc18 pm18 an18 cd18 ct18
    | .l_mark_at => PySem.W.fnOf "_law_mark_at" "_law_mark_at" (defArgs s_l_mark_at) (defBody s_l_mark_at) (defScope s_l_mark_at) .none kV19 dc19 pm19 an19 cd19 ct19
    | .l_at => PySem.W.fnOf "_law_at" "_law_at" (defArgs s_l_at) (defBody s_l_at) (defScope s_l_at) .none kV20 dc20 pm20 an20 cd20 ct20
    | .l_parts_at => PySem.W.fnOf "_law_parts_at" "_law_parts_at" (defArgs s_l_parts_at) (defBody s_l_parts_at) (defScope s_l_parts_at) .none kV21 dc21 pm21 an21 cd21 ct21
    | .l_due => PySem.W.fnOf "_law_due" "_law_due" (defArgs s_l_due) (defBody s_l_due) (defScope s_l_due) .none kV22 dc22 pm22 an22 cd22 ct22
    | .l_odd => PySem.W.fnOf "_law_odd" "_law_odd" (defArgs s_l_odd) (defBody s_l_odd) (defScope s_l_odd) .none kV23 dc23 pm23 an23 cd23 ct23
    | .l_bent => PySem.W.fnOf "_law_bent" "_law_bent" (defArgs s_l_bent) (defBody s_l_bent) (defScope s_l_bent) .none kV24 dc24 pm24 an24 cd24 ct24
    | .l_same => PySem.W.fnOf "_law_same" "_law_same" (defArgs s_l_same) (defBody s_l_same) (defScope s_l_same) .none kV25 dc25 pm25 an25 cd25 ct25
    | .l_refused => PySem.W.fnOf "_law_refused" "_law_refused" (defArgs s_l_refused) (defBody s_l_refused) (defScope s_l_refused) .none kV26 dc26 pm26 an26 cd26 ct26
    | .l_draw => PySem.W.fnOf "_law_draw" "_law_draw" (defArgs s_l_draw) (defBody s_l_draw) (defScope s_l_draw) .none kV27 dc27 pm27 an27 cd27 ct27
    | .l_made => PySem.W.fnOf "_law_made" "_law_made" (defArgs s_l_made) (defBody s_l_made) (defScope s_l_made) .none kV28 dc28 pm28 an28 cd28 ct28
    | .law => PySem.W.fnOf "law" "law" (defArgs s_law) (defBody s_law) (defScope s_law) .none kV29 dc29 pm29 an29 cd29 ct29
  have D : DD K mg fa fdd := ⟨fun i => by
    cases i with
    | is_mark =>
      have F := fun_mk (st := s_is_mark) l1 c1 k1
      exact ⟨F, F.binds fun _ _ _ _ _ _ us hl => match us, hl with | [_], _ => rfl, PySem.W.mg_of X G a1⟩
    | is_number =>
      have F := fun_mk (st := s_is_number) l2 c2 k2
      exact ⟨F, F.binds fun _ _ _ _ _ _ us hl => match us, hl with | [_], _ => rfl, PySem.W.mg_of X G a2⟩
    | is_formed =>
      have F := fun_mk (st := s_is_formed) l3 c3 k3
      exact ⟨F, F.binds fun _ _ _ _ _ _ us hl => match us, hl with | [_, _], _ => rfl, PySem.W.mg_of X G a3⟩
    | is_statement =>
      have F := fun_mk (st := s_is_statement) l4 c4 k4
      exact ⟨F, F.binds fun _ _ _ _ _ _ us hl => match us, hl with | [_], _ => rfl, PySem.W.mg_of X G a4⟩
    | written =>
      have F := fun_mk (st := s_written) l5 c5 k5
      exact ⟨F, F.binds fun _ _ _ _ _ _ us hl => match us, hl with | [_], _ => rfl, PySem.W.mg_of X G a5⟩
    | piece_at =>
      have F := fun_mk (st := s_piece_at) l6 c6 k6
      exact ⟨F, F.binds fun _ _ _ _ _ _ us hl => match us, hl with | [_, _], _ => rfl, PySem.W.mg_of X G a6⟩
    | pieces_of =>
      have F := fun_mk (st := s_pieces_of) l7 c7 k7
      exact ⟨F, F.binds fun _ _ _ _ _ _ us hl => match us, hl with | [_], _ => rfl, PySem.W.mg_of X G a7⟩
    | part_of =>
      have F := fun_mk (st := s_part_of) l8 c8 k8
      exact ⟨F, F.binds fun _ _ _ _ _ _ us hl => match us, hl with | [_], _ => rfl, PySem.W.mg_of X G a8⟩
    | read_at =>
      have F := fun_mk (st := s_read_at) l9 c9 k9
      exact ⟨F, F.binds fun _ _ _ _ _ _ us hl => match us, hl with | [_, _, _], _ => rfl, PySem.W.mg_of X G a9⟩
    | read =>
      have F := fun_mk (st := s_read) l10 c10 k10
      exact ⟨F, F.binds fun _ _ _ _ _ _ us hl => match us, hl with | [_], _ => rfl, PySem.W.mg_of X G a10⟩
    | l_cell_at =>
      have F := fun_mk (st := s_l_cell_at) l11 c11 k11
      exact ⟨F, F.binds fun _ _ _ _ _ _ us hl => match us, hl with | [_, _], _ => rfl, PySem.W.mg_of X G a11⟩
    | l_names =>
      have F := fun_mk (st := s_l_names) l12 c12 k12
      exact ⟨F, F.binds fun _ _ _ _ _ _ us hl => match us, hl with | [_], _ => rfl, PySem.W.mg_of X G a12⟩
    | l_all =>
      have F := fun_mk (st := s_l_all) l13 c13 k13
      exact ⟨F, F.binds fun _ _ _ _ _ _ us hl => match us, hl with | [_], _ => rfl, PySem.W.mg_of X G a13⟩
    | l_wishes =>
      have F := fun_mk (st := s_l_wishes) l14 c14 k14
      exact ⟨F, F.binds fun _ _ _ _ _ _ us hl => match us, hl with | [_], _ => rfl, PySem.W.mg_of X G a14⟩
    | l_fit =>
      have F := fun_mk (st := s_l_fit) l15 c15 k15
      exact ⟨F, F.binds fun _ _ _ _ _ _ us hl => match us, hl with | [_, _], _ => rfl, PySem.W.mg_of X G a15⟩
    | l_built =>
      have F := fun_mk (st := s_l_built) l16 c16 k16
      exact ⟨F, F.binds fun _ _ _ _ _ _ us hl => match us, hl with | [_, _, _], _ => rfl, PySem.W.mg_of X G a16⟩
    | l_text =>
      have F := fun_mk (st := s_l_text) l17 c17 k17
      exact ⟨F, F.binds fun _ _ _ _ _ _ us hl => match us, hl with | [_], _ => rfl, PySem.W.mg_of X G a17⟩
    | l_part_text =>
      have F := fun_mk (st := s_l_part_text) l18 c18 k18
      exact ⟨F, F.binds fun _ _ _ _ _ _ us hl => match us, hl with | [_], _ => rfl, PySem.W.mg_of X G a18⟩
    | l_mark_at =>
      have F := fun_mk (st := s_l_mark_at) l19 c19 k19
      exact ⟨F, F.binds fun _ _ _ _ _ _ us hl => match us, hl with | [_, _], _ => rfl, PySem.W.mg_of X G a19⟩
    | l_at =>
      have F := fun_mk (st := s_l_at) l20 c20 k20
      exact ⟨F, F.binds fun _ _ _ _ _ _ us hl => match us, hl with | [_, _, _], _ => rfl, PySem.W.mg_of X G a20⟩
    | l_parts_at =>
      have F := fun_mk (st := s_l_parts_at) l21 c21 k21
      exact ⟨F, F.binds fun _ _ _ _ _ _ us hl => match us, hl with | [_, _, _, _], _ => rfl, PySem.W.mg_of X G a21⟩
    | l_due =>
      have F := fun_mk (st := s_l_due) l22 c22 k22
      exact ⟨F, F.binds fun _ _ _ _ _ _ us hl => match us, hl with | [_], _ => rfl, PySem.W.mg_of X G a22⟩
    | l_odd =>
      have F := fun_mk (st := s_l_odd) l23 c23 k23
      exact ⟨F, F.binds fun _ _ _ _ _ _ us hl => match us, hl with | [_, _], _ => rfl, PySem.W.mg_of X G a23⟩
    | l_bent =>
      have F := fun_mk (st := s_l_bent) l24 c24 k24
      exact ⟨F, F.binds fun _ _ _ _ _ _ us hl => match us, hl with | [_, _, _], _ => rfl, PySem.W.mg_of X G a24⟩
    | l_same =>
      have F := fun_mk (st := s_l_same) l25 c25 k25
      exact ⟨F, F.binds fun _ _ _ _ _ _ us hl => match us, hl with | [_, _], _ => rfl, PySem.W.mg_of X G a25⟩
    | l_refused =>
      have F := fun_mk (st := s_l_refused) l26 c26 k26
      exact ⟨F, F.binds fun _ _ _ _ _ _ us hl => match us, hl with | [_], _ => rfl, PySem.W.mg_of X G a26⟩
    | l_draw =>
      have F := fun_mk (st := s_l_draw) l27 c27 k27
      exact ⟨F, F.binds fun _ _ _ _ _ _ us hl => match us, hl with | [_, _], _ => rfl, PySem.W.mg_of X G a27⟩
    | l_made =>
      have F := fun_mk (st := s_l_made) l28 c28 k28
      exact ⟨F, F.binds fun _ _ _ _ _ _ us hl => match us, hl with | [_, _, _, _, _], _ => rfl, PySem.W.mg_of X G a28⟩
    | law =>
      have F := fun_mk (st := s_law) l29 c29 k29
      exact ⟨F, F.binds fun _ _ _ _ _ _ us hl => match us, hl with | [_], _ => rfl, PySem.W.mg_of X G a29⟩
    ⟩
  have Z : ZZ mg := ⟨PySem.W.mg_none_of X G z1, PySem.W.mg_none_of X G z2, PySem.W.mg_none_of X G z3, PySem.W.mg_none_of X G z4, PySem.W.mg_none_of X G z5, PySem.W.mg_none_of X G z6, PySem.W.mg_none_of X G z7, PySem.W.mg_none_of X G z8, PySem.W.mg_none_of X G z9, PySem.W.mg_none_of X G z10, PySem.W.mg_none_of X G z11⟩
  have G_ : GG mg := ⟨⟨_, PySem.W.mg_of X G gc0⟩, ⟨_, PySem.W.mg_of X G gc1⟩, ⟨_, PySem.W.mg_of X G gc2⟩, ⟨_, PySem.W.mg_of X G gc3⟩⟩
  let dE : Str → Addr := fun c => if c = "BadText" then e5 else  0
  let exc : Str → Value := fun c => .ref (dE c)
  have EE_ : EE K mg (MP3 0 0 exc) dE := ⟨⟨rfl, PySem.W.mg_of X G ae5, xe5, ke5, be5, te5⟩⟩
  have ek5 : EK K e5 [e0, e1, e2, e3, e4, e5] 5 := ek_of rfl rfl (fun C hC => by
    simp only [List.mem_cons, List.not_mem_nil, or_false] at hC
    rcases hC with rfl | rfl | rfl | rfl | rfl | rfl
    · exact ⟨te0, de0⟩
    · exact ⟨te1, de1⟩
    · exact ⟨te2, de2⟩
    · exact ⟨te3, de3⟩
    · exact ⟨te4, de4⟩
    · exact ⟨te5, de5⟩) s5_5 (fun i C hi hne => by
    match i, hi with
    | 0, hi => cases hi; exact s5_0
    | 1, hi => cases hi; exact s5_1
    | 2, hi => cases hi; exact s5_2
    | 3, hi => cases hi; exact s5_3
    | 4, hi => cases hi; exact s5_4
    | 5, hi => exact absurd rfl hne
    | i + 6, hi => simp at hi) ve5 ⟨ga5, gg5, be5, de5, gk5, oN, oT, go5⟩
  have RW : Rfw K mg (MP3 0 0 exc) Cs e5 e0 e1 e2 e3 e4 := ⟨PySem.W.mg_of X G aS, rfl, PySem.W.exm_ref bS dS tS se5, ek5, PySem.W.mg_of X G ae0, PySem.W.mg_of X G ae1, PySem.W.mg_of X G ae2, PySem.W.mg_of X G ae3, PySem.W.mg_of X G ae4, PySem.W.mg_of X G ae5⟩
  refine ⟨PySem.W.fnOf "law" "law" (defArgs s_law) (defBody s_law) (defScope s_law) .none kV29 dc29 pm29 an29 cd29 ct29, fun s v => .of_eq rfl, fun base _ _ => ?_⟩
  exact law_imp (M := (MP3 0 0 exc)) rfl (okt_law (P := l.prog) (w := w) (base := base) D Z G_ EE_ RW) law_true
end K02
open PySem PySem.W PyProof.Rows
set_option maxRecDepth 100000 in
set_option maxHeartbeats 0 in
theorem PySem.Challenge.cw_soonsaid_k02_written_and_read_holds : PySem.Challenge.rw_soonsaid_k02_written_and_read.Holds := by
  w_on; o_law; k_head; (case hw => w_witness2)
  k_fill
  refine L2.walk_of (l := PySem.Challenge.rw_soonsaid_k02_written_and_read) (n := 63) (k := 61) (x := "_law_script") (CX := fun w => L2.CX PySem.Challenge.rw_soonsaid_k02_written_and_read.prog w) (sp := fun w => Py.spLw2 _) rfl (by decide) rfl ⟨rfl, by decide, by decide⟩ (fun w h Y => PySem.W.kIn_of Y) ?F (fun w H a ns hl _ hS => ⟨a, ns, rfl, hS, hl, fun _ => rfl⟩) (fun _ _ _ _ _ z => Py.no_exc z)
  case F =>
    intro w mg fa h KX G hmg
    refine' K02.all_mk KX G hmg ?h_a1 ?h_l1 ?h_c1 ?h_k1 ?h_a2 ?h_l2 ?h_c2 ?h_k2 ?h_a3 ?h_l3 ?h_c3 ?h_k3 ?h_a4 ?h_l4 ?h_c4 ?h_k4 ?h_a5 ?h_l5 ?h_c5 ?h_k5 ?h_a6 ?h_l6 ?h_c6 ?h_k6 ?h_a7 ?h_l7 ?h_c7 ?h_k7 ?h_a8 ?h_l8 ?h_c8 ?h_k8 ?h_a9 ?h_l9 ?h_c9 ?h_k9 ?h_a10 ?h_l10 ?h_c10 ?h_k10 ?h_a11 ?h_l11 ?h_c11 ?h_k11 ?h_a12 ?h_l12 ?h_c12 ?h_k12 ?h_a13 ?h_l13 ?h_c13 ?h_k13 ?h_a14 ?h_l14 ?h_c14 ?h_k14 ?h_a15 ?h_l15 ?h_c15 ?h_k15 ?h_a16 ?h_l16 ?h_c16 ?h_k16 ?h_a17 ?h_l17 ?h_c17 ?h_k17 ?h_a18 ?h_l18 ?h_c18 ?h_k18 ?h_a19 ?h_l19 ?h_c19 ?h_k19 ?h_a20 ?h_l20 ?h_c20 ?h_k20 ?h_a21 ?h_l21 ?h_c21 ?h_k21 ?h_a22 ?h_l22 ?h_c22 ?h_k22 ?h_a23 ?h_l23 ?h_c23 ?h_k23 ?h_a24 ?h_l24 ?h_c24 ?h_k24 ?h_a25 ?h_l25 ?h_c25 ?h_k25 ?h_a26 ?h_l26 ?h_c26 ?h_k26 ?h_a27 ?h_l27 ?h_c27 ?h_k27 ?h_a28 ?h_l28 ?h_c28 ?h_k28 ?h_a29 ?h_l29 ?h_c29 ?h_k29 ?h_gc0 ?h_gc1 ?h_gc2 ?h_gc3 ?h_z1 ?h_z2 ?h_z3 ?h_z4 ?h_z5 ?h_z6 ?h_z7 ?h_z8 ?h_z9 ?h_z10 ?h_z11 ?h_aS ?h_bS ?h_tS ?h_dS ?h_oN ?h_oT ?h_ae0 ?h_te0 ?h_de0 ?h_ae1 ?h_te1 ?h_de1 ?h_ae2 ?h_te2 ?h_de2 ?h_ae3 ?h_te3 ?h_de3 ?h_ae4 ?h_te4 ?h_de4 ?h_ae5 ?h_te5 ?h_de5 ?h_xe5 ?h_ke5 ?h_be5 ?h_se5 ?h_ve5 ?h_ga5 ?h_gg5 ?h_gk5 ?h_go5 ?h_s5_0 ?h_s5_1 ?h_s5_2 ?h_s5_3 ?h_s5_4 ?h_s5_5
    (case h_a1 => k_is)
    (case h_l1 => k_is)
    (case h_c1 => k_is)
    (case h_k1 => k_is)
    (case h_a2 => k_is)
    (case h_l2 => k_is)
    (case h_c2 => k_is)
    (case h_k2 => k_is)
    (case h_a3 => k_is)
    (case h_l3 => k_is)
    (case h_c3 => k_is)
    (case h_k3 => k_is)
    (case h_a4 => k_is)
    (case h_l4 => k_is)
    (case h_c4 => k_is)
    (case h_k4 => k_is)
    (case h_a5 => k_is)
    (case h_l5 => k_is)
    (case h_c5 => k_is)
    (case h_k5 => k_is)
    (case h_a6 => k_is)
    (case h_l6 => k_is)
    (case h_c6 => k_is)
    (case h_k6 => k_is)
    (case h_a7 => k_is)
    (case h_l7 => k_is)
    (case h_c7 => k_is)
    (case h_k7 => k_is)
    (case h_a8 => k_is)
    (case h_l8 => k_is)
    (case h_c8 => k_is)
    (case h_k8 => k_is)
    (case h_a9 => k_is)
    (case h_l9 => k_is)
    (case h_c9 => k_is)
    (case h_k9 => k_is)
    (case h_a10 => k_is)
    (case h_l10 => k_is)
    (case h_c10 => k_is)
    (case h_k10 => k_is)
    (case h_a11 => k_is)
    (case h_l11 => k_is)
    (case h_c11 => k_is)
    (case h_k11 => k_is)
    (case h_a12 => k_is)
    (case h_l12 => k_is)
    (case h_c12 => k_is)
    (case h_k12 => k_is)
    (case h_a13 => k_is)
    (case h_l13 => k_is)
    (case h_c13 => k_is)
    (case h_k13 => k_is)
    (case h_a14 => k_is)
    (case h_l14 => k_is)
    (case h_c14 => k_is)
    (case h_k14 => k_is)
    (case h_a15 => k_is)
    (case h_l15 => k_is)
    (case h_c15 => k_is)
    (case h_k15 => k_is)
    (case h_a16 => k_is)
    (case h_l16 => k_is)
    (case h_c16 => k_is)
    (case h_k16 => k_is)
    (case h_a17 => k_is)
    (case h_l17 => k_is)
    (case h_c17 => k_is)
    (case h_k17 => k_is)
    (case h_a18 => k_is)
    (case h_l18 => k_is)
    (case h_c18 => k_is)
    (case h_k18 => k_is)
    (case h_a19 => k_is)
    (case h_l19 => k_is)
    (case h_c19 => k_is)
    (case h_k19 => k_is)
    (case h_a20 => k_is)
    (case h_l20 => k_is)
    (case h_c20 => k_is)
    (case h_k20 => k_is)
    (case h_a21 => k_is)
    (case h_l21 => k_is)
    (case h_c21 => k_is)
    (case h_k21 => k_is)
    (case h_a22 => k_is)
    (case h_l22 => k_is)
    (case h_c22 => k_is)
    (case h_k22 => k_is)
    (case h_a23 => k_is)
    (case h_l23 => k_is)
    (case h_c23 => k_is)
    (case h_k23 => k_is)
    (case h_a24 => k_is)
    (case h_l24 => k_is)
    (case h_c24 => k_is)
    (case h_k24 => k_is)
    (case h_a25 => k_is)
    (case h_l25 => k_is)
    (case h_c25 => k_is)
    (case h_k25 => k_is)
    (case h_a26 => k_is)
    (case h_l26 => k_is)
    (case h_c26 => k_is)
    (case h_k26 => k_is)
    (case h_a27 => k_is)
    (case h_l27 => k_is)
    (case h_c27 => k_is)
    (case h_k27 => k_is)
    (case h_a28 => k_is)
    (case h_l28 => k_is)
    (case h_c28 => k_is)
    (case h_k28 => k_is)
    (case h_a29 => k_is)
    (case h_l29 => k_is)
    (case h_c29 => k_is)
    (case h_k29 => k_is)
    (case h_gc0 => k_is)
    (case h_gc1 => k_is)
    (case h_gc2 => k_is)
    (case h_gc3 => k_is)
    (case h_z1 => k_is)
    (case h_z2 => k_is)
    (case h_z3 => k_is)
    (case h_z4 => k_is)
    (case h_z5 => k_is)
    (case h_z6 => k_is)
    (case h_z7 => k_is)
    (case h_z8 => k_is)
    (case h_z9 => k_is)
    (case h_z10 => k_is)
    (case h_z11 => k_is)
    (case h_aS => k_is)
    (case h_bS => k_is)
    (case h_tS => k_is)
    (case h_dS => k_is)
    (case h_oN => k_is)
    (case h_oT => k_is)
    (case h_ae0 => k_is)
    (case h_te0 => k_is)
    (case h_de0 => k_is)
    (case h_ae1 => k_is)
    (case h_te1 => k_is)
    (case h_de1 => k_is)
    (case h_ae2 => k_is)
    (case h_te2 => k_is)
    (case h_de2 => k_is)
    (case h_ae3 => k_is)
    (case h_te3 => k_is)
    (case h_de3 => k_is)
    (case h_ae4 => k_is)
    (case h_te4 => k_is)
    (case h_de4 => k_is)
    (case h_ae5 => k_is)
    (case h_te5 => k_is)
    (case h_de5 => k_is)
    (case h_xe5 => k_exc)
    (case h_ke5 => k_is)
    (case h_be5 => k_is)
    (case h_se5 => k_is)
    (case h_ve5 => k_is)
    (case h_ga5 => k_is)
    (case h_gg5 => k_is)
    (case h_gk5 => k_is)
    (case h_go5 => k_is)
    (case h_s5_0 => k_is)
    (case h_s5_1 => k_is)
    (case h_s5_2 => k_is)
    (case h_s5_3 => k_is)
    (case h_s5_4 => k_is)
    (case h_s5_5 => first | rfl | k_is)
