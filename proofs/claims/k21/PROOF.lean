import PyProof.Rows.All
import Wide.All
import OpenK.AllK
import Wide.FinOn
import HandS.ForMost
import HandS.Exc
import HandS.ExcOwn
import HandS.ExcCtx
import HandS.WordsExc
import HandS.Wide
import HandS.Zip
import HandS.IsInst
import HandS.TupAny
import HandS.TupMul
import HandS.Defaults
import HandS.HeadHook4
import HandS.HeadWalk
import HandS.HeadNt
import HandS.Head0
import HandS.Head1
import HandS.Head2
import PySem.Challenge.RW_fractrows_k21_whole_lean
set_option Elab.async false
set_option linter.all false
set_option maxRecDepth 100000
set_option maxHeartbeats 4000000
set_option exponentiation.threshold 1000
namespace Fr
open PySem PySem.Spec PyProof.Rows L2

abbrev Dt := PyData

mutual
/-- the value v is the data d, all of it standing in M -/
inductive Dn (K : PySem.W.Frag) (M : Hp) : V → Dt → Prop
  | non : Dn K M .non .none
  | bl (b : Bool) : Dn K M (.bl b) (.bool b)
  | int (i : Int) : Dn K M (.int i) (.int i)
  | str (x : Str) : Dn K M (.str x) (.str x)
  | lst {a : Addr} {vs : List V} {ds : List Dt} : M a = some (.lst vs) → DnA K M vs ds → Dn K M (.ref a) (.list ds)
  | tup {a : Addr} {vs : List V} {ds : List Dt} : SqT K M a vs → DnA K M vs ds → Dn K M (.ref a) (.tuple ds)
inductive DnA (K : PySem.W.Frag) (M : Hp) : List V → List Dt → Prop
  | nil : DnA K M [] []
  | cons {v : V} {vs : List V} {d : Dt} {ds : List Dt} : Dn K M v d → DnA K M vs ds → DnA K M (v :: vs) (d :: ds)
end

theorem sqT_mono {K : PySem.W.Frag} {M M' : Hp} {a : Addr} {xs : List V} (e : Same M M') (h : SqT K M a xs) : SqT K M' a xs := by
  rcases h with (h | ⟨o, h⟩) | h
  · exact Or.inl (Or.inl (e _ _ h))
  · exact Or.inl (Or.inr ⟨o, e _ _ h⟩)
  · exact Or.inr h
section
variable {K : PySem.W.Frag} {M M' : Hp}
mutual
theorem Dn.mono (e : Same M M') : ∀ (d : Dt) (v : V), Dn K M v d → Dn K M' v d
  | .none, _, h => by cases h; exact .non
  | .bool b, _, h => by cases h; exact .bl b
  | .int i, _, h => by cases h; exact .int i
  | .str x, _, h => by cases h; exact .str x
  | .list ds, _, h => by
    cases h with
    | lst ha hs => exact .lst (e _ _ ha) (DnA.mono e ds _ hs)
  | .tuple ds, _, h => by
    cases h with
    | tup ha hs => exact .tup (sqT_mono e ha) (DnA.mono e ds _ hs)
  | .dict _, _, h => by cases h
theorem DnA.mono (e : Same M M') : ∀ (ds : List Dt) (vs : List V), DnA K M vs ds → DnA K M' vs ds
  | [], _, h => by cases h; exact .nil
  | d :: ds, _, h => by
    cases h with
    | cons h1 h2 => exact .cons (Dn.mono e d _ h1) (DnA.mono e ds _ h2)
end
mutual
theorem Dn.dp : ∀ (d : Dt) (v : V), Dn K M v d → Dp K M v d
  | .none, _, h => by cases h; exact .non
  | .bool b, _, h => by cases h; exact .bl b
  | .int i, _, h => by cases h; exact .int i
  | .str x, _, h => by cases h; exact .str x
  | .list ds, _, h => by
    cases h with
    | lst ha hs => exact .lst (SqL.of ha) (DnA.dp ds _ hs)
  | .tuple ds, _, h => by
    cases h with
    | tup ha hs => exact .tup ha (DnA.dp ds _ hs)
  | .dict _, _, h => by cases h
theorem DnA.dp : ∀ (ds : List Dt) (vs : List V), DnA K M vs ds → DpAll K M vs ds
  | [], _, h => by cases h; exact .nil
  | d :: ds, _, h => by
    cases h with
    | cons h1 h2 => exact .cons (Dn.dp d _ h1) (DnA.dp ds _ h2)
end
theorem DnA.len : ∀ {vs : List V} {ds : List Dt}, DnA K M vs ds → vs.length = ds.length
  | _, _, .nil => rfl
  | _, _, .cons _ t => by simp [DnA.len t]
theorem DnA.get : ∀ {vs : List V} {ds : List Dt} {i : Nat} {d : Dt}, DnA K M vs ds → ds[i]? = some d → ∃ v, vs[i]? = some v ∧ Dn K M v d
  | _, _, _, _, .nil, e => by simp at e
  | _, _, 0, _, .cons r _, e => by simp at e; subst e; exact ⟨_, rfl, r⟩
  | _, _, i + 1, _, .cons _ t, e => by
    obtain ⟨u, h1, h2⟩ := DnA.get (i := i) t (by simpa using e)
    exact ⟨u, by simpa using h1, h2⟩
theorem DnA.getV : ∀ {vs : List V} {ds : List Dt} {i : Nat} {v : V}, DnA K M vs ds → vs[i]? = some v → ∃ d, ds[i]? = some d ∧ Dn K M v d
  | _, _, _, _, .nil, e => by simp at e
  | _, _, 0, _, .cons r _, e => by simp at e; subst e; exact ⟨_, rfl, r⟩
  | _, _, i + 1, _, .cons _ t, e => by
    obtain ⟨u, h1, h2⟩ := DnA.getV (i := i) t (by simpa using e)
    exact ⟨u, by simpa using h1, h2⟩
theorem DnA.app : ∀ {vs ws : List V} {ds es : List Dt}, DnA K M vs ds → DnA K M ws es → DnA K M (vs ++ ws) (ds ++ es)
  | _, _, _, _, .nil, s => s
  | _, _, _, _, .cons r t, s => .cons r (DnA.app t s)
theorem DnA.take : ∀ {vs : List V} {ds : List Dt} (n : Nat), DnA K M vs ds → DnA K M (vs.take n) (ds.take n)
  | _, _, 0, _ => .nil
  | _, _, _ + 1, .nil => .nil
  | _, _, n + 1, .cons r t => .cons r (DnA.take n t)
theorem DnA.drop : ∀ {vs : List V} {ds : List Dt} (n : Nat), DnA K M vs ds → DnA K M (vs.drop n) (ds.drop n)
  | _, _, 0, r => r
  | _, _, _ + 1, .nil => .nil
  | _, _, n + 1, .cons _ t => DnA.drop n t
theorem DnA.rev {vs : List V} {ds : List Dt} (h : DnA K M vs ds) : DnA K M vs.reverse ds.reverse := by
  induction ds generalizing vs with
  | nil => cases h; exact .nil
  | cons d ds ih =>
    cases h with
    | cons h1 h2 =>
      rw [List.reverse_cons, List.reverse_cons]
      exact (ih h2).app (.cons h1 .nil)
theorem DnA.rep {vs : List V} {ds : List Dt} (h : DnA K M vs ds) : ∀ k : Nat, DnA K M (List.replicate k vs).flatten (List.replicate k ds).flatten
  | 0 => .nil
  | k + 1 => by
    rw [List.replicate_succ, List.replicate_succ, List.flatten_cons, List.flatten_cons]
    exact h.app (DnA.rep h k)
theorem DnA.set : ∀ {vs : List V} {ds : List Dt} {v : V} {d : Dt} (i : Nat), DnA K M vs ds → Dn K M v d → DnA K M (vs.set i v) (ds.set i d)
  | _, _, _, _, _, .nil, _ => .nil
  | _, _, _, _, 0, .cons _ t, r => .cons r t
  | _, _, _, _, i + 1, .cons q t, r => .cons q (DnA.set i t r)
theorem Dn.int_inv {v : V} {i : Int} (h : Dn K M v (.int i)) : v = .int i := by cases h; rfl
theorem Dn.bl_inv {v : V} {b : Bool} (h : Dn K M v (.bool b)) : v = .bl b := by cases h; rfl
theorem Dn.str_inv {v : V} {b : Str} (h : Dn K M v (.str b)) : v = .str b := by cases h; rfl
theorem Dn.non_inv {v : V} (h : Dn K M v .none) : v = .non := by cases h; rfl
theorem Dn.lst_inv {v : V} {ds : List Dt} (h : Dn K M v (.list ds)) : ∃ a vs, v = .ref a ∧ M a = some (.lst vs) ∧ DnA K M vs ds := by
  cases h with
  | lst h1 h2 => exact ⟨_, _, rfl, h1, h2⟩
theorem Dn.tup_inv {v : V} {ds : List Dt} (h : Dn K M v (.tuple ds)) : ∃ a vs, v = .ref a ∧ SqT K M a vs ∧ DnA K M vs ds := by
  cases h with
  | tup h1 h2 => exact ⟨_, _, rfl, h1, h2⟩
theorem DnA.ints : ∀ {ns : List Int} {vs : List V}, DnA K M vs (ns.map PyData.int) → vs = ns.map V.int
  | [], _, h => by cases h; rfl
  | n :: ns, _, h => by
    cases h with
    | cons h1 h2 => rw [h1.int_inv, DnA.ints h2]; rfl
theorem DnA.bools : ∀ {bs : List Bool} {vs : List V}, DnA K M vs (bs.map PyData.bool) → vs = bs.map V.bl
  | [], _, h => by cases h; rfl
  | n :: ns, _, h => by
    cases h with
    | cons h1 h2 => rw [h1.bl_inv, DnA.bools h2]; rfl
theorem DnA.of_ints : ∀ (ns : List Int), DnA K M (ns.map V.int) (ns.map PyData.int)
  | [] => .nil
  | n :: ns => .cons (.int n) (DnA.of_ints ns)
end

/-- what a slot holds -/
inductive Sl where
  | no
  | va (d : Dt)
  | own (ds : List Dt)
  | scr (ns : List Int)
  | raw (v : V)
/-- M0, H0: what is known, what stands, at a def's entry; M, H: now -/
structure Bs (M0 H0 M H : Hp) : Prop where
  mm : Same M0 M
  mh : Same M H
  far : ∀ a o, M0 a = none → H0 a = some o → M a = none ∧ H a = some o
theorem Bs.refl {M H : Hp} (h : Same M H) : Bs M H M H := ⟨Same.refl _, h, fun _ _ h1 h2 => ⟨h1, h2⟩⟩
theorem Bs.trans {M0 H0 M1 H1 M2 H2 : Hp} (a : Bs M0 H0 M1 H1) (b : Bs M1 H1 M2 H2) : Bs M0 H0 M2 H2 :=
  ⟨a.mm.trans b.mm, b.mh, fun x o h1 h2 => let ⟨p, q⟩ := a.far x o h1 h2; b.far x o p q⟩
/-- all that stood stands -/
theorem Bs.same {M H M' H' : Hp} (h : Same M H) (b : Bs M H M' H') : Same H H' := fun a o e => by
  cases q : M a with
  | none => exact (b.far a o q e).2
  | some u =>
    have z := h a u q
    rw [e] at z
    cases z
    exact b.mh _ _ (b.mm _ _ q)

def SlOk (K : PySem.W.Frag) (H0 M H : Hp) (v : Option V) : Sl → Prop
  | .no => True
  | .va d => ∃ x, v = some x ∧ Dn K M x d
  | .own ds => ∃ a vs, v = some (.ref a) ∧ H0 a = none ∧ M a = none ∧ H a = some (.lst vs) ∧ DnA K M vs ds
  | .scr ns => ∃ a, v = some (.ref a) ∧ SqL K M a (ns.map V.int)
  | .raw x => v = some x

structure StM (K : PySem.W.Frag) (M0 H0 : Hp) (σ : L2.St) (H : Hp) (ρ : List Sl) (T : List (V × Dt)) (M : Hp) : Prop where
  bs : Bs M0 H0 M H
  len : σ.length = ρ.length
  slot : ∀ (i : Nat) (s : Sl), ρ[i]? = some s → ∃ v, σ[i]? = some v ∧ SlOk K H0 M H v s
  dis : ∀ (i j : Nat) (ds es : List Dt) (a : Addr), i ≠ j → ρ[i]? = some (.own ds) → ρ[j]? = some (.own es) → σ[i]? = some (some (.ref a)) → σ[j]? = some (some (.ref a)) → False
  tmp : ∀ p ∈ T, Dn K M p.1 p.2
def Sta (K : PySem.W.Frag) (M0 H0 : Hp) (σ : L2.St) (H : Hp) (ρ : List Sl) (T : List (V × Dt)) : Prop := ∃ M, StM K M0 H0 σ H ρ T M
def Aft (K : PySem.W.Frag) (M0 H0 : Hp) (v : V) (H : Hp) (d : Dt) : Prop := ∃ M, Bs M0 H0 M H ∧ Dn K M v d
def AftX (M0 H0 H : Hp) : Prop := ∃ M, Bs M0 H0 M H

section
variable {K : PySem.W.Frag} {M0 H0 H : Hp} {σ : L2.St} {ρ : List Sl} {T : List (V × Dt)}
theorem SlOk.ext {M M' H' : Hp} {v : Option V} {s : Sl} (h : SlOk K H0 M H v s) (m : Same M M') (k : ∀ a o, M a = none → H a = some o → M' a = none ∧ H' a = some o) : SlOk K H0 M' H' v s := by
  cases s with
  | no => trivial
  | va d =>
    obtain ⟨x, e, h⟩ := h
    exact ⟨x, e, h.mono m⟩
  | own ds =>
    obtain ⟨a, vs, e, h1, h2, h3, h4⟩ := h
    obtain ⟨q1, q2⟩ := k a _ h2 h3
    exact ⟨a, vs, e, h1, q1, q2, h4.mono m⟩
  | scr ns =>
    obtain ⟨a, e, h⟩ := h
    exact ⟨a, e, m.seq h⟩
  | raw x => exact h
theorem Sta.same_sub {T' : List (V × Dt)} (h : Sta K M0 H0 σ H ρ T) (s : ∀ p ∈ T', p ∈ T) : Sta K M0 H0 σ H ρ T' := by
  obtain ⟨M, b, l, sl, d, t⟩ := h
  exact ⟨M, b, l, sl, d, fun p hp => t p (s p hp)⟩
/-- the world grows -/
theorem StM.grow {M M' H' : Hp} {T' : List (V × Dt)} (h : StM K M0 H0 σ H ρ T M) (b : Bs M H M' H') (t : ∀ p ∈ T', Dn K M' p.1 p.2) : StM K M0 H0 σ H' ρ T' M' := by
  obtain ⟨b0, l, sl, d, _⟩ := h
  refine ⟨b0.trans b, l, fun i s e => ?_, d, t⟩
  obtain ⟨v, e1, h1⟩ := sl i s e
  exact ⟨v, e1, h1.ext b.mm fun a o q1 q2 => b.far a o q1 q2⟩
/-- a new object, known from now on -/
theorem bs_new {M : Hp} {p : Addr} {o : HO} (m : Same M H) (n : H p = none) : Bs M H (upd M p o) (upd H p o) := by
  have nM : M p = none := m.free n
  refine ⟨fun a u e => ?_, fun a u e => ?_, fun a u h1 h2 => ?_⟩
  · rw [upd_ne (ne_of_none e nM)]; exact e
  · by_cases ha : a = p
    · subst ha; rw [upd_same] at e ⊢; exact e
    · rw [upd_ne ha] at e ⊢; exact m _ _ e
  · have ha : a ≠ p := ne_of_none h2 n
    rw [upd_ne ha, upd_ne ha]; exact ⟨h1, h2⟩
/-- a new object, not known -/
theorem bs_hid {M : Hp} {p : Addr} {o : HO} (m : Same M H) (n : H p = none) : Bs M H M (upd H p o) := by
  refine ⟨Same.refl _, fun a u e => ?_, fun a u h1 h2 => ?_⟩
  · rw [upd_ne (ne_of_none (m _ _ e) n)]; exact m _ _ e
  · rw [upd_ne (ne_of_none h2 n)]; exact ⟨h1, h2⟩
theorem Sta.new {v : Dt} {p : Addr} {o : HO} (h : Sta K M0 H0 σ H ρ T) (n : H p = none) (k : ∀ M : Hp, (∀ q ∈ T, Dn K M q.1 q.2) → (upd M p o) p = some o → (∀ q ∈ T, Dn K (upd M p o) q.1 q.2) → Dn K (upd M p o) (.ref p) v) :
    Sta K M0 H0 σ (upd H p o) ρ ((.ref p, v) :: T) := by
  obtain ⟨M, st⟩ := h
  have b := bs_new (o := o) st.bs.mh n
  have tm : ∀ q ∈ T, Dn K (upd M p o) q.1 q.2 := fun q hq => (st.tmp q hq).mono b.mm
  refine ⟨_, st.grow b fun q hq => ?_⟩
  rcases List.mem_cons.mp hq with e | hq
  · subst e; exact k M st.tmp upd_same tm
  · exact tm q hq
theorem Sta.add {v : V} {d : Dt} (h : Sta K M0 H0 σ H ρ T) (k : ∀ M : Hp, (∀ q ∈ T, Dn K M q.1 q.2) → Dn K M v d) : Sta K M0 H0 σ H ρ ((v, d) :: T) := by
  obtain ⟨M, b, l, sl, di, t⟩ := h
  refine ⟨M, b, l, sl, di, fun q hq => ?_⟩
  rcases List.mem_cons.mp hq with e | hq
  · subst e; exact k M t
  · exact t q hq
theorem Sta.tmp {v : V} {d : Dt} (h : Sta K M0 H0 σ H ρ T) (m : (v, d) ∈ T) : ∃ M, Same M H ∧ Dn K M v d := by
  obtain ⟨M, st⟩ := h
  exact ⟨M, st.bs.mh, st.tmp _ m⟩
theorem Sta.tmpA {vs : List V} {ds : List Dt} (h : Sta K M0 H0 σ H ρ T) (m : ∀ p ∈ vs.zip ds, p ∈ T) (l : vs.length = ds.length) : ∃ M, StM K M0 H0 σ H ρ T M ∧ DnA K M vs ds := by
  obtain ⟨M, st⟩ := h
  refine ⟨M, st, ?_⟩
  have t := st.tmp
  clear st
  induction vs generalizing ds with
  | nil =>
    cases ds with
    | nil => exact .nil
    | cons d ds => simp at l
  | cons v vs ih =>
    cases ds with
    | nil => simp at l
    | cons d ds =>
      exact .cons (t _ (m (v, d) (by simp))) (ih (fun p hp => m p (by simp [hp])) (by simpa using l))
theorem Sta.va {i : Nat} {d : Dt} (h : Sta K M0 H0 σ H ρ T) (e : ρ[i]? = some (.va d)) : ∃ v, σ[i]? = some (some v) ∧ Sta K M0 H0 σ H ρ ((v, d) :: T) := by
  obtain ⟨M, b, l, sl, di, t⟩ := h
  obtain ⟨v, e1, x, rfl, hx⟩ := sl i _ e
  refine ⟨x, e1, M, b, l, sl, di, fun q hq => ?_⟩
  rcases List.mem_cons.mp hq with e | hq
  · subst e; exact hx
  · exact t q hq
/-- a slot gets a value -/
theorem Sta.set {i : Nat} {v : V} {d : Dt} (h : Sta K M0 H0 σ H ρ T) (m : (v, d) ∈ T) : Sta K M0 H0 (σ.set i (some v)) H (ρ.set i (.va d)) T := by
  obtain ⟨M, b, l, sl, di, t⟩ := h
  refine ⟨M, b, by simp [l], fun j s e => ?_, fun j k ds es a hjk h1 h2 h3 h4 => ?_, t⟩
  · by_cases hj : i = j
    · subst hj
      have hi : i < ρ.length := by
        have := (List.getElem?_eq_some_iff.mp e).1
        simpa using this
      rw [List.getElem?_set_self hi] at e
      cases e
      exact ⟨some v, List.getElem?_set_self (by omega), v, rfl, t _ m⟩
    · rw [List.getElem?_set_ne hj] at e ⊢
      exact sl j s e
  · have nj : i ≠ j := fun z => by
      subst z
      have hi : i < ρ.length := by
        have := (List.getElem?_eq_some_iff.mp h1).1
        simpa using this
      rw [List.getElem?_set_self hi] at h1
      cases h1
    have nk : i ≠ k := fun z => by
      subst z
      have hi : i < ρ.length := by
        have := (List.getElem?_eq_some_iff.mp h2).1
        simpa using this
      rw [List.getElem?_set_self hi] at h2
      cases h2
    rw [List.getElem?_set_ne nj] at h1 h3
    rw [List.getElem?_set_ne nk] at h2 h4
    exact di j k ds es a hjk h1 h2 h3 h4
/-- a slot is forgotten -/
theorem Sta.forget {i : Nat} {v : Option V} (h : Sta K M0 H0 σ H ρ T) : Sta K M0 H0 (σ.set i v) H (ρ.set i .no) T := by
  obtain ⟨M, b, l, sl, di, t⟩ := h
  refine ⟨M, b, by simp [l], fun j s e => ?_, fun j k ds es a hjk h1 h2 h3 h4 => ?_, t⟩
  · by_cases hj : i = j
    · subst hj
      have hi : i < ρ.length := by
        have := (List.getElem?_eq_some_iff.mp e).1
        simpa using this
      rw [List.getElem?_set_self hi] at e
      cases e
      exact ⟨v, List.getElem?_set_self (by omega), trivial⟩
    · rw [List.getElem?_set_ne hj] at e ⊢
      exact sl j s e
  · have nj : i ≠ j := fun z => by
      subst z
      have hi : i < ρ.length := by
        have := (List.getElem?_eq_some_iff.mp h1).1
        simpa using this
      rw [List.getElem?_set_self hi] at h1
      cases h1
    have nk : i ≠ k := fun z => by
      subst z
      have hi : i < ρ.length := by
        have := (List.getElem?_eq_some_iff.mp h2).1
        simpa using this
      rw [List.getElem?_set_self hi] at h2
      cases h2
    rw [List.getElem?_set_ne nj] at h1 h3
    rw [List.getElem?_set_ne nk] at h2 h4
    exact di j k ds es a hjk h1 h2 h3 h4
end
end Fr
namespace Fr
open PySem PySem.Spec PyProof.Rows L2
section
variable {K : PySem.W.Frag} {M0 H0 H : Hp} {σ : L2.St} {ρ : List Sl} {T : List (V × Dt)}
theorem Bs.free0 {M : Hp} {p : Addr} (b : Bs M0 H0 M H) (n : H p = none) : H0 p = none := by
  cases e : H0 p with
  | none => rfl
  | some o =>
    cases q : M0 p with
    | none => have := (b.far p o q e).2; rw [n] at this; cases this
    | some u => have := b.mh _ _ (b.mm _ _ q); rw [n] at this; cases this
theorem get_app_lt {α : Type} {xs : List α} {y : α} {i : Nat} {s : α} (h : (xs ++ [y])[i]? = some s) : (i < xs.length ∧ xs[i]? = some s) ∨ (i = xs.length ∧ s = y) := by
  by_cases hi : i < xs.length
  · rw [List.getElem?_append_left hi] at h
    exact .inl ⟨hi, h⟩
  · have h2 := (List.getElem?_eq_some_iff.mp h).1
    have e : i = xs.length := by simp at h2; omega
    subst e
    simp at h
    exact .inr ⟨rfl, h.symm⟩
/-- a new list, ours alone: a slot more -/
theorem StM.newO {M : Hp} {p : Addr} {vs : List V} {ds : List Dt} (st : StM K M0 H0 σ H ρ T M) (n : H p = none) (hd : DnA K M vs ds) : StM K M0 H0 (σ ++ [some (.ref p)]) (upd H p (.lst vs)) (ρ ++ [.own ds]) T M := by
  have b := bs_hid (o := .lst vs) st.bs.mh n
  have g := st.grow b st.tmp
  refine ⟨g.bs, by simp [st.len], fun i s e => ?_, fun i j es fs a hij h1 h2 h3 h4 => ?_, g.tmp⟩
  · rcases get_app_lt e with ⟨hi, e⟩ | ⟨rfl, rfl⟩
    · obtain ⟨v, e1, h1⟩ := g.slot i s e
      exact ⟨v, by rw [List.getElem?_append_left (by rw [st.len]; exact hi)]; exact e1, h1⟩
    · refine ⟨some (.ref p), by rw [← st.len]; simp, p, vs, rfl, st.bs.free0 n, st.bs.mh.free n, upd_same, hd⟩
  · have out : ∀ (k : Nat) (gs : List Dt), ρ[k]? = some (.own gs) → σ[k]? = some (some (V.ref p)) → False := fun k gs e1 e2 => by
      obtain ⟨v, e3, a', vs', e4, _, _, e5, _⟩ := st.slot k _ e1
      rw [e2] at e3
      cases e3
      cases e4
      rw [n] at e5
      cases e5
    rcases get_app_lt h1 with ⟨hi, h1⟩ | ⟨rfl, e1⟩ <;> rcases get_app_lt h2 with ⟨hj, h2⟩ | ⟨rfl, e2⟩
    · rw [List.getElem?_append_left (by rw [st.len]; exact hi)] at h3
      rw [List.getElem?_append_left (by rw [st.len]; exact hj)] at h4
      exact st.dis i j es fs a hij h1 h2 h3 h4
    · rw [List.getElem?_append_left (by rw [st.len]; exact hi)] at h3
      rw [← st.len] at h4
      simp at h4
      rw [← h4] at h3
      exact out i es h1 h3
    · rw [List.getElem?_append_left (by rw [st.len]; exact hj)] at h4
      rw [← st.len] at h3
      simp at h3
      rw [← h3] at h4
      exact out j fs h2 h4
    · exact hij rfl
/-- the content of a list of ours changes -/
theorem StM.updO {M : Hp} {i : Nat} {a : Addr} {vs : List V} {ds es : List Dt} (st : StM K M0 H0 σ H ρ T M) (h1 : ρ[i]? = some (.own es)) (h2 : σ[i]? = some (some (.ref a))) (hd : DnA K M vs ds) :
    StM K M0 H0 σ (upd H a (.lst vs)) (ρ.set i (.own ds)) T M := by
  obtain ⟨v, e1, a', vs', e2, n0, nM, hH, _⟩ := st.slot i _ h1
  rw [h2] at e1
  cases e1
  cases e2
  have mh : Same M (upd H a (.lst vs)) := fun b o e => by
    rw [upd_ne (ne_of_none e nM)]
    exact st.bs.mh _ _ e
  have hi : i < ρ.length := (List.getElem?_eq_some_iff.mp h1).1
  refine ⟨⟨st.bs.mm, mh, fun b o q1 q2 => ?_⟩, by simp [st.len], fun j s e => ?_, fun j k fs gs b hjk q1 q2 q3 q4 => ?_, st.tmp⟩
  · obtain ⟨r1, r2⟩ := st.bs.far b o q1 q2
    refine ⟨r1, ?_⟩
    rw [upd_ne (ne_of_none q2 n0)]
    exact r2
  · by_cases hj : i = j
    · subst hj
      rw [List.getElem?_set_self hi] at e
      cases e
      exact ⟨_, h2, a, vs, rfl, n0, nM, upd_same, hd⟩
    · rw [List.getElem?_set_ne hj] at e
      obtain ⟨v, e1, hs⟩ := st.slot j s e
      refine ⟨v, e1, ?_⟩
      cases s with
      | no => trivial
      | va d => exact hs
      | own fs =>
        obtain ⟨b, ws, rfl, r1, r2, r3, r4⟩ := hs
        have nb : b ≠ a := fun z => by
          subst z
          exact st.dis i j es fs b hj h1 e h2 e1
        exact ⟨b, ws, rfl, r1, r2, by rw [upd_ne nb]; exact r3, r4⟩
      | scr ns => exact hs
      | raw x => exact hs
  · have old : ∀ (k : Nat) (gs : List Dt), (ρ.set i (Sl.own ds))[k]? = some (.own gs) → ∃ gs', ρ[k]? = some (.own gs') := fun k gs e => by
      by_cases hk : i = k
      · subst hk; exact ⟨es, h1⟩
      · rw [List.getElem?_set_ne hk] at e; exact ⟨gs, e⟩
    obtain ⟨fs', z1⟩ := old j fs q1
    obtain ⟨gs', z2⟩ := old k gs q2
    exact st.dis j k fs' gs' b hjk z1 z2 q3 q4
/-- a slot's list is ours no more: it is data from now on -/
theorem StM.frz {M : Hp} {i : Nat} {a : Addr} {es : List Dt} (st : StM K M0 H0 σ H ρ T M) (h1 : ρ[i]? = some (.own es)) (h2 : σ[i]? = some (some (.ref a))) :
    ∃ M', StM K M0 H0 σ H (ρ.set i (.va (.list es))) ((.ref a, .list es) :: T) M' := by
  obtain ⟨v, e1, a', vs, e2, n0, nM, hH, hd⟩ := st.slot i _ h1
  rw [h2] at e1
  cases e1
  cases e2
  have hi : i < ρ.length := (List.getElem?_eq_some_iff.mp h1).1
  have mm : Same M (upd M a (.lst vs)) := fun b o e => by
    rw [upd_ne (ne_of_none e nM)]
    exact e
  have mh : Same (upd M a (.lst vs)) H := fun b o e => by
    by_cases hb : b = a
    · subst hb; rw [upd_same] at e; cases e; exact hH
    · rw [upd_ne hb] at e; exact st.bs.mh _ _ e
  have dn : Dn K (upd M a (.lst vs)) (.ref a) (.list es) := .lst upd_same (hd.mono mm)
  refine ⟨upd M a (.lst vs), ⟨st.bs.mm.trans mm, mh, fun b o q1 q2 => ?_⟩, by simp [st.len], fun j s e => ?_, fun j k fs gs b hjk q1 q2 q3 q4 => ?_, fun p hp => ?_⟩
  · obtain ⟨r1, r2⟩ := st.bs.far b o q1 q2
    refine ⟨?_, r2⟩
    rw [upd_ne (ne_of_none q2 n0)]
    exact r1
  · by_cases hj : i = j
    · subst hj
      rw [List.getElem?_set_self hi] at e
      cases e
      exact ⟨_, h2, _, rfl, dn⟩
    · rw [List.getElem?_set_ne hj] at e
      obtain ⟨v, e1, hs⟩ := st.slot j s e
      refine ⟨v, e1, ?_⟩
      cases s with
      | no => trivial
      | va d =>
        obtain ⟨x, e, hx⟩ := hs
        exact ⟨x, e, hx.mono mm⟩
      | own fs =>
        obtain ⟨b, ws, rfl, r1, r2, r3, r4⟩ := hs
        have nb : b ≠ a := fun z => by
          subst z
          exact st.dis i j es fs b hj h1 e h2 e1
        exact ⟨b, ws, rfl, r1, by rw [upd_ne nb]; exact r2, r3, r4.mono mm⟩
      | scr ns =>
        obtain ⟨b, e, hx⟩ := hs
        exact ⟨b, e, mm.seq hx⟩
      | raw x => exact hs
  · have old : ∀ (k : Nat) (gs : List Dt), (ρ.set i (Sl.va (.list es)))[k]? = some (.own gs) → ρ[k]? = some (.own gs) := fun k gs e => by
      by_cases hk : i = k
      · subst hk
        rw [List.getElem?_set_self hi] at e
        cases e
      · rw [List.getElem?_set_ne hk] at e; exact e
    exact st.dis j k fs gs b hjk (old j fs q1) (old k gs q2) q3 q4
  · rcases List.mem_cons.mp hp with e | hp
    · subst e; exact dn
    · exact (st.tmp p hp).mono mm
/-- the last slot goes -/
theorem StM.pop {M : Hp} {v : Option V} {s : Sl} (st : StM K M0 H0 (σ ++ [v]) H (ρ ++ [s]) T M) : StM K M0 H0 σ H ρ T M := by
  have hl : σ.length = ρ.length := by have := st.len; simpa using this
  refine ⟨st.bs, hl, fun i s e => ?_, fun i j es fs a hij h1 h2 h3 h4 => ?_, st.tmp⟩
  · have hi := (List.getElem?_eq_some_iff.mp e).1
    obtain ⟨w, e1, h1⟩ := st.slot i s (by rw [List.getElem?_append_left hi]; exact e)
    rw [List.getElem?_append_left (by omega)] at e1
    exact ⟨w, e1, h1⟩
  · have k1 := (List.getElem?_eq_some_iff.mp h1).1
    have k2 := (List.getElem?_eq_some_iff.mp h2).1
    exact st.dis i j es fs a hij (by rw [List.getElem?_append_left k1]; exact h1) (by rw [List.getElem?_append_left k2]; exact h2) (by rw [List.getElem?_append_left (by omega)]; exact h3) (by rw [List.getElem?_append_left (by omega)]; exact h4)
theorem Sta.frzL {p : Addr} {ds : List Dt} (h : Sta K M0 H0 (σ ++ [some (.ref p)]) H (ρ ++ [.own ds]) T) : Sta K M0 H0 σ H ρ ((.ref p, .list ds) :: T) := by
  obtain ⟨M, st⟩ := h
  have hl : σ.length = ρ.length := by have := st.len; simpa using this
  obtain ⟨M', st'⟩ := st.frz (i := ρ.length) (a := p) (es := ds) (by simp) (by rw [← hl]; simp)
  have e : (ρ ++ [Sl.own ds]).set ρ.length (.va (.list ds)) = ρ ++ [.va (.list ds)] := by simp
  rw [e] at st'
  exact ⟨M', st'.pop⟩
/-- the last slot's list goes to the slot i -/
theorem Sta.moveO {p : Addr} {ds : List Dt} (i : Nat) (h : Sta K M0 H0 (σ ++ [some (.ref p)]) H (ρ ++ [.own ds]) T) : Sta K M0 H0 (σ.set i (some (.ref p))) H (ρ.set i (.own ds)) T := by
  obtain ⟨M, st⟩ := h
  have hl : σ.length = ρ.length := by have := st.len; simpa using this
  have last := st.slot ρ.length (.own ds) (by simp)
  have hs : (σ ++ [some (V.ref p)])[ρ.length]? = some (some (.ref p)) := by rw [← hl]; simp
  have st' := st.pop
  have apart : ∀ (k : Nat) (gs : List Dt), ρ[k]? = some (.own gs) → σ[k]? = some (some (V.ref p)) → False := fun k gs e1 e2 => by
    have k1 := (List.getElem?_eq_some_iff.mp e1).1
    exact st.dis k ρ.length gs ds p (by omega) (by rw [List.getElem?_append_left k1]; exact e1) (by simp) (by rw [List.getElem?_append_left (by omega)]; exact e2) hs
  refine ⟨M, st'.bs, by simp [hl], fun j s e => ?_, fun j k fs gs a hjk q1 q2 q3 q4 => ?_, st'.tmp⟩
  · by_cases hj : i = j
    · subst hj
      have hi : i < ρ.length := by
        have := (List.getElem?_eq_some_iff.mp e).1
        simpa using this
      rw [List.getElem?_set_self hi] at e
      cases e
      obtain ⟨v, e1, h1⟩ := last
      rw [hs] at e1
      cases e1
      exact ⟨_, List.getElem?_set_self (by omega), h1⟩
    · rw [List.getElem?_set_ne hj] at e ⊢
      exact st'.slot j s e
  · by_cases hj : i = j
    · subst hj
      have nk : i ≠ k := hjk
      have hi : i < ρ.length := by
        have := (List.getElem?_eq_some_iff.mp q1).1
        simpa using this
      rw [List.getElem?_set_ne nk] at q2 q4
      rw [List.getElem?_set_self (by omega)] at q3
      cases q3
      exact apart k gs q2 q4
    · by_cases hk : i = k
      · subst hk
        have hi : i < ρ.length := by
          have := (List.getElem?_eq_some_iff.mp q2).1
          simpa using this
        rw [List.getElem?_set_ne hj] at q1 q3
        rw [List.getElem?_set_self (by omega)] at q4
        cases q4
        exact apart j fs q1 q3
      · rw [List.getElem?_set_ne hj] at q1 q3
        rw [List.getElem?_set_ne hk] at q2 q4
        exact st'.dis j k fs gs a hjk q1 q2 q3 q4
theorem Sta.own {i : Nat} {es : List Dt} (h : Sta K M0 H0 σ H ρ T) (e : ρ[i]? = some (.own es)) : ∃ a vs M, σ[i]? = some (some (.ref a)) ∧ H a = some (.lst vs) ∧ StM K M0 H0 σ H ρ T M ∧ DnA K M vs es := by
  obtain ⟨M, st⟩ := h
  obtain ⟨v, e1, a, vs, rfl, n0, nM, hH, hd⟩ := st.slot i _ e
  exact ⟨a, vs, M, e1, hH, st, hd⟩
theorem Sta.frz {i : Nat} {es : List Dt} (h : Sta K M0 H0 σ H ρ T) (e : ρ[i]? = some (.own es)) : ∃ a, σ[i]? = some (some (.ref a)) ∧ Sta K M0 H0 σ H (ρ.set i (.va (.list es))) ((.ref a, .list es) :: T) := by
  obtain ⟨a, vs, M, e1, _, st, _⟩ := h.own e
  obtain ⟨M', st'⟩ := st.frz e e1
  exact ⟨a, e1, M', st'⟩

theorem StM.at {M : Hp} {v : V} {d : Dt} (st : StM K M0 H0 σ H ρ T M) (h : (v, d) ∈ T) : Dn K M v d := st.tmp _ h
/-- lists of ours out of sight -/
def hid : Sl → Sl
  | .own _ => .no
  | s => s
/-- ρ' says less than ρ does -/
def Less (ρ' ρ : List Sl) : Prop := ρ'.length = ρ.length ∧ ∀ (i : Nat) (s : Sl), ρ'[i]? = some s → s = .no ∨ ((∀ ds, s ≠ .own ds) ∧ ρ[i]? = some s)
theorem StM.less {M : Hp} {ρ' : List Sl} (st : StM K M0 H0 σ H ρ T M) (l : Less ρ' ρ) : StM K M H σ H ρ' T M := by
  refine ⟨Bs.refl st.bs.mh, by rw [st.len, l.1], fun i s e => ?_, fun i j es fs a hij h1 h2 h3 h4 => ?_, st.tmp⟩
  · rcases l.2 i s e with rfl | ⟨no, e'⟩
    · have hi := (List.getElem?_eq_some_iff.mp e).1
      have hl := st.len
      have hl2 := l.1
      exact ⟨σ[i]'(by omega), List.getElem?_eq_getElem (by omega), trivial⟩
    · obtain ⟨v, e1, h1⟩ := st.slot i s e'
      refine ⟨v, e1, ?_⟩
      cases s with
      | own ds => exact absurd rfl (no ds)
      | no => trivial
      | va d => exact h1
      | scr ns => exact h1
      | raw x => exact h1
  · rcases l.2 i _ h1 with z | ⟨z, _⟩
    · cases z
    · exact absurd rfl (z es)
end
end Fr
namespace Fr
open PySem PySem.Spec PyProof.Rows L2

section
variable (K : PySem.W.Frag)
def Ev (te : TE) (ρ : List Sl) (d : Dt) : Prop := ∀ (M0 H0 : Hp) (σ : L2.St) (H : Hp) (T : List (V × Dt)) (Q : VK), Sta K M0 H0 σ H ρ T → (∀ v H', Sta K M0 H0 σ H' ρ ((v, d) :: T) → Q v H') → te σ H Q
/-- a new list, ours alone -/
def EvN (te : TE) (ρ : List Sl) (ds : List Dt) : Prop := ∀ (M0 H0 : Hp) (σ : L2.St) (H : Hp) (T : List (V × Dt)) (Q : VK), Sta K M0 H0 σ H ρ T → (∀ p H', Sta K M0 H0 (σ ++ [some (.ref p)]) H' (ρ ++ [.own ds]) T → Q (.ref p) H') → te σ H Q
/-- a value, or an exception's class -/
def EvE (E : XK) (te : TE) (ρ : List Sl) (r : Except Value Dt) : Prop := ∀ (M0 H0 : Hp) (σ : L2.St) (H : Hp) (T : List (V × Dt)) (Q : VK), Sta K M0 H0 σ H ρ T →
  (∀ d, r = .ok d → ∀ v H', Sta K M0 H0 σ H' ρ ((v, d) :: T) → Q v H') → (∀ c, r = .error c → ∀ H', AftX M0 H0 H' → E c none H') → te σ H Q
def EvA (ta : TA) (ρ : List Sl) (ds : List Dt) : Prop := ∀ (M0 H0 : Hp) (σ : L2.St) (H : Hp) (T : List (V × Dt)) (Q : List V → Hp → Prop), Sta K M0 H0 σ H ρ T →
  (∀ vs H', Sta K M0 H0 σ H' ρ (vs.zip ds ++ T) → vs.length = ds.length → Q vs H') → ta σ H Q
def EvT (tt : TT) (ρ : List Sl) (b : Bool) : Prop := ∀ (M0 H0 : Hp) (σ : L2.St) (H : Hp) (T : List (V × Dt)) (Q : Bool → Hp → Prop), Sta K M0 H0 σ H ρ T → (∀ H', Sta K M0 H0 σ H' ρ T → Q b H') → tt σ H Q
def EvO (to : TO) (ρ : List Sl) (o : Option Int) : Prop := ∀ (M0 H0 : Hp) (σ : L2.St) (H : Hp) (T : List (V × Dt)) (Q : Option Int → Hp → Prop), Sta K M0 H0 σ H ρ T → (∀ H', Sta K M0 H0 σ H' ρ T → Q o H') → to σ H Q
/-- an operation on two values; one whose answer is a new list -/
def RV (r : R2) (x y z : Dt) : Prop := ∀ (M0 H0 : Hp) (σ : L2.St) (H : Hp) (ρ : List Sl) (T : List (V × Dt)) (Q : VK) (vx vy : V), Sta K M0 H0 σ H ρ T → (vx, x) ∈ T → (vy, y) ∈ T →
  (∀ v H', Sta K M0 H0 σ H' ρ ((v, z) :: T) → Q v H') → r vx vy H Q
def RVN (r : R2) (x y : Dt) (zs : List Dt) : Prop := ∀ (M0 H0 : Hp) (σ : L2.St) (H : Hp) (ρ : List Sl) (T : List (V × Dt)) (Q : VK) (vx vy : V), Sta K M0 H0 σ H ρ T → (vx, x) ∈ T → (vy, y) ∈ T →
  (∀ p H', Sta K M0 H0 (σ ++ [some (.ref p)]) H' (ρ ++ [.own zs]) T → Q (.ref p) H') → r vx vy H Q
def RU (r : V → Hp → VK → Prop) (x z : Dt) : Prop := ∀ (M0 H0 : Hp) (σ : L2.St) (H : Hp) (ρ : List Sl) (T : List (V × Dt)) (Q : VK) (vx : V), Sta K M0 H0 σ H ρ T → (vx, x) ∈ T →
  (∀ v H', Sta K M0 H0 σ H' ρ ((v, z) :: T) → Q v H') → r vx H Q
def RC (r : List V → Hp → VK → Prop) (ds : List Dt) (z : Dt) : Prop := ∀ (M0 H0 : Hp) (σ : L2.St) (H : Hp) (ρ : List Sl) (T : List (V × Dt)) (Q : VK) (vs : List V), Sta K M0 H0 σ H ρ T → (∀ p ∈ vs.zip ds, p ∈ T) → vs.length = ds.length →
  (∀ v H', Sta K M0 H0 σ H' ρ ((v, z) :: T) → Q v H') → r vs H Q
def RCN (r : List V → Hp → VK → Prop) (ds zs : List Dt) : Prop := ∀ (M0 H0 : Hp) (σ : L2.St) (H : Hp) (ρ : List Sl) (T : List (V × Dt)) (Q : VK) (vs : List V), Sta K M0 H0 σ H ρ T → (∀ p ∈ vs.zip ds, p ∈ T) → vs.length = ds.length →
  (∀ p H', Sta K M0 H0 (σ ++ [some (.ref p)]) H' (ρ ++ [.own zs]) T → Q (.ref p) H') → r vs H Q
end
section
variable {K : PySem.W.Frag} {ρ : List Sl} {ta tb te tc : TE} {x y z d : Dt} {t u : TT}
theorem mem2 {α : Type} {a b : α} {l : List α} : b ∈ a :: b :: l := by simp
theorem mem1 {α : Type} {a : α} {l : List α} : a ∈ a :: l := by simp
theorem Ev.e {E : XK} (h : Ev K te ρ d) : EvE K E te ρ (.ok d) := fun M0 H0 σ H T Q s q _ => h M0 H0 σ H T Q s (q d rfl)
theorem EvN.da {ds : List Dt} (h : EvN K te ρ ds) : Ev K te ρ (.list ds) := fun M0 H0 σ H T Q s q => h M0 H0 σ H T Q s fun p H' s' => q _ _ s'.frzL
theorem Ev.to (h : Ev K te ρ d) (e : d = x) : Ev K te ρ x := e ▸ h
theorem EvT.to {a b : Bool} (h : EvT K t ρ a) (e : a = b) : EvT K t ρ b := e ▸ h
theorem EvN.to {ds es : List Dt} (h : EvN K te ρ ds) (e : ds = es) : EvN K te ρ es := e ▸ h
theorem ev_var {i : Nat} (h : ρ[i]? = some (.va d)) : Ev K (tVar i) ρ d := fun M0 H0 σ H T Q s q => by
  obtain ⟨v, e, s'⟩ := s.va h
  exact ⟨v, e, q v H s'⟩
theorem ev_c {v : V} (h : ∀ M, Dn K M v d) : Ev K (tC v) ρ d := fun M0 H0 σ H T Q s q => q v H (s.add fun M _ => h M)
theorem ev_int {i : Int} : Ev K (tC (.int i)) ρ (.int i) := ev_c fun _ => .int i
theorem ev_bl {i : Bool} : Ev K (tC (.bl i)) ρ (.bool i) := ev_c fun _ => .bl i
theorem ev_str {i : Str} : Ev K (tC (.str i)) ρ (.str i) := ev_c fun _ => .str i
theorem ev_non : Ev K (tC .non) ρ .none := ev_c fun _ => .non
theorem ev_op {r : R2} (ha : Ev K ta ρ x) (hb : Ev K tb ρ y) (hr : RV K r x y z) : Ev K (tOp r ta tb) ρ z := fun M0 H0 σ H T Q s q =>
  ha M0 H0 σ H T _ s fun v1 H1 s1 => hb M0 H0 σ H1 _ _ s1 fun v2 H2 s2 => hr M0 H0 σ H2 ρ _ Q v1 v2 s2 mem2 mem1 fun v3 H3 s3 => q v3 H3 (s3.same_sub fun p hp => by
    rcases List.mem_cons.mp hp with e | hp
    · simp [e]
    · simp [hp])
theorem evn_op {r : R2} {zs : List Dt} (ha : Ev K ta ρ x) (hb : Ev K tb ρ y) (hr : RVN K r x y zs) : EvN K (tOp r ta tb) ρ zs := fun M0 H0 σ H T Q s q =>
  ha M0 H0 σ H T _ s fun v1 H1 s1 => hb M0 H0 σ H1 _ _ s1 fun v2 H2 s2 => hr M0 H0 σ H2 ρ _ Q v1 v2 s2 mem2 mem1 fun v3 H3 s3 => q v3 H3 (s3.same_sub fun p hp => by simp [hp])
theorem ev_un {r : V → Hp → VK → Prop} (ha : Ev K ta ρ x) (hr : RU K r x z) : Ev K (tUn r ta) ρ z := fun M0 H0 σ H T Q s q =>
  ha M0 H0 σ H T _ s fun v1 H1 s1 => hr M0 H0 σ H1 ρ _ Q v1 s1 mem1 fun v3 H3 s3 => q v3 H3 (s3.same_sub fun p hp => by
    rcases List.mem_cons.mp hp with e | hp
    · simp [e]
    · simp [hp])
theorem rv_I0 {g : Int → Int → V} {i j : Int} (h : ∀ M, Dn K M (g i j) z) : RV K (rI0 g) (.int i) (.int j) z := fun M0 H0 σ H ρ T Q vx vy s m1 m2 q => by
  obtain ⟨M, _, h1⟩ := s.tmp m1
  obtain ⟨M', _, h2⟩ := s.tmp m2
  exact ⟨i, j, h1.int_inv, h2.int_inv, q _ H (s.add fun M _ => h M)⟩
theorem rv_I {C : Int → Int → Prop} {g : Int → Int → V} {i j : Int} (hc : C i j) (h : ∀ M, Dn K M (g i j) z) : RV K (rI C g) (.int i) (.int j) z := fun M0 H0 σ H ρ T Q vx vy s m1 m2 q => by
  obtain ⟨M, _, h1⟩ := s.tmp m1
  obtain ⟨M', _, h2⟩ := s.tmp m2
  exact ⟨i, j, h1.int_inv, h2.int_inv, hc, q _ H (s.add fun M _ => h M)⟩
theorem ru_I {g : Int → V} {i : Int} (h : ∀ M, Dn K M (g i) z) : RU K (rU g) (.int i) z := fun M0 H0 σ H ρ T Q vx s m1 q => by
  obtain ⟨M, _, h1⟩ := s.tmp m1
  exact ⟨i, h1.int_inv, q _ H (s.add fun M _ => h M)⟩
theorem rv_eqI {i j : Int} : RV K rEq (.int i) (.int j) (.bool (decide (i = j))) := fun M0 H0 σ H ρ T Q vx vy s m1 m2 q => by
  obtain ⟨M, _, h1⟩ := s.tmp m1
  obtain ⟨M', _, h2⟩ := s.tmp m2
  rw [h1.int_inv, h2.int_inv]
  refine ⟨rfl, q _ H (s.add fun M _ => ?_)⟩
  rw [show decide (V.int i = V.int j) = decide (i = j) by simp]
  exact .bl _
theorem rv_neI {i j : Int} : RV K rNe (.int i) (.int j) (.bool (!decide (i = j))) := fun M0 H0 σ H ρ T Q vx vy s m1 m2 q => by
  obtain ⟨M, _, h1⟩ := s.tmp m1
  obtain ⟨M', _, h2⟩ := s.tmp m2
  rw [h1.int_inv, h2.int_inv]
  refine ⟨rfl, q _ H (s.add fun M _ => ?_)⟩
  rw [show decide (V.int i = V.int j) = decide (i = j) by simp]
  exact .bl _
theorem rv_eqS {i j : Str} : RV K rEq (.str i) (.str j) (.bool (decide (i = j))) := fun M0 H0 σ H ρ T Q vx vy s m1 m2 q => by
  obtain ⟨M, _, h1⟩ := s.tmp m1
  obtain ⟨M', _, h2⟩ := s.tmp m2
  rw [h1.str_inv, h2.str_inv]
  refine ⟨rfl, q _ H (s.add fun M _ => ?_)⟩
  rw [show decide (V.str i = V.str j) = decide (i = j) by simp]
  exact .bl _
theorem rv_neS {i j : Str} : RV K rNe (.str i) (.str j) (.bool (!decide (i = j))) := fun M0 H0 σ H ρ T Q vx vy s m1 m2 q => by
  obtain ⟨M, _, h1⟩ := s.tmp m1
  obtain ⟨M', _, h2⟩ := s.tmp m2
  rw [h1.str_inv, h2.str_inv]
  refine ⟨rfl, q _ H (s.add fun M _ => ?_)⟩
  rw [show decide (V.str i = V.str j) = decide (i = j) by simp]
  exact .bl _
theorem rv_neB {i j : Bool} : RV K rNe (.bool i) (.bool j) (.bool (!decide (i = j))) := fun M0 H0 σ H ρ T Q vx vy s m1 m2 q => by
  obtain ⟨M, _, h1⟩ := s.tmp m1
  obtain ⟨M', _, h2⟩ := s.tmp m2
  rw [h1.bl_inv, h2.bl_inv]
  refine ⟨rfl, q _ H (s.add fun M _ => ?_)⟩
  rw [show decide (V.bl i = V.bl j) = decide (i = j) by simp]
  exact .bl _
theorem rv_eqD (h1 : SeqAt.shaped x = true) (h2 : SeqAt.shaped y = true) : RV K (rEqD K) x y (.bool (PyData.eqv x y)) := fun M0 H0 σ H ρ T Q vx vy s m1 m2 q => by
  obtain ⟨M, st⟩ := id s
  exact ⟨x, y, ((st.at m1).mono st.bs.mh).dp, ((st.at m2).mono st.bs.mh).dp, h1, h2, q _ H (s.add fun M _ => .bl _)⟩
theorem rv_neD (h1 : SeqAt.shaped x = true) (h2 : SeqAt.shaped y = true) : RV K (rNeD K) x y (.bool (!PyData.eqv x y)) := fun M0 H0 σ H ρ T Q vx vy s m1 m2 q => by
  obtain ⟨M, st⟩ := id s
  exact ⟨x, y, ((st.at m1).mono st.bs.mh).dp, ((st.at m2).mono st.bs.mh).dp, h1, h2, q _ H (s.add fun M _ => .bl _)⟩
def isN : Dt → Bool
  | .none => true
  | _ => false
theorem Dn.isN {M : Hp} {v : V} (h : Dn K M v d) : decide (v = .non) = Fr.isN d := by
  cases h <;> simp [Fr.isN]
theorem rv_isN : RV K (fun x y H Q => y = .non ∧ Q (.bl (decide (x = .non))) H) d .none (.bool (isN d)) := fun M0 H0 σ H ρ T Q vx vy s m1 m2 q => by
  obtain ⟨M, _, h1⟩ := s.tmp m1
  obtain ⟨M', _, h2⟩ := s.tmp m2
  exact ⟨h2.non_inv, q _ H (s.add fun M _ => by rw [h1.isN]; exact .bl _)⟩
theorem rv_notN : RV K (fun x y H Q => y = .non ∧ Q (.bl (!decide (x = .non))) H) d .none (.bool (!isN d)) := fun M0 H0 σ H ρ T Q vx vy s m1 m2 q => by
  obtain ⟨M, _, h1⟩ := s.tmp m1
  obtain ⟨M', _, h2⟩ := s.tmp m2
  exact ⟨h2.non_inv, q _ H (s.add fun M _ => by rw [h1.isN]; exact .bl _)⟩
theorem DnA.at {M : Hp} {vs : List V} {ds : List Dt} {i : Int} (h : DnA K M vs ds) (e : atI ds i = some d) : ∃ v, atI vs i = some v ∧ Dn K M v d := by
  unfold atI at e ⊢
  rw [h.len]
  cases q : ixN ds.length i with
  | none => rw [q] at e; cases e
  | some j =>
    rw [q] at e
    exact h.get e
theorem rv_ixT {ds : List Dt} {i : Int} (e : atI ds i = some d) : RV K (rIxT K) (.tuple ds) (.int i) d := fun M0 H0 σ H ρ T Q vx vy s m1 m2 q => by
  obtain ⟨M, st⟩ := id s
  obtain ⟨a, vs, rfl, h1, h2⟩ := (st.at m1).tup_inv
  obtain ⟨v, ev, hv⟩ := h2.at e
  refine ⟨a, vs, i, v, rfl, (st.at m2).int_inv, sqT_mono st.bs.mh h1, ev, q v H ⟨M, st.grow (Bs.refl st.bs.mh) fun p hp => ?_⟩⟩
  rcases List.mem_cons.mp hp with e | hp
  · subst e; exact hv
  · exact st.tmp p hp
theorem rv_ixL {ds : List Dt} {i : Int} (e : atI ds i = some d) : RV K (rIxL K) (.list ds) (.int i) d := fun M0 H0 σ H ρ T Q vx vy s m1 m2 q => by
  obtain ⟨M, st⟩ := id s
  obtain ⟨a, vs, rfl, h1, h2⟩ := (st.at m1).lst_inv
  obtain ⟨v, ev, hv⟩ := h2.at e
  refine ⟨a, vs, i, v, rfl, (st.at m2).int_inv, SqL.of (st.bs.mh _ _ h1), ev, q v H ⟨M, st.grow (Bs.refl st.bs.mh) fun p hp => ?_⟩⟩
  rcases List.mem_cons.mp hp with e | hp
  · subst e; exact hv
  · exact st.tmp p hp
/-- xs[j], xs a list of ours -/
theorem ev_ixO {i : Nat} {ds : List Dt} {j : Int} (h : ρ[i]? = some (.own ds)) (hb : Ev K tb ρ (.int j)) (e : atI ds j = some d) : Ev K (tOp (rIxL K) (tVar i) tb) ρ d := fun M0 H0 σ H T Q s q => by
  obtain ⟨a, vs, M, e1, _, st, _⟩ := s.own h
  refine ⟨_, e1, hb M0 H0 σ H T _ ⟨M, st⟩ fun v2 H2 s2 => ?_⟩
  obtain ⟨a', vs', M2, e1', h2, st2, hd⟩ := s2.own h
  rw [e1] at e1'
  cases e1'
  obtain ⟨v, ev, hv⟩ := hd.at e
  refine ⟨a, vs', j, v, rfl, (st2.at mem1).int_inv, SqL.of h2, ev, q v H2 ⟨M2, st2.grow (Bs.refl st2.bs.mh) fun p hp => ?_⟩⟩
  rcases List.mem_cons.mp hp with e | hp
  · subst e; exact hv
  · exact st2.tmp p (List.mem_cons_of_mem _ hp)
theorem eqV_int (a b : Int) : eqV (V.int a) (V.int b) = (a == b) := by
  first | rfl | simp [eqV]
theorem rv_inL {i : Int} {ns : List Int} {neg : Bool} : RV K (rIn K neg) (.int i) (.list (ns.map PyData.int)) (.bool (if neg then !ns.contains i else ns.contains i)) := fun M0 H0 σ H ρ T Q vx vy s m1 m2 q => by
  obtain ⟨M, st⟩ := id s
  obtain ⟨a, vs, rfl, h1, h2⟩ := (st.at m2).lst_inv
  obtain rfl : vx = .int i := (st.at m1).int_inv
  have ev := h2.ints
  subst ev
  have e1 : inV (.int i) (ns.map V.int) = ns.contains i := by
    unfold inV
    clear m2 h1 h2 q
    induction ns with
    | nil => rfl
    | cons n ns ih =>
      rw [List.map_cons, List.any_cons, ih, List.contains_cons, eqV_int]
      congr 1
      exact Bool.beq_comm ..
  refine ⟨a, _, rfl, .inl (SqL.of (st.bs.mh _ _ h1)), rfl, by rw [List.all_map]; exact List.all_eq_true.mpr fun _ _ => rfl, q _ H (s.add fun M _ => ?_)⟩
  rw [e1]
  exact .bl _

theorem et_test {b : Bool} (h : Ev K te ρ (.bool b)) : EvT K (tTest te) ρ b := fun M0 H0 σ H T Q s q => h M0 H0 σ H T _ s fun v H' s' => by
  obtain ⟨M, _, hv⟩ := s'.tmp mem1
  exact ⟨b, hv.bl_inv, q H' (s'.same_sub fun p hp => by simp [hp])⟩
theorem et_B {b : Bool} (h : Ev K te ρ (.bool b)) : EvT K (tB te) ρ b := fun M0 H0 σ H T Q s q => h M0 H0 σ H T _ s fun v H' s' => by
  obtain ⟨M, _, hv⟩ := s'.tmp mem1
  exact ⟨b, hv.bl_inv, q H' (s'.same_sub fun p hp => by simp [hp])⟩
theorem et_and {a b : Bool} (h1 : EvT K t ρ a) (h2 : a = true → EvT K u ρ b) : EvT K (tAnd t u) ρ (a && b) := fun M0 H0 σ H T Q s q => h1 M0 H0 σ H T _ s fun H' s' => by
  cases a with
  | true => exact h2 rfl M0 H0 σ H' T Q s' q
  | false => exact q H' s'
theorem et_or {a b : Bool} (h1 : EvT K t ρ a) (h2 : a = false → EvT K u ρ b) : EvT K (tOr t u) ρ (a || b) := fun M0 H0 σ H T Q s q => h1 M0 H0 σ H T _ s fun H' s' => by
  cases a with
  | true => exact q H' s'
  | false => exact h2 rfl M0 H0 σ H' T Q s' q
theorem et_not {a : Bool} (h1 : EvT K t ρ a) : EvT K (tNot t) ρ (!a) := fun M0 H0 σ H T Q s q => h1 M0 H0 σ H T _ s q
theorem ev_notV {a : Bool} (h1 : Ev K ta ρ (.bool a)) : Ev K (tNotV ta) ρ (.bool (!a)) := fun M0 H0 σ H T Q s q => h1 M0 H0 σ H T _ s fun v H' s' => by
  obtain ⟨M, _, hv⟩ := s'.tmp mem1
  exact ⟨a, hv.bl_inv, q _ H' ((s'.same_sub (fun p hp => by simp [hp])).add fun M _ => .bl _)⟩
theorem ev_andV {a b : Bool} (h1 : Ev K ta ρ (.bool a)) (h2 : a = true → Ev K tb ρ (.bool b)) : Ev K (tAndV ta tb) ρ (.bool (a && b)) := fun M0 H0 σ H T Q s q => h1 M0 H0 σ H T _ s fun v H' s' => by
  obtain ⟨M, _, hv⟩ := s'.tmp mem1
  have s2 : Sta K M0 H0 σ H' ρ T := s'.same_sub (fun p hp => by simp [hp])
  refine ⟨a, hv.bl_inv, ?_⟩
  cases a with
  | true => exact h2 rfl M0 H0 σ H' T Q s2 q
  | false => exact q _ H' (s2.add fun M _ => .bl _)
theorem ev_orV {a b : Bool} (h1 : Ev K ta ρ (.bool a)) (h2 : a = false → Ev K tb ρ (.bool b)) : Ev K (tOrV ta tb) ρ (.bool (a || b)) := fun M0 H0 σ H T Q s q => h1 M0 H0 σ H T _ s fun v H' s' => by
  obtain ⟨M, _, hv⟩ := s'.tmp mem1
  have s2 : Sta K M0 H0 σ H' ρ T := s'.same_sub (fun p hp => by simp [hp])
  refine ⟨a, hv.bl_inv, ?_⟩
  cases a with
  | true => exact q _ H' (s2.add fun M _ => .bl _)
  | false => exact h2 rfl M0 H0 σ H' T Q s2 q
theorem ev_if {b : Bool} (h : EvT K t ρ b) (h1 : b = true → Ev K ta ρ x) (h2 : b = false → Ev K tb ρ y) : Ev K (tIf t ta tb) ρ (if b then x else y) := fun M0 H0 σ H T Q s q => h M0 H0 σ H T _ s fun H' s' => by
  cases b with
  | true => exact h1 rfl M0 H0 σ H' T Q s' q
  | false => exact h2 rfl M0 H0 σ H' T Q s' q
/-- a < b <= c of whole numbers -/
theorem ev_chain {g g' : Int → Int → Bool} {i j k : Int} (ha : Ev K ta ρ (.int i)) (hb : Ev K tb ρ (.int j)) (hc : Ev K tc ρ (.int k)) :
    Ev K (tChain (rI0 fun i j => .bl (g i j)) (rI0 fun i j => .bl (g' i j)) ta tb tc) ρ (.bool (g i j && g' j k)) := fun M0 H0 σ H T Q s q =>
  ha M0 H0 σ H T _ s fun v1 H1 s1 => hb M0 H0 σ H1 _ _ s1 fun v2 H2 s2 => by
    obtain ⟨M, st⟩ := id s2
    refine ⟨i, j, (st.at mem2).int_inv, (st.at mem1).int_inv, g i j, rfl, ?_⟩
    cases e : g i j with
    | false =>
      rw [if_neg Bool.false_ne_true]
      exact q _ H2 ((s2.same_sub fun p hp => by simp [hp]).add fun M _ => by rw [e, Bool.false_and]; exact .bl _)
    | true =>
      rw [if_pos rfl]
      refine hc M0 H0 σ H2 _ _ s2 fun v3 H3 s3 => ?_
      obtain ⟨M3, st3⟩ := id s3
      exact ⟨j, k, (st.at mem1).int_inv, (st3.at mem1).int_inv, q _ H3 ((s3.same_sub fun p hp => by simp [hp]).add fun M _ => by rw [e, Bool.true_and]; exact .bl _)⟩

theorem ea_nil : EvA K tNil ρ [] := fun M0 H0 σ H T Q s q => q [] H s rfl
theorem ea_cons {tr : TA} {ds : List Dt} (h : Ev K ta ρ d) (hr : EvA K tr ρ ds) : EvA K (tCons ta tr) ρ (d :: ds) := fun M0 H0 σ H T Q s q =>
  h M0 H0 σ H T _ s fun v H1 s1 => hr M0 H0 σ H1 _ _ s1 fun vs H2 s2 l => q (v :: vs) H2 (s2.same_sub fun p hp => by
    rw [List.zip_cons_cons, List.cons_append] at hp
    rcases List.mem_cons.mp hp with e | hp
    · simp [e]
    · rcases List.mem_append.mp hp with hp | hp <;> simp [hp]) (by simp [l])
theorem app_l {α : Type} {a b : List α} : ∀ p ∈ a, p ∈ a ++ b := fun p hp => by simp [hp]
theorem ev_tup {ta : TA} {ds : List Dt} (h : EvA K ta ρ ds) (hl : ds.length ≤ 1000000) : Ev K (tTup ta) ρ (.tuple ds) := fun M0 H0 σ H T Q s q => h M0 H0 σ H T _ s fun vs H1 s1 l => by
  refine ⟨by rw [l, sizeLine_eq]; omega, fun p hp => ?_⟩
  obtain ⟨M, st, hd⟩ := s1.tmpA (vs := vs) (ds := ds) app_l l
  have b := bs_new (o := .tup vs) st.bs.mh hp
  refine q _ _ ⟨_, st.grow b fun p' hp' => ?_⟩
  rcases List.mem_cons.mp hp' with e | hp'
  · subst e; exact .tup (.inl (.inl upd_same)) (hd.mono b.mm)
  · exact (st.tmp p' (by simp [hp'])).mono b.mm
theorem StM.sub {M M0 H0 H : Hp} {σ : L2.St} {T T' : List (V × Dt)} (st : StM K M0 H0 σ H ρ T M) (h : ∀ p ∈ T', p ∈ T) : StM K M0 H0 σ H ρ T' M := ⟨st.bs, st.len, st.slot, st.dis, fun p hp => st.tmp p (h p hp)⟩
theorem evn_lst {ta : TA} {ds : List Dt} (h : EvA K ta ρ ds) (hl : ds.length ≤ 1000000) : EvN K (tLst ta) ρ ds := fun M0 H0 σ H T Q s q => h M0 H0 σ H T _ s fun vs H1 s1 l => by
  refine ⟨by rw [l, sizeLine_eq]; omega, fun p hp => ?_⟩
  obtain ⟨M, st, hd⟩ := s1.tmpA (vs := vs) (ds := ds) app_l l
  exact q _ _ ⟨M, (st.newO hp hd).sub fun p' hp' => by simp [hp']⟩
theorem ev_cb {r : List V → Hp → VK → Prop} {ta : TA} {ds : List Dt} (h : EvA K ta ρ ds) (hr : RC K r ds z) : Ev K (tCB r ta) ρ z := fun M0 H0 σ H T Q s q => h M0 H0 σ H T _ s fun vs H1 s1 l =>
  hr M0 H0 σ H1 ρ _ Q vs s1 app_l l fun v H2 s2 => q v H2 (s2.same_sub fun p hp => by
    rcases List.mem_cons.mp hp with e | hp
    · simp [e]
    · simp [hp])
theorem evn_cb {r : List V → Hp → VK → Prop} {ta : TA} {ds zs : List Dt} (h : EvA K ta ρ ds) (hr : RCN K r ds zs) : EvN K (tCB r ta) ρ zs := fun M0 H0 σ H T Q s q => h M0 H0 σ H T _ s fun vs H1 s1 l =>
  hr M0 H0 σ H1 ρ _ Q vs s1 app_l l fun v H2 s2 => q v H2 (s2.same_sub fun p hp => by simp [hp])
/-- a def's promise: Pr of the arguments and what comes of them -/
def spD (K : PySem.W.Frag) (Pr : List Dt → Except Value Dt → Prop) : Sp := fun vs H Q E => ∃ (M : Hp) (ds : List Dt) (r : Except Value Dt), Same M H ∧ DnA K M vs ds ∧ Pr ds r ∧
  (∀ d, r = .ok d → ∀ v H', Aft K M H v H' d → Q v H') ∧ (∀ c, r = .error c → ∀ H', AftX M H H' → E c none H')
theorem ev_call {Pr : List Dt → Except Value Dt → Prop} {E : XK} {ta : TA} {ds : List Dt} (h : EvA K ta ρ ds) (hp : Pr ds (.ok d)) : Ev K (tCall (spD K Pr) [] E ta) ρ d := fun M0 H0 σ H T Q s q => h M0 H0 σ H T _ s fun vs H1 s1 l => by
  obtain ⟨M, st, hd⟩ := s1.tmpA (vs := vs) (ds := ds) app_l l
  refine ⟨M, ds, .ok d, st.bs.mh, by rw [List.append_nil]; exact hd, hp, fun d' e v H' ⟨M', b, hv⟩ => ?_, fun c e => by cases e⟩
  cases e
  refine q v H' ⟨M', st.grow b fun p hp => ?_⟩
  rcases List.mem_cons.mp hp with e | hp
  · subst e; exact hv
  · exact (st.tmp p (by simp [hp])).mono b.mm
theorem eve_call {Pr : List Dt → Except Value Dt → Prop} {E : XK} {ta : TA} {ds : List Dt} {r : Except Value Dt} (h : EvA K ta ρ ds) (hp : Pr ds r) : EvE K E (tCall (spD K Pr) [] E ta) ρ r := fun M0 H0 σ H T Q s q qx => h M0 H0 σ H T _ s fun vs H1 s1 l => by
  obtain ⟨M, st, hd⟩ := s1.tmpA (vs := vs) (ds := ds) app_l l
  refine ⟨M, ds, r, st.bs.mh, by rw [List.append_nil]; exact hd, hp, fun d' e v H' ⟨M', b, hv⟩ => ?_, fun c e H' ⟨M', b⟩ => qx c e H' ⟨M', st.bs.trans b⟩⟩
  refine q d' e v H' ⟨M', st.grow b fun p hp => ?_⟩
  rcases List.mem_cons.mp hp with e | hp
  · subst e; exact hv
  · exact (st.tmp p (by simp [hp])).mono b.mm
end
end Fr
namespace Fr
open PySem PySem.Spec PyProof.Rows L2
section
variable {K : PySem.W.Frag} {ρ : List Sl} {ta tb te tc : TE} {x y z d : Dt} {t u : TT}
/-- a new list as an answer -/
theorem Sta.fresh {M0 H0 H : Hp} {σ : L2.St} {T : List (V × Dt)} {p : Addr} {vs : List V} {ds : List Dt} (s : Sta K M0 H0 σ H ρ T) (n : H p = none) (h : ∀ M, StM K M0 H0 σ H ρ T M → DnA K M vs ds) :
    Sta K M0 H0 (σ ++ [some (.ref p)]) (upd H p (.lst vs)) (ρ ++ [.own ds]) T := by
  obtain ⟨M, st⟩ := s
  exact ⟨M, st.newO n (h M st)⟩
theorem rc_one {α : Prop} {vs : List V} {d : Dt} {T : List (V × Dt)} (l : vs.length = [d].length) (m : ∀ p ∈ vs.zip [d], p ∈ T) (k : ∀ v, vs = [v] → (v, d) ∈ T → α) : α := by
  match vs, l with
  | [v], _ => exact k v rfl (m (v, d) (by simp))
theorem rc_two {α : Prop} {vs : List V} {d e : Dt} {T : List (V × Dt)} (l : vs.length = [d, e].length) (m : ∀ p ∈ vs.zip [d, e], p ∈ T) (k : ∀ v w, vs = [v, w] → (v, d) ∈ T → (w, e) ∈ T → α) : α := by
  match vs, l with
  | [v, w], _ => exact k v w rfl (m (v, d) (by simp)) (m (w, e) (by simp))
/-- len -/
abbrev rLenQ (K : PySem.W.Frag) : List V → Hp → VK → Prop := fun xs H Q => ∃ p ys, xs = [.ref p] ∧ (SqL K H p ys ∨ SqT K H p ys) ∧ Q (.int ys.length) H
theorem rc_lenL {ds : List Dt} : RC K (rLenQ K) [.list ds] (.int ds.length) := fun M0 H0 σ H ρ T Q vs s m l q => rc_one l m fun v e hv => by
  obtain ⟨M, st⟩ := id s
  obtain ⟨a, ws, rfl, h1, h2⟩ := (st.at hv).lst_inv
  exact ⟨a, ws, e, .inl (SqL.of (st.bs.mh _ _ h1)), q _ H (s.add fun M _ => by rw [h2.len]; exact .int _)⟩
theorem rc_lenT {ds : List Dt} : RC K (rLenQ K) [.tuple ds] (.int ds.length) := fun M0 H0 σ H ρ T Q vs s m l q => rc_one l m fun v e hv => by
  obtain ⟨M, st⟩ := id s
  obtain ⟨a, ws, rfl, h1, h2⟩ := (st.at hv).tup_inv
  exact ⟨a, ws, e, .inr (sqT_mono st.bs.mh h1), q _ H (s.add fun M _ => by rw [h2.len]; exact .int _)⟩
theorem ev_lenO {i : Nat} {ds : List Dt} (h : ρ[i]? = some (.own ds)) : Ev K (tCB (rLenQ K) (tCons (tVar i) tNil)) ρ (.int ds.length) := fun M0 H0 σ H T Q s q => by
  obtain ⟨a, vs, M, e1, h1, st, hd⟩ := s.own h
  exact ⟨_, e1, a, vs, rfl, .inl (SqL.of h1), q _ H (s.add fun M _ => by rw [hd.len]; exact .int _)⟩
theorem ev_lenS {i : Nat} {ns : List Int} (h : ρ[i]? = some (.scr ns)) : Ev K (tCB (rLenQ K) (tCons (tVar i) tNil)) ρ (.int ns.length) := fun M0 H0 σ H T Q s q => by
  obtain ⟨M, st⟩ := id s
  obtain ⟨v, e1, a, rfl, h1⟩ := st.slot i _ h
  exact ⟨_, e1, a, _, rfl, .inl (st.bs.mh.seq h1), q _ H (s.add fun M _ => by rw [List.length_map]; exact .int _)⟩
/-- tuple(..), list(..) -/
abbrev rTupQ (K : PySem.W.Frag) : List V → Hp → VK → Prop := fun xs H Q => ∃ p ys, xs = [.ref p] ∧ ((SqL K H p ys ∧ ∀ l, H l = none → Q (.ref l) (upd H l (.tup ys))) ∨ (SqT K H p ys ∧ Q (.ref p) H))
theorem rc_tupL {ds : List Dt} : RC K (rTupQ K) [.list ds] (.tuple ds) := fun M0 H0 σ H ρ T Q vs s m l q => rc_one l m fun v e hv => by
  obtain ⟨M, st⟩ := id s
  obtain ⟨a, ws, rfl, h1, h2⟩ := (st.at hv).lst_inv
  refine ⟨a, ws, e, .inl ⟨SqL.of (st.bs.mh _ _ h1), fun p hp => ?_⟩⟩
  have b := bs_new (o := .tup ws) st.bs.mh hp
  refine q _ _ ⟨_, st.grow b fun p' hp' => ?_⟩
  rcases List.mem_cons.mp hp' with e | hp'
  · subst e; exact .tup (.inl (.inl upd_same)) (h2.mono b.mm)
  · exact (st.tmp p' hp').mono b.mm
theorem rc_tupT {ds : List Dt} : RC K (rTupQ K) [.tuple ds] (.tuple ds) := fun M0 H0 σ H ρ T Q vs s m l q => rc_one l m fun v e hv => by
  obtain ⟨M, st⟩ := id s
  obtain ⟨a, ws, rfl, h1, h2⟩ := (st.at hv).tup_inv
  exact ⟨a, ws, e, .inr ⟨sqT_mono st.bs.mh h1, q _ H (s.same_sub fun p hp => by
    rcases List.mem_cons.mp hp with e | hp
    · rw [e]; exact hv
    · exact hp)⟩⟩
abbrev rListQ (K : PySem.W.Frag) : List V → Hp → VK → Prop := fun xs H Q => ∃ p ys, xs = [.ref p] ∧ (SqL K H p ys ∨ SqT K H p ys) ∧ ∀ l, H l = none → Q (.ref l) (upd H l (.lst ys))
theorem rcn_listL {ds : List Dt} : RCN K (rListQ K) [.list ds] ds := fun M0 H0 σ H ρ T Q vs s m l q => rc_one l m fun v e hv => by
  obtain ⟨M, st⟩ := id s
  obtain ⟨a, ws, rfl, h1, h2⟩ := (st.at hv).lst_inv
  exact ⟨a, ws, e, .inl (SqL.of (st.bs.mh _ _ h1)), fun p hp => q _ _ ⟨M, st.newO hp h2⟩⟩
theorem rcn_listT {ds : List Dt} : RCN K (rListQ K) [.tuple ds] ds := fun M0 H0 σ H ρ T Q vs s m l q => rc_one l m fun v e hv => by
  obtain ⟨M, st⟩ := id s
  obtain ⟨a, ws, rfl, h1, h2⟩ := (st.at hv).tup_inv
  exact ⟨a, ws, e, .inr (sqT_mono st.bs.mh h1), fun p hp => q _ _ ⟨M, st.newO hp h2⟩⟩
/-- all, any, sum, max, min -/
theorem rc_all {bs : List Bool} : RC K (rAll K) [.list (bs.map PyData.bool)] (.bool (bs.all id)) := fun M0 H0 σ H ρ T Q vs s m l q => rc_one l m fun v e hv => by
  obtain ⟨M, st⟩ := id s
  obtain ⟨a, ws, rfl, h1, h2⟩ := (st.at hv).lst_inv
  have ew := h2.bools
  subst ew
  exact ⟨a, bs, e, SqL.of (st.bs.mh _ _ h1), q _ H (s.add fun M _ => .bl _)⟩
theorem rc_any {bs : List Bool} : RC K (rAny K) [.list (bs.map PyData.bool)] (.bool (bs.any id)) := fun M0 H0 σ H ρ T Q vs s m l q => rc_one l m fun v e hv => by
  obtain ⟨M, st⟩ := id s
  obtain ⟨a, ws, rfl, h1, h2⟩ := (st.at hv).lst_inv
  have ew := h2.bools
  subst ew
  exact ⟨a, bs, e, SqL.of (st.bs.mh _ _ h1), q _ H (s.add fun M _ => .bl _)⟩
theorem rc_sum {ns : List Int} : RC K (rSum K) [.list (ns.map PyData.int)] (.int ns.sum) := fun M0 H0 σ H ρ T Q vs s m l q => rc_one l m fun v e hv => by
  obtain ⟨M, st⟩ := id s
  obtain ⟨a, ws, rfl, h1, h2⟩ := (st.at hv).lst_inv
  have ew := h2.ints
  subst ew
  exact ⟨a, ns, e, SqL.of (st.bs.mh _ _ h1), q _ H (s.add fun M _ => .int _)⟩
/-- the greatest, the least -/
def maxI : List Int → Int
  | [] => 0
  | x :: r => r.foldl max x
def minI : List Int → Int
  | [] => 0
  | x :: r => r.foldl min x
theorem foldl_max (r : List Int) : ∀ x : Int, (r.foldl max x = x ∨ r.foldl max x ∈ r) ∧ x ≤ r.foldl max x ∧ ∀ y ∈ r, y ≤ r.foldl max x := by
  induction r with
  | nil => intro x; simp
  | cons y r ih =>
    intro x
    obtain ⟨h1, h2, h3⟩ := ih (max x y)
    simp only [List.foldl_cons, List.mem_cons]
    refine ⟨?_, by omega, fun z hz => ?_⟩
    · rcases h1 with h1 | h1
      · rw [h1]; omega
      · exact .inr (.inr h1)
    · rcases hz with rfl | hz
      · omega
      · exact h3 z hz
theorem foldl_min (r : List Int) : ∀ x : Int, (r.foldl min x = x ∨ r.foldl min x ∈ r) ∧ r.foldl min x ≤ x ∧ ∀ y ∈ r, r.foldl min x ≤ y := by
  induction r with
  | nil => intro x; simp
  | cons y r ih =>
    intro x
    obtain ⟨h1, h2, h3⟩ := ih (min x y)
    simp only [List.foldl_cons, List.mem_cons]
    refine ⟨?_, by omega, fun z hz => ?_⟩
    · rcases h1 with h1 | h1
      · rw [h1]; omega
      · exact .inr (.inr h1)
    · rcases hz with rfl | hz
      · omega
      · exact h3 z hz
theorem maxI_mem {ns : List Int} (h : ns ≠ []) : maxI ns ∈ ns := by
  match ns, h with
  | x :: r, _ =>
    rcases (foldl_max r x).1 with e | e
    · show r.foldl max x ∈ x :: r
      rw [e]; simp
    · exact List.mem_cons_of_mem _ e
theorem le_maxI {ns : List Int} {y : Int} (h : y ∈ ns) : y ≤ maxI ns := by
  match ns, h with
  | x :: r, h =>
    rcases List.mem_cons.mp h with rfl | h
    · exact (foldl_max r y).2.1
    · exact (foldl_max r x).2.2 y h
theorem minI_mem {ns : List Int} (h : ns ≠ []) : minI ns ∈ ns := by
  match ns, h with
  | x :: r, _ =>
    rcases (foldl_min r x).1 with e | e
    · show r.foldl min x ∈ x :: r
      rw [e]; simp
    · exact List.mem_cons_of_mem _ e
theorem minI_le {ns : List Int} {y : Int} (h : y ∈ ns) : minI ns ≤ y := by
  match ns, h with
  | x :: r, h =>
    rcases List.mem_cons.mp h with rfl | h
    · exact (foldl_min r y).2.1
    · exact (foldl_min r x).2.2 y h
theorem rc_max {ns : List Int} (h0 : 0 < ns.length) : RC K (rMax K) [.list (ns.map PyData.int)] (.int (maxI ns)) := fun M0 H0 σ H ρ T Q vs s m l q => rc_one l m fun v e hv => by
  obtain ⟨M, st⟩ := id s
  obtain ⟨a, ws, rfl, h1, h2⟩ := (st.at hv).lst_inv
  have ew := h2.ints
  subst ew
  refine ⟨a, ns, e, SqL.of (st.bs.mh _ _ h1), h0, fun k hk hle => ?_⟩
  have ne : ns ≠ [] := by intro z; subst z; simp at h0
  have ek : k = maxI ns := Int.le_antisymm (le_maxI hk) (hle _ (maxI_mem ne))
  rw [ek]
  exact q _ H (s.add fun M _ => .int _)
theorem rc_min {ns : List Int} (h0 : 0 < ns.length) : RC K (rMin K) [.list (ns.map PyData.int)] (.int (minI ns)) := fun M0 H0 σ H ρ T Q vs s m l q => rc_one l m fun v e hv => by
  obtain ⟨M, st⟩ := id s
  obtain ⟨a, ws, rfl, h1, h2⟩ := (st.at hv).lst_inv
  have ew := h2.ints
  subst ew
  refine ⟨a, ns, e, SqL.of (st.bs.mh _ _ h1), h0, fun k hk hle => ?_⟩
  have ne : ns ≠ [] := by intro z; subst z; simp at h0
  have ek : k = minI ns := Int.le_antisymm (hle _ (minI_mem ne)) (minI_le hk)
  rw [ek]
  exact q _ H (s.add fun M _ => .int _)
theorem rc_max2 {i j : Int} : RC K (fun xs H Q => ∃ i j, xs = [.int i, .int j] ∧ Q (.int (if j > i then j else i)) H) [.int i, .int j] (.int (max i j)) := fun M0 H0 σ H ρ T Q vs s m l q => rc_two l m fun v w e hv hw => by
  obtain ⟨M, st⟩ := id s
  refine ⟨i, j, by rw [e, (st.at hv).int_inv, (st.at hw).int_inv], ?_⟩
  rw [show (if j > i then j else i) = max i j by split <;> omega]
  exact q _ H (s.add fun M _ => .int _)
theorem rc_min2 {i j : Int} : RC K (fun xs H Q => ∃ i j, xs = [.int i, .int j] ∧ Q (.int (if j < i then j else i)) H) [.int i, .int j] (.int (min i j)) := fun M0 H0 σ H ρ T Q vs s m l q => rc_two l m fun v w e hv hw => by
  obtain ⟨M, st⟩ := id s
  refine ⟨i, j, by rw [e, (st.at hv).int_inv, (st.at hw).int_inv], ?_⟩
  rw [show (if j < i then j else i) = min i j by split <;> omega]
  exact q _ H (s.add fun M _ => .int _)
theorem rc_intB {b : Bool} : RC K (fun xs H Q => (∃ i, xs = [.int i] ∧ Q (.int i) H) ∨ ∃ k, xs = [.bl k] ∧ Q (.int (if k then 1 else 0)) H) [.bool b] (.int (if b then 1 else 0)) := fun M0 H0 σ H ρ T Q vs s m l q => rc_one l m fun v e hv => by
  obtain ⟨M, st⟩ := id s
  exact .inr ⟨b, by rw [e, (st.at hv).bl_inv], q _ H (s.add fun M _ => .int _)⟩
/-- isinstance against a built-in class -/
def tyD : Dt → String
  | .none => "NoneType"
  | .bool _ => "bool"
  | .int _ => "int"
  | .str _ => "str"
  | .list _ => "list"
  | .tuple _ => "tuple"
  | .dict _ => "dict"
theorem Dn.ty {M H : Hp} {v : V} {d : Dt} (m : Same M H) (h : Dn K M v d) : TyX K H v (.type (tyD d)) := by
  cases h with
  | non => exact .base .non
  | bl b => exact .base (.bl b)
  | int i => exact .base (.int i)
  | str x => exact .base (.str x)
  | lst h1 h2 => exact .base (.lst (m _ _ h1))
  | tup h1 h2 =>
    rcases sqT_mono m h1 with (h | ⟨o, h⟩) | ⟨o, its, n, h, c, _⟩
    · exact .base (.tup h)
    · exact .fTuple h
    · exact .kTuple h c
def isiD (d : Dt) (n : String) : Bool := (kitB (tyD d) n).getD false
theorem ev_isi {n : String} {d : Dt} (h : Ev K ta ρ d) (hk : (kitB (tyD d) n).isSome = true) : Ev K (tCB (rIsi K) (tCons ta (tCons (tC (.ty n)) tNil))) ρ (.bool (isiD d n)) := fun M0 H0 σ H T Q s q => h M0 H0 σ H T _ s fun v H1 s1 => by
  obtain ⟨M, st⟩ := id s1
  obtain ⟨b, hb⟩ := Option.isSome_iff_exists.mp hk
  refine ⟨v, .ty n, _, _, b, rfl, .ty n, (st.at mem1).ty st.bs.mh, kit_ty hb, q _ H1 ((s1.same_sub fun p hp => by simp [hp]).add fun M _ => ?_)⟩
  unfold isiD
  rw [hb]
  exact .bl b

def cutL {α : Type} (xs : List α) (lo hi : Option Int) : List α := (xs.drop (HT.sIx xs.length 0 lo)).take (HT.sIx xs.length xs.length hi - HT.sIx xs.length 0 lo)
theorem eo_none : EvO K tNoPart ρ none := fun M0 H0 σ H T Q s q => q H s
theorem eo_some {i : Int} (h : Ev K te ρ (.int i)) : EvO K (tPart te) ρ (some i) := fun M0 H0 σ H T Q s q => h M0 H0 σ H T _ s fun v H' s' => by
  obtain ⟨M, _, hv⟩ := s'.tmp mem1
  exact ⟨i, hv.int_inv, q H' (s'.same_sub fun p hp => by simp [hp])⟩
theorem DnA.cut {M : Hp} {vs : List V} {ds : List Dt} (h : DnA K M vs ds) (lo hi : Option Int) : DnA K M (cutV vs lo hi) (cutL ds lo hi) := by
  unfold cutV cutL
  rw [h.len]
  exact (h.drop _).take _
theorem evn_sl {tl th : TO} {ds : List Dt} {lo hi : Option Int} (h : Ev K te ρ (.list ds)) (h1 : EvO K tl ρ lo) (h2 : EvO K th ρ hi) : EvN K (tSl (rSlL K) te tl th) ρ (cutL ds lo hi) := fun M0 H0 σ H T Q s q =>
  h M0 H0 σ H T _ s fun v H1 s1 => h1 M0 H0 σ H1 _ _ s1 fun H2 s2 => h2 M0 H0 σ H2 _ _ s2 fun H3 s3 => by
    obtain ⟨M, st⟩ := id s3
    obtain ⟨a, vs, rfl, k1, k2⟩ := (st.at mem1).lst_inv
    exact ⟨a, vs, rfl, SqL.of (st.bs.mh _ _ k1), fun p hp => q _ _ ⟨M, (st.newO hp (k2.cut lo hi)).sub fun p' hp' => by simp [hp']⟩⟩
theorem ev_slT {tl th : TO} {ds : List Dt} {lo hi : Option Int} (h : Ev K te ρ (.tuple ds)) (h1 : EvO K tl ρ lo) (h2 : EvO K th ρ hi) : Ev K (tSl (rSlA K) te tl th) ρ (.tuple (cutL ds lo hi)) := fun M0 H0 σ H T Q s q =>
  h M0 H0 σ H T _ s fun v H1 s1 => h1 M0 H0 σ H1 _ _ s1 fun H2 s2 => h2 M0 H0 σ H2 _ _ s2 fun H3 s3 => by
    obtain ⟨M, st⟩ := id s3
    obtain ⟨a, vs, rfl, k1, k2⟩ := (st.at mem1).tup_inv
    refine ⟨a, vs, rfl, sqT_mono st.bs.mh k1, fun w => q _ H3 (s3.same_sub fun p hp => ?_), fun w p hp => ?_⟩
    · rcases List.mem_cons.mp hp with e | hp
      · have e2 : cutL ds lo hi = ds := by
          unfold cutL
          have l := k2.len
          rw [← l, w.1, w.2, List.drop_zero, Nat.sub_zero, l, List.take_length]
        rw [e, e2]
        exact mem1
      · simp [hp]
    · have b := bs_new (o := .tup (cutV vs lo hi)) st.bs.mh hp
      refine q _ _ ⟨_, st.grow b fun p' hp' => ?_⟩
      rcases List.mem_cons.mp hp' with e | hp'
      · subst e; exact .tup (.inl (.inl upd_same)) ((k2.cut lo hi).mono b.mm)
      · exact (st.tmp p' (by simp [hp'])).mono b.mm
theorem rvn_cat {ds es : List Dt} (hl : ds.length + es.length ≤ 1000000) : RVN K rCat (.list ds) (.list es) (ds ++ es) := fun M0 H0 σ H ρ T Q vx vy s m1 m2 q => by
  obtain ⟨M, st⟩ := id s
  obtain ⟨a, vs, rfl, k1, k2⟩ := (st.at m1).lst_inv
  obtain ⟨b, ws, rfl, j1, j2⟩ := (st.at m2).lst_inv
  exact ⟨a, b, vs, ws, rfl, rfl, st.bs.mh _ _ k1, st.bs.mh _ _ j1, by rw [k2.len, j2.len, sizeLine_eq]; omega, fun p hp => q _ _ ⟨M, st.newO hp (k2.app j2)⟩⟩
theorem rv_catT {ds es : List Dt} (hl : ds.length + es.length ≤ 1000000) : RV K (rCatA K) (.tuple ds) (.tuple es) (.tuple (ds ++ es)) := fun M0 H0 σ H ρ T Q vx vy s m1 m2 q => by
  obtain ⟨M, st⟩ := id s
  obtain ⟨a, vs, rfl, k1, k2⟩ := (st.at m1).tup_inv
  obtain ⟨b, ws, rfl, j1, j2⟩ := (st.at m2).tup_inv
  refine ⟨a, b, vs, ws, rfl, rfl, sqT_mono st.bs.mh k1, sqT_mono st.bs.mh j1, by rw [k2.len, j2.len, sizeLine_eq]; omega, fun e => ?_, fun _ e => ?_, fun _ _ p hp => ?_⟩
  · have l := k2.len
    rw [e] at l
    have ed : ds = [] := List.eq_nil_of_length_eq_zero l.symm
    subst ed
    exact q _ H (s.same_sub fun p hp => (List.mem_cons.mp hp).elim (fun e => e ▸ m2) id)
  · have l := j2.len
    rw [e] at l
    have ed : es = [] := List.eq_nil_of_length_eq_zero l.symm
    subst ed
    rw [List.append_nil] at q
    exact q _ H (s.same_sub fun p hp => (List.mem_cons.mp hp).elim (fun e => e ▸ m1) id)
  · have b := bs_new (o := .tup (vs ++ ws)) st.bs.mh hp
    refine q _ _ ⟨_, st.grow b fun p' hp' => ?_⟩
    rcases List.mem_cons.mp hp' with e | hp'
    · subst e; exact .tup (.inl (.inl upd_same)) ((k2.app j2).mono b.mm)
    · exact (st.tmp p' hp').mono b.mm
theorem rvn_rep {ds : List Dt} {k : Int} (h1 : -(2 ^ 63) ≤ k) (h2 : k < 2 ^ 63) (hl : ds.length * k.toNat ≤ 1000000) : RVN K rRep (.list ds) (.int k) (List.replicate k.toNat ds).flatten := fun M0 H0 σ H ρ T Q vx vy s m1 m2 q => by
  obtain ⟨M, st⟩ := id s
  obtain ⟨a, vs, rfl, k1, k2⟩ := (st.at m1).lst_inv
  exact ⟨a, k, vs, rfl, (st.at m2).int_inv, st.bs.mh _ _ k1, h1, h2, by rw [k2.len, sizeLine_eq]; omega, fun p hp => q _ _ ⟨M, st.newO hp (k2.rep _)⟩⟩
theorem rv_repT {ds : List Dt} {k : Int} (h1 : 2 ≤ k) (h2 : k ≤ 1000) (hn : ds ≠ []) (hl : ds.length ≤ 1000) : RV K (rRepT K) (.tuple ds) (.int k) (.tuple (List.replicate k.toNat ds).flatten) := fun M0 H0 σ H ρ T Q vx vy s m1 m2 q => by
  obtain ⟨M, st⟩ := id s
  obtain ⟨a, vs, rfl, k1, k2⟩ := (st.at m1).tup_inv
  have nv : vs ≠ [] := fun z => hn (by
    have l := k2.len
    rw [z] at l
    exact List.eq_nil_of_length_eq_zero l.symm)
  refine ⟨a, k, vs, rfl, (st.at m2).int_inv, sqT_mono st.bs.mh k1, nv, h1, h2, by rw [k2.len]; exact hl, fun p hp => ?_⟩
  have b := bs_new (o := .tup (List.replicate k.toNat vs).flatten) st.bs.mh hp
  refine q _ _ ⟨_, st.grow b fun p' hp' => ?_⟩
  rcases List.mem_cons.mp hp' with e | hp'
  · subst e; exact .tup (.inl (.inl upd_same)) ((k2.rep _).mono b.mm)
  · exact (st.tmp p' hp').mono b.mm
end
end Fr
namespace Fr
open PySem PySem.Spec PyProof.Rows L2

structure ItOk (K : PySem.W.Frag) (J : It) (Ti : List (V × Dt)) (items : List Dt) : Prop where
  go : ∀ (M0 H0 : Hp) (σ : L2.St) (H : Hp) (ρ : List Sl) (T : List (V × Dt)) (i : Nat) (d : Dt), Sta K M0 H0 σ H ρ (Ti ++ T) → items[i]? = some d → J.go i H ∧ ∀ x H', J.yld i H x H' → Sta K M0 H0 σ H' ρ ((x, d) :: (Ti ++ T))
  stop : ∀ (M0 H0 : Hp) (σ : L2.St) (H : Hp) (ρ : List Sl) (T : List (V × Dt)) (i : Nat), Sta K M0 H0 σ H ρ (Ti ++ T) → items.length ≤ i → J.stop i H
def EvI (K : PySem.W.Frag) (wi : TI) (ρ : List Sl) (items : List Dt) : Prop := ∀ (M0 H0 : Hp) (σ : L2.St) (H : Hp) (T : List (V × Dt)) (R : It → Hp → Prop), Sta K M0 H0 σ H ρ T →
  (∀ J H' Ti, Sta K M0 H0 σ H' ρ (Ti ++ T) → ItOk K J Ti items → R J H') → wi σ H R
section
variable {K : PySem.W.Frag} {ρ : List Sl} {ta tb te tc : TE} {x y z d : Dt} {t u : TT}
theorem sqL_inj {M H : Hp} {a : Addr} {xs : List V} (h : M a = some (.lst xs)) (m : Same M H) : SqL K H a xs := SqL.of (m _ _ h)
theorem it_list {a : Addr} {ds : List Dt} : ItOk K (Itl K a) [(.ref a, .list ds)] ds where
  go := fun M0 H0 σ H ρ T i d s e => by
    obtain ⟨M, st⟩ := id s
    obtain ⟨b, vs, eb, h1, h2⟩ := (st.at (d := .list ds) mem1).lst_inv
    cases eb
    obtain ⟨v, ev, hv⟩ := h2.get e
    have q : SqL K H a vs := SqL.of (st.bs.mh _ _ h1)
    refine ⟨⟨vs, v, q, ev⟩, fun x H' y => ?_⟩
    obtain ⟨rfl, k⟩ := y
    have ex : x = v := Option.some.inj ((k vs q).symm.trans ev)
    rw [ex]
    exact ⟨M, st.grow (Bs.refl st.bs.mh) fun p hp => (List.mem_cons.mp hp).elim (fun e => e ▸ hv) (st.tmp p)⟩
  stop := fun M0 H0 σ H ρ T i s l => by
    obtain ⟨M, st⟩ := id s
    obtain ⟨b, vs, eb, h1, h2⟩ := (st.at (d := .list ds) mem1).lst_inv
    cases eb
    exact ⟨vs, SqL.of (st.bs.mh _ _ h1), by rw [h2.len]; exact l⟩
theorem it_tup {a : Addr} {ds : List Dt} : ItOk K (Itt K a) [(.ref a, .tuple ds)] ds where
  go := fun M0 H0 σ H ρ T i d s e => by
    obtain ⟨M, st⟩ := id s
    obtain ⟨b, vs, eb, h1, h2⟩ := (st.at (d := .tuple ds) mem1).tup_inv
    cases eb
    obtain ⟨v, ev, hv⟩ := h2.get e
    have q : SqT K H a vs := sqT_mono st.bs.mh h1
    refine ⟨⟨vs, v, q, ev⟩, fun x H' y => ?_⟩
    obtain ⟨rfl, k⟩ := y
    have ex : x = v := Option.some.inj ((k vs q).symm.trans ev)
    rw [ex]
    exact ⟨M, st.grow (Bs.refl st.bs.mh) fun p hp => (List.mem_cons.mp hp).elim (fun e => e ▸ hv) (st.tmp p)⟩
  stop := fun M0 H0 σ H ρ T i s l => by
    obtain ⟨M, st⟩ := id s
    obtain ⟨b, vs, eb, h1, h2⟩ := (st.at (d := .tuple ds) mem1).tup_inv
    cases eb
    exact ⟨vs, sqT_mono st.bs.mh h1, by rw [h2.len]; exact l⟩
abbrev rngD (lo : Int) (n : Nat) : List Dt := (List.range n).map fun i : Nat => PyData.int (lo + (i : Int))
theorem it_rng {lo : Int} {n : Nat} : ItOk K (Itr lo n) [] (rngD lo n) where
  go := fun M0 H0 σ H ρ T i d s e => by
    have hi : i < n := by
      have := (List.getElem?_eq_some_iff.mp e).1
      simpa [rngD] using this
    have ed : d = .int (lo + (i : Int)) := by
      simp [rngD, List.getElem?_map, List.getElem?_range hi] at e
      exact e.symm
    refine ⟨hi, fun x H' y => ?_⟩
    obtain ⟨rfl, rfl⟩ := y
    rw [ed]
    exact s.add fun M _ => .int _
  stop := fun M0 H0 σ H ρ T i s l => by
    have l : n ≤ i := by simpa [rngD] using l
    exact l
/-- two data in a new tuple -/
theorem Sta.pair {M0 H0 H : Hp} {σ : L2.St} {T : List (V × Dt)} {p : Addr} {v w : V} {d e : Dt} {M : Hp} (st : StM K M0 H0 σ H ρ T M) (n : H p = none) (h1 : Dn K M v d) (h2 : Dn K M w e) :
    Sta K M0 H0 σ (upd H p (.tup [v, w])) ρ ((.ref p, .tuple [d, e]) :: T) := by
  have b := bs_new (o := .tup [v, w]) st.bs.mh n
  refine ⟨_, st.grow b fun p' hp' => ?_⟩
  rcases List.mem_cons.mp hp' with e | hp'
  · subst e; exact .tup (.inl (.inl upd_same)) (.cons (h1.mono b.mm) (.cons (h2.mono b.mm) .nil))
  · exact (st.tmp p' hp').mono b.mm
def enumD (ds : List Dt) : List Dt := ds.zipIdx.map fun p => PyData.tuple [.int (p.2 : Int), p.1]
theorem it_enum {a : Addr} {ds : List Dt} : ItOk K (Ite K a) [(.ref a, .list ds)] (enumD ds) where
  go := fun M0 H0 σ H ρ T i d s e => by
    obtain ⟨M, st⟩ := id s
    obtain ⟨b, vs, eb, h1, h2⟩ := (st.at (d := .list ds) mem1).lst_inv
    cases eb
    have q : SqL K H a vs := SqL.of (st.bs.mh _ _ h1)
    obtain ⟨d', e1, rfl⟩ : ∃ d', ds[i]? = some d' ∧ d = .tuple [.int (i : Int), d'] := by
      unfold enumD at e
      rw [List.getElem?_map, List.getElem?_zipIdx] at e
      cases e' : ds[i]? with
      | none => rw [e'] at e; simp at e
      | some d' => rw [e'] at e; simp at e; exact ⟨d', rfl, e.symm⟩
    obtain ⟨v, ev, hv⟩ := h2.get e1
    refine ⟨⟨vs, v, q, ev⟩, fun x H' y => ?_⟩
    obtain ⟨p, w, rfl, n, rfl, k⟩ := y
    have ex : w = v := Option.some.inj ((k vs q).symm.trans ev)
    rw [ex]
    exact Sta.pair st n (.int _) hv
  stop := fun M0 H0 σ H ρ T i s l => by
    obtain ⟨M, st⟩ := id s
    obtain ⟨b, vs, eb, h1, h2⟩ := (st.at (d := .list ds) mem1).lst_inv
    cases eb
    exact ⟨vs, SqL.of (st.bs.mh _ _ h1), by rw [h2.len]; simpa [enumD] using l⟩
def zipD (ds es : List Dt) : List Dt := (ds.zip es).map fun p => PyData.tuple [p.1, p.2]
theorem zipD_get {ds es : List Dt} {i : Nat} {d : Dt} (e : (zipD ds es)[i]? = some d) : ∃ a b, ds[i]? = some a ∧ es[i]? = some b ∧ d = .tuple [a, b] := by
  unfold zipD at e
  rw [List.getElem?_map] at e
  cases q : (ds.zip es)[i]? with
  | none => rw [q] at e; simp at e
  | some p =>
    rw [q] at e
    simp at e
    obtain ⟨h1, h2⟩ := List.getElem?_zip_eq_some.mp q
    exact ⟨p.1, p.2, h1, h2, e.symm⟩
theorem it_zip {a b : Addr} {ds es : List Dt} : ItOk K (Itz K a b) [(.ref a, .list ds), (.ref b, .list es)] (zipD ds es) where
  go := fun M0 H0 σ H ρ T i d s e => by
    obtain ⟨M, st⟩ := id s
    obtain ⟨a', vs, ea, h1, h2⟩ := (st.at (d := .list ds) mem1).lst_inv
    obtain ⟨b', ws, eb, j1, j2⟩ := (st.at (d := .list es) mem2).lst_inv
    cases ea
    cases eb
    obtain ⟨d1, d2, e1, e2, rfl⟩ := zipD_get e
    obtain ⟨v, ev, hv⟩ := h2.get e1
    obtain ⟨w, ew, hw⟩ := j2.get e2
    have q1 : SqL K H a vs := SqL.of (st.bs.mh _ _ h1)
    have q2 : SqL K H b ws := SqL.of (st.bs.mh _ _ j1)
    refine ⟨⟨vs, ws, v, w, q1, q2, ev, ew⟩, fun x H' y => ?_⟩
    obtain ⟨p, x1, x2, rfl, n, rfl, k1, k2⟩ := y
    rw [Option.some.inj ((k1 vs q1).symm.trans ev), Option.some.inj ((k2 ws q2).symm.trans ew)]
    exact Sta.pair st n hv hw
  stop := fun M0 H0 σ H ρ T i s l => by
    obtain ⟨M, st⟩ := id s
    obtain ⟨a', vs, ea, h1, h2⟩ := (st.at (d := .list ds) mem1).lst_inv
    obtain ⟨b', ws, eb, j1, j2⟩ := (st.at (d := .list es) mem2).lst_inv
    cases ea
    cases eb
    refine ⟨vs, ws, SqL.of (st.bs.mh _ _ h1), SqL.of (st.bs.mh _ _ j1), ?_⟩
    rw [h2.len, j2.len]
    simp [zipD] at l
    omega
theorem it_zipT {a b : Addr} {ds es : List Dt} : ItOk K (RZ.ItzT K a b) [(.ref a, .tuple ds), (.ref b, .tuple es)] (zipD ds es) where
  go := fun M0 H0 σ H ρ T i d s e => by
    obtain ⟨M, st⟩ := id s
    obtain ⟨a', vs, ea, h1, h2⟩ := (st.at (d := .tuple ds) mem1).tup_inv
    obtain ⟨b', ws, eb, j1, j2⟩ := (st.at (d := .tuple es) mem2).tup_inv
    cases ea
    cases eb
    obtain ⟨d1, d2, e1, e2, rfl⟩ := zipD_get e
    obtain ⟨v, ev, hv⟩ := h2.get e1
    obtain ⟨w, ew, hw⟩ := j2.get e2
    have q1 : SqT K H a vs := sqT_mono st.bs.mh h1
    have q2 : SqT K H b ws := sqT_mono st.bs.mh j1
    refine ⟨⟨vs, ws, v, w, q1, q2, ev, ew⟩, fun x H' y => ?_⟩
    obtain ⟨p, x1, x2, rfl, n, rfl, k1, k2⟩ := y
    rw [Option.some.inj ((k1 vs q1).symm.trans ev), Option.some.inj ((k2 ws q2).symm.trans ew)]
    exact Sta.pair st n hv hw
  stop := fun M0 H0 σ H ρ T i s l => by
    obtain ⟨M, st⟩ := id s
    obtain ⟨a', vs, ea, h1, h2⟩ := (st.at (d := .tuple ds) mem1).tup_inv
    obtain ⟨b', ws, eb, j1, j2⟩ := (st.at (d := .tuple es) mem2).tup_inv
    cases ea
    cases eb
    refine ⟨vs, ws, sqT_mono st.bs.mh h1, sqT_mono st.bs.mh j1, ?_⟩
    rw [h2.len, j2.len]
    simp [zipD] at l
    omega
theorem ei_list {ds : List Dt} (h : Ev K te ρ (.list ds)) : EvI K (iList K te) ρ ds := fun M0 H0 σ H T R s q => h M0 H0 σ H T _ s fun v H1 s1 => by
  obtain ⟨M, st⟩ := id s1
  obtain ⟨a, vs, rfl, h1, h2⟩ := (st.at mem1).lst_inv
  exact ⟨a, rfl, ⟨vs, SqL.of (st.bs.mh _ _ h1)⟩, q _ H1 [(.ref a, .list ds)] s1 it_list⟩
theorem ei_tup {ds : List Dt} (h : Ev K te ρ (.tuple ds)) : EvI K (iTup K te) ρ ds := fun M0 H0 σ H T R s q => h M0 H0 σ H T _ s fun v H1 s1 => by
  obtain ⟨M, st⟩ := id s1
  obtain ⟨a, vs, rfl, h1, h2⟩ := (st.at mem1).tup_inv
  exact ⟨a, rfl, ⟨vs, sqT_mono st.bs.mh h1⟩, q _ H1 [(.ref a, .tuple ds)] s1 it_tup⟩
theorem ei_rng1 {n : Int} (h : Ev K te ρ (.int n)) (h1 : -(2 ^ 62) ≤ n) (h2 : n < 2 ^ 62) : EvI K (iRng1 (tCons te tNil)) ρ (rngD 0 n.toNat) := fun M0 H0 σ H T R s q => h M0 H0 σ H T _ s fun v H1 s1 => by
  obtain ⟨M, _, hv⟩ := s1.tmp mem1
  exact ⟨n, by rw [hv.int_inv], h1, h2, q _ H1 [] (s1.same_sub fun p hp => by simp at hp; simp [hp]) it_rng⟩
theorem ei_rng2 {i j : Int} (h : Ev K te ρ (.int i)) (h' : Ev K tb ρ (.int j)) (hb : -(2 ^ 62) ≤ i ∧ i < 2 ^ 62 ∧ -(2 ^ 62) ≤ j ∧ j < 2 ^ 62) : EvI K (iRng2 (tCons te (tCons tb tNil))) ρ (rngD i (j - i).toNat) := fun M0 H0 σ H T R s q =>
  h M0 H0 σ H T _ s fun v H1 s1 => h' M0 H0 σ H1 _ _ s1 fun w H2 s2 => by
    obtain ⟨M, st⟩ := id s2
    exact ⟨i, j, by rw [(st.at (d := .int i) mem2).int_inv, (st.at (d := .int j) mem1).int_inv], hb, q _ H2 [] (s2.same_sub fun p hp => by simp at hp; simp [hp]) it_rng⟩
theorem ei_enum {ds : List Dt} (h : Ev K te ρ (.list ds)) : EvI K (iEnum K (tCons te tNil)) ρ (enumD ds) := fun M0 H0 σ H T R s q => h M0 H0 σ H T _ s fun v H1 s1 => by
  obtain ⟨M, st⟩ := id s1
  obtain ⟨a, vs, rfl, h1, h2⟩ := (st.at mem1).lst_inv
  exact ⟨a, vs, rfl, SqL.of (st.bs.mh _ _ h1), q _ H1 [(.ref a, .list ds)] s1 it_enum⟩
theorem ei_zipL {ds es : List Dt} (h : Ev K te ρ (.list ds)) (h' : Ev K tb ρ (.list es)) : EvI K (RZ.iZipA K (tCons te (tCons tb tNil))) ρ (zipD ds es) := fun M0 H0 σ H T R s q =>
  h M0 H0 σ H T _ s fun v H1 s1 => h' M0 H0 σ H1 _ _ s1 fun w H2 s2 => by
    obtain ⟨M, st⟩ := id s2
    obtain ⟨a, vs, rfl, h1, h2⟩ := (st.at (d := .list ds) mem2).lst_inv
    obtain ⟨b, ws, rfl, j1, j2⟩ := (st.at (d := .list es) mem1).lst_inv
    exact ⟨a, b, vs, ws, rfl, .inl ⟨SqL.of (st.bs.mh _ _ h1), SqL.of (st.bs.mh _ _ j1), q _ H2 [(.ref a, .list ds), (.ref b, .list es)] (s2.same_sub fun p hp => by simp at hp; rcases hp with rfl | rfl | hp <;> simp [*]) it_zip⟩⟩
theorem ei_zipT {ds es : List Dt} (h : Ev K te ρ (.tuple ds)) (h' : Ev K tb ρ (.tuple es)) : EvI K (RZ.iZipA K (tCons te (tCons tb tNil))) ρ (zipD ds es) := fun M0 H0 σ H T R s q =>
  h M0 H0 σ H T _ s fun v H1 s1 => h' M0 H0 σ H1 _ _ s1 fun w H2 s2 => by
    obtain ⟨M, st⟩ := id s2
    obtain ⟨a, vs, rfl, h1, h2⟩ := (st.at (d := .tuple ds) mem2).tup_inv
    obtain ⟨b, ws, rfl, j1, j2⟩ := (st.at (d := .tuple es) mem1).tup_inv
    exact ⟨a, b, vs, ws, rfl, .inr ⟨sqT_mono st.bs.mh h1, sqT_mono st.bs.mh j1, q _ H2 [(.ref a, .tuple ds), (.ref b, .tuple es)] (s2.same_sub fun p hp => by simp at hp; rcases hp with rfl | rfl | hp <;> simp [*]) it_zipT⟩⟩

/-- all but the slots vs is as it was -/
def Off (vs : List Nat) (σ σ' : L2.St) : Prop := σ'.length = σ.length ∧ ∀ j, j ∉ vs → σ'[j]? = σ[j]?
def EvG (K : PySem.W.Frag) (g : TG) (vs : List Nat) (d : Dt) (ρ ρ' : List Sl) : Prop := ∀ (M0 H0 : Hp) (σ : L2.St) (H : Hp) (T : List (V × Dt)) (x : V) (Q : L2.St → Hp → Prop), Sta K M0 H0 σ H ρ T → (x, d) ∈ T →
  (∀ σ' H', Sta K M0 H0 σ' H' ρ' T → Off vs σ σ' → Q σ' H') → g x σ H Q
def EvGs (K : PySem.W.Frag) (g : TGs) (vs : List Nat) (ds : List Dt) (ρ ρ' : List Sl) : Prop := ∀ (M0 H0 : Hp) (σ : L2.St) (H : Hp) (T : List (V × Dt)) (xs : List V) (Q : L2.St → Hp → Prop), Sta K M0 H0 σ H ρ T → (∀ p ∈ xs.zip ds, p ∈ T) → xs.length = ds.length →
  (∀ σ' H', Sta K M0 H0 σ' H' ρ' T → Off vs σ σ' → Q σ' H') → g xs σ H Q
theorem eg_name {i : Nat} : EvG K (gName i) [i] d ρ (ρ.set i (.va d)) := fun M0 H0 σ H T x Q s m q => q _ H (s.set m) ⟨by simp, fun j hj => List.getElem?_set_ne (fun e => hj (by simp [e]))⟩
theorem egs_nil : EvGs K gNil [] [] ρ ρ := fun M0 H0 σ H T xs Q s m l q => ⟨List.eq_nil_of_length_eq_zero l, q σ H s ⟨rfl, fun _ _ => rfl⟩⟩
theorem egs_cons {g : TG} {gs : TGs} {v1 v2 : List Nat} {ds : List Dt} {ρ1 ρ2 : List Sl} (h1 : EvG K g v1 d ρ ρ1) (h2 : EvGs K gs v2 ds ρ1 ρ2) : EvGs K (gCons g gs) (v1 ++ v2) (d :: ds) ρ ρ2 := fun M0 H0 σ H T xs Q s m l q => by
  match xs, l with
  | x :: xs, l =>
    exact ⟨x, xs, rfl, h1 M0 H0 σ H T x _ s (m _ (by simp)) fun σ1 H1 s1 k1 => h2 M0 H0 σ1 H1 T xs Q s1 (fun p hp => m p (by simp [hp])) (by simpa using l) fun σ2 H2 s2 k2 =>
      q σ2 H2 s2 ⟨k2.1.trans k1.1, fun j hj => (k2.2 j fun z => hj (by simp [z])).trans (k1.2 j fun z => hj (by simp [z]))⟩⟩
theorem eg_tup {n : Nat} {gs : TGs} {vs : List Nat} {ds : List Dt} {ρ1 : List Sl} (h : EvGs K gs vs ds ρ ρ1) (hn : ds.length = n) : EvG K (gTup K n gs) vs (.tuple ds) ρ ρ1 := fun M0 H0 σ H T x Q s m q => by
  obtain ⟨M, st⟩ := id s
  obtain ⟨a, ws, rfl, h1, h2⟩ := (st.at m).tup_inv
  have key : Sta K M0 H0 σ H ρ (ws.zip ds ++ T) := ⟨M, st.grow (Bs.refl st.bs.mh) fun p hp => by
    rcases List.mem_append.mp hp with hp | hp
    · obtain ⟨i, hi⟩ := List.mem_iff_getElem?.mp hp
      obtain ⟨e1, e2⟩ := List.getElem?_zip_eq_some.mp hi
      obtain ⟨v, e3, hv⟩ := h2.get e2
      rw [e1] at e3
      cases e3
      exact hv
    · exact st.tmp p hp⟩
  exact ⟨a, ws, rfl, sqT_mono st.bs.mh h1, by rw [h2.len, hn], h M0 H0 σ H _ ws Q key (fun p hp => by simp [hp]) h2.len fun σ' H' s' k => q σ' H' (s'.same_sub fun p hp => by simp [hp]) k⟩
theorem eg_tup2 {n : Nat} {g1 g2 : TG} {v1 v2 : List Nat} {e : Dt} {ρ1 ρ2 : List Sl} (h1 : EvG K g1 v1 d ρ ρ1) (h2 : EvG K g2 v2 e ρ1 ρ2) (hn : 2 = n) : EvG K (gTup K n (gCons g1 (gCons g2 gNil))) (v1 ++ (v2 ++ [])) (.tuple [d, e]) ρ ρ2 :=
  eg_tup (egs_cons h1 (egs_cons h2 egs_nil)) hn

theorem wipe_in (σ : L2.St) (i : Nat) : ∀ vs : List Nat, i ∈ vs → (wipe σ vs)[i]? = if i < σ.length then some none else none
  | [], h => by simp at h
  | v :: vs, h => by
    show ((wipe σ vs).set v none)[i]? = _
    rw [List.getElem?_set, wipe_length]
    by_cases e : v = i
    · subst e; simp
    · rw [if_neg e]
      exact wipe_in σ i vs ((List.mem_cons.mp h).resolve_left (Ne.symm e))
theorem wipe_same {σ σ' : L2.St} {vs : List Nat} (hl : σ'.length = σ.length) (h : ∀ j, j ∉ vs → σ'[j]? = σ[j]?) : wipe σ' vs = wipe σ vs := by
  refine List.ext_getElem? fun i => ?_
  by_cases hi : i ∈ vs
  · rw [wipe_in σ' i vs hi, wipe_in σ i vs hi, hl]
  · rw [wipe_out hi, wipe_out hi]; exact h i hi
/-- the slots as a comprehension's block sees them -/
def cset (ρ : List Sl) : List Nat → List Sl
  | [] => ρ.map hid
  | v :: vs => (cset ρ vs).set v .no
theorem cset_len (ρ : List Sl) : ∀ vs : List Nat, (cset ρ vs).length = ρ.length
  | [] => by simp [cset]
  | v :: vs => by simp [cset, cset_len ρ vs]
theorem cset_get (ρ : List Sl) : ∀ (vs : List Nat) (i : Nat) (s : Sl), (cset ρ vs)[i]? = some s → s = .no ∨ (i ∉ vs ∧ (∀ ds, s ≠ .own ds) ∧ ρ[i]? = some s)
  | [], i, s, h => by
    simp [cset] at h
    obtain ⟨s', e, rfl⟩ := h
    cases s' with
    | own ds => exact .inl rfl
    | no => exact .inl rfl
    | va d => exact .inr ⟨by simp, (fun _ z => nomatch z), e⟩
    | scr d => exact .inr ⟨by simp, (fun _ z => nomatch z), e⟩
    | raw d => exact .inr ⟨by simp, (fun _ z => nomatch z), e⟩
  | v :: vs, i, s, h => by
    show s = .no ∨ _
    have h : ((cset ρ vs).set v .no)[i]? = some s := h
    by_cases e : v = i
    · subst e
      rw [List.getElem?_set] at h
      simp at h
      exact .inl h.2.symm
    · rw [List.getElem?_set_ne e] at h
      rcases cset_get ρ vs i s h with z | ⟨z1, z2, z3⟩
      · exact .inl z
      · exact .inr ⟨fun q => (List.mem_cons.mp q).elim (fun q => e q.symm) z1, z2, z3⟩
theorem StM.blk {M M0 H0 H : Hp} {σ : L2.St} {T : List (V × Dt)} (vs : List Nat) (st : StM K M0 H0 σ H ρ T M) : StM K M H (wipe σ vs) H (cset ρ vs) T M := by
  refine ⟨Bs.refl st.bs.mh, by rw [wipe_length, cset_len, st.len], fun i s e => ?_, fun i j es fs a hij h1 h2 h3 h4 => ?_, st.tmp⟩
  · rcases cset_get ρ vs i s e with rfl | ⟨n, no, e'⟩
    · have hi := (List.getElem?_eq_some_iff.mp e).1
      rw [cset_len] at hi
      have hl := st.len
      exact ⟨(wipe σ vs)[i]'(by rw [wipe_length]; omega), List.getElem?_eq_getElem (by rw [wipe_length]; omega), trivial⟩
    · obtain ⟨v, e1, h1⟩ := st.slot i s e'
      refine ⟨v, by rw [wipe_out n]; exact e1, ?_⟩
      cases s with
      | own ds => exact absurd rfl (no ds)
      | no => trivial
      | va d => exact h1
      | scr ns => exact h1
      | raw x => exact h1
  · rcases cset_get ρ vs i _ h1 with z | ⟨_, z, _⟩
    · cases z
    · exact absurd rfl (z es)
theorem take_filterMap {α : Type} (xs : List α) (f : α → Option Dt) {i : Nat} {x : α} (h : xs[i]? = some x) : (xs.take (i + 1)).filterMap f = (xs.take i).filterMap f ++ (f x).toList := by
  rw [List.take_add_one, h, List.filterMap_append]
  cases e : f x <;> simp [e]
/-- [e for x in xs if p]: xs.map enc is walked -/
theorem evn_lc {α : Type} {wi : TI} {g : TG} {tt : TT} {vs : List Nat} {xs : List α} {enc : α → Dt} (hi : EvI K wi ρ (xs.map enc)) (hl : xs.length ≤ 1000000) (p : α → Bool) (out : α → Dt) (ρ2 : α → List Sl)
    (hb : ∀ x ∈ xs, EvG K g vs (enc x) (cset ρ vs) (ρ2 x) ∧ EvT K tt (ρ2 x) (p x) ∧ (p x = true → Ev K te (ρ2 x) (out x))) : EvN K (tLc wi g tt te vs) ρ ((xs.filter p).map out) := fun M0 H0 σ H T Q s q => by
  have ef : (xs.filter p).map out = xs.filterMap fun x => if p x then some (out x) else none := by
    clear hi hl hb q
    induction xs with
    | nil => rfl
    | cons x xs ih =>
      rw [List.filter_cons, List.filterMap_cons]
      cases e : p x <;> simp [ih]
  rw [ef] at q
  refine hi M0 H0 σ H T _ s fun J H1 Ti s1 it => fun D nD => ?_
  obtain ⟨M1, st1⟩ := id s1
  let f : α → Option Dt := fun x => if p x then some (out x) else none
  let Pv : Nat → Hp → Prop := fun i H => Sta K M0 H0 (σ ++ [some (.ref D)]) H (ρ ++ [.own ((xs.take i).filterMap f)]) (Ti ++ T)
  refine ⟨fun i m H => m = xs.length - i ∧ i ≤ xs.length ∧ Pv i H, ⟨xs.length, by simp, Nat.zero_le _, M1, st1.newO nD .nil⟩, ?_⟩
  rintro i m H2 ⟨rfl, hle, P⟩
  by_cases hlt : i < xs.length
  · right
    obtain ⟨M2, st2⟩ := id P
    have hσ : σ.length = ρ.length := by have := st2.len; simpa using this
    have hD := st2.slot ρ.length (.own ((xs.take i).filterMap f)) (by simp)
    rw [← hσ] at hD
    obtain ⟨v, ev, a, acc, e2, n0, nM, hH, hd⟩ := hD
    rw [List.getElem?_concat_length] at ev
    cases ev
    cases e2
    have lacc : acc.length ≤ 1000000 := by
      rw [hd.len]
      refine Nat.le_trans (List.length_filterMap_le _ _) ?_
      rw [List.length_take]
      omega
    have blk := (st2.pop).blk vs
    have gx : (xs.map enc)[i]? = some (enc xs[i]) := by rw [List.getElem?_map, List.getElem?_eq_getElem hlt]; rfl
    obtain ⟨go, yl⟩ := it.go M2 H2 _ _ _ T i _ ⟨M2, blk⟩ gx
    obtain ⟨b1, b2, b3⟩ := hb xs[i] (List.getElem_mem hlt)
    -- what is kept of the outer frame
    have back : ∀ {H4 : Hp} {σ' : L2.St} {ρ' : List Sl} {T' : List (V × Dt)}, Sta K M2 H2 σ' H4 ρ' T' → (∀ p ∈ Ti ++ T, p ∈ T') → ∃ M4, StM K M0 H0 (σ ++ [some (.ref D)]) H4 (ρ ++ [.own ((xs.take i).filterMap f)]) (Ti ++ T) M4 ∧ H4 D = some (.lst acc) ∧ ∀ p ∈ T', Dn K M4 p.1 p.2 := fun {H4 σ' ρ' T'} s4 hs => by
      obtain ⟨M4, st4⟩ := s4
      exact ⟨M4, st2.grow st4.bs fun p hp => st4.tmp p (hs p hp), (st4.bs.far D _ nM hH).2, st4.tmp⟩
    refine ⟨go, Pv (i + 1), fun H' P' => ⟨xs.length - (i + 1), by omega, rfl, hlt, P'⟩, fun x H3 y => ?_⟩
    refine b1 M2 H2 _ _ _ x _ (yl x H3 y) (by simp) fun σ2 H4 s4 k => ⟨?_, ?_⟩
    · exact wipe_same (by rw [k.1, wipe_length]) fun j hj => (k.2 j hj).trans (wipe_out hj)
    · refine b2 M2 H2 σ2 H4 _ _ s4 fun H5 s5 => ?_
      cases e : p xs[i] with
      | false =>
        rw [if_neg Bool.false_ne_true]
        obtain ⟨M5, st5, _, _⟩ := back s5 fun p hp => by simp [hp]
        show Sta _ _ _ _ _ _ _
        rw [take_filterMap xs f (List.getElem?_eq_getElem hlt)]
        have ef : f xs[i] = none := by simp [f, e]
        rw [ef]
        rw [Option.toList_none, List.append_nil]
        exact ⟨M5, st5⟩
      | true =>
        rw [if_pos rfl]
        refine b3 e M2 H2 σ2 H5 _ _ s5 fun w H6 s6 => ?_
        obtain ⟨M6, st6, hD6, tm⟩ := back s6 fun p hp => by simp [hp]
        refine ⟨acc, hD6, by rw [sizeLine_eq]; omega, ?_⟩
        show Sta _ _ _ _ _ _ _
        rw [take_filterMap xs f (List.getElem?_eq_getElem hlt)]
        have ef : f xs[i] = some (out xs[i]) := by simp [f, e]
        rw [ef]
        have z := st6.updO (i := ρ.length) (a := D) (vs := acc ++ [w]) (ds := (xs.take i).filterMap f ++ [out xs[i]]) (es := (xs.take i).filterMap f) (by simp) (by rw [← hσ]; simp) ?_
        · have eset : (ρ ++ [Sl.own ((xs.take i).filterMap f)]).set ρ.length (.own ((xs.take i).filterMap f ++ [out xs[i]])) = ρ ++ [.own ((xs.take i).filterMap f ++ [out xs[i]])] := by simp
          rw [eset] at z
          exact ⟨M6, z⟩
        · have z6 := st6.slot ρ.length (.own ((xs.take i).filterMap f)) (by simp)
          rw [← hσ, List.getElem?_concat_length] at z6
          obtain ⟨_, e5, a6, vs6, e6, _, _, h6, d6⟩ := z6
          cases e5
          cases e6
          rw [hD6] at h6
          cases h6
          exact d6.app (.cons (tm (w, out xs[i]) (by simp)) .nil)
  · left
    have e : i = xs.length := by omega
    subst e
    refine ⟨?_, ?_⟩
    · obtain ⟨M2, st2⟩ := id P
      exact it.stop M0 H0 σ H2 ρ T _ ⟨M2, st2.pop⟩ (by simp)
    · refine q D H2 ?_
      have P' : Sta K M0 H0 (σ ++ [some (.ref D)]) H2 (ρ ++ [.own ((xs.take xs.length).filterMap f)]) (Ti ++ T) := P
      rw [List.take_length] at P'
      exact P'.same_sub fun p hp => by simp [hp]
end
end Fr
namespace Fr
open PySem PySem.Spec PyProof.Rows L2

inductive Out where
  | nx (ρ : List Sl)
  | rt (d : Dt)
  | bk (ρ : List Sl)
  | ct (ρ : List Sl)
  | xc (c : Value)
def Ful (K : PySem.W.Frag) (E : XK) (M0 H0 : Hp) (T : List (V × Dt)) (D : Ends) : Out → Prop
  | .nx ρ => ∀ σ' H', Sta K M0 H0 σ' H' ρ T → D.nx σ' H'
  | .rt d => ∀ v H', Aft K M0 H0 v H' d → D.rt v H'
  | .bk ρ => ∀ σ' H', Sta K M0 H0 σ' H' ρ T → D.bk σ' H'
  | .ct ρ => ∀ σ' H', Sta K M0 H0 σ' H' ρ T → D.ct σ' H'
  | .xc c => ∀ H', AftX M0 H0 H' → E c none H'
/-- behind the statement one of the ends of P -/
def Wp (K : PySem.W.Frag) (E : XK) (ts : TS) (ρ : List Sl) (P : Out → Prop) : Prop := ∀ (M0 H0 : Hp) (T : List (V × Dt)) (σ : L2.St) (H : Hp) (D : Ends), Sta K M0 H0 σ H ρ T → (∀ o, P o → Ful K E M0 H0 T D o) → ts D σ H
/-- what a def comes to -/
def Fin (r : Except Value Dt) : Out → Prop
  | .nx _ => r = .ok .none
  | .rt d => r = .ok d
  | .xc c => r = .error c
  | _ => False
/-- behind a loop's turn -/
def Turn (P : Out → Prop) (I : List Sl → Prop) : Out → Prop
  | .nx ρ => I ρ
  | .ct ρ => I ρ
  | .bk ρ => P (.nx ρ)
  | .rt d => P (.rt d)
  | .xc c => P (.xc c)
/-- behind a statement that another follows -/
def Then (P : Out → Prop) (Q : List Sl → Prop) : Out → Prop
  | .nx ρ => Q ρ
  | o => P o
section
variable {K : PySem.W.Frag} {E : XK} {ρ : List Sl} {ta tb te tc : TE} {x y z d : Dt} {t u : TS} {c : TT} {P : Out → Prop}
theorem Wp.imp {P' : Out → Prop} (h : Wp K E t ρ P) (i : ∀ o, P o → P' o) : Wp K E t ρ P' := fun M0 H0 T σ H D s f => h M0 H0 T σ H D s fun o p => f o (i o p)
theorem wp_seq (h : Wp K E t ρ (Then P fun ρ1 => Wp K E u ρ1 P)) : Wp K E (tSeq t u) ρ P := fun M0 H0 T σ H D s f => by
  refine h M0 H0 T σ H _ s fun o p => ?_
  cases o with
  | nx ρ1 => exact fun σ' H' s' => p M0 H0 T σ' H' D s' f
  | rt d => exact f (.rt d) p
  | bk ρ1 => exact f (.bk ρ1) p
  | ct ρ1 => exact f (.ct ρ1) p
  | xc c => exact f (.xc c) p
theorem wp_nil (h : P (.nx ρ)) : Wp K E tNext ρ P := fun M0 H0 T σ H D s f => f _ h σ H s
theorem wp_break (h : P (.bk ρ)) : Wp K E tBreak ρ P := fun M0 H0 T σ H D s f => f _ h σ H s
theorem wp_cont (h : P (.ct ρ)) : Wp K E tCont ρ P := fun M0 H0 T σ H D s f => f _ h σ H s
theorem Sta.aft {M0 H0 H : Hp} {σ : L2.St} {T : List (V × Dt)} {v : V} (s : Sta K M0 H0 σ H ρ T) (m : (v, d) ∈ T) : Aft K M0 H0 v H d := by
  obtain ⟨M, st⟩ := s
  exact ⟨M, st.bs, st.tmp _ m⟩
theorem wp_ret (he : Ev K te ρ d) (h : P (.rt d)) : Wp K E (tRet te) ρ P := fun M0 H0 T σ H D s f => he M0 H0 σ H T _ s fun v H' s' => f _ h v H' (s'.aft mem1)
theorem wp_retE {r : Except Value Dt} (he : EvE K E te ρ r) (h : ∀ d, r = .ok d → P (.rt d)) (hx : ∀ c, r = .error c → P (.xc c)) : Wp K E (tRet te) ρ P := fun M0 H0 T σ H D s f =>
  he M0 H0 σ H T _ s (fun d e v H' s' => f _ (h d e) v H' (s'.aft mem1)) fun c e H' a => f _ (hx c e) H' a
theorem wp_retO {i : Nat} {ds : List Dt} (hi : ρ[i]? = some (.own ds)) (h : P (.rt (.list ds))) : Wp K E (tRet (tVar i)) ρ P := fun M0 H0 T σ H D s f => by
  obtain ⟨a, e, s'⟩ := s.frz hi
  exact ⟨_, e, f _ h _ H (s'.aft mem1)⟩
theorem wp_retN (h : P (.rt .none)) : Wp K E tRetN ρ P := fun M0 H0 T σ H D s f => by
  obtain ⟨M, st⟩ := id s
  exact f _ h _ H ⟨M, st.bs, .non⟩
/-- x = e -/
theorem wp_set {i : Nat} (he : Ev K te ρ d) (h : P (.nx (ρ.set i (.va d)))) : Wp K E (tAsg te (gName i)) ρ P := fun M0 H0 T σ H D s f => he M0 H0 σ H T _ s fun v H' s' => f _ h _ H' ((s'.set mem1).same_sub fun p hp => by simp [hp])
theorem wp_setE {i : Nat} {r : Except Value Dt} (he : EvE K E te ρ r) (h : ∀ d, r = .ok d → P (.nx (ρ.set i (.va d)))) (hx : ∀ c, r = .error c → P (.xc c)) : Wp K E (tAsg te (gName i)) ρ P := fun M0 H0 T σ H D s f =>
  he M0 H0 σ H T _ s (fun d e v H' s' => f _ (h d e) _ H' ((s'.set mem1).same_sub fun p hp => by simp [hp])) fun c e H' a => f _ (hx c e) H' a
theorem wp_setN {i : Nat} {ds : List Dt} (he : EvN K te ρ ds) (h : P (.nx (ρ.set i (.own ds)))) : Wp K E (tAsg te (gName i)) ρ P := fun M0 H0 T σ H D s f => he M0 H0 σ H T _ s fun p H' s' => f _ h _ H' (s'.moveO i)
/-- a, b = e -/
theorem wp_asg {g : TG} {vs : List Nat} {ρ1 : List Sl} (he : Ev K te ρ d) (hg : EvG K g vs d ρ ρ1) (h : P (.nx ρ1)) : Wp K E (tAsg te g) ρ P := fun M0 H0 T σ H D s f => he M0 H0 σ H T _ s fun v H' s' =>
  hg M0 H0 σ H' _ v _ s' mem1 fun σ2 H2 s2 _ => f _ h σ2 H2 (s2.same_sub fun p hp => by simp [hp])
/-- a, b = e1, e2 -/
theorem wp_par {i j : Nat} {ta' : TA} {d1 d2 : Dt} (he : EvA K ta' ρ [d1, d2]) (h : P (.nx ((ρ.set i (.va d1)).set j (.va d2)))) : Wp K E (tPar i j ta') ρ P := fun M0 H0 T σ H D s f => he M0 H0 σ H T _ s fun vs H' s' l => by
  match vs, l with
  | [v, w], _ =>
    refine ⟨v, w, rfl, f _ h _ H' ?_⟩
    have a1 := (s'.set (i := i) (v := v) (d := d1) (by simp)).set (i := j) (v := w) (d := d2) (by simp)
    exact a1.same_sub fun p hp => by simp [hp]
theorem wp_expr (he : Ev K te ρ d) (h : P (.nx ρ)) : Wp K E (tDrop te) ρ P := fun M0 H0 T σ H D s f => he M0 H0 σ H T _ s fun v H' s' => f _ h σ H' (s'.same_sub fun p hp => by simp [hp])
theorem wp_exprE {r : Except Value Dt} (he : EvE K E te ρ r) (h : ∀ d, r = .ok d → P (.nx ρ)) (hx : ∀ c, r = .error c → P (.xc c)) : Wp K E (tDrop te) ρ P := fun M0 H0 T σ H D s f =>
  he M0 H0 σ H T _ s (fun d e v H' s' => f _ (h d e) σ H' (s'.same_sub fun p hp => by simp [hp])) fun c e H' a => f _ (hx c e) H' a
theorem wp_if {b : Bool} (hc : EvT K c ρ b) (h1 : b = true → Wp K E t ρ P) (h2 : b = false → Wp K E u ρ P) : Wp K E (tIfS c t u) ρ P := fun M0 H0 T σ H D s f => hc M0 H0 σ H T _ s fun H' s' => by
  cases b with
  | true => exact h1 rfl M0 H0 T σ H' D s' f
  | false => exact h2 rfl M0 H0 T σ H' D s' f
/-- raise -/
theorem wp_raise {C : Addr} (h : P (.xc (.ref C))) : Wp K E (fun _ σ H => E (.ref C) none H) ρ P := fun M0 H0 T σ H D s f => by
  obtain ⟨M, st⟩ := id s
  exact f _ h H ⟨M, st.bs⟩
/-- a slot's list is data from here on -/
theorem wp_frz {i : Nat} {ds : List Dt} (hi : ρ[i]? = some (.own ds)) (h : Wp K E t (ρ.set i (.va (.list ds))) P) : Wp K E t ρ P := fun M0 H0 T σ H D s f => by
  obtain ⟨a, e, s'⟩ := s.frz hi
  exact h M0 H0 T σ H D (s'.same_sub fun p hp => by simp [hp]) f
/-- xs.append(e), xs a list of ours -/
theorem wp_app {i : Nat} {ds : List Dt} (hi : ρ[i]? = some (.own ds)) (he : Ev K te ρ d) (hl : ds.length ≤ 1000000) (h : P (.nx (ρ.set i (.own (ds ++ [d]))))) :
    Wp K E (tDrop (tBM K "list" rAppend (tVar i) (tCons te tNil))) ρ P := fun M0 H0 T σ H D s f => by
  obtain ⟨a, vs, M, e1, hH, st, hd⟩ := s.own hi
  refine ⟨_, e1, .inl ⟨rfl, vs, SqL.of hH⟩, he M0 H0 σ H T _ s fun v H1 s1 => ?_⟩
  obtain ⟨a', vs1, M1, e1', hH1, st1, hd1⟩ := s1.own hi
  rw [e1] at e1'
  cases e1'
  exact ⟨a, vs1, v, rfl, rfl, hH1, by rw [hd1.len, sizeLine_eq]; omega, f _ h σ _ ⟨M1, (st1.updO hi e1 (hd1.app (.cons (st1.at mem1) .nil))).sub fun p hp => by simp [hp]⟩⟩
/-- for -/
theorem wp_for {wi : TI} {g : TG} {tb : TS} {vs : List Nat} {items : List Dt} (hi : EvI K wi ρ items) (I : Nat → List Sl → Prop) (h0 : I 0 ρ)
    (hs : ∀ i d ρ1, items[i]? = some d → I i ρ1 → ∃ ρ2, EvG K g vs d ρ1 ρ2 ∧ Wp K E tb ρ2 (Fr.Turn P (I (i + 1)))) (hd : ∀ ρ1, I items.length ρ1 → P (.nx ρ1)) : Wp K E (tFor wi g tb) ρ P := fun M0 H0 T σ H D s f => by
  refine hi M0 H0 σ H T _ s fun J H1 Ti s1 it => ?_
  refine ⟨fun i m σ H => m = items.length - i ∧ i ≤ items.length ∧ ∃ ρ1, I i ρ1 ∧ Sta K M0 H0 σ H ρ1 (Ti ++ T), ⟨items.length, by simp, Nat.zero_le _, ρ, h0, s1⟩, ?_⟩
  rintro i m σ2 H2 ⟨rfl, hle, ρ1, hI, s2⟩
  by_cases hlt : i < items.length
  · right
    have gx : items[i]? = some items[i] := List.getElem?_eq_getElem hlt
    obtain ⟨go, yl⟩ := it.go M0 H0 σ2 H2 ρ1 T i _ s2 gx
    obtain ⟨ρ2, eg, wp⟩ := hs i _ ρ1 gx hI
    refine ⟨go, fun σ' H' => ∃ ρ3, I (i + 1) ρ3 ∧ Sta K M0 H0 σ' H' ρ3 (Ti ++ T), fun σ' H' ⟨ρ3, k1, k2⟩ => ⟨items.length - (i + 1), by omega, rfl, hlt, ρ3, k1, k2⟩, fun x H3 y => ?_⟩
    refine eg M0 H0 σ2 H3 _ x _ (yl x H3 y) mem1 fun σ4 H4 s4 _ => ?_
    refine wp M0 H0 (Ti ++ T) σ4 H4 _ (s4.same_sub fun p hp => List.mem_cons_of_mem _ hp) fun o p => ?_
    cases o with
    | nx ρ3 => exact fun σ' H' s' => ⟨ρ3, p, s'⟩
    | ct ρ3 => exact fun σ' H' s' => ⟨ρ3, p, s'⟩
    | bk ρ3 => exact fun σ' H' s' => f (.nx ρ3) p σ' H' (s'.same_sub fun q hq => List.mem_append_right _ hq)
    | rt d => exact f (.rt d) p
    | xc c => exact f (.xc c) p
  · left
    have e : i = items.length := by omega
    subst e
    exact ⟨it.stop M0 H0 σ2 H2 ρ1 T _ s2 (Nat.le_refl _), f (.nx ρ1) (hd ρ1 hI) σ2 H2 (s2.same_sub fun q hq => List.mem_append_right _ hq)⟩
/-- while: I by a measure -/
theorem wp_while {tb : TS} (I : Nat → List Sl → Prop) (m0 : Nat) (h0 : I m0 ρ)
    (hs : ∀ m ρ1, I m ρ1 → ∃ b, EvT K c ρ1 b ∧ (b = true → Wp K E tb ρ1 (Fr.Turn P fun ρ2 => ∃ m', m' < m ∧ I m' ρ2)) ∧ (b = false → P (.nx ρ1))) : Wp K E (tWhile c tb) ρ P := fun M0 H0 T σ H D s f => by
  refine ⟨fun m σ H => ∃ ρ1, I m ρ1 ∧ Sta K M0 H0 σ H ρ1 T, ⟨m0, ρ, h0, s⟩, ?_⟩
  rintro m σ1 H1 ⟨ρ1, hI, s1⟩
  obtain ⟨b, et, ht, hf⟩ := hs m ρ1 hI
  refine et M0 H0 σ1 H1 T _ s1 fun H2 s2 => ?_
  cases b with
  | false =>
    rw [if_neg Bool.false_ne_true]
    exact f (.nx ρ1) (hf rfl) σ1 H2 s2
  | true =>
    rw [if_pos rfl]
    refine ⟨fun σ' H' => ∃ m', m' < m ∧ ∃ ρ2, I m' ρ2 ∧ Sta K M0 H0 σ' H' ρ2 T, fun σ' H' ⟨m', hm, k⟩ => ⟨m', hm, k⟩, ht rfl M0 H0 T σ1 H2 _ s2 fun o p => ?_⟩
    cases o with
    | nx ρ3 => exact fun σ' H' s' => let ⟨m', hm, k⟩ := p; ⟨m', hm, ρ3, k, s'⟩
    | ct ρ3 => exact fun σ' H' s' => let ⟨m', hm, k⟩ := p; ⟨m', hm, ρ3, k, s'⟩
    | bk ρ3 => exact fun σ' H' s' => f (.nx ρ3) p σ' H' s'
    | rt d => exact f (.rt d) p
    | xc c => exact f (.xc c) p
end

theorem sta_start {K : PySem.W.Frag} {M H : Hp} {N : List Str} {vs : List V} {ds : List Dt} (m : Same M H) (h : DnA K M vs ds) (hn : ds.length ≤ N.length) : Sta K M H (L2.start N vs) H (ds.map Sl.va ++ List.replicate (N.length - ds.length) .no) [] := by
  have l := h.len
  refine ⟨M, Bs.refl m, by simp [L2.start, l], fun i s e => ?_, fun i j es fs a hij h1 h2 h3 h4 => ?_, fun p hp => by simp at hp⟩
  · by_cases hi : i < ds.length
    · rw [List.getElem?_append_left (by simpa using hi), List.getElem?_map, List.getElem?_eq_getElem hi] at e
      cases e
      obtain ⟨v, e1, hv⟩ := h.get (List.getElem?_eq_getElem hi)
      refine ⟨some v, ?_, v, rfl, hv⟩
      unfold L2.start
      rw [List.getElem?_append_left (by simpa [l] using hi), List.getElem?_map, e1]
      rfl
    · rw [List.getElem?_append_right (by simp; omega)] at e
      have q := List.mem_of_getElem? e
      have hlt := (List.getElem?_eq_some_iff.mp e).1
      simp at hlt
      have es : s = .no := (List.mem_replicate.mp q).2
      subst es
      exact ⟨none, by
        unfold L2.start
        rw [List.getElem?_append_right (by simp [l]; omega)]
        rw [List.getElem?_replicate]
        simp [l]; omega, trivial⟩
  · have q := List.mem_of_getElem? h1
    rcases List.mem_append.mp q with q | q
    · obtain ⟨_, _, z⟩ := List.mem_map.mp q
      cases z
    · have z := (List.mem_replicate.mp q).2
      cases z
section
variable {P : Program} {w : World} {K : PySem.W.Frag} {mg : Str → Option Value} {base : Heap}
theorem fn_mk {x qual : Str} {st : Stmt} {f : Addr} {fd : FuncData} {N ps : List Str} {k : Nat} {Pr : List Dt → Except Value Dt → Prop} (F : Fun K x qual st f fd) (S : FnScope N ps (defScope st)) (hl : ∀ ds r, Pr ds r → ds.length = ps.length)
    (hbody : ∀ (cdv : Value) (A : Around) (outer : List Env) (s : Shared) (H : Hp) (E : XK) (ds : List Dt) (r : Except Value Dt), Room k (A.deeper (envOfC qual (defScope st) s.heap.objs.size f cdv)) → Pr ds r →
      ∃ t, PSs (cxOf (L2N.CX P w) P w K mg base N qual (defScope st) f cdv A outer s H E) (defBody st) t ∧ Wp K E t (ds.map Sl.va ++ List.replicate (N.length - ds.length) .no) (Fr.Fin r)) : FnOk P w K mg base (L2N.CX P w) (k + 1) f fd ps (spD K Pr) := by
  obtain ⟨oc, od, kV, doc, pm, an, cdv, ct, osl, rfl, lk, hcd⟩ := F.ex
  have hpN : ps.length ≤ N.length := by have := congrArg List.length S.pre; rw [List.length_take] at this; omega
  refine fn_of lk hcd S (fun vs H Q E h => ?_) fun A outer s H vs Q E hr h => ?_
  · obtain ⟨M, ds, r, _, hd, hp, _⟩ := h
    rw [hd.len, hl ds r hp]
  · obtain ⟨M, ds, r, m, hd, hp, q, qx⟩ := h
    obtain ⟨t, h1, h2⟩ := hbody cdv A outer s H E ds r hr hp
    refine ⟨t, h1, h2 M H [] _ H _ (sta_start m hd (by rw [hl ds r hp]; exact hpN)) fun o p => ?_⟩
    cases o with
    | nx ρ => exact fun σ' H' s' => q _ p _ H' (by obtain ⟨M', st'⟩ := s'; exact ⟨M', st'.bs, .non⟩)
    | rt d => exact fun v H' a => q d p v H' a
    | bk ρ => exact False.elim p
    | ct ρ => exact False.elim p
    | xc c => exact fun H' a => qx c p H' a
end
end Fr
namespace Fr
open PySem PySem.Spec PyProof.Rows L2
section
variable {X : Cx}
theorem pe_globI {x : Str} {i : Int} {pos : Pos} (hm : ∃ t, X.mg x = some (.int i t)) (hg : Gl X x := by rfl) (hd : (x == ("__debug__" : Str)) = false := by decide) : PE X (.Name x pos) (tC (.int i)) := by
  obtain ⟨t, h⟩ := hm
  exact pe_glob hg h ⟨t, rfl⟩ hd
theorem pe_globS {x : Str} {i : Str} {pos : Pos} (hm : ∃ t, X.mg x = some (.str i t)) (hg : Gl X x := by rfl) (hd : (x == ("__debug__" : Str)) = false := by decide) : PE X (.Name x pos) (tC (.str i)) := by
  obtain ⟨t, h⟩ := hm
  exact pe_glob hg h ⟨t, rfl⟩ hd
def CMulA (i j : Int) : Prop := CMul i j ∨ CMulW i j
theorem op_mulA : OpR X (binaryOp .Mult) (rI CMulA fun i j => .int (i * j)) := by
  intro pins s σ H x y v u Q I rx ry h
  obtain ⟨i, j, e1, e2, c, q⟩ := h
  rcases c with c | c
  · exact op_mul pins s σ H x y v u Q I rx ry ⟨i, j, e1, e2, c, q⟩
  · exact op_mulW pins s σ H x y v u Q I rx ry ⟨i, j, e1, e2, c, q⟩
theorem cmul_r {i j : Int} (h1 : -(2 ^ 64) < j) (h2 : j < 2 ^ 64) : CMulA i j := .inl (.inr ⟨h1, h2⟩)
theorem cmul_l {i j : Int} (h1 : -(2 ^ 64) < i) (h2 : i < 2 ^ 64) : CMulA i j := .inl (.inl ⟨h1, h2⟩)
theorem cmul_w {i j : Int} (a b : Nat) (ha : i.natAbs < 2 ^ a) (hb : j.natAbs < 2 ^ b) (h0 : 0 < a) (h1 : 0 < b) (h : a + b ≤ 1000000) : CMulA i j := .inr (wide_mul ha hb h0 h1 h)
theorem passLN : Passes (L2N.CX X.prog X.w) X E0 := fun _ _ _ _ _ _ _ h => by
  obtain ⟨_, _, _, _, _, _, _, _, _, _, _, _, z⟩ := h
  exact z.elim
end
theorem bt_len : bootBuiltins "len" = some (.builtin "len") := by decide +kernel
theorem bt_all : bootBuiltins "all" = some (.builtin "all") := by decide +kernel
theorem bt_any : bootBuiltins "any" = some (.builtin "any") := by decide +kernel
theorem bt_sum : bootBuiltins "sum" = some (.builtin "sum") := by decide +kernel
theorem bt_max : bootBuiltins "max" = some (.builtin "max") := by decide +kernel
theorem bt_min : bootBuiltins "min" = some (.builtin "min") := by decide +kernel
theorem bt_isinstance : bootBuiltins "isinstance" = some (.builtin "isinstance") := by decide +kernel
theorem bt_tuple : bootBuiltins "tuple" = some (.type "tuple") := by decide +kernel
theorem bt_list : bootBuiltins "list" = some (.type "list") := by decide +kernel
theorem bt_int : bootBuiltins "int" = some (.type "int") := by decide +kernel
theorem bt_bool : bootBuiltins "bool" = some (.type "bool") := by decide +kernel
theorem bt_str : bootBuiltins "str" = some (.type "str") := by decide +kernel
theorem bt_dict : bootBuiltins "dict" = some (.type "dict") := by decide +kernel
section
variable (P : Program) (w : World) (K : PySem.W.Frag) (mg : Str → Option Value) (base : Heap)
/-- a def of the text, where it stands -/
def Df (x : Str) (st : Stmt) (ps : List Str) : Prop := ∃ (f : Addr) (fd : FuncData), Fun K x x st f fd ∧ mg x = some (.ref f) ∧ Binds K fd ps []
/-- a def that keeps a promise -/
def Ck (x : Str) (k : Nat) (ps : List Str) (sp : Sp) : Prop := ∃ (f : Addr) (fd : FuncData), mg x = some (.ref f) ∧ PySem.W.keepIn K (.ref f) = true ∧ Binds K fd ps [] ∧ FnOk P w K mg base (L2N.CX P w) k f fd ps sp
end
section
variable {P : Program} {w : World} {K : PySem.W.Frag} {mg : Str → Option Value} {base : Heap}
theorem ck_mk {x : Str} {st : Stmt} {N ps : List Str} {k : Nat} {Pr : List Dt → Except Value Dt → Prop} (D : Df K mg x st ps) (S : FnScope N ps (defScope st)) (hl : ∀ ds r, Pr ds r → ds.length = ps.length)
    (hbody : ∀ (f : Addr) (cdv : Value) (A : Around) (outer : List Env) (s : Shared) (H : Hp) (E : XK) (ds : List Dt) (r : Except Value Dt), Room k (A.deeper (envOfC x (defScope st) s.heap.objs.size f cdv)) → Pr ds r →
      ∃ t, PSs (cxOf (L2N.CX P w) P w K mg base N x (defScope st) f cdv A outer s H E) (defBody st) t ∧ Wp K E t (ds.map Sl.va ++ List.replicate (N.length - ds.length) .no) (Fr.Fin r)) : Ck P w K mg base x (k + 1) ps (spD K Pr) := by
  obtain ⟨f, fd, F, hm, hb⟩ := D
  exact ⟨f, fd, hm, F.kp, hb, fn_mk F S hl fun cdv A outer s H E ds r hr hp => hbody f cdv A outer s H E ds r hr hp⟩
section
variable {X : Cx} {CXo : CXT} {x : Str} {k : Nat} {ps : List Str} {sp : Sp} {E : XK} {p pos : Pos} {e : Expr} {es : List Expr} {t : TA}
theorem pe_callC (G : Ck X.prog X.w X.K X.mg X.base x k ps sp) (hr : Room k X.A) (hx : Passes (L2N.CX X.prog X.w) X E) (ha : PA X (e :: es) t) (hg : Gl X x := by rfl)
    (hdb : (x == ("__debug__" : Str)) = false := by decide) (he : starEach (e :: es) X.env = (false, eval e X.env) :: starEach es X.env := by rfl) (hpl : (backTo pos (starEach es X.env)).any (·.1) = false := by rfl) :
    PE X (.Call (.Name x p) (e :: es) [] pos) (tCall sp [] E t) := by
  obtain ⟨f, fd, hm, hk, hb, F⟩ := G
  exact pe_call F hr hg hm hk hb .nil hx ha hdb he hpl
theorem pe_callC0 (G : Ck X.prog X.w X.K X.mg X.base x k ps sp) (hr : Room k X.A) (hx : Passes (L2N.CX X.prog X.w) X E) (hg : Gl X x := by rfl) (hdb : (x == ("__debug__" : Str)) = false := by decide) : PE X (.Call (.Name x p) [] [] pos) (tCall sp [] E tNil) := by
  obtain ⟨f, fd, hm, hk, hb, F⟩ := G
  exact pe_call0 F hr hg hm hk hb .nil hx hdb
end
end
section
variable {K : PySem.W.Frag} {ρ : List Sl} {ta tb te tc : TE} {x y z d : Dt} {t u : TT}
theorem et_yes : EvT K tYes ρ true := fun M0 H0 σ H T Q s q => q H s
/-- an item of xs.map enc -/
theorem rv_ixLm {α : Type} {enc : α → Dt} {xs : List α} {i : Int} {x : α} (e : atI xs i = some x) : RV K (rIxL K) (.list (xs.map enc)) (.int i) (enc x) := rv_ixL (by
  unfold atI at e ⊢
  rw [List.length_map]
  cases q : ixN xs.length i with
  | none => rw [q] at e; cases e
  | some j =>
    rw [q] at e
    show (xs.map enc)[j]? = _
    have e : xs[j]? = some x := e
    rw [List.getElem?_map, e]; rfl)
theorem rv_ixTm {α : Type} {enc : α → Dt} {xs : List α} {i : Int} {x : α} (e : atI xs i = some x) : RV K (rIxT K) (.tuple (xs.map enc)) (.int i) (enc x) := rv_ixT (by
  unfold atI at e ⊢
  rw [List.length_map]
  cases q : ixN xs.length i with
  | none => rw [q] at e; cases e
  | some j =>
    rw [q] at e
    show (xs.map enc)[j]? = _
    have e : xs[j]? = some x := e
    rw [List.getElem?_map, e]; rfl)
theorem atI_of {α : Type} {xs : List α} {i : Int} (h0 : 0 ≤ i) (h1 : i < xs.length) (dflt : α) : atI xs i = some (xs.getD i.toNat dflt) := by
  unfold atI ixN
  rw [if_pos h0, if_pos h1]
  show xs[i.toNat]? = _
  have : i.toNat < xs.length := by omega
  rw [List.getElem?_eq_getElem this, List.getD_eq_getElem?_getD, List.getElem?_eq_getElem this]; rfl
theorem enumD_map {α : Type} {enc : α → Dt} {xs : List α} : enumD (xs.map enc) = xs.zipIdx.map fun p => PyData.tuple [.int (p.2 : Int), enc p.1] := by
  unfold enumD
  rw [List.zipIdx_map, List.map_map]
  rfl
theorem ei_enumM {α : Type} {enc : α → Dt} {xs : List α} (h : Ev K te ρ (.list (xs.map enc))) : EvI K (iEnum K (tCons te tNil)) ρ (xs.zipIdx.map fun p => PyData.tuple [.int (p.2 : Int), enc p.1]) := enumD_map ▸ ei_enum h
theorem zipD_map {α β : Type} {f : α → Dt} {g : β → Dt} {xs : List α} {ys : List β} : zipD (xs.map f) (ys.map g) = (xs.zip ys).map fun p => PyData.tuple [f p.1, g p.2] := by
  unfold zipD
  rw [List.zip_map, List.map_map]
  rfl
theorem ei_zipTM {α β : Type} {f : α → Dt} {g : β → Dt} {xs : List α} {ys : List β} (h : Ev K te ρ (.tuple (xs.map f))) (h' : Ev K tb ρ (.tuple (ys.map g))) : EvI K (RZ.iZipA K (tCons te (tCons tb tNil))) ρ ((xs.zip ys).map fun p => PyData.tuple [f p.1, g p.2]) := zipD_map ▸ ei_zipT h h'
theorem ei_zipLM {α β : Type} {f : α → Dt} {g : β → Dt} {xs : List α} {ys : List β} (h : Ev K te ρ (.list (xs.map f))) (h' : Ev K tb ρ (.list (ys.map g))) : EvI K (RZ.iZipA K (tCons te (tCons tb tNil))) ρ ((xs.zip ys).map fun p => PyData.tuple [f p.1, g p.2]) := zipD_map ▸ ei_zipL h h'
/-- [e for x in xs] -/
theorem evn_lc0 {α : Type} {wi : TI} {g : TG} {vs : List Nat} {xs : List α} {enc : α → Dt} (hi : EvI K wi ρ (xs.map enc)) (hl : xs.length ≤ 1000000) (out : α → Dt) (ρ2 : α → List Sl)
    (hb : ∀ x ∈ xs, EvG K g vs (enc x) (cset ρ vs) (ρ2 x) ∧ Ev K te (ρ2 x) (out x)) : EvN K (tLc wi g tYes te vs) ρ (xs.map out) := by
  have h := evn_lc (K := K) (te := te) (tt := tYes) hi hl (fun _ => true) out ρ2 fun x hx => ⟨(hb x hx).1, et_yes, fun _ => (hb x hx).2⟩
  rw [List.filter_eq_self.mpr (fun _ _ => rfl)] at h
  exact h
end
end Fr
namespace Fr
open PySem PySem.Spec PyProof.Rows L2
/-- an exception's class of the program -/
structure Xc (K : PySem.W.Frag) (mg : Str → Option Value) (x : Str) : Prop where
  gl : mg x = some (.ref (He.ga K x))
  ex : PySem.W.excIn K (He.ga K x) He.veBase "ValueError.__new__" = true
  kp : PySem.W.keepIn K (.ref (He.ga K x)) = true
  sb : PySem.W.subIn K (.ref (He.ga K x)) (.type "BaseException") = some true
  ty : PySem.W.typeIn K (.ref (He.ga K x)) = some (.type "type")
theorem cdiv_s {i j : Int} (h : 0 < j) (h2 : j < 2 ^ 64) : CDivW i j := wide_div (b := 64) h (by omega) (by decide) (by decide)
def isI : Dt → Bool
  | .int _ => true
  | .bool _ => true
  | _ => false
def isB : Dt → Bool
  | .bool _ => true
  | _ => false
def isT : Dt → Bool
  | .tuple _ => true
  | _ => false
def isL : Dt → Bool
  | .list _ => true
  | _ => false
def isS : Dt → Bool
  | .str _ => true
  | _ => false
def isD : Dt → Bool
  | .dict _ => true
  | _ => false
theorem kit_int (d : Dt) : kitB (tyD d) "int" = some (isI d) := by
  cases d <;> (first | show kitB "NoneType" "int" = some false | show kitB "bool" "int" = some true | show kitB "int" "int" = some true | show kitB "str" "int" = some false | show kitB "list" "int" = some false | show kitB "tuple" "int" = some false | show kitB "dict" "int" = some false) <;> decide +kernel
theorem kit_bool (d : Dt) : kitB (tyD d) "bool" = some (isB d) := by
  cases d <;> (first | show kitB "NoneType" "bool" = some false | show kitB "bool" "bool" = some true | show kitB "int" "bool" = some false | show kitB "str" "bool" = some false | show kitB "list" "bool" = some false | show kitB "tuple" "bool" = some false | show kitB "dict" "bool" = some false) <;> decide +kernel
theorem kit_tuple (d : Dt) : kitB (tyD d) "tuple" = some (isT d) := by
  cases d <;> (first | show kitB "NoneType" "tuple" = some false | show kitB "bool" "tuple" = some false | show kitB "int" "tuple" = some false | show kitB "str" "tuple" = some false | show kitB "list" "tuple" = some false | show kitB "tuple" "tuple" = some true | show kitB "dict" "tuple" = some false) <;> decide +kernel
theorem kit_list (d : Dt) : kitB (tyD d) "list" = some (isL d) := by
  cases d <;> (first | show kitB "NoneType" "list" = some false | show kitB "bool" "list" = some false | show kitB "int" "list" = some false | show kitB "str" "list" = some false | show kitB "list" "list" = some true | show kitB "tuple" "list" = some false | show kitB "dict" "list" = some false) <;> decide +kernel
theorem kit_str (d : Dt) : kitB (tyD d) "str" = some (isS d) := by
  cases d <;> (first | show kitB "NoneType" "str" = some false | show kitB "bool" "str" = some false | show kitB "int" "str" = some false | show kitB "str" "str" = some true | show kitB "list" "str" = some false | show kitB "tuple" "str" = some false | show kitB "dict" "str" = some false) <;> decide +kernel
section
variable {K : PySem.W.Frag} {ρ : List Sl} {ta : TE} {d : Dt} {t u : TT}
theorem ev_isi' {n : String} {b : Bool} (h : Ev K ta ρ d) (hk : kitB (tyD d) n = some b) : Ev K (tCB (rIsi K) (tCons ta (tCons (tC (.ty n)) tNil))) ρ (.bool b) :=
  (ev_isi h (by rw [hk]; rfl)).to (by unfold isiD; rw [hk]; rfl)
theorem ev_isi_int (h : Ev K ta ρ d) : Ev K (tCB (rIsi K) (tCons ta (tCons (tC (.ty "int")) tNil))) ρ (.bool (isI d)) := ev_isi' h (kit_int d)
theorem ev_isi_bool (h : Ev K ta ρ d) : Ev K (tCB (rIsi K) (tCons ta (tCons (tC (.ty "bool")) tNil))) ρ (.bool (isB d)) := ev_isi' h (kit_bool d)
theorem ev_isi_tuple (h : Ev K ta ρ d) : Ev K (tCB (rIsi K) (tCons ta (tCons (tC (.ty "tuple")) tNil))) ρ (.bool (isT d)) := ev_isi' h (kit_tuple d)
theorem ev_isi_list (h : Ev K ta ρ d) : Ev K (tCB (rIsi K) (tCons ta (tCons (tC (.ty "list")) tNil))) ρ (.bool (isL d)) := ev_isi' h (kit_list d)
theorem ev_isi_str (h : Ev K ta ρ d) : Ev K (tCB (rIsi K) (tCons ta (tCons (tC (.ty "str")) tNil))) ρ (.bool (isS d)) := ev_isi' h (kit_str d)
theorem et_or1 (h : EvT K t ρ true) : EvT K (tOr t u) ρ true := et_or (b := true) h fun z => nomatch z
theorem et_or2 {a : Bool} (h : EvT K t ρ a) (h2 : EvT K u ρ true) : EvT K (tOr t u) ρ true := by
  have := et_or h fun _ => h2
  rw [Bool.or_true] at this
  exact this
theorem et_and0 (h : EvT K t ρ false) : EvT K (tAnd t u) ρ false := et_and (b := false) h fun z => nomatch z
end
section
variable {K : PySem.W.Frag}
def rMaxT (K : PySem.W.Frag) : List V → Hp → VK → Prop := fun vs H Q => ∃ (a : Addr) (ns : List Int), vs = [V.ref a] ∧ SqT K H a (ns.map V.int) ∧ 0 < ns.length ∧ ∀ m, m ∈ ns → (∀ y, y ∈ ns → y ≤ m) → Q (.int m) H
theorem rc_maxT {ns : List Int} (h0 : 0 < ns.length) : RC K (rMaxT K) [.tuple (ns.map PyData.int)] (.int (maxI ns)) := fun M0 H0 σ H ρ T Q vs s m l q => rc_one l m fun v e hv => by
  obtain ⟨M, st⟩ := id s
  obtain ⟨a, ws, rfl, h1, h2⟩ := (st.at hv).tup_inv
  have ew := h2.ints
  subst ew
  refine ⟨a, ns, e, sqT_mono st.bs.mh h1, h0, fun k hk hle => ?_⟩
  have ne : ns ≠ [] := by intro z; subst z; simp at h0
  have ek : k = maxI ns := Int.le_antisymm (le_maxI hk) (hle _ (maxI_mem ne))
  rw [ek]
  exact q _ H (s.add fun M _ => .int _)
end
end Fr
namespace Fr
open PySem PySem.Spec PyProof.Rows L2
section
variable {prog : Program} {w : World} {A : Around} {E : Value → Shared → Prop} {s : Shared} {l : Addr} {xs : Array (Int × Tok)} {Q : Value → Shared → Prop}
theorem max_tupInts (hh : A.handled = none) (hl : s.heap.IsTuple l (intItems xs)) (hne : 0 < xs.size)
    (k : ∀ v h' tk, (intItems xs)[argBest (fun i j => decide (numAt xs i > numAt xs j)) (xs.size - 1)]? = some v → (∀ b o, s.heap.get? b = some o → h'.get? b = some o) → Q v { s with heap := h', toks := tk }) :
    wpAny (model prog w) A (call (.builtin "max") [.ref l]) Q E s := by
  have lt : l < s.heap.objs.size := by
    obtain ⟨_, e, _⟩ := hl
    exact Heap.lt_size e
  have ne : l ≠ s.heap.objs.size := Nat.ne_of_lt lt
  refine call_max_walk (wpAny_pyIter_tuple hl ?_)
  refine ⟨s.heap.objs.size, [s.heap.objs.size, l], [s.heap.objs.size], _, _, _, _, rfl, Walks.tuple (A := A.in1) hh _ l ne (intItems xs), ⟨⟨_, Heap.get?_push_size _ rfl, rfl, rfl⟩, hl.push _⟩, ?_, by simpa [intItems] using hne, CmpOf.ints_gt (numAt xs) (fun _ _ => intItems_at), ?_⟩
  · intro c hc
    show c < (s.heap.push _).objs.size
    rw [Heap.size_push]
    simp only [List.mem_cons, List.not_mem_nil, or_false] at hc
    rcases hc with rfl | rfl
    · exact Nat.lt_succ_self _
    · exact Nat.lt_succ_of_lt lt
  · intro v h' tk hP hk
    refine k v h' tk (by simpa [intItems] using hP) fun b o e => ?_
    refine hk b o (fun hm => ?_) (Heap.get?_push_of_some _ e)
    simp only [List.mem_cons, List.not_mem_nil, or_false] at hm
    exact absurd (hm ▸ Heap.lt_size e) (Nat.lt_irrefl _)
end
section
variable {X : Cx}
theorem cr_maxT (hc : X.calm = true) : CallR X (.builtin "max") (rMaxT X.K) := by
  intro pins s σ H vs us Q I r h
  obtain ⟨a, ns, rfl, hs, hne, q⟩ := h
  obtain ⟨its, rv, hl, _⟩ := I.tuple hs
  rw [Vals.ref1 r]
  obtain ⟨xs, e⟩ := rv.ints.allInts.items
  have hn : numsOf (intItems xs).toList = ns := by
    rw [← e]
    exact rv.ints.numsOf
  rw [nums_intItems] at hn
  subst hn
  rw [e] at hl
  refine max_tupInts (I.ok.hd hc) hl (by simpa using hne) fun v h' tk hv hk => ?_
  obtain ⟨t, rfl⟩ := intItems_at hv
  obtain ⟨h1, h2⟩ := argBest_gt (numAt xs) (xs.size - 1)
  refine ⟨.int _, H, I.kept hk, ⟨_, rfl⟩, q _ ?_ fun y hy => ?_⟩
  · rw [numAt_eq]
    refine PySem.getD_mem ?_
    rw [List.length_map, Array.length_toList]
    have : 0 < xs.size := by simpa using hne
    omega
  · obtain ⟨j, hj, rfl⟩ := mem_getD hy
    rw [List.length_map, Array.length_toList] at hj
    rw [← numAt_eq]
    exact h2 j (by omega)
end
end Fr

namespace Fr
open PySem PySem.Spec PyProof.Rows L2
section
variable {X : Cx} {K : PySem.W.Frag}
theorem ix_listK (h : X.K = K) : IxR X (rIxL K) := h ▸ ix_list
theorem ix_tupK (h : X.K = K) : IxR X (rIxT K) := h ▸ ix_tup
theorem op_eqDK (h : X.K = K) (hu : X.A.units + 64 < cLine) : OpR X (compareOp .Eq) (rEqD K) := h ▸ op_eqD hu
theorem op_neDK (h : X.K = K) (hu : X.A.units + 64 < cLine) : OpR X (compareOp .NotEq) (rNeD K) := h ▸ op_neD hu
theorem op_inK (h : X.K = K) : OpR X (compareOp .In) (rIn K false) := h ▸ op_in_seq
theorem op_notInK (h : X.K = K) : OpR X (compareOp .NotIn) (rIn K true) := h ▸ op_notIn_seq
theorem op_catAK (h : X.K = K) : OpR X (binaryOp .Add) (rCatA K) := h ▸ op_catA
theorem op_repTK (h : X.K = K) : OpR X (binaryOp .Mult) (rRepT K) := h ▸ op_repT
theorem call_isiKK (h : X.K = K) : CallR X (.builtin "isinstance") (rIsi K) := h ▸ call_isi
theorem call_lenK (h : X.K = K) : CallR X (.builtin "len") (rLenQ K) := h ▸ call_len_seq
theorem call_tupK (h : X.K = K) : CallR X (.type "tuple") (rTupQ K) := h ▸ call_tuple_of
theorem call_listK (h : X.K = K) : CallR X (.type "list") (rListQ K) := h ▸ call_list_of
theorem cr_allK (h : X.K = K) (hc : X.calm = true) : CallR X (.builtin "all") (rAll K) := h ▸ cr_all hc
theorem cr_anyK (h : X.K = K) (hc : X.calm = true) : CallR X (.builtin "any") (rAny K) := h ▸ cr_any hc
theorem cr_sumK (h : X.K = K) (hc : X.calm = true) : CallR X (.builtin "sum") (rSum K) := h ▸ cr_sum hc
theorem cr_maxK (h : X.K = K) (hc : X.calm = true) : CallR X (.builtin "max") (rMax K) := h ▸ cr_max hc
theorem cr_minK (h : X.K = K) (hc : X.calm = true) : CallR X (.builtin "min") (rMin K) := h ▸ cr_min hc
theorem cr_maxTK (h : X.K = K) (hc : X.calm = true) : CallR X (.builtin "max") (rMaxT K) := h ▸ cr_maxT hc
theorem sl_listK (h : X.K = K) : SlR X (rSlL K) := h ▸ sl_list
theorem sl_tupK (h : X.K = K) : SlR X (rSlA K) := h ▸ sl_tupA
theorem pi_listK {tg l : Expr} {tl : TE} (h : X.K = K) (hl : PE X l tl) : PI X tg l (iList K tl) := h ▸ pi_list hl
theorem pi_tupK {tg l : Expr} {tl : TE} (h : X.K = K) (hl : PE X l tl) : PI X tg l (iTup K tl) := h ▸ pi_tup hl
theorem pi_enumK {e : Expr} {ta : TA} {p pos tpos : Pos} {elts : List Expr} {kk : Nat} (h : X.K = K) (hg : Gl X "enumerate") (hm : X.mg "enumerate" = none) (ha : PA X [e] ta) (hs : starEach [e] X.env = [(false, eval e X.env)] := by rfl) :
    PI X (.Tuple elts kk tpos) (.Call (.Name "enumerate" p) [e] [] pos) (iEnum K ta) := h ▸ pi_enum hg hm ha hs
theorem pi_zipK {e e2 : Expr} {ta : TA} {p pos tpos : Pos} {elts : List Expr} {kk : Nat} (h : X.K = K) (hg : Gl X "zip") (hm : X.mg "zip" = none) (ha : PA X [e, e2] ta)
    (hs : starEach [e, e2] X.env = (false, eval e X.env) :: starEach [e2] X.env := by rfl) (hpl : (backTo pos (starEach [e2] X.env)).any (·.1) = false := by rfl) :
    PI X (.Tuple elts kk tpos) (.Call (.Name "zip" p) [e, e2] [] pos) (RZ.iZipA K ta) := h ▸ RZ.pi_zipA hg hm ha hs hpl
theorem pg_tupK {es : List Expr} {k n : Nat} {t : TGs} {pos : Pos} (h : X.K = K) (hc : X.calm = true) (ht : PGs X es t)
    (hn : (assignEach es X.env).length = n := by rfl) (hst : (assignEach es X.env).findIdx? (·.1) = none := by rfl) : PG X (.Tuple es k pos) (gTup K n t) := h ▸ pg_tup hc ht hn hst
end
end Fr
namespace Mx
/-- a prime -/
def Pm (p : Nat) : Prop := 2 ≤ p ∧ ∀ d, d ∣ p → d = 1 ∨ d = p
theorem pm_cop {p a : Nat} (h : Pm p) (n : ¬ p ∣ a) : Nat.Coprime p a := by
  rcases h.2 _ (Nat.gcd_dvd_left p a) with e | e
  · exact e
  · exact absurd (e ▸ Nat.gcd_dvd_right p a) n
theorem pm_mul {p a b : Nat} (h : Pm p) (d : p ∣ a * b) : p ∣ a ∨ p ∣ b := by
  by_cases q : p ∣ a
  · exact .inl q
  · exact .inr ((pm_cop h q).dvd_of_dvd_mul_left d)
def mlt (p n : Nat) : Nat := if h : 2 ≤ p ∧ 0 < n ∧ n % p = 0 then mlt p (n / p) + 1 else 0
termination_by n
decreasing_by exact Nat.div_lt_self h.2.1 (by omega)
theorem mlt_step {p n : Nat} (h1 : 2 ≤ p) (h2 : 0 < n) (h3 : n % p = 0) : mlt p n = mlt p (n / p) + 1 := by
  rw [mlt, dif_pos ⟨h1, h2, h3⟩]
theorem mlt_no {p n : Nat} (h : n % p ≠ 0) : mlt p n = 0 := by
  rw [mlt, dif_neg fun z => h z.2.2]
theorem mlt_self {p n : Nat} (h1 : 2 ≤ p) (h2 : 0 < n) : mlt p (p * n) = mlt p n + 1 := by
  rw [mlt_step h1 (Nat.mul_pos (by omega) h2) (Nat.mul_mod_right p n), Nat.mul_div_cancel_left n (by omega)]
theorem mlt_pow {p n : Nat} (h1 : 2 ≤ p) (h2 : 0 < n) : ∀ k, mlt p (p ^ k * n) = k + mlt p n
  | 0 => by simp
  | k + 1 => by
    rw [Nat.pow_succ, Nat.mul_comm (p ^ k) p, Nat.mul_assoc, mlt_self h1 (Nat.mul_pos (Nat.pow_pos (by omega)) h2), mlt_pow h1 h2 k]
    omega
theorem mlt_dvd {p n : Nat} : p ^ mlt p n ∣ n := by
  fun_induction mlt p n with
  | case1 n h ih =>
    obtain ⟨c, hc⟩ := ih
    refine ⟨c, ?_⟩
    rw [Nat.pow_succ, Nat.mul_comm _ p, Nat.mul_assoc, ← hc, Nat.mul_div_cancel' (Nat.dvd_of_mod_eq_zero h.2.2)]
  | case2 n h => simp
theorem mlt_split {p n : Nat} (h1 : 2 ≤ p) (h2 : 0 < n) : ∃ r, n = p ^ mlt p n * r ∧ 0 < r ∧ ¬ p ∣ r := by
  obtain ⟨r, hr⟩ := mlt_dvd (p := p) (n := n)
  have r0 : 0 < r := by
    rcases Nat.eq_zero_or_pos r with z | z
    · rw [z, Nat.mul_zero] at hr; omega
    · exact z
  refine ⟨r, hr, r0, fun d => ?_⟩
  obtain ⟨c, rfl⟩ := d
  have c0 : 0 < c := by
    rcases Nat.eq_zero_or_pos c with z | z
    · rw [z, Nat.mul_zero] at r0; omega
    · exact z
  have e : mlt p n = mlt p n + 1 + mlt p c := by
    have e1 : n = p ^ (mlt p n + 1) * c := by rw [Nat.pow_succ, Nat.mul_assoc]; exact hr
    have := mlt_pow h1 c0 (mlt p n + 1)
    rw [← e1] at this
    exact this
  omega
theorem mlt_uniq {p n k r : Nat} (h1 : 2 ≤ p) (e : n = p ^ k * r) (r0 : 0 < r) (nd : ¬ p ∣ r) : mlt p n = k := by
  rw [e, mlt_pow h1 r0, mlt_no fun z => nd (Nat.dvd_of_mod_eq_zero z)]
  rfl
theorem mlt_mul {p a b : Nat} (h : Pm p) (ha : 0 < a) (hb : 0 < b) : mlt p (a * b) = mlt p a + mlt p b := by
  obtain ⟨r, e1, r0, n1⟩ := mlt_split h.1 ha
  obtain ⟨s, e2, s0, n2⟩ := mlt_split h.1 hb
  refine mlt_uniq (r := r * s) h.1 ?_ (Nat.mul_pos r0 s0) fun d => ?_
  · rw [Nat.pow_add]
    calc a * b = (p ^ mlt p a * r) * (p ^ mlt p b * s) := by rw [← e1, ← e2]
      _ = _ := by rw [Nat.mul_assoc, Nat.mul_assoc, Nat.mul_left_comm r]
  · exact (pm_mul h d).elim n1 n2
theorem mlt_one {p : Nat} (h : 2 ≤ p) : mlt p 1 = 0 := mlt_no (by rw [Nat.mod_eq_of_lt (by omega)]; decide)
theorem pm_ne {p q : Nat} (hp : Pm p) (hq : Pm q) (n : p ≠ q) : ¬ p ∣ q := fun d => by
  rcases hq.2 p d with e | e
  · have := hp.1; omega
  · exact n e
theorem mlt_powOther {p q : Nat} (hp : Pm p) (hq : Pm q) (n : p ≠ q) : ∀ k, mlt p (q ^ k) = 0
  | 0 => by simp [mlt_one hp.1]
  | k + 1 => by
    rw [Nat.pow_succ, mlt_mul hp (Nat.pow_pos (by have := hq.1; omega)) (by have := hq.1; omega), mlt_powOther hp hq n k, mlt_no fun z => pm_ne hp hq n (Nat.dvd_of_mod_eq_zero z)]
theorem mlt_powSelf {p : Nat} (h : 2 ≤ p) (k : Nat) : mlt p (p ^ k) = k := by
  have := mlt_pow h (n := 1) (by omega) k
  rw [Nat.mul_one, mlt_one h] at this
  exact this
theorem mlt_le_iff {p n k : Nat} (h1 : 2 ≤ p) (h2 : 0 < n) : p ^ k ∣ n ↔ k ≤ mlt p n := by
  constructor
  · rintro ⟨c, hc⟩
    have c0 : 0 < c := by
      rcases Nat.eq_zero_or_pos c with z | z
      · rw [z, Nat.mul_zero] at hc; omega
      · exact z
    rw [hc, mlt_pow h1 c0]; omega
  · intro h
    exact Nat.dvd_trans (Nat.pow_dvd_pow p h) mlt_dvd
theorem mlt_of_dvd {p a b : Nat} (h : Pm p) (hb : 0 < b) (d : a ∣ b) : mlt p a ≤ mlt p b := by
  have ha : 0 < a := Nat.pos_of_dvd_of_pos d hb
  obtain ⟨c, rfl⟩ := d
  have c0 : 0 < c := by
    rcases Nat.eq_zero_or_pos c with z | z
    · rw [z, Nat.mul_zero] at hb; omega
    · exact z
  rw [mlt_mul h ha c0]; omega
theorem mlt_pow_le {p n : Nat} (h2 : 0 < n) : p ^ mlt p n ≤ n := Nat.le_of_dvd h2 mlt_dvd

def mk : List Nat → List Nat → Nat
  | p :: ps, r :: rs => p ^ r * mk ps rs
  | _, _ => 1
theorem mk_pos : ∀ (ps rs : List Nat), (∀ p ∈ ps, Pm p) → 0 < mk ps rs
  | [], _, _ => by simp [mk]
  | _ :: _, [], _ => by simp [mk]
  | p :: ps, r :: rs, h => by
    have := (h p (by simp)).1
    exact Nat.mul_pos (Nat.pow_pos (by omega)) (mk_pos ps rs fun q hq => h q (by simp [hq]))
theorem mlt_mkOut {q : Nat} (hq : Pm q) : ∀ (ps rs : List Nat), (∀ p ∈ ps, Pm p) → q ∉ ps → mlt q (mk ps rs) = 0
  | [], _, _, _ => by simp [mk, mlt_one hq.1]
  | _ :: _, [], _, _ => by simp [mk, mlt_one hq.1]
  | p :: ps, r :: rs, h, n => by
    have hp := h p (by simp)
    have := hp.1
    show mlt q (p ^ r * mk ps rs) = 0
    rw [mlt_mul hq (Nat.pow_pos (by omega)) (mk_pos ps rs fun q hq => h q (by simp [hq])), mlt_powOther hq hp (fun e => n (by simp [e])), mlt_mkOut hq ps rs (fun q hq => h q (by simp [hq])) fun z => n (by simp [z])]
theorem rooms_mk : ∀ (ps rs : List Nat), (∀ p ∈ ps, Pm p) → ps.Nodup → rs.length = ps.length → ps.map (mlt · (mk ps rs)) = rs
  | [], rs, _, _, l => by
    cases rs with
    | nil => rfl
    | cons r rs => simp at l
  | p :: ps, rs, h, nd, l => by
    cases rs with
    | nil => simp at l
    | cons r rs =>
      have hp := h p (by simp)
      have h' : ∀ q ∈ ps, Pm q := fun q hq => h q (by simp [hq])
      obtain ⟨n1, n2⟩ := List.nodup_cons.mp nd
      have := hp.1
      have pos := mk_pos ps rs h'
      have ih := rooms_mk ps rs h' n2 (by simpa using l)
      show mlt p (p ^ r * mk ps rs) :: ps.map (fun q => mlt q (p ^ r * mk ps rs)) = r :: rs
      congr 1
      · rw [mlt_pow hp.1 pos, mlt_mkOut hp ps rs h' n1]; rfl
      · calc ps.map (fun q => mlt q (p ^ r * mk ps rs)) = ps.map (mlt · (mk ps rs)) := by
              refine List.map_congr_left fun q hq => ?_
              rw [mlt_mul (h' q hq) (Nat.pow_pos (by omega)) pos, mlt_powOther (h' q hq) hp (fun e => n1 (e ▸ hq))]
              omega
          _ = rs := ih
theorem mk_dvd {n : Nat} (hn : 0 < n) : ∀ (ps : List Nat), (∀ p ∈ ps, Pm p) → ps.Nodup → mk ps (ps.map (mlt · n)) ∣ n
  | [], _, _ => by simp [mk]
  | p :: ps, h, nd => by
    have hp := h p (by simp)
    have h' : ∀ q ∈ ps, Pm q := fun q hq => h q (by simp [hq])
    obtain ⟨n1, n2⟩ := List.nodup_cons.mp nd
    have := hp.1
    have ih := mk_dvd hn ps h' n2
    refine Nat.Coprime.mul_dvd_of_dvd_of_dvd ?_ mlt_dvd ih
    refine Nat.Coprime.pow_left _ (pm_cop hp fun d => ?_)
    have e1 : mlt p (mk ps (ps.map (mlt · n))) = 0 := mlt_mkOut hp ps _ h' n1
    have e2 := (mlt_le_iff (k := 1) hp.1 (mk_pos ps (ps.map (mlt · n)) h')).mp (by simpa using d)
    omega
def pL : List Nat := [2, 3, 5, 7, 11, 13, 17, 19, 23, 29, 31, 37]
theorem pm_of {p : Nat} (h : 2 ≤ p) (k : ∀ d, d < p + 1 → d ∣ p → d = 1 ∨ d = p) : Pm p := ⟨h, fun d hd => k d (Nat.lt_succ_of_le (Nat.le_of_dvd (by omega) hd)) hd⟩
theorem pL_pm : ∀ p ∈ pL, Pm p := by
  have : ∀ p ∈ pL, 2 ≤ p ∧ ∀ d, d < p + 1 → d ∣ p → d = 1 ∨ d = p := by decide +kernel
  exact fun p hp => pm_of (this p hp).1 (this p hp).2
theorem pL_nd : pL.Nodup := by decide +kernel
def made (rs : List Nat) : Nat := mk pL rs
def rooms (n : Nat) : List Nat := pL.map (mlt · n)
def rest (n : Nat) : Nat := n / made (rooms n)
theorem rooms_len (n : Nat) : (rooms n).length = 12 := by simp [rooms, pL]
theorem rooms_made {rs : List Nat} (h : rs.length = 12) : rooms (made rs) = rs := rooms_mk pL rs pL_pm pL_nd (by rw [h]; rfl)
theorem made_pos (rs : List Nat) : 0 < made rs := mk_pos pL rs pL_pm
theorem made_rooms {n : Nat} (hn : 0 < n) : made (rooms n) ∣ n := mk_dvd hn pL pL_pm pL_nd
theorem rest_eq {n : Nat} (hn : 0 < n) : n = made (rooms n) * rest n := (Nat.mul_div_cancel' (made_rooms hn)).symm
theorem rest_made {rs : List Nat} (h : rs.length = 12) : rest (made rs) = 1 := by
  unfold rest
  rw [rooms_made h, Nat.div_self (made_pos rs)]
/-- whole, above nought, of the first primes alone, each up to 400 times -/
def IsNum (n : Nat) : Prop := 0 < n ∧ rest n = 1 ∧ ∀ k ∈ rooms n, k ≤ 400
theorem made_of {n : Nat} (hn : 0 < n) (h : rest n = 1) : made (rooms n) = n := by
  have := rest_eq hn
  rw [h, Nat.mul_one] at this
  exact this.symm
/-- the steps of parted's loop -/
theorem mk_take (ps : List Nat) (n : Nat) : ∀ i p, ps[i]? = some p → mk (ps.take (i + 1)) ((ps.take (i + 1)).map (mlt · n)) = mk (ps.take i) ((ps.take i).map (mlt · n)) * p ^ mlt p n := by
  induction ps with
  | nil => intro i p h; simp at h
  | cons q ps ih =>
    intro i p h
    cases i with
    | zero =>
      simp at h; subst h
      simp [mk]
    | succ i =>
      have h : ps[i]? = some p := by simpa using h
      show q ^ mlt q n * mk (ps.take (i + 1)) ((ps.take (i + 1)).map (mlt · n)) = q ^ mlt q n * mk (ps.take i) ((ps.take i).map (mlt · n)) * p ^ mlt p n
      rw [ih i p h, Nat.mul_assoc]
end Mx
namespace Mx
open PySem
theorem pL_item {i : Nat} {d : PyData} (h : (([2, 3, 5, 7, 11, 13, 17, 19, 23, 29, 31, 37] : List Int).map PyData.int)[i]? = some d) : ∃ p : Nat, pL[i]? = some p ∧ d = .int (p : Int) := by
  have e : ([2, 3, 5, 7, 11, 13, 17, 19, 23, 29, 31, 37] : List Int) = pL.map fun p : Nat => (p : Int) := by decide
  rw [e, List.map_map, List.getElem?_map] at h
  cases q : pL[i]? with
  | none => rw [q] at h; cases h
  | some p => rw [q] at h; cases h; exact ⟨p, rfl, rfl⟩
theorem pL_le : ∀ p ∈ pL, p ≤ 37 := by decide
theorem parted_end {n num : Nat} (hn : 0 < n) (h : n = mk (pL.take 12) ((pL.take 12).map (mlt · n)) * num) : num = rest n := by
  have e : pL.take 12 = pL := rfl
  rw [e] at h
  have h2 : n = made (rooms n) * num := h
  unfold rest
  rw [Nat.div_eq_of_eq_mul_right (made_pos _) h2]
theorem not_in_take {α : Type} : ∀ {l : List α} {i : Nat} {x : α}, l.Nodup → l[i]? = some x → x ∉ l.take i
  | [], _, _, _, h => by simp at h
  | y :: l, 0, x, _, _ => by simp
  | y :: l, i + 1, x, nd, h => by
    obtain ⟨n1, n2⟩ := List.nodup_cons.mp nd
    have h : l[i]? = some x := by simpa using h
    intro z
    rcases List.mem_cons.mp z with e | z
    · exact n1 (e ▸ List.mem_of_getElem? h)
    · exact not_in_take n2 h z
theorem mlt_step_parted {n num i p : Nat} (hn : 0 < n) (h : n = mk (pL.take i) ((pL.take i).map (mlt · n)) * num) (hp : pL[i]? = some p) (h0 : 0 < num) : mlt p n = mlt p num := by
  have pm := pL_pm p (List.mem_of_getElem? hp)
  have pt : ∀ q ∈ pL.take i, Pm q := fun q hq => pL_pm q (List.mem_of_mem_take hq)
  calc mlt p n = mlt p (mk (pL.take i) ((pL.take i).map (mlt · n)) * num) := by rw [← h]
    _ = mlt p (mk (pL.take i) ((pL.take i).map (mlt · n))) + mlt p num := mlt_mul pm (mk_pos _ _ pt) h0
    _ = mlt p num := by rw [mlt_mkOut pm _ _ pt (not_in_take pL_nd hp), Nat.zero_add]
end Mx
namespace Fr
open PySem PySem.Spec PyProof.Rows L2 Mx
abbrev nD (k : Nat) : Dt := .int (k : Int)
abbrev rmD (rs : List Nat) : Dt := .tuple (rs.map fun k : Nat => PyData.int (k : Int))
abbrev prD (p : Nat × Nat) : Dt := .tuple [.int (p.1 : Int), .int (p.2 : Int)]
abbrev lP (ps : List (Nat × Nat)) : Dt := .list (ps.map prD)
abbrev lN (ns : List Nat) : Dt := .list (ns.map fun k : Nat => PyData.int (k : Int))
def oN : Option Nat → Dt
  | none => .none
  | some k => .int (k : Int)
abbrev cE (K : PySem.W.Frag) (x : Str) : Except Value Dt := .error (.ref (He.ga K x))

def isNumD : Dt → Bool
  | .int i => decide (1 ≤ i) && (decide ((rest i.toNat : Int) = 1) && (rooms i.toNat).all fun k => decide ((k : Int) ≤ 400))
  | _ => false
def badNum : Dt → Bool
  | .int i => decide (i < 1)
  | _ => true
theorem badNum_true {d : Dt} (h : badNum d = true) : isNumD d = false := by
  cases d <;> try rfl
  rename_i i
  have h : decide (i < 1) = true := h
  have h := of_decide_eq_true h
  show (decide (1 ≤ i) && _) = false
  rw [decide_eq_false (by omega), Bool.false_and]
theorem badNum_false {d : Dt} (h : badNum d = false) : ∃ n : Nat, d = .int (n : Int) ∧ 0 < n := by
  cases d <;> try (cases h; done)
  rename_i i
  have h : decide (i < 1) = false := h
  have h := of_decide_eq_false h
  exact ⟨i.toNat, by congr 1; omega, by omega⟩
theorem isNumD_nat {n : Nat} (h : 0 < n) : isNumD (.int (n : Int)) = (decide ((rest n : Int) = 1) && (rooms n).all fun k => decide ((k : Int) ≤ 400)) := by
  show (decide (1 ≤ (n : Int)) && _) = _
  rw [decide_eq_true (by omega), Bool.true_and]
  rfl
theorem isNumD_iff {n : Nat} : isNumD (.int (n : Int)) = true ↔ IsNum n := by
  constructor
  · intro h
    have h1 : (decide (1 ≤ (n : Int)) && (decide ((rest n : Int) = 1) && (rooms n).all fun k => decide ((k : Int) ≤ 400))) = true := h
    simp only [Bool.and_eq_true, decide_eq_true_eq, List.all_eq_true] at h1
    exact ⟨by omega, by omega, fun k hk => by have := h1.2.2 k hk; omega⟩
  · rintro ⟨h1, h2, h3⟩
    rw [isNumD_nat h1]
    simp only [Bool.and_eq_true, decide_eq_true_eq, List.all_eq_true]
    exact ⟨by omega, fun k hk => by have := h3 k hk; omega⟩
theorem isNumD_of {d : Dt} (h : isNumD d = true) : ∃ n : Nat, d = .int (n : Int) ∧ IsNum n := by
  cases d <;> try (cases h; done)
  rename_i i
  have h0 : 1 ≤ i := by
    have h' : (decide (1 ≤ i) && _) = true := h
    simp only [Bool.and_eq_true, decide_eq_true_eq] at h'
    exact h'.1
  have e : i = ((i.toNat : Nat) : Int) := by omega
  refine ⟨i.toNat, by rw [← e], ?_⟩
  rw [e] at h
  exact isNumD_iff.mp h

/-- a right fraction -/
def IsFrac (p : Nat × Nat) : Prop := IsNum p.1 ∧ IsNum p.2 ∧ p.1 ≤ 1000000 ∧ p.2 ≤ 1000000 ∧ Nat.gcd p.1 p.2 = 1
def isFracD : Dt → Bool
  | .tuple [.int a, .int b] => isNumD (.int a) && (isNumD (.int b) && (decide (max a b ≤ 1000000) && decide ((Nat.gcd a.toNat b.toNat : Int) = 1)))
  | _ => false
def badFrac : Dt → Bool
  | .tuple ds => decide (ds.length ≠ 2) || !ds.all isNumD
  | _ => true
theorem badFrac_false {d : Dt} (h : badFrac d = false) : ∃ a b : Nat, d = prD (a, b) ∧ IsNum a ∧ IsNum b := by
  cases d <;> try (cases h; done)
  rename_i ds
  have h : (decide (ds.length ≠ 2) || !ds.all isNumD) = false := h
  rw [Bool.or_eq_false_iff, decide_eq_false_iff_not, Bool.not_eq_false', List.all_eq_true] at h
  match ds, h with
  | [x, y], h =>
    obtain ⟨a, rfl, ha⟩ := isNumD_of (h.2 x (by simp))
    obtain ⟨b, rfl, hb⟩ := isNumD_of (h.2 y (by simp))
    exact ⟨a, b, rfl, ha, hb⟩
  | [], h => simp at h
  | [_], h => simp at h
  | _ :: _ :: _ :: _, h => simp at h
theorem badFrac_true {d : Dt} (h : badFrac d = true) : isFracD d = false := by
  cases e : isFracD d with
  | false => rfl
  | true =>
    exfalso
    unfold isFracD at e
    split at e
    · rename_i a b
      simp only [Bool.and_eq_true] at e
      have h : (decide (([PyData.int a, PyData.int b] : List Dt).length ≠ 2) || !([PyData.int a, PyData.int b] : List Dt).all isNumD) = true := h
      simp [e.1, e.2.1] at h
    · cases e
theorem isFracD_pr {a b : Nat} (ha : IsNum a) (hb : IsNum b) : isFracD (prD (a, b)) = (decide (max (a : Int) (b : Int) ≤ 1000000) && decide ((Nat.gcd a b : Int) = 1)) := by
  show (isNumD (.int (a : Int)) && (isNumD (.int (b : Int)) && _)) = _
  rw [isNumD_iff.mpr ha, isNumD_iff.mpr hb, Bool.true_and, Bool.true_and]
  rfl
theorem isFracD_of {d : Dt} (h : isFracD d = true) : ∃ p : Nat × Nat, d = prD p ∧ IsFrac p := by
  cases e : badFrac d with
  | true => rw [badFrac_true e] at h; cases h
  | false =>
    obtain ⟨a, b, rfl, ha, hb⟩ := badFrac_false e
    rw [isFracD_pr ha hb] at h
    simp only [Bool.and_eq_true, decide_eq_true_eq] at h
    exact ⟨(a, b), rfl, ha, hb, by show a ≤ 1000000; omega, by show b ≤ 1000000; omega, by show Nat.gcd a b = 1; omega⟩
theorem isFracD_iff {p : Nat × Nat} : isFracD (prD p) = true ↔ IsFrac p := by
  constructor
  · intro h
    obtain ⟨q, e, hq⟩ := isFracD_of h
    have : p = q := by
      obtain ⟨a, b⟩ := p
      obtain ⟨c, d⟩ := q
      simp [prD] at e
      exact Prod.ext (by show a = c; omega) (by show b = d; omega)
    exact this ▸ hq
  · rintro ⟨h1, h2, h3, h4, h5⟩
    rw [isFracD_pr h1 h2]
    simp only [Bool.and_eq_true, decide_eq_true_eq]
    exact ⟨by omega, by omega⟩
/-- a right program -/
def IsProg (ps : List (Nat × Nat)) : Prop := ps.length ≤ 16 ∧ ∀ p ∈ ps, IsFrac p
def isProgD : Dt → Bool
  | .list ds => decide (ds.length ≤ 16) && ds.all isFracD
  | _ => false
def badProg : Dt → Bool
  | .list ds => decide (16 < ds.length)
  | _ => true
theorem badProg_true {d : Dt} (h : badProg d = true) : isProgD d = false := by
  cases d <;> try rfl
  rename_i ds
  have h : decide (16 < ds.length) = true := h
  have h := of_decide_eq_true h
  show (decide (ds.length ≤ 16) && _) = false
  rw [decide_eq_false (by omega), Bool.false_and]
theorem badProg_false {d : Dt} (h : badProg d = false) : ∃ ds : List Dt, d = .list ds ∧ ds.length ≤ 16 := by
  cases d <;> try (cases h; done)
  rename_i ds
  have h : decide (16 < ds.length) = false := h
  have h := of_decide_eq_false h
  exact ⟨ds, rfl, by omega⟩
theorem isProgD_list {ds : List Dt} (h : ds.length ≤ 16) : isProgD (.list ds) = ds.all isFracD := by
  show (decide (ds.length ≤ 16) && _) = _
  rw [decide_eq_true h, Bool.true_and]
theorem fracs_of : ∀ {ds : List Dt}, (∀ d ∈ ds, isFracD d = true) → ∃ ps : List (Nat × Nat), ds = ps.map prD ∧ ∀ p ∈ ps, IsFrac p
  | [], _ => ⟨[], rfl, by simp⟩
  | d :: ds, h => by
    obtain ⟨p, rfl, hp⟩ := isFracD_of (h d (by simp))
    obtain ⟨ps, rfl, hps⟩ := fracs_of fun d hd => h d (List.mem_cons_of_mem _ hd)
    exact ⟨p :: ps, rfl, fun q hq => (List.mem_cons.mp hq).elim (fun e => e ▸ hp) (hps q)⟩
theorem isProgD_of {d : Dt} (h : isProgD d = true) : ∃ ps, d = lP ps ∧ IsProg ps := by
  cases d <;> try (cases h; done)
  rename_i ds
  have h : (decide (ds.length ≤ 16) && ds.all isFracD) = true := h
  simp only [Bool.and_eq_true, decide_eq_true_eq, List.all_eq_true] at h
  obtain ⟨ps, rfl, hp⟩ := fracs_of h.2
  exact ⟨ps, rfl, by simpa using h.1, hp⟩
theorem isProgD_iff {ps : List (Nat × Nat)} : isProgD (lP ps) = true ↔ IsProg ps := by
  show (decide ((ps.map prD).length ≤ 16) && (ps.map prD).all isFracD) = true ↔ _
  simp only [Bool.and_eq_true, decide_eq_true_eq, List.all_eq_true, List.length_map, List.mem_map]
  constructor
  · rintro ⟨h1, h2⟩
    exact ⟨h1, fun p hp => isFracD_iff.mp (h2 _ ⟨p, hp, rfl⟩)⟩
  · rintro ⟨h1, h2⟩
    refine ⟨h1, ?_⟩
    rintro x ⟨p, hp, rfl⟩
    exact isFracD_iff.mpr (h2 p hp)
theorem prD_inj {p q : Nat × Nat} (h : prD p = prD q) : p = q := by
  obtain ⟨a, b⟩ := p
  obtain ⟨c, d⟩ := q
  simp [prD] at h
  exact Prod.ext (by show a = c; omega) (by show b = d; omega)
/-- reading data back -/
def decF : Dt → Nat × Nat
  | .tuple [.int a, .int b] => (a.toNat, b.toNat)
  | _ => (1, 1)
def decP : Dt → List (Nat × Nat)
  | .list ds => ds.map decF
  | _ => []
def decN : Dt → Nat
  | .int i => i.toNat
  | _ => 0
theorem decP_lP (ps : List (Nat × Nat)) : decP (lP ps) = ps := by
  show (ps.map prD).map decF = ps
  rw [List.map_map]
  calc ps.map (decF ∘ prD) = ps.map id := List.map_congr_left fun p _ => by
        show ((p.1 : Int).toNat, (p.2 : Int).toNat) = p
        simp
    _ = ps := List.map_id ps
theorem decN_nD (n : Nat) : decN (.int (n : Int)) = n := by show (n : Int).toNat = n; simp

/-- the parts of fractions: above nought, up to a million -/
def Small (ps : List (Nat × Nat)) : Prop := ∀ p ∈ ps, 0 < p.1 ∧ p.1 ≤ 1000000 ∧ 0 < p.2 ∧ p.2 ≤ 1000000
theorem IsProg.small {ps : List (Nat × Nat)} (h : IsProg ps) : Small ps := fun p hp => let ⟨h1, h2, h3, h4, _⟩ := h.2 p hp; ⟨h1.1, h3, h2.1, h4⟩
def firstAt (ps : List (Nat × Nat)) (n : Nat) : Option Nat := ps.findIdx? fun p => n % p.2 == 0
def fr (ps : List (Nat × Nat)) (i : Nat) : Nat × Nat := ps.getD i (1, 1)
def ledF (ps : List (Nat × Nat)) (n : Nat) : Option Nat := (firstAt ps n).map fun i => n / (fr ps i).2 * (fr ps i).1
def tooB (n : Nat) : Bool := decide ((n : Int) / 10 ^ 60 / 10 ^ 60 > 0) && decide (maxI ((rooms n).map fun k : Nat => (k : Int)) > 400)
def progE (K : PySem.W.Frag) (d : Dt) (k : List (Nat × Nat) → Except Value Dt) : Except Value Dt := if isProgD d then k (decP d) else cE K "BadProgram"
def lookE (K : PySem.W.Frag) (d e : Dt) (k : List (Nat × Nat) → Nat → Except Value Dt) : Except Value Dt := progE K d fun ps => if isNumD e then k ps (decN e) else cE K "BadNumber"
def stepE (K : PySem.W.Frag) (ps : List (Nat × Nat)) (n : Nat) : Except Value Dt := match ledF ps n with
  | none => .ok .none
  | some m => if tooB m then cE K "TooGreat" else .ok (nD m)
theorem progE_ok {K : PySem.W.Frag} {ps : List (Nat × Nat)} {k : List (Nat × Nat) → Except Value Dt} (h : IsProg ps) : progE K (lP ps) k = k ps := by
  unfold progE
  rw [isProgD_iff.mpr h, if_pos rfl, decP_lP]
theorem lookE_ok {K : PySem.W.Frag} {ps : List (Nat × Nat)} {n : Nat} {k : List (Nat × Nat) → Nat → Except Value Dt} (h : IsProg ps) (hn : IsNum n) : lookE K (lP ps) (nD n) k = k ps n := by
  unfold lookE
  rw [progE_ok h, isNumD_iff.mpr hn, if_pos rfl, decN_nD]
theorem firstAt_some {ps : List (Nat × Nat)} {n i : Nat} {p : Nat × Nat} (hp : ps[i]? = some p) (h : n % p.2 = 0) (hb : ∀ j q, j < i → ps[j]? = some q → n % q.2 ≠ 0) : firstAt ps n = some i := by
  obtain ⟨hi, e⟩ := List.getElem?_eq_some_iff.mp hp
  unfold firstAt
  rw [List.findIdx?_eq_some_iff_getElem]
  refine ⟨hi, by rw [e]; simp [h], fun j hj => ?_⟩
  have := hb j _ hj (List.getElem?_eq_getElem (by omega))
  simpa using this
theorem firstAt_none {ps : List (Nat × Nat)} {n : Nat} (hb : ∀ j q, j < ps.length → ps[j]? = some q → n % q.2 ≠ 0) : firstAt ps n = none := by
  unfold firstAt
  rw [List.findIdx?_eq_none_iff]
  intro p hp
  obtain ⟨j, hj, e⟩ := List.mem_iff_getElem.mp hp
  have := hb j p hj (by rw [List.getElem?_eq_getElem hj, e])
  simpa using this
theorem firstAt_spec {ps : List (Nat × Nat)} {n i : Nat} (h : firstAt ps n = some i) : ps[i]? = some (fr ps i) ∧ i < ps.length ∧ n % (fr ps i).2 = 0 ∧ ∀ j, j < i → n % (fr ps j).2 ≠ 0 := by
  unfold firstAt at h
  rw [List.findIdx?_eq_some_iff_getElem] at h
  obtain ⟨hi, h1, h2⟩ := h
  have e : ∀ j (hj : j < ps.length), fr ps j = ps[j] := fun j hj => by
    unfold fr
    rw [List.getD_eq_getElem?_getD, List.getElem?_eq_getElem hj]
    rfl
  refine ⟨by rw [e i hi]; exact List.getElem?_eq_getElem hi, hi, by rw [e i hi]; simpa using h1, fun j hj => ?_⟩
  rw [e j (by omega)]
  simpa using h2 j hj
theorem enum_item {α : Type} {xs : List α} {f : α → Dt} {i : Nat} {d : Dt} (h : (xs.zipIdx.map fun p => PyData.tuple [.int (p.2 : Int), f p.1])[i]? = some d) : ∃ x, xs[i]? = some x ∧ d = .tuple [.int (i : Int), f x] := by
  rw [List.getElem?_map, List.getElem?_zipIdx] at h
  cases e : xs[i]? with
  | none => rw [e] at h; simp at h
  | some x => rw [e] at h; simp at h; exact ⟨x, rfl, h.symm⟩
theorem map_item {α : Type} {xs : List α} {f : α → Dt} {i : Nat} {d : Dt} (h : (xs.map f)[i]? = some d) : ∃ x, xs[i]? = some x ∧ d = f x := by
  rw [List.getElem?_map] at h
  cases e : xs[i]? with
  | none => rw [e] at h; simp at h
  | some x => rw [e] at h; simp at h; exact ⟨x, rfl, h.symm⟩
theorem rng_item {lo : Int} {n i : Nat} {d : Dt} (h : (rngD lo n)[i]? = some d) : i < n ∧ d = .int (lo + (i : Int)) := by
  obtain ⟨x, e, rfl⟩ := map_item h
  have hi := (List.getElem?_eq_some_iff.mp e).1
  simp at hi
  rw [List.getElem?_range hi] at e
  cases e
  exact ⟨hi, rfl⟩
theorem atI_rng {α : Type} {xs : List α} {β : Type} {f : α → β} {x : Nat} (dflt : α) (hx : x ∈ List.range (((xs.map f).length : Int)).toNat) : atI xs (0 + (x : Int)) = some (xs.getD x dflt) := by
  rw [List.mem_range, List.length_map] at hx
  rw [Int.zero_add]
  have := atI_of (xs := xs) (i := (x : Int)) (by omega) (by omega) dflt
  simpa using this
def idleF (ps : List (Nat × Nat)) : List Nat := (List.range ps.length).filter fun i => !PyData.eqv (oN (firstAt ps (fr ps i).2)) (.int (0 + (i : Int)))
def leanF (ps : List (Nat × Nat)) : List (Nat × Nat) := (ps.zipIdx.filter fun q => !(idleF ps).contains q.2).map (·.1)
theorem sh_int (i : Int) : SeqAt.shaped (.int i) = true := by rfl
theorem sh_oN (o : Option Nat) : SeqAt.shaped (oN o) = true := by cases o <;> rfl
section
variable {K : PySem.W.Frag} {ρ : List Sl} {te : TE}
theorem ei_tupD {ds : List Dt} (h : Ev K te ρ (.tuple ds)) : EvI K (iTup K te) ρ (ds.map fun d => d) := by
  rw [List.map_id']; exact ei_tup h
theorem ei_listD {ds : List Dt} (h : Ev K te ρ (.list ds)) : EvI K (iList K te) ρ (ds.map fun d => d) := by
  rw [List.map_id']; exact ei_list h
theorem rc_allM {α : Type} {xs : List α} {p : α → Bool} : RC K (rAll K) [.list (xs.map fun x => PyData.bool (p x))] (.bool (xs.all p)) := by
  have h := rc_all (K := K) (bs := xs.map p)
  rw [List.map_map] at h
  have e : (xs.map p).all id = xs.all p := by rw [List.all_map]; rfl
  rw [e] at h
  exact h
theorem rc_maxTM {α : Type} {xs : List α} {f : α → Int} (h0 : 0 < xs.length) : RC K (rMaxT K) [.tuple (xs.map fun x => PyData.int (f x))] (.int (maxI (xs.map f))) := by
  have h := rc_maxT (K := K) (ns := xs.map f) (by simpa using h0)
  rw [List.map_map] at h
  exact h
theorem rc_maxM {α : Type} {xs : List α} {f : α → Int} (h0 : 0 < xs.length) : RC K (rMax K) [.list (xs.map fun x => PyData.int (f x))] (.int (maxI (xs.map f))) := by
  have h := rc_max (K := K) (ns := xs.map f) (by simpa using h0)
  rw [List.map_map] at h
  exact h
theorem rc_minM {α : Type} {xs : List α} {f : α → Int} (h0 : 0 < xs.length) : RC K (rMin K) [.list (xs.map fun x => PyData.int (f x))] (.int (minI (xs.map f))) := by
  have h := rc_min (K := K) (ns := xs.map f) (by simpa using h0)
  rw [List.map_map] at h
  exact h
theorem rc_sumM {α : Type} {xs : List α} {f : α → Int} : RC K (rSum K) [.list (xs.map fun x => PyData.int (f x))] (.int (xs.map f).sum) := by
  have h := rc_sum (K := K) (ns := xs.map f)
  rw [List.map_map] at h
  exact h
end
theorem cdiv_10 {i : Int} : CDivW i ((10 : Int) ^ (60 : Int).toNat) := wide_div (b := 200) (by decide) (by decide) (by decide) (by decide)
end Fr
namespace Fr
open PySem PySem.Spec PyProof.Rows L2 Mx
section
variable {K : PySem.W.Frag}
theorem look_ok {d e x : Dt} (h : (lookE K d e fun _ _ => .ok .none) = .ok x) : ∃ ps n, d = lP ps ∧ e = nD n ∧ IsProg ps ∧ IsNum n := by
  unfold lookE progE at h
  cases q : isProgD d with
  | false => rw [q] at h; cases h
  | true =>
    rw [q, if_pos rfl] at h
    cases q2 : isNumD e with
    | false => rw [q2] at h; cases h
    | true =>
      obtain ⟨ps, e1, h1⟩ := isProgD_of q
      obtain ⟨n, e2, h2⟩ := isNumD_of q2
      exact ⟨ps, n, e1, e2, h1, h2⟩
theorem look_xc {d e : Dt} {c : Value} {k : List (Nat × Nat) → Nat → Except Value Dt} (h : (lookE K d e fun _ _ => .ok .none) = .error c) : lookE K d e k = .error c := by
  unfold lookE progE at h ⊢
  cases q : isProgD d with
  | false => rw [q] at h; exact h
  | true =>
    rw [q, if_pos rfl] at h
    rw [if_pos rfl]
    cases q2 : isNumD e with
    | false => rw [q2] at h; exact h
    | true => rw [q2] at h; cases h
theorem prog_ok {d x : Dt} (h : (if isProgD d then .ok .none else cE K "BadProgram") = Except.ok x) : ∃ ps, d = lP ps ∧ IsProg ps := by
  cases q : isProgD d with
  | false => rw [q] at h; cases h
  | true => exact isProgD_of q
theorem prog_xc {d : Dt} {c : Value} {k : List (Nat × Nat) → Except Value Dt} (h : (if isProgD d then .ok .none else cE K "BadProgram") = Except.error (ε := Value) (α := Dt) c) : progE K d k = .error c := by
  unfold progE
  cases q : isProgD d with
  | false => rw [q] at h; exact h
  | true => rw [q] at h; cases h
theorem led_pos {ps : List (Nat × Nat)} {n m : Nat} (hps : IsProg ps) (hn : IsNum n) (h : ledF ps n = some m) : 0 < m := by
  unfold ledF at h
  cases e : firstAt ps n with
  | none => rw [e] at h; cases h
  | some i =>
    rw [e] at h
    have h : n / (fr ps i).2 * (fr ps i).1 = m := Option.some.inj h
    obtain ⟨hp, hi, hz, _⟩ := firstAt_spec e
    obtain ⟨g1, g2, g3, g4⟩ := hps.small _ (List.mem_of_getElem? hp)
    rw [← h]
    exact Nat.mul_pos (Nat.div_pos (Nat.le_of_dvd hn.1 (Nat.dvd_of_mod_eq_zero hz)) g3) g1
theorem contains_cast (k : Nat) (ns : List Nat) : (ns.map fun k : Nat => (k : Int)).contains (k : Int) = ns.contains k := by
  induction ns with
  | nil => rfl
  | cons n ns ih =>
    rw [List.map_cons, List.contains_cons, List.contains_cons, ih]
    congr 1
    by_cases q : k = n
    · subst q; simp
    · have q2 : (k : Int) ≠ (n : Int) := by omega
      rw [beq_eq_false_iff_ne.mpr q, beq_eq_false_iff_ne.mpr q2]
theorem rv_inN {k : Nat} {ns : List Nat} {neg : Bool} : RV K (rIn K neg) (.int (k : Int)) (lN ns) (.bool (if neg then !ns.contains k else ns.contains k)) := by
  have h := rv_inL (K := K) (i := (k : Int)) (ns := ns.map fun k : Nat => (k : Int)) (neg := neg)
  rw [List.map_map, contains_cast] at h
  exact h
end
end Fr
namespace Fr
open PySem PySem.Spec PyProof.Rows L2
section
variable {K : PySem.W.Frag} {ρ : List Sl} {ta tb te : TE} {d : Dt}
theorem dpA_ints {H : Hp} : ∀ ns : List Int, DpAll K H (ns.map V.int) (ns.map PyData.int)
  | [] => .nil
  | n :: ns => .cons (.int n) (dpA_ints ns)
theorem shaped_ints (ns : List Int) : SeqAt.shaped (.list (ns.map PyData.int)) = true := by
  induction ns with
  | nil => rfl
  | cons n ns ih => exact ih
theorem eqv_ints_nil (ns : List Int) : PyData.eqv (.list (ns.map PyData.int)) (.list []) = decide (ns = []) := by
  cases ns <;> rfl
/-- script == [] -/
theorem ev_eqScr {i : Nat} {ns : List Int} (h : ρ[i]? = some (.scr ns)) (hb : Ev K tb ρ (.list [])) : Ev K (tOp (rEqD K) (tVar i) tb) ρ (.bool (decide (ns = []))) := fun M0 H0 σ H T Q s q => by
  obtain ⟨M, st⟩ := id s
  obtain ⟨v, e1, a, rfl, h1⟩ := st.slot i _ h
  refine ⟨_, e1, hb M0 H0 σ H T _ s fun v2 H2 s2 => ?_⟩
  obtain ⟨M2, st2⟩ := id s2
  obtain ⟨v', e2, a', rfl, h2⟩ := st2.slot i _ h
  rw [e1] at e2
  cases e2
  refine ⟨.list (ns.map PyData.int), .list [], .lst (st2.bs.mh.seq h2) (dpA_ints ns), ((st2.at mem1).mono st2.bs.mh).dp, shaped_ints ns, rfl, ?_⟩
  rw [eqv_ints_nil]
  exact q _ H2 ((s2.same_sub fun p hp => by simp [hp]).add fun M _ => .bl _)
/-- script[j] -/
theorem ev_ixS {i : Nat} {ns : List Int} {j n : Int} (h : ρ[i]? = some (.scr ns)) (hb : Ev K tb ρ (.int j)) (e : atI ns j = some n) : Ev K (tOp (rIxL K) (tVar i) tb) ρ (.int n) := fun M0 H0 σ H T Q s q => by
  obtain ⟨M, st⟩ := id s
  obtain ⟨v, e1, a, rfl, h1⟩ := st.slot i _ h
  refine ⟨_, e1, hb M0 H0 σ H T _ s fun v2 H2 s2 => ?_⟩
  obtain ⟨M2, st2⟩ := id s2
  obtain ⟨v', e2, a', rfl, h2⟩ := st2.slot i _ h
  rw [e1] at e2
  cases e2
  have ev : atI (ns.map V.int) j = some (.int n) := by
    unfold atI at e ⊢
    rw [List.length_map]
    cases z : ixN ns.length j with
    | none => rw [z] at e; cases e
    | some k =>
      rw [z] at e
      have e : ns[k]? = some n := e
      show (ns.map V.int)[k]? = _
      rw [List.getElem?_map, e]; rfl
  exact ⟨a, _, j, _, rfl, (st2.at mem1).int_inv, st2.bs.mh.seq h2, ev, q _ H2 ((s2.same_sub fun p hp => by simp [hp]).add fun M _ => .int _)⟩
/-- a def's promise whose first argument is the script -/
def spX (K : PySem.W.Frag) (Pr : List Int → List Dt → Except Value Dt → Prop) : Sp := fun vs H Q E => ∃ (M : Hp) (a : Addr) (ns : List Int) (ws : List V) (ds : List Dt) (r : Except Value Dt), vs = .ref a :: ws ∧ Same M H ∧ SqL K M a (ns.map V.int) ∧ DnA K M ws ds ∧ Pr ns ds r ∧
  (∀ d, r = .ok d → ∀ v H', Aft K M H v H' d → Q v H') ∧ (∀ c, r = .error c → ∀ H', AftX M H H' → E c none H')
theorem ev_callX {Pr : List Int → List Dt → Except Value Dt → Prop} {E : XK} {i : Nat} {tr : TA} {ns : List Int} {ds : List Dt} (h0 : ρ[i]? = some (.scr ns)) (h : EvA K tr ρ ds) (hp : Pr ns ds (.ok d)) : Ev K (tCall (spX K Pr) [] E (tCons (tVar i) tr)) ρ d := fun M0 H0 σ H T Q s q => by
  obtain ⟨M, st⟩ := id s
  obtain ⟨v, e1, a, rfl, h1⟩ := st.slot i _ h0
  refine ⟨_, e1, h M0 H0 σ H T _ s fun vs H1 s1 l => ?_⟩
  obtain ⟨M, st, hd⟩ := s1.tmpA (vs := vs) (ds := ds) app_l l
  obtain ⟨v', e2, a', rfl, h2⟩ := st.slot i _ h0
  rw [e1] at e2
  cases e2
  refine ⟨M, a, ns, vs, ds, .ok d, by rw [List.append_nil], st.bs.mh, h2, hd, hp, fun d' e v H' ⟨M', b, hv⟩ => ?_, fun c e => by cases e⟩
  cases e
  refine q v H' ⟨M', st.grow b fun p hp => ?_⟩
  rcases List.mem_cons.mp hp with e | hp
  · subst e; exact hv
  · exact (st.tmp p (by simp [hp])).mono b.mm
end
theorem sta_startX {K : PySem.W.Frag} {M H : Hp} {N : List Str} {a : Addr} {ns : List Int} {vs : List V} {ds : List Dt} (m : Same M H) (hs : SqL K M a (ns.map V.int)) (h : DnA K M vs ds) (hn : ds.length + 1 ≤ N.length) :
    Sta K M H (L2.start N (.ref a :: vs)) H (.scr ns :: (ds.map Sl.va ++ List.replicate (N.length - 1 - ds.length) .no)) [] := by
  have l := h.len
  have own : ∀ {k : Nat} {es : List Dt}, (Sl.scr ns :: (ds.map Sl.va ++ List.replicate (N.length - 1 - ds.length) .no))[k]? = some (.own es) → False := fun {k es} e => by
    have q := List.mem_of_getElem? e
    rcases List.mem_cons.mp q with q | q
    · cases q
    · rcases List.mem_append.mp q with q | q
      · obtain ⟨_, _, z⟩ := List.mem_map.mp q; cases z
      · cases (List.mem_replicate.mp q).2
  have es : L2.start N (.ref a :: vs) = some (.ref a) :: (vs.map some ++ List.replicate (N.length - 1 - ds.length) none) := by
    unfold L2.start
    rw [List.map_cons, List.cons_append]
    congr 2
    simp only [List.length_cons, l]
    congr 1
    omega
  rw [es]
  refine ⟨M, Bs.refl m, by simp [l], fun i s e => ?_, fun i j es fs b hij h1 h2 h3 h4 => own h1, fun p hp => by simp at hp⟩
  cases i with
  | zero =>
    rw [List.getElem?_cons_zero] at e
    cases e
    exact ⟨_, rfl, a, rfl, hs⟩
  | succ i =>
    rw [List.getElem?_cons_succ] at e ⊢
    by_cases hi : i < ds.length
    · rw [List.getElem?_append_left (by simpa using hi), List.getElem?_map, List.getElem?_eq_getElem hi] at e
      cases e
      obtain ⟨v, e1, hv⟩ := h.get (List.getElem?_eq_getElem hi)
      exact ⟨some v, by rw [List.getElem?_append_left (by simpa [l] using hi), List.getElem?_map, e1]; rfl, v, rfl, hv⟩
    · rw [List.getElem?_append_right (by simp; omega)] at e
      have q := List.mem_of_getElem? e
      have hlt := (List.getElem?_eq_some_iff.mp e).1
      simp at hlt
      have es : s = .no := (List.mem_replicate.mp q).2
      subst es
      exact ⟨none, by
        rw [List.getElem?_append_right (by simp [l]; omega), List.getElem?_replicate]
        simp [l]; omega, trivial⟩
section
variable {P : Program} {w : World} {K : PySem.W.Frag} {mg : Str → Option Value} {base : Heap}
theorem fn_mkX {x qual : Str} {st : Stmt} {f : Addr} {fd : FuncData} {N ps : List Str} {k : Nat} {Pr : List Int → List Dt → Except Value Dt → Prop} (F : Fun K x qual st f fd) (S : FnScope N ps (defScope st)) (hl : ∀ ns ds r, Pr ns ds r → ds.length + 1 = ps.length)
    (hbody : ∀ (cdv : Value) (A : Around) (outer : List Env) (s : Shared) (H : Hp) (E : XK) (ns : List Int) (ds : List Dt) (r : Except Value Dt), Room k (A.deeper (envOfC qual (defScope st) s.heap.objs.size f cdv)) → Pr ns ds r →
      ∃ t, PSs (cxOf (L2N.CX P w) P w K mg base N qual (defScope st) f cdv A outer s H E) (defBody st) t ∧ Wp K E t (.scr ns :: (ds.map Sl.va ++ List.replicate (N.length - 1 - ds.length) .no)) (Fr.Fin r)) : FnOk P w K mg base (L2N.CX P w) (k + 1) f fd ps (spX K Pr) := by
  obtain ⟨oc, od, kV, doc, pm, an, cdv, ct, osl, rfl, lk, hcd⟩ := F.ex
  have hpN : ps.length ≤ N.length := by have := congrArg List.length S.pre; rw [List.length_take] at this; omega
  refine fn_of lk hcd S (fun vs H Q E h => ?_) fun A outer s H vs Q E hr h => ?_
  · obtain ⟨M, a, ns, ws, ds, r, rfl, _, _, hd, hp, _⟩ := h
    rw [List.length_cons, hd.len, hl ns ds r hp]
  · obtain ⟨M, a, ns, ws, ds, r, rfl, m, hs, hd, hp, q, qx⟩ := h
    obtain ⟨t, h1, h2⟩ := hbody cdv A outer s H E ns ds r hr hp
    refine ⟨t, h1, h2 M H [] _ H _ (sta_startX m hs hd (by rw [hl ns ds r hp]; exact hpN)) fun o p => ?_⟩
    cases o with
    | nx ρ => exact fun σ' H' s' => q _ p _ H' (by obtain ⟨M', st'⟩ := s'; exact ⟨M', st'.bs, .non⟩)
    | rt d => exact fun v H' a => q d p v H' a
    | bk ρ => exact False.elim p
    | ct ρ => exact False.elim p
    | xc c => exact fun H' a => qx c p H' a
theorem ck_mkX {x : Str} {st : Stmt} {N ps : List Str} {k : Nat} {Pr : List Int → List Dt → Except Value Dt → Prop} (D : Df K mg x st ps) (S : FnScope N ps (defScope st)) (hl : ∀ ns ds r, Pr ns ds r → ds.length + 1 = ps.length)
    (hbody : ∀ (f : Addr) (cdv : Value) (A : Around) (outer : List Env) (s : Shared) (H : Hp) (E : XK) (ns : List Int) (ds : List Dt) (r : Except Value Dt), Room k (A.deeper (envOfC x (defScope st) s.heap.objs.size f cdv)) → Pr ns ds r →
      ∃ t, PSs (cxOf (L2N.CX P w) P w K mg base N x (defScope st) f cdv A outer s H E) (defBody st) t ∧ Wp K E t (.scr ns :: (ds.map Sl.va ++ List.replicate (N.length - 1 - ds.length) .no)) (Fr.Fin r)) : Ck P w K mg base x (k + 1) ps (spX K Pr) := by
  obtain ⟨f, fd, F, hm, hb⟩ := D
  exact ⟨f, fd, hm, F.kp, hb, fn_mkX F S hl fun cdv A outer s H E ns ds r hr hp => hbody f cdv A outer s H E ns ds r hr hp⟩
end
end Fr
namespace Mx
theorem mk_mul : ∀ (ps as bs : List Nat), as.length = ps.length → bs.length = ps.length → mk ps as * mk ps bs = mk ps (List.zipWith (· + ·) as bs)
  | [], _, _, _, _ => by simp [mk]
  | p :: ps, [], _, h, _ => by simp at h
  | p :: ps, _ :: _, [], _, h => by simp at h
  | p :: ps, a :: as, b :: bs, h1, h2 => by
    show p ^ a * mk ps as * (p ^ b * mk ps bs) = p ^ (a + b) * mk ps (List.zipWith (· + ·) as bs)
    rw [← mk_mul ps as bs (by simpa using h1) (by simpa using h2), Nat.pow_add]
    simp only [Nat.mul_assoc, Nat.mul_left_comm]
theorem rooms_mul {a b : Nat} (ha : 0 < a) (hb : 0 < b) : rooms (a * b) = List.zipWith (· + ·) (rooms a) (rooms b) := by
  unfold rooms
  have : ∀ l : List Nat, (∀ p ∈ l, Pm p) → l.map (mlt · (a * b)) = List.zipWith (· + ·) (l.map (mlt · a)) (l.map (mlt · b)) := by
    intro l hl
    induction l with
    | nil => rfl
    | cons p l ih =>
      rw [List.map_cons, List.map_cons, List.map_cons, List.zipWith_cons_cons, ih fun q hq => hl q (by simp [hq]), mlt_mul (hl p (by simp)) ha hb]
  exact this pL pL_pm
theorem made_mul {as bs : List Nat} (h1 : as.length = 12) (h2 : bs.length = 12) : made as * made bs = made (List.zipWith (· + ·) as bs) := mk_mul pL as bs h1 h2
theorem rest_mul {a b : Nat} (ha : 0 < a) (hb : 0 < b) : rest (a * b) = rest a * rest b := by
  have e1 := rest_eq ha
  have e2 := rest_eq hb
  have e3 := rest_eq (Nat.mul_pos ha hb)
  rw [rooms_mul ha hb, ← made_mul (rooms_len a) (rooms_len b)] at e3
  have pos : 0 < made (rooms a) * made (rooms b) := Nat.mul_pos (made_pos _) (made_pos _)
  apply Nat.eq_of_mul_eq_mul_left pos
  rw [← e3]
  calc a * b = (made (rooms a) * rest a) * (made (rooms b) * rest b) := by rw [← e1, ← e2]
    _ = _ := by simp only [Nat.mul_assoc, Nat.mul_left_comm]
def Smooth (n : Nat) : Prop := 0 < n ∧ rest n = 1
theorem Smooth.mul {a b : Nat} (ha : Smooth a) (hb : Smooth b) : Smooth (a * b) := ⟨Nat.mul_pos ha.1 hb.1, by rw [rest_mul ha.1 hb.1, ha.2, hb.2]⟩
theorem Smooth.dvd {a n : Nat} (h : Smooth n) (d : a ∣ n) : Smooth a := by
  obtain ⟨b, rfl⟩ := d
  have ha : 0 < a := Nat.pos_of_ne_zero fun z => by have := h.1; rw [z, Nat.zero_mul] at this; omega
  have hb : 0 < b := Nat.pos_of_ne_zero fun z => by have := h.1; rw [z, Nat.mul_zero] at this; omega
  have := h.2
  rw [rest_mul ha hb] at this
  exact ⟨ha, Nat.dvd_one.mp ⟨_, this.symm⟩⟩
theorem Smooth.made (rs : List Nat) (h : rs.length = 12) : Smooth (made rs) := ⟨made_pos rs, rest_made h⟩
theorem smooth_one : Smooth 1 := ⟨by decide, by
  have : made (List.replicate 12 0) = 1 := by decide
  rw [← this]; exact rest_made rfl⟩
theorem Smooth.eq {n : Nat} (h : Smooth n) : Mx.made (rooms n) = n := made_of h.1 h.2
theorem smooth_prime {p : Nat} (hp : p ∈ pL) : Smooth p := by
  have : ∀ q ∈ pL, ∃ rs : List Nat, rs.length = 12 ∧ Mx.made rs = q := by
    intro q hq
    simp only [pL, List.mem_cons, List.not_mem_nil, or_false] at hq
    rcases hq with rfl | rfl | rfl | rfl | rfl | rfl | rfl | rfl | rfl | rfl | rfl | rfl
    · exact ⟨[1,0,0,0,0,0,0,0,0,0,0,0], rfl, by decide⟩
    · exact ⟨[0,1,0,0,0,0,0,0,0,0,0,0], rfl, by decide⟩
    · exact ⟨[0,0,1,0,0,0,0,0,0,0,0,0], rfl, by decide⟩
    · exact ⟨[0,0,0,1,0,0,0,0,0,0,0,0], rfl, by decide⟩
    · exact ⟨[0,0,0,0,1,0,0,0,0,0,0,0], rfl, by decide⟩
    · exact ⟨[0,0,0,0,0,1,0,0,0,0,0,0], rfl, by decide⟩
    · exact ⟨[0,0,0,0,0,0,1,0,0,0,0,0], rfl, by decide⟩
    · exact ⟨[0,0,0,0,0,0,0,1,0,0,0,0], rfl, by decide⟩
    · exact ⟨[0,0,0,0,0,0,0,0,1,0,0,0], rfl, by decide⟩
    · exact ⟨[0,0,0,0,0,0,0,0,0,1,0,0], rfl, by decide⟩
    · exact ⟨[0,0,0,0,0,0,0,0,0,0,1,0], rfl, by decide⟩
    · exact ⟨[0,0,0,0,0,0,0,0,0,0,0,1], rfl, by decide⟩
  obtain ⟨rs, h1, h2⟩ := this p hp
  exact h2 ▸ Smooth.made rs h1
theorem mk_zeros : ∀ (ps rs : List Nat), (∀ r ∈ rs, r = 0) → mk ps rs = 1
  | [], _, _ => by simp [mk]
  | _ :: _, [], _ => by simp [mk]
  | p :: ps, r :: rs, h => by
    show p ^ r * mk ps rs = 1
    rw [h r (by simp), mk_zeros ps rs fun q hq => h q (by simp [hq])]
    simp
/-- a smooth number above one has a prime of ours -/
theorem Smooth.prime {n : Nat} (h : Smooth n) (h1 : n ≠ 1) : ∃ p ∈ pL, p ∣ n := by
  refine Classical.byContradiction fun no => h1 ?_
  rw [← h.eq]
  refine mk_zeros pL _ fun r hr => ?_
  obtain ⟨p, hp, rfl⟩ := List.mem_map.mp hr
  exact mlt_no fun z => no ⟨p, hp, Nat.dvd_of_mod_eq_zero z⟩
theorem mlt_log {p n k : Nat} (h1 : 2 ≤ p) (h2 : 0 < n) (h : n < 2 ^ k) : mlt p n < k := by
  have h3 := mlt_pow_le (p := p) h2
  have h4 : 2 ^ mlt p n ≤ p ^ mlt p n := Nat.pow_le_pow_left h1 _
  exact (Nat.pow_lt_pow_iff_right (by decide : 1 < 2)).mp (Nat.lt_of_le_of_lt (Nat.le_trans h4 h3) h)
theorem Smooth.isNum {n : Nat} (h : Smooth n) (hb : n < 2 ^ 400) : IsNum n := ⟨h.1, h.2, fun k hk => by
  obtain ⟨p, hp, rfl⟩ := List.mem_map.mp hk
  exact Nat.le_of_lt (mlt_log (pL_pm p hp).1 h.1 hb)⟩
theorem IsNum.smooth {n : Nat} (h : IsNum n) : Smooth n := ⟨h.1, h.2.1⟩
theorem isNum_one : IsNum 1 := smooth_one.isNum (by decide)
def dr1 (c k : Int) : Int := (c * 6364136223846793005 + (k + 1) * 1442695040888963407) % 340282366920938463463374607431768211507
def dr2 (c k : Int) : Int := dr1 c k * dr1 c k % 340282366920938463463374607431768211297
def dr3 (c k : Int) : Int := (dr2 c k % 18446744073709551557 + 1) * (dr2 c k / 18446744073709551557 + 1) * dr2 c k
def drawn (c k : Int) : Int := dr3 c k % 340282366920938463463374607431768211507
theorem dr1_b (c k : Int) : 0 ≤ dr1 c k ∧ dr1 c k < 2 ^ 129 := by unfold dr1; omega
theorem dr2_b (c k : Int) : 0 ≤ dr2 c k ∧ dr2 c k < 2 ^ 128 := by unfold dr2; omega
theorem dr3_lo (c k : Int) : ((dr2 c k % 18446744073709551557 + 1) * (dr2 c k / 18446744073709551557 + 1)).natAbs < 2 ^ 130 := by
  have h := dr2_b c k
  rw [Int.natAbs_mul]
  have a : (dr2 c k % 18446744073709551557 + 1).natAbs < 2 ^ 65 := by omega
  have b : (dr2 c k / 18446744073709551557 + 1).natAbs < 2 ^ 65 := by omega
  exact Nat.lt_of_lt_of_le (Nat.mul_lt_mul'' a b) (by decide)
theorem drawn_nn (c k : Int) : 0 ≤ drawn c k := by unfold drawn; omega
theorem drawn_lt (c k : Int) : drawn c k < 2 ^ 129 := by unfold drawn; omega
def someP (m : Int) (q : Nat) : Nat → Nat
  | 0 => 1
  | i + 1 => someP m q i * pL.getD (drawn m (0 + (i : Int)) / 8 % (q : Int)).toNat 1
def someF (m : Int) (q t : Nat) : Nat := someP m q (m % ((t : Int) + 1)).toNat
theorem pL_at {i : Nat} (h : i < 12) : pL.getD i 1 ∈ pL := by
  rw [List.getD_eq_getElem?_getD, List.getElem?_eq_getElem (by exact h)]
  exact List.getElem_mem _
theorem draw_ix (m k : Int) {q : Nat} (h0 : 0 < q) (h1 : q ≤ 12) : 0 ≤ drawn m k / 8 % (q : Int) ∧ drawn m k / 8 % (q : Int) < (q : Int) ∧ (drawn m k / 8 % (q : Int)).toNat < 12 := by
  have a := Int.emod_nonneg (drawn m k / 8) (show (q : Int) ≠ 0 by omega)
  have b := Int.emod_lt_of_pos (drawn m k / 8) (show 0 < (q : Int) by omega)
  exact ⟨a, b, by omega⟩
theorem someP_smooth (m : Int) {q : Nat} (h0 : 0 < q) (h1 : q ≤ 12) : ∀ i, Smooth (someP m q i)
  | 0 => smooth_one
  | i + 1 => (someP_smooth m h0 h1 i).mul (smooth_prime (pL_at (draw_ix m _ h0 h1).2.2))
theorem someP_le (m : Int) {q : Nat} (h0 : 0 < q) (h1 : q ≤ 12) : ∀ i, someP m q i ≤ 37 ^ i
  | 0 => by simp [someP]
  | i + 1 => by
    rw [Nat.pow_succ]
    exact Nat.mul_le_mul (someP_le m h0 h1 i) (pL_le _ (pL_at (draw_ix m _ h0 h1).2.2))
theorem some_cnt (m : Int) (t : Nat) : (m % ((t : Int) + 1)).toNat ≤ t := by
  have := Int.emod_lt_of_pos m (show 0 < (t : Int) + 1 by omega)
  omega
theorem someF_smooth (m : Int) {q : Nat} (h0 : 0 < q) (h1 : q ≤ 12) (t : Nat) : Smooth (someF m q t) := someP_smooth m h0 h1 _
theorem someF_le (m : Int) {q : Nat} (h0 : 0 < q) (h1 : q ≤ 12) (t : Nat) : someF m q t ≤ 37 ^ t := Nat.le_trans (someP_le m h0 h1 _) (Nat.pow_le_pow_right (by decide) (some_cnt m t))
theorem someF_isNum (m : Int) {q : Nat} (h0 : 0 < q) (h1 : q ≤ 12) {t : Nat} (ht : t ≤ 70) : IsNum (someF m q t) :=
  (someF_smooth m h0 h1 t).isNum (Nat.lt_of_le_of_lt (Nat.le_trans (someF_le m h0 h1 t) (Nat.pow_le_pow_right (by decide) ht)) (by decide))
def red (p t u : Nat) : Nat × Nat := if h : 2 ≤ p ∧ 0 < t ∧ t % p = 0 ∧ u % p = 0 then red p (t / p) (u / p) else (t, u)
termination_by t
decreasing_by exact Nat.div_lt_self h.2.1 (by omega)
theorem red_step {p t u : Nat} (h : 2 ≤ p) (h0 : 0 < t) (h1 : t % p = 0) (h2 : u % p = 0) : red p t u = red p (t / p) (u / p) := by
  rw [red, dif_pos ⟨h, h0, h1, h2⟩]
theorem red_end {p t u : Nat} (h : t % p ≠ 0 ∨ u % p ≠ 0) : red p t u = (t, u) := by
  rw [red, dif_neg fun z => h.elim (fun q => q z.2.2.1) fun q => q z.2.2.2]
/-- what red gives: divisors of both, positive, p not in both -/
theorem red_spec {p t u : Nat} (h : 2 ≤ p) (ht : 0 < t) (hu : 0 < u) : 0 < (red p t u).1 ∧ 0 < (red p t u).2 ∧ (red p t u).1 ∣ t ∧ (red p t u).2 ∣ u ∧ ¬ (p ∣ (red p t u).1 ∧ p ∣ (red p t u).2) ∧ ∃ d, 0 < d ∧ t = (red p t u).1 * d ∧ u = (red p t u).2 * d := by
  fun_induction red p t u with
  | case1 t u h' ih =>
    have d1 := Nat.dvd_of_mod_eq_zero h'.2.2.1
    have d2 := Nat.dvd_of_mod_eq_zero h'.2.2.2
    obtain ⟨a, b, c, d, e, w, w0, w1, w2⟩ := ih (Nat.div_pos (Nat.le_of_dvd ht d1) (by omega)) (Nat.div_pos (Nat.le_of_dvd hu d2) (by omega))
    refine ⟨a, b, Nat.dvd_trans c (Nat.div_dvd_of_dvd d1), Nat.dvd_trans d (Nat.div_dvd_of_dvd d2), e, w * p, Nat.mul_pos w0 (by omega), ?_, ?_⟩
    · rw [← Nat.mul_assoc, ← w1, Nat.div_mul_cancel d1]
    · rw [← Nat.mul_assoc, ← w2, Nat.div_mul_cancel d2]
  | case2 t u h' =>
    refine ⟨ht, hu, Nat.dvd_refl _, Nat.dvd_refl _, fun z => h' ⟨h, ht, Nat.mod_eq_zero_of_dvd z.1, Nat.mod_eq_zero_of_dvd z.2⟩, 1, by omega, by simp, by simp⟩
def redAll (ps : List Nat) (a : Nat × Nat) : Nat × Nat := ps.foldl (fun a p => red p a.1 a.2) a
theorem redAll_snoc (ps : List Nat) (p : Nat) (a : Nat × Nat) : redAll (ps ++ [p]) a = red p (redAll ps a).1 (redAll ps a).2 := by
  unfold redAll
  rw [List.foldl_append]; rfl
theorem redAll_spec : ∀ (ps : List Nat) (a : Nat × Nat), (∀ p ∈ ps, 2 ≤ p) → 0 < a.1 → 0 < a.2 →
    0 < (redAll ps a).1 ∧ 0 < (redAll ps a).2 ∧ (redAll ps a).1 ∣ a.1 ∧ (redAll ps a).2 ∣ a.2 ∧ ∀ p ∈ ps, ¬ (p ∣ (redAll ps a).1 ∧ p ∣ (redAll ps a).2)
  | [], a, _, h1, h2 => ⟨h1, h2, Nat.dvd_refl _, Nat.dvd_refl _, by simp⟩
  | p :: ps, a, h, h1, h2 => by
    obtain ⟨a1, a2, a3, a4, a5, _⟩ := red_spec (h p (by simp)) h1 h2
    obtain ⟨b1, b2, b3, b4, b5⟩ := redAll_spec ps (red p a.1 a.2) (fun q hq => h q (by simp [hq])) a1 a2
    refine ⟨b1, b2, Nat.dvd_trans b3 a3, Nat.dvd_trans b4 a4, fun q hq => ?_⟩
    rcases List.mem_cons.mp hq with rfl | hq
    · exact fun z => a5 ⟨Nat.dvd_trans z.1 b3, Nat.dvd_trans z.2 b4⟩
    · exact b5 q hq
def fracF (m : Int) (q : Nat) : Nat × Nat := redAll pL (someF (drawn m 1) q 2, someF (drawn m 2) q 3)
theorem fracF_spec (m : Int) {q : Nat} (h0 : 0 < q) (h1 : q ≤ 12) : Smooth (fracF m q).1 ∧ Smooth (fracF m q).2 ∧ (fracF m q).1 ≤ 37 ^ 2 ∧ (fracF m q).2 ≤ 37 ^ 3 ∧ Nat.gcd (fracF m q).1 (fracF m q).2 = 1 := by
  have s1 := someF_smooth (drawn m 1) h0 h1 2
  have s2 := someF_smooth (drawn m 2) h0 h1 3
  obtain ⟨a1, a2, a3, a4, a5⟩ := redAll_spec pL (someF (drawn m 1) q 2, someF (drawn m 2) q 3) (fun p hp => (pL_pm p hp).1) s1.1 s2.1
  have t1 : Smooth (fracF m q).1 := s1.dvd a3
  have t2 : Smooth (fracF m q).2 := s2.dvd a4
  refine ⟨t1, t2, Nat.le_trans (Nat.le_of_dvd s1.1 a3) (someF_le _ h0 h1 2), Nat.le_trans (Nat.le_of_dvd s2.1 a4) (someF_le _ h0 h1 3), ?_⟩
  refine Classical.byContradiction fun no => ?_
  obtain ⟨p, hp, d⟩ := (t1.dvd (Nat.gcd_dvd_left _ (fracF m q).2)).prime no
  exact a5 p hp ⟨Nat.dvd_trans d (Nat.gcd_dvd_left _ _), Nat.dvd_trans d (Nat.gcd_dvd_right _ _)⟩
def cnt47 (m : Int) : Int := m % (if m / 8 % 2 = 0 then 4 else 7)
def progF (m : Int) (q : Nat) : List (Nat × Nat) := ((List.range (cnt47 m).toNat).map fun j : Nat => fracF (drawn m (0 + (j : Int))) q).filter fun p => decide ((p.2 : Int) > 1) || decide (m / 64 % 4 = 0)
theorem cnt47_b (m : Int) : 0 ≤ cnt47 m ∧ cnt47 m < 7 := by unfold cnt47; split <;> omega
def cellF (ns : List Int) (k : Nat) : Int := if ns = [] then (k : Int) * 7919 else ns.getD (k % ns.length) 0 + (k : Int) / (ns.length : Int) * 104729
end Mx
namespace Fr
open PySem PySem.Spec PyProof.Rows L2 Mx
theorem find_and {α : Type} {f q : α → Bool} : ∀ {l : List α}, (∀ (i : Nat) (x : α), l[i]? = some x → q x = true → (∀ (j : Nat) (y : α), j < i → l[j]? = some y → q y = false) → f x = true) → l.find? (fun x => f x && q x) = l.find? q
  | [], _ => rfl
  | x :: l, h => by
    rw [List.find?_cons, List.find?_cons]
    cases e : q x with
    | true =>
      rw [h 0 x rfl e fun j y hj _ => absurd hj (Nat.not_lt_zero j)]
      rfl
    | false =>
      rw [Bool.and_false]
      exact find_and fun i y hy hq hb => h (i + 1) y (by simpa using hy) hq fun j z hj hz => by
        cases j with
        | zero => simp at hz; subst hz; exact e
        | succ j => exact hb j z (by omega) (by simpa using hz)
theorem firstAt_self {ps : List (Nat × Nat)} {i : Nat} {p : Nat × Nat} (hp : ps[i]? = some p) : ∃ j, firstAt ps p.2 = some j ∧ j ≤ i := by
  cases e : firstAt ps p.2 with
  | none =>
    unfold firstAt at e
    rw [List.findIdx?_eq_none_iff] at e
    have := e p (List.mem_of_getElem? hp)
    simp at this
  | some j =>
    refine ⟨j, rfl, ?_⟩
    refine Nat.le_of_not_lt fun hlt => ?_
    have := (firstAt_spec e).2.2.2 i hlt
    apply this
    unfold fr
    rw [List.getD_eq_getElem?_getD, hp]
    exact Nat.mod_self _
theorem fr_of {ps : List (Nat × Nat)} {i : Nat} {p : Nat × Nat} (hp : ps[i]? = some p) : fr ps i = p := by
  unfold fr
  rw [List.getD_eq_getElem?_getD, hp]; rfl
theorem eqv_oN_int (o : Option Nat) (i : Nat) : PyData.eqv (oN o) (.int (0 + (i : Int))) = decide (o = some i) := by
  cases o with
  | none => rfl
  | some k =>
    show ((k : Int) == 0 + (i : Int)) = _
    by_cases e : k = i
    · subst e; simp
    · have : ¬ ((k : Int) = 0 + (i : Int)) := by omega
      rw [beq_eq_false_iff_ne.mpr this]; simp [e]
/-- a fraction behind one whose under divides its own is idle -/
def Idle (ps : List (Nat × Nat)) (i : Nat) : Prop := ∃ j, j < i ∧ (fr ps i).2 % (fr ps j).2 = 0
theorem idle_any {ps : List (Nat × Nat)} {i : Nat} : ((List.range i).any fun j => (fr ps i).2 % (fr ps j).2 == 0) = true ↔ Idle ps i := by
  rw [List.any_eq_true]
  constructor
  · rintro ⟨j, hj, hz⟩
    exact ⟨j, List.mem_range.mp hj, by simpa using hz⟩
  · rintro ⟨j, hj, hz⟩
    exact ⟨j, List.mem_range.mpr hj, by simpa using hz⟩
instance (ps : List (Nat × Nat)) (i : Nat) : Decidable (Idle ps i) := decidable_of_iff _ idle_any
theorem idle_iff {ps : List (Nat × Nat)} {i : Nat} (hi : i < ps.length) : firstAt ps (fr ps i).2 ≠ some i ↔ Idle ps i := by
  have hp : ps[i]? = some (fr ps i) := by rw [List.getElem?_eq_getElem hi, fr_of (List.getElem?_eq_getElem hi)]
  obtain ⟨j, e, hj⟩ := firstAt_self hp
  rw [e]
  constructor
  · intro h
    have hne : j ≠ i := fun z => h (by rw [z])
    exact ⟨j, by omega, (firstAt_spec e).2.2.1⟩
  · rintro ⟨k, hk, hz⟩ h
    cases h
    exact (firstAt_spec e).2.2.2 k hk hz
theorem idleF_eq (ps : List (Nat × Nat)) : idleF ps = (List.range ps.length).filter fun i => decide (Idle ps i) := by
  unfold idleF
  refine List.filter_congr fun i hi => ?_
  rw [eqv_oN_int]
  have := idle_iff (List.mem_range.mp hi)
  by_cases h : firstAt ps (fr ps i).2 = some i
  · have h2 : ¬ Idle ps i := fun z => this.mpr z h
    simp [h, h2]
  · have h2 : Idle ps i := this.mp h
    simp [h, h2]
theorem mem_idleF {ps : List (Nat × Nat)} {i : Nat} (hi : i < ps.length) : (idleF ps).contains i = decide (Idle ps i) := by
  rw [idleF_eq]
  by_cases h : Idle ps i <;> simp [h, hi]
theorem leanF_sub {ps : List (Nat × Nat)} : List.Sublist (leanF ps) ps := by
  unfold leanF
  have h : List.Sublist ((ps.zipIdx.filter fun q => !(idleF ps).contains q.2).map (·.1)) (ps.zipIdx.map (·.1)) := List.filter_sublist.map _
  rw [List.zipIdx_map_fst] at h
  exact h
theorem IsProg.lean {ps : List (Nat × Nat)} (h : IsProg ps) : IsProg (leanF ps) := ⟨Nat.le_trans leanF_sub.length_le h.1, fun p hp => h.2 p (leanF_sub.subset hp)⟩
theorem zip_at {α : Type} {ps : List α} {i : Nat} {x : α × Nat} (h : ps.zipIdx[i]? = some x) : x.2 = i ∧ ps[i]? = some x.1 := by
  rw [List.getElem?_zipIdx] at h
  cases e : ps[i]? with
  | none => rw [e] at h; simp at h
  | some p => rw [e] at h; simp at h; subst h; simp
theorem firstAt_find (ps : List (Nat × Nat)) (n : Nat) : ledF ps n = (ps.find? fun p => n % p.2 == 0).map fun p => n / p.2 * p.1 := by
  unfold ledF
  cases e : firstAt ps n with
  | none =>
    have e' := e
    unfold firstAt at e'
    rw [List.findIdx?_eq_none_iff] at e'
    have : ps.find? (fun p => n % p.2 == 0) = none := List.find?_eq_none.mpr fun p hp => by simpa using e' p hp
    rw [this]; rfl
  | some i =>
    obtain ⟨h1, h2, h3, h4⟩ := firstAt_spec e
    have : ps.find? (fun p => n % p.2 == 0) = some (fr ps i) := by
      rw [List.find?_eq_some_iff_getElem]
      refine ⟨by simp [h3], i, h2, ?_, fun j hj => ?_⟩
      · have := List.getElem?_eq_getElem h2
        rw [h1] at this
        exact (Option.some.inj this).symm
      · have := h4 j hj
        rw [fr_of (List.getElem?_eq_getElem (by omega))] at this
        simpa using this
    rw [this]; rfl
/-- the lean program leads where the program leads -/
theorem led_lean (ps : List (Nat × Nat)) (n : Nat) : ledF (leanF ps) n = ledF ps n := by
  rw [firstAt_find, firstAt_find]
  congr 1
  unfold leanF
  rw [List.find?_map, List.find?_filter]
  have e1 : ps.find? (fun p => n % p.2 == 0) = (ps.zipIdx.find? ((fun p : Nat × Nat => n % p.2 == 0) ∘ (·.1))).map (·.1) := by
    rw [← List.find?_map, List.zipIdx_map_fst]
  rw [e1]
  congr 1
  simp only [Bool.decide_and, Bool.decide_eq_true]
  refine find_and (f := fun q : (Nat × Nat) × Nat => !(idleF ps).contains q.2) (q := (fun p : Nat × Nat => n % p.2 == 0) ∘ (·.1)) fun i x hx hq hb => ?_
  obtain ⟨rfl, hp⟩ := zip_at hx
  have hi := (List.getElem?_eq_some_iff.mp hp).1
  show (!(idleF ps).contains x.2) = true
  rw [mem_idleF hi]
  have : ¬ Idle ps x.2 := by
    rintro ⟨j, hj, hz⟩
    have hq : (n % x.1.2 == 0) = true := hq
    rw [fr_of hp] at hz
    have pj : ps[j]? = some (fr ps j) := by rw [List.getElem?_eq_getElem (by omega), fr_of (List.getElem?_eq_getElem (by omega))]
    have := hb j (fr ps j, j) hj (by rw [List.getElem?_zipIdx, pj]; simp)
    have : (n % (fr ps j).2 == 0) = false := this
    simp at this hq
    exact this (Nat.mod_eq_zero_of_dvd (Nat.dvd_trans (Nat.dvd_of_mod_eq_zero hz) (Nat.dvd_of_mod_eq_zero hq)))
  simp [this]
/-- nothing in a lean program is idle -/
theorem idle_lean (ps : List (Nat × Nat)) : idleF (leanF ps) = [] := by
  have pw : (leanF ps).Pairwise fun p q => q.2 % p.2 ≠ 0 := by
    unfold leanF
    rw [List.pairwise_map]
    have h0 : ps.zipIdx.Pairwise fun x y : (Nat × Nat) × Nat => x.2 < y.2 := by
      rw [List.pairwise_iff_getElem]
      intro i j hi hj hij
      have e1 := (zip_at (List.getElem?_eq_getElem hi)).1
      have e2 := (zip_at (List.getElem?_eq_getElem hj)).1
      omega
    refine ((h0.filter _).imp_of_mem fun {x y} hx hy hlt hz => ?_)
    obtain ⟨hx, _⟩ := List.mem_filter.mp hx
    obtain ⟨hy, hy2⟩ := List.mem_filter.mp hy
    obtain ⟨i, hi⟩ := List.mem_iff_getElem?.mp hx
    obtain ⟨k, hk⟩ := List.mem_iff_getElem?.mp hy
    obtain ⟨rfl, ex⟩ := zip_at hi
    obtain ⟨rfl, ey⟩ := zip_at hk
    have hl := (List.getElem?_eq_some_iff.mp ey).1
    rw [mem_idleF hl] at hy2
    simp only [Bool.not_eq_true', decide_eq_false_iff_not] at hy2
    exact hy2 ⟨x.2, hlt, by rw [fr_of ex, fr_of ey]; exact hz⟩
  rw [idleF_eq, List.filter_eq_nil_iff]
  intro i hi
  have hi := List.mem_range.mp hi
  simp only [decide_eq_true_eq]
  rintro ⟨j, hj, hz⟩
  rw [List.pairwise_iff_getElem] at pw
  have := pw j i (by omega) hi hj
  rw [fr_of (List.getElem?_eq_getElem hi), fr_of (List.getElem?_eq_getElem (by omega : j < (leanF ps).length))] at hz
  exact this hz
def lstep (ps : List (Nat × Nat)) (n : Nat) : Option (Nat × Nat) := (ps.findIdx? fun p => n * p.1 % p.2 == 0).map fun i => (i, n * (fr ps i).1 / (fr ps i).2)
theorem lstep_some {ps : List (Nat × Nat)} {n i : Nat} {p : Nat × Nat} (hp : ps[i]? = some p) (h : n * p.1 % p.2 = 0) (hb : ∀ j q, j < i → ps[j]? = some q → n * q.1 % q.2 ≠ 0) : lstep ps n = some (i, n * p.1 / p.2) := by
  obtain ⟨hi, e⟩ := List.getElem?_eq_some_iff.mp hp
  unfold lstep
  have : (ps.findIdx? fun p => n * p.1 % p.2 == 0) = some i := by
    rw [List.findIdx?_eq_some_iff_getElem]
    refine ⟨hi, by rw [e]; simp [h], fun j hj => ?_⟩
    have := hb j _ hj (List.getElem?_eq_getElem (by omega))
    simpa using this
  rw [this, Option.map_some, fr_of hp]
theorem lstep_none {ps : List (Nat × Nat)} {n : Nat} (hb : ∀ j q, j < ps.length → ps[j]? = some q → n * q.1 % q.2 ≠ 0) : lstep ps n = none := by
  unfold lstep
  rw [Option.map_eq_none_iff, List.findIdx?_eq_none_iff]
  intro p hp
  obtain ⟨j, hj, e⟩ := List.mem_iff_getElem.mp hp
  have := hb j p hj (by rw [List.getElem?_eq_getElem hj, e])
  simpa using this
/-- parts without a common divisor -/
def Cop (ps : List (Nat × Nat)) : Prop := ∀ p ∈ ps, Nat.gcd p.1 p.2 = 1
theorem IsProg.cop {ps : List (Nat × Nat)} (h : IsProg ps) : Cop ps := fun p hp => (h.2 p hp).2.2.2.2
theorem cop_mod {n a b : Nat} (h : Nat.gcd a b = 1) : n * a % b = 0 ↔ n % b = 0 := by
  constructor
  · intro z
    have d : b ∣ n * a := Nat.dvd_of_mod_eq_zero z
    exact Nat.mod_eq_zero_of_dvd (Nat.Coprime.dvd_of_dvd_mul_right (by show Nat.gcd b a = 1; rw [Nat.gcd_comm]; exact h) d)
  · intro z
    exact Nat.mod_eq_zero_of_dvd (Nat.dvd_trans (Nat.dvd_of_mod_eq_zero z) (Nat.dvd_mul_right n a))
theorem lstep_eq {ps : List (Nat × Nat)} (h : Cop ps) (n : Nat) : lstep ps n = (firstAt ps n).map fun i => (i, n / (fr ps i).2 * (fr ps i).1) := by
  have e : (ps.findIdx? fun p => n * p.1 % p.2 == 0) = firstAt ps n := by
    unfold firstAt
    have : ∀ l : List (Nat × Nat), (∀ p ∈ l, Nat.gcd p.1 p.2 = 1) → (l.findIdx? fun p => n * p.1 % p.2 == 0) = l.findIdx? fun p => n % p.2 == 0 := by
      intro l hl
      induction l with
      | nil => rfl
      | cons p l ih =>
        rw [List.findIdx?_cons, List.findIdx?_cons, ih fun q hq => hl q (by simp [hq])]
        have := cop_mod (n := n) (hl p (by simp))
        by_cases z : n % p.2 = 0
        · simp [z, this.mpr z]
        · have z2 : ¬ n * p.1 % p.2 = 0 := fun q => z (this.mp q)
          simp [z, z2]
    exact this ps h
  unfold lstep
  rw [e]
  cases e2 : firstAt ps n with
  | none => rfl
  | some i =>
    obtain ⟨_, _, h3, _⟩ := firstAt_spec e2
    rw [Option.map_some, Option.map_some]
    congr 2
    have d := Nat.dvd_of_mod_eq_zero h3
    rw [Nat.mul_comm n, Nat.mul_div_assoc _ d, Nat.mul_comm]
theorem lstep_led {ps : List (Nat × Nat)} (h : Cop ps) (n : Nat) : (lstep ps n).map (·.2) = ledF ps n := by
  rw [lstep_eq h]
  unfold ledF
  cases firstAt ps n <;> rfl
theorem frac_isFrac (m : Int) {q : Nat} (h0 : 0 < q) (h1 : q ≤ 12) : IsFrac (fracF m q) := by
  obtain ⟨a1, a2, a3, a4, a5⟩ := fracF_spec m h0 h1
  exact ⟨a1.isNum (Nat.lt_of_le_of_lt a3 (by decide)), a2.isNum (Nat.lt_of_le_of_lt a4 (by decide)), Nat.le_trans a3 (by decide), Nat.le_trans a4 (by decide), a5⟩
theorem progF_low (m : Int) {q : Nat} (h0 : 0 < q) (h1 : q ≤ 12) : ∀ p ∈ progF m q, p.1 ≤ 37 ^ 2 ∧ p.2 ≤ 37 ^ 3 ∧ Smooth p.2 := by
  intro p hp
  obtain ⟨hp, _⟩ := List.mem_filter.mp hp
  obtain ⟨j, _, rfl⟩ := List.mem_map.mp hp
  obtain ⟨a1, a2, a3, a4, a5⟩ := fracF_spec (drawn m (0 + (j : Int))) h0 h1
  exact ⟨a3, a4, a2⟩
theorem progF_len (m : Int) (q : Nat) : (progF m q).length ≤ 6 := by
  unfold progF
  refine Nat.le_trans (List.length_filter_le _ _) ?_
  have := (cnt47_b m).2
  rw [List.length_map, List.length_range]
  omega
theorem progF_isProg (m : Int) {q : Nat} (h0 : 0 < q) (h1 : q ≤ 12) : IsProg (progF m q) := by
  refine ⟨Nat.le_trans (progF_len m q) (by decide), fun p hp => ?_⟩
  obtain ⟨hp, _⟩ := List.mem_filter.mp hp
  obtain ⟨j, _, rfl⟩ := List.mem_map.mp hp
  exact frac_isFrac _ h0 h1
/-- a program with one fraction more -/
theorem IsProg.more {ps : List (Nat × Nat)} (h : IsProg ps) (hl : ps.length ≤ 15) {u : Nat} (hu : Smooth u) (hb : u ≤ 1000000) : IsProg (ps ++ [(1, u)]) := by
  refine ⟨by simp; omega, fun p hp => ?_⟩
  rcases List.mem_append.mp hp with hp | hp
  · exact h.2 p hp
  · rw [List.mem_singleton] at hp
    subst hp
    exact ⟨isNum_one, hu.isNum (Nat.lt_of_le_of_lt hb (by decide)), by show 1 ≤ 1000000; decide, hb, Nat.gcd_one_left _⟩
theorem tooB_small {n : Nat} (h : n < 10 ^ 60) : tooB n = false := by
  unfold tooB
  have : (n : Int) / 10 ^ 60 = 0 := by omega
  rw [this]
  rfl
theorem led_small {ps : List (Nat × Nat)} (hps : Small ps) {n m : Nat} (h : ledF ps n = some m) (hn : n ≤ 37 ^ 7) : m < 10 ^ 60 := by
  unfold ledF at h
  cases e : firstAt ps n with
  | none => rw [e] at h; cases h
  | some i =>
    rw [e] at h
    have h : n / (fr ps i).2 * (fr ps i).1 = m := Option.some.inj h
    obtain ⟨hp, _⟩ := firstAt_spec e
    obtain ⟨_, g2, _, _⟩ := hps _ (List.mem_of_getElem? hp)
    have : n / (fr ps i).2 ≤ n := Nat.div_le_self _ _
    have : n / (fr ps i).2 * (fr ps i).1 ≤ 37 ^ 7 * 1000000 := Nat.mul_le_mul (Nat.le_trans this hn) g2
    rw [← h]
    exact Nat.lt_of_le_of_lt this (by decide)
theorem stepE_small {K : PySem.W.Frag} {ps : List (Nat × Nat)} (hps : Small ps) {n : Nat} (hn : n ≤ 37 ^ 7) : stepE K ps n = .ok (oN (ledF ps n)) := by
  unfold stepE
  cases e : ledF ps n with
  | none => rfl
  | some m =>
    show (if tooB m then _ else _) = _
    rw [tooB_small (led_small hps e hn)]
    rfl
theorem sh_lN (ns : List Nat) : SeqAt.shaped (lN ns) = true := by
  have := shaped_ints (ns.map fun k : Nat => (k : Int))
  rw [List.map_map] at this
  exact this
theorem eqvAll_lN : ∀ (a b : List Nat), PyData.eqvAll (a.map nD) (b.map nD) = decide (a = b)
  | [], [] => rfl
  | [], _ :: _ => rfl
  | _ :: _, [] => rfl
  | x :: a, y :: b => by
    rw [List.map_cons, List.map_cons]
    show (((x : Int) == (y : Int)) && PyData.eqvAll (a.map nD) (b.map nD)) = _
    rw [eqvAll_lN a b]
    by_cases e : x = y
    · subst e; simp
    · have : ¬ (x : Int) = (y : Int) := by omega
      rw [beq_eq_false_iff_ne.mpr this]; simp [e]
theorem eqv_lN (a b : List Nat) : PyData.eqv (lN a) (lN b) = decide (a = b) := eqvAll_lN a b
theorem eqv_prD (p q : Nat × Nat) : PyData.eqv (prD p) (prD q) = decide (p = q) := by
  obtain ⟨a, b⟩ := p
  obtain ⟨c, d⟩ := q
  show (((a : Int) == (c : Int)) && (((b : Int) == (d : Int)) && true)) = _
  by_cases e : a = c
  · subst e
    by_cases e : b = d
    · subst e; simp
    · have : ¬ (b : Int) = (d : Int) := by omega
      rw [beq_eq_false_iff_ne.mpr this]; simp [e]
  · have : ¬ (a : Int) = (c : Int) := by omega
    rw [beq_eq_false_iff_ne.mpr this]; simp [e]
theorem eqvAll_lP : ∀ (a b : List (Nat × Nat)), PyData.eqvAll (a.map prD) (b.map prD) = decide (a = b)
  | [], [] => rfl
  | [], _ :: _ => rfl
  | _ :: _, [] => rfl
  | x :: a, y :: b => by
    rw [List.map_cons, List.map_cons]
    show (PyData.eqv (prD x) (prD y) && PyData.eqvAll (a.map prD) (b.map prD)) = _
    rw [eqvAll_lP a b, eqv_prD]
    by_cases e : x = y <;> simp [e]
theorem eqv_lP (a b : List (Nat × Nat)) : PyData.eqv (lP a) (lP b) = decide (a = b) := eqvAll_lP a b
theorem lP_depth (ps : List (Nat × Nat)) : PyData.depthAll (ps.map prD) ≤ 2 := by
  induction ps with
  | nil => exact Nat.zero_le _
  | cons p ps ih =>
    have : PyData.depth (prD p) ≤ 2 := by simp only [prD, PyData.depth, PyData.depthAll]; decide
    simp only [List.map_cons, PyData.depthAll]
    omega
theorem lP_lay (ps : List (Nat × Nat)) : PyData.canLayAll0 (ps.map prD) = true := by
  induction ps with
  | nil => rfl
  | cons p ps ih =>
    show (PyData.canLay0 (prD p) && PyData.canLayAll0 (ps.map prD)) = true
    rw [ih]
    rfl
theorem sh_lP (ps : List (Nat × Nat)) : SeqAt.shaped (lP ps) = true := by
  have h1 := lP_depth ps
  have h2 : PyData.depth (lP ps) ≤ 64 := by
    show PyData.depth (.list (ps.map prD)) ≤ 64
    simp only [PyData.depth]
    omega
  show (PyData.canLay0 (lP ps) && decide (PyData.depth (lP ps) ≤ 64)) = true
  rw [Bool.and_eq_true]
  exact ⟨lP_lay ps, decide_eq_true h2⟩
theorem eqv_oN (a b : Option Nat) : PyData.eqv (oN a) (oN b) = decide (a = b) := by
  cases a <;> cases b
  · rfl
  · rfl
  · rfl
  · rename_i x y
    show ((x : Int) == (y : Int)) = _
    by_cases e : x = y
    · subst e; simp
    · have : ¬ (x : Int) = (y : Int) := by omega
      rw [beq_eq_false_iff_ne.mpr this]; simp [e]
end Fr
namespace Fr
open PySem PySem.Spec PyProof.Rows L2 Mx
def oP : Option (Nat × Nat) → Dt
  | none => .none
  | some p => prD p
end Fr
namespace Fr
open PySem PySem.Spec PyProof.Rows L2 Mx
theorem cut_takeN {α : Type} (ps : List α) (f : α → Dt) (i : Nat) : cutL (ps.map f) none (some (i : Int)) = (ps.take i).map f := by
  unfold cutL
  rw [HT.sIx_none, HT.sIx_nat, List.drop_zero, List.length_map, Nat.sub_zero, ← List.map_take]
  congr 1
  rw [List.take_eq_take_iff]
  omega
theorem sh_ones {α : Type} (xs : List α) : SeqAt.shaped (.list (xs.map fun _ => PyData.int 1)) = true := by
  have := shaped_ints (xs.map fun _ => (1 : Int))
  rw [List.map_map] at this
  exact this
theorem eqv_ones {α : Type} (xs : List α) : PyData.eqv (.list (xs.map fun _ => PyData.int 1)) (.list []) = decide (xs = []) := by
  cases xs <;> rfl
theorem idle_ones {ps : List (Nat × Nat)} {i : Nat} {p : Nat × Nat} (hp : ps[i]? = some p) : (!decide ((ps.take i).filter (fun o : Nat × Nat => decide ((p.2 : Int) % (o.2 : Int) = 0)) = [])) = decide (Idle ps i) := by
  have hi := (List.getElem?_eq_some_iff.mp hp).1
  rw [← decide_not]
  congr 1
  simp only [eq_iff_iff]
  rw [List.filter_eq_nil_iff]
  constructor
  · intro h
    refine Classical.byContradiction fun no => h fun o ho => ?_
    obtain ⟨j, hj, e⟩ := List.mem_iff_getElem.mp ho
    rw [List.length_take] at hj
    rw [List.getElem_take] at e
    simp only [decide_eq_true_eq]
    intro z
    refine no ⟨j, by omega, ?_⟩
    rw [fr_of hp, fr_of (List.getElem?_eq_getElem (by omega)), e]
    omega
  · rintro ⟨j, hj, hz⟩ h
    rw [fr_of hp, fr_of (List.getElem?_eq_getElem (by omega : j < ps.length))] at hz
    have := h ps[j] (List.mem_take_iff_getElem.mpr ⟨j, by omega, rfl⟩)
    simp only [decide_eq_true_eq] at this
    apply this
    omega
theorem first_idle {ps : List (Nat × Nat)} {i j : Nat} {p : Nat × Nat} (hp : ps[i]? = some p) (ej : firstAt ps p.2 = some j) : (!decide ((!decide ((j : Int) = (i : Int))) = decide (Idle ps i))) = false := by
  have hi := (List.getElem?_eq_some_iff.mp hp).1
  have := idle_iff hi
  rw [fr_of hp, ej] at this
  have e : decide ((j : Int) = (i : Int)) = !decide (Idle ps i) := by
    by_cases h : Idle ps i
    · have h2 : ¬ ((j : Int) = (i : Int)) := fun z => this.mpr h (by congr 1; omega)
      rw [decide_eq_true h, decide_eq_false h2]; rfl
    · have h2 : (j : Int) = (i : Int) := Classical.byContradiction fun no => h (this.mp fun z => no (by rw [Option.some.inj z]))
      rw [decide_eq_false h, decide_eq_true h2]; rfl
  rw [e]
  simp
end Fr
namespace Fr
open PySem PySem.Spec PyProof.Rows L2 Mx
def topS (i : Nat) : Stmt := PySem.Challenge.pw_fractrows_k21_whole_lean.main.body.getD i (.Pass ⟨0, 0, 0, 0⟩)
/-- what the top has left -/
structure Tx (K : PySem.W.Frag) (mg : Str → Option Value) : Prop where
  n_all : mg "all" = none
  n_enumerate : mg "enumerate" = none
  n_range : mg "range" = none
  n_tuple : mg "tuple" = none
  n_isinstance : mg "isinstance" = none
  n_bool : mg "bool" = none
  n_max : mg "max" = none
  n_int : mg "int" = none
  n_len : mg "len" = none
  n_list : mg "list" = none
  n_min : mg "min" = none
  PRIMES : mg "PRIMES" = some (.ref (He.ga K "PRIMES"))
  q_PRIMES : ∀ H : Hp, SqT K H (He.ga K "PRIMES") (([2, 3, 5, 7, 11, 13, 17, 19, 23, 29, 31, 37] : List Int).map V.int)
  MOST_ROOM : ∃ t, mg "MOST_ROOM" = some (.int 400 t)
  MOST_FRACTIONS : ∃ t, mg "MOST_FRACTIONS" = some (.int 16 t)
  MOST_PART : ∃ t, mg "MOST_PART" = some (.int 1000000 t)
  RowError : Xc K mg "RowError"
  BadNumber : Xc K mg "BadNumber"
  BadProgram : Xc K mg "BadProgram"
  TooGreat : Xc K mg "TooGreat"
theorem Tx.d_PRIMES {K : PySem.W.Frag} {mg : Str → Option Value} (T : Tx K mg) (M : Hp) : Dn K M (.ref (He.ga K "PRIMES")) (.tuple (([2, 3, 5, 7, 11, 13, 17, 19, 23, 29, 31, 37] : List Int).map PyData.int)) := .tup (T.q_PRIMES M) (DnA.of_ints _)

local macro_rules | `(tactic| walk_at "nz") => `(tactic| try dsimp only [Fr.Then, Fr.Turn, Fr.Fin, List.set_cons_zero, List.set_cons_succ])
local macro_rules | `(tactic| walk_at "sd") => `(tactic| first | assumption | omega | decide | exact cmul_r (by omega) (by omega) | exact cmul_l (by omega) (by omega) | exact cdiv_10 | exact cdiv_s (by omega) (by omega) | (exact ⟨by decide, by decide, by decide⟩))
local macro_rules | `(tactic| walk_at "sz") => `(tactic| first | assumption | decide | (simp only [List.length_map, List.length_append, List.length_take, List.length_cons, List.length_nil, List.length_range, List.length_zipIdx, rooms_len]; omega))
local macro_rules | `(tactic| walk_at "ix") => `(tactic| first | assumption | rfl)
local macro_rules | `(tactic| walk_at "sh") => `(tactic| first | assumption | exact sh_oN _ | exact sh_lP _ | exact sh_lN _ | rfl | decide)
local macro_rules | `(tactic| walk_at "pr") => `(tactic| first | assumption | exact ⟨_, rfl, rfl⟩)

abbrev Pr__law_drawn (K : PySem.W.Frag) : List Dt → Except Value Dt → Prop := fun ds r => ∃ c k : Int, ds = [.int c, .int k] ∧ r = .ok (.int (drawn c k))
abbrev Pr__law_primes (K : PySem.W.Frag) : List Dt → Except Value Dt → Prop := fun ds r => ds = [] ∧ r = .ok (lN pL)
abbrev Pr__law_some (K : PySem.W.Frag) : List Dt → Except Value Dt → Prop := fun ds r => ∃ (m : Int) (q t : Nat), 0 < q ∧ q ≤ 12 ∧ t ≤ 20 ∧ ds = [.int m, nD q, nD t] ∧ r = .ok (nD (someF m q t))
abbrev Pr__law_fraction (K : PySem.W.Frag) : List Dt → Except Value Dt → Prop := fun ds r => ∃ (c : Int) (q : Nat), 0 < q ∧ q ≤ 12 ∧ ds = [.int c, nD q] ∧ r = .ok (prD (fracF c q))
abbrev Pr__law_program (K : PySem.W.Frag) : List Dt → Except Value Dt → Prop := fun ds r => ∃ (m : Int) (q : Nat), 0 < q ∧ q ≤ 12 ∧ ds = [.int m, nD q] ∧ r = .ok (lP (progF m q))
abbrev Pr_common (K : PySem.W.Frag) : List Dt → Except Value Dt → Prop := fun ds r => ∃ a b : Nat, ds = [nD a, nD b] ∧ r = .ok (nD (Nat.gcd a b))
abbrev Pr_parted (K : PySem.W.Frag) : List Dt → Except Value Dt → Prop := fun ds r => ∃ n : Nat, 0 < n ∧ ds = [nD n] ∧ r = .ok (.tuple [rmD (rooms n), nD (rest n)])
abbrev Pr_is_number (K : PySem.W.Frag) : List Dt → Except Value Dt → Prop := fun ds r => ∃ d : Dt, ds = [d] ∧ r = .ok (.bool (isNumD d))
abbrev Pr_is_fraction (K : PySem.W.Frag) : List Dt → Except Value Dt → Prop := fun ds r => ∃ d : Dt, ds = [d] ∧ r = .ok (.bool (isFracD d))
abbrev Pr_is_program (K : PySem.W.Frag) : List Dt → Except Value Dt → Prop := fun ds r => ∃ d : Dt, ds = [d] ∧ r = .ok (.bool (isProgD d))
abbrev Pr_need_program (K : PySem.W.Frag) : List Dt → Except Value Dt → Prop := fun ds r => ∃ d : Dt, ds = [d] ∧ r = if isProgD d then .ok .none else cE K "BadProgram"
abbrev Pr_first_at (K : PySem.W.Frag) : List Dt → Except Value Dt → Prop := fun ds r => ∃ (ps : List (Nat × Nat)) (n : Nat), Small ps ∧ ds = [lP ps, nD n] ∧ r = .ok (oN (firstAt ps n))
abbrev Pr_idle (K : PySem.W.Frag) : List Dt → Except Value Dt → Prop := fun ds r => ∃ d : Dt, ds = [d] ∧ r = progE K d fun ps => .ok (lN (idleF ps))
abbrev Pr_lean (K : PySem.W.Frag) : List Dt → Except Value Dt → Prop := fun ds r => ∃ d : Dt, ds = [d] ∧ r = progE K d fun ps => .ok (lP (leanF ps))
abbrev Pr__law_cell (K : PySem.W.Frag) : List Int → List Dt → Except Value Dt → Prop := fun ns ds r => ∃ k : Nat, ns.length < 2 ^ 61 ∧ ds = [nD k] ∧ r = .ok (.int (cellF ns k))
abbrev Pr__law_step (K : PySem.W.Frag) : List Dt → Except Value Dt → Prop := fun ds r => ∃ (ps : List (Nat × Nat)) (n : Nat), Small ps ∧ ds = [lP ps, nD n] ∧ r = .ok (oP (lstep ps n))
abbrev Pr_need_number (K : PySem.W.Frag) : List Dt → Except Value Dt → Prop := fun ds r => ∃ d : Dt, ds = [d] ∧ r = if isNumD d then .ok .none else cE K "BadNumber"
abbrev Pr_look (K : PySem.W.Frag) : List Dt → Except Value Dt → Prop := fun ds r => ∃ d e : Dt, ds = [d, e] ∧ r = lookE K d e fun _ _ => .ok .none
abbrev Pr_led (K : PySem.W.Frag) : List Dt → Except Value Dt → Prop := fun ds r => ∃ (ps : List (Nat × Nat)) (n : Nat), Small ps ∧ ds = [lP ps, nD n] ∧ r = .ok (oN (ledF ps n))
abbrev Pr_need_room (K : PySem.W.Frag) : List Dt → Except Value Dt → Prop := fun ds r => ∃ n : Nat, 0 < n ∧ ds = [nD n] ∧ r = if tooB n then cE K "TooGreat" else .ok .none
abbrev Pr_step (K : PySem.W.Frag) : List Dt → Except Value Dt → Prop := fun ds r => ∃ d e : Dt, ds = [d, e] ∧ r = lookE K d e (stepE K)
abbrev Pr_law (K : PySem.W.Frag) : List Int → List Dt → Except Value Dt → Prop := fun ns ds r => ns.length ≤ 63 ∧ ds = [] ∧ r = .ok (.bool true)
section
variable {P : Program} {w : World} {K : PySem.W.Frag} {mg : Str → Option Value} {base : Heap}
abbrev s__law_drawn : Stmt := topS 27
abbrev N__law_drawn : List Str := ["_law_cell_here", "_law_k", "_law_more"]
theorem sc__law_drawn : FnScope N__law_drawn ["_law_cell_here", "_law_k"] (defScope s__law_drawn) := ⟨rfl, rfl, rfl, by decide +kernel, rfl, by decide +kernel, by decide +kernel⟩
theorem ok__law_drawn (D : Df K mg "_law_drawn" s__law_drawn ["_law_cell_here", "_law_k"]) (T : Tx K mg) : Ck P w K mg base "_law_drawn" 1 ["_law_cell_here", "_law_k"] (spD K (Pr__law_drawn K)) := by
  refine ck_mk (k := 0) D sc__law_drawn (fun ds r hp => ?_) fun f cdv A outer s H E ds r hr hp => ?_
  · obtain ⟨c, k, rfl, rfl⟩ := hp
    rfl
  refine ⟨_, (pss_cons (ps_set (i := 2) sc__law_drawn.nd rfl (.inl rfl) (pe_op op_mod (pe_op op_add (pe_op op_mulA (pv 0) pe_int) (pe_op op_mulA (pe_op op_add (pv 1) pe_int) pe_int)) pe_int))
      (pss_cons (ps_set (i := 2) sc__law_drawn.nd rfl (.inl rfl) (pe_op op_mod (pe_op op_mulA (pv 2) (pv 2)) pe_int))
      (pss_cons (ps_set (i := 2) sc__law_drawn.nd rfl (.inl rfl) (pe_op op_mulA (pe_op op_mulA (pe_op op_add (pe_op op_mod (pv 2) pe_int) pe_int) (pe_op op_add (pe_op op_fdivW (pv 2) pe_int) pe_int)) (pv 2)))
      (pss_one (ps_ret (pe_op op_mod (pv 2) pe_int)))))), ?_⟩
  obtain ⟨c, k, rfl, rfl⟩ := hp
  show Wp K E _ [.va (.int c), .va (.int k), .no] _
  refine wp_seq ?_
  refine wp_set (i := 2) (ev_op (ev_op (ev_op (ev_var rfl) ev_int (rv_I (by walk_at "sd") fun _ => .int _)) (ev_op (ev_op (ev_var rfl) ev_int (rv_I0 fun _ => .int _)) ev_int (rv_I (by walk_at "sd") fun _ => .int _)) (rv_I0 fun _ => .int _)) ev_int (rv_I (by walk_at "sd") fun _ => .int _)) ?_
  walk_at "nz"
  show Wp K E _ [.va (.int c), .va (.int k), .va (.int (dr1 c k))] _
  have b1 := dr1_b c k
  have m1 : CMulA (dr1 c k) (dr1 c k) := cmul_w 129 129 (by omega) (by omega) (by decide) (by decide) (by decide)
  refine wp_seq ?_
  refine wp_set (i := 2) (ev_op (ev_op (ev_var rfl) (ev_var rfl) (rv_I (by walk_at "sd") fun _ => .int _)) ev_int (rv_I (by walk_at "sd") fun _ => .int _)) ?_
  walk_at "nz"
  show Wp K E _ [.va (.int c), .va (.int k), .va (.int (dr2 c k))] _
  have b2 := dr2_b c k
  have m2 : CMulA ((dr2 c k % 18446744073709551557 + 1) * (dr2 c k / 18446744073709551557 + 1)) (dr2 c k) := cmul_w 130 129 (dr3_lo c k) (by omega) (by decide) (by decide) (by decide)
  refine wp_seq ?_
  refine wp_set (i := 2) (ev_op (ev_op (ev_op (ev_op (ev_var rfl) ev_int (rv_I (by walk_at "sd") fun _ => .int _)) ev_int (rv_I0 fun _ => .int _)) (ev_op (ev_op (ev_var rfl) ev_int (rv_I (by walk_at "sd") fun _ => .int _)) ev_int (rv_I0 fun _ => .int _)) (rv_I (by walk_at "sd") fun _ => .int _)) (ev_var rfl) (rv_I (by walk_at "sd") fun _ => .int _)) ?_
  walk_at "nz"
  refine wp_ret (ev_op (ev_var rfl) ev_int (rv_I (by walk_at "sd") fun _ => .int _)) ?_
  walk_at "nz"
  first | done | rfl
abbrev s__law_primes : Stmt := topS 28
abbrev N__law_primes : List Str := []
theorem sc__law_primes : FnScope N__law_primes [] (defScope s__law_primes) := ⟨rfl, rfl, rfl, by decide +kernel, rfl, by decide +kernel, by decide +kernel⟩
theorem ok__law_primes (D : Df K mg "_law_primes" s__law_primes []) (T : Tx K mg) : Ck P w K mg base "_law_primes" 1 [] (spD K (Pr__law_primes K)) := by
  refine ck_mk (k := 0) D sc__law_primes (fun ds r hp => ?_) fun f cdv A outer s H E ds r hr hp => ?_
  · obtain ⟨rfl, rfl⟩ := hp
    rfl
  refine ⟨_, (pss_one (ps_ret (pe_lst (pa_cons pe_int (pa_cons pe_int (pa_cons pe_int (pa_cons pe_int (pa_cons pe_int (pa_cons pe_int (pa_cons pe_int (pa_cons pe_int (pa_cons pe_int (pa_cons pe_int (pa_cons pe_int (pa_cons pe_int pa_nil))))))))))))))), ?_⟩
  obtain ⟨rfl, rfl⟩ := hp
  show Wp K E _ [] _
  refine wp_ret (EvN.da (evn_lst (ea_cons ev_int (ea_cons ev_int (ea_cons ev_int (ea_cons ev_int (ea_cons ev_int (ea_cons ev_int (ea_cons ev_int (ea_cons ev_int (ea_cons ev_int (ea_cons ev_int (ea_cons ev_int (ea_cons ev_int ea_nil)))))))))))) (Nat.le_of_ble_eq_true rfl))) ?_
  walk_at "nz"
  first | done | rfl
abbrev s__law_some : Stmt := topS 29
abbrev N__law_some : List Str := ["_law_more", "_law_primes_here", "_law_most", "_law_found", "_law_j"]
theorem sc__law_some : FnScope N__law_some ["_law_more", "_law_primes_here", "_law_most"] (defScope s__law_some) := ⟨rfl, rfl, rfl, by decide +kernel, rfl, by decide +kernel, by decide +kernel⟩
theorem ok__law_some (D : Df K mg "_law_some" s__law_some ["_law_more", "_law_primes_here", "_law_most"]) (T : Tx K mg) (G__law_drawn : Ck P w K mg base "_law_drawn" 1 ["_law_cell_here", "_law_k"] (spD K (Pr__law_drawn K))) (G__law_primes : Ck P w K mg base "_law_primes" 1 [] (spD K (Pr__law_primes K))) : Ck P w K mg base "_law_some" 2 ["_law_more", "_law_primes_here", "_law_most"] (spD K (Pr__law_some K)) := by
  refine ck_mk (k := 1) D sc__law_some (fun ds r hp => ?_) fun f cdv A outer s H E ds r hr hp => ?_
  · obtain ⟨m, q, t, hq0, hq1, ht, rfl, rfl⟩ := hp
    rfl
  refine ⟨_, (pss_cons (ps_set (i := 3) sc__law_some.nd rfl (.inl rfl) pe_int)
      (pss_cons (ps_for (passes_of rfl) rfl (pi_range1 (by rfl) T.n_range (pa_cons (pe_op op_mod (pv 0) (pe_op op_add (pv 2) pe_int)) pa_nil)) (pg_name (i := 4) sc__law_some.nd rfl (.inl rfl))
      (pss_one (ps_set (i := 3) sc__law_some.nd rfl (.inl rfl) (pe_op op_mulA (pv 3) (pe_ix (ix_listK (K := K) rfl) (pe_callC0 G__law_primes hr (L2N.passes_call (L2N.takes_of rfl rfl rfl rfl) fun _ _ _ _ h => h)) (pe_op op_mod (pe_op op_fdivW (pe_callC G__law_drawn hr (L2N.passes_call (L2N.takes_of rfl rfl rfl rfl) fun _ _ _ _ h => h) (pa_cons (pv 0) (pa_cons (pv 4) pa_nil))) pe_int) (pv 1)) (fun _ _ => rfl))))))
      (pss_one (ps_ret (pv 3))))), ?_⟩
  obtain ⟨m, q, t, hq0, hq1, ht, rfl, rfl⟩ := hp
  show Wp K E _ [.va (.int m), .va (nD q), .va (nD t), .no, .no] _
  refine wp_seq ?_
  refine wp_set (i := 3) ev_int ?_
  walk_at "nz"
  have hc0 := Int.emod_nonneg m (show (t : Int) + 1 ≠ 0 by omega)
  have hc1 := Int.emod_lt_of_pos m (show (0 : Int) < (t : Int) + 1 by omega)
  refine wp_seq ?_
  refine wp_for (vs := [4]) (ei_rng1 (ev_op (ev_var rfl) (ev_op (ev_var rfl) ev_int (rv_I0 fun _ => .int _)) (rv_I (by walk_at "sd") fun _ => .int _)) (by walk_at "sd") (by walk_at "sd")) (fun i ρ1 => ∃ (s4 : Sl), ρ1 = [.va (.int m), .va (nD q), .va (nD t), .va (nD (someP m q i)), s4]) (⟨_, rfl⟩) (fun i d ρ1 hd hI => ?_) (fun ρ1 hI => ?_)
  · obtain ⟨s4, rfl⟩ := hI
    obtain ⟨hi, rfl⟩ := rng_item hd
    have dx := draw_ix m (0 + (i : Int)) hq0 hq1
    have hix : atI pL (drawn m (0 + (i : Int)) / 8 % (q : Int)) = some (pL.getD (drawn m (0 + (i : Int)) / 8 % (q : Int)).toNat 1) := atI_of dx.1 (by show _ < ((12 : Nat) : Int); omega) 1
    have p37 := pL_le _ (pL_at dx.2.2)
    have hmul : CMulA ((someP m q i : Nat) : Int) ((pL.getD (drawn m (0 + (i : Int)) / 8 % (q : Int)).toNat 1 : Nat) : Int) := cmul_r (by omega) (by omega)
    refine ⟨_, eg_name, ?_⟩
    walk_at "nz"
    refine wp_set (i := 3) (ev_op (ev_var rfl) (ev_op (ev_call ea_nil ⟨rfl, rfl⟩) (ev_op (ev_op (ev_call (ea_cons (ev_var rfl) (ea_cons (ev_var rfl) ea_nil)) ⟨m, 0 + (i : Int), rfl, rfl⟩) ev_int (rv_I (by walk_at "sd") fun _ => .int _)) (ev_var rfl) (rv_I (by walk_at "sd") fun _ => .int _)) (rv_ixLm (by walk_at "ix"))) (rv_I (by walk_at "sd") fun _ => .int _)) ?_
    walk_at "nz"
    exact ⟨.va (.int (0 + (i : Int))), by rw [someP]; simp only [nD, Int.natCast_mul]⟩
  · obtain ⟨s4, rfl⟩ := hI
    walk_at "nz"
    refine wp_ret (ev_var rfl) ?_
    walk_at "nz"
    show Except.ok (nD (someF m q t)) = _
    unfold someF
    rw [List.length_map, List.length_range]
abbrev s__law_fraction : Stmt := topS 30
abbrev N__law_fraction : List Str := ["_law_more", "_law_primes_here", "_law_top", "_law_under", "_law_prime"]
theorem sc__law_fraction : FnScope N__law_fraction ["_law_more", "_law_primes_here"] (defScope s__law_fraction) := ⟨rfl, rfl, rfl, by decide +kernel, rfl, by decide +kernel, by decide +kernel⟩
theorem ok__law_fraction (D : Df K mg "_law_fraction" s__law_fraction ["_law_more", "_law_primes_here"]) (T : Tx K mg) (G__law_drawn : Ck P w K mg base "_law_drawn" 1 ["_law_cell_here", "_law_k"] (spD K (Pr__law_drawn K))) (G__law_primes : Ck P w K mg base "_law_primes" 1 [] (spD K (Pr__law_primes K))) (G__law_some : Ck P w K mg base "_law_some" 2 ["_law_more", "_law_primes_here", "_law_most"] (spD K (Pr__law_some K))) : Ck P w K mg base "_law_fraction" 3 ["_law_more", "_law_primes_here"] (spD K (Pr__law_fraction K)) := by
  refine ck_mk (k := 2) D sc__law_fraction (fun ds r hp => ?_) fun f cdv A outer s H E ds r hr hp => ?_
  · obtain ⟨c, q, hq0, hq1, rfl, rfl⟩ := hp
    rfl
  refine ⟨_, (pss_cons (ps_par (i := 2) (j := 3) (by rfl) sc__law_fraction.nd rfl rfl (by decide) rfl rfl (pa_cons (pe_callC G__law_some hr (L2N.passes_call (L2N.takes_of rfl rfl rfl rfl) fun _ _ _ _ h => h) (pa_cons (pe_callC G__law_drawn (hr.mono (by decide)) (L2N.passes_call (L2N.takes_of rfl rfl rfl rfl) fun _ _ _ _ h => h) (pa_cons (pv 0) (pa_cons pe_int pa_nil))) (pa_cons (pv 1) (pa_cons pe_int pa_nil)))) (pa_cons (pe_callC G__law_some hr (L2N.passes_call (L2N.takes_of rfl rfl rfl rfl) fun _ _ _ _ h => h) (pa_cons (pe_callC G__law_drawn (hr.mono (by decide)) (L2N.passes_call (L2N.takes_of rfl rfl rfl rfl) fun _ _ _ _ h => h) (pa_cons (pv 0) (pa_cons pe_int pa_nil))) (pa_cons (pv 1) (pa_cons pe_int pa_nil)))) pa_nil)) (by rfl))
      (pss_cons (ps_for (passes_of rfl) rfl (pi_listK (K := K) rfl (pe_callC0 G__law_primes (hr.mono (by decide)) (L2N.passes_call (L2N.takes_of rfl rfl rfl rfl) fun _ _ _ _ h => h))) (pg_name (i := 4) sc__law_fraction.nd rfl (.inl rfl))
      (pss_one (ps_while (passes_of rfl) (PW.pt (pw_and (pt_cmpR op_eq (pe_op op_mod (pv 2) (pv 4)) pe_int (nomark _)) (pw_and1 (pt_cmpR op_eq (pe_op op_mod (pv 3) (pv 4)) pe_int (nomark _)))))
      (pss_one (ps_par (i := 2) (j := 3) (by rfl) sc__law_fraction.nd rfl rfl (by decide) rfl rfl (pa_cons (pe_op op_fdivW (pv 2) (pv 4)) (pa_cons (pe_op op_fdivW (pv 3) (pv 4)) pa_nil)) (by rfl))))))
      (pss_one (ps_ret (pe_tup (pa_cons (pv 2) (pa_cons (pv 3) pa_nil))))))), ?_⟩
  obtain ⟨c, q, hq0, hq1, rfl, rfl⟩ := hp
  show Wp K E _ [.va (.int c), .va (nD q), .no, .no, .no] _
  refine wp_seq ?_
  refine wp_par (ea_cons (ev_call (ea_cons (ev_call (ea_cons (ev_var rfl) (ea_cons ev_int ea_nil)) ⟨c, 1, rfl, rfl⟩) (ea_cons (ev_var rfl) (ea_cons ev_int ea_nil))) ⟨drawn c 1, q, 2, hq0, hq1, by decide, rfl, rfl⟩) (ea_cons (ev_call (ea_cons (ev_call (ea_cons (ev_var rfl) (ea_cons ev_int ea_nil)) ⟨c, 2, rfl, rfl⟩) (ea_cons (ev_var rfl) (ea_cons ev_int ea_nil))) ⟨drawn c 2, q, 3, hq0, hq1, by decide, rfl, rfl⟩) ea_nil)) ?_
  walk_at "nz"
  refine wp_seq ?_
  refine wp_for (vs := [4]) (ei_list (ev_call ea_nil ⟨rfl, rfl⟩)) (fun i ρ1 => ∃ (s4 : Sl), ρ1 = [.va (.int c), .va (nD q), .va (nD (redAll (pL.take i) (someF (drawn c 1) q 2, someF (drawn c 2) q 3)).1), .va (nD (redAll (pL.take i) (someF (drawn c 1) q 2, someF (drawn c 2) q 3)).2), s4]) (⟨_, rfl⟩) (fun i d ρ1 hd hI => ?_) (fun ρ1 hI => ?_)
  · obtain ⟨s4, rfl⟩ := hI
    obtain ⟨p, hp, rfl⟩ := pL_item hd
    have pm := pL_pm p (List.mem_of_getElem? hp)
    have p2 := pm.1
    have p37 := pL_le p (List.mem_of_getElem? hp)
    have sp := redAll_spec (pL.take i) (someF (drawn c 1) q 2, someF (drawn c 2) q 3) (fun p hp => (pL_pm p (List.mem_of_mem_take hp)).1) (someF_smooth _ hq0 hq1 2).1 (someF_smooth _ hq0 hq1 3).1
    generalize er : redAll (pL.take i) (someF (drawn c 1) q 2, someF (drawn c 2) q 3) = a at sp ⊢
    refine ⟨_, eg_name, ?_⟩
    walk_at "nz"
    refine wp_while (fun m ρ1 => ∃ (u : Nat), 0 < m ∧ 0 < u ∧ red p m u = red p a.1 a.2 ∧ ρ1 = [.va (.int c), .va (nD q), .va (nD m), .va (nD u), .va (nD p)]) (_) (⟨a.2, sp.1, sp.2.1, rfl, rfl⟩) (fun m ρ1 hI => ?_)
    obtain ⟨u, hm0, hu0, hrd, rfl⟩ := hI
    refine ⟨_, (et_and (et_test (ev_op (ev_op (ev_var rfl) (ev_var rfl) (rv_I (by walk_at "sd") fun _ => .int _)) ev_int rv_eqI)) fun _ => (et_test (ev_op (ev_op (ev_var rfl) (ev_var rfl) (rv_I (by walk_at "sd") fun _ => .int _)) ev_int rv_eqI))), fun h2 => ?_, fun h2 => ?_⟩
    · skip
      have hb : m % p = 0 ∧ u % p = 0 := by
        simp only [Bool.and_eq_true, decide_eq_true_eq] at h2
        omega
      refine wp_par (ea_cons (ev_op (ev_var rfl) (ev_var rfl) (rv_I (by walk_at "sd") fun _ => .int _)) (ea_cons (ev_op (ev_var rfl) (ev_var rfl) (rv_I (by walk_at "sd") fun _ => .int _)) ea_nil)) ?_
      walk_at "nz"
      show ∃ m, _ ∧ _
      exact ⟨m / p, Nat.div_lt_self hm0 p2, u / p, Nat.div_pos (Nat.le_of_dvd hm0 (Nat.dvd_of_mod_eq_zero hb.1)) (by omega), Nat.div_pos (Nat.le_of_dvd hu0 (Nat.dvd_of_mod_eq_zero hb.2)) (by omega), by rw [← hrd, red_step p2 hm0 hb.1 hb.2], by simp [nD]⟩
    · skip
      walk_at "nz"
      have hend : m % p ≠ 0 ∨ u % p ≠ 0 := by
        simp only [Bool.and_eq_false_iff, decide_eq_false_iff_not] at h2
        omega
      have et : pL.take (i + 1) = pL.take i ++ [p] := by rw [List.take_add_one, hp]; rfl
      refine ⟨.va (nD p), ?_⟩
      rw [et, redAll_snoc, er, ← hrd, red_end hend]
  · obtain ⟨s4, rfl⟩ := hI
    walk_at "nz"
    refine wp_ret (ev_tup (ea_cons (ev_var rfl) (ea_cons (ev_var rfl) ea_nil)) (Nat.le_of_ble_eq_true rfl)) ?_
    walk_at "nz"
    first | done | rfl
abbrev s__law_program : Stmt := topS 31
abbrev N__law_program : List Str := ["_law_more", "_law_primes_here", "_law_j", "_law_found", "_law_one"]
theorem sc__law_program : FnScope N__law_program ["_law_more", "_law_primes_here"] (defScope s__law_program) := ⟨rfl, rfl, rfl, by decide +kernel, rfl, by decide +kernel, by decide +kernel⟩
theorem ok__law_program (D : Df K mg "_law_program" s__law_program ["_law_more", "_law_primes_here"]) (T : Tx K mg) (G__law_drawn : Ck P w K mg base "_law_drawn" 1 ["_law_cell_here", "_law_k"] (spD K (Pr__law_drawn K))) (G__law_fraction : Ck P w K mg base "_law_fraction" 3 ["_law_more", "_law_primes_here"] (spD K (Pr__law_fraction K))) : Ck P w K mg base "_law_program" 4 ["_law_more", "_law_primes_here"] (spD K (Pr__law_program K)) := by
  refine ck_mk (k := 3) D sc__law_program (fun ds r hp => ?_) fun f cdv A outer s H E ds r hr hp => ?_
  · obtain ⟨m, q, hq0, hq1, rfl, rfl⟩ := hp
    rfl
  refine ⟨_, (pss_cons (ps_setLc (i := 3) (own := [("_law_j", 2)]) rfl sc__law_program.nd rfl rfl (sw_true rfl rfl rfl (by decide +kernel)) (pi_range1 (by rfl) T.n_range (pa_cons (pe_op op_mod (pv 0) (pe_ix (ix_listK (K := K) rfl) (pe_lst (pa_cons pe_int (pa_cons pe_int pa_nil))) (pe_op op_mod (pe_op op_fdivW (pv 0) pe_int) pe_int) (fun _ _ => rfl))) pa_nil)) (blkOk_by (own := [("_law_j", 2)]) (N := N__law_program) (sc := defScope s__law_program) (by decide +kernel)) (fun _ _ _ _ _ => (pg_name (i := 2) sc__law_program.nd rfl (by first | exact .inl rfl | exact .inr rfl))) (fun _ _ _ _ _ => pts_nil) (fun _ _ _ _ _ => (pe_callC G__law_fraction hr passLN (pa_cons (pe_callC G__law_drawn (hr.mono (by decide)) passLN (pa_cons (pv 0) (pa_cons (pv 2) pa_nil))) (pa_cons (pv 1) pa_nil)))))
      (pss_one (ps_ret (pe_lc (own := [("_law_one", 4)]) rfl sc__law_program.nd (pi_listK (K := K) rfl (pv 3)) (blkOk_by (own := [("_law_one", 4)]) (N := N__law_program) (sc := defScope s__law_program) (by decide +kernel)) (fun _ _ _ _ _ => (pg_name (i := 4) sc__law_program.nd rfl (by first | exact .inl rfl | exact .inr rfl))) (fun _ _ _ _ _ => pts_one (PW.pt (pw_or (pt_cmpR op_gt (pe_ix (ix_tupK (K := K) rfl) (pv 4) pe_int (fun _ _ => rfl)) pe_int (nomark _)) (pw_or1 (pt_cmpR op_eq (pe_op op_mod (pe_op op_fdivW (pv 0) pe_int) pe_int) pe_int (nomark _)))))) (fun _ _ _ _ _ => (pv 4)))))), ?_⟩
  obtain ⟨m, q, hq0, hq1, rfl, rfl⟩ := hp
  show Wp K E _ [.va (.int m), .va (nD q), .no, .no, .no] _
  have cb := cnt47_b m
  have hix : atI [PyData.int 4, PyData.int 7] (m / 8 % 2) = some (.int (if m / 8 % 2 = 0 then 4 else 7)) := by
    rcases (by omega : m / 8 % 2 = 0 ∨ m / 8 % 2 = 1) with e | e <;> rw [e] <;> rfl
  have hpos : (0 : Int) < (if m / 8 % 2 = 0 then 4 else 7) := by split <;> decide
  refine wp_seq ?_
  refine wp_set (i := 3) (d := lP ((List.range (cnt47 m).toNat).map fun j : Nat => fracF (drawn m (0 + (j : Int))) q)) ?_ ?_
  · skip
    refine Ev.to (EvN.da (evn_lc0 (vs := [2]) (ei_rng1 (n := cnt47 m) ?_ (by omega) (by omega)) (by rw [List.length_range]; omega) (fun j : Nat => prD (fracF (drawn m (0 + (j : Int))) q)) _ (fun x hx => ⟨eg_name, ?_⟩))) ?_
    · exact ev_op (ev_var rfl) (ev_op (EvN.da (evn_lst (ea_cons ev_int (ea_cons ev_int ea_nil)) (Nat.le_of_ble_eq_true rfl))) (ev_op (ev_op (ev_var rfl) ev_int (rv_I (by walk_at "sd") fun _ => .int _)) ev_int (rv_I (by walk_at "sd") fun _ => .int _)) (rv_ixL hix)) (rv_I hpos fun _ => .int _)
    · exact ev_call (ea_cons (ev_call (ea_cons (ev_var rfl) (ea_cons (ev_var rfl) ea_nil)) ⟨m, 0 + (x : Int), rfl, rfl⟩) (ea_cons (ev_var rfl) ea_nil)) ⟨drawn m (0 + (x : Int)), q, hq0, hq1, rfl, rfl⟩
    show PyData.list _ = PyData.list _
    congr 1
    rw [List.map_map]; rfl
  walk_at "nz"
  refine wp_ret (d := lP (progF m q)) ?_ ?_
  · skip
    exact EvN.da (evn_lc (vs := [4]) (ei_list (ev_var rfl)) (by rw [List.length_map, List.length_range]; omega) _ _ _ (fun x hx => ⟨eg_name, et_or (et_test (ev_op (ev_op (ev_var rfl) ev_int (rv_ixT rfl)) ev_int (rv_I0 fun _ => .bl _))) fun _ => et_test (ev_op (ev_op (ev_op (ev_var rfl) ev_int (rv_I (by walk_at "sd") fun _ => .int _)) ev_int (rv_I (by walk_at "sd") fun _ => .int _)) ev_int rv_eqI), fun _ => ev_var rfl⟩))
  walk_at "nz"
  first | done | rfl
abbrev s_common : Stmt := topS 14
abbrev N_common : List Str := ["one", "other"]
theorem sc_common : FnScope N_common ["one", "other"] (defScope s_common) := ⟨rfl, rfl, rfl, by decide +kernel, rfl, by decide +kernel, by decide +kernel⟩
theorem ok_common (D : Df K mg "common" s_common ["one", "other"]) (T : Tx K mg) : Ck P w K mg base "common" 1 ["one", "other"] (spD K (Pr_common K)) := by
  refine ck_mk (k := 0) D sc_common (fun ds r hp => ?_) fun f cdv A outer s H E ds r hr hp => ?_
  · obtain ⟨a, b, rfl, rfl⟩ := hp
    rfl
  refine ⟨_, (pss_cons (ps_while (passes_of rfl) (pt_cmpR op_ne (pv 1) pe_int (nomark _))
      (pss_one (ps_par (i := 0) (j := 1) (by rfl) sc_common.nd rfl rfl (by decide) rfl rfl (pa_cons (pv 1) (pa_cons (pe_op op_mod (pv 0) (pv 1)) pa_nil)) (by rfl))))
      (pss_one (ps_ret (pv 0)))), ?_⟩
  obtain ⟨a, b, rfl, rfl⟩ := hp
  show Wp K E _ [.va (nD a), .va (nD b)] _
  refine wp_seq ?_
  refine wp_while (fun m ρ1 => ∃ x : Nat, Nat.gcd x m = Nat.gcd a b ∧ ρ1 = [.va (nD x), .va (nD m)]) (_) (⟨a, rfl, rfl⟩) (fun m ρ1 hI => ?_)
  obtain ⟨x, hg, rfl⟩ := hI
  refine ⟨_, (et_test (ev_op (ev_var rfl) ev_int rv_neI)), fun h0 => ?_, fun h0 => ?_⟩
  · skip
    have hm : 0 < m := by
      have h := h0
      rw [Bool.not_eq_true', decide_eq_false_iff_not] at h
      omega
    refine wp_par (ea_cons (ev_var rfl) (ea_cons (ev_op (ev_var rfl) (ev_var rfl) (rv_I (by walk_at "sd") fun _ => .int _)) ea_nil)) ?_
    walk_at "nz"
    show ∃ m, _ ∧ _
    exact ⟨x % m, Nat.mod_lt _ hm, m, by rw [← hg, Nat.gcd_comm x m, Nat.gcd_comm m (x % m), ← Nat.gcd_rec], by simp [nD]⟩
  · skip
    walk_at "nz"
    have hm : m = 0 := by
      have h := h0
      rw [Bool.not_eq_false', decide_eq_true_eq] at h
      omega
    subst hm
    rw [Nat.gcd_zero_right] at hg
    refine wp_ret (ev_var rfl) ?_
    walk_at "nz"
    rw [hg]
abbrev s_parted : Stmt := topS 8
abbrev N_parted : List Str := ["number", "found", "prime", "many"]
theorem sc_parted : FnScope N_parted ["number"] (defScope s_parted) := ⟨rfl, rfl, rfl, by decide +kernel, rfl, by decide +kernel, by decide +kernel⟩
theorem ok_parted (D : Df K mg "parted" s_parted ["number"]) (T : Tx K mg) : Ck P w K mg base "parted" 1 ["number"] (spD K (Pr_parted K)) := by
  refine ck_mk (k := 0) D sc_parted (fun ds r hp => ?_) fun f cdv A outer s H E ds r hr hp => ?_
  · obtain ⟨n, hn, rfl, rfl⟩ := hp
    rfl
  refine ⟨_, (pss_cons (ps_set (i := 1) sc_parted.nd rfl (.inl rfl) (pe_lst pa_nil))
      (pss_cons (ps_for (passes_of rfl) rfl (pi_tupK (K := K) rfl (pe_glob (v := .ref _) (by rfl) T.PRIMES rfl)) (pg_name (i := 2) sc_parted.nd rfl (.inl rfl))
      (pss_cons (ps_set (i := 3) sc_parted.nd rfl (.inl rfl) pe_int)
      (pss_cons (ps_while (passes_of rfl) (pt_cmpR op_eq (pe_op op_mod (pv 0) (pv 2)) pe_int (nomark _))
      (pss_cons (ps_set (i := 0) sc_parted.nd rfl (.inl rfl) (pe_op op_fdivW (pv 0) (pv 2)))
      (pss_one (ps_set (i := 3) sc_parted.nd rfl (.inl rfl) (pe_op op_add (pv 3) pe_int)))))
      (pss_one (ps_expr (pe_bm PySem.F.plainAttrs_list PySem.F.slot_list_append PySem.F.type_list_append mt_append (pv 1) (pa_cons (pv 3) pa_nil)))))))
      (pss_one (ps_ret (pe_tup (pa_cons (pe_callTy (call_tupK (K := K) rfl) (by rfl) T.n_tuple bt_tuple (pa_cons (pv 1) pa_nil)) (pa_cons (pv 0) pa_nil))))))), ?_⟩
  obtain ⟨n, hn, rfl, rfl⟩ := hp
  show Wp K E _ [.va (nD n), .no, .no, .no] _
  refine wp_seq ?_
  refine wp_setN (i := 1) (evn_lst ea_nil (Nat.le_of_ble_eq_true rfl)) ?_
  walk_at "nz"
  refine wp_seq ?_
  refine wp_for (vs := [2]) (ei_tup (ev_c T.d_PRIMES)) (fun i ρ1 => ∃ (num : Nat) (s2 s3 : Sl), 0 < num ∧ n = mk (pL.take i) ((pL.take i).map (mlt · n)) * num ∧ ρ1 = [.va (nD num), .own (((pL.take i).map (mlt · n)).map fun k : Nat => PyData.int (k : Int)), s2, s3]) (⟨n, _, _, hn, by simp [mk], rfl⟩) (fun i d ρ1 hd hI => ?_) (fun ρ1 hI => ?_)
  · obtain ⟨num, s2, s3, h0, hn2, rfl⟩ := hI
    obtain ⟨p, hp, rfl⟩ := pL_item hd
    have pm := pL_pm p (List.mem_of_getElem? hp)
    have p2 := pm.1
    have p37 := pL_le p (List.mem_of_getElem? hp)
    have hi : i < 12 := (List.getElem?_eq_some_iff.mp hp).1
    refine ⟨_, eg_name, ?_⟩
    walk_at "nz"
    refine wp_seq ?_
    refine wp_set (i := 3) ev_int ?_
    walk_at "nz"
    refine wp_seq ?_
    refine wp_while (fun m ρ1 => ∃ (k : Nat), 0 < m ∧ num = p ^ k * m ∧ ρ1 = [.va (nD m), .own (((pL.take i).map (mlt · n)).map fun k : Nat => PyData.int (k : Int)), .va (nD p), .va (nD k)]) (_) (⟨0, h0, by simp, rfl⟩) (fun m ρ1 hI => ?_)
    obtain ⟨k, hm0, hnum, rfl⟩ := hI
    refine ⟨_, (et_test (ev_op (ev_op (ev_var rfl) (ev_var rfl) (rv_I (by walk_at "sd") fun _ => .int _)) ev_int rv_eqI)), fun h3 => ?_, fun h3 => ?_⟩
    · skip
      have hb : m % p = 0 := by have := of_decide_eq_true h3; omega
      refine wp_seq ?_
      refine wp_set (i := 0) (ev_op (ev_var rfl) (ev_var rfl) (rv_I (by walk_at "sd") fun _ => .int _)) ?_
      walk_at "nz"
      refine wp_set (i := 3) (ev_op (ev_var rfl) ev_int (rv_I0 fun _ => .int _)) ?_
      walk_at "nz"
      show ∃ m, _ ∧ _
      exact ⟨m / p, Nat.div_lt_self hm0 p2, k + 1, Nat.div_pos (Nat.le_of_dvd hm0 (Nat.dvd_of_mod_eq_zero hb)) (by omega), by rw [hnum, Nat.pow_succ, Nat.mul_assoc, Nat.mul_div_cancel' (Nat.dvd_of_mod_eq_zero hb)], by simp [nD]⟩
    · skip
      walk_at "nz"
      have nd : ¬ p ∣ m := fun z => by
        have := of_decide_eq_false h3
        have := Nat.mod_eq_zero_of_dvd z
        omega
      have hmlt2 : mlt p n = k := by rw [mlt_step_parted hn hn2 hp h0]; exact mlt_uniq p2 hnum hm0 nd
      have hmlt : p ^ mlt p n = p ^ k := by rw [hmlt2]
      refine wp_app (i := 1) rfl (ev_var rfl) (by walk_at "sz") ?_
      walk_at "nz"
      refine ⟨m, .va (nD p), .va (nD k), hm0, ?_, ?_⟩
      · rw [mk_take pL n i p hp, hmlt, Nat.mul_assoc, ← hnum]; exact hn2
      · rw [List.take_add_one, hp, ← hmlt2]; simp
  · obtain ⟨num, s2, s3, h0, hn2, rfl⟩ := hI
    walk_at "nz"
    have en : num = rest n := parted_end hn hn2
    refine wp_frz (i := 1) rfl ?_
    walk_at "nz"
    refine wp_ret (ev_tup (ea_cons (ev_cb (ea_cons (ev_var rfl) ea_nil) rc_tupL) (ea_cons (ev_var rfl) ea_nil)) (Nat.le_of_ble_eq_true rfl)) ?_
    walk_at "nz"
    rw [en]; rfl
abbrev s_is_number : Stmt := topS 9
abbrev N_is_number : List Str := ["thing", "found", "left", "many"]
theorem sc_is_number : FnScope N_is_number ["thing"] (defScope s_is_number) := ⟨rfl, rfl, rfl, by decide +kernel, rfl, by decide +kernel, by decide +kernel⟩
theorem ok_is_number (D : Df K mg "is_number" s_is_number ["thing"]) (T : Tx K mg) (G_parted : Ck P w K mg base "parted" 1 ["number"] (spD K (Pr_parted K))) : Ck P w K mg base "is_number" 2 ["thing"] (spD K (Pr_is_number K)) := by
  refine ck_mk (k := 1) D sc_is_number (fun ds r hp => ?_) fun f cdv A outer s H E ds r hr hp => ?_
  · obtain ⟨d, rfl, rfl⟩ := hp
    rfl
  refine ⟨_, (pss_cons (ps_if (PW.pt (pw_or (pt_not (pt_val (pe_callB (call_isiKK (K := K) rfl) (by rfl) T.n_isinstance bt_isinstance (pa_cons (pv 0) (pa_cons (pe_bltn (v := .ty "int") (by rfl) T.n_int bt_int rfl) pa_nil))))) (pw_or (pt_val (pe_callB (call_isiKK (K := K) rfl) (by rfl) T.n_isinstance bt_isinstance (pa_cons (pv 0) (pa_cons (pe_bltn (v := .ty "bool") (by rfl) T.n_bool bt_bool rfl) pa_nil)))) (pw_or1 (pt_cmpR op_lt (pv 0) pe_int (nomark _))))))
      (pss_one (ps_ret pe_bl))
      pss_nil)
      (pss_cons (ps_asg (pe_callC G_parted hr (L2N.passes_call (L2N.takes_of rfl rfl rfl rfl) fun _ _ _ _ h => h) (pa_cons (pv 0) pa_nil)) (pg_tupK (K := K) (n := 2) rfl rfl (pgs_cons (pg_name (i := 1) sc_is_number.nd rfl (.inl rfl)) (pgs_cons (pg_name (i := 2) sc_is_number.nd rfl (.inl rfl)) pgs_nil))))
      (pss_one (ps_ret (pe_and (pe_cmpR op_eq (pv 2) pe_int (nomark _)) (pe_one (pe_callB (cr_allK (K := K) rfl rfl) (by rfl) T.n_all bt_all (pa_cons (pe_lc (own := [("many", 3)]) rfl sc_is_number.nd (pi_tupK (K := K) rfl (pv 1)) (blkOk_by (own := [("many", 3)]) (N := N_is_number) (sc := defScope s_is_number) (by decide +kernel)) (fun _ _ _ _ _ => (pg_name (i := 3) sc_is_number.nd rfl (by first | exact .inl rfl | exact .inr rfl))) (fun _ _ _ _ _ => pts_nil) (fun _ _ _ _ _ => (pe_cmpR op_le (pv 3) (pe_globI T.MOST_ROOM) (nomark _)))) pa_nil)))))))), ?_⟩
  obtain ⟨d, rfl, rfl⟩ := hp
  show Wp K E _ [.va (d), .no, .no, .no] _
  refine wp_seq ?_
  refine wp_if (b := badNum d) ?_ (fun h0 => ?_) (fun h0 => ?_)
  · skip
    cases d with
    | int i => exact et_or (a := false) (EvT.to (et_not (et_B (ev_isi_int (ev_var rfl)))) rfl) fun _ => et_or (a := false) (EvT.to (et_B (ev_isi_bool (ev_var rfl))) rfl) fun _ => et_test (ev_op (ev_var rfl) ev_int (rv_I0 fun _ => .bl _))
    | bool b => exact et_or2 (et_not (et_B (ev_isi_int (ev_var rfl)))) (et_or1 (EvT.to (et_B (ev_isi_bool (ev_var rfl))) rfl))
    | _ => exact et_or1 (EvT.to (et_not (et_B (ev_isi_int (ev_var rfl)))) rfl)
  · skip
    refine wp_ret ev_bl ?_
    walk_at "nz"
    rw [badNum_true h0]
  · skip
    obtain ⟨n, rfl, hn⟩ := badNum_false h0
    refine wp_nil ?_
    walk_at "nz"
    refine wp_seq ?_
    refine wp_asg (vs := [1, 2]) (ev_call (ea_cons (ev_var rfl) ea_nil) ⟨n, hn, rfl, rfl⟩) (eg_tup (egs_cons eg_name (egs_cons eg_name egs_nil)) rfl) ?_
    walk_at "nz"
    refine wp_ret (ev_andV (ev_op (ev_var rfl) ev_int rv_eqI) fun _ => (ev_cb (ea_cons (EvN.da (evn_lc0 (vs := [3]) (ei_tup (ev_var rfl)) (by walk_at "sz") _ _ (fun x hx => ⟨eg_name, (ev_op (ev_var rfl) ev_int (rv_I0 fun _ => .bl _))⟩))) ea_nil) rc_allM)) ?_
    walk_at "nz"
    rw [isNumD_nat hn]
abbrev s_is_fraction : Stmt := topS 15
abbrev N_is_fraction : List Str := ["thing", "one"]
theorem sc_is_fraction : FnScope N_is_fraction ["thing"] (defScope s_is_fraction) := ⟨rfl, rfl, rfl, by decide +kernel, rfl, by decide +kernel, by decide +kernel⟩
theorem ok_is_fraction (D : Df K mg "is_fraction" s_is_fraction ["thing"]) (T : Tx K mg) (G_common : Ck P w K mg base "common" 1 ["one", "other"] (spD K (Pr_common K))) (G_is_number : Ck P w K mg base "is_number" 2 ["thing"] (spD K (Pr_is_number K))) : Ck P w K mg base "is_fraction" 3 ["thing"] (spD K (Pr_is_fraction K)) := by
  refine ck_mk (k := 2) D sc_is_fraction (fun ds r hp => ?_) fun f cdv A outer s H E ds r hr hp => ?_
  · obtain ⟨d, rfl, rfl⟩ := hp
    rfl
  refine ⟨_, (pss_cons (ps_if (PW.pt (pw_or (pt_not (pt_val (pe_callB (call_isiKK (K := K) rfl) (by rfl) T.n_isinstance bt_isinstance (pa_cons (pv 0) (pa_cons (pe_bltn (v := .ty "tuple") (by rfl) T.n_tuple bt_tuple rfl) pa_nil))))) (pw_or (pt_cmpR op_ne (pe_callB (call_lenK (K := K) rfl) (by rfl) T.n_len bt_len (pa_cons (pv 0) pa_nil)) pe_int (nomark _)) (pw_or1 (pt_not (pt_val (pe_callB (cr_allK (K := K) rfl rfl) (by rfl) T.n_all bt_all (pa_cons (pe_lc (own := [("one", 1)]) rfl sc_is_fraction.nd (pi_tupK (K := K) rfl (pv 0)) (blkOk_by (own := [("one", 1)]) (N := N_is_fraction) (sc := defScope s_is_fraction) (by decide +kernel)) (fun _ _ _ _ _ => (pg_name (i := 1) sc_is_fraction.nd rfl (by first | exact .inl rfl | exact .inr rfl))) (fun _ _ _ _ _ => pts_nil) (fun _ _ _ _ _ => (pe_callC G_is_number hr passLN (pa_cons (pv 1) pa_nil)))) pa_nil))))))))
      (pss_one (ps_ret pe_bl))
      pss_nil)
      (pss_one (ps_ret (pe_and (pe_cmpR op_le (pe_callB (cr_maxTK (K := K) rfl rfl) (by rfl) T.n_max bt_max (pa_cons (pv 0) pa_nil)) (pe_globI T.MOST_PART) (nomark _)) (pe_one (pe_cmpR op_eq (pe_callC G_common (hr.mono (by decide)) (L2N.passes_call (L2N.takes_of rfl rfl rfl rfl) fun _ _ _ _ h => h) (pa_cons (pe_ix (ix_tupK (K := K) rfl) (pv 0) pe_int (fun _ _ => rfl)) (pa_cons (pe_ix (ix_tupK (K := K) rfl) (pv 0) pe_int (fun _ _ => rfl)) pa_nil))) pe_int (nomark _))))))), ?_⟩
  obtain ⟨d, rfl, rfl⟩ := hp
  show Wp K E _ [.va (d), .no] _
  refine wp_seq ?_
  refine wp_if (b := badFrac d) ?_ (fun h0 => ?_) (fun h0 => ?_)
  · skip
    cases d with
    | tuple ds =>
      refine et_or (a := false) (EvT.to (et_not (et_B (ev_isi_tuple (ev_var rfl)))) rfl) fun _ => ?_
      refine (et_or (et_test (ev_op (ev_cb (ea_cons (ev_var rfl) ea_nil) rc_lenT) ev_int rv_neI)) fun hl => et_not (et_B (ev_cb (ea_cons (EvN.da (evn_lc0 (vs := [1]) (ei_tupD (ev_var rfl)) ?_ _ _ (fun x hx => ⟨eg_name, ev_call (ea_cons (ev_var rfl) ea_nil) ⟨_, rfl, rfl⟩⟩))) ea_nil) rc_allM))).to ?_
      · rw [Bool.not_eq_false', decide_eq_true_eq] at hl
        omega
      · congr 1
        rw [← decide_not]
        congr 1
        simp only [eq_iff_iff]
        show ¬ ((ds.length : Int) = 2) ↔ ¬ (ds.length = 2)
        omega
    | _ => exact et_or1 (EvT.to (et_not (et_B (ev_isi_tuple (ev_var rfl)))) rfl)
  · skip
    refine wp_ret ev_bl ?_
    walk_at "nz"
    rw [badFrac_true h0]
  · skip
    obtain ⟨a, b, rfl, ha, hb⟩ := badFrac_false h0
    refine wp_nil ?_
    walk_at "nz"
    refine wp_ret (d := .bool (isFracD (prD (a, b)))) ?_ ?_
    · skip
      rw [isFracD_pr ha hb]
      exact ev_andV ((ev_op (ev_cb (ea_cons (ev_var rfl) ea_nil) (rc_maxT (ns := [(a : Int), (b : Int)]) (Nat.zero_lt_succ _))) ev_int (rv_I0 fun _ => .bl _)).to rfl) fun _ => ev_op (ev_call (ea_cons (ev_op (ev_var rfl) ev_int (rv_ixT rfl)) (ea_cons (ev_op (ev_var rfl) ev_int (rv_ixT rfl)) ea_nil)) ⟨a, b, rfl, rfl⟩) ev_int rv_eqI
    walk_at "nz"
    first | done | rfl
abbrev s_is_program : Stmt := topS 16
abbrev N_is_program : List Str := ["thing", "one"]
theorem sc_is_program : FnScope N_is_program ["thing"] (defScope s_is_program) := ⟨rfl, rfl, rfl, by decide +kernel, rfl, by decide +kernel, by decide +kernel⟩
theorem ok_is_program (D : Df K mg "is_program" s_is_program ["thing"]) (T : Tx K mg) (G_is_fraction : Ck P w K mg base "is_fraction" 3 ["thing"] (spD K (Pr_is_fraction K))) : Ck P w K mg base "is_program" 4 ["thing"] (spD K (Pr_is_program K)) := by
  refine ck_mk (k := 3) D sc_is_program (fun ds r hp => ?_) fun f cdv A outer s H E ds r hr hp => ?_
  · obtain ⟨d, rfl, rfl⟩ := hp
    rfl
  refine ⟨_, (pss_cons (ps_if (PW.pt (pw_or (pt_not (pt_val (pe_callB (call_isiKK (K := K) rfl) (by rfl) T.n_isinstance bt_isinstance (pa_cons (pv 0) (pa_cons (pe_bltn (v := .ty "list") (by rfl) T.n_list bt_list rfl) pa_nil))))) (pw_or1 (pt_cmpR op_gt (pe_callB (call_lenK (K := K) rfl) (by rfl) T.n_len bt_len (pa_cons (pv 0) pa_nil)) (pe_globI T.MOST_FRACTIONS) (nomark _)))))
      (pss_one (ps_ret pe_bl))
      pss_nil)
      (pss_one (ps_ret (pe_callB (cr_allK (K := K) rfl rfl) (by rfl) T.n_all bt_all (pa_cons (pe_lc (own := [("one", 1)]) rfl sc_is_program.nd (pi_listK (K := K) rfl (pv 0)) (blkOk_by (own := [("one", 1)]) (N := N_is_program) (sc := defScope s_is_program) (by decide +kernel)) (fun _ _ _ _ _ => (pg_name (i := 1) sc_is_program.nd rfl (by first | exact .inl rfl | exact .inr rfl))) (fun _ _ _ _ _ => pts_nil) (fun _ _ _ _ _ => (pe_callC G_is_fraction hr passLN (pa_cons (pv 1) pa_nil)))) pa_nil))))), ?_⟩
  obtain ⟨d, rfl, rfl⟩ := hp
  show Wp K E _ [.va (d), .no] _
  refine wp_seq ?_
  refine wp_if (b := badProg d) ?_ (fun h0 => ?_) (fun h0 => ?_)
  · skip
    cases d with
    | list ds =>
      refine (et_or (a := false) (EvT.to (et_not (et_B (ev_isi_list (ev_var rfl)))) rfl) fun _ => et_test (ev_op (ev_cb (ea_cons (ev_var rfl) ea_nil) rc_lenL) ev_int (rv_I0 fun _ => .bl _))).to ?_
      show decide ((16 : Int) < (ds.length : Int)) = decide (16 < ds.length)
      congr 1
      simp only [eq_iff_iff]
      omega
    | _ => exact et_or1 (EvT.to (et_not (et_B (ev_isi_list (ev_var rfl)))) rfl)
  · skip
    refine wp_ret ev_bl ?_
    walk_at "nz"
    rw [badProg_true h0]
  · skip
    obtain ⟨ds, rfl, hl⟩ := badProg_false h0
    refine wp_nil ?_
    walk_at "nz"
    refine wp_ret (d := .bool (isProgD (.list ds))) ?_ ?_
    · skip
      rw [isProgD_list hl]
      exact ev_cb (ea_cons (EvN.da (evn_lc0 (vs := [1]) (ei_listD (ev_var rfl)) (by omega) _ _ (fun x hx => ⟨eg_name, ev_call (ea_cons (ev_var rfl) ea_nil) ⟨_, rfl, rfl⟩⟩))) ea_nil) rc_allM
    walk_at "nz"
    first | done | rfl
abbrev s_need_program : Stmt := topS 17
abbrev N_need_program : List Str := ["program"]
theorem sc_need_program : FnScope N_need_program ["program"] (defScope s_need_program) := ⟨rfl, rfl, rfl, by decide +kernel, rfl, by decide +kernel, by decide +kernel⟩
theorem ok_need_program (D : Df K mg "need_program" s_need_program ["program"]) (T : Tx K mg) (G_is_program : Ck P w K mg base "is_program" 4 ["thing"] (spD K (Pr_is_program K))) : Ck P w K mg base "need_program" 5 ["program"] (spD K (Pr_need_program K)) := by
  refine ck_mk (k := 4) D sc_need_program (fun ds r hp => ?_) fun f cdv A outer s H E ds r hr hp => ?_
  · obtain ⟨d, rfl, rfl⟩ := hp
    rfl
  refine ⟨_, (pss_one (ps_if (pt_not (pt_val (pe_callC G_is_program hr (L2N.passes_call (L2N.takes_of rfl rfl rfl rfl) fun _ _ _ _ h => h) (pa_cons (pv 0) pa_nil))))
      (pss_one (L2N.ps_raise rfl (L2N.takes_of rfl rfl rfl rfl) (L2N.pmk_own PySem.F.excBase_ValueError T.BadProgram.ex T.BadProgram.gl T.BadProgram.kp (raises_own T.BadProgram.sb T.BadProgram.ty) (by rfl))))
      pss_nil)), ?_⟩
  obtain ⟨d, rfl, rfl⟩ := hp
  show Wp K E _ [.va (d)] _
  refine wp_if (et_not (et_B (ev_call (ea_cons (ev_var rfl) ea_nil) (by walk_at "pr")))) (fun h0 => ?_) (fun h0 => ?_)
  · skip
    refine wp_raise ?_
    walk_at "nz"
    rw [Bool.not_eq_true'] at h0
    rw [h0]; rfl
  · skip
    refine wp_nil ?_
    walk_at "nz"
    rw [Bool.not_eq_false'] at h0
    rw [h0]; rfl
abbrev s_first_at : Stmt := topS 18
abbrev N_first_at : List Str := ["program", "number", "place", "fraction"]
theorem sc_first_at : FnScope N_first_at ["program", "number"] (defScope s_first_at) := ⟨rfl, rfl, rfl, by decide +kernel, rfl, by decide +kernel, by decide +kernel⟩
theorem ok_first_at (D : Df K mg "first_at" s_first_at ["program", "number"]) (T : Tx K mg) : Ck P w K mg base "first_at" 1 ["program", "number"] (spD K (Pr_first_at K)) := by
  refine ck_mk (k := 0) D sc_first_at (fun ds r hp => ?_) fun f cdv A outer s H E ds r hr hp => ?_
  · obtain ⟨ps, n, hps, rfl, rfl⟩ := hp
    rfl
  refine ⟨_, (pss_cons (ps_for (passes_of rfl) rfl (pi_enumK (K := K) rfl (by rfl) T.n_enumerate (pa_cons (pv 0) pa_nil)) (pg_tupK (K := K) (n := 2) rfl rfl (pgs_cons (pg_name (i := 2) sc_first_at.nd rfl (.inl rfl)) (pgs_cons (pg_name (i := 3) sc_first_at.nd rfl (.inl rfl)) pgs_nil)))
      (pss_one (ps_if (pt_cmpR op_eq (pe_op op_mod (pv 1) (pe_ix (ix_tupK (K := K) rfl) (pv 3) pe_int (fun _ _ => rfl))) pe_int (nomark _))
      (pss_one (ps_ret (pv 2)))
      pss_nil)))
      (pss_one (ps_ret pe_non))), ?_⟩
  obtain ⟨ps, n, hps, rfl, rfl⟩ := hp
  show Wp K E _ [.va (lP ps), .va (nD n), .no, .no] _
  refine wp_seq ?_
  refine wp_for (vs := [2, 3]) (ei_enumM (ev_var rfl)) (fun i ρ1 => ∃ (s2 s3 : Sl), (∀ j q, j < i → ps[j]? = some q → n % q.2 ≠ 0) ∧ ρ1 = [.va (lP ps), .va (nD n), s2, s3]) (⟨_, _, fun j q h => absurd h (Nat.not_lt_zero j), rfl⟩) (fun i d ρ1 hd hI => ?_) (fun ρ1 hI => ?_)
  · obtain ⟨s2, s3, hb, rfl⟩ := hI
    obtain ⟨p, hp, rfl⟩ := enum_item hd
    have hp2 := hps p (List.mem_of_getElem? hp)
    refine ⟨_, (eg_tup (egs_cons eg_name (egs_cons eg_name egs_nil)) rfl), ?_⟩
    walk_at "nz"
    refine wp_if (et_test (ev_op (ev_op (ev_var rfl) (ev_op (ev_var rfl) ev_int (rv_ixT (by walk_at "ix"))) (rv_I (by walk_at "sd") fun _ => .int _)) ev_int rv_eqI)) (fun h1 => ?_) (fun h1 => ?_)
    · skip
      refine wp_ret (ev_var rfl) ?_
      walk_at "nz"
      have hz : n % p.2 = 0 := by have := of_decide_eq_true h1; omega
      rw [firstAt_some hp hz hb]; rfl
    · skip
      refine wp_nil ?_
      walk_at "nz"
      refine ⟨_, _, fun j q hj hq => ?_, rfl⟩
      rcases Nat.lt_succ_iff_lt_or_eq.mp hj with hj | rfl
      · exact hb j q hj hq
      · rw [hp] at hq
        cases hq
        have := of_decide_eq_false h1
        omega
  · obtain ⟨s2, s3, hb, rfl⟩ := hI
    walk_at "nz"
    refine wp_ret ev_non ?_
    walk_at "nz"
    rw [firstAt_none (by simpa using hb)]; rfl
abbrev s_idle : Stmt := topS 23
abbrev N_idle : List Str := ["program", "place"]
theorem sc_idle : FnScope N_idle ["program"] (defScope s_idle) := ⟨rfl, rfl, rfl, by decide +kernel, rfl, by decide +kernel, by decide +kernel⟩
theorem ok_idle (D : Df K mg "idle" s_idle ["program"]) (T : Tx K mg) (G_first_at : Ck P w K mg base "first_at" 1 ["program", "number"] (spD K (Pr_first_at K))) (G_need_program : Ck P w K mg base "need_program" 5 ["program"] (spD K (Pr_need_program K))) : Ck P w K mg base "idle" 6 ["program"] (spD K (Pr_idle K)) := by
  refine ck_mk (k := 5) D sc_idle (fun ds r hp => ?_) fun f cdv A outer s H E ds r hr hp => ?_
  · obtain ⟨d, rfl, rfl⟩ := hp
    rfl
  refine ⟨_, (pss_cons (ps_expr (pe_callC G_need_program hr (L2N.passes_call (L2N.takes_of rfl rfl rfl rfl) fun _ _ _ _ h => h) (pa_cons (pv 0) pa_nil)))
      (pss_one (ps_ret (pe_lc (own := [("place", 1)]) rfl sc_idle.nd (pi_range1 (by rfl) T.n_range (pa_cons (pe_callB (call_lenK (K := K) rfl) (by rfl) T.n_len bt_len (pa_cons (pv 0) pa_nil)) pa_nil)) (blkOk_by (own := [("place", 1)]) (N := N_idle) (sc := defScope s_idle) (by decide +kernel)) (fun _ _ _ _ _ => (pg_name (i := 1) sc_idle.nd rfl (by first | exact .inl rfl | exact .inr rfl))) (fun _ _ _ _ _ => pts_one (pt_cmpR (op_neDK (K := K) rfl hr.units) (pe_callC G_first_at (hr.mono (by decide)) passLN (pa_cons (pv 0) (pa_cons (pe_ix (ix_tupK (K := K) rfl) (pe_ix (ix_listK (K := K) rfl) (pv 0) (pv 1) (fun _ _ => rfl)) pe_int (fun _ _ => rfl)) pa_nil))) (pv 1) (nomark _))) (fun _ _ _ _ _ => (pv 1)))))), ?_⟩
  obtain ⟨d, rfl, rfl⟩ := hp
  show Wp K E _ [.va (d), .no] _
  refine wp_seq ?_
  refine wp_exprE (eve_call (ea_cons (ev_var rfl) ea_nil) ⟨d, rfl, rfl⟩) (fun dv hd => ?_) (fun c hc => ?_)
  · skip
    walk_at "nz"
    obtain ⟨ps, rfl, hps⟩ := prog_ok hd
    rw [progE_ok hps]
    have sm := hps.small
    have l16 := hps.1
    walk_at "nz"
    refine wp_ret (d := lN (idleF ps)) ?_ ?_
    · skip
      refine Ev.to (EvN.da (evn_lc (vs := [1]) (ei_rng1 (ev_cb (ea_cons (ev_var rfl) ea_nil) rc_lenL) (by simp <;> omega) (by simp <;> omega)) (by simp <;> omega) _ _ _ (fun x hx => ⟨eg_name, et_test (ev_op (ev_call (ea_cons (ev_var rfl) (ea_cons (ev_op (ev_op (ev_var rfl) (ev_var rfl) (rv_ixLm (atI_rng (1, 1) hx))) ev_int (rv_ixT rfl)) ea_nil)) ⟨ps, _, sm, rfl, rfl⟩) (ev_var rfl) (rv_neD (sh_oN _) (sh_int _))), fun _ => ev_var rfl⟩))) ?_
      show PyData.list _ = PyData.list _
      congr 1
      unfold idleF
      rw [List.length_map]
      have e : (ps.length : Int).toNat = ps.length := by omega
      rw [e]
      refine List.map_congr_left fun x _ => ?_
      rw [Int.zero_add]
    walk_at "nz"
    first | done | rfl
  · skip
    walk_at "nz"
    show progE K _ _ = .error c
    exact prog_xc hc
abbrev s_lean : Stmt := topS 24
abbrev N_lean : List Str := ["program", "out", "place", "fraction"]
theorem sc_lean : FnScope N_lean ["program"] (defScope s_lean) := ⟨rfl, rfl, rfl, by decide +kernel, rfl, by decide +kernel, by decide +kernel⟩
theorem ok_lean (D : Df K mg "lean" s_lean ["program"]) (T : Tx K mg) (G_idle : Ck P w K mg base "idle" 6 ["program"] (spD K (Pr_idle K))) (G_need_program : Ck P w K mg base "need_program" 5 ["program"] (spD K (Pr_need_program K))) : Ck P w K mg base "lean" 7 ["program"] (spD K (Pr_lean K)) := by
  refine ck_mk (k := 6) D sc_lean (fun ds r hp => ?_) fun f cdv A outer s H E ds r hr hp => ?_
  · obtain ⟨d, rfl, rfl⟩ := hp
    rfl
  refine ⟨_, (pss_cons (ps_expr (pe_callC G_need_program (hr.mono (by decide)) (L2N.passes_call (L2N.takes_of rfl rfl rfl rfl) fun _ _ _ _ h => h) (pa_cons (pv 0) pa_nil)))
      (pss_cons (ps_set (i := 1) sc_lean.nd rfl (.inr rfl) (pe_callC G_idle hr (L2N.passes_call (L2N.takes_of rfl rfl rfl rfl) fun _ _ _ _ h => h) (pa_cons (pv 0) pa_nil)))
      (pss_one (ps_ret (pe_lc (own := [("place", 2), ("fraction", 3)]) rfl sc_lean.nd (pi_enumK (K := K) rfl (by rfl) T.n_enumerate (pa_cons (pv 0) pa_nil)) (blkOk_by (own := [("place", 2), ("fraction", 3)]) (N := N_lean) (sc := defScope s_lean) (by decide +kernel)) (fun _ _ _ _ _ => (pg_tupK (K := K) (n := 2) rfl rfl (pgs_cons (pg_name (i := 2) sc_lean.nd rfl (by first | exact .inl rfl | exact .inr rfl)) (pgs_cons (pg_name (i := 3) sc_lean.nd rfl (by first | exact .inl rfl | exact .inr rfl)) pgs_nil)))) (fun _ _ _ _ _ => pts_one (pt_cmpR (op_notInK (K := K) rfl) (pv 2) (pv 1) (by rfl))) (fun _ _ _ _ _ => (pv 3))))))), ?_⟩
  obtain ⟨d, rfl, rfl⟩ := hp
  show Wp K E _ [.va (d), .no, .no, .no] _
  refine wp_seq ?_
  refine wp_exprE (eve_call (ea_cons (ev_var rfl) ea_nil) ⟨d, rfl, rfl⟩) (fun dv hd => ?_) (fun c hc => ?_)
  · skip
    walk_at "nz"
    obtain ⟨ps, rfl, hps⟩ := prog_ok hd
    rw [progE_ok hps]
    have sm := hps.small
    have l16 := hps.1
    walk_at "nz"
    refine wp_seq ?_
    refine wp_setE (i := 1) (eve_call (ea_cons (ev_var rfl) ea_nil) ⟨lP ps, rfl, rfl⟩) (fun dv hd => ?_) (fun c hc => ?_)
    · skip
      walk_at "nz"
      rw [progE_ok hps] at hd
      cases hd
      walk_at "nz"
      refine wp_ret (d := lP (leanF ps)) ?_ ?_
      · skip
        refine Ev.to (EvN.da (evn_lc (vs := [2, 3]) (ei_enumM (ev_var rfl)) (by simp <;> omega) _ _ _ (fun x hx => ⟨eg_tup (egs_cons eg_name (egs_cons eg_name egs_nil)) rfl, et_test (ev_op (ev_var rfl) (ev_var rfl) rv_inN), fun _ => ev_var rfl⟩))) ?_
        show PyData.list _ = PyData.list _
        congr 1
        unfold leanF
        rw [List.map_map]
        rfl
      walk_at "nz"
      first | done | rfl
    · skip
      walk_at "nz"
      rw [progE_ok hps] at hc
      cases hc
  · skip
    walk_at "nz"
    show progE K _ _ = .error c
    exact prog_xc hc
abbrev s__law_cell : Stmt := topS 26
abbrev N__law_cell : List Str := ["_law_script", "_law_k"]
theorem sc__law_cell : FnScope N__law_cell ["_law_script", "_law_k"] (defScope s__law_cell) := ⟨rfl, rfl, rfl, by decide +kernel, rfl, by decide +kernel, by decide +kernel⟩
theorem ok__law_cell (D : Df K mg "_law_cell" s__law_cell ["_law_script", "_law_k"]) (T : Tx K mg) : Ck P w K mg base "_law_cell" 1 ["_law_script", "_law_k"] (spX K (Pr__law_cell K)) := by
  refine ck_mkX (k := 0) D sc__law_cell (fun ns ds r hp => ?_) fun f cdv A outer s H E ns ds r hr hp => ?_
  · obtain ⟨k, hlen, rfl, rfl⟩ := hp
    rfl
  refine ⟨_, (pss_cons (ps_if (pt_cmpR (op_eqDK (K := K) rfl hr.units) (pv 0) (pe_lst pa_nil) (nomark _))
      (pss_one (ps_ret (pe_op op_mulA (pv 1) pe_int)))
      pss_nil)
      (pss_one (ps_ret (pe_op op_add (pe_ix (ix_listK (K := K) rfl) (pv 0) (pe_op op_mod (pv 1) (pe_callB (call_lenK (K := K) rfl) (by rfl) T.n_len bt_len (pa_cons (pv 0) pa_nil))) (fun _ _ => rfl)) (pe_op op_mulA (pe_op op_fdivW (pv 1) (pe_callB (call_lenK (K := K) rfl) (by rfl) T.n_len bt_len (pa_cons (pv 0) pa_nil))) pe_int))))), ?_⟩
  obtain ⟨k, hlen, rfl, rfl⟩ := hp
  show Wp K E _ [.scr ns, .va (nD k)] _
  refine wp_seq ?_
  refine wp_if (et_test (ev_eqScr rfl (EvN.da (evn_lst ea_nil (Nat.le_of_ble_eq_true rfl))))) (fun h0 => ?_) (fun h0 => ?_)
  · skip
    refine wp_ret (ev_op (ev_var rfl) ev_int (rv_I (by walk_at "sd") fun _ => .int _)) ?_
    walk_at "nz"
    have e : ns = [] := of_decide_eq_true h0
    show Except.ok (PyData.int (cellF ns k)) = _
    unfold cellF
    rw [if_pos e]
  · skip
    refine wp_nil ?_
    walk_at "nz"
    have e : ¬ ns = [] := of_decide_eq_false h0
    have hl : 0 < ns.length := by
      cases ns with
      | nil => exact absurd rfl e
      | cons => simp
    have hm : k % ns.length < ns.length := Nat.mod_lt _ hl
    have hix : atI ns ((k : Int) % (ns.length : Int)) = some (ns.getD (k % ns.length) 0) := by
      have := atI_of (xs := ns) (i := (k : Int) % (ns.length : Int)) (by omega) (by omega) 0
      rw [this]
      congr 1
    have hd := cdiv_s (i := (k : Int)) (show (0 : Int) < ns.length by omega) (by omega)
    refine wp_ret (ev_op (ev_ixS rfl (ev_op (ev_var rfl) (ev_lenS rfl) (rv_I (by walk_at "sd") fun _ => .int _)) (by walk_at "ix")) (ev_op (ev_op (ev_var rfl) (ev_lenS rfl) (rv_I (by walk_at "sd") fun _ => .int _)) ev_int (rv_I (by walk_at "sd") fun _ => .int _)) (rv_I0 fun _ => .int _)) ?_
    walk_at "nz"
    show Except.ok (PyData.int (cellF ns k)) = _
    unfold cellF
    rw [if_neg e]
abbrev s__law_step : Stmt := topS 32
abbrev N__law_step : List Str := ["_law_program_here", "_law_number", "_law_place", "_law_top", "_law_under"]
theorem sc__law_step : FnScope N__law_step ["_law_program_here", "_law_number"] (defScope s__law_step) := ⟨rfl, rfl, rfl, by decide +kernel, rfl, by decide +kernel, by decide +kernel⟩
theorem ok__law_step (D : Df K mg "_law_step" s__law_step ["_law_program_here", "_law_number"]) (T : Tx K mg) : Ck P w K mg base "_law_step" 1 ["_law_program_here", "_law_number"] (spD K (Pr__law_step K)) := by
  refine ck_mk (k := 0) D sc__law_step (fun ds r hp => ?_) fun f cdv A outer s H E ds r hr hp => ?_
  · obtain ⟨ps, n, hps, rfl, rfl⟩ := hp
    rfl
  refine ⟨_, (pss_cons (ps_for (passes_of rfl) rfl (pi_enumK (K := K) rfl (by rfl) T.n_enumerate (pa_cons (pv 0) pa_nil)) (pg_tupK (K := K) (n := 2) rfl rfl (pgs_cons (pg_name (i := 2) sc__law_step.nd rfl (.inl rfl)) (pgs_cons (pg_tupK (K := K) (n := 2) rfl rfl (pgs_cons (pg_name (i := 3) sc__law_step.nd rfl (.inl rfl)) (pgs_cons (pg_name (i := 4) sc__law_step.nd rfl (.inl rfl)) pgs_nil))) pgs_nil)))
      (pss_one (ps_if (pt_cmpR op_eq (pe_op op_mod (pe_op op_mulA (pv 1) (pv 3)) (pv 4)) pe_int (nomark _))
      (pss_one (ps_ret (pe_tup (pa_cons (pv 2) (pa_cons (pe_op op_fdivW (pe_op op_mulA (pv 1) (pv 3)) (pv 4)) pa_nil)))))
      pss_nil)))
      (pss_one (ps_ret pe_non))), ?_⟩
  obtain ⟨ps, n, hps, rfl, rfl⟩ := hp
  show Wp K E _ [.va (lP ps), .va (nD n), .no, .no, .no] _
  refine wp_seq ?_
  refine wp_for (vs := [2, 3, 4]) (ei_enumM (ev_var rfl)) (fun i ρ1 => ∃ (s2 s3 s4 : Sl), (∀ j q, j < i → ps[j]? = some q → n * q.1 % q.2 ≠ 0) ∧ ρ1 = [.va (lP ps), .va (nD n), s2, s3, s4]) (⟨_, _, _, fun j q h => absurd h (Nat.not_lt_zero j), rfl⟩) (fun i d ρ1 hd hI => ?_) (fun ρ1 hI => ?_)
  · obtain ⟨s2, s3, s4, hb, rfl⟩ := hI
    obtain ⟨p, hp, rfl⟩ := enum_item hd
    have hp2 := hps p (List.mem_of_getElem? hp)
    refine ⟨_, (eg_tup (egs_cons eg_name (egs_cons (eg_tup (egs_cons eg_name (egs_cons eg_name egs_nil)) rfl) egs_nil)) rfl), ?_⟩
    walk_at "nz"
    refine wp_if (et_test (ev_op (ev_op (ev_op (ev_var rfl) (ev_var rfl) (rv_I (by walk_at "sd") fun _ => .int _)) (ev_var rfl) (rv_I (by walk_at "sd") fun _ => .int _)) ev_int rv_eqI)) (fun h1 => ?_) (fun h1 => ?_)
    · skip
      refine wp_ret (ev_tup (ea_cons (ev_var rfl) (ea_cons (ev_op (ev_op (ev_var rfl) (ev_var rfl) (rv_I (by walk_at "sd") fun _ => .int _)) (ev_var rfl) (rv_I (by walk_at "sd") fun _ => .int _)) ea_nil)) (Nat.le_of_ble_eq_true rfl)) ?_
      walk_at "nz"
      have hz : n * p.1 % p.2 = 0 := by
        have := of_decide_eq_true h1
        have h2 : ((n * p.1 % p.2 : Nat) : Int) = 0 := by simpa using this
        omega
      rw [lstep_some hp hz hb]; rfl
    · skip
      refine wp_nil ?_
      walk_at "nz"
      refine ⟨_, _, _, fun j q hj hq => ?_, rfl⟩
      rcases Nat.lt_succ_iff_lt_or_eq.mp hj with hj | rfl
      · exact hb j q hj hq
      · rw [hp] at hq
        cases hq
        have h := of_decide_eq_false h1
        intro z
        apply h
        have := congrArg (fun k : Nat => (k : Int)) z
        simpa using this
  · obtain ⟨s2, s3, s4, hb, rfl⟩ := hI
    walk_at "nz"
    refine wp_ret ev_non ?_
    walk_at "nz"
    rw [lstep_none (by simpa using hb)]; rfl
abbrev s_need_number : Stmt := topS 10
abbrev N_need_number : List Str := ["number"]
theorem sc_need_number : FnScope N_need_number ["number"] (defScope s_need_number) := ⟨rfl, rfl, rfl, by decide +kernel, rfl, by decide +kernel, by decide +kernel⟩
theorem ok_need_number (D : Df K mg "need_number" s_need_number ["number"]) (T : Tx K mg) (G_is_number : Ck P w K mg base "is_number" 2 ["thing"] (spD K (Pr_is_number K))) : Ck P w K mg base "need_number" 3 ["number"] (spD K (Pr_need_number K)) := by
  refine ck_mk (k := 2) D sc_need_number (fun ds r hp => ?_) fun f cdv A outer s H E ds r hr hp => ?_
  · obtain ⟨d, rfl, rfl⟩ := hp
    rfl
  refine ⟨_, (pss_one (ps_if (pt_not (pt_val (pe_callC G_is_number hr (L2N.passes_call (L2N.takes_of rfl rfl rfl rfl) fun _ _ _ _ h => h) (pa_cons (pv 0) pa_nil))))
      (pss_one (L2N.ps_raise rfl (L2N.takes_of rfl rfl rfl rfl) (L2N.pmk_own PySem.F.excBase_ValueError T.BadNumber.ex T.BadNumber.gl T.BadNumber.kp (raises_own T.BadNumber.sb T.BadNumber.ty) (by rfl))))
      pss_nil)), ?_⟩
  obtain ⟨d, rfl, rfl⟩ := hp
  show Wp K E _ [.va (d)] _
  refine wp_if (et_not (et_B (ev_call (ea_cons (ev_var rfl) ea_nil) (by walk_at "pr")))) (fun h0 => ?_) (fun h0 => ?_)
  · skip
    refine wp_raise ?_
    walk_at "nz"
    rw [Bool.not_eq_true'] at h0
    rw [h0]; rfl
  · skip
    refine wp_nil ?_
    walk_at "nz"
    rw [Bool.not_eq_false'] at h0
    rw [h0]; rfl
abbrev s_look : Stmt := topS 21
abbrev N_look : List Str := ["program", "number"]
theorem sc_look : FnScope N_look ["program", "number"] (defScope s_look) := ⟨rfl, rfl, rfl, by decide +kernel, rfl, by decide +kernel, by decide +kernel⟩
theorem ok_look (D : Df K mg "look" s_look ["program", "number"]) (T : Tx K mg) (G_need_number : Ck P w K mg base "need_number" 3 ["number"] (spD K (Pr_need_number K))) (G_need_program : Ck P w K mg base "need_program" 5 ["program"] (spD K (Pr_need_program K))) : Ck P w K mg base "look" 6 ["program", "number"] (spD K (Pr_look K)) := by
  refine ck_mk (k := 5) D sc_look (fun ds r hp => ?_) fun f cdv A outer s H E ds r hr hp => ?_
  · obtain ⟨d, e, rfl, rfl⟩ := hp
    rfl
  refine ⟨_, (pss_cons (ps_expr (pe_callC G_need_program hr (L2N.passes_call (L2N.takes_of rfl rfl rfl rfl) fun _ _ _ _ h => h) (pa_cons (pv 0) pa_nil)))
      (pss_one (ps_expr (pe_callC G_need_number (hr.mono (by decide)) (L2N.passes_call (L2N.takes_of rfl rfl rfl rfl) fun _ _ _ _ h => h) (pa_cons (pv 1) pa_nil))))), ?_⟩
  obtain ⟨d, e, rfl, rfl⟩ := hp
  show Wp K E _ [.va (d), .va (e)] _
  refine wp_seq ?_
  refine wp_exprE (eve_call (ea_cons (ev_var rfl) ea_nil) (by walk_at "pr")) (fun dv hd => ?_) (fun c hc => ?_)
  · skip
    walk_at "nz"
    have hp : isProgD d = true := by
      cases q : isProgD d with
      | true => rfl
      | false => rw [q] at hd; cases hd
    walk_at "nz"
    refine wp_exprE (eve_call (ea_cons (ev_var rfl) ea_nil) (by walk_at "pr")) (fun dv hd => ?_) (fun c hc => ?_)
    · skip
      walk_at "nz"
      have hn : isNumD e = true := by
        cases q : isNumD e with
        | true => rfl
        | false => rw [q] at hd; cases hd
      walk_at "nz"
      show lookE K d e _ = .ok .none
      unfold lookE progE
      rw [hp, hn]; rfl
    · skip
      walk_at "nz"
      show lookE K d e _ = .error c
      unfold lookE progE
      rw [hp]
      cases q : isNumD e with
      | true => rw [q] at hc; cases hc
      | false => rw [q] at hc; rw [if_pos rfl]; exact hc
  · skip
    walk_at "nz"
    show lookE K d e _ = .error c
    unfold lookE progE
    cases q : isProgD d with
    | true => rw [q] at hc; cases hc
    | false => rw [q] at hc; exact hc
abbrev s_led : Stmt := topS 19
abbrev N_led : List Str := ["program", "number", "place"]
theorem sc_led : FnScope N_led ["program", "number"] (defScope s_led) := ⟨rfl, rfl, rfl, by decide +kernel, rfl, by decide +kernel, by decide +kernel⟩
theorem ok_led (D : Df K mg "led" s_led ["program", "number"]) (T : Tx K mg) (G_first_at : Ck P w K mg base "first_at" 1 ["program", "number"] (spD K (Pr_first_at K))) : Ck P w K mg base "led" 2 ["program", "number"] (spD K (Pr_led K)) := by
  refine ck_mk (k := 1) D sc_led (fun ds r hp => ?_) fun f cdv A outer s H E ds r hr hp => ?_
  · obtain ⟨ps, n, hps, rfl, rfl⟩ := hp
    rfl
  refine ⟨_, (pss_cons (ps_set (i := 2) sc_led.nd rfl (.inl rfl) (pe_callC G_first_at hr (L2N.passes_call (L2N.takes_of rfl rfl rfl rfl) fun _ _ _ _ h => h) (pa_cons (pv 0) (pa_cons (pv 1) pa_nil))))
      (pss_one (ps_ret (pe_ifExp (pt_cmpR op_isN (pv 2) pe_non (nomark _)) pe_non (pe_op op_mulA (pe_op op_fdivW (pv 1) (pe_ix (ix_tupK (K := K) rfl) (pe_ix (ix_listK (K := K) rfl) (pv 0) (pv 2) (fun _ _ => rfl)) pe_int (fun _ _ => rfl))) (pe_ix (ix_tupK (K := K) rfl) (pe_ix (ix_listK (K := K) rfl) (pv 0) (pv 2) (fun _ _ => rfl)) pe_int (fun _ _ => rfl))))))), ?_⟩
  obtain ⟨ps, n, hps, rfl, rfl⟩ := hp
  show Wp K E _ [.va (lP ps), .va (nD n), .no] _
  refine wp_seq ?_
  refine wp_set (i := 2) (ev_call (ea_cons (ev_var rfl) (ea_cons (ev_var rfl) ea_nil)) ⟨ps, n, hps, rfl, rfl⟩) ?_
  walk_at "nz"
  refine wp_ret (d := oN (ledF ps n)) ?_ ?_
  · skip
    cases e : firstAt ps n with
    | none =>
      have e2 : ledF ps n = none := by unfold ledF; rw [e]; rfl
      rw [e2]
      exact ev_if (b := true) (et_test (ev_op (ev_var rfl) ev_non rv_isN)) (fun _ => ev_non) (fun z => nomatch z) (y := .none)
    | some i =>
      have e2 : ledF ps n = some (n / (fr ps i).2 * (fr ps i).1) := by unfold ledF; rw [e]; rfl
      rw [e2]
      obtain ⟨hp, hi, _⟩ := firstAt_spec e
      obtain ⟨g1, g2, g3, g4⟩ := hps _ (List.mem_of_getElem? hp)
      have ix : atI ps (i : Int) = some (fr ps i) := atI_nat hp
      refine (ev_if (b := false) (x := .none) (et_test (ev_op (ev_var rfl) ev_non rv_isN)) (fun z => nomatch z) (fun _ => ev_op (ev_op (ev_var rfl) (ev_op (ev_op (ev_var rfl) (ev_var rfl) (rv_ixLm ix)) ev_int (rv_ixT rfl)) (rv_I (cdiv_s (by omega) (by omega)) fun _ => .int _)) (ev_op (ev_op (ev_var rfl) (ev_var rfl) (rv_ixLm ix)) ev_int (rv_ixT rfl)) (rv_I (cmul_r (by omega) (by omega)) fun _ => .int _))).to ?_
      show PyData.int _ = PyData.int _
      congr 1
  walk_at "nz"
  first | done | rfl
abbrev s_need_room : Stmt := topS 20
abbrev N_need_room : List Str := ["number"]
theorem sc_need_room : FnScope N_need_room ["number"] (defScope s_need_room) := ⟨rfl, rfl, rfl, by decide +kernel, rfl, by decide +kernel, by decide +kernel⟩
theorem ok_need_room (D : Df K mg "need_room" s_need_room ["number"]) (T : Tx K mg) (G_parted : Ck P w K mg base "parted" 1 ["number"] (spD K (Pr_parted K))) : Ck P w K mg base "need_room" 2 ["number"] (spD K (Pr_need_room K)) := by
  refine ck_mk (k := 1) D sc_need_room (fun ds r hp => ?_) fun f cdv A outer s H E ds r hr hp => ?_
  · obtain ⟨n, hn, rfl, rfl⟩ := hp
    rfl
  refine ⟨_, (pss_one (ps_if (PW.pt (pw_and (pt_cmpR op_gt (pe_op op_fdivW (pe_op op_fdivW (pv 0) (pe_op op_pow pe_int pe_int)) (pe_op op_pow pe_int pe_int)) pe_int (nomark _)) (pw_and1 (pt_cmpR op_gt (pe_callB (cr_maxTK (K := K) rfl rfl) (by rfl) T.n_max bt_max (pa_cons (pe_ix (ix_tupK (K := K) rfl) (pe_callC G_parted hr (L2N.passes_call (L2N.takes_of rfl rfl rfl rfl) fun _ _ _ _ h => h) (pa_cons (pv 0) pa_nil)) pe_int (fun _ _ => rfl)) pa_nil)) (pe_globI T.MOST_ROOM) (nomark _)))))
      (pss_one (L2N.ps_raise rfl (L2N.takes_of rfl rfl rfl rfl) (L2N.pmk_own PySem.F.excBase_ValueError T.TooGreat.ex T.TooGreat.gl T.TooGreat.kp (raises_own T.TooGreat.sb T.TooGreat.ty) (by rfl))))
      pss_nil)), ?_⟩
  obtain ⟨n, hn, rfl, rfl⟩ := hp
  show Wp K E _ [.va (nD n)] _
  refine wp_if (b := tooB n) ?_ (fun h0 => ?_) (fun h0 => ?_)
  · skip
    exact et_and (et_test (ev_op (ev_op (ev_op (ev_var rfl) (ev_op ev_int ev_int (rv_I (by walk_at "sd") fun _ => .int _)) (rv_I (by walk_at "sd") fun _ => .int _)) (ev_op ev_int ev_int (rv_I (by walk_at "sd") fun _ => .int _)) (rv_I (by walk_at "sd") fun _ => .int _)) ev_int (rv_I0 fun _ => .bl _))) fun _ =>
      et_test (ev_op (ev_cb (ea_cons (ev_op (ev_call (ea_cons (ev_var rfl) ea_nil) ⟨n, hn, rfl, rfl⟩) ev_int (rv_ixT rfl)) ea_nil) (rc_maxTM (by rw [rooms_len]; decide))) ev_int (rv_I0 fun _ => .bl _))
  · skip
    refine wp_raise ?_
    walk_at "nz"
    rw [h0]; rfl
  · skip
    refine wp_nil ?_
    walk_at "nz"
    rw [h0]; rfl
abbrev s_step : Stmt := topS 22
abbrev N_step : List Str := ["program", "number", "found"]
theorem sc_step : FnScope N_step ["program", "number"] (defScope s_step) := ⟨rfl, rfl, rfl, by decide +kernel, rfl, by decide +kernel, by decide +kernel⟩
theorem ok_step (D : Df K mg "step" s_step ["program", "number"]) (T : Tx K mg) (G_led : Ck P w K mg base "led" 2 ["program", "number"] (spD K (Pr_led K))) (G_look : Ck P w K mg base "look" 6 ["program", "number"] (spD K (Pr_look K))) (G_need_room : Ck P w K mg base "need_room" 2 ["number"] (spD K (Pr_need_room K))) : Ck P w K mg base "step" 7 ["program", "number"] (spD K (Pr_step K)) := by
  refine ck_mk (k := 6) D sc_step (fun ds r hp => ?_) fun f cdv A outer s H E ds r hr hp => ?_
  · obtain ⟨d, e, rfl, rfl⟩ := hp
    rfl
  refine ⟨_, (pss_cons (ps_expr (pe_callC G_look hr (L2N.passes_call (L2N.takes_of rfl rfl rfl rfl) fun _ _ _ _ h => h) (pa_cons (pv 0) (pa_cons (pv 1) pa_nil))))
      (pss_cons (ps_set (i := 2) sc_step.nd rfl (.inl rfl) (pe_callC G_led (hr.mono (by decide)) (L2N.passes_call (L2N.takes_of rfl rfl rfl rfl) fun _ _ _ _ h => h) (pa_cons (pv 0) (pa_cons (pv 1) pa_nil))))
      (pss_cons (ps_if (pt_cmpR op_notN (pv 2) pe_non (nomark _))
      (pss_one (ps_expr (pe_callC G_need_room (hr.mono (by decide)) (L2N.passes_call (L2N.takes_of rfl rfl rfl rfl) fun _ _ _ _ h => h) (pa_cons (pv 2) pa_nil))))
      pss_nil)
      (pss_one (ps_ret (pv 2)))))), ?_⟩
  obtain ⟨d, e, rfl, rfl⟩ := hp
  show Wp K E _ [.va (d), .va (e), .no] _
  refine wp_seq ?_
  refine wp_exprE (eve_call (ea_cons (ev_var rfl) (ea_cons (ev_var rfl) ea_nil)) ⟨d, e, rfl, rfl⟩) (fun dv hd => ?_) (fun c hc => ?_)
  · skip
    walk_at "nz"
    obtain ⟨ps, n, rfl, rfl, hps, hn⟩ := look_ok hd
    rw [lookE_ok hps hn]
    have sm := hps.small
    walk_at "nz"
    refine wp_seq ?_
    refine wp_set (i := 2) (ev_call (ea_cons (ev_var rfl) (ea_cons (ev_var rfl) ea_nil)) ⟨ps, n, sm, rfl, rfl⟩) ?_
    walk_at "nz"
    refine wp_seq ?_
    refine wp_if (et_test (ev_op (ev_var rfl) ev_non rv_notN)) (fun h2 => ?_) (fun h2 => ?_)
    · skip
      obtain ⟨m, em⟩ : ∃ m, ledF ps n = some m := by
        cases q : ledF ps n with
        | some m => exact ⟨m, rfl⟩
        | none => rw [q] at h2; cases h2
      have hm0 : 0 < m := led_pos hps hn em
      rw [em]
      refine wp_exprE (eve_call (ea_cons (ev_var rfl) ea_nil) ⟨m, hm0, rfl, rfl⟩) (fun dv hd => ?_) (fun c hc => ?_)
      · skip
        walk_at "nz"
        have ht : tooB m = false := by
          cases q : tooB m with
          | false => rfl
          | true => rw [q] at hd; cases hd
        walk_at "nz"
        refine wp_ret (ev_var rfl) ?_
        walk_at "nz"
        first | (show stepE K ps n = .ok (oN (some m)); unfold stepE; rw [em]; show (if tooB m then _ else _) = _; rw [ht]; rfl) | (show stepE K ps n = .ok (oN (ledF ps n)); unfold stepE; rw [em]; rfl)
      · skip
        walk_at "nz"
        show stepE K ps n = .error c
        unfold stepE
        rw [em]
        show (if tooB m then _ else _) = _
        cases q : tooB m with
        | false => rw [q] at hc; cases hc
        | true => rw [q] at hc; exact hc
    · skip
      have em : ledF ps n = none := by
        cases q : ledF ps n with
        | none => rfl
        | some m => rw [q] at h2; cases h2
      refine wp_nil ?_
      walk_at "nz"
      refine wp_ret (ev_var rfl) ?_
      walk_at "nz"
      first | (show stepE K ps n = .ok (oN (some m)); unfold stepE; rw [em]; show (if tooB m then _ else _) = _; rw [ht]; rfl) | (show stepE K ps n = .ok (oN (ledF ps n)); unfold stepE; rw [em]; rfl)
  · skip
    walk_at "nz"
    show lookE K _ _ _ = .error c
    exact look_xc hc
abbrev s_law : Stmt := topS 33
abbrev N_law : List Str := ["_law_script", "_law_k", "_law_more", "_law_program_here", "_law_top", "_law_under", "_law_due", "_law_place", "_law_one", "_law_rest", "_law_kept", "_law_j", "_law_number", "_law_first"]
theorem sc_law : FnScope N_law ["_law_script"] (defScope s_law) := ⟨rfl, rfl, rfl, by decide +kernel, rfl, by decide +kernel, by decide +kernel⟩
theorem ok_law (T : Tx K mg) (G__law_cell : Ck P w K mg base "_law_cell" 1 ["_law_script", "_law_k"] (spX K (Pr__law_cell K))) (G__law_drawn : Ck P w K mg base "_law_drawn" 1 ["_law_cell_here", "_law_k"] (spD K (Pr__law_drawn K))) (G__law_program : Ck P w K mg base "_law_program" 4 ["_law_more", "_law_primes_here"] (spD K (Pr__law_program K))) (G__law_some : Ck P w K mg base "_law_some" 2 ["_law_more", "_law_primes_here", "_law_most"] (spD K (Pr__law_some K))) (G__law_step : Ck P w K mg base "_law_step" 1 ["_law_program_here", "_law_number"] (spD K (Pr__law_step K))) (G_idle : Ck P w K mg base "idle" 6 ["program"] (spD K (Pr_idle K))) (G_lean : Ck P w K mg base "lean" 7 ["program"] (spD K (Pr_lean K))) (G_step : Ck P w K mg base "step" 7 ["program", "number"] (spD K (Pr_step K))) {f : Addr} {fd : FuncData} (F : Fun K "law" "law" s_law f fd) : FnOk P w K mg base (L2N.CX P w) 8 f fd ["_law_script"] (spX K (Pr_law K)) := by
  refine fn_mkX (k := 7) F sc_law (fun ns ds r hp => ?_) fun cdv A outer s H E ns ds r hr hp => ?_
  · obtain ⟨hlen, rfl, rfl⟩ := hp
    rfl
  refine ⟨_, (pss_cons (ps_for (passes_of rfl) rfl (pi_range1 (by rfl) T.n_range (pa_cons (pe_callB (call_max2 rfl) (by rfl) T.n_max bt_max (pa_cons pe_int (pa_cons (pe_callB (call_min2 rfl) (by rfl) T.n_min bt_min (pa_cons pe_int (pa_cons (pe_callB (call_lenK (K := K) rfl) (by rfl) T.n_len bt_len (pa_cons (pv 0) pa_nil)) pa_nil))) pa_nil))) pa_nil)) (pg_name (i := 1) sc_law.nd rfl (.inl rfl))
      (pss_cons (ps_set (i := 2) sc_law.nd rfl (.inl rfl) (pe_callC G__law_drawn (hr.mono (by decide)) (L2N.passes_call (L2N.takes_of rfl rfl rfl rfl) fun _ _ _ _ h => h) (pa_cons (pe_callC G__law_cell (hr.mono (by decide)) (L2N.passes_call (L2N.takes_of rfl rfl rfl rfl) fun _ _ _ _ h => h) (pa_cons (pv 0) (pa_cons (pv 1) pa_nil))) (pa_cons (pv 1) pa_nil))))
      (pss_cons (ps_set (i := 3) sc_law.nd rfl (.inl rfl) (pe_callC G__law_program (hr.mono (by decide)) (L2N.passes_call (L2N.takes_of rfl rfl rfl rfl) fun _ _ _ _ h => h) (pa_cons (pe_op op_fdivW (pv 2) pe_int) (pa_cons (pe_op op_add pe_int (pe_op op_mod (pv 2) pe_int)) pa_nil))))
      (pss_cons (ps_if (PW.pt (pw_and (pt_cmpR (op_neDK (K := K) rfl hr.units) (pv 3) (pe_lst pa_nil) (nomark _)) (pw_and1 (pt_cmpR op_eq (pe_op op_mod (pe_op op_fdivW (pv 2) pe_int) pe_int) pe_int (nomark _)))))
      (pss_cons (ps_asg (pe_ix (ix_listK (K := K) rfl) (pv 3) pe_int (fun _ _ => rfl)) (pg_tupK (K := K) (n := 2) rfl rfl (pgs_cons (pg_name (i := 4) sc_law.nd rfl (.inl rfl)) (pgs_cons (pg_name (i := 5) sc_law.nd rfl (.inr rfl)) pgs_nil))))
      (pss_one (ps_set (i := 3) sc_law.nd rfl (.inl rfl) (pe_op op_cat (pv 3) (pe_lst (pa_cons (pe_ifExp (pt_cmpR op_ne (pe_op op_mod (pv 4) pe_int) pe_int (nomark _)) (pe_tup (pa_cons pe_int (pa_cons (pe_op op_mulA (pv 5) pe_int) pa_nil))) (pe_tup (pa_cons pe_int (pa_cons (pv 5) pa_nil)))) pa_nil))))))
      pss_nil)
      (pss_cons (ps_set (i := 6) sc_law.nd rfl (.inr rfl) (pe_lst pa_nil))
      (pss_cons (ps_for (passes_of rfl) rfl (pi_enumK (K := K) rfl (by rfl) T.n_enumerate (pa_cons (pv 3) pa_nil)) (pg_tupK (K := K) (n := 2) rfl rfl (pgs_cons (pg_name (i := 7) sc_law.nd rfl (.inl rfl)) (pgs_cons (pg_tupK (K := K) (n := 2) rfl rfl (pgs_cons (pg_name (i := 4) sc_law.nd rfl (.inl rfl)) (pgs_cons (pg_name (i := 5) sc_law.nd rfl (.inr rfl)) pgs_nil))) pgs_nil)))
      (pss_one (ps_if (pt_cmpR (op_neDK (K := K) rfl hr.units) (pe_lc (own := [("_law_one", 8)]) rfl sc_law.nd (pi_listK (K := K) rfl (pe_slice (sl_listK (K := K) rfl) (pv 3) po_none (po_some (pv 7)))) (blkOk_by (own := [("_law_one", 8)]) (N := N_law) (sc := defScope s_law) (by decide +kernel)) (fun _ _ _ _ _ => (pg_name (i := 8) sc_law.nd rfl (by first | exact .inl rfl | exact .inr rfl))) (fun _ _ _ _ _ => pts_one (pt_cmpR op_eq (pe_op op_mod (pv 5) (pe_ix (ix_tupK (K := K) rfl) (pv 8) pe_int (fun _ _ => rfl))) pe_int (nomark _))) (fun _ _ _ _ _ => pe_int)) (pe_lst pa_nil) (nomark _))
      (pss_one (ps_expr (pe_bm PySem.F.plainAttrs_list PySem.F.slot_list_append PySem.F.type_list_append mt_append (pv 6) (pa_cons (pv 7) pa_nil))))
      pss_nil)))
      (pss_cons (ps_if (pt_cmpR (op_neDK (K := K) rfl hr.units) (pe_callC G_idle (hr.mono (by decide)) (L2N.passes_call (L2N.takes_of rfl rfl rfl rfl) fun _ _ _ _ h => h) (pa_cons (pv 3) pa_nil)) (pv 6) (nomark _))
      (pss_one (ps_ret pe_bl))
      pss_nil)
      (pss_cons (ps_set (i := 9) sc_law.nd rfl (.inl rfl) (pe_callC G_lean hr (L2N.passes_call (L2N.takes_of rfl rfl rfl rfl) fun _ _ _ _ h => h) (pa_cons (pv 3) pa_nil)))
      (pss_cons (ps_setLc (i := 10) (own := [("_law_place", 7), ("_law_one", 8)]) rfl sc_law.nd rfl rfl (sw_true rfl rfl rfl (by decide +kernel)) (pi_enumK (K := K) rfl (by rfl) T.n_enumerate (pa_cons (pv 3) pa_nil)) (blkOk_by (own := [("_law_place", 7), ("_law_one", 8)]) (N := N_law) (sc := defScope s_law) (by decide +kernel)) (fun _ _ _ _ _ => (pg_tupK (K := K) (n := 2) rfl rfl (pgs_cons (pg_name (i := 7) sc_law.nd rfl (by first | exact .inl rfl | exact .inr rfl)) (pgs_cons (pg_name (i := 8) sc_law.nd rfl (by first | exact .inl rfl | exact .inr rfl)) pgs_nil)))) (fun _ _ _ _ _ => pts_one (pt_cmpR (op_notInK (K := K) rfl) (pv 7) (pv 6) (by rfl))) (fun _ _ _ _ _ => (pv 8)))
      (pss_cons (ps_if (PW.pt (pw_or (pt_cmpR (op_neDK (K := K) rfl hr.units) (pv 9) (pv 10) (nomark _)) (pw_or1 (pt_cmpR (op_neDK (K := K) rfl hr.units) (pe_callC G_idle (hr.mono (by decide)) (L2N.passes_call (L2N.takes_of rfl rfl rfl rfl) fun _ _ _ _ h => h) (pa_cons (pv 9) pa_nil)) (pe_lst pa_nil) (nomark _)))))
      (pss_one (ps_ret pe_bl))
      pss_nil)
      (pss_cons (ps_for (passes_of rfl) rfl (pi_range1 (by rfl) T.n_range (pa_cons pe_int pa_nil)) (pg_name (i := 11) sc_law.nd rfl (.inl rfl))
      (pss_cons (ps_set (i := 12) sc_law.nd rfl (.inl rfl) (pe_callC G__law_some (hr.mono (by decide)) (L2N.passes_call (L2N.takes_of rfl rfl rfl rfl) fun _ _ _ _ h => h) (pa_cons (pe_callC G__law_drawn (hr.mono (by decide)) (L2N.passes_call (L2N.takes_of rfl rfl rfl rfl) fun _ _ _ _ h => h) (pa_cons (pv 2) (pa_cons (pe_op op_add pe_int (pv 11)) pa_nil))) (pa_cons pe_int (pa_cons pe_int pa_nil)))))
      (pss_cons (ps_set (i := 8) sc_law.nd rfl (.inl rfl) (pe_callC G__law_step (hr.mono (by decide)) (L2N.passes_call (L2N.takes_of rfl rfl rfl rfl) fun _ _ _ _ h => h) (pa_cons (pv 3) (pa_cons (pv 12) pa_nil))))
      (pss_one (ps_if (pt_cmpR (op_neDK (K := K) rfl hr.units) (pe_callC G_step hr (L2N.passes_call (L2N.takes_of rfl rfl rfl rfl) fun _ _ _ _ h => h) (pa_cons (pv 9) (pa_cons (pv 12) pa_nil))) (pe_ifExp (pt_cmpR op_isN (pv 8) pe_non (nomark _)) pe_non (pe_ix (ix_tupK (K := K) rfl) (pv 8) pe_int (fun _ _ => rfl))) (nomark _))
      (pss_one (ps_ret pe_bl))
      pss_nil)))))
      (pss_one (ps_for (passes_of rfl) rfl (pi_enumK (K := K) rfl (by rfl) T.n_enumerate (pa_cons (pv 3) pa_nil)) (pg_tupK (K := K) (n := 2) rfl rfl (pgs_cons (pg_name (i := 7) sc_law.nd rfl (.inl rfl)) (pgs_cons (pg_tupK (K := K) (n := 2) rfl rfl (pgs_cons (pg_name (i := 4) sc_law.nd rfl (.inl rfl)) (pgs_cons (pg_name (i := 5) sc_law.nd rfl (.inr rfl)) pgs_nil))) pgs_nil)))
      (pss_cons (ps_set (i := 13) sc_law.nd rfl (.inl rfl) (pe_ix (ix_tupK (K := K) rfl) (pe_callC G__law_step (hr.mono (by decide)) (L2N.passes_call (L2N.takes_of rfl rfl rfl rfl) fun _ _ _ _ h => h) (pa_cons (pv 3) (pa_cons (pv 5) pa_nil))) pe_int (fun _ _ => rfl)))
      (pss_one (ps_if (pt_cmpR op_ne (pe_cmpR op_ne (pv 13) (pv 7) (nomark _)) (pe_cmpR (op_inK (K := K) rfl) (pv 7) (pv 6) (by rfl)) (nomark _))
      (pss_one (ps_ret pe_bl))
      pss_nil))))))))))))))))
      (pss_one (ps_ret pe_bl))), ?_⟩
  obtain ⟨hlen, rfl, rfl⟩ := hp
  show Wp K E _ [.scr ns, .no, .no, .no, .no, .no, .no, .no, .no, .no, .no, .no, .no, .no] _
  refine wp_seq ?_
  refine wp_for (vs := [1]) (ei_rng1 (ev_cb (ea_cons ev_int (ea_cons (ev_cb (ea_cons ev_int (ea_cons (ev_lenS rfl) ea_nil)) rc_min2) ea_nil)) rc_max2) (by walk_at "sd") (by walk_at "sd")) (fun i ρ1 => ∃ (s1 s2 s3 s4 s5 s6 s7 s8 s9 s10 s11 s12 s13 : Sl), ρ1 = [.scr ns, s1, s2, s3, s4, s5, s6, s7, s8, s9, s10, s11, s12, s13]) (⟨_, _, _, _, _, _, _, _, _, _, _, _, _, rfl⟩) (fun i d ρ1 hd hI => ?_) (fun ρ1 hI => ?_)
  · obtain ⟨s1, s2, s3, s4, s5, s6, s7, s8, s9, s10, s11, s12, s13, rfl⟩ := hI
    obtain ⟨hi, e⟩ := rng_item hd
    rw [Int.zero_add] at e
    subst e
    clear hd
    obtain ⟨k, rfl⟩ : ∃ k, k = i := ⟨i, rfl⟩
    refine ⟨_, eg_name, ?_⟩
    walk_at "nz"
    refine wp_seq ?_
    refine wp_set (i := 2) (ev_call (ea_cons (ev_callX rfl (ea_cons (ev_var rfl) ea_nil) ⟨k, by omega, rfl, rfl⟩) (ea_cons (ev_var rfl) ea_nil)) ⟨cellF ns k, (k : Int), rfl, rfl⟩) ?_
    walk_at "nz"
    generalize drawn (cellF ns k) (k : Int) = m
    obtain ⟨q, hq⟩ : ∃ q : Nat, (q : Int) = 2 + m % 3 := ⟨(2 + m % 3).toNat, by omega⟩
    refine wp_seq ?_
    refine wp_set (i := 3) (ev_call (ea_cons (ev_op (ev_var rfl) ev_int (rv_I (by walk_at "sd") fun _ => .int _)) (ea_cons (ev_op ev_int (ev_op (ev_var rfl) ev_int (rv_I (by walk_at "sd") fun _ => .int _)) (rv_I0 fun _ => .int _)) ea_nil)) ⟨m / 64, q, by omega, by omega, by show [PyData.int _, PyData.int _] = [PyData.int _, PyData.int _]; rw [hq], rfl⟩) ?_
    walk_at "nz"
    have hps := progF_isProg (m / 64) (q := q) (by omega) (by omega)
    have hlow := progF_low (m / 64) (q := q) (by omega) (by omega)
    have hl6 := progF_len (m / 64) q
    generalize progF (m / 64) q = ps at hps hlow hl6 ⊢
    refine wp_seq ?_
    refine Wp.imp (P := (fun o => ∃ (ps : List (Nat × Nat)) (s4 s5 s6 s7 s8 s9 s10 s11 s12 s13 : Sl), IsProg ps ∧ o = .nx [.scr ns, .va (nD k), .va (.int m), .va (lP ps), s4, s5, s6, s7, s8, s9, s10, s11, s12, s13])) ?_ ?_
    · skip
      refine wp_if (et_and (et_test (ev_op (ev_var rfl) (EvN.da (evn_lst ea_nil (Nat.le_of_ble_eq_true rfl))) (rv_neD (by walk_at "sh") (by walk_at "sh")))) fun _ => (et_test (ev_op (ev_op (ev_op (ev_var rfl) ev_int (rv_I (by walk_at "sd") fun _ => .int _)) ev_int (rv_I (by walk_at "sd") fun _ => .int _)) ev_int rv_eqI))) (fun h3 => ?_) (fun h3 => ?_)
      · skip
        simp only [Bool.and_eq_true, Bool.not_eq_true'] at h3
        have hne : ps ≠ [] := fun z => by
          have := h3.1
          rw [z] at this
          exact absurd this (by decide)
        obtain ⟨p, l, rfl⟩ := List.exists_cons_of_ne_nil hne
        have hix : atI (p :: l) 0 = some p := atI_of (xs := p :: l) (i := 0) (by decide) (by rw [List.length_cons]; omega) (1, 1)
        obtain ⟨lo1, lo2, hs⟩ := hlow p (by simp)
        have lo3 : p.2 ≤ 50653 := lo2
        have hlen2 : l.length ≤ 5 := by
          have := hl6
          rw [List.length_cons] at this
          omega
        refine wp_seq ?_
        refine wp_asg (vs := [4, 5]) (ev_op (ev_var rfl) ev_int (rv_ixLm (by walk_at "ix"))) (eg_tup (egs_cons eg_name (egs_cons eg_name egs_nil)) rfl) ?_
        walk_at "nz"
        refine wp_set (i := 3) (EvN.da (evn_op (ev_var rfl) (EvN.da (evn_lst (ea_cons (ev_if (et_test (ev_op (ev_op (ev_var rfl) ev_int (rv_I (by walk_at "sd") fun _ => .int _)) ev_int rv_neI)) (fun _ => (ev_tup (ea_cons ev_int (ea_cons (ev_op (ev_var rfl) ev_int (rv_I (by walk_at "sd") fun _ => .int _)) ea_nil)) (Nat.le_of_ble_eq_true rfl))) (fun _ => (ev_tup (ea_cons ev_int (ea_cons (ev_var rfl) ea_nil)) (Nat.le_of_ble_eq_true rfl)))) ea_nil) (Nat.le_of_ble_eq_true rfl))) (rvn_cat (by walk_at "sz")))) ?_
        walk_at "nz"
        refine ⟨(p :: l) ++ [(1, if (!decide ((p.1 : Int) % 2 = 0)) = true then p.2 * 2 else p.2)], .va (nD p.1), .va (nD p.2), s6, s7, s8, s9, s10, s11, s12, s13, hps.more (by rw [List.length_cons]; omega) (by split; exact hs.mul (smooth_prime (by decide)); exact hs) (by split <;> omega), ?_⟩
        split <;> simp [nD, prD]
      · skip
        refine wp_nil ?_
        walk_at "nz"
        exact ⟨ps, _, _, _, _, _, _, _, _, _, _, hps, rfl⟩
    · rintro _ ⟨ps, s4, s5, s6, s7, s8, s9, s10, s11, s12, s13, hps, rfl⟩
      walk_at "nz"
      refine wp_seq ?_
      refine wp_setN (i := 6) (evn_lst ea_nil (Nat.le_of_ble_eq_true rfl)) ?_
      walk_at "nz"
      have l16 := hps.1
      refine wp_seq ?_
      refine wp_for (vs := [7, 4, 5]) (ei_enumM (ev_var rfl)) (fun i ρ1 => ∃ (s4 s5 s7 s8 s9 s10 s11 s12 s13 : Sl), ρ1 = [.scr ns, .va (nD k), .va (.int m), .va (lP ps), s4, s5, .own (((List.range i).filter fun x => decide (Idle ps x)).map fun k : Nat => PyData.int (k : Int)), s7, s8, s9, s10, s11, s12, s13]) (⟨_, _, _, _, _, _, _, _, _, rfl⟩) (fun i d ρ1 hd hI => ?_) (fun ρ1 hI => ?_)
      · obtain ⟨s4, s5, s7, s8, s9, s10, s11, s12, s13, rfl⟩ := hI
        obtain ⟨p, hp, rfl⟩ := enum_item hd
        have hi := (List.getElem?_eq_some_iff.mp hp).1
        have hsz : (((List.range i).filter fun x => decide (Idle ps x)).map fun k : Nat => PyData.int (k : Int)).length ≤ 1000000 := by
          rw [List.length_map]
          refine Nat.le_trans (List.length_filter_le _ _) ?_
          rw [List.length_range]
          omega
        refine ⟨_, (eg_tup (egs_cons eg_name (egs_cons (eg_tup (egs_cons eg_name (egs_cons eg_name egs_nil)) rfl) egs_nil)) rfl), ?_⟩
        walk_at "nz"
        refine wp_if (b := decide (Idle ps i)) ?_ (fun h8 => ?_) (fun h8 => ?_)
        · skip
          refine EvT.to (et_test (ev_op (EvN.da (evn_lc (vs := [8]) (xs := ps.take i) (enc := prD) ?_ ?_ (fun o : Nat × Nat => decide ((p.2 : Int) % (o.2 : Int) = 0)) (fun _ => PyData.int 1) _ (fun x hx => ⟨eg_name, et_test (ev_op (ev_op (ev_var rfl) (ev_op (ev_var rfl) ev_int (rv_ixT rfl)) (rv_I ?_ fun _ => .int _)) ev_int rv_eqI), fun _ => ev_int⟩))) (EvN.da (evn_lst ea_nil (Nat.le_of_ble_eq_true rfl))) (rv_neD ?_ rfl))) ?_
          · rw [← cut_takeN ps prD i]
            exact ei_list (EvN.da (evn_sl (ev_var rfl) eo_none (eo_some (ev_var rfl))))
          · rw [List.length_take]; omega
          · have := (hps.small x (List.mem_of_mem_take hx)).2.2.1
            omega
          · exact sh_ones _
          · rw [eqv_ones]
            exact idle_ones hp
        · skip
          refine wp_app (i := 6) rfl (ev_var rfl) (by walk_at "sz") ?_
          walk_at "nz"
          have e : ((List.range (i + 1)).filter fun x => decide (Idle ps x)).map (fun k : Nat => PyData.int (k : Int)) = ((List.range i).filter fun x => decide (Idle ps x)).map (fun k : Nat => PyData.int (k : Int)) ++ (if decide (Idle ps i) = true then [PyData.int (i : Int)] else []) := by
            rw [List.range_succ, List.filter_append, List.map_append, List.filter_cons, List.filter_nil]
            cases decide (Idle ps i) <;> rfl
          rw [h8] at e
          first | rw [if_pos rfl] at e | rw [if_neg Bool.false_ne_true, List.append_nil] at e
          rw [e]
          exact ⟨_, _, _, _, _, _, _, _, _, rfl⟩
        · skip
          refine wp_nil ?_
          walk_at "nz"
          have e : ((List.range (i + 1)).filter fun x => decide (Idle ps x)).map (fun k : Nat => PyData.int (k : Int)) = ((List.range i).filter fun x => decide (Idle ps x)).map (fun k : Nat => PyData.int (k : Int)) ++ (if decide (Idle ps i) = true then [PyData.int (i : Int)] else []) := by
            rw [List.range_succ, List.filter_append, List.map_append, List.filter_cons, List.filter_nil]
            cases decide (Idle ps i) <;> rfl
          rw [h8] at e
          first | rw [if_pos rfl] at e | rw [if_neg Bool.false_ne_true, List.append_nil] at e
          rw [e]
          exact ⟨_, _, _, _, _, _, _, _, _, rfl⟩
      · obtain ⟨s4, s5, s7, s8, s9, s10, s11, s12, s13, rfl⟩ := hI
        walk_at "nz"
        rw [List.length_map, List.length_zipIdx, ← idleF_eq]
        refine wp_frz (i := 6) rfl ?_
        walk_at "nz"
        refine wp_seq ?_
        refine wp_if (b := false) ?_ (fun h10 => ?_) (fun h10 => ?_)
        · skip
          refine EvT.to (et_test (ev_op (ev_call (ea_cons (ev_var rfl) ea_nil) ⟨lP ps, rfl, by rw [progE_ok hps]⟩) (ev_var rfl) (rv_neD (sh_lN _) (sh_lN _)))) ?_
          rw [eqv_lN]; simp
        · skip
          exact nomatch h10
        · skip
          refine wp_nil ?_
          walk_at "nz"
          refine wp_seq ?_
          refine wp_set (i := 9) (ev_call (ea_cons (ev_var rfl) ea_nil) ⟨lP ps, rfl, by rw [progE_ok hps]⟩) ?_
          walk_at "nz"
          refine wp_seq ?_
          refine wp_set (i := 10) (d := lP (leanF ps)) ?_ ?_
          · skip
            refine Ev.to (EvN.da (evn_lc (vs := [7, 8]) (ei_enumM (ev_var rfl)) (by simp <;> omega) _ _ _ (fun x hx => ⟨eg_tup (egs_cons eg_name (egs_cons eg_name egs_nil)) rfl, et_test (ev_op (ev_var rfl) (ev_var rfl) rv_inN), fun _ => ev_var rfl⟩))) ?_
            show PyData.list _ = PyData.list _
            congr 1
            unfold leanF
            rw [List.map_map]
            rfl
          walk_at "nz"
          refine wp_seq ?_
          refine wp_if (b := false) ?_ (fun h14 => ?_) (fun h14 => ?_)
          · skip
            exact et_or (a := false) (b := false) (EvT.to (et_test (ev_op (ev_var rfl) (ev_var rfl) (rv_neD (sh_lP _) (sh_lP _)))) (by rw [eqv_lP]; simp)) fun _ => EvT.to (et_test (ev_op (ev_call (ea_cons (ev_var rfl) ea_nil) ⟨lP (leanF ps), rfl, by rw [progE_ok hps.lean]⟩) (EvN.da (evn_lst ea_nil (Nat.le_of_ble_eq_true rfl))) (rv_neD (sh_lN _) rfl))) (by rw [idle_lean]; rfl)
          · skip
            exact nomatch h14
          · skip
            refine wp_nil ?_
            walk_at "nz"
            refine wp_seq ?_
            refine wp_for (vs := [11]) (ei_rng1 ev_int (by walk_at "sd") (by walk_at "sd")) (fun i ρ1 => ∃ (s4 s5 s7 s8 s11 s12 s13 : Sl), ρ1 = [.scr ns, .va (nD k), .va (.int m), .va (lP ps), s4, s5, .va (lN (idleF ps)), s7, s8, .va (lP (leanF ps)), .va (lP (leanF ps)), s11, s12, s13]) (⟨_, _, _, _, _, _, _, rfl⟩) (fun i d ρ1 hd hI => ?_) (fun ρ1 hI => ?_)
            · obtain ⟨s4, s5, s7, s8, s11, s12, s13, rfl⟩ := hI
              obtain ⟨hi, rfl⟩ := rng_item hd
              refine ⟨_, eg_name, ?_⟩
              walk_at "nz"
              refine wp_seq ?_
              refine wp_set (i := 12) (ev_call (ea_cons (ev_call (ea_cons (ev_var rfl) (ea_cons (ev_op ev_int (ev_var rfl) (rv_I0 fun _ => .int _)) ea_nil)) ⟨m, 10 + (0 + (i : Int)), rfl, rfl⟩) (ea_cons ev_int (ea_cons ev_int ea_nil))) ⟨drawn m (10 + (0 + (i : Int))), 4, 6, by decide, by decide, by decide, rfl, rfl⟩) ?_
              walk_at "nz"
              have hn := someF_isNum (drawn m (10 + (0 + (i : Int)))) (q := 4) (by decide) (by decide) (t := 6) (by decide)
              have hle := Nat.le_trans (someF_le (drawn m (10 + (0 + (i : Int)))) (q := 4) (by decide) (by decide) 6) (show 37 ^ 6 ≤ 37 ^ 7 by decide)
              generalize someF (drawn m (10 + (0 + (i : Int)))) 4 6 = n at hn hle ⊢
              refine wp_seq ?_
              refine wp_set (i := 8) (ev_call (ea_cons (ev_var rfl) (ea_cons (ev_var rfl) ea_nil)) ⟨ps, n, hps.small, rfl, rfl⟩) ?_
              walk_at "nz"
              refine wp_if (b := false) ?_ (fun h19 => ?_) (fun h19 => ?_)
              · skip
                refine EvT.to (et_test (ev_op (ev_call (ea_cons (ev_var rfl) (ea_cons (ev_var rfl) ea_nil)) ⟨lP (leanF ps), nD n, rfl, (by rw [lookE_ok hps.lean hn, stepE_small hps.lean.small hle])⟩) (y := oN ((lstep ps n).map (·.2))) ?_ (rv_neD (sh_oN _) (sh_oN _)))) ?_
                · cases lstep ps n with
                  | none => exact ev_if (b := true) (y := .none) (et_test (ev_op (ev_var rfl) ev_non rv_isN)) (fun _ => ev_non) (fun z => nomatch z)
                  | some p => exact ev_if (b := false) (x := .none) (et_test (ev_op (ev_var rfl) ev_non rv_isN)) (fun z => nomatch z) (fun _ => ev_op (ev_var rfl) ev_int (rv_ixT rfl))
                · rw [eqv_oN, led_lean, lstep_led hps.cop]; simp
              · skip
                exact nomatch h19
              · skip
                refine wp_nil ?_
                walk_at "nz"
                exact ⟨_, _, _, _, _, _, _, rfl⟩
            · obtain ⟨s4, s5, s7, s8, s11, s12, s13, rfl⟩ := hI
              walk_at "nz"
              refine wp_for (vs := [7, 4, 5]) (ei_enumM (ev_var rfl)) (fun i ρ1 => ∃ (s4 s5 s7 s8 s11 s12 s13 : Sl), ρ1 = [.scr ns, .va (nD k), .va (.int m), .va (lP ps), s4, s5, .va (lN (idleF ps)), s7, s8, .va (lP (leanF ps)), .va (lP (leanF ps)), s11, s12, s13]) (⟨_, _, _, _, _, _, _, rfl⟩) (fun i d ρ1 hd hI => ?_) (fun ρ1 hI => ?_)
              · obtain ⟨s4, s5, s7, s8, s11, s12, s13, rfl⟩ := hI
                obtain ⟨p, hp, rfl⟩ := enum_item hd
                have hi := (List.getElem?_eq_some_iff.mp hp).1
                refine ⟨_, (eg_tup (egs_cons eg_name (egs_cons (eg_tup (egs_cons eg_name (egs_cons eg_name egs_nil)) rfl) egs_nil)) rfl), ?_⟩
                walk_at "nz"
                obtain ⟨j, ej, hj⟩ := firstAt_self hp
                refine wp_seq ?_
                refine wp_set (i := 13) (d := nD j) ?_ ?_
                · skip
                  refine ev_op (ev_call (ea_cons (ev_var rfl) (ea_cons (ev_var rfl) ea_nil)) ⟨ps, p.2, hps.small, rfl, rfl⟩) ev_int ?_
                  rw [lstep_eq hps.cop, ej]
                  exact rv_ixT rfl
                walk_at "nz"
                refine wp_if (b := false) ?_ (fun h23 => ?_) (fun h23 => ?_)
                · skip
                  refine EvT.to (et_test (ev_op (ev_op (ev_var rfl) (ev_var rfl) rv_neI) (ev_op (ev_var rfl) (ev_var rfl) rv_inN) rv_neB)) ?_
                  rw [if_neg Bool.false_ne_true, mem_idleF hi]
                  exact first_idle hp ej
                · skip
                  exact nomatch h23
                · skip
                  refine wp_nil ?_
                  walk_at "nz"
                  exact ⟨_, _, _, _, _, _, _, rfl⟩
              · obtain ⟨s4, s5, s7, s8, s11, s12, s13, rfl⟩ := hI
                walk_at "nz"
                exact ⟨_, _, _, _, _, _, _, _, _, _, _, _, _, rfl⟩
  · obtain ⟨s1, s2, s3, s4, s5, s6, s7, s8, s9, s10, s11, s12, s13, rfl⟩ := hI
    walk_at "nz"
    refine wp_ret ev_bl ?_
    walk_at "nz"
    first | done | rfl
end
theorem law_end {K : PySem.W.Frag} {H : Hp} {a : Addr} {ns : List Int} (hS : SqL K H a (ns.map V.int)) (hl : ns.length ≤ 63) : spX K (Pr_law K) [.ref a] H (fun v _ => v = .bl true) fun _ _ _ => False := ⟨H, a, ns, [], [], .ok (.bool true), rfl, Same.refl _, hS, .nil, ⟨hl, rfl, rfl⟩, fun d e v H2 ⟨M2, b, hv⟩ => by cases e; exact hv.bl_inv, fun c e => nomatch e⟩
def dd (x : Str) (st : Stmt) : He.DefD := ⟨(x, none), x, x, defArgs st, defBody st, defScope st, [], []⟩
def fnL : List He.DefD := [dd "_law_drawn" s__law_drawn, dd "_law_primes" s__law_primes, dd "_law_some" s__law_some, dd "_law_fraction" s__law_fraction, dd "_law_program" s__law_program, dd "common" s_common, dd "parted" s_parted, dd "is_number" s_is_number, dd "is_fraction" s_is_fraction, dd "is_program" s_is_program, dd "need_program" s_need_program, dd "first_at" s_first_at, dd "idle" s_idle, dd "lean" s_lean, dd "_law_cell" s__law_cell, dd "_law_step" s__law_step, dd "need_number" s_need_number, dd "look" s_look, dd "led" s_led, dd "need_room" s_need_room, dd "step" s_step, dd "law" s_law]
def faL : List He.Fa := [.glo "_law_drawn",
  .glo "_law_primes",
  .glo "_law_some",
  .glo "_law_fraction",
  .glo "_law_program",
  .glo "common",
  .glo "parted",
  .glo "is_number",
  .glo "is_fraction",
  .glo "is_program",
  .glo "need_program",
  .glo "first_at",
  .glo "idle",
  .glo "lean",
  .glo "_law_cell",
  .glo "_law_step",
  .glo "need_number",
  .glo "look",
  .glo "led",
  .glo "need_room",
  .glo "step",
  .glo "law",
  .free "all",
  .free "enumerate",
  .free "range",
  .free "tuple",
  .free "isinstance",
  .free "bool",
  .free "max",
  .free "int",
  .free "len",
  .free "list",
  .free "min",
  .glo "PRIMES",
  .int "MOST_ROOM" 400,
  .int "MOST_FRACTIONS" 16,
  .int "MOST_PART" 1000000,
  .glo "RowError",
  .exc "RowError",
  .glo "BadNumber",
  .exc "BadNumber",
  .glo "BadProgram",
  .exc "BadProgram",
  .glo "TooGreat",
  .exc "TooGreat"]
def exL (K : PySem.W.Frag) : Bool := He.tupB K "PRIMES" ([.int 2, .int 3, .int 5, .int 7, .int 11, .int 13, .int 17, .int 19, .int 23, .int 29, .int 31, .int 37] : List He.Dv)
abbrev rwL : PySem.W.OpenLaw := PySem.Challenge.rw_fractrows_k21_whole_lean
abbrev R : PySem.W.OpenRow := PySem.W.OpenLaw.row rwL
abbrev hk : PySem.W.Hook := He.hookX 4 faL fnL [] [] exL
def ob (s : PySem.W.SharedT) : He.AlX := He.obsX 4 faL fnL [] [] exL (HandSHeadRun.getT s)
theorem ob_eq (s : PySem.W.SharedT) : ob s = hk.obs s.abs := He.obsX_eq (HandSHeadRun.getT_eq s)
def looseL : List Str := (["RowError", "BadNumber", "BadProgram", "TooGreat", "parted", "is_number", "need_number", "common", "is_fraction", "is_program", "need_program", "first_at", "led", "need_room", "look", "step", "idle", "lean", "_law_cell", "_law_drawn", "_law_primes", "_law_some", "_law_fraction", "_law_program", "_law_step", "PRIMES", "MOST_ROOM", "MOST_FRACTIONS", "MOST_PART"] : List Str)
theorem runL (w : World) : HandSHeadRun.RunEq R (PySem.W.view R.prog [33]) hk ob 3000 looseL w := by
  intro os
  kernel_rfl
theorem df_of {K : PySem.W.Frag} {h : Heap} {mg : Str → Option Value} {x : Str} {st : Stmt} {ps : List Str} (X : K.In h) (G : h.Ns mainGlobals mg) (c : (He.Fa.glo x).ok K = true) (F : ∃ fd, FunD K x x (defArgs st) (defBody st) (defScope st) [] [] (He.ga K x) fd)
    (hb : ∀ (kV doc pm : Value) (an : Option Addr) (cdv ct : Value) (us : List Value), us.length = ps.length → bindArgs (PySem.W.fnOf x x (defArgs st) (defBody st) (defScope st) .none kV doc pm an cdv ct) ⟨us, []⟩ = pure (ps.zip us)) : Df K mg x st ps := by
  obtain ⟨fd, F⟩ := F
  exact ⟨_, fd, He5.fun_of F, He.glo_ok X G c, F.bindsN hb⟩
theorem xc_of {K : PySem.W.Frag} {h : Heap} {mg : Str → Option Value} {x : Str} (X : K.In h) (G : h.Ns mainGlobals mg) (c : (He.Fa.glo x).ok K = true) (c2 : (He.Fa.exc x).ok K = true) : Xc K mg x := by
  obtain ⟨h1, h2⟩ := He.ba c2
  obtain ⟨h3, h4⟩ := He.ba h2
  obtain ⟨h5, h6⟩ := He.ba h4
  exact ⟨He.glo_ok X G c, h1, h3, of_decide_eq_true h5, of_decide_eq_true h6⟩
theorem tx_of {w : World} {K : PySem.W.Frag} {h : Heap} {mg : Str → Option Value} (X : K.In h) (G : h.Ns mainGlobals mg) (c : He.SaysX faL fnL [] [] exL w h K) : Tx K mg := by
  have d := c.t.d
  have m0 : exL K = true := c.more
  have t_PRIMES := m0
  exact ⟨He.free_ok X G (d.fact 22 (f := .free "all") rfl),
    He.free_ok X G (d.fact 23 (f := .free "enumerate") rfl),
    He.free_ok X G (d.fact 24 (f := .free "range") rfl),
    He.free_ok X G (d.fact 25 (f := .free "tuple") rfl),
    He.free_ok X G (d.fact 26 (f := .free "isinstance") rfl),
    He.free_ok X G (d.fact 27 (f := .free "bool") rfl),
    He.free_ok X G (d.fact 28 (f := .free "max") rfl),
    He.free_ok X G (d.fact 29 (f := .free "int") rfl),
    He.free_ok X G (d.fact 30 (f := .free "len") rfl),
    He.free_ok X G (d.fact 31 (f := .free "list") rfl),
    He.free_ok X G (d.fact 32 (f := .free "min") rfl),
    He.glo_ok X G (d.fact 33 (f := .glo "PRIMES") rfl),
    fun H => He.tupB_ok t_PRIMES H,
    He.int_ok X G (d.fact 34 (f := .int "MOST_ROOM" 400) rfl),
    He.int_ok X G (d.fact 35 (f := .int "MOST_FRACTIONS" 16) rfl),
    He.int_ok X G (d.fact 36 (f := .int "MOST_PART" 1000000) rfl),
    xc_of X G (d.fact 37 (f := .glo "RowError") rfl) (d.fact 38 (f := .exc "RowError") rfl),
    xc_of X G (d.fact 39 (f := .glo "BadNumber") rfl) (d.fact 40 (f := .exc "BadNumber") rfl),
    xc_of X G (d.fact 41 (f := .glo "BadProgram") rfl) (d.fact 42 (f := .exc "BadProgram") rfl),
    xc_of X G (d.fact 43 (f := .glo "TooGreat") rfl) (d.fact 44 (f := .exc "TooGreat") rfl)⟩
theorem df__law_drawn {w : World} {K : PySem.W.Frag} {h : Heap} {mg : Str → Option Value} (X : K.In h) (G : h.Ns mainGlobals mg) (c : He.SaysX faL fnL [] [] exL w h K) : Df K mg "_law_drawn" s__law_drawn ["_law_cell_here", "_law_k"] := df_of X G (c.t.d.fact 0 (f := .glo "_law_drawn") rfl) (c.t.d.def_ 0 (d := dd "_law_drawn" s__law_drawn) rfl) fun _ _ _ _ _ _ us hl => match us, hl with | [_, _], _ => rfl
theorem df__law_primes {w : World} {K : PySem.W.Frag} {h : Heap} {mg : Str → Option Value} (X : K.In h) (G : h.Ns mainGlobals mg) (c : He.SaysX faL fnL [] [] exL w h K) : Df K mg "_law_primes" s__law_primes [] := df_of X G (c.t.d.fact 1 (f := .glo "_law_primes") rfl) (c.t.d.def_ 1 (d := dd "_law_primes" s__law_primes) rfl) fun _ _ _ _ _ _ us hl => match us, hl with | [], _ => rfl
theorem df__law_some {w : World} {K : PySem.W.Frag} {h : Heap} {mg : Str → Option Value} (X : K.In h) (G : h.Ns mainGlobals mg) (c : He.SaysX faL fnL [] [] exL w h K) : Df K mg "_law_some" s__law_some ["_law_more", "_law_primes_here", "_law_most"] := df_of X G (c.t.d.fact 2 (f := .glo "_law_some") rfl) (c.t.d.def_ 2 (d := dd "_law_some" s__law_some) rfl) fun _ _ _ _ _ _ us hl => match us, hl with | [_, _, _], _ => rfl
theorem df__law_fraction {w : World} {K : PySem.W.Frag} {h : Heap} {mg : Str → Option Value} (X : K.In h) (G : h.Ns mainGlobals mg) (c : He.SaysX faL fnL [] [] exL w h K) : Df K mg "_law_fraction" s__law_fraction ["_law_more", "_law_primes_here"] := df_of X G (c.t.d.fact 3 (f := .glo "_law_fraction") rfl) (c.t.d.def_ 3 (d := dd "_law_fraction" s__law_fraction) rfl) fun _ _ _ _ _ _ us hl => match us, hl with | [_, _], _ => rfl
theorem df__law_program {w : World} {K : PySem.W.Frag} {h : Heap} {mg : Str → Option Value} (X : K.In h) (G : h.Ns mainGlobals mg) (c : He.SaysX faL fnL [] [] exL w h K) : Df K mg "_law_program" s__law_program ["_law_more", "_law_primes_here"] := df_of X G (c.t.d.fact 4 (f := .glo "_law_program") rfl) (c.t.d.def_ 4 (d := dd "_law_program" s__law_program) rfl) fun _ _ _ _ _ _ us hl => match us, hl with | [_, _], _ => rfl
theorem df_common {w : World} {K : PySem.W.Frag} {h : Heap} {mg : Str → Option Value} (X : K.In h) (G : h.Ns mainGlobals mg) (c : He.SaysX faL fnL [] [] exL w h K) : Df K mg "common" s_common ["one", "other"] := df_of X G (c.t.d.fact 5 (f := .glo "common") rfl) (c.t.d.def_ 5 (d := dd "common" s_common) rfl) fun _ _ _ _ _ _ us hl => match us, hl with | [_, _], _ => rfl
theorem df_parted {w : World} {K : PySem.W.Frag} {h : Heap} {mg : Str → Option Value} (X : K.In h) (G : h.Ns mainGlobals mg) (c : He.SaysX faL fnL [] [] exL w h K) : Df K mg "parted" s_parted ["number"] := df_of X G (c.t.d.fact 6 (f := .glo "parted") rfl) (c.t.d.def_ 6 (d := dd "parted" s_parted) rfl) fun _ _ _ _ _ _ us hl => match us, hl with | [_], _ => rfl
theorem df_is_number {w : World} {K : PySem.W.Frag} {h : Heap} {mg : Str → Option Value} (X : K.In h) (G : h.Ns mainGlobals mg) (c : He.SaysX faL fnL [] [] exL w h K) : Df K mg "is_number" s_is_number ["thing"] := df_of X G (c.t.d.fact 7 (f := .glo "is_number") rfl) (c.t.d.def_ 7 (d := dd "is_number" s_is_number) rfl) fun _ _ _ _ _ _ us hl => match us, hl with | [_], _ => rfl
theorem df_is_fraction {w : World} {K : PySem.W.Frag} {h : Heap} {mg : Str → Option Value} (X : K.In h) (G : h.Ns mainGlobals mg) (c : He.SaysX faL fnL [] [] exL w h K) : Df K mg "is_fraction" s_is_fraction ["thing"] := df_of X G (c.t.d.fact 8 (f := .glo "is_fraction") rfl) (c.t.d.def_ 8 (d := dd "is_fraction" s_is_fraction) rfl) fun _ _ _ _ _ _ us hl => match us, hl with | [_], _ => rfl
theorem df_is_program {w : World} {K : PySem.W.Frag} {h : Heap} {mg : Str → Option Value} (X : K.In h) (G : h.Ns mainGlobals mg) (c : He.SaysX faL fnL [] [] exL w h K) : Df K mg "is_program" s_is_program ["thing"] := df_of X G (c.t.d.fact 9 (f := .glo "is_program") rfl) (c.t.d.def_ 9 (d := dd "is_program" s_is_program) rfl) fun _ _ _ _ _ _ us hl => match us, hl with | [_], _ => rfl
theorem df_need_program {w : World} {K : PySem.W.Frag} {h : Heap} {mg : Str → Option Value} (X : K.In h) (G : h.Ns mainGlobals mg) (c : He.SaysX faL fnL [] [] exL w h K) : Df K mg "need_program" s_need_program ["program"] := df_of X G (c.t.d.fact 10 (f := .glo "need_program") rfl) (c.t.d.def_ 10 (d := dd "need_program" s_need_program) rfl) fun _ _ _ _ _ _ us hl => match us, hl with | [_], _ => rfl
theorem df_first_at {w : World} {K : PySem.W.Frag} {h : Heap} {mg : Str → Option Value} (X : K.In h) (G : h.Ns mainGlobals mg) (c : He.SaysX faL fnL [] [] exL w h K) : Df K mg "first_at" s_first_at ["program", "number"] := df_of X G (c.t.d.fact 11 (f := .glo "first_at") rfl) (c.t.d.def_ 11 (d := dd "first_at" s_first_at) rfl) fun _ _ _ _ _ _ us hl => match us, hl with | [_, _], _ => rfl
theorem df_idle {w : World} {K : PySem.W.Frag} {h : Heap} {mg : Str → Option Value} (X : K.In h) (G : h.Ns mainGlobals mg) (c : He.SaysX faL fnL [] [] exL w h K) : Df K mg "idle" s_idle ["program"] := df_of X G (c.t.d.fact 12 (f := .glo "idle") rfl) (c.t.d.def_ 12 (d := dd "idle" s_idle) rfl) fun _ _ _ _ _ _ us hl => match us, hl with | [_], _ => rfl
theorem df_lean {w : World} {K : PySem.W.Frag} {h : Heap} {mg : Str → Option Value} (X : K.In h) (G : h.Ns mainGlobals mg) (c : He.SaysX faL fnL [] [] exL w h K) : Df K mg "lean" s_lean ["program"] := df_of X G (c.t.d.fact 13 (f := .glo "lean") rfl) (c.t.d.def_ 13 (d := dd "lean" s_lean) rfl) fun _ _ _ _ _ _ us hl => match us, hl with | [_], _ => rfl
theorem df__law_cell {w : World} {K : PySem.W.Frag} {h : Heap} {mg : Str → Option Value} (X : K.In h) (G : h.Ns mainGlobals mg) (c : He.SaysX faL fnL [] [] exL w h K) : Df K mg "_law_cell" s__law_cell ["_law_script", "_law_k"] := df_of X G (c.t.d.fact 14 (f := .glo "_law_cell") rfl) (c.t.d.def_ 14 (d := dd "_law_cell" s__law_cell) rfl) fun _ _ _ _ _ _ us hl => match us, hl with | [_, _], _ => rfl
theorem df__law_step {w : World} {K : PySem.W.Frag} {h : Heap} {mg : Str → Option Value} (X : K.In h) (G : h.Ns mainGlobals mg) (c : He.SaysX faL fnL [] [] exL w h K) : Df K mg "_law_step" s__law_step ["_law_program_here", "_law_number"] := df_of X G (c.t.d.fact 15 (f := .glo "_law_step") rfl) (c.t.d.def_ 15 (d := dd "_law_step" s__law_step) rfl) fun _ _ _ _ _ _ us hl => match us, hl with | [_, _], _ => rfl
theorem df_need_number {w : World} {K : PySem.W.Frag} {h : Heap} {mg : Str → Option Value} (X : K.In h) (G : h.Ns mainGlobals mg) (c : He.SaysX faL fnL [] [] exL w h K) : Df K mg "need_number" s_need_number ["number"] := df_of X G (c.t.d.fact 16 (f := .glo "need_number") rfl) (c.t.d.def_ 16 (d := dd "need_number" s_need_number) rfl) fun _ _ _ _ _ _ us hl => match us, hl with | [_], _ => rfl
theorem df_look {w : World} {K : PySem.W.Frag} {h : Heap} {mg : Str → Option Value} (X : K.In h) (G : h.Ns mainGlobals mg) (c : He.SaysX faL fnL [] [] exL w h K) : Df K mg "look" s_look ["program", "number"] := df_of X G (c.t.d.fact 17 (f := .glo "look") rfl) (c.t.d.def_ 17 (d := dd "look" s_look) rfl) fun _ _ _ _ _ _ us hl => match us, hl with | [_, _], _ => rfl
theorem df_led {w : World} {K : PySem.W.Frag} {h : Heap} {mg : Str → Option Value} (X : K.In h) (G : h.Ns mainGlobals mg) (c : He.SaysX faL fnL [] [] exL w h K) : Df K mg "led" s_led ["program", "number"] := df_of X G (c.t.d.fact 18 (f := .glo "led") rfl) (c.t.d.def_ 18 (d := dd "led" s_led) rfl) fun _ _ _ _ _ _ us hl => match us, hl with | [_, _], _ => rfl
theorem df_need_room {w : World} {K : PySem.W.Frag} {h : Heap} {mg : Str → Option Value} (X : K.In h) (G : h.Ns mainGlobals mg) (c : He.SaysX faL fnL [] [] exL w h K) : Df K mg "need_room" s_need_room ["number"] := df_of X G (c.t.d.fact 19 (f := .glo "need_room") rfl) (c.t.d.def_ 19 (d := dd "need_room" s_need_room) rfl) fun _ _ _ _ _ _ us hl => match us, hl with | [_], _ => rfl
theorem df_step {w : World} {K : PySem.W.Frag} {h : Heap} {mg : Str → Option Value} (X : K.In h) (G : h.Ns mainGlobals mg) (c : He.SaysX faL fnL [] [] exL w h K) : Df K mg "step" s_step ["program", "number"] := df_of X G (c.t.d.fact 20 (f := .glo "step") rfl) (c.t.d.def_ 20 (d := dd "step" s_step) rfl) fun _ _ _ _ _ _ us hl => match us, hl with | [_, _], _ => rfl
theorem df_law {w : World} {K : PySem.W.Frag} {h : Heap} {mg : Str → Option Value} (X : K.In h) (G : h.Ns mainGlobals mg) (c : He.SaysX faL fnL [] [] exL w h K) : Df K mg "law" s_law ["_law_script"] := df_of X G (c.t.d.fact 21 (f := .glo "law") rfl) (c.t.d.def_ 21 (d := dd "law" s_law) rfl) fun _ _ _ _ _ _ us hl => match us, hl with | [_], _ => rfl
theorem factsL {w : World} {K : PySem.W.Frag} {h : Heap} {mg : Str → Option Value} {f : Addr} (X : K.In h) (G : h.Ns mainGlobals mg) (hfa : mg ("law" : Str) = some (.ref f)) (c : He.SaysX faL fnL [] [] exL w h K) :
    ∃ fd : FuncData, (∀ (s : Shared) (v : Value), BindsTo s fd ⟨[v], []⟩ [("_law_script", v)]) ∧ ∀ base : Heap, K.In base → base.Ns mainGlobals mg → FnOk rwL.prog w K mg base (L2N.CX rwL.prog w) 8 f fd ["_law_script"] (spX K (Pr_law K)) := by
  obtain ⟨fd, F⟩ := c.t.d.def_ 21 (d := dd "law" s_law) rfl
  have e := hfa.symm.trans (He.glo_ok X G (c.t.d.fact 21 (f := .glo "law") rfl))
  cases e
  have T := tx_of X G c
  have b := FunD.bindsA (ps := ["_law_script"]) F fun _ _ _ _ _ _ us hl => match us, hl with | [_], _ => rfl
  refine ⟨fd, fun s v => b s [v] rfl, fun base _ _ => ?_⟩
  have G__law_drawn := ok__law_drawn (P := rwL.prog) (w := w) (base := base) (df__law_drawn X G c) T
  have G__law_primes := ok__law_primes (P := rwL.prog) (w := w) (base := base) (df__law_primes X G c) T
  have G__law_some := ok__law_some (P := rwL.prog) (w := w) (base := base) (df__law_some X G c) T G__law_drawn G__law_primes
  have G__law_fraction := ok__law_fraction (P := rwL.prog) (w := w) (base := base) (df__law_fraction X G c) T G__law_drawn G__law_primes G__law_some
  have G__law_program := ok__law_program (P := rwL.prog) (w := w) (base := base) (df__law_program X G c) T G__law_drawn G__law_fraction
  have G_common := ok_common (P := rwL.prog) (w := w) (base := base) (df_common X G c) T
  have G_parted := ok_parted (P := rwL.prog) (w := w) (base := base) (df_parted X G c) T
  have G_is_number := ok_is_number (P := rwL.prog) (w := w) (base := base) (df_is_number X G c) T G_parted
  have G_is_fraction := ok_is_fraction (P := rwL.prog) (w := w) (base := base) (df_is_fraction X G c) T G_common G_is_number
  have G_is_program := ok_is_program (P := rwL.prog) (w := w) (base := base) (df_is_program X G c) T G_is_fraction
  have G_need_program := ok_need_program (P := rwL.prog) (w := w) (base := base) (df_need_program X G c) T G_is_program
  have G_first_at := ok_first_at (P := rwL.prog) (w := w) (base := base) (df_first_at X G c) T
  have G_idle := ok_idle (P := rwL.prog) (w := w) (base := base) (df_idle X G c) T G_first_at G_need_program
  have G_lean := ok_lean (P := rwL.prog) (w := w) (base := base) (df_lean X G c) T G_idle G_need_program
  have G__law_cell := ok__law_cell (P := rwL.prog) (w := w) (base := base) (df__law_cell X G c) T
  have G__law_step := ok__law_step (P := rwL.prog) (w := w) (base := base) (df__law_step X G c) T
  have G_need_number := ok_need_number (P := rwL.prog) (w := w) (base := base) (df_need_number X G c) T G_is_number
  have G_look := ok_look (P := rwL.prog) (w := w) (base := base) (df_look X G c) T G_need_number G_need_program
  have G_led := ok_led (P := rwL.prog) (w := w) (base := base) (df_led X G c) T G_first_at
  have G_need_room := ok_need_room (P := rwL.prog) (w := w) (base := base) (df_need_room X G c) T G_parted
  have G_step := ok_step (P := rwL.prog) (w := w) (base := base) (df_step X G c) T G_led G_look G_need_room
  exact ok_law T G__law_cell G__law_drawn G__law_program G__law_some G__law_step G_idle G_lean G_step (He5.fun_of F)
end Fr
open PySem PySem.W PySem.Calls PyProof.Rows
theorem PySem.Challenge.cw_fractrows_k21_whole_lean_holds : PySem.Challenge.rw_fractrows_k21_whole_lean.Holds := by
  w_on; o_law
  refine HandSHeadRun.head_any (r := OpenLaw.row PySem.Challenge.rw_fractrows_k21_whole_lean) (q := view (OpenLaw.row PySem.Challenge.rw_fractrows_k21_whole_lean).prog [33]) (H := Fr.hk) (ob := Fr.ob) (M := 3000) (loose := Fr.looseL) (d := HandSHeadRun.topDef (OpenLaw.row PySem.Challenge.rw_fractrows_k21_whole_lean).prog 33) (kwd := []) Fr.ob_eq
    (by kernel_rfl) (fun s => by kernel_rfl) Fr.runL (by kernel_rfl) (by kernel_rfl) (by kernel_rfl) (by rfl) (by first | assumption | decide +kernel) (by decide +kernel) ⟨rfl, rfl, rfl, rfl, rfl, by decide +kernel⟩ ?hw ?hc
  case hw => w_witness2
  case hc =>
    refine LamX.walk_ofTsE (l := PySem.Challenge.rw_fractrows_k21_whole_lean) (n := 63) (k := 8) (x := "_law_script") (CX := fun w => L2N.CX (PySem.Challenge.rw_fractrows_k21_whole_lean).prog w) rfl (by decide) (by kernel_rfl) ⟨rfl, by decide, by decide⟩ ?F (fun _ _ _ _ _ ⟨_, _, _, _, _, _, _, _, _, _, _, _, z⟩ => z)
    intro w mg fa h Y G hmg0
    obtain ⟨K, KX, c⟩ := Y
    have hmg : mg ("law" : PySem.Str) = some (.ref fa) := by
      have e : (HandSHeadRun.topDef (OpenLaw.row PySem.Challenge.rw_fractrows_k21_whole_lean).prog 33).name = ("law" : PySem.Str) := by kernel_rfl
      rw [← e]
      exact hmg0
    obtain ⟨fd, hb, hF⟩ := Fr.factsL (w := w) KX G hmg c
    exact ⟨K, KX, fd, [], Fr.spX K (Fr.Pr_law K), (fun _ hp => by simp at hp), (fun _ hp => by simp at hp), (fun _ hp => by simp at hp), hb, fun H a ns hl _ _ hS => Fr.law_end hS hl, fun base k1 k2 _ => hF base k1 k2⟩
