import PyProof.Rows.All
import Wide.All
import OpenK.AllK
import Wide.FinOn
import HandS.ForMost
import HandS.Exc
import HandS.ExcOwn
import HandS.ExcCtx
import HandS.WordsExc
import HandS.Wide
import HandS.Zip
import HandS.IsInst
import HandS.TupAny
import HandS.TupMul
import HandS.Defaults
import HandS.Lambda
import HandS.HeadHook4
import HandS.HotCalls
import HandS.ExcIs
import HandS.Deep
import HandS.HeadWalk
import HandS.HeadNt
import HandS.Head0
import HandS.Head1
import HandS.Head2
import KE.GoesZip
import KE.GoesMore
import PyProof.ListRange
import PyProof.EnumMake
import HandS.Dict
import HandS.More
import HandS.SetFor
import HandS.Text
import HandS.Iter
import HandS.Style
import HandS.HeadHook3
import KE.KIndexOf
import PySem.Challenge.RW_fractrows_k80_whole_turns
set_option Elab.async false
set_option linter.all false
set_option maxRecDepth 100000
set_option maxHeartbeats 4000000
set_option exponentiation.threshold 1000
namespace Fr
open PySem PySem.Spec PyProof.Rows L2

abbrev Dt := PyData

mutual
/-- the value v is the data d, all of it standing in M -/
inductive Dn (K : PySem.W.Frag) (M : Hp) : V → Dt → Prop
  | non : Dn K M .non .none
  | bl (b : Bool) : Dn K M (.bl b) (.bool b)
  | int (i : Int) : Dn K M (.int i) (.int i)
  | str (x : Str) : Dn K M (.str x) (.str x)
  | lst {a : Addr} {vs : List V} {ds : List Dt} : M a = some (.lst vs) → DnA K M vs ds → Dn K M (.ref a) (.list ds)
  | tup {a : Addr} {vs : List V} {ds : List Dt} : SqT K M a vs → DnA K M vs ds → Dn K M (.ref a) (.tuple ds)
inductive DnA (K : PySem.W.Frag) (M : Hp) : List V → List Dt → Prop
  | nil : DnA K M [] []
  | cons {v : V} {vs : List V} {d : Dt} {ds : List Dt} : Dn K M v d → DnA K M vs ds → DnA K M (v :: vs) (d :: ds)
end

theorem sqT_mono {K : PySem.W.Frag} {M M' : Hp} {a : Addr} {xs : List V} (e : Same M M') (h : SqT K M a xs) : SqT K M' a xs := by
  rcases h with (h | ⟨o, h⟩) | h
  · exact Or.inl (Or.inl (e _ _ h))
  · exact Or.inl (Or.inr ⟨o, e _ _ h⟩)
  · exact Or.inr h
section
variable {K : PySem.W.Frag} {M M' : Hp}
mutual
theorem Dn.mono (e : Same M M') : ∀ (d : Dt) (v : V), Dn K M v d → Dn K M' v d
  | .none, _, h => by cases h; exact .non
  | .bool b, _, h => by cases h; exact .bl b
  | .int i, _, h => by cases h; exact .int i
  | .str x, _, h => by cases h; exact .str x
  | .list ds, _, h => by
    cases h with
    | lst ha hs => exact .lst (e _ _ ha) (DnA.mono e ds _ hs)
  | .tuple ds, _, h => by
    cases h with
    | tup ha hs => exact .tup (sqT_mono e ha) (DnA.mono e ds _ hs)
  | .dict _, _, h => by cases h
theorem DnA.mono (e : Same M M') : ∀ (ds : List Dt) (vs : List V), DnA K M vs ds → DnA K M' vs ds
  | [], _, h => by cases h; exact .nil
  | d :: ds, _, h => by
    cases h with
    | cons h1 h2 => exact .cons (Dn.mono e d _ h1) (DnA.mono e ds _ h2)
end
mutual
theorem Dn.dp : ∀ (d : Dt) (v : V), Dn K M v d → Dp K M v d
  | .none, _, h => by cases h; exact .non
  | .bool b, _, h => by cases h; exact .bl b
  | .int i, _, h => by cases h; exact .int i
  | .str x, _, h => by cases h; exact .str x
  | .list ds, _, h => by
    cases h with
    | lst ha hs => exact .lst (SqL.of ha) (DnA.dp ds _ hs)
  | .tuple ds, _, h => by
    cases h with
    | tup ha hs => exact .tup ha (DnA.dp ds _ hs)
  | .dict _, _, h => by cases h
theorem DnA.dp : ∀ (ds : List Dt) (vs : List V), DnA K M vs ds → DpAll K M vs ds
  | [], _, h => by cases h; exact .nil
  | d :: ds, _, h => by
    cases h with
    | cons h1 h2 => exact .cons (Dn.dp d _ h1) (DnA.dp ds _ h2)
end
theorem DnA.len : ∀ {vs : List V} {ds : List Dt}, DnA K M vs ds → vs.length = ds.length
  | _, _, .nil => rfl
  | _, _, .cons _ t => by simp [DnA.len t]
theorem DnA.get : ∀ {vs : List V} {ds : List Dt} {i : Nat} {d : Dt}, DnA K M vs ds → ds[i]? = some d → ∃ v, vs[i]? = some v ∧ Dn K M v d
  | _, _, _, _, .nil, e => by simp at e
  | _, _, 0, _, .cons r _, e => by simp at e; subst e; exact ⟨_, rfl, r⟩
  | _, _, i + 1, _, .cons _ t, e => by
    obtain ⟨u, h1, h2⟩ := DnA.get (i := i) t (by simpa using e)
    exact ⟨u, by simpa using h1, h2⟩
theorem DnA.getV : ∀ {vs : List V} {ds : List Dt} {i : Nat} {v : V}, DnA K M vs ds → vs[i]? = some v → ∃ d, ds[i]? = some d ∧ Dn K M v d
  | _, _, _, _, .nil, e => by simp at e
  | _, _, 0, _, .cons r _, e => by simp at e; subst e; exact ⟨_, rfl, r⟩
  | _, _, i + 1, _, .cons _ t, e => by
    obtain ⟨u, h1, h2⟩ := DnA.getV (i := i) t (by simpa using e)
    exact ⟨u, by simpa using h1, h2⟩
theorem DnA.app : ∀ {vs ws : List V} {ds es : List Dt}, DnA K M vs ds → DnA K M ws es → DnA K M (vs ++ ws) (ds ++ es)
  | _, _, _, _, .nil, s => s
  | _, _, _, _, .cons r t, s => .cons r (DnA.app t s)
theorem DnA.take : ∀ {vs : List V} {ds : List Dt} (n : Nat), DnA K M vs ds → DnA K M (vs.take n) (ds.take n)
  | _, _, 0, _ => .nil
  | _, _, _ + 1, .nil => .nil
  | _, _, n + 1, .cons r t => .cons r (DnA.take n t)
theorem DnA.drop : ∀ {vs : List V} {ds : List Dt} (n : Nat), DnA K M vs ds → DnA K M (vs.drop n) (ds.drop n)
  | _, _, 0, r => r
  | _, _, _ + 1, .nil => .nil
  | _, _, n + 1, .cons _ t => DnA.drop n t
theorem DnA.rev {vs : List V} {ds : List Dt} (h : DnA K M vs ds) : DnA K M vs.reverse ds.reverse := by
  induction ds generalizing vs with
  | nil => cases h; exact .nil
  | cons d ds ih =>
    cases h with
    | cons h1 h2 =>
      rw [List.reverse_cons, List.reverse_cons]
      exact (ih h2).app (.cons h1 .nil)
theorem DnA.rep {vs : List V} {ds : List Dt} (h : DnA K M vs ds) : ∀ k : Nat, DnA K M (List.replicate k vs).flatten (List.replicate k ds).flatten
  | 0 => .nil
  | k + 1 => by
    rw [List.replicate_succ, List.replicate_succ, List.flatten_cons, List.flatten_cons]
    exact h.app (DnA.rep h k)
theorem DnA.set : ∀ {vs : List V} {ds : List Dt} {v : V} {d : Dt} (i : Nat), DnA K M vs ds → Dn K M v d → DnA K M (vs.set i v) (ds.set i d)
  | _, _, _, _, _, .nil, _ => .nil
  | _, _, _, _, 0, .cons _ t, r => .cons r t
  | _, _, _, _, i + 1, .cons q t, r => .cons q (DnA.set i t r)
theorem Dn.int_inv {v : V} {i : Int} (h : Dn K M v (.int i)) : v = .int i := by cases h; rfl
theorem Dn.bl_inv {v : V} {b : Bool} (h : Dn K M v (.bool b)) : v = .bl b := by cases h; rfl
theorem Dn.str_inv {v : V} {b : Str} (h : Dn K M v (.str b)) : v = .str b := by cases h; rfl
theorem Dn.non_inv {v : V} (h : Dn K M v .none) : v = .non := by cases h; rfl
theorem Dn.lst_inv {v : V} {ds : List Dt} (h : Dn K M v (.list ds)) : ∃ a vs, v = .ref a ∧ M a = some (.lst vs) ∧ DnA K M vs ds := by
  cases h with
  | lst h1 h2 => exact ⟨_, _, rfl, h1, h2⟩
theorem Dn.tup_inv {v : V} {ds : List Dt} (h : Dn K M v (.tuple ds)) : ∃ a vs, v = .ref a ∧ SqT K M a vs ∧ DnA K M vs ds := by
  cases h with
  | tup h1 h2 => exact ⟨_, _, rfl, h1, h2⟩
theorem DnA.ints : ∀ {ns : List Int} {vs : List V}, DnA K M vs (ns.map PyData.int) → vs = ns.map V.int
  | [], _, h => by cases h; rfl
  | n :: ns, _, h => by
    cases h with
    | cons h1 h2 => rw [h1.int_inv, DnA.ints h2]; rfl
theorem DnA.bools : ∀ {bs : List Bool} {vs : List V}, DnA K M vs (bs.map PyData.bool) → vs = bs.map V.bl
  | [], _, h => by cases h; rfl
  | n :: ns, _, h => by
    cases h with
    | cons h1 h2 => rw [h1.bl_inv, DnA.bools h2]; rfl
theorem DnA.of_ints : ∀ (ns : List Int), DnA K M (ns.map V.int) (ns.map PyData.int)
  | [] => .nil
  | n :: ns => .cons (.int n) (DnA.of_ints ns)
end

/-- what a slot holds -/
inductive Ow where
  | lst (ds : List Dt)
  | dic (es : List (Int × Dt))
inductive Sl where
  | no
  | va (d : Dt)
  | ow (c : Ow)
  | scr (ns : List Int)
  | raw (v : V)
  /-- a value of which P holds, P of known things alone -/
  | fz (P : Hp → V → Prop) (hP : ∀ {M M' : Hp} {v : V}, Same M M' → P M v → P M' v)
abbrev Sl.own (ds : List Dt) : Sl := .ow (.lst ds)
abbrev Sl.dic (es : List (Int × Dt)) : Sl := .ow (.dic es)
/-- the tables of code objects that lambdas are kept in: where they stand, the name they bear -/
class TabL where
  l : List (Addr × Str)
variable [TabL]
/-- M: what is known of H; the tables are no part of it -/
structure Kn (M H : Hp) : Prop where
  mh : Same M H
  tm : ∀ p ∈ TabL.l, M p.1 = none
  tb : LamX.Tabs TabL.l H
theorem Kn.at {M H : Hp} (k : Kn M H) {p : Addr} (h : p ∈ TabL.l.map (·.1)) : ∃ ps, H p = some (.tbl ps) := by
  obtain ⟨q, hq, rfl⟩ := List.mem_map.mp h
  obtain ⟨ps, e, _⟩ := k.tb q hq
  exact ⟨ps, e⟩
theorem Kn.notT {M H : Hp} (k : Kn M H) {a : Addr} {vs : List V} (h : H a = some (.lst vs)) : a ∉ TabL.l.map (·.1) := fun z => by
  obtain ⟨ps, e⟩ := k.at z
  rw [h] at e
  cases e
theorem Kn.notO {M H : Hp} (k : Kn M H) {a : Addr} {o : HO} (h : H a = some o) (ho : ∀ ps, o ≠ .tbl ps) : a ∉ TabL.l.map (·.1) := fun z => by
  obtain ⟨ps, e⟩ := k.at z
  rw [h] at e
  exact ho ps (Option.some.inj e)
theorem Kn.notN {M H : Hp} (k : Kn M H) {a : Addr} (h : H a = none) : a ∉ TabL.l.map (·.1) := fun z => by
  obtain ⟨ps, e⟩ := k.at z
  rw [h] at e
  cases e
theorem Kn.tm' {M H : Hp} (k : Kn M H) {a : Addr} (h : a ∈ TabL.l.map (·.1)) : M a = none := by
  obtain ⟨q, hq, rfl⟩ := List.mem_map.mp h
  exact k.tm q hq
/-- M0, H0: what is known, what stands, at a def's entry; M, H: now -/
structure Bs (M0 H0 M H : Hp) : Prop where
  mm : Same M0 M
  kn : Kn M H
  far : ∀ a o, M0 a = none → H0 a = some o → a ∉ TabL.l.map (·.1) → M a = none ∧ H a = some o
theorem Bs.mh {M0 H0 M H : Hp} (b : Bs M0 H0 M H) : Same M H := b.kn.mh
theorem Bs.refl {M H : Hp} (h : Kn M H) : Bs M H M H := ⟨Same.refl _, h, fun _ _ h1 h2 _ => ⟨h1, h2⟩⟩
theorem Bs.trans {M0 H0 M1 H1 M2 H2 : Hp} (a : Bs M0 H0 M1 H1) (b : Bs M1 H1 M2 H2) : Bs M0 H0 M2 H2 :=
  ⟨a.mm.trans b.mm, b.kn, fun x o h1 h2 n => let ⟨p, q⟩ := a.far x o h1 h2 n; b.far x o p q n⟩

/-- a dict's content: keys that are ints -/
def DnD (K : PySem.W.Frag) (M : Hp) (kvs : List (Key × V)) (es : List (Int × Dt)) : Prop := kvs.map (·.1) = es.map (fun e => Sum.inl e.1) ∧ DnA K M (kvs.map (·.2)) (es.map (·.2))
def OwOk (K : PySem.W.Frag) (M : Hp) : HO → Ow → Prop
  | .lst vs, .lst ds => DnA K M vs ds
  | .dK kvs, .dic es => DnD K M kvs es
  | _, _ => False
theorem OwOk.nt {K : PySem.W.Frag} {M : Hp} {o : HO} {c : Ow} (h : OwOk K M o c) : ∀ ps, o ≠ .tbl ps := fun ps e => by
  subst e; cases c <;> exact h
theorem OwOk.mono {K : PySem.W.Frag} {M M' : Hp} {o : HO} {c : Ow} (h : OwOk K M o c) (m : Same M M') : OwOk K M' o c := by
  cases c with
  | lst ds =>
    cases o with
    | lst vs => exact DnA.mono m _ _ h
    | _ => exact h
  | dic es =>
    cases o with
    | dK kvs => exact ⟨h.1, h.2.mono m⟩
    | _ => exact h
def SlOk (K : PySem.W.Frag) (H0 M H : Hp) (v : Option V) : Sl → Prop
  | .no => True
  | .va d => ∃ x, v = some x ∧ Dn K M x d
  | .ow (.lst ds) => ∃ a vs, v = some (.ref a) ∧ H0 a = none ∧ M a = none ∧ H a = some (.lst vs) ∧ DnA K M vs ds
  | .ow (.dic es) => ∃ a kvs, v = some (.ref a) ∧ H0 a = none ∧ M a = none ∧ H a = some (.dK kvs) ∧ DnD K M kvs es
  | .scr ns => ∃ a, v = some (.ref a) ∧ SqL K M a (ns.map V.int)
  | .raw x => v = some x
  | .fz P _ => ∃ x, v = some x ∧ P M x

theorem SlOk.wo {K : PySem.W.Frag} {H0 M H : Hp} {v : Option V} {c : Ow} (h : SlOk K H0 M H v (.ow c)) : ∃ a o, v = some (.ref a) ∧ H0 a = none ∧ M a = none ∧ H a = some o ∧ OwOk K M o c := by
  cases c with
  | lst ds => obtain ⟨a, vs, h1, h2, h3, h4, h5⟩ := h; exact ⟨a, .lst vs, h1, h2, h3, h4, h5⟩
  | dic es => obtain ⟨a, vs, h1, h2, h3, h4, h5⟩ := h; exact ⟨a, .dK vs, h1, h2, h3, h4, h5⟩
theorem SlOk.ow {K : PySem.W.Frag} {H0 M H : Hp} {a : Addr} {o : HO} {c : Ow} (h2 : H0 a = none) (h3 : M a = none) (h4 : H a = some o) (h5 : OwOk K M o c) : SlOk K H0 M H (some (.ref a)) (.ow c) := by
  cases c with
  | lst ds =>
    cases o with
    | lst vs => exact ⟨a, vs, rfl, h2, h3, h4, h5⟩
    | _ => exact h5.elim
  | dic es =>
    cases o with
    | dK vs => exact ⟨a, vs, rfl, h2, h3, h4, h5⟩
    | _ => exact h5.elim
structure StM (K : PySem.W.Frag) (M0 H0 : Hp) (σ : L2.St) (H : Hp) (ρ : List Sl) (T : List (V × Dt)) (M : Hp) : Prop where
  bs : Bs M0 H0 M H
  len : σ.length = ρ.length
  slot : ∀ (i : Nat) (s : Sl), ρ[i]? = some s → ∃ v, σ[i]? = some v ∧ SlOk K H0 M H v s
  dis : ∀ (i j : Nat) (ds es : Ow) (a : Addr), i ≠ j → ρ[i]? = some (.ow ds) → ρ[j]? = some (.ow es) → σ[i]? = some (some (.ref a)) → σ[j]? = some (some (.ref a)) → False
  tmp : ∀ p ∈ T, Dn K M p.1 p.2
def Sta (K : PySem.W.Frag) (M0 H0 : Hp) (σ : L2.St) (H : Hp) (ρ : List Sl) (T : List (V × Dt)) : Prop := ∃ M, StM K M0 H0 σ H ρ T M
def Aft (K : PySem.W.Frag) (M0 H0 : Hp) (v : V) (H : Hp) (d : Dt) : Prop := ∃ M, Bs M0 H0 M H ∧ Dn K M v d
def AftX (M0 H0 H : Hp) : Prop := ∃ M, Bs M0 H0 M H

section
variable {K : PySem.W.Frag} {M0 H0 H : Hp} {σ : L2.St} {ρ : List Sl} {T : List (V × Dt)}
theorem SlOk.ext {M M' H' : Hp} {v : Option V} {s : Sl} (h : SlOk K H0 M H v s) (m : Same M M') (k : ∀ a o, M a = none → H a = some o → (∀ ps, o ≠ .tbl ps) → M' a = none ∧ H' a = some o) : SlOk K H0 M' H' v s := by
  cases s with
  | no => trivial
  | va d =>
    obtain ⟨x, e, h⟩ := h
    exact ⟨x, e, h.mono m⟩
  | ow c =>
    obtain ⟨a, o, rfl, h1, h2, h3, h4⟩ := h.wo
    obtain ⟨q1, q2⟩ := k a _ h2 h3 h4.nt
    exact SlOk.ow h1 q1 q2 (h4.mono m)
  | scr ns =>
    obtain ⟨a, e, h⟩ := h
    exact ⟨a, e, m.seq h⟩
  | raw x => exact h
  | fz P hP =>
    obtain ⟨x, e, h⟩ := h
    exact ⟨x, e, hP m h⟩
theorem Sta.same_sub {T' : List (V × Dt)} (h : Sta K M0 H0 σ H ρ T) (s : ∀ p ∈ T', p ∈ T) : Sta K M0 H0 σ H ρ T' := by
  obtain ⟨M, b, l, sl, d, t⟩ := h
  exact ⟨M, b, l, sl, d, fun p hp => t p (s p hp)⟩
/-- the world grows -/
theorem StM.grow {M M' H' : Hp} {T' : List (V × Dt)} (h : StM K M0 H0 σ H ρ T M) (b : Bs M H M' H') (t : ∀ p ∈ T', Dn K M' p.1 p.2) : StM K M0 H0 σ H' ρ T' M' := by
  obtain ⟨b0, l, sl, d, _⟩ := h
  refine ⟨b0.trans b, l, fun i s e => ?_, d, t⟩
  obtain ⟨v, e1, h1⟩ := sl i s e
  exact ⟨v, e1, h1.ext b.mm fun a o q1 q2 nt => b.far a _ q1 q2 (b0.kn.notO q2 nt)⟩
/-- a new object, known from now on -/
theorem Kn.new {M : Hp} {p : Addr} {o : HO} (k : Kn M H) (n : H p = none) : Kn (upd M p o) (upd H p o) := by
  refine ⟨fun a u e => ?_, fun q hq => ?_, k.tb.ext fun b u e => by rw [upd_ne (ne_of_none e n)]; exact e⟩
  · by_cases ha : a = p
    · subst ha; rw [upd_same] at e ⊢; exact e
    · rw [upd_ne ha] at e ⊢; exact k.mh _ _ e
  · have : q.1 ≠ p := fun z => k.notN n (List.mem_map.mpr ⟨q, hq, z⟩)
    rw [upd_ne this]; exact k.tm q hq
theorem Kn.hid {M : Hp} {p : Addr} {o : HO} (k : Kn M H) (n : H p = none) : Kn M (upd H p o) :=
  ⟨fun a u e => by rw [upd_ne (ne_of_none (k.mh _ _ e) n)]; exact k.mh _ _ e, k.tm, k.tb.ext fun b u e => by rw [upd_ne (ne_of_none e n)]; exact e⟩
theorem bs_new {M : Hp} {p : Addr} {o : HO} (m : Kn M H) (n : H p = none) : Bs M H (upd M p o) (upd H p o) := by
  have nM : M p = none := m.mh.free n
  refine ⟨fun a u e => ?_, m.new n, fun a u h1 h2 _ => ?_⟩
  · rw [upd_ne (ne_of_none e nM)]; exact e
  · have ha : a ≠ p := ne_of_none h2 n
    rw [upd_ne ha, upd_ne ha]; exact ⟨h1, h2⟩
/-- a new object, not known -/
theorem bs_hid {M : Hp} {p : Addr} {o : HO} (m : Kn M H) (n : H p = none) : Bs M H M (upd H p o) :=
  ⟨Same.refl _, m.hid n, fun a u h1 h2 _ => by rw [upd_ne (ne_of_none h2 n)]; exact ⟨h1, h2⟩⟩
theorem Sta.new {v : Dt} {p : Addr} {o : HO} (h : Sta K M0 H0 σ H ρ T) (n : H p = none) (k : ∀ M : Hp, (∀ q ∈ T, Dn K M q.1 q.2) → (upd M p o) p = some o → (∀ q ∈ T, Dn K (upd M p o) q.1 q.2) → Dn K (upd M p o) (.ref p) v) :
    Sta K M0 H0 σ (upd H p o) ρ ((.ref p, v) :: T) := by
  obtain ⟨M, st⟩ := h
  have b := bs_new (o := o) st.bs.kn n
  have tm : ∀ q ∈ T, Dn K (upd M p o) q.1 q.2 := fun q hq => (st.tmp q hq).mono b.mm
  refine ⟨_, st.grow b fun q hq => ?_⟩
  rcases List.mem_cons.mp hq with e | hq
  · subst e; exact k M st.tmp upd_same tm
  · exact tm q hq
theorem Sta.add {v : V} {d : Dt} (h : Sta K M0 H0 σ H ρ T) (k : ∀ M : Hp, (∀ q ∈ T, Dn K M q.1 q.2) → Dn K M v d) : Sta K M0 H0 σ H ρ ((v, d) :: T) := by
  obtain ⟨M, b, l, sl, di, t⟩ := h
  refine ⟨M, b, l, sl, di, fun q hq => ?_⟩
  rcases List.mem_cons.mp hq with e | hq
  · subst e; exact k M t
  · exact t q hq
theorem Sta.tmp {v : V} {d : Dt} (h : Sta K M0 H0 σ H ρ T) (m : (v, d) ∈ T) : ∃ M, Same M H ∧ Dn K M v d := by
  obtain ⟨M, st⟩ := h
  exact ⟨M, st.bs.mh, st.tmp _ m⟩
theorem Sta.tmpA {vs : List V} {ds : List Dt} (h : Sta K M0 H0 σ H ρ T) (m : ∀ p ∈ vs.zip ds, p ∈ T) (l : vs.length = ds.length) : ∃ M, StM K M0 H0 σ H ρ T M ∧ DnA K M vs ds := by
  obtain ⟨M, st⟩ := h
  refine ⟨M, st, ?_⟩
  have t := st.tmp
  clear st
  induction vs generalizing ds with
  | nil =>
    cases ds with
    | nil => exact .nil
    | cons d ds => simp at l
  | cons v vs ih =>
    cases ds with
    | nil => simp at l
    | cons d ds =>
      exact .cons (t _ (m (v, d) (by simp))) (ih (fun p hp => m p (by simp [hp])) (by simpa using l))
theorem Sta.va {i : Nat} {d : Dt} (h : Sta K M0 H0 σ H ρ T) (e : ρ[i]? = some (.va d)) : ∃ v, σ[i]? = some (some v) ∧ Sta K M0 H0 σ H ρ ((v, d) :: T) := by
  obtain ⟨M, b, l, sl, di, t⟩ := h
  obtain ⟨v, e1, x, rfl, hx⟩ := sl i _ e
  refine ⟨x, e1, M, b, l, sl, di, fun q hq => ?_⟩
  rcases List.mem_cons.mp hq with e | hq
  · subst e; exact hx
  · exact t q hq
/-- a slot gets a value -/
theorem Sta.set {i : Nat} {v : V} {d : Dt} (h : Sta K M0 H0 σ H ρ T) (m : (v, d) ∈ T) : Sta K M0 H0 (σ.set i (some v)) H (ρ.set i (.va d)) T := by
  obtain ⟨M, b, l, sl, di, t⟩ := h
  refine ⟨M, b, by simp [l], fun j s e => ?_, fun j k ds es a hjk h1 h2 h3 h4 => ?_, t⟩
  · by_cases hj : i = j
    · subst hj
      have hi : i < ρ.length := by
        have := (List.getElem?_eq_some_iff.mp e).1
        simpa using this
      rw [List.getElem?_set_self hi] at e
      cases e
      exact ⟨some v, List.getElem?_set_self (by omega), v, rfl, t _ m⟩
    · rw [List.getElem?_set_ne hj] at e ⊢
      exact sl j s e
  · have nj : i ≠ j := fun z => by
      subst z
      have hi : i < ρ.length := by
        have := (List.getElem?_eq_some_iff.mp h1).1
        simpa using this
      rw [List.getElem?_set_self hi] at h1
      cases h1
    have nk : i ≠ k := fun z => by
      subst z
      have hi : i < ρ.length := by
        have := (List.getElem?_eq_some_iff.mp h2).1
        simpa using this
      rw [List.getElem?_set_self hi] at h2
      cases h2
    rw [List.getElem?_set_ne nj] at h1 h3
    rw [List.getElem?_set_ne nk] at h2 h4
    exact di j k ds es a hjk h1 h2 h3 h4
/-- a slot is forgotten -/
theorem Sta.forget {i : Nat} {v : Option V} (h : Sta K M0 H0 σ H ρ T) : Sta K M0 H0 (σ.set i v) H (ρ.set i .no) T := by
  obtain ⟨M, b, l, sl, di, t⟩ := h
  refine ⟨M, b, by simp [l], fun j s e => ?_, fun j k ds es a hjk h1 h2 h3 h4 => ?_, t⟩
  · by_cases hj : i = j
    · subst hj
      have hi : i < ρ.length := by
        have := (List.getElem?_eq_some_iff.mp e).1
        simpa using this
      rw [List.getElem?_set_self hi] at e
      cases e
      exact ⟨v, List.getElem?_set_self (by omega), trivial⟩
    · rw [List.getElem?_set_ne hj] at e ⊢
      exact sl j s e
  · have nj : i ≠ j := fun z => by
      subst z
      have hi : i < ρ.length := by
        have := (List.getElem?_eq_some_iff.mp h1).1
        simpa using this
      rw [List.getElem?_set_self hi] at h1
      cases h1
    have nk : i ≠ k := fun z => by
      subst z
      have hi : i < ρ.length := by
        have := (List.getElem?_eq_some_iff.mp h2).1
        simpa using this
      rw [List.getElem?_set_self hi] at h2
      cases h2
    rw [List.getElem?_set_ne nj] at h1 h3
    rw [List.getElem?_set_ne nk] at h2 h4
    exact di j k ds es a hjk h1 h2 h3 h4
end
end Fr
namespace Fr
open PySem PySem.Spec PyProof.Rows L2
variable [TabL]
section
variable {K : PySem.W.Frag} {M0 H0 H : Hp} {σ : L2.St} {ρ : List Sl} {T : List (V × Dt)}
theorem Bs.free0 {M : Hp} {p : Addr} (b : Bs M0 H0 M H) (n : H p = none) : H0 p = none := by
  cases e : H0 p with
  | none => rfl
  | some o =>
    cases q : M0 p with
    | none => have := (b.far p o q e (b.kn.notN n)).2; rw [n] at this; cases this
    | some u => have := b.mh _ _ (b.mm _ _ q); rw [n] at this; cases this
theorem get_app_lt {α : Type} {xs : List α} {y : α} {i : Nat} {s : α} (h : (xs ++ [y])[i]? = some s) : (i < xs.length ∧ xs[i]? = some s) ∨ (i = xs.length ∧ s = y) := by
  by_cases hi : i < xs.length
  · rw [List.getElem?_append_left hi] at h
    exact .inl ⟨hi, h⟩
  · have h2 := (List.getElem?_eq_some_iff.mp h).1
    have e : i = xs.length := by simp at h2; omega
    subst e
    simp at h
    exact .inr ⟨rfl, h.symm⟩
/-- a new list or dict, ours alone: a slot more -/
theorem StM.newW {M : Hp} {p : Addr} {o : HO} {c : Ow} (st : StM K M0 H0 σ H ρ T M) (n : H p = none) (hd : OwOk K M o c) : StM K M0 H0 (σ ++ [some (.ref p)]) (upd H p o) (ρ ++ [.ow c]) T M := by
  have b := bs_hid (o := o) st.bs.kn n
  have g := st.grow b st.tmp
  refine ⟨g.bs, by simp [st.len], fun i s e => ?_, fun i j es fs a hij h1 h2 h3 h4 => ?_, g.tmp⟩
  · rcases get_app_lt e with ⟨hi, e⟩ | ⟨rfl, rfl⟩
    · obtain ⟨v, e1, h1⟩ := g.slot i s e
      exact ⟨v, by rw [List.getElem?_append_left (by rw [st.len]; exact hi)]; exact e1, h1⟩
    · exact ⟨some (.ref p), by rw [← st.len]; simp, SlOk.ow (st.bs.free0 n) (st.bs.mh.free n) upd_same hd⟩
  · have out : ∀ (k : Nat) (gs : Ow), ρ[k]? = some (.ow gs) → σ[k]? = some (some (V.ref p)) → False := fun k gs e1 e2 => by
      obtain ⟨v, e3, h3⟩ := st.slot k _ e1
      obtain ⟨a', o', e4, _, _, e5, _⟩ := h3.wo
      rw [e2] at e3
      cases e3
      cases e4
      rw [n] at e5
      cases e5
    rcases get_app_lt h1 with ⟨hi, h1⟩ | ⟨rfl, e1⟩ <;> rcases get_app_lt h2 with ⟨hj, h2⟩ | ⟨rfl, e2⟩
    · rw [List.getElem?_append_left (by rw [st.len]; exact hi)] at h3
      rw [List.getElem?_append_left (by rw [st.len]; exact hj)] at h4
      exact st.dis i j es fs a hij h1 h2 h3 h4
    · rw [List.getElem?_append_left (by rw [st.len]; exact hi)] at h3
      rw [← st.len] at h4
      simp at h4
      rw [← h4] at h3
      exact out i es h1 h3
    · rw [List.getElem?_append_left (by rw [st.len]; exact hj)] at h4
      rw [← st.len] at h3
      simp at h3
      rw [← h3] at h4
      exact out j fs h2 h4
    · exact hij rfl
theorem StM.newO {M : Hp} {p : Addr} {vs : List V} {ds : List Dt} (st : StM K M0 H0 σ H ρ T M) (n : H p = none) (hd : DnA K M vs ds) : StM K M0 H0 (σ ++ [some (.ref p)]) (upd H p (.lst vs)) (ρ ++ [.own ds]) T M := st.newW n hd
/-- the content of a list or dict of ours changes -/
theorem StM.updW {M : Hp} {i : Nat} {a : Addr} {o1 : HO} {c1 c2 : Ow} (st : StM K M0 H0 σ H ρ T M) (h1 : ρ[i]? = some (.ow c2)) (h2 : σ[i]? = some (some (.ref a))) (hd : OwOk K M o1 c1) :
    StM K M0 H0 σ (upd H a o1) (ρ.set i (.ow c1)) T M := by
  obtain ⟨v, e1, h3⟩ := st.slot i _ h1
  obtain ⟨a', o', e2, n0, nM, hH, hOw⟩ := h3.wo
  rw [h2] at e1
  cases e1
  cases e2
  have mh : Same M (upd H a o1) := fun b o e => by
    rw [upd_ne (ne_of_none e nM)]
    exact st.bs.mh _ _ e
  have hi : i < ρ.length := (List.getElem?_eq_some_iff.mp h1).1
  have ktb : LamX.Tabs TabL.l (upd H a o1) := fun p hp => by
    obtain ⟨ps, e1, e2, e3⟩ := st.bs.kn.tb p hp
    have np : p.1 ≠ a := fun z => st.bs.kn.notO hH hOw.nt (List.mem_map.mpr ⟨p, hp, z⟩)
    refine ⟨ps, by rw [upd_ne np]; exact e1, e2, fun pos cv hc => ?_⟩
    obtain ⟨c, k1, k2⟩ := e3 pos cv hc
    have nc : c ≠ a := fun z => by
      rw [z, hH] at k2
      unfold LamX.CodeO at k2
      cases c2 with
      | lst ds =>
        cases o' with
        | lst vs => cases k2
        | _ => exact hOw
      | dic es =>
        cases o' with
        | dK vs => cases k2
        | _ => exact hOw
    exact ⟨c, k1, by rw [upd_ne nc]; exact k2⟩
  refine ⟨⟨st.bs.mm, ⟨mh, st.bs.kn.tm, ktb⟩, fun b o q1 q2 q0 => ?_⟩, by simp [st.len], fun j s e => ?_, fun j k fs gs b hjk q1 q2 q3 q4 => ?_, st.tmp⟩
  · obtain ⟨r1, r2⟩ := st.bs.far b o q1 q2 q0
    refine ⟨r1, ?_⟩
    rw [upd_ne (ne_of_none q2 n0)]
    exact r2
  · by_cases hj : i = j
    · subst hj
      rw [List.getElem?_set_self hi] at e
      cases e
      exact ⟨_, h2, SlOk.ow n0 nM upd_same hd⟩
    · rw [List.getElem?_set_ne hj] at e
      obtain ⟨v, e1, hs⟩ := st.slot j s e
      refine ⟨v, e1, ?_⟩
      cases s with
      | no => trivial
      | va d => exact hs
      | ow fs =>
        obtain ⟨b, ws, rfl, r1, r2, r3, r4⟩ := hs.wo
        have nb : b ≠ a := fun z => by
          subst z
          exact st.dis i j c2 fs b hj h1 e h2 e1
        exact SlOk.ow r1 r2 (by rw [upd_ne nb]; exact r3) r4
      | scr ns => exact hs
      | raw x => exact hs
      | fz P hP => exact hs
  · have old : ∀ (k : Nat) (gs : Ow), (ρ.set i (Sl.ow c1))[k]? = some (.ow gs) → ∃ gs', ρ[k]? = some (.ow gs') := fun k gs e => by
      by_cases hk : i = k
      · subst hk; exact ⟨c2, h1⟩
      · rw [List.getElem?_set_ne hk] at e; exact ⟨gs, e⟩
    obtain ⟨fs', z1⟩ := old j fs q1
    obtain ⟨gs', z2⟩ := old k gs q2
    exact st.dis j k fs' gs' b hjk z1 z2 q3 q4
theorem StM.updO {M : Hp} {i : Nat} {a : Addr} {vs : List V} {ds es : List Dt} (st : StM K M0 H0 σ H ρ T M) (h1 : ρ[i]? = some (.own es)) (h2 : σ[i]? = some (some (.ref a))) (hd : DnA K M vs ds) :
    StM K M0 H0 σ (upd H a (.lst vs)) (ρ.set i (.own ds)) T M := st.updW h1 h2 hd
/-- a slot's list is ours no more: it is data from now on -/
theorem StM.frz {M : Hp} {i : Nat} {a : Addr} {es : List Dt} (st : StM K M0 H0 σ H ρ T M) (h1 : ρ[i]? = some (.own es)) (h2 : σ[i]? = some (some (.ref a))) :
    ∃ M', StM K M0 H0 σ H (ρ.set i (.va (.list es))) ((.ref a, .list es) :: T) M' := by
  obtain ⟨v, e1, a', vs, e2, n0, nM, hH, hd⟩ := st.slot i _ h1
  rw [h2] at e1
  cases e1
  cases e2
  have hi : i < ρ.length := (List.getElem?_eq_some_iff.mp h1).1
  have mm : Same M (upd M a (.lst vs)) := fun b o e => by
    rw [upd_ne (ne_of_none e nM)]
    exact e
  have mh : Same (upd M a (.lst vs)) H := fun b o e => by
    by_cases hb : b = a
    · subst hb; rw [upd_same] at e; cases e; exact hH
    · rw [upd_ne hb] at e; exact st.bs.mh _ _ e
  have dn : Dn K (upd M a (.lst vs)) (.ref a) (.list es) := .lst upd_same (hd.mono mm)
  have ktm : ∀ p ∈ TabL.l, upd M a (.lst vs) p.1 = none := fun p hp => by
    rw [upd_ne fun z => st.bs.kn.notT hH (List.mem_map.mpr ⟨p, hp, z⟩)]; exact st.bs.kn.tm p hp
  refine ⟨upd M a (.lst vs), ⟨st.bs.mm.trans mm, ⟨mh, ktm, st.bs.kn.tb⟩, fun b o q1 q2 q0 => ?_⟩, by simp [st.len], fun j s e => ?_, fun j k fs gs b hjk q1 q2 q3 q4 => ?_, fun p hp => ?_⟩
  · obtain ⟨r1, r2⟩ := st.bs.far b o q1 q2 q0
    refine ⟨?_, r2⟩
    rw [upd_ne (ne_of_none q2 n0)]
    exact r1
  · by_cases hj : i = j
    · subst hj
      rw [List.getElem?_set_self hi] at e
      cases e
      exact ⟨_, h2, _, rfl, dn⟩
    · rw [List.getElem?_set_ne hj] at e
      obtain ⟨v, e1, hs⟩ := st.slot j s e
      refine ⟨v, e1, ?_⟩
      cases s with
      | no => trivial
      | va d =>
        obtain ⟨x, e, hx⟩ := hs
        exact ⟨x, e, hx.mono mm⟩
      | ow fs =>
        obtain ⟨b, ws, rfl, r1, r2, r3, r4⟩ := hs.wo
        have nb : b ≠ a := fun z => by
          subst z
          exact st.dis i j (.lst es) fs b hj h1 e h2 e1
        exact SlOk.ow r1 (by rw [upd_ne nb]; exact r2) r3 (r4.mono mm)
      | scr ns =>
        obtain ⟨b, e, hx⟩ := hs
        exact ⟨b, e, mm.seq hx⟩
      | raw x => exact hs
      | fz P hP =>
        obtain ⟨x, e, hx⟩ := hs
        exact ⟨x, e, hP mm hx⟩
  · have old : ∀ (k : Nat) (gs : Ow), (ρ.set i (Sl.va (.list es)))[k]? = some (.ow gs) → ρ[k]? = some (.ow gs) := fun k gs e => by
      by_cases hk : i = k
      · subst hk
        rw [List.getElem?_set_self hi] at e
        cases e
      · rw [List.getElem?_set_ne hk] at e; exact e
    exact st.dis j k fs gs b hjk (old j fs q1) (old k gs q2) q3 q4
  · rcases List.mem_cons.mp hp with e | hp
    · subst e; exact dn
    · exact (st.tmp p hp).mono mm
/-- the last slot goes -/
theorem StM.pop {M : Hp} {v : Option V} {s : Sl} (st : StM K M0 H0 (σ ++ [v]) H (ρ ++ [s]) T M) : StM K M0 H0 σ H ρ T M := by
  have hl : σ.length = ρ.length := by have := st.len; simpa using this
  refine ⟨st.bs, hl, fun i s e => ?_, fun i j es fs a hij h1 h2 h3 h4 => ?_, st.tmp⟩
  · have hi := (List.getElem?_eq_some_iff.mp e).1
    obtain ⟨w, e1, h1⟩ := st.slot i s (by rw [List.getElem?_append_left hi]; exact e)
    rw [List.getElem?_append_left (by omega)] at e1
    exact ⟨w, e1, h1⟩
  · have k1 := (List.getElem?_eq_some_iff.mp h1).1
    have k2 := (List.getElem?_eq_some_iff.mp h2).1
    exact st.dis i j es fs a hij (by rw [List.getElem?_append_left k1]; exact h1) (by rw [List.getElem?_append_left k2]; exact h2) (by rw [List.getElem?_append_left (by omega)]; exact h3) (by rw [List.getElem?_append_left (by omega)]; exact h4)
theorem Sta.frzL {p : Addr} {ds : List Dt} (h : Sta K M0 H0 (σ ++ [some (.ref p)]) H (ρ ++ [.own ds]) T) : Sta K M0 H0 σ H ρ ((.ref p, .list ds) :: T) := by
  obtain ⟨M, st⟩ := h
  have hl : σ.length = ρ.length := by have := st.len; simpa using this
  obtain ⟨M', st'⟩ := st.frz (i := ρ.length) (a := p) (es := ds) (by simp) (by rw [← hl]; simp)
  have e : (ρ ++ [Sl.own ds]).set ρ.length (.va (.list ds)) = ρ ++ [.va (.list ds)] := by simp
  rw [e] at st'
  exact ⟨M', st'.pop⟩
/-- the last slot's list goes to the slot i -/
theorem Sta.moveW {p : Addr} {ds : Ow} (i : Nat) (h : Sta K M0 H0 (σ ++ [some (.ref p)]) H (ρ ++ [.ow ds]) T) : Sta K M0 H0 (σ.set i (some (.ref p))) H (ρ.set i (.ow ds)) T := by
  obtain ⟨M, st⟩ := h
  have hl : σ.length = ρ.length := by have := st.len; simpa using this
  have last := st.slot ρ.length (.ow ds) (by simp)
  have hs : (σ ++ [some (V.ref p)])[ρ.length]? = some (some (.ref p)) := by rw [← hl]; simp
  have st' := st.pop
  have apart : ∀ (k : Nat) (gs : Ow), ρ[k]? = some (.ow gs) → σ[k]? = some (some (V.ref p)) → False := fun k gs e1 e2 => by
    have k1 := (List.getElem?_eq_some_iff.mp e1).1
    exact st.dis k ρ.length gs ds p (by omega) (by rw [List.getElem?_append_left k1]; exact e1) (by simp) (by rw [List.getElem?_append_left (by omega)]; exact e2) hs
  refine ⟨M, st'.bs, by simp [hl], fun j s e => ?_, fun j k fs gs a hjk q1 q2 q3 q4 => ?_, st'.tmp⟩
  · by_cases hj : i = j
    · subst hj
      have hi : i < ρ.length := by
        have := (List.getElem?_eq_some_iff.mp e).1
        simpa using this
      rw [List.getElem?_set_self hi] at e
      cases e
      obtain ⟨v, e1, h1⟩ := last
      rw [hs] at e1
      cases e1
      exact ⟨_, List.getElem?_set_self (by omega), h1⟩
    · rw [List.getElem?_set_ne hj] at e ⊢
      exact st'.slot j s e
  · by_cases hj : i = j
    · subst hj
      have nk : i ≠ k := hjk
      have hi : i < ρ.length := by
        have := (List.getElem?_eq_some_iff.mp q1).1
        simpa using this
      rw [List.getElem?_set_ne nk] at q2 q4
      rw [List.getElem?_set_self (by omega)] at q3
      cases q3
      exact apart k gs q2 q4
    · by_cases hk : i = k
      · subst hk
        have hi : i < ρ.length := by
          have := (List.getElem?_eq_some_iff.mp q2).1
          simpa using this
        rw [List.getElem?_set_ne hj] at q1 q3
        rw [List.getElem?_set_self (by omega)] at q4
        cases q4
        exact apart j fs q1 q3
      · rw [List.getElem?_set_ne hj] at q1 q3
        rw [List.getElem?_set_ne hk] at q2 q4
        exact st'.dis j k fs gs a hjk q1 q2 q3 q4
theorem Sta.moveO {p : Addr} {ds : List Dt} (i : Nat) (h : Sta K M0 H0 (σ ++ [some (.ref p)]) H (ρ ++ [.own ds]) T) : Sta K M0 H0 (σ.set i (some (.ref p))) H (ρ.set i (.own ds)) T := h.moveW i
theorem Sta.own {i : Nat} {es : List Dt} (h : Sta K M0 H0 σ H ρ T) (e : ρ[i]? = some (.own es)) : ∃ a vs M, σ[i]? = some (some (.ref a)) ∧ H a = some (.lst vs) ∧ StM K M0 H0 σ H ρ T M ∧ DnA K M vs es := by
  obtain ⟨M, st⟩ := h
  obtain ⟨v, e1, a, vs, rfl, n0, nM, hH, hd⟩ := st.slot i _ e
  exact ⟨a, vs, M, e1, hH, st, hd⟩
theorem Sta.frz {i : Nat} {es : List Dt} (h : Sta K M0 H0 σ H ρ T) (e : ρ[i]? = some (.own es)) : ∃ a, σ[i]? = some (some (.ref a)) ∧ Sta K M0 H0 σ H (ρ.set i (.va (.list es))) ((.ref a, .list es) :: T) := by
  obtain ⟨a, vs, M, e1, _, st, _⟩ := h.own e
  obtain ⟨M', st'⟩ := st.frz e e1
  exact ⟨a, e1, M', st'⟩

theorem StM.at {M : Hp} {v : V} {d : Dt} (st : StM K M0 H0 σ H ρ T M) (h : (v, d) ∈ T) : Dn K M v d := st.tmp _ h
/-- lists of ours out of sight -/
def hid : Sl → Sl
  | .ow _ => .no
  | s => s
/-- ρ' says less than ρ does -/
def Less (ρ' ρ : List Sl) : Prop := ρ'.length = ρ.length ∧ ∀ (i : Nat) (s : Sl), ρ'[i]? = some s → s = .no ∨ ((∀ c, s ≠ .ow c) ∧ ρ[i]? = some s)
theorem StM.less {M : Hp} {ρ' : List Sl} (st : StM K M0 H0 σ H ρ T M) (l : Less ρ' ρ) : StM K M H σ H ρ' T M := by
  refine ⟨Bs.refl st.bs.kn, by rw [st.len, l.1], fun i s e => ?_, fun i j es fs a hij h1 h2 h3 h4 => ?_, st.tmp⟩
  · rcases l.2 i s e with rfl | ⟨no, e'⟩
    · have hi := (List.getElem?_eq_some_iff.mp e).1
      have hl := st.len
      have hl2 := l.1
      exact ⟨σ[i]'(by omega), List.getElem?_eq_getElem (by omega), trivial⟩
    · obtain ⟨v, e1, h1⟩ := st.slot i s e'
      refine ⟨v, e1, ?_⟩
      cases s with
      | ow ds => exact absurd rfl (no ds)
      | no => trivial
      | va d => exact h1
      | scr ns => exact h1
      | raw x => exact h1
      | fz P hP => exact h1
  · rcases l.2 i _ h1 with z | ⟨z, _⟩
    · cases z
    · exact absurd rfl (z es)
end
end Fr
namespace Fr
open PySem PySem.Spec PyProof.Rows L2
variable [TabL]

section
variable (K : PySem.W.Frag)
def Ev (te : TE) (ρ : List Sl) (d : Dt) : Prop := ∀ (M0 H0 : Hp) (σ : L2.St) (H : Hp) (T : List (V × Dt)) (Q : VK), Sta K M0 H0 σ H ρ T → (∀ v H', Sta K M0 H0 σ H' ρ ((v, d) :: T) → Q v H') → te σ H Q
/-- a new list, ours alone -/
def EvN (te : TE) (ρ : List Sl) (ds : List Dt) : Prop := ∀ (M0 H0 : Hp) (σ : L2.St) (H : Hp) (T : List (V × Dt)) (Q : VK), Sta K M0 H0 σ H ρ T → (∀ p H', Sta K M0 H0 (σ ++ [some (.ref p)]) H' (ρ ++ [.own ds]) T → Q (.ref p) H') → te σ H Q
/-- a value, or an exception's class -/
def EvE (E : XK) (te : TE) (ρ : List Sl) (r : Except Value Dt) : Prop := ∀ (M0 H0 : Hp) (σ : L2.St) (H : Hp) (T : List (V × Dt)) (Q : VK), Sta K M0 H0 σ H ρ T →
  (∀ d, r = .ok d → ∀ v H', Sta K M0 H0 σ H' ρ ((v, d) :: T) → Q v H') → (∀ c, r = .error c → ∀ H', AftX M0 H0 H' → E c none H') → te σ H Q
def EvA (ta : TA) (ρ : List Sl) (ds : List Dt) : Prop := ∀ (M0 H0 : Hp) (σ : L2.St) (H : Hp) (T : List (V × Dt)) (Q : List V → Hp → Prop), Sta K M0 H0 σ H ρ T →
  (∀ vs H', Sta K M0 H0 σ H' ρ (vs.zip ds ++ T) → vs.length = ds.length → Q vs H') → ta σ H Q
def EvT (tt : TT) (ρ : List Sl) (b : Bool) : Prop := ∀ (M0 H0 : Hp) (σ : L2.St) (H : Hp) (T : List (V × Dt)) (Q : Bool → Hp → Prop), Sta K M0 H0 σ H ρ T → (∀ H', Sta K M0 H0 σ H' ρ T → Q b H') → tt σ H Q
def EvO (to : TO) (ρ : List Sl) (o : Option Int) : Prop := ∀ (M0 H0 : Hp) (σ : L2.St) (H : Hp) (T : List (V × Dt)) (Q : Option Int → Hp → Prop), Sta K M0 H0 σ H ρ T → (∀ H', Sta K M0 H0 σ H' ρ T → Q o H') → to σ H Q
/-- an operation on two values; one whose answer is a new list -/
def RV (r : R2) (x y z : Dt) : Prop := ∀ (M0 H0 : Hp) (σ : L2.St) (H : Hp) (ρ : List Sl) (T : List (V × Dt)) (Q : VK) (vx vy : V), Sta K M0 H0 σ H ρ T → (vx, x) ∈ T → (vy, y) ∈ T →
  (∀ v H', Sta K M0 H0 σ H' ρ ((v, z) :: T) → Q v H') → r vx vy H Q
def RVN (r : R2) (x y : Dt) (zs : List Dt) : Prop := ∀ (M0 H0 : Hp) (σ : L2.St) (H : Hp) (ρ : List Sl) (T : List (V × Dt)) (Q : VK) (vx vy : V), Sta K M0 H0 σ H ρ T → (vx, x) ∈ T → (vy, y) ∈ T →
  (∀ p H', Sta K M0 H0 (σ ++ [some (.ref p)]) H' (ρ ++ [.own zs]) T → Q (.ref p) H') → r vx vy H Q
def RU (r : V → Hp → VK → Prop) (x z : Dt) : Prop := ∀ (M0 H0 : Hp) (σ : L2.St) (H : Hp) (ρ : List Sl) (T : List (V × Dt)) (Q : VK) (vx : V), Sta K M0 H0 σ H ρ T → (vx, x) ∈ T →
  (∀ v H', Sta K M0 H0 σ H' ρ ((v, z) :: T) → Q v H') → r vx H Q
def RC (r : List V → Hp → VK → Prop) (ds : List Dt) (z : Dt) : Prop := ∀ (M0 H0 : Hp) (σ : L2.St) (H : Hp) (ρ : List Sl) (T : List (V × Dt)) (Q : VK) (vs : List V), Sta K M0 H0 σ H ρ T → (∀ p ∈ vs.zip ds, p ∈ T) → vs.length = ds.length →
  (∀ v H', Sta K M0 H0 σ H' ρ ((v, z) :: T) → Q v H') → r vs H Q
def RCN (r : List V → Hp → VK → Prop) (ds zs : List Dt) : Prop := ∀ (M0 H0 : Hp) (σ : L2.St) (H : Hp) (ρ : List Sl) (T : List (V × Dt)) (Q : VK) (vs : List V), Sta K M0 H0 σ H ρ T → (∀ p ∈ vs.zip ds, p ∈ T) → vs.length = ds.length →
  (∀ p H', Sta K M0 H0 (σ ++ [some (.ref p)]) H' (ρ ++ [.own zs]) T → Q (.ref p) H') → r vs H Q
end
section
variable {K : PySem.W.Frag} {ρ : List Sl} {ta tb te tc : TE} {x y z d : Dt} {t u : TT}
theorem mem2 {α : Type} {a b : α} {l : List α} : b ∈ a :: b :: l := by simp
theorem mem1 {α : Type} {a : α} {l : List α} : a ∈ a :: l := by simp
theorem Ev.e {E : XK} (h : Ev K te ρ d) : EvE K E te ρ (.ok d) := fun M0 H0 σ H T Q s q _ => h M0 H0 σ H T Q s (q d rfl)
theorem EvN.da {ds : List Dt} (h : EvN K te ρ ds) : Ev K te ρ (.list ds) := fun M0 H0 σ H T Q s q => h M0 H0 σ H T Q s fun p H' s' => q _ _ s'.frzL
theorem Ev.to (h : Ev K te ρ d) (e : d = x) : Ev K te ρ x := e ▸ h
theorem EvT.to {a b : Bool} (h : EvT K t ρ a) (e : a = b) : EvT K t ρ b := e ▸ h
theorem EvN.to {ds es : List Dt} (h : EvN K te ρ ds) (e : ds = es) : EvN K te ρ es := e ▸ h
theorem ev_var {i : Nat} (h : ρ[i]? = some (.va d)) : Ev K (tVar i) ρ d := fun M0 H0 σ H T Q s q => by
  obtain ⟨v, e, s'⟩ := s.va h
  exact ⟨v, e, q v H s'⟩
theorem ev_c {v : V} (h : ∀ M, Dn K M v d) : Ev K (tC v) ρ d := fun M0 H0 σ H T Q s q => q v H (s.add fun M _ => h M)
theorem ev_int {i : Int} : Ev K (tC (.int i)) ρ (.int i) := ev_c fun _ => .int i
theorem ev_bl {i : Bool} : Ev K (tC (.bl i)) ρ (.bool i) := ev_c fun _ => .bl i
theorem ev_str {i : Str} : Ev K (tC (.str i)) ρ (.str i) := ev_c fun _ => .str i
theorem ev_non : Ev K (tC .non) ρ .none := ev_c fun _ => .non
theorem ev_op {r : R2} (ha : Ev K ta ρ x) (hb : Ev K tb ρ y) (hr : RV K r x y z) : Ev K (tOp r ta tb) ρ z := fun M0 H0 σ H T Q s q =>
  ha M0 H0 σ H T _ s fun v1 H1 s1 => hb M0 H0 σ H1 _ _ s1 fun v2 H2 s2 => hr M0 H0 σ H2 ρ _ Q v1 v2 s2 mem2 mem1 fun v3 H3 s3 => q v3 H3 (s3.same_sub fun p hp => by
    rcases List.mem_cons.mp hp with e | hp
    · simp [e]
    · simp [hp])
theorem evn_op {r : R2} {zs : List Dt} (ha : Ev K ta ρ x) (hb : Ev K tb ρ y) (hr : RVN K r x y zs) : EvN K (tOp r ta tb) ρ zs := fun M0 H0 σ H T Q s q =>
  ha M0 H0 σ H T _ s fun v1 H1 s1 => hb M0 H0 σ H1 _ _ s1 fun v2 H2 s2 => hr M0 H0 σ H2 ρ _ Q v1 v2 s2 mem2 mem1 fun v3 H3 s3 => q v3 H3 (s3.same_sub fun p hp => by simp [hp])
theorem ev_un {r : V → Hp → VK → Prop} (ha : Ev K ta ρ x) (hr : RU K r x z) : Ev K (tUn r ta) ρ z := fun M0 H0 σ H T Q s q =>
  ha M0 H0 σ H T _ s fun v1 H1 s1 => hr M0 H0 σ H1 ρ _ Q v1 s1 mem1 fun v3 H3 s3 => q v3 H3 (s3.same_sub fun p hp => by
    rcases List.mem_cons.mp hp with e | hp
    · simp [e]
    · simp [hp])
theorem rv_I0 {g : Int → Int → V} {i j : Int} (h : ∀ M, Dn K M (g i j) z) : RV K (rI0 g) (.int i) (.int j) z := fun M0 H0 σ H ρ T Q vx vy s m1 m2 q => by
  obtain ⟨M, _, h1⟩ := s.tmp m1
  obtain ⟨M', _, h2⟩ := s.tmp m2
  exact ⟨i, j, h1.int_inv, h2.int_inv, q _ H (s.add fun M _ => h M)⟩
theorem rv_I {C : Int → Int → Prop} {g : Int → Int → V} {i j : Int} (hc : C i j) (h : ∀ M, Dn K M (g i j) z) : RV K (rI C g) (.int i) (.int j) z := fun M0 H0 σ H ρ T Q vx vy s m1 m2 q => by
  obtain ⟨M, _, h1⟩ := s.tmp m1
  obtain ⟨M', _, h2⟩ := s.tmp m2
  exact ⟨i, j, h1.int_inv, h2.int_inv, hc, q _ H (s.add fun M _ => h M)⟩
theorem ru_I {g : Int → V} {i : Int} (h : ∀ M, Dn K M (g i) z) : RU K (rU g) (.int i) z := fun M0 H0 σ H ρ T Q vx s m1 q => by
  obtain ⟨M, _, h1⟩ := s.tmp m1
  exact ⟨i, h1.int_inv, q _ H (s.add fun M _ => h M)⟩
theorem rv_eqI {i j : Int} : RV K rEq (.int i) (.int j) (.bool (decide (i = j))) := fun M0 H0 σ H ρ T Q vx vy s m1 m2 q => by
  obtain ⟨M, _, h1⟩ := s.tmp m1
  obtain ⟨M', _, h2⟩ := s.tmp m2
  rw [h1.int_inv, h2.int_inv]
  refine ⟨rfl, q _ H (s.add fun M _ => ?_)⟩
  rw [show decide (V.int i = V.int j) = decide (i = j) by simp]
  exact .bl _
theorem rv_neI {i j : Int} : RV K rNe (.int i) (.int j) (.bool (!decide (i = j))) := fun M0 H0 σ H ρ T Q vx vy s m1 m2 q => by
  obtain ⟨M, _, h1⟩ := s.tmp m1
  obtain ⟨M', _, h2⟩ := s.tmp m2
  rw [h1.int_inv, h2.int_inv]
  refine ⟨rfl, q _ H (s.add fun M _ => ?_)⟩
  rw [show decide (V.int i = V.int j) = decide (i = j) by simp]
  exact .bl _
theorem rv_eqS {i j : Str} : RV K rEq (.str i) (.str j) (.bool (decide (i = j))) := fun M0 H0 σ H ρ T Q vx vy s m1 m2 q => by
  obtain ⟨M, _, h1⟩ := s.tmp m1
  obtain ⟨M', _, h2⟩ := s.tmp m2
  rw [h1.str_inv, h2.str_inv]
  refine ⟨rfl, q _ H (s.add fun M _ => ?_)⟩
  rw [show decide (V.str i = V.str j) = decide (i = j) by simp]
  exact .bl _
theorem rv_neS {i j : Str} : RV K rNe (.str i) (.str j) (.bool (!decide (i = j))) := fun M0 H0 σ H ρ T Q vx vy s m1 m2 q => by
  obtain ⟨M, _, h1⟩ := s.tmp m1
  obtain ⟨M', _, h2⟩ := s.tmp m2
  rw [h1.str_inv, h2.str_inv]
  refine ⟨rfl, q _ H (s.add fun M _ => ?_)⟩
  rw [show decide (V.str i = V.str j) = decide (i = j) by simp]
  exact .bl _
theorem rv_neB {i j : Bool} : RV K rNe (.bool i) (.bool j) (.bool (!decide (i = j))) := fun M0 H0 σ H ρ T Q vx vy s m1 m2 q => by
  obtain ⟨M, _, h1⟩ := s.tmp m1
  obtain ⟨M', _, h2⟩ := s.tmp m2
  rw [h1.bl_inv, h2.bl_inv]
  refine ⟨rfl, q _ H (s.add fun M _ => ?_)⟩
  rw [show decide (V.bl i = V.bl j) = decide (i = j) by simp]
  exact .bl _
theorem rv_eqD (h1 : SeqAt.shaped x = true) (h2 : SeqAt.shaped y = true) : RV K (rEqD K) x y (.bool (PyData.eqv x y)) := fun M0 H0 σ H ρ T Q vx vy s m1 m2 q => by
  obtain ⟨M, st⟩ := id s
  exact ⟨x, y, ((st.at m1).mono st.bs.mh).dp, ((st.at m2).mono st.bs.mh).dp, h1, h2, q _ H (s.add fun M _ => .bl _)⟩
theorem rv_neD (h1 : SeqAt.shaped x = true) (h2 : SeqAt.shaped y = true) : RV K (rNeD K) x y (.bool (!PyData.eqv x y)) := fun M0 H0 σ H ρ T Q vx vy s m1 m2 q => by
  obtain ⟨M, st⟩ := id s
  exact ⟨x, y, ((st.at m1).mono st.bs.mh).dp, ((st.at m2).mono st.bs.mh).dp, h1, h2, q _ H (s.add fun M _ => .bl _)⟩
def isN : Dt → Bool
  | .none => true
  | _ => false
theorem Dn.isN {M : Hp} {v : V} (h : Dn K M v d) : decide (v = .non) = Fr.isN d := by
  cases h <;> simp [Fr.isN]
theorem rv_isN : RV K (fun x y H Q => y = .non ∧ Q (.bl (decide (x = .non))) H) d .none (.bool (isN d)) := fun M0 H0 σ H ρ T Q vx vy s m1 m2 q => by
  obtain ⟨M, _, h1⟩ := s.tmp m1
  obtain ⟨M', _, h2⟩ := s.tmp m2
  exact ⟨h2.non_inv, q _ H (s.add fun M _ => by rw [h1.isN]; exact .bl _)⟩
theorem rv_notN : RV K (fun x y H Q => y = .non ∧ Q (.bl (!decide (x = .non))) H) d .none (.bool (!isN d)) := fun M0 H0 σ H ρ T Q vx vy s m1 m2 q => by
  obtain ⟨M, _, h1⟩ := s.tmp m1
  obtain ⟨M', _, h2⟩ := s.tmp m2
  exact ⟨h2.non_inv, q _ H (s.add fun M _ => by rw [h1.isN]; exact .bl _)⟩
theorem DnA.at {M : Hp} {vs : List V} {ds : List Dt} {i : Int} (h : DnA K M vs ds) (e : atI ds i = some d) : ∃ v, atI vs i = some v ∧ Dn K M v d := by
  unfold atI at e ⊢
  rw [h.len]
  cases q : ixN ds.length i with
  | none => rw [q] at e; cases e
  | some j =>
    rw [q] at e
    exact h.get e
theorem rv_ixT {ds : List Dt} {i : Int} (e : atI ds i = some d) : RV K (rIxT K) (.tuple ds) (.int i) d := fun M0 H0 σ H ρ T Q vx vy s m1 m2 q => by
  obtain ⟨M, st⟩ := id s
  obtain ⟨a, vs, rfl, h1, h2⟩ := (st.at m1).tup_inv
  obtain ⟨v, ev, hv⟩ := h2.at e
  refine ⟨a, vs, i, v, rfl, (st.at m2).int_inv, sqT_mono st.bs.mh h1, ev, q v H ⟨M, st.grow (Bs.refl st.bs.kn) fun p hp => ?_⟩⟩
  rcases List.mem_cons.mp hp with e | hp
  · subst e; exact hv
  · exact st.tmp p hp
theorem rv_ixL {ds : List Dt} {i : Int} (e : atI ds i = some d) : RV K (rIxL K) (.list ds) (.int i) d := fun M0 H0 σ H ρ T Q vx vy s m1 m2 q => by
  obtain ⟨M, st⟩ := id s
  obtain ⟨a, vs, rfl, h1, h2⟩ := (st.at m1).lst_inv
  obtain ⟨v, ev, hv⟩ := h2.at e
  refine ⟨a, vs, i, v, rfl, (st.at m2).int_inv, SqL.of (st.bs.mh _ _ h1), ev, q v H ⟨M, st.grow (Bs.refl st.bs.kn) fun p hp => ?_⟩⟩
  rcases List.mem_cons.mp hp with e | hp
  · subst e; exact hv
  · exact st.tmp p hp
/-- xs[j], xs a list of ours -/
theorem ev_ixO {i : Nat} {ds : List Dt} {j : Int} (h : ρ[i]? = some (.own ds)) (hb : Ev K tb ρ (.int j)) (e : atI ds j = some d) : Ev K (tOp (rIxL K) (tVar i) tb) ρ d := fun M0 H0 σ H T Q s q => by
  obtain ⟨a, vs, M, e1, _, st, _⟩ := s.own h
  refine ⟨_, e1, hb M0 H0 σ H T _ ⟨M, st⟩ fun v2 H2 s2 => ?_⟩
  obtain ⟨a', vs', M2, e1', h2, st2, hd⟩ := s2.own h
  rw [e1] at e1'
  cases e1'
  obtain ⟨v, ev, hv⟩ := hd.at e
  refine ⟨a, vs', j, v, rfl, (st2.at mem1).int_inv, SqL.of h2, ev, q v H2 ⟨M2, st2.grow (Bs.refl st2.bs.kn) fun p hp => ?_⟩⟩
  rcases List.mem_cons.mp hp with e | hp
  · subst e; exact hv
  · exact st2.tmp p (List.mem_cons_of_mem _ hp)
theorem eqV_int (a b : Int) : eqV (V.int a) (V.int b) = (a == b) := by
  first | rfl | simp [eqV]
theorem rv_inL {i : Int} {ns : List Int} {neg : Bool} : RV K (rIn K neg) (.int i) (.list (ns.map PyData.int)) (.bool (if neg then !ns.contains i else ns.contains i)) := fun M0 H0 σ H ρ T Q vx vy s m1 m2 q => by
  obtain ⟨M, st⟩ := id s
  obtain ⟨a, vs, rfl, h1, h2⟩ := (st.at m2).lst_inv
  obtain rfl : vx = .int i := (st.at m1).int_inv
  have ev := h2.ints
  subst ev
  have e1 : inV (.int i) (ns.map V.int) = ns.contains i := by
    unfold inV
    clear m2 h1 h2 q
    induction ns with
    | nil => rfl
    | cons n ns ih =>
      rw [List.map_cons, List.any_cons, ih, List.contains_cons, eqV_int]
      congr 1
      exact Bool.beq_comm ..
  refine ⟨a, _, rfl, .inl (SqL.of (st.bs.mh _ _ h1)), rfl, by rw [List.all_map]; exact List.all_eq_true.mpr fun _ _ => rfl, q _ H (s.add fun M _ => ?_)⟩
  rw [e1]
  exact .bl _

theorem et_test {b : Bool} (h : Ev K te ρ (.bool b)) : EvT K (tTest te) ρ b := fun M0 H0 σ H T Q s q => h M0 H0 σ H T _ s fun v H' s' => by
  obtain ⟨M, _, hv⟩ := s'.tmp mem1
  exact ⟨b, hv.bl_inv, q H' (s'.same_sub fun p hp => by simp [hp])⟩
theorem et_B {b : Bool} (h : Ev K te ρ (.bool b)) : EvT K (tB te) ρ b := fun M0 H0 σ H T Q s q => h M0 H0 σ H T _ s fun v H' s' => by
  obtain ⟨M, _, hv⟩ := s'.tmp mem1
  exact ⟨b, hv.bl_inv, q H' (s'.same_sub fun p hp => by simp [hp])⟩
theorem et_and {a b : Bool} (h1 : EvT K t ρ a) (h2 : a = true → EvT K u ρ b) : EvT K (tAnd t u) ρ (a && b) := fun M0 H0 σ H T Q s q => h1 M0 H0 σ H T _ s fun H' s' => by
  cases a with
  | true => exact h2 rfl M0 H0 σ H' T Q s' q
  | false => exact q H' s'
theorem et_or {a b : Bool} (h1 : EvT K t ρ a) (h2 : a = false → EvT K u ρ b) : EvT K (tOr t u) ρ (a || b) := fun M0 H0 σ H T Q s q => h1 M0 H0 σ H T _ s fun H' s' => by
  cases a with
  | true => exact q H' s'
  | false => exact h2 rfl M0 H0 σ H' T Q s' q
theorem et_not {a : Bool} (h1 : EvT K t ρ a) : EvT K (tNot t) ρ (!a) := fun M0 H0 σ H T Q s q => h1 M0 H0 σ H T _ s q
theorem ev_notV {a : Bool} (h1 : Ev K ta ρ (.bool a)) : Ev K (tNotV ta) ρ (.bool (!a)) := fun M0 H0 σ H T Q s q => h1 M0 H0 σ H T _ s fun v H' s' => by
  obtain ⟨M, _, hv⟩ := s'.tmp mem1
  exact ⟨a, hv.bl_inv, q _ H' ((s'.same_sub (fun p hp => by simp [hp])).add fun M _ => .bl _)⟩
theorem ev_andV {a b : Bool} (h1 : Ev K ta ρ (.bool a)) (h2 : a = true → Ev K tb ρ (.bool b)) : Ev K (tAndV ta tb) ρ (.bool (a && b)) := fun M0 H0 σ H T Q s q => h1 M0 H0 σ H T _ s fun v H' s' => by
  obtain ⟨M, _, hv⟩ := s'.tmp mem1
  have s2 : Sta K M0 H0 σ H' ρ T := s'.same_sub (fun p hp => by simp [hp])
  refine ⟨a, hv.bl_inv, ?_⟩
  cases a with
  | true => exact h2 rfl M0 H0 σ H' T Q s2 q
  | false => exact q _ H' (s2.add fun M _ => .bl _)
theorem ev_orV {a b : Bool} (h1 : Ev K ta ρ (.bool a)) (h2 : a = false → Ev K tb ρ (.bool b)) : Ev K (tOrV ta tb) ρ (.bool (a || b)) := fun M0 H0 σ H T Q s q => h1 M0 H0 σ H T _ s fun v H' s' => by
  obtain ⟨M, _, hv⟩ := s'.tmp mem1
  have s2 : Sta K M0 H0 σ H' ρ T := s'.same_sub (fun p hp => by simp [hp])
  refine ⟨a, hv.bl_inv, ?_⟩
  cases a with
  | true => exact q _ H' (s2.add fun M _ => .bl _)
  | false => exact h2 rfl M0 H0 σ H' T Q s2 q
theorem ev_if {b : Bool} (h : EvT K t ρ b) (h1 : b = true → Ev K ta ρ x) (h2 : b = false → Ev K tb ρ y) : Ev K (tIf t ta tb) ρ (if b then x else y) := fun M0 H0 σ H T Q s q => h M0 H0 σ H T _ s fun H' s' => by
  cases b with
  | true => exact h1 rfl M0 H0 σ H' T Q s' q
  | false => exact h2 rfl M0 H0 σ H' T Q s' q
/-- a < b <= c of whole numbers -/
theorem ev_chain {g g' : Int → Int → Bool} {i j k : Int} (ha : Ev K ta ρ (.int i)) (hb : Ev K tb ρ (.int j)) (hc : Ev K tc ρ (.int k)) :
    Ev K (tChain (rI0 fun i j => .bl (g i j)) (rI0 fun i j => .bl (g' i j)) ta tb tc) ρ (.bool (g i j && g' j k)) := fun M0 H0 σ H T Q s q =>
  ha M0 H0 σ H T _ s fun v1 H1 s1 => hb M0 H0 σ H1 _ _ s1 fun v2 H2 s2 => by
    obtain ⟨M, st⟩ := id s2
    refine ⟨i, j, (st.at mem2).int_inv, (st.at mem1).int_inv, g i j, rfl, ?_⟩
    cases e : g i j with
    | false =>
      rw [if_neg Bool.false_ne_true]
      exact q _ H2 ((s2.same_sub fun p hp => by simp [hp]).add fun M _ => by rw [e, Bool.false_and]; exact .bl _)
    | true =>
      rw [if_pos rfl]
      refine hc M0 H0 σ H2 _ _ s2 fun v3 H3 s3 => ?_
      obtain ⟨M3, st3⟩ := id s3
      exact ⟨j, k, (st.at mem1).int_inv, (st3.at mem1).int_inv, q _ H3 ((s3.same_sub fun p hp => by simp [hp]).add fun M _ => by rw [e, Bool.true_and]; exact .bl _)⟩

theorem ea_nil : EvA K tNil ρ [] := fun M0 H0 σ H T Q s q => q [] H s rfl
theorem ea_cons {tr : TA} {ds : List Dt} (h : Ev K ta ρ d) (hr : EvA K tr ρ ds) : EvA K (tCons ta tr) ρ (d :: ds) := fun M0 H0 σ H T Q s q =>
  h M0 H0 σ H T _ s fun v H1 s1 => hr M0 H0 σ H1 _ _ s1 fun vs H2 s2 l => q (v :: vs) H2 (s2.same_sub fun p hp => by
    rw [List.zip_cons_cons, List.cons_append] at hp
    rcases List.mem_cons.mp hp with e | hp
    · simp [e]
    · rcases List.mem_append.mp hp with hp | hp <;> simp [hp]) (by simp [l])
theorem app_l {α : Type} {a b : List α} : ∀ p ∈ a, p ∈ a ++ b := fun p hp => by simp [hp]
theorem ev_tup {ta : TA} {ds : List Dt} (h : EvA K ta ρ ds) (hl : ds.length ≤ 1000000) : Ev K (tTup ta) ρ (.tuple ds) := fun M0 H0 σ H T Q s q => h M0 H0 σ H T _ s fun vs H1 s1 l => by
  refine ⟨by rw [l, sizeLine_eq]; omega, fun p hp => ?_⟩
  obtain ⟨M, st, hd⟩ := s1.tmpA (vs := vs) (ds := ds) app_l l
  have b := bs_new (o := .tup vs) st.bs.kn hp
  refine q _ _ ⟨_, st.grow b fun p' hp' => ?_⟩
  rcases List.mem_cons.mp hp' with e | hp'
  · subst e; exact .tup (.inl (.inl upd_same)) (hd.mono b.mm)
  · exact (st.tmp p' (by simp [hp'])).mono b.mm
theorem StM.sub {M M0 H0 H : Hp} {σ : L2.St} {T T' : List (V × Dt)} (st : StM K M0 H0 σ H ρ T M) (h : ∀ p ∈ T', p ∈ T) : StM K M0 H0 σ H ρ T' M := ⟨st.bs, st.len, st.slot, st.dis, fun p hp => st.tmp p (h p hp)⟩
theorem evn_lst {ta : TA} {ds : List Dt} (h : EvA K ta ρ ds) (hl : ds.length ≤ 1000000) : EvN K (tLst ta) ρ ds := fun M0 H0 σ H T Q s q => h M0 H0 σ H T _ s fun vs H1 s1 l => by
  refine ⟨by rw [l, sizeLine_eq]; omega, fun p hp => ?_⟩
  obtain ⟨M, st, hd⟩ := s1.tmpA (vs := vs) (ds := ds) app_l l
  exact q _ _ ⟨M, (st.newO hp hd).sub fun p' hp' => by simp [hp']⟩
theorem ev_cb {r : List V → Hp → VK → Prop} {ta : TA} {ds : List Dt} (h : EvA K ta ρ ds) (hr : RC K r ds z) : Ev K (tCB r ta) ρ z := fun M0 H0 σ H T Q s q => h M0 H0 σ H T _ s fun vs H1 s1 l =>
  hr M0 H0 σ H1 ρ _ Q vs s1 app_l l fun v H2 s2 => q v H2 (s2.same_sub fun p hp => by
    rcases List.mem_cons.mp hp with e | hp
    · simp [e]
    · simp [hp])
theorem evn_cb {r : List V → Hp → VK → Prop} {ta : TA} {ds zs : List Dt} (h : EvA K ta ρ ds) (hr : RCN K r ds zs) : EvN K (tCB r ta) ρ zs := fun M0 H0 σ H T Q s q => h M0 H0 σ H T _ s fun vs H1 s1 l =>
  hr M0 H0 σ H1 ρ _ Q vs s1 app_l l fun v H2 s2 => q v H2 (s2.same_sub fun p hp => by simp [hp])
/-- a def's promise: Pr of the arguments and what comes of them -/
def spD (K : PySem.W.Frag) (Pr : List Dt → Except Value Dt → Prop) : Sp := fun vs H Q E => ∃ (M : Hp) (ds : List Dt) (r : Except Value Dt), Kn M H ∧ DnA K M vs ds ∧ Pr ds r ∧
  (∀ d, r = .ok d → ∀ v H', Aft K M H v H' d → Q v H') ∧ (∀ c, r = .error c → ∀ H', AftX M H H' → E c none H')
theorem ev_call {Pr : List Dt → Except Value Dt → Prop} {E : XK} {ta : TA} {ds : List Dt} (h : EvA K ta ρ ds) (hp : Pr ds (.ok d)) : Ev K (tCall (spD K Pr) [] E ta) ρ d := fun M0 H0 σ H T Q s q => h M0 H0 σ H T _ s fun vs H1 s1 l => by
  obtain ⟨M, st, hd⟩ := s1.tmpA (vs := vs) (ds := ds) app_l l
  refine ⟨M, ds, .ok d, st.bs.kn, by rw [List.append_nil]; exact hd, hp, fun d' e v H' ⟨M', b, hv⟩ => ?_, fun c e => by cases e⟩
  cases e
  refine q v H' ⟨M', st.grow b fun p hp => ?_⟩
  rcases List.mem_cons.mp hp with e | hp
  · subst e; exact hv
  · exact (st.tmp p (by simp [hp])).mono b.mm
theorem eve_call {Pr : List Dt → Except Value Dt → Prop} {E : XK} {ta : TA} {ds : List Dt} {r : Except Value Dt} (h : EvA K ta ρ ds) (hp : Pr ds r) : EvE K E (tCall (spD K Pr) [] E ta) ρ r := fun M0 H0 σ H T Q s q qx => h M0 H0 σ H T _ s fun vs H1 s1 l => by
  obtain ⟨M, st, hd⟩ := s1.tmpA (vs := vs) (ds := ds) app_l l
  refine ⟨M, ds, r, st.bs.kn, by rw [List.append_nil]; exact hd, hp, fun d' e v H' ⟨M', b, hv⟩ => ?_, fun c e H' ⟨M', b⟩ => qx c e H' ⟨M', st.bs.trans b⟩⟩
  refine q d' e v H' ⟨M', st.grow b fun p hp => ?_⟩
  rcases List.mem_cons.mp hp with e | hp
  · subst e; exact hv
  · exact (st.tmp p (by simp [hp])).mono b.mm
end
end Fr
namespace Fr
open PySem PySem.Spec PyProof.Rows L2
variable [TabL]
section
variable {K : PySem.W.Frag} {ρ : List Sl} {ta tb te tc : TE} {x y z d : Dt} {t u : TT}
/-- a new list as an answer -/
theorem Sta.fresh {M0 H0 H : Hp} {σ : L2.St} {T : List (V × Dt)} {p : Addr} {vs : List V} {ds : List Dt} (s : Sta K M0 H0 σ H ρ T) (n : H p = none) (h : ∀ M, StM K M0 H0 σ H ρ T M → DnA K M vs ds) :
    Sta K M0 H0 (σ ++ [some (.ref p)]) (upd H p (.lst vs)) (ρ ++ [.own ds]) T := by
  obtain ⟨M, st⟩ := s
  exact ⟨M, st.newO n (h M st)⟩
theorem rc_one {α : Prop} {vs : List V} {d : Dt} {T : List (V × Dt)} (l : vs.length = [d].length) (m : ∀ p ∈ vs.zip [d], p ∈ T) (k : ∀ v, vs = [v] → (v, d) ∈ T → α) : α := by
  match vs, l with
  | [v], _ => exact k v rfl (m (v, d) (by simp))
theorem rc_two {α : Prop} {vs : List V} {d e : Dt} {T : List (V × Dt)} (l : vs.length = [d, e].length) (m : ∀ p ∈ vs.zip [d, e], p ∈ T) (k : ∀ v w, vs = [v, w] → (v, d) ∈ T → (w, e) ∈ T → α) : α := by
  match vs, l with
  | [v, w], _ => exact k v w rfl (m (v, d) (by simp)) (m (w, e) (by simp))
/-- len -/
abbrev rLenQ (K : PySem.W.Frag) : List V → Hp → VK → Prop := fun xs H Q => ∃ p ys, xs = [.ref p] ∧ (SqL K H p ys ∨ SqT K H p ys) ∧ Q (.int ys.length) H
theorem rc_lenL {ds : List Dt} : RC K (rLenQ K) [.list ds] (.int ds.length) := fun M0 H0 σ H ρ T Q vs s m l q => rc_one l m fun v e hv => by
  obtain ⟨M, st⟩ := id s
  obtain ⟨a, ws, rfl, h1, h2⟩ := (st.at hv).lst_inv
  exact ⟨a, ws, e, .inl (SqL.of (st.bs.mh _ _ h1)), q _ H (s.add fun M _ => by rw [h2.len]; exact .int _)⟩
theorem rc_lenT {ds : List Dt} : RC K (rLenQ K) [.tuple ds] (.int ds.length) := fun M0 H0 σ H ρ T Q vs s m l q => rc_one l m fun v e hv => by
  obtain ⟨M, st⟩ := id s
  obtain ⟨a, ws, rfl, h1, h2⟩ := (st.at hv).tup_inv
  exact ⟨a, ws, e, .inr (sqT_mono st.bs.mh h1), q _ H (s.add fun M _ => by rw [h2.len]; exact .int _)⟩
theorem ev_lenO {i : Nat} {ds : List Dt} (h : ρ[i]? = some (.own ds)) : Ev K (tCB (rLenQ K) (tCons (tVar i) tNil)) ρ (.int ds.length) := fun M0 H0 σ H T Q s q => by
  obtain ⟨a, vs, M, e1, h1, st, hd⟩ := s.own h
  exact ⟨_, e1, a, vs, rfl, .inl (SqL.of h1), q _ H (s.add fun M _ => by rw [hd.len]; exact .int _)⟩
theorem ev_lenS {i : Nat} {ns : List Int} (h : ρ[i]? = some (.scr ns)) : Ev K (tCB (rLenQ K) (tCons (tVar i) tNil)) ρ (.int ns.length) := fun M0 H0 σ H T Q s q => by
  obtain ⟨M, st⟩ := id s
  obtain ⟨v, e1, a, rfl, h1⟩ := st.slot i _ h
  exact ⟨_, e1, a, _, rfl, .inl (st.bs.mh.seq h1), q _ H (s.add fun M _ => by rw [List.length_map]; exact .int _)⟩
/-- tuple(..), list(..) -/
abbrev rTupQ (K : PySem.W.Frag) : List V → Hp → VK → Prop := fun xs H Q => ∃ p ys, xs = [.ref p] ∧ ((SqL K H p ys ∧ ∀ l, H l = none → Q (.ref l) (upd H l (.tup ys))) ∨ (SqT K H p ys ∧ Q (.ref p) H))
theorem rc_tupL {ds : List Dt} : RC K (rTupQ K) [.list ds] (.tuple ds) := fun M0 H0 σ H ρ T Q vs s m l q => rc_one l m fun v e hv => by
  obtain ⟨M, st⟩ := id s
  obtain ⟨a, ws, rfl, h1, h2⟩ := (st.at hv).lst_inv
  refine ⟨a, ws, e, .inl ⟨SqL.of (st.bs.mh _ _ h1), fun p hp => ?_⟩⟩
  have b := bs_new (o := .tup ws) st.bs.kn hp
  refine q _ _ ⟨_, st.grow b fun p' hp' => ?_⟩
  rcases List.mem_cons.mp hp' with e | hp'
  · subst e; exact .tup (.inl (.inl upd_same)) (h2.mono b.mm)
  · exact (st.tmp p' hp').mono b.mm
theorem rc_tupT {ds : List Dt} : RC K (rTupQ K) [.tuple ds] (.tuple ds) := fun M0 H0 σ H ρ T Q vs s m l q => rc_one l m fun v e hv => by
  obtain ⟨M, st⟩ := id s
  obtain ⟨a, ws, rfl, h1, h2⟩ := (st.at hv).tup_inv
  exact ⟨a, ws, e, .inr ⟨sqT_mono st.bs.mh h1, q _ H (s.same_sub fun p hp => by
    rcases List.mem_cons.mp hp with e | hp
    · rw [e]; exact hv
    · exact hp)⟩⟩
abbrev rListQ (K : PySem.W.Frag) : List V → Hp → VK → Prop := fun xs H Q => ∃ p ys, xs = [.ref p] ∧ (SqL K H p ys ∨ SqT K H p ys) ∧ ∀ l, H l = none → Q (.ref l) (upd H l (.lst ys))
theorem rcn_listL {ds : List Dt} : RCN K (rListQ K) [.list ds] ds := fun M0 H0 σ H ρ T Q vs s m l q => rc_one l m fun v e hv => by
  obtain ⟨M, st⟩ := id s
  obtain ⟨a, ws, rfl, h1, h2⟩ := (st.at hv).lst_inv
  exact ⟨a, ws, e, .inl (SqL.of (st.bs.mh _ _ h1)), fun p hp => q _ _ ⟨M, st.newO hp h2⟩⟩
theorem rcn_listT {ds : List Dt} : RCN K (rListQ K) [.tuple ds] ds := fun M0 H0 σ H ρ T Q vs s m l q => rc_one l m fun v e hv => by
  obtain ⟨M, st⟩ := id s
  obtain ⟨a, ws, rfl, h1, h2⟩ := (st.at hv).tup_inv
  exact ⟨a, ws, e, .inr (sqT_mono st.bs.mh h1), fun p hp => q _ _ ⟨M, st.newO hp h2⟩⟩
/-- all, any, sum, max, min -/
theorem rc_all {bs : List Bool} : RC K (rAll K) [.list (bs.map PyData.bool)] (.bool (bs.all id)) := fun M0 H0 σ H ρ T Q vs s m l q => rc_one l m fun v e hv => by
  obtain ⟨M, st⟩ := id s
  obtain ⟨a, ws, rfl, h1, h2⟩ := (st.at hv).lst_inv
  have ew := h2.bools
  subst ew
  exact ⟨a, bs, e, SqL.of (st.bs.mh _ _ h1), q _ H (s.add fun M _ => .bl _)⟩
theorem rc_any {bs : List Bool} : RC K (rAny K) [.list (bs.map PyData.bool)] (.bool (bs.any id)) := fun M0 H0 σ H ρ T Q vs s m l q => rc_one l m fun v e hv => by
  obtain ⟨M, st⟩ := id s
  obtain ⟨a, ws, rfl, h1, h2⟩ := (st.at hv).lst_inv
  have ew := h2.bools
  subst ew
  exact ⟨a, bs, e, SqL.of (st.bs.mh _ _ h1), q _ H (s.add fun M _ => .bl _)⟩
theorem rc_sum {ns : List Int} : RC K (rSum K) [.list (ns.map PyData.int)] (.int ns.sum) := fun M0 H0 σ H ρ T Q vs s m l q => rc_one l m fun v e hv => by
  obtain ⟨M, st⟩ := id s
  obtain ⟨a, ws, rfl, h1, h2⟩ := (st.at hv).lst_inv
  have ew := h2.ints
  subst ew
  exact ⟨a, ns, e, SqL.of (st.bs.mh _ _ h1), q _ H (s.add fun M _ => .int _)⟩
/-- the greatest, the least -/
def maxI : List Int → Int
  | [] => 0
  | x :: r => r.foldl max x
def minI : List Int → Int
  | [] => 0
  | x :: r => r.foldl min x
theorem foldl_max (r : List Int) : ∀ x : Int, (r.foldl max x = x ∨ r.foldl max x ∈ r) ∧ x ≤ r.foldl max x ∧ ∀ y ∈ r, y ≤ r.foldl max x := by
  induction r with
  | nil => intro x; simp
  | cons y r ih =>
    intro x
    obtain ⟨h1, h2, h3⟩ := ih (max x y)
    simp only [List.foldl_cons, List.mem_cons]
    refine ⟨?_, by omega, fun z hz => ?_⟩
    · rcases h1 with h1 | h1
      · rw [h1]; omega
      · exact .inr (.inr h1)
    · rcases hz with rfl | hz
      · omega
      · exact h3 z hz
theorem foldl_min (r : List Int) : ∀ x : Int, (r.foldl min x = x ∨ r.foldl min x ∈ r) ∧ r.foldl min x ≤ x ∧ ∀ y ∈ r, r.foldl min x ≤ y := by
  induction r with
  | nil => intro x; simp
  | cons y r ih =>
    intro x
    obtain ⟨h1, h2, h3⟩ := ih (min x y)
    simp only [List.foldl_cons, List.mem_cons]
    refine ⟨?_, by omega, fun z hz => ?_⟩
    · rcases h1 with h1 | h1
      · rw [h1]; omega
      · exact .inr (.inr h1)
    · rcases hz with rfl | hz
      · omega
      · exact h3 z hz
theorem maxI_mem {ns : List Int} (h : ns ≠ []) : maxI ns ∈ ns := by
  match ns, h with
  | x :: r, _ =>
    rcases (foldl_max r x).1 with e | e
    · show r.foldl max x ∈ x :: r
      rw [e]; simp
    · exact List.mem_cons_of_mem _ e
theorem le_maxI {ns : List Int} {y : Int} (h : y ∈ ns) : y ≤ maxI ns := by
  match ns, h with
  | x :: r, h =>
    rcases List.mem_cons.mp h with rfl | h
    · exact (foldl_max r y).2.1
    · exact (foldl_max r x).2.2 y h
theorem minI_mem {ns : List Int} (h : ns ≠ []) : minI ns ∈ ns := by
  match ns, h with
  | x :: r, _ =>
    rcases (foldl_min r x).1 with e | e
    · show r.foldl min x ∈ x :: r
      rw [e]; simp
    · exact List.mem_cons_of_mem _ e
theorem minI_le {ns : List Int} {y : Int} (h : y ∈ ns) : minI ns ≤ y := by
  match ns, h with
  | x :: r, h =>
    rcases List.mem_cons.mp h with rfl | h
    · exact (foldl_min r y).2.1
    · exact (foldl_min r x).2.2 y h
theorem rc_max {ns : List Int} (h0 : 0 < ns.length) : RC K (rMax K) [.list (ns.map PyData.int)] (.int (maxI ns)) := fun M0 H0 σ H ρ T Q vs s m l q => rc_one l m fun v e hv => by
  obtain ⟨M, st⟩ := id s
  obtain ⟨a, ws, rfl, h1, h2⟩ := (st.at hv).lst_inv
  have ew := h2.ints
  subst ew
  refine ⟨a, ns, e, SqL.of (st.bs.mh _ _ h1), h0, fun k hk hle => ?_⟩
  have ne : ns ≠ [] := by intro z; subst z; simp at h0
  have ek : k = maxI ns := Int.le_antisymm (le_maxI hk) (hle _ (maxI_mem ne))
  rw [ek]
  exact q _ H (s.add fun M _ => .int _)
theorem rc_min {ns : List Int} (h0 : 0 < ns.length) : RC K (rMin K) [.list (ns.map PyData.int)] (.int (minI ns)) := fun M0 H0 σ H ρ T Q vs s m l q => rc_one l m fun v e hv => by
  obtain ⟨M, st⟩ := id s
  obtain ⟨a, ws, rfl, h1, h2⟩ := (st.at hv).lst_inv
  have ew := h2.ints
  subst ew
  refine ⟨a, ns, e, SqL.of (st.bs.mh _ _ h1), h0, fun k hk hle => ?_⟩
  have ne : ns ≠ [] := by intro z; subst z; simp at h0
  have ek : k = minI ns := Int.le_antisymm (hle _ (minI_mem ne)) (minI_le hk)
  rw [ek]
  exact q _ H (s.add fun M _ => .int _)
theorem rc_max2 {i j : Int} : RC K (fun xs H Q => ∃ i j, xs = [.int i, .int j] ∧ Q (.int (if j > i then j else i)) H) [.int i, .int j] (.int (max i j)) := fun M0 H0 σ H ρ T Q vs s m l q => rc_two l m fun v w e hv hw => by
  obtain ⟨M, st⟩ := id s
  refine ⟨i, j, by rw [e, (st.at hv).int_inv, (st.at hw).int_inv], ?_⟩
  rw [show (if j > i then j else i) = max i j by split <;> omega]
  exact q _ H (s.add fun M _ => .int _)
theorem rc_min2 {i j : Int} : RC K (fun xs H Q => ∃ i j, xs = [.int i, .int j] ∧ Q (.int (if j < i then j else i)) H) [.int i, .int j] (.int (min i j)) := fun M0 H0 σ H ρ T Q vs s m l q => rc_two l m fun v w e hv hw => by
  obtain ⟨M, st⟩ := id s
  refine ⟨i, j, by rw [e, (st.at hv).int_inv, (st.at hw).int_inv], ?_⟩
  rw [show (if j < i then j else i) = min i j by split <;> omega]
  exact q _ H (s.add fun M _ => .int _)
theorem rc_intB {b : Bool} : RC K (fun xs H Q => (∃ i, xs = [.int i] ∧ Q (.int i) H) ∨ ∃ k, xs = [.bl k] ∧ Q (.int (if k then 1 else 0)) H) [.bool b] (.int (if b then 1 else 0)) := fun M0 H0 σ H ρ T Q vs s m l q => rc_one l m fun v e hv => by
  obtain ⟨M, st⟩ := id s
  exact .inr ⟨b, by rw [e, (st.at hv).bl_inv], q _ H (s.add fun M _ => .int _)⟩
/-- isinstance against a built-in class -/
def tyD : Dt → String
  | .none => "NoneType"
  | .bool _ => "bool"
  | .int _ => "int"
  | .str _ => "str"
  | .list _ => "list"
  | .tuple _ => "tuple"
  | .dict _ => "dict"
theorem Dn.ty {M H : Hp} {v : V} {d : Dt} (m : Same M H) (h : Dn K M v d) : TyX K H v (.type (tyD d)) := by
  cases h with
  | non => exact .base .non
  | bl b => exact .base (.bl b)
  | int i => exact .base (.int i)
  | str x => exact .base (.str x)
  | lst h1 h2 => exact .base (.lst (m _ _ h1))
  | tup h1 h2 =>
    rcases sqT_mono m h1 with (h | ⟨o, h⟩) | ⟨o, its, n, h, c, _⟩
    · exact .base (.tup h)
    · exact .fTuple h
    · exact .kTuple h c
def isiD (d : Dt) (n : String) : Bool := (kitB (tyD d) n).getD false
theorem ev_isi {n : String} {d : Dt} (h : Ev K ta ρ d) (hk : (kitB (tyD d) n).isSome = true) : Ev K (tCB (rIsi K) (tCons ta (tCons (tC (.ty n)) tNil))) ρ (.bool (isiD d n)) := fun M0 H0 σ H T Q s q => h M0 H0 σ H T _ s fun v H1 s1 => by
  obtain ⟨M, st⟩ := id s1
  obtain ⟨b, hb⟩ := Option.isSome_iff_exists.mp hk
  refine ⟨v, .ty n, _, _, b, rfl, .ty n, (st.at mem1).ty st.bs.mh, kit_ty hb, q _ H1 ((s1.same_sub fun p hp => by simp [hp]).add fun M _ => ?_)⟩
  unfold isiD
  rw [hb]
  exact .bl b

def cutL {α : Type} (xs : List α) (lo hi : Option Int) : List α := (xs.drop (HT.sIx xs.length 0 lo)).take (HT.sIx xs.length xs.length hi - HT.sIx xs.length 0 lo)
theorem eo_none : EvO K tNoPart ρ none := fun M0 H0 σ H T Q s q => q H s
theorem eo_some {i : Int} (h : Ev K te ρ (.int i)) : EvO K (tPart te) ρ (some i) := fun M0 H0 σ H T Q s q => h M0 H0 σ H T _ s fun v H' s' => by
  obtain ⟨M, _, hv⟩ := s'.tmp mem1
  exact ⟨i, hv.int_inv, q H' (s'.same_sub fun p hp => by simp [hp])⟩
theorem DnA.cut {M : Hp} {vs : List V} {ds : List Dt} (h : DnA K M vs ds) (lo hi : Option Int) : DnA K M (cutV vs lo hi) (cutL ds lo hi) := by
  unfold cutV cutL
  rw [h.len]
  exact (h.drop _).take _
theorem evn_sl {tl th : TO} {ds : List Dt} {lo hi : Option Int} (h : Ev K te ρ (.list ds)) (h1 : EvO K tl ρ lo) (h2 : EvO K th ρ hi) : EvN K (tSl (rSlL K) te tl th) ρ (cutL ds lo hi) := fun M0 H0 σ H T Q s q =>
  h M0 H0 σ H T _ s fun v H1 s1 => h1 M0 H0 σ H1 _ _ s1 fun H2 s2 => h2 M0 H0 σ H2 _ _ s2 fun H3 s3 => by
    obtain ⟨M, st⟩ := id s3
    obtain ⟨a, vs, rfl, k1, k2⟩ := (st.at mem1).lst_inv
    exact ⟨a, vs, rfl, SqL.of (st.bs.mh _ _ k1), fun p hp => q _ _ ⟨M, (st.newO hp (k2.cut lo hi)).sub fun p' hp' => by simp [hp']⟩⟩
theorem ev_slT {tl th : TO} {ds : List Dt} {lo hi : Option Int} (h : Ev K te ρ (.tuple ds)) (h1 : EvO K tl ρ lo) (h2 : EvO K th ρ hi) : Ev K (tSl (rSlA K) te tl th) ρ (.tuple (cutL ds lo hi)) := fun M0 H0 σ H T Q s q =>
  h M0 H0 σ H T _ s fun v H1 s1 => h1 M0 H0 σ H1 _ _ s1 fun H2 s2 => h2 M0 H0 σ H2 _ _ s2 fun H3 s3 => by
    obtain ⟨M, st⟩ := id s3
    obtain ⟨a, vs, rfl, k1, k2⟩ := (st.at mem1).tup_inv
    refine ⟨a, vs, rfl, sqT_mono st.bs.mh k1, fun w => q _ H3 (s3.same_sub fun p hp => ?_), fun w p hp => ?_⟩
    · rcases List.mem_cons.mp hp with e | hp
      · have e2 : cutL ds lo hi = ds := by
          unfold cutL
          have l := k2.len
          rw [← l, w.1, w.2, List.drop_zero, Nat.sub_zero, l, List.take_length]
        rw [e, e2]
        exact mem1
      · simp [hp]
    · have b := bs_new (o := .tup (cutV vs lo hi)) st.bs.kn hp
      refine q _ _ ⟨_, st.grow b fun p' hp' => ?_⟩
      rcases List.mem_cons.mp hp' with e | hp'
      · subst e; exact .tup (.inl (.inl upd_same)) ((k2.cut lo hi).mono b.mm)
      · exact (st.tmp p' (by simp [hp'])).mono b.mm
theorem rvn_cat {ds es : List Dt} (hl : ds.length + es.length ≤ 1000000) : RVN K rCat (.list ds) (.list es) (ds ++ es) := fun M0 H0 σ H ρ T Q vx vy s m1 m2 q => by
  obtain ⟨M, st⟩ := id s
  obtain ⟨a, vs, rfl, k1, k2⟩ := (st.at m1).lst_inv
  obtain ⟨b, ws, rfl, j1, j2⟩ := (st.at m2).lst_inv
  exact ⟨a, b, vs, ws, rfl, rfl, st.bs.mh _ _ k1, st.bs.mh _ _ j1, by rw [k2.len, j2.len, sizeLine_eq]; omega, fun p hp => q _ _ ⟨M, st.newO hp (k2.app j2)⟩⟩
theorem rv_catT {ds es : List Dt} (hl : ds.length + es.length ≤ 1000000) : RV K (rCatA K) (.tuple ds) (.tuple es) (.tuple (ds ++ es)) := fun M0 H0 σ H ρ T Q vx vy s m1 m2 q => by
  obtain ⟨M, st⟩ := id s
  obtain ⟨a, vs, rfl, k1, k2⟩ := (st.at m1).tup_inv
  obtain ⟨b, ws, rfl, j1, j2⟩ := (st.at m2).tup_inv
  refine ⟨a, b, vs, ws, rfl, rfl, sqT_mono st.bs.mh k1, sqT_mono st.bs.mh j1, by rw [k2.len, j2.len, sizeLine_eq]; omega, fun e => ?_, fun _ e => ?_, fun _ _ p hp => ?_⟩
  · have l := k2.len
    rw [e] at l
    have ed : ds = [] := List.eq_nil_of_length_eq_zero l.symm
    subst ed
    exact q _ H (s.same_sub fun p hp => (List.mem_cons.mp hp).elim (fun e => e ▸ m2) id)
  · have l := j2.len
    rw [e] at l
    have ed : es = [] := List.eq_nil_of_length_eq_zero l.symm
    subst ed
    rw [List.append_nil] at q
    exact q _ H (s.same_sub fun p hp => (List.mem_cons.mp hp).elim (fun e => e ▸ m1) id)
  · have b := bs_new (o := .tup (vs ++ ws)) st.bs.kn hp
    refine q _ _ ⟨_, st.grow b fun p' hp' => ?_⟩
    rcases List.mem_cons.mp hp' with e | hp'
    · subst e; exact .tup (.inl (.inl upd_same)) ((k2.app j2).mono b.mm)
    · exact (st.tmp p' hp').mono b.mm
theorem rvn_rep {ds : List Dt} {k : Int} (h1 : -(2 ^ 63) ≤ k) (h2 : k < 2 ^ 63) (hl : ds.length * k.toNat ≤ 1000000) : RVN K rRep (.list ds) (.int k) (List.replicate k.toNat ds).flatten := fun M0 H0 σ H ρ T Q vx vy s m1 m2 q => by
  obtain ⟨M, st⟩ := id s
  obtain ⟨a, vs, rfl, k1, k2⟩ := (st.at m1).lst_inv
  exact ⟨a, k, vs, rfl, (st.at m2).int_inv, st.bs.mh _ _ k1, h1, h2, by rw [k2.len, sizeLine_eq]; omega, fun p hp => q _ _ ⟨M, st.newO hp (k2.rep _)⟩⟩
theorem rv_repT {ds : List Dt} {k : Int} (h1 : 2 ≤ k) (h2 : k ≤ 1000) (hn : ds ≠ []) (hl : ds.length ≤ 1000) : RV K (rRepT K) (.tuple ds) (.int k) (.tuple (List.replicate k.toNat ds).flatten) := fun M0 H0 σ H ρ T Q vx vy s m1 m2 q => by
  obtain ⟨M, st⟩ := id s
  obtain ⟨a, vs, rfl, k1, k2⟩ := (st.at m1).tup_inv
  have nv : vs ≠ [] := fun z => hn (by
    have l := k2.len
    rw [z] at l
    exact List.eq_nil_of_length_eq_zero l.symm)
  refine ⟨a, k, vs, rfl, (st.at m2).int_inv, sqT_mono st.bs.mh k1, nv, h1, h2, by rw [k2.len]; exact hl, fun p hp => ?_⟩
  have b := bs_new (o := .tup (List.replicate k.toNat vs).flatten) st.bs.kn hp
  refine q _ _ ⟨_, st.grow b fun p' hp' => ?_⟩
  rcases List.mem_cons.mp hp' with e | hp'
  · subst e; exact .tup (.inl (.inl upd_same)) ((k2.rep _).mono b.mm)
  · exact (st.tmp p' hp').mono b.mm
end
end Fr
namespace Fr
open PySem PySem.Spec PyProof.Rows L2
variable [TabL]

structure ItOk (K : PySem.W.Frag) (J : It) (Ti : List (V × Dt)) (items : List Dt) : Prop where
  go : ∀ (M0 H0 : Hp) (σ : L2.St) (H : Hp) (ρ : List Sl) (T : List (V × Dt)) (i : Nat) (d : Dt), Sta K M0 H0 σ H ρ (Ti ++ T) → items[i]? = some d → J.go i H ∧ ∀ x H', J.yld i H x H' → Sta K M0 H0 σ H' ρ ((x, d) :: (Ti ++ T))
  stop : ∀ (M0 H0 : Hp) (σ : L2.St) (H : Hp) (ρ : List Sl) (T : List (V × Dt)) (i : Nat), Sta K M0 H0 σ H ρ (Ti ++ T) → i = items.length → J.stop i H
def EvI (K : PySem.W.Frag) (wi : TI) (ρ : List Sl) (items : List Dt) : Prop := ∀ (M0 H0 : Hp) (σ : L2.St) (H : Hp) (T : List (V × Dt)) (R : It → Hp → Prop), Sta K M0 H0 σ H ρ T →
  (∀ J H' Ti, Sta K M0 H0 σ H' ρ (Ti ++ T) → ItOk K J Ti items → R J H') → wi σ H R
section
variable {K : PySem.W.Frag} {ρ : List Sl} {ta tb te tc : TE} {x y z d : Dt} {t u : TT}
theorem sqL_inj {M H : Hp} {a : Addr} {xs : List V} (h : M a = some (.lst xs)) (m : Same M H) : SqL K H a xs := SqL.of (m _ _ h)
theorem it_list {a : Addr} {ds : List Dt} : ItOk K (Itl K a) [(.ref a, .list ds)] ds where
  go := fun M0 H0 σ H ρ T i d s e => by
    obtain ⟨M, st⟩ := id s
    obtain ⟨b, vs, eb, h1, h2⟩ := (st.at (d := .list ds) mem1).lst_inv
    cases eb
    obtain ⟨v, ev, hv⟩ := h2.get e
    have q : SqL K H a vs := SqL.of (st.bs.mh _ _ h1)
    refine ⟨⟨vs, v, q, ev⟩, fun x H' y => ?_⟩
    obtain ⟨rfl, k⟩ := y
    have ex : x = v := Option.some.inj ((k vs q).symm.trans ev)
    rw [ex]
    exact ⟨M, st.grow (Bs.refl st.bs.kn) fun p hp => (List.mem_cons.mp hp).elim (fun e => e ▸ hv) (st.tmp p)⟩
  stop := fun M0 H0 σ H ρ T i s l => by
    replace l := Nat.le_of_eq l.symm
    obtain ⟨M, st⟩ := id s
    obtain ⟨b, vs, eb, h1, h2⟩ := (st.at (d := .list ds) mem1).lst_inv
    cases eb
    exact ⟨vs, SqL.of (st.bs.mh _ _ h1), by rw [h2.len]; exact l⟩
theorem it_tup {a : Addr} {ds : List Dt} : ItOk K (Itt K a) [(.ref a, .tuple ds)] ds where
  go := fun M0 H0 σ H ρ T i d s e => by
    obtain ⟨M, st⟩ := id s
    obtain ⟨b, vs, eb, h1, h2⟩ := (st.at (d := .tuple ds) mem1).tup_inv
    cases eb
    obtain ⟨v, ev, hv⟩ := h2.get e
    have q : SqT K H a vs := sqT_mono st.bs.mh h1
    refine ⟨⟨vs, v, q, ev⟩, fun x H' y => ?_⟩
    obtain ⟨rfl, k⟩ := y
    have ex : x = v := Option.some.inj ((k vs q).symm.trans ev)
    rw [ex]
    exact ⟨M, st.grow (Bs.refl st.bs.kn) fun p hp => (List.mem_cons.mp hp).elim (fun e => e ▸ hv) (st.tmp p)⟩
  stop := fun M0 H0 σ H ρ T i s l => by
    replace l := Nat.le_of_eq l.symm
    obtain ⟨M, st⟩ := id s
    obtain ⟨b, vs, eb, h1, h2⟩ := (st.at (d := .tuple ds) mem1).tup_inv
    cases eb
    exact ⟨vs, sqT_mono st.bs.mh h1, by rw [h2.len]; exact l⟩
abbrev rngD (lo : Int) (n : Nat) : List Dt := (List.range n).map fun i : Nat => PyData.int (lo + (i : Int))
theorem it_rng {lo : Int} {n : Nat} : ItOk K (Itr lo n) [] (rngD lo n) where
  go := fun M0 H0 σ H ρ T i d s e => by
    have hi : i < n := by
      have := (List.getElem?_eq_some_iff.mp e).1
      simpa [rngD] using this
    have ed : d = .int (lo + (i : Int)) := by
      simp [rngD, List.getElem?_map, List.getElem?_range hi] at e
      exact e.symm
    refine ⟨hi, fun x H' y => ?_⟩
    obtain ⟨rfl, rfl⟩ := y
    rw [ed]
    exact s.add fun M _ => .int _
  stop := fun M0 H0 σ H ρ T i s l => by
    replace l := Nat.le_of_eq l.symm
    have l : n ≤ i := by simpa [rngD] using l
    exact l
/-- two data in a new tuple -/
theorem Sta.pair {M0 H0 H : Hp} {σ : L2.St} {T : List (V × Dt)} {p : Addr} {v w : V} {d e : Dt} {M : Hp} (st : StM K M0 H0 σ H ρ T M) (n : H p = none) (h1 : Dn K M v d) (h2 : Dn K M w e) :
    Sta K M0 H0 σ (upd H p (.tup [v, w])) ρ ((.ref p, .tuple [d, e]) :: T) := by
  have b := bs_new (o := .tup [v, w]) st.bs.kn n
  refine ⟨_, st.grow b fun p' hp' => ?_⟩
  rcases List.mem_cons.mp hp' with e | hp'
  · subst e; exact .tup (.inl (.inl upd_same)) (.cons (h1.mono b.mm) (.cons (h2.mono b.mm) .nil))
  · exact (st.tmp p' hp').mono b.mm
def enumD (ds : List Dt) : List Dt := ds.zipIdx.map fun p => PyData.tuple [.int (p.2 : Int), p.1]
theorem it_enum {a : Addr} {ds : List Dt} : ItOk K (Ite K a) [(.ref a, .list ds)] (enumD ds) where
  go := fun M0 H0 σ H ρ T i d s e => by
    obtain ⟨M, st⟩ := id s
    obtain ⟨b, vs, eb, h1, h2⟩ := (st.at (d := .list ds) mem1).lst_inv
    cases eb
    have q : SqL K H a vs := SqL.of (st.bs.mh _ _ h1)
    obtain ⟨d', e1, rfl⟩ : ∃ d', ds[i]? = some d' ∧ d = .tuple [.int (i : Int), d'] := by
      unfold enumD at e
      rw [List.getElem?_map, List.getElem?_zipIdx] at e
      cases e' : ds[i]? with
      | none => rw [e'] at e; simp at e
      | some d' => rw [e'] at e; simp at e; exact ⟨d', rfl, e.symm⟩
    obtain ⟨v, ev, hv⟩ := h2.get e1
    refine ⟨⟨vs, v, q, ev⟩, fun x H' y => ?_⟩
    obtain ⟨p, w, rfl, n, rfl, k⟩ := y
    have ex : w = v := Option.some.inj ((k vs q).symm.trans ev)
    rw [ex]
    exact Sta.pair st n (.int _) hv
  stop := fun M0 H0 σ H ρ T i s l => by
    replace l := Nat.le_of_eq l.symm
    obtain ⟨M, st⟩ := id s
    obtain ⟨b, vs, eb, h1, h2⟩ := (st.at (d := .list ds) mem1).lst_inv
    cases eb
    exact ⟨vs, SqL.of (st.bs.mh _ _ h1), by rw [h2.len]; simpa [enumD] using l⟩
def zipD (ds es : List Dt) : List Dt := (ds.zip es).map fun p => PyData.tuple [p.1, p.2]
theorem zipD_get {ds es : List Dt} {i : Nat} {d : Dt} (e : (zipD ds es)[i]? = some d) : ∃ a b, ds[i]? = some a ∧ es[i]? = some b ∧ d = .tuple [a, b] := by
  unfold zipD at e
  rw [List.getElem?_map] at e
  cases q : (ds.zip es)[i]? with
  | none => rw [q] at e; simp at e
  | some p =>
    rw [q] at e
    simp at e
    obtain ⟨h1, h2⟩ := List.getElem?_zip_eq_some.mp q
    exact ⟨p.1, p.2, h1, h2, e.symm⟩
theorem it_zip {a b : Addr} {ds es : List Dt} : ItOk K (Itz K a b) [(.ref a, .list ds), (.ref b, .list es)] (zipD ds es) where
  go := fun M0 H0 σ H ρ T i d s e => by
    obtain ⟨M, st⟩ := id s
    obtain ⟨a', vs, ea, h1, h2⟩ := (st.at (d := .list ds) mem1).lst_inv
    obtain ⟨b', ws, eb, j1, j2⟩ := (st.at (d := .list es) mem2).lst_inv
    cases ea
    cases eb
    obtain ⟨d1, d2, e1, e2, rfl⟩ := zipD_get e
    obtain ⟨v, ev, hv⟩ := h2.get e1
    obtain ⟨w, ew, hw⟩ := j2.get e2
    have q1 : SqL K H a vs := SqL.of (st.bs.mh _ _ h1)
    have q2 : SqL K H b ws := SqL.of (st.bs.mh _ _ j1)
    refine ⟨⟨vs, ws, v, w, q1, q2, ev, ew⟩, fun x H' y => ?_⟩
    obtain ⟨p, x1, x2, rfl, n, rfl, k1, k2⟩ := y
    rw [Option.some.inj ((k1 vs q1).symm.trans ev), Option.some.inj ((k2 ws q2).symm.trans ew)]
    exact Sta.pair st n hv hw
  stop := fun M0 H0 σ H ρ T i s l => by
    replace l := Nat.le_of_eq l.symm
    obtain ⟨M, st⟩ := id s
    obtain ⟨a', vs, ea, h1, h2⟩ := (st.at (d := .list ds) mem1).lst_inv
    obtain ⟨b', ws, eb, j1, j2⟩ := (st.at (d := .list es) mem2).lst_inv
    cases ea
    cases eb
    refine ⟨vs, ws, SqL.of (st.bs.mh _ _ h1), SqL.of (st.bs.mh _ _ j1), ?_⟩
    rw [h2.len, j2.len]
    simp [zipD] at l
    omega
theorem it_zipT {a b : Addr} {ds es : List Dt} : ItOk K (RZ.ItzT K a b) [(.ref a, .tuple ds), (.ref b, .tuple es)] (zipD ds es) where
  go := fun M0 H0 σ H ρ T i d s e => by
    obtain ⟨M, st⟩ := id s
    obtain ⟨a', vs, ea, h1, h2⟩ := (st.at (d := .tuple ds) mem1).tup_inv
    obtain ⟨b', ws, eb, j1, j2⟩ := (st.at (d := .tuple es) mem2).tup_inv
    cases ea
    cases eb
    obtain ⟨d1, d2, e1, e2, rfl⟩ := zipD_get e
    obtain ⟨v, ev, hv⟩ := h2.get e1
    obtain ⟨w, ew, hw⟩ := j2.get e2
    have q1 : SqT K H a vs := sqT_mono st.bs.mh h1
    have q2 : SqT K H b ws := sqT_mono st.bs.mh j1
    refine ⟨⟨vs, ws, v, w, q1, q2, ev, ew⟩, fun x H' y => ?_⟩
    obtain ⟨p, x1, x2, rfl, n, rfl, k1, k2⟩ := y
    rw [Option.some.inj ((k1 vs q1).symm.trans ev), Option.some.inj ((k2 ws q2).symm.trans ew)]
    exact Sta.pair st n hv hw
  stop := fun M0 H0 σ H ρ T i s l => by
    replace l := Nat.le_of_eq l.symm
    obtain ⟨M, st⟩ := id s
    obtain ⟨a', vs, ea, h1, h2⟩ := (st.at (d := .tuple ds) mem1).tup_inv
    obtain ⟨b', ws, eb, j1, j2⟩ := (st.at (d := .tuple es) mem2).tup_inv
    cases ea
    cases eb
    refine ⟨vs, ws, sqT_mono st.bs.mh h1, sqT_mono st.bs.mh j1, ?_⟩
    rw [h2.len, j2.len]
    simp [zipD] at l
    omega
theorem ei_list {ds : List Dt} (h : Ev K te ρ (.list ds)) : EvI K (iList K te) ρ ds := fun M0 H0 σ H T R s q => h M0 H0 σ H T _ s fun v H1 s1 => by
  obtain ⟨M, st⟩ := id s1
  obtain ⟨a, vs, rfl, h1, h2⟩ := (st.at mem1).lst_inv
  exact ⟨a, rfl, ⟨vs, SqL.of (st.bs.mh _ _ h1)⟩, q _ H1 [(.ref a, .list ds)] s1 it_list⟩
theorem ei_tup {ds : List Dt} (h : Ev K te ρ (.tuple ds)) : EvI K (iTup K te) ρ ds := fun M0 H0 σ H T R s q => h M0 H0 σ H T _ s fun v H1 s1 => by
  obtain ⟨M, st⟩ := id s1
  obtain ⟨a, vs, rfl, h1, h2⟩ := (st.at mem1).tup_inv
  exact ⟨a, rfl, ⟨vs, sqT_mono st.bs.mh h1⟩, q _ H1 [(.ref a, .tuple ds)] s1 it_tup⟩
theorem ei_rng1 {n : Int} (h : Ev K te ρ (.int n)) (h1 : -(2 ^ 62) ≤ n) (h2 : n < 2 ^ 62) : EvI K (iRng1 (tCons te tNil)) ρ (rngD 0 n.toNat) := fun M0 H0 σ H T R s q => h M0 H0 σ H T _ s fun v H1 s1 => by
  obtain ⟨M, _, hv⟩ := s1.tmp mem1
  exact ⟨n, by rw [hv.int_inv], h1, h2, q _ H1 [] (s1.same_sub fun p hp => by simp at hp; simp [hp]) it_rng⟩
theorem ei_rng2 {i j : Int} (h : Ev K te ρ (.int i)) (h' : Ev K tb ρ (.int j)) (hb : -(2 ^ 62) ≤ i ∧ i < 2 ^ 62 ∧ -(2 ^ 62) ≤ j ∧ j < 2 ^ 62) : EvI K (iRng2 (tCons te (tCons tb tNil))) ρ (rngD i (j - i).toNat) := fun M0 H0 σ H T R s q =>
  h M0 H0 σ H T _ s fun v H1 s1 => h' M0 H0 σ H1 _ _ s1 fun w H2 s2 => by
    obtain ⟨M, st⟩ := id s2
    exact ⟨i, j, by rw [(st.at (d := .int i) mem2).int_inv, (st.at (d := .int j) mem1).int_inv], hb, q _ H2 [] (s2.same_sub fun p hp => by simp at hp; simp [hp]) it_rng⟩
theorem ei_enum {ds : List Dt} (h : Ev K te ρ (.list ds)) : EvI K (iEnum K (tCons te tNil)) ρ (enumD ds) := fun M0 H0 σ H T R s q => h M0 H0 σ H T _ s fun v H1 s1 => by
  obtain ⟨M, st⟩ := id s1
  obtain ⟨a, vs, rfl, h1, h2⟩ := (st.at mem1).lst_inv
  exact ⟨a, vs, rfl, SqL.of (st.bs.mh _ _ h1), q _ H1 [(.ref a, .list ds)] s1 it_enum⟩
theorem ei_zipL {ds es : List Dt} (h : Ev K te ρ (.list ds)) (h' : Ev K tb ρ (.list es)) : EvI K (RZ.iZipA K (tCons te (tCons tb tNil))) ρ (zipD ds es) := fun M0 H0 σ H T R s q =>
  h M0 H0 σ H T _ s fun v H1 s1 => h' M0 H0 σ H1 _ _ s1 fun w H2 s2 => by
    obtain ⟨M, st⟩ := id s2
    obtain ⟨a, vs, rfl, h1, h2⟩ := (st.at (d := .list ds) mem2).lst_inv
    obtain ⟨b, ws, rfl, j1, j2⟩ := (st.at (d := .list es) mem1).lst_inv
    exact ⟨a, b, vs, ws, rfl, .inl ⟨SqL.of (st.bs.mh _ _ h1), SqL.of (st.bs.mh _ _ j1), q _ H2 [(.ref a, .list ds), (.ref b, .list es)] (s2.same_sub fun p hp => by simp at hp; rcases hp with rfl | rfl | hp <;> simp [*]) it_zip⟩⟩
theorem ei_zipT {ds es : List Dt} (h : Ev K te ρ (.tuple ds)) (h' : Ev K tb ρ (.tuple es)) : EvI K (RZ.iZipA K (tCons te (tCons tb tNil))) ρ (zipD ds es) := fun M0 H0 σ H T R s q =>
  h M0 H0 σ H T _ s fun v H1 s1 => h' M0 H0 σ H1 _ _ s1 fun w H2 s2 => by
    obtain ⟨M, st⟩ := id s2
    obtain ⟨a, vs, rfl, h1, h2⟩ := (st.at (d := .tuple ds) mem2).tup_inv
    obtain ⟨b, ws, rfl, j1, j2⟩ := (st.at (d := .tuple es) mem1).tup_inv
    exact ⟨a, b, vs, ws, rfl, .inr ⟨sqT_mono st.bs.mh h1, sqT_mono st.bs.mh j1, q _ H2 [(.ref a, .tuple ds), (.ref b, .tuple es)] (s2.same_sub fun p hp => by simp at hp; rcases hp with rfl | rfl | hp <;> simp [*]) it_zipT⟩⟩

/-- all but the slots vs is as it was -/
def Off (vs : List Nat) (σ σ' : L2.St) : Prop := σ'.length = σ.length ∧ ∀ j, j ∉ vs → σ'[j]? = σ[j]?
def EvG (K : PySem.W.Frag) (g : TG) (vs : List Nat) (d : Dt) (ρ ρ' : List Sl) : Prop := ∀ (M0 H0 : Hp) (σ : L2.St) (H : Hp) (T : List (V × Dt)) (x : V) (Q : L2.St → Hp → Prop), Sta K M0 H0 σ H ρ T → (x, d) ∈ T →
  (∀ σ' H', Sta K M0 H0 σ' H' ρ' T → Off vs σ σ' → Q σ' H') → g x σ H Q
def EvGs (K : PySem.W.Frag) (g : TGs) (vs : List Nat) (ds : List Dt) (ρ ρ' : List Sl) : Prop := ∀ (M0 H0 : Hp) (σ : L2.St) (H : Hp) (T : List (V × Dt)) (xs : List V) (Q : L2.St → Hp → Prop), Sta K M0 H0 σ H ρ T → (∀ p ∈ xs.zip ds, p ∈ T) → xs.length = ds.length →
  (∀ σ' H', Sta K M0 H0 σ' H' ρ' T → Off vs σ σ' → Q σ' H') → g xs σ H Q
theorem eg_name {i : Nat} : EvG K (gName i) [i] d ρ (ρ.set i (.va d)) := fun M0 H0 σ H T x Q s m q => q _ H (s.set m) ⟨by simp, fun j hj => List.getElem?_set_ne (fun e => hj (by simp [e]))⟩
theorem egs_nil : EvGs K gNil [] [] ρ ρ := fun M0 H0 σ H T xs Q s m l q => ⟨List.eq_nil_of_length_eq_zero l, q σ H s ⟨rfl, fun _ _ => rfl⟩⟩
theorem egs_cons {g : TG} {gs : TGs} {v1 v2 : List Nat} {ds : List Dt} {ρ1 ρ2 : List Sl} (h1 : EvG K g v1 d ρ ρ1) (h2 : EvGs K gs v2 ds ρ1 ρ2) : EvGs K (gCons g gs) (v1 ++ v2) (d :: ds) ρ ρ2 := fun M0 H0 σ H T xs Q s m l q => by
  match xs, l with
  | x :: xs, l =>
    exact ⟨x, xs, rfl, h1 M0 H0 σ H T x _ s (m _ (by simp)) fun σ1 H1 s1 k1 => h2 M0 H0 σ1 H1 T xs Q s1 (fun p hp => m p (by simp [hp])) (by simpa using l) fun σ2 H2 s2 k2 =>
      q σ2 H2 s2 ⟨k2.1.trans k1.1, fun j hj => (k2.2 j fun z => hj (by simp [z])).trans (k1.2 j fun z => hj (by simp [z]))⟩⟩
theorem eg_tup {n : Nat} {gs : TGs} {vs : List Nat} {ds : List Dt} {ρ1 : List Sl} (h : EvGs K gs vs ds ρ ρ1) (hn : ds.length = n) : EvG K (gTup K n gs) vs (.tuple ds) ρ ρ1 := fun M0 H0 σ H T x Q s m q => by
  obtain ⟨M, st⟩ := id s
  obtain ⟨a, ws, rfl, h1, h2⟩ := (st.at m).tup_inv
  have key : Sta K M0 H0 σ H ρ (ws.zip ds ++ T) := ⟨M, st.grow (Bs.refl st.bs.kn) fun p hp => by
    rcases List.mem_append.mp hp with hp | hp
    · obtain ⟨i, hi⟩ := List.mem_iff_getElem?.mp hp
      obtain ⟨e1, e2⟩ := List.getElem?_zip_eq_some.mp hi
      obtain ⟨v, e3, hv⟩ := h2.get e2
      rw [e1] at e3
      cases e3
      exact hv
    · exact st.tmp p hp⟩
  exact ⟨a, ws, rfl, sqT_mono st.bs.mh h1, by rw [h2.len, hn], h M0 H0 σ H _ ws Q key (fun p hp => by simp [hp]) h2.len fun σ' H' s' k => q σ' H' (s'.same_sub fun p hp => by simp [hp]) k⟩
theorem eg_tup2 {n : Nat} {g1 g2 : TG} {v1 v2 : List Nat} {e : Dt} {ρ1 ρ2 : List Sl} (h1 : EvG K g1 v1 d ρ ρ1) (h2 : EvG K g2 v2 e ρ1 ρ2) (hn : 2 = n) : EvG K (gTup K n (gCons g1 (gCons g2 gNil))) (v1 ++ (v2 ++ [])) (.tuple [d, e]) ρ ρ2 :=
  eg_tup (egs_cons h1 (egs_cons h2 egs_nil)) hn

theorem wipe_in (σ : L2.St) (i : Nat) : ∀ vs : List Nat, i ∈ vs → (wipe σ vs)[i]? = if i < σ.length then some none else none
  | [], h => by simp at h
  | v :: vs, h => by
    show ((wipe σ vs).set v none)[i]? = _
    rw [List.getElem?_set, wipe_length]
    by_cases e : v = i
    · subst e; simp
    · rw [if_neg e]
      exact wipe_in σ i vs ((List.mem_cons.mp h).resolve_left (Ne.symm e))
theorem wipe_same {σ σ' : L2.St} {vs : List Nat} (hl : σ'.length = σ.length) (h : ∀ j, j ∉ vs → σ'[j]? = σ[j]?) : wipe σ' vs = wipe σ vs := by
  refine List.ext_getElem? fun i => ?_
  by_cases hi : i ∈ vs
  · rw [wipe_in σ' i vs hi, wipe_in σ i vs hi, hl]
  · rw [wipe_out hi, wipe_out hi]; exact h i hi
/-- the slots as a comprehension's block sees them -/
def cset (ρ : List Sl) : List Nat → List Sl
  | [] => ρ.map hid
  | v :: vs => (cset ρ vs).set v .no
theorem cset_len (ρ : List Sl) : ∀ vs : List Nat, (cset ρ vs).length = ρ.length
  | [] => by simp [cset]
  | v :: vs => by simp [cset, cset_len ρ vs]
theorem cset_get (ρ : List Sl) : ∀ (vs : List Nat) (i : Nat) (s : Sl), (cset ρ vs)[i]? = some s → s = .no ∨ (i ∉ vs ∧ (∀ c, s ≠ .ow c) ∧ ρ[i]? = some s)
  | [], i, s, h => by
    simp [cset] at h
    obtain ⟨s', e, rfl⟩ := h
    cases s' with
    | ow ds => exact .inl rfl
    | no => exact .inl rfl
    | va d => exact .inr ⟨by simp, (fun _ z => nomatch z), e⟩
    | scr d => exact .inr ⟨by simp, (fun _ z => nomatch z), e⟩
    | raw d => exact .inr ⟨by simp, (fun _ z => nomatch z), e⟩
    | fz P hP => exact .inr ⟨by simp, (fun _ z => nomatch z), e⟩
  | v :: vs, i, s, h => by
    show s = .no ∨ _
    have h : ((cset ρ vs).set v .no)[i]? = some s := h
    by_cases e : v = i
    · subst e
      rw [List.getElem?_set] at h
      simp at h
      exact .inl h.2.symm
    · rw [List.getElem?_set_ne e] at h
      rcases cset_get ρ vs i s h with z | ⟨z1, z2, z3⟩
      · exact .inl z
      · exact .inr ⟨fun q => (List.mem_cons.mp q).elim (fun q => e q.symm) z1, z2, z3⟩
theorem StM.blk {M M0 H0 H : Hp} {σ : L2.St} {T : List (V × Dt)} (vs : List Nat) (st : StM K M0 H0 σ H ρ T M) : StM K M H (wipe σ vs) H (cset ρ vs) T M := by
  refine ⟨Bs.refl st.bs.kn, by rw [wipe_length, cset_len, st.len], fun i s e => ?_, fun i j es fs a hij h1 h2 h3 h4 => ?_, st.tmp⟩
  · rcases cset_get ρ vs i s e with rfl | ⟨n, no, e'⟩
    · have hi := (List.getElem?_eq_some_iff.mp e).1
      rw [cset_len] at hi
      have hl := st.len
      exact ⟨(wipe σ vs)[i]'(by rw [wipe_length]; omega), List.getElem?_eq_getElem (by rw [wipe_length]; omega), trivial⟩
    · obtain ⟨v, e1, h1⟩ := st.slot i s e'
      refine ⟨v, by rw [wipe_out n]; exact e1, ?_⟩
      cases s with
      | ow ds => exact absurd rfl (no ds)
      | no => trivial
      | va d => exact h1
      | scr ns => exact h1
      | raw x => exact h1
      | fz P hP => exact h1
  · rcases cset_get ρ vs i _ h1 with z | ⟨_, z, _⟩
    · cases z
    · exact absurd rfl (z es)
theorem take_filterMap {α : Type} (xs : List α) (f : α → Option Dt) {i : Nat} {x : α} (h : xs[i]? = some x) : (xs.take (i + 1)).filterMap f = (xs.take i).filterMap f ++ (f x).toList := by
  rw [List.take_add_one, h, List.filterMap_append]
  cases e : f x <;> simp [e]
/-- [e for x in xs if p]: xs.map enc is walked -/
theorem evn_lc {α : Type} {wi : TI} {g : TG} {tt : TT} {vs : List Nat} {xs : List α} {enc : α → Dt} (hi : EvI K wi ρ (xs.map enc)) (hl : xs.length ≤ 1000000) (p : α → Bool) (out : α → Dt) (ρ2 : α → List Sl)
    (hb : ∀ x ∈ xs, EvG K g vs (enc x) (cset ρ vs) (ρ2 x) ∧ EvT K tt (ρ2 x) (p x) ∧ (p x = true → Ev K te (ρ2 x) (out x))) : EvN K (tLc wi g tt te vs) ρ ((xs.filter p).map out) := fun M0 H0 σ H T Q s q => by
  have ef : (xs.filter p).map out = xs.filterMap fun x => if p x then some (out x) else none := by
    clear hi hl hb q
    induction xs with
    | nil => rfl
    | cons x xs ih =>
      rw [List.filter_cons, List.filterMap_cons]
      cases e : p x <;> simp [ih]
  rw [ef] at q
  refine hi M0 H0 σ H T _ s fun J H1 Ti s1 it => fun D nD => ?_
  obtain ⟨M1, st1⟩ := id s1
  let f : α → Option Dt := fun x => if p x then some (out x) else none
  let Pv : Nat → Hp → Prop := fun i H => Sta K M0 H0 (σ ++ [some (.ref D)]) H (ρ ++ [.own ((xs.take i).filterMap f)]) (Ti ++ T)
  refine ⟨fun i m H => m = xs.length - i ∧ i ≤ xs.length ∧ Pv i H, ⟨xs.length, by simp, Nat.zero_le _, M1, st1.newO nD .nil⟩, ?_⟩
  rintro i m H2 ⟨rfl, hle, P⟩
  by_cases hlt : i < xs.length
  · right
    obtain ⟨M2, st2⟩ := id P
    have hσ : σ.length = ρ.length := by have := st2.len; simpa using this
    have hD := st2.slot ρ.length (.own ((xs.take i).filterMap f)) (by simp)
    rw [← hσ] at hD
    obtain ⟨v, ev, a, acc, e2, n0, nM, hH, hd⟩ := hD
    rw [List.getElem?_concat_length] at ev
    cases ev
    cases e2
    have lacc : acc.length ≤ 1000000 := by
      rw [hd.len]
      refine Nat.le_trans (List.length_filterMap_le _ _) ?_
      rw [List.length_take]
      omega
    have blk := (st2.pop).blk vs
    have gx : (xs.map enc)[i]? = some (enc xs[i]) := by rw [List.getElem?_map, List.getElem?_eq_getElem hlt]; rfl
    obtain ⟨go, yl⟩ := it.go M2 H2 _ _ _ T i _ ⟨M2, blk⟩ gx
    obtain ⟨b1, b2, b3⟩ := hb xs[i] (List.getElem_mem hlt)
    -- what is kept of the outer frame
    have back : ∀ {H4 : Hp} {σ' : L2.St} {ρ' : List Sl} {T' : List (V × Dt)}, Sta K M2 H2 σ' H4 ρ' T' → (∀ p ∈ Ti ++ T, p ∈ T') → ∃ M4, StM K M0 H0 (σ ++ [some (.ref D)]) H4 (ρ ++ [.own ((xs.take i).filterMap f)]) (Ti ++ T) M4 ∧ H4 D = some (.lst acc) ∧ ∀ p ∈ T', Dn K M4 p.1 p.2 := fun {H4 σ' ρ' T'} s4 hs => by
      obtain ⟨M4, st4⟩ := s4
      exact ⟨M4, st2.grow st4.bs fun p hp => st4.tmp p (hs p hp), (st4.bs.far D _ nM hH (st2.bs.kn.notT hH)).2, st4.tmp⟩
    refine ⟨go, Pv (i + 1), fun H' P' => ⟨xs.length - (i + 1), by omega, rfl, hlt, P'⟩, fun x H3 y => ?_⟩
    refine b1 M2 H2 _ _ _ x _ (yl x H3 y) (by simp) fun σ2 H4 s4 k => ⟨?_, ?_⟩
    · exact wipe_same (by rw [k.1, wipe_length]) fun j hj => (k.2 j hj).trans (wipe_out hj)
    · refine b2 M2 H2 σ2 H4 _ _ s4 fun H5 s5 => ?_
      cases e : p xs[i] with
      | false =>
        rw [if_neg Bool.false_ne_true]
        obtain ⟨M5, st5, _, _⟩ := back s5 fun p hp => by simp [hp]
        show Sta _ _ _ _ _ _ _
        rw [take_filterMap xs f (List.getElem?_eq_getElem hlt)]
        have ef : f xs[i] = none := by simp [f, e]
        rw [ef]
        rw [Option.toList_none, List.append_nil]
        exact ⟨M5, st5⟩
      | true =>
        rw [if_pos rfl]
        refine b3 e M2 H2 σ2 H5 _ _ s5 fun w H6 s6 => ?_
        obtain ⟨M6, st6, hD6, tm⟩ := back s6 fun p hp => by simp [hp]
        refine ⟨acc, hD6, by rw [sizeLine_eq]; omega, ?_⟩
        show Sta _ _ _ _ _ _ _
        rw [take_filterMap xs f (List.getElem?_eq_getElem hlt)]
        have ef : f xs[i] = some (out xs[i]) := by simp [f, e]
        rw [ef]
        have z := st6.updO (i := ρ.length) (a := D) (vs := acc ++ [w]) (ds := (xs.take i).filterMap f ++ [out xs[i]]) (es := (xs.take i).filterMap f) (by simp) (by rw [← hσ]; simp) ?_
        · have eset : (ρ ++ [Sl.own ((xs.take i).filterMap f)]).set ρ.length (.own ((xs.take i).filterMap f ++ [out xs[i]])) = ρ ++ [.own ((xs.take i).filterMap f ++ [out xs[i]])] := by simp
          rw [eset] at z
          exact ⟨M6, z⟩
        · have z6 := st6.slot ρ.length (.own ((xs.take i).filterMap f)) (by simp)
          rw [← hσ, List.getElem?_concat_length] at z6
          obtain ⟨_, e5, a6, vs6, e6, _, _, h6, d6⟩ := z6
          cases e5
          cases e6
          rw [hD6] at h6
          cases h6
          exact d6.app (.cons (tm (w, out xs[i]) (by simp)) .nil)
  · left
    have e : i = xs.length := by omega
    subst e
    refine ⟨?_, ?_⟩
    · obtain ⟨M2, st2⟩ := id P
      exact it.stop M0 H0 σ H2 ρ T _ ⟨M2, st2.pop⟩ (by simp)
    · refine q D H2 ?_
      have P' : Sta K M0 H0 (σ ++ [some (.ref D)]) H2 (ρ ++ [.own ((xs.take xs.length).filterMap f)]) (Ti ++ T) := P
      rw [List.take_length] at P'
      exact P'.same_sub fun p hp => by simp [hp]
end
end Fr
namespace Fr
open PySem PySem.Spec PyProof.Rows L2
variable [TabL]

inductive Out where
  | nx (ρ : List Sl)
  | rt (d : Dt)
  | bk (ρ : List Sl)
  | ct (ρ : List Sl)
  | xc (c : Value)
  /-- a value of which R holds -/
  | rp (R : Hp → V → Prop)
def Ful (K : PySem.W.Frag) (E : XK) (M0 H0 : Hp) (T : List (V × Dt)) (D : Ends) : Out → Prop
  | .nx ρ => ∀ σ' H', Sta K M0 H0 σ' H' ρ T → D.nx σ' H'
  | .rt d => ∀ v H', Aft K M0 H0 v H' d → D.rt v H'
  | .bk ρ => ∀ σ' H', Sta K M0 H0 σ' H' ρ T → D.bk σ' H'
  | .ct ρ => ∀ σ' H', Sta K M0 H0 σ' H' ρ T → D.ct σ' H'
  | .xc c => ∀ H', AftX M0 H0 H' → E c none H'
  | .rp R => ∀ v H', (∃ M, Bs M0 H0 M H' ∧ R M v) → D.rt v H'
/-- behind the statement one of the ends of P -/
def Wp (K : PySem.W.Frag) (E : XK) (ts : TS) (ρ : List Sl) (P : Out → Prop) : Prop := ∀ (M0 H0 : Hp) (T : List (V × Dt)) (σ : L2.St) (H : Hp) (D : Ends), Sta K M0 H0 σ H ρ T → (∀ o, P o → Ful K E M0 H0 T D o) → ts D σ H
/-- what a def comes to -/
def Fin (r : Except Value Dt) : Out → Prop
  | .nx _ => r = .ok .none
  | .rt d => r = .ok d
  | .xc c => r = .error c
  | _ => False
/-- behind a loop's turn -/
def Turn (P : Out → Prop) (I : List Sl → Prop) : Out → Prop
  | .nx ρ => I ρ
  | .ct ρ => I ρ
  | .bk ρ => P (.nx ρ)
  | .rt d => P (.rt d)
  | .xc c => P (.xc c)
  | .rp R => P (.rp R)
/-- behind a statement that another follows -/
def Then (P : Out → Prop) (Q : List Sl → Prop) : Out → Prop
  | .nx ρ => Q ρ
  | o => P o
section
variable {K : PySem.W.Frag} {E : XK} {ρ : List Sl} {ta tb te tc : TE} {x y z d : Dt} {t u : TS} {c : TT} {P : Out → Prop}
theorem Wp.imp {P' : Out → Prop} (h : Wp K E t ρ P) (i : ∀ o, P o → P' o) : Wp K E t ρ P' := fun M0 H0 T σ H D s f => h M0 H0 T σ H D s fun o p => f o (i o p)
theorem wp_seq (h : Wp K E t ρ (Then P fun ρ1 => Wp K E u ρ1 P)) : Wp K E (tSeq t u) ρ P := fun M0 H0 T σ H D s f => by
  refine h M0 H0 T σ H _ s fun o p => ?_
  cases o with
  | nx ρ1 => exact fun σ' H' s' => p M0 H0 T σ' H' D s' f
  | rt d => exact f (.rt d) p
  | bk ρ1 => exact f (.bk ρ1) p
  | ct ρ1 => exact f (.ct ρ1) p
  | xc c => exact f (.xc c) p
  | rp R => exact f (.rp R) p
theorem wp_nil (h : P (.nx ρ)) : Wp K E tNext ρ P := fun M0 H0 T σ H D s f => f _ h σ H s
theorem wp_break (h : P (.bk ρ)) : Wp K E tBreak ρ P := fun M0 H0 T σ H D s f => f _ h σ H s
theorem wp_cont (h : P (.ct ρ)) : Wp K E tCont ρ P := fun M0 H0 T σ H D s f => f _ h σ H s
theorem Sta.aft {M0 H0 H : Hp} {σ : L2.St} {T : List (V × Dt)} {v : V} (s : Sta K M0 H0 σ H ρ T) (m : (v, d) ∈ T) : Aft K M0 H0 v H d := by
  obtain ⟨M, st⟩ := s
  exact ⟨M, st.bs, st.tmp _ m⟩
theorem wp_ret (he : Ev K te ρ d) (h : P (.rt d)) : Wp K E (tRet te) ρ P := fun M0 H0 T σ H D s f => he M0 H0 σ H T _ s fun v H' s' => f _ h v H' (s'.aft mem1)
theorem wp_retE {r : Except Value Dt} (he : EvE K E te ρ r) (h : ∀ d, r = .ok d → P (.rt d)) (hx : ∀ c, r = .error c → P (.xc c)) : Wp K E (tRet te) ρ P := fun M0 H0 T σ H D s f =>
  he M0 H0 σ H T _ s (fun d e v H' s' => f _ (h d e) v H' (s'.aft mem1)) fun c e H' a => f _ (hx c e) H' a
theorem wp_retO {i : Nat} {ds : List Dt} (hi : ρ[i]? = some (.own ds)) (h : P (.rt (.list ds))) : Wp K E (tRet (tVar i)) ρ P := fun M0 H0 T σ H D s f => by
  obtain ⟨a, e, s'⟩ := s.frz hi
  exact ⟨_, e, f _ h _ H (s'.aft mem1)⟩
theorem wp_retN (h : P (.rt .none)) : Wp K E tRetN ρ P := fun M0 H0 T σ H D s f => by
  obtain ⟨M, st⟩ := id s
  exact f _ h _ H ⟨M, st.bs, .non⟩
/-- x = e -/
theorem wp_set {i : Nat} (he : Ev K te ρ d) (h : P (.nx (ρ.set i (.va d)))) : Wp K E (tAsg te (gName i)) ρ P := fun M0 H0 T σ H D s f => he M0 H0 σ H T _ s fun v H' s' => f _ h _ H' ((s'.set mem1).same_sub fun p hp => by simp [hp])
theorem wp_setE {i : Nat} {r : Except Value Dt} (he : EvE K E te ρ r) (h : ∀ d, r = .ok d → P (.nx (ρ.set i (.va d)))) (hx : ∀ c, r = .error c → P (.xc c)) : Wp K E (tAsg te (gName i)) ρ P := fun M0 H0 T σ H D s f =>
  he M0 H0 σ H T _ s (fun d e v H' s' => f _ (h d e) _ H' ((s'.set mem1).same_sub fun p hp => by simp [hp])) fun c e H' a => f _ (hx c e) H' a
theorem wp_setN {i : Nat} {ds : List Dt} (he : EvN K te ρ ds) (h : P (.nx (ρ.set i (.own ds)))) : Wp K E (tAsg te (gName i)) ρ P := fun M0 H0 T σ H D s f => he M0 H0 σ H T _ s fun p H' s' => f _ h _ H' (s'.moveO i)
/-- a, b = e -/
theorem wp_asg {g : TG} {vs : List Nat} {ρ1 : List Sl} (he : Ev K te ρ d) (hg : EvG K g vs d ρ ρ1) (h : P (.nx ρ1)) : Wp K E (tAsg te g) ρ P := fun M0 H0 T σ H D s f => he M0 H0 σ H T _ s fun v H' s' =>
  hg M0 H0 σ H' _ v _ s' mem1 fun σ2 H2 s2 _ => f _ h σ2 H2 (s2.same_sub fun p hp => by simp [hp])
/-- a, b = e1, e2 -/
theorem wp_par {i j : Nat} {ta' : TA} {d1 d2 : Dt} (he : EvA K ta' ρ [d1, d2]) (h : P (.nx ((ρ.set i (.va d1)).set j (.va d2)))) : Wp K E (tPar i j ta') ρ P := fun M0 H0 T σ H D s f => he M0 H0 σ H T _ s fun vs H' s' l => by
  match vs, l with
  | [v, w], _ =>
    refine ⟨v, w, rfl, f _ h _ H' ?_⟩
    have a1 := (s'.set (i := i) (v := v) (d := d1) (by simp)).set (i := j) (v := w) (d := d2) (by simp)
    exact a1.same_sub fun p hp => by simp [hp]
theorem wp_expr (he : Ev K te ρ d) (h : P (.nx ρ)) : Wp K E (tDrop te) ρ P := fun M0 H0 T σ H D s f => he M0 H0 σ H T _ s fun v H' s' => f _ h σ H' (s'.same_sub fun p hp => by simp [hp])
theorem wp_exprE {r : Except Value Dt} (he : EvE K E te ρ r) (h : ∀ d, r = .ok d → P (.nx ρ)) (hx : ∀ c, r = .error c → P (.xc c)) : Wp K E (tDrop te) ρ P := fun M0 H0 T σ H D s f =>
  he M0 H0 σ H T _ s (fun d e v H' s' => f _ (h d e) σ H' (s'.same_sub fun p hp => by simp [hp])) fun c e H' a => f _ (hx c e) H' a
theorem wp_if {b : Bool} (hc : EvT K c ρ b) (h1 : b = true → Wp K E t ρ P) (h2 : b = false → Wp K E u ρ P) : Wp K E (tIfS c t u) ρ P := fun M0 H0 T σ H D s f => hc M0 H0 σ H T _ s fun H' s' => by
  cases b with
  | true => exact h1 rfl M0 H0 T σ H' D s' f
  | false => exact h2 rfl M0 H0 T σ H' D s' f
/-- raise -/
theorem wp_raise {C : Addr} (h : P (.xc (.ref C))) : Wp K E (fun _ σ H => E (.ref C) none H) ρ P := fun M0 H0 T σ H D s f => by
  obtain ⟨M, st⟩ := id s
  exact f _ h H ⟨M, st.bs⟩
/-- a slot's list is data from here on -/
theorem wp_frz {i : Nat} {ds : List Dt} (hi : ρ[i]? = some (.own ds)) (h : Wp K E t (ρ.set i (.va (.list ds))) P) : Wp K E t ρ P := fun M0 H0 T σ H D s f => by
  obtain ⟨a, e, s'⟩ := s.frz hi
  exact h M0 H0 T σ H D (s'.same_sub fun p hp => by simp [hp]) f
/-- xs.append(e), xs a list of ours -/
theorem wp_app {i : Nat} {ds : List Dt} (hi : ρ[i]? = some (.own ds)) (he : Ev K te ρ d) (hl : ds.length ≤ 1000000) (h : P (.nx (ρ.set i (.own (ds ++ [d]))))) :
    Wp K E (tDrop (tBM K "list" rAppend (tVar i) (tCons te tNil))) ρ P := fun M0 H0 T σ H D s f => by
  obtain ⟨a, vs, M, e1, hH, st, hd⟩ := s.own hi
  refine ⟨_, e1, .inl ⟨rfl, vs, SqL.of hH⟩, he M0 H0 σ H T _ s fun v H1 s1 => ?_⟩
  obtain ⟨a', vs1, M1, e1', hH1, st1, hd1⟩ := s1.own hi
  rw [e1] at e1'
  cases e1'
  exact ⟨a, vs1, v, rfl, rfl, hH1, by rw [hd1.len, sizeLine_eq]; omega, f _ h σ _ ⟨M1, (st1.updO hi e1 (hd1.app (.cons (st1.at mem1) .nil))).sub fun p hp => by simp [hp]⟩⟩
/-- for -/
theorem wp_for {wi : TI} {g : TG} {tb : TS} {vs : List Nat} {items : List Dt} (hi : EvI K wi ρ items) (I : Nat → List Sl → Prop) (h0 : I 0 ρ)
    (hs : ∀ i d ρ1, items[i]? = some d → I i ρ1 → ∃ ρ2, EvG K g vs d ρ1 ρ2 ∧ Wp K E tb ρ2 (Fr.Turn P (I (i + 1)))) (hd : ∀ ρ1, I items.length ρ1 → P (.nx ρ1)) : Wp K E (tFor wi g tb) ρ P := fun M0 H0 T σ H D s f => by
  refine hi M0 H0 σ H T _ s fun J H1 Ti s1 it => ?_
  refine ⟨fun i m σ H => m = items.length - i ∧ i ≤ items.length ∧ ∃ ρ1, I i ρ1 ∧ Sta K M0 H0 σ H ρ1 (Ti ++ T), ⟨items.length, by simp, Nat.zero_le _, ρ, h0, s1⟩, ?_⟩
  rintro i m σ2 H2 ⟨rfl, hle, ρ1, hI, s2⟩
  by_cases hlt : i < items.length
  · right
    have gx : items[i]? = some items[i] := List.getElem?_eq_getElem hlt
    obtain ⟨go, yl⟩ := it.go M0 H0 σ2 H2 ρ1 T i _ s2 gx
    obtain ⟨ρ2, eg, wp⟩ := hs i _ ρ1 gx hI
    refine ⟨go, fun σ' H' => ∃ ρ3, I (i + 1) ρ3 ∧ Sta K M0 H0 σ' H' ρ3 (Ti ++ T), fun σ' H' ⟨ρ3, k1, k2⟩ => ⟨items.length - (i + 1), by omega, rfl, hlt, ρ3, k1, k2⟩, fun x H3 y => ?_⟩
    refine eg M0 H0 σ2 H3 _ x _ (yl x H3 y) mem1 fun σ4 H4 s4 _ => ?_
    refine wp M0 H0 (Ti ++ T) σ4 H4 _ (s4.same_sub fun p hp => List.mem_cons_of_mem _ hp) fun o p => ?_
    cases o with
    | nx ρ3 => exact fun σ' H' s' => ⟨ρ3, p, s'⟩
    | ct ρ3 => exact fun σ' H' s' => ⟨ρ3, p, s'⟩
    | bk ρ3 => exact fun σ' H' s' => f (.nx ρ3) p σ' H' (s'.same_sub fun q hq => List.mem_append_right _ hq)
    | rt d => exact f (.rt d) p
    | xc c => exact f (.xc c) p
    | rp R => exact f (.rp R) p
  · left
    have e : i = items.length := by omega
    subst e
    exact ⟨it.stop M0 H0 σ2 H2 ρ1 T _ s2 rfl, f (.nx ρ1) (hd ρ1 hI) σ2 H2 (s2.same_sub fun q hq => List.mem_append_right _ hq)⟩
/-- while: I by a measure -/
theorem wp_while {tb : TS} (I : Nat → List Sl → Prop) (m0 : Nat) (h0 : I m0 ρ)
    (hs : ∀ m ρ1, I m ρ1 → ∃ b, EvT K c ρ1 b ∧ (b = true → Wp K E tb ρ1 (Fr.Turn P fun ρ2 => ∃ m', m' < m ∧ I m' ρ2)) ∧ (b = false → P (.nx ρ1))) : Wp K E (tWhile c tb) ρ P := fun M0 H0 T σ H D s f => by
  refine ⟨fun m σ H => ∃ ρ1, I m ρ1 ∧ Sta K M0 H0 σ H ρ1 T, ⟨m0, ρ, h0, s⟩, ?_⟩
  rintro m σ1 H1 ⟨ρ1, hI, s1⟩
  obtain ⟨b, et, ht, hf⟩ := hs m ρ1 hI
  refine et M0 H0 σ1 H1 T _ s1 fun H2 s2 => ?_
  cases b with
  | false =>
    rw [if_neg Bool.false_ne_true]
    exact f (.nx ρ1) (hf rfl) σ1 H2 s2
  | true =>
    rw [if_pos rfl]
    refine ⟨fun σ' H' => ∃ m', m' < m ∧ ∃ ρ2, I m' ρ2 ∧ Sta K M0 H0 σ' H' ρ2 T, fun σ' H' ⟨m', hm, k⟩ => ⟨m', hm, k⟩, ht rfl M0 H0 T σ1 H2 _ s2 fun o p => ?_⟩
    cases o with
    | nx ρ3 => exact fun σ' H' s' => let ⟨m', hm, k⟩ := p; ⟨m', hm, ρ3, k, s'⟩
    | ct ρ3 => exact fun σ' H' s' => let ⟨m', hm, k⟩ := p; ⟨m', hm, ρ3, k, s'⟩
    | bk ρ3 => exact fun σ' H' s' => f (.nx ρ3) p σ' H' s'
    | rt d => exact f (.rt d) p
    | xc c => exact f (.xc c) p
    | rp R => exact f (.rp R) p
end

theorem sta_start {K : PySem.W.Frag} {M H : Hp} {N : List Str} {vs : List V} {ds : List Dt} (m : Kn M H) (h : DnA K M vs ds) (hn : ds.length ≤ N.length) : Sta K M H (L2.start N vs) H (ds.map Sl.va ++ List.replicate (N.length - ds.length) .no) [] := by
  have l := h.len
  refine ⟨M, Bs.refl m, by simp [L2.start, l], fun i s e => ?_, fun i j es fs a hij h1 h2 h3 h4 => ?_, fun p hp => by simp at hp⟩
  · by_cases hi : i < ds.length
    · rw [List.getElem?_append_left (by simpa using hi), List.getElem?_map, List.getElem?_eq_getElem hi] at e
      cases e
      obtain ⟨v, e1, hv⟩ := h.get (List.getElem?_eq_getElem hi)
      refine ⟨some v, ?_, v, rfl, hv⟩
      unfold L2.start
      rw [List.getElem?_append_left (by simpa [l] using hi), List.getElem?_map, e1]
      rfl
    · rw [List.getElem?_append_right (by simp; omega)] at e
      have q := List.mem_of_getElem? e
      have hlt := (List.getElem?_eq_some_iff.mp e).1
      simp at hlt
      have es : s = .no := (List.mem_replicate.mp q).2
      subst es
      exact ⟨none, by
        unfold L2.start
        rw [List.getElem?_append_right (by simp [l]; omega)]
        rw [List.getElem?_replicate]
        simp [l]; omega, trivial⟩
  · have q := List.mem_of_getElem? h1
    rcases List.mem_append.mp q with q | q
    · obtain ⟨_, _, z⟩ := List.mem_map.mp q
      cases z
    · have z := (List.mem_replicate.mp q).2
      cases z
section
variable {P : Program} {w : World} {K : PySem.W.Frag} {mg : Str → Option Value} {base : Heap}
theorem fn_mk {x qual : Str} {st : Stmt} {f : Addr} {fd : FuncData} {N ps : List Str} {k : Nat} {Pr : List Dt → Except Value Dt → Prop} (F : Fun K x qual st f fd) (S : FnScope N ps (defScope st)) (hl : ∀ ds r, Pr ds r → ds.length = ps.length)
    (hbody : ∀ (cdv : Value) (A : Around) (outer : List Env) (s : Shared) (H : Hp) (E : XK) (ds : List Dt) (r : Except Value Dt), Room k (A.deeper (envOfC qual (defScope st) s.heap.objs.size f cdv)) → Pr ds r →
      ∃ t, PSs (cxOf (L2N.CX P w) P w K mg base N qual (defScope st) f cdv A outer s H E) (defBody st) t ∧ Wp K E t (ds.map Sl.va ++ List.replicate (N.length - ds.length) .no) (Fr.Fin r)) : FnOk P w K mg base (L2N.CX P w) (k + 1) f fd ps (spD K Pr) := by
  obtain ⟨oc, od, kV, doc, pm, an, cdv, ct, osl, rfl, lk, hcd⟩ := F.ex
  have hpN : ps.length ≤ N.length := by have := congrArg List.length S.pre; rw [List.length_take] at this; omega
  refine fn_of lk hcd S (fun vs H Q E h => ?_) fun A outer s H vs Q E hr h => ?_
  · obtain ⟨M, ds, r, _, hd, hp, _⟩ := h
    rw [hd.len, hl ds r hp]
  · obtain ⟨M, ds, r, m, hd, hp, q, qx⟩ := h
    obtain ⟨t, h1, h2⟩ := hbody cdv A outer s H E ds r hr hp
    refine ⟨t, h1, h2 M H [] _ H _ (sta_start m hd (by rw [hl ds r hp]; exact hpN)) fun o p => ?_⟩
    cases o with
    | nx ρ => exact fun σ' H' s' => q _ p _ H' (by obtain ⟨M', st'⟩ := s'; exact ⟨M', st'.bs, .non⟩)
    | rt d => exact fun v H' a => q d p v H' a
    | bk ρ => exact False.elim p
    | ct ρ => exact False.elim p
    | xc c => exact fun H' a => qx c p H' a
    | rp R => exact False.elim p
end
end Fr
namespace Fr
open PySem PySem.Spec PyProof.Rows L2
variable [TabL]
section
variable {X : Cx}
theorem pe_globI {x : Str} {i : Int} {pos : Pos} (hm : ∃ t, X.mg x = some (.int i t)) (hg : Gl X x := by rfl) (hd : (x == ("__debug__" : Str)) = false := by decide) : PE X (.Name x pos) (tC (.int i)) := by
  obtain ⟨t, h⟩ := hm
  exact pe_glob hg h ⟨t, rfl⟩ hd
theorem pe_globS {x : Str} {i : Str} {pos : Pos} (hm : ∃ t, X.mg x = some (.str i t)) (hg : Gl X x := by rfl) (hd : (x == ("__debug__" : Str)) = false := by decide) : PE X (.Name x pos) (tC (.str i)) := by
  obtain ⟨t, h⟩ := hm
  exact pe_glob hg h ⟨t, rfl⟩ hd
def CMulA (i j : Int) : Prop := CMul i j ∨ CMulW i j
theorem op_mulA : OpR X (binaryOp .Mult) (rI CMulA fun i j => .int (i * j)) := by
  intro pins s σ H x y v u Q I rx ry h
  obtain ⟨i, j, e1, e2, c, q⟩ := h
  rcases c with c | c
  · exact op_mul pins s σ H x y v u Q I rx ry ⟨i, j, e1, e2, c, q⟩
  · exact op_mulW pins s σ H x y v u Q I rx ry ⟨i, j, e1, e2, c, q⟩
theorem cmul_r {i j : Int} (h1 : -(2 ^ 64) < j) (h2 : j < 2 ^ 64) : CMulA i j := .inl (.inr ⟨h1, h2⟩)
theorem cmul_l {i j : Int} (h1 : -(2 ^ 64) < i) (h2 : i < 2 ^ 64) : CMulA i j := .inl (.inl ⟨h1, h2⟩)
theorem cmul_w {i j : Int} (a b : Nat) (ha : i.natAbs < 2 ^ a) (hb : j.natAbs < 2 ^ b) (h0 : 0 < a) (h1 : 0 < b) (h : a + b ≤ 1000000) : CMulA i j := .inr (wide_mul ha hb h0 h1 h)
theorem passLN : Passes (L2N.CX X.prog X.w) X E0 := fun _ _ _ _ _ _ _ h => by
  obtain ⟨_, _, _, _, _, _, _, _, _, _, _, _, z⟩ := h
  exact z.elim
end
theorem bt_len : bootBuiltins "len" = some (.builtin "len") := by decide +kernel
theorem bt_all : bootBuiltins "all" = some (.builtin "all") := by decide +kernel
theorem bt_any : bootBuiltins "any" = some (.builtin "any") := by decide +kernel
theorem bt_sum : bootBuiltins "sum" = some (.builtin "sum") := by decide +kernel
theorem bt_max : bootBuiltins "max" = some (.builtin "max") := by decide +kernel
theorem bt_min : bootBuiltins "min" = some (.builtin "min") := by decide +kernel
theorem bt_isinstance : bootBuiltins "isinstance" = some (.builtin "isinstance") := by decide +kernel
theorem bt_tuple : bootBuiltins "tuple" = some (.type "tuple") := by decide +kernel
theorem bt_list : bootBuiltins "list" = some (.type "list") := by decide +kernel
theorem bt_int : bootBuiltins "int" = some (.type "int") := by decide +kernel
theorem bt_bool : bootBuiltins "bool" = some (.type "bool") := by decide +kernel
theorem bt_str : bootBuiltins "str" = some (.type "str") := by decide +kernel
theorem bt_dict : bootBuiltins "dict" = some (.type "dict") := by decide +kernel
section
variable (P : Program) (w : World) (K : PySem.W.Frag) (mg : Str → Option Value) (base : Heap)
/-- a def of the text, where it stands -/
def Df (x : Str) (st : Stmt) (ps : List Str) : Prop := ∃ (f : Addr) (fd : FuncData), Fun K x x st f fd ∧ mg x = some (.ref f) ∧ Binds K fd ps []
/-- a def that keeps a promise -/
def Ck (x : Str) (k : Nat) (ps : List Str) (sp : Sp) : Prop := ∃ (f : Addr) (fd : FuncData), mg x = some (.ref f) ∧ PySem.W.keepIn K (.ref f) = true ∧ Binds K fd ps [] ∧ FnOk P w K mg base (L2N.CX P w) k f fd ps sp
end
section
variable {P : Program} {w : World} {K : PySem.W.Frag} {mg : Str → Option Value} {base : Heap}
theorem ck_mk {x : Str} {st : Stmt} {N ps : List Str} {k : Nat} {Pr : List Dt → Except Value Dt → Prop} (D : Df K mg x st ps) (S : FnScope N ps (defScope st)) (hl : ∀ ds r, Pr ds r → ds.length = ps.length)
    (hbody : ∀ (f : Addr) (cdv : Value) (A : Around) (outer : List Env) (s : Shared) (H : Hp) (E : XK) (ds : List Dt) (r : Except Value Dt), Room k (A.deeper (envOfC x (defScope st) s.heap.objs.size f cdv)) → Pr ds r →
      ∃ t, PSs (cxOf (L2N.CX P w) P w K mg base N x (defScope st) f cdv A outer s H E) (defBody st) t ∧ Wp K E t (ds.map Sl.va ++ List.replicate (N.length - ds.length) .no) (Fr.Fin r)) : Ck P w K mg base x (k + 1) ps (spD K Pr) := by
  obtain ⟨f, fd, F, hm, hb⟩ := D
  exact ⟨f, fd, hm, F.kp, hb, fn_mk F S hl fun cdv A outer s H E ds r hr hp => hbody f cdv A outer s H E ds r hr hp⟩
section
variable {X : Cx} {CXo : CXT} {x : Str} {k : Nat} {ps : List Str} {sp : Sp} {E : XK} {p pos : Pos} {e : Expr} {es : List Expr} {t : TA}
theorem pe_callC (G : Ck X.prog X.w X.K X.mg X.base x k ps sp) (hr : Room k X.A) (hx : Passes (L2N.CX X.prog X.w) X E) (ha : PA X (e :: es) t) (hg : Gl X x := by rfl)
    (hdb : (x == ("__debug__" : Str)) = false := by decide) (he : starEach (e :: es) X.env = (false, eval e X.env) :: starEach es X.env := by rfl) (hpl : (backTo pos (starEach es X.env)).any (·.1) = false := by rfl) :
    PE X (.Call (.Name x p) (e :: es) [] pos) (tCall sp [] E t) := by
  obtain ⟨f, fd, hm, hk, hb, F⟩ := G
  exact pe_call F hr hg hm hk hb .nil hx ha hdb he hpl
theorem pe_callC0 (G : Ck X.prog X.w X.K X.mg X.base x k ps sp) (hr : Room k X.A) (hx : Passes (L2N.CX X.prog X.w) X E) (hg : Gl X x := by rfl) (hdb : (x == ("__debug__" : Str)) = false := by decide) : PE X (.Call (.Name x p) [] [] pos) (tCall sp [] E tNil) := by
  obtain ⟨f, fd, hm, hk, hb, F⟩ := G
  exact pe_call0 F hr hg hm hk hb .nil hx hdb
end
end
section
variable {K : PySem.W.Frag} {ρ : List Sl} {ta tb te tc : TE} {x y z d : Dt} {t u : TT}
theorem et_yes : EvT K tYes ρ true := fun M0 H0 σ H T Q s q => q H s
/-- an item of xs.map enc -/
theorem rv_ixLm {α : Type} {enc : α → Dt} {xs : List α} {i : Int} {x : α} (e : atI xs i = some x) : RV K (rIxL K) (.list (xs.map enc)) (.int i) (enc x) := rv_ixL (by
  unfold atI at e ⊢
  rw [List.length_map]
  cases q : ixN xs.length i with
  | none => rw [q] at e; cases e
  | some j =>
    rw [q] at e
    show (xs.map enc)[j]? = _
    have e : xs[j]? = some x := e
    rw [List.getElem?_map, e]; rfl)
theorem rv_ixTm {α : Type} {enc : α → Dt} {xs : List α} {i : Int} {x : α} (e : atI xs i = some x) : RV K (rIxT K) (.tuple (xs.map enc)) (.int i) (enc x) := rv_ixT (by
  unfold atI at e ⊢
  rw [List.length_map]
  cases q : ixN xs.length i with
  | none => rw [q] at e; cases e
  | some j =>
    rw [q] at e
    show (xs.map enc)[j]? = _
    have e : xs[j]? = some x := e
    rw [List.getElem?_map, e]; rfl)
theorem atI_of {α : Type} {xs : List α} {i : Int} (h0 : 0 ≤ i) (h1 : i < xs.length) (dflt : α) : atI xs i = some (xs.getD i.toNat dflt) := by
  unfold atI ixN
  rw [if_pos h0, if_pos h1]
  show xs[i.toNat]? = _
  have : i.toNat < xs.length := by omega
  rw [List.getElem?_eq_getElem this, List.getD_eq_getElem?_getD, List.getElem?_eq_getElem this]; rfl
theorem enumD_map {α : Type} {enc : α → Dt} {xs : List α} : enumD (xs.map enc) = xs.zipIdx.map fun p => PyData.tuple [.int (p.2 : Int), enc p.1] := by
  unfold enumD
  rw [List.zipIdx_map, List.map_map]
  rfl
theorem ei_enumM {α : Type} {enc : α → Dt} {xs : List α} (h : Ev K te ρ (.list (xs.map enc))) : EvI K (iEnum K (tCons te tNil)) ρ (xs.zipIdx.map fun p => PyData.tuple [.int (p.2 : Int), enc p.1]) := enumD_map ▸ ei_enum h
theorem zipD_map {α β : Type} {f : α → Dt} {g : β → Dt} {xs : List α} {ys : List β} : zipD (xs.map f) (ys.map g) = (xs.zip ys).map fun p => PyData.tuple [f p.1, g p.2] := by
  unfold zipD
  rw [List.zip_map, List.map_map]
  rfl
theorem ei_zipTM {α β : Type} {f : α → Dt} {g : β → Dt} {xs : List α} {ys : List β} (h : Ev K te ρ (.tuple (xs.map f))) (h' : Ev K tb ρ (.tuple (ys.map g))) : EvI K (RZ.iZipA K (tCons te (tCons tb tNil))) ρ ((xs.zip ys).map fun p => PyData.tuple [f p.1, g p.2]) := zipD_map ▸ ei_zipT h h'
theorem ei_zipLM {α β : Type} {f : α → Dt} {g : β → Dt} {xs : List α} {ys : List β} (h : Ev K te ρ (.list (xs.map f))) (h' : Ev K tb ρ (.list (ys.map g))) : EvI K (RZ.iZipA K (tCons te (tCons tb tNil))) ρ ((xs.zip ys).map fun p => PyData.tuple [f p.1, g p.2]) := zipD_map ▸ ei_zipL h h'
/-- [e for x in xs] -/
theorem evn_lc0 {α : Type} {wi : TI} {g : TG} {vs : List Nat} {xs : List α} {enc : α → Dt} (hi : EvI K wi ρ (xs.map enc)) (hl : xs.length ≤ 1000000) (out : α → Dt) (ρ2 : α → List Sl)
    (hb : ∀ x ∈ xs, EvG K g vs (enc x) (cset ρ vs) (ρ2 x) ∧ Ev K te (ρ2 x) (out x)) : EvN K (tLc wi g tYes te vs) ρ (xs.map out) := by
  have h := evn_lc (K := K) (te := te) (tt := tYes) hi hl (fun _ => true) out ρ2 fun x hx => ⟨(hb x hx).1, et_yes, fun _ => (hb x hx).2⟩
  rw [List.filter_eq_self.mpr (fun _ _ => rfl)] at h
  exact h
end
end Fr
namespace Fr
open PySem PySem.Spec PyProof.Rows L2
variable [TabL]
/-- an exception's class of the program -/
structure Xc (K : PySem.W.Frag) (mg : Str → Option Value) (x : Str) : Prop where
  gl : mg x = some (.ref (He.ga K x))
  ex : PySem.W.excIn K (He.ga K x) He.veBase "ValueError.__new__" = true
  kp : PySem.W.keepIn K (.ref (He.ga K x)) = true
  sb : PySem.W.subIn K (.ref (He.ga K x)) (.type "BaseException") = some true
  ty : PySem.W.typeIn K (.ref (He.ga K x)) = some (.type "type")
theorem cdiv_s {i j : Int} (h : 0 < j) (h2 : j < 2 ^ 64) : CDivW i j := wide_div (b := 64) h (by omega) (by decide) (by decide)
def isI : Dt → Bool
  | .int _ => true
  | .bool _ => true
  | _ => false
def isB : Dt → Bool
  | .bool _ => true
  | _ => false
def isT : Dt → Bool
  | .tuple _ => true
  | _ => false
def isL : Dt → Bool
  | .list _ => true
  | _ => false
def isS : Dt → Bool
  | .str _ => true
  | _ => false
def isD : Dt → Bool
  | .dict _ => true
  | _ => false
theorem kit_int (d : Dt) : kitB (tyD d) "int" = some (isI d) := by
  cases d <;> (first | show kitB "NoneType" "int" = some false | show kitB "bool" "int" = some true | show kitB "int" "int" = some true | show kitB "str" "int" = some false | show kitB "list" "int" = some false | show kitB "tuple" "int" = some false | show kitB "dict" "int" = some false) <;> decide +kernel
theorem kit_bool (d : Dt) : kitB (tyD d) "bool" = some (isB d) := by
  cases d <;> (first | show kitB "NoneType" "bool" = some false | show kitB "bool" "bool" = some true | show kitB "int" "bool" = some false | show kitB "str" "bool" = some false | show kitB "list" "bool" = some false | show kitB "tuple" "bool" = some false | show kitB "dict" "bool" = some false) <;> decide +kernel
theorem kit_tuple (d : Dt) : kitB (tyD d) "tuple" = some (isT d) := by
  cases d <;> (first | show kitB "NoneType" "tuple" = some false | show kitB "bool" "tuple" = some false | show kitB "int" "tuple" = some false | show kitB "str" "tuple" = some false | show kitB "list" "tuple" = some false | show kitB "tuple" "tuple" = some true | show kitB "dict" "tuple" = some false) <;> decide +kernel
theorem kit_list (d : Dt) : kitB (tyD d) "list" = some (isL d) := by
  cases d <;> (first | show kitB "NoneType" "list" = some false | show kitB "bool" "list" = some false | show kitB "int" "list" = some false | show kitB "str" "list" = some false | show kitB "list" "list" = some true | show kitB "tuple" "list" = some false | show kitB "dict" "list" = some false) <;> decide +kernel
theorem kit_str (d : Dt) : kitB (tyD d) "str" = some (isS d) := by
  cases d <;> (first | show kitB "NoneType" "str" = some false | show kitB "bool" "str" = some false | show kitB "int" "str" = some false | show kitB "str" "str" = some true | show kitB "list" "str" = some false | show kitB "tuple" "str" = some false | show kitB "dict" "str" = some false) <;> decide +kernel
section
variable {K : PySem.W.Frag} {ρ : List Sl} {ta : TE} {d : Dt} {t u : TT}
theorem ev_isi' {n : String} {b : Bool} (h : Ev K ta ρ d) (hk : kitB (tyD d) n = some b) : Ev K (tCB (rIsi K) (tCons ta (tCons (tC (.ty n)) tNil))) ρ (.bool b) :=
  (ev_isi h (by rw [hk]; rfl)).to (by unfold isiD; rw [hk]; rfl)
theorem ev_isi_int (h : Ev K ta ρ d) : Ev K (tCB (rIsi K) (tCons ta (tCons (tC (.ty "int")) tNil))) ρ (.bool (isI d)) := ev_isi' h (kit_int d)
theorem ev_isi_bool (h : Ev K ta ρ d) : Ev K (tCB (rIsi K) (tCons ta (tCons (tC (.ty "bool")) tNil))) ρ (.bool (isB d)) := ev_isi' h (kit_bool d)
theorem ev_isi_tuple (h : Ev K ta ρ d) : Ev K (tCB (rIsi K) (tCons ta (tCons (tC (.ty "tuple")) tNil))) ρ (.bool (isT d)) := ev_isi' h (kit_tuple d)
theorem ev_isi_list (h : Ev K ta ρ d) : Ev K (tCB (rIsi K) (tCons ta (tCons (tC (.ty "list")) tNil))) ρ (.bool (isL d)) := ev_isi' h (kit_list d)
theorem ev_isi_str (h : Ev K ta ρ d) : Ev K (tCB (rIsi K) (tCons ta (tCons (tC (.ty "str")) tNil))) ρ (.bool (isS d)) := ev_isi' h (kit_str d)
theorem et_or1 (h : EvT K t ρ true) : EvT K (tOr t u) ρ true := et_or (b := true) h fun z => nomatch z
theorem et_or2 {a : Bool} (h : EvT K t ρ a) (h2 : EvT K u ρ true) : EvT K (tOr t u) ρ true := by
  have := et_or h fun _ => h2
  rw [Bool.or_true] at this
  exact this
theorem et_and0 (h : EvT K t ρ false) : EvT K (tAnd t u) ρ false := et_and (b := false) h fun z => nomatch z
end
section
variable {K : PySem.W.Frag}
def rMaxT (K : PySem.W.Frag) : List V → Hp → VK → Prop := fun vs H Q => ∃ (a : Addr) (ns : List Int), vs = [V.ref a] ∧ SqT K H a (ns.map V.int) ∧ 0 < ns.length ∧ ∀ m, m ∈ ns → (∀ y, y ∈ ns → y ≤ m) → Q (.int m) H
theorem rc_maxT {ns : List Int} (h0 : 0 < ns.length) : RC K (rMaxT K) [.tuple (ns.map PyData.int)] (.int (maxI ns)) := fun M0 H0 σ H ρ T Q vs s m l q => rc_one l m fun v e hv => by
  obtain ⟨M, st⟩ := id s
  obtain ⟨a, ws, rfl, h1, h2⟩ := (st.at hv).tup_inv
  have ew := h2.ints
  subst ew
  refine ⟨a, ns, e, sqT_mono st.bs.mh h1, h0, fun k hk hle => ?_⟩
  have ne : ns ≠ [] := by intro z; subst z; simp at h0
  have ek : k = maxI ns := Int.le_antisymm (le_maxI hk) (hle _ (maxI_mem ne))
  rw [ek]
  exact q _ H (s.add fun M _ => .int _)
end
end Fr
namespace Fr
open PySem PySem.Spec PyProof.Rows L2
variable [TabL]
section
variable {prog : Program} {w : World} {A : Around} {E : Value → Shared → Prop} {s : Shared} {l : Addr} {xs : Array (Int × Tok)} {Q : Value → Shared → Prop}
theorem max_tupInts (hh : A.handled = none) (hl : s.heap.IsTuple l (intItems xs)) (hne : 0 < xs.size)
    (k : ∀ v h' tk, (intItems xs)[argBest (fun i j => decide (numAt xs i > numAt xs j)) (xs.size - 1)]? = some v → (∀ b o, s.heap.get? b = some o → h'.get? b = some o) → Q v { s with heap := h', toks := tk }) :
    wpAny (model prog w) A (call (.builtin "max") [.ref l]) Q E s := by
  have lt : l < s.heap.objs.size := by
    obtain ⟨_, e, _⟩ := hl
    exact Heap.lt_size e
  have ne : l ≠ s.heap.objs.size := Nat.ne_of_lt lt
  refine call_max_walk (wpAny_pyIter_tuple hl ?_)
  refine ⟨s.heap.objs.size, [s.heap.objs.size, l], [s.heap.objs.size], _, _, _, _, rfl, Walks.tuple (A := A.in1) hh _ l ne (intItems xs), ⟨⟨_, Heap.get?_push_size _ rfl, rfl, rfl⟩, hl.push _⟩, ?_, by simpa [intItems] using hne, CmpOf.ints_gt (numAt xs) (fun _ _ => intItems_at), ?_⟩
  · intro c hc
    show c < (s.heap.push _).objs.size
    rw [Heap.size_push]
    simp only [List.mem_cons, List.not_mem_nil, or_false] at hc
    rcases hc with rfl | rfl
    · exact Nat.lt_succ_self _
    · exact Nat.lt_succ_of_lt lt
  · intro v h' tk hP hk
    refine k v h' tk (by simpa [intItems] using hP) fun b o e => ?_
    refine hk b o (fun hm => ?_) (Heap.get?_push_of_some _ e)
    simp only [List.mem_cons, List.not_mem_nil, or_false] at hm
    exact absurd (hm ▸ Heap.lt_size e) (Nat.lt_irrefl _)
end
section
variable {X : Cx}
theorem cr_maxT (hc : X.calm = true) : CallR X (.builtin "max") (rMaxT X.K) := by
  intro pins s σ H vs us Q I r h
  obtain ⟨a, ns, rfl, hs, hne, q⟩ := h
  obtain ⟨its, rv, hl, _⟩ := I.tuple hs
  rw [Vals.ref1 r]
  obtain ⟨xs, e⟩ := rv.ints.allInts.items
  have hn : numsOf (intItems xs).toList = ns := by
    rw [← e]
    exact rv.ints.numsOf
  rw [nums_intItems] at hn
  subst hn
  rw [e] at hl
  refine max_tupInts (I.ok.hd hc) hl (by simpa using hne) fun v h' tk hv hk => ?_
  obtain ⟨t, rfl⟩ := intItems_at hv
  obtain ⟨h1, h2⟩ := argBest_gt (numAt xs) (xs.size - 1)
  refine ⟨.int _, H, I.kept hk, ⟨_, rfl⟩, q _ ?_ fun y hy => ?_⟩
  · rw [numAt_eq]
    refine PySem.getD_mem ?_
    rw [List.length_map, Array.length_toList]
    have : 0 < xs.size := by simpa using hne
    omega
  · obtain ⟨j, hj, rfl⟩ := mem_getD hy
    rw [List.length_map, Array.length_toList] at hj
    rw [← numAt_eq]
    exact h2 j (by omega)
end
end Fr

namespace Fr
open PySem PySem.Spec PyProof.Rows L2
variable [TabL]
section
variable {X : Cx} {K : PySem.W.Frag}
theorem ix_listK (h : X.K = K) : IxR X (rIxL K) := h ▸ ix_list
theorem ix_tupK (h : X.K = K) : IxR X (rIxT K) := h ▸ ix_tup
theorem op_eqDK (h : X.K = K) (hu : X.A.units + 64 < cLine) : OpR X (compareOp .Eq) (rEqD K) := h ▸ op_eqD hu
theorem op_neDK (h : X.K = K) (hu : X.A.units + 64 < cLine) : OpR X (compareOp .NotEq) (rNeD K) := h ▸ op_neD hu
theorem op_inK (h : X.K = K) : OpR X (compareOp .In) (rIn K false) := h ▸ op_in_seq
theorem op_notInK (h : X.K = K) : OpR X (compareOp .NotIn) (rIn K true) := h ▸ op_notIn_seq
theorem op_catAK (h : X.K = K) : OpR X (binaryOp .Add) (rCatA K) := h ▸ op_catA
theorem op_repTK (h : X.K = K) : OpR X (binaryOp .Mult) (rRepT K) := h ▸ op_repT
theorem call_isiKK (h : X.K = K) : CallR X (.builtin "isinstance") (rIsi K) := h ▸ call_isi
theorem call_lenK (h : X.K = K) : CallR X (.builtin "len") (rLenQ K) := h ▸ call_len_seq
theorem call_tupK (h : X.K = K) : CallR X (.type "tuple") (rTupQ K) := h ▸ call_tuple_of
theorem call_listK (h : X.K = K) : CallR X (.type "list") (rListQ K) := h ▸ call_list_of
theorem cr_allK (h : X.K = K) (hc : X.calm = true) : CallR X (.builtin "all") (rAll K) := h ▸ cr_all hc
theorem cr_anyK (h : X.K = K) (hc : X.calm = true) : CallR X (.builtin "any") (rAny K) := h ▸ cr_any hc
theorem cr_sumK (h : X.K = K) (hc : X.calm = true) : CallR X (.builtin "sum") (rSum K) := h ▸ cr_sum hc
theorem cr_maxK (h : X.K = K) (hc : X.calm = true) : CallR X (.builtin "max") (rMax K) := h ▸ cr_max hc
theorem cr_minK (h : X.K = K) (hc : X.calm = true) : CallR X (.builtin "min") (rMin K) := h ▸ cr_min hc
theorem cr_maxTK (h : X.K = K) (hc : X.calm = true) : CallR X (.builtin "max") (rMaxT K) := h ▸ cr_maxT hc
theorem sl_listK (h : X.K = K) : SlR X (rSlL K) := h ▸ sl_list
theorem sl_tupK (h : X.K = K) : SlR X (rSlA K) := h ▸ sl_tupA
theorem pi_listK {tg l : Expr} {tl : TE} (h : X.K = K) (hl : PE X l tl) : PI X tg l (iList K tl) := h ▸ pi_list hl
theorem pi_tupK {tg l : Expr} {tl : TE} (h : X.K = K) (hl : PE X l tl) : PI X tg l (iTup K tl) := h ▸ pi_tup hl
theorem pi_enumK {e : Expr} {ta : TA} {p pos tpos : Pos} {elts : List Expr} {kk : Nat} (h : X.K = K) (hg : Gl X "enumerate") (hm : X.mg "enumerate" = none) (ha : PA X [e] ta) (hs : starEach [e] X.env = [(false, eval e X.env)] := by rfl) :
    PI X (.Tuple elts kk tpos) (.Call (.Name "enumerate" p) [e] [] pos) (iEnum K ta) := h ▸ pi_enum hg hm ha hs
theorem pi_zipK {e e2 : Expr} {ta : TA} {p pos tpos : Pos} {elts : List Expr} {kk : Nat} (h : X.K = K) (hg : Gl X "zip") (hm : X.mg "zip" = none) (ha : PA X [e, e2] ta)
    (hs : starEach [e, e2] X.env = (false, eval e X.env) :: starEach [e2] X.env := by rfl) (hpl : (backTo pos (starEach [e2] X.env)).any (·.1) = false := by rfl) :
    PI X (.Tuple elts kk tpos) (.Call (.Name "zip" p) [e, e2] [] pos) (RZ.iZipA K ta) := h ▸ RZ.pi_zipA hg hm ha hs hpl
theorem pg_tupK {es : List Expr} {k n : Nat} {t : TGs} {pos : Pos} (h : X.K = K) (hc : X.calm = true) (ht : PGs X es t)
    (hn : (assignEach es X.env).length = n := by rfl) (hst : (assignEach es X.env).findIdx? (·.1) = none := by rfl) : PG X (.Tuple es k pos) (gTup K n t) := h ▸ pg_tup hc ht hn hst
end
end Fr
namespace Mx
/-- a prime -/
def Pm (p : Nat) : Prop := 2 ≤ p ∧ ∀ d, d ∣ p → d = 1 ∨ d = p
theorem pm_cop {p a : Nat} (h : Pm p) (n : ¬ p ∣ a) : Nat.Coprime p a := by
  rcases h.2 _ (Nat.gcd_dvd_left p a) with e | e
  · exact e
  · exact absurd (e ▸ Nat.gcd_dvd_right p a) n
theorem pm_mul {p a b : Nat} (h : Pm p) (d : p ∣ a * b) : p ∣ a ∨ p ∣ b := by
  by_cases q : p ∣ a
  · exact .inl q
  · exact .inr ((pm_cop h q).dvd_of_dvd_mul_left d)
def mlt (p n : Nat) : Nat := if h : 2 ≤ p ∧ 0 < n ∧ n % p = 0 then mlt p (n / p) + 1 else 0
termination_by n
decreasing_by exact Nat.div_lt_self h.2.1 (by omega)
theorem mlt_step {p n : Nat} (h1 : 2 ≤ p) (h2 : 0 < n) (h3 : n % p = 0) : mlt p n = mlt p (n / p) + 1 := by
  rw [mlt, dif_pos ⟨h1, h2, h3⟩]
theorem mlt_no {p n : Nat} (h : n % p ≠ 0) : mlt p n = 0 := by
  rw [mlt, dif_neg fun z => h z.2.2]
theorem mlt_self {p n : Nat} (h1 : 2 ≤ p) (h2 : 0 < n) : mlt p (p * n) = mlt p n + 1 := by
  rw [mlt_step h1 (Nat.mul_pos (by omega) h2) (Nat.mul_mod_right p n), Nat.mul_div_cancel_left n (by omega)]
theorem mlt_pow {p n : Nat} (h1 : 2 ≤ p) (h2 : 0 < n) : ∀ k, mlt p (p ^ k * n) = k + mlt p n
  | 0 => by simp
  | k + 1 => by
    rw [Nat.pow_succ, Nat.mul_comm (p ^ k) p, Nat.mul_assoc, mlt_self h1 (Nat.mul_pos (Nat.pow_pos (by omega)) h2), mlt_pow h1 h2 k]
    omega
theorem mlt_dvd {p n : Nat} : p ^ mlt p n ∣ n := by
  fun_induction mlt p n with
  | case1 n h ih =>
    obtain ⟨c, hc⟩ := ih
    refine ⟨c, ?_⟩
    rw [Nat.pow_succ, Nat.mul_comm _ p, Nat.mul_assoc, ← hc, Nat.mul_div_cancel' (Nat.dvd_of_mod_eq_zero h.2.2)]
  | case2 n h => simp
theorem mlt_split {p n : Nat} (h1 : 2 ≤ p) (h2 : 0 < n) : ∃ r, n = p ^ mlt p n * r ∧ 0 < r ∧ ¬ p ∣ r := by
  obtain ⟨r, hr⟩ := mlt_dvd (p := p) (n := n)
  have r0 : 0 < r := by
    rcases Nat.eq_zero_or_pos r with z | z
    · rw [z, Nat.mul_zero] at hr; omega
    · exact z
  refine ⟨r, hr, r0, fun d => ?_⟩
  obtain ⟨c, rfl⟩ := d
  have c0 : 0 < c := by
    rcases Nat.eq_zero_or_pos c with z | z
    · rw [z, Nat.mul_zero] at r0; omega
    · exact z
  have e : mlt p n = mlt p n + 1 + mlt p c := by
    have e1 : n = p ^ (mlt p n + 1) * c := by rw [Nat.pow_succ, Nat.mul_assoc]; exact hr
    have := mlt_pow h1 c0 (mlt p n + 1)
    rw [← e1] at this
    exact this
  omega
theorem mlt_uniq {p n k r : Nat} (h1 : 2 ≤ p) (e : n = p ^ k * r) (r0 : 0 < r) (nd : ¬ p ∣ r) : mlt p n = k := by
  rw [e, mlt_pow h1 r0, mlt_no fun z => nd (Nat.dvd_of_mod_eq_zero z)]
  rfl
theorem mlt_mul {p a b : Nat} (h : Pm p) (ha : 0 < a) (hb : 0 < b) : mlt p (a * b) = mlt p a + mlt p b := by
  obtain ⟨r, e1, r0, n1⟩ := mlt_split h.1 ha
  obtain ⟨s, e2, s0, n2⟩ := mlt_split h.1 hb
  refine mlt_uniq (r := r * s) h.1 ?_ (Nat.mul_pos r0 s0) fun d => ?_
  · rw [Nat.pow_add]
    calc a * b = (p ^ mlt p a * r) * (p ^ mlt p b * s) := by rw [← e1, ← e2]
      _ = _ := by rw [Nat.mul_assoc, Nat.mul_assoc, Nat.mul_left_comm r]
  · exact (pm_mul h d).elim n1 n2
theorem mlt_one {p : Nat} (h : 2 ≤ p) : mlt p 1 = 0 := mlt_no (by rw [Nat.mod_eq_of_lt (by omega)]; decide)
theorem pm_ne {p q : Nat} (hp : Pm p) (hq : Pm q) (n : p ≠ q) : ¬ p ∣ q := fun d => by
  rcases hq.2 p d with e | e
  · have := hp.1; omega
  · exact n e
theorem mlt_powOther {p q : Nat} (hp : Pm p) (hq : Pm q) (n : p ≠ q) : ∀ k, mlt p (q ^ k) = 0
  | 0 => by simp [mlt_one hp.1]
  | k + 1 => by
    rw [Nat.pow_succ, mlt_mul hp (Nat.pow_pos (by have := hq.1; omega)) (by have := hq.1; omega), mlt_powOther hp hq n k, mlt_no fun z => pm_ne hp hq n (Nat.dvd_of_mod_eq_zero z)]
theorem mlt_powSelf {p : Nat} (h : 2 ≤ p) (k : Nat) : mlt p (p ^ k) = k := by
  have := mlt_pow h (n := 1) (by omega) k
  rw [Nat.mul_one, mlt_one h] at this
  exact this
theorem mlt_le_iff {p n k : Nat} (h1 : 2 ≤ p) (h2 : 0 < n) : p ^ k ∣ n ↔ k ≤ mlt p n := by
  constructor
  · rintro ⟨c, hc⟩
    have c0 : 0 < c := by
      rcases Nat.eq_zero_or_pos c with z | z
      · rw [z, Nat.mul_zero] at hc; omega
      · exact z
    rw [hc, mlt_pow h1 c0]; omega
  · intro h
    exact Nat.dvd_trans (Nat.pow_dvd_pow p h) mlt_dvd
theorem mlt_of_dvd {p a b : Nat} (h : Pm p) (hb : 0 < b) (d : a ∣ b) : mlt p a ≤ mlt p b := by
  have ha : 0 < a := Nat.pos_of_dvd_of_pos d hb
  obtain ⟨c, rfl⟩ := d
  have c0 : 0 < c := by
    rcases Nat.eq_zero_or_pos c with z | z
    · rw [z, Nat.mul_zero] at hb; omega
    · exact z
  rw [mlt_mul h ha c0]; omega
theorem mlt_pow_le {p n : Nat} (h2 : 0 < n) : p ^ mlt p n ≤ n := Nat.le_of_dvd h2 mlt_dvd

def mk : List Nat → List Nat → Nat
  | p :: ps, r :: rs => p ^ r * mk ps rs
  | _, _ => 1
theorem mk_pos : ∀ (ps rs : List Nat), (∀ p ∈ ps, Pm p) → 0 < mk ps rs
  | [], _, _ => by simp [mk]
  | _ :: _, [], _ => by simp [mk]
  | p :: ps, r :: rs, h => by
    have := (h p (by simp)).1
    exact Nat.mul_pos (Nat.pow_pos (by omega)) (mk_pos ps rs fun q hq => h q (by simp [hq]))
theorem mlt_mkOut {q : Nat} (hq : Pm q) : ∀ (ps rs : List Nat), (∀ p ∈ ps, Pm p) → q ∉ ps → mlt q (mk ps rs) = 0
  | [], _, _, _ => by simp [mk, mlt_one hq.1]
  | _ :: _, [], _, _ => by simp [mk, mlt_one hq.1]
  | p :: ps, r :: rs, h, n => by
    have hp := h p (by simp)
    have := hp.1
    show mlt q (p ^ r * mk ps rs) = 0
    rw [mlt_mul hq (Nat.pow_pos (by omega)) (mk_pos ps rs fun q hq => h q (by simp [hq])), mlt_powOther hq hp (fun e => n (by simp [e])), mlt_mkOut hq ps rs (fun q hq => h q (by simp [hq])) fun z => n (by simp [z])]
theorem rooms_mk : ∀ (ps rs : List Nat), (∀ p ∈ ps, Pm p) → ps.Nodup → rs.length = ps.length → ps.map (mlt · (mk ps rs)) = rs
  | [], rs, _, _, l => by
    cases rs with
    | nil => rfl
    | cons r rs => simp at l
  | p :: ps, rs, h, nd, l => by
    cases rs with
    | nil => simp at l
    | cons r rs =>
      have hp := h p (by simp)
      have h' : ∀ q ∈ ps, Pm q := fun q hq => h q (by simp [hq])
      obtain ⟨n1, n2⟩ := List.nodup_cons.mp nd
      have := hp.1
      have pos := mk_pos ps rs h'
      have ih := rooms_mk ps rs h' n2 (by simpa using l)
      show mlt p (p ^ r * mk ps rs) :: ps.map (fun q => mlt q (p ^ r * mk ps rs)) = r :: rs
      congr 1
      · rw [mlt_pow hp.1 pos, mlt_mkOut hp ps rs h' n1]; rfl
      · calc ps.map (fun q => mlt q (p ^ r * mk ps rs)) = ps.map (mlt · (mk ps rs)) := by
              refine List.map_congr_left fun q hq => ?_
              rw [mlt_mul (h' q hq) (Nat.pow_pos (by omega)) pos, mlt_powOther (h' q hq) hp (fun e => n1 (e ▸ hq))]
              omega
          _ = rs := ih
theorem mk_dvd {n : Nat} (hn : 0 < n) : ∀ (ps : List Nat), (∀ p ∈ ps, Pm p) → ps.Nodup → mk ps (ps.map (mlt · n)) ∣ n
  | [], _, _ => by simp [mk]
  | p :: ps, h, nd => by
    have hp := h p (by simp)
    have h' : ∀ q ∈ ps, Pm q := fun q hq => h q (by simp [hq])
    obtain ⟨n1, n2⟩ := List.nodup_cons.mp nd
    have := hp.1
    have ih := mk_dvd hn ps h' n2
    refine Nat.Coprime.mul_dvd_of_dvd_of_dvd ?_ mlt_dvd ih
    refine Nat.Coprime.pow_left _ (pm_cop hp fun d => ?_)
    have e1 : mlt p (mk ps (ps.map (mlt · n))) = 0 := mlt_mkOut hp ps _ h' n1
    have e2 := (mlt_le_iff (k := 1) hp.1 (mk_pos ps (ps.map (mlt · n)) h')).mp (by simpa using d)
    omega
def pL : List Nat := [2, 3, 5, 7, 11, 13, 17, 19, 23, 29, 31, 37]
theorem pm_of {p : Nat} (h : 2 ≤ p) (k : ∀ d, d < p + 1 → d ∣ p → d = 1 ∨ d = p) : Pm p := ⟨h, fun d hd => k d (Nat.lt_succ_of_le (Nat.le_of_dvd (by omega) hd)) hd⟩
theorem pL_pm : ∀ p ∈ pL, Pm p := by
  have : ∀ p ∈ pL, 2 ≤ p ∧ ∀ d, d < p + 1 → d ∣ p → d = 1 ∨ d = p := by decide +kernel
  exact fun p hp => pm_of (this p hp).1 (this p hp).2
theorem pL_nd : pL.Nodup := by decide +kernel
def made (rs : List Nat) : Nat := mk pL rs
def rooms (n : Nat) : List Nat := pL.map (mlt · n)
def rest (n : Nat) : Nat := n / made (rooms n)
theorem rooms_len (n : Nat) : (rooms n).length = 12 := by simp [rooms, pL]
theorem rooms_made {rs : List Nat} (h : rs.length = 12) : rooms (made rs) = rs := rooms_mk pL rs pL_pm pL_nd (by rw [h]; rfl)
theorem made_pos (rs : List Nat) : 0 < made rs := mk_pos pL rs pL_pm
theorem made_rooms {n : Nat} (hn : 0 < n) : made (rooms n) ∣ n := mk_dvd hn pL pL_pm pL_nd
theorem rest_eq {n : Nat} (hn : 0 < n) : n = made (rooms n) * rest n := (Nat.mul_div_cancel' (made_rooms hn)).symm
theorem rest_made {rs : List Nat} (h : rs.length = 12) : rest (made rs) = 1 := by
  unfold rest
  rw [rooms_made h, Nat.div_self (made_pos rs)]
/-- whole, above nought, of the first primes alone, each up to 400 times -/
def IsNum (n : Nat) : Prop := 0 < n ∧ rest n = 1 ∧ ∀ k ∈ rooms n, k ≤ 400
theorem made_of {n : Nat} (hn : 0 < n) (h : rest n = 1) : made (rooms n) = n := by
  have := rest_eq hn
  rw [h, Nat.mul_one] at this
  exact this.symm
/-- the steps of parted's loop -/
theorem mk_take (ps : List Nat) (n : Nat) : ∀ i p, ps[i]? = some p → mk (ps.take (i + 1)) ((ps.take (i + 1)).map (mlt · n)) = mk (ps.take i) ((ps.take i).map (mlt · n)) * p ^ mlt p n := by
  induction ps with
  | nil => intro i p h; simp at h
  | cons q ps ih =>
    intro i p h
    cases i with
    | zero =>
      simp at h; subst h
      simp [mk]
    | succ i =>
      have h : ps[i]? = some p := by simpa using h
      show q ^ mlt q n * mk (ps.take (i + 1)) ((ps.take (i + 1)).map (mlt · n)) = q ^ mlt q n * mk (ps.take i) ((ps.take i).map (mlt · n)) * p ^ mlt p n
      rw [ih i p h, Nat.mul_assoc]
end Mx
namespace Mx
open PySem
theorem pL_item {i : Nat} {d : PyData} (h : (([2, 3, 5, 7, 11, 13, 17, 19, 23, 29, 31, 37] : List Int).map PyData.int)[i]? = some d) : ∃ p : Nat, pL[i]? = some p ∧ d = .int (p : Int) := by
  have e : ([2, 3, 5, 7, 11, 13, 17, 19, 23, 29, 31, 37] : List Int) = pL.map fun p : Nat => (p : Int) := by decide
  rw [e, List.map_map, List.getElem?_map] at h
  cases q : pL[i]? with
  | none => rw [q] at h; cases h
  | some p => rw [q] at h; cases h; exact ⟨p, rfl, rfl⟩
theorem pL_le : ∀ p ∈ pL, p ≤ 37 := by decide
theorem parted_end {n num : Nat} (hn : 0 < n) (h : n = mk (pL.take 12) ((pL.take 12).map (mlt · n)) * num) : num = rest n := by
  have e : pL.take 12 = pL := rfl
  rw [e] at h
  have h2 : n = made (rooms n) * num := h
  unfold rest
  rw [Nat.div_eq_of_eq_mul_right (made_pos _) h2]
theorem not_in_take {α : Type} : ∀ {l : List α} {i : Nat} {x : α}, l.Nodup → l[i]? = some x → x ∉ l.take i
  | [], _, _, _, h => by simp at h
  | y :: l, 0, x, _, _ => by simp
  | y :: l, i + 1, x, nd, h => by
    obtain ⟨n1, n2⟩ := List.nodup_cons.mp nd
    have h : l[i]? = some x := by simpa using h
    intro z
    rcases List.mem_cons.mp z with e | z
    · exact n1 (e ▸ List.mem_of_getElem? h)
    · exact not_in_take n2 h z
theorem mlt_step_parted {n num i p : Nat} (hn : 0 < n) (h : n = mk (pL.take i) ((pL.take i).map (mlt · n)) * num) (hp : pL[i]? = some p) (h0 : 0 < num) : mlt p n = mlt p num := by
  have pm := pL_pm p (List.mem_of_getElem? hp)
  have pt : ∀ q ∈ pL.take i, Pm q := fun q hq => pL_pm q (List.mem_of_mem_take hq)
  calc mlt p n = mlt p (mk (pL.take i) ((pL.take i).map (mlt · n)) * num) := by rw [← h]
    _ = mlt p (mk (pL.take i) ((pL.take i).map (mlt · n))) + mlt p num := mlt_mul pm (mk_pos _ _ pt) h0
    _ = mlt p num := by rw [mlt_mkOut pm _ _ pt (not_in_take pL_nd hp), Nat.zero_add]
end Mx
namespace Fr
open PySem PySem.Spec PyProof.Rows L2 Mx
variable [TabL]
abbrev nD (k : Nat) : Dt := .int (k : Int)
abbrev rmD (rs : List Nat) : Dt := .tuple (rs.map fun k : Nat => PyData.int (k : Int))
abbrev prD (p : Nat × Nat) : Dt := .tuple [.int (p.1 : Int), .int (p.2 : Int)]
abbrev lP (ps : List (Nat × Nat)) : Dt := .list (ps.map prD)
abbrev lN (ns : List Nat) : Dt := .list (ns.map fun k : Nat => PyData.int (k : Int))
def oN : Option Nat → Dt
  | none => .none
  | some k => .int (k : Int)
abbrev cE (K : PySem.W.Frag) (x : Str) : Except Value Dt := .error (.ref (He.ga K x))

def isNumD : Dt → Bool
  | .int i => decide (1 ≤ i) && (decide ((rest i.toNat : Int) = 1) && (rooms i.toNat).all fun k => decide ((k : Int) ≤ 400))
  | _ => false
def badNum : Dt → Bool
  | .int i => decide (i < 1)
  | _ => true
theorem badNum_true {d : Dt} (h : badNum d = true) : isNumD d = false := by
  cases d <;> try rfl
  rename_i i
  have h : decide (i < 1) = true := h
  have h := of_decide_eq_true h
  show (decide (1 ≤ i) && _) = false
  rw [decide_eq_false (by omega), Bool.false_and]
theorem badNum_false {d : Dt} (h : badNum d = false) : ∃ n : Nat, d = .int (n : Int) ∧ 0 < n := by
  cases d <;> try (cases h; done)
  rename_i i
  have h : decide (i < 1) = false := h
  have h := of_decide_eq_false h
  exact ⟨i.toNat, by congr 1; omega, by omega⟩
theorem isNumD_nat {n : Nat} (h : 0 < n) : isNumD (.int (n : Int)) = (decide ((rest n : Int) = 1) && (rooms n).all fun k => decide ((k : Int) ≤ 400)) := by
  show (decide (1 ≤ (n : Int)) && _) = _
  rw [decide_eq_true (by omega), Bool.true_and]
  rfl
theorem isNumD_iff {n : Nat} : isNumD (.int (n : Int)) = true ↔ IsNum n := by
  constructor
  · intro h
    have h1 : (decide (1 ≤ (n : Int)) && (decide ((rest n : Int) = 1) && (rooms n).all fun k => decide ((k : Int) ≤ 400))) = true := h
    simp only [Bool.and_eq_true, decide_eq_true_eq, List.all_eq_true] at h1
    exact ⟨by omega, by omega, fun k hk => by have := h1.2.2 k hk; omega⟩
  · rintro ⟨h1, h2, h3⟩
    rw [isNumD_nat h1]
    simp only [Bool.and_eq_true, decide_eq_true_eq, List.all_eq_true]
    exact ⟨by omega, fun k hk => by have := h3 k hk; omega⟩
theorem isNumD_of {d : Dt} (h : isNumD d = true) : ∃ n : Nat, d = .int (n : Int) ∧ IsNum n := by
  cases d <;> try (cases h; done)
  rename_i i
  have h0 : 1 ≤ i := by
    have h' : (decide (1 ≤ i) && _) = true := h
    simp only [Bool.and_eq_true, decide_eq_true_eq] at h'
    exact h'.1
  have e : i = ((i.toNat : Nat) : Int) := by omega
  refine ⟨i.toNat, by rw [← e], ?_⟩
  rw [e] at h
  exact isNumD_iff.mp h

/-- a right fraction -/
def IsFrac (p : Nat × Nat) : Prop := IsNum p.1 ∧ IsNum p.2 ∧ p.1 ≤ 1000000 ∧ p.2 ≤ 1000000 ∧ Nat.gcd p.1 p.2 = 1
def isFracD : Dt → Bool
  | .tuple [.int a, .int b] => isNumD (.int a) && (isNumD (.int b) && (decide (max a b ≤ 1000000) && decide ((Nat.gcd a.toNat b.toNat : Int) = 1)))
  | _ => false
def badFrac : Dt → Bool
  | .tuple ds => decide (ds.length ≠ 2) || !ds.all isNumD
  | _ => true
theorem badFrac_false {d : Dt} (h : badFrac d = false) : ∃ a b : Nat, d = prD (a, b) ∧ IsNum a ∧ IsNum b := by
  cases d <;> try (cases h; done)
  rename_i ds
  have h : (decide (ds.length ≠ 2) || !ds.all isNumD) = false := h
  rw [Bool.or_eq_false_iff, decide_eq_false_iff_not, Bool.not_eq_false', List.all_eq_true] at h
  match ds, h with
  | [x, y], h =>
    obtain ⟨a, rfl, ha⟩ := isNumD_of (h.2 x (by simp))
    obtain ⟨b, rfl, hb⟩ := isNumD_of (h.2 y (by simp))
    exact ⟨a, b, rfl, ha, hb⟩
  | [], h => simp at h
  | [_], h => simp at h
  | _ :: _ :: _ :: _, h => simp at h
theorem badFrac_true {d : Dt} (h : badFrac d = true) : isFracD d = false := by
  cases e : isFracD d with
  | false => rfl
  | true =>
    exfalso
    unfold isFracD at e
    split at e
    · rename_i a b
      simp only [Bool.and_eq_true] at e
      have h : (decide (([PyData.int a, PyData.int b] : List Dt).length ≠ 2) || !([PyData.int a, PyData.int b] : List Dt).all isNumD) = true := h
      simp [e.1, e.2.1] at h
    · cases e
theorem isFracD_pr {a b : Nat} (ha : IsNum a) (hb : IsNum b) : isFracD (prD (a, b)) = (decide (max (a : Int) (b : Int) ≤ 1000000) && decide ((Nat.gcd a b : Int) = 1)) := by
  show (isNumD (.int (a : Int)) && (isNumD (.int (b : Int)) && _)) = _
  rw [isNumD_iff.mpr ha, isNumD_iff.mpr hb, Bool.true_and, Bool.true_and]
  rfl
theorem isFracD_of {d : Dt} (h : isFracD d = true) : ∃ p : Nat × Nat, d = prD p ∧ IsFrac p := by
  cases e : badFrac d with
  | true => rw [badFrac_true e] at h; cases h
  | false =>
    obtain ⟨a, b, rfl, ha, hb⟩ := badFrac_false e
    rw [isFracD_pr ha hb] at h
    simp only [Bool.and_eq_true, decide_eq_true_eq] at h
    exact ⟨(a, b), rfl, ha, hb, by show a ≤ 1000000; omega, by show b ≤ 1000000; omega, by show Nat.gcd a b = 1; omega⟩
theorem isFracD_iff {p : Nat × Nat} : isFracD (prD p) = true ↔ IsFrac p := by
  constructor
  · intro h
    obtain ⟨q, e, hq⟩ := isFracD_of h
    have : p = q := by
      obtain ⟨a, b⟩ := p
      obtain ⟨c, d⟩ := q
      simp [prD] at e
      exact Prod.ext (by show a = c; omega) (by show b = d; omega)
    exact this ▸ hq
  · rintro ⟨h1, h2, h3, h4, h5⟩
    rw [isFracD_pr h1 h2]
    simp only [Bool.and_eq_true, decide_eq_true_eq]
    exact ⟨by omega, by omega⟩
/-- a right program -/
def IsProg (ps : List (Nat × Nat)) : Prop := ps.length ≤ 16 ∧ ∀ p ∈ ps, IsFrac p
def isProgD : Dt → Bool
  | .list ds => decide (ds.length ≤ 16) && ds.all isFracD
  | _ => false
def badProg : Dt → Bool
  | .list ds => decide (16 < ds.length)
  | _ => true
theorem badProg_true {d : Dt} (h : badProg d = true) : isProgD d = false := by
  cases d <;> try rfl
  rename_i ds
  have h : decide (16 < ds.length) = true := h
  have h := of_decide_eq_true h
  show (decide (ds.length ≤ 16) && _) = false
  rw [decide_eq_false (by omega), Bool.false_and]
theorem badProg_false {d : Dt} (h : badProg d = false) : ∃ ds : List Dt, d = .list ds ∧ ds.length ≤ 16 := by
  cases d <;> try (cases h; done)
  rename_i ds
  have h : decide (16 < ds.length) = false := h
  have h := of_decide_eq_false h
  exact ⟨ds, rfl, by omega⟩
theorem isProgD_list {ds : List Dt} (h : ds.length ≤ 16) : isProgD (.list ds) = ds.all isFracD := by
  show (decide (ds.length ≤ 16) && _) = _
  rw [decide_eq_true h, Bool.true_and]
theorem fracs_of : ∀ {ds : List Dt}, (∀ d ∈ ds, isFracD d = true) → ∃ ps : List (Nat × Nat), ds = ps.map prD ∧ ∀ p ∈ ps, IsFrac p
  | [], _ => ⟨[], rfl, by simp⟩
  | d :: ds, h => by
    obtain ⟨p, rfl, hp⟩ := isFracD_of (h d (by simp))
    obtain ⟨ps, rfl, hps⟩ := fracs_of fun d hd => h d (List.mem_cons_of_mem _ hd)
    exact ⟨p :: ps, rfl, fun q hq => (List.mem_cons.mp hq).elim (fun e => e ▸ hp) (hps q)⟩
theorem isProgD_of {d : Dt} (h : isProgD d = true) : ∃ ps, d = lP ps ∧ IsProg ps := by
  cases d <;> try (cases h; done)
  rename_i ds
  have h : (decide (ds.length ≤ 16) && ds.all isFracD) = true := h
  simp only [Bool.and_eq_true, decide_eq_true_eq, List.all_eq_true] at h
  obtain ⟨ps, rfl, hp⟩ := fracs_of h.2
  exact ⟨ps, rfl, by simpa using h.1, hp⟩
theorem isProgD_iff {ps : List (Nat × Nat)} : isProgD (lP ps) = true ↔ IsProg ps := by
  show (decide ((ps.map prD).length ≤ 16) && (ps.map prD).all isFracD) = true ↔ _
  simp only [Bool.and_eq_true, decide_eq_true_eq, List.all_eq_true, List.length_map, List.mem_map]
  constructor
  · rintro ⟨h1, h2⟩
    exact ⟨h1, fun p hp => isFracD_iff.mp (h2 _ ⟨p, hp, rfl⟩)⟩
  · rintro ⟨h1, h2⟩
    refine ⟨h1, ?_⟩
    rintro x ⟨p, hp, rfl⟩
    exact isFracD_iff.mpr (h2 p hp)
theorem prD_inj {p q : Nat × Nat} (h : prD p = prD q) : p = q := by
  obtain ⟨a, b⟩ := p
  obtain ⟨c, d⟩ := q
  simp [prD] at h
  exact Prod.ext (by show a = c; omega) (by show b = d; omega)
/-- reading data back -/
def decF : Dt → Nat × Nat
  | .tuple [.int a, .int b] => (a.toNat, b.toNat)
  | _ => (1, 1)
def decP : Dt → List (Nat × Nat)
  | .list ds => ds.map decF
  | _ => []
def decN : Dt → Nat
  | .int i => i.toNat
  | _ => 0
theorem decP_lP (ps : List (Nat × Nat)) : decP (lP ps) = ps := by
  show (ps.map prD).map decF = ps
  rw [List.map_map]
  calc ps.map (decF ∘ prD) = ps.map id := List.map_congr_left fun p _ => by
        show ((p.1 : Int).toNat, (p.2 : Int).toNat) = p
        simp
    _ = ps := List.map_id ps
theorem decN_nD (n : Nat) : decN (.int (n : Int)) = n := by show (n : Int).toNat = n; simp

/-- the parts of fractions: above nought, up to a million -/
def Small (ps : List (Nat × Nat)) : Prop := ∀ p ∈ ps, 0 < p.1 ∧ p.1 ≤ 1000000 ∧ 0 < p.2 ∧ p.2 ≤ 1000000
theorem IsProg.small {ps : List (Nat × Nat)} (h : IsProg ps) : Small ps := fun p hp => let ⟨h1, h2, h3, h4, _⟩ := h.2 p hp; ⟨h1.1, h3, h2.1, h4⟩
def firstAt (ps : List (Nat × Nat)) (n : Nat) : Option Nat := ps.findIdx? fun p => n % p.2 == 0
def fr (ps : List (Nat × Nat)) (i : Nat) : Nat × Nat := ps.getD i (1, 1)
def ledF (ps : List (Nat × Nat)) (n : Nat) : Option Nat := (firstAt ps n).map fun i => n / (fr ps i).2 * (fr ps i).1
def tooB (n : Nat) : Bool := decide ((n : Int) / 10 ^ 60 / 10 ^ 60 > 0) && decide (maxI ((rooms n).map fun k : Nat => (k : Int)) > 400)
def progE (K : PySem.W.Frag) (d : Dt) (k : List (Nat × Nat) → Except Value Dt) : Except Value Dt := if isProgD d then k (decP d) else cE K "BadProgram"
def lookE (K : PySem.W.Frag) (d e : Dt) (k : List (Nat × Nat) → Nat → Except Value Dt) : Except Value Dt := progE K d fun ps => if isNumD e then k ps (decN e) else cE K "BadNumber"
def stepE (K : PySem.W.Frag) (ps : List (Nat × Nat)) (n : Nat) : Except Value Dt := match ledF ps n with
  | none => .ok .none
  | some m => if tooB m then cE K "TooGreat" else .ok (nD m)
theorem progE_ok {K : PySem.W.Frag} {ps : List (Nat × Nat)} {k : List (Nat × Nat) → Except Value Dt} (h : IsProg ps) : progE K (lP ps) k = k ps := by
  unfold progE
  rw [isProgD_iff.mpr h, if_pos rfl, decP_lP]
theorem lookE_ok {K : PySem.W.Frag} {ps : List (Nat × Nat)} {n : Nat} {k : List (Nat × Nat) → Nat → Except Value Dt} (h : IsProg ps) (hn : IsNum n) : lookE K (lP ps) (nD n) k = k ps n := by
  unfold lookE
  rw [progE_ok h, isNumD_iff.mpr hn, if_pos rfl, decN_nD]
theorem firstAt_some {ps : List (Nat × Nat)} {n i : Nat} {p : Nat × Nat} (hp : ps[i]? = some p) (h : n % p.2 = 0) (hb : ∀ j q, j < i → ps[j]? = some q → n % q.2 ≠ 0) : firstAt ps n = some i := by
  obtain ⟨hi, e⟩ := List.getElem?_eq_some_iff.mp hp
  unfold firstAt
  rw [List.findIdx?_eq_some_iff_getElem]
  refine ⟨hi, by rw [e]; simp [h], fun j hj => ?_⟩
  have := hb j _ hj (List.getElem?_eq_getElem (by omega))
  simpa using this
theorem firstAt_none {ps : List (Nat × Nat)} {n : Nat} (hb : ∀ j q, j < ps.length → ps[j]? = some q → n % q.2 ≠ 0) : firstAt ps n = none := by
  unfold firstAt
  rw [List.findIdx?_eq_none_iff]
  intro p hp
  obtain ⟨j, hj, e⟩ := List.mem_iff_getElem.mp hp
  have := hb j p hj (by rw [List.getElem?_eq_getElem hj, e])
  simpa using this
theorem firstAt_spec {ps : List (Nat × Nat)} {n i : Nat} (h : firstAt ps n = some i) : ps[i]? = some (fr ps i) ∧ i < ps.length ∧ n % (fr ps i).2 = 0 ∧ ∀ j, j < i → n % (fr ps j).2 ≠ 0 := by
  unfold firstAt at h
  rw [List.findIdx?_eq_some_iff_getElem] at h
  obtain ⟨hi, h1, h2⟩ := h
  have e : ∀ j (hj : j < ps.length), fr ps j = ps[j] := fun j hj => by
    unfold fr
    rw [List.getD_eq_getElem?_getD, List.getElem?_eq_getElem hj]
    rfl
  refine ⟨by rw [e i hi]; exact List.getElem?_eq_getElem hi, hi, by rw [e i hi]; simpa using h1, fun j hj => ?_⟩
  rw [e j (by omega)]
  simpa using h2 j hj
theorem enum_item {α : Type} {xs : List α} {f : α → Dt} {i : Nat} {d : Dt} (h : (xs.zipIdx.map fun p => PyData.tuple [.int (p.2 : Int), f p.1])[i]? = some d) : ∃ x, xs[i]? = some x ∧ d = .tuple [.int (i : Int), f x] := by
  rw [List.getElem?_map, List.getElem?_zipIdx] at h
  cases e : xs[i]? with
  | none => rw [e] at h; simp at h
  | some x => rw [e] at h; simp at h; exact ⟨x, rfl, h.symm⟩
theorem map_item {α : Type} {xs : List α} {f : α → Dt} {i : Nat} {d : Dt} (h : (xs.map f)[i]? = some d) : ∃ x, xs[i]? = some x ∧ d = f x := by
  rw [List.getElem?_map] at h
  cases e : xs[i]? with
  | none => rw [e] at h; simp at h
  | some x => rw [e] at h; simp at h; exact ⟨x, rfl, h.symm⟩
theorem rng_item {lo : Int} {n i : Nat} {d : Dt} (h : (rngD lo n)[i]? = some d) : i < n ∧ d = .int (lo + (i : Int)) := by
  obtain ⟨x, e, rfl⟩ := map_item h
  have hi := (List.getElem?_eq_some_iff.mp e).1
  simp at hi
  rw [List.getElem?_range hi] at e
  cases e
  exact ⟨hi, rfl⟩
theorem atI_rng {α : Type} {xs : List α} {β : Type} {f : α → β} {x : Nat} (dflt : α) (hx : x ∈ List.range (((xs.map f).length : Int)).toNat) : atI xs (0 + (x : Int)) = some (xs.getD x dflt) := by
  rw [List.mem_range, List.length_map] at hx
  rw [Int.zero_add]
  have := atI_of (xs := xs) (i := (x : Int)) (by omega) (by omega) dflt
  simpa using this
def idleF (ps : List (Nat × Nat)) : List Nat := (List.range ps.length).filter fun i => !PyData.eqv (oN (firstAt ps (fr ps i).2)) (.int (0 + (i : Int)))
def leanF (ps : List (Nat × Nat)) : List (Nat × Nat) := (ps.zipIdx.filter fun q => !(idleF ps).contains q.2).map (·.1)
theorem sh_int (i : Int) : SeqAt.shaped (.int i) = true := by rfl
theorem sh_oN (o : Option Nat) : SeqAt.shaped (oN o) = true := by cases o <;> rfl
section
variable {K : PySem.W.Frag} {ρ : List Sl} {te : TE}
theorem ei_tupD {ds : List Dt} (h : Ev K te ρ (.tuple ds)) : EvI K (iTup K te) ρ (ds.map fun d => d) := by
  rw [List.map_id']; exact ei_tup h
theorem ei_listD {ds : List Dt} (h : Ev K te ρ (.list ds)) : EvI K (iList K te) ρ (ds.map fun d => d) := by
  rw [List.map_id']; exact ei_list h
theorem rc_allM {α : Type} {xs : List α} {p : α → Bool} : RC K (rAll K) [.list (xs.map fun x => PyData.bool (p x))] (.bool (xs.all p)) := by
  have h := rc_all (K := K) (bs := xs.map p)
  rw [List.map_map] at h
  have e : (xs.map p).all id = xs.all p := by rw [List.all_map]; rfl
  rw [e] at h
  exact h
theorem rc_maxTM {α : Type} {xs : List α} {f : α → Int} (h0 : 0 < xs.length) : RC K (rMaxT K) [.tuple (xs.map fun x => PyData.int (f x))] (.int (maxI (xs.map f))) := by
  have h := rc_maxT (K := K) (ns := xs.map f) (by simpa using h0)
  rw [List.map_map] at h
  exact h
theorem rc_maxM {α : Type} {xs : List α} {f : α → Int} (h0 : 0 < xs.length) : RC K (rMax K) [.list (xs.map fun x => PyData.int (f x))] (.int (maxI (xs.map f))) := by
  have h := rc_max (K := K) (ns := xs.map f) (by simpa using h0)
  rw [List.map_map] at h
  exact h
theorem rc_minM {α : Type} {xs : List α} {f : α → Int} (h0 : 0 < xs.length) : RC K (rMin K) [.list (xs.map fun x => PyData.int (f x))] (.int (minI (xs.map f))) := by
  have h := rc_min (K := K) (ns := xs.map f) (by simpa using h0)
  rw [List.map_map] at h
  exact h
theorem rc_sumM {α : Type} {xs : List α} {f : α → Int} : RC K (rSum K) [.list (xs.map fun x => PyData.int (f x))] (.int (xs.map f).sum) := by
  have h := rc_sum (K := K) (ns := xs.map f)
  rw [List.map_map] at h
  exact h
end
theorem cdiv_10 {i : Int} : CDivW i ((10 : Int) ^ (60 : Int).toNat) := wide_div (b := 200) (by decide) (by decide) (by decide) (by decide)
end Fr
namespace Fr
open PySem PySem.Spec PyProof.Rows L2 Mx
variable [TabL]
section
variable {K : PySem.W.Frag}
theorem look_ok {d e x : Dt} (h : (lookE K d e fun _ _ => .ok .none) = .ok x) : ∃ ps n, d = lP ps ∧ e = nD n ∧ IsProg ps ∧ IsNum n := by
  unfold lookE progE at h
  cases q : isProgD d with
  | false => rw [q] at h; cases h
  | true =>
    rw [q, if_pos rfl] at h
    cases q2 : isNumD e with
    | false => rw [q2] at h; cases h
    | true =>
      obtain ⟨ps, e1, h1⟩ := isProgD_of q
      obtain ⟨n, e2, h2⟩ := isNumD_of q2
      exact ⟨ps, n, e1, e2, h1, h2⟩
theorem look_xc {d e : Dt} {c : Value} {k : List (Nat × Nat) → Nat → Except Value Dt} (h : (lookE K d e fun _ _ => .ok .none) = .error c) : lookE K d e k = .error c := by
  unfold lookE progE at h ⊢
  cases q : isProgD d with
  | false => rw [q] at h; exact h
  | true =>
    rw [q, if_pos rfl] at h
    rw [if_pos rfl]
    cases q2 : isNumD e with
    | false => rw [q2] at h; exact h
    | true => rw [q2] at h; cases h
theorem prog_ok {d x : Dt} (h : (if isProgD d then .ok .none else cE K "BadProgram") = Except.ok x) : ∃ ps, d = lP ps ∧ IsProg ps := by
  cases q : isProgD d with
  | false => rw [q] at h; cases h
  | true => exact isProgD_of q
theorem prog_xc {d : Dt} {c : Value} {k : List (Nat × Nat) → Except Value Dt} (h : (if isProgD d then .ok .none else cE K "BadProgram") = Except.error (ε := Value) (α := Dt) c) : progE K d k = .error c := by
  unfold progE
  cases q : isProgD d with
  | false => rw [q] at h; exact h
  | true => rw [q] at h; cases h
theorem led_pos {ps : List (Nat × Nat)} {n m : Nat} (hps : IsProg ps) (hn : IsNum n) (h : ledF ps n = some m) : 0 < m := by
  unfold ledF at h
  cases e : firstAt ps n with
  | none => rw [e] at h; cases h
  | some i =>
    rw [e] at h
    have h : n / (fr ps i).2 * (fr ps i).1 = m := Option.some.inj h
    obtain ⟨hp, hi, hz, _⟩ := firstAt_spec e
    obtain ⟨g1, g2, g3, g4⟩ := hps.small _ (List.mem_of_getElem? hp)
    rw [← h]
    exact Nat.mul_pos (Nat.div_pos (Nat.le_of_dvd hn.1 (Nat.dvd_of_mod_eq_zero hz)) g3) g1
theorem contains_cast (k : Nat) (ns : List Nat) : (ns.map fun k : Nat => (k : Int)).contains (k : Int) = ns.contains k := by
  induction ns with
  | nil => rfl
  | cons n ns ih =>
    rw [List.map_cons, List.contains_cons, List.contains_cons, ih]
    congr 1
    by_cases q : k = n
    · subst q; simp
    · have q2 : (k : Int) ≠ (n : Int) := by omega
      rw [beq_eq_false_iff_ne.mpr q, beq_eq_false_iff_ne.mpr q2]
theorem rv_inN {k : Nat} {ns : List Nat} {neg : Bool} : RV K (rIn K neg) (.int (k : Int)) (lN ns) (.bool (if neg then !ns.contains k else ns.contains k)) := by
  have h := rv_inL (K := K) (i := (k : Int)) (ns := ns.map fun k : Nat => (k : Int)) (neg := neg)
  rw [List.map_map, contains_cast] at h
  exact h
end
end Fr
namespace Fr
open PySem PySem.Spec PyProof.Rows L2
variable [TabL]
section
variable {K : PySem.W.Frag} {ρ : List Sl} {ta tb te : TE} {d : Dt}
theorem dpA_ints {H : Hp} : ∀ ns : List Int, DpAll K H (ns.map V.int) (ns.map PyData.int)
  | [] => .nil
  | n :: ns => .cons (.int n) (dpA_ints ns)
theorem shaped_ints (ns : List Int) : SeqAt.shaped (.list (ns.map PyData.int)) = true := by
  induction ns with
  | nil => rfl
  | cons n ns ih => exact ih
theorem eqv_ints_nil (ns : List Int) : PyData.eqv (.list (ns.map PyData.int)) (.list []) = decide (ns = []) := by
  cases ns <;> rfl
/-- script == [] -/
theorem ev_eqScr {i : Nat} {ns : List Int} (h : ρ[i]? = some (.scr ns)) (hb : Ev K tb ρ (.list [])) : Ev K (tOp (rEqD K) (tVar i) tb) ρ (.bool (decide (ns = []))) := fun M0 H0 σ H T Q s q => by
  obtain ⟨M, st⟩ := id s
  obtain ⟨v, e1, a, rfl, h1⟩ := st.slot i _ h
  refine ⟨_, e1, hb M0 H0 σ H T _ s fun v2 H2 s2 => ?_⟩
  obtain ⟨M2, st2⟩ := id s2
  obtain ⟨v', e2, a', rfl, h2⟩ := st2.slot i _ h
  rw [e1] at e2
  cases e2
  refine ⟨.list (ns.map PyData.int), .list [], .lst (st2.bs.mh.seq h2) (dpA_ints ns), ((st2.at mem1).mono st2.bs.mh).dp, shaped_ints ns, rfl, ?_⟩
  rw [eqv_ints_nil]
  exact q _ H2 ((s2.same_sub fun p hp => by simp [hp]).add fun M _ => .bl _)
/-- script[j] -/
theorem ev_ixS {i : Nat} {ns : List Int} {j n : Int} (h : ρ[i]? = some (.scr ns)) (hb : Ev K tb ρ (.int j)) (e : atI ns j = some n) : Ev K (tOp (rIxL K) (tVar i) tb) ρ (.int n) := fun M0 H0 σ H T Q s q => by
  obtain ⟨M, st⟩ := id s
  obtain ⟨v, e1, a, rfl, h1⟩ := st.slot i _ h
  refine ⟨_, e1, hb M0 H0 σ H T _ s fun v2 H2 s2 => ?_⟩
  obtain ⟨M2, st2⟩ := id s2
  obtain ⟨v', e2, a', rfl, h2⟩ := st2.slot i _ h
  rw [e1] at e2
  cases e2
  have ev : atI (ns.map V.int) j = some (.int n) := by
    unfold atI at e ⊢
    rw [List.length_map]
    cases z : ixN ns.length j with
    | none => rw [z] at e; cases e
    | some k =>
      rw [z] at e
      have e : ns[k]? = some n := e
      show (ns.map V.int)[k]? = _
      rw [List.getElem?_map, e]; rfl
  exact ⟨a, _, j, _, rfl, (st2.at mem1).int_inv, st2.bs.mh.seq h2, ev, q _ H2 ((s2.same_sub fun p hp => by simp [hp]).add fun M _ => .int _)⟩
/-- a def's promise whose first argument is the script -/
def spX (K : PySem.W.Frag) (Pr : List Int → List Dt → Except Value Dt → Prop) : Sp := fun vs H Q E => ∃ (M : Hp) (a : Addr) (ns : List Int) (ws : List V) (ds : List Dt) (r : Except Value Dt), vs = .ref a :: ws ∧ Kn M H ∧ SqL K M a (ns.map V.int) ∧ DnA K M ws ds ∧ Pr ns ds r ∧
  (∀ d, r = .ok d → ∀ v H', Aft K M H v H' d → Q v H') ∧ (∀ c, r = .error c → ∀ H', AftX M H H' → E c none H')
theorem ev_callX {Pr : List Int → List Dt → Except Value Dt → Prop} {E : XK} {i : Nat} {tr : TA} {ns : List Int} {ds : List Dt} (h0 : ρ[i]? = some (.scr ns)) (h : EvA K tr ρ ds) (hp : Pr ns ds (.ok d)) : Ev K (tCall (spX K Pr) [] E (tCons (tVar i) tr)) ρ d := fun M0 H0 σ H T Q s q => by
  obtain ⟨M, st⟩ := id s
  obtain ⟨v, e1, a, rfl, h1⟩ := st.slot i _ h0
  refine ⟨_, e1, h M0 H0 σ H T _ s fun vs H1 s1 l => ?_⟩
  obtain ⟨M, st, hd⟩ := s1.tmpA (vs := vs) (ds := ds) app_l l
  obtain ⟨v', e2, a', rfl, h2⟩ := st.slot i _ h0
  rw [e1] at e2
  cases e2
  refine ⟨M, a, ns, vs, ds, .ok d, by rw [List.append_nil], st.bs.kn, h2, hd, hp, fun d' e v H' ⟨M', b, hv⟩ => ?_, fun c e => by cases e⟩
  cases e
  refine q v H' ⟨M', st.grow b fun p hp => ?_⟩
  rcases List.mem_cons.mp hp with e | hp
  · subst e; exact hv
  · exact (st.tmp p (by simp [hp])).mono b.mm
end
theorem sta_startX {K : PySem.W.Frag} {M H : Hp} {N : List Str} {a : Addr} {ns : List Int} {vs : List V} {ds : List Dt} (m : Kn M H) (hs : SqL K M a (ns.map V.int)) (h : DnA K M vs ds) (hn : ds.length + 1 ≤ N.length) :
    Sta K M H (L2.start N (.ref a :: vs)) H (.scr ns :: (ds.map Sl.va ++ List.replicate (N.length - 1 - ds.length) .no)) [] := by
  have l := h.len
  have own : ∀ {k : Nat} {es : Ow}, (Sl.scr ns :: (ds.map Sl.va ++ List.replicate (N.length - 1 - ds.length) .no))[k]? = some (.ow es) → False := fun {k es} e => by
    have q := List.mem_of_getElem? e
    rcases List.mem_cons.mp q with q | q
    · cases q
    · rcases List.mem_append.mp q with q | q
      · obtain ⟨_, _, z⟩ := List.mem_map.mp q; cases z
      · cases (List.mem_replicate.mp q).2
  have es : L2.start N (.ref a :: vs) = some (.ref a) :: (vs.map some ++ List.replicate (N.length - 1 - ds.length) none) := by
    unfold L2.start
    rw [List.map_cons, List.cons_append]
    congr 2
    simp only [List.length_cons, l]
    congr 1
    omega
  rw [es]
  refine ⟨M, Bs.refl m, by simp [l], fun i s e => ?_, fun i j es fs b hij h1 h2 h3 h4 => own h1, fun p hp => by simp at hp⟩
  cases i with
  | zero =>
    rw [List.getElem?_cons_zero] at e
    cases e
    exact ⟨_, rfl, a, rfl, hs⟩
  | succ i =>
    rw [List.getElem?_cons_succ] at e ⊢
    by_cases hi : i < ds.length
    · rw [List.getElem?_append_left (by simpa using hi), List.getElem?_map, List.getElem?_eq_getElem hi] at e
      cases e
      obtain ⟨v, e1, hv⟩ := h.get (List.getElem?_eq_getElem hi)
      exact ⟨some v, by rw [List.getElem?_append_left (by simpa [l] using hi), List.getElem?_map, e1]; rfl, v, rfl, hv⟩
    · rw [List.getElem?_append_right (by simp; omega)] at e
      have q := List.mem_of_getElem? e
      have hlt := (List.getElem?_eq_some_iff.mp e).1
      simp at hlt
      have es : s = .no := (List.mem_replicate.mp q).2
      subst es
      exact ⟨none, by
        rw [List.getElem?_append_right (by simp [l]; omega), List.getElem?_replicate]
        simp [l]; omega, trivial⟩
section
variable {P : Program} {w : World} {K : PySem.W.Frag} {mg : Str → Option Value} {base : Heap}
theorem fn_mkX {x qual : Str} {st : Stmt} {f : Addr} {fd : FuncData} {N ps : List Str} {k : Nat} {Pr : List Int → List Dt → Except Value Dt → Prop} (F : Fun K x qual st f fd) (S : FnScope N ps (defScope st)) (hl : ∀ ns ds r, Pr ns ds r → ds.length + 1 = ps.length)
    (hbody : ∀ (cdv : Value) (A : Around) (outer : List Env) (s : Shared) (H : Hp) (E : XK) (ns : List Int) (ds : List Dt) (r : Except Value Dt), Room k (A.deeper (envOfC qual (defScope st) s.heap.objs.size f cdv)) → Pr ns ds r →
      ∃ t, PSs (cxOf (L2N.CX P w) P w K mg base N qual (defScope st) f cdv A outer s H E) (defBody st) t ∧ Wp K E t (.scr ns :: (ds.map Sl.va ++ List.replicate (N.length - 1 - ds.length) .no)) (Fr.Fin r)) : FnOk P w K mg base (L2N.CX P w) (k + 1) f fd ps (spX K Pr) := by
  obtain ⟨oc, od, kV, doc, pm, an, cdv, ct, osl, rfl, lk, hcd⟩ := F.ex
  have hpN : ps.length ≤ N.length := by have := congrArg List.length S.pre; rw [List.length_take] at this; omega
  refine fn_of lk hcd S (fun vs H Q E h => ?_) fun A outer s H vs Q E hr h => ?_
  · obtain ⟨M, a, ns, ws, ds, r, rfl, _, _, hd, hp, _⟩ := h
    rw [List.length_cons, hd.len, hl ns ds r hp]
  · obtain ⟨M, a, ns, ws, ds, r, rfl, m, hs, hd, hp, q, qx⟩ := h
    obtain ⟨t, h1, h2⟩ := hbody cdv A outer s H E ns ds r hr hp
    refine ⟨t, h1, h2 M H [] _ H _ (sta_startX m hs hd (by rw [hl ns ds r hp]; exact hpN)) fun o p => ?_⟩
    cases o with
    | nx ρ => exact fun σ' H' s' => q _ p _ H' (by obtain ⟨M', st'⟩ := s'; exact ⟨M', st'.bs, .non⟩)
    | rt d => exact fun v H' a => q d p v H' a
    | bk ρ => exact False.elim p
    | ct ρ => exact False.elim p
    | xc c => exact fun H' a => qx c p H' a
    | rp R => exact False.elim p
theorem ck_mkX {x : Str} {st : Stmt} {N ps : List Str} {k : Nat} {Pr : List Int → List Dt → Except Value Dt → Prop} (D : Df K mg x st ps) (S : FnScope N ps (defScope st)) (hl : ∀ ns ds r, Pr ns ds r → ds.length + 1 = ps.length)
    (hbody : ∀ (f : Addr) (cdv : Value) (A : Around) (outer : List Env) (s : Shared) (H : Hp) (E : XK) (ns : List Int) (ds : List Dt) (r : Except Value Dt), Room k (A.deeper (envOfC x (defScope st) s.heap.objs.size f cdv)) → Pr ns ds r →
      ∃ t, PSs (cxOf (L2N.CX P w) P w K mg base N x (defScope st) f cdv A outer s H E) (defBody st) t ∧ Wp K E t (.scr ns :: (ds.map Sl.va ++ List.replicate (N.length - 1 - ds.length) .no)) (Fr.Fin r)) : Ck P w K mg base x (k + 1) ps (spX K Pr) := by
  obtain ⟨f, fd, F, hm, hb⟩ := D
  exact ⟨f, fd, hm, F.kp, hb, fn_mkX F S hl fun cdv A outer s H E ns ds r hr hp => hbody f cdv A outer s H E ns ds r hr hp⟩
end
end Fr
namespace Mx
theorem mk_mul : ∀ (ps as bs : List Nat), as.length = ps.length → bs.length = ps.length → mk ps as * mk ps bs = mk ps (List.zipWith (· + ·) as bs)
  | [], _, _, _, _ => by simp [mk]
  | p :: ps, [], _, h, _ => by simp at h
  | p :: ps, _ :: _, [], _, h => by simp at h
  | p :: ps, a :: as, b :: bs, h1, h2 => by
    show p ^ a * mk ps as * (p ^ b * mk ps bs) = p ^ (a + b) * mk ps (List.zipWith (· + ·) as bs)
    rw [← mk_mul ps as bs (by simpa using h1) (by simpa using h2), Nat.pow_add]
    simp only [Nat.mul_assoc, Nat.mul_left_comm]
theorem rooms_mul {a b : Nat} (ha : 0 < a) (hb : 0 < b) : rooms (a * b) = List.zipWith (· + ·) (rooms a) (rooms b) := by
  unfold rooms
  have : ∀ l : List Nat, (∀ p ∈ l, Pm p) → l.map (mlt · (a * b)) = List.zipWith (· + ·) (l.map (mlt · a)) (l.map (mlt · b)) := by
    intro l hl
    induction l with
    | nil => rfl
    | cons p l ih =>
      rw [List.map_cons, List.map_cons, List.map_cons, List.zipWith_cons_cons, ih fun q hq => hl q (by simp [hq]), mlt_mul (hl p (by simp)) ha hb]
  exact this pL pL_pm
theorem made_mul {as bs : List Nat} (h1 : as.length = 12) (h2 : bs.length = 12) : made as * made bs = made (List.zipWith (· + ·) as bs) := mk_mul pL as bs h1 h2
theorem rest_mul {a b : Nat} (ha : 0 < a) (hb : 0 < b) : rest (a * b) = rest a * rest b := by
  have e1 := rest_eq ha
  have e2 := rest_eq hb
  have e3 := rest_eq (Nat.mul_pos ha hb)
  rw [rooms_mul ha hb, ← made_mul (rooms_len a) (rooms_len b)] at e3
  have pos : 0 < made (rooms a) * made (rooms b) := Nat.mul_pos (made_pos _) (made_pos _)
  apply Nat.eq_of_mul_eq_mul_left pos
  rw [← e3]
  calc a * b = (made (rooms a) * rest a) * (made (rooms b) * rest b) := by rw [← e1, ← e2]
    _ = _ := by simp only [Nat.mul_assoc, Nat.mul_left_comm]
def Smooth (n : Nat) : Prop := 0 < n ∧ rest n = 1
theorem Smooth.mul {a b : Nat} (ha : Smooth a) (hb : Smooth b) : Smooth (a * b) := ⟨Nat.mul_pos ha.1 hb.1, by rw [rest_mul ha.1 hb.1, ha.2, hb.2]⟩
theorem Smooth.dvd {a n : Nat} (h : Smooth n) (d : a ∣ n) : Smooth a := by
  obtain ⟨b, rfl⟩ := d
  have ha : 0 < a := Nat.pos_of_ne_zero fun z => by have := h.1; rw [z, Nat.zero_mul] at this; omega
  have hb : 0 < b := Nat.pos_of_ne_zero fun z => by have := h.1; rw [z, Nat.mul_zero] at this; omega
  have := h.2
  rw [rest_mul ha hb] at this
  exact ⟨ha, Nat.dvd_one.mp ⟨_, this.symm⟩⟩
theorem Smooth.made (rs : List Nat) (h : rs.length = 12) : Smooth (made rs) := ⟨made_pos rs, rest_made h⟩
theorem smooth_one : Smooth 1 := ⟨by decide, by
  have : made (List.replicate 12 0) = 1 := by decide
  rw [← this]; exact rest_made rfl⟩
theorem Smooth.eq {n : Nat} (h : Smooth n) : Mx.made (rooms n) = n := made_of h.1 h.2
theorem smooth_prime {p : Nat} (hp : p ∈ pL) : Smooth p := by
  have : ∀ q ∈ pL, ∃ rs : List Nat, rs.length = 12 ∧ Mx.made rs = q := by
    intro q hq
    simp only [pL, List.mem_cons, List.not_mem_nil, or_false] at hq
    rcases hq with rfl | rfl | rfl | rfl | rfl | rfl | rfl | rfl | rfl | rfl | rfl | rfl
    · exact ⟨[1,0,0,0,0,0,0,0,0,0,0,0], rfl, by decide⟩
    · exact ⟨[0,1,0,0,0,0,0,0,0,0,0,0], rfl, by decide⟩
    · exact ⟨[0,0,1,0,0,0,0,0,0,0,0,0], rfl, by decide⟩
    · exact ⟨[0,0,0,1,0,0,0,0,0,0,0,0], rfl, by decide⟩
    · exact ⟨[0,0,0,0,1,0,0,0,0,0,0,0], rfl, by decide⟩
    · exact ⟨[0,0,0,0,0,1,0,0,0,0,0,0], rfl, by decide⟩
    · exact ⟨[0,0,0,0,0,0,1,0,0,0,0,0], rfl, by decide⟩
    · exact ⟨[0,0,0,0,0,0,0,1,0,0,0,0], rfl, by decide⟩
    · exact ⟨[0,0,0,0,0,0,0,0,1,0,0,0], rfl, by decide⟩
    · exact ⟨[0,0,0,0,0,0,0,0,0,1,0,0], rfl, by decide⟩
    · exact ⟨[0,0,0,0,0,0,0,0,0,0,1,0], rfl, by decide⟩
    · exact ⟨[0,0,0,0,0,0,0,0,0,0,0,1], rfl, by decide⟩
  obtain ⟨rs, h1, h2⟩ := this p hp
  exact h2 ▸ Smooth.made rs h1
theorem mk_zeros : ∀ (ps rs : List Nat), (∀ r ∈ rs, r = 0) → mk ps rs = 1
  | [], _, _ => by simp [mk]
  | _ :: _, [], _ => by simp [mk]
  | p :: ps, r :: rs, h => by
    show p ^ r * mk ps rs = 1
    rw [h r (by simp), mk_zeros ps rs fun q hq => h q (by simp [hq])]
    simp
/-- a smooth number above one has a prime of ours -/
theorem Smooth.prime {n : Nat} (h : Smooth n) (h1 : n ≠ 1) : ∃ p ∈ pL, p ∣ n := by
  refine Classical.byContradiction fun no => h1 ?_
  rw [← h.eq]
  refine mk_zeros pL _ fun r hr => ?_
  obtain ⟨p, hp, rfl⟩ := List.mem_map.mp hr
  exact mlt_no fun z => no ⟨p, hp, Nat.dvd_of_mod_eq_zero z⟩
theorem mlt_log {p n k : Nat} (h1 : 2 ≤ p) (h2 : 0 < n) (h : n < 2 ^ k) : mlt p n < k := by
  have h3 := mlt_pow_le (p := p) h2
  have h4 : 2 ^ mlt p n ≤ p ^ mlt p n := Nat.pow_le_pow_left h1 _
  exact (Nat.pow_lt_pow_iff_right (by decide : 1 < 2)).mp (Nat.lt_of_le_of_lt (Nat.le_trans h4 h3) h)
theorem Smooth.isNum {n : Nat} (h : Smooth n) (hb : n < 2 ^ 400) : IsNum n := ⟨h.1, h.2, fun k hk => by
  obtain ⟨p, hp, rfl⟩ := List.mem_map.mp hk
  exact Nat.le_of_lt (mlt_log (pL_pm p hp).1 h.1 hb)⟩
theorem IsNum.smooth {n : Nat} (h : IsNum n) : Smooth n := ⟨h.1, h.2.1⟩
theorem isNum_one : IsNum 1 := smooth_one.isNum (by decide)
def dr1 (c k : Int) : Int := (c * 6364136223846793005 + (k + 1) * 1442695040888963407) % 340282366920938463463374607431768211507
def dr2 (c k : Int) : Int := dr1 c k * dr1 c k % 340282366920938463463374607431768211297
def dr3 (c k : Int) : Int := (dr2 c k % 18446744073709551557 + 1) * (dr2 c k / 18446744073709551557 + 1) * dr2 c k
def drawn (c k : Int) : Int := dr3 c k % 340282366920938463463374607431768211507
theorem dr1_b (c k : Int) : 0 ≤ dr1 c k ∧ dr1 c k < 2 ^ 129 := by unfold dr1; omega
theorem dr2_b (c k : Int) : 0 ≤ dr2 c k ∧ dr2 c k < 2 ^ 128 := by unfold dr2; omega
theorem dr3_lo (c k : Int) : ((dr2 c k % 18446744073709551557 + 1) * (dr2 c k / 18446744073709551557 + 1)).natAbs < 2 ^ 130 := by
  have h := dr2_b c k
  rw [Int.natAbs_mul]
  have a : (dr2 c k % 18446744073709551557 + 1).natAbs < 2 ^ 65 := by omega
  have b : (dr2 c k / 18446744073709551557 + 1).natAbs < 2 ^ 65 := by omega
  exact Nat.lt_of_lt_of_le (Nat.mul_lt_mul'' a b) (by decide)
theorem drawn_nn (c k : Int) : 0 ≤ drawn c k := by unfold drawn; omega
theorem drawn_lt (c k : Int) : drawn c k < 2 ^ 129 := by unfold drawn; omega
def someP (m : Int) (q : Nat) : Nat → Nat
  | 0 => 1
  | i + 1 => someP m q i * pL.getD (drawn m (0 + (i : Int)) / 8 % (q : Int)).toNat 1
def someF (m : Int) (q t : Nat) : Nat := someP m q (m % ((t : Int) + 1)).toNat
theorem pL_at {i : Nat} (h : i < 12) : pL.getD i 1 ∈ pL := by
  rw [List.getD_eq_getElem?_getD, List.getElem?_eq_getElem (by exact h)]
  exact List.getElem_mem _
theorem draw_ix (m k : Int) {q : Nat} (h0 : 0 < q) (h1 : q ≤ 12) : 0 ≤ drawn m k / 8 % (q : Int) ∧ drawn m k / 8 % (q : Int) < (q : Int) ∧ (drawn m k / 8 % (q : Int)).toNat < 12 := by
  have a := Int.emod_nonneg (drawn m k / 8) (show (q : Int) ≠ 0 by omega)
  have b := Int.emod_lt_of_pos (drawn m k / 8) (show 0 < (q : Int) by omega)
  exact ⟨a, b, by omega⟩
theorem someP_smooth (m : Int) {q : Nat} (h0 : 0 < q) (h1 : q ≤ 12) : ∀ i, Smooth (someP m q i)
  | 0 => smooth_one
  | i + 1 => (someP_smooth m h0 h1 i).mul (smooth_prime (pL_at (draw_ix m _ h0 h1).2.2))
theorem someP_le (m : Int) {q : Nat} (h0 : 0 < q) (h1 : q ≤ 12) : ∀ i, someP m q i ≤ 37 ^ i
  | 0 => by simp [someP]
  | i + 1 => by
    rw [Nat.pow_succ]
    exact Nat.mul_le_mul (someP_le m h0 h1 i) (pL_le _ (pL_at (draw_ix m _ h0 h1).2.2))
theorem some_cnt (m : Int) (t : Nat) : (m % ((t : Int) + 1)).toNat ≤ t := by
  have := Int.emod_lt_of_pos m (show 0 < (t : Int) + 1 by omega)
  omega
theorem someF_smooth (m : Int) {q : Nat} (h0 : 0 < q) (h1 : q ≤ 12) (t : Nat) : Smooth (someF m q t) := someP_smooth m h0 h1 _
theorem someF_le (m : Int) {q : Nat} (h0 : 0 < q) (h1 : q ≤ 12) (t : Nat) : someF m q t ≤ 37 ^ t := Nat.le_trans (someP_le m h0 h1 _) (Nat.pow_le_pow_right (by decide) (some_cnt m t))
theorem someF_isNum (m : Int) {q : Nat} (h0 : 0 < q) (h1 : q ≤ 12) {t : Nat} (ht : t ≤ 70) : IsNum (someF m q t) :=
  (someF_smooth m h0 h1 t).isNum (Nat.lt_of_le_of_lt (Nat.le_trans (someF_le m h0 h1 t) (Nat.pow_le_pow_right (by decide) ht)) (by decide))
def red (p t u : Nat) : Nat × Nat := if h : 2 ≤ p ∧ 0 < t ∧ t % p = 0 ∧ u % p = 0 then red p (t / p) (u / p) else (t, u)
termination_by t
decreasing_by exact Nat.div_lt_self h.2.1 (by omega)
theorem red_step {p t u : Nat} (h : 2 ≤ p) (h0 : 0 < t) (h1 : t % p = 0) (h2 : u % p = 0) : red p t u = red p (t / p) (u / p) := by
  rw [red, dif_pos ⟨h, h0, h1, h2⟩]
theorem red_end {p t u : Nat} (h : t % p ≠ 0 ∨ u % p ≠ 0) : red p t u = (t, u) := by
  rw [red, dif_neg fun z => h.elim (fun q => q z.2.2.1) fun q => q z.2.2.2]
/-- what red gives: divisors of both, positive, p not in both -/
theorem red_spec {p t u : Nat} (h : 2 ≤ p) (ht : 0 < t) (hu : 0 < u) : 0 < (red p t u).1 ∧ 0 < (red p t u).2 ∧ (red p t u).1 ∣ t ∧ (red p t u).2 ∣ u ∧ ¬ (p ∣ (red p t u).1 ∧ p ∣ (red p t u).2) ∧ ∃ d, 0 < d ∧ t = (red p t u).1 * d ∧ u = (red p t u).2 * d := by
  fun_induction red p t u with
  | case1 t u h' ih =>
    have d1 := Nat.dvd_of_mod_eq_zero h'.2.2.1
    have d2 := Nat.dvd_of_mod_eq_zero h'.2.2.2
    obtain ⟨a, b, c, d, e, w, w0, w1, w2⟩ := ih (Nat.div_pos (Nat.le_of_dvd ht d1) (by omega)) (Nat.div_pos (Nat.le_of_dvd hu d2) (by omega))
    refine ⟨a, b, Nat.dvd_trans c (Nat.div_dvd_of_dvd d1), Nat.dvd_trans d (Nat.div_dvd_of_dvd d2), e, w * p, Nat.mul_pos w0 (by omega), ?_, ?_⟩
    · rw [← Nat.mul_assoc, ← w1, Nat.div_mul_cancel d1]
    · rw [← Nat.mul_assoc, ← w2, Nat.div_mul_cancel d2]
  | case2 t u h' =>
    refine ⟨ht, hu, Nat.dvd_refl _, Nat.dvd_refl _, fun z => h' ⟨h, ht, Nat.mod_eq_zero_of_dvd z.1, Nat.mod_eq_zero_of_dvd z.2⟩, 1, by omega, by simp, by simp⟩
def redAll (ps : List Nat) (a : Nat × Nat) : Nat × Nat := ps.foldl (fun a p => red p a.1 a.2) a
theorem redAll_snoc (ps : List Nat) (p : Nat) (a : Nat × Nat) : redAll (ps ++ [p]) a = red p (redAll ps a).1 (redAll ps a).2 := by
  unfold redAll
  rw [List.foldl_append]; rfl
theorem redAll_spec : ∀ (ps : List Nat) (a : Nat × Nat), (∀ p ∈ ps, 2 ≤ p) → 0 < a.1 → 0 < a.2 →
    0 < (redAll ps a).1 ∧ 0 < (redAll ps a).2 ∧ (redAll ps a).1 ∣ a.1 ∧ (redAll ps a).2 ∣ a.2 ∧ ∀ p ∈ ps, ¬ (p ∣ (redAll ps a).1 ∧ p ∣ (redAll ps a).2)
  | [], a, _, h1, h2 => ⟨h1, h2, Nat.dvd_refl _, Nat.dvd_refl _, by simp⟩
  | p :: ps, a, h, h1, h2 => by
    obtain ⟨a1, a2, a3, a4, a5, _⟩ := red_spec (h p (by simp)) h1 h2
    obtain ⟨b1, b2, b3, b4, b5⟩ := redAll_spec ps (red p a.1 a.2) (fun q hq => h q (by simp [hq])) a1 a2
    refine ⟨b1, b2, Nat.dvd_trans b3 a3, Nat.dvd_trans b4 a4, fun q hq => ?_⟩
    rcases List.mem_cons.mp hq with rfl | hq
    · exact fun z => a5 ⟨Nat.dvd_trans z.1 b3, Nat.dvd_trans z.2 b4⟩
    · exact b5 q hq
def fracF (m : Int) (q : Nat) : Nat × Nat := redAll pL (someF (drawn m 1) q 2, someF (drawn m 2) q 3)
theorem fracF_spec (m : Int) {q : Nat} (h0 : 0 < q) (h1 : q ≤ 12) : Smooth (fracF m q).1 ∧ Smooth (fracF m q).2 ∧ (fracF m q).1 ≤ 37 ^ 2 ∧ (fracF m q).2 ≤ 37 ^ 3 ∧ Nat.gcd (fracF m q).1 (fracF m q).2 = 1 := by
  have s1 := someF_smooth (drawn m 1) h0 h1 2
  have s2 := someF_smooth (drawn m 2) h0 h1 3
  obtain ⟨a1, a2, a3, a4, a5⟩ := redAll_spec pL (someF (drawn m 1) q 2, someF (drawn m 2) q 3) (fun p hp => (pL_pm p hp).1) s1.1 s2.1
  have t1 : Smooth (fracF m q).1 := s1.dvd a3
  have t2 : Smooth (fracF m q).2 := s2.dvd a4
  refine ⟨t1, t2, Nat.le_trans (Nat.le_of_dvd s1.1 a3) (someF_le _ h0 h1 2), Nat.le_trans (Nat.le_of_dvd s2.1 a4) (someF_le _ h0 h1 3), ?_⟩
  refine Classical.byContradiction fun no => ?_
  obtain ⟨p, hp, d⟩ := (t1.dvd (Nat.gcd_dvd_left _ (fracF m q).2)).prime no
  exact a5 p hp ⟨Nat.dvd_trans d (Nat.gcd_dvd_left _ _), Nat.dvd_trans d (Nat.gcd_dvd_right _ _)⟩
def cnt47 (m : Int) : Int := m % (if m / 8 % 2 = 0 then 4 else 7)
def progF (m : Int) (q : Nat) : List (Nat × Nat) := ((List.range (cnt47 m).toNat).map fun j : Nat => fracF (drawn m (0 + (j : Int))) q).filter fun p => decide ((p.2 : Int) > 1) || decide (m / 64 % 4 = 0)
theorem cnt47_b (m : Int) : 0 ≤ cnt47 m ∧ cnt47 m < 7 := by unfold cnt47; split <;> omega
def cellF (ns : List Int) (k : Nat) : Int := if ns = [] then (k : Int) * 7919 else ns.getD (k % ns.length) 0 + (k : Int) / (ns.length : Int) * 104729
end Mx
namespace Fr
open PySem PySem.Spec PyProof.Rows L2 Mx
variable [TabL]
theorem find_and {α : Type} {f q : α → Bool} : ∀ {l : List α}, (∀ (i : Nat) (x : α), l[i]? = some x → q x = true → (∀ (j : Nat) (y : α), j < i → l[j]? = some y → q y = false) → f x = true) → l.find? (fun x => f x && q x) = l.find? q
  | [], _ => rfl
  | x :: l, h => by
    rw [List.find?_cons, List.find?_cons]
    cases e : q x with
    | true =>
      rw [h 0 x rfl e fun j y hj _ => absurd hj (Nat.not_lt_zero j)]
      rfl
    | false =>
      rw [Bool.and_false]
      exact find_and fun i y hy hq hb => h (i + 1) y (by simpa using hy) hq fun j z hj hz => by
        cases j with
        | zero => simp at hz; subst hz; exact e
        | succ j => exact hb j z (by omega) (by simpa using hz)
theorem firstAt_self {ps : List (Nat × Nat)} {i : Nat} {p : Nat × Nat} (hp : ps[i]? = some p) : ∃ j, firstAt ps p.2 = some j ∧ j ≤ i := by
  cases e : firstAt ps p.2 with
  | none =>
    unfold firstAt at e
    rw [List.findIdx?_eq_none_iff] at e
    have := e p (List.mem_of_getElem? hp)
    simp at this
  | some j =>
    refine ⟨j, rfl, ?_⟩
    refine Nat.le_of_not_lt fun hlt => ?_
    have := (firstAt_spec e).2.2.2 i hlt
    apply this
    unfold fr
    rw [List.getD_eq_getElem?_getD, hp]
    exact Nat.mod_self _
theorem fr_of {ps : List (Nat × Nat)} {i : Nat} {p : Nat × Nat} (hp : ps[i]? = some p) : fr ps i = p := by
  unfold fr
  rw [List.getD_eq_getElem?_getD, hp]; rfl
theorem eqv_oN_int (o : Option Nat) (i : Nat) : PyData.eqv (oN o) (.int (0 + (i : Int))) = decide (o = some i) := by
  cases o with
  | none => rfl
  | some k =>
    show ((k : Int) == 0 + (i : Int)) = _
    by_cases e : k = i
    · subst e; simp
    · have : ¬ ((k : Int) = 0 + (i : Int)) := by omega
      rw [beq_eq_false_iff_ne.mpr this]; simp [e]
/-- a fraction behind one whose under divides its own is idle -/
def Idle (ps : List (Nat × Nat)) (i : Nat) : Prop := ∃ j, j < i ∧ (fr ps i).2 % (fr ps j).2 = 0
theorem idle_any {ps : List (Nat × Nat)} {i : Nat} : ((List.range i).any fun j => (fr ps i).2 % (fr ps j).2 == 0) = true ↔ Idle ps i := by
  rw [List.any_eq_true]
  constructor
  · rintro ⟨j, hj, hz⟩
    exact ⟨j, List.mem_range.mp hj, by simpa using hz⟩
  · rintro ⟨j, hj, hz⟩
    exact ⟨j, List.mem_range.mpr hj, by simpa using hz⟩
instance (ps : List (Nat × Nat)) (i : Nat) : Decidable (Idle ps i) := decidable_of_iff _ idle_any
theorem idle_iff {ps : List (Nat × Nat)} {i : Nat} (hi : i < ps.length) : firstAt ps (fr ps i).2 ≠ some i ↔ Idle ps i := by
  have hp : ps[i]? = some (fr ps i) := by rw [List.getElem?_eq_getElem hi, fr_of (List.getElem?_eq_getElem hi)]
  obtain ⟨j, e, hj⟩ := firstAt_self hp
  rw [e]
  constructor
  · intro h
    have hne : j ≠ i := fun z => h (by rw [z])
    exact ⟨j, by omega, (firstAt_spec e).2.2.1⟩
  · rintro ⟨k, hk, hz⟩ h
    cases h
    exact (firstAt_spec e).2.2.2 k hk hz
theorem idleF_eq (ps : List (Nat × Nat)) : idleF ps = (List.range ps.length).filter fun i => decide (Idle ps i) := by
  unfold idleF
  refine List.filter_congr fun i hi => ?_
  rw [eqv_oN_int]
  have := idle_iff (List.mem_range.mp hi)
  by_cases h : firstAt ps (fr ps i).2 = some i
  · have h2 : ¬ Idle ps i := fun z => this.mpr z h
    simp [h, h2]
  · have h2 : Idle ps i := this.mp h
    simp [h, h2]
theorem mem_idleF {ps : List (Nat × Nat)} {i : Nat} (hi : i < ps.length) : (idleF ps).contains i = decide (Idle ps i) := by
  rw [idleF_eq]
  by_cases h : Idle ps i <;> simp [h, hi]
theorem leanF_sub {ps : List (Nat × Nat)} : List.Sublist (leanF ps) ps := by
  unfold leanF
  have h : List.Sublist ((ps.zipIdx.filter fun q => !(idleF ps).contains q.2).map (·.1)) (ps.zipIdx.map (·.1)) := List.filter_sublist.map _
  rw [List.zipIdx_map_fst] at h
  exact h
theorem IsProg.lean {ps : List (Nat × Nat)} (h : IsProg ps) : IsProg (leanF ps) := ⟨Nat.le_trans leanF_sub.length_le h.1, fun p hp => h.2 p (leanF_sub.subset hp)⟩
theorem zip_at {α : Type} {ps : List α} {i : Nat} {x : α × Nat} (h : ps.zipIdx[i]? = some x) : x.2 = i ∧ ps[i]? = some x.1 := by
  rw [List.getElem?_zipIdx] at h
  cases e : ps[i]? with
  | none => rw [e] at h; simp at h
  | some p => rw [e] at h; simp at h; subst h; simp
theorem firstAt_find (ps : List (Nat × Nat)) (n : Nat) : ledF ps n = (ps.find? fun p => n % p.2 == 0).map fun p => n / p.2 * p.1 := by
  unfold ledF
  cases e : firstAt ps n with
  | none =>
    have e' := e
    unfold firstAt at e'
    rw [List.findIdx?_eq_none_iff] at e'
    have : ps.find? (fun p => n % p.2 == 0) = none := List.find?_eq_none.mpr fun p hp => by simpa using e' p hp
    rw [this]; rfl
  | some i =>
    obtain ⟨h1, h2, h3, h4⟩ := firstAt_spec e
    have : ps.find? (fun p => n % p.2 == 0) = some (fr ps i) := by
      rw [List.find?_eq_some_iff_getElem]
      refine ⟨by simp [h3], i, h2, ?_, fun j hj => ?_⟩
      · have := List.getElem?_eq_getElem h2
        rw [h1] at this
        exact (Option.some.inj this).symm
      · have := h4 j hj
        rw [fr_of (List.getElem?_eq_getElem (by omega))] at this
        simpa using this
    rw [this]; rfl
/-- the lean program leads where the program leads -/
theorem led_lean (ps : List (Nat × Nat)) (n : Nat) : ledF (leanF ps) n = ledF ps n := by
  rw [firstAt_find, firstAt_find]
  congr 1
  unfold leanF
  rw [List.find?_map, List.find?_filter]
  have e1 : ps.find? (fun p => n % p.2 == 0) = (ps.zipIdx.find? ((fun p : Nat × Nat => n % p.2 == 0) ∘ (·.1))).map (·.1) := by
    rw [← List.find?_map, List.zipIdx_map_fst]
  rw [e1]
  congr 1
  simp only [Bool.decide_and, Bool.decide_eq_true]
  refine find_and (f := fun q : (Nat × Nat) × Nat => !(idleF ps).contains q.2) (q := (fun p : Nat × Nat => n % p.2 == 0) ∘ (·.1)) fun i x hx hq hb => ?_
  obtain ⟨rfl, hp⟩ := zip_at hx
  have hi := (List.getElem?_eq_some_iff.mp hp).1
  show (!(idleF ps).contains x.2) = true
  rw [mem_idleF hi]
  have : ¬ Idle ps x.2 := by
    rintro ⟨j, hj, hz⟩
    have hq : (n % x.1.2 == 0) = true := hq
    rw [fr_of hp] at hz
    have pj : ps[j]? = some (fr ps j) := by rw [List.getElem?_eq_getElem (by omega), fr_of (List.getElem?_eq_getElem (by omega))]
    have := hb j (fr ps j, j) hj (by rw [List.getElem?_zipIdx, pj]; simp)
    have : (n % (fr ps j).2 == 0) = false := this
    simp at this hq
    exact this (Nat.mod_eq_zero_of_dvd (Nat.dvd_trans (Nat.dvd_of_mod_eq_zero hz) (Nat.dvd_of_mod_eq_zero hq)))
  simp [this]
/-- nothing in a lean program is idle -/
theorem idle_lean (ps : List (Nat × Nat)) : idleF (leanF ps) = [] := by
  have pw : (leanF ps).Pairwise fun p q => q.2 % p.2 ≠ 0 := by
    unfold leanF
    rw [List.pairwise_map]
    have h0 : ps.zipIdx.Pairwise fun x y : (Nat × Nat) × Nat => x.2 < y.2 := by
      rw [List.pairwise_iff_getElem]
      intro i j hi hj hij
      have e1 := (zip_at (List.getElem?_eq_getElem hi)).1
      have e2 := (zip_at (List.getElem?_eq_getElem hj)).1
      omega
    refine ((h0.filter _).imp_of_mem fun {x y} hx hy hlt hz => ?_)
    obtain ⟨hx, _⟩ := List.mem_filter.mp hx
    obtain ⟨hy, hy2⟩ := List.mem_filter.mp hy
    obtain ⟨i, hi⟩ := List.mem_iff_getElem?.mp hx
    obtain ⟨k, hk⟩ := List.mem_iff_getElem?.mp hy
    obtain ⟨rfl, ex⟩ := zip_at hi
    obtain ⟨rfl, ey⟩ := zip_at hk
    have hl := (List.getElem?_eq_some_iff.mp ey).1
    rw [mem_idleF hl] at hy2
    simp only [Bool.not_eq_true', decide_eq_false_iff_not] at hy2
    exact hy2 ⟨x.2, hlt, by rw [fr_of ex, fr_of ey]; exact hz⟩
  rw [idleF_eq, List.filter_eq_nil_iff]
  intro i hi
  have hi := List.mem_range.mp hi
  simp only [decide_eq_true_eq]
  rintro ⟨j, hj, hz⟩
  rw [List.pairwise_iff_getElem] at pw
  have := pw j i (by omega) hi hj
  rw [fr_of (List.getElem?_eq_getElem hi), fr_of (List.getElem?_eq_getElem (by omega : j < (leanF ps).length))] at hz
  exact this hz
def lstep (ps : List (Nat × Nat)) (n : Nat) : Option (Nat × Nat) := (ps.findIdx? fun p => n * p.1 % p.2 == 0).map fun i => (i, n * (fr ps i).1 / (fr ps i).2)
theorem lstep_some {ps : List (Nat × Nat)} {n i : Nat} {p : Nat × Nat} (hp : ps[i]? = some p) (h : n * p.1 % p.2 = 0) (hb : ∀ j q, j < i → ps[j]? = some q → n * q.1 % q.2 ≠ 0) : lstep ps n = some (i, n * p.1 / p.2) := by
  obtain ⟨hi, e⟩ := List.getElem?_eq_some_iff.mp hp
  unfold lstep
  have : (ps.findIdx? fun p => n * p.1 % p.2 == 0) = some i := by
    rw [List.findIdx?_eq_some_iff_getElem]
    refine ⟨hi, by rw [e]; simp [h], fun j hj => ?_⟩
    have := hb j _ hj (List.getElem?_eq_getElem (by omega))
    simpa using this
  rw [this, Option.map_some, fr_of hp]
theorem lstep_none {ps : List (Nat × Nat)} {n : Nat} (hb : ∀ j q, j < ps.length → ps[j]? = some q → n * q.1 % q.2 ≠ 0) : lstep ps n = none := by
  unfold lstep
  rw [Option.map_eq_none_iff, List.findIdx?_eq_none_iff]
  intro p hp
  obtain ⟨j, hj, e⟩ := List.mem_iff_getElem.mp hp
  have := hb j p hj (by rw [List.getElem?_eq_getElem hj, e])
  simpa using this
/-- parts without a common divisor -/
def Cop (ps : List (Nat × Nat)) : Prop := ∀ p ∈ ps, Nat.gcd p.1 p.2 = 1
theorem IsProg.cop {ps : List (Nat × Nat)} (h : IsProg ps) : Cop ps := fun p hp => (h.2 p hp).2.2.2.2
theorem cop_mod {n a b : Nat} (h : Nat.gcd a b = 1) : n * a % b = 0 ↔ n % b = 0 := by
  constructor
  · intro z
    have d : b ∣ n * a := Nat.dvd_of_mod_eq_zero z
    exact Nat.mod_eq_zero_of_dvd (Nat.Coprime.dvd_of_dvd_mul_right (by show Nat.gcd b a = 1; rw [Nat.gcd_comm]; exact h) d)
  · intro z
    exact Nat.mod_eq_zero_of_dvd (Nat.dvd_trans (Nat.dvd_of_mod_eq_zero z) (Nat.dvd_mul_right n a))
theorem lstep_eq {ps : List (Nat × Nat)} (h : Cop ps) (n : Nat) : lstep ps n = (firstAt ps n).map fun i => (i, n / (fr ps i).2 * (fr ps i).1) := by
  have e : (ps.findIdx? fun p => n * p.1 % p.2 == 0) = firstAt ps n := by
    unfold firstAt
    have : ∀ l : List (Nat × Nat), (∀ p ∈ l, Nat.gcd p.1 p.2 = 1) → (l.findIdx? fun p => n * p.1 % p.2 == 0) = l.findIdx? fun p => n % p.2 == 0 := by
      intro l hl
      induction l with
      | nil => rfl
      | cons p l ih =>
        rw [List.findIdx?_cons, List.findIdx?_cons, ih fun q hq => hl q (by simp [hq])]
        have := cop_mod (n := n) (hl p (by simp))
        by_cases z : n % p.2 = 0
        · simp [z, this.mpr z]
        · have z2 : ¬ n * p.1 % p.2 = 0 := fun q => z (this.mp q)
          simp [z, z2]
    exact this ps h
  unfold lstep
  rw [e]
  cases e2 : firstAt ps n with
  | none => rfl
  | some i =>
    obtain ⟨_, _, h3, _⟩ := firstAt_spec e2
    rw [Option.map_some, Option.map_some]
    congr 2
    have d := Nat.dvd_of_mod_eq_zero h3
    rw [Nat.mul_comm n, Nat.mul_div_assoc _ d, Nat.mul_comm]
theorem lstep_led {ps : List (Nat × Nat)} (h : Cop ps) (n : Nat) : (lstep ps n).map (·.2) = ledF ps n := by
  rw [lstep_eq h]
  unfold ledF
  cases firstAt ps n <;> rfl
theorem frac_isFrac (m : Int) {q : Nat} (h0 : 0 < q) (h1 : q ≤ 12) : IsFrac (fracF m q) := by
  obtain ⟨a1, a2, a3, a4, a5⟩ := fracF_spec m h0 h1
  exact ⟨a1.isNum (Nat.lt_of_le_of_lt a3 (by decide)), a2.isNum (Nat.lt_of_le_of_lt a4 (by decide)), Nat.le_trans a3 (by decide), Nat.le_trans a4 (by decide), a5⟩
theorem progF_low (m : Int) {q : Nat} (h0 : 0 < q) (h1 : q ≤ 12) : ∀ p ∈ progF m q, p.1 ≤ 37 ^ 2 ∧ p.2 ≤ 37 ^ 3 ∧ Smooth p.2 := by
  intro p hp
  obtain ⟨hp, _⟩ := List.mem_filter.mp hp
  obtain ⟨j, _, rfl⟩ := List.mem_map.mp hp
  obtain ⟨a1, a2, a3, a4, a5⟩ := fracF_spec (drawn m (0 + (j : Int))) h0 h1
  exact ⟨a3, a4, a2⟩
theorem progF_len (m : Int) (q : Nat) : (progF m q).length ≤ 6 := by
  unfold progF
  refine Nat.le_trans (List.length_filter_le _ _) ?_
  have := (cnt47_b m).2
  rw [List.length_map, List.length_range]
  omega
theorem progF_isProg (m : Int) {q : Nat} (h0 : 0 < q) (h1 : q ≤ 12) : IsProg (progF m q) := by
  refine ⟨Nat.le_trans (progF_len m q) (by decide), fun p hp => ?_⟩
  obtain ⟨hp, _⟩ := List.mem_filter.mp hp
  obtain ⟨j, _, rfl⟩ := List.mem_map.mp hp
  exact frac_isFrac _ h0 h1
/-- a program with one fraction more -/
theorem IsProg.more {ps : List (Nat × Nat)} (h : IsProg ps) (hl : ps.length ≤ 15) {u : Nat} (hu : Smooth u) (hb : u ≤ 1000000) : IsProg (ps ++ [(1, u)]) := by
  refine ⟨by simp; omega, fun p hp => ?_⟩
  rcases List.mem_append.mp hp with hp | hp
  · exact h.2 p hp
  · rw [List.mem_singleton] at hp
    subst hp
    exact ⟨isNum_one, hu.isNum (Nat.lt_of_le_of_lt hb (by decide)), by show 1 ≤ 1000000; decide, hb, Nat.gcd_one_left _⟩
theorem tooB_small {n : Nat} (h : n < 10 ^ 60) : tooB n = false := by
  unfold tooB
  have : (n : Int) / 10 ^ 60 = 0 := by omega
  rw [this]
  rfl
theorem led_small {ps : List (Nat × Nat)} (hps : Small ps) {n m : Nat} (h : ledF ps n = some m) (hn : n ≤ 37 ^ 7) : m < 10 ^ 60 := by
  unfold ledF at h
  cases e : firstAt ps n with
  | none => rw [e] at h; cases h
  | some i =>
    rw [e] at h
    have h : n / (fr ps i).2 * (fr ps i).1 = m := Option.some.inj h
    obtain ⟨hp, _⟩ := firstAt_spec e
    obtain ⟨_, g2, _, _⟩ := hps _ (List.mem_of_getElem? hp)
    have : n / (fr ps i).2 ≤ n := Nat.div_le_self _ _
    have : n / (fr ps i).2 * (fr ps i).1 ≤ 37 ^ 7 * 1000000 := Nat.mul_le_mul (Nat.le_trans this hn) g2
    rw [← h]
    exact Nat.lt_of_le_of_lt this (by decide)
theorem stepE_small {K : PySem.W.Frag} {ps : List (Nat × Nat)} (hps : Small ps) {n : Nat} (hn : n ≤ 37 ^ 7) : stepE K ps n = .ok (oN (ledF ps n)) := by
  unfold stepE
  cases e : ledF ps n with
  | none => rfl
  | some m =>
    show (if tooB m then _ else _) = _
    rw [tooB_small (led_small hps e hn)]
    rfl
theorem sh_lN (ns : List Nat) : SeqAt.shaped (lN ns) = true := by
  have := shaped_ints (ns.map fun k : Nat => (k : Int))
  rw [List.map_map] at this
  exact this
theorem eqvAll_lN : ∀ (a b : List Nat), PyData.eqvAll (a.map nD) (b.map nD) = decide (a = b)
  | [], [] => rfl
  | [], _ :: _ => rfl
  | _ :: _, [] => rfl
  | x :: a, y :: b => by
    rw [List.map_cons, List.map_cons]
    show (((x : Int) == (y : Int)) && PyData.eqvAll (a.map nD) (b.map nD)) = _
    rw [eqvAll_lN a b]
    by_cases e : x = y
    · subst e; simp
    · have : ¬ (x : Int) = (y : Int) := by omega
      rw [beq_eq_false_iff_ne.mpr this]; simp [e]
theorem eqv_lN (a b : List Nat) : PyData.eqv (lN a) (lN b) = decide (a = b) := eqvAll_lN a b
theorem eqv_prD (p q : Nat × Nat) : PyData.eqv (prD p) (prD q) = decide (p = q) := by
  obtain ⟨a, b⟩ := p
  obtain ⟨c, d⟩ := q
  show (((a : Int) == (c : Int)) && (((b : Int) == (d : Int)) && true)) = _
  by_cases e : a = c
  · subst e
    by_cases e : b = d
    · subst e; simp
    · have : ¬ (b : Int) = (d : Int) := by omega
      rw [beq_eq_false_iff_ne.mpr this]; simp [e]
  · have : ¬ (a : Int) = (c : Int) := by omega
    rw [beq_eq_false_iff_ne.mpr this]; simp [e]
theorem eqvAll_lP : ∀ (a b : List (Nat × Nat)), PyData.eqvAll (a.map prD) (b.map prD) = decide (a = b)
  | [], [] => rfl
  | [], _ :: _ => rfl
  | _ :: _, [] => rfl
  | x :: a, y :: b => by
    rw [List.map_cons, List.map_cons]
    show (PyData.eqv (prD x) (prD y) && PyData.eqvAll (a.map prD) (b.map prD)) = _
    rw [eqvAll_lP a b, eqv_prD]
    by_cases e : x = y <;> simp [e]
theorem eqv_lP (a b : List (Nat × Nat)) : PyData.eqv (lP a) (lP b) = decide (a = b) := eqvAll_lP a b
theorem lP_depth (ps : List (Nat × Nat)) : PyData.depthAll (ps.map prD) ≤ 2 := by
  induction ps with
  | nil => exact Nat.zero_le _
  | cons p ps ih =>
    have : PyData.depth (prD p) ≤ 2 := by simp only [prD, PyData.depth, PyData.depthAll]; decide
    simp only [List.map_cons, PyData.depthAll]
    omega
theorem lP_lay (ps : List (Nat × Nat)) : PyData.canLayAll0 (ps.map prD) = true := by
  induction ps with
  | nil => rfl
  | cons p ps ih =>
    show (PyData.canLay0 (prD p) && PyData.canLayAll0 (ps.map prD)) = true
    rw [ih]
    rfl
theorem sh_lP (ps : List (Nat × Nat)) : SeqAt.shaped (lP ps) = true := by
  have h1 := lP_depth ps
  have h2 : PyData.depth (lP ps) ≤ 64 := by
    show PyData.depth (.list (ps.map prD)) ≤ 64
    simp only [PyData.depth]
    omega
  show (PyData.canLay0 (lP ps) && decide (PyData.depth (lP ps) ≤ 64)) = true
  rw [Bool.and_eq_true]
  exact ⟨lP_lay ps, decide_eq_true h2⟩
theorem eqv_oN (a b : Option Nat) : PyData.eqv (oN a) (oN b) = decide (a = b) := by
  cases a <;> cases b
  · rfl
  · rfl
  · rfl
  · rename_i x y
    show ((x : Int) == (y : Int)) = _
    by_cases e : x = y
    · subst e; simp
    · have : ¬ (x : Int) = (y : Int) := by omega
      rw [beq_eq_false_iff_ne.mpr this]; simp [e]
end Fr
namespace Fr
open PySem PySem.Spec PyProof.Rows L2 Mx
variable [TabL]
def oP : Option (Nat × Nat) → Dt
  | none => .none
  | some p => prD p
end Fr
namespace Fr
open PySem PySem.Spec PyProof.Rows L2 Mx
variable [TabL]
theorem cut_takeN {α : Type} (ps : List α) (f : α → Dt) (i : Nat) : cutL (ps.map f) none (some (i : Int)) = (ps.take i).map f := by
  unfold cutL
  rw [HT.sIx_none, HT.sIx_nat, List.drop_zero, List.length_map, Nat.sub_zero, ← List.map_take]
  congr 1
  rw [List.take_eq_take_iff]
  omega
theorem sh_ones {α : Type} (xs : List α) : SeqAt.shaped (.list (xs.map fun _ => PyData.int 1)) = true := by
  have := shaped_ints (xs.map fun _ => (1 : Int))
  rw [List.map_map] at this
  exact this
theorem eqv_ones {α : Type} (xs : List α) : PyData.eqv (.list (xs.map fun _ => PyData.int 1)) (.list []) = decide (xs = []) := by
  cases xs <;> rfl
theorem idle_ones {ps : List (Nat × Nat)} {i : Nat} {p : Nat × Nat} (hp : ps[i]? = some p) : (!decide ((ps.take i).filter (fun o : Nat × Nat => decide ((p.2 : Int) % (o.2 : Int) = 0)) = [])) = decide (Idle ps i) := by
  have hi := (List.getElem?_eq_some_iff.mp hp).1
  rw [← decide_not]
  congr 1
  simp only [eq_iff_iff]
  rw [List.filter_eq_nil_iff]
  constructor
  · intro h
    refine Classical.byContradiction fun no => h fun o ho => ?_
    obtain ⟨j, hj, e⟩ := List.mem_iff_getElem.mp ho
    rw [List.length_take] at hj
    rw [List.getElem_take] at e
    simp only [decide_eq_true_eq]
    intro z
    refine no ⟨j, by omega, ?_⟩
    rw [fr_of hp, fr_of (List.getElem?_eq_getElem (by omega)), e]
    omega
  · rintro ⟨j, hj, hz⟩ h
    rw [fr_of hp, fr_of (List.getElem?_eq_getElem (by omega : j < ps.length))] at hz
    have := h ps[j] (List.mem_take_iff_getElem.mpr ⟨j, by omega, rfl⟩)
    simp only [decide_eq_true_eq] at this
    apply this
    omega
theorem first_idle {ps : List (Nat × Nat)} {i j : Nat} {p : Nat × Nat} (hp : ps[i]? = some p) (ej : firstAt ps p.2 = some j) : (!decide ((!decide ((j : Int) = (i : Int))) = decide (Idle ps i))) = false := by
  have hi := (List.getElem?_eq_some_iff.mp hp).1
  have := idle_iff hi
  rw [fr_of hp, ej] at this
  have e : decide ((j : Int) = (i : Int)) = !decide (Idle ps i) := by
    by_cases h : Idle ps i
    · have h2 : ¬ ((j : Int) = (i : Int)) := fun z => this.mpr h (by congr 1; omega)
      rw [decide_eq_true h, decide_eq_false h2]; rfl
    · have h2 : (j : Int) = (i : Int) := Classical.byContradiction fun no => h (this.mp fun z => no (by rw [Option.some.inj z]))
      rw [decide_eq_false h, decide_eq_true h2]; rfl
  rw [e]
  simp
end Fr
namespace Fr
open PySem PySem.Spec PyProof.Rows L2 Mx
variable [TabL]
theorem mk_snoc : ∀ (ps rs : List Nat) (i p k : Nat), ps[i]? = some p → rs[i]? = some k → mk (ps.take (i + 1)) (rs.take (i + 1)) = mk (ps.take i) (rs.take i) * p ^ k
  | [], _, _, _, _, h, _ => by simp at h
  | _ :: _, [], _, _, _, _, h => by simp at h
  | q :: ps, r :: rs, 0, p, k, h1, h2 => by
    simp at h1 h2
    subst h1 h2
    simp [mk]
  | q :: ps, r :: rs, i + 1, p, k, h1, h2 => by
    have ih := mk_snoc ps rs i p k (by simpa using h1) (by simpa using h2)
    show q ^ r * mk (ps.take (i + 1)) (rs.take (i + 1)) = q ^ r * mk (ps.take i) (rs.take i) * p ^ k
    rw [ih, Nat.mul_assoc]
theorem mk_min : ∀ (ps rs : List Nat) (l : Nat), min ps.length rs.length ≤ l → mk (ps.take l) (rs.take l) = mk ps rs
  | [], _, _, _ => by simp [mk]
  | _ :: _, [], _, _ => by simp [mk]
  | p :: ps, r :: rs, 0, h => by simp at h
  | p :: ps, r :: rs, l + 1, h => by
    show p ^ r * mk (ps.take l) (rs.take l) = p ^ r * mk ps rs
    rw [mk_min ps rs l (by simp at h ⊢; omega)]
def isCount (d : Dt) (lo hi : Int) : Bool := match d with
  | .int i => decide (lo ≤ i) && decide (i ≤ hi)
  | _ => false
def isT12 : Dt → Bool
  | .tuple ds => decide ((ds.length : Int) = 12)
  | _ => false
def isRoomsD : Dt → Bool
  | .tuple ds => decide (ds.length = 12) && ds.all fun d => isCount d 0 400
  | _ => false
def decR : Dt → List Nat
  | .tuple ds => ds.map decN
  | _ => []
theorem counts_of : ∀ {ds : List Dt}, (∀ d ∈ ds, isCount d 0 400 = true) → ∃ rs : List Nat, ds = rs.map (fun k : Nat => PyData.int (k : Int)) ∧ ∀ k ∈ rs, k ≤ 400
  | [], _ => ⟨[], rfl, by simp⟩
  | d :: ds, h => by
    obtain ⟨rs, rfl, hr⟩ := counts_of (ds := ds) fun e he => h e (List.mem_cons_of_mem _ he)
    have h1 := h d (by simp)
    cases d <;> try (cases h1; done)
    rename_i i
    have h2 : (decide ((0 : Int) ≤ i) && decide (i ≤ 400)) = true := h1
    simp only [Bool.and_eq_true, decide_eq_true_eq] at h2
    refine ⟨i.toNat :: rs, ?_, fun k hk => ?_⟩
    · rw [List.map_cons]
      congr 2
      omega
    · rcases List.mem_cons.mp hk with rfl | hk
      · omega
      · exact hr k hk
theorem isRoomsD_of {d : Dt} (h : isRoomsD d = true) : ∃ rs : List Nat, d = rmD rs ∧ rs.length = 12 ∧ ∀ k ∈ rs, k ≤ 400 := by
  cases d <;> try (cases h; done)
  rename_i ds
  have h : (decide (ds.length = 12) && ds.all fun d => isCount d 0 400) = true := h
  simp only [Bool.and_eq_true, decide_eq_true_eq, List.all_eq_true] at h
  obtain ⟨rs, rfl, hr⟩ := counts_of h.2
  exact ⟨rs, rfl, by simpa using h.1, hr⟩
theorem isRoomsD_rm {rs : List Nat} (h1 : rs.length = 12) (h2 : ∀ k ∈ rs, k ≤ 400) : isRoomsD (rmD rs) = true := by
  show (decide ((rs.map fun k : Nat => PyData.int (k : Int)).length = 12) && _) = true
  simp only [Bool.and_eq_true, decide_eq_true_eq, List.all_eq_true, List.length_map, List.mem_map]
  refine ⟨h1, ?_⟩
  rintro x ⟨k, hk, rfl⟩
  have := h2 k hk
  show (decide ((0 : Int) ≤ (k : Int)) && decide ((k : Int) ≤ 400)) = true
  simp
  omega
theorem decR_rm (rs : List Nat) : decR (rmD rs) = rs := by
  show (rs.map fun k : Nat => PyData.int (k : Int)).map decN = rs
  rw [List.map_map]
  calc rs.map (decN ∘ fun k : Nat => PyData.int (k : Int)) = rs.map id := List.map_congr_left fun k _ => by show (k : Int).toNat = k; simp
    _ = rs := List.map_id rs
theorem num_ok {K : PySem.W.Frag} {d x : Dt} (h : (if isNumD d then .ok .none else cE K "BadNumber") = Except.ok x) : ∃ n : Nat, d = nD n ∧ IsNum n := by
  cases q : isNumD d with
  | true => exact isNumD_of q
  | false => rw [q] at h; cases h
theorem num_xc {K : PySem.W.Frag} {d : Dt} {e : Dt} {c : Value} (h : (if isNumD d then .ok .none else cE K "BadNumber") = Except.error (α := Dt) c) : (if isNumD d then .ok e else cE K "BadNumber") = Except.error c := by
  cases q : isNumD d with
  | true => rw [q] at h; cases h
  | false => rw [q] at h; exact h
theorem zip_itemN {α β : Type} {xs : List α} {ys : List β} {f : α → Dt} {g : β → Dt} {i : Nat} {d : Dt} (h : ((xs.zip ys).map fun p => PyData.tuple [f p.1, g p.2])[i]? = some d) : ∃ x y, xs[i]? = some x ∧ ys[i]? = some y ∧ d = .tuple [f x, g y] := by
  obtain ⟨p, hp, rfl⟩ := map_item h
  obtain ⟨h1, h2⟩ := List.getElem?_zip_eq_some.mp hp
  exact ⟨p.1, p.2, h1, h2, rfl⟩
theorem notNum_prime {p : Nat} (h : ∀ q ∈ pL, ¬ q ∣ p) (h1 : p ≠ 1) : ¬ IsNum p := fun z => by
  obtain ⟨q, hq, d⟩ := z.smooth.prime h1
  exact h q hq d
theorem notNum_mul {a b : Nat} (h : ∀ q ∈ pL, ¬ q ∣ b) (h1 : b ≠ 1) : ¬ IsNum (a * b) := fun z => by
  obtain ⟨q, hq, d⟩ := (z.smooth.dvd (Nat.dvd_mul_left b a)).prime h1
  exact h q hq d
theorem isNumD_not {n : Nat} (h : ¬ IsNum n) : isNumD (.int (n : Int)) = false := by
  cases q : isNumD (.int (n : Int)) with
  | false => rfl
  | true => exact absurd (isNumD_iff.mp q) h
theorem notNum_room {rs : List Nat} (hl : rs.length = 12) {k : Nat} (hk : k ∈ rs) (h : 400 < k) : ¬ IsNum (made rs) := fun z => by
  have := z.2.2 k (by rw [rooms_made hl]; exact hk)
  omega
end Fr
namespace Fr
open PySem PySem.Spec PyProof.Rows L2 Mx
variable [TabL]
theorem made_item {rs : List Nat} {i : Nat} {d : Dt} (h : ((([2, 3, 5, 7, 11, 13, 17, 19, 23, 29, 31, 37] : List Int).zip rs).map fun p => PyData.tuple [PyData.int p.1, PyData.int ((p.2 : Nat) : Int)])[i]? = some d) : ∃ p k, pL[i]? = some p ∧ rs[i]? = some k ∧ d = .tuple [.int ((p : Nat) : Int), .int ((k : Nat) : Int)] := by
  obtain ⟨x, hx, rfl⟩ := map_item h
  obtain ⟨h1, h2⟩ := List.getElem?_zip_eq_some.mp hx
  have e : ([2, 3, 5, 7, 11, 13, 17, 19, 23, 29, 31, 37] : List Int) = pL.map fun k : Nat => (k : Int) := rfl
  rw [e, List.getElem?_map] at h1
  cases q : pL[i]? with
  | none => rw [q] at h1; cases h1
  | some p =>
    rw [q] at h1
    have := Option.some.inj h1
    exact ⟨p, x.2, rfl, h2, by rw [← this]⟩
end Fr
namespace Fr
open PySem PySem.Spec PyProof.Rows L2 Mx
variable [TabL]
def rmod (m : Int) (j : Nat) : Int := if drawn m (0 + (j : Int)) / 1024 % 3 = 0 then 3 else if drawn m (0 + (j : Int)) / 1024 % 3 = 1 then 30 else 401
def rm1 (m : Int) (j : Nat) : Nat := (drawn m (0 + (j : Int)) % rmod m j).toNat
def rmF (m : Int) : List Nat := (List.range 12).map (rm1 m)
theorem rm_pos (m : Int) (j : Nat) : 0 < rmod m j := by unfold rmod; split; decide; split <;> decide
theorem rm_le (m : Int) (j : Nat) : rmod m j ≤ 401 := by unfold rmod; split; decide; split <;> decide
theorem rm_at (m : Int) (j : Nat) : atI [PyData.int 3, PyData.int 30, PyData.int 401] (drawn m (0 + (j : Int)) / 1024 % 3) = some (.int (rmod m j)) := by
  unfold rmod
  generalize drawn m (0 + (j : Int)) / 1024 = x
  rcases (by omega : x % 3 = 0 ∨ x % 3 = 1 ∨ x % 3 = 2) with e | e | e <;> rw [e] <;> rfl
theorem rm1_eq (m : Int) (j : Nat) : PyData.int (drawn m (0 + (j : Int)) % rmod m j) = PyData.int ((rm1 m j : Nat) : Int) := by
  have := Int.emod_nonneg (drawn m (0 + (j : Int))) (show rmod m j ≠ 0 by have := rm_pos m j; omega)
  unfold rm1
  congr 1
  omega
theorem rmF_len (m : Int) : (rmF m).length = 12 := by simp [rmF]
theorem rmF_le (m : Int) : ∀ k ∈ rmF m, k ≤ 400 := by
  intro k hk
  obtain ⟨j, _, rfl⟩ := List.mem_map.mp hk
  have h1 := Int.emod_lt_of_pos (drawn m (0 + (j : Int))) (rm_pos m j)
  have h2 := rm_le m j
  have h0 := Int.emod_nonneg (drawn m (0 + (j : Int))) (show rmod m j ≠ 0 by have := rm_pos m j; omega)
  unfold rm1
  omega
theorem made_isNum {rs : List Nat} (hl : rs.length = 12) (hb : ∀ k ∈ rs, k ≤ 400) : IsNum (made rs) := ⟨made_pos rs, rest_made hl, by rw [rooms_made hl]; exact hb⟩
theorem sh_rm (rs : List Nat) : SeqAt.shaped (rmD rs) = true := by
  induction rs with
  | nil => rfl
  | cons k rs ih => exact ih
theorem sh_ite {b : Bool} {d e : Dt} (h1 : SeqAt.shaped d = true) (h2 : SeqAt.shaped e = true) : SeqAt.shaped (if b then d else e) = true := by cases b <;> assumption
theorem eqvAll_rm : ∀ (a b : List Nat), PyData.eqvAll (a.map fun k : Nat => PyData.int (k : Int)) (b.map fun k : Nat => PyData.int (k : Int)) = decide (a = b) := eqvAll_lN
theorem eqv_rm (a b : List Nat) : PyData.eqv (rmD a) (rmD b) = decide (a = b) := eqvAll_rm a b
theorem small_rooms {q : Nat} (h0 : 0 < q) (h : q ≤ 5000) : ∀ k ∈ rooms q, k ≤ 401 := by
  intro k hk
  obtain ⟨p, hp, rfl⟩ := List.mem_map.mp hk
  have := mlt_log (p := p) (k := 13) (pL_pm p hp).1 h0 (by omega)
  omega
theorem small_num {q : Nat} (h0 : 0 < q) (h : q ≤ 5000) : isNumD (nD q) = decide ((mk pL (rooms q) : Int) = (q : Int)) := by
  by_cases e : IsNum q
  · rw [isNumD_iff.mpr e]
    have : mk pL (rooms q) = q := made_of e.1 e.2.1
    rw [this]; simp
  · rw [isNumD_not e]
    have : ¬ ((mk pL (rooms q) : Int) = (q : Int)) := fun z => by
      have z : made (rooms q) = q := by show mk pL (rooms q) = q; omega
      refine e ⟨h0, ?_, fun k hk => ?_⟩
      · have := rest_eq h0
        rw [z] at this
        have := Nat.eq_of_mul_eq_mul_left h0 ((Nat.mul_one q).trans this)
        exact this.symm
      · have := small_rooms h0 h
        obtain ⟨p, hp, rfl⟩ := List.mem_map.mp hk
        have := mlt_log (p := p) (k := 13) (pL_pm p hp).1 h0 (by omega)
        omega
    rw [decide_eq_false this]
theorem small_told {q : Nat} (h0 : 0 < q) (h : q ≤ 5000) : (!PyData.eqv (if isNumD (nD q) then rmD (rooms (decN (nD q))) else .str "BadNumber") (if decide ((mk pL (rooms q) : Int) = (q : Int)) then rmD (rooms q) else .str "BadNumber")) = false := by
  rw [← small_num h0 h, decN_nD]
  cases isNumD (nD q) with
  | true => rw [if_pos rfl, eqv_rm]; simp
  | false => rfl
theorem no41 : ∀ q ∈ pL, ¬ q ∣ 41 := by decide
theorem bads_one {i : Nat} {d : Dt} (h : ([.int 0, .int (-2), .int 41, .int (2 * 41), .none, .bool true, .str "2", nD (mk pL [401]), nD (mk pL [0, 0, 0, 0, 0, 0, 0, 0, 0, 0, 0, 401])] : List Dt)[i]? = some d) : isNumD d = false := by
  have h := List.mem_of_getElem? h
  simp only [List.mem_cons, List.not_mem_nil, or_false] at h
  rcases h with rfl | rfl | rfl | rfl | rfl | rfl | rfl | rfl | rfl
  · rfl
  · rfl
  · exact isNumD_not (n := 41) (notNum_prime no41 (by decide))
  · exact isNumD_not (n := 82) (notNum_mul (a := 2) no41 (by decide))
  · rfl
  · rfl
  · rfl
  · have e : mk pL [401] = made [401, 0, 0, 0, 0, 0, 0, 0, 0, 0, 0, 0] := by simp [made, mk, pL]
    rw [e]
    exact isNumD_not (notNum_room rfl (k := 401) (by decide) (by decide))
  · exact isNumD_not (notNum_room (rs := [0, 0, 0, 0, 0, 0, 0, 0, 0, 0, 0, 401]) rfl (k := 401) (by decide) (by decide))
theorem cut1 {ds : List Dt} (h : ds.length = 12) : (cutL ds (some 1) none).length = 11 := by
  have e : HT.sIx 12 0 (some 1) = 1 := by decide
  unfold cutL
  rw [HT.sIx_none, h, e]
  simp [h]
theorem bads_two {rs : List Nat} (hl : rs.length = 12) {i : Nat} {d : Dt}
    (h : ([.none, .tuple [], .list (rs.map fun k : Nat => PyData.int (k : Int)), .tuple (cutL (rs.map fun k : Nat => PyData.int (k : Int)) (some 1) none), .tuple ((rs.map fun k : Nat => PyData.int (k : Int)) ++ [.int 0]), .tuple ([.int 401] ++ cutL (rs.map fun k : Nat => PyData.int (k : Int)) (some 1) none), .tuple ([.int (-1)] ++ cutL (rs.map fun k : Nat => PyData.int (k : Int)) (some 1) none), .tuple ([.bool true] ++ cutL (rs.map fun k : Nat => PyData.int (k : Int)) (some 1) none)] : List Dt)[i]? = some d) : isRoomsD d = false := by
  have hc := cut1 (ds := rs.map fun k : Nat => PyData.int (k : Int)) (by simpa using hl)
  have h := List.mem_of_getElem? h
  generalize cutL (rs.map fun k : Nat => PyData.int (k : Int)) (some 1) none = c at h hc
  simp only [List.mem_cons, List.not_mem_nil, or_false] at h
  rcases h with rfl | rfl | rfl | rfl | rfl | rfl | rfl | rfl
  · rfl
  · rfl
  · rfl
  · show (decide (c.length = 12) && _) = false
    rw [decide_eq_false (by omega), Bool.false_and]
  · show (decide (((rs.map fun k : Nat => PyData.int (k : Int)) ++ [PyData.int 0]).length = 12) && _) = false
    rw [decide_eq_false (by simp; omega), Bool.false_and]
  · show (_ && (isCount (.int 401) 0 400 && _)) = false
    rw [show isCount (.int 401) 0 400 = false by decide, Bool.false_and, Bool.and_false]
  · show (_ && (isCount (.int (-1)) 0 400 && _)) = false
    rw [show isCount (.int (-1)) 0 400 = false by decide, Bool.false_and, Bool.and_false]
  · show (_ && (isCount (.bool true) 0 400 && _)) = false
    rw [show isCount (.bool true) 0 400 = false by rfl, Bool.false_and, Bool.and_false]
end Fr
namespace Fr
open PySem PySem.Spec PyProof.Rows L2 HotX L2H
section
variable {prog : Program} {w : World} {A : Around} {E : Value → Shared → Prop} {s : Shared}
/-- a list's iterator at its end -/
theorem next_list_hot {it l x1 : Addr} {i : Nat} {items : Array Value} {Q : Option Value → Shared → Prop} (hot : HotAt A x1 s.heap) (ne : x1 ≠ it) (hit : s.heap.IsListIter it l i) (hl : s.heap.IsList l items) (hx : items[i]? = none)
    (hQ : ∀ h', (∀ b o, b ≠ it → s.heap.get? b = some o → h'.get? b = some o) → Q none { s with heap := h' }) : wpAny (model prog w) A (pyNext (.ref it)) Q E s := by
  obtain ⟨o, ho, hc, hd⟩ := id hit; obtain ⟨ol, hol, _, nl, hdl⟩ := hl; obtain ⟨hh, o1, vs1, g1, d1, c1⟩ := hot
  unfold pyNext; refine wpAny_bind (wpAny_attempt (wpAny_callSpecial?_slot (name := Str.ofString "__next__") hit.typeIs slot_listiter_next (wpAny_call_entry slot_listiter_next hit.typeIs entry_listiter_next ?_ (args_listiter_next _))))
  show wpAny _ _ (field (.ref it) 0 >>= _) _ _ s; refine wpAny_bind (wpAny_field ho hd (x := .ref l) rfl ?_)
  show wpAny _ _ (if (Value.ref l == Value.none) = true then _ else _) _ _ s; rw [if_neg (show ¬ ((Value.ref l == Value.none) = true) from Bool.false_ne_true)]
  show wpAny _ _ (field (.ref it) 1 >>= _) _ _ s; refine wpAny_bind (wpAny_field ho hd (x := .int i 0) rfl ?_)
  show wpAny _ _ (seqItems? (.ref l) >>= _) _ _ s; refine wpAny_bind (wpAny_seqItems hol hdl ?_)
  simp only [Int.toNat_natCast, hx]; refine wpAny_bind (wpAny_rule (wpAny_bind (wpAny_setField ho hd (by simp) ?_)))
  show wpAny _ _ (newExc (.type "StopIteration") [] >>= _) _ _ _; refine wpAny_bind ?_; simp only [newExc, newTuple]; refine wpAny_bind (wpAny_newObj_type ?_ (by size_fits))
  refine wpAny_bind (m := firstArgMember _ _) (wpAny_of_eq (a := Value.none) (by first | rfl | (simp only [firstArgMember]; rfl)) ?_); refine wpAny_newObj_type ?_ (by size_fits)
  have g2 := (Heap.get?_update_ne s.heap x1 it (Obj.mapFields (·.setIfInBounds 0 Value.none)) ne).trans g1
  refine raiseNew_hot (x1 := x1) ⟨hh, o1, vs1, Heap.get?_push_of_some _ (Heap.get?_push_of_some _ g2), d1, c1⟩ (Nat.ne_of_lt (Heap.lt_size (Heap.get?_push_of_some _ g2))) (Heap.get?_push_size _ rfl) rfl (by first | (simp; done) | (simp; omega) | decide) ?_
  refine wpAny_bind (wpAny_isInstance (T := "StopIteration") (b := true) ⟨_, Heap.get?_update_self _ (Heap.get?_push_size _ rfl) rfl, rfl⟩ isSubtype_stop ?_)
  refine wpAny_pure (hQ _ fun b o hb e => ?_)
  have e2 := (Heap.get?_update_ne s.heap b it (Obj.mapFields (·.setIfInBounds 0 Value.none)) hb).trans e
  rw [Heap.get?_update_other _ _ (Nat.ne_of_gt (Heap.lt_size (Heap.get?_push_of_some _ e2)))]
  exact Heap.get?_push_of_some _ (Heap.get?_push_of_some _ e2)
theorem HotAt.at' {x1 : Addr} {h h' : Heap} (t : HotAt A x1 h) (e : ∀ o, h.get? x1 = some o → h'.get? x1 = some o) : HotAt A x1 h' := by
  obtain ⟨hh, o, vs, g, d, c⟩ := t
  exact ⟨hh, o, vs, e o g, d, c⟩
/-- a list walked, by a builtin -/
theorem walks_hot (I ax x1 : Addr) (n1 : ax ≠ I) (n2 : x1 ≠ I) (items : Array Value) : Walks prog w A I [I, ax, x1] [I] items.size (fun i v => items[i]? = some v) (fun i h => h.IsListIter I ax i ∧ h.IsList ax items ∧ HotAt A x1 h) where
  sub := fun b hb => by simp only [List.mem_singleton] at hb; subst hb; exact List.mem_cons_self
  frame := fun _ _ _ st hk => ⟨st.1.at fun o e => hk I (by simp) o e, st.2.1.at fun o e => hk ax (by simp) o e, HotAt.at' st.2.2 fun o e => hk x1 (by simp) o e⟩
  item := fun i u Q E hi st hQ => by
    refine wpAny_pyNext_list_item st.1 st.2.1 (x := items[i]) (by simp [hi]) fun h1 hit1 hs1 => hQ _ h1 u.toks (by simp [hi]) ⟨hit1, st.2.1.extBut hs1.extBut n1, HotAt.at' st.2.2 fun o e => hs1.extBut x1 o n2 e⟩ fun b o hb e => hs1.extBut b o (fun z => hb (by simp [z])) e
  done := fun u Q E st hQ => next_list_hot st.2.2 n2 st.1 st.2.1 (by simp) fun h1 he1 => hQ h1 u.toks fun b o hb e => he1 b o (fun z => hb (by simp [z])) e
  self := fun _ _ _ _ st hQ => wpAny_pyIter_listiter st.1 hQ
theorem sum_hot {l x1 : Addr} {its : List Value} {ns : List Int} {Q : Value → Shared → Prop} (hot : HotAt A x1 s.heap) (hl : s.heap.IsList l its.toArray) (hi : IntsAre its ns)
    (h : ∀ h' tk t', (∀ b o, s.heap.get? b = some o → h'.get? b = some o) → Q (.int ns.sum t') { s with heap := h', toks := tk }) : wpAny (model prog w) A (call (.builtin "sum") [.ref l]) Q E s := by
  obtain ⟨xs, e⟩ := hi.allInts.items
  have hn : numsOf (intItems xs).toList = ns := by rw [← e]; exact hi.numsOf
  rw [nums_intItems] at hn; rw [e] at hl
  have ltx : x1 < s.heap.objs.size := by obtain ⟨_, _, _, g, _⟩ := hot; exact Heap.lt_size g
  refine call_sum_walkG (iter_intList hl fun s₂ e st hfp hlI => ?_); subst e
  refine ⟨_, _, _, _, _, _, numAt xs, rfl, walks_hot (A := A.in1) _ l x1 hlI (Nat.ne_of_lt ltx) (intItems xs), ⟨st.1, st.2, HotAt.at' (A := A.in1) hot fun o e => Heap.get?_push_of_some _ e⟩, fun b hb => ?_, (fun _ _ => intItems_at), fun h' tk t' hk => ?_⟩
  · rcases List.mem_cons.mp hb with rfl | hb
    · exact hfp _ (by simp)
    · rcases List.mem_cons.mp hb with rfl | hb
      · exact hfp _ (by simp)
      · rw [List.mem_singleton] at hb
        rw [hb]
        show x1 < (s.heap.push _).objs.size
        rw [Heap.size_push]
        exact Nat.lt_succ_of_lt ltx
  · have z := h h' tk t' (old_kept hk)
    have e2 : preSum (numAt xs) (intItems xs).size = ns.sum := by rw [preSum_eq, List.take_of_length_le (by simp [intItems]), hn]
    rw [e2]; exact z
end
section
variable {X : Cx}
theorem cr_sumH (hc : HotC X) : CallR X (.builtin "sum") (rSum X.K) := by
  intro pins s σ H vs us Q I r h
  obtain ⟨a, ns, rfl, hs, q⟩ := h; obtain ⟨its, rv, hl, _⟩ := I.list hs; obtain ⟨x1, hot⟩ := hc.at I
  rw [Vals.ref1 r]
  exact sum_hot hot hl.isList rv.ints fun h' tk t' hk => ⟨.int _, H, I.kept hk, ⟨_, rfl⟩, q⟩
end
end Fr
namespace Fr
open PySem PySem.Spec PyProof.Rows L2 HotX L2H
section
variable {X : Cx}
theorem pe_lcHot {elt tg l : Expr} {scope : Scope} {own : List (Str × Nat)} {pos : Pos} {tl : TE} {g : TG} {te : TE} (hot : HotC X) (hN : X.N.Nodup) (hl : PE X l tl) (ok : BlkOk X.N X.env.scope scope own)
    (hg : ∀ (s : Shared) (H : Hp) (C : Addr) (cl : List (Str × Addr)) (fp : List Addr), PG (X.blk s H scope (compEnvC scope cl C X.env) fp) tg g)
    (he : ∀ (s : Shared) (H : Hp) (C : Addr) (cl : List (Str × Addr)) (fp : List Addr), PE (X.blk s H scope (compEnvC scope cl C X.env) fp) elt te) (hs : ∀ x, foldedSetIterable l X.env x = pure x := by intro _; rfl) :
    PE X (.ListComp elt [⟨tg, l, [], 0⟩] scope pos) (tLc (iList X.K tl) g tYes te (own.map (·.2))) := by
  refine ⟨fun qs u ς G Q J hh => ?_⟩
  have fre : ∀ y ∈ scope.names, y.2 = .free → ∃ c, X.env.cells.lookup y.1 = some c := fun y hy e => (ok.free y hy e).elim (fun k => J.ok.has _ (.inl k)) fun k => J.ok.has _ (.inr k)
  rw [eval_ListComp]; refine wpAny_comprehension_free rfl hs (closure_ok fre) ok.kind (fun y hy e => by rw [ok.uniq y hy, e]) (thn (hl.run qs u ς G _ J hh) fun xv u1 hx => ?_)
  obtain ⟨xw, G1, J1, rx, a, e, ⟨xs, hq⟩, qq⟩ := hx; subst e; cases rx
  obtain ⟨ys, rv, pl, hz⟩ := J1.list hq
  refine wpAny_pyIter_list pl.isList ?_
  obtain ⟨P1, P2, P3⟩ : ∃ p : Addr × Obj, Hot1 X.A p ∧ p ∈ X.pn := hot
  -- the iterator
  generalize hu2 : ({ u1 with heap := u1.heap.push { cls := .type "list_iterator", data := .fields #[.ref a, .int 0 0] } } : Shared) = u2
  have J2 : Inv X qs ς G1 u2 := by rw [← hu2]; exact J1.kept (t' := u1.toks) fun b o e => Heap.get?_push_of_some _ e
  have hp2 : u2.heap = u1.heap.push { cls := .type "list_iterator", data := .fields #[.ref a, .int 0 0] } := by rw [← hu2]
  generalize hit : u1.heap.objs.size = it
  have st2 : u2.heap.IsListIter it a 0 := by rw [hp2, ← hit]; exact ⟨_, Heap.get?_push_size _ rfl, rfl, rfl⟩
  have fit : FpOk X qs G1 it := J1.fpOk (Nat.le_of_eq hit) (J1.hok.fresh (Nat.le_of_eq hit))
  have itlt : it < u2.heap.objs.size := by obtain ⟨o, e, _⟩ := st2; exact Heap.lt_size e
  have p2 := J2.pin P1 (List.mem_append_left _ P3)
  obtain ⟨hh1, vs1, e1, c1⟩ := P2
  have nit : P1.1 ≠ it := fit.2.2.2.2.2 P1 (List.mem_append_left _ P3)
  have nst : P1.1 ∉ frs X.stack := fun z => (List.mem_cons.mp (J2.stkSub _ z)).elim p2.2.2.1 p2.2.2.2.1
  -- the new list
  refine wpAny_newObj_type (newEnv_comp ?_) (by show 0 ≤ sizeLine; decide); generalize hD : u2.heap.objs.size = D
  have nD : G1 D = none := J2.hok.fresh (Nat.le_of_eq hD)
  obtain ⟨W, ⟨m0, w0⟩, turn⟩ := qq D nD
  generalize hu3 : ({ u2 with heap := u2.heap.push { cls := .type "list", data := .seq ([] : List Value).toArray } } : Shared) = u3
  have J3 : Inv X qs ς (upd G1 D (.lst [])) u3 := by
    rw [← hu3]; refine J2.laid (t' := u2.toks) (fun b o e => Heap.get?_push_of_some _ e) (Nat.le_of_eq hD) ⟨Nat.zero_le _, [], 0, .nil, ?_⟩
    rw [← hD]; exact Heap.get?_push_size _ rfl
  have hp3 : u3.heap = u2.heap.push { cls := .type "list", data := .seq ([] : List Value).toArray } := by rw [← hu3]
  have ndi : it ≠ D := by rw [← hD]; exact Nat.ne_of_lt itlt
  have f3 : ∀ b ∈ [it], FpOk X qs (upd G1 D (.lst [])) b ∧ b < u3.heap.objs.size := fun b hb => by
    rw [List.mem_singleton] at hb; subst hb
    exact ⟨⟨by rw [upd_ne ndi]; exact fit.1, fit.2⟩, by rw [hp3, Heap.size_push]; exact Nat.lt_succ_of_lt itlt⟩
  have st3 : u3.heap.IsListIter it a 0 := st2.at fun o e => by rw [hp3]; exact Heap.get?_push_of_some _ e
  have p3 := J3.pin P1 (List.mem_append_left _ P3)
  have J4 := block_start J3 ok hN f3
  have pg := hg u3 (upd G1 D (.lst [])) u3.heap.objs.size (cellsFrom (u3.heap.objs.size + 1) scope.names (cloFrom X.env.cells scope.names [])) [it]
  have pe := he u3 (upd G1 D (.lst [])) u3.heap.objs.size (cellsFrom (u3.heap.objs.size + 1) scope.names (cloFrom X.env.cells scope.names [])) [it]
  refine (show codeAny _ _ (.compStart (.ListComp elt [⟨tg, l, [], 0⟩] scope pos) 0 (.ref it) (.ref D) (compEnvC scope (cellsFrom (u3.heap.objs.size + 1) scope.names (cloFrom X.env.cells scope.names [])) u3.heap.objs.size X.env)) _ { u3 with heap := pushCells (u3.heap.push { cls := .type "dict", data := .dict #[] }) scope.names } from ?_)
  generalize hce : compEnvC scope (cellsFrom (u3.heap.objs.size + 1) scope.names (cloFrom X.env.cells scope.names [])) u3.heap.objs.size X.env = ce at J4 pg pe ⊢
  have cL : ce.locals = u3.heap.objs.size := by subst hce; rfl
  generalize hG3 : upd G1 D (.lst []) = G3 at J3 J4 pg pe w0 f3 p3
  generalize hu4 : ({ u3 with heap := pushCells (u3.heap.push { cls := .type "dict", data := .dict #[] }) scope.names } : Shared) = u4 at J4 ⊢
  have st4 : u4.heap.IsListIter it a 0 := st3.at fun o e => by rw [← hu4]; exact pushCells_keeps _ _ _ _ (Heap.get?_push_of_some _ e)
  have fp5 : ∀ {σ' : L2.St} {H' : Hp} {s' : Shared}, Inv (X.blk u3 G3 scope ce [it]) [] σ' H' s' → H' it = none → FpOk (X.blk u3 G3 scope ce [it]) [] H' it := fun {σ' H' s'} I' hn =>
    ⟨hn, (I'.ok.exf it (by simp)).1, I'.ok.exfs it (by simp), .inl (by simp), fun x c e => (I'.ok.exf it (by simp)).2 x c e, fun p hp => absurd (show p ∈ ([] : List (Addr × Obj)) ++ [] from hp) (by simp)⟩
  have hot5 : ∀ {σ' : L2.St} {H' : Hp} {s' : Shared}, Inv (X.blk u3 G3 scope ce [it]) [] σ' H' s' → HotAt X.A P1.1 s'.heap := fun {σ' H' s'} I' =>
    ⟨hh1, P1.2, vs1, I'.base.keep P1.1 P1.2 p3.1 p3.2.1 nst (by simpa using nit), e1, c1⟩
  have t5 : ∀ {h : Heap} {i : Nat}, h.IsListIter it a i → ∀ b ∈ [it], ∃ o, h.get? b = some o ∧ ∀ v, o.data ≠ .cell v := fun {h i} st b hb => by
    rw [List.mem_singleton] at hb; subst hb; obtain ⟨o, e, c, d⟩ := st
    exact ⟨o, e, fun v z => by rw [d] at z; cases z⟩
  have loop : codeAny (model X.prog X.w) X.A (.compLoop (.ListComp elt [⟨tg, l, [], 0⟩] scope pos) 0 (.ref it) (.ref D) ce) (compPost (model X.prog X.w) X.A X.xe none (EP X qs ς Q) (.ref D) u3.heap.objs.size) u4 := by
    refine compLoop_any (fun n s' => ∃ i H', Inv (X.blk u3 G3 scope ce [it]) [] (wipe ς (own.map (·.2))) H' s' ∧ s'.heap.IsListIter it a i ∧ H' it = none ∧ W i n H') ?_ m0 ⟨0, G3, J4, st4, (f3 it (by simp)).1.1, w0⟩
    rintro n u5 ⟨i, H5, I5, st5, n5, w5⟩; obtain ⟨k0, k1, k2, k3, k4, k5⟩ := fp5 I5 n5
    rcases turn i n H5 w5 with ⟨stop, q5⟩ | ⟨go, Nx, hNx, step⟩
    · obtain ⟨zs, hz1, hz2⟩ := stop; obtain ⟨its, r5, p5, _⟩ := I5.list hz1
      have hlen := r5.length
      refine next_list_hot (hot5 I5) nit st5 p5.isList (by simp; omega) fun h' eb => ?_
      have I6 := I5.turned (t' := u5.toks) (fun b o hb e => eb b o hb e) k0 k1 k3 k4 k5
      have I7 : Inv X qs ς H5 { u5 with heap := h' } := J3.call' (ch := [it]) I6.os I6.base I6.hok I6.bare fun b hb => ⟨(f3 b hb).1.2.2.2.1, (f3 b hb).1.2.1, (f3 b hb).1.2.2.2.2.1, (f3 b hb).1.2.2.2.2.2⟩
      have nC : H5 u3.heap.objs.size = none := cL ▸ I6.free
      obtain ⟨m, hn, _⟩ := I6.loc
      have hn : h'.Ns u3.heap.objs.size m := cL ▸ hn
      obtain ⟨g0, g1, g2, g3, g4, g5⟩ := J3.fpOk (Nat.le_refl _) nC
      exact ⟨m, hn, fun h'' sb => ⟨.ref D, H5, I7.turned (t' := u5.toks) (fun b o hb e => (sb.2 b hb).trans e) g0 g1 g3 g4 g5, rfl, q5⟩⟩
    · obtain ⟨zs, x, hz1, hx⟩ := go; obtain ⟨its, r5, p5, _⟩ := I5.list hz1
      obtain ⟨v, hv, rv5⟩ := r5.get hx
      refine wpAny_pyNext_list_item st5 p5.isList (x := v) (by simpa using hv) fun h6 st6 sb => ?_
      have I6 : Inv (X.blk u3 G3 scope ce [it]) [] (wipe ς (own.map (·.2))) H5 { u5 with heap := h6 } := I5.turned (t' := u5.toks) (fun b o hb e => (sb.2 b hb).trans e) k0 k1 k3 k4 k5
      obtain ⟨o6, e6, c6, d6⟩ := id st6
      refine go_of (s := { u5 with heap := h6 }) e6 c6 d6 (by decide) ?_
      have I6' := I6.pinned (fp := [it]) (fun b hb => by rw [List.mem_singleton] at hb; subst hb; exact fp5 I6 n5) (t5 st6)
      refine thnF (pg.run _ _ _ H5 x v _ I6' rv5 (step x H5 ⟨rfl, fun ws hw => by rw [I5.list_inj hw hz1]; exact hx⟩)) fun _ u8 ⟨σ8, H8, I8, hw8, q8⟩ => ?_
      refine thnF ((pts_nil (X := X.blk u3 G3 scope ce [it])).run _ u8 σ8 H8 _ I8 q8) fun b u9 ⟨H9, I9, q9⟩ => ?_
      have fin : ∀ {s' : Shared} {H' : Hp}, Inv (X.blk u3 G3 scope ce [it]) ([] ++ pinsAt [it] h6) σ8 H' s' → Nx H' → ∃ m, m < n ∧ ∃ i H', Inv (X.blk u3 G3 scope ce [it]) [] (wipe ς (own.map (·.2))) H' s' ∧ s'.heap.IsListIter it a i ∧ H' it = none ∧ W i m H' := fun {s' H'} I' nx => by
        obtain ⟨m', hm, w'⟩ := hNx H' nx
        have pi : ∀ o, h6.get? it = some o → s'.heap.get? it = some o ∧ H' it = none := fun o e =>
          let z := I'.pin (it, o) (List.mem_append_right _ (List.mem_append_right _ (mem_pinsAt (by simp) e)))
          ⟨z.1, z.2.1⟩
        refine ⟨m', hm, i + 1, H', (I'.unpinned (pins := [])).weak (by rw [← hw8, wipe_length]) (fun j v e => ?_), st6.at fun o e => (pi o e).1, (pi o6 e6).2, w'⟩
        rw [← hw8] at e
        exact (wipe_some e).1
      cases b with
      | false => simp only [Bool.false_eq_true, if_false] at q9 ⊢; exact fin I9 q9
      | true =>
        simp only [if_true] at q9 ⊢
        refine thnF (pe.run _ u9 σ8 H9 _ I9 q9) fun z u10 ⟨yv, H10, I10, r10, acc, hD10, hz10, nx⟩ => app_ok (X := X.blk u3 G3 scope ce [it]) I10 hD10 hz10 r10 fun u11 I11 => fin I11 nx
  exact codeAny_compStart_list loop (wpAny_pyIter_listiter st4 loop)
end
end Fr
namespace Fr
open PySem PySem.Spec PyProof.Rows L2 HotX L2H
variable [TabL]
section
variable {X : Cx} {a D : Addr} {oe : Obj}
theorem call_isH (hp : (a, oe) ∈ X.pn) (C : ExcC X.K D) (hz : Zc (.ref D) none oe) (hf : ∃ vs, oe.data = .fields vs) : CallR X (.builtin "isinstance") (rIsE X.K D a) := by
  intro pins s σ H xs us Q I r h
  obtain ⟨c, cv, b, rfl, hcv, e, q⟩ := h
  match us, r with
  | _, .cons rx (.cons rt .nil) =>
    cases rx
    have ec := hcv _ rt; subst ec
    obtain ⟨hget, _⟩ := I.pin (a, oe) (List.mem_append_left _ hp); obtain ⟨vs, hv⟩ := hf
    have J : PySem.W.InstAt s.heap a oe D none := by
      obtain ⟨oc, od, oda, osl⟩ := oe; obtain ⟨h1, h2⟩ := hz; dsimp only at h1 h2 hv; subst h1 h2 hv
      exact ⟨hget, rfl, rfl, trivial⟩
    exact PySem.W.kia_one (PySem.W.handS_kitx_exc C.hg C.hk C.hs C.hd C.ha C.hn C.ht C.hm) I.kIn J e (fun z => nomatch z) fun tk => ⟨.bl b, H, I.kept (t' := tk) fun _ _ z => z, rfl, q⟩
end
section
variable {K : PySem.W.Frag} {ρ : List Sl} {te : TE} {ta : TA} {a D C : Addr} {i : Nat} {b : Bool} {d : Dt}
theorem ev_isE (h : ρ[i]? = some (.raw (.ref a))) (hk : PySem.W.kitOne K (.ref D) (.ref C) = some b) : Ev K (tCB (rIsE K D a) (tCons (tVar i) (tCons (tC (.ref C)) tNil))) ρ (.bool b) := fun M0 H0 σ H T Q s q => by
  obtain ⟨M, st⟩ := id s
  obtain ⟨v, e1, h1⟩ := st.slot i _ h
  exact ⟨.ref a, by rw [e1, show v = some (.ref a) from h1], .ref C, .ref C, b, rfl, fun u r => by cases r; rfl, hk, q _ H (s.add fun M _ => .bl _)⟩
theorem ev_isEty {n : String} (h : ρ[i]? = some (.raw (.ref a))) (hk : PySem.W.kitOne K (.ref D) (.type n) = some b) : Ev K (tCB (rIsE K D a) (tCons (tVar i) (tCons (tC (.ty n)) tNil))) ρ (.bool b) := fun M0 H0 σ H T Q s q => by
  obtain ⟨M, st⟩ := id s
  obtain ⟨v, e1, h1⟩ := st.slot i _ h
  exact ⟨.ref a, by rw [e1, show v = some (.ref a) from h1], .ty n, .type n, b, rfl, fun u r => by cases r; rfl, hk, q _ H (s.add fun M _ => .bl _)⟩
/-- xs.index(y) -/
theorem ev_index {ds : List Dt} {j : Nat} {z : Dt} (h : Ev K te ρ (.list ds)) (ha : EvA K ta ρ [d]) (s1 : SeqAt.shaped (.list ds) = true) (s2 : SeqAt.shaped d = true) (hz : ds[j]? = some z) (hzj : PyData.eqv z d = true)
    (hno : ∀ (m : Nat) (z' : Dt), m < j → ds[m]? = some z' → PyData.eqv z' d = false) : Ev K (tBM K "list" (rIndexD K) te ta) ρ (.int (j : Int)) := fun M0 H0 σ H T Q s q => h M0 H0 σ H T _ s fun v H1 st1 => by
  obtain ⟨M1, t1⟩ := id st1
  obtain ⟨p, vs, rfl, k1, k2⟩ := (t1.at (d := .list ds) mem1).lst_inv
  refine ⟨.inl ⟨rfl, vs, SqL.of (t1.bs.mh _ _ k1)⟩, ha M0 H0 σ H1 _ _ st1 fun ws H2 st2 l => ?_⟩
  match ws, l with
  | [w], _ =>
    obtain ⟨M2, t2⟩ := id st2
    have d2 := (t2.at (v := w) (d := d) (by simp)).mono t2.bs.mh
    have d1 := (t2.at (v := .ref p) (d := .list ds) (by simp)).mono t2.bs.mh
    exact ⟨p, w, d, ds, j, z, rfl, rfl, d1.dp, d2.dp, s1, s2, hz, hzj, hno, q _ H2 ((st2.same_sub fun p hp => by simp [hp]).add fun M _ => .int _)⟩
end
/-- called with an exception of the class x that is handled, the answer is the text z x -/
structure FnE (P : Program) (w : World) (K : PySem.W.Frag) (mg : Str → Option Value) (base : Heap) (CX : CXT) (k : Nat) (f : Addr) (fd : FuncData) (ps : List Str) (L : List Str) (z : Str → Str) : Prop where
  one : ps.length = 1
  run : ∀ (A : Around) (outer : List Env) (s : Shared) (M H : Hp) (args : Args) (a : Addr) (oe : Obj) (x : Str) (Q : VK) (E : XK), x ∈ L → RoomH k A → Hot1 A (a, oe) → PinOk outer H s (a, oe) → Zc (.ref (He.ga K x)) none oe → Kn M H → Env0 P w K mg base A outer s H →
    BindsTo s fd args (ps.zip [.ref a]) → (∀ v H', Aft K M H v H' (.str (z x)) → Q v H') → codeAny (model P w) A (.call (.ref f) args) (CR CX outer P w H s Q E) s
theorem fnE_mk {CX : CXT} {P : Program} {w : World} {K : PySem.W.Frag} {mg : Str → Option Value} {base : Heap} {x qual p : Str} {st : Stmt} {f : Addr} {fd : FuncData} {N : List Str} {k : Nat} {L : List Str} {z : Str → Str} (F : Fun K x qual st f fd) (S : FnScope N [p] (defScope st))
    (hbody : ∀ (cdv : Value) (A : Around) (outer : List Env) (s : Shared) (H : Hp) (E : XK) (a : Addr) (oe : Obj) (x : Str), x ∈ L → Hot1 A (a, oe) → RoomH k (A.deeper (envOfC qual (defScope st) s.heap.objs.size f cdv)) → Zc (.ref (He.ga K x)) none oe →
      ∃ t, PSs (cxH CX P w K mg base N qual (defScope st) f cdv A outer s H E (a, oe)) (defBody st) t ∧ Wp K E t (.raw (.ref a) :: List.replicate (N.length - 1) .no) (Fr.Fin (.ok (.str (z x))))) : FnE P w K mg base CX (k + 1) f fd [p] L z := by
  obtain ⟨oc, od, kV, doc, pm, an, cdv, ct, osl, rfl, lk, hcd⟩ := F.ex
  refine ⟨rfl, fun A outer s M H args a oe x Q E hx hr hot hpin hz hM e0 hb hq => ?_⟩
  have KX : K.In s.heap := e0.mod.kin.keeps fun b o e => (e0.bs b o e).1
  have lim : s.heap.NoLimit := e0.mod.nolimit.keeps fun b o e => (e0.bs b o e).1
  have kinds : ∀ y ∈ [p].zip [Value.ref a], (defScope st).names.lookup y.1 = some .local ∨ ((defScope st).names.lookup y.1 = some .cell ∧ ((cellsFrom (s.heap.objs.size + 1) (defScope st).names []).lookup y.1).isSome = true) := fun ⟨n, v⟩ hy => (S.par n (List.of_mem_zip hy).1).elim .inl fun q => .inr ⟨q, PySem.W.cellsFrom_some _ _ _ (.inl q)⟩
  refine codeAny_call_function hr.depth (KX _ _ lk) rfl S.co S.gen rfl (PySem.W.codeRec_of KX hcd) (hb _ _ _ _ (wpAny_newFunctionEnv_cells S.kind kinds fun env he s1 xx => ?_)); subst he
  obtain ⟨t, ht, hw⟩ := hbody cdv A outer s H E a oe x hx hot (hr.deeper _) hz
  have I : Inv (cxH CX P w K mg base N qual (defScope st) f cdv A outer s H E (a, oe)) [] (L2.start N [.ref a]) H s1 := inv_startH S hpin e0 (by rfl) (.cons rfl .nil) xx
  have hN : 1 ≤ N.length := by have := congrArg List.length S.pre; rw [List.length_take] at this; simp at this; omega
  have sta : Sta K M H (L2.start N [.ref a]) H (.raw (.ref a) :: List.replicate (N.length - 1) .no) [] := by
    have es : L2.start N [V.ref a] = some (.ref a) :: List.replicate (N.length - 1) none := rfl
    rw [es]
    refine ⟨M, Bs.refl hM, by simp, fun i sl e => ?_, fun i j es fs b hij h1 h2 h3 h4 => ?_, fun p hp => by simp at hp⟩
    · cases i with
      | zero => cases e; exact ⟨_, rfl, rfl⟩
      | succ i =>
        rw [List.getElem?_cons_succ] at e ⊢
        have q := (List.mem_replicate.mp (List.mem_of_getElem? e)).2
        have hi := (List.getElem?_eq_some_iff.mp e).1
        simp only [List.length_replicate] at hi
        subst q
        exact ⟨none, by rw [List.getElem?_replicate, if_pos hi], trivial⟩
    · rcases List.mem_cons.mp (List.mem_of_getElem? h1) with q | q
      · cases q
      · cases (List.mem_replicate.mp q).2
  refine ⟨lim.keeps xx.toInCall.keep, codeAny_func ?_⟩
  have hq2 := hw M H [] _ H { nx := fun _ H' => Q .non H', rt := Q } sta fun o po => by
    cases o with
    | nx ρ => exact absurd po (by intro q; cases q)
    | rt d => cases po; exact fun v H' aft => hq v H' aft
    | bk ρ => exact False.elim po
    | ct ρ => exact False.elim po
    | xc c => exact absurd po (by intro q; cases q)
    | rp R => exact absurd po (by intro q; cases q)
  refine wpAny_mono (ht.run [] s1 (L2.start N [.ref a]) H _ I hq2) (fun fl s' hs => ?_) fun e s' hs => hs
  cases fl with
  | ret u => obtain ⟨v, σ', H', J, rv, q⟩ := hs; exact ⟨v, H', J.os, J.bare, J.base, J.hok, rv, q⟩
  | next => obtain ⟨σ', H', J, q⟩ := hs; exact ⟨V.non, H', J.os, J.bare, J.base, J.hok, rfl, q⟩
  | brk => obtain ⟨_, _, _, q⟩ := hs; exact False.elim q
  | cont => obtain ⟨_, _, _, q⟩ := hs; exact False.elim q
end Fr
namespace Fr
open PySem PySem.Spec PyProof.Rows L2 HotX L2H LamX
/-- all but the tables T stay -/
def ExtT (T : List (Addr × Str)) (H H' : Hp) : Prop := ∀ b o, H b = some o → b ∉ T.map (·.1) → H' b = some o
section
variable {X : Cx} {pins : List (Addr × Obj)} {σ : L2.St} {H : Hp} {s : Shared}
theorem lam_makeT {T : List (Addr × Str)} {c P : Addr} {ps0 : Arguments} {e0 : Expr} {sc : Scope} {pos : Pos} {E : Value → Shared → Prop} {Q : Value → Shared → Prop} (J : Inv X pins σ H s) (TB : TabB X.base X.mg c P) (hcode : X.env.code = .ref c)
    (hm : (P, X.env.qual ++ "<lambda>") ∈ T) (hu : ∀ p ∈ T, p.1 = P → p.2 = X.env.qual ++ "<lambda>") (tt : Tabs T H) (hdef : defaultsOf ps0 X.env = ([], [])) (hfree : ∀ y ∈ sc.names, y.2 = .free → ∃ c, X.env.cells.lookup y.1 = some c)
    (h : ∀ (f c' : Addr) (pm ctv : Value) (H1 : Hp) (s' : Shared), Inv X pins σ H1 s' → ExtT T H H1 → Tabs T H1 →
      s'.heap.get? f = some (PySem.W.kla_obj "<lambda>" (X.env.qual ++ "<lambda>") ps0 e0 sc (cloFrom X.env.cells sc.names []) pm c' ctv) → H1 f = none → f ∉ frs X.stack → H1 c' = some (CodeO c' (X.env.qual ++ "<lambda>")) → Q (.ref f) s') :
    wpAny (model X.prog X.w) X.A (eval (.Lambda ps0 e0 sc pos) X.env) Q E s := by
  obtain ⟨qs, tP, ht, ha⟩ := tt _ hm
  refine PySem.W.kla_eval hdef ?_
  have bP : s.heap.BuiltinsAt X.mg P := TB.bm.keeps J.bk
  have gP : s.heap.get? P = some { cls := .none, data := .fields qs } := J.hok P _ tP
  have far : ∀ f, s.heap.objs.size ≤ f → f ∉ frs X.stack := fun f hf z => (List.mem_cons.mp (J.stkSub _ z)).elim (fun e => Nat.lt_irrefl _ (Nat.lt_of_lt_of_le (e ▸ J.lt) hf)) fun e => J.nofs hf e
  cases hc : codeAmong pos qs.toList with
  | some cv =>
    obtain ⟨c', e, hco⟩ := ha pos cv hc; subst e
    refine PySem.W.kla_makeFunctionHit (mg := X.mg) (c := c) (P := P) (ps := qs) (closure_ok hfree) J.ok.glob (J.mod.glob.keeps J.bk) hcode (TB.code.keeps J.bk) gP ht hc bP fun ctv h' tk hx hsz => ?_
    have J1 : Inv X pins σ H { s with heap := h'.push (PySem.W.kla_obj "<lambda>" (X.env.qual ++ "<lambda>") ps0 e0 sc (cloFrom X.env.cells sc.names []) ((X.mg "__name__").getD .none) c' ctv), toks := tk } := J.kept fun b o e => Heap.get?_push_of_some _ (hx b o e)
    exact h h'.objs.size c' ((X.mg "__name__").getD .none) ctv H _ J1 (fun _ _ e _ => e) tt (Heap.get?_push_size _ rfl) (J.hok.fresh hsz) (far _ hsz) hco
  | none =>
    refine PySem.W.kla_makeFunction (mg := X.mg) (c := c) (P := P) (ps := qs) (closure_ok hfree) J.ok.glob (J.mod.glob.keeps J.bk) hcode (TB.code.keeps J.bk) gP ht hc TB.gP bP fun c' ctv h' tk hx hge hlt hrec htb => ?_
    obtain ⟨c2, oc, vs, t, e2, hoc, hd, hv⟩ := hrec; cases e2
    have sz1 : s.heap.objs.size ≤ h'.objs.size := Nat.le_trans hge (Nat.le_of_lt hlt)
    have nC : H c' = none := J.hok.fresh hge
    have J1 := inv_table (t' := tk) (more := #[rawInt pos.line, rawInt pos.col, .ref c']) (h' := h'.push (PySem.W.kla_obj "<lambda>" (X.env.qual ++ "<lambda>") ps0 e0 sc (cloFrom X.env.cells sc.names []) ((X.mg "__name__").getD .none) c' ctv)) J tP (fun b o hb e => Heap.get?_push_of_some _ (hx b o hb e)) (Heap.get?_push_of_some _ htb) hge ⟨oc, vs, t, Heap.get?_push_of_some _ hoc, hd, hv⟩
    have stay : ∀ b o, H b = some o → b ≠ P → upd (upd H P (.tbl (qs ++ #[rawInt pos.line, rawInt pos.col, .ref c']))) c' (CodeO c' (X.env.qual ++ "<lambda>")) b = some o := fun b o e n => by
      rw [upd_ne (ne_of_none e nC), upd_ne n]; exact e
    have memP : P ∈ T.map (·.1) := List.mem_map.mpr ⟨_, hm, rfl⟩
    have eL : (qs ++ #[rawInt pos.line, rawInt pos.col, .ref c']).toList = qs.toList ++ [rawInt pos.line, rawInt pos.col, .ref c'] := by simp
    have codeStay : ∀ {d : Addr} {q : Str}, H d = some (CodeO d q) → upd (upd H P (.tbl (qs ++ #[rawInt pos.line, rawInt pos.col, .ref c']))) c' (CodeO c' (X.env.qual ++ "<lambda>")) d = some (CodeO d q) := fun {d q} e => stay d _ e fun z => by
      rw [z, tP] at e; exact codeO_ne qs (Option.some.inj e).symm
    refine h h'.objs.size c' ((X.mg "__name__").getD .none) ctv _ _ J1 (fun b o e n => stay b o e fun z => n (z ▸ memP)) (fun p hp => ?_) (Heap.get?_push_size _ rfl) ?_ (far _ sz1) upd_same
    · by_cases hb : p.1 = P
      · rw [hu p hp hb, hb]; refine ⟨_, by rw [upd_ne (ne_of_none tP nC), upd_same], by rw [eL]; exact PySem.TriplesOk_snoc _ _ _ _ ht, fun p' cv hcv => ?_⟩
        rw [eL] at hcv
        rcases among_app _ ht hcv with z | z
        · obtain ⟨c0, e1, e2⟩ := ha p' cv z; exact ⟨c0, e1, codeStay e2⟩
        · exact ⟨c', z, upd_same⟩
      · obtain ⟨ps', a1, a2, a3⟩ := tt p hp; refine ⟨ps', stay _ _ a1 hb, a2, fun p' cv hcv => ?_⟩
        obtain ⟨c0, e1, e2⟩ := a3 p' cv hcv
        exact ⟨c0, e1, codeStay e2⟩
    · rw [upd_ne (Nat.ne_of_gt hlt), upd_ne (Nat.ne_of_gt (Nat.lt_of_lt_of_le (Heap.lt_size gP) sz1))]
      exact J.hok.fresh sz1
end
/-- the context of the lambda's body -/
def lamN (X : Cx) (A : Around) (outer : List Env) (s : Shared) (H : Hp) (E : XK) (sc : Scope) (f c' : Addr) : Cx :=
  (lamCx X A outer s H E sc f c').tr [] fun e s' => wpAny (model X.prog X.w) (A.deeper (lamEnv X sc s.heap.objs.size f c')) (leaving (lamEnv X sc s.heap.objs.size f c') e) (fun _ s'' => L2N.CX X.prog X.w outer H s E e s'') (fun e' s'' => L2N.CX X.prog X.w outer H s E e' s'') s'
section
variable {X : Cx} {pins : List (Addr × Obj)} {σ : L2.St} {H : Hp} {s : Shared}
theorem pe_actN {CXg : CXT} {Eg : XK} {Ng : List Str} {qg : Str} {sg : Scope} {g f c' : Addr} {cdg pm ctv : Value} {ps0 : Arguments} {e0 : Expr} {sc : Scope} {k i : Nat} {a : Str} {pn : List (Addr × Obj)} {xe : Value → Shared → Prop} {W : WX} {E : XK} {tb : TE} {p1 p2 : Pos}
    (I : Inv X pins σ H s) (L : LamS X.env.scope sc) (hf : s.heap.get? f = some (PySem.W.kla_obj "<lambda>" (X.env.qual ++ "<lambda>") ps0 e0 sc (cloFrom X.env.cells sc.names []) pm c' ctv)) (hfn : H f = none) (hfr : f ∉ frs X.stack)
    (hbind : bindArgs (PySem.W.kla_fn "<lambda>" (X.env.qual ++ "<lambda>") ps0 e0 sc (cloFrom X.env.cells sc.names []) pm (.ref c') ctv) ⟨[], []⟩ = pure [])
    (tk : L2N.Takes ((cxOf CXg X.prog X.w X.K X.mg X.base Ng qg sg g cdg X.A X.stack s H Eg).tr pn xe) W) (hW : ∀ cls d σ' H', E cls d H' → W cls d σ' H') (hr : Room (k + 1) (X.A.deeper (envOfC qg sg s.heap.objs.size g cdg)))
    (hbody : ∀ (A : Around) (outer : List Env) (s : Shared) (H : Hp), Room k (A.deeper (lamEnv X sc s.heap.objs.size f c')) → PE (lamN X A outer s H E sc f c') e0 tb)
    (hN : Ng[i]? = some a) (hv : Vis sg a) (hd : (a == ("__debug__" : Str)) = false := by decide) (hcd : (a == ("__classdict__" : Str)) = false := by decide) :
    PE ((cxOf CXg X.prog X.w X.K X.mg X.base Ng qg sg g cdg X.A X.stack s H Eg).tr pn xe) (.Call (.Name a p1) [] [] p2)
      (fun σZ HZ Q => σZ[i]? = some (some (.ref f)) ∧ HZ c' = some (CodeO c' (X.env.qual ++ "<lambda>")) ∧ tb σ HZ Q) := by
  refine ⟨fun pz sZ σZ HZ Q IZ h => ?_⟩; obtain ⟨hs, hc, ht⟩ := h
  refine wpAny_Call_Name_kw (thn ((pe_var (pos := p1) (i := i) hN hv hd hcd).run pz sZ σZ HZ (fun v H1 => v = .ref f ∧ H1 = HZ) IZ ⟨.ref f, hs, rfl, rfl⟩) fun u s1 ⟨v, H1, I1, r1, q1⟩ => ?_); obtain ⟨ev, eH⟩ := q1; subst ev; rw [eH] at I1
  obtain rfl : u = Value.ref f := r1; have of1 := I1.base.keep f _ hf hfn hfr (fun z => nomatch (show f ∈ ([] : List Addr) from z))
  refine PySem.W.callWith_F0 ⟨_, _, _, _, of1⟩ ?_; have un : Un (frs X.stack) [] H HZ s.heap s1.heap := I1.base; obtain ⟨⟨oc, vs, t, hoc, hdc, hvc⟩, _, _⟩ := I1.hok c' _ hc
  have rc : codeAny (model X.prog X.w) (X.A.deeper (envOfC qg sg s.heap.objs.size g cdg)) (.call (.ref f) ⟨[], []⟩) (CR (L2N.CX X.prog X.w) (envOfC qg sg s.heap.objs.size g cdg :: X.stack) X.prog X.w HZ s1 Q E) s1 := by
    refine PySem.W.kla_callFunE hr.depth of1 rfl L.co L.gen rfl ⟨c', oc, vs, t, rfl, hoc, hdc, hvc⟩ ?_; rw [hbind]
    refine wpAny_pure (wpAny_newFunctionEnv (fun y hy => (L.own y hy).2) (fun y hy => absurd hy (by simp)) (fun h₁ hns hsb => ⟨I1.nolimit.fresh _ hsb, ?_⟩) L.kind); show codeAny _ _ (.expr e0 (lamEnv X sc s1.heap.objs.size f c')) _ _
    have kp : ∀ b o, s1.heap.get? b = some o → h₁.get? b = some o := fun b o e => hsb.extBut b o (Nat.ne_of_lt (Heap.lt_size e)) (Heap.get?_push_of_some _ e)
    have J0 : Inv (lamCx X (X.A.deeper (envOfC qg sg s.heap.objs.size g cdg)) (envOfC qg sg s.heap.objs.size g cdg :: X.stack) s1 HZ E sc f c') [] σ HZ { s1 with heap := h₁, toks := s1.toks + ([] : List (Str × Value)).length } := lam_start2 I L I1.env0 hr.hd un hns kp
    have J : Inv (lamN X (X.A.deeper (envOfC qg sg s.heap.objs.size g cdg)) (envOfC qg sg s.heap.objs.size g cdg :: X.stack) s1 HZ E sc f c') [] σ HZ { s1 with heap := h₁, toks := s1.toks + ([] : List (Str × Value)).length } := J0.toTry _
    exact PySem.W.kla_codeExpr (wpAny_mono ((hbody _ _ s1 HZ (hr.deeper _)).run [] _ _ HZ Q J ht) (fun v s' ⟨w', H', J', rv, q⟩ => ⟨w', H', J'.os, J'.bare, J'.base, J'.hok, rv, q⟩) fun e s' hq => hq)
  have hx := L2N.passes_call (E := E) tk hW
  refine wpAny_call (codeAny_mono rc fun r s' hq => ?_)
  match r, hq with
  | .error e, hq => exact hx pz σZ HZ s1 e s' I1 hq
  | .ok (.ret u), hq => exact I1.after hq
end
end Fr
namespace Fr
open PySem PySem.Spec PyProof.Rows L2 HotX L2H LamX
variable [TabL]
/-- the def that words exceptions -/
def Cw (P : Program) (w : World) (K : PySem.W.Frag) (mg : Str → Option Value) (base : Heap) (x : Str) (k : Nat) (L : List Str) (z : Str → Str) : Prop := ∃ (f : Addr) (fd : FuncData) (p : Str), mg x = some (.ref f) ∧ PySem.W.keepIn K (.ref f) = true ∧ Binds K fd [p] [] ∧ FnE P w K mg base (L2N.CX P w) k f fd [p] L z
theorem pe_word {X : Cx} {a : Addr} {oe : Obj} {cls : Value} {d : Option Addr} {pn : List (Addr × Obj)} {x y : Str} {k i : Nat} {L : List Str} {z : Str → Str} {p q pos : Pos} (G : Cw X.prog X.w X.K X.mg X.base x k L z) (hr : RoomH k X.A) (hz : L2N.Zn cls d oe) (hf : ∃ vs, oe.data = .fields vs)
    (hg : Gl X x) (hN : X.N[i]? = some y) (hv : Vis X.env.scope y) (hd : (y == ("__debug__" : Str)) = false) (hcd : (y == ("__classdict__" : Str)) = false) (hdb : (x == ("__debug__" : Str)) = false) :
    PE (X.suite a ((a, oe) :: pn)) (.Call (.Name x p) [.Name y q] [] pos) (fun σ H Q => (σ.length = X.N.length → σ[i]? = some (some (.ref a))) ∧ (∃ c ∈ L, cls = .ref (He.ga X.K c) ∧ d = none ∧ ∃ M, Kn M H ∧ ∀ v H', Aft X.K M H v H' (.str (z c)) → Q v H')) := by
  obtain ⟨f, fd, pp, hm, hk, hb, F⟩ := G
  refine ⟨fun pins s σ H Q I ⟨hs0, c, hc, ec, ed, M, hM, hq⟩ => ?_⟩; subst ec ed; have hs := hs0 I.len
  refine wpAny_Call_Name_kw (ld_glob (X := X.suite a ((a, oe) :: pn)) I hg hm ?_ hdb)
  refine PySem.W.callWith_K (h₀ := X.base) I.ok.mod.kin hk (thn ((pa_cons (pe_var (X := X.suite a ((a, oe) :: pn)) (i := i) hN hv hd hcd) pa_nil).run pos pins s σ H (fun vs H1 => vs = [.ref a] ∧ H1 = H) I ⟨_, hs, rfl, rfl⟩) fun us s1 ⟨vs, H1, I1, r, q⟩ => ⟨I1.kIn, ?_⟩) (by rfl) (by rfl)
  obtain ⟨q1, q2⟩ := q; subst q1; subst q2
  have eu : us = [Value.ref a] := Vals.ref1 r; subst eu
  have P1 := I1.pin (a, oe) (List.mem_append_left _ (List.mem_cons_self))
  obtain ⟨vs, hvs⟩ := hf
  have hp : PinOk X.stack H1 s1 (a, oe) := ⟨P1.1, P1.2.1, fun hm => (List.mem_cons.mp (I1.stkSub a hm)).elim P1.2.2.1 P1.2.2.2.1, P1.2.2.2.2⟩
  have hot : Hot1 (X.suite a ((a, oe) :: pn)).A (a, oe) := ⟨rfl, vs, hvs, hz.2.2 vs hvs⟩
  have hl : ([Value.ref a] : List Value).length = [pp].length := rfl
  have b := hb s1 [Value.ref a] I1.kIn (by rw [List.append_nil]; rfl)
  rw [List.append_nil] at b
  refine wpAny_call (codeAny_mono (F.run (X.suite a ((a, oe) :: pn)).A X.stack s1 M H1 ⟨[Value.ref a], []⟩ a oe c Q (fun _ _ _ => False) hc ⟨hr.dp, hr.un⟩ hot hp hz.zc hM I1.env0 b hq) fun r s' hq => ?_)
  match r, hq with
  | .error e, hq => obtain ⟨_, _, _, _, _, _, _, _, _, _, _, _, zz⟩ := hq; exact zz.elim
  | .ok (.ret u), hq => exact I1.after hq
/-- what the teller comes to -/
def tTold (K : PySem.W.Frag) (T : List (Addr × Str)) (L : List Str) (z : Str → Str) (t : XK → TE) : TE := fun σ H Q => Tabs T H ∧ ∀ H1, ExtT T H H1 → Tabs T H1 →
  t (fun cls d H' => ∃ c ∈ L, cls = .ref (He.ga K c) ∧ d = none ∧ ∃ M, Kn M H' ∧ ∀ v H'', Aft K M H' v H'' (.str (z c)) → Q v H'') σ H1 Q
theorem pe_told {X : Cx} {T : List (Addr × Str)} {c P : Addr} {k kw : Nat} {st : Stmt} {L : List Str} {z : Str → Str} {ps0 : Arguments} {e0 : Expr} {sc : Scope} {t : XK → TE} {p lpos pos p1 p2 p3 p4 p5 p6 p7 p8 p9 p10 : Pos}
    (D : Df X.K X.mg "_law_told" st ["_law_deed"])
    (hB : defBody st = [.Try [.Return (some (.Call (.Name "_law_deed" p1) [] [] p2)) p3] [.ExceptHandler (some (.Name "RowError" p4)) (some "_law_e") [.Return (some (.Call (.Name "_law_word" p5) [.Name "_law_e" p6] [] p7)) p8] p9] [] [] p10])
    (Sg : FnScope ["_law_deed", "_law_e"] ["_law_deed"] (defScope st)) (h1 : (defScope st).names.lookup ("_law_deed" : Str) = some .local) (h2 : (defScope st).names.lookup ("_law_e" : Str) = some .local) (h3 : (defScope st).names.lookup ("RowError" : Str) = some .globalImplicit) (h4 : (defScope st).names.lookup ("_law_word" : Str) = some .globalImplicit)
    (G : Cw X.prog X.w X.K X.mg X.base "_law_word" kw L z) (hkw : kw ≤ k + 1) (hRow : X.mg "RowError" = some (.ref (He.ga X.K "RowError"))) (hx : ∀ x ∈ L, PySem.W.exmOne X.K (.ref (He.ga X.K x)) (.ref (He.ga X.K "RowError")) = some true)
    (TB : TabB X.base X.mg c P) (hcode : X.env.code = .ref c) (hmT : (P, X.env.qual ++ "<lambda>") ∈ T) (hu : ∀ p ∈ T, p.1 = P → p.2 = X.env.qual ++ "<lambda>") (hr : Room (k + 2) X.A) (Ls : LamS X.env.scope sc)
    (hbody : ∀ (A : Around) (outer : List Env) (s : Shared) (H : Hp) (E : XK) (f c' : Addr), Room k (A.deeper (lamEnv X sc s.heap.objs.size f c')) → PE (lamN X A outer s H E sc f c') e0 (t E))
    (hg : Gl X "_law_told" := by rfl) (hdef : defaultsOf ps0 X.env = ([], []) := by rfl) (hbind : ∀ (q : Str) (cl : List (Str × Addr)) (pm cv ctv : Value), bindArgs (PySem.W.kla_fn "<lambda>" q ps0 e0 sc cl pm cv ctv) ⟨[], []⟩ = pure [] := by exact fun _ _ _ _ _ => rfl) :
    PE X (.Call (.Name "_law_told" p) [.Lambda ps0 e0 sc lpos] [] pos) (tTold X.K T L z t) := by
  obtain ⟨g, fd, F, hm, hb⟩ := D; obtain ⟨oc, od, kV, doc, pm, an, cdg, ct, osl, rfl, lk, hcg⟩ := F.ex
  refine ⟨fun pins s ς H Q I ⟨hT, h⟩ => ?_⟩
  refine wpAny_Call_Name_kw (ld_glob I hg hm ?_ (by decide)); refine PySem.W.callWith_K (h₀ := X.base) I.ok.mod.kin F.kp ?_ (by rfl) (by rfl)
  show wpAny _ _ (spliced ((false, eval (.Lambda ps0 e0 sc lpos) X.env) :: backTo pos (starEach [] X.env))) _ _ s; refine Calls.spliced_cons (lam_makeT I TB hcode hmT hu hT hdef (Ls.has I.ok) fun f c' pm' ctv H1 s1 I1 eT T1 hf hfn hfr hco => ?_)
  refine Calls.spliced_nil ⟨I1.kIn, ?_⟩
  have rc : codeAny (model X.prog X.w) X.A (.call (.ref g) ⟨[.ref f], []⟩) (CR (L2N.CX X.prog X.w) X.stack X.prog X.w H1 s1 Q (fun _ _ _ => False)) s1 := by
    refine run_ofS (N := ["_law_deed", "_law_e"]) (ps := ["_law_deed"]) (us := [.ref f]) (vs := [.ref f]) lk hcg Sg hr I1.env0 (hb s1 [.ref f] I1.kIn rfl) (.cons rfl .nil) rfl fun hr1 => ?_
    rw [hB]
    let Y : Cx := cxOf (L2N.CX X.prog X.w) X.prog X.w X.K X.mg X.base ["_law_deed", "_law_e"] "_law_told" (defScope st) g cdg X.A X.stack s1 H1 (fun _ _ _ => False)
    have tk0 : L2N.Takes Y (fun _ _ _ _ => False) := fun _ _ x => by obtain ⟨_, _, _, _, _, _, _, _, _, _, _, _, _, _, _, _, zz⟩ := x; exact zz.elim
    refine ⟨_, pss_one (L2N.ps_try_as (X := Y) (i := 1) (c := .ref (He.ga X.K "RowError")) rfl rfl Sg.nd rfl h2 ⟨h3, by decide, .inl hRow⟩ tk0
      (tb := fun W D σ H => ∃ Ech : XK, (∀ cls d σ' H', Ech cls d H' → W cls d σ' H') ∧ σ[0]? = some (some (.ref f)) ∧ H c' = some (CodeO c' (X.env.qual ++ "<lambda>")) ∧ t Ech ς H D.rt)
      (fun W pn xe tk _ => ⟨fun pz sz σz Hz D Iz hz => ?_⟩)
      (fun a oe cls d pn hz hfl => pss_one (ps_ret (pe_word (X := Y) (i := 1) G (roomH_of (hr1.mono hkw)) hz hfl h4 rfl (.inl h2) (by decide) (by decide) (by decide))))), ?_⟩
    · obtain ⟨Ech, hW, e1, e2, e3⟩ := hz
      have act := pe_actN (i := 0) (W := W) (E := Ech) (tb := t Ech) (p1 := p1) (p2 := p2) I1 Ls hf hfn hfr (hbind _ _ _ _ _) tk hW hr1 (fun A outer s H hr2 => hbody A outer s H Ech f c' hr2) (by rfl) (.inl h1)
      exact (pss_one (ps_ret (pos := p3) act)).run pz sz σz Hz D Iz ⟨e1, e2, e3⟩
    · refine ⟨fun cls d H' => ∃ c ∈ L, cls = .ref (He.ga X.K c) ∧ d = none ∧ ∃ M, Kn M H' ∧ ∀ v H'', Aft X.K M H' v H'' (.str (z c)) → Q v H'', fun cls d σ' H' ⟨c, hc, e1, e2, M, hM, hq⟩ => ?_, rfl, hco, h H1 eT T1⟩
      subst e1
      refine ⟨true, hx c hc, fun _ a ha => ⟨fun hl => ?_, c, hc, rfl, e2, M, hM, hq⟩, fun z => nomatch z⟩
      have hl : (σ'.set 1 (some (V.ref a))).length = 2 := hl
      rw [List.length_set] at hl
      rw [List.getElem?_set_self (by omega)]
  refine wpAny_call (codeAny_mono rc fun r s2 hq => ?_)
  match r, hq with
  | .error e, hq => obtain ⟨_, _, _, _, _, _, _, _, _, _, _, _, zz⟩ := hq; exact zz.elim
  | .ok (.ret u), hq => exact I1.after hq
section
variable {K : PySem.W.Frag} {M0 H0 H H1 : Hp} {σ : L2.St} {ρ : List Sl} {T : List (V × Dt)} {d : Dt}
theorem StM.tabs {M : Hp} (st : StM K M0 H0 σ H ρ T M) (eT : ExtT TabL.l H H1) (T1 : Tabs TabL.l H1) : StM K M0 H0 σ H1 ρ T M := by
  have kn : Kn M H1 := ⟨fun a o e => eT a o (st.bs.mh _ _ e) (fun z => by rw [st.bs.kn.tm' z] at e; cases e), st.bs.kn.tm, T1⟩
  refine ⟨⟨st.bs.mm, kn, fun a o q1 q2 q0 => let ⟨r1, r2⟩ := st.bs.far a o q1 q2 q0; ⟨r1, eT a o r2 q0⟩⟩, st.len, fun i s e => ?_, st.dis, st.tmp⟩
  obtain ⟨v, e1, h1⟩ := st.slot i s e
  refine ⟨v, e1, ?_⟩
  cases s with
  | ow ds =>
    obtain ⟨a, vs, rfl, q1, q2, q3, q4⟩ := h1.wo
    exact SlOk.ow q1 q2 (eT a _ q3 (st.bs.kn.notO q3 q4.nt)) q4
  | no => trivial
  | va d => exact h1
  | scr ns => exact h1
  | raw x => exact h1
  | fz P hP => exact h1
theorem less_hid (ρ : List Sl) : Less (ρ.map Fr.hid) ρ := by
  refine ⟨by simp, fun i s e => ?_⟩
  rw [List.getElem?_map] at e
  cases q : ρ[i]? with
  | none => rw [q] at e; cases e
  | some s' =>
    rw [q] at e
    cases e
    cases s' with
    | ow ds => exact .inl rfl
    | no => exact .inl rfl
    | va d => exact .inr ⟨(fun _ z => nomatch z), rfl⟩
    | scr d => exact .inr ⟨(fun _ z => nomatch z), rfl⟩
    | raw d => exact .inr ⟨(fun _ z => nomatch z), rfl⟩
    | fz P hP => exact .inr ⟨(fun _ z => nomatch z), rfl⟩
/-- _law_told(lambda: e): what e gives, or its exception's word -/
theorem ev_told {L : List Str} {z : Str → Str} {t : XK → TE} {r : Except Value Dt} (hb : ∀ E, EvE K E (t E) (ρ.map Fr.hid) r) (hok : ∀ d', r = .ok d' → d' = d) (hxc : ∀ c, r = .error c → ∃ x ∈ L, c = .ref (He.ga K x) ∧ d = .str (z x)) :
    Ev K (tTold K TabL.l L z t) ρ d := fun M0 H0 σ H T Q s q => by
  obtain ⟨M, st⟩ := s
  refine ⟨st.bs.kn.tb, fun H1 eT T1 => ?_⟩
  have st1 := st.tabs eT T1
  refine hb _ M H1 σ H1 T Q ⟨M, st1.less (less_hid ρ)⟩ (fun d' e v H' ⟨M', s'⟩ => ?_) fun c e H' ⟨M', b⟩ => ?_
  · have ed := hok d' e
    subst ed
    exact q v H' ⟨M', st1.grow s'.bs s'.tmp⟩
  · obtain ⟨x, hx, e1, e2⟩ := hxc c e
    refine ⟨x, hx, e1, rfl, M', b.kn, fun v H'' ⟨M'', b2, dn⟩ => q v H'' ⟨M'', st1.grow (b.trans b2) fun p hp => ?_⟩⟩
    rcases List.mem_cons.mp hp with e3 | hp
    · subst e3; rw [e2]; exact dn
    · exact (st1.tmp p hp).mono (b.trans b2).mm
end
end Fr
namespace Fr
open PySem PySem.Spec PyProof.Rows L2 LamX
theorem code_of {K : PySem.W.Frag} {x : Str} {oc : Value} {od : Option Addr} {osl : Array (Option Value)} {fd : FuncData} {q : Str} (lk : K.lookup (He.ga K x) = some ⟨oc, od, .func fd, osl⟩) (h : PySem.W.codeIn K fd.code q = true) : fd.code = .ref (He.codeOf K (x, none)) := by
  obtain ⟨c, e⟩ := He.codeIn_ref h
  rw [He.codeOf_eq (p := (x, none)) lk e, e]
section
variable [TabL] {P : Program} {w : World} {K : PySem.W.Frag} {mg : Str → Option Value} {base : Heap}
theorem fn_mkC {x : Str} {st : Stmt} {fd : FuncData} {N ps : List Str} {k : Nat} {Pr : List Dt → Except Value Dt → Prop} (F : Fun K x x st (He.ga K x) fd) (S : FnScope N ps (defScope st)) (hl : ∀ ds r, Pr ds r → ds.length = ps.length)
    (hbody : ∀ (A : Around) (outer : List Env) (s : Shared) (H : Hp) (E : XK) (ds : List Dt) (r : Except Value Dt), Room k (A.deeper (envOfC x (defScope st) s.heap.objs.size (He.ga K x) (.ref (He.codeOf K (x, none))))) → Pr ds r →
      ∃ t, PSs (cxOf (L2N.CX P w) P w K mg base N x (defScope st) (He.ga K x) (.ref (He.codeOf K (x, none))) A outer s H E) (defBody st) t ∧ Wp K E t (ds.map Sl.va ++ List.replicate (N.length - ds.length) .no) (Fr.Fin r)) : FnOk P w K mg base (L2N.CX P w) (k + 1) (He.ga K x) fd ps (spD K Pr) := by
  obtain ⟨oc, od, kV, doc, pm, an, cdv, ct, osl, rfl, lk, hcd⟩ := F.ex
  have hpN : ps.length ≤ N.length := by have := congrArg List.length S.pre; rw [List.length_take] at this; omega
  have ec : cdv = .ref (He.codeOf K (x, none)) := code_of lk hcd
  subst ec
  refine fn_of lk hcd S (fun vs H Q E h => ?_) fun A outer s H vs Q E hr h => ?_
  · obtain ⟨M, ds, r, _, hd, hp, _⟩ := h
    rw [hd.len, hl ds r hp]
  · obtain ⟨M, ds, r, m, hd, hp, q, qx⟩ := h
    obtain ⟨t, h1, h2⟩ := hbody A outer s H E ds r hr hp
    refine ⟨t, h1, h2 M H [] _ H _ (sta_start m hd (by rw [hl ds r hp]; exact hpN)) fun o p => ?_⟩
    cases o with
    | nx ρ => exact fun σ' H' s' => q _ p _ H' (by obtain ⟨M', st'⟩ := s'; exact ⟨M', st'.bs, .non⟩)
    | rt d => exact fun v H' a => q d p v H' a
    | bk ρ => exact False.elim p
    | ct ρ => exact False.elim p
    | xc c => exact fun H' a => qx c p H' a
    | rp R => exact False.elim p
theorem ck_mkC {x : Str} {st : Stmt} {N ps : List Str} {k : Nat} {Pr : List Dt → Except Value Dt → Prop} (D : Df K mg x st ps) (hg : mg x = some (.ref (He.ga K x))) (S : FnScope N ps (defScope st)) (hl : ∀ ds r, Pr ds r → ds.length = ps.length)
    (hbody : ∀ (A : Around) (outer : List Env) (s : Shared) (H : Hp) (E : XK) (ds : List Dt) (r : Except Value Dt), Room k (A.deeper (envOfC x (defScope st) s.heap.objs.size (He.ga K x) (.ref (He.codeOf K (x, none))))) → Pr ds r →
      ∃ t, PSs (cxOf (L2N.CX P w) P w K mg base N x (defScope st) (He.ga K x) (.ref (He.codeOf K (x, none))) A outer s H E) (defBody st) t ∧ Wp K E t (ds.map Sl.va ++ List.replicate (N.length - ds.length) .no) (Fr.Fin r)) : Ck P w K mg base x (k + 1) ps (spD K Pr) := by
  obtain ⟨f, fd, F, hm, hb⟩ := D
  rw [hg] at hm
  cases hm
  exact ⟨_, fd, hg, F.kp, hb, fn_mkC F S hl hbody⟩
theorem fn_mkXC {x : Str} {st : Stmt} {fd : FuncData} {N ps : List Str} {k : Nat} {Pr : List Int → List Dt → Except Value Dt → Prop} (F : Fun K x x st (He.ga K x) fd) (S : FnScope N ps (defScope st)) (hl : ∀ ns ds r, Pr ns ds r → ds.length + 1 = ps.length)
    (hbody : ∀ (A : Around) (outer : List Env) (s : Shared) (H : Hp) (E : XK) (ns : List Int) (ds : List Dt) (r : Except Value Dt), Room k (A.deeper (envOfC x (defScope st) s.heap.objs.size (He.ga K x) (.ref (He.codeOf K (x, none))))) → Pr ns ds r →
      ∃ t, PSs (cxOf (L2N.CX P w) P w K mg base N x (defScope st) (He.ga K x) (.ref (He.codeOf K (x, none))) A outer s H E) (defBody st) t ∧ Wp K E t (.scr ns :: (ds.map Sl.va ++ List.replicate (N.length - 1 - ds.length) .no)) (Fr.Fin r)) : FnOk P w K mg base (L2N.CX P w) (k + 1) (He.ga K x) fd ps (spX K Pr) := by
  obtain ⟨oc, od, kV, doc, pm, an, cdv, ct, osl, rfl, lk, hcd⟩ := F.ex
  have hpN : ps.length ≤ N.length := by have := congrArg List.length S.pre; rw [List.length_take] at this; omega
  have ec : cdv = .ref (He.codeOf K (x, none)) := code_of lk hcd
  subst ec
  refine fn_of lk hcd S (fun vs H Q E h => ?_) fun A outer s H vs Q E hr h => ?_
  · obtain ⟨M, a, ns, ws, ds, r, rfl, _, _, hd, hp, _⟩ := h
    rw [List.length_cons, hd.len, hl ns ds r hp]
  · obtain ⟨M, a, ns, ws, ds, r, rfl, m, hs, hd, hp, q, qx⟩ := h
    obtain ⟨t, h1, h2⟩ := hbody A outer s H E ns ds r hr hp
    refine ⟨t, h1, h2 M H [] _ H _ (sta_startX m hs hd (by rw [hl ns ds r hp]; exact hpN)) fun o p => ?_⟩
    cases o with
    | nx ρ => exact fun σ' H' s' => q _ p _ H' (by obtain ⟨M', st'⟩ := s'; exact ⟨M', st'.bs, .non⟩)
    | rt d => exact fun v H' a => q d p v H' a
    | bk ρ => exact False.elim p
    | ct ρ => exact False.elim p
    | xc c => exact fun H' a => qx c p H' a
    | rp R => exact False.elim p
/-- the law's promise at its entry: the tables are empty, all else is known -/
theorem law_end {H : Hp} {a : Addr} {ns : List Int} {Pr : List Int → List Dt → Except Value Dt → Prop} (hT : ∀ p ∈ TabL.l, H p.1 = some (.tbl #[])) (hK : ∀ p ∈ TabL.l, K.lookup p.1 = none) (hS : SqL K H a (ns.map V.int)) (hp : Pr ns [] (.ok (.bool true))) :
    spX K Pr [.ref a] H (fun v _ => v = .bl true) fun _ _ _ => False := by
  classical
  have hT' : ∀ b ∈ TabL.l.map (·.1), H b = some (.tbl #[]) := fun b hb => by
    obtain ⟨p, hp, rfl⟩ := List.mem_map.mp hb
    exact hT p hp
  let M : Hp := fun b => if b ∈ TabL.l.map (·.1) then none else H b
  have at_ : ∀ b, b ∉ TabL.l.map (·.1) → M b = H b := fun b hb => if_neg hb
  have kn : Kn M H := ⟨fun b o e => by
    by_cases hb : b ∈ TabL.l.map (·.1)
    · rw [show M b = none from if_pos hb] at e; cases e
    · rw [at_ b hb] at e; exact e, fun p hp => if_pos (List.mem_map.mpr ⟨p, hp, rfl⟩), fun p hp => TabS.nil (hT p hp)⟩
  have sM : SqL K M a (ns.map V.int) := by
    rcases hS with (h | ⟨o, h⟩) | h
    · exact .inl (.inl ((at_ a fun z => by rw [hT' a z] at h; cases h).trans h))
    · exact .inl (.inr ⟨o, (at_ a fun z => by rw [hT' a z] at h; cases h).trans h⟩)
    · exact .inr h
  exact ⟨M, a, ns, [], [], .ok (.bool true), rfl, kn, sM, .nil, hp, fun d e v H2 ⟨M2, b, hv⟩ => by cases e; exact hv.bl_inv, fun c e => nomatch e⟩
end
def excCB (K : PySem.W.Frag) (D : Addr) : Bool :=
  decide (PySem.W.findIn K (.ref D) "__getattribute__" = some (some (.builtin "BaseException.__getattribute__"))) && (decide (PySem.W.findIn K (.ref D) "__getattr__" = some none) && (decide (PySem.W.subIn K (.ref D) (.type "BaseException") = some true) && (PySem.W.hasDictIn K D &&
  (decide (PySem.W.findIn K (.ref D) "__class__" = some (some (.builtin "object.__class__"))) && (decide (PySem.W.specialIn K (.builtin "object.__class__") "__get__" = some (some (.builtin "getset_descriptor.__get__"))) &&
  (decide (PySem.W.takesIn K (.builtin "object.__class__") = some true) && decide (PySem.W.mroIn K D (.type "object") = some true)))))))
theorem excCB_ok {K : PySem.W.Frag} {D : Addr} (h : excCB K D = true) : ExcC K D := by
  unfold excCB at h
  simp only [Bool.and_eq_true, decide_eq_true_eq] at h
  obtain ⟨h1, h2, h3, h4, h5, h6, h7, h8⟩ := h
  exact ⟨h1, h2, h3, h4, h5, h6, h7, h8⟩
def wordB (K : PySem.W.Frag) (wl : List Str) : Bool := wl.all fun x => excCB K (He.ga K x) && (decide (PySem.W.kitOne K (.ref (He.ga K x)) (.type "ValueError") = some true) && (decide (PySem.W.exmOne K (.ref (He.ga K x)) (.ref (He.ga K "RowError")) = some true) &&
  wl.all fun y => decide (PySem.W.kitOne K (.ref (He.ga K x)) (.ref (He.ga K y)) = some (x == y))))
structure Wrd (K : PySem.W.Frag) (wl : List Str) : Prop where
  ec : ∀ x ∈ wl, ExcC K (He.ga K x)
  ve : ∀ x ∈ wl, PySem.W.kitOne K (.ref (He.ga K x)) (.type "ValueError") = some true
  ex : ∀ x ∈ wl, PySem.W.exmOne K (.ref (He.ga K x)) (.ref (He.ga K "RowError")) = some true
  kit : ∀ x ∈ wl, ∀ y ∈ wl, PySem.W.kitOne K (.ref (He.ga K x)) (.ref (He.ga K y)) = some (x == y)
theorem wordB_ok {K : PySem.W.Frag} {wl : List Str} (h : wordB K wl = true) : Wrd K wl := by
  unfold wordB at h
  simp only [List.all_eq_true, Bool.and_eq_true, decide_eq_true_eq] at h
  exact ⟨fun x hx => excCB_ok (h x hx).1, fun x hx => (h x hx).2.1, fun x hx => (h x hx).2.2.1, fun x hx => (h x hx).2.2.2⟩
theorem bt_ValueError : bootBuiltins "ValueError" = some (.type "ValueError") := by decide +kernel
section
variable {K : PySem.W.Frag}
theorem told_ok {b : Bool} {d : Dt} {x : Str} (d' : Dt) (h : (if b then .ok d else cE K x) = Except.ok (ε := Value) d') : d' = if b then d else .str x := by
  cases b with
  | true => cases h; rfl
  | false => cases h
theorem told_xc {b : Bool} {d : Dt} {x : Str} {L : List Str} (hx : x ∈ L) (c : Value) (h : (if b then .ok d else cE K x) = Except.error (α := Dt) c) : ∃ y ∈ L, c = .ref (He.ga K y) ∧ (if b then d else .str x) = PyData.str y := by
  cases b with
  | true => cases h
  | false => cases h; exact ⟨x, hx, rfl, rfl⟩
end
end Fr
namespace Fr
open PySem PySem.Spec PyProof.Rows L2 RZ
abbrev zm1 (h : Heap) (l1 : Addr) : Heap := h.push { cls := .type "list_iterator", data := .fields #[.ref l1, .int 0 0] }
abbrev zm2 (h : Heap) (l1 l2 : Addr) : Heap := (zm1 h l1).push { cls := .type "tuple_iterator", data := .fields #[.ref l2, .int 0 0] }
abbrev zm3 (h : Heap) (l1 l2 : Addr) : Heap := (zm2 h l1 l2).push { cls := .type "tuple", data := .seq #[.ref h.objs.size, .ref (zm1 h l1).objs.size] }
abbrev zm4 (h : Heap) (l1 l2 : Addr) : Heap := (zm3 h l1 l2).push { cls := .type "tuple", data := .seq #[.none, .none] }
abbrev zm5 (h : Heap) (l1 l2 : Addr) : Heap := (zm4 h l1 l2).push { cls := .type "zip", data := .fields #[.none, .bool false, .bool false, .ref (zm2 h l1 l2).objs.size, .ref (zm3 h l1 l2).objs.size] }
theorem meets_zipM (l1 l2 : Addr) (xs ys : Array Value) :
    Meets (Builtin.«zip.__new__» ⟨[.type "zip", .ref l1, .ref l2], []⟩) (fun _ R s => s.heap.IsList l1 xs ∧ s.heap.IsTuple l2 ys ∧ R (.ok (.ret (.ref (zm4 s.heap l1 l2).objs.size))) { s with heap := zm5 s.heap l1 l2 }) :=
  .of_wp fun prog w A R s h => by
    obtain ⟨hp, g, d, tk, os⟩ := s; obtain ⟨k1, k2, h⟩ := h
    have hsub := sub_zip; have m1 : Heap.IsList (Shared.heap ⟨hp, g, d, tk, os⟩) l1 xs := k1
    have m2 : Heap.IsTuple (Shared.heap ⟨hp.push { cls := .type "list_iterator", data := .fields #[.ref l1, .int 0 0] }, g, d, tk, os⟩) l2 ys := Heap.IsTuple.push k2 _
    wp_walk using wpAny_pyIter_list m1, wpAny_pyIter_tuple m2
    exact ⟨_, rfl, h⟩
section
variable {prog : Program} {w : World} {A : Around} {E : Value → Shared → Prop} {s : Shared}
theorem call_zipM {l1 l2 : Addr} {xs ys : Array Value} {Q : Value → Shared → Prop} (k1 : s.heap.IsList l1 xs) (k2 : s.heap.IsTuple l2 ys)
    (h : ∀ h', IsZip h' (s.heap.objs.size + 4) (s.heap.objs.size + 2) (s.heap.objs.size + 3) .none → IsTupOf2 h' (s.heap.objs.size + 2) (.ref s.heap.objs.size) (.ref (s.heap.objs.size + 1)) →
      IsTupOf2 h' (s.heap.objs.size + 3) .none .none → h'.IsListIter s.heap.objs.size l1 0 → h'.IsTupleIter (s.heap.objs.size + 1) l2 0 → h'.objs.size = s.heap.objs.size + 5 →
      (∀ c o, s.heap.get? c = some o → h'.get? c = some o) → Q (.ref (s.heap.objs.size + 4)) { s with heap := h' }) : wpAny (model prog w) A (call (.type "zip") [.ref l1, .ref l2]) Q E s := by
  refine callType_new F.called_zip (by decide) (F.typeCall_zip_2 _ _) (F.newCall_zip_2 _ _) (fun obj => F.args_object_init_3 obj _ _) F.entry_zip_new (meets_zipM l1 l2 xs ys) ⟨k1, k2, ?_⟩
  have z1 : (zm1 s.heap l1).objs.size = s.heap.objs.size + 1 := Heap.size_push ..
  have z2 : (zm2 s.heap l1 l2).objs.size = s.heap.objs.size + 2 := by rw [Heap.size_push, z1]
  have z3 : (zm3 s.heap l1 l2).objs.size = s.heap.objs.size + 3 := by rw [Heap.size_push, z2]
  have z4 : (zm4 s.heap l1 l2).objs.size = s.heap.objs.size + 4 := by rw [Heap.size_push, z3]
  have z5 : (zm5 s.heap l1 l2).objs.size = s.heap.objs.size + 5 := by rw [Heap.size_push, z4]
  have g5 : (zm5 s.heap l1 l2).get? (zm4 s.heap l1 l2).objs.size = some _ := Heap.get?_push_size _ rfl
  have g4 : (zm5 s.heap l1 l2).get? (zm3 s.heap l1 l2).objs.size = some _ := Heap.get?_push_of_some _ (Heap.get?_push_size _ rfl)
  have g3 : (zm5 s.heap l1 l2).get? (zm2 s.heap l1 l2).objs.size = some _ := Heap.get?_push_of_some _ (Heap.get?_push_of_some _ (Heap.get?_push_size _ rfl))
  have g2 : (zm5 s.heap l1 l2).get? (zm1 s.heap l1).objs.size = some _ := Heap.get?_push_of_some _ (Heap.get?_push_of_some _ (Heap.get?_push_of_some _ (Heap.get?_push_size _ rfl)))
  have g1 : (zm5 s.heap l1 l2).get? s.heap.objs.size = some _ := Heap.get?_push_of_some _ (Heap.get?_push_of_some _ (Heap.get?_push_of_some _ (Heap.get?_push_of_some _ (Heap.get?_push_size _ rfl))))
  show _ ∧ _
  rw [z2, z3, z4] at g5; rw [z1, z2] at g3; rw [z3] at g4; rw [z1] at g2; rw [z4]
  exact ⟨⟨_, g5, rfl⟩, h _ g5 g3 g4 ⟨_, g1, rfl, rfl⟩ ⟨_, g2, rfl, rfl⟩ z5 fun c o x => Heap.get?_push_of_some _ (Heap.get?_push_of_some _ (Heap.get?_push_of_some _ (Heap.get?_push_of_some _ (Heap.get?_push_of_some _ x))))⟩
end
/-- the list at a, the tuple at b -/
def ItzM (K : PySem.W.Frag) (a b : Addr) : It :=
  ⟨fun i H => ∃ (xs ys : List V) (x y : V), SqL K H a xs ∧ SqT K H b ys ∧ xs[i]? = some x ∧ ys[i]? = some y,
    fun i H v H' => ∃ T x y, v = .ref T ∧ H T = none ∧ H' = upd H T (.tup [x, y]) ∧ (∀ xs, SqL K H a xs → xs[i]? = some x) ∧ ∀ ys, SqT K H b ys → ys[i]? = some y,
    fun i H => ∃ xs ys : List V, SqL K H a xs ∧ SqT K H b ys ∧ i ≤ xs.length ∧ i ≤ ys.length ∧ (xs.length = i ∨ ys.length = i)⟩
theorem turn_zipM {P : Program} {w : World} {K : PySem.W.Frag} {elts : List Expr} {kk : Nat} {tpos : Pos} {a b z TI TO i1 i2 : Addr} (D : ZipSep2 z TI TO i1 i2 [i1, a] [i2, b]) :
    L2.Turn P w K (.Tuple elts kk tpos) (ItzM K a b) [z, TI, TO, i1, i2] z (fun i h => IsZip h z TI TO .none ∧ IsTupOf2 h TI (.ref i1) (.ref i2) ∧ (∃ x y, IsTupOf2 h TO x y) ∧ h.IsListIter i1 a i ∧ h.IsTupleIter i2 b i) where
  mem := by simp
  obj := fun i h ⟨hz, hTI, ⟨x, y, hTO⟩, ⟨o1, e1, _, d1⟩, ⟨o2, e2, _, d2⟩⟩ c hc => by
    simp only [List.mem_cons, List.not_mem_nil, or_false] at hc
    rcases hc with q | q | q | q | q <;> rw [q]
    · exact ⟨_, hz, fun v q => nomatch q⟩
    · exact ⟨_, hTI, fun v q => nomatch q⟩
    · exact ⟨_, hTO, fun v q => nomatch q⟩
    · exact ⟨o1, e1, fun v q => by rw [d1] at q; cases q⟩
    · exact ⟨o2, e2, fun v q => by rw [d2] at q; cases q⟩
  keep := fun i h h' ⟨hz, hTI, ⟨x, y, hTO⟩, h1, h2⟩ k => ⟨k z (by simp) _ hz, k TI (by simp) _ hTI, ⟨x, y, k TO (by simp) _ hTO⟩, h1.at fun o q => k i1 (by simp) o q, h2.at fun o q => k i2 (by simp) o q⟩
  item := by
    intro X hP hw hK hc i pins s σ H E I hf st hg; subst hP hw hK
    obtain ⟨hz, hTI, ⟨x0, y0, hTO⟩, h1, h2⟩ := st; obtain ⟨xs, ys, x, y, hqx, hqy, hx, hy⟩ := hg
    obtain ⟨its, rv, p, _⟩ := I.list hqx; obtain ⟨its2, rv2, p2, _⟩ := I.tuple hqy
    obtain ⟨u, hu, ru⟩ := rv.get hx; obtain ⟨u2, hu2, ru2⟩ := rv2.get hy
    have hzl : z < s.heap.objs.size := Heap.lt_size hz
    have n1 : a ≠ i1 := fun e => by
      obtain ⟨o, e1, c1, d1⟩ := h1; obtain ⟨o', e2, c2, _⟩ := p.isList; rw [e, e1] at e2; cases e2; rw [c1] at c2; exact absurd (Value.type.inj c2) (by decide)
    have n2 : b ≠ i2 := fun e => by
      obtain ⟨o, e1, c1, d1⟩ := h2; obtain ⟨o', e2, c2, _⟩ := (show s.heap.IsTuple b its2.toArray from p2); rw [e, e1] at e2; cases e2; rw [c1] at c2; exact absurd (Value.type.inj c2) (by decide)
    have hd : X.A.in1.handled = none := I.ok.hd hc
    refine wpAny_pyNext_zipD2_item D (Draws.list hd i1 a n1 its.toArray) (Draws.tuple hd i2 b n2 its2.toArray) hz hTI hTO ⟨h1, p.isList⟩ ⟨h2, p2⟩ (by simp; exact (List.getElem?_eq_some_iff.mp hu).1) (by simp; exact (List.getElem?_eq_some_iff.mp hu2).1) fun v1 v2 h' tk y1 y2 z' TO' st1' st2' hT hsz hk => ?_
    have ev1 : v1 = u := by simp at y1; rw [hu] at y1; exact (Option.some.inj y1).symm
    have ev2 : v2 = u2 := by simp at y2; rw [hu2] at y2; exact (Option.some.inj y2).symm
    subst ev1 ev2
    refine ⟨_, rfl, wpAny_letOwnedTupleGo_zip (s := { s with heap := h', toks := tk }) z' fun h'' z'' sb => ?_⟩
    have hT2 : h''.get? s.heap.objs.size = some { cls := .type "tuple", data := .seq #[v1, v2] } := (sb.2 _ (Nat.ne_of_gt hzl)).trans hT
    have new : ObjOk X.prog X.w (upd H s.heap.objs.size (.tup [x, y])) h'' s.heap.objs.size (.tup [x, y]) := ⟨by show 2 ≤ sizeLine; decide, [v1, v2], .cons ru (.cons ru2 .nil), ⟨_, hT2, rfl, _, rfl⟩⟩
    have I1 : Inv X pins σ (upd H s.heap.objs.size (.tup [x, y])) { s with heap := h'', toks := tk } :=
      I.turnedNew (t' := tk) (ch := [z, TI, TO, i1, i2]) (fun c o hb q => (sb.2 c (fun q' => hb (by simp [q']))).trans (hk c o (fun q' => hb (by simp [q'])) (fun q' => hb (by simp [q'])) (fun q' => hb (by simp [q'])) (fun q' => hb (by simp [q'])) q)) hf (Nat.le_refl _) new
    refine ⟨.ref s.heap.objs.size, _, I1, rfl, ⟨_, x, y, rfl, I.hok.fresh (Nat.le_refl _), rfl, fun l hl => by rw [I.list_inj hl hqx]; exact hx, fun l hl => by rw [I.tuple_inj hl hqy]; exact hy⟩, ⟨z'', ?_, ⟨v1, v2, ?_⟩, ?_, ?_⟩, fun c hcm => ?_⟩
    · exact (sb.2 _ D.TIz).trans (hk _ _ D.TIz D.TITO D.TIi1 D.TIi2 hTI)
    · exact (sb.2 _ D.TOz).trans TO'
    · exact st1'.1.at fun o q => (sb.2 _ (Ne.symm D.zi1)).trans q
    · exact st2'.1.at fun o q => (sb.2 _ (Ne.symm D.zi2)).trans q
    · have hlt : c < s.heap.objs.size := by
        simp only [List.mem_cons, List.not_mem_nil, or_false] at hcm
        rcases hcm with q | q | q | q | q <;> rw [q]
        · exact hzl
        · exact Heap.lt_size hTI
        · exact Heap.lt_size hTO
        · obtain ⟨_, e1, _⟩ := h1; exact Heap.lt_size e1
        · obtain ⟨_, e2, _⟩ := h2; exact Heap.lt_size e2
      rw [upd_ne (Nat.ne_of_lt hlt)]
      exact (hf c hcm).1
  done := by
    intro X hP hw hK hc i pins s σ H E I hf st hg; subst hP hw hK
    obtain ⟨hz, hTI, ⟨x0, y0, hTO⟩, h1, h2⟩ := st; obtain ⟨xs, ys, hqx, hqy, b1, b2, hend⟩ := hg
    obtain ⟨its, rv, p, _⟩ := I.list hqx; obtain ⟨its2, rv2, p2, _⟩ := I.tuple hqy
    have l1 := rv.length; have l2 := rv2.length
    have n1 : a ≠ i1 := fun e => by
      obtain ⟨o, e1, c1, d1⟩ := h1; obtain ⟨o', e2, c2, _⟩ := p.isList; rw [e, e1] at e2; cases e2; rw [c1] at c2; exact absurd (Value.type.inj c2) (by decide)
    have n2 : b ≠ i2 := fun e => by
      obtain ⟨o, e1, c1, d1⟩ := h2; obtain ⟨o', e2, c2, _⟩ := (show s.heap.IsTuple b its2.toArray from p2); rw [e, e1] at e2; cases e2; rw [c1] at c2; exact absurd (Value.type.inj c2) (by decide)
    have hd : X.A.in1.handled = none := I.ok.hd hc
    exact wpAny_pyNext_zipD2_end D (Draws.list hd i1 a n1 its.toArray) (Draws.tuple hd i2 b n2 its2.toArray) hz hTI hTO ⟨h1, p.isList⟩ ⟨h2, p2⟩ (by simp; omega) (by simp; omega) (by simp; omega) fun h' tk hk => ⟨rfl, I.turnedL (t' := tk) (ch := [z, TI, TO, i1, i2]) (fun c o hb q =>
      hk c o (fun q' => hb (by simp [q'])) (fun q' => hb (by simp [q'])) (fun q' => hb (by simp [q'])) (fun q' => hb (by simp [q'])) q) hf⟩
  self := fun A i s Q E st h => wpAny_pyIter_zip st.1 h
theorem zip_sep (n a b : Nat) (ha : a < n) (hb : b < n) : ZipSep2 (n + 4) (n + 2) (n + 3) n (n + 1) [n, a] [n + 1, b] := by
  have two : ∀ {x y z : Nat}, x ≠ y → x ≠ z → x ∉ [y, z] := fun h1 h2 hm => (List.mem_cons.mp hm).elim h1 fun h => h2 (List.mem_singleton.mp h)
  have h1 : n + 4 ≠ a := by omega
  have h2 : n + 3 ≠ a := by omega
  have h3 : n + 4 ≠ b := by omega
  have h4 : n + 3 ≠ b := by omega
  have h5 : n ≠ b := by omega
  have h6 : n + 1 ≠ a := by omega
  exact ⟨(by omega : n + 2 ≠ n + 4), (by omega : n + 3 ≠ n + 4), (by omega : n + 2 ≠ n + 3), (by omega : n + 2 ≠ n), List.mem_cons_self, two (by omega) h1, two (by omega) h2, (by omega : n + 2 ≠ n + 1), List.mem_cons_self, two (by omega) h3, two (by omega) h4, two (by omega) h5, two (by omega) h6⟩
theorem vals_ref2 {a b : Addr} {us : List Value} (r : Vals [V.ref a, V.ref b] us) : us = [Value.ref a, Value.ref b] := by
  cases r with
  | cons r t =>
    cases t with
    | cons r2 t2 =>
      cases t2
      have e1 := r
      have e2 := r2
      cases e1
      cases e2
      rfl
def iZipM (K : PySem.W.Frag) (ta : TA) : TI := fun σ H R => ta σ H fun vs H1 => ∃ a b xs ys, vs = [.ref a, .ref b] ∧ SqL K H1 a xs ∧ SqT K H1 b ys ∧ R (ItzM K a b) H1
theorem pi_zipM {X : Cx} {e e2 : Expr} {ta : TA} {p pos tpos : Pos} {elts : List Expr} {kk : Nat} (hg : Gl X "zip") (hm : X.mg "zip" = none) (ha : PA X [e, e2] ta)
    (hs : starEach [e, e2] X.env = (false, eval e X.env) :: starEach [e2] X.env := by rfl) (hpl : (backTo pos (starEach [e2] X.env)).any (·.1) = false := by rfl) : PI X (.Tuple elts kk tpos) (.Call (.Name "zip" p) [e, e2] [] pos) (iZipM X.K ta) := by
  refine ⟨fun pins s σ H R I h => ?_⟩
  refine Call_ (ld_blt I hg hm PyProof.Rows.boot_zip (PyProof.Rows.callWith_type1 (thn (ha.run pos pins s σ H _ I h) fun us s1 ⟨vs, H1, I1, r1, q1⟩ => ?_) hs hpl)); obtain ⟨a, b, xs, ys, ex, hqx, hqy, q⟩ := q1; subst ex
  have eu := vals_ref2 r1; subst eu
  obtain ⟨its, rv, p1, _⟩ := I1.list hqx; obtain ⟨its2, rv2, p2, _⟩ := I1.tuple hqy; obtain ⟨o2, ho2, _⟩ := id p2
  have fresh : ∀ c, c ∈ [s1.heap.objs.size + 4, s1.heap.objs.size + 2, s1.heap.objs.size + 3, s1.heap.objs.size, s1.heap.objs.size + 1] → FpOk X pins H1 c := fun c hcm => by
    have hle : s1.heap.objs.size ≤ c := by
      simp only [List.mem_cons, List.not_mem_nil, or_false] at hcm
      have up : ∀ k : Nat, s1.heap.objs.size ≤ s1.heap.objs.size + k := fun k => Nat.le_add_right _ _
      rcases hcm with z | z | z | z | z
      · exact z ▸ up 4
      · exact z ▸ up 2
      · exact z ▸ up 3
      · exact z ▸ Nat.le_refl _
      · exact z ▸ up 1
    exact I1.fpOk hle (I1.hok.fresh hle)
  refine call_zipM p1.isList (show s1.heap.IsTuple b its2.toArray from p2) fun h' hz hTI hTO h1 h2 hsz hk => wpAny_pyIter_zip hz ?_
  exact ⟨s1.heap.objs.size + 4, [s1.heap.objs.size + 4, s1.heap.objs.size + 2, s1.heap.objs.size + 3, s1.heap.objs.size, s1.heap.objs.size + 1], _, _, H1, rfl, I1.kept (t' := s1.toks) hk, turn_zipM (zip_sep s1.heap.objs.size a b p1.lt (Heap.lt_size ho2)), ⟨hz, hTI, ⟨_, _, hTO⟩, h1, h2⟩, fresh, q⟩
section
variable [TabL] {K : PySem.W.Frag} {ρ : List Sl} {te tb : TE}
theorem it_zipM {a b : Addr} {ds es : List Dt} : ItOk K (ItzM K a b) [(.ref a, .list ds), (.ref b, .tuple es)] (zipD ds es) where
  go := fun M0 H0 σ H ρ T i d s e => by
    obtain ⟨M, st⟩ := id s
    obtain ⟨a', vs, ea, h1, h2⟩ := (st.at (d := .list ds) mem1).lst_inv
    obtain ⟨b', ws, eb, j1, j2⟩ := (st.at (d := .tuple es) mem2).tup_inv
    cases ea
    cases eb
    obtain ⟨d1, d2, e1, e2, rfl⟩ := zipD_get e
    obtain ⟨v, ev, hv⟩ := h2.get e1
    obtain ⟨w, ew, hw⟩ := j2.get e2
    have q1 : SqL K H a vs := SqL.of (st.bs.mh _ _ h1)
    have q2 : SqT K H b ws := sqT_mono st.bs.mh j1
    refine ⟨⟨vs, ws, v, w, q1, q2, ev, ew⟩, fun x H' y => ?_⟩
    obtain ⟨p, x1, x2, rfl, n, rfl, k1, k2⟩ := y
    rw [Option.some.inj ((k1 vs q1).symm.trans ev), Option.some.inj ((k2 ws q2).symm.trans ew)]
    exact Sta.pair st n hv hw
  stop := fun M0 H0 σ H ρ T i s l => by
    obtain ⟨M, st⟩ := id s
    obtain ⟨a', vs, ea, h1, h2⟩ := (st.at (d := .list ds) mem1).lst_inv
    obtain ⟨b', ws, eb, j1, j2⟩ := (st.at (d := .tuple es) mem2).tup_inv
    cases ea
    cases eb
    have l1 := h2.len
    have l2 := j2.len
    simp [zipD] at l
    exact ⟨vs, ws, SqL.of (st.bs.mh _ _ h1), sqT_mono st.bs.mh j1, by omega, by omega, by omega⟩
theorem ei_zipM {ds es : List Dt} (h : Ev K te ρ (.list ds)) (h' : Ev K tb ρ (.tuple es)) : EvI K (iZipM K (tCons te (tCons tb tNil))) ρ (zipD ds es) := fun M0 H0 σ H T R s q =>
  h M0 H0 σ H T _ s fun v H1 s1 => h' M0 H0 σ H1 _ _ s1 fun w H2 s2 => by
    obtain ⟨M, st⟩ := id s2
    obtain ⟨a, vs, rfl, h1, h2⟩ := (st.at (d := .list ds) mem2).lst_inv
    obtain ⟨b, ws, rfl, j1, j2⟩ := (st.at (d := .tuple es) mem1).tup_inv
    exact ⟨a, b, vs, ws, rfl, SqL.of (st.bs.mh _ _ h1), sqT_mono st.bs.mh j1, q _ H2 [(.ref a, .list ds), (.ref b, .tuple es)] (s2.same_sub fun p hp => by simp at hp; rcases hp with rfl | rfl | hp <;> simp [*]) it_zipM⟩
theorem ei_zipMM {α β : Type} {f : α → Dt} {g : β → Dt} {xs : List α} {ys : List β} (h : Ev K te ρ (.list (xs.map f))) (h' : Ev K tb ρ (.tuple (ys.map g))) : EvI K (iZipM K (tCons te (tCons tb tNil))) ρ ((xs.zip ys).map fun p => PyData.tuple [f p.1, g p.2]) := zipD_map ▸ ei_zipM h h'
theorem pi_zipMK {X : Cx} {K : PySem.W.Frag} {e e2 : Expr} {ta : TA} {p pos tpos : Pos} {elts : List Expr} {kk : Nat} (h : X.K = K) (hg : Gl X "zip") (hm : X.mg "zip" = none) (ha : PA X [e, e2] ta)
    (hs : starEach [e, e2] X.env = (false, eval e X.env) :: starEach [e2] X.env := by rfl) (hpl : (backTo pos (starEach [e2] X.env)).any (·.1) = false := by rfl) : PI X (.Tuple elts kk tpos) (.Call (.Name "zip" p) [e, e2] [] pos) (iZipM K ta) := h ▸ pi_zipM hg hm ha hs hpl
/-- where nothing is raised -/
theorem eve_ev {E : XK} {d : Dt} (h : Ev K te ρ d) : EvE K E te ρ (.ok d) := fun M0 H0 σ H T Q s q _ => h M0 H0 σ H T Q s fun v H' s' => q d rfl v H' s'
end
end Fr
namespace Fr
open PySem PySem.Spec PyProof.Rows L2 LamX
/-- what a def that makes lambdas knows of its table -/
structure Lm [TabL] (K : PySem.W.Frag) (mg : Str → Option Value) (base : Heap) (x : Str) : Prop where
  tb : TabB base mg (He.codeOf K (x, none)) (He.tabOf K (He.codeOf K (x, none)))
  me : (He.tabOf K (He.codeOf K (x, none)), (x ++ (".<locals>." : Str)) ++ ("<lambda>" : Str)) ∈ TabL.l
  un : ∀ p ∈ TabL.l, p.1 = He.tabOf K (He.codeOf K (x, none)) → p.2 = (x ++ (".<locals>." : Str)) ++ ("<lambda>" : Str)
abbrev tabsOf (K : PySem.W.Frag) (tf : List He.Defn) : TabL := ⟨tf.map fun p => ((He.cT K p).2, (p.1 ++ (".<locals>." : Str)) ++ ("<lambda>" : Str))⟩
def sepB (K : PySem.W.Frag) (tf : List He.Defn) : Bool := tf.all fun p => tf.all fun q => decide (p.1 = q.1) || decide ((He.cT K p).2 ≠ (He.cT K q).2)
theorem lm_mk {K : PySem.W.Frag} {mg : Str → Option Value} {base : Heap} {tf : List He.Defn} {x : Str} (hx : (x, none) ∈ tf) (tb : ∀ p ∈ tf.map (He.cT K), TabB base mg p.1 p.2) (sep : sepB K tf = true) : @Lm (tabsOf K tf) K mg base x := by
  refine @Lm.mk (tabsOf K tf) K mg base x (tb _ (List.mem_map.mpr ⟨_, hx, rfl⟩)) (List.mem_map.mpr ⟨_, hx, rfl⟩) fun p hp e => ?_
  obtain ⟨q, hq, rfl⟩ := List.mem_map.mp hp
  unfold sepB at sep
  simp only [List.all_eq_true, Bool.or_eq_true, decide_eq_true_eq] at sep
  rcases sep _ hq _ hx with h | h
  · show (q.1 ++ _) ++ _ = _
    rw [h]
  · exact absurd e h
theorem law_at {l : PySem.W.OpenLaw} {w : World} {K : PySem.W.Frag} {mg : Str → Option Value} {fa : Addr} {h : Heap} {fd : FuncData} {k n : Nat} {x : Str} {Pr : List Int → List Dt → Except Value Dt → Prop} {fa' : List He.Fa} {fn : List He.DefD} {ts : List He.Tab} {tf : List He.Defn} {ex : PySem.W.Frag → Bool}
    (KX : K.In h) (c : He.SaysX fa' fn ts tf ex w h K) (hb : ∀ (s : Shared) (u : Value), BindsTo s fd ⟨[u], []⟩ [(x, u)]) (hp : ∀ ns : List Int, ns.length ≤ n → Pr ns [] (.ok (.bool true)))
    (hF : ∀ base : Heap, K.In base → base.Ns mainGlobals mg → (∀ p ∈ tf.map (He.cT K), TabB base mg p.1 p.2) → FnOk l.prog w K mg base (L2N.CX l.prog w) k fa fd [x] (@spX (tabsOf K tf) K Pr)) : LawAtS l w K (L2N.CX l.prog w) k n x mg fa h := by
  refine ⟨fd, tf.map (He.cT K), @spX (tabsOf K tf) K Pr, fun p hp => ?_, fun p hp => ?_, fun p hp => ?_, hb, fun H a ns hl _ hT hS => ?_, hF⟩
  · obtain ⟨q, hq, rfl⟩ := List.mem_map.mp hp; exact c.empty q hq
  · obtain ⟨q, hq, rfl⟩ := List.mem_map.mp hp; exact c.out q hq
  · obtain ⟨q, hq, rfl⟩ := List.mem_map.mp hp; exact PySem.W.codeHd_of_K KX (c.hd q hq)
  · refine @law_end (tabsOf K tf) K H a ns Pr (fun p hp => ?_) (fun p hp => ?_) hS (hp ns hl)
    · obtain ⟨q, hq, rfl⟩ := List.mem_map.mp hp
      exact hT _ (List.mem_map.mpr ⟨q, hq, rfl⟩)
    · obtain ⟨q, hq, rfl⟩ := List.mem_map.mp hp
      exact c.out q hq
end Fr
namespace Fr
open PySem PySem.Spec PyProof.Rows L2
variable [TabL]
section
variable {K : PySem.W.Frag} {E : XK} {ρ : List Sl} {M0 H0 H : Hp} {σ : L2.St} {T : List (V × Dt)}
/-- a list that nobody knows gets a slot -/
theorem StM.addO {M : Hp} {q : Addr} {ws : List V} {ds : List Dt} (st : StM K M0 H0 σ H ρ T M) (h0 : H0 q = none) (hm : M q = none) (hq : H q = some (.lst ws)) (hd : DnA K M ws ds)
    (out : ∀ (k : Nat) (gs : Ow), ρ[k]? = some (.ow gs) → σ[k]? = some (some (V.ref q)) → False) : StM K M0 H0 (σ ++ [some (.ref q)]) H (ρ ++ [.own ds]) T M := by
  refine ⟨st.bs, by simp [st.len], fun i s e => ?_, fun i j es fs a hij h1 h2 h3 h4 => ?_, st.tmp⟩
  · rcases get_app_lt e with ⟨hi, e⟩ | ⟨rfl, rfl⟩
    · obtain ⟨v, e1, h1⟩ := st.slot i s e
      exact ⟨v, by rw [List.getElem?_append_left (by rw [st.len]; exact hi)]; exact e1, h1⟩
    · exact ⟨some (.ref q), by rw [← st.len]; simp, q, ws, rfl, h0, hm, hq, hd⟩
  · rcases get_app_lt h1 with ⟨hi, h1⟩ | ⟨rfl, e1⟩ <;> rcases get_app_lt h2 with ⟨hj, h2⟩ | ⟨rfl, e2⟩
    · rw [List.getElem?_append_left (by rw [st.len]; exact hi)] at h3
      rw [List.getElem?_append_left (by rw [st.len]; exact hj)] at h4
      exact st.dis i j es fs a hij h1 h2 h3 h4
    · rw [List.getElem?_append_left (by rw [st.len]; exact hi)] at h3
      rw [← st.len] at h4
      simp at h4
      rw [← h4] at h3
      exact out i es h1 h3
    · rw [List.getElem?_append_left (by rw [st.len]; exact hj)] at h4
      rw [← st.len] at h3
      simp at h3
      rw [← h3] at h4
      exact out j fs h2 h4
    · exact hij rfl
/-- behind another evaluation: its new list and the one before -/
theorem Sta.two {M1 H1 H2 : Hp} {p q : Addr} {ds1 ds2 : List Dt} {σ1 : L2.St} {ρ1 ρh : List Sl} (st1 : StM K M0 H0 σ1 H1 ρ1 T M1) (s2 : Sta K M1 H1 (σ ++ [some (.ref q)]) H2 (ρh ++ [.own ds2]) T) (hl : σ.length = ρh.length) :
    Sta K M0 H0 (σ1 ++ [some (.ref q)]) H2 (ρ1 ++ [.own ds2]) T := by
  obtain ⟨M2, st2⟩ := s2
  have g := st1.grow st2.bs st2.tmp
  obtain ⟨v, ev, a, ws, e2, n0, nM, hH, hd⟩ := st2.slot ρh.length (.own ds2) (by simp)
  rw [← hl, List.getElem?_concat_length] at ev
  cases ev
  cases e2
  refine ⟨M2, g.addO (st1.bs.free0 n0) nM hH hd fun k gs e1 e2 => ?_⟩
  obtain ⟨v, e3, h3⟩ := st1.slot k _ e1
  obtain ⟨a', vs', e4, _, _, e5, _⟩ := h3.wo
  rw [e2] at e3
  cases e3
  cases e4
  rw [n0] at e5
  cases e5
theorem wp_parNN {P : Out → Prop} {i j : Nat} {te1 te2 : TE} {ds1 ds2 : List Dt} (h1 : EvN K te1 ρ ds1) (h2 : EvN K te2 (ρ.map Fr.hid) ds2) (hij : i ≠ j) (hj : j < ρ.length) (h : P (.nx ((ρ.set i (.own ds1)).set j (.own ds2)))) :
    Wp K E (tPar i j (tCons te1 (tCons te2 tNil))) ρ P := fun M0 H0 T σ H D s f => h1 M0 H0 σ H T _ s fun p H1 s1 => by
  obtain ⟨M1, st1⟩ := s1
  have hl : σ.length = ρ.length := by have := st1.len; simpa using this
  refine h2 M1 H1 σ H1 T _ ⟨M1, st1.pop.less (less_hid ρ)⟩ fun q H2 s2 => ?_
  have a := (Sta.two (p := p) (ds1 := ds1) st1 s2 (by simp [hl])).moveO j
  rw [List.set_append_left _ _ (by omega), List.set_append_left _ _ (by omega)] at a
  have b := a.moveO i
  rw [List.set_comm _ _ hij.symm, List.set_comm _ _ hij.symm] at b
  exact ⟨_, _, rfl, f _ h _ H2 b⟩
/-- a value by whether something is there -/
def optD {α : Type} (o : Option α) (x : Dt) (y : α → Dt) : Dt := match o with
  | none => x
  | some p => y p
theorem ev_opt {α : Type} {t : TT} {ta tb : TE} {x : Dt} {y : α → Dt} {o : Option α} (ht : EvT K t ρ o.isNone) (hn : o = none → Ev K ta ρ x) (hs : ∀ p, o = some p → Ev K tb ρ (y p)) : Ev K (tIf t ta tb) ρ (optD o x y) := by
  cases o with
  | none => exact ev_if (b := true) (y := .none) ht (fun _ => hn rfl) (fun z => nomatch z)
  | some p => exact ev_if (b := false) (x := .none) ht (fun z => nomatch z) (fun _ => hs p rfl)
theorem ev_optS {α : Type} {t : TT} {ta tb : TE} {x : Dt} {y : α → Dt} {o : Option α} (ht : EvT K t ρ o.isSome) (hs : ∀ p, o = some p → Ev K ta ρ (y p)) (hn : o = none → Ev K tb ρ x) : Ev K (tIf t ta tb) ρ (optD o x y) := by
  cases o with
  | none => exact ev_if (b := false) (x := .none) ht (fun z => nomatch z) (fun _ => hn rfl)
  | some p => exact ev_if (b := true) (y := .none) ht (fun _ => hs p rfl) (fun z => nomatch z)
end
def Tell (K : PySem.W.Frag) (L : List Str) (r : Except Value Dt) (d : Dt) : Prop := (∀ d', r = .ok d' → d' = d) ∧ ∀ c, r = .error c → ∃ x ∈ L, c = .ref (He.ga K x) ∧ d = .str x
section
variable {K : PySem.W.Frag} {L : List Str} {r : Except Value Dt} {d : Dt} {x : Str}
theorem tell_ok (h : r = .ok d) : Tell K L r d := ⟨fun d' e => by rw [h] at e; cases e; rfl, fun c e => by rw [h] at e; exact (nomatch e)⟩
theorem tell_bad (h : r = .error (.ref (He.ga K x))) (hx : x ∈ L) : Tell K L r (.str x) := ⟨fun d' e => by rw [h] at e; exact (nomatch e), fun c e => by rw [h] at e; cases e; exact ⟨x, hx, rfl, rfl⟩⟩
end
end Fr
namespace Fr
open PySem PySem.Spec PyProof.Rows L2 Mx
variable [TabL]
/-- a run from c, m steps at most, behind what stands; none: too great -/
def runGo (ps : List (Nat × Nat)) : Nat → Nat → List Nat → Option (List Nat)
  | 0, _, acc => some acc
  | m + 1, c, acc => match ledF ps c with
    | none => some acc
    | some l => if tooB l then none else runGo ps m l (acc ++ [l])
def runF (ps : List (Nat × Nat)) (n m : Nat) : Option (List Nat) := runGo ps m n [n]
def runE (K : PySem.W.Frag) (ps : List (Nat × Nat)) (n : Nat) (f : Dt) : Except Value Dt := if isCount f 0 2000 then (match runF ps n (decN f) with
  | some xs => .ok (lN xs)
  | none => cE K "TooGreat") else cE K "BadNumber"
def endE (K : PySem.W.Frag) (ps : List (Nat × Nat)) (n : Nat) (f : Dt) : Except Value Dt := if isCount f 0 2000 then (match runF ps n (decN f) with
  | some xs => .ok (if (ledF ps (xs.getLastD n)).isNone then nD (xs.getLastD n) else .none)
  | none => cE K "TooGreat") else cE K "BadNumber"
theorem isCount_of {d : Dt} {lo hi : Int} (h : isCount d lo hi = true) : ∃ i : Int, d = .int i ∧ lo ≤ i ∧ i ≤ hi := by
  cases d <;> try (cases h; done)
  rename_i i
  have h : (decide (lo ≤ i) && decide (i ≤ hi)) = true := h
  simp only [Bool.and_eq_true, decide_eq_true_eq] at h
  exact ⟨i, rfl, h.1, h.2⟩
theorem count_ok {K : PySem.W.Frag} {d x : Dt} {hi : Int} (h : (if isCount d 0 hi then .ok .none else cE K "BadNumber") = Except.ok x) : ∃ n : Nat, d = nD n ∧ (n : Int) ≤ hi ∧ isCount d 0 hi = true := by
  cases q : isCount d 0 hi with
  | true =>
    obtain ⟨i, rfl, h1, h2⟩ := isCount_of q
    exact ⟨i.toNat, by show PyData.int i = PyData.int _; congr 1; omega, by omega, rfl⟩
  | false => rw [q] at h; cases h
theorem runGo_end {ps : List (Nat × Nat)} {m c : Nat} {acc : List Nat} (h : ledF ps c = none) : runGo ps m c acc = some acc := by
  cases m with
  | zero => rfl
  | succ m => unfold runGo; rw [h]
theorem runGo_go {ps : List (Nat × Nat)} {m c l : Nat} {acc : List Nat} (h : ledF ps c = some l) (ht : tooB l = false) : runGo ps (m + 1) c acc = runGo ps m l (acc ++ [l]) := by
  conv => lhs; unfold runGo
  rw [h]
  show (if tooB l then none else _) = _
  rw [ht]; rfl
theorem runGo_big {ps : List (Nat × Nat)} {m c l : Nat} {acc : List Nat} (h : ledF ps c = some l) (ht : tooB l = true) : runGo ps (m + 1) c acc = none := by
  conv => lhs; unfold runGo
  rw [h]
  show (if tooB l then none else _) = _
  rw [ht]; rfl
end Fr
namespace Fr
open PySem PySem.Spec PyProof.Rows L2 Mx
variable [TabL]
theorem led_posS {ps : List (Nat × Nat)} {n m : Nat} (hps : Small ps) (hn : 0 < n) (h : ledF ps n = some m) : 0 < m := by
  unfold ledF at h
  cases e : firstAt ps n with
  | none => rw [e] at h; cases h
  | some i =>
    rw [e] at h
    have h : n / (fr ps i).2 * (fr ps i).1 = m := Option.some.inj h
    obtain ⟨hp, hi, hz, _⟩ := firstAt_spec e
    obtain ⟨g1, g2, g3, g4⟩ := hps _ (List.mem_of_getElem? hp)
    rw [← h]
    exact Nat.mul_pos (Nat.div_pos (Nat.le_of_dvd hn (Nat.dvd_of_mod_eq_zero hz)) g3) g1
theorem le_maxN {ns : List Nat} {k : Nat} (h : k ∈ ns) : (k : Int) ≤ maxI (ns.map fun k : Nat => (k : Int)) := le_maxI (List.mem_map.mpr ⟨k, h, rfl⟩)
theorem maxN_mem {ns : List Nat} (h : ns ≠ []) : ∃ k ∈ ns, maxI (ns.map fun k : Nat => (k : Int)) = (k : Int) := by
  have := maxI_mem (ns := ns.map fun k : Nat => (k : Int)) (by simpa using h)
  obtain ⟨k, hk, e⟩ := List.mem_map.mp this
  exact ⟨k, hk, e.symm⟩
theorem rooms_ne (n : Nat) : rooms n ≠ [] := fun z => by have := rooms_len n; rw [z] at this; cases this
/-- too great is what has more than 400 in a room -/
theorem tooB_eq {n : Nat} (hn : 0 < n) : tooB n = decide (maxI ((rooms n).map fun k : Nat => (k : Int)) > 400) := by
  unfold tooB
  by_cases h : maxI ((rooms n).map fun k : Nat => (k : Int)) > 400
  · obtain ⟨k, hk, e⟩ := maxN_mem (rooms_ne n)
    obtain ⟨p, hp, rfl⟩ := List.mem_map.mp hk
    have h4 : 401 ≤ mlt p n := by rw [e] at h; omega
    have h3 := mlt_pow_le (p := p) hn
    have h5 : 2 ^ 401 ≤ p ^ mlt p n := Nat.le_trans (Nat.pow_le_pow_right (by decide) h4) (Nat.pow_le_pow_left (pL_pm p hp).1 _)
    have h6 : 10 ^ 60 * 10 ^ 60 ≤ n := Nat.le_trans (by decide) (Nat.le_trans h5 h3)
    have h7 : (n : Int) / 10 ^ 60 / 10 ^ 60 > 0 := by
      have : 0 < n / 10 ^ 60 / 10 ^ 60 := Nat.div_pos ((Nat.le_div_iff_mul_le (by decide)).mpr h6) (by decide)
      have e2 : (n : Int) / 10 ^ 60 / 10 ^ 60 = ((n / 10 ^ 60 / 10 ^ 60 : Nat) : Int) := by norm_cast
      rw [e2]; omega
    rw [decide_eq_true h, decide_eq_true h7]; rfl
  · rw [decide_eq_false h, Bool.and_false]
theorem tooB_iff {n : Nat} (hn : 0 < n) : tooB n = false ↔ ∀ k ∈ rooms n, k ≤ 400 := by
  rw [tooB_eq hn, decide_eq_false_iff_not]
  constructor
  · intro h k hk
    have := le_maxN hk
    omega
  · intro h z
    obtain ⟨k, hk, e⟩ := maxN_mem (rooms_ne n)
    have := h k hk
    omega
/-- the law's run: numbers, places -/
def lrunGo (ps : List (Nat × Nat)) : Nat → Nat → List Nat → List Nat → Option (List Nat) × List Nat
  | 0, _, acc, pl => (some acc, pl)
  | m + 1, c, acc, pl => match lstep ps c with
    | none => (some acc, pl)
    | some q => if tooB q.2 then (none, pl) else lrunGo ps m q.2 (acc ++ [q.2]) (pl ++ [q.1])
def lrunF (ps : List (Nat × Nat)) (n m : Nat) : Option (List Nat) × List Nat := lrunGo ps m n [n] []
def oL : Option (List Nat) → Dt
  | none => .none
  | some xs => lN xs
def rowD (r : Option (List Nat) × List Nat) : Dt := .tuple [oL r.1, lN r.2]
theorem lrun_fst {ps : List (Nat × Nat)} (h : Cop ps) : ∀ (m c : Nat) (acc pl : List Nat), (lrunGo ps m c acc pl).1 = runGo ps m c acc
  | 0, _, _, _ => rfl
  | m + 1, c, acc, pl => by
    have e := lstep_led h c
    unfold lrunGo runGo
    cases q : lstep ps c with
    | none =>
      rw [q] at e
      rw [← e]; rfl
    | some x =>
      rw [q] at e
      rw [← e]
      show (if tooB x.2 then (none, pl) else lrunGo ps m x.2 (acc ++ [x.2]) (pl ++ [x.1])).1 = if tooB x.2 then none else runGo ps m x.2 (acc ++ [x.2])
      cases tooB x.2 with
      | true => rfl
      | false => exact lrun_fst h m x.2 _ _
theorem lstep_pos {ps : List (Nat × Nat)} {c : Nat} {q : Nat × Nat} (hp : IsProg ps) (hc : 0 < c) (h : lstep ps c = some q) : 0 < q.2 := by
  have e := lstep_led hp.cop c
  rw [h] at e
  exact led_posS hp.small hc e.symm
theorem atI_last {α : Type} {xs : List α} {x : α} : atI (xs ++ [x]) (-1) = some x := by
  have l : (-1 + (((xs ++ [x]).length : Nat) : Int)).toNat = xs.length := by simp; omega
  unfold atI ixN
  rw [if_neg (by decide), if_pos (by simp; omega), l]
  simp
theorem getLastD_app {α : Type} (xs : List α) (x d : α) : (xs ++ [x]).getLastD d = x := by simp [List.getLastD_eq_getLast?]
end Fr
namespace Fr
open PySem PySem.Spec PyProof.Rows L2 Mx
variable [TabL]
section
variable {K : PySem.W.Frag}
theorem isCount_nD {m : Nat} {hi : Int} (h : (m : Int) ≤ hi) : isCount (nD m) 0 hi = true := by
  show (decide ((0 : Int) ≤ (m : Int)) && decide ((m : Int) ≤ hi)) = true
  simp only [Bool.and_eq_true, decide_eq_true_eq]
  omega
theorem runE_some {ps : List (Nat × Nat)} {n m : Nat} {xs : List Nat} (hm : m ≤ 2000) (h : runF ps n m = some xs) : runE K ps n (nD m) = .ok (lN xs) := by
  unfold runE
  rw [isCount_nD (by omega), if_pos rfl, decN_nD, h]
theorem runE_none {ps : List (Nat × Nat)} {n m : Nat} (hm : m ≤ 2000) (h : runF ps n m = none) : runE K ps n (nD m) = cE K "TooGreat" := by
  unfold runE
  rw [isCount_nD (by omega), if_pos rfl, decN_nD, h]
theorem endE_some {ps : List (Nat × Nat)} {n m c : Nat} {xs : List Nat} (hm : m ≤ 2000) (h : runF ps n m = some (xs ++ [c])) : endE K ps n (nD m) = .ok (if (ledF ps c).isNone then nD c else .none) := by
  unfold endE
  rw [isCount_nD (by omega), if_pos rfl, decN_nD, h]
  show Except.ok (if (ledF ps ((xs ++ [c]).getLastD n)).isNone then nD ((xs ++ [c]).getLastD n) else .none) = _
  rw [getLastD_app]
theorem runE_not {ps : List (Nat × Nat)} {n : Nat} {f : Dt} (h : isCount f 0 2000 = false) : runE K ps n f = cE K "BadNumber" := by
  unfold runE
  rw [h]; rfl
theorem endE_not {ps : List (Nat × Nat)} {n : Nat} {f : Dt} (h : isCount f 0 2000 = false) : endE K ps n f = cE K "BadNumber" := by
  unfold endE
  rw [h]; rfl
theorem run_end_xc {ps : List (Nat × Nat)} {n : Nat} {f : Dt} {c : Value} (h : runE K ps n f = .error c) : endE K ps n f = .error c := by
  unfold runE at h
  unfold endE
  cases q : isCount f 0 2000 with
  | false => rw [q] at h; exact h
  | true =>
    rw [q, if_pos rfl] at h
    rw [if_pos rfl]
    cases e : runF ps n (decN f) with
    | none => rw [e] at h; exact h
    | some xs => rw [e] at h; cases h
theorem count_xc {d : Dt} {hi : Int} {c : Value} (h : (if isCount d 0 hi then .ok .none else cE K "BadNumber") = Except.error (α := Dt) c) : isCount d 0 hi = false ∧ c = .ref (He.ga K "BadNumber") := by
  cases q : isCount d 0 hi with
  | true => rw [q] at h; cases h
  | false => rw [q] at h; cases h; exact ⟨rfl, rfl⟩
/-- the last of a run -/
theorem runGo_last {ps : List (Nat × Nat)} (hs : Small ps) : ∀ (m c : Nat) (acc xs : List Nat), 0 < c → runGo ps m c (acc ++ [c]) = some xs → ∃ a l, xs = a ++ [l] ∧ 0 < l
  | 0, c, acc, xs, hc, h => by cases h; exact ⟨acc, c, rfl, hc⟩
  | m + 1, c, acc, xs, hc, h => by
    unfold runGo at h
    cases e : ledF ps c with
    | none => rw [e] at h; cases h; exact ⟨acc, c, rfl, hc⟩
    | some l =>
      rw [e] at h
      have h : (if tooB l then none else runGo ps m l (acc ++ [c] ++ [l])) = some xs := h
      cases t : tooB l with
      | true => rw [t] at h; cases h
      | false => rw [t] at h; exact runGo_last hs m l (acc ++ [c]) xs (led_posS hs hc e) h
theorem runF_last {ps : List (Nat × Nat)} {n m : Nat} {xs : List Nat} (hs : Small ps) (hn : 0 < n) (h : runF ps n m = some xs) : ∃ a l, xs = a ++ [l] ∧ 0 < l := runGo_last (acc := []) hs m n xs hn h
theorem lookE_inv {d e : Dt} {k : List (Nat × Nat) → Nat → Except Value Dt} {x : Dt} (h : lookE K d e k = .ok x) : ∃ ps n, d = lP ps ∧ e = nD n ∧ IsProg ps ∧ IsNum n ∧ k ps n = .ok x := by
  unfold lookE progE at h
  cases q : isProgD d with
  | false => rw [q] at h; cases h
  | true =>
    rw [q, if_pos rfl] at h
    cases q2 : isNumD e with
    | false => rw [q2] at h; cases h
    | true =>
      rw [q2] at h
      have h : k (decP d) (decN e) = .ok x := h
      obtain ⟨ps, e1, h1⟩ := isProgD_of q
      obtain ⟨n, e2, h2⟩ := isNumD_of q2
      rw [e1, decP_lP, e2, decN_nD] at h
      exact ⟨ps, n, e1, e2, h1, h2, h⟩
theorem lookE_xc {d e : Dt} {k k' : List (Nat × Nat) → Nat → Except Value Dt} {c : Value} (h : lookE K d e k = .error c) (i : ∀ ps n, k ps n = .error c → k' ps n = .error c) : lookE K d e k' = .error c := by
  unfold lookE progE at h ⊢
  cases q : isProgD d with
  | false => rw [q] at h; exact h
  | true =>
    rw [q, if_pos rfl] at h
    rw [if_pos rfl]
    cases q2 : isNumD e with
    | false => rw [q2] at h; exact h
    | true =>
      rw [q2] at h
      exact i _ _ h
theorem runE_inv {ps : List (Nat × Nat)} {n : Nat} {f x : Dt} (h : runE K ps n f = .ok x) : ∃ m xs, f = nD m ∧ m ≤ 2000 ∧ runF ps n m = some xs ∧ x = lN xs := by
  unfold runE at h
  cases q : isCount f 0 2000 with
  | false => rw [q] at h; cases h
  | true =>
    rw [q, if_pos rfl] at h
    obtain ⟨i, rfl, h1, h2⟩ := isCount_of q
    have e : i = ((i.toNat : Nat) : Int) := by omega
    cases e2 : runF ps n (decN (.int i)) with
    | none => rw [e2] at h; cases h
    | some xs =>
      rw [e2] at h
      cases h
      exact ⟨i.toNat, xs, by show PyData.int i = PyData.int _; rw [← e], by omega, e2, rfl⟩
theorem look_bad {d e : Dt} {k : List (Nat × Nat) → Nat → Except Value Dt} (h : isProgD d = false) : lookE K d e k = cE K "BadProgram" := by
  unfold lookE progE
  rw [h]; rfl
theorem look_badN {ps : List (Nat × Nat)} {e : Dt} {k : List (Nat × Nat) → Nat → Except Value Dt} (hp : IsProg ps) (h : isNumD e = false) : lookE K (lP ps) e k = cE K "BadNumber" := by
  unfold lookE
  rw [progE_ok hp, h]; rfl
end
theorem lrunGo_end {ps : List (Nat × Nat)} {m c : Nat} {acc pl : List Nat} (h : lstep ps c = none) : lrunGo ps m c acc pl = (some acc, pl) := by
  cases m with
  | zero => rfl
  | succ m => unfold lrunGo; rw [h]
theorem lrunGo_go {ps : List (Nat × Nat)} {m c : Nat} {q : Nat × Nat} {acc pl : List Nat} (h : lstep ps c = some q) (ht : tooB q.2 = false) : lrunGo ps (m + 1) c acc pl = lrunGo ps m q.2 (acc ++ [q.2]) (pl ++ [q.1]) := by
  conv => lhs; unfold lrunGo
  rw [h]
  show (if tooB q.2 then (none, pl) else _) = _
  rw [ht]; rfl
theorem lrunGo_big {ps : List (Nat × Nat)} {m c : Nat} {q : Nat × Nat} {acc pl : List Nat} (h : lstep ps c = some q) (ht : tooB q.2 = true) : lrunGo ps (m + 1) c acc pl = (none, pl) := by
  conv => lhs; unfold lrunGo
  rw [h]
  show (if tooB q.2 then (none, pl) else _) = _
  rw [ht]; rfl
theorem lstep_first {ps : List (Nat × Nat)} (h : Cop ps) (n : Nat) : (lstep ps n).map (·.1) = firstAt ps n := by
  rw [lstep_eq h]
  cases firstAt ps n <;> rfl
theorem sh_oL (o : Option (List Nat)) : SeqAt.shaped (oL o) = true := by
  cases o with
  | none => rfl
  | some xs => exact sh_lN xs
end Fr
namespace Fr
open PySem PySem.Spec PyProof.Rows L2 Mx
variable [TabL]
section
variable {K : PySem.W.Frag} {L : List Str}
def step20 (ps : List (Nat × Nat)) (n : Nat) : Dt := match ledF ps n with
  | none => .none
  | some m => if tooB m then .str "TooGreat" else nD m
def run20 : Option (List Nat) → Dt
  | none => .str "TooGreat"
  | some xs => lN xs
def due20 (ps : List (Nat × Nat)) (n : Nat) : Option (List Nat) → Dt
  | none => .none
  | some xs => if (ledF ps (xs.getLastD n)).isNone then nD (xs.getLastD n) else .none
def end20 (ps : List (Nat × Nat)) (n : Nat) : Option (List Nat) → Dt
  | none => .str "TooGreat"
  | some xs => due20 ps n (some xs)
theorem tell20_step {ps : List (Nat × Nat)} {n : Nat} (hps : IsProg ps) (hn : IsNum n) (hL : ("TooGreat" : Str) ∈ L) : Tell K L (lookE K (lP ps) (nD n) (stepE K)) (step20 ps n) := by
  rw [lookE_ok hps hn]
  unfold stepE step20
  cases ledF ps n with
  | none => exact tell_ok rfl
  | some m =>
    show Tell K L (if tooB m then _ else _) (if tooB m then _ else _)
    cases tooB m with
    | true => exact tell_bad rfl hL
    | false => exact tell_ok rfl
theorem tell20_run {ps : List (Nat × Nat)} {n t : Nat} (hps : IsProg ps) (hn : IsNum n) (ht : t ≤ 2000) (hL : ("TooGreat" : Str) ∈ L) : Tell K L (lookE K (lP ps) (nD n) fun ps n => runE K ps n (nD t)) (run20 (runF ps n t)) := by
  rw [lookE_ok hps hn]
  cases e : runF ps n t with
  | none => exact tell_bad (runE_none ht e) hL
  | some xs => exact tell_ok (runE_some ht e)
theorem tell20_end {ps : List (Nat × Nat)} {n t : Nat} (hps : IsProg ps) (hn : IsNum n) (ht : t ≤ 2000) (hL : ("TooGreat" : Str) ∈ L) : Tell K L (lookE K (lP ps) (nD n) fun ps n => endE K ps n (nD t)) (end20 ps n (runF ps n t)) := by
  rw [lookE_ok hps hn]
  unfold endE
  rw [isCount_nD (by omega), if_pos rfl, decN_nD]
  cases e : runF ps n t with
  | none => exact tell_bad rfl hL
  | some xs => exact tell_ok rfl
end
theorem sh_step20 (ps : List (Nat × Nat)) (n : Nat) : SeqAt.shaped (step20 ps n) = true := by
  unfold step20
  cases ledF ps n with
  | none => rfl
  | some m => exact sh_ite (by decide +kernel) rfl
theorem sh_run20 (o : Option (List Nat)) : SeqAt.shaped (run20 o) = true := by
  cases o with
  | none => decide +kernel
  | some xs => exact sh_lN xs
theorem sh_due20 (ps : List (Nat × Nat)) (n : Nat) (o : Option (List Nat)) : SeqAt.shaped (due20 ps n o) = true := by
  cases o with
  | none => rfl
  | some xs => exact sh_ite rfl rfl
theorem sh_end20 (ps : List (Nat × Nat)) (n : Nat) (o : Option (List Nat)) : SeqAt.shaped (end20 ps n o) = true := by
  cases o with
  | none => exact sh_run20 none
  | some xs => exact sh_due20 ps n (some xs)
theorem eqv_great : PyData.eqv (.str ("TooGreat" : Str)) (.str ("TooGreat" : Str)) = true := by decide +kernel
theorem step20_eq {ps : List (Nat × Nat)} {n : Nat} {o : Option (Nat × Nat)} (h : o.map (·.2) = ledF ps n) (hp : ∀ p, o = some p → 0 < p.2) :
    (!PyData.eqv (step20 ps n) (optD o .none fun p => if decide (maxI ((rooms p.2).map fun k : Nat => (k : Int)) < 401) then nD p.2 else .str "TooGreat")) = false := by
  unfold step20
  rw [← h]
  cases o with
  | none => rfl
  | some p =>
    show (!PyData.eqv (if tooB p.2 then .str "TooGreat" else nD p.2) (if decide (maxI ((rooms p.2).map fun k : Nat => (k : Int)) < 401) then nD p.2 else .str "TooGreat")) = false
    rw [tooB_eq (hp p rfl)]
    by_cases q : maxI ((rooms p.2).map fun k : Nat => (k : Int)) > 400
    · have q2 : ¬ maxI ((rooms p.2).map fun k : Nat => (k : Int)) < 401 := by omega
      rw [decide_eq_true q, decide_eq_false q2, if_pos rfl, if_neg Bool.false_ne_true, eqv_great]; rfl
    · have q2 : maxI ((rooms p.2).map fun k : Nat => (k : Int)) < 401 := by omega
      rw [decide_eq_false q, decide_eq_true q2, if_pos rfl, if_neg Bool.false_ne_true]
      exact (congrArg (!·) (eqv_oN (some p.2) (some p.2))).trans (by simp)
theorem run20_eq (o : Option (List Nat)) : (!PyData.eqv (run20 o) (optD o (.str "TooGreat") lN)) = false := by
  cases o with
  | none => exact congrArg (!·) eqv_great
  | some xs => exact (congrArg (!·) (eqv_lN xs xs)).trans (by simp)
theorem end20_eq (ps : List (Nat × Nat)) (n : Nat) (o : Option (List Nat)) : (!PyData.eqv (end20 ps n o) (optD o (.str "TooGreat") fun xs => due20 ps n (some xs))) = false := by
  cases o with
  | none => exact congrArg (!·) eqv_great
  | some xs =>
    show (!PyData.eqv (if (ledF ps (xs.getLastD n)).isNone then nD (xs.getLastD n) else .none) (if (ledF ps (xs.getLastD n)).isNone then nD (xs.getLastD n) else .none)) = false
    cases (ledF ps (xs.getLastD n)).isNone with
    | false => rfl
    | true => exact (congrArg (!·) (eqv_oN (some (xs.getLastD n)) (some (xs.getLastD n)))).trans (by simp)
theorem num398 : IsNum (mk pL [398, 399, 400]) := by
  have e : mk pL [398, 399, 400] = made [398, 399, 400, 0, 0, 0, 0, 0, 0, 0, 0, 0] := by simp [made, mk, pL]
  rw [e]
  exact made_isNum rfl (by decide)
theorem smooth_mul2 {a b : Nat} (ha : Smooth a) (hb : Smooth b) : Smooth (a * b) := ha.mul hb
theorem isNum2 : IsNum 2 := (smooth_prime (p := 2) (by decide)).isNum (by decide)
theorem isNum3 : IsNum 3 := (smooth_prime (p := 3) (by decide)).isNum (by decide)
theorem frac32 : IsFrac (3, 2) := ⟨isNum3, isNum2, by decide, by decide, by decide⟩
theorem isProg_rep {k : Nat} (h : k ≤ 16) {p : Nat × Nat} (hp : IsFrac p) : IsProg (List.replicate k p) := ⟨by simpa using h, fun q hq => by rw [List.eq_of_mem_replicate hq]; exact hp⟩
theorem isProgD_good16 : isProgD (.list (List.replicate (16 : Int).toNat [PyData.tuple [.int 3, .int 2]]).flatten) = true := isProgD_iff (ps := List.replicate 16 (3, 2)).mpr (isProg_rep (by decide) frac32)
theorem smooth_pow {p : Nat} (hp : p ∈ pL) : ∀ k, Smooth (p ^ k)
  | 0 => smooth_one
  | k + 1 => by rw [Nat.pow_succ]; exact (smooth_pow hp k).mul (smooth_prime hp)
theorem isProgD_pow : isProgD (.list [.tuple [.int 524288, .int 1]]) = true := isProgD_iff (ps := [(524288, 1)]).mpr ⟨by decide, fun p hp => by
  rw [List.mem_singleton] at hp
  subst hp
  exact ⟨(smooth_pow (p := 2) (by decide) 19).isNum (by decide), isNum_one, by decide, by decide, by decide⟩⟩
theorem notProg_mem {ds : List Dt} {d : Dt} (hd : d ∈ ds) (h : isFracD d = false) : isProgD (.list ds) = false := by
  show (_ && ds.all isFracD) = false
  rw [List.all_eq_false.mpr ⟨d, hd, by rw [h]; simp⟩, Bool.and_false]
theorem notFrac_a {a b : Int} (h : isNumD (.int a) = false) : isFracD (.tuple [.int a, .int b]) = false := by
  show (isNumD (.int a) && _) = false
  rw [h]; rfl
theorem notFrac_b {a b : Int} (h : isNumD (.int b) = false) : isFracD (.tuple [.int a, .int b]) = false := by
  show (_ && (isNumD (.int b) && _)) = false
  rw [h, Bool.false_and, Bool.and_false]
theorem notFrac_c {a b : Int} (h : (decide (max a b ≤ 1000000) && decide ((Nat.gcd a.toNat b.toNat : Int) = 1)) = false) : isFracD (.tuple [.int a, .int b]) = false := by
  show (_ && (_ && (_ && _))) = false
  rw [h, Bool.and_false, Bool.and_false]
theorem isNumD_lo {i : Int} (h : i < 1) : isNumD (.int i) = false := badNum_true (by show decide (i < 1) = true; exact decide_eq_true h)
theorem notNum41 : isNumD (.int 41) = false := isNumD_not (n := 41) (notNum_prime no41 (by decide))
theorem bads20_p {i : Nat} {d : Dt} (h : ([.none, .tuple [], .tuple [.tuple [.int 3, .int 2]], .list [.none], .list [.list [.int 3, .int 2]], .list [.tuple [.int 3]], .list [.tuple [.int 3, .int 2, .int 1]], .list [.tuple [.int 6, .int 2]], .list [.tuple [.int 0, .int 2]], .list [.tuple [.int 3, .int 0]]] ++
    [.list [.tuple [.int (-3), .int 2]], .list [.tuple [.int 41, .int 2]], .list [.tuple [.bool true, .int 2]], .list [.tuple [.int 3, .str "2"]], .list [.tuple [.int 1048576, .int 3]], .list [.tuple [.int 3, .int 1048576]], .list (List.replicate (17 : Int).toNat [PyData.tuple [.int 3, .int 2]]).flatten] : List Dt)[i]? = some d) : isProgD d = false := by
  have h := List.mem_of_getElem? h
  simp only [List.cons_append, List.nil_append, List.mem_cons, List.not_mem_nil, or_false] at h
  rcases h with rfl | rfl | rfl | rfl | rfl | rfl | rfl | rfl | rfl | rfl | rfl | rfl | rfl | rfl | rfl | rfl | rfl
  · rfl
  · rfl
  · rfl
  · rfl
  · rfl
  · rfl
  · rfl
  · exact notProg_mem (List.mem_singleton.mpr rfl) (notFrac_c (by decide +kernel))
  · exact notProg_mem (List.mem_singleton.mpr rfl) (notFrac_a (isNumD_lo (by decide)))
  · exact notProg_mem (List.mem_singleton.mpr rfl) (notFrac_b (isNumD_lo (by decide)))
  · exact notProg_mem (List.mem_singleton.mpr rfl) (notFrac_a (isNumD_lo (by decide)))
  · exact notProg_mem (List.mem_singleton.mpr rfl) (notFrac_a notNum41)
  · rfl
  · rfl
  · exact notProg_mem (List.mem_singleton.mpr rfl) (notFrac_c (by decide +kernel))
  · exact notProg_mem (List.mem_singleton.mpr rfl) (notFrac_c (by decide +kernel))
  · exact badProg_true (by decide +kernel)
theorem bads20_n {i : Nat} {d : Dt} (h : ([.int 0, .int (-1), .int 41, .none, .bool true] : List Dt)[i]? = some d) : isNumD d = false := by
  have h := List.mem_of_getElem? h
  simp only [List.mem_cons, List.not_mem_nil, or_false] at h
  rcases h with rfl | rfl | rfl | rfl | rfl
  · exact isNumD_lo (by decide)
  · exact isNumD_lo (by decide)
  · exact notNum41
  · rfl
  · rfl
theorem bads20_c {i : Nat} {d : Dt} (h : ([.int (-1), .int 2001, .none, .bool true] : List Dt)[i]? = some d) : isCount d 0 2000 = false := by
  have h := List.mem_of_getElem? h
  simp only [List.mem_cons, List.not_mem_nil, or_false] at h
  rcases h with rfl | rfl | rfl | rfl <;> rfl
end Fr
namespace Fr
open PySem PySem.Spec PyProof.Rows L2
/-- four values in a tuple -/
abbrev Tp4 (h : Heap) (T : Addr) (e1 e2 e3 e4 : Value) : Prop := h.get? T = some { cls := .type "tuple", data := .seq #[e1, e2, e3, e4] }
/-- four iterators, their zip, its two tuples: all apart -/
structure Sep4 (c ti to j1 j2 j3 j4 : Addr) (f1 f2 f3 f4 : List Addr) : Prop where
  tc : ti ≠ c
  oc : to ≠ c
  io : ti ≠ to
  ti1 : ti ≠ j1
  me1 : j1 ∈ f1
  cf1 : c ∉ f1
  of1 : to ∉ f1
  ti2 : ti ≠ j2
  me2 : j2 ∈ f2
  cf2 : c ∉ f2
  of2 : to ∉ f2
  ti3 : ti ≠ j3
  me3 : j3 ∈ f3
  cf3 : c ∉ f3
  of3 : to ∉ f3
  ti4 : ti ≠ j4
  me4 : j4 ∈ f4
  cf4 : c ∉ f4
  of4 : to ∉ f4
  ap12 : j1 ∉ f2
  ap13 : j1 ∉ f3
  ap14 : j1 ∉ f4
  ap21 : j2 ∉ f1
  ap23 : j2 ∉ f3
  ap24 : j2 ∉ f4
  ap31 : j3 ∉ f1
  ap32 : j3 ∉ f2
  ap34 : j3 ∉ f4
  ap41 : j4 ∉ f1
  ap42 : j4 ∉ f2
  ap43 : j4 ∉ f3
section
variable {prog : Program} {w : World} {A : Around} {E : Value → Shared → Prop} {s : Shared} {c ti to j1 j2 j3 j4 : Addr} {f1 f2 f3 f4 : List Addr} {n1 n2 n3 n4 m : Nat} {R1 R2 R3 R4 : Nat → Value → Prop} {S1 S2 S3 S4 : Nat → Heap → Prop} {e1 e2 e3 e4 : Value}
theorem Sep4.cj1 (D : Sep4 c ti to j1 j2 j3 j4 f1 f2 f3 f4) : c ≠ j1 := fun e => D.cf1 (e ▸ D.me1)
theorem Sep4.oj1 (D : Sep4 c ti to j1 j2 j3 j4 f1 f2 f3 f4) : to ≠ j1 := fun e => D.of1 (e ▸ D.me1)
theorem Sep4.cj2 (D : Sep4 c ti to j1 j2 j3 j4 f1 f2 f3 f4) : c ≠ j2 := fun e => D.cf2 (e ▸ D.me2)
theorem Sep4.oj2 (D : Sep4 c ti to j1 j2 j3 j4 f1 f2 f3 f4) : to ≠ j2 := fun e => D.of2 (e ▸ D.me2)
theorem Sep4.cj3 (D : Sep4 c ti to j1 j2 j3 j4 f1 f2 f3 f4) : c ≠ j3 := fun e => D.cf3 (e ▸ D.me3)
theorem Sep4.oj3 (D : Sep4 c ti to j1 j2 j3 j4 f1 f2 f3 f4) : to ≠ j3 := fun e => D.of3 (e ▸ D.me3)
theorem Sep4.cj4 (D : Sep4 c ti to j1 j2 j3 j4 f1 f2 f3 f4) : c ≠ j4 := fun e => D.cf4 (e ▸ D.me4)
theorem Sep4.oj4 (D : Sep4 c ti to j1 j2 j3 j4 f1 f2 f3 f4) : to ≠ j4 := fun e => D.of4 (e ▸ D.me4)
theorem tp4_upd {T : Addr} {x : Value} {k : Nat} {Q : Unit → Shared → Prop} (hT : Tp4 s.heap T e1 e2 e3 e4) (h : ∀ h2, h2.get? T = some { cls := .type "tuple", data := .seq ((#[e1, e2, e3, e4] : Array Value).setIfInBounds k x) } → Heap.SameBut T s.heap h2 → Q () { s with heap := h2 }) :
    wpAny (model prog w) A (updateSeq T (·.setIfInBounds k x)) Q E s := by
  refine wpAny_updateSeq hT rfl (h _ ?_ (Heap.SameBut.update ..)); rw [Heap.get?_update_self _ hT rfl]; simp [Obj.mapSeq]
theorem zip4_item {Q : Value → Shared → Prop} (S : Sep4 c ti to j1 j2 j3 j4 f1 f2 f3 f4) (D1 : Draws prog w A j1 f1 n1 R1 S1) (D2 : Draws prog w A j2 f2 n2 R2 S2) (D3 : Draws prog w A j3 f3 n3 R3 S3) (D4 : Draws prog w A j4 f4 n4 R4 S4) (hc : IsZip s.heap c ti to .none) (hi : Tp4 s.heap ti (.ref j1) (.ref j2) (.ref j3) (.ref j4)) (ho : Tp4 s.heap to e1 e2 e3 e4) (t1 : S1 m s.heap) (t2 : S2 m s.heap) (t3 : S3 m s.heap) (t4 : S4 m s.heap) (l1 : m < n1) (l2 : m < n2) (l3 : m < n3) (l4 : m < n4)
    (hQ : ∀ x1 x2 x3 x4 h2 tk, R1 m x1 → R2 m x2 → R3 m x3 → R4 m x4 → IsZip h2 c ti to (rawInt s.heap.objs.size) → Tp4 h2 to x1 x2 x3 x4 → S1 (m + 1) h2 → S2 (m + 1) h2 → S3 (m + 1) h2 → S4 (m + 1) h2 → Tp4 h2 s.heap.objs.size x1 x2 x3 x4 → h2.objs.size = s.heap.objs.size + 1 → (∀ b o, b ≠ c → b ≠ to → b ≠ j1 → b ≠ j2 → b ≠ j3 → b ≠ j4 → s.heap.get? b = some o → h2.get? b = some o) → Q (.ref s.heap.objs.size) { s with heap := h2, toks := tk }) :
    wpAny (model prog w) A (Builtin.«zip.__next__» ⟨[.ref c], []⟩) (fun fin s2 => ∃ v, fin = .done (.ret v) ∧ Q v s2) E s := by
  obtain ⟨hp, g, d, tk0, os⟩ := s
  show wpAny _ _ (field (.ref c) 2 >>= _) _ _ _; refine wpAny_bind (wpAny_field hc rfl (x := .bool false) rfl ?_); show wpAny _ _ (field (.ref c) 3 >>= _) _ _ _
  refine wpAny_bind (wpAny_field hc rfl (x := .ref ti) rfl ?_); refine wpAny_bind (wpAny_seqItems hi rfl ?_); show wpAny _ _ (Builtin.SmallTypes.ownedTupleIsFree (.ref c) >>= _) _ _ _
  refine wpAny_bind ?_; unfold Builtin.SmallTypes.ownedTupleIsFree; refine wpAny_bind (wpAny_field hc rfl (x := .none) rfl (wpAny_pure ?_)); simp only [if_true]
  refine wpAny_bind (wpAny_rule ?_); refine wpAny_bind (wpAny_field hc rfl (x := .ref to) rfl ?_); refine wpAny_bind (wpAny_setField_rec hc (by simp) fun q0 hc0 b0 => ?_)
  replace hc0 : IsZip q0 c ti to .ellipsis := hc0; replace b0 : Heap.SameBut c hp q0 := b0; refine wpAny_bind ?_
  simp only [List.zipIdx_cons, List.zipIdx_nil, List.forIn_cons, List.forIn_nil]; refine wpAny_bind (wpAny_bind (wpAny_onRaise ?_))
  show wpAny _ _ (Builtin.SmallTypes.nextOf (.ref j1) >>= _) _ _ ⟨q0, g, d, tk0, os⟩
  refine wpAny_bind (D1.item m _ _ _ l1 (D1.over t1 b0 S.cf1) fun x1 p1 tk1 hx1 y1 a1 => wpAny_pure ?_); replace a1 : Heap.SameBut j1 q0 p1 := a1
  have u1 : Tp4 p1 to e1 e2 e3 e4 := a1.extBut _ _ S.oj1 (b0.extBut _ _ S.oc ho); refine wpAny_bind (wpAny_seqItems (s := ⟨p1, g, d, tk1, os⟩) u1 rfl ?_)
  refine wpAny_bind (tp4_upd (s := ⟨p1, g, d, tk1, os⟩) u1 fun q1 hT1 b1 => ?_); replace hT1 : Tp4 q1 to x1 e2 e3 e4 := hT1; replace b1 : Heap.SameBut to p1 q1 := b1
  refine wpAny_bind (wpAny_letGo (wpAny_pure ?_)); refine wpAny_bind (wpAny_bind (wpAny_onRaise ?_)); show wpAny _ _ (Builtin.SmallTypes.nextOf (.ref j2) >>= _) _ _ ⟨q1, g, d, tk1, os⟩
  refine wpAny_bind (D2.item m _ _ _ l2 (D2.over (D2.over (D2.over t2 b0 S.cf2) a1 S.ap12) b1 S.of2) fun x2 p2 tk2 hx2 y2 a2 => wpAny_pure ?_); replace a2 : Heap.SameBut j2 q1 p2 := a2
  have u2 : Tp4 p2 to x1 e2 e3 e4 := a2.extBut _ _ S.oj2 hT1; refine wpAny_bind (wpAny_seqItems (s := ⟨p2, g, d, tk2, os⟩) u2 rfl ?_)
  refine wpAny_bind (tp4_upd (s := ⟨p2, g, d, tk2, os⟩) u2 fun q2 hT2 b2 => ?_); replace hT2 : Tp4 q2 to x1 x2 e3 e4 := hT2; replace b2 : Heap.SameBut to p2 q2 := b2
  refine wpAny_bind (wpAny_letGo (wpAny_pure ?_)); refine wpAny_bind (wpAny_bind (wpAny_onRaise ?_)); show wpAny _ _ (Builtin.SmallTypes.nextOf (.ref j3) >>= _) _ _ ⟨q2, g, d, tk2, os⟩
  refine wpAny_bind (D3.item m _ _ _ l3 (D3.over (D3.over (D3.over (D3.over (D3.over t3 b0 S.cf3) a1 S.ap13) b1 S.of3) a2 S.ap23) b2 S.of3) fun x3 p3 tk3 hx3 y3 a3 => wpAny_pure ?_); replace a3 : Heap.SameBut j3 q2 p3 := a3
  have u3 : Tp4 p3 to x1 x2 e3 e4 := a3.extBut _ _ S.oj3 hT2; refine wpAny_bind (wpAny_seqItems (s := ⟨p3, g, d, tk3, os⟩) u3 rfl ?_)
  refine wpAny_bind (tp4_upd (s := ⟨p3, g, d, tk3, os⟩) u3 fun q3 hT3 b3 => ?_); replace hT3 : Tp4 q3 to x1 x2 x3 e4 := hT3; replace b3 : Heap.SameBut to p3 q3 := b3
  refine wpAny_bind (wpAny_letGo (wpAny_pure ?_)); refine wpAny_bind (wpAny_bind (wpAny_onRaise ?_)); show wpAny _ _ (Builtin.SmallTypes.nextOf (.ref j4) >>= _) _ _ ⟨q3, g, d, tk3, os⟩
  refine wpAny_bind (D4.item m _ _ _ l4 (D4.over (D4.over (D4.over (D4.over (D4.over (D4.over (D4.over t4 b0 S.cf4) a1 S.ap14) b1 S.of4) a2 S.ap24) b2 S.of4) a3 S.ap34) b3 S.of4) fun x4 p4 tk4 hx4 y4 a4 => wpAny_pure ?_); replace a4 : Heap.SameBut j4 q3 p4 := a4
  have u4 : Tp4 p4 to x1 x2 x3 e4 := a4.extBut _ _ S.oj4 hT3; refine wpAny_bind (wpAny_seqItems (s := ⟨p4, g, d, tk4, os⟩) u4 rfl ?_)
  refine wpAny_bind (tp4_upd (s := ⟨p4, g, d, tk4, os⟩) u4 fun q4 hT4 b4 => ?_); replace hT4 : Tp4 q4 to x1 x2 x3 x4 := hT4; replace b4 : Heap.SameBut to p4 q4 := b4
  refine wpAny_bind (wpAny_letGo (wpAny_pure (wpAny_pure ?_))); refine wpAny_bind (wpAny_seqItems (s := ⟨q4, g, d, tk4, os⟩) hT4 rfl ?_); refine wpAny_bind (wpAny_newTuple ?_)
  have sz : q4.objs.size = hp.objs.size := by rw [b4.1, a4.1, b3.1, a3.1, b2.1, a2.1, b1.1, a1.1, b0.1]
  have zz : IsZip q4 c ti to .ellipsis := (b4.extBut _ _ S.oc.symm (a4.extBut _ _ S.cj4 (b3.extBut _ _ S.oc.symm (a3.extBut _ _ S.cj3 (b2.extBut _ _ S.oc.symm (a2.extBut _ _ S.cj2 (b1.extBut _ _ S.oc.symm (a1.extBut _ _ S.cj1 hc0))))))))
  have kk : ∀ b o, b ≠ c → b ≠ to → b ≠ j1 → b ≠ j2 → b ≠ j3 → b ≠ j4 → hp.get? b = some o → q4.get? b = some o := fun b o kc ko k1 k2 k3 k4 e => (b4.extBut _ _ ko (a4.extBut _ _ k4 (b3.extBut _ _ ko (a3.extBut _ _ k3 (b2.extBut _ _ ko (a2.extBut _ _ k2 (b1.extBut _ _ ko (a1.extBut _ _ k1 (b0.extBut _ _ kc e)))))))))
  have z1 : S1 (m + 1) q4 := (D1.over (D1.over (D1.over (D1.over (D1.over (D1.over (D1.over y1 b1 S.of1) a2 S.ap21) b2 S.of1) a3 S.ap31) b3 S.of1) a4 S.ap41) b4 S.of1)
  have z2 : S2 (m + 1) q4 := (D2.over (D2.over (D2.over (D2.over (D2.over y2 b2 S.of2) a3 S.ap32) b3 S.of2) a4 S.ap42) b4 S.of2)
  have z3 : S3 (m + 1) q4 := (D3.over (D3.over (D3.over y3 b3 S.of3) a4 S.ap43) b4 S.of3)
  have z4 : S4 (m + 1) q4 := (D4.over y4 b4 S.of4)
  have cl : c < q4.objs.size := Heap.lt_size zz
  show wpAny _ _ (Builtin.SmallTypes.ownedTupleHandOut (.ref c) (.ref q4.objs.size) >>= _) _ _ ⟨q4.push { cls := .type "tuple", data := .seq #[x1, x2, x3, x4] }, g, d, tk4, os⟩; refine wpAny_bind ?_; unfold Builtin.SmallTypes.ownedTupleHandOut
  have c6 : IsZip (q4.push { cls := .type "tuple", data := .seq #[x1, x2, x3, x4] }) c ti to .ellipsis := Heap.get?_push_of_some _ zz
  refine wpAny_bind (wpAny_setField_rec c6 (by simp) fun h7 c7 s7 => ?_); replace c7 : IsZip h7 c ti to (rawInt q4.objs.size) := c7; refine wpAny_setField_rec c7 (by simp) fun h8 c8 s8 => ?_
  replace c8 : IsZip h8 c ti to (rawInt q4.objs.size) := c8; replace s7 : Heap.SameBut c (q4.push { cls := .type "tuple", data := .seq #[x1, x2, x3, x4] }) h7 := s7; replace s8 : Heap.SameBut c h7 h8 := s8
  have up : ∀ b o, b ≠ c → q4.get? b = some o → h8.get? b = some o := fun b o b1 e => s8.extBut _ _ b1 (s7.extBut _ _ b1 (Heap.get?_push_of_some _ e))
  have t8 : Tp4 h8 q4.objs.size x1 x2 x3 x4 := s8.extBut _ _ (Nat.ne_of_gt cl) (s7.extBut _ _ (Nat.ne_of_gt cl) (Heap.get?_push_size _ rfl))
  have n8 : h8.objs.size = q4.objs.size + 1 := by rw [s8.1, s7.1, Heap.size_push]
  rw [sz] at c8 t8 n8; refine wpAny_pure ⟨_, rfl, ?_⟩; show Q (.ref q4.objs.size) ⟨h8, g, d, tk4, os⟩; rw [sz]
  exact hQ x1 x2 x3 x4 h8 tk4 hx1 hx2 hx3 hx4 c8 (up _ _ S.oc hT4) (D1.frame _ _ _ z1 fun b hb o e => up b o (fun q => S.cf1 (q ▸ hb)) e) (D2.frame _ _ _ z2 fun b hb o e => up b o (fun q => S.cf2 (q ▸ hb)) e) (D3.frame _ _ _ z3 fun b hb o e => up b o (fun q => S.cf3 (q ▸ hb)) e) (D4.frame _ _ _ z4 fun b hb o e => up b o (fun q => S.cf4 (q ▸ hb)) e) t8 n8 fun b o kc ko k1 k2 k3 k4 e => up b o kc (kk b o kc ko k1 k2 k3 k4 e)
theorem zip4_end {Q : PySem.Fin → Shared → Prop} (S : Sep4 c ti to j1 j2 j3 j4 f1 f2 f3 f4) (D1 : Draws prog w A j1 f1 n1 R1 S1) (D2 : Draws prog w A j2 f2 n2 R2 S2) (D3 : Draws prog w A j3 f3 n3 R3 S3) (D4 : Draws prog w A j4 f4 n4 R4 S4) (hc : IsZip s.heap c ti to .none) (hi : Tp4 s.heap ti (.ref j1) (.ref j2) (.ref j3) (.ref j4)) (ho : Tp4 s.heap to e1 e2 e3 e4) (t1 : S1 m s.heap) (t2 : S2 m s.heap) (t3 : S3 m s.heap) (t4 : S4 m s.heap) (l1 : m ≤ n1) (l2 : m ≤ n2) (l3 : m ≤ n3) (l4 : m ≤ n4) (hend : m = n1 ∨ m = n2 ∨ m = n3 ∨ m = n4)
    (hE : ∀ h2 tk e, (∀ b o, b ≠ c → b ≠ to → b ≠ j1 → b ≠ j2 → b ≠ j3 → b ≠ j4 → s.heap.get? b = some o → h2.get? b = some o) → (∃ o, h2.get? e = some o ∧ o.cls = .type "StopIteration") → E (.ref e) { s with heap := h2, toks := tk }) :
    wpAny (model prog w) A (Builtin.«zip.__next__» ⟨[.ref c], []⟩) Q E s := by
  obtain ⟨hp, g, d, tk0, os⟩ := s
  show wpAny _ _ (field (.ref c) 2 >>= _) _ _ _; refine wpAny_bind (wpAny_field hc rfl (x := .bool false) rfl ?_); show wpAny _ _ (field (.ref c) 3 >>= _) _ _ _
  refine wpAny_bind (wpAny_field hc rfl (x := .ref ti) rfl ?_); refine wpAny_bind (wpAny_seqItems hi rfl ?_); show wpAny _ _ (Builtin.SmallTypes.ownedTupleIsFree (.ref c) >>= _) _ _ _
  refine wpAny_bind ?_; unfold Builtin.SmallTypes.ownedTupleIsFree; refine wpAny_bind (wpAny_field hc rfl (x := .none) rfl (wpAny_pure ?_)); simp only [if_true]
  refine wpAny_bind (wpAny_rule ?_); refine wpAny_bind (wpAny_field hc rfl (x := .ref to) rfl ?_); refine wpAny_bind (wpAny_setField_rec hc (by simp) fun q0 hc0 b0 => ?_)
  replace hc0 : IsZip q0 c ti to .ellipsis := hc0; replace b0 : Heap.SameBut c hp q0 := b0; refine wpAny_bind ?_
  simp only [List.zipIdx_cons, List.zipIdx_nil, List.forIn_cons, List.forIn_nil]; refine wpAny_bind (wpAny_bind (wpAny_onRaise ?_))
  show wpAny _ _ (Builtin.SmallTypes.nextOf (.ref j1) >>= _) _ _ ⟨q0, g, d, tk0, os⟩
  by_cases g1 : m < n1
  · refine wpAny_bind (D1.item m _ _ _ g1 (D1.over t1 b0 S.cf1) fun x1 p1 tk1 hx1 y1 a1 => wpAny_pure ?_); replace a1 : Heap.SameBut j1 q0 p1 := a1
    have u1 : Tp4 p1 to e1 e2 e3 e4 := a1.extBut _ _ S.oj1 (b0.extBut _ _ S.oc ho); refine wpAny_bind (wpAny_seqItems (s := ⟨p1, g, d, tk1, os⟩) u1 rfl ?_)
    refine wpAny_bind (tp4_upd (s := ⟨p1, g, d, tk1, os⟩) u1 fun q1 hT1 b1 => ?_); replace hT1 : Tp4 q1 to x1 e2 e3 e4 := hT1; replace b1 : Heap.SameBut to p1 q1 := b1
    refine wpAny_bind (wpAny_letGo (wpAny_pure ?_)); refine wpAny_bind (wpAny_bind (wpAny_onRaise ?_)); show wpAny _ _ (Builtin.SmallTypes.nextOf (.ref j2) >>= _) _ _ ⟨q1, g, d, tk1, os⟩
    by_cases g2 : m < n2
    · refine wpAny_bind (D2.item m _ _ _ g2 (D2.over (D2.over (D2.over t2 b0 S.cf2) a1 S.ap12) b1 S.of2) fun x2 p2 tk2 hx2 y2 a2 => wpAny_pure ?_); replace a2 : Heap.SameBut j2 q1 p2 := a2
      have u2 : Tp4 p2 to x1 e2 e3 e4 := a2.extBut _ _ S.oj2 hT1; refine wpAny_bind (wpAny_seqItems (s := ⟨p2, g, d, tk2, os⟩) u2 rfl ?_)
      refine wpAny_bind (tp4_upd (s := ⟨p2, g, d, tk2, os⟩) u2 fun q2 hT2 b2 => ?_); replace hT2 : Tp4 q2 to x1 x2 e3 e4 := hT2; replace b2 : Heap.SameBut to p2 q2 := b2
      refine wpAny_bind (wpAny_letGo (wpAny_pure ?_)); refine wpAny_bind (wpAny_bind (wpAny_onRaise ?_)); show wpAny _ _ (Builtin.SmallTypes.nextOf (.ref j3) >>= _) _ _ ⟨q2, g, d, tk2, os⟩
      by_cases g3 : m < n3
      · refine wpAny_bind (D3.item m _ _ _ g3 (D3.over (D3.over (D3.over (D3.over (D3.over t3 b0 S.cf3) a1 S.ap13) b1 S.of3) a2 S.ap23) b2 S.of3) fun x3 p3 tk3 hx3 y3 a3 => wpAny_pure ?_); replace a3 : Heap.SameBut j3 q2 p3 := a3
        have u3 : Tp4 p3 to x1 x2 e3 e4 := a3.extBut _ _ S.oj3 hT2; refine wpAny_bind (wpAny_seqItems (s := ⟨p3, g, d, tk3, os⟩) u3 rfl ?_)
        refine wpAny_bind (tp4_upd (s := ⟨p3, g, d, tk3, os⟩) u3 fun q3 hT3 b3 => ?_); replace hT3 : Tp4 q3 to x1 x2 x3 e4 := hT3; replace b3 : Heap.SameBut to p3 q3 := b3
        refine wpAny_bind (wpAny_letGo (wpAny_pure ?_)); refine wpAny_bind (wpAny_bind (wpAny_onRaise ?_)); show wpAny _ _ (Builtin.SmallTypes.nextOf (.ref j4) >>= _) _ _ ⟨q3, g, d, tk3, os⟩
        have hm4 : m = n4 := by omega
        refine wpAny_bind (D4.done ⟨q3, g, d, tk3, os⟩ _ _ (by rw [← hm4]; exact (D4.over (D4.over (D4.over (D4.over (D4.over (D4.over (D4.over t4 b0 S.cf4) a1 S.ap14) b1 S.of4) a2 S.ap24) b2 S.of4) a3 S.ap34) b3 S.of4)) fun q e hq he => ?_); replace hq : Heap.ExtBut j4 q3 q := hq; obtain ⟨oe, hoe, hce⟩ := he; replace hoe : q.get? e = some oe := hoe
        have hzq : IsZip q c ti to .ellipsis := hq _ _ S.cj4 (b3.extBut _ _ S.oc.symm (a3.extBut _ _ S.cj3 (b2.extBut _ _ S.oc.symm (a2.extBut _ _ S.cj2 (b1.extBut _ _ S.oc.symm (a1.extBut _ _ S.cj1 hc0)))))); have hez : e ≠ c := fun x => by subst x; rw [hzq] at hoe; cases hoe; simp at hce
        refine wpAny_setField_rec (s := ⟨q, g, d, tk3, os⟩) hzq (by simp) fun q2 _ hq2 => ?_; replace hq2 : Heap.SameBut c q q2 := hq2
        exact hE q2 tk3 e (fun b o kc ko k1 k2 k3 k4 e => hq2.extBut _ _ kc (hq _ _ k4 (b3.extBut _ _ ko (a3.extBut _ _ k3 (b2.extBut _ _ ko (a2.extBut _ _ k2 (b1.extBut _ _ ko (a1.extBut _ _ k1 (b0.extBut _ _ kc e))))))))) ⟨oe, hq2.extBut _ _ hez hoe, hce⟩
      · have hm3 : m = n3 := by omega
        refine wpAny_bind (D3.done ⟨q2, g, d, tk2, os⟩ _ _ (by rw [← hm3]; exact (D3.over (D3.over (D3.over (D3.over (D3.over t3 b0 S.cf3) a1 S.ap13) b1 S.of3) a2 S.ap23) b2 S.of3)) fun q e hq he => ?_); replace hq : Heap.ExtBut j3 q2 q := hq; obtain ⟨oe, hoe, hce⟩ := he; replace hoe : q.get? e = some oe := hoe
        have hzq : IsZip q c ti to .ellipsis := hq _ _ S.cj3 (b2.extBut _ _ S.oc.symm (a2.extBut _ _ S.cj2 (b1.extBut _ _ S.oc.symm (a1.extBut _ _ S.cj1 hc0)))); have hez : e ≠ c := fun x => by subst x; rw [hzq] at hoe; cases hoe; simp at hce
        refine wpAny_setField_rec (s := ⟨q, g, d, tk2, os⟩) hzq (by simp) fun q2 _ hq2 => ?_; replace hq2 : Heap.SameBut c q q2 := hq2
        exact hE q2 tk2 e (fun b o kc ko k1 k2 k3 k4 e => hq2.extBut _ _ kc (hq _ _ k3 (b2.extBut _ _ ko (a2.extBut _ _ k2 (b1.extBut _ _ ko (a1.extBut _ _ k1 (b0.extBut _ _ kc e))))))) ⟨oe, hq2.extBut _ _ hez hoe, hce⟩
    · have hm2 : m = n2 := by omega
      refine wpAny_bind (D2.done ⟨q1, g, d, tk1, os⟩ _ _ (by rw [← hm2]; exact (D2.over (D2.over (D2.over t2 b0 S.cf2) a1 S.ap12) b1 S.of2)) fun q e hq he => ?_); replace hq : Heap.ExtBut j2 q1 q := hq; obtain ⟨oe, hoe, hce⟩ := he; replace hoe : q.get? e = some oe := hoe
      have hzq : IsZip q c ti to .ellipsis := hq _ _ S.cj2 (b1.extBut _ _ S.oc.symm (a1.extBut _ _ S.cj1 hc0)); have hez : e ≠ c := fun x => by subst x; rw [hzq] at hoe; cases hoe; simp at hce
      refine wpAny_setField_rec (s := ⟨q, g, d, tk1, os⟩) hzq (by simp) fun q2 _ hq2 => ?_; replace hq2 : Heap.SameBut c q q2 := hq2
      exact hE q2 tk1 e (fun b o kc ko k1 k2 k3 k4 e => hq2.extBut _ _ kc (hq _ _ k2 (b1.extBut _ _ ko (a1.extBut _ _ k1 (b0.extBut _ _ kc e))))) ⟨oe, hq2.extBut _ _ hez hoe, hce⟩
  · have hm1 : m = n1 := by omega
    refine wpAny_bind (D1.done ⟨q0, g, d, tk0, os⟩ _ _ (by rw [← hm1]; exact (D1.over t1 b0 S.cf1)) fun q e hq he => ?_); replace hq : Heap.ExtBut j1 q0 q := hq; obtain ⟨oe, hoe, hce⟩ := he; replace hoe : q.get? e = some oe := hoe
    have hzq : IsZip q c ti to .ellipsis := hq _ _ S.cj1 hc0; have hez : e ≠ c := fun x => by subst x; rw [hzq] at hoe; cases hoe; simp at hce
    refine wpAny_setField_rec (s := ⟨q, g, d, tk0, os⟩) hzq (by simp) fun q2 _ hq2 => ?_; replace hq2 : Heap.SameBut c q q2 := hq2
    exact hE q2 tk0 e (fun b o kc ko k1 k2 k3 k4 e => hq2.extBut _ _ kc (hq _ _ k1 (b0.extBut _ _ kc e))) ⟨oe, hq2.extBut _ _ hez hoe, hce⟩
theorem zip4_next_item {Q : Option Value → Shared → Prop} (S : Sep4 c ti to j1 j2 j3 j4 f1 f2 f3 f4) (D1 : Draws prog w A.in1 j1 f1 n1 R1 S1) (D2 : Draws prog w A.in1 j2 f2 n2 R2 S2) (D3 : Draws prog w A.in1 j3 f3 n3 R3 S3) (D4 : Draws prog w A.in1 j4 f4 n4 R4 S4) (hc : IsZip s.heap c ti to .none) (hi : Tp4 s.heap ti (.ref j1) (.ref j2) (.ref j3) (.ref j4)) (ho : Tp4 s.heap to e1 e2 e3 e4) (t1 : S1 m s.heap) (t2 : S2 m s.heap) (t3 : S3 m s.heap) (t4 : S4 m s.heap) (l1 : m < n1) (l2 : m < n2) (l3 : m < n3) (l4 : m < n4)
    (hQ : ∀ x1 x2 x3 x4 h2 tk, R1 m x1 → R2 m x2 → R3 m x3 → R4 m x4 → IsZip h2 c ti to (rawInt s.heap.objs.size) → Tp4 h2 to x1 x2 x3 x4 → S1 (m + 1) h2 → S2 (m + 1) h2 → S3 (m + 1) h2 → S4 (m + 1) h2 → Tp4 h2 s.heap.objs.size x1 x2 x3 x4 → h2.objs.size = s.heap.objs.size + 1 → (∀ b o, b ≠ c → b ≠ to → b ≠ j1 → b ≠ j2 → b ≠ j3 → b ≠ j4 → s.heap.get? b = some o → h2.get? b = some o) → Q (some (.ref s.heap.objs.size)) { s with heap := h2, toks := tk }) : wpAny (model prog w) A (pyNext (.ref c)) Q E s := by
  have hT : s.TypeIs (.ref c) "zip" := ⟨_, hc, rfl⟩
  unfold pyNext; refine wpAny_bind (wpAny_attempt (wpAny_callSpecial?_slot (name := Str.ofString "__next__") hT F.slot_zip_next (wpAny_call_entry F.slot_zip_next hT F.entry_zip_next (zip4_item S D1 D2 D3 D4 hc hi ho t1 t2 t3 t4 l1 l2 l3 l4 ?_) (F.args_zip_next_1 _))))
  exact fun x1 x2 x3 x4 h2 tk y1 y2 y3 y4 b1 b2 d1 d2 d3 d4 b5 b6 b7 => wpAny_pure (hQ x1 x2 x3 x4 h2 tk y1 y2 y3 y4 b1 b2 d1 d2 d3 d4 b5 b6 b7)
theorem zip4_next_end {Q : Option Value → Shared → Prop} (S : Sep4 c ti to j1 j2 j3 j4 f1 f2 f3 f4) (D1 : Draws prog w A.in1 j1 f1 n1 R1 S1) (D2 : Draws prog w A.in1 j2 f2 n2 R2 S2) (D3 : Draws prog w A.in1 j3 f3 n3 R3 S3) (D4 : Draws prog w A.in1 j4 f4 n4 R4 S4) (hc : IsZip s.heap c ti to .none) (hi : Tp4 s.heap ti (.ref j1) (.ref j2) (.ref j3) (.ref j4)) (ho : Tp4 s.heap to e1 e2 e3 e4) (t1 : S1 m s.heap) (t2 : S2 m s.heap) (t3 : S3 m s.heap) (t4 : S4 m s.heap) (l1 : m ≤ n1) (l2 : m ≤ n2) (l3 : m ≤ n3) (l4 : m ≤ n4) (hend : m = n1 ∨ m = n2 ∨ m = n3 ∨ m = n4)
    (hQ : ∀ h2 tk, (∀ b o, b ≠ c → b ≠ to → b ≠ j1 → b ≠ j2 → b ≠ j3 → b ≠ j4 → s.heap.get? b = some o → h2.get? b = some o) → Q none { s with heap := h2, toks := tk }) : wpAny (model prog w) A (pyNext (.ref c)) Q E s := by
  have hT : s.TypeIs (.ref c) "zip" := ⟨_, hc, rfl⟩
  unfold pyNext; refine wpAny_bind (wpAny_attempt (wpAny_callSpecial?_slot (name := Str.ofString "__next__") hT F.slot_zip_next (wpAny_call_entry F.slot_zip_next hT F.entry_zip_next (zip4_end S D1 D2 D3 D4 hc hi ho t1 t2 t3 t4 l1 l2 l3 l4 hend fun h2 tk e hk he => ?_) (F.args_zip_next_1 _))))
  obtain ⟨o, ho, hc⟩ := he; refine wpAny_bind (wpAny_isInstance (T := "StopIteration") (b := true) ⟨o, ho, hc⟩ isSubtype_stop ?_); exact wpAny_pure (hQ _ _ hk)
end
abbrev y4 (h : Heap) (o1 o2 o3 o4 : Obj) : Heap := (((h.push o1).push o2).push o3).push o4
abbrev y4T (h : Heap) (o1 o2 o3 o4 : Obj) : Heap := (y4 h o1 o2 o3 o4).push { cls := .type "tuple", data := .seq #[.ref h.objs.size, .ref (h.push o1).objs.size, .ref ((h.push o1).push o2).objs.size, .ref (((h.push o1).push o2).push o3).objs.size] }
abbrev y4O (h : Heap) (o1 o2 o3 o4 : Obj) : Heap := (y4T h o1 o2 o3 o4).push { cls := .type "tuple", data := .seq #[.none, .none, .none, .none] }
abbrev y4Z (h : Heap) (o1 o2 o3 o4 : Obj) : Heap := (y4O h o1 o2 o3 o4).push { cls := .type "zip", data := .fields #[.none, .bool false, .bool false, .ref (y4 h o1 o2 o3 o4).objs.size, .ref (y4T h o1 o2 o3 o4).objs.size] }
theorem zip4_tc (a b c d : Value) : checkTypeCall "zip" ⟨[a, b, c, d], []⟩ = pure () := by kernel_rfl
theorem zip4_nc (a b c d : Value) : checkBuiltinCall "zip.__new__" ⟨[.type "zip", a, b, c, d], []⟩ = pure () := by kernel_rfl
theorem zip4_in (obj a b c d : Value) : argsOk "object.__init__" ⟨[obj, a, b, c, d], []⟩ := by unfold argsOk; kernel_rfl
theorem zip4_new {v1 v2 v3 v4 : Value} {o1 o2 o3 o4 : Obj} {H1 H2 H3 H4 : Heap → Prop} (B1 : Begins v1 o1 H1) (B2 : Begins v2 o2 H2) (B3 : Begins v3 o3 H3) (B4 : Begins v4 o4 H4) :
    Meets (Builtin.«zip.__new__» ⟨[.type "zip", v1, v2, v3, v4], []⟩) (fun _ R s => (H1 s.heap ∧ H2 s.heap ∧ H3 s.heap ∧ H4 s.heap) ∧ R (.ok (.ret (.ref (y4O s.heap o1 o2 o3 o4).objs.size))) { s with heap := y4Z s.heap o1 o2 o3 o4 }) :=
  .of_wp fun prog w A R s h => by
    obtain ⟨hp, g, d, tk, os⟩ := s; obtain ⟨⟨h1, h2, h3, h4⟩, h⟩ := h; have hsub := sub_zip
    have q1 : ∀ {B : Around} {E : Value → Shared → Prop} {Q : Value → Shared → Prop}, Q (.ref hp.objs.size) ⟨(hp.push o1), g, d, tk, os⟩ → wpAny (model prog w) B (pyIter v1) Q E ⟨hp, g, d, tk, os⟩ := fun q => B1.iter prog w _ _ ⟨hp, g, d, tk, os⟩ _ (B1.keeps _ _ h1 fun b o' e => e) q
    have q2 : ∀ {B : Around} {E : Value → Shared → Prop} {Q : Value → Shared → Prop}, Q (.ref (hp.push o1).objs.size) ⟨((hp.push o1).push o2), g, d, tk, os⟩ → wpAny (model prog w) B (pyIter v2) Q E ⟨(hp.push o1), g, d, tk, os⟩ := fun q => B2.iter prog w _ _ ⟨(hp.push o1), g, d, tk, os⟩ _ (B2.keeps _ _ h2 fun b o' e => (Heap.get?_push_of_some _ e)) q
    have q3 : ∀ {B : Around} {E : Value → Shared → Prop} {Q : Value → Shared → Prop}, Q (.ref ((hp.push o1).push o2).objs.size) ⟨(((hp.push o1).push o2).push o3), g, d, tk, os⟩ → wpAny (model prog w) B (pyIter v3) Q E ⟨((hp.push o1).push o2), g, d, tk, os⟩ := fun q => B3.iter prog w _ _ ⟨((hp.push o1).push o2), g, d, tk, os⟩ _ (B3.keeps _ _ h3 fun b o' e => (Heap.get?_push_of_some _ (Heap.get?_push_of_some _ e))) q
    have q4 : ∀ {B : Around} {E : Value → Shared → Prop} {Q : Value → Shared → Prop}, Q (.ref (((hp.push o1).push o2).push o3).objs.size) ⟨((((hp.push o1).push o2).push o3).push o4), g, d, tk, os⟩ → wpAny (model prog w) B (pyIter v4) Q E ⟨(((hp.push o1).push o2).push o3), g, d, tk, os⟩ := fun q => B4.iter prog w _ _ ⟨(((hp.push o1).push o2).push o3), g, d, tk, os⟩ _ (B4.keeps _ _ h4 fun b o' e => (Heap.get?_push_of_some _ (Heap.get?_push_of_some _ (Heap.get?_push_of_some _ e)))) q
    wp_walk using q1, q2, q3, q4
    exact ⟨_, rfl, h⟩
section
variable {prog : Program} {w : World} {A : Around} {E : Value → Shared → Prop} {s : Shared}
theorem zip4_begins {v1 v2 v3 v4 : Value} {o1 o2 o3 o4 : Obj} {H1 H2 H3 H4 : Heap → Prop} {Q : Value → Shared → Prop} (B1 : Begins v1 o1 H1) (B2 : Begins v2 o2 H2) (B3 : Begins v3 o3 H3) (B4 : Begins v4 o4 H4) (h1 : H1 s.heap) (h2 : H2 s.heap) (h3 : H3 s.heap) (h4 : H4 s.heap)
    (h : ∀ g, IsZip g (s.heap.objs.size + 6) (s.heap.objs.size + 4) (s.heap.objs.size + 5) .none → Tp4 g (s.heap.objs.size + 4) (.ref s.heap.objs.size) (.ref (s.heap.objs.size + 1)) (.ref (s.heap.objs.size + 2)) (.ref (s.heap.objs.size + 3)) → Tp4 g (s.heap.objs.size + 5) .none .none .none .none →
      g.get? s.heap.objs.size = some o1 → g.get? (s.heap.objs.size + 1) = some o2 → g.get? (s.heap.objs.size + 2) = some o3 → g.get? (s.heap.objs.size + 3) = some o4 → g.objs.size = s.heap.objs.size + 7 → (∀ c o, s.heap.get? c = some o → g.get? c = some o) → Q (.ref (s.heap.objs.size + 6)) { s with heap := g }) :
    wpAny (model prog w) A (call (.type "zip") [v1, v2, v3, v4]) Q E s := by
  refine callType_new F.called_zip (by decide) (zip4_tc _ _ _ _) (zip4_nc _ _ _ _) (fun obj => zip4_in obj _ _ _ _) F.entry_zip_new (zip4_new B1 B2 B3 B4) ⟨⟨h1, h2, h3, h4⟩, ?_⟩
  have z1 : (s.heap.push o1).objs.size = s.heap.objs.size + 1 := by rw [Heap.size_push]
  have z2 : ((s.heap.push o1).push o2).objs.size = s.heap.objs.size + 2 := by rw [Heap.size_push, z1]
  have z3 : (((s.heap.push o1).push o2).push o3).objs.size = s.heap.objs.size + 3 := by rw [Heap.size_push, z2]
  have z4 : (y4 s.heap o1 o2 o3 o4).objs.size = s.heap.objs.size + 4 := by rw [Heap.size_push, z3]
  have zT : (y4T s.heap o1 o2 o3 o4).objs.size = s.heap.objs.size + 5 := by rw [Heap.size_push, z4]
  have zO : (y4O s.heap o1 o2 o3 o4).objs.size = s.heap.objs.size + 6 := by rw [Heap.size_push, zT]
  have zZ : (y4Z s.heap o1 o2 o3 o4).objs.size = s.heap.objs.size + 7 := by rw [Heap.size_push, zO]
  have gZ : (y4Z s.heap o1 o2 o3 o4).get? (y4O s.heap o1 o2 o3 o4).objs.size = some _ := Heap.get?_push_size _ rfl
  have gO : (y4Z s.heap o1 o2 o3 o4).get? (y4T s.heap o1 o2 o3 o4).objs.size = some _ := Heap.get?_push_of_some _ (Heap.get?_push_size _ rfl)
  have gT : (y4Z s.heap o1 o2 o3 o4).get? (y4 s.heap o1 o2 o3 o4).objs.size = some _ := Heap.get?_push_of_some _ (Heap.get?_push_of_some _ (Heap.get?_push_size _ rfl))
  have g1 : (y4Z s.heap o1 o2 o3 o4).get? s.heap.objs.size = some o1 := (Heap.get?_push_of_some _ (Heap.get?_push_of_some _ (Heap.get?_push_of_some _ (Heap.get?_push_of_some _ (Heap.get?_push_of_some _ (Heap.get?_push_of_some _ (Heap.get?_push_size _ B1.free)))))))
  have g2 : (y4Z s.heap o1 o2 o3 o4).get? (s.heap.push o1).objs.size = some o2 := (Heap.get?_push_of_some _ (Heap.get?_push_of_some _ (Heap.get?_push_of_some _ (Heap.get?_push_of_some _ (Heap.get?_push_of_some _ (Heap.get?_push_size _ B2.free))))))
  have g3 : (y4Z s.heap o1 o2 o3 o4).get? ((s.heap.push o1).push o2).objs.size = some o3 := (Heap.get?_push_of_some _ (Heap.get?_push_of_some _ (Heap.get?_push_of_some _ (Heap.get?_push_of_some _ (Heap.get?_push_size _ B3.free)))))
  have g4 : (y4Z s.heap o1 o2 o3 o4).get? (((s.heap.push o1).push o2).push o3).objs.size = some o4 := (Heap.get?_push_of_some _ (Heap.get?_push_of_some _ (Heap.get?_push_of_some _ (Heap.get?_push_size _ B4.free))))
  rw [zO, zT, z4] at gZ; rw [zT] at gO; rw [z4, z3, z2, z1] at gT; rw [z1] at g2; rw [z2] at g3; rw [z3] at g4
  show _ ∧ _; rw [zO]; exact ⟨⟨_, gZ, rfl⟩, h _ gZ gT gO g1 g2 g3 g4 zZ fun c o e => (Heap.get?_push_of_some _ (Heap.get?_push_of_some _ (Heap.get?_push_of_some _ (Heap.get?_push_of_some _ (Heap.get?_push_of_some _ (Heap.get?_push_of_some _ (Heap.get?_push_of_some _ e)))))))⟩
end
/-- a list (false) or a tuple (true) -/
def SqB (K : PySem.W.Frag) (H : Hp) (b : Bool) (a : Addr) (xs : List V) : Prop := if b then SqT K H a xs else SqL K H a xs
def IterB (b : Bool) (h : Heap) (i a : Addr) (k : Nat) : Prop := if b then h.IsTupleIter i a k else h.IsListIter i a k
def SeqB (b : Bool) (h : Heap) (a : Addr) (w : Array Value) : Prop := if b then h.IsTuple a w else h.IsList a w
def itObj (b : Bool) (a : Addr) : Obj := if b then { cls := .type "tuple_iterator", data := .fields #[.ref a, .int 0 0] } else { cls := .type "list_iterator", data := .fields #[.ref a, .int 0 0] }
theorem IterB.obj {b : Bool} {h : Heap} {i a : Addr} {k : Nat} (t : IterB b h i a k) : ∃ o, h.get? i = some o ∧ ∀ v, o.data ≠ .cell v := by
  cases b <;> (obtain ⟨o, e, _, d⟩ := t; exact ⟨o, e, fun v q => by rw [d] at q; cases q⟩)
theorem IterB.at {b : Bool} {h h2 : Heap} {i a : Addr} {k : Nat} (t : IterB b h i a k) (f : ∀ o, h.get? i = some o → h2.get? i = some o) : IterB b h2 i a k := by
  cases b
  · exact Heap.IsListIter.at t f
  · exact Heap.IsTupleIter.at t f
theorem IterB.lt {b : Bool} {h : Heap} {i a : Addr} {k : Nat} (t : IterB b h i a k) : i < h.objs.size := by obtain ⟨o, e, _⟩ := t.obj; exact Heap.lt_size e
theorem IterB.ne {b : Bool} {h : Heap} {i a : Addr} {k : Nat} {w : Array Value} (t : IterB b h i a k) (p : SeqB b h a w) : a ≠ i := fun e => by
  cases b <;> (obtain ⟨o, e1, c1, d1⟩ := t; obtain ⟨o', e2, c2, _⟩ := p; rw [e, e1] at e2; cases e2; rw [c1] at c2; exact absurd (Value.type.inj c2) (by decide))
theorem iterB_new {b : Bool} {h : Heap} {i a : Addr} (e : h.get? i = some (itObj b a)) : IterB b h i a 0 := by
  cases b <;> exact ⟨_, e, rfl, rfl⟩
theorem drawsB {prog : Program} {w : World} {A : Around} (hh : A.handled = none) (b : Bool) (i a : Addr) (ne : a ≠ i) (v : Array Value) : Draws prog w A i [i, a] v.size (fun k x => v[k]? = some x) (fun k h => IterB b h i a k ∧ SeqB b h a v) := by
  cases b
  · exact Draws.list hh i a ne v
  · exact Draws.tuple hh i a ne v
theorem beginsB (b : Bool) (a : Addr) (v : Array Value) : Begins (.ref a) (itObj b a) fun h => SeqB b h a v := by
  cases b
  · exact begins_list a v
  · exact begins_tuple a v
theorem inv_seqB {X : Cx} {pins : List (Addr × Obj)} {σ : L2.St} {H : Hp} {s : Shared} {b : Bool} {a : Addr} {xs : List V} (I : Inv X pins σ H s) (q : SqB X.K H b a xs) : ∃ w : List Value, Vals xs w ∧ SeqB b s.heap a w.toArray ∧ a < s.heap.objs.size := by
  cases b
  · obtain ⟨w, rv, p, _⟩ := I.list q
    exact ⟨w, rv, p.isList, p.lt⟩
  · obtain ⟨w, rv, p, _⟩ := I.tuple q
    obtain ⟨o, e, _⟩ := id p
    exact ⟨w, rv, p, Heap.lt_size e⟩
theorem inv_injB {X : Cx} {pins : List (Addr × Obj)} {σ : L2.St} {H : Hp} {s : Shared} {b : Bool} {a : Addr} {xs ys : List V} (I : Inv X pins σ H s) (q : SqB X.K H b a xs) (r : SqB X.K H b a ys) : xs = ys := by
  cases b
  · exact I.list_inj q r
  · exact I.tuple_inj q r
theorem vals_refs : ∀ {as : List Addr} {us : List Value}, Vals (as.map V.ref) us → us = as.map Value.ref
  | [], _, .nil => rfl
  | a :: as, _, .cons r t => by
    have e1 := r
    cases e1
    rw [vals_refs t]; rfl
section
variable [TabL] {K : PySem.W.Frag}
def seqD : Bool → List Dt → Dt
  | true, ds => .tuple ds
  | false, ds => .list ds
theorem dn_seqRef {M : Hp} {v : V} {b : Bool} {ds : List Dt} (h : Dn K M v (seqD b ds)) : ∃ a, v = .ref a := by
  cases b
  · obtain ⟨a, vs, e, _⟩ := Dn.lst_inv h; exact ⟨a, e⟩
  · obtain ⟨a, vs, e, _⟩ := Dn.tup_inv h; exact ⟨a, e⟩
theorem dn_seqB {M : Hp} {a : Addr} {b : Bool} {ds : List Dt} (h : Dn K M (.ref a) (seqD b ds)) : ∃ X, SqB K M b a X ∧ DnA K M X ds := by
  cases b
  · obtain ⟨a', vs, e, h1, h2⟩ := Dn.lst_inv h; cases e; exact ⟨vs, SqL.of h1, h2⟩
  · obtain ⟨a', vs, e, h1, h2⟩ := Dn.tup_inv h; cases e; exact ⟨vs, h1, h2⟩
theorem sqB_mono {M H : Hp} {b : Bool} {a : Addr} {X : List V} (m : Same M H) (h : SqB K M b a X) : SqB K H b a X := by
  cases b
  · exact m.seq h
  · exact sqT_mono m h
/-- data in a new tuple -/
theorem Sta.tupN {M M0 H0 H : Hp} {σ : L2.St} {ρ : List Sl} {T : List (V × Dt)} {p : Addr} {vs : List V} {ds : List Dt} (st : StM K M0 H0 σ H ρ T M) (n : H p = none) (hd : DnA K M vs ds) : Sta K M0 H0 σ (upd H p (.tup vs)) ρ ((.ref p, .tuple ds) :: T) := by
  have b := bs_new (o := .tup vs) st.bs.kn n
  refine ⟨_, st.grow b fun q hq => ?_⟩
  rcases List.mem_cons.mp hq with e | hq
  · subst e; exact .tup (.inl (.inl upd_same)) (hd.mono b.mm)
  · exact (st.tmp q hq).mono b.mm
end
/-- 3 sources, each a list or a tuple -/
def ItN3 (K : PySem.W.Frag) (b1 b2 b3 : Bool) (a1 a2 a3 : Addr) : It :=
  ⟨fun i H => ∃ (X1 X2 X3 : List V) (u1 u2 u3 : V), SqB K H b1 a1 X1 ∧ SqB K H b2 a2 X2 ∧ SqB K H b3 a3 X3 ∧ X1[i]? = some u1 ∧ X2[i]? = some u2 ∧ X3[i]? = some u3,
    fun i H v H2 => ∃ T u1 u2 u3, v = .ref T ∧ H T = none ∧ H2 = upd H T (.tup [u1, u2, u3]) ∧ (∀ X, SqB K H b1 a1 X → X[i]? = some u1) ∧ (∀ X, SqB K H b2 a2 X → X[i]? = some u2) ∧ (∀ X, SqB K H b3 a3 X → X[i]? = some u3),
    fun i H => ∃ X1 X2 X3 : List V, SqB K H b1 a1 X1 ∧ SqB K H b2 a2 X2 ∧ SqB K H b3 a3 X3 ∧ i ≤ X1.length ∧ i ≤ X2.length ∧ i ≤ X3.length ∧ (X1.length = i ∨ X2.length = i ∨ X3.length = i)⟩
theorem turnN3 {P : Program} {w : World} {K : PySem.W.Frag} {elts : List Expr} {kk : Nat} {tpos : Pos} {b1 b2 b3 : Bool} {a1 a2 a3 z TI TO i1 i2 i3 : Addr} (D : ZipSep3 z TI TO i1 i2 i3 [i1, a1] [i2, a2] [i3, a3]) :
    L2.Turn P w K (.Tuple elts kk tpos) (ItN3 K b1 b2 b3 a1 a2 a3) [z, TI, TO, i1, i2, i3] z (fun i h => IsZip h z TI TO .none ∧ IsTupOf3 h TI (.ref i1) (.ref i2) (.ref i3) ∧ (∃ e1 e2 e3, IsTupOf3 h TO e1 e2 e3) ∧ IterB b1 h i1 a1 i ∧ IterB b2 h i2 a2 i ∧ IterB b3 h i3 a3 i) where
  mem := by simp
  obj := fun i h ⟨hz, hTI, ⟨e1, e2, e3, hTO⟩, t1, t2, t3⟩ c hc => by
    simp only [List.mem_cons, List.not_mem_nil, or_false] at hc; rcases hc with q | q | q | q | q | q
    · rw [q]; exact ⟨_, hz, fun v q => nomatch q⟩
    · rw [q]; exact ⟨_, hTI, fun v q => nomatch q⟩
    · rw [q]; exact ⟨_, hTO, fun v q => nomatch q⟩
    · rw [q]; exact t1.obj
    · rw [q]; exact t2.obj
    · rw [q]; exact t3.obj
  keep := fun i h h2 ⟨hz, hTI, ⟨e1, e2, e3, hTO⟩, t1, t2, t3⟩ k => ⟨k z (by simp) _ hz, k TI (by simp) _ hTI, ⟨e1, e2, e3, k TO (by simp) _ hTO⟩, t1.at fun o q => k i1 (by simp) o q, t2.at fun o q => k i2 (by simp) o q, t3.at fun o q => k i3 (by simp) o q⟩
  item := by
    intro X hP hw hK hc i pins s σ H E I hf st hg; subst hP hw hK
    obtain ⟨hz, hTI, ⟨e1, e2, e3, hTO⟩, t1, t2, t3⟩ := st; obtain ⟨X1, X2, X3, u1, u2, u3, hq1, hq2, hq3, hx1, hx2, hx3⟩ := hg
    obtain ⟨w1, rv1, p1, lt1⟩ := inv_seqB I hq1; obtain ⟨v1, hv1, ru1⟩ := rv1.get hx1; have m1 : a1 ≠ i1 := t1.ne p1
    obtain ⟨w2, rv2, p2, lt2⟩ := inv_seqB I hq2; obtain ⟨v2, hv2, ru2⟩ := rv2.get hx2; have m2 : a2 ≠ i2 := t2.ne p2
    obtain ⟨w3, rv3, p3, lt3⟩ := inv_seqB I hq3; obtain ⟨v3, hv3, ru3⟩ := rv3.get hx3; have m3 : a3 ≠ i3 := t3.ne p3
    have hzl : z < s.heap.objs.size := Heap.lt_size hz; have hd : X.A.in1.handled = none := I.ok.hd hc
    refine wpAny_pyNext_zipD3_item D (drawsB hd b1 i1 a1 m1 w1.toArray) (drawsB hd b2 i2 a2 m2 w2.toArray) (drawsB hd b3 i3 a3 m3 w3.toArray) hz hTI hTO ⟨t1, p1⟩ ⟨t2, p2⟩ ⟨t3, p3⟩ (by simp; exact (List.getElem?_eq_some_iff.mp hv1).1) (by simp; exact (List.getElem?_eq_some_iff.mp hv2).1) (by simp; exact (List.getElem?_eq_some_iff.mp hv3).1) fun g1 g2 g3 h1 tk y1 y2 y3 z1 o1 s1 s2 s3 hT hsz hk => ?_
    have ev1 : g1 = v1 := by simp at y1; rw [hv1] at y1; exact (Option.some.inj y1).symm
    have ev2 : g2 = v2 := by simp at y2; rw [hv2] at y2; exact (Option.some.inj y2).symm
    have ev3 : g3 = v3 := by simp at y3; rw [hv3] at y3; exact (Option.some.inj y3).symm
    subst ev1 ev2 ev3
    refine ⟨_, rfl, wpAny_letOwnedTupleGo_zip (s := { s with heap := h1, toks := tk }) z1 fun h3 z3 sb => ?_⟩
    have hT2 : h3.get? s.heap.objs.size = some { cls := .type "tuple", data := .seq #[g1, g2, g3] } := (sb.2 _ (Nat.ne_of_gt hzl)).trans hT
    have new : ObjOk X.prog X.w (upd H s.heap.objs.size (.tup [u1, u2, u3])) h3 s.heap.objs.size (.tup [u1, u2, u3]) := ⟨by show 3 ≤ sizeLine; decide, [g1, g2, g3], .cons ru1 (.cons ru2 (.cons ru3 .nil)), ⟨_, hT2, rfl, _, rfl⟩⟩
    have I1 : Inv X pins σ (upd H s.heap.objs.size (.tup [u1, u2, u3])) { s with heap := h3, toks := tk } :=
      I.turnedNew (t' := tk) (ch := [z, TI, TO, i1, i2, i3]) (fun c o hb q => (sb.2 c (fun r => hb (by simp [r]))).trans (hk c o (fun r => hb (by simp [r])) (fun r => hb (by simp [r])) (fun r => hb (by simp [r])) (fun r => hb (by simp [r])) (fun r => hb (by simp [r])) q)) hf (Nat.le_refl _) new
    refine ⟨.ref s.heap.objs.size, _, I1, rfl, ⟨_, u1, u2, u3, rfl, I.hok.fresh (Nat.le_refl _), rfl, fun X2 hX => by rw [inv_injB I hX hq1]; exact hx1, fun X2 hX => by rw [inv_injB I hX hq2]; exact hx2, fun X2 hX => by rw [inv_injB I hX hq3]; exact hx3⟩, ⟨z3, ?_, ⟨g1, g2, g3, ?_⟩, ?_, ?_, ?_⟩, fun c hcm => ?_⟩
    · exact (sb.2 _ D.TIz).trans (hk _ _ D.TIz D.TITO D.TIi1 D.TIi2 D.TIi3 hTI)
    · exact (sb.2 _ D.TOz).trans o1
    · exact s1.1.at fun o q => (sb.2 _ (Ne.symm D.zi1)).trans q
    · exact s2.1.at fun o q => (sb.2 _ (Ne.symm D.zi2)).trans q
    · exact s3.1.at fun o q => (sb.2 _ (Ne.symm D.zi3)).trans q
    · have hlt : c < s.heap.objs.size := by
        simp only [List.mem_cons, List.not_mem_nil, or_false] at hcm; rcases hcm with q | q | q | q | q | q
        · rw [q]; exact hzl
        · rw [q]; exact Heap.lt_size hTI
        · rw [q]; exact Heap.lt_size hTO
        · rw [q]; exact t1.lt
        · rw [q]; exact t2.lt
        · rw [q]; exact t3.lt
      rw [upd_ne (Nat.ne_of_lt hlt)]; exact (hf c hcm).1
  done := by
    intro X hP hw hK hc i pins s σ H E I hf st hg; subst hP hw hK
    obtain ⟨hz, hTI, ⟨e1, e2, e3, hTO⟩, t1, t2, t3⟩ := st; obtain ⟨X1, X2, X3, hq1, hq2, hq3, hl1, hl2, hl3, hend⟩ := hg
    obtain ⟨w1, rv1, p1, lt1⟩ := inv_seqB I hq1; have m1 : a1 ≠ i1 := t1.ne p1; have ll1 := rv1.length
    obtain ⟨w2, rv2, p2, lt2⟩ := inv_seqB I hq2; have m2 : a2 ≠ i2 := t2.ne p2; have ll2 := rv2.length
    obtain ⟨w3, rv3, p3, lt3⟩ := inv_seqB I hq3; have m3 : a3 ≠ i3 := t3.ne p3; have ll3 := rv3.length
    have hd : X.A.in1.handled = none := I.ok.hd hc
    exact wpAny_pyNext_zipD3_end D (drawsB hd b1 i1 a1 m1 w1.toArray) (drawsB hd b2 i2 a2 m2 w2.toArray) (drawsB hd b3 i3 a3 m3 w3.toArray) hz hTI hTO ⟨t1, p1⟩ ⟨t2, p2⟩ ⟨t3, p3⟩ (by simp; omega) (by simp; omega) (by simp; omega) (by simp; omega) fun h1 tk hk => ⟨rfl, I.turnedL (t' := tk) (ch := [z, TI, TO, i1, i2, i3]) (fun c o hb q =>
      hk c o (fun r => hb (by simp [r])) (fun r => hb (by simp [r])) (fun r => hb (by simp [r])) (fun r => hb (by simp [r])) (fun r => hb (by simp [r])) q) hf⟩
  self := fun A i s Q E st h => wpAny_pyIter_zip st.1 h
theorem sepN3 (n a1 a2 a3 : Nat) (h1 : a1 < n) (h2 : a2 < n) (h3 : a3 < n) : ZipSep3 (n + 5) (n + 3) (n + 4) n (n + 1) (n + 2) [n, a1] [n + 1, a2] [n + 2, a3] := by
  have two : ∀ {x y z : Nat}, x ≠ y → x ≠ z → x ∉ [y, z] := fun h1 h2 hm => (List.mem_cons.mp hm).elim h1 fun h => h2 (List.mem_singleton.mp h)
  exact ⟨(by omega : n + 3 ≠ n + 5),
    (by omega : n + 4 ≠ n + 5),
    (by omega : n + 3 ≠ n + 4),
    (show n + 3 ≠ n + 0 by omega),
    List.mem_cons_self,
    two (show n + 5 ≠ n + 0 by omega) (show n + 5 ≠ a1 by omega),
    two (show n + 4 ≠ n + 0 by omega) (show n + 4 ≠ a1 by omega),
    (show n + 3 ≠ n + 1 by omega),
    List.mem_cons_self,
    two (show n + 5 ≠ n + 1 by omega) (show n + 5 ≠ a2 by omega),
    two (show n + 4 ≠ n + 1 by omega) (show n + 4 ≠ a2 by omega),
    (show n + 3 ≠ n + 2 by omega),
    List.mem_cons_self,
    two (show n + 5 ≠ n + 2 by omega) (show n + 5 ≠ a3 by omega),
    two (show n + 4 ≠ n + 2 by omega) (show n + 4 ≠ a3 by omega),
    two (show n + 0 ≠ n + 1 by omega) (show n + 0 ≠ a2 by omega),
    two (show n + 0 ≠ n + 2 by omega) (show n + 0 ≠ a3 by omega),
    two (show n + 1 ≠ n + 0 by omega) (show n + 1 ≠ a1 by omega),
    two (show n + 1 ≠ n + 2 by omega) (show n + 1 ≠ a3 by omega),
    two (show n + 2 ≠ n + 0 by omega) (show n + 2 ≠ a1 by omega),
    two (show n + 2 ≠ n + 1 by omega) (show n + 2 ≠ a2 by omega)⟩
def iZipN3 (K : PySem.W.Frag) (b1 b2 b3 : Bool) (ta : TA) : TI := fun σ H R => ta σ H fun vs H1 => ∃ a1 a2 a3 X1 X2 X3, vs = [.ref a1, .ref a2, .ref a3] ∧ SqB K H1 b1 a1 X1 ∧ SqB K H1 b2 a2 X2 ∧ SqB K H1 b3 a3 X3 ∧ R (ItN3 K b1 b2 b3 a1 a2 a3) H1
theorem pi_zipN3 {X : Cx} {K : PySem.W.Frag} {x1 x2 x3 : Expr} {ta : TA} {b1 b2 b3 : Bool} {p pos tpos : Pos} {elts : List Expr} {kk : Nat} (hK : X.K = K) (hg : Gl X "zip") (hm : X.mg "zip" = none) (ha : PA X [x1, x2, x3] ta)
    (hs : starEach [x1, x2, x3] X.env = (false, eval x1 X.env) :: starEach [x2, x3] X.env := by rfl) (hpl : (backTo pos (starEach [x2, x3] X.env)).any (·.1) = false := by rfl) : PI X (.Tuple elts kk tpos) (.Call (.Name "zip" p) [x1, x2, x3] [] pos) (iZipN3 K b1 b2 b3 ta) := by
  subst hK; refine ⟨fun pins s σ H R I h => ?_⟩
  refine Call_ (ld_blt I hg hm PyProof.Rows.boot_zip (PyProof.Rows.callWith_type1 (thn (ha.run pos pins s σ H _ I h) fun us s1 ⟨vs, H1, I1, r1, q1⟩ => ?_) hs hpl)); obtain ⟨a1, a2, a3, X1, X2, X3, ex, hq1, hq2, hq3, q⟩ := q1; subst ex
  have eu := vals_refs (as := [a1, a2, a3]) r1; subst eu
  obtain ⟨w1, rv1, p1, lt1⟩ := inv_seqB I1 hq1
  obtain ⟨w2, rv2, p2, lt2⟩ := inv_seqB I1 hq2
  obtain ⟨w3, rv3, p3, lt3⟩ := inv_seqB I1 hq3
  have fresh : ∀ c, c ∈ [s1.heap.objs.size + 5, s1.heap.objs.size + 3, s1.heap.objs.size + 4, s1.heap.objs.size, s1.heap.objs.size + 1, s1.heap.objs.size + 2] → FpOk X pins H1 c := fun c hcm => by
    have hle : s1.heap.objs.size ≤ c := by
      simp only [List.mem_cons, List.not_mem_nil, or_false] at hcm; rcases hcm with z | z | z | z | z | z <;> (first | exact Nat.le_of_eq z.symm | (rw [z]; exact Nat.le_add_right _ _))
    exact I1.fpOk hle (I1.hok.fresh hle)
  refine zip_begins3 (beginsB b1 a1 w1.toArray) (beginsB b2 a2 w2.toArray) (beginsB b3 a3 w3.toArray) p1 p2 p3 fun h1 hz hTI hTO c1 c2 c3 hsz hk => wpAny_pyIter_zip hz ?_
  exact ⟨s1.heap.objs.size + 5, [s1.heap.objs.size + 5, s1.heap.objs.size + 3, s1.heap.objs.size + 4, s1.heap.objs.size, s1.heap.objs.size + 1, s1.heap.objs.size + 2], _, _, H1, rfl, I1.kept (t' := s1.toks) hk, turnN3 (sepN3 s1.heap.objs.size a1 a2 a3 lt1 lt2 lt3), ⟨hz, hTI, ⟨_, _, _, hTO⟩, iterB_new c1, iterB_new c2, iterB_new c3⟩, fresh, q⟩
section
variable [TabL] {K : PySem.W.Frag} {ρ : List Sl} {t1 t2 t3 : TE}
def zipD3 : List Dt → List Dt → List Dt → List Dt
  | d1 :: ds1, d2 :: ds2, d3 :: ds3 => .tuple [d1, d2, d3] :: zipD3 ds1 ds2 ds3
  | _, _, _ => []
theorem zipD3_len : ∀ (ds1 ds2 ds3 : List Dt), (zipD3 ds1 ds2 ds3).length = min (min ds1.length ds2.length) ds3.length
  | d1 :: ds1, d2 :: ds2, d3 :: ds3 => by simp [zipD3, zipD3_len ds1 ds2 ds3]
  | [], _, _ => by simp [zipD3]
  | _ :: _, [], _ => by simp [zipD3]
  | _ :: _, _ :: _, [] => by simp [zipD3]
theorem zipD3_get : ∀ {ds1 ds2 ds3 : List Dt} {i : Nat} {d : Dt}, (zipD3 ds1 ds2 ds3)[i]? = some d → ∃ d1 d2 d3, ds1[i]? = some d1 ∧ ds2[i]? = some d2 ∧ ds3[i]? = some d3 ∧ d = .tuple [d1, d2, d3]
  | _ :: _, _ :: _, _ :: _, 0, d, e => by simp [zipD3] at e; exact ⟨_, _, _, rfl, rfl, rfl, e.symm⟩
  | _ :: _, _ :: _, _ :: _, i + 1, d, e => by simp only [List.getElem?_cons_succ]; exact zipD3_get (i := i) (by simpa [zipD3] using e)
  | [], _, _, _, _, e => by simp [zipD3] at e
  | _ :: _, [], _, _, _, e => by simp [zipD3] at e
  | _ :: _, _ :: _, [], _, _, e => by simp [zipD3] at e
theorem it_zipN3 {b1 b2 b3 : Bool} {a1 a2 a3 : Addr} {ds1 ds2 ds3 : List Dt} : ItOk K (ItN3 K b1 b2 b3 a1 a2 a3) [(.ref a1, seqD b1 ds1), (.ref a2, seqD b2 ds2), (.ref a3, seqD b3 ds3)] (zipD3 ds1 ds2 ds3) where
  go := fun M0 H0 σ H ρ T i d s e => by
    obtain ⟨M, st⟩ := id s
    obtain ⟨X1, h1, g1⟩ := dn_seqB (st.at (v := .ref a1) (d := seqD b1 ds1) (by simp)); have q1 := sqB_mono st.bs.mh h1
    obtain ⟨X2, h2, g2⟩ := dn_seqB (st.at (v := .ref a2) (d := seqD b2 ds2) (by simp)); have q2 := sqB_mono st.bs.mh h2
    obtain ⟨X3, h3, g3⟩ := dn_seqB (st.at (v := .ref a3) (d := seqD b3 ds3) (by simp)); have q3 := sqB_mono st.bs.mh h3
    obtain ⟨d1, d2, d3, e1, e2, e3, rfl⟩ := zipD3_get e
    obtain ⟨v1, ev1, hv1⟩ := g1.get e1
    obtain ⟨v2, ev2, hv2⟩ := g2.get e2
    obtain ⟨v3, ev3, hv3⟩ := g3.get e3
    refine ⟨⟨X1, X2, X3, v1, v2, v3, q1, q2, q3, ev1, ev2, ev3⟩, fun x H2 y => ?_⟩
    obtain ⟨p, x1, x2, x3, rfl, nn, rfl, k1, k2, k3⟩ := y
    rw [Option.some.inj ((k1 X1 q1).symm.trans ev1), Option.some.inj ((k2 X2 q2).symm.trans ev2), Option.some.inj ((k3 X3 q3).symm.trans ev3)]
    exact Sta.tupN st nn (.cons hv1 (.cons hv2 (.cons hv3 .nil)))
  stop := fun M0 H0 σ H ρ T i s l => by
    obtain ⟨M, st⟩ := id s
    obtain ⟨X1, h1, g1⟩ := dn_seqB (st.at (v := .ref a1) (d := seqD b1 ds1) (by simp)); have q1 := sqB_mono st.bs.mh h1; have l1 := g1.len
    obtain ⟨X2, h2, g2⟩ := dn_seqB (st.at (v := .ref a2) (d := seqD b2 ds2) (by simp)); have q2 := sqB_mono st.bs.mh h2; have l2 := g2.len
    obtain ⟨X3, h3, g3⟩ := dn_seqB (st.at (v := .ref a3) (d := seqD b3 ds3) (by simp)); have q3 := sqB_mono st.bs.mh h3; have l3 := g3.len
    rw [zipD3_len] at l; exact ⟨X1, X2, X3, q1, q2, q3, by omega, by omega, by omega, by omega⟩
theorem ei_zipN3 {b1 b2 b3 : Bool} {ds1 ds2 ds3 : List Dt} (h1 : Ev K t1 ρ (seqD b1 ds1)) (h2 : Ev K t2 ρ (seqD b2 ds2)) (h3 : Ev K t3 ρ (seqD b3 ds3)) : EvI K (iZipN3 K b1 b2 b3 (tCons t1 (tCons t2 (tCons t3 tNil)))) ρ (zipD3 ds1 ds2 ds3) := fun M0 H0 σ H T R s q =>
  h1 M0 H0 σ H T _ s fun v1 H1 s1 => h2 M0 H0 σ H1 _ _ s1 fun v2 H2 s2 => h3 M0 H0 σ H2 _ _ s2 fun v3 H3 s3 => by
    obtain ⟨M, st⟩ := id s3
    obtain ⟨a1, rfl⟩ := dn_seqRef (st.at (v := v1) (d := seqD b1 ds1) (by simp)); obtain ⟨X1, g1, _⟩ := dn_seqB (st.at (v := .ref a1) (d := seqD b1 ds1) (by simp))
    obtain ⟨a2, rfl⟩ := dn_seqRef (st.at (v := v2) (d := seqD b2 ds2) (by simp)); obtain ⟨X2, g2, _⟩ := dn_seqB (st.at (v := .ref a2) (d := seqD b2 ds2) (by simp))
    obtain ⟨a3, rfl⟩ := dn_seqRef (st.at (v := v3) (d := seqD b3 ds3) (by simp)); obtain ⟨X3, g3, _⟩ := dn_seqB (st.at (v := .ref a3) (d := seqD b3 ds3) (by simp))
    exact ⟨a1, a2, a3, X1, X2, X3, rfl, sqB_mono st.bs.mh g1, sqB_mono st.bs.mh g2, sqB_mono st.bs.mh g3, q _ H3 [(.ref a1, seqD b1 ds1), (.ref a2, seqD b2 ds2), (.ref a3, seqD b3 ds3)] (s3.same_sub fun p hp => by simp at hp; rcases hp with rfl | rfl | rfl | hp <;> simp [*]) it_zipN3⟩
end
/-- 4 sources, each a list or a tuple -/
def ItN4 (K : PySem.W.Frag) (b1 b2 b3 b4 : Bool) (a1 a2 a3 a4 : Addr) : It :=
  ⟨fun i H => ∃ (X1 X2 X3 X4 : List V) (u1 u2 u3 u4 : V), SqB K H b1 a1 X1 ∧ SqB K H b2 a2 X2 ∧ SqB K H b3 a3 X3 ∧ SqB K H b4 a4 X4 ∧ X1[i]? = some u1 ∧ X2[i]? = some u2 ∧ X3[i]? = some u3 ∧ X4[i]? = some u4,
    fun i H v H2 => ∃ T u1 u2 u3 u4, v = .ref T ∧ H T = none ∧ H2 = upd H T (.tup [u1, u2, u3, u4]) ∧ (∀ X, SqB K H b1 a1 X → X[i]? = some u1) ∧ (∀ X, SqB K H b2 a2 X → X[i]? = some u2) ∧ (∀ X, SqB K H b3 a3 X → X[i]? = some u3) ∧ (∀ X, SqB K H b4 a4 X → X[i]? = some u4),
    fun i H => ∃ X1 X2 X3 X4 : List V, SqB K H b1 a1 X1 ∧ SqB K H b2 a2 X2 ∧ SqB K H b3 a3 X3 ∧ SqB K H b4 a4 X4 ∧ i ≤ X1.length ∧ i ≤ X2.length ∧ i ≤ X3.length ∧ i ≤ X4.length ∧ (X1.length = i ∨ X2.length = i ∨ X3.length = i ∨ X4.length = i)⟩
theorem turnN4 {P : Program} {w : World} {K : PySem.W.Frag} {elts : List Expr} {kk : Nat} {tpos : Pos} {b1 b2 b3 b4 : Bool} {a1 a2 a3 a4 z TI TO i1 i2 i3 i4 : Addr} (D : Sep4 z TI TO i1 i2 i3 i4 [i1, a1] [i2, a2] [i3, a3] [i4, a4]) :
    L2.Turn P w K (.Tuple elts kk tpos) (ItN4 K b1 b2 b3 b4 a1 a2 a3 a4) [z, TI, TO, i1, i2, i3, i4] z (fun i h => IsZip h z TI TO .none ∧ Tp4 h TI (.ref i1) (.ref i2) (.ref i3) (.ref i4) ∧ (∃ e1 e2 e3 e4, Tp4 h TO e1 e2 e3 e4) ∧ IterB b1 h i1 a1 i ∧ IterB b2 h i2 a2 i ∧ IterB b3 h i3 a3 i ∧ IterB b4 h i4 a4 i) where
  mem := by simp
  obj := fun i h ⟨hz, hTI, ⟨e1, e2, e3, e4, hTO⟩, t1, t2, t3, t4⟩ c hc => by
    simp only [List.mem_cons, List.not_mem_nil, or_false] at hc; rcases hc with q | q | q | q | q | q | q
    · rw [q]; exact ⟨_, hz, fun v q => nomatch q⟩
    · rw [q]; exact ⟨_, hTI, fun v q => nomatch q⟩
    · rw [q]; exact ⟨_, hTO, fun v q => nomatch q⟩
    · rw [q]; exact t1.obj
    · rw [q]; exact t2.obj
    · rw [q]; exact t3.obj
    · rw [q]; exact t4.obj
  keep := fun i h h2 ⟨hz, hTI, ⟨e1, e2, e3, e4, hTO⟩, t1, t2, t3, t4⟩ k => ⟨k z (by simp) _ hz, k TI (by simp) _ hTI, ⟨e1, e2, e3, e4, k TO (by simp) _ hTO⟩, t1.at fun o q => k i1 (by simp) o q, t2.at fun o q => k i2 (by simp) o q, t3.at fun o q => k i3 (by simp) o q, t4.at fun o q => k i4 (by simp) o q⟩
  item := by
    intro X hP hw hK hc i pins s σ H E I hf st hg; subst hP hw hK
    obtain ⟨hz, hTI, ⟨e1, e2, e3, e4, hTO⟩, t1, t2, t3, t4⟩ := st; obtain ⟨X1, X2, X3, X4, u1, u2, u3, u4, hq1, hq2, hq3, hq4, hx1, hx2, hx3, hx4⟩ := hg
    obtain ⟨w1, rv1, p1, lt1⟩ := inv_seqB I hq1; obtain ⟨v1, hv1, ru1⟩ := rv1.get hx1; have m1 : a1 ≠ i1 := t1.ne p1
    obtain ⟨w2, rv2, p2, lt2⟩ := inv_seqB I hq2; obtain ⟨v2, hv2, ru2⟩ := rv2.get hx2; have m2 : a2 ≠ i2 := t2.ne p2
    obtain ⟨w3, rv3, p3, lt3⟩ := inv_seqB I hq3; obtain ⟨v3, hv3, ru3⟩ := rv3.get hx3; have m3 : a3 ≠ i3 := t3.ne p3
    obtain ⟨w4, rv4, p4, lt4⟩ := inv_seqB I hq4; obtain ⟨v4, hv4, ru4⟩ := rv4.get hx4; have m4 : a4 ≠ i4 := t4.ne p4
    have hzl : z < s.heap.objs.size := Heap.lt_size hz; have hd : X.A.in1.handled = none := I.ok.hd hc
    refine zip4_next_item D (drawsB hd b1 i1 a1 m1 w1.toArray) (drawsB hd b2 i2 a2 m2 w2.toArray) (drawsB hd b3 i3 a3 m3 w3.toArray) (drawsB hd b4 i4 a4 m4 w4.toArray) hz hTI hTO ⟨t1, p1⟩ ⟨t2, p2⟩ ⟨t3, p3⟩ ⟨t4, p4⟩ (by simp; exact (List.getElem?_eq_some_iff.mp hv1).1) (by simp; exact (List.getElem?_eq_some_iff.mp hv2).1) (by simp; exact (List.getElem?_eq_some_iff.mp hv3).1) (by simp; exact (List.getElem?_eq_some_iff.mp hv4).1) fun g1 g2 g3 g4 h1 tk y1 y2 y3 y4 z1 o1 s1 s2 s3 s4 hT hsz hk => ?_
    have ev1 : g1 = v1 := by simp at y1; rw [hv1] at y1; exact (Option.some.inj y1).symm
    have ev2 : g2 = v2 := by simp at y2; rw [hv2] at y2; exact (Option.some.inj y2).symm
    have ev3 : g3 = v3 := by simp at y3; rw [hv3] at y3; exact (Option.some.inj y3).symm
    have ev4 : g4 = v4 := by simp at y4; rw [hv4] at y4; exact (Option.some.inj y4).symm
    subst ev1 ev2 ev3 ev4
    refine ⟨_, rfl, wpAny_letOwnedTupleGo_zip (s := { s with heap := h1, toks := tk }) z1 fun h3 z3 sb => ?_⟩
    have hT2 : h3.get? s.heap.objs.size = some { cls := .type "tuple", data := .seq #[g1, g2, g3, g4] } := (sb.2 _ (Nat.ne_of_gt hzl)).trans hT
    have new : ObjOk X.prog X.w (upd H s.heap.objs.size (.tup [u1, u2, u3, u4])) h3 s.heap.objs.size (.tup [u1, u2, u3, u4]) := ⟨by show 4 ≤ sizeLine; decide, [g1, g2, g3, g4], .cons ru1 (.cons ru2 (.cons ru3 (.cons ru4 .nil))), ⟨_, hT2, rfl, _, rfl⟩⟩
    have I1 : Inv X pins σ (upd H s.heap.objs.size (.tup [u1, u2, u3, u4])) { s with heap := h3, toks := tk } :=
      I.turnedNew (t' := tk) (ch := [z, TI, TO, i1, i2, i3, i4]) (fun c o hb q => (sb.2 c (fun r => hb (by simp [r]))).trans (hk c o (fun r => hb (by simp [r])) (fun r => hb (by simp [r])) (fun r => hb (by simp [r])) (fun r => hb (by simp [r])) (fun r => hb (by simp [r])) (fun r => hb (by simp [r])) q)) hf (Nat.le_refl _) new
    refine ⟨.ref s.heap.objs.size, _, I1, rfl, ⟨_, u1, u2, u3, u4, rfl, I.hok.fresh (Nat.le_refl _), rfl, fun X2 hX => by rw [inv_injB I hX hq1]; exact hx1, fun X2 hX => by rw [inv_injB I hX hq2]; exact hx2, fun X2 hX => by rw [inv_injB I hX hq3]; exact hx3, fun X2 hX => by rw [inv_injB I hX hq4]; exact hx4⟩, ⟨z3, ?_, ⟨g1, g2, g3, g4, ?_⟩, ?_, ?_, ?_, ?_⟩, fun c hcm => ?_⟩
    · exact (sb.2 _ D.tc).trans (hk _ _ D.tc D.io D.ti1 D.ti2 D.ti3 D.ti4 hTI)
    · exact (sb.2 _ D.oc).trans o1
    · exact s1.1.at fun o q => (sb.2 _ (Ne.symm D.cj1)).trans q
    · exact s2.1.at fun o q => (sb.2 _ (Ne.symm D.cj2)).trans q
    · exact s3.1.at fun o q => (sb.2 _ (Ne.symm D.cj3)).trans q
    · exact s4.1.at fun o q => (sb.2 _ (Ne.symm D.cj4)).trans q
    · have hlt : c < s.heap.objs.size := by
        simp only [List.mem_cons, List.not_mem_nil, or_false] at hcm; rcases hcm with q | q | q | q | q | q | q
        · rw [q]; exact hzl
        · rw [q]; exact Heap.lt_size hTI
        · rw [q]; exact Heap.lt_size hTO
        · rw [q]; exact t1.lt
        · rw [q]; exact t2.lt
        · rw [q]; exact t3.lt
        · rw [q]; exact t4.lt
      rw [upd_ne (Nat.ne_of_lt hlt)]; exact (hf c hcm).1
  done := by
    intro X hP hw hK hc i pins s σ H E I hf st hg; subst hP hw hK
    obtain ⟨hz, hTI, ⟨e1, e2, e3, e4, hTO⟩, t1, t2, t3, t4⟩ := st; obtain ⟨X1, X2, X3, X4, hq1, hq2, hq3, hq4, hl1, hl2, hl3, hl4, hend⟩ := hg
    obtain ⟨w1, rv1, p1, lt1⟩ := inv_seqB I hq1; have m1 : a1 ≠ i1 := t1.ne p1; have ll1 := rv1.length
    obtain ⟨w2, rv2, p2, lt2⟩ := inv_seqB I hq2; have m2 : a2 ≠ i2 := t2.ne p2; have ll2 := rv2.length
    obtain ⟨w3, rv3, p3, lt3⟩ := inv_seqB I hq3; have m3 : a3 ≠ i3 := t3.ne p3; have ll3 := rv3.length
    obtain ⟨w4, rv4, p4, lt4⟩ := inv_seqB I hq4; have m4 : a4 ≠ i4 := t4.ne p4; have ll4 := rv4.length
    have hd : X.A.in1.handled = none := I.ok.hd hc
    exact zip4_next_end D (drawsB hd b1 i1 a1 m1 w1.toArray) (drawsB hd b2 i2 a2 m2 w2.toArray) (drawsB hd b3 i3 a3 m3 w3.toArray) (drawsB hd b4 i4 a4 m4 w4.toArray) hz hTI hTO ⟨t1, p1⟩ ⟨t2, p2⟩ ⟨t3, p3⟩ ⟨t4, p4⟩ (by simp; omega) (by simp; omega) (by simp; omega) (by simp; omega) (by simp; omega) fun h1 tk hk => ⟨rfl, I.turnedL (t' := tk) (ch := [z, TI, TO, i1, i2, i3, i4]) (fun c o hb q =>
      hk c o (fun r => hb (by simp [r])) (fun r => hb (by simp [r])) (fun r => hb (by simp [r])) (fun r => hb (by simp [r])) (fun r => hb (by simp [r])) (fun r => hb (by simp [r])) q) hf⟩
  self := fun A i s Q E st h => wpAny_pyIter_zip st.1 h
theorem sepN4 (n a1 a2 a3 a4 : Nat) (h1 : a1 < n) (h2 : a2 < n) (h3 : a3 < n) (h4 : a4 < n) : Sep4 (n + 6) (n + 4) (n + 5) n (n + 1) (n + 2) (n + 3) [n, a1] [n + 1, a2] [n + 2, a3] [n + 3, a4] := by
  have two : ∀ {x y z : Nat}, x ≠ y → x ≠ z → x ∉ [y, z] := fun h1 h2 hm => (List.mem_cons.mp hm).elim h1 fun h => h2 (List.mem_singleton.mp h)
  exact ⟨(by omega : n + 4 ≠ n + 6),
    (by omega : n + 5 ≠ n + 6),
    (by omega : n + 4 ≠ n + 5),
    (show n + 4 ≠ n + 0 by omega),
    List.mem_cons_self,
    two (show n + 6 ≠ n + 0 by omega) (show n + 6 ≠ a1 by omega),
    two (show n + 5 ≠ n + 0 by omega) (show n + 5 ≠ a1 by omega),
    (show n + 4 ≠ n + 1 by omega),
    List.mem_cons_self,
    two (show n + 6 ≠ n + 1 by omega) (show n + 6 ≠ a2 by omega),
    two (show n + 5 ≠ n + 1 by omega) (show n + 5 ≠ a2 by omega),
    (show n + 4 ≠ n + 2 by omega),
    List.mem_cons_self,
    two (show n + 6 ≠ n + 2 by omega) (show n + 6 ≠ a3 by omega),
    two (show n + 5 ≠ n + 2 by omega) (show n + 5 ≠ a3 by omega),
    (show n + 4 ≠ n + 3 by omega),
    List.mem_cons_self,
    two (show n + 6 ≠ n + 3 by omega) (show n + 6 ≠ a4 by omega),
    two (show n + 5 ≠ n + 3 by omega) (show n + 5 ≠ a4 by omega),
    two (show n + 0 ≠ n + 1 by omega) (show n + 0 ≠ a2 by omega),
    two (show n + 0 ≠ n + 2 by omega) (show n + 0 ≠ a3 by omega),
    two (show n + 0 ≠ n + 3 by omega) (show n + 0 ≠ a4 by omega),
    two (show n + 1 ≠ n + 0 by omega) (show n + 1 ≠ a1 by omega),
    two (show n + 1 ≠ n + 2 by omega) (show n + 1 ≠ a3 by omega),
    two (show n + 1 ≠ n + 3 by omega) (show n + 1 ≠ a4 by omega),
    two (show n + 2 ≠ n + 0 by omega) (show n + 2 ≠ a1 by omega),
    two (show n + 2 ≠ n + 1 by omega) (show n + 2 ≠ a2 by omega),
    two (show n + 2 ≠ n + 3 by omega) (show n + 2 ≠ a4 by omega),
    two (show n + 3 ≠ n + 0 by omega) (show n + 3 ≠ a1 by omega),
    two (show n + 3 ≠ n + 1 by omega) (show n + 3 ≠ a2 by omega),
    two (show n + 3 ≠ n + 2 by omega) (show n + 3 ≠ a3 by omega)⟩
def iZipN4 (K : PySem.W.Frag) (b1 b2 b3 b4 : Bool) (ta : TA) : TI := fun σ H R => ta σ H fun vs H1 => ∃ a1 a2 a3 a4 X1 X2 X3 X4, vs = [.ref a1, .ref a2, .ref a3, .ref a4] ∧ SqB K H1 b1 a1 X1 ∧ SqB K H1 b2 a2 X2 ∧ SqB K H1 b3 a3 X3 ∧ SqB K H1 b4 a4 X4 ∧ R (ItN4 K b1 b2 b3 b4 a1 a2 a3 a4) H1
theorem pi_zipN4 {X : Cx} {K : PySem.W.Frag} {x1 x2 x3 x4 : Expr} {ta : TA} {b1 b2 b3 b4 : Bool} {p pos tpos : Pos} {elts : List Expr} {kk : Nat} (hK : X.K = K) (hg : Gl X "zip") (hm : X.mg "zip" = none) (ha : PA X [x1, x2, x3, x4] ta)
    (hs : starEach [x1, x2, x3, x4] X.env = (false, eval x1 X.env) :: starEach [x2, x3, x4] X.env := by rfl) (hpl : (backTo pos (starEach [x2, x3, x4] X.env)).any (·.1) = false := by rfl) : PI X (.Tuple elts kk tpos) (.Call (.Name "zip" p) [x1, x2, x3, x4] [] pos) (iZipN4 K b1 b2 b3 b4 ta) := by
  subst hK; refine ⟨fun pins s σ H R I h => ?_⟩
  refine Call_ (ld_blt I hg hm PyProof.Rows.boot_zip (PyProof.Rows.callWith_type1 (thn (ha.run pos pins s σ H _ I h) fun us s1 ⟨vs, H1, I1, r1, q1⟩ => ?_) hs hpl)); obtain ⟨a1, a2, a3, a4, X1, X2, X3, X4, ex, hq1, hq2, hq3, hq4, q⟩ := q1; subst ex
  have eu := vals_refs (as := [a1, a2, a3, a4]) r1; subst eu
  obtain ⟨w1, rv1, p1, lt1⟩ := inv_seqB I1 hq1
  obtain ⟨w2, rv2, p2, lt2⟩ := inv_seqB I1 hq2
  obtain ⟨w3, rv3, p3, lt3⟩ := inv_seqB I1 hq3
  obtain ⟨w4, rv4, p4, lt4⟩ := inv_seqB I1 hq4
  have fresh : ∀ c, c ∈ [s1.heap.objs.size + 6, s1.heap.objs.size + 4, s1.heap.objs.size + 5, s1.heap.objs.size, s1.heap.objs.size + 1, s1.heap.objs.size + 2, s1.heap.objs.size + 3] → FpOk X pins H1 c := fun c hcm => by
    have hle : s1.heap.objs.size ≤ c := by
      simp only [List.mem_cons, List.not_mem_nil, or_false] at hcm; rcases hcm with z | z | z | z | z | z | z <;> (first | exact Nat.le_of_eq z.symm | (rw [z]; exact Nat.le_add_right _ _))
    exact I1.fpOk hle (I1.hok.fresh hle)
  refine zip4_begins (beginsB b1 a1 w1.toArray) (beginsB b2 a2 w2.toArray) (beginsB b3 a3 w3.toArray) (beginsB b4 a4 w4.toArray) p1 p2 p3 p4 fun h1 hz hTI hTO c1 c2 c3 c4 hsz hk => wpAny_pyIter_zip hz ?_
  exact ⟨s1.heap.objs.size + 6, [s1.heap.objs.size + 6, s1.heap.objs.size + 4, s1.heap.objs.size + 5, s1.heap.objs.size, s1.heap.objs.size + 1, s1.heap.objs.size + 2, s1.heap.objs.size + 3], _, _, H1, rfl, I1.kept (t' := s1.toks) hk, turnN4 (sepN4 s1.heap.objs.size a1 a2 a3 a4 lt1 lt2 lt3 lt4), ⟨hz, hTI, ⟨_, _, _, _, hTO⟩, iterB_new c1, iterB_new c2, iterB_new c3, iterB_new c4⟩, fresh, q⟩
section
variable [TabL] {K : PySem.W.Frag} {ρ : List Sl} {t1 t2 t3 t4 : TE}
def zipD4 : List Dt → List Dt → List Dt → List Dt → List Dt
  | d1 :: ds1, d2 :: ds2, d3 :: ds3, d4 :: ds4 => .tuple [d1, d2, d3, d4] :: zipD4 ds1 ds2 ds3 ds4
  | _, _, _, _ => []
theorem zipD4_len : ∀ (ds1 ds2 ds3 ds4 : List Dt), (zipD4 ds1 ds2 ds3 ds4).length = min (min (min ds1.length ds2.length) ds3.length) ds4.length
  | d1 :: ds1, d2 :: ds2, d3 :: ds3, d4 :: ds4 => by simp [zipD4, zipD4_len ds1 ds2 ds3 ds4]
  | [], _, _, _ => by simp [zipD4]
  | _ :: _, [], _, _ => by simp [zipD4]
  | _ :: _, _ :: _, [], _ => by simp [zipD4]
  | _ :: _, _ :: _, _ :: _, [] => by simp [zipD4]
theorem zipD4_get : ∀ {ds1 ds2 ds3 ds4 : List Dt} {i : Nat} {d : Dt}, (zipD4 ds1 ds2 ds3 ds4)[i]? = some d → ∃ d1 d2 d3 d4, ds1[i]? = some d1 ∧ ds2[i]? = some d2 ∧ ds3[i]? = some d3 ∧ ds4[i]? = some d4 ∧ d = .tuple [d1, d2, d3, d4]
  | _ :: _, _ :: _, _ :: _, _ :: _, 0, d, e => by simp [zipD4] at e; exact ⟨_, _, _, _, rfl, rfl, rfl, rfl, e.symm⟩
  | _ :: _, _ :: _, _ :: _, _ :: _, i + 1, d, e => by simp only [List.getElem?_cons_succ]; exact zipD4_get (i := i) (by simpa [zipD4] using e)
  | [], _, _, _, _, _, e => by simp [zipD4] at e
  | _ :: _, [], _, _, _, _, e => by simp [zipD4] at e
  | _ :: _, _ :: _, [], _, _, _, e => by simp [zipD4] at e
  | _ :: _, _ :: _, _ :: _, [], _, _, e => by simp [zipD4] at e
theorem it_zipN4 {b1 b2 b3 b4 : Bool} {a1 a2 a3 a4 : Addr} {ds1 ds2 ds3 ds4 : List Dt} : ItOk K (ItN4 K b1 b2 b3 b4 a1 a2 a3 a4) [(.ref a1, seqD b1 ds1), (.ref a2, seqD b2 ds2), (.ref a3, seqD b3 ds3), (.ref a4, seqD b4 ds4)] (zipD4 ds1 ds2 ds3 ds4) where
  go := fun M0 H0 σ H ρ T i d s e => by
    obtain ⟨M, st⟩ := id s
    obtain ⟨X1, h1, g1⟩ := dn_seqB (st.at (v := .ref a1) (d := seqD b1 ds1) (by simp)); have q1 := sqB_mono st.bs.mh h1
    obtain ⟨X2, h2, g2⟩ := dn_seqB (st.at (v := .ref a2) (d := seqD b2 ds2) (by simp)); have q2 := sqB_mono st.bs.mh h2
    obtain ⟨X3, h3, g3⟩ := dn_seqB (st.at (v := .ref a3) (d := seqD b3 ds3) (by simp)); have q3 := sqB_mono st.bs.mh h3
    obtain ⟨X4, h4, g4⟩ := dn_seqB (st.at (v := .ref a4) (d := seqD b4 ds4) (by simp)); have q4 := sqB_mono st.bs.mh h4
    obtain ⟨d1, d2, d3, d4, e1, e2, e3, e4, rfl⟩ := zipD4_get e
    obtain ⟨v1, ev1, hv1⟩ := g1.get e1
    obtain ⟨v2, ev2, hv2⟩ := g2.get e2
    obtain ⟨v3, ev3, hv3⟩ := g3.get e3
    obtain ⟨v4, ev4, hv4⟩ := g4.get e4
    refine ⟨⟨X1, X2, X3, X4, v1, v2, v3, v4, q1, q2, q3, q4, ev1, ev2, ev3, ev4⟩, fun x H2 y => ?_⟩
    obtain ⟨p, x1, x2, x3, x4, rfl, nn, rfl, k1, k2, k3, k4⟩ := y
    rw [Option.some.inj ((k1 X1 q1).symm.trans ev1), Option.some.inj ((k2 X2 q2).symm.trans ev2), Option.some.inj ((k3 X3 q3).symm.trans ev3), Option.some.inj ((k4 X4 q4).symm.trans ev4)]
    exact Sta.tupN st nn (.cons hv1 (.cons hv2 (.cons hv3 (.cons hv4 .nil))))
  stop := fun M0 H0 σ H ρ T i s l => by
    obtain ⟨M, st⟩ := id s
    obtain ⟨X1, h1, g1⟩ := dn_seqB (st.at (v := .ref a1) (d := seqD b1 ds1) (by simp)); have q1 := sqB_mono st.bs.mh h1; have l1 := g1.len
    obtain ⟨X2, h2, g2⟩ := dn_seqB (st.at (v := .ref a2) (d := seqD b2 ds2) (by simp)); have q2 := sqB_mono st.bs.mh h2; have l2 := g2.len
    obtain ⟨X3, h3, g3⟩ := dn_seqB (st.at (v := .ref a3) (d := seqD b3 ds3) (by simp)); have q3 := sqB_mono st.bs.mh h3; have l3 := g3.len
    obtain ⟨X4, h4, g4⟩ := dn_seqB (st.at (v := .ref a4) (d := seqD b4 ds4) (by simp)); have q4 := sqB_mono st.bs.mh h4; have l4 := g4.len
    rw [zipD4_len] at l; exact ⟨X1, X2, X3, X4, q1, q2, q3, q4, by omega, by omega, by omega, by omega, by omega⟩
theorem ei_zipN4 {b1 b2 b3 b4 : Bool} {ds1 ds2 ds3 ds4 : List Dt} (h1 : Ev K t1 ρ (seqD b1 ds1)) (h2 : Ev K t2 ρ (seqD b2 ds2)) (h3 : Ev K t3 ρ (seqD b3 ds3)) (h4 : Ev K t4 ρ (seqD b4 ds4)) : EvI K (iZipN4 K b1 b2 b3 b4 (tCons t1 (tCons t2 (tCons t3 (tCons t4 tNil))))) ρ (zipD4 ds1 ds2 ds3 ds4) := fun M0 H0 σ H T R s q =>
  h1 M0 H0 σ H T _ s fun v1 H1 s1 => h2 M0 H0 σ H1 _ _ s1 fun v2 H2 s2 => h3 M0 H0 σ H2 _ _ s2 fun v3 H3 s3 => h4 M0 H0 σ H3 _ _ s3 fun v4 H4 s4 => by
    obtain ⟨M, st⟩ := id s4
    obtain ⟨a1, rfl⟩ := dn_seqRef (st.at (v := v1) (d := seqD b1 ds1) (by simp)); obtain ⟨X1, g1, _⟩ := dn_seqB (st.at (v := .ref a1) (d := seqD b1 ds1) (by simp))
    obtain ⟨a2, rfl⟩ := dn_seqRef (st.at (v := v2) (d := seqD b2 ds2) (by simp)); obtain ⟨X2, g2, _⟩ := dn_seqB (st.at (v := .ref a2) (d := seqD b2 ds2) (by simp))
    obtain ⟨a3, rfl⟩ := dn_seqRef (st.at (v := v3) (d := seqD b3 ds3) (by simp)); obtain ⟨X3, g3, _⟩ := dn_seqB (st.at (v := .ref a3) (d := seqD b3 ds3) (by simp))
    obtain ⟨a4, rfl⟩ := dn_seqRef (st.at (v := v4) (d := seqD b4 ds4) (by simp)); obtain ⟨X4, g4, _⟩ := dn_seqB (st.at (v := .ref a4) (d := seqD b4 ds4) (by simp))
    exact ⟨a1, a2, a3, a4, X1, X2, X3, X4, rfl, sqB_mono st.bs.mh g1, sqB_mono st.bs.mh g2, sqB_mono st.bs.mh g3, sqB_mono st.bs.mh g4, q _ H4 [(.ref a1, seqD b1 ds1), (.ref a2, seqD b2 ds2), (.ref a3, seqD b3 ds3), (.ref a4, seqD b4 ds4)] (s4.same_sub fun p hp => by simp at hp; rcases hp with rfl | rfl | rfl | rfl | hp <;> simp [*]) it_zipN4⟩
end
end Fr
namespace Fr
open PySem PySem.Spec PyProof.Rows L2
mutual
theorem eqv_self : ∀ d : Dt, PyData.canLay0 d = true → PyData.eqv d d = true
  | .none, _ => rfl
  | .bool b, _ => by show (b == b) = true; simp
  | .int i, _ => by show (i == i) = true; simp
  | .str x, _ => by show (x == x) = true; simp
  | .list xs, h => eqvAll_self xs h
  | .tuple xs, h => eqvAll_self xs h
  | .dict _, h => by cases h
theorem eqvAll_self : ∀ ds : List Dt, PyData.canLayAll0 ds = true → PyData.eqvAll ds ds = true
  | [], _ => rfl
  | d :: ds, h => by
    have h : (PyData.canLay0 d && PyData.canLayAll0 ds) = true := h
    rw [Bool.and_eq_true] at h
    show (PyData.eqv d d && PyData.eqvAll ds ds) = true
    rw [eqv_self d h.1, eqvAll_self ds h.2]; rfl
end
/-- of a shape, so deep at most -/
def Shp (k : Nat) (d : Dt) : Prop := PyData.canLay0 d = true ∧ PyData.depth d ≤ k
theorem Shp.sh {k : Nat} {d : Dt} (h : Shp k d) (hk : k ≤ 64) : SeqAt.shaped d = true := by
  show (PyData.canLay0 d && decide (PyData.depth d ≤ 64)) = true
  rw [h.1, decide_eq_true (Nat.le_trans h.2 hk)]; rfl
theorem Shp.up {k l : Nat} {d : Dt} (h : Shp k d) (hk : k ≤ l) : Shp l d := ⟨h.1, Nat.le_trans h.2 hk⟩
theorem shp_int {k : Nat} (i : Int) : Shp k (.int i) := ⟨rfl, Nat.zero_le _⟩
theorem shp_none {k : Nat} : Shp k .none := ⟨rfl, Nat.zero_le _⟩
theorem shp_bool {k : Nat} (b : Bool) : Shp k (.bool b) := ⟨rfl, Nat.zero_le _⟩
theorem shp_str {k : Nat} {x : Str} (h : PyData.canLay0 (.str x) = true) : Shp k (.str x) := ⟨h, Nat.zero_le _⟩
theorem shpAll {k : Nat} : ∀ {ds : List Dt}, (∀ d ∈ ds, Shp k d) → PyData.canLayAll0 ds = true ∧ PyData.depthAll ds ≤ k
  | [], _ => ⟨rfl, Nat.zero_le _⟩
  | d :: ds, h => by
    obtain ⟨h1, h2⟩ := h d (by simp)
    obtain ⟨h3, h4⟩ := shpAll (ds := ds) fun e he => h e (by simp [he])
    refine ⟨?_, ?_⟩
    · show (PyData.canLay0 d && PyData.canLayAll0 ds) = true
      rw [h1, h3]; rfl
    · simp only [PyData.depthAll]; omega
theorem shp_list {k : Nat} {ds : List Dt} (h : ∀ d ∈ ds, Shp k d) : Shp (k + 1) (.list ds) := by
  obtain ⟨h1, h2⟩ := shpAll h
  exact ⟨h1, by simp only [PyData.depth]; omega⟩
theorem shp_tuple {k : Nat} {ds : List Dt} (h : ∀ d ∈ ds, Shp k d) : Shp (k + 1) (.tuple ds) := by
  obtain ⟨h1, h2⟩ := shpAll h
  exact ⟨h1, by simp only [PyData.depth]; omega⟩
theorem shp_map {α : Type} {k : Nat} {xs : List α} {f : α → Dt} (h : ∀ x, Shp k (f x)) : Shp (k + 1) (.list (xs.map f)) := shp_list fun d hd => by
  obtain ⟨x, _, rfl⟩ := List.mem_map.mp hd
  exact h x
theorem shp_mapT {α : Type} {k : Nat} {xs : List α} {f : α → Dt} (h : ∀ x, Shp k (f x)) : Shp (k + 1) (.tuple (xs.map f)) := shp_tuple fun d hd => by
  obtain ⟨x, _, rfl⟩ := List.mem_map.mp hd
  exact h x
theorem shp_t1 {k : Nat} {a : Dt} (ha : Shp k a) : Shp (k + 1) (.tuple [a]) := shp_tuple fun d hd => by
  simp at hd; subst hd; exact ha
theorem shp_t2 {k : Nat} {a b : Dt} (ha : Shp k a) (hb : Shp k b) : Shp (k + 1) (.tuple [a, b]) := shp_tuple fun d hd => by
  simp at hd; rcases hd with rfl | rfl <;> assumption
theorem shp_t3 {k : Nat} {a b c : Dt} (ha : Shp k a) (hb : Shp k b) (hc : Shp k c) : Shp (k + 1) (.tuple [a, b, c]) := shp_tuple fun d hd => by
  simp at hd; rcases hd with rfl | rfl | rfl <;> assumption
theorem shp_t4 {k : Nat} {a b c e : Dt} (ha : Shp k a) (hb : Shp k b) (hc : Shp k c) (he : Shp k e) : Shp (k + 1) (.tuple [a, b, c, e]) := shp_tuple fun d hd => by
  simp at hd; rcases hd with rfl | rfl | rfl | rfl <;> assumption
theorem shp_l2 {k : Nat} {a b : Dt} (ha : Shp k a) (hb : Shp k b) : Shp (k + 1) (.list [a, b]) := shp_list fun d hd => by
  simp at hd; rcases hd with rfl | rfl <;> assumption
theorem shp_app {k : Nat} {xs ys : List Dt} (hx : Shp k (.list xs)) (hy : Shp k (.list ys)) : Shp k (.list (xs ++ ys)) := by
  have la : ∀ {a b : List Dt}, PyData.canLayAll0 a = true → PyData.canLayAll0 b = true → PyData.canLayAll0 (a ++ b) = true := fun {a b} ha hb => by
    induction a with
    | nil => exact hb
    | cons x a ih =>
      have ha : (PyData.canLay0 x && PyData.canLayAll0 a) = true := ha
      rw [Bool.and_eq_true] at ha
      show (PyData.canLay0 x && PyData.canLayAll0 (a ++ b)) = true
      rw [ha.1, ih ha.2]; rfl
  have da : ∀ (a b : List Dt), PyData.depthAll (a ++ b) = max (PyData.depthAll a) (PyData.depthAll b) := fun a b => by
    induction a with
    | nil => simp [PyData.depthAll]
    | cons x a ih => simp only [List.cons_append, PyData.depthAll, ih]; omega
  refine ⟨la hx.1 hy.1, ?_⟩
  have h1 : PyData.depthAll xs + 1 ≤ k := by have := hx.2; simpa only [PyData.depth] using this
  have h2 : PyData.depthAll ys + 1 ≤ k := by have := hy.2; simpa only [PyData.depth] using this
  simp only [PyData.depth, da]; omega
theorem ne_self {d : Dt} (h : SeqAt.shaped d = true) : (!PyData.eqv d d) = false := by
  have h : (PyData.canLay0 d && decide (PyData.depth d ≤ 64)) = true := h
  rw [Bool.and_eq_true] at h
  rw [eqv_self d h.1]; rfl
theorem eq_self {d : Dt} (h : SeqAt.shaped d = true) : PyData.eqv d d = true := by
  have h : (PyData.canLay0 d && decide (PyData.depth d ≤ 64)) = true := h
  rw [Bool.and_eq_true] at h
  exact eqv_self d h.1
section
variable [TabL] {K : PySem.W.Frag} {ρ : List Sl} {ta tb : TE} {d e : Dt}
/-- the same on both sides -/
theorem et_neS (ha : Ev K ta ρ d) (hb : Ev K tb ρ e) (h : SeqAt.shaped d = true) (he : d = e) : EvT K (tTest (tOp (rNeD K) ta tb)) ρ false := by
  subst he
  exact EvT.to (et_test (ev_op ha hb (rv_neD h h))) (ne_self h)
theorem ev_neS (ha : Ev K ta ρ d) (hb : Ev K tb ρ e) (h : SeqAt.shaped d = true) (he : d = e) : Ev K (tOp (rNeD K) ta tb) ρ (.bool false) := by
  subst he
  exact Ev.to (ev_op ha hb (rv_neD h h)) (by rw [ne_self h])
theorem ev_eqS (ha : Ev K ta ρ d) (hb : Ev K tb ρ e) (h : SeqAt.shaped d = true) (he : d = e) : Ev K (tOp (rEqD K) ta tb) ρ (.bool true) := by
  subst he
  exact Ev.to (ev_op ha hb (rv_eqD h h)) (by rw [eq_self h])
end
end Fr
namespace Mx
theorem mk_dvd_mk : ∀ (ps as bs : List Nat), as.length = ps.length → bs.length = ps.length → (∀ (i a b : Nat), as[i]? = some a → bs[i]? = some b → a ≤ b) → mk ps as ∣ mk ps bs
  | [], _, _, _, _, _ => by simp [mk]
  | p :: ps, [], _, h, _, _ => by simp at h
  | p :: ps, _ :: _, [], _, h, _ => by simp at h
  | p :: ps, a :: as, b :: bs, h1, h2, h => Nat.mul_dvd_mul (Nat.pow_dvd_pow p (h 0 a b rfl rfl)) (mk_dvd_mk ps as bs (by simpa using h1) (by simpa using h2) fun i x y hx hy => h (i + 1) x y (by simpa using hx) (by simpa using hy))
theorem smooth_dvd {a b : Nat} (ha : Smooth a) (hb : 0 < b) : a ∣ b ↔ ∀ p ∈ pL, mlt p a ≤ mlt p b := by
  constructor
  · intro d p hp
    exact mlt_of_dvd (pL_pm p hp) hb d
  · intro h
    have e : made (rooms a) = a := ha.eq
    rw [← e]
    refine Nat.dvd_trans (mk_dvd_mk pL (rooms a) (rooms b) (rooms_len a) (rooms_len b) fun i x y hx hy => ?_) (made_rooms hb)
    unfold rooms at hx hy
    rw [List.getElem?_map] at hx hy
    cases e : pL[i]? with
    | none => rw [e] at hx; cases hx
    | some p =>
      rw [e] at hx hy
      cases hx
      cases hy
      exact h p (List.mem_of_getElem? e)
theorem mlt_powP {p a : Nat} (hp : Pm p) (ha : 0 < a) : ∀ k, mlt p (a ^ k) = k * mlt p a
  | 0 => by simp [mlt_one hp.1]
  | k + 1 => by
    rw [Nat.pow_succ, mlt_mul hp (Nat.pow_pos ha) ha, mlt_powP hp ha k, Nat.succ_mul]
theorem Smooth.pow {a : Nat} (h : Smooth a) : ∀ k, Smooth (a ^ k)
  | 0 => smooth_one
  | k + 1 => by rw [Nat.pow_succ]; exact (h.pow k).mul h
end Mx
namespace Fr
open PySem PySem.Spec PyProof.Rows L2 Mx
variable [TabL]
abbrev Qd := Nat × Nat × Nat × Nat
def quads : List Nat → List Nat → List Nat → List Nat → List Qd
  | a :: as, b :: bs, c :: cs, d :: ds => (a, b, c, d) :: quads as bs cs ds
  | _, _, _, _ => []
def ff1 : List Qd → Nat → Option Nat
  | [], f => some f
  | (h, o, i, d) :: r, f => if h < d then (if i ≤ o then none else ff1 r (max f ((d - h + (i - o) - 1) / (i - o)))) else ff1 r f
/-- after so many times there is too little -/
def lackQ (g : Nat) (q : Qd) : Prop := (q.1 : Int) + (g : Int) * ((q.2.2.1 : Int) - (q.2.1 : Int)) < (q.2.2.2 : Int)
instance (g : Nat) (q : Qd) : Decidable (lackQ g q) := inferInstanceAs (Decidable (_ < _))
def ffF (qs : List Qd) : Option Nat := match ff1 qs 0 with
  | none => none
  | some f => if qs.all fun q => !decide (lackQ f q) then some f else none
theorem quad_item {as bs cs ds : List Nat} {i : Nat} {d : Dt} (h : (zipD4 (as.map fun k : Nat => PyData.int (k : Int)) (bs.map fun k : Nat => PyData.int (k : Int)) (cs.map fun k : Nat => PyData.int (k : Int)) (ds.map fun k : Nat => PyData.int (k : Int)))[i]? = some d) :
    ∃ q : Qd, (quads as bs cs ds)[i]? = some q ∧ d = .tuple [nD q.1, nD q.2.1, nD q.2.2.1, nD q.2.2.2] := by
  induction as generalizing bs cs ds i with
  | nil => simp [zipD4] at h
  | cons a as ih =>
    match bs, cs, ds with
    | [], _, _ => simp [zipD4] at h
    | _ :: _, [], _ => simp [zipD4] at h
    | _ :: _, _ :: _, [] => simp [zipD4] at h
    | b :: bs, c :: cs, e :: es =>
      cases i with
      | zero => simp [zipD4] at h; exact ⟨(a, b, c, e), rfl, h.symm⟩
      | succ i => simp [zipD4] at h; obtain ⟨q, h1, h2⟩ := ih h; exact ⟨q, by simpa [quads] using h1, h2⟩
theorem quads_len (as bs cs ds : List Nat) : (quads as bs cs ds).length = (zipD4 (as.map fun k : Nat => PyData.int (k : Int)) (bs.map fun k : Nat => PyData.int (k : Int)) (cs.map fun k : Nat => PyData.int (k : Int)) (ds.map fun k : Nat => PyData.int (k : Int))).length := by
  induction as generalizing bs cs ds with
  | nil => simp [quads, zipD4]
  | cons a as ih =>
    match bs, cs, ds with
    | [], _, _ => simp [zipD4, quads]
    | _ :: _, [], _ => simp [zipD4, quads]
    | _ :: _, _ :: _, [] => simp [zipD4, quads]
    | b :: bs, c :: cs, e :: es => simp [zipD4, quads, ih]
theorem quads_get {as bs cs ds : List Nat} {i : Nat} {q : Qd} (h : (quads as bs cs ds)[i]? = some q) : as[i]? = some q.1 ∧ bs[i]? = some q.2.1 ∧ cs[i]? = some q.2.2.1 ∧ ds[i]? = some q.2.2.2 := by
  induction as generalizing bs cs ds i with
  | nil => simp [quads] at h
  | cons a as ih =>
    match bs, cs, ds with
    | [], _, _ => simp [quads] at h
    | _ :: _, [], _ => simp [quads] at h
    | _ :: _, _ :: _, [] => simp [quads] at h
    | b :: bs, c :: cs, e :: es =>
      cases i with
      | zero => simp [quads] at h; subst h; simp
      | succ i => simp [quads] at h; simpa using ih h
theorem quads_mk {as bs cs ds : List Nat} {i a b c d : Nat} (h1 : as[i]? = some a) (h2 : bs[i]? = some b) (h3 : cs[i]? = some c) (h4 : ds[i]? = some d) : (quads as bs cs ds)[i]? = some (a, b, c, d) := by
  induction as generalizing bs cs ds i with
  | nil => simp at h1
  | cons a as ih =>
    match bs, cs, ds with
    | [], _, _ => simp at h2
    | _ :: _, [], _ => simp at h3
    | _ :: _, _ :: _, [] => simp at h4
    | b :: bs, c :: cs, e :: es =>
      cases i with
      | zero => simp at h1 h2 h3 h4; subst h1 h2 h3 h4; simp [quads]
      | succ i => simpa [quads] using ih (by simpa using h1) (by simpa using h2) (by simpa using h3) (by simpa using h4)
theorem ceil_cast {h d o i : Nat} (h1 : h < d) (h2 : o < i) : ((d : Int) - (h : Int) + (i : Int) - (o : Int) - 1) / ((i : Int) - (o : Int)) = (((d - h + (i - o) - 1) / (i - o) : Nat) : Int) := by
  have e1 : (d : Int) - (h : Int) + (i : Int) - (o : Int) - 1 = ((d - h + (i - o) - 1 : Nat) : Int) := by omega
  have e2 : (i : Int) - (o : Int) = ((i - o : Nat) : Int) := by omega
  rw [e1, e2]
  rfl
theorem ff1_drop {qs : List Qd} {i f : Nat} {q : Qd} (h : qs[i]? = some q) : ff1 (qs.drop i) f = ff1 (q :: qs.drop (i + 1)) f := by
  obtain ⟨hi, e⟩ := List.getElem?_eq_some_iff.mp h
  rw [List.drop_eq_getElem_cons hi, e]
/-- what the first walk finds -/
theorem ff1_spec : ∀ (qs : List Qd) (f : Nat), match ff1 qs f with
    | none => ∃ q ∈ qs, q.1 < q.2.2.2 ∧ q.2.2.1 ≤ q.2.1
    | some g => f ≤ g ∧ (∀ q ∈ qs, q.1 < q.2.2.2 → q.2.1 < q.2.2.1 ∧ ¬ lackQ g q) ∧ (g = f ∨ ∃ q ∈ qs, q.1 < q.2.2.2 ∧ q.2.1 < q.2.2.1 ∧ ∀ k, k < g → lackQ k q)
  | [], f => ⟨Nat.le_refl _, by simp, .inl rfl⟩
  | (h, o, i, d) :: r, f => by
    unfold ff1
    by_cases hd : h < d
    · rw [if_pos hd]
      by_cases hi : i ≤ o
      · rw [if_pos hi]
        exact ⟨_, List.mem_cons_self, hd, hi⟩
      · rw [if_neg hi]
        have hi : o < i := by omega
        generalize hc : (d - h + (i - o) - 1) / (i - o) = c
        have ih := ff1_spec r (max f c)
        -- c is the least that suffices
        have c1 : (d - h) ≤ c * (i - o) := by
          have h1 := Nat.div_add_mod (d - h + (i - o) - 1) (i - o)
          have h2 := Nat.mod_lt (d - h + (i - o) - 1) (show 0 < i - o by omega)
          rw [hc, Nat.mul_comm] at h1
          omega
        have c2 : ∀ k, k < c → k * (i - o) < d - h := fun k hk => by
          have h1 : c * (i - o) ≤ d - h + (i - o) - 1 := by rw [← hc]; exact Nat.div_mul_le_self _ _
          have h2 : (k + 1) * (i - o) ≤ c * (i - o) := Nat.mul_le_mul_right _ hk
          rw [Nat.succ_mul] at h2
          omega
        have ci : ∀ k : Nat, (k : Int) * ((i : Int) - (o : Int)) = ((k * (i - o) : Nat) : Int) := fun k => by
          have : (i : Int) - (o : Int) = ((i - o : Nat) : Int) := by omega
          rw [this]; simp
        split at ih
        · obtain ⟨q, hq, h1⟩ := ih
          exact ⟨q, List.mem_cons_of_mem _ hq, h1⟩
        · rename_i g _
          obtain ⟨h1, h2, h3⟩ := ih
          refine ⟨by omega, fun q hq hl => ?_, ?_⟩
          · rcases List.mem_cons.mp hq with rfl | hq
            · refine ⟨hi, fun z => ?_⟩
              have z : (h : Int) + (g : Int) * ((i : Int) - (o : Int)) < (d : Int) := z
              rw [ci] at z
              have : c * (i - o) ≤ g * (i - o) := Nat.mul_le_mul_right _ (by omega)
              omega
            · exact h2 q hq hl
          · rcases h3 with h3 | ⟨q, hq, h3⟩
            · by_cases hfc : c ≤ f
              · exact .inl (by omega)
              · refine .inr ⟨_, List.mem_cons_self, hd, hi, fun k hk => ?_⟩
                show (h : Int) + (k : Int) * ((i : Int) - (o : Int)) < (d : Int)
                rw [ci]
                have := c2 k (by omega)
                omega
            · exact .inr ⟨q, List.mem_cons_of_mem _ hq, h3⟩
    · rw [if_neg hd]
      have ih := ff1_spec r f
      split at ih
      · obtain ⟨q, hq, h1⟩ := ih
        exact ⟨q, List.mem_cons_of_mem _ hq, h1⟩
      · rename_i g _
        obtain ⟨h1, h2, h3⟩ := ih
        refine ⟨h1, fun q hq hl => ?_, ?_⟩
        · rcases List.mem_cons.mp hq with rfl | hq
          · exact absurd hl hd
          · exact h2 q hq hl
        · rcases h3 with h3 | ⟨q, hq, h3⟩
          · exact .inl h3
          · exact .inr ⟨q, List.mem_cons_of_mem _ hq, h3⟩
theorem ffF_some {qs : List Qd} {f : Nat} (h : ffF qs = some f) : (∀ q ∈ qs, ¬ lackQ f q) ∧ (∀ k, k < f → ∃ q ∈ qs, lackQ k q) ∧ (f = 0 ∨ ∃ q ∈ qs, f ≤ q.2.2.2) := by
  unfold ffF at h
  have s := ff1_spec qs 0
  cases e : ff1 qs 0 with
  | none => rw [e] at h; cases h
  | some g =>
    rw [e] at h s
    have h : (if (qs.all fun q => !decide (lackQ g q)) = true then some g else none) = some f := h
    have s : 0 ≤ g ∧ (∀ q ∈ qs, q.1 < q.2.2.2 → q.2.1 < q.2.2.1 ∧ ¬ lackQ g q) ∧ (g = 0 ∨ ∃ q ∈ qs, q.1 < q.2.2.2 ∧ q.2.1 < q.2.2.1 ∧ ∀ k, k < g → lackQ k q) := s
    split at h
    · rename_i ha
      cases h
      rw [List.all_eq_true] at ha
      refine ⟨fun q hq => by simpa using ha q hq, fun k hk => ?_, ?_⟩
      · rcases s.2.2 with z | ⟨q, hq, _, _, h3⟩
        · omega
        · exact ⟨q, hq, h3 k hk⟩
      · rcases s.2.2 with z | ⟨q, hq, h1, h2, h3⟩
        · exact .inl z
        · refine .inr ⟨q, hq, ?_⟩
          refine Nat.le_of_not_lt fun hlt => ?_
          have := h3 q.2.2.2 hlt
          have t : (q.1 : Int) + (q.2.2.2 : Int) * ((q.2.2.1 : Int) - (q.2.1 : Int)) < (q.2.2.2 : Int) := this
          have e1 : (q.2.2.1 : Int) - (q.2.1 : Int) = ((q.2.2.1 - q.2.1 : Nat) : Int) := by omega
          have e2 : (q.2.2.2 : Int) * ((q.2.2.1 - q.2.1 : Nat) : Int) = ((q.2.2.2 * (q.2.2.1 - q.2.1) : Nat) : Int) := by simp
          rw [e1, e2] at t
          have : q.2.2.2 * 1 ≤ q.2.2.2 * (q.2.2.1 - q.2.1) := Nat.mul_le_mul_left _ (by omega)
          omega
    · cases h
theorem lack_mono {q : Qd} {g k : Nat} (h : q.2.2.1 ≤ q.2.1) (hg : lackQ g q) (hk : g ≤ k) : lackQ k q := by
  have hg : (q.1 : Int) + (g : Int) * ((q.2.2.1 : Int) - (q.2.1 : Int)) < (q.2.2.2 : Int) := hg
  show (q.1 : Int) + (k : Int) * ((q.2.2.1 : Int) - (q.2.1 : Int)) < (q.2.2.2 : Int)
  have e1 : (q.2.2.1 : Int) - (q.2.1 : Int) = -((q.2.1 - q.2.2.1 : Nat) : Int) := by omega
  rw [e1] at hg ⊢
  have : g * (q.2.1 - q.2.2.1) ≤ k * (q.2.1 - q.2.2.1) := Nat.mul_le_mul_right _ hk
  have e2 : ∀ x : Nat, (x : Int) * -((q.2.1 - q.2.2.1 : Nat) : Int) = -((x * (q.2.1 - q.2.2.1) : Nat) : Int) := fun x => by simp [Int.mul_neg]
  rw [e2] at hg ⊢
  omega
theorem ffF_none {qs : List Qd} (h : ffF qs = none) : ∀ k, ∃ q ∈ qs, lackQ k q := by
  unfold ffF at h
  have s := ff1_spec qs 0
  intro k
  cases e : ff1 qs 0 with
  | none =>
    rw [e] at s
    obtain ⟨q, hq, h1, h2⟩ := s
    exact ⟨q, hq, lack_mono (g := 0) h2 (by show (q.1 : Int) + ((0 : Nat) : Int) * _ < _; simp; omega) (Nat.zero_le k)⟩
  | some g =>
    rw [e] at h s
    have h : (if (qs.all fun q => !decide (lackQ g q)) = true then some g else none) = none := h
    have s : 0 ≤ g ∧ (∀ q ∈ qs, q.1 < q.2.2.2 → q.2.1 < q.2.2.1 ∧ ¬ lackQ g q) ∧ (g = 0 ∨ ∃ q ∈ qs, q.1 < q.2.2.2 ∧ q.2.1 < q.2.2.1 ∧ ∀ k, k < g → lackQ k q) := s
    split at h
    · cases h
    · rename_i ha
      by_cases hk : k < g
      · rcases s.2.2 with z | ⟨q, hq, _, _, h3⟩
        · omega
        · exact ⟨q, hq, h3 k hk⟩
      · have ha := Bool.eq_false_iff.mpr ha
        rw [List.all_eq_false] at ha
        obtain ⟨q, hq, hl⟩ := ha
        have hl : lackQ g q := by simpa using hl
        refine ⟨q, hq, lack_mono ?_ hl (by omega)⟩
        refine Nat.le_of_not_lt fun hlt => ?_
        by_cases hh : q.1 < q.2.2.2
        · exact (s.2.1 q hq hh).2 hl
        · have hl : (q.1 : Int) + (g : Int) * ((q.2.2.1 : Int) - (q.2.1 : Int)) < (q.2.2.2 : Int) := hl
          have e1 : (q.2.2.1 : Int) - (q.2.1 : Int) = ((q.2.2.1 - q.2.1 : Nat) : Int) := by omega
          have e2 : (g : Int) * ((q.2.2.1 - q.2.1 : Nat) : Int) = ((g * (q.2.2.1 - q.2.1) : Nat) : Int) := by simp
          rw [e1, e2] at hl
          omega
end Fr
namespace Fr
open PySem PySem.Spec PyProof.Rows L2 Mx
variable [TabL]
def numAt (n : Nat) (p : Nat × Nat) (g : Nat) : Nat := n / p.2 ^ g * p.1 ^ g
def quadF (n : Nat) (p q : Nat × Nat) : List Qd := quads (rooms n) (rooms p.2) (rooms p.1) (rooms q.2)
def minN (l : List Nat) : Nat := (minI (l.map fun k : Nat => (k : Int))).toNat
def timesL (ps : List (Nat × Nat)) (n i : Nat) : List Nat := (((rooms n).zip (rooms (fr ps i).2)).filter fun x : Nat × Nat => decide ((x.2 : Int) > 0)).map (fun x : Nat × Nat => x.1 / x.2) ++ (ps.take i).filterMap fun q => ffF (quadF n (fr ps i) q)
def timesF (ps : List (Nat × Nat)) (n i : Nat) : Option Nat := if timesL ps n i = [] then none else some (minN (timesL ps n i))
theorem minN_cast {l : List Nat} (h : l ≠ []) : minI (l.map fun k : Nat => (k : Int)) = (minN l : Int) := by
  have := minI_mem (ns := l.map fun k : Nat => (k : Int)) (by simpa using h)
  obtain ⟨k, hk, e⟩ := List.mem_map.mp this
  unfold minN
  omega
theorem minN_mem {l : List Nat} (h : l ≠ []) : minN l ∈ l := by
  have := minI_mem (ns := l.map fun k : Nat => (k : Int)) (by simpa using h)
  obtain ⟨k, hk, e⟩ := List.mem_map.mp this
  have e2 := minN_cast h
  have : minN l = k := by omega
  rw [this]; exact hk
theorem minN_le {l : List Nat} {k : Nat} (h : k ∈ l) : minN l ≤ k := by
  have := minI_le (ns := l.map fun k : Nat => (k : Int)) (List.mem_map.mpr ⟨k, h, rfl⟩)
  have e2 := minN_cast (List.ne_nil_of_mem h)
  omega
theorem pow_dvd_iff {u n g : Nat} (hu : Smooth u) (hn : 0 < n) : u ^ g ∣ n ↔ ∀ r ∈ pL, g * mlt r u ≤ mlt r n := by
  rw [smooth_dvd (hu.pow g) hn]
  constructor
  · intro h r hr
    have := h r hr
    rw [mlt_powP (pL_pm r hr) hu.1] at this
    exact this
  · intro h r hr
    rw [mlt_powP (pL_pm r hr) hu.1]
    exact h r hr
theorem numAt_pos {n g : Nat} {p : Nat × Nat} (hn : 0 < n) (h1 : 0 < p.1) (h2 : 0 < p.2) (d : p.2 ^ g ∣ n) : 0 < numAt n p g :=
  Nat.mul_pos (Nat.div_pos (Nat.le_of_dvd hn d) (Nat.pow_pos h2)) (Nat.pow_pos h1)
theorem mlt_numAt {n g r : Nat} {p : Nat × Nat} (hr : r ∈ pL) (hn : 0 < n) (h1 : 0 < p.1) (h2 : 0 < p.2) (d : p.2 ^ g ∣ n) : (mlt r (numAt n p g) : Int) = (mlt r n : Int) + (g : Int) * ((mlt r p.1 : Int) - (mlt r p.2 : Int)) := by
  have hp := pL_pm r hr
  have d0 : 0 < n / p.2 ^ g := Nat.div_pos (Nat.le_of_dvd hn d) (Nat.pow_pos h2)
  have e1 : mlt r (numAt n p g) = mlt r (n / p.2 ^ g) + g * mlt r p.1 := by
    unfold numAt
    rw [mlt_mul hp d0 (Nat.pow_pos h1), mlt_powP hp h1]
  have e2 : mlt r n = mlt r (n / p.2 ^ g) + g * mlt r p.2 := by
    conv => lhs; rw [← Nat.div_mul_cancel d]
    rw [mlt_mul hp d0 (Nat.pow_pos h2), mlt_powP hp h2]
  have e3 : (g : Int) * ((mlt r p.1 : Int) - (mlt r p.2 : Int)) = ((g * mlt r p.1 : Nat) : Int) - ((g * mlt r p.2 : Nat) : Int) := by rw [Int.mul_sub]; simp
  rw [e3, e1, e2]
  omega
theorem numAt_smooth {n g : Nat} {p : Nat × Nat} (hn : Smooth n) (h1 : Smooth p.1) (d : p.2 ^ g ∣ n) : Smooth (numAt n p g) := (hn.dvd (Nat.div_dvd_of_dvd d)).mul (h1.pow g)
theorem quadF_mem {n : Nat} {p q : Nat × Nat} {x : Qd} : x ∈ quadF n p q ↔ ∃ r ∈ pL, x = (mlt r n, mlt r p.2, mlt r p.1, mlt r q.2) := by
  constructor
  · intro h
    obtain ⟨i, hi⟩ := List.mem_iff_getElem?.mp h
    obtain ⟨a, b, c, d⟩ := quads_get hi
    unfold rooms at a b c d
    rw [List.getElem?_map] at a b c d
    cases e : pL[i]? with
    | none => rw [e] at a; cases a
    | some r =>
      rw [e] at a b c d
      refine ⟨r, List.mem_of_getElem? e, ?_⟩
      obtain ⟨x1, x2, x3, x4⟩ := x
      cases a; cases b; cases c; cases d
      rfl
  · rintro ⟨r, hr, rfl⟩
    obtain ⟨i, hi⟩ := List.mem_iff_getElem?.mp hr
    have g : ∀ m : Nat, (rooms m)[i]? = some (mlt r m) := fun m => by unfold rooms; rw [List.getElem?_map, hi]; rfl
    exact List.mem_of_getElem? (quads_mk (g n) (g p.2) (g p.1) (g q.2))
/-- whether an under divides the number behind so many steps -/
theorem fits_numAt {n g : Nat} {p q : Nat × Nat} (hn : 0 < n) (h1 : 0 < p.1) (h2 : 0 < p.2) (d : p.2 ^ g ∣ n) (hq : Smooth q.2) : numAt n p g % q.2 = 0 ↔ ∀ x ∈ quadF n p q, ¬ lackQ g x := by
  have pos := numAt_pos hn h1 h2 d
  constructor
  · intro z x hx
    obtain ⟨r, hr, rfl⟩ := quadF_mem.mp hx
    have := (smooth_dvd hq pos).mp (Nat.dvd_of_mod_eq_zero z) r hr
    have e := mlt_numAt hr hn h1 h2 d
    intro l
    have l : (mlt r n : Int) + (g : Int) * ((mlt r p.1 : Int) - (mlt r p.2 : Int)) < (mlt r q.2 : Int) := l
    omega
  · intro h
    refine Nat.mod_eq_zero_of_dvd ((smooth_dvd hq pos).mpr fun r hr => ?_)
    have e := mlt_numAt hr hn h1 h2 d
    have l := h _ (quadF_mem.mpr ⟨r, hr, rfl⟩)
    have l : ¬ (mlt r n : Int) + (g : Int) * ((mlt r p.1 : Int) - (mlt r p.2 : Int)) < (mlt r q.2 : Int) := l
    omega
theorem timesL_mem {ps : List (Nat × Nat)} {n i k : Nat} (h : k ∈ timesL ps n i) : (∃ r ∈ pL, 0 < mlt r (fr ps i).2 ∧ k = mlt r n / mlt r (fr ps i).2) ∨ ∃ q ∈ ps.take i, ffF (quadF n (fr ps i) q) = some k := by
  unfold timesL at h
  rcases List.mem_append.mp h with h | h
  · obtain ⟨x, hx, rfl⟩ := List.mem_map.mp h
    obtain ⟨hx, hd⟩ := List.mem_filter.mp hx
    obtain ⟨j, hj⟩ := List.mem_iff_getElem?.mp hx
    obtain ⟨a, b⟩ := List.getElem?_zip_eq_some.mp hj
    unfold rooms at a b
    rw [List.getElem?_map] at a b
    cases e : pL[j]? with
    | none => rw [e] at a; cases a
    | some r =>
      rw [e] at a b
      obtain ⟨x1, x2⟩ := x
      cases a; cases b
      have hd := of_decide_eq_true hd
      exact .inl ⟨r, List.mem_of_getElem? e, by show 0 < mlt r (fr ps i).2; have : ((mlt r (fr ps i).2 : Nat) : Int) > 0 := hd; omega, rfl⟩
  · obtain ⟨q, hq, e⟩ := List.mem_filterMap.mp h
    exact .inr ⟨q, hq, e⟩
theorem timesL_in1 {ps : List (Nat × Nat)} {n i r : Nat} (hr : r ∈ pL) (h : 0 < mlt r (fr ps i).2) : mlt r n / mlt r (fr ps i).2 ∈ timesL ps n i := by
  unfold timesL
  refine List.mem_append_left _ (List.mem_map.mpr ⟨(mlt r n, mlt r (fr ps i).2), List.mem_filter.mpr ⟨?_, decide_eq_true (by show ((mlt r (fr ps i).2 : Nat) : Int) > 0; omega)⟩, rfl⟩)
  obtain ⟨j, hj⟩ := List.mem_iff_getElem?.mp hr
  refine List.mem_of_getElem? (i := j) (List.getElem?_zip_eq_some.mpr ⟨?_, ?_⟩) <;> (unfold rooms; rw [List.getElem?_map, hj]; rfl)
theorem timesL_in2 {ps : List (Nat × Nat)} {n i k : Nat} {q : Nat × Nat} (hq : q ∈ ps.take i) (h : ffF (quadF n (fr ps i) q) = some k) : k ∈ timesL ps n i := List.mem_append_right _ (List.mem_filterMap.mpr ⟨q, hq, h⟩)
theorem isNum_room {n r : Nat} (h : IsNum n) (hr : r ∈ pL) : mlt r n ≤ 400 := h.2.2 _ (List.mem_map.mpr ⟨r, hr, rfl⟩)
/-- a fraction has no prime both above and below -/
theorem frac_apart {p : Nat × Nat} (h : IsFrac p) {r : Nat} (hr : r ∈ pL) (h2 : 0 < mlt r p.2) : mlt r p.1 = 0 := by
  refine Nat.eq_zero_of_not_pos fun h1 => ?_
  have pr := pL_pm r hr
  have d1 : r ∣ p.1 := by have := (mlt_le_iff (k := 1) pr.1 h.1.1).mpr h1; simpa using this
  have d2 : r ∣ p.2 := by have := (mlt_le_iff (k := 1) pr.1 h.2.1.1).mpr h2; simpa using this
  have := Nat.dvd_gcd d1 d2
  rw [h.2.2.2.2] at this
  have := Nat.dvd_one.mp this
  have := pr.1
  omega
theorem fr_mem {ps : List (Nat × Nat)} {i : Nat} (h : i < ps.length) : fr ps i ∈ ps := by
  rw [fr_of (List.getElem?_eq_getElem h)]; exact List.getElem_mem h
theorem take_mem {ps : List (Nat × Nat)} {i : Nat} {q : Nat × Nat} (h : q ∈ ps.take i) : ∃ j, j < i ∧ j < ps.length ∧ fr ps j = q := by
  obtain ⟨j, hj, e⟩ := List.mem_take_iff_getElem.mp h
  exact ⟨j, by omega, by omega, by rw [fr_of (List.getElem?_eq_getElem (by omega)), e]⟩
theorem mem_take {ps : List (Nat × Nat)} {i j : Nat} (h : j < i) (hl : j < ps.length) : fr ps j ∈ ps.take i := List.mem_take_iff_getElem.mpr ⟨j, by omega, (fr_of (List.getElem?_eq_getElem hl)).symm⟩
theorem firstAt_of {ps : List (Nat × Nat)} {n i : Nat} (hi : i < ps.length) (h : n % (fr ps i).2 = 0) (hb : ∀ j, j < i → n % (fr ps j).2 ≠ 0) : firstAt ps n = some i :=
  firstAt_some (p := fr ps i) (by rw [List.getElem?_eq_getElem hi, fr_of (List.getElem?_eq_getElem hi)]) h fun j q hj hq => by rw [← fr_of hq]; exact hb j hj
/-- a jump of so many steps -/
theorem jump_some {ps : List (Nat × Nat)} {n i k : Nat} (hps : IsProg ps) (hn : IsNum n) (hi : firstAt ps n = some i) (hk : timesF ps n i = some k) :
    0 < k ∧ k ≤ 400 ∧ (fr ps i).2 ^ k ∣ n ∧ (∀ g, g < k → firstAt ps (numAt n (fr ps i) g) = some i) ∧ firstAt ps (numAt n (fr ps i) k) ≠ some i := by
  obtain ⟨hp, hl, hz, hb⟩ := firstAt_spec hi
  have hf := hps.2 _ (fr_mem hl)
  have p1 : 0 < (fr ps i).1 := hf.1.1
  have p2 : 0 < (fr ps i).2 := hf.2.1.1
  have sm := hf.2.1.smooth
  unfold timesF at hk
  split at hk
  · cases hk
  rename_i hne
  have hk : minN (timesL ps n i) = k := Option.some.inj hk
  have hm := minN_mem hne
  have hle := fun x (hx : x ∈ timesL ps n i) => minN_le hx
  rw [hk] at hm hle
  have n0 : numAt n (fr ps i) 0 = n := by unfold numAt; simp
  -- so many times the under
  have hd : (fr ps i).2 ^ k ∣ n := (pow_dvd_iff sm hn.1).mpr fun r hr => by
    rcases Nat.eq_zero_or_pos (mlt r (fr ps i).2) with z | z
    · rw [z]; omega
    · exact Nat.le_trans (Nat.mul_le_mul_right _ (hle _ (timesL_in1 hr z))) (Nat.div_mul_le_self _ _)
  have hdg : ∀ g, g ≤ k → (fr ps i).2 ^ g ∣ n := fun g hg => Nat.dvd_trans (Nat.pow_dvd_pow _ hg) hd
  have k0 : 0 < k := by
    rcases timesL_mem hm with ⟨r, hr, h1, h2⟩ | ⟨q, hq, h1⟩
    · have := (smooth_dvd sm hn.1).mp (Nat.dvd_of_mod_eq_zero hz) r hr
      rw [h2]
      exact Nat.div_pos this h1
    · refine Nat.pos_of_ne_zero fun z => ?_
      subst z
      obtain ⟨j, hj, hjl, rfl⟩ := take_mem hq
      have := (fits_numAt (g := 0) hn.1 p1 p2 (by simp) (hps.2 _ (fr_mem hjl)).2.1.smooth).mpr (ffF_some h1).1
      rw [n0] at this
      exact hb j hj this
  have k4 : k ≤ 400 := by
    rcases timesL_mem hm with ⟨r, hr, h1, h2⟩ | ⟨q, hq, h1⟩
    · have := isNum_room hn hr
      have : mlt r n / mlt r (fr ps i).2 ≤ mlt r n := Nat.div_le_self _ _
      omega
    · obtain ⟨j, hj, hjl, rfl⟩ := take_mem hq
      rcases (ffF_some h1).2.2 with z | ⟨x, hx, hle⟩
      · omega
      · obtain ⟨r, hr, rfl⟩ := quadF_mem.mp hx
        have := isNum_room (hps.2 _ (fr_mem hjl)).2.1 hr
        have hle : k ≤ mlt r (fr ps j).2 := hle
        omega
  refine ⟨k0, k4, hd, fun g hg => ?_, fun z => ?_⟩
  · refine firstAt_of hl ?_ fun j hj w => ?_
    · have d1 := hdg (g + 1) hg
      rw [Nat.pow_succ] at d1
      have d2 : (fr ps i).2 ∣ n / (fr ps i).2 ^ g := by
        obtain ⟨c, hc⟩ := d1
        refine ⟨c, ?_⟩
        rw [hc, Nat.mul_assoc, Nat.mul_div_cancel_left _ (Nat.pow_pos p2)]
      exact Nat.mod_eq_zero_of_dvd (Nat.dvd_trans d2 (Nat.dvd_mul_right _ _))
    · have hjl : j < ps.length := by omega
      have f := (fits_numAt hn.1 p1 p2 (hdg g (by omega)) (hps.2 _ (fr_mem hjl)).2.1.smooth).mp w
      cases e : ffF (quadF n (fr ps i) (fr ps j)) with
      | none =>
        obtain ⟨x, hx, hlx⟩ := ffF_none e g
        exact f x hx hlx
      | some m =>
        have hm2 := hle m (timesL_in2 (mem_take hj hjl) e)
        obtain ⟨x, hx, hlx⟩ := (ffF_some e).2.1 g (by omega)
        exact f x hx hlx
  · obtain ⟨_, _, zz, zb⟩ := firstAt_spec z
    rcases timesL_mem hm with ⟨r, hr, h1, h2⟩ | ⟨q, hq, h1⟩
    · have pos := numAt_pos hn.1 p1 p2 hd
      have le := (smooth_dvd sm pos).mp (Nat.dvd_of_mod_eq_zero zz) r hr
      have e := mlt_numAt hr hn.1 p1 p2 hd
      have a0 := frac_apart hf hr h1
      rw [a0] at e
      have m1 := Nat.div_add_mod (mlt r n) (mlt r (fr ps i).2)
      have m2 := Nat.mod_lt (mlt r n) h1
      rw [← h2, Nat.mul_comm] at m1
      have e2 : (k : Int) * (((0 : Nat) : Int) - (mlt r (fr ps i).2 : Int)) = -((k * mlt r (fr ps i).2 : Nat) : Int) := by simp [Int.mul_neg]
      rw [e2] at e
      omega
    · obtain ⟨j, hj, hjl, rfl⟩ := take_mem hq
      exact zb j hj ((fits_numAt hn.1 p1 p2 hd (hps.2 _ (fr_mem hjl)).2.1.smooth).mpr (ffF_some h1).1)
/-- three rooms each -/
def trips : List Nat → List Nat → List Nat → List (Nat × Nat × Nat)
  | a :: as, b :: bs, c :: cs => (a, b, c) :: trips as bs cs
  | _, _, _ => []
theorem trip_item {as bs cs : List Nat} {i : Nat} {d : Dt} (h : (zipD3 (as.map fun k : Nat => PyData.int (k : Int)) (bs.map fun k : Nat => PyData.int (k : Int)) (cs.map fun k : Nat => PyData.int (k : Int)))[i]? = some d) :
    ∃ q : Nat × Nat × Nat, (trips as bs cs)[i]? = some q ∧ d = .tuple [nD q.1, nD q.2.1, nD q.2.2] := by
  induction as generalizing bs cs i with
  | nil => simp [zipD3] at h
  | cons a as ih =>
    match bs, cs with
    | [], _ => simp [zipD3] at h
    | _ :: _, [] => simp [zipD3] at h
    | b :: bs, c :: cs =>
      cases i with
      | zero => simp [zipD3] at h; exact ⟨(a, b, c), rfl, h.symm⟩
      | succ i => simp [zipD3] at h; obtain ⟨q, h1, h2⟩ := ih h; exact ⟨q, by simpa [trips] using h1, h2⟩
theorem trips_len (as bs cs : List Nat) : (trips as bs cs).length = (zipD3 (as.map fun k : Nat => PyData.int (k : Int)) (bs.map fun k : Nat => PyData.int (k : Int)) (cs.map fun k : Nat => PyData.int (k : Int))).length := by
  induction as generalizing bs cs with
  | nil => simp [trips, zipD3]
  | cons a as ih =>
    match bs, cs with
    | [], _ => simp [zipD3, trips]
    | _ :: _, [] => simp [zipD3, trips]
    | b :: bs, c :: cs => simp [zipD3, trips, ih]
theorem trips_map {α : Type} (f g h : α → Nat) : ∀ l : List α, trips (l.map f) (l.map g) (l.map h) = l.map fun x => (f x, g x, h x)
  | [] => rfl
  | x :: l => by simp [trips, trips_map f g h l]
/-- whether a number, so many times multiplied, comes to be divided -/
def comesB (n t w : Nat) : Bool := (trips (rooms n) (rooms t) (rooms w)).all fun q => !(decide ((q.1 : Int) < (q.2.2 : Int)) && decide ((q.2.1 : Int) = 0))
theorem comesB_iff {n t w : Nat} : comesB n t w = false ↔ ∃ r ∈ pL, mlt r n < mlt r w ∧ mlt r t = 0 := by
  unfold comesB rooms
  rw [trips_map, List.all_map, List.all_eq_false]
  constructor
  · rintro ⟨r, hr, h⟩
    have h : ¬ (!(decide ((mlt r n : Int) < (mlt r w : Int)) && decide ((mlt r t : Int) = 0))) = true := h
    simp only [Bool.not_eq_true, Bool.not_eq_false', Bool.and_eq_true, decide_eq_true_eq] at h
    exact ⟨r, hr, by omega, by omega⟩
  · rintro ⟨r, hr, h1, h2⟩
    refine ⟨r, hr, ?_⟩
    show ¬ (!(decide ((mlt r n : Int) < (mlt r w : Int)) && decide ((mlt r t : Int) = 0))) = true
    simp only [Bool.not_eq_true, Bool.not_eq_false', Bool.and_eq_true, decide_eq_true_eq]
    omega
theorem ff_comes {n t : Nat} {q : Nat × Nat} (hq : IsNum q.2) : ffF (quadF n (t, 1) q) = none ↔ comesB n t q.2 = false := by
  rw [comesB_iff]
  constructor
  · intro h
    obtain ⟨x, hx, hl⟩ := ffF_none h 401
    obtain ⟨r, hr, rfl⟩ := quadF_mem.mp hx
    have hl : (mlt r n : Int) + ((401 : Nat) : Int) * ((mlt r t : Int) - (mlt r 1 : Int)) < (mlt r q.2 : Int) := hl
    rw [mlt_one (pL_pm r hr).1] at hl
    have := isNum_room hq hr
    exact ⟨r, hr, by omega, by omega⟩
  · rintro ⟨r, hr, h1, h2⟩
    cases e : ffF (quadF n (t, 1) q) with
    | none => rfl
    | some f =>
      have := (ffF_some e).1 _ (quadF_mem.mpr ⟨r, hr, rfl⟩)
      have this : ¬ (mlt r n : Int) + (f : Int) * ((mlt r t : Int) - (mlt r 1 : Int)) < (mlt r q.2 : Int) := this
      rw [mlt_one (pL_pm r hr).1, h2] at this
      simp at this
      omega
/-- a jump has no end just by the law's own reckoning -/
theorem times_none {ps : List (Nat × Nat)} {n i : Nat} (hps : IsProg ps) (hi : i < ps.length) : timesF ps n i = none ↔ (fr ps i).2 = 1 ∧ ∀ q ∈ ps.take i, comesB n (fr ps i).1 q.2 = false := by
  have hf := hps.2 _ (fr_mem hi)
  unfold timesF
  constructor
  · intro h
    split at h
    · rename_i he
      have e1 : (fr ps i).2 = 1 := Classical.byContradiction fun no => by
        obtain ⟨r, hr, d⟩ := hf.2.1.smooth.prime no
        have : 0 < mlt r (fr ps i).2 := (mlt_le_iff (k := 1) (pL_pm r hr).1 hf.2.1.1).mp (by simpa using d)
        have := timesL_in1 (n := n) hr this
        rw [he] at this
        cases this
      refine ⟨e1, fun q hq => ?_⟩
      obtain ⟨j, hj, hjl, rfl⟩ := take_mem hq
      rw [← ff_comes (hps.2 _ (fr_mem hjl)).2.1]
      cases e : ffF (quadF n ((fr ps i).1, 1) (fr ps j)) with
      | none => rfl
      | some k =>
        have e0 : fr ps i = ((fr ps i).1, 1) := Prod.ext rfl e1
        rw [← e0] at e
        have := timesL_in2 hq e
        rw [he] at this
        cases this
    · cases h
  · rintro ⟨h1, h2⟩
    rw [if_pos]
    refine List.eq_nil_iff_forall_not_mem.mpr fun k hk => ?_
    rcases timesL_mem hk with ⟨r, hr, h3, h4⟩ | ⟨q, hq, h3⟩
    · rw [h1, mlt_one (pL_pm r hr).1] at h3
      omega
    · obtain ⟨j, hj, hjl, rfl⟩ := take_mem hq
      have e0 : fr ps i = ((fr ps i).1, 1) := Prod.ext rfl h1
      have := (ff_comes (hps.2 _ (fr_mem hjl)).2.1).mpr (h2 _ hq)
      rw [← e0, h3] at this
      cases this
/-- too great on the way, too great behind -/
theorem great_mono {n g k : Nat} {p : Nat × Nat} (hp : IsFrac p) (hn : IsNum n) (hd : p.2 ^ k ∣ n) (hg : g ≤ k) (h : tooB (numAt n p g) = true) : tooB (numAt n p k) = true := by
  have p1 : 0 < p.1 := hp.1.1
  have p2 : 0 < p.2 := hp.2.1.1
  have dg : p.2 ^ g ∣ n := Nat.dvd_trans (Nat.pow_dvd_pow _ hg) hd
  have pg := numAt_pos hn.1 p1 p2 dg
  have pk := numAt_pos hn.1 p1 p2 hd
  cases e : tooB (numAt n p k) with
  | true => rfl
  | false =>
    rw [tooB_iff pk] at e
    have : tooB (numAt n p g) = false := (tooB_iff pg).mpr fun x hx => by
      obtain ⟨r, hr, rfl⟩ := List.mem_map.mp hx
      have e1 := mlt_numAt hr hn.1 p1 p2 dg
      have e2 := mlt_numAt hr hn.1 p1 p2 hd
      have b1 := isNum_room hn hr
      have b2 := e _ (List.mem_map.mpr ⟨r, hr, rfl⟩)
      show mlt r (numAt n p g) ≤ 400
      rcases Nat.lt_or_ge (mlt r p.1) (mlt r p.2) with q | q
      · have a : (mlt r p.1 : Int) - (mlt r p.2 : Int) = -((mlt r p.2 - mlt r p.1 : Nat) : Int) := by omega
        rw [a] at e1
        have c : (g : Int) * -((mlt r p.2 - mlt r p.1 : Nat) : Int) = -((g * (mlt r p.2 - mlt r p.1) : Nat) : Int) := by simp [Int.mul_neg]
        rw [c] at e1
        omega
      · have a : (mlt r p.1 : Int) - (mlt r p.2 : Int) = ((mlt r p.1 - mlt r p.2 : Nat) : Int) := by omega
        rw [a] at e1 e2
        have c : ∀ x : Nat, (x : Int) * ((mlt r p.1 - mlt r p.2 : Nat) : Int) = ((x * (mlt r p.1 - mlt r p.2) : Nat) : Int) := fun x => by simp
        rw [c] at e1 e2
        have : g * (mlt r p.1 - mlt r p.2) ≤ k * (mlt r p.1 - mlt r p.2) := Nat.mul_le_mul_right _ hg
        have b2 : mlt r (numAt n p k) ≤ 400 := b2
        omega
    rw [this] at h
    cases h
theorem numAt_isNum {n k : Nat} {p : Nat × Nat} (hp : IsFrac p) (hn : IsNum n) (hd : p.2 ^ k ∣ n) (h : tooB (numAt n p k) = false) : IsNum (numAt n p k) := by
  have s := numAt_smooth hn.smooth hp.1.smooth hd
  exact ⟨s.1, s.2, (tooB_iff s.1).mp h⟩
inductive Jr where
  | great
  | on (xs : List (Nat × Nat)) (n : Nat)
  | ever (xs : List (Nat × Nat)) (i : Nat)
def jumpsGo (ps : List (Nat × Nat)) : Nat → Nat → List (Nat × Nat) → Jr
  | 0, n, acc => .on acc n
  | m + 1, n, acc => match firstAt ps n with
    | none => .on acc n
    | some i => match timesF ps n i with
      | none => .ever acc i
      | some k => if tooB (numAt n (fr ps i) k) then .great else jumpsGo ps m (numAt n (fr ps i) k) (acc ++ [(i, k)])
def onD (xs : List (Nat × Nat)) (n : Nat) : Dt := .tuple [lP xs, nD n]
def everD (xs : List (Nat × Nat)) (i : Nat) : Dt := .tuple [.list (xs.map prD ++ [.tuple [nD i, .none]]), .none]
def jumpD (ps : List (Nat × Nat)) (n : Nat) : Dt := match firstAt ps n with
  | none => .none
  | some i => .tuple [nD i, oN (timesF ps n i)]
section
variable (K : PySem.W.Frag)
def jrE : Jr → Except Value Dt
  | .great => cE K "TooGreat"
  | .on xs n => .ok (onD xs n)
  | .ever xs i => .ok (everD xs i)
def jumpsE (ps : List (Nat × Nat)) (n : Nat) (f : Dt) : Except Value Dt := if isCount f 0 200 then jrE K (jumpsGo ps (decN f) n []) else cE K "BadNumber"
def sumN (xs : List (Nat × Nat)) : Int := (xs.map fun p : Nat × Nat => (p.2 : Int)).sum
def manyE : Jr → Except Value Dt
  | .great => cE K "TooGreat"
  | .on xs _ => .ok (.int (sumN xs))
  | .ever _ _ => .ok .none
def manyStepsE (ps : List (Nat × Nat)) (n : Nat) (f : Dt) : Except Value Dt := if isCount f 0 200 then manyE K (jumpsGo ps (decN f) n []) else cE K "BadNumber"
end
def ljD : Jr → Dt
  | .great => .tuple [.none, .none]
  | .on xs n => onD xs n
  | .ever xs i => everD xs i
theorem jg_end {ps : List (Nat × Nat)} {m n : Nat} {acc : List (Nat × Nat)} (h : firstAt ps n = none) : jumpsGo ps m n acc = .on acc n := by
  cases m with
  | zero => rfl
  | succ m => unfold jumpsGo; rw [h]
theorem jg_ever {ps : List (Nat × Nat)} {m n i : Nat} {acc : List (Nat × Nat)} (h : firstAt ps n = some i) (h2 : timesF ps n i = none) : jumpsGo ps (m + 1) n acc = .ever acc i := by
  conv => lhs; unfold jumpsGo
  rw [h]
  show (match timesF ps n i with | none => Jr.ever acc i | some k => _) = _
  rw [h2]
theorem jg_big {ps : List (Nat × Nat)} {m n i k : Nat} {acc : List (Nat × Nat)} (h : firstAt ps n = some i) (h2 : timesF ps n i = some k) (ht : tooB (numAt n (fr ps i) k) = true) : jumpsGo ps (m + 1) n acc = .great := by
  conv => lhs; unfold jumpsGo
  rw [h]
  show (match timesF ps n i with | none => Jr.ever acc i | some k => _) = _
  rw [h2]
  show (if tooB (numAt n (fr ps i) k) then Jr.great else _) = _
  rw [ht]; rfl
theorem jg_go {ps : List (Nat × Nat)} {m n i k : Nat} {acc : List (Nat × Nat)} (h : firstAt ps n = some i) (h2 : timesF ps n i = some k) (ht : tooB (numAt n (fr ps i) k) = false) : jumpsGo ps (m + 1) n acc = jumpsGo ps m (numAt n (fr ps i) k) (acc ++ [(i, k)]) := by
  conv => lhs; unfold jumpsGo
  rw [h]
  show (match timesF ps n i with | none => Jr.ever acc i | some k => _) = _
  rw [h2]
  show (if tooB (numAt n (fr ps i) k) then Jr.great else _) = _
  rw [ht]; rfl
end Fr
namespace Fr
open PySem PySem.Spec PyProof.Rows L2 Mx
variable [TabL]
section
variable {K : PySem.W.Frag}
theorem jumpsE_on {ps : List (Nat × Nat)} {n m : Nat} (hm : m ≤ 200) : jumpsE K ps n (nD m) = jrE K (jumpsGo ps m n []) := by
  unfold jumpsE
  rw [isCount_nD (by omega), if_pos rfl, decN_nD]
theorem jumpsE_not {ps : List (Nat × Nat)} {n : Nat} {f : Dt} (h : isCount f 0 200 = false) : jumpsE K ps n f = cE K "BadNumber" := by
  unfold jumpsE
  rw [h]; rfl
theorem manyE_on {ps : List (Nat × Nat)} {n m : Nat} (hm : m ≤ 200) : manyStepsE K ps n (nD m) = manyE K (jumpsGo ps m n []) := by
  unfold manyStepsE
  rw [isCount_nD (by omega), if_pos rfl, decN_nD]
theorem manyE_not {ps : List (Nat × Nat)} {n : Nat} {f : Dt} (h : isCount f 0 200 = false) : manyStepsE K ps n f = cE K "BadNumber" := by
  unfold manyStepsE
  rw [h]; rfl
theorem jumpsE_inv {ps : List (Nat × Nat)} {n : Nat} {f x : Dt} (h : jumpsE K ps n f = .ok x) : ∃ m, f = nD m ∧ m ≤ 200 ∧ jrE K (jumpsGo ps m n []) = .ok x := by
  unfold jumpsE at h
  cases q : isCount f 0 200 with
  | false => rw [q] at h; cases h
  | true =>
    rw [q, if_pos rfl] at h
    obtain ⟨i, rfl, h1, h2⟩ := isCount_of q
    have e : i = ((i.toNat : Nat) : Int) := by omega
    exact ⟨i.toNat, by show PyData.int i = PyData.int _; rw [← e], by omega, h⟩
theorem jumps_many_xc {ps : List (Nat × Nat)} {n : Nat} {f : Dt} {c : Value} (h : jumpsE K ps n f = .error c) : manyStepsE K ps n f = .error c := by
  unfold jumpsE at h
  unfold manyStepsE
  cases q : isCount f 0 200 with
  | false => rw [q] at h; exact h
  | true =>
    rw [q, if_pos rfl] at h
    rw [if_pos rfl]
    cases e : jumpsGo ps (decN f) n [] with
    | great => rw [e] at h; exact h
    | on xs l => rw [e] at h; cases h
    | ever xs i => rw [e] at h; cases h
end
theorem jumpsGo_lenA (ps : List (Nat × Nat)) : ∀ (m n : Nat) (acc xs : List (Nat × Nat)) (l : Nat), jumpsGo ps m n acc = .on xs l → xs.length ≤ acc.length + m
  | 0, n, acc, xs, l, h => by cases h; omega
  | m + 1, n, acc, xs, l, h => by
    cases e : firstAt ps n with
    | none => rw [jg_end e] at h; cases h; omega
    | some i =>
      cases e2 : timesF ps n i with
      | none => rw [jg_ever e e2] at h; cases h
      | some k =>
        cases t : tooB (numAt n (fr ps i) k) with
        | true => rw [jg_big e e2 t] at h; cases h
        | false =>
          rw [jg_go e e2 t] at h
          have := jumpsGo_lenA ps m _ _ _ _ h
          simp at this
          omega
theorem jumpsGo_len (ps : List (Nat × Nat)) (m n : Nat) : ∀ (xs : List (Nat × Nat)) (l : Nat), jumpsGo ps m n [] = .on xs l → xs.length ≤ m := fun xs l h => by
  have := jumpsGo_lenA ps m n [] xs l h
  simpa using this
def many30 : Jr → Dt
  | .great => .none
  | .on xs _ => .int (sumN xs)
  | .ever _ _ => .none
theorem numAt_cast (n : Nat) (p : Nat × Nat) (k : Nat) : ((n : Int) / ((p.2 ^ k : Nat) : Int)) * ((p.1 ^ k : Nat) : Int) = ((numAt n p k : Nat) : Int) := by
  unfold numAt
  rw [Int.natCast_mul]
  rfl
theorem pow_lt {a k : Nat} (ha : a ≤ 1000000) (hk : k ≤ 400) : a ^ k < 2 ^ 8001 :=
  Nat.lt_of_le_of_lt (Nat.le_trans (Nat.pow_le_pow_left (Nat.le_trans ha (by decide : 1000000 ≤ 2 ^ 20)) k) (by rw [← Nat.pow_mul]; exact Nat.pow_le_pow_right (by decide) (by omega : 20 * k ≤ 8000))) (Nat.pow_lt_pow_right (by decide) (by decide))
theorem div_pow30 {p : Nat × Nat} {k : Nat} {i : Int} (hp : IsFrac p) (hk : k ≤ 400) : CDivW i ((p.2 ^ k : Nat) : Int) := by
  have h1 : 0 < p.2 ^ k := Nat.pow_pos hp.2.1.1
  refine wide_div (b := 8001) (by omega) ?_ (by decide) (by decide)
  rw [Int.natAbs_natCast]
  exact pow_lt hp.2.2.2.1 hk
theorem mk_le : ∀ (ps rs : List Nat), (∀ p ∈ ps, p ≤ 64) → (∀ r ∈ rs, r ≤ 400) → mk ps rs ≤ 2 ^ (2400 * ps.length)
  | [], _, _, _ => by simp [mk]
  | _ :: _, [], _, _ => by simp [mk]; exact Nat.pow_pos (by decide)
  | p :: ps, r :: rs, h1, h2 => by
    show p ^ r * mk ps rs ≤ _
    have a : p ^ r ≤ 2 ^ 2400 := Nat.le_trans (Nat.pow_le_pow_left (h1 p (by simp)) r) (by rw [show (64 : Nat) = 2 ^ 6 from rfl, ← Nat.pow_mul]; exact Nat.pow_le_pow_right (by decide) (by have := h2 r (by simp); omega))
    have b := mk_le ps rs (fun q hq => h1 q (by simp [hq])) (fun q hq => h2 q (by simp [hq]))
    rw [List.length_cons, Nat.mul_add, Nat.pow_add, Nat.mul_comm (2 ^ _)]
    exact Nat.mul_le_mul a b
theorem isNum_lt {n : Nat} (h : IsNum n) : n < 2 ^ 28801 := by
  have e := h.smooth.eq
  have := mk_le pL (rooms n) (fun p hp => Nat.le_trans (pL_le p hp) (by decide)) h.2.2
  have e2 : made (rooms n) = mk pL (rooms n) := rfl
  rw [← e, e2]
  exact Nat.lt_of_le_of_lt this (Nat.pow_lt_pow_right (by decide) (by decide))
theorem mul_pow30 {n : Nat} {p : Nat × Nat} {k : Nat} (hn : IsNum n) (hp : IsFrac p) (hk : k ≤ 400) : CMulA ((n : Int) / ((p.2 ^ k : Nat) : Int)) ((p.1 ^ k : Nat) : Int) := by
  refine cmul_w 28801 8001 ?_ ?_ (by decide) (by decide) (by decide)
  · have e : (n : Int) / ((p.2 ^ k : Nat) : Int) = ((n / p.2 ^ k : Nat) : Int) := rfl
    rw [e, Int.natAbs_natCast]
    exact Nat.lt_of_le_of_lt (Nat.div_le_self _ _) (isNum_lt hn)
  · rw [Int.natAbs_natCast]
    exact pow_lt hp.2.2.1 hk
end Fr
namespace Fr
open PySem PySem.Spec PyProof.Rows L2 Mx
variable [TabL]
theorem numAt_zero (n : Nat) (p : Nat × Nat) : numAt n p 0 = n := by unfold numAt; simp
theorem step_numAt {ps : List (Nat × Nat)} {n i g : Nat} {q : Nat × Nat} (hps : IsProg ps) (hi : i < ps.length) (hn : 0 < n) (hd : (fr ps i).2 ^ (g + 1) ∣ n) (hf : firstAt ps (numAt n (fr ps i) g) = some i) (hq : lstep ps (numAt n (fr ps i) g) = some q) : q.2 = numAt n (fr ps i) (g + 1) := by
  have e := lstep_eq hps.cop (numAt n (fr ps i) g)
  rw [hq, hf] at e
  have e := Option.some.inj e
  rw [e]
  show numAt n (fr ps i) g / (fr ps i).2 * (fr ps i).1 = _
  have p2 : 0 < (fr ps i).2 := (hps.2 _ (fr_mem hi)).2.1.1
  unfold numAt
  obtain ⟨c, rfl⟩ := hd
  rw [Nat.mul_div_cancel_left _ (Nat.pow_pos p2), Nat.pow_succ, Nat.mul_assoc, Nat.mul_div_cancel_left _ (Nat.pow_pos p2), Nat.mul_assoc, Nat.mul_div_cancel_left _ p2, Nat.pow_succ, Nat.mul_assoc]
theorem none30 {ps : List (Nat × Nat)} {n i : Nat} (hps : IsProg ps) (hi : i < ps.length) : (decide (((fr ps i).2 : Int) = 1) && decide ((ps.take i).filter (fun x : Nat × Nat => comesB n (fr ps i).1 x.2) = [])) = (timesF ps n i).isNone := by
  have h := times_none (n := n) hps hi
  have e : (decide (((fr ps i).2 : Int) = 1) && decide ((ps.take i).filter (fun x : Nat × Nat => comesB n (fr ps i).1 x.2) = [])) = decide ((fr ps i).2 = 1 ∧ ∀ q ∈ ps.take i, comesB n (fr ps i).1 q.2 = false) := by
    rw [← Bool.decide_and]
    congr 1
    simp only [eq_iff_iff, List.filter_eq_nil_iff, Bool.not_eq_true]
    constructor
    · rintro ⟨a, b⟩; exact ⟨by omega, b⟩
    · rintro ⟨a, b⟩; exact ⟨by omega, b⟩
  rw [e]
  by_cases z : timesF ps n i = none
  · rw [decide_eq_true (h.mp z), z]; rfl
  · rw [decide_eq_false fun w => z (h.mpr w)]
    cases q : timesF ps n i with
    | none => exact absurd q z
    | some k => rfl
end Fr
namespace Fr
open PySem PySem.Spec PyProof.Rows L2 Mx
variable [TabL]
theorem shp_prD {k : Nat} (p : Nat × Nat) : Shp (k + 1) (prD p) := shp_t2 (shp_int _) (shp_int _)
theorem shp_lP {k : Nat} (ps : List (Nat × Nat)) : Shp (k + 2) (lP ps) := shp_map fun p => shp_prD p
theorem shp_lN {k : Nat} (ns : List Nat) : Shp (k + 1) (lN ns) := shp_map fun _ => shp_int _
theorem shp_rm {k : Nat} (ns : List Nat) : Shp (k + 1) (rmD ns) := shp_mapT fun _ => shp_int _
theorem shp_oN {k : Nat} (o : Option Nat) : Shp k (oN o) := by cases o; exact shp_none; exact shp_int _
theorem shp_onD (xs : List (Nat × Nat)) (n : Nat) : Shp 3 (onD xs n) := shp_t2 (shp_lP xs) (shp_int _)
theorem shp_everD (xs : List (Nat × Nat)) (i : Nat) : Shp 3 (everD xs i) := shp_t2 (shp_app (shp_lP xs) (shp_list fun d hd => by
  rw [List.mem_singleton] at hd; subst hd; exact shp_t2 (shp_int _) shp_none)) shp_none
theorem shp_jumpD (ps : List (Nat × Nat)) (n : Nat) : Shp 1 (jumpD ps n) := by
  unfold jumpD
  cases firstAt ps n with
  | none => exact shp_none
  | some i => exact shp_t2 (shp_int _) (shp_oN _)
theorem shp_great {k : Nat} : Shp k (.str ("TooGreat" : Str)) := shp_str (by decide +kernel)
def jr30 : Jr → Dt
  | .great => .str "TooGreat"
  | .on xs n => onD xs n
  | .ever xs i => everD xs i
def mt30 : Jr → Dt
  | .great => .str "TooGreat"
  | .on xs _ => .int (sumN xs)
  | .ever _ _ => .none
theorem shp_jr30 (J : Jr) : Shp 3 (jr30 J) := by
  cases J with
  | great => exact shp_great
  | on xs n => exact shp_onD xs n
  | ever xs i => exact shp_everD xs i
theorem shp_mt30 (J : Jr) : Shp 3 (mt30 J) := by
  cases J with
  | great => exact shp_great
  | on xs n => exact shp_int _
  | ever xs i => exact shp_none
section
variable {K : PySem.W.Frag} {L : List Str}
theorem tell30_jumps {ps : List (Nat × Nat)} {n m : Nat} (hps : IsProg ps) (hn : IsNum n) (hm : m ≤ 200) (hL : ("TooGreat" : Str) ∈ L) : Tell K L (lookE K (lP ps) (nD n) fun ps n => jumpsE K ps n (nD m)) (jr30 (jumpsGo ps m n [])) := by
  rw [lookE_ok hps hn, jumpsE_on hm]
  cases jumpsGo ps m n [] with
  | great => exact tell_bad rfl hL
  | on xs n => exact tell_ok rfl
  | ever xs i => exact tell_ok rfl
theorem tell30_many {ps : List (Nat × Nat)} {n m : Nat} (hps : IsProg ps) (hn : IsNum n) (hm : m ≤ 200) (hL : ("TooGreat" : Str) ∈ L) : Tell K L (lookE K (lP ps) (nD n) fun ps n => manyStepsE K ps n (nD m)) (mt30 (jumpsGo ps m n [])) := by
  rw [lookE_ok hps hn, manyE_on hm]
  cases jumpsGo ps m n [] with
  | great => exact tell_bad rfl hL
  | on xs n => exact tell_ok rfl
  | ever xs i => exact tell_ok rfl
end
/-- one jump -/
theorem one30 (ps : List (Nat × Nat)) (n : Nat) : (ljD (jumpsGo ps 1 n []) = .tuple [.none, .none]) ∨ (∃ z, jumpD ps n = .none ∧ ljD (jumpsGo ps 1 n []) = .tuple [.list [], z]) ∨ (∃ a b z, jumpD ps n = .tuple [a, b] ∧ ljD (jumpsGo ps 1 n []) = .tuple [.list [jumpD ps n], z]) := by
  cases e : firstAt ps n with
  | none =>
    have j : jumpD ps n = .none := by unfold jumpD; rw [e]
    rw [jg_end e]; exact .inr (.inl ⟨_, j, rfl⟩)
  | some i =>
    have j : jumpD ps n = .tuple [nD i, oN (timesF ps n i)] := by unfold jumpD; rw [e]
    cases e2 : timesF ps n i with
    | none => rw [jg_ever e e2]; exact .inr (.inr ⟨_, _, _, j, by rw [j, e2]; rfl⟩)
    | some k =>
      cases t : tooB (numAt n (fr ps i) k) with
      | true => rw [jg_big e e2 t]; exact .inl rfl
      | false => rw [jg_go e e2 t]; exact .inr (.inr ⟨_, _, _, j, by rw [j, e2]; rfl⟩)
def md30 (h : Int) : Int := if h / 64 % 3 = 0 then 4 else if h / 64 % 3 = 1 then 101 else 12
def r30 (h : Int) (j : Nat) : Nat := (drawn h (0 + (j : Int)) % md30 h).toNat
theorem md30_at (h : Int) : atI [PyData.int 4, PyData.int 101, PyData.int 12] (h / 64 % 3) = some (.int (md30 h)) := by
  unfold md30
  generalize h / 64 = x
  rcases (by omega : x % 3 = 0 ∨ x % 3 = 1 ∨ x % 3 = 2) with e | e | e <;> rw [e] <;> rfl
theorem md30_pos (h : Int) : 0 < md30 h ∧ md30 h ≤ 101 := by unfold md30; split; decide; split <;> decide
theorem r30_eq (h : Int) (j : Nat) : PyData.int (drawn h (0 + (j : Int)) % md30 h) = nD (r30 h j) := by
  have := Int.emod_nonneg (drawn h (0 + (j : Int))) (show md30 h ≠ 0 by have := md30_pos h; omega)
  show _ = PyData.int ((r30 h j : Nat) : Int)
  unfold r30
  congr 1
  omega
theorem r30_le (h : Int) (j : Nat) : r30 h j ≤ 400 := by
  have h1 := Int.emod_lt_of_pos (drawn h (0 + (j : Int))) (md30_pos h).1
  have h2 := md30_pos h
  unfold r30
  omega
theorem mk_pad : ∀ (ps rs : List Nat) (z : Nat), mk ps (rs ++ List.replicate z 0) = mk ps rs
  | [], _, _ => by simp [mk]
  | p :: ps, [], z => by
    rw [List.nil_append, mk_zeros _ _ fun r hr => (List.mem_replicate.mp hr).2]
    simp [mk]
  | p :: ps, r :: rs, z => by
    show p ^ r * mk ps (rs ++ List.replicate z 0) = p ^ r * mk ps rs
    rw [mk_pad ps rs z]
theorem isNum_mk {rs : List Nat} (hl : rs.length ≤ 12) (hb : ∀ k ∈ rs, k ≤ 400) : IsNum (mk pL rs) := by
  rw [← mk_pad pL rs (12 - rs.length)]
  refine made_isNum (by simp; omega) fun k hk => ?_
  rcases List.mem_append.mp hk with hk | hk
  · exact hb k hk
  · rw [(List.mem_replicate.mp hk).2]; omega
theorem bads30_c {i : Nat} {d : Dt} (h : ([.int (-1), .int 201, .none, .bool true] : List Dt)[i]? = some d) : isCount d 0 200 = false := by
  have h := List.mem_of_getElem? h
  simp only [List.mem_cons, List.not_mem_nil, or_false] at h
  rcases h with rfl | rfl | rfl | rfl <;> rfl
theorem notProg22 : isProgD (.list [.tuple [.int 2, .int 2]]) = false := notProg_mem (List.mem_singleton.mpr rfl) (notFrac_c (by decide +kernel))
end Fr
namespace Fr
def isGreat : Jr → Bool
  | .great => true
  | _ => false
end Fr
namespace Fr
open PySem PySem.Spec PyProof.Rows L2
def rNotBl : R2 := fun x y H Q => ∃ a b, x = V.bl a ∧ y = V.bl b ∧ Q (.bl (!decide (a = b))) H
def rIsBl : R2 := fun x y H Q => ∃ a b, x = V.bl a ∧ y = V.bl b ∧ Q (.bl (decide (a = b))) H
theorem op_notBl {X : Cx} : OpR X (compareOp .IsNot) rNotBl := by
  intro pins s σ H x y v u Q I rx ry h
  obtain ⟨a, b, rfl, rfl, q⟩ := h; cases rx; cases ry
  show wpAny _ _ ((isSame (Value.bool a) (Value.bool b)) >>= fun z => pure (Value.bool (!z))) _ _ s
  exact wpAny_bind (wpAny_isSame_plain rfl (wpAny_pure (fin_bl I q (by cases a <;> cases b <;> rfl))))
theorem op_isBl {X : Cx} : OpR X (compareOp .Is) rIsBl := by
  intro pins s σ H x y v u Q I rx ry h
  obtain ⟨a, b, rfl, rfl, q⟩ := h; cases rx; cases ry
  show wpAny _ _ ((isSame (Value.bool a) (Value.bool b)) >>= fun z => pure (Value.bool z)) _ _ s
  exact wpAny_bind (wpAny_isSame_plain rfl (wpAny_pure (fin_bl I q (by cases a <;> cases b <;> rfl))))
def flatD : Dt → Bool
  | .list _ => false
  | .tuple _ => false
  | .dict _ => false
  | _ => true
def inD (x : Dt) (ds : List Dt) : Bool := ds.any fun y => PyData.eqv y x
section
variable [TabL] {K : PySem.W.Frag} {ρ : List Sl} {x : Dt} {ds : List Dt} {neg : Bool}
theorem rv_notBl {a b : Bool} : RV K rNotBl (.bool a) (.bool b) (.bool (!decide (a = b))) := fun M0 H0 σ H ρ T Q vx vy s m1 m2 q => by
  obtain ⟨M, _, h1⟩ := s.tmp m1
  obtain ⟨M', _, h2⟩ := s.tmp m2
  exact ⟨a, b, h1.bl_inv, h2.bl_inv, q _ H (s.add fun M _ => .bl _)⟩
theorem rv_isBl {a b : Bool} : RV K rIsBl (.bool a) (.bool b) (.bool (decide (a = b))) := fun M0 H0 σ H ρ T Q vx vy s m1 m2 q => by
  obtain ⟨M, _, h1⟩ := s.tmp m1
  obtain ⟨M', _, h2⟩ := s.tmp m2
  exact ⟨a, b, h1.bl_inv, h2.bl_inv, q _ H (s.add fun M _ => .bl _)⟩
theorem flat_eq {M : Hp} {v w : V} {d e : Dt} (h1 : Dn K M v d) (h2 : Dn K M w e) (f1 : flatD d = true) (f2 : flatD e = true) : eqV v w = PyData.eqv d e := by
  cases h1 <;> cases h2 <;> first | rfl | (simp [flatD] at f1; done) | (simp [flatD] at f2; done) | (simp [eqV, PyData.eqv]; done)
theorem flat_v {M : Hp} {v : V} {d : Dt} (h1 : Dn K M v d) (f1 : flatD d = true) : flatV v = true := by
  cases h1 <;> first | rfl | (simp [flatD] at f1; done)
theorem flat_in {M : Hp} {v : V} (h1 : Dn K M v x) (f1 : flatD x = true) : ∀ {vs : List V} {ds : List Dt}, DnA K M vs ds → ds.all flatD = true → inV v vs = inD x ds ∧ vs.all flatV = true
  | _, _, .nil, _ => ⟨rfl, rfl⟩
  | w :: vs, d :: ds, .cons r t, f => by
    rw [List.all_cons, Bool.and_eq_true] at f
    obtain ⟨a, b⟩ := flat_in h1 f1 t f.2
    refine ⟨?_, by rw [List.all_cons, flat_v r f.1, b]; rfl⟩
    unfold inV inD at a ⊢
    rw [List.any_cons, List.any_cons, a, flat_eq r h1 f.1 f1]
theorem rv_inFT (f1 : flatD x = true) (f2 : ds.all flatD = true) : RV K (rIn K neg) x (.tuple ds) (.bool (if neg then !inD x ds else inD x ds)) := fun M0 H0 σ H ρ T Q vx vy s m1 m2 q => by
  obtain ⟨M, st⟩ := id s
  obtain ⟨a, vs, rfl, h1, h2⟩ := (st.at m2).tup_inv
  obtain ⟨e1, e2⟩ := flat_in (st.at m1) f1 h2 f2
  refine ⟨a, _, rfl, .inr (sqT_mono st.bs.mh h1), flat_v (st.at m1) f1, e2, q _ H (s.add fun M _ => ?_)⟩
  rw [e1]; exact .bl _
theorem rv_inFL (f1 : flatD x = true) (f2 : ds.all flatD = true) : RV K (rIn K neg) x (.list ds) (.bool (if neg then !inD x ds else inD x ds)) := fun M0 H0 σ H ρ T Q vx vy s m1 m2 q => by
  obtain ⟨M, st⟩ := id s
  obtain ⟨a, vs, rfl, h1, h2⟩ := (st.at m2).lst_inv
  obtain ⟨e1, e2⟩ := flat_in (st.at m1) f1 h2 f2
  refine ⟨a, _, rfl, .inl (SqL.of (st.bs.mh _ _ h1)), flat_v (st.at m1) f1, e2, q _ H (s.add fun M _ => ?_)⟩
  rw [e1]; exact .bl _
end
end Fr
namespace Fr
open PySem PySem.Spec PyProof.Rows L2 Mx
variable [TabL]
/-! rules -/
def zip3 {α β γ : Type} : List α → List β → List γ → List (α × β × γ)
  | a :: as, b :: bs, c :: cs => (a, b, c) :: zip3 as bs cs
  | _, _, _ => []
theorem zipD3_map {α β γ : Type} (f : α → Dt) (g : β → Dt) (h : γ → Dt) : ∀ (as : List α) (bs : List β) (cs : List γ), zipD3 (as.map f) (bs.map g) (cs.map h) = (zip3 as bs cs).map fun q => PyData.tuple [f q.1, g q.2.1, h q.2.2]
  | [], _, _ => by simp [zipD3, zip3]
  | _ :: _, [], _ => by simp [zipD3, zip3]
  | _ :: _, _ :: _, [] => by simp [zipD3, zip3]
  | a :: as, b :: bs, c :: cs => by simp [zipD3, zip3, zipD3_map f g h as bs cs]
theorem zip3_len {α β γ : Type} : ∀ (as : List α) (bs : List β) (cs : List γ), (zip3 as bs cs).length ≤ as.length
  | [], _, _ => by simp [zip3]
  | _ :: _, [], _ => by simp [zip3]
  | _ :: _, _ :: _, [] => by simp [zip3]
  | a :: as, b :: bs, c :: cs => by simp [zip3]; exact zip3_len as bs cs
theorem zip3_map {ι α β γ : Type} (f : ι → α) (g : ι → β) (h : ι → γ) : ∀ l : List ι, zip3 (l.map f) (l.map g) (l.map h) = l.map fun x => (f x, g x, h x)
  | [] => rfl
  | x :: l => by simp [zip3, zip3_map f g h l]
section
variable {K : PySem.W.Frag} {ρ : List Sl} {t1 t2 t3 : TE}
theorem ei_zipN3M {α β γ : Type} {f : α → Dt} {g : β → Dt} {h : γ → Dt} {as : List α} {bs : List β} {cs : List γ} {b1 b2 b3 : Bool} (h1 : Ev K t1 ρ (seqD b1 (as.map f))) (h2 : Ev K t2 ρ (seqD b2 (bs.map g))) (h3 : Ev K t3 ρ (seqD b3 (cs.map h))) :
    EvI K (iZipN3 K b1 b2 b3 (tCons t1 (tCons t2 (tCons t3 tNil)))) ρ ((zip3 as bs cs).map fun q => PyData.tuple [f q.1, g q.2.1, h q.2.2]) := zipD3_map f g h as bs cs ▸ ei_zipN3 h1 h2 h3
theorem rc_anyM {α : Type} {xs : List α} {p : α → Bool} : RC K (rAny K) [.list (xs.map fun x => PyData.bool (p x))] (.bool (xs.any p)) := by
  have h := rc_any (K := K) (bs := xs.map p)
  rw [List.map_map] at h
  have e : (xs.map p).any id = xs.any p := by rw [List.any_map]; rfl
  rw [e] at h
  exact h
end
theorem cut_slice {α : Type} (ps : List α) (f : α → Dt) {a b : Nat} (hb : b ≤ ps.length) : cutL (ps.map f) (some (a : Int)) (some (b : Int)) = ((ps.take b).drop a).map f := by
  unfold cutL
  rw [HT.sIx_nat, HT.sIx_nat, List.length_map, ← List.map_drop, ← List.map_take, List.drop_take]
  congr 1
  by_cases h : a ≤ ps.length
  · rw [Nat.min_eq_left h, Nat.min_eq_left hb]
  · have e1 : ps.drop a = [] := List.drop_eq_nil_of_le (by omega)
    have e2 : min a ps.length = ps.length := by omega
    rw [e1, e2, List.drop_length]; simp
/-! what shows it -/
def moreL (x y : Nat) : List Int := ((rooms x).zip (rooms y)).map fun p : Nat × Nat => (p.2 : Int) - (p.1 : Int)
def lackB (n w : Nat) (more : List Int) : Bool := (zip3 (rooms n) (rooms w) more).any fun q => decide ((q.1 : Int) < (q.2.1 : Int)) && decide (q.2.2 = 0)
def goesB (ps : List (Nat × Nat)) (xs : List Nat) (a b : Nat) : Bool := !decide (minI (moreL (xs.getD a 1) (xs.getD b 1)) < 0) && ((xs.take b).drop a).all fun n => (ps.take ((firstAt ps n).getD 0)).all fun q => lackB n q.2 (moreL (xs.getD a 1) (xs.getD b 1))
theorem moreL_eq (x y : Nat) : moreL x y = pL.map fun r => ((mlt r y : Nat) : Int) - ((mlt r x : Nat) : Int) := by
  unfold moreL rooms
  rw [List.zip_map', List.map_map]; rfl
theorem minI_neg {l : List Int} (h : l ≠ []) : minI l < 0 ↔ ∃ x ∈ l, x < 0 := by
  constructor
  · intro q; exact ⟨_, minI_mem h, q⟩
  · rintro ⟨x, hx, q⟩; have := minI_le hx; omega
theorem more_neg (x y : Nat) : minI (moreL x y) < 0 ↔ ∃ r ∈ pL, mlt r y < mlt r x := by
  rw [minI_neg (by rw [moreL_eq]; simp [pL]), moreL_eq]
  constructor
  · rintro ⟨z, hz, q⟩
    obtain ⟨r, hr, rfl⟩ := List.mem_map.mp hz
    exact ⟨r, hr, by omega⟩
  · rintro ⟨r, hr, q⟩
    exact ⟨_, List.mem_map.mpr ⟨r, hr, rfl⟩, by omega⟩
theorem lackB_iff (n w x y : Nat) : lackB n w (moreL x y) = true ↔ ∃ r ∈ pL, mlt r n < mlt r w ∧ mlt r x = mlt r y := by
  unfold lackB rooms
  rw [moreL_eq, zip3_map, List.any_map, List.any_eq_true]
  constructor
  · rintro ⟨r, hr, q⟩
    have q : (decide ((mlt r n : Int) < (mlt r w : Int)) && decide (((mlt r y : Nat) : Int) - ((mlt r x : Nat) : Int) = 0)) = true := q
    simp only [Bool.and_eq_true, decide_eq_true_eq] at q
    exact ⟨r, hr, by omega, by omega⟩
  · rintro ⟨r, hr, q1, q2⟩
    refine ⟨r, hr, ?_⟩
    show (decide ((mlt r n : Int) < (mlt r w : Int)) && decide (((mlt r y : Nat) : Int) - ((mlt r x : Nat) : Int) = 0)) = true
    simp only [Bool.and_eq_true, decide_eq_true_eq]
    omega
/-! runs as rows -/
def Ch (ps : List (Nat × Nat)) : Nat → List Nat → Prop
  | _, [] => True
  | c, y :: ys => ledF ps c = some y ∧ Ch ps y ys
theorem runGo_spec {ps : List (Nat × Nat)} : ∀ (m c : Nat) (acc xs : List Nat), runGo ps m c acc = some xs → ∃ ys, xs = acc ++ ys ∧ ys.length ≤ m ∧ Ch ps c ys ∧ (ys.length < m → ledF ps (ys.getLastD c) = none) ∧ ∀ y ∈ ys, tooB y = false
  | 0, c, acc, xs, h => by cases h; exact ⟨[], by simp, Nat.le_refl _, trivial, fun h => absurd h (Nat.lt_irrefl _), by simp⟩
  | m + 1, c, acc, xs, h => by
    cases e : ledF ps c with
    | none => rw [runGo_end e] at h; cases h; exact ⟨[], by simp, by simp, trivial, fun _ => e, by simp⟩
    | some l =>
      cases t : tooB l with
      | true => rw [runGo_big e t] at h; cases h
      | false =>
        rw [runGo_go e t] at h
        obtain ⟨ys, rfl, h2, h3, h4, h5⟩ := runGo_spec m l _ _ h
        refine ⟨l :: ys, by simp, by simp; omega, ⟨e, h3⟩, fun hl => ?_, fun y hy => ?_⟩
        · rw [List.getLastD_cons]; exact h4 (by simpa using hl)
        · rcases List.mem_cons.mp hy with rfl | hy
          · exact t
          · exact h5 y hy
theorem runGo_of {ps : List (Nat × Nat)} : ∀ (ys : List Nat) (m c : Nat) (acc : List Nat), Ch ps c ys → (∀ y ∈ ys, tooB y = false) → (ys.length = m ∨ (ys.length ≤ m ∧ ledF ps (ys.getLastD c) = none)) → runGo ps m c acc = some (acc ++ ys)
  | [], m, c, acc, _, _, h => by
    rcases h with h | ⟨_, h⟩
    · simp at h; subst h; simp [runGo]
    · rw [runGo_end (by simpa using h)]; simp
  | y :: ys, m, c, acc, ⟨h1, h2⟩, h3, h => by
    cases m with
    | zero => simp at h
    | succ m =>
      rw [runGo_go h1 (h3 y (by simp)), runGo_of ys m y _ h2 (fun z hz => h3 z (by simp [hz]))]
      · simp
      · rcases h with h | ⟨h, q⟩
        · exact .inl (by simpa using h)
        · refine .inr ⟨by simpa using h, ?_⟩
          rw [List.getLastD_cons] at q; exact q
theorem Ch.at {ps : List (Nat × Nat)} : ∀ {ys : List Nat} {c : Nat}, Ch ps c ys → ∀ (j x y : Nat), (c :: ys)[j]? = some x → (c :: ys)[j + 1]? = some y → ledF ps x = some y
  | [], _, _, _, _, _, _, h => by simp at h
  | z :: ys, c, ⟨h1, h2⟩, 0, x, y, hx, hy => by simp at hx hy; subst hx hy; exact h1
  | z :: ys, c, ⟨h1, h2⟩, j + 1, x, y, hx, hy => h2.at j x y (by simpa using hx) (by simpa using hy)
theorem Ch.take {ps : List (Nat × Nat)} : ∀ {ys : List Nat} {c : Nat} (k : Nat), Ch ps c ys → Ch ps c (ys.take k)
  | [], _, _, _ => by simp [Ch]
  | z :: ys, c, 0, _ => trivial
  | z :: ys, c, k + 1, ⟨h1, h2⟩ => ⟨h1, h2.take k⟩
/-- a run's row -/
structure Row (ps : List (Nat × Nat)) (n m : Nat) (xs : List Nat) : Prop where
  run : runF ps n m = some xs
  ex : ∃ ys, xs = n :: ys ∧ ys.length ≤ m ∧ Ch ps n ys ∧ (ys.length < m → ledF ps (ys.getLastD n) = none) ∧ ∀ y ∈ ys, tooB y = false
theorem row_of {ps : List (Nat × Nat)} {n m : Nat} {xs : List Nat} (h : runF ps n m = some xs) : Row ps n m xs := by
  obtain ⟨ys, h1, h2⟩ := runGo_spec m n [n] xs h
  exact ⟨h, ys, h1, h2⟩
theorem Row.len {ps : List (Nat × Nat)} {n m : Nat} {xs : List Nat} (h : Row ps n m xs) : 0 < xs.length ∧ xs.length ≤ m + 1 := by
  obtain ⟨ys, rfl, h2, _⟩ := h.ex
  simp; omega
theorem Row.led {ps : List (Nat × Nat)} {n m : Nat} {xs : List Nat} (h : Row ps n m xs) {j : Nat} (hj : j + 1 < xs.length) : ledF ps (xs.getD j 1) = some (xs.getD (j + 1) 1) := by
  obtain ⟨ys, rfl, _, h3, _⟩ := h.ex
  refine h3.at j _ _ ?_ ?_ <;> (rw [List.getElem?_eq_getElem (by omega), List.getD_eq_getElem?_getD, List.getElem?_eq_getElem (by omega)]; rfl)
theorem led_first {ps : List (Nat × Nat)} {x y : Nat} (h : ledF ps x = some y) : ∃ i, firstAt ps x = some i ∧ y = x / (fr ps i).2 * (fr ps i).1 := by
  unfold ledF at h
  cases e : firstAt ps x with
  | none => rw [e] at h; cases h
  | some i => rw [e] at h; exact ⟨i, rfl, (Option.some.inj h).symm⟩
theorem led_smooth {ps : List (Nat × Nat)} (hps : IsProg ps) {x y : Nat} (hx : Smooth x) (h : ledF ps x = some y) : Smooth y := by
  obtain ⟨i, e, rfl⟩ := led_first h
  obtain ⟨_, hl, hz, _⟩ := firstAt_spec e
  have hf := hps.2 _ (fr_mem hl)
  exact (hx.dvd (Nat.div_dvd_of_dvd (Nat.dvd_of_mod_eq_zero hz))).mul hf.1.smooth
theorem Row.num {ps : List (Nat × Nat)} {n m : Nat} {xs : List Nat} (h : Row ps n m xs) (hps : IsProg ps) (hn : IsNum n) : ∀ {j : Nat}, j < xs.length → IsNum (xs.getD j 1) := by
  intro j
  induction j with
  | zero =>
    intro _
    obtain ⟨ys, rfl, _⟩ := h.ex
    exact hn
  | succ j ih =>
    intro hj
    have hs := led_smooth hps (ih (by omega)).smooth (h.led hj)
    have ht : tooB (xs.getD (j + 1) 1) = false := by
      obtain ⟨ys, rfl, _, _, _, h5⟩ := h.ex
      have hj' : j < ys.length := by simpa using hj
      have : (n :: ys).getD (j + 1) 1 = ys[j] := by rw [List.getD_eq_getElem?_getD, List.getElem?_cons_succ, List.getElem?_eq_getElem hj']; rfl
      rw [this]
      exact h5 _ (List.getElem_mem _)
    exact ⟨hs.1, hs.2, (tooB_iff hs.1).mp ht⟩
theorem Row.first {ps : List (Nat × Nat)} {n m : Nat} {xs : List Nat} (h : Row ps n m xs) {j : Nat} (hj : j + 1 < xs.length) : ∃ i, firstAt ps (xs.getD j 1) = some i := let ⟨i, e, _⟩ := led_first (h.led hj); ⟨i, e⟩
/-- the row of fewer steps -/
theorem Row.short {ps : List (Nat × Nat)} {n m : Nat} {xs : List Nat} (h : Row ps n m xs) (k : Nat) (hk : k < xs.length) : Row ps n k (xs.take (k + 1)) := by
  obtain ⟨ys, rfl, h2, h3, h4, h5⟩ := h.ex
  refine row_of ?_
  have := runGo_of (ys.take k) k n [n] (h3.take k) (fun y hy => h5 y (List.mem_of_mem_take hy)) (.inl (by simp at hk ⊢; omega))
  exact this
/-- an ended run's row is the row of more steps -/
theorem Row.long {ps : List (Nat × Nat)} {n m : Nat} {xs : List Nat} (h : Row ps n m xs) (hl : xs.length ≤ m) (k : Nat) (hk : xs.length ≤ k + 1) : Row ps n k xs := by
  obtain ⟨ys, rfl, h2, h3, h4, h5⟩ := h.ex
  refine row_of ?_
  have := runGo_of ys k n [n] h3 h5 (.inr ⟨by simpa using hk, h4 (by simp at hl; omega)⟩)
  exact this
theorem getD_take {xs : List Nat} {j k : Nat} (h : j < k) : (xs.take k).getD j 1 = xs.getD j 1 := by
  rw [List.getD_eq_getElem?_getD, List.getD_eq_getElem?_getD, List.getElem?_take, if_pos h]
theorem goesB_take {ps : List (Nat × Nat)} {xs : List Nat} {a b k : Nat} (hab : a < b) (hk : b < k) : goesB ps (xs.take k) a b = goesB ps xs a b := by
  unfold goesB
  rw [getD_take (by omega), getD_take hk, List.take_take, Nat.min_eq_left (by omega)]
/-- all pairs of places up to one, by the later -/
def pairsTo : Nat → List (Nat × Nat)
  | 0 => []
  | b + 1 => pairsTo b ++ (List.range b).map fun a => (a, b)
def neverF (ps : List (Nat × Nat)) (xs : List Nat) : Option (Nat × Nat) := (pairsTo xs.length).find? fun p => goesB ps xs p.1 p.2
theorem find_app {α : Type} (p : α → Bool) (l r : List α) (h : l.find? p = none) : (l ++ r).find? p = r.find? p := by rw [List.find?_append, h]; rfl
theorem goes_first {ps : List (Nat × Nat)} {xs : List Nat} {n m a b k : Nat} (hps : IsProg ps) (hn : IsNum n) (h : Row ps n m xs) (hab : a < b) (hb : b < xs.length) (g : goesB ps xs a b = true) (hak : a ≤ k) (hkb : k < b) {D : Nat} (hD : xs.getD b 1 = xs.getD a 1 * D) (hD0 : 0 < D) (t : Nat) :
    firstAt ps (xs.getD k 1 * D ^ t) = firstAt ps (xs.getD k 1) := by
  obtain ⟨i, e⟩ := h.first (j := k) (by omega)
  obtain ⟨_, hl, hz, hbef⟩ := firstAt_spec e
  have nk := h.num hps hn (j := k) (by omega)
  have na := h.num hps hn (j := a) (by omega)
  rw [e]
  unfold goesB at g
  rw [Bool.and_eq_true, List.all_eq_true] at g
  have g2 := g.2 (xs.getD k 1) (by
    refine List.mem_of_getElem? (i := k - a) ?_
    rw [List.getElem?_drop, List.getElem?_take, if_pos (by omega), show a + (k - a) = k by omega, List.getD_eq_getElem?_getD, List.getElem?_eq_getElem (by omega)]; rfl)
  rw [e, List.all_eq_true] at g2
  refine firstAt_of hl (Nat.mod_eq_zero_of_dvd (Nat.dvd_trans (Nat.dvd_of_mod_eq_zero hz) (Nat.dvd_mul_right _ _))) fun j hj w => ?_
  have hjl : j < ps.length := by omega
  have hj2 := g2 (fr ps j) (mem_take hj hjl)
  obtain ⟨r, hr, h1, h2⟩ := (lackB_iff _ _ _ _).mp hj2
  have hp := pL_pm r hr
  have e3 : mlt r D = 0 := by
    have := mlt_mul hp na.1 hD0
    rw [← hD] at this
    omega
  have pos : 0 < D ^ t := Nat.pow_pos hD0
  have := mlt_of_dvd hp (Nat.mul_pos nk.1 pos) (Nat.dvd_of_mod_eq_zero w)
  rw [mlt_mul hp nk.1 pos, mlt_powP hp hD0, e3] at this
  omega
theorem led_mul {ps : List (Nat × Nat)} {x y E i : Nat} (hy : ledF ps x = some y) (hx : firstAt ps x = some i) (hE : firstAt ps (x * E) = some i) : ledF ps (x * E) = some (y * E) := by
  obtain ⟨i', e, rfl⟩ := led_first hy
  rw [hx] at e
  cases e
  obtain ⟨_, hl, hz, _⟩ := firstAt_spec hx
  unfold ledF
  rw [hE, Option.map_some]
  congr 1
  obtain ⟨c, hc⟩ := Nat.dvd_of_mod_eq_zero hz
  rcases Nat.eq_zero_or_pos (fr ps i).2 with z | z
  · rw [z]; simp
  · rw [hc, Nat.mul_assoc, Nat.mul_div_cancel_left _ z, Nat.mul_div_cancel_left _ z, Nat.mul_assoc, Nat.mul_assoc, Nat.mul_comm E]
/-- the run's numbers, for ever -/
def orb (xs : List Nat) (a b D j : Nat) : Nat := if j < a then xs.getD j 1 else xs.getD (a + (j - a) % (b - a)) 1 * D ^ ((j - a) / (b - a))
def plc (ps : List (Nat × Nat)) (xs : List Nat) (a b j : Nat) : Nat := if j < a then (firstAt ps (xs.getD j 1)).getD 0 else (firstAt ps (xs.getD (a + (j - a) % (b - a)) 1)).getD 0
structure Orb (ps : List (Nat × Nat)) (s : Nat → Nat) (pf : Nat → Nat) : Prop where
  led : ∀ j, ledF ps (s j) = some (s (j + 1))
  first : ∀ j, firstAt ps (s j) = some (pf j)
theorem goes_orb {ps : List (Nat × Nat)} {xs : List Nat} {n m a b : Nat} (hps : IsProg ps) (hn : IsNum n) (h : Row ps n m xs) (hab : a < b) (hb : b < xs.length) (g : goesB ps xs a b = true) :
    ∃ (s pf : Nat → Nat), Orb ps s pf ∧ s 0 = n ∧ ∀ j, a ≤ j → pf (j + (b - a)) = pf j := by
  have na := h.num hps hn (j := a) (by omega)
  have nb := h.num hps hn (j := b) hb
  have hdv : xs.getD a 1 ∣ xs.getD b 1 := (smooth_dvd na.smooth nb.1).mpr fun r hr => by
    have g' := g
    unfold goesB at g'
    rw [Bool.and_eq_true, Bool.not_eq_true', decide_eq_false_iff_not, more_neg] at g'
    exact Nat.le_of_not_lt fun q => g'.1 ⟨r, hr, q⟩
  obtain ⟨D, hD⟩ := hdv
  have hD0 : 0 < D := Nat.pos_of_ne_zero fun z => by rw [z, Nat.mul_zero] at hD; have := nb.1; omega
  have L0 : 0 < b - a := by omega
  have fst : ∀ j, firstAt ps (orb xs a b D j) = some (plc ps xs a b j) := fun j => by
    unfold orb plc
    by_cases hj : j < a
    · rw [if_pos hj, if_pos hj]
      obtain ⟨i, e⟩ := h.first (j := j) (by omega)
      rw [e]; rfl
    · rw [if_neg hj, if_neg hj]
      have hk := Nat.mod_lt (j - a) L0
      rw [goes_first hps hn h hab hb g (k := a + (j - a) % (b - a)) (by omega) (by omega) hD hD0]
      obtain ⟨i, e⟩ := h.first (j := a + (j - a) % (b - a)) (by omega)
      rw [e]; rfl
  refine ⟨orb xs a b D, plc ps xs a b, ⟨fun j => ?_, fst⟩, ?_, fun j hj => ?_⟩
  · have f := fst j
    unfold orb at f ⊢
    by_cases hj : j < a
    · rw [if_pos hj] at f ⊢
      have l := h.led (j := j) (by omega)
      by_cases hj2 : j + 1 < a
      · rw [if_pos hj2]; exact l
      · rw [if_neg hj2]
        have e : j + 1 = a := by omega
        rw [e, Nat.sub_self, Nat.zero_mod, Nat.zero_div, Nat.add_zero, Nat.pow_zero, Nat.mul_one, ← e]; exact l
    · rw [if_neg hj] at f ⊢
      rw [if_neg (by omega)]
      have hk := Nat.mod_lt (j - a) L0
      have l := h.led (j := a + (j - a) % (b - a)) (by omega)
      obtain ⟨i, e⟩ := h.first (j := a + (j - a) % (b - a)) (by omega)
      have f2 := goes_first hps hn h hab hb g (k := a + (j - a) % (b - a)) (by omega) (by omega) hD hD0 ((j - a) / (b - a))
      rw [e] at f2
      rw [led_mul l e f2]
      congr 1
      have dm := Nat.div_add_mod (j - a) (b - a)
      by_cases hlast : (j - a) % (b - a) + 1 = b - a
      · have e1 : j + 1 - a = (b - a) * ((j - a) / (b - a) + 1) := by rw [Nat.mul_add]; omega
        rw [e1, Nat.mul_mod_right, Nat.mul_div_cancel_left _ L0, Nat.add_zero, Nat.pow_succ, show a + (j - a) % (b - a) + 1 = b by omega, hD, Nat.mul_assoc, Nat.mul_comm D]; rfl
      · have e1 : j + 1 - a = (b - a) * ((j - a) / (b - a)) + ((j - a) % (b - a) + 1) := by omega
        rw [e1, Nat.mul_add_mod, Nat.mod_eq_of_lt (show (j - a) % (b - a) + 1 < b - a by omega), Nat.mul_add_div L0, Nat.div_eq_of_lt (show (j - a) % (b - a) + 1 < b - a by omega), Nat.add_assoc]; rfl
  · unfold orb
    by_cases ha : 0 < a
    · rw [if_pos ha]
      obtain ⟨ys, rfl, _⟩ := h.ex
      rfl
    · have : a = 0 := by omega
      subst this
      rw [if_neg (by omega)]
      obtain ⟨ys, rfl, _⟩ := h.ex
      simp
  · unfold plc
    rw [if_neg (by omega), if_neg (by omega), show j + (b - a) - a = j - a + (b - a) by omega, Nat.add_mod_right]
theorem orb_row {ps : List (Nat × Nat)} {s pf : Nat → Nat} (o : Orb ps s pf) (hc : Cop ps) : ∀ (m j : Nat) (acc pl : List Nat), (∀ i, i ≤ j + m → tooB (s i) = false) → lrunGo ps m (s j) acc pl = (some (acc ++ (List.range m).map fun i => s (j + 1 + i)), pl ++ (List.range m).map fun i => pf (j + i))
  | 0, j, acc, pl, _ => by simp [lrunGo]
  | m + 1, j, acc, pl, h => by
    have e : lstep ps (s j) = some (pf j, s (j + 1)) := by
      have e1 := lstep_eq hc (s j)
      have e2 := lstep_led hc (s j)
      rw [o.first j, Option.map_some] at e1
      rw [e1, o.led j] at e2
      rw [e1]
      have e2 := Option.some.inj e2
      congr 2
    have := orb_row o hc m (j + 1) (acc ++ [s (j + 1)]) (pl ++ [pf j]) fun i hi => h i (by omega)
    rw [lrunGo_go e (h _ (by omega)), this, List.range_succ_eq_map, List.map_cons, List.map_cons, List.map_map, List.map_map]
    simp only [List.append_assoc, List.singleton_append]
    congr 2
    · congr 2
      refine List.map_congr_left fun i _ => ?_
      show s (j + 1 + 1 + i) = s (j + 1 + (i + 1))
      congr 1
      omega
    · congr 1
      refine List.map_congr_left fun i _ => ?_
      show pf (j + 1 + i) = pf (j + (i + 1))
      congr 1
      omega
/-- tops of few primes -/
def Light (ps : List (Nat × Nat)) : Prop := ∀ p ∈ ps, ∀ r ∈ pL, mlt r p.1 ≤ 2
theorem orb_light {ps : List (Nat × Nat)} {s pf : Nat → Nat} {c : Nat} (o : Orb ps s pf) (hps : IsProg ps) (hl : Light ps) (h0 : Smooth (s 0)) (hc : ∀ r ∈ pL, mlt r (s 0) ≤ c) : ∀ j, Smooth (s j) ∧ ∀ r ∈ pL, mlt r (s j) ≤ c + 2 * j
  | 0 => ⟨h0, fun r hr => hc r hr⟩
  | j + 1 => by
    obtain ⟨h1, h2⟩ := orb_light o hps hl h0 hc j
    have l := o.led j
    refine ⟨led_smooth hps h1 l, fun r hr => ?_⟩
    obtain ⟨i, e, q⟩ := led_first l
    obtain ⟨_, hil, hz, _⟩ := firstAt_spec e
    have d := Nat.dvd_of_mod_eq_zero hz
    have hf := hps.2 _ (fr_mem hil)
    have pos : 0 < s j / (fr ps i).2 := Nat.div_pos (Nat.le_of_dvd h1.1 d) hf.2.1.1
    have a1 := mlt_of_dvd (pL_pm r hr) h1.1 (Nat.div_dvd_of_dvd d)
    have a2 := hl _ (fr_mem hil) r hr
    have a3 := h2 r hr
    rw [q, mlt_mul (pL_pm r hr) pos hf.1.1]
    omega
theorem orb_small {ps : List (Nat × Nat)} {s pf : Nat → Nat} {c k : Nat} (o : Orb ps s pf) (hps : IsProg ps) (hl : Light ps) (h0 : Smooth (s 0)) (hc : ∀ r ∈ pL, mlt r (s 0) ≤ c) (hk : c + 2 * k ≤ 400) : ∀ i, i ≤ k → tooB (s i) = false := fun i hi => by
  obtain ⟨h1, h2⟩ := orb_light o hps hl h0 hc i
  refine (tooB_iff h1.1).mpr fun x hx => ?_
  obtain ⟨r, hr, rfl⟩ := List.mem_map.mp hx
  have := h2 r hr
  show mlt r (s i) ≤ 400
  omega
theorem mlt_prime {r p : Nat} (hr : Pm r) (hp : Pm p) : mlt r p ≤ 1 := by
  by_cases e : r = p
  · subst e
    have := mlt_powSelf hr.1 1
    rw [Nat.pow_one] at this
    omega
  · have := mlt_powOther hr hp e 1
    rw [Nat.pow_one] at this
    omega
theorem someP_mlt (m : Int) {q : Nat} (h0 : 0 < q) (h1 : q ≤ 12) {r : Nat} (hr : r ∈ pL) : ∀ i, mlt r (someP m q i) ≤ i
  | 0 => by simp [someP, mlt_one (pL_pm r hr).1]
  | i + 1 => by
    have hp := pL_at (draw_ix m (0 + (i : Int)) h0 h1).2.2
    have := someP_mlt m h0 h1 hr i
    have h2 := mlt_prime (pL_pm r hr) (pL_pm _ hp)
    rw [someP, mlt_mul (pL_pm r hr) (someP_smooth m h0 h1 i).1 (smooth_prime hp).1]
    omega
theorem someF_mlt (m : Int) {q t : Nat} (h0 : 0 < q) (h1 : q ≤ 12) {r : Nat} (hr : r ∈ pL) : mlt r (someF m q t) ≤ t := Nat.le_trans (someP_mlt m h0 h1 hr _) (some_cnt m t)
theorem progF_light (m : Int) {q : Nat} (h0 : 0 < q) (h1 : q ≤ 12) : Light (progF m q) := fun p hp r hr => by
  obtain ⟨hp, _⟩ := List.mem_filter.mp hp
  obtain ⟨j, _, rfl⟩ := List.mem_map.mp hp
  have s1 := someF_smooth (drawn (drawn m (0 + (j : Int))) 1) h0 h1 2
  have s2 := someF_smooth (drawn (drawn m (0 + (j : Int))) 2) h0 h1 3
  obtain ⟨_, _, a3, _, _⟩ := redAll_spec pL (someF (drawn (drawn m (0 + (j : Int))) 1) q 2, someF (drawn (drawn m (0 + (j : Int))) 2) q 3) (fun p hp => (pL_pm p hp).1) s1.1 s2.1
  exact Nat.le_trans (mlt_of_dvd (pL_pm r hr) s1.1 a3) (someF_mlt _ h0 h1 hr)
end Fr
namespace Fr
open PySem PySem.Spec PyProof.Rows L2 Mx
variable [TabL]
/-! what the program's defs give -/
section
variable (K : PySem.W.Frag)
def walkE (ps : List (Nat × Nat)) (n m : Nat) : Except Value Dt := match runF ps n m with
  | some xs => .ok (lN xs)
  | none => cE K "TooGreat"
def neverE (ps : List (Nat × Nat)) (n : Nat) (f : Dt) : Except Value Dt := if isCount f 0 200 then (match runF ps n (decN f) with
  | some xs => .ok (oP (neverF ps xs))
  | none => cE K "TooGreat") else cE K "BadNumber"
/-- two places, the first earlier -/
def pairD : Dt → Option (Nat × Nat)
  | .tuple [.int a, .int b] => if 0 ≤ a ∧ a < b ∧ b ≤ 200 then some (a.toNat, b.toNat) else none
  | _ => none
def showsE (ps : List (Nat × Nat)) (n : Nat) (t : Dt) : Except Value Dt := match pairD t with
  | none => .ok (.bool false)
  | some p => match runF ps n p.2 with
    | some xs => .ok (.bool (decide (xs.length = p.2 + 1) && goesB ps xs p.1 p.2))
    | none => cE K "TooGreat"
end
section
variable {K : PySem.W.Frag}
theorem walkE_some {ps : List (Nat × Nat)} {n m : Nat} {xs : List Nat} (h : runF ps n m = some xs) : walkE K ps n m = .ok (lN xs) := by unfold walkE; rw [h]
theorem walkE_none {ps : List (Nat × Nat)} {n m : Nat} (h : runF ps n m = none) : walkE K ps n m = cE K "TooGreat" := by unfold walkE; rw [h]
theorem walkE_inv {ps : List (Nat × Nat)} {n m : Nat} {x : Dt} (h : walkE K ps n m = .ok x) : ∃ xs, runF ps n m = some xs ∧ x = lN xs := by
  unfold walkE at h
  cases e : runF ps n m with
  | none => rw [e] at h; cases h
  | some xs => rw [e] at h; cases h; exact ⟨xs, rfl, rfl⟩
theorem walkE_xc {ps : List (Nat × Nat)} {n m : Nat} {c : Value} (h : walkE K ps n m = .error c) : runF ps n m = none ∧ c = .ref (He.ga K "TooGreat") := by
  unfold walkE at h
  cases e : runF ps n m with
  | none => rw [e] at h; cases h; exact ⟨rfl, rfl⟩
  | some xs => rw [e] at h; cases h
theorem neverE_some {ps : List (Nat × Nat)} {n m : Nat} {xs : List Nat} (hm : m ≤ 200) (h : runF ps n m = some xs) : neverE K ps n (nD m) = .ok (oP (neverF ps xs)) := by
  unfold neverE
  rw [isCount_nD (by omega), if_pos rfl, decN_nD, h]
theorem neverE_none {ps : List (Nat × Nat)} {n m : Nat} (hm : m ≤ 200) (h : runF ps n m = none) : neverE K ps n (nD m) = cE K "TooGreat" := by
  unfold neverE
  rw [isCount_nD (by omega), if_pos rfl, decN_nD, h]
theorem neverE_not {ps : List (Nat × Nat)} {n : Nat} {f : Dt} (h : isCount f 0 200 = false) : neverE K ps n f = cE K "BadNumber" := by
  unfold neverE
  rw [h]; rfl
theorem showsE_no {ps : List (Nat × Nat)} {n : Nat} {t : Dt} (h : pairD t = none) : showsE K ps n t = .ok (.bool false) := by unfold showsE; rw [h]
theorem showsE_some {ps : List (Nat × Nat)} {n : Nat} {t : Dt} {a b : Nat} {xs : List Nat} (h : pairD t = some (a, b)) (h2 : runF ps n b = some xs) : showsE K ps n t = .ok (.bool (decide (xs.length = b + 1) && goesB ps xs a b)) := by
  unfold showsE; rw [h]
  show (match runF ps n b with | some xs => _ | none => _) = _
  rw [h2]
theorem showsE_none {ps : List (Nat × Nat)} {n : Nat} {t : Dt} {a b : Nat} (h : pairD t = some (a, b)) (h2 : runF ps n b = none) : showsE K ps n t = cE K "TooGreat" := by
  unfold showsE; rw [h]
  show (match runF ps n b with | some xs => _ | none => _) = _
  rw [h2]
end
theorem pairD_nD {a b : Nat} (h : a < b) (hb : b ≤ 200) : pairD (prD (a, b)) = some (a, b) := by
  show (if 0 ≤ (a : Int) ∧ (a : Int) < (b : Int) ∧ (b : Int) ≤ 200 then some ((a : Int).toNat, (b : Int).toNat) else none) = _
  rw [if_pos (by omega)]; simp
/-- a pair of counts -/
def goodP : Dt → Bool
  | .tuple ds => decide ((ds.length : Int) = 2) && ds.all fun d => isCount d 0 200
  | _ => false
theorem goodP_of {t : Dt} (h : goodP t = true) : ∃ a b : Nat, t = prD (a, b) ∧ a ≤ 200 ∧ b ≤ 200 := by
  cases t <;> try (cases h; done)
  rename_i ds
  have h : (decide ((ds.length : Int) = 2) && ds.all fun d => isCount d 0 200) = true := h
  rw [Bool.and_eq_true, decide_eq_true_eq, List.all_eq_true] at h
  match ds, h with
  | [x, y], h =>
    obtain ⟨i, rfl, h1, h2⟩ := isCount_of (h.2 x (by simp))
    obtain ⟨j, rfl, h3, h4⟩ := isCount_of (h.2 y (by simp))
    exact ⟨i.toNat, j.toNat, by show PyData.tuple [.int i, .int j] = .tuple [.int _, .int _]; congr 3 <;> first | omega | (congr 1; omega), by omega, by omega⟩
  | [], h => simp at h
  | [_], h => simp at h
  | _ :: _ :: _ :: _, h => simp at h; omega
theorem pairD_bad {t : Dt} (h : goodP t = false) : pairD t = none := by
  cases e : pairD t with
  | none => rfl
  | some p =>
    unfold pairD at e
    split at e
    · rename_i a b
      split at e
      · rename_i hc
        have : goodP (.tuple [.int a, .int b]) = true := by
          show (decide (((2 : Nat) : Int) = 2) && (isCount (.int a) 0 200 && (isCount (.int b) 0 200 && true))) = true
          have e1 : isCount (.int a) 0 200 = true := by show (decide ((0 : Int) ≤ a) && decide (a ≤ 200)) = true; simp only [Bool.and_eq_true, decide_eq_true_eq]; omega
          have e2 : isCount (.int b) 0 200 = true := by show (decide ((0 : Int) ≤ b) && decide (b ≤ 200)) = true; simp only [Bool.and_eq_true, decide_eq_true_eq]; omega
          rw [e1, e2]; rfl
        rw [this] at h; cases h
      · cases e
    · cases e
theorem pairD_ge {a b : Nat} (h : b ≤ a) : pairD (prD (a, b)) = none := by
  show (if 0 ≤ (a : Int) ∧ (a : Int) < (b : Int) ∧ (b : Int) ≤ 200 then some ((a : Int).toNat, (b : Int).toNat) else none) = _
  rw [if_neg (by omega)]
theorem row_atI {xs : List Nat} {j : Nat} (h : j < xs.length) : atI xs (j : Int) = some (xs.getD j 1) := by
  have := atI_of (xs := xs) (i := (j : Int)) (by omega) (by omega) 1
  simpa using this
theorem all_false {α : Type} {l : List α} {p : α → Bool} {i : Nat} {x : α} (h : l[i]? = some x) (hp : p x = false) : l.all p = false := List.all_eq_false.mpr ⟨x, List.mem_of_getElem? h, by rw [hp]; exact Bool.false_ne_true⟩
theorem all_true {α : Type} {l : List α} {p : α → Bool} (h : ∀ j x, j < l.length → l[j]? = some x → p x = true) : l.all p = true := List.all_eq_true.mpr fun x hx => by
  obtain ⟨j, hj⟩ := List.mem_iff_getElem?.mp hx
  exact h j x (List.getElem?_eq_some_iff.mp hj).1 hj
theorem slice_get {xs : List Nat} {a b i : Nat} {x : Nat} (h : ((xs.take b).drop a)[i]? = some x) : a + i < b ∧ a + i < xs.length ∧ xs.getD (a + i) 1 = x := by
  rw [List.getElem?_drop, List.getElem?_take] at h
  by_cases hb : a + i < b
  · rw [if_pos hb] at h
    exact ⟨hb, (List.getElem?_eq_some_iff.mp h).1, by rw [List.getD_eq_getElem?_getD, h]; rfl⟩
  · rw [if_neg hb] at h; cases h
end Fr
namespace Fr
open PySem PySem.Spec PyProof.Rows L2 Mx
variable [TabL]
theorem pairD_some {t : Dt} (h : (pairD t).isNone = false) : ∃ a b : Nat, t = prD (a, b) ∧ a < b ∧ b ≤ 200 := by
  cases e : goodP t with
  | false => rw [pairD_bad e] at h; cases h
  | true =>
    obtain ⟨a, b, rfl, ha, hb⟩ := goodP_of e
    refine ⟨a, b, rfl, Nat.lt_of_not_le fun q => ?_, hb⟩
    rw [pairD_ge q] at h; cases h
theorem pairsTo_le : ∀ {m k : Nat}, m ≤ k → ∃ l, pairsTo k = pairsTo m ++ l
  | m, k, h => by
    induction k with
    | zero => obtain rfl : m = 0 := by omega
              exact ⟨[], by simp⟩
    | succ k ih =>
      by_cases e : m = k + 1
      · subst e; exact ⟨[], by simp⟩
      · obtain ⟨l, hl⟩ := ih (by omega)
        exact ⟨l ++ (List.range k).map fun a => (a, k), by rw [pairsTo, hl, List.append_assoc]⟩
theorem find_pair {P : Nat × Nat → Bool} {i j k : Nat} (h1 : (pairsTo (j + 1)).find? P = none) (h2 : ((List.range i).map fun a => (a, j + 1)).find? P = none) (hi : i < j + 1) (hj : j + 1 < k) (h : P (i, j + 1) = true) : (pairsTo k).find? P = some (i, j + 1) := by
  obtain ⟨l, hl⟩ := pairsTo_le (m := j + 2) (k := k) (by omega)
  have e : pairsTo (j + 2) = pairsTo (j + 1) ++ (List.range (j + 1)).map fun a => (a, j + 1) := rfl
  obtain ⟨d, hd⟩ : ∃ d, j + 1 = i + 1 + d := ⟨j - i, by omega⟩
  have e2 : (List.range (j + 1)).map (fun a => (a, j + 1)) = ((List.range i).map fun a => (a, j + 1)) ++ ((i, j + 1) :: ((List.range d).map fun a => (i + 1 + a, j + 1))) := by
    conv => lhs; rw [show List.range (j + 1) = List.range (i + 1 + d) by rw [hd]]
    rw [List.range_add, List.range_succ, List.map_append, List.map_append, List.map_map, List.append_assoc]; rfl
  rw [hl, e, e2, List.append_assoc, find_app _ _ _ h1, List.append_assoc, find_app _ _ _ h2, List.cons_append, List.find?_cons, h]
end Fr
namespace Fr
open PySem PySem.Spec PyProof.Rows L2 Mx
variable [TabL]
def still40 (x y z : Nat) : Bool := decide ((((rooms x).getD z 0 : Nat) : Int) = (((rooms y).getD z 0 : Nat) : Int))
theorem room_at (n : Nat) {z : Nat} (h : z < 12) : atI (rooms n) (z : Int) = some ((rooms n).getD z 0) := by
  have := atI_of (xs := rooms n) (i := (z : Int)) (by omega) (by rw [rooms_len]; omega) 0
  simpa using this
theorem room_at0 (n : Nat) {z : Nat} (h : z ∈ List.range ((12 : Int)).toNat) : atI (rooms n) (0 + (z : Int)) = some ((rooms n).getD z 0) := by
  rw [Int.zero_add]; exact room_at n (List.mem_range.mp h)
theorem still_lt {x y z : Nat} (h : z ∈ (List.range 12).filter (still40 x y)) : z < 12 := List.mem_range.mp (List.mem_filter.mp h).1
theorem less40 (x y : Nat) : (!decide (((rooms x).zip (rooms y)).filter (fun p : Nat × Nat => decide ((p.2 : Int) < (p.1 : Int))) = [])) = decide (minI (moreL x y) < 0) := by
  rw [← decide_not]
  congr 1
  simp only [eq_iff_iff]
  rw [more_neg, List.filter_eq_nil_iff]
  unfold rooms
  rw [List.zip_map']
  constructor
  · intro h
    refine Classical.byContradiction fun no => h fun p hp => ?_
    obtain ⟨r, hr, rfl⟩ := List.mem_map.mp hp
    simp only [decide_eq_true_eq]
    intro q
    exact no ⟨r, hr, by omega⟩
  · rintro ⟨r, hr, q⟩ h
    have := h _ (List.mem_map.mpr ⟨r, hr, rfl⟩)
    simp only [decide_eq_true_eq] at this
    omega
theorem room_getD (n : Nat) {z : Nat} (h : z < 12) : ∃ r ∈ pL, (∀ m : Nat, (rooms m).getD z 0 = mlt r m) := by
  have hl : z < pL.length := h
  refine ⟨pL[z], List.getElem_mem hl, fun m => ?_⟩
  unfold rooms
  rw [List.getD_eq_getElem?_getD, List.getElem?_map, List.getElem?_eq_getElem hl]; rfl
theorem getD_room {r : Nat} (h : r ∈ pL) : ∃ z, z < 12 ∧ ∀ m : Nat, (rooms m).getD z 0 = mlt r m := by
  obtain ⟨z, hz, e⟩ := List.mem_iff_getElem.mp h
  refine ⟨z, hz, fun m => ?_⟩
  unfold rooms
  rw [List.getD_eq_getElem?_getD, List.getElem?_map, List.getElem?_eq_getElem hz, e]; rfl
theorem lack40 (n w x y : Nat) : decide (((List.range 12).filter (still40 x y)).filter (fun z : Nat => decide ((((rooms n).getD z 0 : Nat) : Int) < (((rooms w).getD z 0 : Nat) : Int))) = []) = !lackB n w (moreL x y) := by
  rw [Bool.eq_iff_iff, decide_eq_true_eq, Bool.not_eq_true', List.filter_eq_nil_iff]
  constructor
  · intro h
    refine Bool.eq_false_iff.mpr fun q => ?_
    obtain ⟨r, hr, h1, h2⟩ := (lackB_iff _ _ _ _).mp q
    obtain ⟨z, hz, e⟩ := getD_room hr
    have := h z (List.mem_filter.mpr ⟨List.mem_range.mpr hz, by unfold still40; rw [e, e, h2]; simp⟩)
    rw [e, e] at this
    simp only [decide_eq_true_eq] at this
    omega
  · intro h z hz q
    obtain ⟨hz1, hz2⟩ := List.mem_filter.mp hz
    obtain ⟨r, hr, e⟩ := room_getD n (List.mem_range.mp hz1)
    unfold still40 at hz2
    rw [e, e] at q hz2
    simp only [decide_eq_true_eq] at q hz2
    rw [(lackB_iff _ _ _ _).mpr ⟨r, hr, by omega, by omega⟩] at h
    cases h
theorem bads40 {K : PySem.W.Frag} {ps : List (Nat × Nat)} {n m : Nat} {xs : List Nat} (hps : IsProg ps) (hn : IsNum n) (h : Row ps n m xs) (hm : m ≤ 100) {i : Nat} {d : Dt}
    (hd : ([.none, .tuple [], .tuple [.int 0], .list [.int 0, .int 1], .tuple [.int 1, .int 0], .tuple [.int 0, .int 0], .tuple [.int (-1), .int 1], .tuple [.int 0, .int 201], .tuple [.int 0, .none], .tuple [.bool false, .int 1], .tuple [.int 0, .int 1, .int 2]] ++ (List.replicate (if decide (((xs.map fun k : Nat => PyData.int (k : Int)).length : Int) ≤ (m : Int)) then (1 : Int) else 0).toNat [PyData.tuple [.int 0, .int ((xs.map fun k : Nat => PyData.int (k : Int)).length : Int)]]).flatten : List Dt)[i]? = some d) : showsE K ps n d = .ok (.bool false) := by
  have hd := List.mem_of_getElem? hd
  rcases List.mem_append.mp hd with hd | hd
  · simp only [List.mem_cons, List.not_mem_nil, or_false] at hd
    rcases hd with rfl | rfl | rfl | rfl | rfl | rfl | rfl | rfl | rfl | rfl | rfl <;> exact showsE_no (by rfl)
  · by_cases hl : (((xs.map fun k : Nat => PyData.int (k : Int)).length : Int)) ≤ (m : Int)
    · rw [decide_eq_true hl] at hd
      have hd : d = PyData.tuple [.int 0, .int ((xs.map fun k : Nat => PyData.int (k : Int)).length : Int)] := by simpa using hd
      rw [List.length_map] at hl hd
      have e : d = prD (0, xs.length) := hd
      rw [e]
      have hx := h.len
      have r := h.long (by omega) xs.length (by omega)
      rw [showsE_some (pairD_nD hx.1 (by omega)) r.run, decide_eq_false (by omega)]; rfl
    · rw [decide_eq_false hl] at hd
      simp at hd
theorem end40 {K : PySem.W.Frag} {ps : List (Nat × Nat)} {n : Nat} {so pf : Nat → Nat} (o : Orb ps so pf) (h : runF ps n 60 = some ([n] ++ (List.range 60).map fun i => so (0 + 1 + i))) : endE K ps n (nD 60) = .ok .none := by
  have e : [n] ++ (List.range 60).map (fun i => so (0 + 1 + i)) = ([n] ++ (List.range 59).map fun i => so (0 + 1 + i)) ++ [so (0 + 1 + 59)] := by
    rw [show List.range 60 = List.range 59 ++ [59] from List.range_succ, List.map_append, List.append_assoc]; rfl
  rw [e] at h
  rw [endE_some (by decide) h, o.led]; rfl
theorem again40 {pf : Nat → Nat} {a b t : Nat} (h : ∀ j, a ≤ j → pf (j + (b - a)) = pf j) (hab : a < b) (ht : 2 * b - a ≤ t) : (((List.range t).map pf).take b).drop a = (((List.range t).map pf).take (2 * b - a)).drop b := by
  refine List.ext_getElem? fun i => ?_
  rw [List.getElem?_drop, List.getElem?_drop, List.getElem?_take, List.getElem?_take, List.getElem?_map, List.getElem?_map]
  by_cases hi : a + i < b
  · rw [if_pos hi, if_pos (by omega), List.getElem?_range (by omega), List.getElem?_range (by omega)]
    show some (pf (a + i)) = some (pf (b + i))
    rw [← h (a + i) (by omega), show a + i + (b - a) = b + i by omega]
  · rw [if_neg hi, if_neg (by omega)]
theorem shows40 {K : PySem.W.Frag} {ps : List (Nat × Nat)} {n m : Nat} {xs : List Nat} (h : Row ps n m xs) {a b : Nat} (hab : a < b) (hb : b < xs.length) (hb2 : b ≤ 200) : showsE K ps n (prD (a, b)) = .ok (.bool (goesB ps xs a b)) := by
  rw [showsE_some (pairD_nD hab hb2) (h.short b hb).run, goesB_take hab (by omega), decide_eq_true (by rw [List.length_take]; omega), Bool.true_and]
theorem sh_oP (o : Option (Nat × Nat)) : SeqAt.shaped (oP o) = true := by
  cases o with
  | none => rfl
  | some p => rfl
theorem never_spec {ps : List (Nat × Nat)} {xs : List Nat} {a b : Nat} (h : neverF ps xs = some (a, b)) : a < b ∧ b < xs.length ∧ goesB ps xs a b = true := by
  have h2 := List.mem_of_find?_eq_some h
  have h3 : (fun p : Nat × Nat => goesB ps xs p.1 p.2) (a, b) = true := List.find?_some (p := fun p : Nat × Nat => goesB ps xs p.1 p.2) h
  have : ∀ k, (a, b) ∈ pairsTo k → a < b ∧ b < k := fun k => by
    induction k with
    | zero => intro q; cases q
    | succ k ih =>
      intro q
      rcases List.mem_append.mp q with q | q
      · have := ih q; omega
      · obtain ⟨x, hx, e⟩ := List.mem_map.mp q
        cases e
        have := List.mem_range.mp hx
        omega
  obtain ⟨q1, q2⟩ := this _ h2
  exact ⟨q1, q2, h3⟩
theorem due40 {P : Nat × Nat → Bool} (l : List (Nat × Nat)) (i j : Nat) : (l ++ (List.range (i + 1)).map fun a => (a, j)).find? P = ((l ++ (List.range i).map fun a => (a, j)).find? P).or (if P (i, j) then some (i, j) else none) := by
  rw [List.range_succ, List.map_append, ← List.append_assoc, List.find?_append, List.map_singleton, List.find?_singleton]
theorem lrun_placesA {ps : List (Nat × Nat)} (hps : IsProg ps) : ∀ (m c : Nat) (acc pl : List Nat) (ys : List Nat), runGo ps m c acc = some (acc ++ ys) → ∀ j, j < ys.length → (lrunGo ps m c acc pl).2[pl.length + j]? = firstAt ps ((c :: ys).getD j 1)
  | 0, c, acc, pl, ys, h, j, hj => by
    have h : some acc = some (acc ++ ys) := h
    have := Option.some.inj h
    have : ys = [] := by simpa using this
    subst this; simp at hj
  | m + 1, c, acc, pl, ys, h, j, hj => by
    cases e : ledF ps c with
    | none =>
      rw [runGo_end e] at h
      have := Option.some.inj h
      have : ys = [] := by simpa using this
      subst this; simp at hj
    | some l =>
      cases t : tooB l with
      | true => rw [runGo_big e t] at h; cases h
      | false =>
        rw [runGo_go e t] at h
        obtain ⟨i, ei, el⟩ := led_first e
        have es : lstep ps c = some (i, l) := by rw [lstep_eq hps.cop, ei, el]; rfl
        obtain ⟨zs, hz, _⟩ := runGo_spec m l _ _ h
        have hys : ys = l :: zs := by simpa using hz
        subst hys
        rw [lrunGo_go es t]
        cases j with
        | zero =>
          obtain ⟨pl2, hpl2⟩ := lrunGo_pre (ps := ps) m l (acc ++ [l]) (pl ++ [i])
          show (lrunGo ps m l (acc ++ [l]) (pl ++ [i])).2[pl.length + 0]? = firstAt ps c
          rw [hpl2, ei]; simp
        | succ j =>
          have := lrun_placesA hps m l (acc ++ [l]) (pl ++ [i]) zs (by rw [h]; simp) j (by simpa using hj)
          rw [List.length_append, List.length_singleton, Nat.add_assoc, Nat.add_comm 1 j] at this
          exact this
where
  lrunGo_pre {ps : List (Nat × Nat)} : ∀ (m c : Nat) (acc pl : List Nat), ∃ l, (lrunGo ps m c acc pl).2 = pl ++ l
    | 0, _, _, pl => ⟨[], by simp [lrunGo]⟩
    | m + 1, c, acc, pl => by
      cases e : lstep ps c with
      | none => exact ⟨[], by rw [lrunGo_end e]; simp⟩
      | some q =>
        cases t : tooB q.2 with
        | true => exact ⟨[], by rw [lrunGo_big e t]; simp⟩
        | false =>
          obtain ⟨l, hl⟩ := lrunGo_pre m q.2 (acc ++ [q.2]) (pl ++ [q.1])
          exact ⟨q.1 :: l, by rw [lrunGo_go e t, hl]; simp⟩
theorem lrun_places {ps : List (Nat × Nat)} {n m : Nat} {xs : List Nat} (hps : IsProg ps) (h : Row ps n m xs) : ∀ j, j + 1 < xs.length → (lrunF ps n m).2[j]? = firstAt ps (xs.getD j 1) := fun j hj => by
  obtain ⟨ys, rfl, _⟩ := h.ex
  have := lrun_placesA hps m n [n] [] ys h.run j (by simpa using hj)
  rw [List.length_nil, Nat.zero_add] at this
  exact this
def prog40 (h : Int) (ps : List (Nat × Nat)) : List (Nat × Nat) := (if h / 64 % 2 = 0 then [(3, 2), (2, 3)] else [(2, 3)]) ++ ps ++ (if h / 512 % 2 = 0 then [] else [(2, 1)])
theorem cut_le {α : Type} (xs : List α) (lo hi : Option Int) : (cutL xs lo hi).length ≤ xs.length := by
  unfold cutL
  rw [List.length_take, List.length_drop]; omega
theorem prog40_eq (h : Int) (ps : List (Nat × Nat)) : PyData.list (cutL [PyData.tuple [PyData.int 3, PyData.int 2], PyData.tuple [PyData.int 2, PyData.int 3]] (some (h / 64 % 2)) none ++ ps.map prD ++ (List.replicate (h / 512 % 2).toNat [PyData.tuple [PyData.int 2, PyData.int 1]]).flatten) = lP (prog40 h ps) := by
  unfold prog40
  rw [lP, List.map_append, List.map_append]
  congr 2
  · congr 1
    rcases (by omega : h / 64 % 2 = 0 ∨ h / 64 % 2 = 1) with e | e
    · rw [e, if_pos rfl]; rfl
    · rw [e, if_neg (by decide)]; rfl
  · rcases (by omega : h / 512 % 2 = 0 ∨ h / 512 % 2 = 1) with e | e
    · rw [e, if_pos rfl]; rfl
    · rw [e, if_neg (by decide)]; rfl
theorem frac23 : IsFrac (2, 3) := ⟨isNum2, isNum3, by decide, by decide, by decide⟩
theorem frac21 : IsFrac (2, 1) := ⟨isNum2, isNum_one, by decide, by decide, by decide⟩
theorem prog40_mem {h : Int} {ps : List (Nat × Nat)} {p : Nat × Nat} (hp : p ∈ prog40 h ps) : p ∈ ps ∨ p = (3, 2) ∨ p = (2, 3) ∨ p = (2, 1) := by
  unfold prog40 at hp
  rcases List.mem_append.mp hp with hp | hp
  · rcases List.mem_append.mp hp with hp | hp
    · split at hp
      · simp at hp
        rcases hp with q | q
        · exact .inr (.inl q)
        · exact .inr (.inr (.inl q))
      · simp at hp
        exact .inr (.inr (.inl hp))
    · exact .inl hp
  · split at hp <;> simp at hp
    exact .inr (.inr (.inr hp))
theorem prog40_prog (h : Int) {ps : List (Nat × Nat)} (hps : IsProg ps) (hl : ps.length ≤ 6) : IsProg (prog40 h ps) := by
  refine ⟨?_, fun p hp => ?_⟩
  · unfold prog40
    rw [List.length_append, List.length_append]
    split <;> split <;> simp <;> omega
  · rcases prog40_mem hp with hp | rfl | rfl | rfl
    · exact hps.2 p hp
    · exact frac32
    · exact frac23
    · exact frac21
theorem prog40_light (h : Int) {ps : List (Nat × Nat)} (hps : Light ps) : Light (prog40 h ps) := fun p hp r hr => by
  rcases prog40_mem hp with hp | rfl | rfl | rfl
  · exact hps p hp r hr
  · exact Nat.le_succ_of_le (mlt_prime (pL_pm r hr) (pL_pm 3 (by decide)))
  · exact Nat.le_succ_of_le (mlt_prime (pL_pm r hr) (pL_pm 2 (by decide)))
  · exact Nat.le_succ_of_le (mlt_prime (pL_pm r hr) (pL_pm 2 (by decide)))
end Fr
namespace Mx
/-- an order of the twelve rooms -/
structure IsOrd (o : List Nat) : Prop where
  len : o.length = 12
  lt : ∀ k ∈ o, k < 12
  nd : o.Nodup
/-- rooms gone to other places -/
def exGo (o rs : List Nat) : Nat → List Nat
  | 0 => List.replicate 12 0
  | i + 1 => (exGo o rs i).set (o.getD i 0) (rs.getD i 0)
def exR (o rs : List Nat) : List Nat := exGo o rs 12
def exN (o : List Nat) (n : Nat) : Nat := made (exR o (rooms n))
theorem exGo_len (o rs : List Nat) : ∀ i, (exGo o rs i).length = 12
  | 0 => by simp [exGo]
  | i + 1 => by simp [exGo, exGo_len o rs i]
theorem getD_mem {l : List Nat} {i : Nat} (h : i < l.length) : l.getD i 0 ∈ l := by
  rw [List.getD_eq_getElem?_getD, List.getElem?_eq_getElem h]; exact List.getElem_mem h
theorem ord_lt {o : List Nat} (h : IsOrd o) {i : Nat} (hi : i < 12) : o.getD i 0 < 12 := h.lt _ (getD_mem (by rw [h.len]; exact hi))
theorem ord_inj {o : List Nat} (h : IsOrd o) {i j : Nat} (hi : i < 12) (hj : j < 12) (e : o.getD i 0 = o.getD j 0) : i = j := by
  have hi' : i < o.length := by rw [h.len]; exact hi
  have hj' : j < o.length := by rw [h.len]; exact hj
  rw [List.getD_eq_getElem?_getD, List.getD_eq_getElem?_getD, List.getElem?_eq_getElem hi', List.getElem?_eq_getElem hj'] at e
  exact (List.getElem_inj h.nd).mp e
theorem exGo_get {o : List Nat} (h : IsOrd o) (rs : List Nat) : ∀ i, i ≤ 12 → ∀ j, j < i → (exGo o rs i).getD (o.getD j 0) 0 = rs.getD j 0
  | 0, _, j, hj => by omega
  | i + 1, hi, j, hj => by
    rw [exGo]
    by_cases e : j = i
    · subst e
      rw [List.getD_eq_getElem?_getD, List.getElem?_set_self (by rw [exGo_len]; exact ord_lt h (by omega))]; rfl
    · have ne : o.getD i 0 ≠ o.getD j 0 := fun z => e (ord_inj h (by omega) (by omega) z).symm
      rw [List.getD_eq_getElem?_getD, List.getElem?_set_ne ne, ← List.getD_eq_getElem?_getD]
      exact exGo_get h rs i (by omega) j (by omega)
/-- each room is come to -/
theorem ord_onto {o : List Nat} (h : IsOrd o) {z : Nat} (hz : z < 12) : ∃ i, i < 12 ∧ o.getD i 0 = z := by
  have hm : z ∈ o := by
    refine Classical.byContradiction fun no => ?_
    have hs : (z :: o).Nodup := List.nodup_cons.mpr ⟨no, h.nd⟩
    have hsub : (z :: o) ⊆ List.range 12 := fun x hx => by
      rcases List.mem_cons.mp hx with rfl | hx
      · exact List.mem_range.mpr hz
      · exact List.mem_range.mpr (h.lt x hx)
    have := nodup_le hs hsub
    rw [List.length_cons, h.len, List.length_range] at this
    omega
  obtain ⟨i, hi, e⟩ := List.mem_iff_getElem.mp hm
  exact ⟨i, by rw [← h.len]; exact hi, by rw [List.getD_eq_getElem?_getD, List.getElem?_eq_getElem hi, e]; rfl⟩
where
  nodup_le : ∀ {l m : List Nat}, l.Nodup → l ⊆ m → l.length ≤ m.length
    | [], _, _, _ => Nat.zero_le _
    | x :: l, m, nd, hs => by
      obtain ⟨n1, n2⟩ := List.nodup_cons.mp nd
      have hx : x ∈ m := hs (by simp)
      have : l ⊆ m.erase x := fun y hy => (List.mem_erase_of_ne (fun e => n1 (by rw [← e]; exact hy))).mpr (hs (by simp [hy]))
      have := nodup_le n2 this
      have e := List.length_erase_of_mem hx
      have : 0 < m.length := List.length_pos_of_mem hx
      rw [List.length_cons]
      omega
theorem exR_len (o rs : List Nat) : (exR o rs).length = 12 := exGo_len o rs 12
theorem room_of (n : Nat) {z : Nat} (h : z < 12) : (rooms n).getD z 0 = mlt (pL.getD z 1) n := by
  unfold rooms
  rw [List.getD_eq_getElem?_getD, List.getElem?_map, List.getD_eq_getElem?_getD, List.getElem?_eq_getElem (show z < pL.length from h)]; rfl
theorem rooms_exN (o : List Nat) (n : Nat) : rooms (exN o n) = exR o (rooms n) := rooms_made (exR_len o _)
theorem exN_smooth (o : List Nat) (n : Nat) : Smooth (exN o n) := Smooth.made _ (exR_len o _)
/-- a prime goes to a prime -/
theorem ex_mlt {o : List Nat} (h : IsOrd o) (n : Nat) {i : Nat} (hi : i < 12) : mlt (pL.getD (o.getD i 0) 1) (exN o n) = mlt (pL.getD i 1) n := by
  rw [← room_of _ (ord_lt h hi), ← room_of _ hi, rooms_exN]
  exact exGo_get h _ 12 (Nat.le_refl _) i hi
theorem pL_ix {r : Nat} (h : r ∈ pL) : ∃ i, i < 12 ∧ pL.getD i 1 = r := by
  obtain ⟨i, hi, e⟩ := List.mem_iff_getElem.mp h
  exact ⟨i, hi, by rw [List.getD_eq_getElem?_getD, List.getElem?_eq_getElem hi, e]; rfl⟩
/-- what is asked of all primes is asked of all exchanged ones -/
theorem ex_all {o : List Nat} (h : IsOrd o) {P : Nat → Prop} : (∀ r ∈ pL, P r) ↔ ∀ i, i < 12 → P (pL.getD (o.getD i 0) 1) := by
  constructor
  · intro a i hi
    exact a _ (pL_at (ord_lt h hi))
  · intro a r hr
    obtain ⟨z, hz, rfl⟩ := pL_ix hr
    obtain ⟨i, hi, rfl⟩ := ord_onto h hz
    exact a i hi
theorem pL_all {P : Nat → Prop} : (∀ r ∈ pL, P r) ↔ ∀ i, i < 12 → P (pL.getD i 1) := by
  constructor
  · intro a i hi; exact a _ (pL_at hi)
  · intro a r hr
    obtain ⟨z, hz, rfl⟩ := pL_ix hr
    exact a z hz
theorem ex_ex {o : List Nat} (h : IsOrd o) {P : Nat → Prop} : (∃ r ∈ pL, P r) ↔ ∃ i, i < 12 ∧ P (pL.getD (o.getD i 0) 1) := by
  constructor
  · rintro ⟨r, hr, p⟩
    obtain ⟨z, hz, rfl⟩ := pL_ix hr
    obtain ⟨i, hi, rfl⟩ := ord_onto h hz
    exact ⟨i, hi, p⟩
  · rintro ⟨i, hi, p⟩
    exact ⟨_, pL_at (ord_lt h hi), p⟩
theorem pL_ex {P : Nat → Prop} : (∃ r ∈ pL, P r) ↔ ∃ i, i < 12 ∧ P (pL.getD i 1) := by
  constructor
  · rintro ⟨r, hr, p⟩
    obtain ⟨z, hz, rfl⟩ := pL_ix hr
    exact ⟨z, hz, p⟩
  · rintro ⟨i, hi, p⟩
    exact ⟨_, pL_at hi, p⟩
theorem smooth_ext {a b : Nat} (ha : Smooth a) (hb : Smooth b) (h : ∀ r ∈ pL, mlt r a = mlt r b) : a = b := by
  rw [← ha.eq, ← hb.eq]
  congr 1
  exact List.map_congr_left h
theorem ex_dvd {o : List Nat} (h : IsOrd o) {a b : Nat} (ha : Smooth a) (hb : Smooth b) : exN o a ∣ exN o b ↔ a ∣ b := by
  rw [smooth_dvd (exN_smooth o a) (exN_smooth o b).1, smooth_dvd ha hb.1, ex_all h, pL_all]
  constructor <;> (intro q i hi; have := q i hi; rw [ex_mlt h _ hi, ex_mlt h _ hi] at *; exact this)
theorem ex_mul {o : List Nat} (h : IsOrd o) {a b : Nat} (ha : Smooth a) (hb : Smooth b) : exN o (a * b) = exN o a * exN o b := by
  refine smooth_ext (exN_smooth o _) ((exN_smooth o a).mul (exN_smooth o b)) ((ex_all h).mpr fun i hi => ?_)
  have hp := pL_pm _ (pL_at (ord_lt h hi))
  have hp2 := pL_pm _ (pL_at hi)
  rw [mlt_mul hp (exN_smooth o a).1 (exN_smooth o b).1, ex_mlt h _ hi, ex_mlt h _ hi, ex_mlt h _ hi, mlt_mul hp2 ha.1 hb.1]
theorem ex_div {o : List Nat} (h : IsOrd o) {a b : Nat} (ha : Smooth a) (hb : Smooth b) (d : b ∣ a) : exN o (a / b) = exN o a / exN o b := by
  have e := ex_mul h (ha.dvd (Nat.div_dvd_of_dvd d)) hb
  rw [Nat.div_mul_cancel d] at e
  rw [e, Nat.mul_div_cancel _ (exN_smooth o b).1]
theorem ex_one {o : List Nat} (h : IsOrd o) : exN o 1 = 1 := by
  refine smooth_ext (exN_smooth o _) smooth_one ((ex_all h).mpr fun i hi => ?_)
  rw [ex_mlt h _ hi, mlt_one (pL_pm _ (pL_at hi)).1, mlt_one (pL_pm _ (pL_at (ord_lt h hi))).1]
theorem ex_pow {o : List Nat} (h : IsOrd o) {a : Nat} (ha : Smooth a) : ∀ k, exN o (a ^ k) = exN o a ^ k
  | 0 => by simp [ex_one h]
  | k + 1 => by rw [Nat.pow_succ, Nat.pow_succ, ex_mul h (ha.pow k) ha, ex_pow h ha k]
theorem ex_inj {o : List Nat} (h : IsOrd o) {a b : Nat} (ha : Smooth a) (hb : Smooth b) (e : exN o a = exN o b) : a = b := by
  refine smooth_ext ha hb (pL_all.mpr fun i hi => ?_)
  rw [← ex_mlt h a hi, ← ex_mlt h b hi, e]
theorem ex_isNum {o : List Nat} (h : IsOrd o) {n : Nat} (hn : IsNum n) : IsNum (exN o n) := by
  refine ⟨(exN_smooth o n).1, (exN_smooth o n).2, fun k hk => ?_⟩
  obtain ⟨r, hr, rfl⟩ := List.mem_map.mp hk
  exact ((ex_all h (P := fun r => mlt r (exN o n) ≤ 400)).mpr fun i hi => by rw [ex_mlt h n hi]; exact hn.2.2 _ (List.mem_map.mpr ⟨_, pL_at hi, rfl⟩)) r hr
/-! how many primes -/
def Om (n : Nat) : Nat := (rooms n).sum
theorem Om_mul {a b : Nat} (ha : 0 < a) (hb : 0 < b) : Om (a * b) = Om a + Om b := by
  unfold Om rooms
  have : ∀ l : List Nat, (∀ p ∈ l, Pm p) → (l.map (mlt · (a * b))).sum = (l.map (mlt · a)).sum + (l.map (mlt · b)).sum := by
    intro l hl
    induction l with
    | nil => rfl
    | cons p l ih =>
      simp only [List.map_cons, List.sum_cons]
      rw [ih fun q hq => hl q (by simp [hq]), mlt_mul (hl p (by simp)) ha hb]
      omega
  exact this pL pL_pm
theorem mlt_Om {n r : Nat} (hr : r ∈ pL) : mlt r n ≤ Om n := by
  unfold Om rooms
  have : ∀ l : List Nat, r ∈ l → mlt r n ≤ (l.map (mlt · n)).sum := by
    intro l
    induction l with
    | nil => intro h; cases h
    | cons p l ih =>
      intro h
      simp only [List.map_cons, List.sum_cons]
      rcases List.mem_cons.mp h with rfl | h
      · omega
      · have := ih h; omega
  exact this pL hr
theorem Om_one : Om 1 = 0 := by
  unfold Om rooms
  have : ∀ l : List Nat, (∀ p ∈ l, Pm p) → (l.map (mlt · 1)).sum = 0 := by
    intro l hl
    induction l with
    | nil => rfl
    | cons p l ih =>
      simp only [List.map_cons, List.sum_cons]
      rw [ih fun q hq => hl q (by simp [hq]), mlt_one (hl p (by simp)).1]
  exact this pL pL_pm
theorem Om_le {a b : Nat} (ha : 0 < a) (hb : 0 < b) (d : a ∣ b) : Om a ≤ Om b := by
  obtain ⟨c, rfl⟩ := d
  have hc : 0 < c := Nat.pos_of_ne_zero fun z => by rw [z, Nat.mul_zero] at hb; omega
  rw [Om_mul ha hc]; omega
theorem Om_pow {a : Nat} (ha : 0 < a) : ∀ k, Om (a ^ k) = k * Om a
  | 0 => by simp [Om_one]
  | k + 1 => by rw [Nat.pow_succ, Om_mul (Nat.pow_pos ha) ha, Om_pow ha k, Nat.succ_mul]
theorem Om_prime : ∀ p ∈ pL, Om p = 1 := by
  intro p hp
  obtain ⟨i, hi, rfl⟩ := pL_ix hp
  unfold Om rooms
  have e : pL.map (mlt · (pL.getD i 1)) = (List.replicate 12 0).set i 1 := by
    refine List.ext_getElem? fun j => ?_
    rw [List.getElem?_map, List.getElem?_set]
    by_cases hj : j < 12
    · have hj2 : j < pL.length := hj
      rw [List.getElem?_eq_getElem hj2]
      by_cases e : i = j
      · subst e
        rw [if_pos rfl, if_pos (by simpa using hj)]
        have : pL.getD i 1 = pL[i] := by rw [List.getD_eq_getElem?_getD, List.getElem?_eq_getElem hj2]; rfl
        show some (mlt pL[i] (pL.getD i 1)) = some 1
        rw [this]
        have h2 := mlt_powSelf (pL_pm _ (List.getElem_mem hj2)).1 1
        rw [Nat.pow_one] at h2
        rw [h2]
      · rw [if_neg e, List.getElem?_replicate, if_pos hj]
        have hi2 : i < pL.length := hi
        have : pL.getD i 1 = pL[i] := by rw [List.getD_eq_getElem?_getD, List.getElem?_eq_getElem hi2]; rfl
        show some (mlt pL[j] (pL.getD i 1)) = some 0
        rw [this]
        have ne : pL[j] ≠ pL[i] := fun z => e ((List.getElem_inj pL_nd).mp z).symm
        have h2 := mlt_powOther (pL_pm _ (List.getElem_mem hj2)) (pL_pm _ (List.getElem_mem hi2)) ne 1
        rw [Nat.pow_one] at h2
        rw [h2]
    · rw [List.getElem?_eq_none (by simpa [pL] using hj)]
      by_cases e : i = j
      · omega
      · rw [if_neg e, List.getElem?_replicate, if_neg hj]; rfl
  rw [e]
  have : ∀ i, i < 12 → ((List.replicate 12 0).set i 1).sum = 1 := by decide
  exact this i hi
theorem made_Om : ∀ (ps rs : List Nat), rs.length = ps.length → (∀ p ∈ ps, p ≤ 37) → mk ps rs ≤ 37 ^ rs.sum
  | [], [], _, _ => by simp [mk]
  | p :: ps, r :: rs, h, hp => by
    show p ^ r * mk ps rs ≤ 37 ^ (r + rs.sum)
    rw [Nat.pow_add]
    exact Nat.mul_le_mul (Nat.pow_le_pow_left (hp p (by simp)) r) (made_Om ps rs (by simpa using h) fun q hq => hp q (by simp [hq]))
theorem smooth_le {n : Nat} (h : Smooth n) : n ≤ 37 ^ Om n := by
  have := made_Om pL (rooms n) (rooms_len n) pL_le
  have e := h.eq
  have e2 : made (rooms n) = mk pL (rooms n) := rfl
  rw [e2] at e
  rw [e] at this
  exact this
theorem set_sum : ∀ (l : List Nat) (i v : Nat), i < l.length → l.getD i 0 = 0 → (l.set i v).sum = l.sum + v
  | [], _, _, h, _ => by simp at h
  | x :: l, 0, v, _, h => by simp at h; subst h; simp; omega
  | x :: l, i + 1, v, h, e => by
    simp only [List.set_cons_succ, List.sum_cons]
    rw [set_sum l i v (by simpa using h) (by simpa using e)]
    omega
theorem exGo_zero {o : List Nat} (h : IsOrd o) (rs : List Nat) : ∀ i, i ≤ 12 → ∀ j, i ≤ j → j < 12 → (exGo o rs i).getD (o.getD j 0) 0 = 0
  | 0, _, j, _, hj => by
    unfold exGo
    rw [List.getD_eq_getElem?_getD, List.getElem?_replicate, if_pos (ord_lt h hj)]; rfl
  | i + 1, hi, j, hij, hj => by
    have ne : o.getD i 0 ≠ o.getD j 0 := fun z => by have := ord_inj h (by omega) hj z; omega
    rw [exGo, List.getD_eq_getElem?_getD, List.getElem?_set_ne ne, ← List.getD_eq_getElem?_getD]
    exact exGo_zero h rs i (by omega) j (by omega) hj
theorem exGo_sum {o : List Nat} (h : IsOrd o) (rs : List Nat) : ∀ i, i ≤ 12 → (exGo o rs i).sum = ((List.range i).map fun j => rs.getD j 0).sum
  | 0, _ => by simp [exGo]
  | i + 1, hi => by
    rw [exGo, set_sum _ _ _ (by rw [exGo_len]; exact ord_lt h (by omega)) (exGo_zero h rs i (by omega) i (Nat.le_refl i) (by omega)), exGo_sum h rs i (by omega), List.range_succ, List.map_append, List.sum_append]
    simp
theorem Om_ex {o : List Nat} (h : IsOrd o) (n : Nat) : Om (exN o n) = Om n := by
  unfold Om
  rw [rooms_exN]
  unfold exR
  rw [exGo_sum h _ 12 (Nat.le_refl _)]
  rfl
theorem someP_Om (m : Int) {q : Nat} (h0 : 0 < q) (h1 : q ≤ 12) : ∀ i, Om (someP m q i) ≤ i
  | 0 => by simp [someP, Om_one]
  | i + 1 => by
    have hp := pL_at (draw_ix m (0 + (i : Int)) h0 h1).2.2
    have := someP_Om m h0 h1 i
    rw [someP, Om_mul (someP_smooth m h0 h1 i).1 (smooth_prime hp).1, Om_prime _ hp]
    omega
theorem someF_Om (m : Int) {q t : Nat} (h0 : 0 < q) (h1 : q ≤ 12) : Om (someF m q t) ≤ t := Nat.le_trans (someP_Om m h0 h1 _) (some_cnt m t)
theorem fracF_Om (m : Int) {q : Nat} (h0 : 0 < q) (h1 : q ≤ 12) : Om (fracF m q).1 ≤ 2 ∧ Om (fracF m q).2 ≤ 3 := by
  have s1 := someF_smooth (drawn m 1) h0 h1 2
  have s2 := someF_smooth (drawn m 2) h0 h1 3
  obtain ⟨b1, b2, a3, a4, _⟩ := redAll_spec pL (someF (drawn m 1) q 2, someF (drawn m 2) q 3) (fun p hp => (pL_pm p hp).1) s1.1 s2.1
  exact ⟨Nat.le_trans (Om_le b1 s1.1 a3) (someF_Om _ h0 h1), Nat.le_trans (Om_le b2 s2.1 a4) (someF_Om _ h0 h1)⟩
end Mx
namespace Fr
open PySem PySem.Spec PyProof.Rows L2
/-! list(range(n)) -/
def tListRng (ta : TE) : TE := fun σ H Q => ta σ H fun x H1 => ∃ n : Nat, x = V.int (n : Int) ∧ n ≤ 100000 ∧ ∀ l, H1 l = none → Q (.ref l) (upd H1 l (.lst ((List.range n).map fun i : Nat => V.int (i : Int))))
theorem vals_rng {n : Nat} : ∀ {its : List Value} {k : Nat}, its.length = n → (∀ (i : Nat) (v : Value), its[i]? = some v → ∃ t, v = Value.int ((k : Int) + (i : Int)) t) → Vals ((List.range n).map fun i : Nat => V.int ((k : Int) + (i : Int))) its := by
  induction n with
  | zero => intro its k hl _; obtain rfl := List.eq_nil_of_length_eq_zero hl; exact .nil
  | succ n ih =>
    intro its k hl h
    match its, hl with
    | v :: its, hl =>
      obtain ⟨t, e⟩ := h 0 v rfl
      have := ih (its := its) (k := k + 1) (by simpa using hl) fun i w hw => by
        obtain ⟨t, e⟩ := h (i + 1) w (by simpa using hw)
        exact ⟨t, by rw [e]; congr 1; omega⟩
      have e2 : (List.range (n + 1)).map (fun i : Nat => V.int ((k : Int) + (i : Int))) = V.int (k : Int) :: (List.range n).map fun i : Nat => V.int (((k + 1 : Nat) : Int) + (i : Int)) := by
        rw [List.range_succ_eq_map, List.map_cons, List.map_map]
        congr 1
        refine List.map_congr_left fun i _ => ?_
        show V.int ((k : Int) + ((i + 1 : Nat) : Int)) = _
        congr 1; omega
      rw [e2]
      refine .cons ⟨t, ?_⟩ this
      rw [e]; congr 1
theorem pe_listRng {X : Cx} {a : Expr} {ta : TE} {p p2 q pos : Pos} (hg : Gl X "list") (hm : X.mg "list" = none) (hg2 : Gl X "range") (hm2 : X.mg "range" = none) (ha : PE X a ta) (hc : X.calm = true := by rfl)
    (na : starEach [a] X.env = (false, eval a X.env) :: starEach [] X.env := by rfl) : PE X (.Call (.Name "list" p) [.Call (.Name "range" p2) [a] [] q] [] pos) (tListRng ta) := by
  refine ⟨fun pins s σ H Q I h => ?_⟩; refine Call_ (ld_blt I hg hm (by decide +kernel : bootBuiltins "list" = some (.type "list")) ?_)
  refine PyProof.Rows.callWith_type1 (PyProof.Rows.args_cons ?_ rfl) rfl rfl; refine Call_ (ld_blt I hg2 hm2 PyProof.Rows.boot_range ?_)
  refine PyProof.Rows.callWith_type1 (PyProof.Rows.args_cons (thn (ha.run pins s σ H _ I h) fun v s1 ⟨x, H1, I1, r1, q1⟩ => PyProof.Rows.args_nil ?_) na) na rfl
  obtain ⟨n, rfl, hn, q1⟩ := q1; obtain ⟨t, rfl⟩ := r1
  refine call_range_1 (PyProof.Rows.args_nil ?_)
  have hsz : Builtin.Range.rangeSize 0 (n : Int) 1 = (n : Int) := by rw [rangeSize_one]; split <;> omega
  have I2 : Inv X pins σ H1 { s1 with heap := s1.heap.push { cls := .type "range", data := .fields #[.int 0 s1.toks, .int n t, .int 1 (s1.toks + 1)] }, toks := s1.toks + 1 + 1 } := I1.kept fun b o e => Heap.get?_push_of_some _ e
  refine call_list_range (I2.ok.hd hc) (IsRange.new ..) (small_one (by omega) (by omega) (by omega) (by omega)) hsz (by omega) fun h2 tk acc c2 hk hD hI => ?_
  have nD := I2.hok.fresh (Nat.le_refl _)
  refine ⟨V.ref _, _, I2.laid (t' := tk) hk (Nat.le_refl _) (o := .lst ((List.range n).map fun i : Nat => V.int (i : Int))) ?_, rfl, q1 _ nD⟩
  have v : Vals ((List.range n).map fun i : Nat => V.int (((0 : Nat) : Int) + (i : Int))) acc.toList := vals_rng (by rw [Array.length_toList]; exact hI.1) fun i w hw => by
    obtain ⟨t, e⟩ := hI.2 i w (by rw [← hw, Array.getElem?_toList])
    exact ⟨t, by rw [e]; congr 1; omega⟩
  have ev : ((List.range n).map fun i : Nat => V.int (((0 : Nat) : Int) + (i : Int))) = (List.range n).map fun i : Nat => V.int (i : Int) := List.map_congr_left fun i _ => by congr 1; omega
  rw [ev] at v
  exact ⟨by rw [List.length_map, List.length_range, sizeLine_eq]; omega, acc.toList, c2, v, by rw [Array.toArray_toList]; exact hD⟩
/-! enumerate of a tuple -/
def ItET (K : PySem.W.Frag) (a : Addr) : It :=
  ⟨fun i H => ∃ (xs : List V) (x : V), SqT K H a xs ∧ xs[i]? = some x, fun i H v H2 => ∃ T x, v = .ref T ∧ H T = none ∧ H2 = upd H T (.tup [.int (i : Nat), x]) ∧ ∀ xs, SqT K H a xs → xs[i]? = some x, fun i H => ∃ xs : List V, SqT K H a xs ∧ xs.length = i⟩
theorem turn_enT {P : Program} {w : World} {K : PySem.W.Frag} {elts : List Expr} {kk : Nat} {tpos : Pos} (a e it : Addr) :
    L2.Turn P w K (.Tuple elts kk tpos) (ItET K a) [e, it] e (fun i h => (∃ old, IsEnum h e it ((i : Nat) : Int) old) ∧ h.IsTupleIter it a i ∧ e ≠ it ∧ e ≠ a ∧ a ≠ it) where
  mem := by simp
  obj := fun i h ⟨⟨old, he⟩, ⟨o, ho, _, hd⟩, _⟩ b hb => by
    have eb : b = e ∨ b = it := by simpa using hb
    rcases eb with z | z
    · rw [z]; exact ⟨_, he, fun v q => nomatch q⟩
    · rw [z]; exact ⟨o, ho, fun v q => by rw [hd] at q; cases q⟩
  keep := fun i h h2 ⟨⟨old, he⟩, hi, hne⟩ k => ⟨⟨old, k e (by simp) _ he⟩, hi.at fun o q => k it (by simp) o q, hne⟩
  item := by
    intro X hP hw hK hc i pins s σ H E I hf st hg; subst hP hw hK
    obtain ⟨⟨old, he⟩, hit, hne, hea, hai⟩ := st; obtain ⟨xs, x, hq, hx⟩ := hg
    obtain ⟨its, rv, p, _⟩ := I.tuple hq; obtain ⟨u, hu, ru⟩ := rv.get hx
    have hel : e < s.heap.objs.size := Heap.lt_size he
    have hil : it < s.heap.objs.size := by obtain ⟨_, q, _⟩ := hit; exact Heap.lt_size q
    have D := Draws.tuple (prog := X.prog) (w := X.w) (A := X.A.in1) (I.ok.hd hc) it a hai its.toArray
    refine wpAny_pyNext_enum_itemD D he ⟨hit, p⟩ (by simp; exact (List.getElem?_eq_some_iff.mp hu).1) hne (by simp; exact ⟨hne, hea⟩) fun y h1 tk hy ho st1 hT hsz hk => ?_
    have ey : y = u := by simp at hy; rw [hu] at hy; exact (Option.some.inj hy).symm
    subst ey
    refine ⟨_, rfl, wpAny_letOwnedTupleGo_enum (s := { s with heap := h1, toks := tk + 1 }) ho fun h3 he3 sb => ?_⟩
    have hT2 : h3.get? s.heap.objs.size = some { cls := .type "tuple", data := .seq #[.int i tk, y] } := (sb.2 _ (Nat.ne_of_gt hel)).trans hT
    have new : ObjOk X.prog X.w (upd H s.heap.objs.size (.tup [.int (i : Nat), x])) h3 s.heap.objs.size (.tup [.int (i : Nat), x]) := ⟨by show 2 ≤ sizeLine; decide, [.int i tk, y], .cons ⟨_, rfl⟩ (.cons ru .nil), ⟨_, hT2, rfl, _, rfl⟩⟩
    have I1 : Inv X pins σ (upd H s.heap.objs.size (.tup [.int (i : Nat), x])) { s with heap := h3, toks := tk + 1 } :=
      I.turnedNew (ch := [e, it]) (fun b ob hb q => (sb.2 b (fun z => hb (by simp [z]))).trans (hk b ob (fun z => hb (by simp [z])) (fun z => hb (by simp [z])) q)) hf (Nat.le_refl _) new
    refine ⟨.ref s.heap.objs.size, _, I1, rfl, ⟨_, x, rfl, I.hok.fresh (Nat.le_refl _), rfl, fun ys hy => by rw [I.tuple_inj hy hq]; exact hx⟩, ⟨⟨y, ?_⟩, st1.1.at fun o q => (sb.2 it (Ne.symm hne)).trans q, hne, hea, hai⟩, fun b hb => ?_⟩
    · have e1 : ((i + 1 : Nat) : Int) = (i : Int) + 1 := by omega
      rw [e1]; exact he3
    · have hb2 : b < s.heap.objs.size := by
        have eb : b = e ∨ b = it := by simpa using hb
        rcases eb with z | z
        · rw [z]; exact hel
        · rw [z]; exact hil
      rw [upd_ne (Nat.ne_of_lt hb2)]; exact (hf b hb).1
  done := by
    intro X hP hw hK hc i pins s σ H E I hf st hg; subst hP hw hK
    obtain ⟨⟨old, he⟩, hit, hne, hea, hai⟩ := st; obtain ⟨xs, hq, hx⟩ := hg
    obtain ⟨its, rv, p, _⟩ := I.tuple hq
    obtain ⟨f0, f1, f2, f3, f4, f5⟩ := hf it (by simp)
    have hl := rv.length
    have D := Draws.tuple (prog := X.prog) (w := X.w) (A := X.A.in1) (I.ok.hd hc) it a hai its.toArray
    have ei : its.toArray.size = i := by simp; omega
    refine wpAny_pyNext_enum_endD D he (by rw [ei]; exact ⟨hit, p⟩) fun h1 eb => ⟨rfl, I.turned (t' := s.toks) (fun b o hb q => eb b o hb q) f0 f1 f3 f4 f5⟩
  self := fun A i s Q E st h => let ⟨⟨_, he⟩, _⟩ := st; wpAny_pyIter_enum he h
theorem enT_new (l : Addr) (v : Array Value) :
    Meets (Builtin.«enumerate.__new__» ⟨[.type "enumerate", .ref l], []⟩) (fun _ R s => s.heap.IsTuple l v ∧ R (.ok (.ret (.ref (s.heap.push { cls := .type "tuple_iterator", data := .fields #[.ref l, .int 0 0] }).objs.size)))
      { s with heap := (s.heap.push { cls := .type "tuple_iterator", data := .fields #[.ref l, .int 0 0] }).push { cls := .type "enumerate", data := .fields #[.none, .bool false, .ref s.heap.objs.size, rawInt 0, .none, .none] } }) :=
  .of_wp fun prog w A R s h => by
    obtain ⟨hp, g, d, tk, os⟩ := s; obtain ⟨h1, h⟩ := h; have hsub := sub_enumerate
    have q1 : ∀ {B : Around} {E : Value → Shared → Prop} {Q : Value → Shared → Prop}, Q (.ref hp.objs.size) ⟨hp.push { cls := .type "tuple_iterator", data := .fields #[.ref l, .int 0 0] }, g, d, tk, os⟩ → wpAny (model prog w) B (pyIter (.ref l)) Q E ⟨hp, g, d, tk, os⟩ := fun q => (begins_tuple l v).iter prog w _ _ ⟨hp, g, d, tk, os⟩ _ h1 q
    obtain ⟨⟨c0, dc, dt, sl⟩, hl, hcl, n, hd⟩ := id h1
    replace hcl : c0 = .type "tuple" := hcl
    subst hcl
    wp_walk using q1, AutoSeq1.wpAny_loadPart' hl
    refine wpAny_stack_any fun st => wpAny_pure ?_; split
    · rename_i c _ _ _ _ _
      cases (c == Value.type "enumerate") <;> (wp_walk using q1, AutoSeq1.wpAny_loadPart' hl; exact ⟨_, rfl, h⟩)
    · wp_walk using q1, AutoSeq1.wpAny_loadPart' hl
      exact ⟨_, rfl, h⟩
theorem call_enT {prog : Program} {w : World} {A : Around} {E : Value → Shared → Prop} {s : Shared} {l : Addr} {v : Array Value} {Q : Value → Shared → Prop} (hL : s.heap.IsTuple l v)
    (h : ∀ g, IsEnum g (s.heap.objs.size + 1) s.heap.objs.size 0 .none → g.IsTupleIter s.heap.objs.size l 0 → (∀ b o, s.heap.get? b = some o → g.get? b = some o) → Q (.ref (s.heap.objs.size + 1)) { s with heap := g }) : wpAny (model prog w) A (call (.type "enumerate") [.ref l]) Q E s := by
  refine callType_new F.called_enumerate (by decide) (F.typeCall_enumerate_1 _) (F.newCall_enumerate_1 _) (fun obj => F.args_object_init_2 obj _) F.entry_enumerate_new (enT_new l v) ⟨hL, ?_⟩
  have hz : (s.heap.push { cls := .type "tuple_iterator", data := .fields #[.ref l, .int 0 0] }).objs.size = s.heap.objs.size + 1 := Heap.size_push ..
  show _ ∧ _; rw [hz]
  have he : IsEnum ((s.heap.push { cls := .type "tuple_iterator", data := .fields #[.ref l, .int 0 0] }).push { cls := .type "enumerate", data := .fields #[.none, .bool false, .ref s.heap.objs.size, rawInt 0, .none, .none] }) (s.heap.objs.size + 1) s.heap.objs.size 0 .none := by
    have := Heap.get?_push_size (s.heap.push { cls := .type "tuple_iterator", data := .fields #[.ref l, .int 0 0] }) (o := { cls := .type "enumerate", data := .fields #[.none, .bool false, .ref s.heap.objs.size, rawInt 0, .none, .none] }) rfl
    rw [hz] at this; exact this
  exact ⟨⟨_, he, rfl⟩, h _ he ⟨_, Heap.get?_push_of_some _ (Heap.get?_push_size _ rfl), rfl, rfl⟩ fun b o x => Heap.get?_push_of_some _ (Heap.get?_push_of_some _ x)⟩
def iEnT (K : PySem.W.Frag) (ta : TA) : TI := fun σ H R => ta σ H fun vs H1 => ∃ a xs, vs = [.ref a] ∧ SqT K H1 a xs ∧ R (ItET K a) H1
theorem pi_enT {X : Cx} {K : PySem.W.Frag} {e : Expr} {ta : TA} {p pos tpos : Pos} {elts : List Expr} {kk : Nat} (hK : X.K = K) (hg : Gl X "enumerate") (hm : X.mg "enumerate" = none) (ha : PA X [e] ta) (hs : starEach [e] X.env = [(false, eval e X.env)] := by rfl) :
    PI X (.Tuple elts kk tpos) (.Call (.Name "enumerate" p) [e] [] pos) (iEnT K ta) := by
  subst hK; refine ⟨fun pins s σ H R I h => ?_⟩
  refine Call_ (ld_blt I hg hm PyProof.Rows.boot_enumerate (PyProof.Rows.callWith_type1 (thn (ha.run pos pins s σ H _ I h) fun us s1 ⟨vs, H1, I1, r1, q1⟩ => ?_) hs rfl))
  obtain ⟨a, xs, ex, hq, q⟩ := q1; subst ex
  have eu := vals_refs (as := [a]) r1; subst eu
  obtain ⟨its, rv, p1, _⟩ := I1.tuple hq
  obtain ⟨ot, hot, _⟩ := id p1
  refine call_enT (show s1.heap.IsTuple a its.toArray from p1) fun g he hit hk => wpAny_pyIter_enum he ?_
  have alt := Heap.lt_size hot
  refine ⟨s1.heap.objs.size + 1, [s1.heap.objs.size + 1, s1.heap.objs.size], _, _, H1, rfl, I1.kept (t' := s1.toks) hk, turn_enT a (s1.heap.objs.size + 1) s1.heap.objs.size, ⟨⟨.none, he⟩, hit, Nat.succ_ne_self _, Nat.ne_of_gt (Nat.lt_succ_of_lt alt), Nat.ne_of_lt alt⟩, fun b hb => ?_, q⟩
  have eb : b = s1.heap.objs.size + 1 ∨ b = s1.heap.objs.size := by simpa using hb
  have hle : s1.heap.objs.size ≤ b := by
    rcases eb with z | z
    · rw [z]; exact Nat.le_add_right _ _
    · rw [z]; exact Nat.le_refl _
  exact I1.fpOk hle (I1.hok.fresh hle)
theorem DnA.erase [TabL] {K : PySem.W.Frag} {M : Hp} : ∀ {vs : List V} {ds : List Dt} (k : Nat), DnA K M vs ds → DnA K M (vs.eraseIdx k) (ds.eraseIdx k)
  | _, _, _, .nil => .nil
  | _, _, 0, .cons _ t => t
  | _, _, k + 1, .cons r t => .cons r (DnA.erase k t)
section
variable [TabL] {K : PySem.W.Frag} {ρ : List Sl} {te tb : TE} {E : XK} {P : Out → Prop} {d : Dt}
theorem it_enT {a : Addr} {ds : List Dt} : ItOk K (ItET K a) [(.ref a, .tuple ds)] (enumD ds) where
  go := fun M0 H0 σ H ρ T i d s e => by
    obtain ⟨M, st⟩ := id s
    obtain ⟨b, vs, eb, h1, h2⟩ := (st.at (d := .tuple ds) mem1).tup_inv
    cases eb
    have q : SqT K H a vs := sqT_mono st.bs.mh h1
    obtain ⟨d2, e1, rfl⟩ : ∃ d2, ds[i]? = some d2 ∧ d = .tuple [.int (i : Int), d2] := by
      unfold enumD at e
      rw [List.getElem?_map, List.getElem?_zipIdx] at e
      cases e3 : ds[i]? with
      | none => rw [e3] at e; simp at e
      | some d2 => rw [e3] at e; simp at e; exact ⟨d2, rfl, e.symm⟩
    obtain ⟨v, ev, hv⟩ := h2.get e1
    refine ⟨⟨vs, v, q, ev⟩, fun x H2 y => ?_⟩
    obtain ⟨p, w, rfl, n, rfl, k⟩ := y
    rw [Option.some.inj ((k vs q).symm.trans ev)]
    exact Sta.pair st n (.int _) hv
  stop := fun M0 H0 σ H ρ T i s l => by
    obtain ⟨M, st⟩ := id s
    obtain ⟨b, vs, eb, h1, h2⟩ := (st.at (d := .tuple ds) mem1).tup_inv
    cases eb
    exact ⟨vs, sqT_mono st.bs.mh h1, by rw [h2.len]; simp [enumD] at l; omega⟩
theorem ei_enT {ds : List Dt} (h : Ev K te ρ (.tuple ds)) : EvI K (iEnT K (tCons te tNil)) ρ (enumD ds) := fun M0 H0 σ H T R s q => h M0 H0 σ H T _ s fun v H1 s1 => by
  obtain ⟨M, st⟩ := id s1
  obtain ⟨a, vs, rfl, h1, h2⟩ := (st.at mem1).tup_inv
  exact ⟨a, vs, rfl, sqT_mono st.bs.mh h1, q _ H1 [(.ref a, .tuple ds)] s1 it_enT⟩
theorem ei_enTM {α : Type} {enc : α → Dt} {xs : List α} (h : Ev K te ρ (.tuple (xs.map enc))) : EvI K (iEnT K (tCons te tNil)) ρ (xs.zipIdx.map fun p => PyData.tuple [.int (p.2 : Int), enc p.1]) := enumD_map ▸ ei_enT h
theorem evn_listRng {n : Nat} (h : Ev K te ρ (.int (n : Int))) (hn : n ≤ 100000) : EvN K (tListRng te) ρ ((List.range n).map fun i : Nat => PyData.int (i : Int)) := fun M0 H0 σ H T Q s q => h M0 H0 σ H T _ s fun v H1 s1 => by
  obtain ⟨M, st⟩ := id s1
  refine ⟨n, (st.at mem1).int_inv, hn, fun l hl => q l _ ⟨M, (st.newO hl ?_).sub fun p hp => by simp [hp]⟩⟩
  have := DnA.of_ints (K := K) (M := M) ((List.range n).map fun i : Nat => (i : Int))
  rw [List.map_map, List.map_map] at this
  exact this
/-- xs[e] = v, xs a list of ours -/
theorem wp_put {i : Nat} {ds : List Dt} {j : Int} {k : Nat} (hi : ρ[i]? = some (.own ds)) (hv : Ev K te ρ d) (hj : Ev K tb ρ (.int j)) (hk : ixN ds.length j = some k) (h : P (.nx (ρ.set i (.own (ds.set k d))))) : Wp K E (tAsg te (gSub (tVar i) tb rSetL)) ρ P := fun M0 H0 T σ H D s f => by
  refine hv M0 H0 σ H T _ s fun v H1 s1 => ?_
  obtain ⟨a, vs, M, e1, hH, st, hd⟩ := s1.own hi
  refine ⟨_, e1, hj M0 H0 σ H1 _ _ s1 fun w H2 s2 => ?_⟩
  obtain ⟨a2, vs2, M2, e2, hH2, st2, hd2⟩ := s2.own hi
  rw [e1] at e2
  cases e2
  exact ⟨a, vs2, j, k, rfl, (st2.at mem1).int_inv, hH2, by rw [hd2.len]; exact hk, f _ h σ _ ⟨M2, (st2.updO hi e1 (hd2.set k (st2.at (v := v) (d := d) (by simp)))).sub fun p hp => by simp [hp]⟩⟩
theorem ixN_nat {n k : Nat} (h : k < n) : ixN n (k : Int) = some k := by
  unfold ixN
  rw [if_pos (by omega), if_pos (by omega)]; simp
/-- xs.append(ys.pop(e)), both lists of ours -/
theorem wp_appPop {i l : Nat} {ds es : List Dt} {j : Int} {k : Nat} (hi : ρ[i]? = some (.own ds)) (hl : ρ[l]? = some (.own es)) (hil : i ≠ l) (hj : Ev K tb ρ (.int j)) (h0 : 0 ≤ j) (h1 : j < 2 ^ 63) (hk : j.toNat = k) (hd : es[k]? = some d) (hz : ds.length ≤ 1000000)
    (h : P (.nx ((ρ.set l (.own (es.eraseIdx k))).set i (.own (ds ++ [d]))))) :
    Wp K E (tDrop (tBM K "list" rAppend (tVar i) (tCons (tBM K "list" rPopAt (tVar l) (tCons tb tNil)) tNil))) ρ P := fun M0 H0 T σ H D s f => by
  obtain ⟨a, vs, M, e1, hH, st, hdv⟩ := s.own hi
  refine ⟨_, e1, .inl ⟨rfl, vs, SqL.of hH⟩, ?_⟩
  obtain ⟨b, ws, M', f1, fH, ft, fdv⟩ := s.own hl
  refine ⟨_, f1, .inl ⟨rfl, ws, SqL.of fH⟩, hj M0 H0 σ H T _ s fun w H2 s2 => ?_⟩
  obtain ⟨b2, ws2, M2, f2, fH2, st2, fd2⟩ := s2.own hl
  rw [f1] at f2
  cases f2
  obtain ⟨y, hy, dy⟩ := fd2.get hd
  have hkl : k < ws2.length := (List.getElem?_eq_some_iff.mp hy).1
  have up := st2.updO (vs := ws2.eraseIdx k) (ds := es.eraseIdx k) hl f1 (fd2.erase k)
  refine ⟨b, ws2, j, k, y, rfl, by rw [(st2.at (v := w) (d := .int j) mem1).int_inv], fH2, by omega, h1, ?_, hy, ?_⟩
  · rw [seqIndex_of h0 (by omega), hk]
  have up2 : Sta K M0 H0 σ (upd H2 b (.lst (ws2.eraseIdx k))) (ρ.set l (.own (es.eraseIdx k))) ((y, d) :: T) := ⟨M2, ⟨up.bs, up.len, up.slot, up.dis, fun p hp => by
    rcases List.mem_cons.mp hp with e | hp
    · subst e; exact dy
    · exact up.tmp p (by simp [hp])⟩⟩
  have hi2 : (ρ.set l (Sl.own (es.eraseIdx k)))[i]? = some (.own ds) := by rw [List.getElem?_set_ne (Ne.symm hil)]; exact hi
  obtain ⟨a3, vs3, M3, e3, hH3, st3, hd3⟩ := up2.own hi2
  rw [e1] at e3
  cases e3
  exact ⟨a, vs3, y, rfl, rfl, hH3, by rw [hd3.len, sizeLine_eq]; omega, f _ h σ _ ⟨M3, (st3.updO hi2 e1 (hd3.app (.cons (st3.at mem1) .nil))).sub fun p hp => by simp [hp]⟩⟩
/-- a, b = e1, e2, both new lists, the tuple built and taken apart -/
theorem wp_asgNN {i j : Nat} {te1 te2 : TE} {ds1 ds2 : List Dt} (h1 : EvN K te1 ρ ds1) (h2 : EvN K te2 (ρ.map Fr.hid) ds2) (hij : i ≠ j) (hj : j < ρ.length) (h : P (.nx ((ρ.set i (.own ds1)).set j (.own ds2)))) :
    Wp K E (tAsg (tTup (tCons te1 (tCons te2 tNil))) (gTup K 2 (gCons (gName i) (gCons (gName j) gNil)))) ρ P := fun M0 H0 T σ H D s f => h1 M0 H0 σ H T _ s fun p H1 s1 => by
  obtain ⟨M1, st1⟩ := s1
  have hl : σ.length = ρ.length := by have := st1.len; simpa using this
  refine h2 M1 H1 σ H1 T _ ⟨M1, st1.pop.less (less_hid ρ)⟩ fun q H2 s2 => ?_
  obtain ⟨M, st⟩ := Sta.two (p := p) (ds1 := ds1) st1 s2 (by simp [hl])
  refine ⟨by rw [sizeLine_eq]; show 2 ≤ _; omega, fun t ht => ?_⟩
  have b := bs_new (o := .tup [.ref p, .ref q]) st.bs.kn ht
  have a0 : Sta K M0 H0 _ (upd H2 t (.tup [.ref p, .ref q])) _ T := ⟨_, st.grow b fun p' hp' => (st.tmp p' hp').mono b.mm⟩
  have a := a0.moveO j
  rw [List.set_append_left _ _ (by omega), List.set_append_left _ _ (by omega)] at a
  have c := a.moveO i
  rw [List.set_comm _ _ hij.symm, List.set_comm _ _ hij.symm] at c
  exact ⟨t, [.ref p, .ref q], rfl, .inl (.inl upd_same), rfl, _, _, rfl, _, _, rfl, rfl, f _ h _ _ c⟩
end
end Fr
namespace Fr
open PySem PySem.Spec PyProof.Rows L2 Mx
variable [TabL]
/-- parts that are made of the primes alone -/
def SmP (ps : List (Nat × Nat)) : Prop := ∀ p ∈ ps, Smooth p.1 ∧ Smooth p.2
theorem IsProg.smP {ps : List (Nat × Nat)} (h : IsProg ps) : SmP ps := fun p hp => ⟨(h.2 p hp).1.smooth, (h.2 p hp).2.1.smooth⟩
def exF (o : List Nat) (p : Nat × Nat) : Nat × Nat := (exN o p.1, exN o p.2)
def exP (o : List Nat) (ps : List (Nat × Nat)) : List (Nat × Nat) := ps.map (exF o)
section
variable {o : List Nat} (ho : IsOrd o)
include ho
theorem exP_first {ps : List (Nat × Nat)} (hs : SmP ps) {n : Nat} (hn : Smooth n) : firstAt (exP o ps) (exN o n) = firstAt ps n := by
  unfold firstAt exP
  rw [List.findIdx?_map]
  have : ∀ l : List (Nat × Nat), (∀ p ∈ l, Smooth p.2) → l.findIdx? ((fun p : Nat × Nat => exN o n % p.2 == 0) ∘ exF o) = l.findIdx? fun p => n % p.2 == 0 := by
    intro l hl
    induction l with
    | nil => rfl
    | cons p l ih =>
      rw [List.findIdx?_cons, List.findIdx?_cons, ih fun q hq => hl q (by simp [hq])]
      have e : (n % p.2 == 0) = (exN o n % exN o p.2 == 0) := by
        have := ex_dvd ho (hl p (by simp)) hn
        rw [Nat.dvd_iff_mod_eq_zero, Nat.dvd_iff_mod_eq_zero] at this
        by_cases z : n % p.2 = 0
        · rw [z, this.mpr z]
        · have z2 : ¬ exN o n % exN o p.2 = 0 := fun q => z (this.mp q)
          rw [beq_eq_false_iff_ne.mpr z, beq_eq_false_iff_ne.mpr z2]
      show (if (exN o n % exN o p.2 == 0) = true then _ else _) = _
      rw [← e]
  exact this ps fun p hp => (hs p hp).2
omit ho in
theorem exP_fr {ps : List (Nat × Nat)} {i : Nat} (hi : i < ps.length) : fr (exP o ps) i = exF o (fr ps i) := by
  have : (exP o ps)[i]? = some (exF o ps[i]) := by unfold exP; rw [List.getElem?_map, List.getElem?_eq_getElem hi]; rfl
  rw [fr_of this, fr_of (List.getElem?_eq_getElem hi)]
theorem exP_led {ps : List (Nat × Nat)} (hs : SmP ps) {n : Nat} (hn : Smooth n) : ledF (exP o ps) (exN o n) = (ledF ps n).map (exN o) := by
  unfold ledF
  rw [exP_first ho hs hn]
  cases e : firstAt ps n with
  | none => rfl
  | some i =>
    obtain ⟨_, hl, hz, _⟩ := firstAt_spec e
    obtain ⟨s1, s2⟩ := hs _ (fr_mem hl)
    have d := Nat.dvd_of_mod_eq_zero hz
    rw [Option.map_some, Option.map_some, Option.map_some, exP_fr hl]
    show some (exN o n / exN o (fr ps i).2 * exN o (fr ps i).1) = _
    rw [← ex_div ho hn s2 d, ← ex_mul ho (hn.dvd (Nat.div_dvd_of_dvd d)) s1]
theorem ex_room_le (n : Nat) : (∀ k ∈ rooms (exN o n), k ≤ 400) ↔ ∀ k ∈ rooms n, k ≤ 400 := by
  have a : ∀ m : Nat, (∀ k ∈ rooms m, k ≤ 400) ↔ ∀ r ∈ pL, mlt r m ≤ 400 := fun m => by
    constructor
    · intro h r hr; exact h _ (List.mem_map.mpr ⟨r, hr, rfl⟩)
    · intro h k hk
      obtain ⟨r, hr, rfl⟩ := List.mem_map.mp hk
      exact h r hr
  rw [a, a, ex_all ho, pL_all]
  constructor <;> (intro q i hi; have := q i hi; rw [ex_mlt ho _ hi] at *; exact this)
theorem ex_too {n : Nat} (hn : Smooth n) : tooB (exN o n) = tooB n := by
  cases e : tooB n with
  | false => exact (tooB_iff (exN_smooth o n).1).mpr ((ex_room_le ho n).mpr ((tooB_iff hn.1).mp e))
  | true =>
    cases e2 : tooB (exN o n) with
    | true => rfl
    | false =>
      have := (tooB_iff hn.1).mpr ((ex_room_le ho n).mp ((tooB_iff (exN_smooth o n).1).mp e2))
      rw [this] at e; cases e
omit ho in
theorem led_smP {ps : List (Nat × Nat)} (hs : SmP ps) {x y : Nat} (hx : Smooth x) (h : ledF ps x = some y) : Smooth y := by
  obtain ⟨i, e, rfl⟩ := led_first h
  obtain ⟨_, hl, hz, _⟩ := firstAt_spec e
  exact (hx.dvd (Nat.div_dvd_of_dvd (Nat.dvd_of_mod_eq_zero hz))).mul (hs _ (fr_mem hl)).1
theorem exP_runGo {ps : List (Nat × Nat)} (hs : SmP ps) : ∀ (m n : Nat) (acc : List Nat), Smooth n → runGo (exP o ps) m (exN o n) (acc.map (exN o)) = (runGo ps m n acc).map fun xs => xs.map (exN o)
  | 0, n, acc, _ => rfl
  | m + 1, n, acc, hn => by
    have e := exP_led ho hs hn
    cases q : ledF ps n with
    | none => rw [q] at e; rw [runGo_end e, runGo_end q]; rfl
    | some l =>
      rw [q] at e
      have hl := led_smP hs hn q
      cases t : tooB l with
      | true => rw [runGo_big e (by rw [ex_too ho hl]; exact t), runGo_big q t]; rfl
      | false =>
        rw [runGo_go e (by rw [ex_too ho hl]; exact t), runGo_go q t]
        have := exP_runGo hs m l (acc ++ [l]) hl
        rw [List.map_append] at this
        exact this
theorem exP_run {ps : List (Nat × Nat)} (hs : SmP ps) (m : Nat) {n : Nat} (hn : Smooth n) : runF (exP o ps) (exN o n) m = (runF ps n m).map fun xs => xs.map (exN o) := exP_runGo ho hs m n [n] hn
theorem exP_idle {ps : List (Nat × Nat)} (hs : SmP ps) : idleF (exP o ps) = idleF ps := by
  unfold idleF
  have hl : (exP o ps).length = ps.length := by simp [exP]
  rw [hl]
  refine List.filter_congr fun i hi => ?_
  have hi := List.mem_range.mp hi
  have : firstAt (exP o ps) (fr (exP o ps) i).2 = firstAt ps (fr ps i).2 := by
    rw [exP_fr hi]
    exact exP_first ho hs (hs _ (fr_mem hi)).2
  rw [this]
theorem exP_lean {ps : List (Nat × Nat)} (hs : SmP ps) : leanF (exP o ps) = exP o (leanF ps) := by
  unfold leanF
  rw [exP_idle ho hs]
  unfold exP
  rw [List.zipIdx_map, List.filter_map, List.map_map, List.map_map]
  rfl
theorem ex_gcd {a b : Nat} (ha : Smooth a) (hb : Smooth b) (h : Nat.gcd a b = 1) : Nat.gcd (exN o a) (exN o b) = 1 := by
  refine Classical.byContradiction fun no => ?_
  have sg : Smooth (Nat.gcd (exN o a) (exN o b)) := (exN_smooth o a).dvd (Nat.gcd_dvd_left _ _)
  obtain ⟨r, hr, d⟩ := sg.prime no
  obtain ⟨z, hz, rfl⟩ := pL_ix hr
  obtain ⟨i, hi, rfl⟩ := ord_onto ho hz
  have hp := pL_pm _ hr
  have hp2 := pL_pm _ (pL_at hi)
  have f : ∀ n, Smooth n → pL.getD (o.getD i 0) 1 ∣ exN o n → pL.getD i 1 ∣ n := fun n hn q => by
    have := (mlt_le_iff (k := 1) hp.1 (exN_smooth o n).1).mp (by simpa using q)
    rw [ex_mlt ho n hi] at this
    have := (mlt_le_iff (k := 1) hp2.1 hn.1).mpr this
    simpa using this
  have := Nat.dvd_gcd (f a ha (Nat.dvd_trans d (Nat.gcd_dvd_left _ _))) (f b hb (Nat.dvd_trans d (Nat.gcd_dvd_right _ _)))
  rw [h] at this
  have := Nat.dvd_one.mp this
  have := hp2.1
  omega
/-- tops of two primes at most, unders of three -/
def Few (ps : List (Nat × Nat)) : Prop := ∀ p ∈ ps, Om p.1 ≤ 2 ∧ Om p.2 ≤ 3
theorem exP_isProg {ps : List (Nat × Nat)} (h : IsProg ps) (hf : Few ps) : IsProg (exP o ps) := by
  refine ⟨by simpa [exP] using h.1, fun p hp => ?_⟩
  obtain ⟨q, hq, rfl⟩ := List.mem_map.mp hp
  obtain ⟨h1, h2, _, _, h5⟩ := h.2 q hq
  obtain ⟨f1, f2⟩ := hf q hq
  refine ⟨ex_isNum ho h1, ex_isNum ho h2, ?_, ?_, ex_gcd ho h1.smooth h2.smooth h5⟩
  · have := smooth_le (exN_smooth o q.1)
    rw [Om_ex ho] at this
    exact Nat.le_trans this (Nat.le_trans (Nat.pow_le_pow_right (by decide) f1) (by decide))
  · have := smooth_le (exN_smooth o q.2)
    rw [Om_ex ho] at this
    exact Nat.le_trans this (Nat.le_trans (Nat.pow_le_pow_right (by decide) f2) (by decide))
omit ho in
theorem progF_few (m : Int) {q : Nat} (h0 : 0 < q) (h1 : q ≤ 12) : Few (progF m q) := fun p hp => by
  obtain ⟨hp, _⟩ := List.mem_filter.mp hp
  obtain ⟨j, _, rfl⟩ := List.mem_map.mp hp
  exact fracF_Om _ h0 h1
theorem ex_numAt {n g : Nat} {p : Nat × Nat} (hn : Smooth n) (h1 : Smooth p.1) (h2 : Smooth p.2) (d : p.2 ^ g ∣ n) : exN o (numAt n p g) = numAt (exN o n) (exF o p) g := by
  unfold numAt exF
  rw [ex_mul ho (hn.dvd (Nat.div_dvd_of_dvd d)) (h1.pow g), ex_div ho hn (h2.pow g) d, ex_pow ho h1, ex_pow ho h2]
theorem ex_comes (n t w : Nat) : comesB (exN o n) (exN o t) (exN o w) = comesB n t w := by
  have e : comesB (exN o n) (exN o t) (exN o w) = false ↔ comesB n t w = false := by
    rw [comesB_iff, comesB_iff, ex_ex ho, pL_ex]
    refine exists_congr fun i => and_congr_right fun hi => ?_
    rw [ex_mlt ho n hi, ex_mlt ho t hi, ex_mlt ho w hi]
  cases a : comesB n t w with
  | false => exact e.mpr a
  | true =>
    cases b : comesB (exN o n) (exN o t) (exN o w) with
    | true => rfl
    | false => rw [e.mp b] at a; cases a
theorem exP_times {ps : List (Nat × Nat)} (hps : IsProg ps) (hf : Few ps) {n i : Nat} (hn : IsNum n) (hi : firstAt ps n = some i) : timesF (exP o ps) (exN o n) i = timesF ps n i := by
  have hs := hps.smP
  have hps2 := exP_isProg ho hps hf
  have hl := (firstAt_spec hi).2.1
  have hl2 : i < (exP o ps).length := by simpa [exP] using hl
  have hi2 : firstAt (exP o ps) (exN o n) = some i := by rw [exP_first ho hs hn.smooth]; exact hi
  have hn2 := ex_isNum ho hn
  obtain ⟨s1, s2⟩ := hs _ (fr_mem hl)
  cases a : timesF ps n i with
  | none =>
    obtain ⟨h1, h2⟩ := (times_none hps hl).mp a
    refine (times_none hps2 hl2).mpr ⟨by rw [exP_fr hl]; show exN o (fr ps i).2 = 1; rw [h1, ex_one ho], fun q hq => ?_⟩
    unfold exP at hq
    rw [← List.map_take] at hq
    obtain ⟨z, hz, rfl⟩ := List.mem_map.mp hq
    rw [exP_fr hl]
    show comesB (exN o n) (exN o (fr ps i).1) (exN o z.2) = false
    rw [ex_comes ho]
    exact h2 z hz
  | some k =>
    obtain ⟨k0, k4, hd, hst, hend⟩ := jump_some hps hn hi a
    cases b : timesF (exP o ps) (exN o n) i with
    | none =>
      exfalso
      obtain ⟨h1, h2⟩ := (times_none hps2 hl2).mp b
      rw [exP_fr hl] at h1 h2
      have : timesF ps n i = none := (times_none hps hl).mpr ⟨ex_inj ho s2 smooth_one (by rw [ex_one ho]; exact h1), fun q hq => by
        have := h2 (exF o q) (by unfold exP; rw [← List.map_take]; exact List.mem_map.mpr ⟨q, hq, rfl⟩)
        have this : comesB (exN o n) (exN o (fr ps i).1) (exN o q.2) = false := this
        rw [ex_comes ho] at this
        exact this⟩
      rw [this] at a; cases a
    | some k2 =>
      obtain ⟨_, _, hd2, hst2, hend2⟩ := jump_some hps2 hn2 hi2 b
      have key : ∀ g, (fr ps i).2 ^ g ∣ n → firstAt (exP o ps) (numAt (exN o n) (fr (exP o ps) i) g) = firstAt ps (numAt n (fr ps i) g) := fun g dg => by
        rw [exP_fr hl, ← ex_numAt ho hn.smooth s1 s2 dg, exP_first ho hs (numAt_smooth hn.smooth s1 dg)]
      have : k2 = k := by
        rcases Nat.lt_trichotomy k2 k with q | q | q
        · exfalso
          have dg := Nat.dvd_trans (Nat.pow_dvd_pow (fr ps i).2 (Nat.le_of_lt q)) hd
          have h1 := hst k2 q
          rw [← key k2 dg] at h1
          exact hend2 h1
        · exact q
        · exfalso
          have h1 := hst2 k q
          rw [key k hd] at h1
          exact hend h1
      rw [this]
def exJ (o : List Nat) : Jr → Jr
  | .great => .great
  | .on xs n => .on xs (exN o n)
  | .ever xs i => .ever xs i
theorem exP_jumps {ps : List (Nat × Nat)} (hps : IsProg ps) (hf : Few ps) : ∀ (m n : Nat) (acc : List (Nat × Nat)), IsNum n → jumpsGo (exP o ps) m (exN o n) acc = exJ o (jumpsGo ps m n acc)
  | 0, n, acc, _ => rfl
  | m + 1, n, acc, hn => by
    have e1 := exP_first ho hps.smP hn.smooth
    cases a : firstAt ps n with
    | none => rw [a] at e1; rw [jg_end e1, jg_end a]; rfl
    | some i =>
      rw [a] at e1
      have e2 := exP_times ho hps hf hn a
      have hl := (firstAt_spec a).2.1
      obtain ⟨s1, s2⟩ := hps.smP _ (fr_mem hl)
      cases b : timesF ps n i with
      | none => rw [b] at e2; rw [jg_ever e1 e2, jg_ever a b]; rfl
      | some k =>
        rw [b] at e2
        obtain ⟨_, _, hd, _, _⟩ := jump_some hps hn a b
        have e3 : numAt (exN o n) (fr (exP o ps) i) k = exN o (numAt n (fr ps i) k) := by rw [exP_fr hl, ex_numAt ho hn.smooth s1 s2 hd]
        have sm := numAt_smooth hn.smooth s1 hd
        cases t : tooB (numAt n (fr ps i) k) with
        | true => rw [jg_big e1 e2 (by rw [e3, ex_too ho sm]; exact t), jg_big a b t]; rfl
        | false =>
          rw [jg_go e1 e2 (by rw [e3, ex_too ho sm]; exact t), jg_go a b t, e3]
          exact exP_jumps hps hf m _ _ (numAt_isNum (hps.2 _ (fr_mem hl)) hn hd t)
theorem ex_lack (n w x y : Nat) : lackB (exN o n) (exN o w) (moreL (exN o x) (exN o y)) = lackB n w (moreL x y) := by
  rw [Bool.eq_iff_iff, lackB_iff, lackB_iff, ex_ex ho, pL_ex]
  refine exists_congr fun i => and_congr_right fun hi => ?_
  rw [ex_mlt ho n hi, ex_mlt ho w hi, ex_mlt ho x hi, ex_mlt ho y hi]
theorem ex_more (x y : Nat) : minI (moreL (exN o x) (exN o y)) < 0 ↔ minI (moreL x y) < 0 := by
  rw [more_neg, more_neg, ex_ex ho, pL_ex]
  refine exists_congr fun i => and_congr_right fun hi => ?_
  rw [ex_mlt ho x hi, ex_mlt ho y hi]
theorem exP_goes {ps : List (Nat × Nat)} (hs : SmP ps) {xs : List Nat} (hx : ∀ x ∈ xs, Smooth x) (a b : Nat) : goesB (exP o ps) (xs.map (exN o)) a b = goesB ps xs a b := by
  have g : ∀ j, (xs.map (exN o)).getD j 1 = exN o (xs.getD j 1) := fun j => by
    rw [List.getD_eq_getElem?_getD, List.getD_eq_getElem?_getD, List.getElem?_map]
    cases xs[j]? with
    | none => exact (ex_one ho).symm
    | some x => rfl
  unfold goesB
  rw [g, g, ← List.map_take, ← List.map_drop, List.all_map]
  rw [decide_eq_decide.mpr (ex_more ho (xs.getD a 1) (xs.getD b 1))]
  refine congrArg (Bool.and _) ?_
  · refine all_congr fun x hxm => ?_
    have sx := hx x (List.mem_of_mem_take (List.mem_of_mem_drop hxm))
    show (((exP o ps).take ((firstAt (exP o ps) (exN o x)).getD 0)).all fun q => lackB (exN o x) q.2 _) = _
    rw [exP_first ho hs sx]
    unfold exP
    rw [← List.map_take, List.all_map]
    exact all_congr fun q _ => ex_lack ho _ _ _ _
where
  all_congr {α : Type} {l : List α} {p q : α → Bool} (h : ∀ x ∈ l, p x = q x) : l.all p = l.all q := by
    induction l with
    | nil => rfl
    | cons x l ih => rw [List.all_cons, List.all_cons, h x (by simp), ih fun y hy => h y (by simp [hy])]
theorem exP_never {ps : List (Nat × Nat)} (hs : SmP ps) {xs : List Nat} (hx : ∀ x ∈ xs, Smooth x) : neverF (exP o ps) (xs.map (exN o)) = neverF ps xs := by
  unfold neverF
  rw [List.length_map]
  congr 1
  funext p
  exact exP_goes ho hs hx _ _
end
theorem run_light {ps : List (Nat × Nat)} (hps : IsProg ps) (hl : Light ps) : ∀ (m n c : Nat) (acc : List Nat), Smooth n → (∀ r ∈ pL, mlt r n ≤ c) → c + 2 * m ≤ 400 → ∃ xs, runGo ps m n acc = some xs
  | 0, n, c, acc, _, _, _ => ⟨_, rfl⟩
  | m + 1, n, c, acc, hn, hc, hm => by
    cases e : ledF ps n with
    | none => exact ⟨_, runGo_end e⟩
    | some l =>
      have hs := led_smooth hps hn e
      obtain ⟨i, ei, q⟩ := led_first e
      obtain ⟨_, hil, hz, _⟩ := firstAt_spec ei
      have d := Nat.dvd_of_mod_eq_zero hz
      have hf := hps.2 _ (fr_mem hil)
      have pos : 0 < n / (fr ps i).2 := Nat.div_pos (Nat.le_of_dvd hn.1 d) hf.2.1.1
      have hb : ∀ r ∈ pL, mlt r l ≤ c + 2 := fun r hr => by
        have a1 := mlt_of_dvd (pL_pm r hr) hn.1 (Nat.div_dvd_of_dvd d)
        have a2 := hl _ (fr_mem hil) r hr
        have a3 := hc r hr
        rw [q, mlt_mul (pL_pm r hr) pos hf.1.1]
        omega
      have ht : tooB l = false := (tooB_iff hs.1).mpr fun x hx => by
        obtain ⟨r, hr, rfl⟩ := List.mem_map.mp hx
        have := hb r hr
        show mlt r l ≤ 400
        omega
      rw [runGo_go e ht]
      exact run_light hps hl m l (c + 2) _ hs hb (by omega)
theorem jump_few {ps : List (Nat × Nat)} (hps : IsProg ps) (hf : Few ps) {n i k c : Nat} (hn : IsNum n) (hi : firstAt ps n = some i) (hk : timesF ps n i = some k) (hc : Om n ≤ c) (h6 : 6 ≤ c) : Om (numAt n (fr ps i) k) ≤ 2 * c := by
  obtain ⟨k0, k4, hd, hst, hend⟩ := jump_some hps hn hi hk
  have hl := (firstAt_spec hi).2.1
  have hfr := hps.2 _ (fr_mem hl)
  obtain ⟨f1, f2⟩ := hf _ (fr_mem hl)
  have p2 := hfr.2.1.1
  have pos : 0 < n / (fr ps i).2 ^ k := Nat.div_pos (Nat.le_of_dvd hn.1 hd) (Nat.pow_pos p2)
  have e1 : Om n = Om (n / (fr ps i).2 ^ k) + k * Om (fr ps i).2 := by
    conv => lhs; rw [← Nat.div_mul_cancel hd]
    rw [Om_mul pos (Nat.pow_pos p2), Om_pow p2]
  have e2 : Om (numAt n (fr ps i) k) = Om (n / (fr ps i).2 ^ k) + k * Om (fr ps i).1 := by
    unfold numAt
    rw [Om_mul pos (Nat.pow_pos hfr.1.1), Om_pow hfr.1.1]
  have e3 : k * Om (fr ps i).1 ≤ k * 2 := Nat.mul_le_mul_left k f1
  by_cases hu : (fr ps i).2 = 1
  · -- an under of one: another one comes soon
    have k3 : k ≤ 3 := by
      unfold timesF at hk
      split at hk
      · cases hk
      rename_i hne
      have hk : minN (timesL ps n i) = k := Option.some.inj hk
      have hm := minN_mem hne
      rw [hk] at hm
      rcases timesL_mem hm with ⟨r, hr, h1, _⟩ | ⟨q, hq, h1⟩
      · rw [hu, mlt_one (pL_pm r hr).1] at h1; omega
      · rcases (ffF_some h1).2.2 with z | ⟨x, hx, hle⟩
        · omega
        · obtain ⟨r, hr, rfl⟩ := quadF_mem.mp hx
          obtain ⟨j, hj, hjl, rfl⟩ := take_mem hq
          have a := (hf _ (fr_mem hjl)).2
          have b := mlt_Om (n := (fr ps j).2) hr
          have hle : k ≤ mlt r (fr ps j).2 := hle
          omega
    have z : k * Om (fr ps i).2 = 0 := by rw [hu, Om_one]; simp
    omega
  · have o1 : 1 ≤ Om (fr ps i).2 := by
      obtain ⟨r, hr, d⟩ := hfr.2.1.smooth.prime hu
      have a := (mlt_le_iff (k := 1) (pL_pm r hr).1 p2).mp (by simpa using d)
      exact Nat.le_trans a (mlt_Om hr)
    have : k * 1 ≤ k * Om (fr ps i).2 := Nat.mul_le_mul_left k o1
    omega
theorem jumps_few {ps : List (Nat × Nat)} (hps : IsProg ps) (hf : Few ps) : ∀ (m n c : Nat) (acc : List (Nat × Nat)), IsNum n → Om n ≤ c → 6 ≤ c → c * 2 ^ m ≤ 400 → jumpsGo ps m n acc ≠ .great
  | 0, n, c, acc, _, _, _, _ => fun z => by cases z
  | m + 1, n, c, acc, hn, hc, h6, hm => by
    cases a : firstAt ps n with
    | none => rw [jg_end a]; exact fun z => by cases z
    | some i =>
      cases b : timesF ps n i with
      | none => rw [jg_ever a b]; exact fun z => by cases z
      | some k =>
        have hl := (firstAt_spec a).2.1
        have hfr := hps.2 _ (fr_mem hl)
        obtain ⟨_, _, hd, _, _⟩ := jump_some hps hn a b
        have o2 := jump_few hps hf hn a b hc h6
        have sm := numAt_smooth hn.smooth hfr.1.smooth hd
        have p1 : 1 ≤ 2 ^ m := Nat.pow_pos (by decide)
        have e : c * 2 ^ (m + 1) = 2 * c * 2 ^ m := by rw [Nat.pow_succ]; simp only [Nat.mul_assoc, Nat.mul_comm, Nat.mul_left_comm]
        have q1 : 2 * c * 1 ≤ 2 * c * 2 ^ m := Nat.mul_le_mul_left _ p1
        have ht : tooB (numAt n (fr ps i) k) = false := (tooB_iff sm.1).mpr fun x hx => by
          obtain ⟨r, hr, rfl⟩ := List.mem_map.mp hx
          have := mlt_Om (n := numAt n (fr ps i) k) hr
          show mlt r (numAt n (fr ps i) k) ≤ 400
          omega
        rw [jg_go a b ht]
        exact jumps_few hps hf m _ (2 * c) _ (numAt_isNum hfr hn hd ht) o2 (by omega) (by omega)
/-- numbers of the first four primes -/
theorem four_no {r : Nat} (hr : r = 37) : ∀ j, j < 4 → ¬ r ∣ pL.getD j 1 := by
  subst hr; decide
theorem someP_no (m : Int) : ∀ i, mlt 37 (someP m 4 i) = 0
  | 0 => by show mlt 37 1 = 0; exact mlt_one (by decide)
  | i + 1 => by
    have h37 : Pm 37 := pL_pm 37 (by decide)
    obtain ⟨a, b, c⟩ := draw_ix m (0 + (i : Int)) (q := 4) (by decide) (by decide)
    have hp := pL_at c
    rw [someP, mlt_mul h37 (someP_smooth m (by decide) (by decide) i).1 (smooth_prime hp).1, someP_no m i]
    have : ¬ 37 ∣ pL.getD (drawn m (0 + (i : Int)) / 8 % ((4 : Nat) : Int)).toNat 1 := four_no rfl _ (by omega)
    rw [mlt_no fun z => this (Nat.dvd_of_mod_eq_zero z)]
theorem someF_no (m : Int) (t : Nat) : mlt 37 (someF m 4 t) = 0 := someP_no m _
theorem fracF_no (m : Int) : mlt 37 (fracF m 4).1 = 0 ∧ mlt 37 (fracF m 4).2 = 0 := by
  have h37 : Pm 37 := pL_pm 37 (by decide)
  have s1 := someF_smooth (drawn m 1) (q := 4) (by decide) (by decide) 2
  have s2 := someF_smooth (drawn m 2) (q := 4) (by decide) (by decide) 3
  obtain ⟨b1, b2, a3, a4, _⟩ := redAll_spec pL (someF (drawn m 1) 4 2, someF (drawn m 2) 4 3) (fun p hp => (pL_pm p hp).1) s1.1 s2.1
  have c1 := mlt_of_dvd h37 s1.1 a3
  have c2 := mlt_of_dvd h37 s2.1 a4
  rw [someF_no] at c1 c2
  exact ⟨Nat.le_zero.mp c1, Nat.le_zero.mp c2⟩
def NoR (r : Nat) (ps : List (Nat × Nat)) : Prop := ∀ p ∈ ps, mlt r p.1 = 0 ∧ mlt r p.2 = 0
theorem progF_no (m : Int) : NoR 37 (progF m 4) := fun p hp => by
  obtain ⟨hp, _⟩ := List.mem_filter.mp hp
  obtain ⟨j, _, rfl⟩ := List.mem_map.mp hp
  exact fracF_no _
theorem NoR.nd {r : Nat} {ps : List (Nat × Nat)} (hr : Pm r) (hps : IsProg ps) (h : NoR r ps) : ∀ p ∈ ps, ¬ r ∣ p.2 := fun p hp d => by
  have a := (mlt_le_iff (k := 1) hr.1 (hps.2 p hp).2.1.1).mp (by simpa using d)
  have := (h p hp).2
  omega
theorem spare_first {ps : List (Nat × Nat)} {r k n : Nat} (hr : Pm r) (h : ∀ p ∈ ps, ¬ r ∣ p.2) : firstAt ps (n * r ^ k) = firstAt ps n := by
  unfold firstAt
  have : ∀ l : List (Nat × Nat), (∀ p ∈ l, ¬ r ∣ p.2) → (l.findIdx? fun p => n * r ^ k % p.2 == 0) = l.findIdx? fun p => n % p.2 == 0 := by
    intro l hl
    induction l with
    | nil => rfl
    | cons p l ih =>
      rw [List.findIdx?_cons, List.findIdx?_cons, ih fun q hq => hl q (by simp [hq])]
      have c : Nat.Coprime p.2 (r ^ k) := (Nat.Coprime.pow_left k (pm_cop hr (hl p (by simp)))).symm
      have e : (n * r ^ k % p.2 == 0) = (n % p.2 == 0) := by
        by_cases z : n % p.2 = 0
        · have : n * r ^ k % p.2 = 0 := Nat.mod_eq_zero_of_dvd (Nat.dvd_trans (Nat.dvd_of_mod_eq_zero z) (Nat.dvd_mul_right _ _))
          rw [z, this]
        · have z2 : ¬ n * r ^ k % p.2 = 0 := fun q => z (Nat.mod_eq_zero_of_dvd (c.dvd_of_dvd_mul_right (Nat.dvd_of_mod_eq_zero q)))
          rw [beq_eq_false_iff_ne.mpr z, beq_eq_false_iff_ne.mpr z2]
      rw [e]
  exact this ps h
theorem spare_led {ps : List (Nat × Nat)} {r k n : Nat} (hr : Pm r) (h : ∀ p ∈ ps, ¬ r ∣ p.2) : ledF ps (n * r ^ k) = (ledF ps n).map (· * r ^ k) := by
  cases e : ledF ps n with
  | none =>
    unfold ledF at e ⊢
    rw [spare_first hr h]
    cases q : firstAt ps n with
    | none => rfl
    | some i => rw [q] at e; cases e
  | some y =>
    obtain ⟨i, ei, _⟩ := led_first e
    exact led_mul e ei (by rw [spare_first hr h]; exact ei)
theorem spare_run {ps : List (Nat × Nat)} {r k : Nat} (hps : IsProg ps) (hr : r ∈ pL) (h : NoR r ps) (hk : k ≤ 400) : ∀ (m n : Nat) (acc : List Nat), IsNum n → mlt r n = 0 → runGo ps m (n * r ^ k) (acc.map (· * r ^ k)) = (runGo ps m n acc).map fun xs => xs.map (· * r ^ k)
  | 0, n, acc, _, _ => rfl
  | m + 1, n, acc, hn, h0 => by
    have hp := pL_pm r hr
    have hnd := h.nd hp hps
    have l2 := spare_led (k := k) (n := n) hp hnd
    have pos : 0 < r ^ k := Nat.pow_pos (by have := hp.1; omega)
    cases q : ledF ps n with
    | none => rw [q] at l2; rw [runGo_end q, runGo_end l2]; rfl
    | some y =>
      rw [q] at l2
      have sy := led_smooth hps hn.smooth q
      have y0 : mlt r y = 0 := by
        obtain ⟨i, ei, rfl⟩ := led_first q
        obtain ⟨_, hil, hz, _⟩ := firstAt_spec ei
        have d := Nat.dvd_of_mod_eq_zero hz
        have hf := hps.2 _ (fr_mem hil)
        have pos : 0 < n / (fr ps i).2 := Nat.div_pos (Nat.le_of_dvd hn.1 d) hf.2.1.1
        have a1 := mlt_of_dvd hp hn.1 (Nat.div_dvd_of_dvd d)
        have a2 := (h _ (fr_mem hil)).1
        rw [mlt_mul hp pos hf.1.1]
        omega
      have e2 : tooB (y * r ^ k) = tooB y := by
        have pt : tooB (y * r ^ k) = false ↔ tooB y = false := by
          rw [tooB_iff (Nat.mul_pos sy.1 pos), tooB_iff sy.1]
          constructor
          · intro g x hx
            obtain ⟨z, hz, rfl⟩ := List.mem_map.mp hx
            have := g _ (List.mem_map.mpr ⟨z, hz, rfl⟩)
            have this : mlt z (y * r ^ k) ≤ 400 := this
            rw [mlt_mul (pL_pm z hz) sy.1 pos] at this
            show mlt z y ≤ 400
            omega
          · intro g x hx
            obtain ⟨z, hz, rfl⟩ := List.mem_map.mp hx
            show mlt z (y * r ^ k) ≤ 400
            rw [mlt_mul (pL_pm z hz) sy.1 pos]
            by_cases e : z = r
            · subst e
              rw [mlt_powSelf hp.1, y0]; omega
            · rw [mlt_powOther (pL_pm z hz) hp e]
              exact g _ (List.mem_map.mpr ⟨z, hz, rfl⟩)
        cases a : tooB y with
        | false => exact pt.mpr a
        | true =>
          cases b : tooB (y * r ^ k) with
          | true => rfl
          | false => rw [pt.mp b] at a; cases a
      cases t : tooB y with
      | true => rw [runGo_big l2 (by rw [e2]; exact t), runGo_big q t]; rfl
      | false =>
        rw [runGo_go l2 (by rw [e2]; exact t), runGo_go q t]
        have := spare_run hps hr h hk m y (acc ++ [y]) ⟨sy.1, sy.2, (tooB_iff sy.1).mp t⟩ y0
        rw [List.map_append] at this
        exact this
theorem spare_runF {ps : List (Nat × Nat)} {r k : Nat} (hps : IsProg ps) (hr : r ∈ pL) (h : NoR r ps) (hk : k ≤ 400) (m : Nat) {n : Nat} (hn : IsNum n) (h0 : mlt r n = 0) : runF ps (n * r ^ k) m = (runF ps n m).map fun xs => xs.map (· * r ^ k) := spare_run hps hr h hk m n [n] hn h0
end Fr
namespace Fr
open PySem PySem.Spec PyProof.Rows L2 Mx
variable [TabL]
/-- a heap of places, some taken -/
structure Tk (L R : List Nat) (i : Nat) : Prop where
  ll : L.length + i = 12
  rl : R.length = i
  nd : (R ++ L).Nodup
  lt : ∀ x ∈ R ++ L, x < 12
theorem tk_0 : Tk (List.range 12) [] 0 := ⟨rfl, rfl, by decide, by decide⟩
theorem tk_ord {L R : List Nat} (h : Tk L R 12) : IsOrd R := by
  have e : L = [] := List.eq_nil_of_length_eq_zero (by have := h.ll; omega)
  subst e
  exact ⟨h.rl, fun k hk => h.lt k (by simp [hk]), by simpa using h.nd⟩
theorem erase_split {α : Type} : ∀ (L : List α) (k : Nat) (h : k < L.length), L = L.take k ++ L[k] :: L.drop (k + 1) ∧ L.eraseIdx k = L.take k ++ L.drop (k + 1)
  | _ :: _, 0, _ => ⟨rfl, rfl⟩
  | x :: L, k + 1, h => by
    have hk : k < L.length := by simpa using h
    obtain ⟨a, b⟩ := erase_split L k hk
    exact ⟨by show x :: L = x :: (L.take k ++ L[k] :: L.drop (k + 1)); rw [← a], by show x :: L.eraseIdx k = x :: _; rw [b]; rfl⟩
theorem erase_map {α β : Type} (f : α → β) : ∀ (L : List α) (k : Nat), (L.map f).eraseIdx k = (L.eraseIdx k).map f
  | [], _ => rfl
  | _ :: _, 0 => rfl
  | x :: L, k + 1 => by show f x :: (L.map f).eraseIdx k = f x :: _; rw [erase_map f L k]
theorem tk_step {L R : List Nat} {i k : Nat} (h : Tk L R i) (hk : k < L.length) : Tk (L.eraseIdx k) (R ++ [L[k]]) (i + 1) := by
  obtain ⟨e1, e2⟩ := erase_split L k hk
  have pm : (R ++ [L[k]] ++ L.eraseIdx k).Perm (R ++ L) := by
    rw [e2, List.append_assoc]
    refine List.Perm.append_left R ?_
    conv => rhs; rw [e1]
    exact (List.perm_middle (a := L[k]) (l₁ := L.take k) (l₂ := L.drop (k + 1))).symm
  refine ⟨?_, by rw [List.length_append, h.rl]; rfl, pm.nodup_iff.mpr h.nd, fun x hx => h.lt x (pm.mem_iff.mp hx)⟩
  rw [List.length_eraseIdx, if_pos hk]
  have := h.ll
  omega
/-- where a run comes to an end -/
def endO (ps : List (Nat × Nat)) (n : Nat) (xs : List Nat) : Option Nat := if (ledF ps (xs.getLastD n)).isNone then some (xs.getLastD n) else none
section
variable {K : PySem.W.Frag}
theorem endE_O {ps : List (Nat × Nat)} {n m : Nat} {xs : List Nat} (hm : m ≤ 2000) (h : runF ps n m = some xs) : endE K ps n (nD m) = .ok (oN (endO ps n xs)) := by
  unfold endE
  rw [isCount_nD (by omega), if_pos rfl, decN_nD, h]
  show Except.ok (if (ledF ps (xs.getLastD n)).isNone then nD (xs.getLastD n) else .none) = _
  unfold endO
  cases (ledF ps (xs.getLastD n)).isNone <;> rfl
/-- how a walk by jumps ends: its steps, what is behind it -/
def stJ : Jr → Dt
  | .great => .none
  | .on xs _ => lP xs
  | .ever xs i => .list (xs.map prD ++ [.tuple [nD i, .none]])
def bhJ : Jr → Option Nat
  | .great => none
  | .on _ n => some n
  | .ever _ _ => none
theorem jrE_ok {J : Jr} (h : J ≠ .great) : jrE K J = .ok (.tuple [stJ J, oN (bhJ J)]) := by
  cases J with
  | great => exact absurd rfl h
  | on xs n => rfl
  | ever xs i => rfl
def maJ : Jr → Dt
  | .great => .none
  | .on xs _ => .int (sumN xs)
  | .ever _ _ => .none
theorem manyE_ok {J : Jr} (h : J ≠ .great) : manyE K J = .ok (maJ J) := by
  cases J with
  | great => exact absurd rfl h
  | on xs n => rfl
  | ever xs i => rfl
theorem exJ_ne {o : List Nat} {J : Jr} (h : J ≠ .great) : exJ o J ≠ .great := by
  cases J with
  | great => exact absurd rfl h
  | on xs n => exact fun z => by cases z
  | ever xs i => exact fun z => by cases z
theorem stJ_ex (o : List Nat) (J : Jr) : stJ (exJ o J) = stJ J := by cases J <;> rfl
theorem bhJ_ex (o : List Nat) (J : Jr) : bhJ (exJ o J) = (bhJ J).map (exN o) := by cases J <;> rfl
theorem maJ_ex (o : List Nat) (J : Jr) : maJ (exJ o J) = maJ J := by cases J <;> rfl
theorem sh_maJ (J : Jr) : SeqAt.shaped (maJ J) = true := by cases J <;> rfl
theorem shp_jr (J : Jr) (h : J ≠ .great) : Shp 3 (.tuple [stJ J, oN (bhJ J)]) := by
  cases J with
  | great => exact absurd rfl h
  | on xs n => exact shp_onD xs n
  | ever xs i => exact shp_everD xs i
/-- all that the law asks of a program and its other one -/
structure Ex61 (o : List Nat) (ps : List (Nat × Nat)) (n : Nat) (xs ys : List Nat) (J : Jr) : Prop where
  ho : IsOrd o
  hp : IsProg ps
  hq : IsProg (exP o ps)
  hn : IsNum n
  hm : IsNum (exN o n)
  xn : ∀ x ∈ xs, IsNum x
  r1 : runF ps n 30 = some xs
  r2 : runF (exP o ps) (exN o n) 30 = some (xs.map (exN o))
  fi : firstAt (exP o ps) (exN o n) = firstAt ps n
  en : ∀ l, endO ps n xs = some l → IsNum l
  en2 : endO (exP o ps) (exN o n) (xs.map (exN o)) = (endO ps n xs).map (exN o)
  il : idleF (exP o ps) = idleF ps
  le : leanF (exP o ps) = exP o (leanF ps)
  lp : IsProg (leanF ps)
  j1 : jumpsGo ps 6 n [] = J
  j2 : jumpsGo (exP o ps) 6 (exN o n) [] = exJ o J
  jn : J ≠ .great
  jb : ∀ l, bhJ J = some l → IsNum l
  r3 : runF ps n 12 = some ys
  r4 : runF (exP o ps) (exN o n) 12 = some (ys.map (exN o))
  ne : neverF (exP o ps) (ys.map (exN o)) = neverF ps ys
/-- where a walk by jumps is -/
theorem jumps_num {ps : List (Nat × Nat)} (hps : IsProg ps) : ∀ (m n : Nat) (acc : List (Nat × Nat)), IsNum n → ∀ l, bhJ (jumpsGo ps m n acc) = some l → IsNum l
  | 0, n, acc, hn, l, h => by cases h; exact hn
  | m + 1, n, acc, hn, l, h => by
    cases a : firstAt ps n with
    | none => rw [jg_end a] at h; cases h; exact hn
    | some i =>
      have hl := (firstAt_spec a).2.1
      cases b : timesF ps n i with
      | none => rw [jg_ever a b] at h; cases h
      | some k =>
        obtain ⟨_, _, hd, _, _⟩ := jump_some hps hn a b
        cases t : tooB (numAt n (fr ps i) k) with
        | true => rw [jg_big a b t] at h; cases h
        | false =>
          rw [jg_go a b t] at h
          exact jumps_num hps m _ _ (numAt_isNum (hps.2 _ (fr_mem hl)) hn hd t) l h
theorem run_nums {ps : List (Nat × Nat)} (hps : IsProg ps) {n m : Nat} (hn : IsNum n) {xs : List Nat} (h : runF ps n m = some xs) : (∀ x ∈ xs, IsNum x) ∧ IsNum (xs.getLastD n) := by
  have hrow := row_of h
  have a : ∀ x ∈ xs, IsNum x := fun x hx => by
    obtain ⟨j, hj, rfl⟩ := List.mem_iff_getElem.mp hx
    have := hrow.num hps hn (j := j) hj
    rw [List.getD_eq_getElem?_getD, List.getElem?_eq_getElem hj] at this
    exact this
  refine ⟨a, ?_⟩
  cases e : xs with
  | nil => exact hn
  | cons y ys =>
    refine a _ ?_
    rw [e, List.getLastD_eq_getLast?, List.getLast?_eq_getLast (by simp)]
    exact List.getLast_mem _
theorem ex61 {o : List Nat} {ps : List (Nat × Nat)} {n : Nat} (ho : IsOrd o) (hps : IsProg ps) (hn : IsNum n) (hli : Light ps) (hf : Few ps) (h6 : ∀ r ∈ pL, mlt r n ≤ 6) (ho6 : Om n ≤ 6) : ∃ xs ys J, Ex61 o ps n xs ys J := by
  obtain ⟨xs, hx⟩ := run_light hps hli 30 n 6 [n] hn.smooth h6 (by decide)
  obtain ⟨ys, hy⟩ := run_light hps hli 12 n 6 [n] hn.smooth h6 (by decide)
  have hx : runF ps n 30 = some xs := hx
  have hy : runF ps n 12 = some ys := hy
  obtain ⟨n1, n2⟩ := run_nums hps hn hx
  obtain ⟨n3, _⟩ := run_nums hps hn hy
  have hs := hps.smP
  have gl : (xs.map (exN o)).getLastD (exN o n) = exN o (xs.getLastD n) := by
    rw [List.getLastD_eq_getLast?, List.getLastD_eq_getLast?, List.getLast?_map]
    cases xs.getLast? <;> rfl
  refine ⟨xs, ys, _, ho, hps, exP_isProg ho hps hf, hn, ex_isNum ho hn, n1, hx, by rw [exP_run ho hs 30 hn.smooth, hx]; rfl, exP_first ho hs hn.smooth, fun l h => ?_, ?_, exP_idle ho hs, exP_lean ho hs, hps.lean, rfl, exP_jumps ho hps hf 6 n [] hn,
    jumps_few hps hf 6 n 6 [] hn ho6 (Nat.le_refl _) (by decide), jumps_num hps 6 n [] hn, hy, by rw [exP_run ho hs 12 hn.smooth, hy]; rfl, exP_never ho hs fun x hx => (n3 x hx).smooth⟩
  · unfold endO at h
    split at h
    · cases h; exact n2
    · cases h
  · unfold endO
    rw [gl, exP_led ho hs n2.smooth]
    cases ledF ps (xs.getLastD n) <;> rfl
end
end Fr
namespace Fr
open PySem PySem.Spec PyProof.Rows L2 Mx
variable [TabL]
theorem enum_item2 {α : Type} {xs : List α} {i : Nat} {p : α × Nat} (h : xs.zipIdx[i]? = some p) : ∃ v, xs[i]? = some v ∧ p = (v, i) := by
  rw [List.getElem?_zipIdx] at h
  cases e : xs[i]? with
  | none => rw [e] at h; cases h
  | some v => rw [e] at h; refine ⟨v, rfl, ?_⟩; have := Option.some.inj h; rw [← this, Nat.zero_add]
theorem ord_atI {o : List Nat} (h : IsOrd o) {i : Nat} (hi : i < 12) : atI o (i : Int) = some (o.getD i 0) := by
  have := atI_of (xs := o) (i := (i : Int)) (by omega) (by rw [h.len]; omega) 0
  simpa using this
theorem exGo_step (o rs : List Nat) {i v : Nat} (h : rs[i]? = some v) : ((exGo o rs i).map fun k : Nat => PyData.int (k : Int)).set (o.getD i 0) (.int (v : Int)) = (exGo o rs (i + 1)).map fun k : Nat => PyData.int (k : Int) := by
  have e : rs.getD i 0 = v := by rw [List.getD_eq_getElem?_getD, h]; rfl
  rw [exGo, e, List.map_set]
theorem ex_rooms_ok {o : List Nat} (ho : IsOrd o) {n : Nat} (hn : IsNum n) : isRoomsD (rmD (exR o (rooms n))) = true := isRoomsD_rm (exR_len _ _) fun k hk => by
  rw [← rooms_exN] at hk
  exact (ex_isNum ho hn).2.2 k hk
theorem exP_D (o : List Nat) (ps : List (Nat × Nat)) : PyData.list (ps.map fun p : Nat × Nat => PyData.tuple [nD (exN o p.1), nD (exN o p.2)]) = lP (exP o ps) := by
  show PyData.list _ = PyData.list ((ps.map (exF o)).map prD)
  rw [List.map_map]; rfl
end Fr
namespace Fr
open PySem PySem.Spec PyProof.Rows L2 Mx
variable [TabL]
/-- a prime that no fraction knows goes along -/
theorem spare61 {ps : List (Nat × Nat)} {n : Nat} (hps : IsProg ps) (hn : IsNum n) (hli : Light ps) (hno : NoR 37 ps) (h6 : ∀ r ∈ pL, mlt r n ≤ 6) (hz : mlt 37 n = 0) :
    ∃ zs, runF ps n 20 = some zs ∧ (∀ x ∈ zs, IsNum x) ∧ IsNum (n * 50653) ∧ (((n * 50653 : Nat) : Int) = (n : Int) * 50653) ∧ runF ps (n * 50653) 20 = some (zs.map (· * 50653)) ∧ zs.length ≤ 21 := by
  obtain ⟨zs, hx⟩ := run_light hps hli 20 n 6 [n] hn.smooth h6 (by decide)
  have hx : runF ps n 20 = some zs := hx
  have e : (50653 : Nat) = 37 ^ 3 := by decide
  refine ⟨zs, hx, (run_nums hps hn hx).1, ?_, by simp, ?_, (row_of hx).len.2⟩
  · rw [e]
    have hp := pL_pm 37 (by decide)
    refine ⟨Nat.mul_pos hn.1 (by decide), hn.smooth.mul (Smooth.pow (smooth_prime (by decide)) 3) |>.2, fun k hk => ?_⟩
    obtain ⟨r, hr, rfl⟩ := List.mem_map.mp hk
    show mlt r (n * 37 ^ 3) ≤ 400
    rw [mlt_mul (pL_pm r hr) hn.1 (by decide)]
    have a := h6 r hr
    have b : mlt r (37 ^ 3) ≤ 3 := by
      by_cases z : r = 37
      · subst z; rw [mlt_powSelf hp.1]; exact Nat.le_refl _
      · rw [mlt_powOther (pL_pm r hr) hp z]; omega
    omega
  · rw [e, spare_runF hps (by decide) hno (by decide) 20 hn hz, hx]; rfl
end Fr
namespace Fr
open PySem PySem.Spec PyProof.Rows L2 Mx
variable [TabL]
theorem e61 {K : PySem.W.Frag} : Except.ok (nD 50653) = if isRoomsD (rmD [0, 0, 0, 0, 0, 0, 0, 0, 0, 0, 0, 3]) then Except.ok (nD (made (decR (rmD [0, 0, 0, 0, 0, 0, 0, 0, 0, 0, 0, 3])))) else cE K "BadNumber" := by
  rw [isRoomsD_rm (by decide) (by decide), if_pos rfl, decR_rm, show made [0, 0, 0, 0, 0, 0, 0, 0, 0, 0, 0, 3] = 50653 by decide +kernel]
theorem lN_spare (zs : List Nat) : lN (zs.map (· * 50653)) = .list (zs.map fun x : Nat => PyData.int ((x : Int) * 50653)) := by
  show PyData.list _ = _
  rw [List.map_map]
  congr 1
end Fr
namespace Fr
open PySem PySem.Spec PyProof.Rows L2
def getD (es : List (Int × Dt)) (k : Int) : Option Dt := (es.find? fun e => decide (e.1 = k)).map (·.2)
def putD (es : List (Int × Dt)) (k : Int) (d : Dt) : List (Int × Dt) := if (es.any fun e => decide (e.1 = k)) = true then es.map (fun e => if e.1 = k then (e.1, d) else e) else es ++ [(k, d)]
theorem getD_any (k : Int) : ∀ es : List (Int × Dt), (es.any fun e => decide (e.1 = k)) = (getD es k).isSome
  | [] => rfl
  | e :: es => by
    unfold getD
    rw [List.any_cons, List.find?_cons]
    by_cases h : e.1 = k
    · simp [h]
    · have := getD_any k es
      unfold getD at this
      simp only [h, decide_false, Bool.false_or]
      exact this
theorem putD_new {es : List (Int × Dt)} {k : Int} {d : Dt} (h : getD es k = none) : putD es k d = es ++ [(k, d)] := by
  unfold putD
  rw [getD_any, h]; rfl
theorem DnD.get {K : PySem.W.Frag} {M : Hp} : ∀ {kvs : List (Key × V)} {es : List (Int × Dt)}, DnD K M kvs es → ∀ k : Int, (valV kvs (Sum.inl k) = none ∧ getD es k = none) ∨ ∃ v d, valV kvs (Sum.inl k) = some v ∧ getD es k = some d ∧ Dn K M v d
  | [], [], _, k => .inl ⟨rfl, rfl⟩
  | [], _ :: _, h, k => by have := h.1; cases this
  | _ :: _, [], h, k => by have := h.1; cases this
  | p :: kvs, e :: es, ⟨h1, h2⟩, k => by
    rw [List.map_cons, List.map_cons] at h1 h2
    obtain ⟨e1, e2⟩ := List.cons.inj h1
    cases h2 with
    | cons hv ht =>
      by_cases z : e.1 = k
      · exact .inr ⟨p.2, e.2, valV_pos (by rw [e1, z]), by unfold getD; rw [List.find?_cons]; simp [z], hv⟩
      · have z2 : ¬ p.1 = Sum.inl k := fun q => z (Sum.inl.inj (e1.symm.trans q))
        rcases DnD.get ⟨e2, ht⟩ k with ⟨a, b⟩ | ⟨v, d, a, b, c⟩
        · refine .inl ⟨by rw [valV_neg z2]; exact a, ?_⟩
          unfold getD at b ⊢
          rw [List.find?_cons]; simp only [z, decide_false]; exact b
        · refine .inr ⟨v, d, by rw [valV_neg z2]; exact a, ?_, c⟩
          unfold getD at b ⊢
          rw [List.find?_cons]; simp only [z, decide_false]; exact b
theorem DnD.isSome {K : PySem.W.Frag} {M : Hp} {kvs : List (Key × V)} {es : List (Int × Dt)} (h : DnD K M kvs es) (k : Int) : (valV kvs (Sum.inl k)).isSome = (getD es k).isSome := by
  rcases h.get k with ⟨a, b⟩ | ⟨v, d, a, b, _⟩ <;> rw [a, b] <;> rfl
theorem DnD.put {K : PySem.W.Frag} {M : Hp} {v : V} {d : Dt} (hd : Dn K M v d) : ∀ {kvs : List (Key × V)} {es : List (Int × Dt)}, DnD K M kvs es → ∀ k : Int, DnD K M (putK kvs (Sum.inl k) v) (putD es k d) := fun {kvs es} h k => by
  unfold putK putD
  have e : (kvs.any fun kv => decide (kv.1 = Sum.inl k)) = (es.any fun e => decide (e.1 = k)) := by rw [valV_any, getD_any, h.isSome k]
  rw [e]
  by_cases z : (es.any fun e => decide (e.1 = k)) = true
  · rw [if_pos z, if_pos z]
    clear z e
    induction kvs generalizing es with
    | nil =>
      cases es with
      | nil => exact h
      | cons e es => have := h.1; cases this
    | cons p kvs ih =>
      cases es with
      | nil => have := h.1; cases this
      | cons e es =>
        obtain ⟨h1, h2⟩ := h
        rw [List.map_cons, List.map_cons] at h1 h2
        obtain ⟨e1, e2⟩ := List.cons.inj h1
        cases h2 with
        | cons hv ht =>
          obtain ⟨i1, i2⟩ := ih ⟨e2, ht⟩
          by_cases z : e.1 = k
          · have z2 : p.1 = Sum.inl k := by rw [e1, z]
            refine ⟨?_, ?_⟩
            · rw [List.map_cons, List.map_cons, List.map_cons, List.map_cons, if_pos z, if_pos z2, i1, e1]
            · rw [List.map_cons, List.map_cons, List.map_cons, List.map_cons, if_pos z, if_pos z2]
              exact .cons hd i2
          · have z2 : ¬ p.1 = Sum.inl k := fun q => z (Sum.inl.inj (e1.symm.trans q))
            refine ⟨?_, ?_⟩
            · rw [List.map_cons, List.map_cons, List.map_cons, List.map_cons, if_neg z, if_neg z2, i1, e1]
            · rw [List.map_cons, List.map_cons, List.map_cons, List.map_cons, if_neg z, if_neg z2]
              exact .cons hv i2
  · rw [if_neg z, if_neg z]
    refine ⟨?_, ?_⟩
    · rw [List.map_append, List.map_append, h.1]; rfl
    · rw [List.map_append, List.map_append]
      exact h.2.app (.cons hd .nil)
theorem DnD.len {K : PySem.W.Frag} {M : Hp} {kvs : List (Key × V)} {es : List (Int × Dt)} (h : DnD K M kvs es) : kvs.length = es.length := by
  have := congrArg List.length h.1
  simpa using this
variable [TabL]
section
variable {K : PySem.W.Frag} {M0 H0 H : Hp} {σ : L2.St} {ρ : List Sl} {T : List (V × Dt)} {te tv : TE} {E : XK} {P : Out → Prop} {d : Dt}
theorem Sta.dic {i : Nat} {es : List (Int × Dt)} (h : Sta K M0 H0 σ H ρ T) (e : ρ[i]? = some (.dic es)) : ∃ a kvs M, σ[i]? = some (some (.ref a)) ∧ H a = some (.dK kvs) ∧ StM K M0 H0 σ H ρ T M ∧ DnD K M kvs es := by
  obtain ⟨M, st⟩ := h
  obtain ⟨v, e1, a, vs, rfl, n0, nM, hH, hd⟩ := st.slot i _ e
  exact ⟨a, vs, M, e1, hH, st, hd⟩
theorem dnD_nil {M : Hp} : DnD K M [] [] := ⟨rfl, .nil⟩
/-- found = {} -/
theorem wp_setD {i : Nat} (h : P (.nx (ρ.set i (.dic [])))) : Wp K E (tAsg tDNewK (gName i)) ρ P := fun M0 H0 T σ H D s f => by
  intro p hp
  obtain ⟨M, st⟩ := s
  exact f _ h _ _ (Sta.moveW i ⟨M, st.newW (c := .dic []) (o := .dK []) hp dnD_nil⟩)
/-- seen, here = {}, e -/
theorem wp_parDV {i j : Nat} (h2 : Ev K te (ρ.map Fr.hid) d) (hij : i ≠ j) (h : P (.nx ((ρ.set i (.dic [])).set j (.va d)))) :
    Wp K E (tPar i j (tCons tDNewK (tCons te tNil))) ρ P := fun M0 H0 T σ H D s f => by
  intro p hp
  obtain ⟨M, st⟩ := s
  have st1 := st.newW (c := .dic []) (o := .dK []) hp dnD_nil
  refine h2 M _ σ _ T _ ⟨M, st1.pop.less (less_hid ρ)⟩ fun w H2 s2 => ?_
  obtain ⟨M2, st2⟩ := s2
  have g : Sta K M0 H0 _ H2 _ ((w, d) :: T) := ⟨M2, st1.grow st2.bs st2.tmp⟩
  have a := (g.moveW i).set (i := j) (v := w) (d := d) mem1
  exact ⟨_, _, rfl, f _ h _ H2 (a.same_sub fun p hp => by simp [hp])⟩
theorem Sta.put1 {x : V × Dt} {v : V} (h : Sta K M0 H0 σ H ρ (x :: T)) (k : ∀ M : Hp, Dn K M v d) : Sta K M0 H0 σ H ρ ((v, d) :: T) := (h.add fun M _ => k M).same_sub fun p hp => by
  rcases List.mem_cons.mp hp with e | hp
  · subst e; simp
  · simp [hp]
/-- e in seen -/
theorem ev_din {i : Nat} {es : List (Int × Dt)} {k : Int} (hi : ρ[i]? = some (.dic es)) (he : Ev K te ρ (.int k)) : Ev K (tDIn te (tVar i)) ρ (.bool (getD es k).isSome) := fun M0 H0 σ H T Q s q => he M0 H0 σ H T _ s fun v H1 s1 => by
  obtain ⟨a, kvs, M, e1, hH, st, hd⟩ := s1.dic hi
  have ev : v = .int k := (st.at (v := v) (d := .int k) mem1).int_inv
  subst ev
  refine ⟨_, e1, a, valV kvs (Sum.inl k), rfl, DGet.k (k := Sum.inl k) hH, ?_⟩
  rw [hd.isSome k]
  exact q _ H1 (s1.put1 fun M => .bl _)
/-- seen[e] -/
theorem ev_dget {i : Nat} {es : List (Int × Dt)} {k : Int} (hi : ρ[i]? = some (.dic es)) (he : Ev K te ρ (.int k)) (hk : getD es k = some d) : Ev K (tDGet (tVar i) te) ρ d := fun M0 H0 σ H T Q s q => by
  obtain ⟨a, kvs, M, e1, hH, st, hd⟩ := s.dic hi
  refine ⟨_, e1, he M0 H0 σ H T _ s fun v H1 s1 => ?_⟩
  obtain ⟨a2, kvs2, M2, e2, hH2, st2, hd2⟩ := s1.dic hi
  rw [e1] at e2
  cases e2
  have ev : v = .int k := (st2.at (v := v) (d := .int k) mem1).int_inv
  subst ev
  rcases hd2.get k with ⟨_, b⟩ | ⟨w, d', a1, b, c⟩
  · rw [hk] at b; cases b
  · rw [hk] at b
    cases b
    refine ⟨a, w, rfl, (by rw [← a1]; exact DGet.k (k := Sum.inl k) hH2), q w H1 ⟨M2, ⟨st2.bs, st2.len, st2.slot, st2.dis, fun p hp => ?_⟩⟩⟩
    rcases List.mem_cons.mp hp with e | hp
    · subst e; exact c
    · exact st2.tmp p (by simp [hp])
/-- seen[e] = v -/
theorem wp_dput {i : Nat} {es : List (Int × Dt)} {k : Int} (hi : ρ[i]? = some (.dic es)) (hv : Ev K tv ρ d) (he : Ev K te ρ (.int k)) (hl : es.length ≤ 1000000) (h : P (.nx (ρ.set i (.dic (putD es k d))))) :
    Wp K E (sDPut (tVar i) te tv) ρ P := fun M0 H0 T σ H D s f => hv M0 H0 σ H T _ s fun v H1 s1 => by
  obtain ⟨a, kvs, M, e1, hH, st, hd⟩ := s1.dic hi
  refine ⟨_, e1, he M0 H0 σ H1 _ _ s1 fun w H2 s2 => ?_⟩
  obtain ⟨a2, kvs2, M2, e2, hH2, st2, hd2⟩ := s2.dic hi
  rw [e1] at e2
  cases e2
  have ew : w = .int k := (st2.at (v := w) (d := .int k) mem1).int_inv
  subst ew
  refine ⟨a, _, rfl, DPut.k (k := Sum.inl k) hH2 (by rw [hd2.len, sizeLine_eq]; omega), f _ h σ _ ⟨M2, (st2.updW (c1 := .dic _) (o1 := .dK _) hi e1 (hd2.put (st2.at (v := v) (d := d) (by simp)) k)).sub fun p hp => by simp [hp]⟩⟩
/-- sorted(found) -/
def rSortDI : List V → Hp → VK → Prop := fun xs H Q => ∃ (a : Addr) (kvs : List (Key × V)) (ks : List Int), xs = [.ref a] ∧ Rd H a (.dK kvs) ∧ kvs.map (·.1) = ks.map Sum.inl ∧ ks.length < 64 ∧
    ∀ (ys : List Int) (p : Addr), ys.Perm ks → ys.Pairwise (· ≤ ·) → H p = none → Q (.ref p) (upd H p (.lst (ys.map V.int)))
theorem cr_sortDI {X : Cx} (hc : X.calm = true) : CallR X (.builtin "sorted") rSortDI := call_sortedDI hc
theorem evn_sortD {i : Nat} {es : List (Int × Dt)} {zs : List Int} (hi : ρ[i]? = some (.dic es)) (h64 : es.length < 64) (hz : ∀ ys : List Int, ys.Perm (es.map (·.1)) → ys.Pairwise (· ≤ ·) → ys = zs) :
    EvN K (tCB rSortDI (tCons (tVar i) tNil)) ρ (zs.map PyData.int) := fun M0 H0 σ H T Q s q => by
  obtain ⟨a, kvs, M, e1, hH, st, hd⟩ := s.dic hi
  refine ⟨_, e1, a, kvs, es.map (·.1), rfl, .inl hH, by rw [hd.1, List.map_map]; rfl, by simpa using h64, fun ys p hp hs hn => ?_⟩
  obtain rfl := hz ys hp hs
  exact q p _ ⟨M, st.newO hn (DnA.of_ints (K := K) (M := M) ys)⟩
end
/-- each one once -/
def dist : List Int → List Int
  | [] => []
  | x :: xs => if x ∈ xs then dist xs else x :: dist xs
theorem dist_mem (k : Int) : ∀ xs : List Int, k ∈ dist xs ↔ k ∈ xs
  | [] => Iff.rfl
  | x :: xs => by
    unfold dist
    have := dist_mem k xs
    by_cases h : x ∈ xs
    · rw [if_pos h, this, List.mem_cons]
      constructor
      · exact .inr
      · rintro (e | e)
        · rw [e]; exact h
        · exact e
    · rw [if_neg h, List.mem_cons, List.mem_cons, this]
theorem dist_nodup : ∀ xs : List Int, (dist xs).Nodup
  | [] => .nil
  | x :: xs => by
    unfold dist
    by_cases h : x ∈ xs
    · rw [if_pos h]; exact dist_nodup xs
    · rw [if_neg h]
      exact List.nodup_cons.mpr ⟨fun q => h ((dist_mem x xs).mp q), dist_nodup xs⟩
theorem dist_le : ∀ xs : List Int, (dist xs).length ≤ xs.length
  | [] => Nat.le_refl _
  | x :: xs => by
    unfold dist
    have := dist_le xs
    split <;> simp <;> omega
theorem dist_eq : ∀ xs : List Int, (dist xs).length = xs.length ↔ xs.Nodup
  | [] => ⟨fun _ => .nil, fun _ => rfl⟩
  | x :: xs => by
    unfold dist
    have a := dist_le xs
    have b := dist_eq xs
    by_cases h : x ∈ xs
    · rw [if_pos h]
      constructor
      · intro q; simp at q; omega
      · intro q; exact absurd h (List.nodup_cons.mp q).1
    · rw [if_neg h, List.nodup_cons, List.length_cons, List.length_cons]
      constructor
      · intro q; exact ⟨h, b.mp (by omega)⟩
      · intro q; have := b.mpr q.2; omega
theorem nodup_le {α : Type} [DecidableEq α] : ∀ (xs ys : List α), xs.Nodup → (∀ k ∈ xs, k ∈ ys) → xs.length ≤ ys.length
  | [], _, _, _ => Nat.zero_le _
  | x :: xs, ys, hn, h => by
    obtain ⟨h1, h2⟩ := List.nodup_cons.mp hn
    have hx := h x (by simp)
    have := nodup_le xs (ys.erase x) h2 fun k hk => (List.mem_erase_of_ne fun e : k = x => h1 (e ▸ hk)).mpr (h k (by simp [hk]))
    rw [List.length_erase_of_mem hx] at this
    have := List.length_pos_of_mem hx
    simp only [List.length_cons]
    omega
theorem nodup_len {xs ys : List Int} (h1 : xs.Nodup) (h2 : ys.Nodup) (h : ∀ k, k ∈ xs ↔ k ∈ ys) : xs.length = ys.length :=
  Nat.le_antisymm (nodup_le xs ys h1 fun k hk => (h k).mp hk) (nodup_le ys xs h2 fun k hk => (h k).mpr hk)
/-- len(set(t)) -/
def tLenSetT (K : PySem.W.Frag) (ta : TE) : TE := fun σ H Q => ta σ H fun x H1 => ∃ (l : Addr) (ns : List Int), x = .ref l ∧ SqT K H1 l (ns.map V.int) ∧ ns.length ≤ 1000 ∧ Q (.int ((dist ns).length : Nat)) H1
theorem pe_lenSetT {X : Cx} {K : PySem.W.Frag} {a : Expr} {ta : TE} {p p2 q pos : Pos} (hK : X.K = K) (hg : Gl X "len") (hm : X.mg "len" = none) (hg2 : Gl X "set") (hm2 : X.mg "set" = none) (ha : PE X a ta) (hc : X.calm = true := by rfl)
    (na : starEach [a] X.env = (false, eval a X.env) :: starEach [] X.env := by rfl) : PE X (.Call (.Name "len" p) [.Call (.Name "set" p2) [a] [] q] [] pos) (tLenSetT K ta) := by
  subst hK
  refine ⟨fun pins s σ H Q I h => ?_⟩
  refine Call_ (ld_blt I hg hm boot_len ?_)
  refine PyProof.Rows.callWith_builtin1 (PyProof.Rows.args_cons ?_ rfl) rfl rfl
  refine Call_ (ld_blt I hg2 hm2 boot_set ?_)
  refine PyProof.Rows.callWith_type1 (PyProof.Rows.args_cons (thn (ha.run pins s σ H _ I h) fun v s1 ⟨x, H1, I1, r1, q1⟩ => PyProof.Rows.args_nil ?_) na) na rfl
  obtain ⟨l, ns, rfl, hq, hl, q1⟩ := q1
  cases r1
  obtain ⟨its, r, pl, hz⟩ := I1.tuple hq
  refine call_set_tupI ns (I1.ok.hd hc) (show s1.heap.IsTuple l its.toArray from pl) (by simpa using intsAre_of r) (by unfold scanBound; omega) fun h' tk c R1 hcn k => ?_
  refine PyProof.Rows.args_nil ?_
  obtain ⟨o, es, ep, t, ho, hex, hdt, g, nd, hm2, hb, hf, hn, hr, hl2⟩ := R1
  have I2 : Inv X pins σ H1 { s1 with heap := h', toks := tk } := I1.kept fun b o e => k b o e
  have e : es.size = (dist ns).length := by
    have := nodup_len nd (dist_nodup ns) fun k => by rw [← hm2 k, dist_mem, decide_eq_true_eq]
    simpa using this
  exact call_len_set ho hex hdt hf (by rw [hn]; omega) ⟨.int (dist ns).length, H1, I2.tok _, ⟨_, by rw [e]⟩, q1⟩
theorem ev_lenSetT {K : PySem.W.Frag} {ρ : List Sl} {te : TE} {ns : List Int} (h : Ev K te ρ (.tuple (ns.map PyData.int))) (hl : ns.length ≤ 1000) : Ev K (tLenSetT K te) ρ (.int ((dist ns).length : Nat)) := fun M0 H0 σ H T Q s q => h M0 H0 σ H T _ s fun v H1 s1 => by
  obtain ⟨M, st⟩ := id s1
  obtain ⟨a, vs, rfl, h1, h2⟩ := (st.at mem1).tup_inv
  have ev : vs = ns.map V.int := h2.ints
  subst ev
  exact ⟨a, ns, rfl, sqT_mono st.bs.mh h1, hl, q _ H1 (s1.put1 fun M => .int _)⟩
end Fr
namespace Fr
open PySem PySem.Spec PyProof.Rows L2 RZ
abbrev zm1T (h : Heap) (l1 : Addr) : Heap := h.push { cls := .type "tuple_iterator", data := .fields #[.ref l1, .int 0 0] }
abbrev zm2T (h : Heap) (l1 l2 : Addr) : Heap := (zm1T h l1).push { cls := .type "list_iterator", data := .fields #[.ref l2, .int 0 0] }
abbrev zm3T (h : Heap) (l1 l2 : Addr) : Heap := (zm2T h l1 l2).push { cls := .type "tuple", data := .seq #[.ref h.objs.size, .ref (zm1T h l1).objs.size] }
abbrev zm4T (h : Heap) (l1 l2 : Addr) : Heap := (zm3T h l1 l2).push { cls := .type "tuple", data := .seq #[.none, .none] }
abbrev zm5T (h : Heap) (l1 l2 : Addr) : Heap := (zm4T h l1 l2).push { cls := .type "zip", data := .fields #[.none, .bool false, .bool false, .ref (zm2T h l1 l2).objs.size, .ref (zm3T h l1 l2).objs.size] }
theorem meets_zipMT (l1 l2 : Addr) (xs ys : Array Value) :
    Meets (Builtin.«zip.__new__» ⟨[.type "zip", .ref l1, .ref l2], []⟩) (fun _ R s => s.heap.IsTuple l1 xs ∧ s.heap.IsList l2 ys ∧ R (.ok (.ret (.ref (zm4T s.heap l1 l2).objs.size))) { s with heap := zm5T s.heap l1 l2 }) :=
  .of_wp fun prog w A R s h => by
    obtain ⟨hp, g, d, tk, os⟩ := s; obtain ⟨k1, k2, h⟩ := h
    have hsub := sub_zip; have m1 : Heap.IsTuple (Shared.heap ⟨hp, g, d, tk, os⟩) l1 xs := k1
    have m2 : Heap.IsList (Shared.heap ⟨hp.push { cls := .type "tuple_iterator", data := .fields #[.ref l1, .int 0 0] }, g, d, tk, os⟩) l2 ys := Heap.IsList.push k2 _
    wp_walk using wpAny_pyIter_tuple m1, wpAny_pyIter_list m2
    exact ⟨_, rfl, h⟩
section
variable {prog : Program} {w : World} {A : Around} {E : Value → Shared → Prop} {s : Shared}
theorem call_zipMT {l1 l2 : Addr} {xs ys : Array Value} {Q : Value → Shared → Prop} (k1 : s.heap.IsTuple l1 xs) (k2 : s.heap.IsList l2 ys)
    (h : ∀ h', IsZip h' (s.heap.objs.size + 4) (s.heap.objs.size + 2) (s.heap.objs.size + 3) .none → IsTupOf2 h' (s.heap.objs.size + 2) (.ref s.heap.objs.size) (.ref (s.heap.objs.size + 1)) →
      IsTupOf2 h' (s.heap.objs.size + 3) .none .none → h'.IsTupleIter s.heap.objs.size l1 0 → h'.IsListIter (s.heap.objs.size + 1) l2 0 → h'.objs.size = s.heap.objs.size + 5 →
      (∀ c o, s.heap.get? c = some o → h'.get? c = some o) → Q (.ref (s.heap.objs.size + 4)) { s with heap := h' }) : wpAny (model prog w) A (call (.type "zip") [.ref l1, .ref l2]) Q E s := by
  refine callType_new F.called_zip (by decide) (F.typeCall_zip_2 _ _) (F.newCall_zip_2 _ _) (fun obj => F.args_object_init_3 obj _ _) F.entry_zip_new (meets_zipMT l1 l2 xs ys) ⟨k1, k2, ?_⟩
  have z1 : (zm1T s.heap l1).objs.size = s.heap.objs.size + 1 := Heap.size_push ..
  have z2 : (zm2T s.heap l1 l2).objs.size = s.heap.objs.size + 2 := by rw [Heap.size_push, z1]
  have z3 : (zm3T s.heap l1 l2).objs.size = s.heap.objs.size + 3 := by rw [Heap.size_push, z2]
  have z4 : (zm4T s.heap l1 l2).objs.size = s.heap.objs.size + 4 := by rw [Heap.size_push, z3]
  have z5 : (zm5T s.heap l1 l2).objs.size = s.heap.objs.size + 5 := by rw [Heap.size_push, z4]
  have g5 : (zm5T s.heap l1 l2).get? (zm4T s.heap l1 l2).objs.size = some _ := Heap.get?_push_size _ rfl
  have g4 : (zm5T s.heap l1 l2).get? (zm3T s.heap l1 l2).objs.size = some _ := Heap.get?_push_of_some _ (Heap.get?_push_size _ rfl)
  have g3 : (zm5T s.heap l1 l2).get? (zm2T s.heap l1 l2).objs.size = some _ := Heap.get?_push_of_some _ (Heap.get?_push_of_some _ (Heap.get?_push_size _ rfl))
  have g2 : (zm5T s.heap l1 l2).get? (zm1T s.heap l1).objs.size = some _ := Heap.get?_push_of_some _ (Heap.get?_push_of_some _ (Heap.get?_push_of_some _ (Heap.get?_push_size _ rfl)))
  have g1 : (zm5T s.heap l1 l2).get? s.heap.objs.size = some _ := Heap.get?_push_of_some _ (Heap.get?_push_of_some _ (Heap.get?_push_of_some _ (Heap.get?_push_of_some _ (Heap.get?_push_size _ rfl))))
  show _ ∧ _
  rw [z2, z3, z4] at g5; rw [z1, z2] at g3; rw [z3] at g4; rw [z1] at g2; rw [z4]
  exact ⟨⟨_, g5, rfl⟩, h _ g5 g3 g4 ⟨_, g1, rfl, rfl⟩ ⟨_, g2, rfl, rfl⟩ z5 fun c o x => Heap.get?_push_of_some _ (Heap.get?_push_of_some _ (Heap.get?_push_of_some _ (Heap.get?_push_of_some _ (Heap.get?_push_of_some _ x))))⟩
end
/-- the tuple at a, the list at b -/
def ItzMT (K : PySem.W.Frag) (a b : Addr) : It :=
  ⟨fun i H => ∃ (xs ys : List V) (x y : V), SqT K H a xs ∧ SqL K H b ys ∧ xs[i]? = some x ∧ ys[i]? = some y,
    fun i H v H' => ∃ T x y, v = .ref T ∧ H T = none ∧ H' = upd H T (.tup [x, y]) ∧ (∀ xs, SqT K H a xs → xs[i]? = some x) ∧ ∀ ys, SqL K H b ys → ys[i]? = some y,
    fun i H => ∃ xs ys : List V, SqT K H a xs ∧ SqL K H b ys ∧ i ≤ xs.length ∧ i ≤ ys.length ∧ (xs.length = i ∨ ys.length = i)⟩
theorem turn_zipMT {P : Program} {w : World} {K : PySem.W.Frag} {elts : List Expr} {kk : Nat} {tpos : Pos} {a b z TI TO i1 i2 : Addr} (D : ZipSep2 z TI TO i1 i2 [i1, a] [i2, b]) :
    L2.Turn P w K (.Tuple elts kk tpos) (ItzMT K a b) [z, TI, TO, i1, i2] z (fun i h => IsZip h z TI TO .none ∧ IsTupOf2 h TI (.ref i1) (.ref i2) ∧ (∃ x y, IsTupOf2 h TO x y) ∧ h.IsTupleIter i1 a i ∧ h.IsListIter i2 b i) where
  mem := by simp
  obj := fun i h ⟨hz, hTI, ⟨x, y, hTO⟩, ⟨o1, e1, _, d1⟩, ⟨o2, e2, _, d2⟩⟩ c hc => by
    simp only [List.mem_cons, List.not_mem_nil, or_false] at hc
    rcases hc with q | q | q | q | q <;> rw [q]
    · exact ⟨_, hz, fun v q => nomatch q⟩
    · exact ⟨_, hTI, fun v q => nomatch q⟩
    · exact ⟨_, hTO, fun v q => nomatch q⟩
    · exact ⟨o1, e1, fun v q => by rw [d1] at q; cases q⟩
    · exact ⟨o2, e2, fun v q => by rw [d2] at q; cases q⟩
  keep := fun i h h' ⟨hz, hTI, ⟨x, y, hTO⟩, h1, h2⟩ k => ⟨k z (by simp) _ hz, k TI (by simp) _ hTI, ⟨x, y, k TO (by simp) _ hTO⟩, h1.at fun o q => k i1 (by simp) o q, h2.at fun o q => k i2 (by simp) o q⟩
  item := by
    intro X hP hw hK hc i pins s σ H E I hf st hg; subst hP hw hK
    obtain ⟨hz, hTI, ⟨x0, y0, hTO⟩, h1, h2⟩ := st; obtain ⟨xs, ys, x, y, hqx, hqy, hx, hy⟩ := hg
    obtain ⟨its, rv, p, _⟩ := I.tuple hqx; obtain ⟨its2, rv2, p2, _⟩ := I.list hqy
    obtain ⟨u, hu, ru⟩ := rv.get hx; obtain ⟨u2, hu2, ru2⟩ := rv2.get hy
    have hzl : z < s.heap.objs.size := Heap.lt_size hz
    have n1 : a ≠ i1 := fun e => by
      obtain ⟨o, e1, c1, d1⟩ := h1; obtain ⟨o', e2, c2, _⟩ := (show s.heap.IsTuple a its.toArray from p); rw [e, e1] at e2; cases e2; rw [c1] at c2; exact absurd (Value.type.inj c2) (by decide)
    have n2 : b ≠ i2 := fun e => by
      obtain ⟨o, e1, c1, d1⟩ := h2; obtain ⟨o', e2, c2, _⟩ := p2.isList; rw [e, e1] at e2; cases e2; rw [c1] at c2; exact absurd (Value.type.inj c2) (by decide)
    have hd : X.A.in1.handled = none := I.ok.hd hc
    refine wpAny_pyNext_zipD2_item D (Draws.tuple hd i1 a n1 its.toArray) (Draws.list hd i2 b n2 its2.toArray) hz hTI hTO ⟨h1, p⟩ ⟨h2, p2.isList⟩ (by simp; exact (List.getElem?_eq_some_iff.mp hu).1) (by simp; exact (List.getElem?_eq_some_iff.mp hu2).1) fun v1 v2 h' tk y1 y2 z' TO' st1' st2' hT hsz hk => ?_
    have ev1 : v1 = u := by simp at y1; rw [hu] at y1; exact (Option.some.inj y1).symm
    have ev2 : v2 = u2 := by simp at y2; rw [hu2] at y2; exact (Option.some.inj y2).symm
    subst ev1 ev2
    refine ⟨_, rfl, wpAny_letOwnedTupleGo_zip (s := { s with heap := h', toks := tk }) z' fun h'' z'' sb => ?_⟩
    have hT2 : h''.get? s.heap.objs.size = some { cls := .type "tuple", data := .seq #[v1, v2] } := (sb.2 _ (Nat.ne_of_gt hzl)).trans hT
    have new : ObjOk X.prog X.w (upd H s.heap.objs.size (.tup [x, y])) h'' s.heap.objs.size (.tup [x, y]) := ⟨by show 2 ≤ sizeLine; decide, [v1, v2], .cons ru (.cons ru2 .nil), ⟨_, hT2, rfl, _, rfl⟩⟩
    have I1 : Inv X pins σ (upd H s.heap.objs.size (.tup [x, y])) { s with heap := h'', toks := tk } :=
      I.turnedNew (t' := tk) (ch := [z, TI, TO, i1, i2]) (fun c o hb q => (sb.2 c (fun q' => hb (by simp [q']))).trans (hk c o (fun q' => hb (by simp [q'])) (fun q' => hb (by simp [q'])) (fun q' => hb (by simp [q'])) (fun q' => hb (by simp [q'])) q)) hf (Nat.le_refl _) new
    refine ⟨.ref s.heap.objs.size, _, I1, rfl, ⟨_, x, y, rfl, I.hok.fresh (Nat.le_refl _), rfl, fun l hl => by rw [I.tuple_inj hl hqx]; exact hx, fun l hl => by rw [I.list_inj hl hqy]; exact hy⟩, ⟨z'', ?_, ⟨v1, v2, ?_⟩, ?_, ?_⟩, fun c hcm => ?_⟩
    · exact (sb.2 _ D.TIz).trans (hk _ _ D.TIz D.TITO D.TIi1 D.TIi2 hTI)
    · exact (sb.2 _ D.TOz).trans TO'
    · exact st1'.1.at fun o q => (sb.2 _ (Ne.symm D.zi1)).trans q
    · exact st2'.1.at fun o q => (sb.2 _ (Ne.symm D.zi2)).trans q
    · have hlt : c < s.heap.objs.size := by
        simp only [List.mem_cons, List.not_mem_nil, or_false] at hcm
        rcases hcm with q | q | q | q | q <;> rw [q]
        · exact hzl
        · exact Heap.lt_size hTI
        · exact Heap.lt_size hTO
        · obtain ⟨_, e1, _⟩ := h1; exact Heap.lt_size e1
        · obtain ⟨_, e2, _⟩ := h2; exact Heap.lt_size e2
      rw [upd_ne (Nat.ne_of_lt hlt)]
      exact (hf c hcm).1
  done := by
    intro X hP hw hK hc i pins s σ H E I hf st hg; subst hP hw hK
    obtain ⟨hz, hTI, ⟨x0, y0, hTO⟩, h1, h2⟩ := st; obtain ⟨xs, ys, hqx, hqy, b1, b2, hend⟩ := hg
    obtain ⟨its, rv, p, _⟩ := I.tuple hqx; obtain ⟨its2, rv2, p2, _⟩ := I.list hqy
    have l1 := rv.length; have l2 := rv2.length
    have n1 : a ≠ i1 := fun e => by
      obtain ⟨o, e1, c1, d1⟩ := h1; obtain ⟨o', e2, c2, _⟩ := (show s.heap.IsTuple a its.toArray from p); rw [e, e1] at e2; cases e2; rw [c1] at c2; exact absurd (Value.type.inj c2) (by decide)
    have n2 : b ≠ i2 := fun e => by
      obtain ⟨o, e1, c1, d1⟩ := h2; obtain ⟨o', e2, c2, _⟩ := p2.isList; rw [e, e1] at e2; cases e2; rw [c1] at c2; exact absurd (Value.type.inj c2) (by decide)
    have hd : X.A.in1.handled = none := I.ok.hd hc
    exact wpAny_pyNext_zipD2_end D (Draws.tuple hd i1 a n1 its.toArray) (Draws.list hd i2 b n2 its2.toArray) hz hTI hTO ⟨h1, p⟩ ⟨h2, p2.isList⟩ (by simp; omega) (by simp; omega) (by simp; omega) fun h' tk hk => ⟨rfl, I.turnedL (t' := tk) (ch := [z, TI, TO, i1, i2]) (fun c o hb q =>
      hk c o (fun q' => hb (by simp [q'])) (fun q' => hb (by simp [q'])) (fun q' => hb (by simp [q'])) (fun q' => hb (by simp [q'])) q) hf⟩
  self := fun A i s Q E st h => wpAny_pyIter_zip st.1 h
def iZipMT (K : PySem.W.Frag) (ta : TA) : TI := fun σ H R => ta σ H fun vs H1 => ∃ a b xs ys, vs = [.ref a, .ref b] ∧ SqT K H1 a xs ∧ SqL K H1 b ys ∧ R (ItzMT K a b) H1
theorem pi_zipMT {X : Cx} {e e2 : Expr} {ta : TA} {p pos tpos : Pos} {elts : List Expr} {kk : Nat} (hg : Gl X "zip") (hm : X.mg "zip" = none) (ha : PA X [e, e2] ta)
    (hs : starEach [e, e2] X.env = (false, eval e X.env) :: starEach [e2] X.env := by rfl) (hpl : (backTo pos (starEach [e2] X.env)).any (·.1) = false := by rfl) : PI X (.Tuple elts kk tpos) (.Call (.Name "zip" p) [e, e2] [] pos) (iZipMT X.K ta) := by
  refine ⟨fun pins s σ H R I h => ?_⟩
  refine Call_ (ld_blt I hg hm PyProof.Rows.boot_zip (PyProof.Rows.callWith_type1 (thn (ha.run pos pins s σ H _ I h) fun us s1 ⟨vs, H1, I1, r1, q1⟩ => ?_) hs hpl)); obtain ⟨a, b, xs, ys, ex, hqx, hqy, q⟩ := q1; subst ex
  have eu := vals_ref2 r1; subst eu
  obtain ⟨its, rv, p1, _⟩ := I1.tuple hqx; obtain ⟨its2, rv2, p2, _⟩ := I1.list hqy; obtain ⟨o2, ho2, _⟩ := id p1
  have fresh : ∀ c, c ∈ [s1.heap.objs.size + 4, s1.heap.objs.size + 2, s1.heap.objs.size + 3, s1.heap.objs.size, s1.heap.objs.size + 1] → FpOk X pins H1 c := fun c hcm => by
    have hle : s1.heap.objs.size ≤ c := by
      simp only [List.mem_cons, List.not_mem_nil, or_false] at hcm
      have up : ∀ k : Nat, s1.heap.objs.size ≤ s1.heap.objs.size + k := fun k => Nat.le_add_right _ _
      rcases hcm with z | z | z | z | z
      · exact z ▸ up 4
      · exact z ▸ up 2
      · exact z ▸ up 3
      · exact z ▸ Nat.le_refl _
      · exact z ▸ up 1
    exact I1.fpOk hle (I1.hok.fresh hle)
  refine call_zipMT (show s1.heap.IsTuple a its.toArray from p1) p2.isList fun h' hz hTI hTO h1 h2 hsz hk => wpAny_pyIter_zip hz ?_
  exact ⟨s1.heap.objs.size + 4, [s1.heap.objs.size + 4, s1.heap.objs.size + 2, s1.heap.objs.size + 3, s1.heap.objs.size, s1.heap.objs.size + 1], _, _, H1, rfl, I1.kept (t' := s1.toks) hk, turn_zipMT (zip_sep s1.heap.objs.size a b (Heap.lt_size ho2) p2.lt), ⟨hz, hTI, ⟨_, _, hTO⟩, h1, h2⟩, fresh, q⟩
section
variable [TabL] {K : PySem.W.Frag} {ρ : List Sl} {te tb : TE}
theorem it_zipMT {a b : Addr} {ds es : List Dt} : ItOk K (ItzMT K a b) [(.ref a, .tuple ds), (.ref b, .list es)] (zipD ds es) where
  go := fun M0 H0 σ H ρ T i d s e => by
    obtain ⟨M, st⟩ := id s
    obtain ⟨a', vs, ea, h1, h2⟩ := (st.at (d := .tuple ds) mem1).tup_inv
    obtain ⟨b', ws, eb, j1, j2⟩ := (st.at (d := .list es) mem2).lst_inv
    cases ea
    cases eb
    obtain ⟨d1, d2, e1, e2, rfl⟩ := zipD_get e
    obtain ⟨v, ev, hv⟩ := h2.get e1
    obtain ⟨w, ew, hw⟩ := j2.get e2
    have q1 : SqT K H a vs := sqT_mono st.bs.mh h1
    have q2 : SqL K H b ws := SqL.of (st.bs.mh _ _ j1)
    refine ⟨⟨vs, ws, v, w, q1, q2, ev, ew⟩, fun x H' y => ?_⟩
    obtain ⟨p, x1, x2, rfl, n, rfl, k1, k2⟩ := y
    rw [Option.some.inj ((k1 vs q1).symm.trans ev), Option.some.inj ((k2 ws q2).symm.trans ew)]
    exact Sta.pair st n hv hw
  stop := fun M0 H0 σ H ρ T i s l => by
    obtain ⟨M, st⟩ := id s
    obtain ⟨a', vs, ea, h1, h2⟩ := (st.at (d := .tuple ds) mem1).tup_inv
    obtain ⟨b', ws, eb, j1, j2⟩ := (st.at (d := .list es) mem2).lst_inv
    cases ea
    cases eb
    have l1 := h2.len
    have l2 := j2.len
    simp [zipD] at l
    exact ⟨vs, ws, sqT_mono st.bs.mh h1, SqL.of (st.bs.mh _ _ j1), by omega, by omega, by omega⟩
theorem ei_zipMT {ds es : List Dt} (h : Ev K te ρ (.tuple ds)) (h' : Ev K tb ρ (.list es)) : EvI K (iZipMT K (tCons te (tCons tb tNil))) ρ (zipD ds es) := fun M0 H0 σ H T R s q =>
  h M0 H0 σ H T _ s fun v H1 s1 => h' M0 H0 σ H1 _ _ s1 fun w H2 s2 => by
    obtain ⟨M, st⟩ := id s2
    obtain ⟨a, vs, rfl, h1, h2⟩ := (st.at (d := .tuple ds) mem2).tup_inv
    obtain ⟨b, ws, rfl, j1, j2⟩ := (st.at (d := .list es) mem1).lst_inv
    exact ⟨a, b, vs, ws, rfl, sqT_mono st.bs.mh h1, SqL.of (st.bs.mh _ _ j1), q _ H2 [(.ref a, .tuple ds), (.ref b, .list es)] (s2.same_sub fun p hp => by simp at hp; rcases hp with rfl | rfl | hp <;> simp [*]) it_zipMT⟩
theorem ei_zipMMT {α β : Type} {f : α → Dt} {g : β → Dt} {xs : List α} {ys : List β} (h : Ev K te ρ (.tuple (xs.map f))) (h' : Ev K tb ρ (.list (ys.map g))) : EvI K (iZipMT K (tCons te (tCons tb tNil))) ρ ((xs.zip ys).map fun p => PyData.tuple [f p.1, g p.2]) := zipD_map ▸ ei_zipMT h h'
theorem pi_zipMKT {X : Cx} {K : PySem.W.Frag} {e e2 : Expr} {ta : TA} {p pos tpos : Pos} {elts : List Expr} {kk : Nat} (h : X.K = K) (hg : Gl X "zip") (hm : X.mg "zip" = none) (ha : PA X [e, e2] ta)
    (hs : starEach [e, e2] X.env = (false, eval e X.env) :: starEach [e2] X.env := by rfl) (hpl : (backTo pos (starEach [e2] X.env)).any (·.1) = false := by rfl) : PI X (.Tuple elts kk tpos) (.Call (.Name "zip" p) [e, e2] [] pos) (iZipMT K ta) := h ▸ pi_zipMT hg hm ha hs hpl
end
end Fr

namespace Fr
open PySem PySem.Spec PyProof.Rows L2 Mx
variable [TabL]
/-! rings -/
inductive Rg where
  | great
  | none
  | at (a b : Nat)
def ringGo (ps : List (Nat × Nat)) (most : Nat) : Nat → List Nat → Nat → Rg
  | 0, _, _ => .none
  | f + 1, xs, here => if here ∈ xs then .at (xs.idxOf here) xs.length else match ledF ps here with
    | none => .none
    | some l => if xs.length < most ∧ tooB l = true then .great else ringGo ps most f (xs ++ [here]) l
def seenD (xs : List Nat) : List (Int × Dt) := xs.zipIdx.map fun p => ((p.1 : Int), nD p.2)
theorem seenD_snoc (xs : List Nat) (h : Nat) : seenD (xs ++ [h]) = seenD xs ++ [((h : Int), nD xs.length)] := by
  unfold seenD
  rw [List.zipIdx_append, List.map_append]
  simp
theorem seenD_get : ∀ (xs : List Nat) (h k : Nat), getD ((xs.zipIdx k).map fun p => ((p.1 : Int), nD p.2)) (h : Int) = if h ∈ xs then some (nD (k + xs.idxOf h)) else none
  | [], h, k => rfl
  | x :: xs, h, k => by
    unfold getD
    rw [List.zipIdx_cons, List.map_cons, List.find?_cons]
    by_cases e : x = h
    · subst e
      simp
    · have e2 : ¬ (x : Int) = (h : Int) := fun z => e (Int.ofNat.inj z)
      have ih := seenD_get xs h (k + 1)
      unfold getD at ih
      simp only [e2, decide_false]
      rw [ih]
      have e3 : ¬ h = x := fun z => e z.symm
      by_cases hm : h ∈ xs
      · have hm2 : h ∈ x :: xs := by simp [hm]
        rw [if_pos hm, if_pos hm2, List.idxOf_cons]
        have : (x == h) = false := beq_eq_false_iff_ne.mpr e
        rw [this]
        simp only [cond_false]
        congr 2
        omega
      · have hm2 : ¬ h ∈ x :: xs := by simp [hm, e3]
        rw [if_neg hm, if_neg hm2]
theorem seen_in {xs : List Nat} {h : Nat} (m : h ∈ xs) : getD (seenD xs) (h : Int) = some (nD (xs.idxOf h)) := by
  have := seenD_get xs h 0
  rw [if_pos m, Nat.zero_add] at this
  exact this
theorem seen_out {xs : List Nat} {h : Nat} (m : ¬ h ∈ xs) : getD (seenD xs) (h : Int) = none := by
  have := seenD_get xs h 0
  rw [if_neg m] at this
  exact this
theorem seen_is (xs : List Nat) (h : Nat) : (getD (seenD xs) (h : Int)).isSome = decide (h ∈ xs) := by
  by_cases m : h ∈ xs
  · rw [seen_in m]; simp [m]
  · rw [seen_out m]; simp [m]
section
variable {K : PySem.W.Frag}
def rgE (K : PySem.W.Frag) : Rg → Except Value Dt
  | .great => cE K "TooGreat"
  | .none => .ok .none
  | .at a b => .ok (prD (a, b))
def ringE (K : PySem.W.Frag) (ps : List (Nat × Nat)) (n : Nat) (f : Dt) : Except Value Dt := if isCount f 0 500 then rgE K (ringGo ps (decN f) (decN f + 1) [] n) else cE K "BadNumber"
theorem ringE_on {ps : List (Nat × Nat)} {n m : Nat} (hm : m ≤ 500) : ringE K ps n (nD m) = rgE K (ringGo ps m (m + 1) [] n) := by
  unfold ringE
  rw [isCount_nD (by omega), if_pos rfl, decN_nD]
theorem ringE_not {ps : List (Nat × Nat)} {n : Nat} {f : Dt} (h : isCount f 0 500 = false) : ringE K ps n f = cE K "BadNumber" := by
  unfold ringE
  rw [h]; rfl
theorem rg_in {ps : List (Nat × Nat)} {most f here : Nat} {xs : List Nat} (m : here ∈ xs) : ringGo ps most (f + 1) xs here = .at (xs.idxOf here) xs.length := by
  unfold ringGo
  rw [if_pos m]
theorem rg_end {ps : List (Nat × Nat)} {most f here : Nat} {xs : List Nat} (m : ¬ here ∈ xs) (e : ledF ps here = none) : ringGo ps most (f + 1) xs here = .none := by
  unfold ringGo
  rw [if_neg m, e]
theorem rg_big {ps : List (Nat × Nat)} {most f here l : Nat} {xs : List Nat} (m : ¬ here ∈ xs) (e : ledF ps here = some l) (h : xs.length < most) (t : tooB l = true) : ringGo ps most (f + 1) xs here = .great := by
  unfold ringGo
  rw [if_neg m, e]
  show (if _ then Rg.great else _) = _
  rw [if_pos ⟨h, t⟩]
theorem rg_go {ps : List (Nat × Nat)} {most f here l : Nat} {xs : List Nat} (m : ¬ here ∈ xs) (e : ledF ps here = some l) (h : ¬ (xs.length < most ∧ tooB l = true)) : ringGo ps most (f + 1) xs here = ringGo ps most f (xs ++ [here]) l := by
  conv => lhs; unfold ringGo
  rw [if_neg m, e]
  show (if _ then Rg.great else _) = _
  rw [if_neg h]
/-! greatest rooms -/
def zmax (a b : List Nat) : List Nat := (a.zip b).map fun p => max p.1 p.2
def bestGo (ps : List (Nat × Nat)) : Nat → List Nat → Nat → Option (List Nat)
  | 0, best, _ => some best
  | f + 1, best, here => match ledF ps here with
    | none => some best
    | some l => if tooB l then none else bestGo ps f (zmax best (rooms l)) l
def bgE (K : PySem.W.Frag) : Option (List Nat) → Except Value Dt
  | none => cE K "TooGreat"
  | some rs => .ok (rmD rs)
def bestE (K : PySem.W.Frag) (ps : List (Nat × Nat)) (n : Nat) (f : Dt) : Except Value Dt := if isCount f 0 500 then bgE K (bestGo ps (decN f) (rooms n) n) else cE K "BadNumber"
theorem bestE_on {ps : List (Nat × Nat)} {n m : Nat} (hm : m ≤ 500) : bestE K ps n (nD m) = bgE K (bestGo ps m (rooms n) n) := by
  unfold bestE
  rw [isCount_nD (by omega), if_pos rfl, decN_nD]
theorem bestE_not {ps : List (Nat × Nat)} {n : Nat} {f : Dt} (h : isCount f 0 500 = false) : bestE K ps n f = cE K "BadNumber" := by
  unfold bestE
  rw [h]; rfl
theorem bg_end {ps : List (Nat × Nat)} {f here : Nat} {best : List Nat} (e : ledF ps here = none) : bestGo ps f best here = some best := by
  cases f with
  | zero => rfl
  | succ f => unfold bestGo; rw [e]
theorem bg_big {ps : List (Nat × Nat)} {f here l : Nat} {best : List Nat} (e : ledF ps here = some l) (t : tooB l = true) : bestGo ps (f + 1) best here = none := by
  unfold bestGo
  rw [e]
  show (if tooB l = true then _ else _) = _
  rw [if_pos t]
theorem bg_go {ps : List (Nat × Nat)} {f here l : Nat} {best : List Nat} (e : ledF ps here = some l) (t : tooB l = false) : bestGo ps (f + 1) best here = bestGo ps f (zmax best (rooms l)) l := by
  conv => lhs; unfold bestGo
  rw [e]
  show (if tooB l = true then _ else _) = _
  rw [t]; rfl
theorem zmax_len {a b : List Nat} (ha : a.length = 12) (hb : b.length = 12) : (zmax a b).length = 12 := by
  unfold zmax
  rw [List.length_map, List.length_zip, ha, hb]; rfl
/-! used rooms -/
def usedF (ps : List (Nat × Nat)) : List Nat := (List.range 12).filter fun z => ps.any fun p => decide (0 < (rooms (p.1 * p.2)).getD z 0)
/-- keys met so far: what is before, then the rooms of one number below i -/
structure Us (ps : List (Nat × Nat)) (m i : Nat) (x : Nat) (es : List (Int × Dt)) : Prop where
  nd : (es.map (·.1)).Nodup
  mem : ∀ k, k ∈ es.map (·.1) ↔ ∃ z : Nat, k = (z : Int) ∧ z < 12 ∧ ((∃ p ∈ ps.take m, 0 < (rooms (p.1 * p.2)).getD z 0) ∨ (z < i ∧ 0 < (rooms x).getD z 0))
theorem us_0 (ps : List (Nat × Nat)) (x : Nat) : Us ps 0 0 x [] := ⟨.nil, fun k => by simp⟩
theorem Us.len {ps : List (Nat × Nat)} {m i x : Nat} {es : List (Int × Dt)} (h : Us ps m i x es) : es.length ≤ 12 := by
  have := nodup_le (es.map (·.1)) ((List.range 12).map fun k : Nat => (k : Int)) h.nd fun k hk => by
    obtain ⟨z, rfl, hz, _⟩ := (h.mem k).mp hk
    exact List.mem_map.mpr ⟨z, List.mem_range.mpr hz, rfl⟩
  simpa using this
theorem Us.skip {ps : List (Nat × Nat)} {m i x : Nat} {es : List (Int × Dt)} (h : Us ps m i x es) (h0 : ¬ 0 < (rooms x).getD i 0) : Us ps m (i + 1) x es := ⟨h.nd, fun k => by
  rw [h.mem k]
  refine exists_congr fun z => and_congr_right fun _ => and_congr_right fun _ => or_congr Iff.rfl ⟨fun q => ⟨by omega, q.2⟩, fun q => ⟨?_, q.2⟩⟩
  rcases Nat.lt_succ_iff_lt_or_eq.mp q.1 with e | e
  · exact e
  · subst e; exact absurd q.2 h0⟩
theorem putD_keys (es : List (Int × Dt)) (k : Int) (d : Dt) : (putD es k d).map (·.1) = if (getD es k).isSome then es.map (·.1) else es.map (·.1) ++ [k] := by
  unfold putD
  rw [getD_any]
  cases (getD es k).isSome with
  | true =>
    rw [if_pos rfl, if_pos rfl, List.map_map]
    refine List.map_congr_left fun e _ => ?_
    show (if e.1 = k then (e.1, d) else e).1 = e.1
    split <;> rfl
  | false => simp
theorem getD_mem_keys (k : Int) : ∀ es : List (Int × Dt), (getD es k).isSome = true ↔ k ∈ es.map (·.1) := fun es => by
  rw [← getD_any, List.any_eq_true, List.mem_map]
  constructor
  · rintro ⟨e, he, q⟩; exact ⟨e, he, of_decide_eq_true q⟩
  · rintro ⟨e, he, q⟩; exact ⟨e, he, decide_eq_true q⟩
theorem Us.put {ps : List (Nat × Nat)} {m i x : Nat} {es : List (Int × Dt)} {d : Dt} (h : Us ps m i x es) (hi : i < 12) (h0 : 0 < (rooms x).getD i 0) : Us ps m (i + 1) x (putD es (i : Int) d) := by
  have nx : ∀ k : Int, (k ∈ es.map (·.1) ∨ k = (i : Int)) ↔ ∃ z : Nat, k = (z : Int) ∧ z < 12 ∧ ((∃ p ∈ ps.take m, 0 < (rooms (p.1 * p.2)).getD z 0) ∨ (z < i + 1 ∧ 0 < (rooms x).getD z 0)) := fun k => by
    rw [h.mem k]
    constructor
    · rintro (⟨z, e, hz, q | q⟩ | e)
      · exact ⟨z, e, hz, .inl q⟩
      · exact ⟨z, e, hz, .inr ⟨by omega, q.2⟩⟩
      · exact ⟨i, e, hi, .inr ⟨by omega, h0⟩⟩
    · rintro ⟨z, e, hz, q | ⟨q1, q2⟩⟩
      · exact .inl ⟨z, e, hz, .inl q⟩
      · by_cases e2 : z = i
        · subst e2; exact .inr e
        · exact .inl ⟨z, e, hz, .inr ⟨by omega, q2⟩⟩
  refine ⟨?_, fun k => ?_⟩
  · rw [putD_keys]
    split
    · exact h.nd
    · rename_i no
      refine List.nodup_append.mpr ⟨h.nd, by simp, fun a ha b hb e => ?_⟩
      rw [List.mem_singleton] at hb
      subst hb; subst e
      exact no ((getD_mem_keys _ es).mpr ha)
  · rw [← nx k, putD_keys]
    split
    · rename_i yes
      have := (getD_mem_keys _ es).mp yes
      constructor
      · exact .inl
      · rintro (q | q)
        · exact q
        · rw [q]; exact this
    · rw [List.mem_append, List.mem_singleton]
theorem Us.next {ps : List (Nat × Nat)} {m y : Nat} {p : Nat × Nat} {es : List (Int × Dt)} (h : Us ps m 12 (p.1 * p.2) es) (hp : ps[m]? = some p) : Us ps (m + 1) 0 y es := ⟨h.nd, fun k => by
  rw [h.mem k]
  refine exists_congr fun z => and_congr_right fun _ => and_congr_right fun hz => ?_
  rw [List.take_add_one, hp]
  constructor
  · rintro (⟨q, hq, q2⟩ | ⟨_, q2⟩)
    · exact .inl ⟨q, by simp [hq], q2⟩
    · exact .inl ⟨p, by simp, q2⟩
  · rintro (⟨q, hq, q2⟩ | ⟨q1, _⟩)
    · rcases List.mem_append.mp hq with hq | hq
      · exact .inl ⟨q, hq, q2⟩
      · simp at hq; subst hq; exact .inr ⟨hz, q2⟩
    · omega⟩
theorem Us.start {ps : List (Nat × Nat)} {m x y : Nat} {es : List (Int × Dt)} (h : Us ps m 0 x es) : Us ps m 0 y es := ⟨h.nd, fun k => by
  rw [h.mem k]
  refine exists_congr fun z => and_congr_right fun _ => and_congr_right fun hz => or_congr Iff.rfl ⟨fun q => absurd q.1 (Nat.not_lt_zero _), fun q => absurd q.1 (Nat.not_lt_zero _)⟩⟩
theorem Us.done {ps : List (Nat × Nat)} {x : Nat} {es : List (Int × Dt)} (h : Us ps ps.length 0 x es) : ∀ ys : List Int, ys.Perm (es.map (·.1)) → ys.Pairwise (· ≤ ·) → ys = (usedF ps).map fun k : Nat => (k : Int) := fun ys hp hs => by
  have s2 : ((usedF ps).map fun k : Nat => (k : Int)).Pairwise (· ≤ ·) := by
    refine List.pairwise_map.mpr ?_
    have : (usedF ps).Pairwise (· < ·) := List.Pairwise.filter _ List.pairwise_lt_range
    exact this.imp fun q => by omega
  have n2 : ((usedF ps).map fun k : Nat => (k : Int)).Nodup := by
    refine List.pairwise_map.mpr ?_
    have : (usedF ps).Pairwise (· < ·) := List.Pairwise.filter _ List.pairwise_lt_range
    exact this.imp fun q => by omega
  refine List.Perm.eq_of_pairwise (le := (· ≤ ·)) (fun _ _ _ _ a b => Int.le_antisymm a b) hs s2 (hp.trans ((List.perm_ext_iff_of_nodup h.nd n2).mpr fun k => ?_))
  rw [h.mem k, List.mem_map]
  constructor
  · rintro ⟨z, e, hz, ⟨p, hp, q⟩ | ⟨q, _⟩⟩
    · rw [List.take_length] at hp
      exact ⟨z, List.mem_filter.mpr ⟨List.mem_range.mpr hz, List.any_eq_true.mpr ⟨p, hp, decide_eq_true q⟩⟩, e.symm⟩
    · omega
  · rintro ⟨z, hz, e⟩
    obtain ⟨h1, h2⟩ := List.mem_filter.mp hz
    obtain ⟨p, hp, q⟩ := List.any_eq_true.mp h2
    exact ⟨z, e.symm, List.mem_range.mp h1, .inl ⟨p, by rw [List.take_length]; exact hp, of_decide_eq_true q⟩⟩
/-! orders -/
def decI : Dt → Int
  | .int i => i
  | _ => 0
def isOrdD : Dt → Bool
  | .tuple ds => decide (ds.length = 12) && ds.all (fun d => isCount d 0 11) && decide ((ds.map decI).Nodup)
  | _ => false
def decO (d : Dt) : List Nat := match d with
  | .tuple ds => ds.map fun d => (decI d).toNat
  | _ => []
theorem counts11 : ∀ {ds : List Dt}, ds.all (fun d => isCount d 0 11) = true → ∃ o : List Nat, ds = o.map (fun k : Nat => PyData.int (k : Int)) ∧ (∀ k ∈ o, k < 12)
  | [], _ => ⟨[], rfl, fun k hk => by simp at hk⟩
  | d :: ds, h => by
    rw [List.all_cons, Bool.and_eq_true] at h
    obtain ⟨o, rfl, ho⟩ := counts11 h.2
    obtain ⟨i, rfl, h1, h2⟩ := isCount_of h.1
    refine ⟨i.toNat :: o, by rw [List.map_cons]; congr 1; congr 1; omega, fun k hk => ?_⟩
    rcases List.mem_cons.mp hk with e | hk
    · omega
    · exact ho k hk
theorem map_decI (o : List Nat) : (o.map (fun k : Nat => PyData.int (k : Int))).map decI = o.map fun k : Nat => (k : Int) := by rw [List.map_map]; rfl
theorem nodup_cast {o : List Nat} : (o.map fun k : Nat => (k : Int)).Nodup ↔ o.Nodup := by
  unfold List.Nodup
  rw [List.pairwise_map]
  constructor
  · exact fun h => h.imp fun q e => q (by rw [e])
  · exact fun h => h.imp fun q e => q (Int.ofNat.inj e)
theorem isOrdD_of {d : Dt} (h : isOrdD d = true) : ∃ o : List Nat, d = rmD o ∧ IsOrd o := by
  cases d <;> try (cases h; done)
  rename_i ds
  have h : (decide (ds.length = 12) && ds.all (fun d => isCount d 0 11) && decide ((ds.map decI).Nodup)) = true := h
  simp only [Bool.and_eq_true] at h
  obtain ⟨⟨h1, h2⟩, h3⟩ := h
  obtain ⟨o, rfl, ho⟩ := counts11 h2
  have h1 := of_decide_eq_true h1
  have h3 := of_decide_eq_true h3
  rw [map_decI, nodup_cast] at h3
  exact ⟨o, rfl, by simpa using h1, ho, h3⟩
theorem isOrdD_rm {o : List Nat} (h : IsOrd o) : isOrdD (rmD o) = true := by
  show (decide ((o.map (fun k : Nat => PyData.int (k : Int))).length = 12) && (o.map (fun k : Nat => PyData.int (k : Int))).all (fun d => isCount d 0 11) && decide (((o.map (fun k : Nat => PyData.int (k : Int))).map decI).Nodup)) = true
  rw [List.length_map, h.len, map_decI, decide_eq_true (nodup_cast.mpr h.nd)]
  simp only [decide_true, Bool.true_and, Bool.and_true, List.all_map, List.all_eq_true]
  intro k hk
  have := h.lt k hk
  show (decide ((0 : Int) ≤ (k : Int)) && decide ((k : Int) ≤ 11)) = true
  simp; omega
theorem decO_rm (o : List Nat) : decO (rmD o) = o := by
  show (o.map (fun k : Nat => PyData.int (k : Int))).map (fun d => (decI d).toNat) = o
  rw [List.map_map]
  conv => rhs; rw [← List.map_id o]
  exact List.map_congr_left fun k _ => by show ((k : Int)).toNat = k; simp
def movedE (K : PySem.W.Frag) (d e : Dt) : Except Value Dt := if isNumD d then (if isOrdD e then .ok (nD (exN (decO e) (decN d))) else cE K "BadNumber") else cE K "BadNumber"
theorem movedE_ok {n : Nat} {o : List Nat} (hn : IsNum n) (ho : IsOrd o) : movedE K (nD n) (rmD o) = .ok (nD (exN o n)) := by
  unfold movedE
  rw [isNumD_iff.mpr hn, if_pos rfl, isOrdD_rm ho, if_pos rfl, decO_rm, decN_nD]
theorem movedE_num {d e : Dt} (h : isNumD d = false) : movedE K d e = cE K "BadNumber" := by
  unfold movedE
  rw [h]; rfl
theorem movedE_ord {d e : Dt} (h : isOrdD e = false) : movedE K d e = cE K "BadNumber" := by
  unfold movedE
  rw [h]
  cases isNumD d <;> rfl
end
end Fr
namespace Fr
open PySem PySem.Spec PyProof.Rows L2 Mx
variable [TabL]
theorem t12_of {d : Dt} (h : isT12 d = true) : ∃ ds, d = .tuple ds ∧ ds.length = 12 := by
  cases d <;> try (cases h; done)
  rename_i ds
  have : (ds.length : Int) = 12 := of_decide_eq_true h
  exact ⟨ds, rfl, by omega⟩
theorem ord_no12 {d : Dt} (h : isT12 d = false) : isOrdD d = false := by
  cases q : isOrdD d with
  | false => rfl
  | true =>
    obtain ⟨o, rfl, ho⟩ := isOrdD_of q
    have : isT12 (rmD o) = true := by
      show decide (((o.map (fun k : Nat => PyData.int (k : Int))).length : Int) = 12) = true
      rw [List.length_map, ho.len]; rfl
    rw [this] at h; cases h
theorem ord_12 {ds : List Dt} (h : ds.length = 12) : isOrdD (.tuple ds) = (ds.all (fun d => isCount d 0 11) && decide ((ds.map decI).Nodup)) := by
  show (decide (ds.length = 12) && _ && _) = _
  rw [h]; rfl
theorem exGo_at {o : List Nat} {i v : Nat} (h : o[i]? = some v) : o.getD i 0 = v := by rw [List.getD_eq_getElem?_getD, h]; rfl
theorem zmax_D (a b : List Nat) : PyData.list ((a.zip b).map fun p : Nat × Nat => PyData.int (max (p.1 : Int) (p.2 : Int))) = lN (zmax a b) := by
  unfold zmax lN
  rw [List.map_map]
  congr 1
  refine List.map_congr_left fun p _ => ?_
  show PyData.int (max (p.1 : Int) (p.2 : Int)) = PyData.int ((max p.1 p.2 : Nat) : Int)
  congr 1
  omega
end Fr
namespace Fr
open PySem PySem.Spec PyProof.Rows L2 Mx
variable [TabL]
section
variable {K : PySem.W.Frag}
theorem mv_ok {d x : Dt} (h : (if isNumD d then Except.ok PyData.none else cE K "BadNumber") = Except.ok x) : ∃ n, d = nD n ∧ IsNum n := by
  cases q : isNumD d with
  | false => rw [q] at h; cases h
  | true => exact isNumD_of q
theorem mv_xc {d : Dt} {c : Value} (h : (if isNumD d then Except.ok PyData.none else cE K "BadNumber") = Except.error c) : isNumD d = false ∧ cE K "BadNumber" = Except.error c := by
  cases q : isNumD d with
  | false => rw [q] at h; exact ⟨rfl, h⟩
  | true => rw [q] at h; cases h
theorem mo_ok {d x : Dt} (h : (if isOrdD d then Except.ok PyData.none else cE K "BadNumber") = Except.ok x) : ∃ o, d = rmD o ∧ IsOrd o := by
  cases q : isOrdD d with
  | false => rw [q] at h; cases h
  | true => exact isOrdD_of q
theorem mo_xc {d : Dt} {c : Value} (h : (if isOrdD d then Except.ok PyData.none else cE K "BadNumber") = Except.error c) : isOrdD d = false ∧ cE K "BadNumber" = Except.error c := by
  cases q : isOrdD d with
  | false => rw [q] at h; exact ⟨rfl, h⟩
  | true => rw [q] at h; cases h
end
end Fr
namespace Fr
open PySem PySem.Spec
theorem bt_sorted : bootBuiltins "sorted" = some (.builtin "sorted") := by decide +kernel
end Fr
namespace Fr
open PySem PySem.Spec PyProof.Rows L2
variable [TabL]
/-- what is known, without lists -/
def noL (M : Hp) : Hp := fun a => match M a with
  | some (.lst _) => none
  | o => o
theorem noL_some {M : Hp} {a : Addr} {o : HO} (h : noL M a = some o) : M a = some o := by
  unfold noL at h
  split at h
  · cases h
  · exact h
theorem noL_lst {M : Hp} {a : Addr} {vs : List V} : noL M a ≠ some (.lst vs) := fun h => by
  have h2 := noL_some h
  unfold noL at h
  rw [h2] at h
  cases h
theorem noL_none {M : Hp} {a : Addr} (h : M a = none) : noL M a = none := by
  unfold noL
  rw [h]
section
variable {K : PySem.W.Frag} {ρ : List Sl} {ta : TE} {E E2 : XK} {P : Out → Prop} {ds es : List Dt}
theorem wp_callApp {Pr : List Dt → Except Value Dt → Prop} (he : EvN K ta ρ ds) (hf : ∀ (M : Hp) (p : Addr) (vs : List V), DnA K M vs ds → M p = none → DnA K (upd (noL M) p (.lst vs)) vs ds) (hp : Pr [.list ds] (.ok (.list es))) (hl : ds.length ≠ es.length) (hz : es.length ≤ 1000000) (h : P (.nx ρ)) :
    Wp K E (tDrop (tBM K "list" rAppend (tCall (spD K Pr) [] E2 (tCons ta tNil)) (tCons (tC .non) tNil))) ρ P := fun M0 H0 T σ H D s f => he M0 H0 σ H T _ s fun p H1 s1 => by
  obtain ⟨M, st⟩ := s1
  have hlen : σ.length = ρ.length := by have := st.len; simpa using this
  obtain ⟨v0, e1, p', vs, e2, n0, nM, hH, hd⟩ := st.slot ρ.length (.own ds) (by simp)
  rw [← hlen, List.getElem?_concat_length] at e1
  cases e1
  cases e2
  have pT : p ∉ TabL.l.map (·.1) := st.bs.kn.notT hH
  have sm : ∀ a o, upd (noL M) p (.lst vs) a = some o → a = p ∧ o = .lst vs ∨ a ≠ p ∧ M a = some o := fun a o e => by
    by_cases ha : a = p
    · subst ha; rw [upd_same] at e; cases e; exact .inl ⟨rfl, rfl⟩
    · rw [upd_ne ha] at e; exact .inr ⟨ha, noL_some e⟩
  have kn : Kn (upd (noL M) p (.lst vs)) H1 := ⟨fun a o e => by
      rcases sm a o e with ⟨rfl, rfl⟩ | ⟨_, e⟩
      · exact hH
      · exact st.bs.mh _ _ e, fun q hq => by
      have : q.1 ≠ p := fun z => pT (List.mem_map.mpr ⟨q, hq, z⟩)
      rw [upd_ne this]; exact noL_none (st.bs.kn.tm q hq), st.bs.kn.tb⟩
  refine ⟨upd (noL M) p (.lst vs), [.list ds], .ok (.list es), kn, .cons (.lst upd_same (hf M p vs hd nM)) .nil, hp, fun d' e v H2 ⟨M2, b, hv⟩ => ?_, fun c e => by cases e⟩
  cases e
  obtain ⟨a, ws, rfl, ha, hw⟩ := hv.lst_inv
  have hna : a ≠ p := fun z => by
    subst z
    have := b.mm _ _ (upd_same (H := noL M) (a := a) (o := .lst vs))
    rw [ha] at this
    cases this
    have l1 := hd.len
    have l2 := hw.len
    exact hl (by rw [← l1, l2])
  have nS : upd (noL M) p (.lst vs) a = none := by
    cases q : upd (noL M) p (.lst vs) a with
    | none => rfl
    | some o =>
      have := b.mm _ _ q
      rw [ha] at this
      cases this
      rw [upd_ne hna] at q
      exact absurd q noL_lst
  have nT : a ∉ TabL.l.map (·.1) := fun z => by
    have := b.kn.tm' z
    rw [ha] at this; cases this
  have fr : H1 a = none := by
    cases q : H1 a with
    | none => rfl
    | some o =>
      have := (b.far a o nS q nT).1
      rw [ha] at this; cases this
  have hH2 : H2 a = some (.lst ws) := b.mh _ _ ha
  -- what stood before, stands
  have keep : ∀ c o, H1 c = some o → c ∉ TabL.l.map (·.1) → upd H2 a (.lst (ws ++ [.non])) c = some o := fun c o e nc => by
    have hc : c ≠ a := fun z => by rw [z, fr] at e; cases e
    rw [upd_ne hc]
    cases q : upd (noL M) p (.lst vs) c with
    | none => exact (b.far c o q e nc).2
    | some o2 =>
      have q1 := kn.mh _ _ q
      rw [e] at q1
      cases q1
      exact b.kn.mh _ _ (b.mm _ _ q)
  have ktb : LamX.Tabs TabL.l (upd H2 a (.lst (ws ++ [.non]))) := fun q hq => by
    obtain ⟨ps, e1, e2, e3⟩ := b.kn.tb q hq
    have np : q.1 ≠ a := fun z => nT (List.mem_map.mpr ⟨q, hq, z⟩)
    refine ⟨ps, by rw [upd_ne np]; exact e1, e2, fun pos cv hc => ?_⟩
    obtain ⟨c, k1, k2⟩ := e3 pos cv hc
    have nc : c ≠ a := fun z => by
      rw [z, hH2] at k2
      unfold LamX.CodeO at k2
      cases k2
    exact ⟨c, k1, by rw [upd_ne nc]; exact k2⟩
  have bb : Bs M H1 M (upd H2 a (.lst (ws ++ [.non]))) := ⟨Same.refl _, ⟨fun c o e => keep c o (st.bs.mh _ _ e) (fun z => by rw [st.bs.kn.tm' z] at e; cases e), st.bs.kn.tm, ktb⟩, fun c o h1 h2 h3 => ⟨h1, keep c o h2 h3⟩⟩
  have g := (st.grow bb st.tmp).pop
  refine ⟨.inl ⟨rfl, ws, SqL.of hH2⟩, ?_⟩
  exact ⟨a, ws, .non, rfl, rfl, hH2, by rw [hw.len, sizeLine_eq]; omega, f _ h _ _ ⟨M, g⟩⟩
theorem sqT_noL {M : Hp} {a p : Addr} {xs : List V} {o : HO} (h : SqT K M a xs) (n : M p = none) : SqT K (upd (noL M) p o) a xs := by
  have key : ∀ u, M a = some u → (∀ ys, u ≠ .lst ys) → upd (noL M) p o a = some u := fun u e ne => by
    rw [upd_ne (ne_of_none e n)]
    unfold noL
    rw [e]
    cases u with
    | lst ys => exact absurd rfl (ne ys)
    | _ => rfl
  rcases h with (h | ⟨u, h⟩) | h
  · exact .inl (.inl (key _ h fun ys z => by cases z))
  · exact .inl (.inr ⟨u, key _ h fun ys z => by cases z⟩)
  · exact .inr h
/-- [a tuple of ints] -/
theorem flat_tup {ns : List Int} (M : Hp) (p : Addr) (vs : List V) (h : DnA K M vs [.tuple (ns.map PyData.int)]) (n : M p = none) : DnA K (upd (noL M) p (.lst vs)) vs [.tuple (ns.map PyData.int)] := by
  cases h with
  | cons hv ht =>
    cases ht
    obtain ⟨a, ws, rfl, h1, h2⟩ := hv.tup_inv
    have ew := h2.ints
    subst ew
    exact .cons (.tup (sqT_noL h1 n) (DnA.of_ints ns)) .nil
end
end Fr
namespace Fr
open PySem PySem.Spec PyProof.Rows L2 Mx
variable [TabL]
def ordGo (m : Int) : Nat → List Nat × List Nat
  | 0 => (List.range 12, [])
  | i + 1 => ((ordGo m i).1.eraseIdx (drawn m (200 + (i : Int)) % ((ordGo m i).1.length : Int)).toNat, (ordGo m i).2 ++ [(ordGo m i).1.getD (drawn m (200 + (i : Int)) % ((ordGo m i).1.length : Int)).toNat 0])
theorem ord_ix (m : Int) {L : List Nat} (h : 0 < L.length) (k : Int) : 0 ≤ drawn m k % (L.length : Int) ∧ (drawn m k % (L.length : Int)).toNat < L.length := by
  have a := Int.emod_nonneg (drawn m k) (show (L.length : Int) ≠ 0 by omega)
  have b := Int.emod_lt_of_pos (drawn m k) (show 0 < (L.length : Int) by omega)
  omega
theorem ordGo_tk (m : Int) : ∀ i, i ≤ 12 → Tk (ordGo m i).1 (ordGo m i).2 i
  | 0, _ => tk_0
  | i + 1, h => by
    have t := ordGo_tk m i (by omega)
    have hl := t.ll
    have hk := (ord_ix m (L := (ordGo m i).1) (by omega) (200 + (i : Int))).2
    have := tk_step t hk
    show Tk _ (_ ++ [_]) _
    rw [List.getD_eq_getElem?_getD, List.getElem?_eq_getElem hk]
    exact this
def ordF (m : Int) : List Nat := (ordGo m 12).2
theorem ordF_ok (m : Int) : IsOrd (ordF m) := tk_ord (ordGo_tk m 12 (Nat.le_refl _))
section
variable {K : PySem.W.Frag}
theorem bads81_p {i : Nat} {d : Dt} (h : ([.none, .tuple [], .tuple [.tuple [.int 3, .int 2]], .list [.none], .list [.list [.int 3, .int 2]], .list [.tuple [.int 6, .int 2]], .list [.tuple [.int 0, .int 2]], .list [.tuple [.bool true, .int 2]], .list [.tuple [.int 41, .int 2]],
    .list (List.replicate (17 : Int).toNat [PyData.tuple [.int 3, .int 2]]).flatten] : List Dt)[i]? = some d) : isProgD d = false := by
  have h := List.mem_of_getElem? h
  simp only [List.mem_cons, List.not_mem_nil, or_false] at h
  rcases h with rfl | rfl | rfl | rfl | rfl | rfl | rfl | rfl | rfl | rfl
  · rfl
  · rfl
  · rfl
  · rfl
  · rfl
  · exact notProg_mem (List.mem_singleton.mpr rfl) (notFrac_c (by decide +kernel))
  · exact notProg_mem (List.mem_singleton.mpr rfl) (notFrac_a (isNumD_lo (by decide)))
  · rfl
  · exact notProg_mem (List.mem_singleton.mpr rfl) (notFrac_a notNum41)
  · exact badProg_true (by decide +kernel)
theorem bads81_n {i : Nat} {d : Dt} (h : ([.int 0, .int (-1), .int 41, .none, .bool true, .str "2"] : List Dt)[i]? = some d) : isNumD d = false := by
  have h := List.mem_of_getElem? h
  simp only [List.mem_cons, List.not_mem_nil, or_false] at h
  rcases h with rfl | rfl | rfl | rfl | rfl | rfl
  · exact isNumD_lo (by decide)
  · exact isNumD_lo (by decide)
  · exact notNum41
  · rfl
  · rfl
  · rfl
theorem bads81_c {i : Nat} {d : Dt} (h : ([.int (-1), .int 501, .none, .bool true, .str "2"] : List Dt)[i]? = some d) : isCount d 0 500 = false := by
  have h := List.mem_of_getElem? h
  simp only [List.mem_cons, List.not_mem_nil, or_false] at h
  rcases h with rfl | rfl | rfl | rfl | rfl <;> rfl
theorem prog_nil : IsProg [] := ⟨by decide, fun p hp => by simp at hp⟩
theorem look_nilBad {d : Dt} {k : List (Nat × Nat) → Nat → Except Value Dt} (h : isNumD d = false) : lookE K (.list []) d k = cE K "BadNumber" := by
  have e : lookE K (.list []) d k = if isNumD d then k [] (decN d) else cE K "BadNumber" := progE_ok (K := K) (ps := []) prog_nil
  rw [e, h]; rfl
theorem look_nil {n : Nat} {k : List (Nat × Nat) → Nat → Except Value Dt} (h : IsNum n) : lookE K (.list []) (.int (n : Int)) k = k [] n := lookE_ok (ps := []) prog_nil h
theorem moved_badN {d e : Dt} (h : isNumD d = false) : movedE K d e = cE K "BadNumber" := movedE_num h
/-! the bad orders -/
theorem nod_len {d : Dt} {ds : List Dt} (e : d = .tuple ds) (h : ds.length ≠ 12) : isOrdD d = false := by
  subst e
  show (decide (ds.length = 12) && _ && _) = false
  rw [decide_eq_false h]; rfl
theorem nod_bad {ds : List Dt} {x : Dt} (hx : x ∈ ds) (h : isCount x 0 11 = false) : isOrdD (.tuple ds) = false := by
  show (_ && ds.all (fun d => isCount d 0 11) && _) = false
  rw [List.all_eq_false.mpr ⟨x, hx, by rw [h]; simp⟩, Bool.and_false, Bool.false_and]
theorem nod_twice {ds : List Dt} (h : ¬ (ds.map decI).Nodup) : isOrdD (.tuple ds) = false := by
  show (_ && _ && decide ((ds.map decI).Nodup)) = false
  rw [decide_eq_false h, Bool.and_false]
/-! the great number -/
theorem pow_num : IsNum (2 ^ 400) := ⟨(smooth_pow (p := 2) (by decide) 400).1, (smooth_pow (p := 2) (by decide) 400).2, fun k hk => by
  obtain ⟨r, hr, rfl⟩ := List.mem_map.mp hk
  show mlt r (2 ^ 400) ≤ 400
  have h2 := pL_pm 2 (by decide)
  by_cases e : r = 2
  · subst e; rw [mlt_powSelf h2.1]; exact Nat.le_refl _
  · rw [mlt_powOther (pL_pm r hr) h2 e]; omega⟩
theorem pow_great : tooB (2 ^ 401) = true := by
  cases q : tooB (2 ^ 401) with
  | true => rfl
  | false =>
    have := (tooB_iff (n := 2 ^ 401) (Nat.pow_pos (by decide))).mp q (mlt 2 (2 ^ 401)) (List.mem_map.mpr ⟨2, by decide, rfl⟩)
    rw [mlt_powSelf (by decide)] at this
    omega
theorem num6 : IsNum 6 := (isNum2.smooth.mul isNum3.smooth).isNum (by decide)
theorem frac43 : IsFrac (4, 3) := ⟨(smooth_pow (p := 2) (by decide) 2).isNum (by decide), isNum3, by decide, by decide, by decide⟩
theorem prog_of {ps : List (Nat × Nat)} (hl : ps.length ≤ 16) (h : ∀ p ∈ ps, IsFrac p) : IsProg ps := ⟨hl, h⟩
theorem progA : IsProg [(4, 3), (2, 1)] := ⟨by decide, fun p hp => by
  rcases List.mem_cons.mp hp with rfl | hp
  · exact frac43
  · rw [List.mem_singleton.mp hp]; exact frac21⟩
theorem progB : IsProg [(2, 1)] := ⟨by decide, fun p hp => by rw [List.mem_singleton.mp hp]; exact frac21⟩
theorem progC : IsProg [(3, 2), (2, 3)] := ⟨by decide, fun p hp => by
  rcases List.mem_cons.mp hp with rfl | hp
  · exact frac32
  · rw [List.mem_singleton.mp hp]; exact frac23⟩
theorem progD : IsProg [(3, 2)] := ⟨by decide, fun p hp => by rw [List.mem_singleton.mp hp]; exact frac32⟩
theorem ledA : ledF [(4, 3), (2, 1)] (2 ^ 400) = some (2 ^ 401) := by decide +kernel
theorem ledB : ledF [(2, 1)] (2 ^ 400) = some (2 ^ 401) := by decide +kernel
theorem ring_great (t : Nat) (h1 : 1 ≤ t) (h : t ≤ 500) : lookE K (lP [(4, 3), (2, 1)]) (nD (2 ^ 400)) (fun ps n => ringE K ps n (nD t)) = cE K "TooGreat" := by
  rw [lookE_ok progA pow_num, ringE_on h, rg_big (xs := []) (by simp) ledA (by show 0 < t; omega) pow_great]; rfl
theorem best_great (t : Nat) (h1 : 1 ≤ t) (h : t ≤ 500) : lookE K (lP [(2, 1)]) (nD (2 ^ 400)) (fun ps n => bestE K ps n (nD t)) = cE K "TooGreat" := by
  obtain ⟨u, rfl⟩ : ∃ u, t = u + 1 := ⟨t - 1, by omega⟩
  rw [lookE_ok progB pow_num, bestE_on h, bg_big ledB pow_great]; rfl
theorem best_0 : Except.ok (rmD (rooms (2 ^ 400))) = lookE K (lP [(2, 1)]) (nD (2 ^ 400)) (fun ps n => bestE K ps n (nD 0)) := by
  rw [lookE_ok progB pow_num, bestE_on (by decide)]; rfl
theorem room_400 : atI (rooms (2 ^ 400)) 0 = some 400 := by
  have e : (rooms (2 ^ 400))[0]? = some (mlt 2 (2 ^ 400)) := rfl
  rw [mlt_powSelf (by decide)] at e
  exact atI_nat (j := 0) e
theorem used_nil : Except.ok (lN []) = progE K (.list []) fun ps => .ok (lN (usedF ps)) := by
  have e : progE K (lP []) (fun ps => .ok (lN (usedF ps))) = .ok (lN (usedF [])) := progE_ok prog_nil
  exact e.symm
theorem rooms6 : rooms (3 * 2) = [1, 1, 0, 0, 0, 0, 0, 0, 0, 0, 0, 0] := rooms_made (rs := [1, 1, 0, 0, 0, 0, 0, 0, 0, 0, 0, 0]) rfl
theorem used_one : Except.ok (lN [0, 1]) = progE K (.list [.tuple [.int 3, .int 2]]) fun ps => .ok (lN (usedF ps)) := by
  have e : progE K (lP [(3, 2)]) (fun ps => .ok (lN (usedF ps))) = .ok (lN (usedF [(3, 2)])) := progE_ok progD
  have u : usedF [(3, 2)] = [0, 1] := by
    unfold usedF
    have : (fun z => [(3, 2)].any fun p : Nat × Nat => decide (0 < (rooms (p.1 * p.2)).getD z 0)) = fun z => decide (0 < ([1, 1, 0, 0, 0, 0, 0, 0, 0, 0, 0, 0] : List Nat).getD z 0) := by
      funext z
      rw [List.any_cons, List.any_nil, Bool.or_false]
      show decide (0 < (rooms (3 * 2)).getD z 0) = _
      rw [rooms6]
    rw [this]; decide
  rw [u] at e
  exact e.symm
theorem ring_nil : Except.ok PyData.none = lookE K (.list []) (.int 6) (fun ps n => ringE K ps n (.int 500)) := by
  have e : lookE K (.list []) (.int ((6 : Nat) : Int)) (fun ps n => ringE K ps n (.int 500)) = ringE K [] 6 (nD 500) := look_nil num6
  rw [show (PyData.int 6) = .int ((6 : Nat) : Int) from rfl, e, ringE_on (by decide), rg_end (xs := []) (by simp) rfl]; rfl
theorem ring_32 : Except.ok (prD (0, 2)) = lookE K (.list [.tuple [.int 3, .int 2], .tuple [.int 2, .int 3]]) (.int 2) (fun ps n => ringE K ps n (.int 2)) := by
  have e : lookE K (lP [(3, 2), (2, 3)]) (nD 2) (fun ps n => ringE K ps n (nD 2)) = ringE K [(3, 2), (2, 3)] 2 (nD 2) := lookE_ok progC isNum2
  have r : ringGo [(3, 2), (2, 3)] 2 3 [] 2 = .at 0 2 := by
    have t3 : tooB 3 = false := by decide +kernel
    have t2 : tooB 2 = false := by decide +kernel
    have n3 : ¬ (([] : List Nat).length < 2 ∧ tooB 3 = true) := fun z => by rw [t3] at z; exact absurd z.2 Bool.false_ne_true
    have n2 : ¬ (([] ++ [2] : List Nat).length < 2 ∧ tooB 2 = true) := fun z => by rw [t2] at z; exact absurd z.2 Bool.false_ne_true
    rw [rg_go (l := 3) (by simp) (by decide +kernel) n3, rg_go (l := 2) (by simp) (by decide +kernel) n2, rg_in (by simp)]
    rfl
  rw [ringE_on (by decide), r] at e
  exact e.symm
/-! told with the great number out of sight -/
theorem mk_400 : mk pL [400] = 2 ^ 400 := by
  show 2 ^ 400 * mk _ [] = 2 ^ 400
  rw [show mk [3, 5, 7, 11, 13, 17, 19, 23, 29, 31, 37] [] = 1 from rfl, Nat.mul_one]
theorem ring_greatG {G : Nat} (hG : G = mk pL [400]) (t : Nat) (h1 : 1 ≤ t) (h : t ≤ 500) : lookE K (.list [.tuple [.int 4, .int 3], .tuple [.int 2, .int 1]]) (nD G) (fun ps n => ringE K ps n (.int (t : Int))) = cE K "TooGreat" := by
  rw [hG, mk_400]; exact ring_great t h1 h
theorem best_greatG {G : Nat} (hG : G = mk pL [400]) (t : Nat) (h1 : 1 ≤ t) (h : t ≤ 500) : lookE K (.list [.tuple [.int 2, .int 1]]) (nD G) (fun ps n => bestE K ps n (.int (t : Int))) = cE K "TooGreat" := by
  rw [hG, mk_400]; exact best_great t h1 h
theorem best_0G {G : Nat} (hG : G = mk pL [400]) : Except.ok (rmD (rooms G)) = lookE K (.list [.tuple [.int 2, .int 1]]) (nD G) (fun ps n => bestE K ps n (.int 0)) := by
  rw [hG, mk_400]; exact best_0
theorem room_400G {G : Nat} (hG : G = mk pL [400]) : atI (rooms G) 0 = some 400 := by rw [hG, mk_400]; exact room_400
theorem bads81_o {o : List Nat} (ho : IsOrd o) {i : Nat} {d : Dt} (h : ([.none, .list (o.map fun k : Nat => PyData.int (k : Int)), .tuple (cutL (o.map fun k : Nat => PyData.int (k : Int)) (some 1) none), .tuple ((o.map fun k : Nat => PyData.int (k : Int)) ++ [.int 0]),
    .tuple (cutL (o.map fun k : Nat => PyData.int (k : Int)) none (some 11) ++ [.int ((o.getD 0 0 : Nat) : Int)]), .tuple (cutL (o.map fun k : Nat => PyData.int (k : Int)) none (some 11) ++ [.int 12])] ++
    [.tuple (cutL (o.map fun k : Nat => PyData.int (k : Int)) none (some 11) ++ [.none]), .tuple ([.bool true] ++ cutL (o.map fun k : Nat => PyData.int (k : Int)) (some 1) none), .tuple ([.str "0"] ++ cutL (o.map fun k : Nat => PyData.int (k : Int)) (some 1) none),
      .tuple ([.int (-1)] ++ cutL (o.map fun k : Nat => PyData.int (k : Int)) (some 1) none)] : List Dt)[i]? = some d) : isOrdD d = false := by
  have h := List.mem_of_getElem? h
  have e11 : cutL (o.map fun k : Nat => PyData.int (k : Int)) none (some 11) = (o.take 11).map fun k : Nat => PyData.int (k : Int) := cut_takeN o _ 11
  have lm : (o.map fun k : Nat => PyData.int (k : Int)).length = 12 := by rw [List.length_map, ho.len]
  simp only [List.cons_append, List.nil_append, List.mem_cons, List.not_mem_nil, or_false] at h
  rcases h with rfl | rfl | rfl | rfl | rfl | rfl | rfl | rfl | rfl | rfl
  · rfl
  · rfl
  · exact nod_len rfl (by rw [cut1 lm]; decide)
  · exact nod_len rfl (by rw [List.length_append, lm]; decide)
  · refine nod_twice fun hn => ?_
    rw [e11, List.map_append, map_decI] at hn
    obtain ⟨_, _, no⟩ := List.nodup_append.mp hn
    have hl := ho.len
    have hm : o.getD 0 0 ∈ o.take 11 := by
      rw [List.getD_eq_getElem?_getD, List.getElem?_eq_getElem (by omega)]
      refine List.mem_iff_getElem.mpr ⟨0, by rw [List.length_take]; omega, by simp⟩
    exact no _ (List.mem_map.mpr ⟨_, hm, rfl⟩) _ (List.mem_singleton.mpr rfl) rfl
  · exact nod_bad (x := .int 12) (by simp) rfl
  · exact nod_bad (x := .none) (by simp) rfl
  · exact nod_bad (x := .bool true) (by simp) rfl
  · exact nod_bad (x := .str "0") (by simp) rfl
  · exact nod_bad (x := .int (-1)) (by simp) rfl
end
end Fr
namespace Fr
open PySem PySem.Spec PyProof.Rows L2
def rJoin (K : PySem.W.Frag) : V → List V → Hp → VK → Prop := fun x xs H Q => ∃ a p, ∃ ys : List Str, x = .str a ∧ xs = [.ref p] ∧ (SqL K H p (ys.map V.str) ∨ SqT K H p (ys.map V.str)) ∧
  (ys.map (·.length)).sum + ys.length * a.length ≤ 16777216 ∧ Q (.str (Txt.join a ys)) H
def rSplit : V → List V → Hp → VK → Prop := fun x xs H Q => ∃ a b, x = .str a ∧ xs = [.str b] ∧ (b.length == 0) = false ∧ a.length + 2 ≤ sizeLine ∧ rNewStrs (Txt.split a b) H Q
def rPart : V → List V → Hp → VK → Prop := fun x xs H Q => ∃ a b, x = .str a ∧ xs = [.str b] ∧ (b.length == 0) = false ∧ a.length ≤ sizeLine ∧
  ∀ p, H p = none → Q (.ref p) (upd H p (.tup [.str (Txt.partition a b).1, .str (Txt.partition a b).2.1, .str (Txt.partition a b).2.2]))
section
variable {X : Cx} {K : PySem.W.Frag} {o e : Expr} {to te : TE} {apos pos : Pos}
theorem pe_joinK (hK : X.K = K) (ho : PE X o to) (he : PE X e te) (hs : starEach [e] X.env = [(false, eval e X.env)] := by rfl) (hbase : attributeBase o "join" X.env (eval o X.env) = eval o X.env := by rfl) (hline : (apos.endLine == pos.line) = true := by rfl) :
    PE X (.Call (.Attribute o "join" apos) [e] [] pos) (tM1 (rJoin K) to te) := by subst hK; exact pe_join ho he hs hbase hline
theorem pe_splitK (ho : PE X o to) (he : PE X e te) (hs : starEach [e] X.env = [(false, eval e X.env)] := by rfl) (hbase : attributeBase o "split" X.env (eval o X.env) = eval o X.env := by rfl) (hline : (apos.endLine == pos.line) = true := by rfl) :
    PE X (.Call (.Attribute o "split" apos) [e] [] pos) (tM1 rSplit to te) := pe_split ho he hs hbase hline
theorem pe_partK (ho : PE X o to) (he : PE X e te) (hs : starEach [e] X.env = [(false, eval e X.env)] := by rfl) (hbase : attributeBase o "partition" X.env (eval o X.env) = eval o X.env := by rfl) (hline : (apos.endLine == pos.line) = true := by rfl) :
    PE X (.Call (.Attribute o "partition" apos) [e] [] pos) (tM1 rPart to te) := pe_partition ho he hs hbase hline
end
theorem DnA.strs [TabL] {K : PySem.W.Frag} {M : Hp} : ∀ {ys : List Str} {vs : List V}, DnA K M vs (ys.map PyData.str) → vs = ys.map V.str
  | [], _, h => by cases h; rfl
  | y :: ys, _, h => by
    cases h with
    | cons h t =>
      cases h
      rw [DnA.strs t]; rfl
theorem DnA.of_strs [TabL] {K : PySem.W.Frag} {M : Hp} : ∀ (ys : List Str), DnA K M (ys.map V.str) (ys.map PyData.str)
  | [] => .nil
  | y :: ys => .cons (.str y) (DnA.of_strs ys)
section
variable [TabL] {K : PySem.W.Frag} {ρ : List Sl} {to te : TE} {d : Dt}
theorem ev_join {a : Str} {ys : List Str} (ho : Ev K to ρ (.str a)) (he : Ev K te ρ (.list (ys.map PyData.str))) (hz : (ys.map (·.length)).sum + ys.length * a.length ≤ 16777216) : Ev K (tM1 (rJoin K) to te) ρ (.str (Txt.join a ys)) := fun M0 H0 σ H T Q s q =>
  ho M0 H0 σ H T _ s fun v H1 s1 => by
    obtain ⟨M1, t1⟩ := id s1
    obtain rfl := (t1.at (v := v) (d := .str a) mem1).str_inv
    refine ⟨⟨a, rfl⟩, he M0 H0 σ H1 _ _ s1 fun w H2 s2 => ?_⟩
    obtain ⟨M2, t2⟩ := id s2
    obtain ⟨p, vs, rfl, k1, k2⟩ := (t2.at (v := w) (d := .list (ys.map PyData.str)) mem1).lst_inv
    obtain rfl := k2.strs
    exact ⟨a, p, ys, rfl, rfl, .inl (SqL.of (t2.bs.mh _ _ k1)), hz, q _ H2 ((s2.same_sub fun p hp => by simp [hp]).add fun M _ => .str _)⟩
theorem evn_split {a b : Str} (ho : Ev K to ρ (.str a)) (he : Ev K te ρ (.str b)) (hb : (b.length == 0) = false) (hz : a.length ≤ 1000000) : EvN K (tM1 rSplit to te) ρ ((Txt.split a b).map PyData.str) := fun M0 H0 σ H T Q s q =>
  ho M0 H0 σ H T _ s fun v H1 s1 => by
    obtain ⟨M1, t1⟩ := id s1
    obtain rfl := (t1.at (v := v) (d := .str a) mem1).str_inv
    refine ⟨⟨a, rfl⟩, he M0 H0 σ H1 _ _ s1 fun w H2 s2 => ?_⟩
    obtain ⟨M2, t2⟩ := id s2
    obtain rfl := (t2.at (v := w) (d := .str b) mem1).str_inv
    exact ⟨a, b, rfl, rfl, hb, by rw [sizeLine_eq]; omega, fun p hp => q p _ ⟨M2, (t2.newO hp (DnA.of_strs _)).sub fun p' hp' => by simp [hp']⟩⟩
theorem ev_part {a b : Str} (ho : Ev K to ρ (.str a)) (he : Ev K te ρ (.str b)) (hb : (b.length == 0) = false) (hz : a.length ≤ 1000000) : Ev K (tM1 rPart to te) ρ (.tuple [.str (Txt.partition a b).1, .str (Txt.partition a b).2.1, .str (Txt.partition a b).2.2]) := fun M0 H0 σ H T Q s q =>
  ho M0 H0 σ H T _ s fun v H1 s1 => by
    obtain ⟨M1, t1⟩ := id s1
    obtain rfl := (t1.at (v := v) (d := .str a) mem1).str_inv
    refine ⟨⟨a, rfl⟩, he M0 H0 σ H1 _ _ s1 fun w H2 s2 => ?_⟩
    obtain ⟨M2, t2⟩ := id s2
    obtain rfl := (t2.at (v := w) (d := .str b) mem1).str_inv
    refine ⟨a, b, rfl, rfl, hb, by rw [sizeLine_eq]; omega, fun p hp => ?_⟩
    have b2 := bs_new (o := .tup [.str (Txt.partition a b).1, .str (Txt.partition a b).2.1, .str (Txt.partition a b).2.2]) t2.bs.kn hp
    refine q _ _ ⟨_, t2.grow b2 fun p' hp' => ?_⟩
    rcases List.mem_cons.mp hp' with e | hp'
    · subst e; exact .tup (.inl (.inl upd_same)) (.cons (.str _) (.cons (.str _) (.cons (.str _) .nil)))
    · exact (t2.tmp p' (by simp [hp'])).mono b2.mm
/-- str(i) -/
theorem rc_strI {i : Int} (h : i.natAbs.log2 < 1920) : RC K (fun xs H Q => ∃ i, xs = [.int i] ∧ i.natAbs.log2 < 1920 ∧ Q (.str (toString i)) H) [.int i] (.str (toString i)) := fun M0 H0 σ H ρ T Q vs s m l q => rc_one l m fun v e hv => by
  obtain ⟨M, st⟩ := id s
  exact ⟨i, by rw [e, (st.at hv).int_inv], h, q _ H (s.add fun M _ => .str _)⟩
/-- int(a) -/
theorem rc_intS {a : Str} {n : Int} (hn : PySem.intText? a = some n) (h : a.length ≤ 640) : RC K (fun xs H Q => ∃ a n, xs = [.str a] ∧ PySem.intText? a = some n ∧ a.length ≤ 640 ∧ Q (.int n) H) [.str a] (.int n) := fun M0 H0 σ H ρ T Q vs s m l q => rc_one l m fun v e hv => by
  obtain ⟨M, st⟩ := id s
  exact ⟨a, n, by rw [e, (st.at hv).str_inv], hn, h, q _ H (s.add fun M _ => .int _)⟩
/-- a sign in a text -/
theorem rv_inS {c : Nat} {z : Str} : RV K (fun x y H Q => ∃ (c : Nat) (z : Str), x = .str ⟨#[c]⟩ ∧ y = .str z ∧ Q (.bl (decide (c ∈ z.cps.toList))) H) (.str ⟨#[c]⟩) (.str z) (.bool (decide (c ∈ z.cps.toList))) := fun M0 H0 σ H ρ T Q vx vy s m1 m2 q => by
  obtain ⟨M, st⟩ := id s
  exact ⟨c, z, (st.at m1).str_inv, (st.at m2).str_inv, q _ H (s.add fun M _ => .bl _)⟩
/-- a + b, texts -/
theorem rv_catS {a b : Str} (h : a.length + b.length ≤ 1000000) : RV K (fun x y H Q => ∃ i j, x = .str i ∧ y = .str j ∧ i.length + j.length ≤ sizeLine ∧ Q (.str (i ++ j)) H) (.str a) (.str b) (.str (a ++ b)) := fun M0 H0 σ H ρ T Q vx vy s m1 m2 q => by
  obtain ⟨M, st⟩ := id s
  exact ⟨a, b, (st.at m1).str_inv, (st.at m2).str_inv, by rw [sizeLine_eq]; omega, q _ H (s.add fun M _ => .str _)⟩
/-- a[i], a a text -/
theorem rv_ixS {a : Str} {i : Int} {c : Nat} (hl : a.length ≤ 1000000) (h : atI a.cps.toList i = some c) : RV K rIxS (.str a) (.int i) (.str ⟨#[c]⟩) := fun M0 H0 σ H ρ T Q vx vy s m1 m2 q => by
  obtain ⟨M, st⟩ := id s
  exact ⟨a, i, c, (st.at m1).str_inv, (st.at m2).int_inv, by rw [sizeLine_eq]; omega, h, q _ H (s.add fun M _ => .str _)⟩
end
end Fr
namespace Fr
open PySem PySem.Spec PyProof.Rows L2
def mapE {α : Type} (f : α → Except Value Dt) : List α → Except Value (List Dt)
  | [] => .ok []
  | x :: xs => match f x with
    | .error c => .error c
    | .ok d => match mapE f xs with
      | .error c => .error c
      | .ok ds => .ok (d :: ds)
def listE (r : Except Value (List Dt)) : Except Value Dt := match r with
  | .ok ds => .ok (.list ds)
  | .error c => .error c
theorem mapE_ok {α : Type} {f : α → Except Value Dt} {x : α} {xs : List α} {d : Dt} {ds : List Dt} (h : f x = .ok d) (h2 : mapE f xs = .ok ds) : mapE f (x :: xs) = .ok (d :: ds) := by
  unfold mapE
  rw [h]
  show (match mapE f xs with | .error c => Except.error c | .ok ds => Except.ok (d :: ds)) = _
  rw [h2]
theorem mapE_er {α : Type} {f : α → Except Value Dt} {x : α} {xs : List α} {c : Value} (h : f x = .error c) : mapE f (x :: xs) = .error c := by
  unfold mapE
  rw [h]
theorem mapE_er2 {α : Type} {f : α → Except Value Dt} {x : α} {xs : List α} {d : Dt} {c : Value} (h : f x = .ok d) (h2 : mapE f xs = .error c) : mapE f (x :: xs) = .error c := by
  unfold mapE
  rw [h]
  show (match mapE f xs with | .error c => Except.error c | .ok ds => Except.ok (d :: ds)) = _
  rw [h2]
theorem mapE_snoc {α : Type} {f : α → Except Value Dt} {y : α} {d : Dt} (hy : f y = .ok d) : ∀ {xs : List α} {ds : List Dt}, mapE f xs = .ok ds → mapE f (xs ++ [y]) = .ok (ds ++ [d])
  | [], ds, h => by cases h; exact mapE_ok hy rfl
  | x :: xs, ds, h => by
    cases e : f x with
    | error c => rw [mapE_er e] at h; cases h
    | ok d1 =>
      cases e2 : mapE f xs with
      | error c => rw [mapE_er2 e e2] at h; cases h
      | ok ds1 =>
        rw [mapE_ok e e2] at h
        cases h
        exact mapE_ok e (mapE_snoc hy e2)
theorem mapE_stop {α : Type} {f : α → Except Value Dt} {y : α} {zs : List α} {c : Value} (hy : f y = .error c) : ∀ {xs : List α} {ds : List Dt}, mapE f xs = .ok ds → mapE f (xs ++ y :: zs) = .error c
  | [], ds, h => mapE_er hy
  | x :: xs, ds, h => by
    cases e : f x with
    | error c => rw [mapE_er e] at h; cases h
    | ok d1 =>
      cases e2 : mapE f xs with
      | error c => rw [mapE_er2 e e2] at h; cases h
      | ok ds1 => exact mapE_er2 e (mapE_stop hy e2)
theorem mapE_len {α : Type} {f : α → Except Value Dt} : ∀ {xs : List α} {ds : List Dt}, mapE f xs = .ok ds → ds.length = xs.length
  | [], ds, h => by cases h; rfl
  | x :: xs, ds, h => by
    cases e : f x with
    | error c => rw [mapE_er e] at h; cases h
    | ok d1 =>
      cases e2 : mapE f xs with
      | error c => rw [mapE_er2 e e2] at h; cases h
      | ok ds1 =>
        rw [mapE_ok e e2] at h
        cases h
        simp [mapE_len e2]
section
variable [TabL] {K : PySem.W.Frag} {ρ : List Sl} {te : TE} {E : XK}
theorem eve_lc {α : Type} {wi : TI} {g : TG} {tt : TT} {vs : List Nat} {xs : List α} {enc : α → Dt} (hi : EvI K wi ρ (xs.map enc)) (hl : xs.length ≤ 1000000) (f : α → Except Value Dt) (ρ2 : α → List Sl)
    (hb : ∀ x ∈ xs, EvG K g vs (enc x) (cset ρ vs) (ρ2 x) ∧ EvT K tt (ρ2 x) true ∧ EvE K E te (ρ2 x) (f x)) : EvE K E (tLc wi g tt te vs) ρ (listE (mapE f xs)) := fun M0 H0 σ H T Q s q qx => by
  refine hi M0 H0 σ H T _ s fun J H1 Ti s1 it => fun D nD => ?_
  obtain ⟨M1, st1⟩ := id s1
  let Pv : Nat → Hp → Prop := fun i H => ∃ ds, mapE f (xs.take i) = .ok ds ∧ Sta K M0 H0 (σ ++ [some (.ref D)]) H (ρ ++ [.own ds]) (Ti ++ T)
  refine ⟨fun i m H => m = xs.length - i ∧ i ≤ xs.length ∧ Pv i H, ⟨xs.length, by simp, Nat.zero_le _, [], rfl, M1, st1.newO nD .nil⟩, ?_⟩
  rintro i m H2 ⟨rfl, hle, ds, hds, P⟩
  by_cases hlt : i < xs.length
  · right
    obtain ⟨M2, st2⟩ := id P
    have hσ : σ.length = ρ.length := by have := st2.len; simpa using this
    have hD := st2.slot ρ.length (.own ds) (by simp)
    rw [← hσ] at hD
    obtain ⟨v, ev, a, acc, e2, n0, nM, hH, hd⟩ := hD
    rw [List.getElem?_concat_length] at ev
    cases ev
    cases e2
    have lacc : acc.length ≤ 1000000 := by
      rw [hd.len, mapE_len hds, List.length_take]
      omega
    have blk := (st2.pop).blk vs
    have gx : (xs.map enc)[i]? = some (enc xs[i]) := by rw [List.getElem?_map, List.getElem?_eq_getElem hlt]; rfl
    obtain ⟨go, yl⟩ := it.go M2 H2 _ _ _ T i _ ⟨M2, blk⟩ gx
    obtain ⟨b1, b2, b3⟩ := hb xs[i] (List.getElem_mem hlt)
    have back : ∀ {H4 : Hp} {σ' : L2.St} {ρ' : List Sl} {T' : List (V × Dt)}, Sta K M2 H2 σ' H4 ρ' T' → (∀ p ∈ Ti ++ T, p ∈ T') → ∃ M4, StM K M0 H0 (σ ++ [some (.ref D)]) H4 (ρ ++ [.own ds]) (Ti ++ T) M4 ∧ H4 D = some (.lst acc) ∧ ∀ p ∈ T', Dn K M4 p.1 p.2 := fun s4 hs => by
      obtain ⟨M4, st4⟩ := s4
      exact ⟨M4, st2.grow st4.bs fun p hp => st4.tmp p (hs p hp), (st4.bs.far D _ nM hH (st2.bs.kn.notT hH)).2, st4.tmp⟩
    refine ⟨go, Pv (i + 1), fun H' P' => ⟨xs.length - (i + 1), by omega, rfl, hlt, P'⟩, fun x H3 y => ?_⟩
    refine b1 M2 H2 _ _ _ x _ (yl x H3 y) (by simp) fun σ2 H4 s4 k => ⟨?_, ?_⟩
    · exact wipe_same (by rw [k.1, wipe_length]) fun j hj => (k.2 j hj).trans (wipe_out hj)
    · refine b2 M2 H2 σ2 H4 _ _ s4 fun H5 s5 => ?_
      rw [if_pos rfl]
      refine b3 M2 H2 σ2 H5 _ _ s5 (fun d hfd w H6 s6 => ?_) fun c hfc H6 ⟨M6, b6⟩ => ?_
      · obtain ⟨M6, st6, hD6, tm⟩ := back s6 fun p hp => by simp [hp]
        refine ⟨acc, hD6, by rw [sizeLine_eq]; omega, ds ++ [d], ?_, ?_⟩
        · rw [List.take_add_one, List.getElem?_eq_getElem hlt]
          exact mapE_snoc hfd hds
        · have z := st6.updO (i := ρ.length) (a := D) (vs := acc ++ [w]) (ds := ds ++ [d]) (es := ds) (by simp) (by rw [← hσ]; simp) ?_
          · have eset : (ρ ++ [Sl.own ds]).set ρ.length (.own (ds ++ [d])) = ρ ++ [.own (ds ++ [d])] := by simp
            rw [eset] at z
            exact ⟨M6, z⟩
          · have z6 := st6.slot ρ.length (.own ds) (by simp)
            rw [← hσ, List.getElem?_concat_length] at z6
            obtain ⟨_, e5, a6, vs6, e6, _, _, h6, d6⟩ := z6
            cases e5
            cases e6
            rw [hD6] at h6
            cases h6
            exact d6.app (.cons (tm (w, d) (by simp)) .nil)
      · refine qx c ?_ H6 ⟨M6, st2.bs.trans b6⟩
        have e : xs = xs.take i ++ xs[i] :: xs.drop (i + 1) := by simp
        rw [e, mapE_stop hfc hds]; rfl
  · left
    have e : i = xs.length := by omega
    subst e
    rw [List.take_length] at hds
    refine ⟨?_, ?_⟩
    · obtain ⟨M2, st2⟩ := id P
      exact it.stop M0 H0 σ H2 ρ T _ ⟨M2, st2.pop⟩ (by simp)
    · have P2 := P.frzL
      exact q (.list ds) (by rw [hds]; rfl) _ H2 (P2.same_sub fun p hp => by
        rcases List.mem_cons.mp hp with e | hp
        · simp [e]
        · simp [hp])
end
end Fr
namespace Fr
open PySem PySem.Spec PyProof.Rows L2
variable [TabL]
section
variable {K : PySem.W.Frag} {ρ : List Sl} {te ta tb : TE} {E : XK} {d : Dt}
/-- len(a) -/
theorem rc_lenStr {a : Str} (h : a.length ≤ 1000000) : RC K (fun xs H Q => ∃ z, xs = [.str z] ∧ z.length ≤ sizeLine ∧ Q (.int z.length) H) [.str a] (.int (a.length : Nat)) := fun M0 H0 σ H ρ T Q vs s m l q => rc_one l m fun v e hv => by
  obtain ⟨M, st⟩ := id s
  exact ⟨a, by rw [e, (st.at hv).str_inv], by rw [sizeLine_eq]; omega, q _ H (s.add fun M _ => .int _)⟩
/-- a[lo:hi], a a text -/
theorem ev_slS {tl th : TO} {a : Str} {lo hi : Option Int} (h : Ev K te ρ (.str a)) (h1 : EvO K tl ρ lo) (h2 : EvO K th ρ hi) (hz : a.length ≤ 1000000) : Ev K (tSl rSlS te tl th) ρ (.str (cutS a lo hi)) := fun M0 H0 σ H T Q s q =>
  h M0 H0 σ H T _ s fun v H1 s1 => h1 M0 H0 σ H1 _ _ s1 fun H2 s2 => h2 M0 H0 σ H2 _ _ s2 fun H3 s3 => by
    obtain ⟨M, st⟩ := id s3
    obtain rfl := (st.at (v := v) (d := .str a) mem1).str_inv
    exact ⟨a, rfl, by rw [sizeLine_eq]; omega, q _ H3 (s3.put1 fun M => .str _)⟩
/-- the signs of a text -/
def signs (a : Str) : List Dt := a.cps.toList.map fun c : Nat => PyData.str ⟨#[c]⟩
theorem it_str {a : Str} : ItOk K (Its a) [] (signs a) where
  go := fun M0 H0 σ H ρ T i d s e => by
    unfold signs at e
    rw [List.getElem?_map] at e
    cases q : a.cps.toList[i]? with
    | none => rw [q] at e; cases e
    | some c =>
      rw [q] at e
      cases e
      have hl : i < a.cps.size := by have := (List.getElem?_eq_some_iff.mp q).1; simpa using this
      refine ⟨hl, fun x H' y => ?_⟩
      obtain ⟨rfl, c2, h1, rfl⟩ := y
      have e2 : c2 = c := by
        rw [← Array.getElem?_toList, q] at h1
        exact (Option.some.inj h1).symm
      subst e2
      exact s.add fun M _ => .str _
  stop := fun M0 H0 σ H ρ T i s l => by
    show a.cps.size ≤ i
    unfold signs at l
    rw [List.length_map, Array.length_toList] at l
    omega
theorem ei_str {a : Str} (h : Ev K te ρ (.str a)) : EvI K (iStr te) ρ (signs a) := fun M0 H0 σ H T R s q => h M0 H0 σ H T _ s fun v H1 s1 => by
  obtain ⟨M, st⟩ := id s1
  obtain rfl := (st.at (v := v) (d := .str a) mem1).str_inv
  exact ⟨a, rfl, q _ H1 [] (s1.same_sub fun p hp => by
    have hp : p ∈ T := by simpa using hp
    simp [hp]) it_str⟩
/-- (e, f), both of which may raise -/
def pairE (r r2 : Except Value Dt) : Except Value Dt := match r with
  | .error c => .error c
  | .ok d => match r2 with
    | .error c => .error c
    | .ok e => .ok (.tuple [d, e])
theorem eve_pair {r r2 : Except Value Dt} (h1 : EvE K E ta ρ r) (h2 : EvE K E tb ρ r2) : EvE K E (tTup (tCons ta (tCons tb tNil))) ρ (pairE r r2) := fun M0 H0 σ H T Q s q qx =>
  h1 M0 H0 σ H T _ s (fun d hd v H1 s1 => h2 M0 H0 σ H1 _ _ s1 (fun e he w H2 s2 => by
    refine ⟨by rw [sizeLine_eq]; show 2 ≤ _; omega, fun p hp => ?_⟩
    obtain ⟨M, st⟩ := id s2
    have b := bs_new (o := .tup [v, w]) st.bs.kn hp
    have dv := (st.at (v := v) (d := d) (by simp)).mono b.mm
    have dw := (st.at (v := w) (d := e) (by simp)).mono b.mm
    refine q (.tuple [d, e]) (by rw [hd, he]; rfl) _ _ ⟨_, st.grow b fun p' hp' => ?_⟩
    rcases List.mem_cons.mp hp' with e1 | hp'
    · subst e1; exact .tup (.inl (.inl upd_same)) (.cons dv (.cons dw .nil))
    · exact (st.tmp p' (by simp [hp'])).mono b.mm) fun c hc H2 a => qx c (by rw [hd, hc]; rfl) H2 a) fun c hc H1 a => qx c (by rw [hc]; rfl) H1 a
/-- x if c else y, where these may raise -/
theorem eve_if {t : TT} {b : Bool} {r r2 : Except Value Dt} (h : EvT K t ρ b) (h1 : b = true → EvE K E ta ρ r) (h2 : b = false → EvE K E tb ρ r2) : EvE K E (tIf t ta tb) ρ (if b then r else r2) := fun M0 H0 σ H T Q s q qx => h M0 H0 σ H T _ s fun H' s' => by
  cases b with
  | true => exact h1 rfl M0 H0 σ H' T Q s' q qx
  | false => exact h2 rfl M0 H0 σ H' T Q s' q qx
end
end Fr
namespace Fr
open PySem PySem.Spec PyProof.Rows L2
theorem atI_c0 {α : Type} (x : α) (xs : List α) : atI (x :: xs) 0 = some x := by
  unfold atI ixN
  rw [if_pos (by decide), if_pos (by simp only [List.length_cons]; omega)]; rfl
theorem atI_c1 {α : Type} (x y : α) (xs : List α) : atI (x :: y :: xs) 1 = some y := by
  unfold atI ixN
  rw [if_pos (by decide), if_pos (by simp only [List.length_cons]; omega)]; rfl
theorem atI_c2 {α : Type} (x y z : α) (xs : List α) : atI (x :: y :: z :: xs) 2 = some z := by
  unfold atI ixN
  rw [if_pos (by decide), if_pos (by simp only [List.length_cons]; omega)]; rfl
theorem atI_c3 {α : Type} (x y z u : α) (xs : List α) : atI (x :: y :: z :: u :: xs) 3 = some u := by
  unfold atI ixN
  rw [if_pos (by decide), if_pos (by simp only [List.length_cons]; omega)]; rfl
/-! tuple * 0, tuple * 1 -/
theorem tup_mul1 (l : Addr) (items : Array Value) (n : Nat) (dd : Option Addr) (sl : Array (Option Value)) (u : Tok) :
    Meets (Builtin.«tuple.__mul__» ⟨[.ref l, .int 1 u], []⟩) (fun _ R s => s.heap.get? l = some { cls := .type "tuple", dict := dd, data := .seq items n, slots := sl } ∧ R (.ok (.ret (Value.ref l))) s) :=
  .of_wp fun prog w A R s h => by
    obtain ⟨hp, g, d, tk, os⟩ := s
    obtain ⟨hl, h⟩ := h
    have f1 := AutoSeq1.idx_int
    wp_walk using wpAny_loadPart' hl
    repeat (first
      | (refine wpAny_ite_false (by decide) ?_; wp_walk using wpAny_loadPart' hl)
      | (refine wpAny_ite_true (by simp) ?_; wp_walk using wpAny_loadPart' hl))
    exact ⟨_, rfl, h⟩
theorem tup_mul0 (l : Addr) (items : Array Value) (n : Nat) (dd : Option Addr) (sl : Array (Option Value)) (u : Tok) (hne : items.isEmpty = false) :
    Meets (Builtin.«tuple.__mul__» ⟨[.ref l, .int 0 u], []⟩) (fun _ R s => s.heap.get? l = some { cls := .type "tuple", dict := dd, data := .seq items n, slots := sl } ∧
      R (.ok (.ret (Value.ref s.heap.objs.size))) { s with heap := s.heap.push { cls := Value.type "tuple", data := Data.seq #[] }, toks := s.toks }) :=
  .of_wp fun prog w A R s h => by
    obtain ⟨hp, g, d, tk, os⟩ := s
    obtain ⟨hl, h⟩ := h
    have f1 := AutoSeq1.idx_int
    wp_walk using wpAny_loadPart' hl
    repeat (first
      | (refine wpAny_ite_false (by simp [hne]) ?_; wp_walk using wpAny_loadPart' hl)
      | (refine wpAny_ite_true (by simp) ?_; wp_walk using wpAny_loadPart' hl))
    exact ⟨_, rfl, h⟩

section
variable {X : Cx}
def rRep01 (K : PySem.W.Frag) : R2 := fun x y H Q => ∃ l k xs, x = .ref l ∧ y = .int k ∧ SqT K H l xs ∧ xs ≠ [] ∧ ((k = 1 ∧ Q (.ref l) H) ∨ (k = 0 ∧ ∀ p, H p = none → Q (.ref p) (upd H p (.tup []))))
theorem op_rep01 : OpR X (binaryOp .Mult) (rRep01 X.K) := by
  intro pins s σ H x y v u Q I rx ry h
  obtain ⟨l, k, xs, rfl, rfl, hT, hne, q⟩ := h
  cases rx
  obtain ⟨t, rfl⟩ := ry
  obtain ⟨its, r, ⟨⟨cls, dd, data, sl⟩, ho, hc, n, hd⟩, hs⟩ := I.tuple hT
  simp only at hc hd
  subst hc hd
  have hi : its.toArray.isEmpty = false := by
    cases its with
    | nil => cases r; exact absurd rfl hne
    | cons a b => rfl
  refine wpAny_binaryOp_repeat_ref (T := "tuple") (U := "int") (by decide) ⟨_, ho, rfl⟩ (fun s' => typeIs_int s' k t) noFill_tuple_mul F.fills_int_mul F.slot_int_rmul repeat_tuple F.slot_int_index.lookup
    (call_meets F.slot_int_rmul (typeIs_int s k t) F.entry_int_rmul (F.args_int_rmul_2 _ _) (int_rmul_tuple k t l its.toArray n dd sl) ⟨ho, rfl, ⟨_, ho, rfl⟩, ?_⟩)
  rcases q with ⟨rfl, q⟩ | ⟨rfl, q⟩
  · refine call_meets F.slot_tuple_mul ⟨_, ho, rfl⟩ F.entry_tuple_mul (F.args_tuple_mul_2 _ _) (tup_mul1 l its.toArray n dd sl t) ⟨ho, ?_⟩
    exact ⟨.ref l, _, I, rfl, q⟩
  · refine call_meets F.slot_tuple_mul ⟨_, ho, rfl⟩ F.entry_tuple_mul (F.args_tuple_mul_2 _ _) (tup_mul0 l its.toArray n dd sl t hi) ⟨ho, ?_⟩
    exact ⟨.ref s.heap.objs.size, _, I.laid (t' := s.toks) (o := .tup []) (fun b ob q => Heap.get?_push_of_some _ q) (Nat.le_refl _) ⟨Nat.zero_le _, [], .nil, IsTup.new _ _⟩, rfl, q _ (I.hok.fresh (Nat.le_refl _))⟩
theorem op_rep01K {K : PySem.W.Frag} (h : X.K = K) : OpR X (binaryOp .Mult) (rRep01 K) := h ▸ op_rep01
/-! a dict of the top -/
variable {d : Addr} {es : Array DictEntry} {n : Nat}
theorem ix_kd (D : KDict X.K X.w d es n) : IxR X (fun x y H Q => ∃ (z : Str) (u0 : Value) (v0 : V), x = .ref d ∧ y = .str z ∧ PySem.W.nsIn X.K d z = some (some u0) ∧ RelV v0 u0 ∧ Q v0 H) := by
  intro value slice pins s σ H x y v u Q I rx ry h hs
  have h0 := h
  obtain ⟨z, u0, v0, ex, ey, e, r, q⟩ := h
  have e1 : v = Value.ref d := by rw [ex] at rx; exact rx
  subst e1
  refine tail_any (kd_type D I) PySem.F.slot_dict_getitem.lookup ?_ hs
  exact op_item_kd D pins s σ H x y _ u Q I rx ry h0
end
section
variable [TabL] {K : PySem.W.Frag} {ρ : List Sl} {te tb : TE} {E : XK}
theorem rv_rep01 {ds : List Dt} {b : Bool} (hn : ds ≠ []) : RV K (rRep01 K) (.tuple ds) (.int (if b then 1 else 0)) (.tuple (if b then ds else [])) := fun M0 H0 σ H ρ T Q vx vy s m1 m2 q => by
  obtain ⟨M, st⟩ := id s
  obtain ⟨a, vs, rfl, k1, k2⟩ := (st.at m1).tup_inv
  have nv : vs ≠ [] := fun z => hn (by
    have l := k2.len
    rw [z] at l
    exact List.eq_nil_of_length_eq_zero l.symm)
  refine ⟨a, _, vs, rfl, (st.at m2).int_inv, sqT_mono st.bs.mh k1, nv, ?_⟩
  cases b with
  | true => exact .inl ⟨rfl, q _ H (s.same_sub fun p hp => (List.mem_cons.mp hp).elim (fun e => e ▸ m1) id)⟩
  | false =>
    refine .inr ⟨rfl, fun p hp => ?_⟩
    have b := bs_new (o := .tup []) st.bs.kn hp
    refine q _ _ ⟨_, st.grow b fun p' hp' => ?_⟩
    rcases List.mem_cons.mp hp' with e | hp'
    · subst e; exact .tup (.inl (.inl upd_same)) .nil
    · exact (st.tmp p' hp').mono b.mm
/-- tuple(xs), xs a list of ours -/
theorem ev_tupO {i : Nat} {ds : List Dt} (h : ρ[i]? = some (.own ds)) : Ev K (tCB (rTupQ K) (tCons (tVar i) tNil)) ρ (.tuple ds) := fun M0 H0 σ H T Q s q => by
  obtain ⟨a, vs, M, e1, h1, st, hd⟩ := s.own h
  refine ⟨_, e1, a, vs, rfl, .inl ⟨SqL.of h1, fun p hp => ?_⟩⟩
  have b := bs_new (o := .tup vs) st.bs.kn hp
  refine q _ _ ⟨_, st.grow b fun p' hp' => ?_⟩
  rcases List.mem_cons.mp hp' with e | hp'
  · subst e; exact .tup (.inl (.inl upd_same)) (hd.mono b.mm)
  · exact (st.tmp p' hp').mono b.mm
/-- a, b, c = [..], e, [..] -/
theorem wp_par3NVN {P : Out → Prop} {i j l : Nat} {te1 te2 te3 : TE} {ds1 ds3 : List Dt} {d2 : Dt} (h1 : EvN K te1 ρ ds1) (h2 : Ev K te2 (ρ.map Fr.hid) d2) (h3 : EvN K te3 (ρ.map Fr.hid) ds3) (hij : i ≠ j) (hil : i ≠ l) (hjl : j ≠ l) (hi : i < ρ.length) (hj : j < ρ.length) (hl : l < ρ.length)
    (h : P (.nx (((ρ.set i (.own ds1)).set j (.va d2)).set l (.own ds3)))) : Wp K E (tPar3 i j l (tCons te1 (tCons te2 (tCons te3 tNil)))) ρ P := fun M0 H0 T σ H D s f => h1 M0 H0 σ H T _ s fun p H1 s1 => by
  obtain ⟨M1, st1⟩ := s1
  have hln : σ.length = ρ.length := by have := st1.len; simpa using this
  refine h2 M1 H1 σ H1 T _ ⟨M1, st1.pop.less (less_hid ρ)⟩ fun v2 H2 s2 => ?_
  obtain ⟨M2, st2⟩ := s2
  have g := st1.grow st2.bs st2.tmp
  refine h3 M2 H2 σ H2 _ _ ⟨M2, g.pop.less (less_hid ρ)⟩ fun q H3 s3 => ?_
  have a := (Sta.two (p := p) (ds1 := ds1) g s3 (by simp [hln])).moveO l
  rw [List.set_append_left _ _ (by omega), List.set_append_left _ _ (by omega)] at a
  have b := a.moveO i
  have c := b.set (i := j) (v := v2) (d := d2) mem1
  have e : ∀ {α : Type} (xs : List α) (u v w : α), ((xs.set l w).set i u).set j v = ((xs.set i u).set j v).set l w := fun xs u v w => by
    rw [List.set_comm _ _ hil.symm, List.set_comm _ _ hjl.symm]
  rw [e, e] at c
  exact ⟨_, _, _, rfl, f _ h _ H3 (c.same_sub fun p hp => by simp [hp])⟩

def rNotD (K : PySem.W.Frag) (d : Addr) : R2 := fun x y H Q => ∃ (z : Str) (r : Option Value), x = .str z ∧ y = .ref d ∧ PySem.W.nsIn K d z = some r ∧ Q (.bl (!r.isSome)) H
def rInD (K : PySem.W.Frag) (d : Addr) : R2 := fun x y H Q => ∃ (z : Str) (r : Option Value), x = .str z ∧ y = .ref d ∧ PySem.W.nsIn K d z = some r ∧ Q (.bl r.isSome) H
def rItemD (K : PySem.W.Frag) (d : Addr) : R2 := fun x y H Q => ∃ (z : Str) (u0 : Value) (v0 : V), x = .ref d ∧ y = .str z ∧ PySem.W.nsIn K d z = some (some u0) ∧ RelV v0 u0 ∧ Q v0 H
/-- what a dict of the top holds -/
def DicAt (K : PySem.W.Frag) (a : Addr) (kvs : List (Str × Int)) : Prop := ∀ z, match kvs.lookup z with
  | some i => ∃ u, PySem.W.nsIn K a z = some (some u) ∧ RelV (.int i) u
  | none => PySem.W.nsIn K a z = some none
def KDs (w : World) (K : PySem.W.Frag) (x : Str) : Prop := ∃ es n, KDict K w (He.ga K x) es n
theorem ev_notInD {d : Addr} {kvs : List (Str × Int)} {z : Str} (A : DicAt K d kvs) (h : Ev K te ρ (.str z)) : Ev K (tOp (rNotD K d) te (tC (.ref d))) ρ (.bool (!(kvs.lookup z).isSome)) := fun M0 H0 σ H T Q s q => h M0 H0 σ H T _ s fun v H1 s1 => by
  obtain ⟨M, st⟩ := id s1
  have a := A z
  cases e : kvs.lookup z with
  | none =>
    rw [e] at a q
    exact ⟨z, none, (st.at mem1).str_inv, rfl, a, q _ H1 ((s1.same_sub fun p hp => by simp [hp]).add fun M _ => .bl _)⟩
  | some i =>
    rw [e] at a q
    obtain ⟨u, a, _⟩ := a
    exact ⟨z, some u, (st.at mem1).str_inv, rfl, a, q _ H1 ((s1.same_sub fun p hp => by simp [hp]).add fun M _ => .bl _)⟩
theorem ev_itemD {d : Addr} {kvs : List (Str × Int)} {z : Str} {i : Int} (A : DicAt K d kvs) (h : Ev K te ρ (.str z)) (hi : kvs.lookup z = some i) : Ev K (tOp (rItemD K d) (tC (.ref d)) te) ρ (.int i) := fun M0 H0 σ H T Q s q => h M0 H0 σ H T _ s fun v H1 s1 => by
  obtain ⟨M, st⟩ := id s1
  have a := A z
  rw [hi] at a
  obtain ⟨u, a, r⟩ := a
  exact ⟨z, u, .int i, rfl, (st.at mem1).str_inv, a, r, q _ H1 ((s1.same_sub fun p hp => by simp [hp]).add fun M _ => .int _)⟩
end
theorem find_no {K : PySem.W.Frag} {P : Params} {z : Str} : ∀ {l : List DictEntry} {ks : List Str}, l.map He.keyOf = He.keysIn P ks → z ∉ ks → l.find? (·.key.isStr z) = none ∧ l.any (·.refKey) = false
  | [], _, _, _ => ⟨rfl, rfl⟩
  | e :: r, [], h, _ => by cases h
  | e :: r, k :: ks, h, n => by
    have h1 : He.keyOf e :: r.map He.keyOf = some (k, PyData.keyHash P k) :: He.keysIn P ks := h
    injection h1 with h2 h3
    obtain ⟨a, b⟩ := find_no (K := K) h3 fun m => n (List.mem_cons_of_mem _ m)
    unfold He.keyOf at h2
    split at h2
    · rename_i x t q
      obtain ⟨h5, h6⟩ := Prod.mk.inj (Option.some.inj h2)
      subst h5
      have ne : ¬ x = z := fun y => n (by rw [y]; exact List.mem_cons_self)
      have c : e.key.isStr z = false := by rw [q]; simp [Value.isStr, ne]
      have d : e.refKey = false := by unfold DictEntry.refKey; rw [q]
      exact ⟨by rw [List.find?_cons, c]; exact a, by rw [List.any_cons, d, b, Bool.or_false]⟩
    · cases h2
theorem lookup_mem {α : Type} : ∀ {l : List (Str × α)} {z : Str} {i : α}, l.lookup z = some i → (z, i) ∈ l
  | (k, v) :: r, z, i, h => by
    rw [List.lookup_cons] at h
    cases q : z == k with
    | true => rw [q] at h; cases h; rw [eq_of_beq q]; exact List.mem_cons_self
    | false => rw [q] at h; exact List.mem_cons_of_mem _ (lookup_mem h)
theorem lookup_no {α : Type} : ∀ {l : List (Str × α)} {z : Str}, l.lookup z = none → z ∉ l.map (·.1)
  | [], _, _ => by simp
  | (k, v) :: r, z, h => by
    rw [List.lookup_cons] at h
    cases q : z == k with
    | true => rw [q] at h; cases h
    | false =>
      rw [q] at h
      simp only [List.map_cons, List.mem_cons, not_or]
      exact ⟨fun e => by rw [e] at q; simp at q, lookup_no h⟩
theorem dicAt_of {fa : List He.Fa} {fn : List He.DefD} {ts : List He.Tab} {w : World} {K : PySem.W.Frag} {x : Str} {kvs : List (Str × Int)} (c : He.SaysT fa fn ts w K) (i : Nat) (h : ts[i]? = some ((fun K => He.ga K x), kvs.map (·.1)))
    (hv : He.valsB K (He.ga K x) (kvs.map fun q => (q.1, He.Dv.int q.2)) = true) : DicAt K (He.ga K x) kvs := by
  have e : ts.map (fun t => He.dicW K (t.1 K)) = ts.map fun t => some (He.keysIn w.params t.2) := congrArg (fun z : He.AlT => z.2) c
  have e2 : (ts.map fun t => He.dicW K (t.1 K))[i]? = (ts.map fun t => some (He.keysIn w.params t.2))[i]? := by rw [e]
  rw [List.getElem?_map, List.getElem?_map, h] at e2
  have e3 : He.dicW K (He.ga K x) = some (He.keysIn w.params (kvs.map (·.1))) := Option.some.inj e2
  intro z
  cases q : kvs.lookup z with
  | some i =>
    obtain ⟨u, h1, h2⟩ := He.valsB_ok hv (q := (z, He.Dv.int i)) (List.mem_map.mpr ⟨(z, i), lookup_mem q, rfl⟩)
    exact ⟨u, h1, h2⟩
  | none =>
    have nz := lookup_no q
    show PySem.W.nsIn K (He.ga K x) z = some none
    unfold He.dicW at e3
    unfold PySem.W.nsIn
    cases lk : K.lookup (He.ga K x) with
    | none => rw [lk] at e3; cases e3
    | some o =>
      obtain ⟨oc, od, dt, osl⟩ := o
      rw [lk] at e3
      cases oc with
      | type c =>
        cases od with
        | none =>
          cases dt with
          | dict es n =>
            have h1 : (match decide (c = "dict") && (osl.isEmpty && !(He.ga K x == sysModules)) with
              | true => some (es.toList.map He.keyOf)
              | false => none) = some (He.keysIn w.params (kvs.map (·.1))) := e3
            split at h1
            · obtain ⟨a, b⟩ := find_no (K := K) (Option.some.inj h1) nz
              show (match es.toList.find? (·.key.isStr z) with | some e => some (some e.val) | none => if es.toList.any (·.refKey) then none else some none) = some none
              rw [a]
              show (if es.toList.any (·.refKey) then none else some none) = some none
              rw [b, if_neg (by decide)]
            · cases h1
          | _ => cases e3
        | some b => cases dt <;> cases e3
      | _ => cases od <;> cases dt <;> cases e3
end Fr
namespace L2
open PySem PySem.Spec PyProof.Rows
section
variable {X : Cx}
theorem Room.units65 {k : Nat} {A : Around} (r : Room k A) : A.units + 65 < cLine := by have := r.un; omega
theorem call_tupP : CallR X (.type "tuple") (fun xs H Q => ∃ p ys, xs = [.ref p] ∧ SqL X.K H p ys ∧ ∀ l ob, H l = none → ob.cls = .type "tuple" → ob.dict = none → Q (.ref l) (upd H l (.frz ob (.tup ys)))) := by
  intro pins s σ H xs us Q I r h
  obtain ⟨p, ys, rfl, hq, q⟩ := h
  obtain ⟨u, rfl, rx⟩ := vals1 r
  cases rx
  obtain ⟨its, r', pl, hz⟩ := I.list hq
  have hlen := r'.length
  refine call_tuple_list pl.isList (fun h' kp => ?_) (by simp only [List.size_toArray] <;> omega)
  have I1 : Inv X pins σ H { s with heap := h' } := I.kept (t' := s.toks) kp
  have I2 : Inv X pins σ (upd H h'.objs.size (.frz { cls := .type "tuple", data := .seq its.toArray } (.tup ys))) { s with heap := h'.push { cls := .type "tuple", data := .seq its.toArray } } :=
    I1.laid (t' := s.toks) (fun b o e => Heap.get?_push_of_some _ e) (Nat.le_refl _) (show ObjOk X.prog X.w _ _ _ (.frz _ (.tup ys)) from ⟨by obtain ⟨o, e, _⟩ := IsTup.new h' its.toArray; simp [Heap.get?, Heap.push], hz, its, r', IsTup.new _ _⟩)
  exact ⟨.ref h'.objs.size, _, I2, rfl, q _ _ (I1.hok.fresh (Nat.le_refl _)) rfl rfl⟩
/-- o.m(..), o such a tuple -/
def tBMp (T : String) (r : V → List V → Hp → VK → Prop) (to : TE) (t : TA) : TE := fun σ H Q => to σ H fun x H1 => (∃ p ob u, x = .ref p ∧ H1 p = some (.frz ob u) ∧ ob.cls = .type T ∧ ob.dict = none) ∧ t σ H1 fun xs H2 => r x xs H2 Q
variable {o e : Expr} {es : List Expr} {to : TE} {t : TA} {name : Str} {apos cpos : Pos} {T id : String} {r : V → List V → Hp → VK → Prop}
theorem pe_bmP (pa : PlainAttrs T) (slot : Slot T name id) (hty : typeOf (.builtin id) = pure (.type "method_descriptor")) (hm : MtR X id r) (ho : PE X o to) (ha : PA X (e :: es) t)
    (hbase : attributeBase o name X.env (eval o X.env) = eval o X.env := by rfl)
    (hfew : ((backTo cpos (starEach (e :: es) X.env)).all (fun x => !x.1) && (backToKw cpos (keywordEach [] X.env)).all (fun x => x.1.isSome)
      && decide ((e :: es).length + ([] : List Keyword).length + (if ([] : List Keyword).isEmpty then 0 else 1) < 30)) = true := by rfl)
    (hline : (apos.endLine == cpos.line) = true := by rfl) (hs : starEach (e :: es) X.env = (false, eval e X.env) :: starEach es X.env := by rfl) (hplain : (backTo cpos (starEach es X.env)).any (·.1) = false := by rfl) :
    PE X (.Call (.Attribute o name apos) (e :: es) [] cpos) (tBMp T r to t) := by
  refine ⟨fun pins s σ H Q I h => ?_⟩
  refine wpAny_Call_method_late hbase hfew hline rfl (thn (ho.run pins s σ H _ I h) fun v s1 ⟨x, H1, I1, r1, ty, q1⟩ => ?_)
  obtain ⟨p, ob, u, rfl, hp, hc, hd⟩ := ty
  cases r1
  have hg : s1.heap.get? p = some ob := (show ObjOk X.prog X.w H1 s1.heap p (.frz ob u) from I1.hok p _ hp).1
  refine ⟨T, id, pa, slot, hty, ⟨ob, hg, hc⟩, fun a ea => by cases ea; exact ⟨ob, hg, hd⟩, ?_⟩
  have hA := ha.run cpos pins s1 σ H1 _ I1 q1
  rw [hs] at hA ⊢
  refine Calls.callWith_builtin (by show (false || (backTo cpos (starEach es X.env)).any (·.1)) = false; rw [hplain] <;> rfl) (Calls.evalArgs_plain ?_)
  exact thn hA fun us s2 ⟨vs, H2, I2, r2, q2⟩ => hm pins s2 σ H2 (.ref p) vs (.ref p) us Q I2 rfl r2 q2
/-- t.index(k), ints -/
def rTI (K : PySem.W.Frag) : V → List V → Hp → VK → Prop := fun x xs H Q => ∃ p, ∃ ns : List Int, ∃ k, x = .ref p ∧ xs = [.int k] ∧ SqT K H p (ns.map V.int) ∧ k ∈ ns ∧ Q (.int (ns.idxOf k : Nat)) H
theorem mt_tupI : MtR X "tuple.index" (rTI X.K) := by
  intro pins s σ H x xs v us Q I rx rs h
  obtain ⟨p, ns, k, rfl, rfl, hq, hk, q⟩ := h
  cases rx
  obtain ⟨u, rfl, t, rfl⟩ := vals1 rs
  obtain ⟨its, r, pl, hz⟩ := I.tuple hq
  exact PySem.SeqAt.tuple_index_ints pl (intsAre_of r) hk ⟨.int (ns.idxOf k : Nat), H, I.tok _, ⟨_, rfl⟩, q⟩
theorem mt_tupIK {K : PySem.W.Frag} (h : X.K = K) : MtR X "tuple.index" (rTI K) := h ▸ mt_tupI
end
end L2
namespace Fr
open PySem PySem.Spec PyProof.Rows L2
variable [TabL]
def IsPt (K : PySem.W.Frag) (ds : List Dt) (M : Hp) (v : V) : Prop := ∃ a ob vs, v = .ref a ∧ M a = some (.frz ob (.tup vs)) ∧ ob.cls = .type "tuple" ∧ ob.dict = none ∧ DnA K M vs ds
theorem isPt_mono {K : PySem.W.Frag} {ds : List Dt} {M M' : Hp} {v : V} (m : Same M M') (h : IsPt K ds M v) : IsPt K ds M' v := by
  obtain ⟨a, ob, vs, h1, h2, h3, h4, h5⟩ := h
  exact ⟨a, ob, vs, h1, m _ _ h2, h3, h4, h5.mono m⟩
abbrev Sl.pt (K : PySem.W.Frag) (ds : List Dt) : Sl := .fz (IsPt K ds) isPt_mono
theorem IsPt.dn {K : PySem.W.Frag} {ds : List Dt} {M : Hp} {v : V} (h : IsPt K ds M v) : Dn K M v (.tuple ds) := by
  obtain ⟨a, ob, vs, rfl, h2, h3, h4, h5⟩ := h
  exact .tup (.inl (.inr ⟨ob, h2⟩)) h5
/-- such a tuple -/
def EvP (K : PySem.W.Frag) (te : TE) (ρ : List Sl) (ds : List Dt) : Prop := ∀ (M0 H0 : Hp) (σ : L2.St) (H : Hp) (T : List (V × Dt)) (Q : VK), Sta K M0 H0 σ H ρ T → (∀ v H' M, StM K M0 H0 σ H' ρ T M → IsPt K ds M v → Q v H') → te σ H Q
def spP (K : PySem.W.Frag) (Pr : List Dt → Except Value Dt → Prop) : Sp := fun vs H Q E => ∃ (M : Hp) (ds : List Dt) (r : Except Value Dt), Kn M H ∧ DnA K M vs ds ∧ Pr ds r ∧
  ∀ es, r = .ok (.tuple es) → ∀ v H', (∃ M', Bs M H M' H' ∧ IsPt K es M' v) → Q v H'
def FinP (K : PySem.W.Frag) (r : Except Value Dt) : Out → Prop
  | .rp R => ∃ es, r = .ok (.tuple es) ∧ R = IsPt K es
  | _ => False
section
variable {K : PySem.W.Frag} {E : XK} {ρ : List Sl} {ta : TA} {te : TE} {d : Dt} {ds es : List Dt} {P : Out → Prop} {i : Nat}
theorem StM.setF {M0 H0 H M : Hp} {σ : L2.St} {T : List (V × Dt)} {v : V} {F : Hp → V → Prop} {hF} (st : StM K M0 H0 σ H ρ T M) (h : F M v) : StM K M0 H0 (σ.set i (some v)) H (ρ.set i (.fz F hF)) T M := by
  obtain ⟨b, l, sl, di, t⟩ := st
  refine ⟨b, by simp [l], fun j s e => ?_, fun j k ds es a hjk h1 h2 h3 h4 => ?_, t⟩
  · by_cases hj : i = j
    · subst hj
      have hi : i < ρ.length := by
        have := (List.getElem?_eq_some_iff.mp e).1
        simpa using this
      rw [List.getElem?_set_self hi] at e
      cases e
      exact ⟨some v, List.getElem?_set_self (by omega), v, rfl, h⟩
    · rw [List.getElem?_set_ne hj] at e ⊢
      exact sl j s e
  · have nj : i ≠ j := fun z => by
      subst z
      have hi : i < ρ.length := by
        have := (List.getElem?_eq_some_iff.mp h1).1
        simpa using this
      rw [List.getElem?_set_self hi] at h1
      cases h1
    have nk : i ≠ k := fun z => by
      subst z
      have hi : i < ρ.length := by
        have := (List.getElem?_eq_some_iff.mp h2).1
        simpa using this
      rw [List.getElem?_set_self hi] at h2
      cases h2
    rw [List.getElem?_set_ne nj] at h1 h3
    rw [List.getElem?_set_ne nk] at h2 h4
    exact di j k ds es a hjk h1 h2 h3 h4
theorem ev_varPt (h : ρ[i]? = some (.pt K ds)) : Ev K (tVar i) ρ (.tuple ds) := fun M0 H0 σ H T Q s q => by
  obtain ⟨M, st⟩ := s
  obtain ⟨v, e, x, rfl, hx⟩ := st.slot i _ h
  exact ⟨x, e, q x H ⟨M, st.grow (Bs.refl st.bs.kn) fun p hp => (List.mem_cons.mp hp).elim (fun e => e ▸ hx.dn) (st.tmp p)⟩⟩
/-- tuple(xs), xs a list of ours -/
theorem evp_tup (hi : ρ[i]? = some (.own ds)) : EvP K (tCB (fun xs H Q => ∃ p ys, xs = [.ref p] ∧ SqL K H p ys ∧ ∀ l ob, H l = none → ob.cls = .type "tuple" → ob.dict = none → Q (.ref l) (upd H l (.frz ob (.tup ys)))) (tCons (tVar i) tNil)) ρ ds := fun M0 H0 σ H T Q s q => by
  obtain ⟨a, vs, M, e1, hH, st, hd⟩ := s.own hi
  refine ⟨_, e1, a, vs, rfl, SqL.of hH, fun l ob hl hc hdd => ?_⟩
  have b := bs_new (o := .frz ob (.tup vs)) st.bs.kn hl
  exact q _ _ _ (st.grow b fun p hp => (st.tmp p hp).mono b.mm) ⟨l, ob, vs, rfl, upd_same, hc, hdd, hd.mono b.mm⟩
theorem evp_call {Pr : List Dt → Except Value Dt → Prop} (h : EvA K ta ρ ds) (hp : Pr ds (.ok (.tuple es))) : EvP K (tCall (spP K Pr) [] E ta) ρ es := fun M0 H0 σ H T Q s q => h M0 H0 σ H T _ s fun vs H1 s1 l => by
  obtain ⟨M, st, hd⟩ := s1.tmpA (vs := vs) (ds := ds) app_l l
  refine ⟨M, ds, _, st.bs.kn, by rw [List.append_nil]; exact hd, hp, fun es' e v H' ⟨M', b, hv⟩ => ?_⟩
  cases e
  exact q v H' M' (st.grow b fun p hp => (st.tmp p (by simp [hp])).mono b.mm) hv
theorem wp_setP (he : EvP K te ρ es) (h : P (.nx (ρ.set i (.pt K es)))) : Wp K E (tAsg te (gName i)) ρ P := fun M0 H0 T σ H D s f => he M0 H0 σ H T _ s fun v H' M st hv => f _ h _ H' ⟨M, st.setF hv⟩
theorem wp_retP (he : EvP K te ρ es) (h : P (.rp (IsPt K es))) : Wp K E (tRet te) ρ P := fun M0 H0 T σ H D s f => he M0 H0 σ H T _ s fun v H' M st hv => f _ h v H' ⟨M, st.bs, hv⟩
/-- t.index(k) -/
theorem ev_indexPt {ns : List Int} {k : Int} (hi : ρ[i]? = some (.pt K (ns.map PyData.int))) (he : EvA K ta ρ [.int k]) (hk : k ∈ ns) : Ev K (tBMp "tuple" (rTI K) (tVar i) ta) ρ (.int (ns.idxOf k : Nat)) := fun M0 H0 σ H T Q s q => by
  obtain ⟨M, st⟩ := id s
  obtain ⟨v, e, x, rfl, a, ob, vs, rfl, h2, h3, h4, h5⟩ := st.slot i _ hi
  refine ⟨_, e, ⟨a, ob, _, rfl, st.bs.mh _ _ h2, h3, h4⟩, he M0 H0 σ H T _ s fun ws H1 s1 l => ?_⟩
  obtain ⟨M1, st1⟩ := id s1
  obtain ⟨v', e', x', rfl, a', ob', vs', e2, k2, k3, k4, k5⟩ := st1.slot i _ hi
  rw [e] at e'
  cases e'
  cases e2
  match ws, l with
  | [w], _ =>
    have hw : w = .int k := (st1.at (v := w) (d := .int k) (by simp)).int_inv
    have ev := k5.ints
    subst ev
    exact ⟨a, ns, k, rfl, by rw [hw], .inl (.inr ⟨_, st1.bs.mh _ _ k2⟩), hk, q _ H1 ((s1.same_sub fun p hp => by simp [hp]).add fun M _ => .int _)⟩
end
section
variable {P : Program} {w : World} {K : PySem.W.Frag} {mg : Str → Option Value} {base : Heap}
theorem ck_mkP {x : Str} {st : Stmt} {N ps : List Str} {k : Nat} {Pr : List Dt → Except Value Dt → Prop} (D : Df K mg x st ps) (S : FnScope N ps (defScope st)) (hl : ∀ ds r, Pr ds r → ds.length = ps.length)
    (hbody : ∀ (f : Addr) (cdv : Value) (A : Around) (outer : List Env) (s : Shared) (H : Hp) (E : XK) (ds : List Dt) (r : Except Value Dt), Room k (A.deeper (envOfC x (defScope st) s.heap.objs.size f cdv)) → Pr ds r →
      ∃ t, PSs (cxOf (L2N.CX P w) P w K mg base N x (defScope st) f cdv A outer s H E) (defBody st) t ∧ Wp K E t (ds.map Sl.va ++ List.replicate (N.length - ds.length) .no) (Fr.FinP K r)) : Ck P w K mg base x (k + 1) ps (spP K Pr) := by
  obtain ⟨f, fd, F, hm, hb⟩ := D
  refine ⟨f, fd, hm, F.kp, hb, ?_⟩
  obtain ⟨oc, od, kV, doc, pm, an, cdv, ct, osl, rfl, lk, hcd⟩ := F.ex
  have hpN : ps.length ≤ N.length := by have := congrArg List.length S.pre; rw [List.length_take] at this; omega
  refine fn_of lk hcd S (fun vs H Q E h => ?_) fun A outer s H vs Q E hr h => ?_
  · obtain ⟨M, ds, r, _, hd, hp, _⟩ := h
    rw [hd.len, hl ds r hp]
  · obtain ⟨M, ds, r, m, hd, hp, q⟩ := h
    obtain ⟨t, h1, h2⟩ := hbody f cdv A outer s H E ds r hr hp
    refine ⟨t, h1, h2 M H [] _ H _ (sta_start m hd (by rw [hl ds r hp]; exact hpN)) fun o p => ?_⟩
    cases o with
    | rp R => obtain ⟨es, e, rfl⟩ := p; exact fun v H' a => q es e v H' a
    | _ => exact False.elim p
end
end Fr
namespace Fr
open PySem PySem.Spec PyProof.Rows L2 Mx
variable [TabL]
/-! the ring that is due -/
def dueGo (xs : List Nat) : Nat → Nat → Option (Nat × Nat)
  | 0, _ => none
  | f + 1, j => if xs.getD j 1 ∈ xs.take j then some (xs.idxOf (xs.getD j 1), j) else dueGo xs f (j + 1)
def dueF (xs : List Nat) : Option (Nat × Nat) := dueGo xs xs.length 0
theorem Row.at_end {ps : List (Nat × Nat)} {n m : Nat} {xs : List Nat} (h : Row ps n m xs) {j : Nat} (hj : j + 1 = xs.length) : ledF ps (xs.getD j 1) = none ∨ j = m := by
  obtain ⟨ys, rfl, h2, _, h4, _⟩ := h.ex
  simp at hj
  subst hj
  by_cases e : ys.length < m
  · left
    have := h4 e
    rw [← this]
    congr 1
    cases ys with
    | nil => rfl
    | cons y ys =>
      rw [List.getLastD_cons]
      simp only [List.length_cons, List.getD_eq_getElem?_getD, List.getElem?_cons_succ]
      rw [List.getLastD_eq_getLast?, List.getLast?_eq_getElem?]
      simp
      cases ys with
      | nil => rfl
      | cons z zs => simp
  · right; omega
theorem Row.big {ps : List (Nat × Nat)} {n m : Nat} {xs : List Nat} (h : Row ps n m xs) {j : Nat} (hj : j + 1 < xs.length) : tooB (xs.getD (j + 1) 1) = false := by
  obtain ⟨ys, rfl, _, _, _, h5⟩ := h.ex
  refine h5 _ ?_
  rw [List.getD_eq_getElem?_getD, List.getElem?_cons_succ]
  simp at hj
  rw [List.getElem?_eq_getElem hj]
  exact List.getElem_mem hj
theorem take_snoc {xs : List Nat} {j : Nat} (hj : j < xs.length) : xs.take (j + 1) = xs.take j ++ [xs.getD j 1] := by
  rw [List.take_add_one, List.getElem?_eq_getElem hj, List.getD_eq_getElem?_getD, List.getElem?_eq_getElem hj]; rfl
def toRg : Option (Nat × Nat) → Rg
  | none => .none
  | some p => .at p.1 p.2
theorem ring_due {ps : List (Nat × Nat)} {n m : Nat} {xs : List Nat} (h : Row ps n m xs) : ∀ (f j : Nat), j + f = xs.length → 0 < f → ringGo ps m (m + 1 - j) (xs.take j) (xs.getD j 1) = toRg (dueGo xs f j)
  | 0, j, _, z => absurd z (Nat.lt_irrefl 0)
  | f + 1, j, hj, _ => by
    have hl := h.len
    have hjl : j < xs.length := by omega
    obtain ⟨g, hg⟩ : ∃ g, m + 1 - j = g + 1 := ⟨m - j, by omega⟩
    rw [hg]
    unfold dueGo
    by_cases hin : xs.getD j 1 ∈ xs.take j
    · rw [if_pos hin, rg_in hin]
      have e : (xs.take j).idxOf (xs.getD j 1) = xs.idxOf (xs.getD j 1) := by
        generalize xs.getD j 1 = c at hin ⊢
        conv => rhs; rw [← List.take_append_drop j xs]
        rw [List.idxOf_append, if_pos hin]
      rw [e, List.length_take, Nat.min_eq_left (by omega)]
      rfl
    · rw [if_neg hin]
      by_cases hlast : j + 1 = xs.length
      · have ef : f = 0 := by omega
        subst ef
        show _ = Rg.none
        rcases h.at_end hlast with e | e
        · exact rg_end hin e
        · cases el : ledF ps (xs.getD j 1) with
          | none => exact rg_end hin el
          | some l =>
            have eg : g = 0 := by omega
            subst eg
            rw [rg_go hin el (fun z => by have := z.1; rw [List.length_take] at this; omega)]
            rfl
      · have hj1 : j + 1 < xs.length := by omega
        rw [rg_go hin (h.led hj1) (fun z => by rw [h.big hj1] at z; exact absurd z.2 Bool.false_ne_true), ← take_snoc hjl]
        have := ring_due h f (j + 1) (by omega) (by omega)
        rw [← this]
        congr 1
        omega
/-! the greatest rooms that are due -/
def bestF (xs : List Nat) : List Nat := (List.range 12).map fun z => (xs.map fun x => (rooms x).getD z 0).foldl max 0
theorem bestF_len (xs : List Nat) : (bestF xs).length = 12 := by simp [bestF]
theorem bestF_snoc (xs : List Nat) (x : Nat) : zmax (bestF xs) (rooms x) = bestF (xs ++ [x]) := by
  refine List.ext_getElem? fun z => ?_
  unfold zmax
  rw [List.getElem?_map]
  by_cases hz : z < 12
  · have e1 : (bestF xs)[z]? = some ((xs.map fun x => (rooms x).getD z 0).foldl max 0) := by unfold bestF; rw [List.getElem?_map, List.getElem?_range hz]; rfl
    have e2 : (rooms x)[z]? = some ((rooms x).getD z 0) := by rw [List.getD_eq_getElem?_getD, List.getElem?_eq_getElem (by rw [rooms_len]; exact hz)]; rfl
    rw [(List.getElem?_zip_eq_some (z := ((xs.map fun x => (rooms x).getD z 0).foldl max 0, (rooms x).getD z 0))).mpr ⟨e1, e2⟩]
    unfold bestF
    rw [List.getElem?_map, List.getElem?_range hz]
    simp [List.foldl_append]
  · rw [List.getElem?_eq_none (by rw [List.length_zip, bestF_len, rooms_len]; omega), List.getElem?_eq_none (by rw [bestF_len]; omega)]; rfl
theorem bestF_one (n : Nat) : bestF [n] = rooms n := by
  refine List.ext_getElem? fun z => ?_
  by_cases hz : z < 12
  · unfold bestF
    rw [List.getElem?_map, List.getElem?_range hz, List.getElem?_eq_getElem (by rw [rooms_len]; exact hz)]
    simp [List.getD_eq_getElem?_getD, List.getElem?_eq_getElem (show z < (rooms n).length by rw [rooms_len]; exact hz)]
  · rw [List.getElem?_eq_none (by rw [bestF_len]; omega), List.getElem?_eq_none (by rw [rooms_len]; omega)]
theorem best_due {ps : List (Nat × Nat)} {n m : Nat} {xs : List Nat} (h : Row ps n m xs) : ∀ (f j : Nat), j + f = xs.length → 0 < f → bestGo ps (m - j) (bestF (xs.take (j + 1))) (xs.getD j 1) = some (bestF xs)
  | 0, j, _, z => absurd z (Nat.lt_irrefl 0)
  | f + 1, j, hj, _ => by
    have hl := h.len
    by_cases hlast : j + 1 = xs.length
    · rw [List.take_of_length_le (by omega)]
      rcases h.at_end hlast with e | e
      · exact bg_end e
      · rw [e, Nat.sub_self]; rfl
    · have hj1 : j + 1 < xs.length := by omega
      obtain ⟨g, hg⟩ : ∃ g, m - j = g + 1 := ⟨m - j - 1, by omega⟩
      rw [hg, bg_go (h.led hj1) (h.big hj1), bestF_snoc, ← take_snoc hj1]
      have := best_due h f (j + 1) (by omega) (by omega)
      rw [← this]
      congr 1
      omega
theorem best_row {ps : List (Nat × Nat)} {n m : Nat} {xs : List Nat} (h : Row ps n m xs) : bestGo ps m (rooms n) n = some (bestF xs) := by
  have hl := h.len
  have := best_due h xs.length 0 (by omega) hl.1
  obtain ⟨ys, rfl, _⟩ := h.ex
  rw [← this]
  show bestGo ps m (rooms n) n = bestGo ps (m - 0) (bestF [n]) n
  rw [bestF_one]; rfl
/-! orders, back and forth -/
def invO (o : List Nat) : List Nat := (List.range 12).map fun z => o.idxOf z
theorem ord_mem {o : List Nat} (h : IsOrd o) {z : Nat} (hz : z < 12) : z ∈ o := by
  obtain ⟨i, hi, e⟩ := ord_onto h hz
  rw [← e]
  exact getD_mem (by rw [h.len]; exact hi)
theorem idx_lt {o : List Nat} (h : IsOrd o) {z : Nat} (hz : z < 12) : o.idxOf z < 12 := by
  have := List.idxOf_lt_length_of_mem (ord_mem h hz)
  rw [h.len] at this
  exact this
theorem ord_idx {o : List Nat} (h : IsOrd o) {z : Nat} (hz : z < 12) : o.getD (o.idxOf z) 0 = z := by
  have hl := List.idxOf_lt_length_of_mem (ord_mem h hz)
  rw [List.getD_eq_getElem?_getD, List.getElem?_eq_getElem hl]
  simp
theorem invO_get {o : List Nat} {z : Nat} (hz : z < 12) : (invO o).getD z 0 = o.idxOf z := by
  unfold invO
  rw [List.getD_eq_getElem?_getD, List.getElem?_map, List.getElem?_range hz]; rfl
theorem invO_at {o : List Nat} (h : IsOrd o) {i : Nat} (hi : i < 12) : (invO o).getD (o.getD i 0) 0 = i := by
  have hz := ord_lt h hi
  rw [invO_get hz]
  exact ord_inj h (idx_lt h hz) hi (ord_idx h hz)
theorem invO_ord {o : List Nat} (h : IsOrd o) : IsOrd (invO o) := by
  refine ⟨by simp [invO], fun k hk => ?_, ?_⟩
  · obtain ⟨z, hz, rfl⟩ := List.mem_map.mp hk
    exact idx_lt h (List.mem_range.mp hz)
  · unfold invO
    show List.Pairwise _ _
    rw [List.pairwise_map]
    refine List.Pairwise.imp_of_mem (fun {a b} ha hb hab e => hab ?_) (List.nodup_range (n := 12))
    have ea := ord_idx h (List.mem_range.mp ha)
    have eb := ord_idx h (List.mem_range.mp hb)
    rw [← ea, ← eb, e]
theorem ex_back {o : List Nat} (h : IsOrd o) {n : Nat} (hn : Smooth n) : exN (invO o) (exN o n) = n := by
  refine smooth_ext (exN_smooth _ _) hn (pL_all.mpr fun i hi => ?_)
  have e := ex_mlt (invO_ord h) (exN o n) (ord_lt h hi)
  rw [invO_at h hi] at e
  rw [e, ex_mlt h n hi]
theorem ex_there {o : List Nat} (h : IsOrd o) (n : Nat) : ((List.range 12).map fun z => (rooms (exN o n)).getD (o.getD z 0) 0) = rooms n := by
  refine List.ext_getElem? fun z => ?_
  by_cases hz : z < 12
  · rw [List.getElem?_map, List.getElem?_range hz, rooms_exN]
    have := exGo_get h (rooms n) 12 (Nat.le_refl _) z hz
    show some ((exGo o (rooms n) 12).getD (o.getD z 0) 0) = _
    rw [this, List.getD_eq_getElem?_getD, List.getElem?_eq_getElem (by rw [rooms_len]; exact hz)]; rfl
  · rw [List.getElem?_eq_none (by simp; omega), List.getElem?_eq_none (by rw [rooms_len]; omega)]
/-! a program moved -/
def exB80 (o bs : List Nat) : List Nat := (List.range 12).map fun z => bs.getD (o.idxOf z) 0
theorem exR_L {o : List Nat} (h : IsOrd o) (bs : List Nat) : exR o bs = exB80 o bs := by
  refine List.ext_getElem? fun z => ?_
  by_cases hz : z < 12
  · unfold exB80
    rw [List.getElem?_map, List.getElem?_range hz]
    have := exGo_get h bs 12 (Nat.le_refl _) (o.idxOf z) (idx_lt h hz)
    rw [ord_idx h hz] at this
    rw [List.getElem?_eq_getElem (by rw [exR_len]; exact hz)]
    show _ = some (bs.getD (o.idxOf z) 0)
    rw [← this, List.getD_eq_getElem?_getD, List.getElem?_eq_getElem (by rw [exGo_len]; exact hz)]
    rfl
  · rw [List.getElem?_eq_none (by rw [exR_len]; omega), List.getElem?_eq_none (by simp [exB80]; omega)]
theorem row_ex {o : List Nat} (ho : IsOrd o) {ps : List (Nat × Nat)} (hps : IsProg ps) {n m : Nat} (hn : IsNum n) {xs : List Nat} (h : Row ps n m xs) : Row (exP o ps) (exN o n) m (xs.map (exN o)) := row_of (by rw [exP_run ho hps.smP m hn.smooth, h.run]; rfl)
theorem bestF_ex {o : List Nat} (ho : IsOrd o) (xs : List Nat) : bestF (xs.map (exN o)) = exB80 o (bestF xs) := by
  unfold exB80
  refine List.map_congr_left fun z hz => ?_
  have hz := List.mem_range.mp hz
  have hi := idx_lt ho hz
  have e1 : (bestF xs).getD (o.idxOf z) 0 = (xs.map fun x => (rooms x).getD (o.idxOf z) 0).foldl max 0 := by
    unfold bestF; rw [List.getD_eq_getElem?_getD, List.getElem?_map, List.getElem?_range hi]; rfl
  rw [e1, List.map_map]
  congr 1
  refine List.map_congr_left fun x _ => ?_
  show (rooms (exN o x)).getD z 0 = _
  rw [rooms_exN, exR_L ho]
  unfold exB80
  rw [List.getD_eq_getElem?_getD, List.getElem?_map, List.getElem?_range hz]; rfl
theorem exP_isProgB {o : List Nat} (ho : IsOrd o) {ps : List (Nat × Nat)} (h : IsProg ps) (hb : ∀ p ∈ exP o ps, p.1 ≤ 1000000 ∧ p.2 ≤ 1000000) : IsProg (exP o ps) := by
  refine ⟨by simpa [exP] using h.1, fun p hp => ?_⟩
  obtain ⟨b1, b2⟩ := hb p hp
  obtain ⟨q, hq, rfl⟩ := List.mem_map.mp hp
  obtain ⟨h1, h2, _, _, h5⟩ := h.2 q hq
  exact ⟨ex_isNum ho h1, ex_isNum ho h2, b1, b2, ex_gcd ho h1.smooth h2.smooth h5⟩
section
variable {K : PySem.W.Frag} {ps : List (Nat × Nat)} {n m : Nat} {xs : List Nat}
theorem ring_row (hm : m ≤ 500) (h : Row ps n m xs) : ringE K ps n (nD m) = .ok (oP (dueF xs)) := by
  have hl := h.len
  rw [ringE_on hm]
  have := ring_due h xs.length 0 (by omega) hl.1
  obtain ⟨ys, rfl, _⟩ := h.ex
  have e : ringGo ps m (m + 1) [] n = toRg (dueF (n :: ys)) := this
  rw [e]
  cases dueF (n :: ys) <;> rfl
theorem best_rowE (hm : m ≤ 500) (h : Row ps n m xs) : bestE K ps n (nD m) = .ok (rmD (bestF xs)) := by
  rw [bestE_on hm, best_row h]; rfl
theorem best_moved {o : List Nat} (ho : IsOrd o) (hps : IsProg ps) (hn : IsNum n) (hm : m ≤ 500) (h : Row ps n m xs) (hb : ∀ p ∈ exP o ps, p.1 ≤ 1000000 ∧ p.2 ≤ 1000000) :
    lookE K (lP (exP o ps)) (nD (exN o n)) (fun ps n => bestE K ps n (nD m)) = .ok (rmD (exB80 o (bestF xs))) := by
  rw [lookE_ok (exP_isProgB ho hps hb) (ex_isNum ho hn), best_rowE hm (row_ex ho hps hn h), bestF_ex ho]
end
/-! the programs -/
def base80 : Int → List (Nat × Nat)
  | 0 => [(3, 2), (2, 3)]
  | 1 => [(3, 2), (5, 3), (2, 5)]
  | 2 => [(15, 2), (2, 15)]
  | 3 => [(3, 2), (4, 3)]
  | _ => [(3, 4), (4, 3)]
def roundF (m : Int) : List (Nat × Nat) := base80 (m / 64 % 5) ++ (if m % 2 = 1 then progF (m / 64 / 8) 3 else [])
theorem isNum5 : IsNum 5 := (smooth_prime (p := 5) (by decide)).isNum (by decide)
theorem isNum4 : IsNum 4 := (isNum2.smooth.mul isNum2.smooth).isNum (by decide)
theorem isNum15 : IsNum 15 := (isNum3.smooth.mul isNum5.smooth).isNum (by decide)
theorem base80_in (j : Int) : base80 j = [(3, 2), (2, 3)] ∨ base80 j = [(3, 2), (5, 3), (2, 5)] ∨ base80 j = [(15, 2), (2, 15)] ∨ base80 j = [(3, 2), (4, 3)] ∨ base80 j = [(3, 4), (4, 3)] := by
  unfold base80
  split <;> simp
theorem base80_ok (j : Int) : (base80 j).length ≤ 3 ∧ ∀ p ∈ base80 j, IsFrac p := by
  have f1 : IsFrac (3, 2) := frac32
  have f2 : IsFrac (2, 3) := frac23
  have f3 : IsFrac (5, 3) := ⟨isNum5, isNum3, by decide, by decide, by decide⟩
  have f4 : IsFrac (2, 5) := ⟨isNum2, isNum5, by decide, by decide, by decide⟩
  have f5 : IsFrac (15, 2) := ⟨isNum15, isNum2, by decide, by decide, by decide⟩
  have f6 : IsFrac (2, 15) := ⟨isNum2, isNum15, by decide, by decide, by decide⟩
  have f7 : IsFrac (4, 3) := ⟨isNum4, isNum3, by decide, by decide, by decide⟩
  have f8 : IsFrac (3, 4) := ⟨isNum3, isNum4, by decide, by decide, by decide⟩
  rcases base80_in j with e | e | e | e | e <;> rw [e] <;> refine ⟨by decide, fun p hp => ?_⟩ <;> simp only [List.mem_cons, List.not_mem_nil, or_false] at hp
  · rcases hp with rfl | rfl <;> assumption
  · rcases hp with rfl | rfl | rfl <;> assumption
  · rcases hp with rfl | rfl <;> assumption
  · rcases hp with rfl | rfl <;> assumption
  · rcases hp with rfl | rfl <;> assumption
theorem roundF_isProg (m : Int) : IsProg (roundF m) := by
  obtain ⟨h1, h2⟩ := base80_ok (m / 64 % 5)
  have h3 := progF_isProg (m / 64 / 8) (q := 3) (by decide) (by decide)
  have h4 := progF_len (m / 64 / 8) 3
  unfold roundF
  split
  · refine ⟨by rw [List.length_append]; omega, fun p hp => ?_⟩
    rcases List.mem_append.mp hp with hp | hp
    · exact h2 p hp
    · exact h3.2 p hp
  · refine ⟨by rw [List.length_append]; simp; omega, fun p hp => ?_⟩
    rcases List.mem_append.mp hp with hp | hp
    · exact h2 p hp
    · cases hp
/-! what the law's text asks of the layer -/
section
variable {K : PySem.W.Frag} {ρ : List Sl} {te : TE} {ta : TA}
theorem ev_indexN {xs : List Nat} {c : Nat} (h : Ev K te ρ (lN xs)) (ha : EvA K ta ρ [nD c]) (hc : c ∈ xs) : Ev K (tBM K "list" (rIndexD K) te ta) ρ (.int (xs.idxOf c : Nat)) := by
  have hl := List.idxOf_lt_length_of_mem hc
  refine ev_index (ds := xs.map fun k : Nat => PyData.int (k : Int)) (j := xs.idxOf c) (z := nD c) h ha (sh_lN xs) rfl ?_ (by show decide (_ = _) = true; simp) fun m z' hm hz => ?_
  · rw [List.getElem?_map, List.getElem?_eq_getElem hl]
    simp
  · rw [List.getElem?_map, List.getElem?_eq_getElem (by omega)] at hz
    cases hz
    show decide ((xs[m] : Int) = (c : Int)) = false
    refine decide_eq_false fun e => ?_
    have e2 : xs[m] = c := Int.ofNat.inj e
    have := List.not_of_lt_findIdx (p := (· == c)) (xs := xs) (i := m) hm
    simp [e2] at this
theorem cut_take {xs : List Nat} {i : Nat} (hi : i ≤ xs.length) : PyData.list (cutL (xs.map fun k : Nat => PyData.int (k : Int)) none (some (0 + (i : Int)))) = .list (((xs.take i).map fun k : Nat => (k : Int)).map PyData.int) := by
  rw [Int.zero_add]
  have e : HT.sIx (xs.map fun k : Nat => PyData.int (k : Int)).length (xs.map fun k : Nat => PyData.int (k : Int)).length (some (i : Int)) = i := by
    rw [HT.sIx_nat, List.length_map]
    omega
  have e0 : HT.sIx (xs.map fun k : Nat => PyData.int (k : Int)).length 0 none = 0 := rfl
  unfold cutL
  rw [e, e0, List.drop_zero, Nat.sub_zero, ← List.map_take, List.map_map]
  rfl
theorem has_take (xs : List Nat) (c i : Nat) : ((xs.take i).map fun k : Nat => (k : Int)).contains (c : Int) = decide (c ∈ xs.take i) := by
  generalize xs.take i = ys
  induction ys with
  | nil => simp
  | cons y ys ih =>
    rw [List.map_cons, List.contains_cons, ih]
    by_cases e : c = y
    · subst e; simp
    · have : ¬ (c : Int) = (y : Int) := fun z => e (Int.ofNat.inj z)
      simp [e, this]
end
theorem row_get {xs : List Nat} {i : Nat} (hi : i < xs.length) : atI xs (0 + (i : Int)) = some (xs.getD i 1) := by
  rw [Int.zero_add]
  exact atI_nat (by rw [List.getD_eq_getElem?_getD, List.getElem?_eq_getElem hi]; rfl)
theorem round_at (m : Int) : atI [PyData.list [.tuple [.int 3, .int 2], .tuple [.int 2, .int 3]], .list [.tuple [.int 3, .int 2], .tuple [.int 5, .int 3], .tuple [.int 2, .int 5]], .list [.tuple [.int 15, .int 2], .tuple [.int 2, .int 15]], .list [.tuple [.int 3, .int 2], .tuple [.int 4, .int 3]], .list [.tuple [.int 3, .int 4], .tuple [.int 4, .int 3]]] (m / 64 % 5) = some (lP (base80 (m / 64 % 5))) := by
  rcases (by omega : m / 64 % 5 = 0 ∨ m / 64 % 5 = 1 ∨ m / 64 % 5 = 2 ∨ m / 64 % 5 = 3 ∨ m / 64 % 5 = 4) with e | e | e | e | e <;> rw [e] <;> rfl
theorem round_D (m : Int) : PyData.list ((base80 (m / 64 % 5)).map prD ++ (List.replicate (m % 2).toNat ((progF (m / 64 / 8) 3).map prD)).flatten) = lP (roundF m) := by
  unfold roundF lP
  rw [List.map_append]
  congr 2
  rcases (by omega : m % 2 = 0 ∨ m % 2 = 1) with e | e
  · rw [e, if_neg (by decide)]; rfl
  · rw [e, if_pos rfl]; simp
theorem rep80_mul {ds : List Dt} {k : Nat} (h : ds.length ≤ 6) (hk : k ≤ 1) : ds.length * k ≤ 1000000 := by
  rcases (by omega : k = 0 ∨ k = 1) with e | e <;> subst e <;> omega
theorem rep80_len {ds : List Dt} {k : Nat} (h : ds.length ≤ 6) (hk : k ≤ 1) : (List.replicate k ds).flatten.length ≤ 6 := by
  rcases (by omega : k = 0 ∨ k = 1) with e | e <;> subst e <;> simp [h]
section
variable {K : PySem.W.Frag} {ρ : List Sl} {te : TE} {ta : TA}
theorem rooms_at (x : Nat) {z : Nat} (hz : z < 12) : atI (rooms x) (z : Int) = some ((rooms x).getD z 0) :=
  atI_nat (by rw [List.getD_eq_getElem?_getD, List.getElem?_eq_getElem (by rw [rooms_len]; exact hz)]; rfl)
theorem best_at (xs : List Nat) {z : Nat} (hz : z < 12) : atI (bestF xs) (z : Int) = some ((bestF xs).getD z 0) :=
  atI_nat (by rw [List.getD_eq_getElem?_getD, List.getElem?_eq_getElem (by rw [bestF_len]; exact hz)]; rfl)
theorem ei_rng12 : EvI K (iRng1 (tCons (tC (.int 12)) tNil)) ρ ((List.range 12).map fun i : Nat => PyData.int (i : Int)) := by
  have h := ei_rng1 (K := K) (ρ := ρ) (te := tC (.int 12)) (n := 12) ev_int (by decide) (by decide)
  have e : rngD 0 (12 : Int).toNat = (List.range 12).map fun i : Nat => PyData.int (i : Int) := rfl
  rw [e] at h
  exact h
theorem idx_cast (o : List Nat) (z : Nat) : (o.map fun k : Nat => (k : Int)).idxOf (z : Int) = o.idxOf z := by
  induction o with
  | nil => rfl
  | cons x o ih =>
    rw [List.map_cons, List.idxOf_cons, List.idxOf_cons, ih]
    have e : ((x : Int) == (z : Int)) = (x == z) := by
      by_cases e : x = z
      · subst e; simp
      · have h : ¬ (x : Int) = (z : Int) := fun q => e (Int.ofNat.inj q)
        rw [beq_eq_false_iff_ne.mpr h, beq_eq_false_iff_ne.mpr e]
    rw [e]
theorem ev_indexPtN {i z : Nat} {o : List Nat} (hi : ρ[i]? = some (.pt K (o.map fun k : Nat => PyData.int (k : Int)))) (he : EvA K ta ρ [.int (z : Int)]) (hz : z ∈ o) : Ev K (tBMp "tuple" (rTI K) (tVar i) ta) ρ (.int (o.idxOf z : Nat)) := by
  have e : (o.map fun k : Nat => PyData.int (k : Int)) = (o.map fun k : Nat => (k : Int)).map PyData.int := by rw [List.map_map]; rfl
  have hi2 : ρ[i]? = some (.pt K ((o.map fun k : Nat => (k : Int)).map PyData.int)) := e ▸ hi
  have h := ev_indexPt hi2 he (List.mem_map.mpr ⟨z, hz, rfl⟩)
  rw [idx_cast] at h
  exact h
end
theorem foldl_cast (r : List Nat) : ∀ a : Nat, (r.map fun k : Nat => (k : Int)).foldl max (a : Int) = ((r.foldl max a : Nat) : Int) := by
  induction r with
  | nil => intro a; rfl
  | cons x r ih =>
    intro a
    rw [List.map_cons, List.foldl_cons, List.foldl_cons, ← ih]
    congr 1
    omega
theorem max_cast (g : Nat → Nat) {xs : List Nat} (h : 0 < xs.length) : maxI (xs.map fun x => ((g x : Nat) : Int)) = (((xs.map g).foldl max 0 : Nat) : Int) := by
  match xs, h with
  | x :: xs, _ =>
    show (xs.map fun x => ((g x : Nat) : Int)).foldl max (g x : Int) = _
    have := foldl_cast (xs.map g) (g x)
    rw [List.map_map] at this
    rw [List.map_cons, List.foldl_cons, Nat.max_eq_right (Nat.zero_le _), ← this]
    rfl
theorem due80 {xs : List Nat} (h : 0 < xs.length) : PyData.tuple ((List.range 12).map fun z : Nat => PyData.int (maxI (xs.map fun x => (((rooms x).getD z 0 : Nat) : Int)))) = rmD (bestF xs) := by
  unfold rmD bestF
  rw [List.map_map]
  congr 1
  refine List.map_congr_left fun z _ => ?_
  show PyData.int _ = PyData.int _
  rw [max_cast (fun x => (rooms x).getD z 0) h]
theorem there80 {o : List Nat} (h : IsOrd o) (n : Nat) : PyData.list ((List.range 12).map fun z : Nat => PyData.int (((rooms (exN o n)).getD (o.getD z 0) 0 : Nat) : Int)) = lN (rooms n) := by
  conv => rhs; rw [← ex_there h n]
  unfold lN
  rw [List.map_map]
  rfl
theorem inv80 (o : List Nat) : PyData.tuple ((List.range 12).map fun z : Nat => PyData.int ((o.idxOf z : Nat) : Int)) = rmD (invO o) := by
  unfold rmD invO
  rw [List.map_map]
  rfl
theorem due2_80 (o bs : List Nat) : PyData.tuple ((List.range 12).map fun z : Nat => PyData.int ((bs.getD (o.idxOf z) 0 : Nat) : Int)) = rmD (exB80 o bs) := by
  unfold rmD exB80
  rw [List.map_map]
  rfl
theorem ne_nil80 (l : List Dt) : (!PyData.eqv (.list l) (.list [])) = !l.isEmpty := by
  cases l <;> rfl
theorem used80 (ps : List (Nat × Nat)) (z : Nat) (f : Nat × Nat → Dt) : (!PyData.eqv (.list ((ps.filter fun p => decide (((((rooms (p.1 * p.2)).getD z 0 : Nat) : Int)) > 0)).map f)) (.list [])) = ps.any fun p => decide (0 < (rooms (p.1 * p.2)).getD z 0) := by
  rw [ne_nil80]
  induction ps with
  | nil => rfl
  | cons p ps ih =>
    rw [List.any_cons, List.filter_cons]
    by_cases e : 0 < (rooms (p.1 * p.2)).getD z 0
    · have e2 : (((rooms (p.1 * p.2)).getD z 0 : Nat) : Int) > 0 := by omega
      rw [decide_eq_true e2, decide_eq_true e, Bool.true_or, if_pos rfl]; rfl
    · have e2 : ¬ (((rooms (p.1 * p.2)).getD z 0 : Nat) : Int) > 0 := by omega
      rw [decide_eq_false e2, decide_eq_false e, Bool.false_or]
      exact ih
theorem used80D (ps : List (Nat × Nat)) : PyData.list (((List.range 12).filter fun z => ps.any fun p => decide (0 < (rooms (p.1 * p.2)).getD z 0)).map fun z : Nat => PyData.int (z : Int)) = lN (usedF ps) := rfl
theorem wide80 (ws : List (Nat × Nat)) (h : maxI ((ws.map fun p => maxI ([p.1, p.2].map fun k : Nat => (k : Int))) ++ [1]) < 1000001) : ∀ p ∈ ws, p.1 ≤ 1000000 ∧ p.2 ≤ 1000000 := fun p hp => by
  have h1 : maxI ([p.1, p.2].map fun k : Nat => (k : Int)) ≤ maxI ((ws.map fun p => maxI ([p.1, p.2].map fun k : Nat => (k : Int))) ++ [1]) := le_maxI (List.mem_append_left _ (List.mem_map.mpr ⟨p, hp, rfl⟩))
  have h2 : ((p.1 : Nat) : Int) ≤ maxI ([p.1, p.2].map fun k : Nat => (k : Int)) := le_maxI (by simp)
  have h3 : ((p.2 : Nat) : Int) ≤ maxI ([p.1, p.2].map fun k : Nat => (k : Int)) := le_maxI (by simp)
  omega
theorem wide80D (ws : List (Nat × Nat)) : PyData.list ((ws.map fun p : Nat × Nat => PyData.int (maxI ([p.1, p.2].map fun k : Nat => (k : Int)))) ++ [.int 1]) = .list (((ws.map fun p : Nat × Nat => maxI ([p.1, p.2].map fun k : Nat => (k : Int))) ++ [1]).map PyData.int) := by
  rw [List.map_append, List.map_map]; rfl
theorem sh80 {α : Type} (l : List α) : SeqAt.shaped (.list (l.map fun _ => PyData.int 1)) = true := by
  have := sh_lN (l.map fun _ => 1)
  rw [lN, List.map_map] at this
  exact this
theorem pos80 {p : Nat × Nat} (h : IsFrac p) : 0 < p.1 * p.2 := Nat.mul_pos h.1.1 h.2.1.1
theorem cmul80 {p : Nat × Nat} (h : IsFrac p) : CMulA (p.1 : Int) (p.2 : Int) := by
  obtain ⟨_, _, h1, h2, _⟩ := h
  exact cmul_r (by omega) (by omega)
end Fr
namespace Fr
open PySem PySem.Spec PyProof.Rows L2 L2H HotX LamX Mx
def topS (i : Nat) : Stmt := PySem.Challenge.pw_fractrows_k80_whole_turns.main.body.getD i (.Pass ⟨0, 0, 0, 0⟩)
/-- what the top has left -/
structure Tx (K : PySem.W.Frag) (mg : Str → Option Value) : Prop where
  n_zip : mg "zip" = none
  n_all : mg "all" = none
  n_enumerate : mg "enumerate" = none
  n_range : mg "range" = none
  n_tuple : mg "tuple" = none
  n_sorted : mg "sorted" = none
  n_isinstance : mg "isinstance" = none
  n_int : mg "int" = none
  n_bool : mg "bool" = none
  n_len : mg "len" = none
  n_list : mg "list" = none
  n_max : mg "max" = none
  n_sum : mg "sum" = none
  n_min : mg "min" = none
  n_set : mg "set" = none
  n_ValueError : mg "ValueError" = none
  PRIMES : mg "PRIMES" = some (.ref (He.ga K "PRIMES"))
  q_PRIMES : ∀ H : Hp, SqT K H (He.ga K "PRIMES") (([2, 3, 5, 7, 11, 13, 17, 19, 23, 29, 31, 37] : List Int).map V.int)
  MOST_ROOM : ∃ t, mg "MOST_ROOM" = some (.int 400 t)
  MOST_FRACTIONS : ∃ t, mg "MOST_FRACTIONS" = some (.int 16 t)
  MOST_PART : ∃ t, mg "MOST_PART" = some (.int 1000000 t)
  MOST_LOOKED : ∃ t, mg "MOST_LOOKED" = some (.int 500 t)
  RowError : Xc K mg "RowError"
  BadNumber : Xc K mg "BadNumber"
  BadProgram : Xc K mg "BadProgram"
  BadMachine : Xc K mg "BadMachine"
  TooGreat : Xc K mg "TooGreat"
  BadText : Xc K mg "BadText"
  Nothing : Xc K mg "Nothing"
  W : Wrd K ["BadMachine", "BadNumber", "BadProgram", "BadText", "TooGreat", "Nothing"]
theorem Tx.d_PRIMES {K : PySem.W.Frag} {mg : Str → Option Value} (T : Tx K mg) (M : Hp) : Dn K M (.ref (He.ga K "PRIMES")) (.tuple (([2, 3, 5, 7, 11, 13, 17, 19, 23, 29, 31, 37] : List Int).map PyData.int)) := .tup (T.q_PRIMES M) (DnA.of_ints _)

local macro_rules | `(tactic| walk_at "nz") => `(tactic| try dsimp only [Fr.Then, Fr.Turn, Fr.Fin, List.set_cons_zero, List.set_cons_succ])
local macro_rules | `(tactic| walk_at "sd") => `(tactic| first | omega | assumption | decide | exact cmul_r (by omega) (by omega) | exact cmul_l (by omega) (by omega) | exact cdiv_10 | exact cdiv_s (by omega) (by omega) | exact cdiv_s (by decide) (by decide) | (exact ⟨by decide, by decide, by decide⟩))
local macro_rules | `(tactic| walk_at "sz") => `(tactic| first | assumption | decide | omega | (rw [List.length_append, List.length_singleton]; omega) | (simp only [List.length_map, List.length_append, List.length_take, List.length_cons, List.length_nil, List.length_range, List.length_zipIdx, rooms_len]; omega))
local macro_rules | `(tactic| walk_at "ix") => `(tactic| first | assumption | rfl | exact atI_c0 _ _ | exact atI_c1 _ _ _ | exact atI_c2 _ _ _ _ | exact atI_c3 _ _ _ _ _)
local macro_rules | `(tactic| walk_at "sh") => `(tactic| first | assumption | exact sh_oN _ | exact sh_lP _ | exact sh_lN _ | rfl | decide | decide +kernel)
local macro_rules | `(tactic| walk_at "fl") => `(tactic| first | assumption | rfl | decide)
local macro_rules | `(tactic| walk_at "pr") => `(tactic| first | assumption | exact ⟨_, rfl, rfl⟩)

abbrev Pr__law_drawn (K : PySem.W.Frag) : List Dt → Except Value Dt → Prop := fun ds r => ∃ c k : Int, ds = [.int c, .int k] ∧ r = .ok (.int (drawn c k))
abbrev Pr__law_cell (K : PySem.W.Frag) : List Int → List Dt → Except Value Dt → Prop := fun ns ds r => ∃ k : Nat, ns.length < 2 ^ 61 ∧ ds = [nD k] ∧ r = .ok (.int (cellF ns k))
abbrev Pr__law_order (K : PySem.W.Frag) : List Dt → Except Value Dt → Prop := fun ds r => ∃ m : Int, ds = [.int m] ∧ r = .ok (rmD (ordF m))
abbrev Pr_parted (K : PySem.W.Frag) : List Dt → Except Value Dt → Prop := fun ds r => ∃ n : Nat, 0 < n ∧ ds = [nD n] ∧ r = .ok (.tuple [rmD (rooms n), nD (rest n)])
abbrev Pr_is_number (K : PySem.W.Frag) : List Dt → Except Value Dt → Prop := fun ds r => ∃ d : Dt, ds = [d] ∧ r = .ok (.bool (isNumD d))
abbrev Pr_need_number (K : PySem.W.Frag) : List Dt → Except Value Dt → Prop := fun ds r => ∃ d : Dt, ds = [d] ∧ r = if isNumD d then .ok .none else cE K "BadNumber"
abbrev Pr_is_count (K : PySem.W.Frag) : List Dt → Except Value Dt → Prop := fun ds r => ∃ (d : Dt) (lo hi : Int), ds = [d, .int lo, .int hi] ∧ r = .ok (.bool (isCount d lo hi))
abbrev Pr_need_order (K : PySem.W.Frag) : List Dt → Except Value Dt → Prop := fun ds r => ∃ d : Dt, ds = [d] ∧ r = if isOrdD d then .ok .none else cE K "BadNumber"
abbrev Pr_made (K : PySem.W.Frag) : List Dt → Except Value Dt → Prop := fun ds r => ∃ rs : List Nat, rs.length ≤ 12 ∧ (∀ k ∈ rs, k ≤ 401) ∧ ds = [lN rs] ∧ r = .ok (nD (mk pL rs))
abbrev Pr_moved_number (K : PySem.W.Frag) : List Dt → Except Value Dt → Prop := fun ds r => ∃ (n : Nat) (o : List Nat), IsNum n ∧ IsOrd o ∧ ds = [nD n, rmD o] ∧ r = .ok (nD (exN o n))
abbrev Pr_moved (K : PySem.W.Frag) : List Dt → Except Value Dt → Prop := fun ds r => ∃ d e : Dt, ds = [d, e] ∧ r = movedE K d e
abbrev Pr__law_primes (K : PySem.W.Frag) : List Dt → Except Value Dt → Prop := fun ds r => ds = [] ∧ r = .ok (lN pL)
abbrev Pr__law_some (K : PySem.W.Frag) : List Dt → Except Value Dt → Prop := fun ds r => ∃ (m : Int) (q t : Nat), 0 < q ∧ q ≤ 12 ∧ t ≤ 20 ∧ ds = [.int m, nD q, nD t] ∧ r = .ok (nD (someF m q t))
abbrev Pr__law_fraction (K : PySem.W.Frag) : List Dt → Except Value Dt → Prop := fun ds r => ∃ (c : Int) (q : Nat), 0 < q ∧ q ≤ 12 ∧ ds = [.int c, nD q] ∧ r = .ok (prD (fracF c q))
abbrev Pr__law_program (K : PySem.W.Frag) : List Dt → Except Value Dt → Prop := fun ds r => ∃ (m : Int) (q : Nat), 0 < q ∧ q ≤ 12 ∧ ds = [.int m, nD q] ∧ r = .ok (lP (progF m q))
abbrev Pr__law_round (K : PySem.W.Frag) : List Dt → Except Value Dt → Prop := fun ds r => ∃ m : Int, ds = [.int m] ∧ r = .ok (lP (roundF m))
abbrev Pr__law_step (K : PySem.W.Frag) : List Dt → Except Value Dt → Prop := fun ds r => ∃ (ps : List (Nat × Nat)) (n : Nat), Small ps ∧ ds = [lP ps, nD n] ∧ r = .ok (oP (lstep ps n))
abbrev Pr__law_rooms (K : PySem.W.Frag) : List Dt → Except Value Dt → Prop := fun ds r => ∃ n : Nat, 0 < n ∧ ds = [nD n] ∧ r = .ok (lN (rooms n))
abbrev Pr__law_run (K : PySem.W.Frag) : List Dt → Except Value Dt → Prop := fun ds r => ∃ (ps : List (Nat × Nat)) (n m : Nat), IsProg ps ∧ 0 < n ∧ m ≤ 2000 ∧ ds = [lP ps, nD n, nD m] ∧ r = .ok (rowD (lrunF ps n m))
abbrev Pr__law_ring_due (K : PySem.W.Frag) : List Dt → Except Value Dt → Prop := fun ds r => ∃ xs : List Nat, xs.length ≤ 1000 ∧ ds = [lN xs] ∧ r = .ok (oP (dueF xs))
abbrev Pr_common (K : PySem.W.Frag) : List Dt → Except Value Dt → Prop := fun ds r => ∃ a b : Nat, ds = [nD a, nD b] ∧ r = .ok (nD (Nat.gcd a b))
abbrev Pr_is_fraction (K : PySem.W.Frag) : List Dt → Except Value Dt → Prop := fun ds r => ∃ d : Dt, ds = [d] ∧ r = .ok (.bool (isFracD d))
abbrev Pr_is_program (K : PySem.W.Frag) : List Dt → Except Value Dt → Prop := fun ds r => ∃ d : Dt, ds = [d] ∧ r = .ok (.bool (isProgD d))
abbrev Pr_need_program (K : PySem.W.Frag) : List Dt → Except Value Dt → Prop := fun ds r => ∃ d : Dt, ds = [d] ∧ r = if isProgD d then .ok .none else cE K "BadProgram"
abbrev Pr_used_rooms (K : PySem.W.Frag) : List Dt → Except Value Dt → Prop := fun ds r => ∃ d : Dt, ds = [d] ∧ r = progE K d fun ps => .ok (lN (usedF ps))
abbrev Pr_look (K : PySem.W.Frag) : List Dt → Except Value Dt → Prop := fun ds r => ∃ d e : Dt, ds = [d, e] ∧ r = lookE K d e fun _ _ => .ok .none
abbrev Pr_need_count (K : PySem.W.Frag) : List Dt → Except Value Dt → Prop := fun ds r => ∃ (d : Dt) (lo hi : Int), ds = [d, .int lo, .int hi] ∧ r = if isCount d lo hi then .ok .none else cE K "BadNumber"
abbrev Pr_first_at (K : PySem.W.Frag) : List Dt → Except Value Dt → Prop := fun ds r => ∃ (ps : List (Nat × Nat)) (n : Nat), Small ps ∧ ds = [lP ps, nD n] ∧ r = .ok (oN (firstAt ps n))
abbrev Pr_led (K : PySem.W.Frag) : List Dt → Except Value Dt → Prop := fun ds r => ∃ (ps : List (Nat × Nat)) (n : Nat), Small ps ∧ ds = [lP ps, nD n] ∧ r = .ok (oN (ledF ps n))
abbrev Pr_need_room (K : PySem.W.Frag) : List Dt → Except Value Dt → Prop := fun ds r => ∃ n : Nat, 0 < n ∧ ds = [nD n] ∧ r = if tooB n then cE K "TooGreat" else .ok .none
abbrev Pr_greatest_rooms (K : PySem.W.Frag) : List Dt → Except Value Dt → Prop := fun ds r => ∃ d e f : Dt, ds = [d, e, f] ∧ r = lookE K d e fun ps n => bestE K ps n f
abbrev Pr_ring (K : PySem.W.Frag) : List Dt → Except Value Dt → Prop := fun ds r => ∃ d e f : Dt, ds = [d, e, f] ∧ r = lookE K d e fun ps n => ringE K ps n f
abbrev Pr_law (K : PySem.W.Frag) : List Int → List Dt → Except Value Dt → Prop := fun ns ds r => ns.length ≤ 63 ∧ ds = [] ∧ r = .ok (.bool true)
section
variable [TabL] {P : Program} {w : World} {K : PySem.W.Frag} {mg : Str → Option Value} {base : Heap}
abbrev s__law_drawn : Stmt := topS 38
abbrev N__law_drawn : List Str := ["_law_cell_here", "_law_k", "_law_more"]
theorem sc__law_drawn : FnScope N__law_drawn ["_law_cell_here", "_law_k"] (defScope s__law_drawn) := ⟨rfl, rfl, rfl, by decide +kernel, rfl, by decide +kernel, by decide +kernel⟩
theorem ok__law_drawn (D : Df K mg "_law_drawn" s__law_drawn ["_law_cell_here", "_law_k"]) (T : Tx K mg) : Ck P w K mg base "_law_drawn" 1 ["_law_cell_here", "_law_k"] (spD K (Pr__law_drawn K)) := by
  refine ck_mk (k := 0) D sc__law_drawn (fun ds r hp => ?_) fun f cdv A outer s H E ds r hr hp => ?_
  · obtain ⟨c, k, rfl, rfl⟩ := hp
    rfl
  refine ⟨_, (pss_cons (ps_set (i := 2) sc__law_drawn.nd rfl (.inl rfl) (pe_op op_mod (pe_op op_add (pe_op op_mulA (pv 0) pe_int) (pe_op op_mulA (pe_op op_add (pv 1) pe_int) pe_int)) pe_int))
      (pss_cons (ps_set (i := 2) sc__law_drawn.nd rfl (.inl rfl) (pe_op op_mod (pe_op op_mulA (pv 2) (pv 2)) pe_int))
      (pss_cons (ps_set (i := 2) sc__law_drawn.nd rfl (.inl rfl) (pe_op op_mulA (pe_op op_mulA (pe_op op_add (pe_op op_mod (pv 2) pe_int) pe_int) (pe_op op_add (pe_op op_fdivW (pv 2) pe_int) pe_int)) (pv 2)))
      (pss_one (ps_ret (pe_op op_mod (pv 2) pe_int)))))), ?_⟩
  obtain ⟨c, k, rfl, rfl⟩ := hp
  show Wp K E _ [.va (.int c), .va (.int k), .no] _
  refine wp_seq ?_
  refine wp_set (i := 2) (ev_op (ev_op (ev_op (ev_var rfl) ev_int (rv_I (by walk_at "sd") fun _ => .int _)) (ev_op (ev_op (ev_var rfl) ev_int (rv_I0 fun _ => .int _)) ev_int (rv_I (by walk_at "sd") fun _ => .int _)) (rv_I0 fun _ => .int _)) ev_int (rv_I (by walk_at "sd") fun _ => .int _)) ?_
  walk_at "nz"
  show Wp K E _ [.va (.int c), .va (.int k), .va (.int (dr1 c k))] _
  have b1 := dr1_b c k
  have m1 : CMulA (dr1 c k) (dr1 c k) := cmul_w 129 129 (by omega) (by omega) (by decide) (by decide) (by decide)
  refine wp_seq ?_
  refine wp_set (i := 2) (ev_op (ev_op (ev_var rfl) (ev_var rfl) (rv_I (by walk_at "sd") fun _ => .int _)) ev_int (rv_I (by walk_at "sd") fun _ => .int _)) ?_
  walk_at "nz"
  show Wp K E _ [.va (.int c), .va (.int k), .va (.int (dr2 c k))] _
  have b2 := dr2_b c k
  have m2 : CMulA ((dr2 c k % 18446744073709551557 + 1) * (dr2 c k / 18446744073709551557 + 1)) (dr2 c k) := cmul_w 130 129 (dr3_lo c k) (by omega) (by decide) (by decide) (by decide)
  refine wp_seq ?_
  refine wp_set (i := 2) (ev_op (ev_op (ev_op (ev_op (ev_var rfl) ev_int (rv_I (by walk_at "sd") fun _ => .int _)) ev_int (rv_I0 fun _ => .int _)) (ev_op (ev_op (ev_var rfl) ev_int (rv_I (by walk_at "sd") fun _ => .int _)) ev_int (rv_I0 fun _ => .int _)) (rv_I (by walk_at "sd") fun _ => .int _)) (ev_var rfl) (rv_I (by walk_at "sd") fun _ => .int _)) ?_
  walk_at "nz"
  refine wp_ret (ev_op (ev_var rfl) ev_int (rv_I (by walk_at "sd") fun _ => .int _)) ?_
  walk_at "nz"
  first | done | rfl
abbrev s__law_cell : Stmt := topS 37
abbrev N__law_cell : List Str := ["_law_script", "_law_k"]
theorem sc__law_cell : FnScope N__law_cell ["_law_script", "_law_k"] (defScope s__law_cell) := ⟨rfl, rfl, rfl, by decide +kernel, rfl, by decide +kernel, by decide +kernel⟩
theorem ok__law_cell (D : Df K mg "_law_cell" s__law_cell ["_law_script", "_law_k"]) (T : Tx K mg) : Ck P w K mg base "_law_cell" 1 ["_law_script", "_law_k"] (spX K (Pr__law_cell K)) := by
  refine ck_mkX (k := 0) D sc__law_cell (fun ns ds r hp => ?_) fun f cdv A outer s H E ns ds r hr hp => ?_
  · obtain ⟨k, hlen, rfl, rfl⟩ := hp
    rfl
  refine ⟨_, (pss_cons (ps_if (pt_cmpR (op_eqDK (K := K) rfl hr.units) (pv 0) (pe_lst pa_nil) (nomark _))
      (pss_one (ps_ret (pe_op op_mulA (pv 1) pe_int)))
      pss_nil)
      (pss_one (ps_ret (pe_op op_add (pe_ix (ix_listK (K := K) rfl) (pv 0) (pe_op op_mod (pv 1) (pe_callB (call_lenK (K := K) rfl) (by rfl) T.n_len bt_len (pa_cons (pv 0) pa_nil))) (fun _ _ => rfl)) (pe_op op_mulA (pe_op op_fdivW (pv 1) (pe_callB (call_lenK (K := K) rfl) (by rfl) T.n_len bt_len (pa_cons (pv 0) pa_nil))) pe_int))))), ?_⟩
  obtain ⟨k, hlen, rfl, rfl⟩ := hp
  show Wp K E _ [.scr ns, .va (nD k)] _
  refine wp_seq ?_
  refine wp_if (et_test (ev_eqScr rfl (EvN.da (evn_lst ea_nil (Nat.le_of_ble_eq_true rfl))))) (fun h0 => ?_) (fun h0 => ?_)
  · skip
    refine wp_ret (ev_op (ev_var rfl) ev_int (rv_I (by walk_at "sd") fun _ => .int _)) ?_
    walk_at "nz"
    have e : ns = [] := of_decide_eq_true h0
    show Except.ok (PyData.int (cellF ns k)) = _
    unfold cellF
    rw [if_pos e]
  · skip
    refine wp_nil ?_
    walk_at "nz"
    have e : ¬ ns = [] := of_decide_eq_false h0
    have hl : 0 < ns.length := by
      cases ns with
      | nil => exact absurd rfl e
      | cons => simp
    have hm : k % ns.length < ns.length := Nat.mod_lt _ hl
    have hix : atI ns ((k : Int) % (ns.length : Int)) = some (ns.getD (k % ns.length) 0) := by
      have := atI_of (xs := ns) (i := (k : Int) % (ns.length : Int)) (by omega) (by omega) 0
      rw [this]
      congr 1
    have hd := cdiv_s (i := (k : Int)) (show (0 : Int) < ns.length by omega) (by omega)
    refine wp_ret (ev_op (ev_ixS rfl (ev_op (ev_var rfl) (ev_lenS rfl) (rv_I (by walk_at "sd") fun _ => .int _)) (by walk_at "ix")) (ev_op (ev_op (ev_var rfl) (ev_lenS rfl) (rv_I (by walk_at "sd") fun _ => .int _)) ev_int (rv_I (by walk_at "sd") fun _ => .int _)) (rv_I0 fun _ => .int _)) ?_
    walk_at "nz"
    show Except.ok (PyData.int (cellF ns k)) = _
    unfold cellF
    rw [if_neg e]
abbrev s__law_order : Stmt := topS 49
abbrev N__law_order : List Str := ["_law_more", "_law_left", "_law_found", "_law_j"]
theorem sc__law_order : FnScope N__law_order ["_law_more"] (defScope s__law_order) := ⟨rfl, rfl, rfl, by decide +kernel, rfl, by decide +kernel, by decide +kernel⟩
theorem ok__law_order (D : Df K mg "_law_order" s__law_order ["_law_more"]) (T : Tx K mg) (G__law_drawn : Ck P w K mg base "_law_drawn" 1 ["_law_cell_here", "_law_k"] (spD K (Pr__law_drawn K))) : Ck P w K mg base "_law_order" 2 ["_law_more"] (spP K (Pr__law_order K)) := by
  refine ck_mkP (k := 1) D sc__law_order (fun ds r hp => ?_) fun f cdv A outer s H E ds r hr hp => ?_
  · obtain ⟨m, rfl, rfl⟩ := hp
    rfl
  refine ⟨_, (pss_cons (ps_par (i := 1) (j := 2) (by rfl) sc__law_order.nd rfl rfl (by decide) rfl rfl (pa_cons (pe_listRng (by rfl) T.n_list (by rfl) T.n_range pe_int) (pa_cons (pe_lst pa_nil) pa_nil)) (by rfl))
      (pss_cons (ps_for (passes_of rfl) rfl (pi_range1 (by rfl) T.n_range (pa_cons pe_int pa_nil)) (pg_name (i := 3) sc__law_order.nd rfl (.inl rfl))
      (pss_one (ps_expr (pe_bm PySem.F.plainAttrs_list PySem.F.slot_list_append PySem.F.type_list_append mt_append (pv 2) (pa_cons (pe_bm PySem.F.plainAttrs_list PySem.F.slot_list_pop PySem.F.type_list_pop mt_popAt (pv 1) (pa_cons (pe_op op_mod (pe_callC G__law_drawn hr (L2N.passes_call (L2N.takes_of rfl rfl rfl rfl) fun _ _ _ _ h => h) (pa_cons (pv 0) (pa_cons (pe_op op_add pe_int (pv 3)) pa_nil))) (pe_callB (call_lenK (K := K) rfl) (by rfl) T.n_len bt_len (pa_cons (pv 1) pa_nil))) pa_nil)) pa_nil)))))
      (pss_one (ps_ret (pe_callTy call_tupP (by rfl) T.n_tuple bt_tuple (pa_cons (pv 2) pa_nil)))))), ?_⟩
  obtain ⟨m, rfl, rfl⟩ := hp
  show Wp K E _ [.va (.int m), .no, .no, .no] _
  refine wp_seq ?_
  refine wp_parNN (i := 1) (j := 2) (evn_listRng (n := 12) ev_int (by decide)) (evn_lst ea_nil (Nat.le_of_ble_eq_true rfl)) (by decide) (Nat.le_of_ble_eq_true rfl) ?_
  walk_at "nz"
  refine wp_seq ?_
  refine wp_for (vs := [3]) (ei_rng1 ev_int (by walk_at "sd") (by walk_at "sd")) (fun i ρ1 => ∃ (s3 : Sl), i ≤ 12 ∧ ρ1 = [.va (.int m), .own (((ordGo m i).1).map fun k : Nat => PyData.int (k : Int)), .own (((ordGo m i).2).map fun k : Nat => PyData.int (k : Int)), s3]) (⟨_, by decide, rfl⟩) (fun i d ρ1 hd hI => ?_) (fun ρ1 hI => ?_)
  · obtain ⟨s3, hi12, rfl⟩ := hI
    obtain ⟨hi, rfl⟩ := rng_item hd
    have hi2 : i < 12 := by omega
    have tk := ordGo_tk m i hi12
    have hLl := tk.ll
    have hul := ord_ix m (L := (ordGo m i).1) (by omega) (200 + (i : Int))
    have hstep : (ordGo m (i + 1)).1 = (ordGo m i).1.eraseIdx (drawn m (200 + (i : Int)) % ((ordGo m i).1.length : Int)).toNat := rfl
    have hstep2 : (ordGo m (i + 1)).2 = (ordGo m i).2 ++ [(ordGo m i).1.getD (drawn m (200 + (i : Int)) % ((ordGo m i).1.length : Int)).toNat 0] := rfl
    obtain ⟨u, hu⟩ : ∃ u : Nat, (u : Int) = drawn m (200 + (i : Int)) % ((ordGo m i).1.length : Int) := ⟨(drawn m (200 + (i : Int)) % ((ordGo m i).1.length : Int)).toNat, by omega⟩
    rw [← hu] at hul hstep hstep2
    rw [Int.toNat_natCast] at hul hstep hstep2
    have hu2 : drawn m (200 + (0 + (i : Int))) % ((((ordGo m i).1.map fun k : Nat => PyData.int (k : Int)).length : Nat) : Int) = (u : Int) := by rw [List.length_map, Int.zero_add, hu]
    have hLn : (((ordGo m i).1.map fun k : Nat => PyData.int (k : Int)).length : Int) ≠ 0 := by rw [List.length_map]; omega
    have hL0 : (0 : Int) < (((ordGo m i).1.map fun k : Nat => PyData.int (k : Int)).length : Int) := by rw [List.length_map]; omega
    refine ⟨_, eg_name, ?_⟩
    walk_at "nz"
    refine wp_appPop (i := 2) (l := 1) rfl rfl (by decide) (ev_op (ev_call (ea_cons (ev_var rfl) (ea_cons (ev_op ev_int (ev_var rfl) (rv_I0 fun _ => .int _)) ea_nil)) ⟨m, 200 + (0 + (i : Int)), rfl, rfl⟩) (ev_lenO rfl) (rv_I (by walk_at "sd") fun _ => .int _)) (by rw [hu2]; omega) (by rw [hu2]; omega) (show _ = u by rw [hu2]; simp) (by rw [List.getElem?_map, List.getElem?_eq_getElem hul.2]; rfl) (by rw [List.length_map, tk.rl]; omega) ?_
    walk_at "nz"
    exact ⟨.va (.int (0 + (i : Int))), hi2, by rw [hstep, hstep2, erase_map, List.map_append, List.getD_eq_getElem?_getD, List.getElem?_eq_getElem hul.2]; rfl⟩
  · obtain ⟨s3, hi12, rfl⟩ := hI
    walk_at "nz"
    have e12 : (rngD 0 (12 : Int).toNat).length = 12 := rfl
    rw [e12]
    refine wp_retP (evp_tup rfl) ?_
    walk_at "nz"
    exact ⟨_, rfl, rfl⟩
abbrev s_parted : Stmt := topS 13
abbrev N_parted : List Str := ["number", "found", "prime", "many"]
theorem sc_parted : FnScope N_parted ["number"] (defScope s_parted) := ⟨rfl, rfl, rfl, by decide +kernel, rfl, by decide +kernel, by decide +kernel⟩
theorem ok_parted (D : Df K mg "parted" s_parted ["number"]) (T : Tx K mg) : Ck P w K mg base "parted" 1 ["number"] (spD K (Pr_parted K)) := by
  refine ck_mk (k := 0) D sc_parted (fun ds r hp => ?_) fun f cdv A outer s H E ds r hr hp => ?_
  · obtain ⟨n, hn, rfl, rfl⟩ := hp
    rfl
  refine ⟨_, (pss_cons (ps_set (i := 1) sc_parted.nd rfl (.inl rfl) (pe_lst pa_nil))
      (pss_cons (ps_for (passes_of rfl) rfl (pi_tupK (K := K) rfl (pe_glob (v := .ref _) (by rfl) T.PRIMES rfl)) (pg_name (i := 2) sc_parted.nd rfl (.inl rfl))
      (pss_cons (ps_set (i := 3) sc_parted.nd rfl (.inl rfl) pe_int)
      (pss_cons (ps_while (passes_of rfl) (pt_cmpR op_eq (pe_op op_mod (pv 0) (pv 2)) pe_int (nomark _))
      (pss_cons (ps_set (i := 0) sc_parted.nd rfl (.inl rfl) (pe_op op_fdivW (pv 0) (pv 2)))
      (pss_one (ps_set (i := 3) sc_parted.nd rfl (.inl rfl) (pe_op op_add (pv 3) pe_int)))))
      (pss_one (ps_expr (pe_bm PySem.F.plainAttrs_list PySem.F.slot_list_append PySem.F.type_list_append mt_append (pv 1) (pa_cons (pv 3) pa_nil)))))))
      (pss_one (ps_ret (pe_tup (pa_cons (pe_callTy (call_tupK (K := K) rfl) (by rfl) T.n_tuple bt_tuple (pa_cons (pv 1) pa_nil)) (pa_cons (pv 0) pa_nil))))))), ?_⟩
  obtain ⟨n, hn, rfl, rfl⟩ := hp
  show Wp K E _ [.va (nD n), .no, .no, .no] _
  refine wp_seq ?_
  refine wp_setN (i := 1) (evn_lst ea_nil (Nat.le_of_ble_eq_true rfl)) ?_
  walk_at "nz"
  refine wp_seq ?_
  refine wp_for (vs := [2]) (ei_tup (ev_c T.d_PRIMES)) (fun i ρ1 => ∃ (num : Nat) (s2 s3 : Sl), 0 < num ∧ n = mk (pL.take i) ((pL.take i).map (mlt · n)) * num ∧ ρ1 = [.va (nD num), .own (((pL.take i).map (mlt · n)).map fun k : Nat => PyData.int (k : Int)), s2, s3]) (⟨n, _, _, hn, by simp [mk], rfl⟩) (fun i d ρ1 hd hI => ?_) (fun ρ1 hI => ?_)
  · obtain ⟨num, s2, s3, h0, hn2, rfl⟩ := hI
    obtain ⟨p, hp, rfl⟩ := pL_item hd
    have pm := pL_pm p (List.mem_of_getElem? hp)
    have p2 := pm.1
    have p37 := pL_le p (List.mem_of_getElem? hp)
    have hi : i < 12 := (List.getElem?_eq_some_iff.mp hp).1
    refine ⟨_, eg_name, ?_⟩
    walk_at "nz"
    refine wp_seq ?_
    refine wp_set (i := 3) ev_int ?_
    walk_at "nz"
    refine wp_seq ?_
    refine wp_while (fun m ρ1 => ∃ (k : Nat), 0 < m ∧ num = p ^ k * m ∧ ρ1 = [.va (nD m), .own (((pL.take i).map (mlt · n)).map fun k : Nat => PyData.int (k : Int)), .va (nD p), .va (nD k)]) (_) (⟨0, h0, by simp, rfl⟩) (fun m ρ1 hI => ?_)
    obtain ⟨k, hm0, hnum, rfl⟩ := hI
    refine ⟨_, (et_test (ev_op (ev_op (ev_var rfl) (ev_var rfl) (rv_I (by walk_at "sd") fun _ => .int _)) ev_int rv_eqI)), fun h3 => ?_, fun h3 => ?_⟩
    · skip
      have hb : m % p = 0 := by have := of_decide_eq_true h3; omega
      refine wp_seq ?_
      refine wp_set (i := 0) (ev_op (ev_var rfl) (ev_var rfl) (rv_I (by walk_at "sd") fun _ => .int _)) ?_
      walk_at "nz"
      refine wp_set (i := 3) (ev_op (ev_var rfl) ev_int (rv_I0 fun _ => .int _)) ?_
      walk_at "nz"
      show ∃ m, _ ∧ _
      exact ⟨m / p, Nat.div_lt_self hm0 p2, k + 1, Nat.div_pos (Nat.le_of_dvd hm0 (Nat.dvd_of_mod_eq_zero hb)) (by omega), by rw [hnum, Nat.pow_succ, Nat.mul_assoc, Nat.mul_div_cancel' (Nat.dvd_of_mod_eq_zero hb)], by simp [nD]⟩
    · skip
      walk_at "nz"
      have nd : ¬ p ∣ m := fun z => by
        have := of_decide_eq_false h3
        have := Nat.mod_eq_zero_of_dvd z
        omega
      have hmlt2 : mlt p n = k := by rw [mlt_step_parted hn hn2 hp h0]; exact mlt_uniq p2 hnum hm0 nd
      have hmlt : p ^ mlt p n = p ^ k := by rw [hmlt2]
      refine wp_app (i := 1) rfl (ev_var rfl) (by walk_at "sz") ?_
      walk_at "nz"
      refine ⟨m, .va (nD p), .va (nD k), hm0, ?_, ?_⟩
      · rw [mk_take pL n i p hp, hmlt, Nat.mul_assoc, ← hnum]; exact hn2
      · rw [List.take_add_one, hp, ← hmlt2]; simp
  · obtain ⟨num, s2, s3, h0, hn2, rfl⟩ := hI
    walk_at "nz"
    have en : num = rest n := parted_end hn hn2
    refine wp_frz (i := 1) rfl ?_
    walk_at "nz"
    refine wp_ret (ev_tup (ea_cons (ev_cb (ea_cons (ev_var rfl) ea_nil) rc_tupL) (ea_cons (ev_var rfl) ea_nil)) (Nat.le_of_ble_eq_true rfl)) ?_
    walk_at "nz"
    rw [en]; rfl
abbrev s_is_number : Stmt := topS 14
abbrev N_is_number : List Str := ["thing", "found", "left", "many"]
theorem sc_is_number : FnScope N_is_number ["thing"] (defScope s_is_number) := ⟨rfl, rfl, rfl, by decide +kernel, rfl, by decide +kernel, by decide +kernel⟩
theorem ok_is_number (D : Df K mg "is_number" s_is_number ["thing"]) (T : Tx K mg) (G_parted : Ck P w K mg base "parted" 1 ["number"] (spD K (Pr_parted K))) : Ck P w K mg base "is_number" 2 ["thing"] (spD K (Pr_is_number K)) := by
  refine ck_mk (k := 1) D sc_is_number (fun ds r hp => ?_) fun f cdv A outer s H E ds r hr hp => ?_
  · obtain ⟨d, rfl, rfl⟩ := hp
    rfl
  refine ⟨_, (pss_cons (ps_if (PW.pt (pw_or (pt_not (pt_val (pe_callB (call_isiKK (K := K) rfl) (by rfl) T.n_isinstance bt_isinstance (pa_cons (pv 0) (pa_cons (pe_bltn (v := .ty "int") (by rfl) T.n_int bt_int rfl) pa_nil))))) (pw_or (pt_val (pe_callB (call_isiKK (K := K) rfl) (by rfl) T.n_isinstance bt_isinstance (pa_cons (pv 0) (pa_cons (pe_bltn (v := .ty "bool") (by rfl) T.n_bool bt_bool rfl) pa_nil)))) (pw_or1 (pt_cmpR op_lt (pv 0) pe_int (nomark _))))))
      (pss_one (ps_ret pe_bl))
      pss_nil)
      (pss_cons (ps_asg (pe_callC G_parted hr (L2N.passes_call (L2N.takes_of rfl rfl rfl rfl) fun _ _ _ _ h => h) (pa_cons (pv 0) pa_nil)) (pg_tupK (K := K) (n := 2) rfl rfl (pgs_cons (pg_name (i := 1) sc_is_number.nd rfl (.inl rfl)) (pgs_cons (pg_name (i := 2) sc_is_number.nd rfl (.inl rfl)) pgs_nil))))
      (pss_one (ps_ret (pe_and (pe_cmpR op_eq (pv 2) pe_int (nomark _)) (pe_one (pe_callB (cr_allK (K := K) rfl rfl) (by rfl) T.n_all bt_all (pa_cons (pe_lc (own := [("many", 3)]) rfl sc_is_number.nd (pi_tupK (K := K) rfl (pv 1)) (blkOk_by (own := [("many", 3)]) (N := N_is_number) (sc := defScope s_is_number) (by decide +kernel)) (fun _ _ _ _ _ => (pg_name (i := 3) sc_is_number.nd rfl (by first | exact .inl rfl | exact .inr rfl))) (fun _ _ _ _ _ => pts_nil) (fun _ _ _ _ _ => (pe_cmpR op_le (pv 3) (pe_globI T.MOST_ROOM) (nomark _)))) pa_nil)))))))), ?_⟩
  obtain ⟨d, rfl, rfl⟩ := hp
  show Wp K E _ [.va (d), .no, .no, .no] _
  refine wp_seq ?_
  refine wp_if (b := badNum d) ?_ (fun h0 => ?_) (fun h0 => ?_)
  · skip
    cases d with
    | int i => exact et_or (a := false) (EvT.to (et_not (et_B (ev_isi_int (ev_var rfl)))) rfl) fun _ => et_or (a := false) (EvT.to (et_B (ev_isi_bool (ev_var rfl))) rfl) fun _ => et_test (ev_op (ev_var rfl) ev_int (rv_I0 fun _ => .bl _))
    | bool b => exact et_or2 (et_not (et_B (ev_isi_int (ev_var rfl)))) (et_or1 (EvT.to (et_B (ev_isi_bool (ev_var rfl))) rfl))
    | _ => exact et_or1 (EvT.to (et_not (et_B (ev_isi_int (ev_var rfl)))) rfl)
  · skip
    refine wp_ret ev_bl ?_
    walk_at "nz"
    rw [badNum_true h0]
  · skip
    obtain ⟨n, rfl, hn⟩ := badNum_false h0
    refine wp_nil ?_
    walk_at "nz"
    refine wp_seq ?_
    refine wp_asg (vs := [1, 2]) (ev_call (ea_cons (ev_var rfl) ea_nil) ⟨n, hn, rfl, rfl⟩) (eg_tup (egs_cons eg_name (egs_cons eg_name egs_nil)) rfl) ?_
    walk_at "nz"
    refine wp_ret (ev_andV (ev_op (ev_var rfl) ev_int rv_eqI) fun _ => (ev_cb (ea_cons (EvN.da (evn_lc0 (vs := [3]) (ei_tup (ev_var rfl)) (by walk_at "sz") _ _ (fun x hx => ⟨eg_name, (ev_op (ev_var rfl) ev_int (rv_I0 fun _ => .bl _))⟩))) ea_nil) rc_allM)) ?_
    walk_at "nz"
    rw [isNumD_nat hn]
abbrev s_need_number : Stmt := topS 15
abbrev N_need_number : List Str := ["number"]
theorem sc_need_number : FnScope N_need_number ["number"] (defScope s_need_number) := ⟨rfl, rfl, rfl, by decide +kernel, rfl, by decide +kernel, by decide +kernel⟩
theorem ok_need_number (D : Df K mg "need_number" s_need_number ["number"]) (T : Tx K mg) (G_is_number : Ck P w K mg base "is_number" 2 ["thing"] (spD K (Pr_is_number K))) : Ck P w K mg base "need_number" 3 ["number"] (spD K (Pr_need_number K)) := by
  refine ck_mk (k := 2) D sc_need_number (fun ds r hp => ?_) fun f cdv A outer s H E ds r hr hp => ?_
  · obtain ⟨d, rfl, rfl⟩ := hp
    rfl
  refine ⟨_, (pss_one (ps_if (pt_not (pt_val (pe_callC G_is_number hr (L2N.passes_call (L2N.takes_of rfl rfl rfl rfl) fun _ _ _ _ h => h) (pa_cons (pv 0) pa_nil))))
      (pss_one (L2N.ps_raise rfl (L2N.takes_of rfl rfl rfl rfl) (L2N.pmk_own PySem.F.excBase_ValueError T.BadNumber.ex T.BadNumber.gl T.BadNumber.kp (raises_own T.BadNumber.sb T.BadNumber.ty) (by rfl))))
      pss_nil)), ?_⟩
  obtain ⟨d, rfl, rfl⟩ := hp
  show Wp K E _ [.va (d)] _
  refine wp_if (et_not (et_B (ev_call (ea_cons (ev_var rfl) ea_nil) (by walk_at "pr")))) (fun h0 => ?_) (fun h0 => ?_)
  · skip
    refine wp_raise ?_
    walk_at "nz"
    rw [Bool.not_eq_true'] at h0
    rw [h0]; rfl
  · skip
    refine wp_nil ?_
    walk_at "nz"
    rw [Bool.not_eq_false'] at h0
    rw [h0]; rfl
abbrev s_is_count : Stmt := topS 11
abbrev N_is_count : List Str := ["thing", "low", "high"]
theorem sc_is_count : FnScope N_is_count ["thing", "low", "high"] (defScope s_is_count) := ⟨rfl, rfl, rfl, by decide +kernel, rfl, by decide +kernel, by decide +kernel⟩
theorem ok_is_count (D : Df K mg "is_count" s_is_count ["thing", "low", "high"]) (T : Tx K mg) : Ck P w K mg base "is_count" 1 ["thing", "low", "high"] (spD K (Pr_is_count K)) := by
  refine ck_mk (k := 0) D sc_is_count (fun ds r hp => ?_) fun f cdv A outer s H E ds r hr hp => ?_
  · obtain ⟨d, lo, hi, rfl, rfl⟩ := hp
    rfl
  refine ⟨_, (pss_one (ps_ret (pe_and (pe_callB (call_isiKK (K := K) rfl) (by rfl) T.n_isinstance bt_isinstance (pa_cons (pv 0) (pa_cons (pe_bltn (v := .ty "int") (by rfl) T.n_int bt_int rfl) pa_nil))) (pe_and (pe_not (pe_callB (call_isiKK (K := K) rfl) (by rfl) T.n_isinstance bt_isinstance (pa_cons (pv 0) (pa_cons (pe_bltn (v := .ty "bool") (by rfl) T.n_bool bt_bool rfl) pa_nil)))) (pe_one (pe_chain op_le op_le (pv 1) (pv 0) (pv 2))))))), ?_⟩
  obtain ⟨d, lo, hi, rfl, rfl⟩ := hp
  show Wp K E _ [.va (d), .va (.int lo), .va (.int hi)] _
  refine wp_ret (d := .bool (isCount d lo hi)) ?_ ?_
  · skip
    cases d with
    | int i => exact (ev_andV (ev_isi_int (ev_var rfl)) fun _ => ev_andV (ev_notV (ev_isi_bool (ev_var rfl))) fun _ => ev_chain (ev_var rfl) (ev_var rfl) (ev_var rfl)).to rfl
    | bool b => exact (ev_andV (ev_isi_int (ev_var rfl)) fun _ => ev_andV (b := false) (ev_notV (ev_isi_bool (ev_var rfl))) fun z => by exact absurd z Bool.false_ne_true).to rfl
    | _ => exact (ev_andV (b := false) (ev_isi_int (ev_var rfl)) fun z => by exact absurd z Bool.false_ne_true).to rfl
  walk_at "nz"
  first | done | rfl
abbrev s_need_order : Stmt := topS 31
abbrev N_need_order : List Str := ["order", "one"]
theorem sc_need_order : FnScope N_need_order ["order"] (defScope s_need_order) := ⟨rfl, rfl, rfl, by decide +kernel, rfl, by decide +kernel, by decide +kernel⟩
theorem ok_need_order (D : Df K mg "need_order" s_need_order ["order"]) (T : Tx K mg) (G_is_count : Ck P w K mg base "is_count" 1 ["thing", "low", "high"] (spD K (Pr_is_count K))) : Ck P w K mg base "need_order" 2 ["order"] (spD K (Pr_need_order K)) := by
  refine ck_mk (k := 1) D sc_need_order (fun ds r hp => ?_) fun f cdv A outer s H E ds r hr hp => ?_
  · obtain ⟨d, rfl, rfl⟩ := hp
    rfl
  refine ⟨_, (pss_cons (ps_if (PW.pt (pw_or (pt_not (pt_val (pe_callB (call_isiKK (K := K) rfl) (by rfl) T.n_isinstance bt_isinstance (pa_cons (pv 0) (pa_cons (pe_bltn (v := .ty "tuple") (by rfl) T.n_tuple bt_tuple rfl) pa_nil))))) (pw_or1 (pt_cmpR op_ne (pe_callB (call_lenK (K := K) rfl) (by rfl) T.n_len bt_len (pa_cons (pv 0) pa_nil)) (pe_callB (call_lenK (K := K) rfl) (by rfl) T.n_len bt_len (pa_cons (pe_glob (v := .ref _) (by rfl) T.PRIMES rfl) pa_nil)) (nomark _)))))
      (pss_one (L2N.ps_raise rfl (L2N.takes_of rfl rfl rfl rfl) (L2N.pmk_own PySem.F.excBase_ValueError T.BadNumber.ex T.BadNumber.gl T.BadNumber.kp (raises_own T.BadNumber.sb T.BadNumber.ty) (by rfl))))
      pss_nil)
      (pss_one (ps_if (PW.pt (pw_or (pt_not (pt_val (pe_callB (cr_allK (K := K) rfl rfl) (by rfl) T.n_all bt_all (pa_cons (pe_lc (own := [("one", 1)]) rfl sc_need_order.nd (pi_tupK (K := K) rfl (pv 0)) (blkOk_by (own := [("one", 1)]) (N := N_need_order) (sc := defScope s_need_order) (by decide +kernel)) (fun _ _ _ _ _ => (pg_name (i := 1) sc_need_order.nd rfl (by first | exact .inl rfl | exact .inr rfl))) (fun _ _ _ _ _ => pts_nil) (fun _ _ _ _ _ => (pe_callC G_is_count hr passLN (pa_cons (pv 1) (pa_cons pe_int (pa_cons (pe_op op_sub (pe_callB (call_lenK (K := K) rfl) (by rfl) T.n_len bt_len (pa_cons (pe_glob (v := .ref _) (by rfl) T.PRIMES rfl) pa_nil)) pe_int) pa_nil)))))) pa_nil)))) (pw_or1 (pt_cmpR op_ne (pe_lenSetT (K := K) rfl (by rfl) T.n_len (by rfl) T.n_set (pv 0)) (pe_callB (call_lenK (K := K) rfl) (by rfl) T.n_len bt_len (pa_cons (pv 0) pa_nil)) (nomark _)))))
      (pss_one (L2N.ps_raise rfl (L2N.takes_of rfl rfl rfl rfl) (L2N.pmk_own PySem.F.excBase_ValueError T.BadNumber.ex T.BadNumber.gl T.BadNumber.kp (raises_own T.BadNumber.sb T.BadNumber.ty) (by rfl))))
      pss_nil))), ?_⟩
  obtain ⟨d, rfl, rfl⟩ := hp
  show Wp K E _ [.va (d), .no] _
  refine wp_seq ?_
  refine wp_if (b := !isT12 d) ?_ (fun h0 => ?_) (fun h0 => ?_)
  · skip
    cases d with
    | tuple ds =>
      refine EvT.to (et_or (et_not (et_B (ev_isi_tuple (ev_var rfl)))) fun _ => (et_test (ev_op (ev_cb (ea_cons (ev_var rfl) ea_nil) rc_lenT) (ev_cb (ea_cons (ev_c T.d_PRIMES) ea_nil) rc_lenT) rv_neI))) ?_
      show (!true || !decide ((ds.length : Int) = 12)) = !decide ((ds.length : Int) = 12)
      rfl
    | _ => exact et_or1 ((et_not (et_B (ev_isi_tuple (ev_var rfl)))).to rfl)
  · skip
    refine wp_raise ?_
    walk_at "nz"
    rw [ord_no12 (by simpa using h0)]; rfl
  · skip
    obtain ⟨ds, rfl, h12⟩ := t12_of (by simpa using h0)
    refine wp_nil ?_
    walk_at "nz"
    refine wp_if (b := !(ds.all (fun d => isCount d 0 11) && decide ((ds.map decI).Nodup))) ?_ (fun h2 => ?_) (fun h2 => ?_)
    · skip
      cases hall : ds.all (fun d => isCount d 0 11) with
      | false => exact et_or1 (EvT.to (et_not (et_B (ev_cb (ea_cons (EvN.da (evn_lc0 (vs := [1]) (ei_tupD (ev_var rfl)) (by omega) _ _ (fun x hx => ⟨eg_name, ev_call (ea_cons (ev_var rfl) (ea_cons ev_int (ea_cons (ev_op (ev_cb (ea_cons (ev_c T.d_PRIMES) ea_nil) rc_lenT) ev_int (rv_I0 fun _ => .int _)) ea_nil))) ⟨_, _, _, rfl, rfl⟩⟩))) ea_nil) rc_allM))) (show (!(ds.all fun d => isCount d 0 11)) = true by rw [hall]; rfl))
      | true =>
        obtain ⟨o, rfl, ho⟩ := counts11 hall
        have ol : o.length = 12 := by simpa using h12
        refine EvT.to (et_or (a := false) (EvT.to (et_not (et_B (ev_cb (ea_cons (EvN.da (evn_lc0 (vs := [1]) (ei_tupD (ev_var rfl)) (by omega) _ _ (fun x hx => ⟨eg_name, ev_call (ea_cons (ev_var rfl) (ea_cons ev_int (ea_cons (ev_op (ev_cb (ea_cons (ev_c T.d_PRIMES) ea_nil) rc_lenT) ev_int (rv_I0 fun _ => .int _)) ea_nil))) ⟨_, _, _, rfl, rfl⟩⟩))) ea_nil) rc_allM))) (show (!((o.map fun k : Nat => PyData.int (k : Int)).all fun d => isCount d 0 11)) = false by rw [hall]; rfl)) fun _ => et_test (ev_op (ev_lenSetT (ns := o.map fun k : Nat => (k : Int)) (Ev.to (ev_var rfl) (by rw [List.map_map]; rfl)) (by rw [List.length_map]; omega)) (ev_cb (ea_cons (ev_var rfl) ea_nil) rc_lenT) rv_neI)) ?_
        rw [map_decI]
        have e := dist_eq (o.map fun k : Nat => (k : Int))
        rw [List.length_map] at e
        by_cases hn : (o.map fun k : Nat => (k : Int)).Nodup
        · have e2 := e.mpr hn
          rw [e2]; simp [hn]
        · have e2 : ¬ (dist (o.map fun k : Nat => (k : Int))).length = o.length := fun z => hn (e.mp z)
          have e3 : ¬ (((dist (o.map fun k : Nat => (k : Int))).length : Nat) : Int) = ((o.length : Nat) : Int) := fun z => e2 (by omega)
          simp [hn, e3]
    · skip
      have hno : isOrdD (.tuple ds) = false := by
        rw [ord_12 h12]
        rw [Bool.not_eq_true'] at h2
        exact h2
      refine wp_raise ?_
      walk_at "nz"
      rw [hno]; rfl
    · skip
      have hok : isOrdD (.tuple ds) = true := by rw [ord_12 h12]; simpa using h2
      refine wp_nil ?_
      walk_at "nz"
      rw [hok]; rfl
abbrev s_made : Stmt := topS 16
abbrev N_made : List Str := ["rooms", "found", "prime", "many", "turn"]
theorem sc_made : FnScope N_made ["rooms"] (defScope s_made) := ⟨rfl, rfl, rfl, by decide +kernel, rfl, by decide +kernel, by decide +kernel⟩
theorem ok_made (D : Df K mg "made" s_made ["rooms"]) (T : Tx K mg) : Ck P w K mg base "made" 1 ["rooms"] (spD K (Pr_made K)) := by
  refine ck_mk (k := 0) D sc_made (fun ds r hp => ?_) fun f cdv A outer s H E ds r hr hp => ?_
  · obtain ⟨rs, hl, hb, rfl, rfl⟩ := hp
    rfl
  refine ⟨_, (pss_cons (ps_set (i := 1) sc_made.nd rfl (.inl rfl) pe_int)
      (pss_cons (ps_for (passes_of rfl) rfl (pi_zipMKT (K := K) rfl (by rfl) T.n_zip (pa_cons (pe_glob (v := .ref _) (by rfl) T.PRIMES rfl) (pa_cons (pv 0) pa_nil))) (pg_tupK (K := K) (n := 2) rfl rfl (pgs_cons (pg_name (i := 2) sc_made.nd rfl (.inl rfl)) (pgs_cons (pg_name (i := 3) sc_made.nd rfl (.inl rfl)) pgs_nil)))
      (pss_one (ps_for (passes_of rfl) rfl (pi_range1 (by rfl) T.n_range (pa_cons (pv 3) pa_nil)) (pg_name (i := 4) sc_made.nd rfl (.inl rfl))
      (pss_one (ps_set (i := 1) sc_made.nd rfl (.inl rfl) (pe_op op_mulA (pv 1) (pv 2)))))))
      (pss_one (ps_ret (pv 1))))), ?_⟩
  obtain ⟨rs, hl, hb, rfl, rfl⟩ := hp
  show Wp K E _ [.va (lN rs), .no, .no, .no, .no] _
  refine wp_seq ?_
  refine wp_set (i := 1) ev_int ?_
  walk_at "nz"
  refine wp_seq ?_
  refine wp_for (vs := [2, 3]) (ei_zipMMT (ev_c T.d_PRIMES) (ev_var rfl)) (fun i ρ1 => ∃ (s2 s3 s4 : Sl), ρ1 = [.va (lN rs), .va (nD (mk (pL.take i) (rs.take i))), s2, s3, s4]) (⟨_, _, _, rfl⟩) (fun i d ρ1 hd hI => ?_) (fun ρ1 hI => ?_)
  · obtain ⟨s2, s3, s4, rfl⟩ := hI
    obtain ⟨p, k, hp, hk, rfl⟩ := made_item hd
    have p37 := pL_le p (List.mem_of_getElem? hp)
    have k401 := hb k (List.mem_of_getElem? hk)
    obtain ⟨i0, rfl⟩ : ∃ i0, i0 = i := ⟨i, rfl⟩
    refine ⟨_, (eg_tup (egs_cons eg_name (egs_cons eg_name egs_nil)) rfl), ?_⟩
    walk_at "nz"
    refine wp_for (vs := [4]) (ei_rng1 (ev_var rfl) (by walk_at "sd") (by walk_at "sd")) (fun j ρ1 => ∃ (s4 : Sl), ρ1 = [.va (lN rs), .va (nD (mk (pL.take i0) (rs.take i0) * p ^ j)), .va (nD p), .va (nD k), s4]) (⟨s4, by simp [nD]⟩) (fun i d ρ1 hd hI => ?_) (fun ρ1 hI => ?_)
    · obtain ⟨s4, rfl⟩ := hI
      obtain ⟨_, rfl⟩ := rng_item hd
      have hmul : CMulA ((mk (pL.take i0) (rs.take i0) * p ^ i : Nat) : Int) ((p : Nat) : Int) := cmul_r (by omega) (by omega)
      refine ⟨_, eg_name, ?_⟩
      walk_at "nz"
      refine wp_set (i := 1) (ev_op (ev_var rfl) (ev_var rfl) (rv_I (by walk_at "sd") fun _ => .int _)) ?_
      walk_at "nz"
      exact ⟨.va (.int (0 + (i : Int))), by rw [Nat.pow_succ, ← Nat.mul_assoc]; simp only [nD, Int.natCast_mul]⟩
    · obtain ⟨s4, rfl⟩ := hI
      walk_at "nz"
      exact ⟨.va (nD p), .va (nD k), s4, by rw [mk_snoc pL rs i0 p k hp hk]; simp⟩
  · obtain ⟨s2, s3, s4, rfl⟩ := hI
    walk_at "nz"
    refine wp_ret (ev_var rfl) ?_
    walk_at "nz"
    rw [List.length_map, List.length_zip, mk_min pL rs _ (by simp [pL])]
abbrev s_moved_number : Stmt := topS 32
abbrev N_moved_number : List Str := ["number", "order", "rooms", "found", "room", "goal"]
theorem sc_moved_number : FnScope N_moved_number ["number", "order"] (defScope s_moved_number) := ⟨rfl, rfl, rfl, by decide +kernel, rfl, by decide +kernel, by decide +kernel⟩
theorem ok_moved_number (D : Df K mg "moved_number" s_moved_number ["number", "order"]) (T : Tx K mg) (G_made : Ck P w K mg base "made" 1 ["rooms"] (spD K (Pr_made K))) (G_parted : Ck P w K mg base "parted" 1 ["number"] (spD K (Pr_parted K))) : Ck P w K mg base "moved_number" 2 ["number", "order"] (spD K (Pr_moved_number K)) := by
  refine ck_mk (k := 1) D sc_moved_number (fun ds r hp => ?_) fun f cdv A outer s H E ds r hr hp => ?_
  · obtain ⟨n, o, hn, ho, rfl, rfl⟩ := hp
    rfl
  refine ⟨_, (pss_cons (ps_set (i := 2) sc_moved_number.nd rfl (.inl rfl) (pe_ix (ix_tupK (K := K) rfl) (pe_callC G_parted hr (L2N.passes_call (L2N.takes_of rfl rfl rfl rfl) fun _ _ _ _ h => h) (pa_cons (pv 0) pa_nil)) pe_int (fun _ _ => rfl)))
      (pss_cons (ps_set (i := 3) sc_moved_number.nd rfl (.inl rfl) (pe_op op_rep (pe_lst (pa_cons pe_int pa_nil)) (pe_callB (call_lenK (K := K) rfl) (by rfl) T.n_len bt_len (pa_cons (pe_glob (v := .ref _) (by rfl) T.PRIMES rfl) pa_nil))))
      (pss_cons (ps_for (passes_of rfl) rfl (pi_enT (K := K) rfl (by rfl) T.n_enumerate (pa_cons (pv 1) pa_nil)) (pg_tupK (K := K) (n := 2) rfl rfl (pgs_cons (pg_name (i := 4) sc_moved_number.nd rfl (.inl rfl)) (pgs_cons (pg_name (i := 5) sc_moved_number.nd rfl (.inl rfl)) pgs_nil)))
      (pss_one (ps_asg (pe_ix (ix_tupK (K := K) rfl) (pv 2) (pv 4) (fun _ _ => rfl)) (pg_sub (pv 3) (pv 5) set_list))))
      (pss_one (ps_ret (pe_callC G_made hr (L2N.passes_call (L2N.takes_of rfl rfl rfl rfl) fun _ _ _ _ h => h) (pa_cons (pv 3) pa_nil))))))), ?_⟩
  obtain ⟨n, o, hn, ho, rfl, rfl⟩ := hp
  show Wp K E _ [.va (nD n), .va (rmD o), .no, .no, .no, .no] _
  refine wp_seq ?_
  refine wp_set (i := 2) (ev_op (ev_call (ea_cons (ev_var rfl) ea_nil) ⟨n, hn.1, rfl, rfl⟩) ev_int (rv_ixT (by walk_at "ix"))) ?_
  walk_at "nz"
  refine wp_seq ?_
  refine wp_setN (i := 3) (ds := (exGo o (rooms n) 0).map fun k : Nat => PyData.int (k : Int)) ?_ ?_
  · skip
    exact EvN.to (evn_op (EvN.da (evn_lst (ea_cons ev_int ea_nil) (Nat.le_of_ble_eq_true rfl))) (ev_cb (ea_cons (ev_c T.d_PRIMES) ea_nil) rc_lenT) (rvn_rep (by walk_at "sd") (by walk_at "sd") (by walk_at "sz"))) rfl
  walk_at "nz"
  refine wp_seq ?_
  refine wp_for (vs := [4, 5]) (ei_enTM (ev_var rfl)) (fun i ρ1 => ∃ (s5 s6 : Sl), ρ1 = [.va (nD n), .va (rmD o), .va (rmD (rooms n)), .own ((exGo o (rooms n) i).map fun k : Nat => PyData.int (k : Int)), s5, s6]) (⟨_, _, rfl⟩) (fun i d ρ1 hd hI => ?_) (fun ρ1 hI => ?_)
  · obtain ⟨s5, s6, rfl⟩ := hI
    obtain ⟨p, hp, rfl⟩ := map_item hd
    obtain ⟨g, hg, rfl⟩ := enum_item2 hp
    have hi : i < 12 := by have := (List.getElem?_eq_some_iff.mp hg).1; rw [ho.len] at this; exact this
    have eg := exGo_at hg
    obtain ⟨v, hv⟩ : ∃ v, (rooms n)[i]? = some v := ⟨_, List.getElem?_eq_getElem (by rw [rooms_len]; exact hi)⟩
    have hix : atI (rooms n) (i : Int) = some v := atI_nat hv
    refine ⟨_, (eg_tup (egs_cons eg_name (egs_cons eg_name egs_nil)) rfl), ?_⟩
    walk_at "nz"
    refine wp_put (i := 3) rfl (ev_op (ev_var rfl) (ev_var rfl) (rv_ixTm (by walk_at "ix"))) (ev_var rfl) (ixN_nat (by rw [List.length_map, exGo_len, ← eg]; exact ord_lt ho hi)) ?_
    walk_at "nz"
    exact ⟨_, _, by rw [← exGo_step o (rooms n) hv, eg]⟩
  · obtain ⟨s5, s6, rfl⟩ := hI
    walk_at "nz"
    have e : (o.zipIdx.map fun p : Nat × Nat => PyData.tuple [.int (p.2 : Int), PyData.int (p.1 : Int)]).length = 12 := by rw [List.length_map, List.length_zipIdx, ho.len]
    rw [e]
    refine wp_frz (i := 3) rfl ?_
    walk_at "nz"
    refine wp_ret (ev_call (ea_cons (ev_var rfl) ea_nil) ⟨exR o (rooms n), by rw [exR_len]; decide, fun k hk => by rw [← rooms_exN] at hk; exact Nat.le_succ_of_le ((ex_isNum ho hn).2.2 k hk), rfl, rfl⟩) ?_
    walk_at "nz"
    first | done | rfl
abbrev s_moved : Stmt := topS 33
abbrev N_moved : List Str := ["number", "order"]
theorem sc_moved : FnScope N_moved ["number", "order"] (defScope s_moved) := ⟨rfl, rfl, rfl, by decide +kernel, rfl, by decide +kernel, by decide +kernel⟩
theorem ok_moved (D : Df K mg "moved" s_moved ["number", "order"]) (T : Tx K mg) (G_moved_number : Ck P w K mg base "moved_number" 2 ["number", "order"] (spD K (Pr_moved_number K))) (G_need_number : Ck P w K mg base "need_number" 3 ["number"] (spD K (Pr_need_number K))) (G_need_order : Ck P w K mg base "need_order" 2 ["order"] (spD K (Pr_need_order K))) : Ck P w K mg base "moved" 4 ["number", "order"] (spD K (Pr_moved K)) := by
  refine ck_mk (k := 3) D sc_moved (fun ds r hp => ?_) fun f cdv A outer s H E ds r hr hp => ?_
  · obtain ⟨d, e, rfl, rfl⟩ := hp
    rfl
  refine ⟨_, (pss_cons (ps_expr (pe_callC G_need_number hr (L2N.passes_call (L2N.takes_of rfl rfl rfl rfl) fun _ _ _ _ h => h) (pa_cons (pv 0) pa_nil)))
      (pss_cons (ps_expr (pe_callC G_need_order (hr.mono (by decide)) (L2N.passes_call (L2N.takes_of rfl rfl rfl rfl) fun _ _ _ _ h => h) (pa_cons (pv 1) pa_nil)))
      (pss_one (ps_ret (pe_callC G_moved_number (hr.mono (by decide)) (L2N.passes_call (L2N.takes_of rfl rfl rfl rfl) fun _ _ _ _ h => h) (pa_cons (pv 0) (pa_cons (pv 1) pa_nil))))))), ?_⟩
  obtain ⟨d, e, rfl, rfl⟩ := hp
  show Wp K E _ [.va (d), .va (e)] _
  refine wp_seq ?_
  refine wp_exprE (eve_call (ea_cons (ev_var rfl) ea_nil) ⟨d, rfl, rfl⟩) (fun dv hd => ?_) (fun c hc => ?_)
  · skip
    walk_at "nz"
    obtain ⟨n, rfl, hn⟩ := mv_ok hd
    walk_at "nz"
    refine wp_seq ?_
    refine wp_exprE (eve_call (ea_cons (ev_var rfl) ea_nil) ⟨e, rfl, rfl⟩) (fun dv hd => ?_) (fun c hc => ?_)
    · skip
      walk_at "nz"
      obtain ⟨o, rfl, ho⟩ := mo_ok hd
      walk_at "nz"
      refine wp_ret (ev_call (ea_cons (ev_var rfl) (ea_cons (ev_var rfl) ea_nil)) ⟨n, o, hn, ho, rfl, rfl⟩) ?_
      walk_at "nz"
      exact movedE_ok hn ho
    · skip
      walk_at "nz"
      obtain ⟨h1, h2⟩ := mo_xc hc
      rw [movedE_ord h1]; exact h2
  · skip
    walk_at "nz"
    obtain ⟨h1, h2⟩ := mv_xc hc
    rw [movedE_num h1]; exact h2
abbrev s__law_primes : Stmt := topS 41
abbrev N__law_primes : List Str := []
theorem sc__law_primes : FnScope N__law_primes [] (defScope s__law_primes) := ⟨rfl, rfl, rfl, by decide +kernel, rfl, by decide +kernel, by decide +kernel⟩
theorem ok__law_primes (D : Df K mg "_law_primes" s__law_primes []) (T : Tx K mg) : Ck P w K mg base "_law_primes" 1 [] (spD K (Pr__law_primes K)) := by
  refine ck_mk (k := 0) D sc__law_primes (fun ds r hp => ?_) fun f cdv A outer s H E ds r hr hp => ?_
  · obtain ⟨rfl, rfl⟩ := hp
    rfl
  refine ⟨_, (pss_one (ps_ret (pe_lst (pa_cons pe_int (pa_cons pe_int (pa_cons pe_int (pa_cons pe_int (pa_cons pe_int (pa_cons pe_int (pa_cons pe_int (pa_cons pe_int (pa_cons pe_int (pa_cons pe_int (pa_cons pe_int (pa_cons pe_int pa_nil))))))))))))))), ?_⟩
  obtain ⟨rfl, rfl⟩ := hp
  show Wp K E _ [] _
  refine wp_ret (EvN.da (evn_lst (ea_cons ev_int (ea_cons ev_int (ea_cons ev_int (ea_cons ev_int (ea_cons ev_int (ea_cons ev_int (ea_cons ev_int (ea_cons ev_int (ea_cons ev_int (ea_cons ev_int (ea_cons ev_int (ea_cons ev_int ea_nil)))))))))))) (Nat.le_of_ble_eq_true rfl))) ?_
  walk_at "nz"
  first | done | rfl
abbrev s__law_some : Stmt := topS 43
abbrev N__law_some : List Str := ["_law_more", "_law_primes_here", "_law_most", "_law_found", "_law_j"]
theorem sc__law_some : FnScope N__law_some ["_law_more", "_law_primes_here", "_law_most"] (defScope s__law_some) := ⟨rfl, rfl, rfl, by decide +kernel, rfl, by decide +kernel, by decide +kernel⟩
theorem ok__law_some (D : Df K mg "_law_some" s__law_some ["_law_more", "_law_primes_here", "_law_most"]) (T : Tx K mg) (G__law_drawn : Ck P w K mg base "_law_drawn" 1 ["_law_cell_here", "_law_k"] (spD K (Pr__law_drawn K))) (G__law_primes : Ck P w K mg base "_law_primes" 1 [] (spD K (Pr__law_primes K))) : Ck P w K mg base "_law_some" 2 ["_law_more", "_law_primes_here", "_law_most"] (spD K (Pr__law_some K)) := by
  refine ck_mk (k := 1) D sc__law_some (fun ds r hp => ?_) fun f cdv A outer s H E ds r hr hp => ?_
  · obtain ⟨m, q, t, hq0, hq1, ht, rfl, rfl⟩ := hp
    rfl
  refine ⟨_, (pss_cons (ps_set (i := 3) sc__law_some.nd rfl (.inl rfl) pe_int)
      (pss_cons (ps_for (passes_of rfl) rfl (pi_range1 (by rfl) T.n_range (pa_cons (pe_op op_mod (pv 0) (pe_op op_add (pv 2) pe_int)) pa_nil)) (pg_name (i := 4) sc__law_some.nd rfl (.inl rfl))
      (pss_one (ps_set (i := 3) sc__law_some.nd rfl (.inl rfl) (pe_op op_mulA (pv 3) (pe_ix (ix_listK (K := K) rfl) (pe_callC0 G__law_primes hr (L2N.passes_call (L2N.takes_of rfl rfl rfl rfl) fun _ _ _ _ h => h)) (pe_op op_mod (pe_op op_fdivW (pe_callC G__law_drawn hr (L2N.passes_call (L2N.takes_of rfl rfl rfl rfl) fun _ _ _ _ h => h) (pa_cons (pv 0) (pa_cons (pv 4) pa_nil))) pe_int) (pv 1)) (fun _ _ => rfl))))))
      (pss_one (ps_ret (pv 3))))), ?_⟩
  obtain ⟨m, q, t, hq0, hq1, ht, rfl, rfl⟩ := hp
  show Wp K E _ [.va (.int m), .va (nD q), .va (nD t), .no, .no] _
  refine wp_seq ?_
  refine wp_set (i := 3) ev_int ?_
  walk_at "nz"
  have hc0 := Int.emod_nonneg m (show (t : Int) + 1 ≠ 0 by omega)
  have hc1 := Int.emod_lt_of_pos m (show (0 : Int) < (t : Int) + 1 by omega)
  refine wp_seq ?_
  refine wp_for (vs := [4]) (ei_rng1 (ev_op (ev_var rfl) (ev_op (ev_var rfl) ev_int (rv_I0 fun _ => .int _)) (rv_I (by walk_at "sd") fun _ => .int _)) (by walk_at "sd") (by walk_at "sd")) (fun i ρ1 => ∃ (s4 : Sl), ρ1 = [.va (.int m), .va (nD q), .va (nD t), .va (nD (someP m q i)), s4]) (⟨_, rfl⟩) (fun i d ρ1 hd hI => ?_) (fun ρ1 hI => ?_)
  · obtain ⟨s4, rfl⟩ := hI
    obtain ⟨hi, rfl⟩ := rng_item hd
    have dx := draw_ix m (0 + (i : Int)) hq0 hq1
    have hix : atI pL (drawn m (0 + (i : Int)) / 8 % (q : Int)) = some (pL.getD (drawn m (0 + (i : Int)) / 8 % (q : Int)).toNat 1) := atI_of dx.1 (by show _ < ((12 : Nat) : Int); omega) 1
    have p37 := pL_le _ (pL_at dx.2.2)
    have hmul : CMulA ((someP m q i : Nat) : Int) ((pL.getD (drawn m (0 + (i : Int)) / 8 % (q : Int)).toNat 1 : Nat) : Int) := cmul_r (by omega) (by omega)
    refine ⟨_, eg_name, ?_⟩
    walk_at "nz"
    refine wp_set (i := 3) (ev_op (ev_var rfl) (ev_op (ev_call ea_nil ⟨rfl, rfl⟩) (ev_op (ev_op (ev_call (ea_cons (ev_var rfl) (ea_cons (ev_var rfl) ea_nil)) ⟨m, 0 + (i : Int), rfl, rfl⟩) ev_int (rv_I (by walk_at "sd") fun _ => .int _)) (ev_var rfl) (rv_I (by walk_at "sd") fun _ => .int _)) (rv_ixLm (by walk_at "ix"))) (rv_I (by walk_at "sd") fun _ => .int _)) ?_
    walk_at "nz"
    exact ⟨.va (.int (0 + (i : Int))), by rw [someP]; simp only [nD, Int.natCast_mul]⟩
  · obtain ⟨s4, rfl⟩ := hI
    walk_at "nz"
    refine wp_ret (ev_var rfl) ?_
    walk_at "nz"
    show Except.ok (nD (someF m q t)) = _
    unfold someF
    rw [List.length_map, List.length_range]
abbrev s__law_fraction : Stmt := topS 44
abbrev N__law_fraction : List Str := ["_law_more", "_law_primes_here", "_law_top", "_law_under", "_law_prime"]
theorem sc__law_fraction : FnScope N__law_fraction ["_law_more", "_law_primes_here"] (defScope s__law_fraction) := ⟨rfl, rfl, rfl, by decide +kernel, rfl, by decide +kernel, by decide +kernel⟩
theorem ok__law_fraction (D : Df K mg "_law_fraction" s__law_fraction ["_law_more", "_law_primes_here"]) (T : Tx K mg) (G__law_drawn : Ck P w K mg base "_law_drawn" 1 ["_law_cell_here", "_law_k"] (spD K (Pr__law_drawn K))) (G__law_primes : Ck P w K mg base "_law_primes" 1 [] (spD K (Pr__law_primes K))) (G__law_some : Ck P w K mg base "_law_some" 2 ["_law_more", "_law_primes_here", "_law_most"] (spD K (Pr__law_some K))) : Ck P w K mg base "_law_fraction" 3 ["_law_more", "_law_primes_here"] (spD K (Pr__law_fraction K)) := by
  refine ck_mk (k := 2) D sc__law_fraction (fun ds r hp => ?_) fun f cdv A outer s H E ds r hr hp => ?_
  · obtain ⟨c, q, hq0, hq1, rfl, rfl⟩ := hp
    rfl
  refine ⟨_, (pss_cons (ps_par (i := 2) (j := 3) (by rfl) sc__law_fraction.nd rfl rfl (by decide) rfl rfl (pa_cons (pe_callC G__law_some hr (L2N.passes_call (L2N.takes_of rfl rfl rfl rfl) fun _ _ _ _ h => h) (pa_cons (pe_callC G__law_drawn (hr.mono (by decide)) (L2N.passes_call (L2N.takes_of rfl rfl rfl rfl) fun _ _ _ _ h => h) (pa_cons (pv 0) (pa_cons pe_int pa_nil))) (pa_cons (pv 1) (pa_cons pe_int pa_nil)))) (pa_cons (pe_callC G__law_some hr (L2N.passes_call (L2N.takes_of rfl rfl rfl rfl) fun _ _ _ _ h => h) (pa_cons (pe_callC G__law_drawn (hr.mono (by decide)) (L2N.passes_call (L2N.takes_of rfl rfl rfl rfl) fun _ _ _ _ h => h) (pa_cons (pv 0) (pa_cons pe_int pa_nil))) (pa_cons (pv 1) (pa_cons pe_int pa_nil)))) pa_nil)) (by rfl))
      (pss_cons (ps_for (passes_of rfl) rfl (pi_listK (K := K) rfl (pe_callC0 G__law_primes (hr.mono (by decide)) (L2N.passes_call (L2N.takes_of rfl rfl rfl rfl) fun _ _ _ _ h => h))) (pg_name (i := 4) sc__law_fraction.nd rfl (.inl rfl))
      (pss_one (ps_while (passes_of rfl) (PW.pt (pw_and (pt_cmpR op_eq (pe_op op_mod (pv 2) (pv 4)) pe_int (nomark _)) (pw_and1 (pt_cmpR op_eq (pe_op op_mod (pv 3) (pv 4)) pe_int (nomark _)))))
      (pss_one (ps_par (i := 2) (j := 3) (by rfl) sc__law_fraction.nd rfl rfl (by decide) rfl rfl (pa_cons (pe_op op_fdivW (pv 2) (pv 4)) (pa_cons (pe_op op_fdivW (pv 3) (pv 4)) pa_nil)) (by rfl))))))
      (pss_one (ps_ret (pe_tup (pa_cons (pv 2) (pa_cons (pv 3) pa_nil))))))), ?_⟩
  obtain ⟨c, q, hq0, hq1, rfl, rfl⟩ := hp
  show Wp K E _ [.va (.int c), .va (nD q), .no, .no, .no] _
  refine wp_seq ?_
  refine wp_par (ea_cons (ev_call (ea_cons (ev_call (ea_cons (ev_var rfl) (ea_cons ev_int ea_nil)) ⟨c, 1, rfl, rfl⟩) (ea_cons (ev_var rfl) (ea_cons ev_int ea_nil))) ⟨drawn c 1, q, 2, hq0, hq1, by decide, rfl, rfl⟩) (ea_cons (ev_call (ea_cons (ev_call (ea_cons (ev_var rfl) (ea_cons ev_int ea_nil)) ⟨c, 2, rfl, rfl⟩) (ea_cons (ev_var rfl) (ea_cons ev_int ea_nil))) ⟨drawn c 2, q, 3, hq0, hq1, by decide, rfl, rfl⟩) ea_nil)) ?_
  walk_at "nz"
  refine wp_seq ?_
  refine wp_for (vs := [4]) (ei_list (ev_call ea_nil ⟨rfl, rfl⟩)) (fun i ρ1 => ∃ (s4 : Sl), ρ1 = [.va (.int c), .va (nD q), .va (nD (redAll (pL.take i) (someF (drawn c 1) q 2, someF (drawn c 2) q 3)).1), .va (nD (redAll (pL.take i) (someF (drawn c 1) q 2, someF (drawn c 2) q 3)).2), s4]) (⟨_, rfl⟩) (fun i d ρ1 hd hI => ?_) (fun ρ1 hI => ?_)
  · obtain ⟨s4, rfl⟩ := hI
    obtain ⟨p, hp, rfl⟩ := pL_item hd
    have pm := pL_pm p (List.mem_of_getElem? hp)
    have p2 := pm.1
    have p37 := pL_le p (List.mem_of_getElem? hp)
    have sp := redAll_spec (pL.take i) (someF (drawn c 1) q 2, someF (drawn c 2) q 3) (fun p hp => (pL_pm p (List.mem_of_mem_take hp)).1) (someF_smooth _ hq0 hq1 2).1 (someF_smooth _ hq0 hq1 3).1
    generalize er : redAll (pL.take i) (someF (drawn c 1) q 2, someF (drawn c 2) q 3) = a at sp ⊢
    refine ⟨_, eg_name, ?_⟩
    walk_at "nz"
    refine wp_while (fun m ρ1 => ∃ (u : Nat), 0 < m ∧ 0 < u ∧ red p m u = red p a.1 a.2 ∧ ρ1 = [.va (.int c), .va (nD q), .va (nD m), .va (nD u), .va (nD p)]) (_) (⟨a.2, sp.1, sp.2.1, rfl, rfl⟩) (fun m ρ1 hI => ?_)
    obtain ⟨u, hm0, hu0, hrd, rfl⟩ := hI
    refine ⟨_, (et_and (et_test (ev_op (ev_op (ev_var rfl) (ev_var rfl) (rv_I (by walk_at "sd") fun _ => .int _)) ev_int rv_eqI)) fun _ => (et_test (ev_op (ev_op (ev_var rfl) (ev_var rfl) (rv_I (by walk_at "sd") fun _ => .int _)) ev_int rv_eqI))), fun h2 => ?_, fun h2 => ?_⟩
    · skip
      have hb : m % p = 0 ∧ u % p = 0 := by
        simp only [Bool.and_eq_true, decide_eq_true_eq] at h2
        omega
      refine wp_par (ea_cons (ev_op (ev_var rfl) (ev_var rfl) (rv_I (by walk_at "sd") fun _ => .int _)) (ea_cons (ev_op (ev_var rfl) (ev_var rfl) (rv_I (by walk_at "sd") fun _ => .int _)) ea_nil)) ?_
      walk_at "nz"
      show ∃ m, _ ∧ _
      exact ⟨m / p, Nat.div_lt_self hm0 p2, u / p, Nat.div_pos (Nat.le_of_dvd hm0 (Nat.dvd_of_mod_eq_zero hb.1)) (by omega), Nat.div_pos (Nat.le_of_dvd hu0 (Nat.dvd_of_mod_eq_zero hb.2)) (by omega), by rw [← hrd, red_step p2 hm0 hb.1 hb.2], by simp [nD]⟩
    · skip
      walk_at "nz"
      have hend : m % p ≠ 0 ∨ u % p ≠ 0 := by
        simp only [Bool.and_eq_false_iff, decide_eq_false_iff_not] at h2
        omega
      have et : pL.take (i + 1) = pL.take i ++ [p] := by rw [List.take_add_one, hp]; rfl
      refine ⟨.va (nD p), ?_⟩
      rw [et, redAll_snoc, er, ← hrd, red_end hend]
  · obtain ⟨s4, rfl⟩ := hI
    walk_at "nz"
    refine wp_ret (ev_tup (ea_cons (ev_var rfl) (ea_cons (ev_var rfl) ea_nil)) (Nat.le_of_ble_eq_true rfl)) ?_
    walk_at "nz"
    first | done | rfl
abbrev s__law_program : Stmt := topS 45
abbrev N__law_program : List Str := ["_law_more", "_law_primes_here", "_law_j", "_law_found", "_law_one"]
theorem sc__law_program : FnScope N__law_program ["_law_more", "_law_primes_here"] (defScope s__law_program) := ⟨rfl, rfl, rfl, by decide +kernel, rfl, by decide +kernel, by decide +kernel⟩
theorem ok__law_program (D : Df K mg "_law_program" s__law_program ["_law_more", "_law_primes_here"]) (T : Tx K mg) (G__law_drawn : Ck P w K mg base "_law_drawn" 1 ["_law_cell_here", "_law_k"] (spD K (Pr__law_drawn K))) (G__law_fraction : Ck P w K mg base "_law_fraction" 3 ["_law_more", "_law_primes_here"] (spD K (Pr__law_fraction K))) : Ck P w K mg base "_law_program" 4 ["_law_more", "_law_primes_here"] (spD K (Pr__law_program K)) := by
  refine ck_mk (k := 3) D sc__law_program (fun ds r hp => ?_) fun f cdv A outer s H E ds r hr hp => ?_
  · obtain ⟨m, q, hq0, hq1, rfl, rfl⟩ := hp
    rfl
  refine ⟨_, (pss_cons (ps_setLc (i := 3) (own := [("_law_j", 2)]) rfl sc__law_program.nd rfl rfl (sw_true rfl rfl rfl (by decide +kernel)) (pi_range1 (by rfl) T.n_range (pa_cons (pe_op op_mod (pv 0) (pe_ix (ix_listK (K := K) rfl) (pe_lst (pa_cons pe_int (pa_cons pe_int pa_nil))) (pe_op op_mod (pe_op op_fdivW (pv 0) pe_int) pe_int) (fun _ _ => rfl))) pa_nil)) (blkOk_by (own := [("_law_j", 2)]) (N := N__law_program) (sc := defScope s__law_program) (by decide +kernel)) (fun _ _ _ _ _ => (pg_name (i := 2) sc__law_program.nd rfl (by first | exact .inl rfl | exact .inr rfl))) (fun _ _ _ _ _ => pts_nil) (fun _ _ _ _ _ => (pe_callC G__law_fraction hr passLN (pa_cons (pe_callC G__law_drawn (hr.mono (by decide)) passLN (pa_cons (pv 0) (pa_cons (pv 2) pa_nil))) (pa_cons (pv 1) pa_nil)))))
      (pss_one (ps_ret (pe_lc (own := [("_law_one", 4)]) rfl sc__law_program.nd (pi_listK (K := K) rfl (pv 3)) (blkOk_by (own := [("_law_one", 4)]) (N := N__law_program) (sc := defScope s__law_program) (by decide +kernel)) (fun _ _ _ _ _ => (pg_name (i := 4) sc__law_program.nd rfl (by first | exact .inl rfl | exact .inr rfl))) (fun _ _ _ _ _ => pts_one (PW.pt (pw_or (pt_cmpR op_gt (pe_ix (ix_tupK (K := K) rfl) (pv 4) pe_int (fun _ _ => rfl)) pe_int (nomark _)) (pw_or1 (pt_cmpR op_eq (pe_op op_mod (pe_op op_fdivW (pv 0) pe_int) pe_int) pe_int (nomark _)))))) (fun _ _ _ _ _ => (pv 4)))))), ?_⟩
  obtain ⟨m, q, hq0, hq1, rfl, rfl⟩ := hp
  show Wp K E _ [.va (.int m), .va (nD q), .no, .no, .no] _
  have cb := cnt47_b m
  have hix : atI [PyData.int 4, PyData.int 7] (m / 8 % 2) = some (.int (if m / 8 % 2 = 0 then 4 else 7)) := by
    rcases (by omega : m / 8 % 2 = 0 ∨ m / 8 % 2 = 1) with e | e <;> rw [e] <;> rfl
  have hpos : (0 : Int) < (if m / 8 % 2 = 0 then 4 else 7) := by split <;> decide
  refine wp_seq ?_
  refine wp_set (i := 3) (d := lP ((List.range (cnt47 m).toNat).map fun j : Nat => fracF (drawn m (0 + (j : Int))) q)) ?_ ?_
  · skip
    refine Ev.to (EvN.da (evn_lc0 (vs := [2]) (ei_rng1 (n := cnt47 m) ?_ (by omega) (by omega)) (by rw [List.length_range]; omega) (fun j : Nat => prD (fracF (drawn m (0 + (j : Int))) q)) _ (fun x hx => ⟨eg_name, ?_⟩))) ?_
    · exact ev_op (ev_var rfl) (ev_op (EvN.da (evn_lst (ea_cons ev_int (ea_cons ev_int ea_nil)) (Nat.le_of_ble_eq_true rfl))) (ev_op (ev_op (ev_var rfl) ev_int (rv_I (by walk_at "sd") fun _ => .int _)) ev_int (rv_I (by walk_at "sd") fun _ => .int _)) (rv_ixL hix)) (rv_I hpos fun _ => .int _)
    · exact ev_call (ea_cons (ev_call (ea_cons (ev_var rfl) (ea_cons (ev_var rfl) ea_nil)) ⟨m, 0 + (x : Int), rfl, rfl⟩) (ea_cons (ev_var rfl) ea_nil)) ⟨drawn m (0 + (x : Int)), q, hq0, hq1, rfl, rfl⟩
    show PyData.list _ = PyData.list _
    congr 1
    rw [List.map_map]; rfl
  walk_at "nz"
  refine wp_ret (d := lP (progF m q)) ?_ ?_
  · skip
    exact EvN.da (evn_lc (vs := [4]) (ei_list (ev_var rfl)) (by rw [List.length_map, List.length_range]; omega) _ _ _ (fun x hx => ⟨eg_name, et_or (et_test (ev_op (ev_op (ev_var rfl) ev_int (rv_ixT rfl)) ev_int (rv_I0 fun _ => .bl _))) fun _ => et_test (ev_op (ev_op (ev_op (ev_var rfl) ev_int (rv_I (by walk_at "sd") fun _ => .int _)) ev_int (rv_I (by walk_at "sd") fun _ => .int _)) ev_int rv_eqI), fun _ => ev_var rfl⟩))
  walk_at "nz"
  first | done | rfl
abbrev s__law_round : Stmt := topS 48
abbrev N__law_round : List Str := ["_law_more", "_law_here", "_law_some_here"]
theorem sc__law_round : FnScope N__law_round ["_law_more"] (defScope s__law_round) := ⟨rfl, rfl, rfl, by decide +kernel, rfl, by decide +kernel, by decide +kernel⟩
theorem ok__law_round (D : Df K mg "_law_round" s__law_round ["_law_more"]) (T : Tx K mg) (G__law_program : Ck P w K mg base "_law_program" 4 ["_law_more", "_law_primes_here"] (spD K (Pr__law_program K))) : Ck P w K mg base "_law_round" 5 ["_law_more"] (spD K (Pr__law_round K)) := by
  refine ck_mk (k := 4) D sc__law_round (fun ds r hp => ?_) fun f cdv A outer s H E ds r hr hp => ?_
  · obtain ⟨m, rfl, rfl⟩ := hp
    rfl
  refine ⟨_, (pss_cons (ps_set (i := 1) sc__law_round.nd rfl (.inl rfl) (pe_op op_fdivW (pv 0) pe_int))
      (pss_cons (ps_set (i := 2) sc__law_round.nd rfl (.inl rfl) (pe_lst (pa_cons (pe_lst (pa_cons (pe_tup (pa_cons pe_int (pa_cons pe_int pa_nil))) (pa_cons (pe_tup (pa_cons pe_int (pa_cons pe_int pa_nil))) pa_nil))) (pa_cons (pe_lst (pa_cons (pe_tup (pa_cons pe_int (pa_cons pe_int pa_nil))) (pa_cons (pe_tup (pa_cons pe_int (pa_cons pe_int pa_nil))) (pa_cons (pe_tup (pa_cons pe_int (pa_cons pe_int pa_nil))) pa_nil)))) (pa_cons (pe_lst (pa_cons (pe_tup (pa_cons pe_int (pa_cons pe_int pa_nil))) (pa_cons (pe_tup (pa_cons pe_int (pa_cons pe_int pa_nil))) pa_nil))) (pa_cons (pe_lst (pa_cons (pe_tup (pa_cons pe_int (pa_cons pe_int pa_nil))) (pa_cons (pe_tup (pa_cons pe_int (pa_cons pe_int pa_nil))) pa_nil))) (pa_cons (pe_lst (pa_cons (pe_tup (pa_cons pe_int (pa_cons pe_int pa_nil))) (pa_cons (pe_tup (pa_cons pe_int (pa_cons pe_int pa_nil))) pa_nil))) pa_nil)))))))
      (pss_one (ps_ret (pe_op op_cat (pe_ix (ix_listK (K := K) rfl) (pv 2) (pe_op op_mod (pv 1) pe_int) (fun _ _ => rfl)) (pe_op op_rep (pe_callC G__law_program hr (L2N.passes_call (L2N.takes_of rfl rfl rfl rfl) fun _ _ _ _ h => h) (pa_cons (pe_op op_fdivW (pv 1) pe_int) (pa_cons pe_int pa_nil))) (pe_op op_mod (pv 0) pe_int))))))), ?_⟩
  obtain ⟨m, rfl, rfl⟩ := hp
  show Wp K E _ [.va (.int m), .no, .no] _
  have hpl := progF_len (m / 64 / 8) 3
  have hbl := (base80_ok (m / 64 % 5)).1
  have hpl2 : ((progF (m / 64 / 8) 3).map prD).length ≤ 6 := by rw [List.length_map]; exact hpl
  have hm2 : (m % 2).toNat ≤ 1 := by omega
  have hrl := rep80_len hpl2 hm2
  refine wp_seq ?_
  refine wp_set (i := 1) (ev_op (ev_var rfl) ev_int (rv_I (by walk_at "sd") fun _ => .int _)) ?_
  walk_at "nz"
  refine wp_seq ?_
  refine wp_set (i := 2) (EvN.da (evn_lst (ea_cons (EvN.da (evn_lst (ea_cons (ev_tup (ea_cons ev_int (ea_cons ev_int ea_nil)) (Nat.le_of_ble_eq_true rfl)) (ea_cons (ev_tup (ea_cons ev_int (ea_cons ev_int ea_nil)) (Nat.le_of_ble_eq_true rfl)) ea_nil)) (Nat.le_of_ble_eq_true rfl))) (ea_cons (EvN.da (evn_lst (ea_cons (ev_tup (ea_cons ev_int (ea_cons ev_int ea_nil)) (Nat.le_of_ble_eq_true rfl)) (ea_cons (ev_tup (ea_cons ev_int (ea_cons ev_int ea_nil)) (Nat.le_of_ble_eq_true rfl)) (ea_cons (ev_tup (ea_cons ev_int (ea_cons ev_int ea_nil)) (Nat.le_of_ble_eq_true rfl)) ea_nil))) (Nat.le_of_ble_eq_true rfl))) (ea_cons (EvN.da (evn_lst (ea_cons (ev_tup (ea_cons ev_int (ea_cons ev_int ea_nil)) (Nat.le_of_ble_eq_true rfl)) (ea_cons (ev_tup (ea_cons ev_int (ea_cons ev_int ea_nil)) (Nat.le_of_ble_eq_true rfl)) ea_nil)) (Nat.le_of_ble_eq_true rfl))) (ea_cons (EvN.da (evn_lst (ea_cons (ev_tup (ea_cons ev_int (ea_cons ev_int ea_nil)) (Nat.le_of_ble_eq_true rfl)) (ea_cons (ev_tup (ea_cons ev_int (ea_cons ev_int ea_nil)) (Nat.le_of_ble_eq_true rfl)) ea_nil)) (Nat.le_of_ble_eq_true rfl))) (ea_cons (EvN.da (evn_lst (ea_cons (ev_tup (ea_cons ev_int (ea_cons ev_int ea_nil)) (Nat.le_of_ble_eq_true rfl)) (ea_cons (ev_tup (ea_cons ev_int (ea_cons ev_int ea_nil)) (Nat.le_of_ble_eq_true rfl)) ea_nil)) (Nat.le_of_ble_eq_true rfl))) ea_nil))))) (Nat.le_of_ble_eq_true rfl))) ?_
  walk_at "nz"
  refine wp_ret (d := lP (roundF m)) ?_ ?_
  · skip
    exact Ev.to (EvN.da (evn_op (ev_op (ev_var rfl) (ev_op (ev_var rfl) ev_int (rv_I (by walk_at "sd") fun _ => .int _)) (rv_ixL (round_at m))) (EvN.da (evn_op (ev_call (ea_cons (ev_op (ev_var rfl) ev_int (rv_I (by walk_at "sd") fun _ => .int _)) (ea_cons ev_int ea_nil)) ⟨m / 64 / 8, 3, by decide, by decide, rfl, rfl⟩) (ev_op (ev_var rfl) ev_int (rv_I (by walk_at "sd") fun _ => .int _)) (rvn_rep (by omega) (by omega) (rep80_mul hpl2 hm2)))) (rvn_cat (by rw [List.length_map]; omega)))) (round_D m)
  walk_at "nz"
  first | done | rfl
abbrev s__law_step : Stmt := topS 46
abbrev N__law_step : List Str := ["_law_program_here", "_law_number", "_law_place", "_law_top", "_law_under"]
theorem sc__law_step : FnScope N__law_step ["_law_program_here", "_law_number"] (defScope s__law_step) := ⟨rfl, rfl, rfl, by decide +kernel, rfl, by decide +kernel, by decide +kernel⟩
theorem ok__law_step (D : Df K mg "_law_step" s__law_step ["_law_program_here", "_law_number"]) (T : Tx K mg) : Ck P w K mg base "_law_step" 1 ["_law_program_here", "_law_number"] (spD K (Pr__law_step K)) := by
  refine ck_mk (k := 0) D sc__law_step (fun ds r hp => ?_) fun f cdv A outer s H E ds r hr hp => ?_
  · obtain ⟨ps, n, hps, rfl, rfl⟩ := hp
    rfl
  refine ⟨_, (pss_cons (ps_for (passes_of rfl) rfl (pi_enumK (K := K) rfl (by rfl) T.n_enumerate (pa_cons (pv 0) pa_nil)) (pg_tupK (K := K) (n := 2) rfl rfl (pgs_cons (pg_name (i := 2) sc__law_step.nd rfl (.inl rfl)) (pgs_cons (pg_tupK (K := K) (n := 2) rfl rfl (pgs_cons (pg_name (i := 3) sc__law_step.nd rfl (.inl rfl)) (pgs_cons (pg_name (i := 4) sc__law_step.nd rfl (.inl rfl)) pgs_nil))) pgs_nil)))
      (pss_one (ps_if (pt_cmpR op_eq (pe_op op_mod (pe_op op_mulA (pv 1) (pv 3)) (pv 4)) pe_int (nomark _))
      (pss_one (ps_ret (pe_tup (pa_cons (pv 2) (pa_cons (pe_op op_fdivW (pe_op op_mulA (pv 1) (pv 3)) (pv 4)) pa_nil)))))
      pss_nil)))
      (pss_one (ps_ret pe_non))), ?_⟩
  obtain ⟨ps, n, hps, rfl, rfl⟩ := hp
  show Wp K E _ [.va (lP ps), .va (nD n), .no, .no, .no] _
  refine wp_seq ?_
  refine wp_for (vs := [2, 3, 4]) (ei_enumM (ev_var rfl)) (fun i ρ1 => ∃ (s2 s3 s4 : Sl), (∀ j q, j < i → ps[j]? = some q → n * q.1 % q.2 ≠ 0) ∧ ρ1 = [.va (lP ps), .va (nD n), s2, s3, s4]) (⟨_, _, _, fun j q h => absurd h (Nat.not_lt_zero j), rfl⟩) (fun i d ρ1 hd hI => ?_) (fun ρ1 hI => ?_)
  · obtain ⟨s2, s3, s4, hb, rfl⟩ := hI
    obtain ⟨p, hp, rfl⟩ := enum_item hd
    have hp2 := hps p (List.mem_of_getElem? hp)
    refine ⟨_, (eg_tup (egs_cons eg_name (egs_cons (eg_tup (egs_cons eg_name (egs_cons eg_name egs_nil)) rfl) egs_nil)) rfl), ?_⟩
    walk_at "nz"
    refine wp_if (et_test (ev_op (ev_op (ev_op (ev_var rfl) (ev_var rfl) (rv_I (by walk_at "sd") fun _ => .int _)) (ev_var rfl) (rv_I (by walk_at "sd") fun _ => .int _)) ev_int rv_eqI)) (fun h1 => ?_) (fun h1 => ?_)
    · skip
      refine wp_ret (ev_tup (ea_cons (ev_var rfl) (ea_cons (ev_op (ev_op (ev_var rfl) (ev_var rfl) (rv_I (by walk_at "sd") fun _ => .int _)) (ev_var rfl) (rv_I (by walk_at "sd") fun _ => .int _)) ea_nil)) (Nat.le_of_ble_eq_true rfl)) ?_
      walk_at "nz"
      have hz : n * p.1 % p.2 = 0 := by
        have := of_decide_eq_true h1
        have h2 : ((n * p.1 % p.2 : Nat) : Int) = 0 := by simpa using this
        omega
      rw [lstep_some hp hz hb]; rfl
    · skip
      refine wp_nil ?_
      walk_at "nz"
      refine ⟨_, _, _, fun j q hj hq => ?_, rfl⟩
      rcases Nat.lt_succ_iff_lt_or_eq.mp hj with hj | rfl
      · exact hb j q hj hq
      · rw [hp] at hq
        cases hq
        have h := of_decide_eq_false h1
        intro z
        apply h
        have := congrArg (fun k : Nat => (k : Int)) z
        simpa using this
  · obtain ⟨s2, s3, s4, hb, rfl⟩ := hI
    walk_at "nz"
    refine wp_ret ev_non ?_
    walk_at "nz"
    rw [lstep_none (by simpa using hb)]; rfl
abbrev s__law_rooms : Stmt := topS 42
abbrev N__law_rooms : List Str := ["_law_number", "_law_found", "_law_prime", "_law_many"]
theorem sc__law_rooms : FnScope N__law_rooms ["_law_number"] (defScope s__law_rooms) := ⟨rfl, rfl, rfl, by decide +kernel, rfl, by decide +kernel, by decide +kernel⟩
theorem ok__law_rooms (D : Df K mg "_law_rooms" s__law_rooms ["_law_number"]) (T : Tx K mg) (G__law_primes : Ck P w K mg base "_law_primes" 1 [] (spD K (Pr__law_primes K))) : Ck P w K mg base "_law_rooms" 2 ["_law_number"] (spD K (Pr__law_rooms K)) := by
  refine ck_mk (k := 1) D sc__law_rooms (fun ds r hp => ?_) fun f cdv A outer s H E ds r hr hp => ?_
  · obtain ⟨n, hn, rfl, rfl⟩ := hp
    rfl
  refine ⟨_, (pss_cons (ps_set (i := 1) sc__law_rooms.nd rfl (.inl rfl) (pe_lst pa_nil))
      (pss_cons (ps_for (passes_of rfl) rfl (pi_listK (K := K) rfl (pe_callC0 G__law_primes hr (L2N.passes_call (L2N.takes_of rfl rfl rfl rfl) fun _ _ _ _ h => h))) (pg_name (i := 2) sc__law_rooms.nd rfl (.inl rfl))
      (pss_cons (ps_set (i := 3) sc__law_rooms.nd rfl (.inl rfl) pe_int)
      (pss_cons (ps_while (passes_of rfl) (pt_cmpR op_eq (pe_op op_mod (pv 0) (pv 2)) pe_int (nomark _))
      (pss_one (ps_par (i := 0) (j := 3) (by rfl) sc__law_rooms.nd rfl rfl (by decide) rfl rfl (pa_cons (pe_op op_fdivW (pv 0) (pv 2)) (pa_cons (pe_op op_add (pv 3) pe_int) pa_nil)) (by rfl))))
      (pss_one (ps_expr (pe_bm PySem.F.plainAttrs_list PySem.F.slot_list_append PySem.F.type_list_append mt_append (pv 1) (pa_cons (pv 3) pa_nil)))))))
      (pss_one (ps_ret (pv 1))))), ?_⟩
  obtain ⟨n, hn, rfl, rfl⟩ := hp
  show Wp K E _ [.va (nD n), .no, .no, .no] _
  refine wp_seq ?_
  refine wp_setN (i := 1) (evn_lst ea_nil (Nat.le_of_ble_eq_true rfl)) ?_
  walk_at "nz"
  refine wp_seq ?_
  refine wp_for (vs := [2]) (ei_list (ev_call ea_nil ⟨rfl, rfl⟩)) (fun i ρ1 => ∃ (num : Nat) (s2 s3 : Sl), 0 < num ∧ n = mk (pL.take i) ((pL.take i).map (mlt · n)) * num ∧ ρ1 = [.va (nD num), .own (((pL.take i).map (mlt · n)).map fun k : Nat => PyData.int (k : Int)), s2, s3]) (⟨n, _, _, hn, by simp [mk], rfl⟩) (fun i d ρ1 hd hI => ?_) (fun ρ1 hI => ?_)
  · obtain ⟨num, s2, s3, h0, hn2, rfl⟩ := hI
    obtain ⟨p, hp, rfl⟩ := pL_item hd
    have pm := pL_pm p (List.mem_of_getElem? hp)
    have p2 := pm.1
    have p37 := pL_le p (List.mem_of_getElem? hp)
    have hi : i < 12 := (List.getElem?_eq_some_iff.mp hp).1
    refine ⟨_, eg_name, ?_⟩
    walk_at "nz"
    refine wp_seq ?_
    refine wp_set (i := 3) ev_int ?_
    walk_at "nz"
    refine wp_seq ?_
    refine wp_while (fun m ρ1 => ∃ (k : Nat), 0 < m ∧ num = p ^ k * m ∧ ρ1 = [.va (nD m), .own (((pL.take i).map (mlt · n)).map fun k : Nat => PyData.int (k : Int)), .va (nD p), .va (nD k)]) (_) (⟨0, h0, by simp, rfl⟩) (fun m ρ1 hI => ?_)
    obtain ⟨k, hm0, hnum, rfl⟩ := hI
    refine ⟨_, (et_test (ev_op (ev_op (ev_var rfl) (ev_var rfl) (rv_I (by walk_at "sd") fun _ => .int _)) ev_int rv_eqI)), fun h3 => ?_, fun h3 => ?_⟩
    · skip
      have hb : m % p = 0 := by have := of_decide_eq_true h3; omega
      refine wp_par (ea_cons (ev_op (ev_var rfl) (ev_var rfl) (rv_I (by walk_at "sd") fun _ => .int _)) (ea_cons (ev_op (ev_var rfl) ev_int (rv_I0 fun _ => .int _)) ea_nil)) ?_
      walk_at "nz"
      show ∃ m, _ ∧ _
      exact ⟨m / p, Nat.div_lt_self hm0 p2, k + 1, Nat.div_pos (Nat.le_of_dvd hm0 (Nat.dvd_of_mod_eq_zero hb)) (by omega), by rw [hnum, Nat.pow_succ, Nat.mul_assoc, Nat.mul_div_cancel' (Nat.dvd_of_mod_eq_zero hb)], by simp [nD]⟩
    · skip
      walk_at "nz"
      have nd : ¬ p ∣ m := fun z => by
        have := of_decide_eq_false h3
        have := Nat.mod_eq_zero_of_dvd z
        omega
      have hmlt2 : mlt p n = k := by rw [mlt_step_parted hn hn2 hp h0]; exact mlt_uniq p2 hnum hm0 nd
      have hmlt : p ^ mlt p n = p ^ k := by rw [hmlt2]
      refine wp_app (i := 1) rfl (ev_var rfl) (by walk_at "sz") ?_
      walk_at "nz"
      refine ⟨m, .va (nD p), .va (nD k), hm0, ?_, ?_⟩
      · rw [mk_take pL n i p hp, hmlt, Nat.mul_assoc, ← hnum]; exact hn2
      · rw [List.take_add_one, hp, ← hmlt2]; simp
  · obtain ⟨num, s2, s3, h0, hn2, rfl⟩ := hI
    walk_at "nz"
    refine wp_retO (i := 1) rfl ?_
    walk_at "nz"
    first | done | rfl
abbrev s__law_run : Stmt := topS 47
abbrev N__law_run : List Str := ["_law_program_here", "_law_number", "_law_most", "_law_found", "_law_places", "_law_turn", "_law_one"]
theorem sc__law_run : FnScope N__law_run ["_law_program_here", "_law_number", "_law_most"] (defScope s__law_run) := ⟨rfl, rfl, rfl, by decide +kernel, rfl, by decide +kernel, by decide +kernel⟩
theorem ok__law_run (D : Df K mg "_law_run" s__law_run ["_law_program_here", "_law_number", "_law_most"]) (T : Tx K mg) (G__law_rooms : Ck P w K mg base "_law_rooms" 2 ["_law_number"] (spD K (Pr__law_rooms K))) (G__law_step : Ck P w K mg base "_law_step" 1 ["_law_program_here", "_law_number"] (spD K (Pr__law_step K))) : Ck P w K mg base "_law_run" 3 ["_law_program_here", "_law_number", "_law_most"] (spD K (Pr__law_run K)) := by
  refine ck_mk (k := 2) D sc__law_run (fun ds r hp => ?_) fun f cdv A outer s H E ds r hr hp => ?_
  · obtain ⟨ps, n, m, hps, hn, hm, rfl, rfl⟩ := hp
    rfl
  refine ⟨_, (pss_cons (ps_par (i := 3) (j := 4) (by rfl) sc__law_run.nd rfl rfl (by decide) rfl rfl (pa_cons (pe_lst (pa_cons (pv 1) pa_nil)) (pa_cons (pe_lst pa_nil) pa_nil)) (by rfl))
      (pss_cons (ps_for (passes_of rfl) rfl (pi_range1 (by rfl) T.n_range (pa_cons (pv 2) pa_nil)) (pg_name (i := 5) sc__law_run.nd rfl (.inl rfl))
      (pss_cons (ps_set (i := 6) sc__law_run.nd rfl (.inl rfl) (pe_callC G__law_step (hr.mono (by decide)) (L2N.passes_call (L2N.takes_of rfl rfl rfl rfl) fun _ _ _ _ h => h) (pa_cons (pv 0) (pa_cons (pe_ix (ix_listK (K := K) rfl) (pv 3) (pe_un un_neg pe_int) (fun _ _ => rfl)) pa_nil))))
      (pss_cons (ps_if (pt_cmpR op_isN (pv 6) pe_non (nomark _))
      (pss_one (ps_ret (pe_tup (pa_cons (pv 3) (pa_cons (pv 4) pa_nil)))))
      pss_nil)
      (pss_cons (ps_if (PW.pt (pw_and (pt_cmpR op_gt (pe_op op_fdivW (pe_op op_fdivW (pe_ix (ix_tupK (K := K) rfl) (pv 6) pe_int (fun _ _ => rfl)) (pe_op op_pow pe_int pe_int)) (pe_op op_pow pe_int pe_int)) pe_int (nomark _)) (pw_and1 (pt_cmpR op_gt (pe_callB (cr_maxK (K := K) rfl rfl) (by rfl) T.n_max bt_max (pa_cons (pe_callC G__law_rooms hr (L2N.passes_call (L2N.takes_of rfl rfl rfl rfl) fun _ _ _ _ h => h) (pa_cons (pe_ix (ix_tupK (K := K) rfl) (pv 6) pe_int (fun _ _ => rfl)) pa_nil)) pa_nil)) pe_int (nomark _)))))
      (pss_one (ps_ret (pe_tup (pa_cons pe_non (pa_cons (pv 4) pa_nil)))))
      pss_nil)
      (pss_cons (ps_expr (pe_bm PySem.F.plainAttrs_list PySem.F.slot_list_append PySem.F.type_list_append mt_append (pv 3) (pa_cons (pe_ix (ix_tupK (K := K) rfl) (pv 6) pe_int (fun _ _ => rfl)) pa_nil)))
      (pss_one (ps_expr (pe_bm PySem.F.plainAttrs_list PySem.F.slot_list_append PySem.F.type_list_append mt_append (pv 4) (pa_cons (pe_ix (ix_tupK (K := K) rfl) (pv 6) pe_int (fun _ _ => rfl)) pa_nil)))))))))
      (pss_one (ps_ret (pe_tup (pa_cons (pv 3) (pa_cons (pv 4) pa_nil))))))), ?_⟩
  obtain ⟨ps, n, m, hps, hn, hm, rfl, rfl⟩ := hp
  show Wp K E _ [.va (lP ps), .va (nD n), .va (nD m), .no, .no, .no, .no] _
  refine wp_seq ?_
  refine wp_parNN (i := 3) (j := 4) (evn_lst (ea_cons (ev_var rfl) ea_nil) (Nat.le_of_ble_eq_true rfl)) (evn_lst ea_nil (Nat.le_of_ble_eq_true rfl)) (by decide) (Nat.le_of_ble_eq_true rfl) ?_
  walk_at "nz"
  refine wp_seq ?_
  refine wp_for (vs := [5]) (ei_rng1 (ev_var rfl) (by walk_at "sd") (by walk_at "sd")) (fun i ρ1 => ∃ (acc : List Nat) (c : Nat) (pl : List Nat) (s5 s6 : Sl), 0 < c ∧ acc.length ≤ i ∧ pl.length ≤ i ∧ lrunGo ps (m - i) c (acc ++ [c]) pl = lrunF ps n m ∧ ρ1 = [.va (lP ps), .va (nD n), .va (nD m), .own ((acc ++ [c]).map fun k : Nat => PyData.int (k : Int)), .own (pl.map fun k : Nat => PyData.int (k : Int)), s5, s6]) (⟨[], n, [], _, _, hn, Nat.le_refl _, Nat.le_refl _, rfl, rfl⟩) (fun i d ρ1 hd hI => ?_) (fun ρ1 hI => ?_)
  · obtain ⟨acc, c, pl, s5, s6, hc0, hla, hlp, hrun, rfl⟩ := hI
    obtain ⟨hi, rfl⟩ := rng_item hd
    have hi : i < m := by omega
    have hix : atI ((acc ++ [c]).map fun k : Nat => PyData.int (k : Int)) (-1) = some (nD c) := by rw [List.map_append]; exact atI_last
    obtain ⟨j, hj⟩ : ∃ j, m - i = j + 1 := ⟨m - i - 1, by omega⟩
    have hj2 : m - (i + 1) = j := by omega
    have la : ((acc ++ [c]).map fun k : Nat => PyData.int (k : Int)).length ≤ 1000000 := by simp; omega
    have lp : (pl.map fun k : Nat => PyData.int (k : Int)).length ≤ 1000000 := by simp; omega
    refine ⟨_, eg_name, ?_⟩
    walk_at "nz"
    refine wp_seq ?_
    refine wp_set (i := 6) (ev_call (ea_cons (ev_var rfl) (ea_cons (ev_ixO rfl (ev_un ev_int (ru_I fun _ => .int _)) (by walk_at "ix")) ea_nil)) ⟨ps, c, hps.small, rfl, rfl⟩) ?_
    walk_at "nz"
    refine wp_seq ?_
    refine wp_if (et_test (ev_op (ev_var rfl) ev_non rv_isN)) (fun h3 => ?_) (fun h3 => ?_)
    · skip
      have eq : lstep ps c = none := by
        cases q : lstep ps c with
        | none => rfl
        | some x => rw [q] at h3; cases h3
      refine wp_frz (i := 3) rfl ?_
      walk_at "nz"
      refine wp_frz (i := 4) rfl ?_
      walk_at "nz"
      refine wp_ret (ev_tup (ea_cons (ev_var rfl) (ea_cons (ev_var rfl) ea_nil)) (Nat.le_of_ble_eq_true rfl)) ?_
      walk_at "nz"
      show Except.ok (rowD (lrunF ps n m)) = _
      rw [← hrun, lrunGo_end eq]; rfl
    · skip
      obtain ⟨q, eq⟩ : ∃ q, lstep ps c = some q := by
        cases q : lstep ps c with
        | none => rw [q] at h3; cases h3
        | some x => exact ⟨x, rfl⟩
      have hq0 := lstep_pos hps hc0 eq
      rw [eq]
      show Wp K E _ [.va (lP ps), .va (nD n), .va (nD m), .own _, .own _, _, .va (prD q)] _
      refine wp_nil ?_
      walk_at "nz"
      refine wp_seq ?_
      refine wp_if (b := tooB q.2) ?_ (fun h5 => ?_) (fun h5 => ?_)
      · skip
        exact EvT.to (et_and (et_test (ev_op (ev_op (ev_op (ev_op (ev_var rfl) ev_int (rv_ixT (by walk_at "ix"))) (ev_op ev_int ev_int (rv_I (by walk_at "sd") fun _ => .int _)) (rv_I (by walk_at "sd") fun _ => .int _)) (ev_op ev_int ev_int (rv_I (by walk_at "sd") fun _ => .int _)) (rv_I (by walk_at "sd") fun _ => .int _)) ev_int (rv_I0 fun _ => .bl _))) fun _ => (et_test (ev_op (ev_cb (ea_cons (ev_call (ea_cons (ev_op (ev_var rfl) ev_int (rv_ixT (by walk_at "ix"))) ea_nil) ⟨q.2, hq0, rfl, rfl⟩) ea_nil) (rc_maxM (by walk_at "sz"))) ev_int (rv_I0 fun _ => .bl _)))) rfl
      · skip
        have ht : tooB q.2 = true := h5
        refine wp_frz (i := 4) rfl ?_
        walk_at "nz"
        refine wp_ret (ev_tup (ea_cons ev_non (ea_cons (ev_var rfl) ea_nil)) (Nat.le_of_ble_eq_true rfl)) ?_
        walk_at "nz"
        show Except.ok (rowD (lrunF ps n m)) = _
        rw [← hrun, hj, lrunGo_big eq ht]; rfl
      · skip
        have ht : tooB q.2 = false := h5
        refine wp_nil ?_
        walk_at "nz"
        refine wp_seq ?_
        refine wp_app (i := 3) rfl (ev_op (ev_var rfl) ev_int (rv_ixT (by walk_at "ix"))) (by walk_at "sz") ?_
        walk_at "nz"
        refine wp_app (i := 4) rfl (ev_op (ev_var rfl) ev_int (rv_ixT (by walk_at "ix"))) (by walk_at "sz") ?_
        walk_at "nz"
        exact ⟨acc ++ [c], q.2, pl ++ [q.1], .va (.int (0 + (i : Int))), .va (prD q), hq0, by simp; omega, by simp; omega, by rw [hj2, ← hrun, hj, lrunGo_go eq ht], by simp [nD]⟩
  · obtain ⟨acc, c, pl, s5, s6, hc0, hla, hlp, hrun, rfl⟩ := hI
    walk_at "nz"
    have hlen : (rngD 0 ((m : Int)).toNat).length = m := by simp [rngD]
    rw [hlen, Nat.sub_self] at hrun
    have hrun : (some (acc ++ [c]), pl) = lrunF ps n m := hrun
    refine wp_frz (i := 3) rfl ?_
    walk_at "nz"
    refine wp_frz (i := 4) rfl ?_
    walk_at "nz"
    refine wp_ret (ev_tup (ea_cons (ev_var rfl) (ea_cons (ev_var rfl) ea_nil)) (Nat.le_of_ble_eq_true rfl)) ?_
    walk_at "nz"
    show Except.ok (rowD (lrunF ps n m)) = _
    rw [← hrun]; rfl
abbrev wl : List Str := ["BadMachine", "BadNumber", "BadProgram", "BadText", "TooGreat", "Nothing"]
abbrev s__law_word : Stmt := topS 39
abbrev N__law_word : List Str := ["_law_e", "_law_flags", "_law_flag"]
theorem sc__law_word : FnScope N__law_word ["_law_e"] (defScope s__law_word) := ⟨rfl, rfl, rfl, by decide +kernel, rfl, by decide +kernel, by decide +kernel⟩
theorem ok__law_word (D : Df K mg "_law_word" s__law_word ["_law_e"]) (T : Tx K mg) : Cw P w K mg base "_law_word" 1 wl fun x => x := by
  obtain ⟨f, fd, F, hm, hb⟩ := D
  refine ⟨f, fd, "_law_e", hm, F.kp, hb, fnE_mk (k := 0) F sc__law_word fun cdv A outer s H E a oe x hx hot hr hz => ?_⟩
  have hc : HotC (cxH (L2N.CX P w) P w K mg base N__law_word "_law_word" (defScope s__law_word) f cdv A outer s H E (a, oe)) := ⟨(a, oe), hot, List.mem_cons_self⟩
  have ec : ExcC K (He.ga K x) := T.W.ec x hx
  have hfl : ∃ vs, oe.data = .fields vs := by obtain ⟨_, vs, h, _⟩ := hot; exact ⟨vs, h⟩
  have hu : (A.deeper (envOfC "_law_word" (defScope s__law_word) s.heap.objs.size f cdv)).units + 65 < cLine := by have := hr.un; omega
  refine ⟨_, (pss_cons (ps_set (i := 1) sc__law_word.nd rfl (.inl rfl) (pe_lst (pa_cons (pe_callB (call_isH (a := a) (oe := oe) (by exact List.mem_cons_self) ec hz hfl) (by rfl) T.n_isinstance bt_isinstance (pa_cons (pv 0) (pa_cons (pe_glob (v := .ref _) (by rfl) T.BadMachine.gl rfl) pa_nil))) (pa_cons (pe_callB (call_isH (a := a) (oe := oe) (by exact List.mem_cons_self) ec hz hfl) (by rfl) T.n_isinstance bt_isinstance (pa_cons (pv 0) (pa_cons (pe_glob (v := .ref _) (by rfl) T.BadNumber.gl rfl) pa_nil))) (pa_cons (pe_callB (call_isH (a := a) (oe := oe) (by exact List.mem_cons_self) ec hz hfl) (by rfl) T.n_isinstance bt_isinstance (pa_cons (pv 0) (pa_cons (pe_glob (v := .ref _) (by rfl) T.BadProgram.gl rfl) pa_nil))) (pa_cons (pe_callB (call_isH (a := a) (oe := oe) (by exact List.mem_cons_self) ec hz hfl) (by rfl) T.n_isinstance bt_isinstance (pa_cons (pv 0) (pa_cons (pe_glob (v := .ref _) (by rfl) T.BadText.gl rfl) pa_nil))) pa_nil))))))
      (pss_cons (ps_set (i := 1) sc__law_word.nd rfl (.inl rfl) (pe_op op_cat (pv 1) (pe_lst (pa_cons (pe_callB (call_isH (a := a) (oe := oe) (by exact List.mem_cons_self) ec hz hfl) (by rfl) T.n_isinstance bt_isinstance (pa_cons (pv 0) (pa_cons (pe_glob (v := .ref _) (by rfl) T.TooGreat.gl rfl) pa_nil))) (pa_cons (pe_callB (call_isH (a := a) (oe := oe) (by exact List.mem_cons_self) ec hz hfl) (by rfl) T.n_isinstance bt_isinstance (pa_cons (pv 0) (pa_cons (pe_glob (v := .ref _) (by rfl) T.Nothing.gl rfl) pa_nil))) pa_nil)))))
      (pss_cons (ps_if (PW.pt (pw_or (pt_cmpR op_ne (pe_callB (cr_sumH hc) (by rfl) T.n_sum bt_sum (pa_cons (pe_lcHot (own := [("_law_flag", 2)]) hc sc__law_word.nd (pv 1) (blkOk_by (own := [("_law_flag", 2)]) (N := N__law_word) (sc := defScope s__law_word) (by decide +kernel)) (fun _ _ _ _ _ => (pg_name (i := 2) sc__law_word.nd rfl (by first | exact .inl rfl | exact .inr rfl))) (fun _ _ _ _ _ => (pe_callTy call_int1 (by rfl) T.n_int bt_int (pa_cons (pv 2) pa_nil)))) pa_nil)) pe_int (nomark _)) (pw_or1 (pt_not (pt_val (pe_callB (call_isH (a := a) (oe := oe) (by exact List.mem_cons_self) ec hz hfl) (by rfl) T.n_isinstance bt_isinstance (pa_cons (pv 0) (pa_cons (pe_bltn (v := .ty "ValueError") (by rfl) T.n_ValueError bt_ValueError rfl) pa_nil)))))))) (pss_one (ps_ret pe_str)) pss_nil)
      (pss_one (ps_ret (pe_ix (ix_listK (K := K) rfl) (pe_lst (pa_cons pe_str (pa_cons pe_str (pa_cons pe_str (pa_cons pe_str (pa_cons pe_str (pa_cons pe_str pa_nil))))))) (pe_bm PySem.F.plainAttrs_list PySem.F.slot_list_index PySem.F.type_list_index (mt_indexD hu) (pv 1) (pa_cons pe_bl pa_nil)) (fun _ _ => rfl))))))), ?_⟩
  show Wp K E _ [.raw (.ref a), .no, .no] _
  have kv := T.W.ve x hx
  simp only [wl, List.mem_cons, List.not_mem_nil, or_false] at hx
  rcases hx with rfl | rfl | rfl | rfl | rfl | rfl
  · skip
    have q_BadMachine : PySem.W.kitOne K (.ref (He.ga K "BadMachine")) (.ref (He.ga K "BadMachine")) = some true := (T.W.kit "BadMachine" (by decide) "BadMachine" (by decide)).trans (by decide)
    have q_BadNumber : PySem.W.kitOne K (.ref (He.ga K "BadMachine")) (.ref (He.ga K "BadNumber")) = some false := (T.W.kit "BadMachine" (by decide) "BadNumber" (by decide)).trans (by decide)
    have q_BadProgram : PySem.W.kitOne K (.ref (He.ga K "BadMachine")) (.ref (He.ga K "BadProgram")) = some false := (T.W.kit "BadMachine" (by decide) "BadProgram" (by decide)).trans (by decide)
    have q_BadText : PySem.W.kitOne K (.ref (He.ga K "BadMachine")) (.ref (He.ga K "BadText")) = some false := (T.W.kit "BadMachine" (by decide) "BadText" (by decide)).trans (by decide)
    have q_TooGreat : PySem.W.kitOne K (.ref (He.ga K "BadMachine")) (.ref (He.ga K "TooGreat")) = some false := (T.W.kit "BadMachine" (by decide) "TooGreat" (by decide)).trans (by decide)
    have q_Nothing : PySem.W.kitOne K (.ref (He.ga K "BadMachine")) (.ref (He.ga K "Nothing")) = some false := (T.W.kit "BadMachine" (by decide) "Nothing" (by decide)).trans (by decide)
    refine wp_seq ?_
    refine wp_set (i := 1) (EvN.da (evn_lst (ea_cons (ev_isE rfl q_BadMachine) (ea_cons (ev_isE rfl q_BadNumber) (ea_cons (ev_isE rfl q_BadProgram) (ea_cons (ev_isE rfl q_BadText) ea_nil)))) (Nat.le_of_ble_eq_true rfl))) ?_
    walk_at "nz"
    refine wp_seq ?_
    refine wp_set (i := 1) (EvN.da (evn_op (ev_var rfl) (EvN.da (evn_lst (ea_cons (ev_isE rfl q_TooGreat) (ea_cons (ev_isE rfl q_Nothing) ea_nil)) (Nat.le_of_ble_eq_true rfl))) (rvn_cat (by decide)))) ?_
    walk_at "nz"
    refine wp_seq ?_
    refine wp_if (b := false) (EvT.to (et_or (et_test (ev_op (ev_cb (ea_cons (EvN.da (evn_lc0 (vs := [2]) (xs := ([true, false, false, false, false, false] : List Bool)) (enc := PyData.bool) (ei_list (ev_var rfl)) (by decide) (fun b => PyData.int (if b then 1 else 0)) _ (fun x hx => ⟨eg_name, ev_cb (ea_cons (ev_var rfl) ea_nil) rc_intB⟩))) ea_nil) rc_sumM) ev_int rv_neI)) fun _ => et_not (et_B (ev_isEty rfl kv))) (by decide)) (fun h => nomatch h) (fun _ => ?_)
    refine wp_nil ?_
    walk_at "nz"
    refine wp_ret (d := .str "BadMachine") (ev_op (EvN.da (evn_lst (ea_cons ev_str (ea_cons ev_str (ea_cons ev_str (ea_cons ev_str (ea_cons ev_str (ea_cons ev_str ea_nil)))))) (Nat.le_of_ble_eq_true rfl))) (ev_index (ds := [.bool true, .bool false, .bool false, .bool false, .bool false, .bool false]) (j := 0) (z := .bool true) (ev_var rfl) (ea_cons ev_bl ea_nil) (by rfl) (by rfl) rfl rfl (fun m z2 h1 h2 => ?_)) (rv_ixL rfl)) rfl
    exact absurd h1 (Nat.not_lt_zero m)
  · skip
    have q_BadMachine : PySem.W.kitOne K (.ref (He.ga K "BadNumber")) (.ref (He.ga K "BadMachine")) = some false := (T.W.kit "BadNumber" (by decide) "BadMachine" (by decide)).trans (by decide)
    have q_BadNumber : PySem.W.kitOne K (.ref (He.ga K "BadNumber")) (.ref (He.ga K "BadNumber")) = some true := (T.W.kit "BadNumber" (by decide) "BadNumber" (by decide)).trans (by decide)
    have q_BadProgram : PySem.W.kitOne K (.ref (He.ga K "BadNumber")) (.ref (He.ga K "BadProgram")) = some false := (T.W.kit "BadNumber" (by decide) "BadProgram" (by decide)).trans (by decide)
    have q_BadText : PySem.W.kitOne K (.ref (He.ga K "BadNumber")) (.ref (He.ga K "BadText")) = some false := (T.W.kit "BadNumber" (by decide) "BadText" (by decide)).trans (by decide)
    have q_TooGreat : PySem.W.kitOne K (.ref (He.ga K "BadNumber")) (.ref (He.ga K "TooGreat")) = some false := (T.W.kit "BadNumber" (by decide) "TooGreat" (by decide)).trans (by decide)
    have q_Nothing : PySem.W.kitOne K (.ref (He.ga K "BadNumber")) (.ref (He.ga K "Nothing")) = some false := (T.W.kit "BadNumber" (by decide) "Nothing" (by decide)).trans (by decide)
    refine wp_seq ?_
    refine wp_set (i := 1) (EvN.da (evn_lst (ea_cons (ev_isE rfl q_BadMachine) (ea_cons (ev_isE rfl q_BadNumber) (ea_cons (ev_isE rfl q_BadProgram) (ea_cons (ev_isE rfl q_BadText) ea_nil)))) (Nat.le_of_ble_eq_true rfl))) ?_
    walk_at "nz"
    refine wp_seq ?_
    refine wp_set (i := 1) (EvN.da (evn_op (ev_var rfl) (EvN.da (evn_lst (ea_cons (ev_isE rfl q_TooGreat) (ea_cons (ev_isE rfl q_Nothing) ea_nil)) (Nat.le_of_ble_eq_true rfl))) (rvn_cat (by decide)))) ?_
    walk_at "nz"
    refine wp_seq ?_
    refine wp_if (b := false) (EvT.to (et_or (et_test (ev_op (ev_cb (ea_cons (EvN.da (evn_lc0 (vs := [2]) (xs := ([false, true, false, false, false, false] : List Bool)) (enc := PyData.bool) (ei_list (ev_var rfl)) (by decide) (fun b => PyData.int (if b then 1 else 0)) _ (fun x hx => ⟨eg_name, ev_cb (ea_cons (ev_var rfl) ea_nil) rc_intB⟩))) ea_nil) rc_sumM) ev_int rv_neI)) fun _ => et_not (et_B (ev_isEty rfl kv))) (by decide)) (fun h => nomatch h) (fun _ => ?_)
    refine wp_nil ?_
    walk_at "nz"
    refine wp_ret (d := .str "BadNumber") (ev_op (EvN.da (evn_lst (ea_cons ev_str (ea_cons ev_str (ea_cons ev_str (ea_cons ev_str (ea_cons ev_str (ea_cons ev_str ea_nil)))))) (Nat.le_of_ble_eq_true rfl))) (ev_index (ds := [.bool false, .bool true, .bool false, .bool false, .bool false, .bool false]) (j := 1) (z := .bool true) (ev_var rfl) (ea_cons ev_bl ea_nil) (by rfl) (by rfl) rfl rfl (fun m z2 h1 h2 => ?_)) (rv_ixL rfl)) rfl
    have h3 : m = 0 := by omega
    subst h3; cases h2; rfl
  · skip
    have q_BadMachine : PySem.W.kitOne K (.ref (He.ga K "BadProgram")) (.ref (He.ga K "BadMachine")) = some false := (T.W.kit "BadProgram" (by decide) "BadMachine" (by decide)).trans (by decide)
    have q_BadNumber : PySem.W.kitOne K (.ref (He.ga K "BadProgram")) (.ref (He.ga K "BadNumber")) = some false := (T.W.kit "BadProgram" (by decide) "BadNumber" (by decide)).trans (by decide)
    have q_BadProgram : PySem.W.kitOne K (.ref (He.ga K "BadProgram")) (.ref (He.ga K "BadProgram")) = some true := (T.W.kit "BadProgram" (by decide) "BadProgram" (by decide)).trans (by decide)
    have q_BadText : PySem.W.kitOne K (.ref (He.ga K "BadProgram")) (.ref (He.ga K "BadText")) = some false := (T.W.kit "BadProgram" (by decide) "BadText" (by decide)).trans (by decide)
    have q_TooGreat : PySem.W.kitOne K (.ref (He.ga K "BadProgram")) (.ref (He.ga K "TooGreat")) = some false := (T.W.kit "BadProgram" (by decide) "TooGreat" (by decide)).trans (by decide)
    have q_Nothing : PySem.W.kitOne K (.ref (He.ga K "BadProgram")) (.ref (He.ga K "Nothing")) = some false := (T.W.kit "BadProgram" (by decide) "Nothing" (by decide)).trans (by decide)
    refine wp_seq ?_
    refine wp_set (i := 1) (EvN.da (evn_lst (ea_cons (ev_isE rfl q_BadMachine) (ea_cons (ev_isE rfl q_BadNumber) (ea_cons (ev_isE rfl q_BadProgram) (ea_cons (ev_isE rfl q_BadText) ea_nil)))) (Nat.le_of_ble_eq_true rfl))) ?_
    walk_at "nz"
    refine wp_seq ?_
    refine wp_set (i := 1) (EvN.da (evn_op (ev_var rfl) (EvN.da (evn_lst (ea_cons (ev_isE rfl q_TooGreat) (ea_cons (ev_isE rfl q_Nothing) ea_nil)) (Nat.le_of_ble_eq_true rfl))) (rvn_cat (by decide)))) ?_
    walk_at "nz"
    refine wp_seq ?_
    refine wp_if (b := false) (EvT.to (et_or (et_test (ev_op (ev_cb (ea_cons (EvN.da (evn_lc0 (vs := [2]) (xs := ([false, false, true, false, false, false] : List Bool)) (enc := PyData.bool) (ei_list (ev_var rfl)) (by decide) (fun b => PyData.int (if b then 1 else 0)) _ (fun x hx => ⟨eg_name, ev_cb (ea_cons (ev_var rfl) ea_nil) rc_intB⟩))) ea_nil) rc_sumM) ev_int rv_neI)) fun _ => et_not (et_B (ev_isEty rfl kv))) (by decide)) (fun h => nomatch h) (fun _ => ?_)
    refine wp_nil ?_
    walk_at "nz"
    refine wp_ret (d := .str "BadProgram") (ev_op (EvN.da (evn_lst (ea_cons ev_str (ea_cons ev_str (ea_cons ev_str (ea_cons ev_str (ea_cons ev_str (ea_cons ev_str ea_nil)))))) (Nat.le_of_ble_eq_true rfl))) (ev_index (ds := [.bool false, .bool false, .bool true, .bool false, .bool false, .bool false]) (j := 2) (z := .bool true) (ev_var rfl) (ea_cons ev_bl ea_nil) (by rfl) (by rfl) rfl rfl (fun m z2 h1 h2 => ?_)) (rv_ixL rfl)) rfl
    have h3 : m = 0 ∨ m = 1 := by omega
    rcases h3 with rfl | rfl <;> (cases h2; rfl)
  · skip
    have q_BadMachine : PySem.W.kitOne K (.ref (He.ga K "BadText")) (.ref (He.ga K "BadMachine")) = some false := (T.W.kit "BadText" (by decide) "BadMachine" (by decide)).trans (by decide)
    have q_BadNumber : PySem.W.kitOne K (.ref (He.ga K "BadText")) (.ref (He.ga K "BadNumber")) = some false := (T.W.kit "BadText" (by decide) "BadNumber" (by decide)).trans (by decide)
    have q_BadProgram : PySem.W.kitOne K (.ref (He.ga K "BadText")) (.ref (He.ga K "BadProgram")) = some false := (T.W.kit "BadText" (by decide) "BadProgram" (by decide)).trans (by decide)
    have q_BadText : PySem.W.kitOne K (.ref (He.ga K "BadText")) (.ref (He.ga K "BadText")) = some true := (T.W.kit "BadText" (by decide) "BadText" (by decide)).trans (by decide)
    have q_TooGreat : PySem.W.kitOne K (.ref (He.ga K "BadText")) (.ref (He.ga K "TooGreat")) = some false := (T.W.kit "BadText" (by decide) "TooGreat" (by decide)).trans (by decide)
    have q_Nothing : PySem.W.kitOne K (.ref (He.ga K "BadText")) (.ref (He.ga K "Nothing")) = some false := (T.W.kit "BadText" (by decide) "Nothing" (by decide)).trans (by decide)
    refine wp_seq ?_
    refine wp_set (i := 1) (EvN.da (evn_lst (ea_cons (ev_isE rfl q_BadMachine) (ea_cons (ev_isE rfl q_BadNumber) (ea_cons (ev_isE rfl q_BadProgram) (ea_cons (ev_isE rfl q_BadText) ea_nil)))) (Nat.le_of_ble_eq_true rfl))) ?_
    walk_at "nz"
    refine wp_seq ?_
    refine wp_set (i := 1) (EvN.da (evn_op (ev_var rfl) (EvN.da (evn_lst (ea_cons (ev_isE rfl q_TooGreat) (ea_cons (ev_isE rfl q_Nothing) ea_nil)) (Nat.le_of_ble_eq_true rfl))) (rvn_cat (by decide)))) ?_
    walk_at "nz"
    refine wp_seq ?_
    refine wp_if (b := false) (EvT.to (et_or (et_test (ev_op (ev_cb (ea_cons (EvN.da (evn_lc0 (vs := [2]) (xs := ([false, false, false, true, false, false] : List Bool)) (enc := PyData.bool) (ei_list (ev_var rfl)) (by decide) (fun b => PyData.int (if b then 1 else 0)) _ (fun x hx => ⟨eg_name, ev_cb (ea_cons (ev_var rfl) ea_nil) rc_intB⟩))) ea_nil) rc_sumM) ev_int rv_neI)) fun _ => et_not (et_B (ev_isEty rfl kv))) (by decide)) (fun h => nomatch h) (fun _ => ?_)
    refine wp_nil ?_
    walk_at "nz"
    refine wp_ret (d := .str "BadText") (ev_op (EvN.da (evn_lst (ea_cons ev_str (ea_cons ev_str (ea_cons ev_str (ea_cons ev_str (ea_cons ev_str (ea_cons ev_str ea_nil)))))) (Nat.le_of_ble_eq_true rfl))) (ev_index (ds := [.bool false, .bool false, .bool false, .bool true, .bool false, .bool false]) (j := 3) (z := .bool true) (ev_var rfl) (ea_cons ev_bl ea_nil) (by rfl) (by rfl) rfl rfl (fun m z2 h1 h2 => ?_)) (rv_ixL rfl)) rfl
    have h3 : m = 0 ∨ m = 1 ∨ m = 2 := by omega
    rcases h3 with rfl | rfl | rfl <;> (cases h2; rfl)
  · skip
    have q_BadMachine : PySem.W.kitOne K (.ref (He.ga K "TooGreat")) (.ref (He.ga K "BadMachine")) = some false := (T.W.kit "TooGreat" (by decide) "BadMachine" (by decide)).trans (by decide)
    have q_BadNumber : PySem.W.kitOne K (.ref (He.ga K "TooGreat")) (.ref (He.ga K "BadNumber")) = some false := (T.W.kit "TooGreat" (by decide) "BadNumber" (by decide)).trans (by decide)
    have q_BadProgram : PySem.W.kitOne K (.ref (He.ga K "TooGreat")) (.ref (He.ga K "BadProgram")) = some false := (T.W.kit "TooGreat" (by decide) "BadProgram" (by decide)).trans (by decide)
    have q_BadText : PySem.W.kitOne K (.ref (He.ga K "TooGreat")) (.ref (He.ga K "BadText")) = some false := (T.W.kit "TooGreat" (by decide) "BadText" (by decide)).trans (by decide)
    have q_TooGreat : PySem.W.kitOne K (.ref (He.ga K "TooGreat")) (.ref (He.ga K "TooGreat")) = some true := (T.W.kit "TooGreat" (by decide) "TooGreat" (by decide)).trans (by decide)
    have q_Nothing : PySem.W.kitOne K (.ref (He.ga K "TooGreat")) (.ref (He.ga K "Nothing")) = some false := (T.W.kit "TooGreat" (by decide) "Nothing" (by decide)).trans (by decide)
    refine wp_seq ?_
    refine wp_set (i := 1) (EvN.da (evn_lst (ea_cons (ev_isE rfl q_BadMachine) (ea_cons (ev_isE rfl q_BadNumber) (ea_cons (ev_isE rfl q_BadProgram) (ea_cons (ev_isE rfl q_BadText) ea_nil)))) (Nat.le_of_ble_eq_true rfl))) ?_
    walk_at "nz"
    refine wp_seq ?_
    refine wp_set (i := 1) (EvN.da (evn_op (ev_var rfl) (EvN.da (evn_lst (ea_cons (ev_isE rfl q_TooGreat) (ea_cons (ev_isE rfl q_Nothing) ea_nil)) (Nat.le_of_ble_eq_true rfl))) (rvn_cat (by decide)))) ?_
    walk_at "nz"
    refine wp_seq ?_
    refine wp_if (b := false) (EvT.to (et_or (et_test (ev_op (ev_cb (ea_cons (EvN.da (evn_lc0 (vs := [2]) (xs := ([false, false, false, false, true, false] : List Bool)) (enc := PyData.bool) (ei_list (ev_var rfl)) (by decide) (fun b => PyData.int (if b then 1 else 0)) _ (fun x hx => ⟨eg_name, ev_cb (ea_cons (ev_var rfl) ea_nil) rc_intB⟩))) ea_nil) rc_sumM) ev_int rv_neI)) fun _ => et_not (et_B (ev_isEty rfl kv))) (by decide)) (fun h => nomatch h) (fun _ => ?_)
    refine wp_nil ?_
    walk_at "nz"
    refine wp_ret (d := .str "TooGreat") (ev_op (EvN.da (evn_lst (ea_cons ev_str (ea_cons ev_str (ea_cons ev_str (ea_cons ev_str (ea_cons ev_str (ea_cons ev_str ea_nil)))))) (Nat.le_of_ble_eq_true rfl))) (ev_index (ds := [.bool false, .bool false, .bool false, .bool false, .bool true, .bool false]) (j := 4) (z := .bool true) (ev_var rfl) (ea_cons ev_bl ea_nil) (by rfl) (by rfl) rfl rfl (fun m z2 h1 h2 => ?_)) (rv_ixL rfl)) rfl
    have h3 : m = 0 ∨ m = 1 ∨ m = 2 ∨ m = 3 := by omega
    rcases h3 with rfl | rfl | rfl | rfl <;> (cases h2; rfl)
  · skip
    have q_BadMachine : PySem.W.kitOne K (.ref (He.ga K "Nothing")) (.ref (He.ga K "BadMachine")) = some false := (T.W.kit "Nothing" (by decide) "BadMachine" (by decide)).trans (by decide)
    have q_BadNumber : PySem.W.kitOne K (.ref (He.ga K "Nothing")) (.ref (He.ga K "BadNumber")) = some false := (T.W.kit "Nothing" (by decide) "BadNumber" (by decide)).trans (by decide)
    have q_BadProgram : PySem.W.kitOne K (.ref (He.ga K "Nothing")) (.ref (He.ga K "BadProgram")) = some false := (T.W.kit "Nothing" (by decide) "BadProgram" (by decide)).trans (by decide)
    have q_BadText : PySem.W.kitOne K (.ref (He.ga K "Nothing")) (.ref (He.ga K "BadText")) = some false := (T.W.kit "Nothing" (by decide) "BadText" (by decide)).trans (by decide)
    have q_TooGreat : PySem.W.kitOne K (.ref (He.ga K "Nothing")) (.ref (He.ga K "TooGreat")) = some false := (T.W.kit "Nothing" (by decide) "TooGreat" (by decide)).trans (by decide)
    have q_Nothing : PySem.W.kitOne K (.ref (He.ga K "Nothing")) (.ref (He.ga K "Nothing")) = some true := (T.W.kit "Nothing" (by decide) "Nothing" (by decide)).trans (by decide)
    refine wp_seq ?_
    refine wp_set (i := 1) (EvN.da (evn_lst (ea_cons (ev_isE rfl q_BadMachine) (ea_cons (ev_isE rfl q_BadNumber) (ea_cons (ev_isE rfl q_BadProgram) (ea_cons (ev_isE rfl q_BadText) ea_nil)))) (Nat.le_of_ble_eq_true rfl))) ?_
    walk_at "nz"
    refine wp_seq ?_
    refine wp_set (i := 1) (EvN.da (evn_op (ev_var rfl) (EvN.da (evn_lst (ea_cons (ev_isE rfl q_TooGreat) (ea_cons (ev_isE rfl q_Nothing) ea_nil)) (Nat.le_of_ble_eq_true rfl))) (rvn_cat (by decide)))) ?_
    walk_at "nz"
    refine wp_seq ?_
    refine wp_if (b := false) (EvT.to (et_or (et_test (ev_op (ev_cb (ea_cons (EvN.da (evn_lc0 (vs := [2]) (xs := ([false, false, false, false, false, true] : List Bool)) (enc := PyData.bool) (ei_list (ev_var rfl)) (by decide) (fun b => PyData.int (if b then 1 else 0)) _ (fun x hx => ⟨eg_name, ev_cb (ea_cons (ev_var rfl) ea_nil) rc_intB⟩))) ea_nil) rc_sumM) ev_int rv_neI)) fun _ => et_not (et_B (ev_isEty rfl kv))) (by decide)) (fun h => nomatch h) (fun _ => ?_)
    refine wp_nil ?_
    walk_at "nz"
    refine wp_ret (d := .str "Nothing") (ev_op (EvN.da (evn_lst (ea_cons ev_str (ea_cons ev_str (ea_cons ev_str (ea_cons ev_str (ea_cons ev_str (ea_cons ev_str ea_nil)))))) (Nat.le_of_ble_eq_true rfl))) (ev_index (ds := [.bool false, .bool false, .bool false, .bool false, .bool false, .bool true]) (j := 5) (z := .bool true) (ev_var rfl) (ea_cons ev_bl ea_nil) (by rfl) (by rfl) rfl rfl (fun m z2 h1 h2 => ?_)) (rv_ixL rfl)) rfl
    have h3 : m = 0 ∨ m = 1 ∨ m = 2 ∨ m = 3 ∨ m = 4 := by omega
    rcases h3 with rfl | rfl | rfl | rfl | rfl <;> (cases h2; rfl)
abbrev s__law_told : Stmt := topS 40
abbrev N__law_told : List Str := ["_law_deed", "_law_e"]
theorem sc__law_told : FnScope N__law_told ["_law_deed"] (defScope s__law_told) := ⟨rfl, rfl, rfl, by decide +kernel, rfl, by decide +kernel, by decide +kernel⟩
abbrev s__law_ring_due : Stmt := topS 50
abbrev N__law_ring_due : List Str := ["_law_row", "_law_later"]
theorem sc__law_ring_due : FnScope N__law_ring_due ["_law_row"] (defScope s__law_ring_due) := ⟨rfl, rfl, rfl, by decide +kernel, rfl, by decide +kernel, by decide +kernel⟩
theorem ok__law_ring_due (D : Df K mg "_law_ring_due" s__law_ring_due ["_law_row"]) (T : Tx K mg) : Ck P w K mg base "_law_ring_due" 1 ["_law_row"] (spD K (Pr__law_ring_due K)) := by
  refine ck_mk (k := 0) D sc__law_ring_due (fun ds r hp => ?_) fun f cdv A outer s H E ds r hr hp => ?_
  · obtain ⟨xs, hxl, rfl, rfl⟩ := hp
    rfl
  refine ⟨_, (pss_cons (ps_for (passes_of rfl) rfl (pi_range1 (by rfl) T.n_range (pa_cons (pe_callB (call_lenK (K := K) rfl) (by rfl) T.n_len bt_len (pa_cons (pv 0) pa_nil)) pa_nil)) (pg_name (i := 1) sc__law_ring_due.nd rfl (.inl rfl))
      (pss_one (ps_if (pt_cmpR (op_inK (K := K) rfl) (pe_ix (ix_listK (K := K) rfl) (pv 0) (pv 1) (fun _ _ => rfl)) (pe_slice (sl_listK (K := K) rfl) (pv 0) po_none (po_some (pv 1))) (by rfl))
      (pss_one (ps_ret (pe_tup (pa_cons (pe_bm PySem.F.plainAttrs_list PySem.F.slot_list_index PySem.F.type_list_index (mt_indexD hr.units65) (pv 0) (pa_cons (pe_ix (ix_listK (K := K) rfl) (pv 0) (pv 1) (fun _ _ => rfl)) pa_nil)) (pa_cons (pv 1) pa_nil)))))
      pss_nil)))
      (pss_one (ps_ret pe_non))), ?_⟩
  obtain ⟨xs, hxl, rfl, rfl⟩ := hp
  show Wp K E _ [.va (lN xs), .no] _
  have hml : (xs.map fun k : Nat => PyData.int (k : Int)).length ≤ 1000 := by rw [List.length_map]; exact hxl
  refine wp_seq ?_
  refine wp_for (vs := [1]) (ei_rng1 (ev_cb (ea_cons (ev_var rfl) ea_nil) rc_lenL) (by walk_at "sd") (by walk_at "sd")) (fun i ρ1 => ∃ (s1 : Sl), dueGo xs (xs.length - i) i = dueF xs ∧ ρ1 = [.va (lN xs), s1]) (⟨_, rfl, rfl⟩) (fun i d ρ1 hd hI => ?_) (fun ρ1 hI => ?_)
  · obtain ⟨s1, hgo, rfl⟩ := hI
    obtain ⟨hi, rfl⟩ := rng_item hd
    have hi : i < xs.length := by rw [List.length_map] at hi; omega
    have hix := row_get hi
    have hct := cut_take (xs := xs) (i := i) (by omega)
    obtain ⟨f, hf⟩ : ∃ f, xs.length - i = f + 1 := ⟨xs.length - i - 1, by omega⟩
    refine ⟨_, eg_name, ?_⟩
    walk_at "nz"
    refine wp_if (b := decide (xs.getD i 1 ∈ xs.take i)) ?_ (fun h1 => ?_) (fun h1 => ?_)
    · skip
      exact EvT.to (et_test (ev_op (Ev.to (x := nD (xs.getD i 1)) (ev_op (ev_var rfl) (ev_var rfl) (rv_ixLm hix)) rfl) (Ev.to (EvN.da (evn_sl (ev_var rfl) eo_none (eo_some (ev_var rfl)))) hct) rv_inL)) (has_take xs (xs.getD i 1) i)
    · skip
      have hin := of_decide_eq_true h1
      have hin2 : xs.getD i 1 ∈ xs := List.mem_of_mem_take hin
      refine wp_ret (d := prD (xs.idxOf (xs.getD i 1), i)) ?_ ?_
      · skip
        exact Ev.to (ev_tup (ea_cons (ev_indexN (c := xs.getD i 1) (ev_var rfl) (ea_cons (ev_op (ev_var rfl) (ev_var rfl) (rv_ixLm hix)) ea_nil) hin2) (ea_cons (ev_var rfl) ea_nil)) (Nat.le_of_ble_eq_true rfl)) (by rw [Int.zero_add])
      walk_at "nz"
      rw [← hgo, hf]
      unfold dueGo
      rw [if_pos hin]; rfl
    · skip
      refine wp_nil ?_
      walk_at "nz"
      refine ⟨_, ?_, rfl⟩
      rw [← hgo, hf, show xs.length - (i + 1) = f by omega]
      conv => rhs; unfold dueGo
      rw [if_neg (of_decide_eq_false h1)]
  · obtain ⟨s1, hgo, rfl⟩ := hI
    walk_at "nz"
    have e0 : (rngD 0 (((xs.map fun k : Nat => PyData.int (k : Int)).length : Nat) : Int).toNat).length = xs.length := by simp [rngD]
    rw [e0, Nat.sub_self] at hgo
    refine wp_ret ev_non ?_
    walk_at "nz"
    rw [← hgo]; rfl
abbrev s_common : Stmt := topS 20
abbrev N_common : List Str := ["one", "other"]
theorem sc_common : FnScope N_common ["one", "other"] (defScope s_common) := ⟨rfl, rfl, rfl, by decide +kernel, rfl, by decide +kernel, by decide +kernel⟩
theorem ok_common (D : Df K mg "common" s_common ["one", "other"]) (T : Tx K mg) : Ck P w K mg base "common" 1 ["one", "other"] (spD K (Pr_common K)) := by
  refine ck_mk (k := 0) D sc_common (fun ds r hp => ?_) fun f cdv A outer s H E ds r hr hp => ?_
  · obtain ⟨a, b, rfl, rfl⟩ := hp
    rfl
  refine ⟨_, (pss_cons (ps_while (passes_of rfl) (pt_cmpR op_ne (pv 1) pe_int (nomark _))
      (pss_one (ps_par (i := 0) (j := 1) (by rfl) sc_common.nd rfl rfl (by decide) rfl rfl (pa_cons (pv 1) (pa_cons (pe_op op_mod (pv 0) (pv 1)) pa_nil)) (by rfl))))
      (pss_one (ps_ret (pv 0)))), ?_⟩
  obtain ⟨a, b, rfl, rfl⟩ := hp
  show Wp K E _ [.va (nD a), .va (nD b)] _
  refine wp_seq ?_
  refine wp_while (fun m ρ1 => ∃ x : Nat, Nat.gcd x m = Nat.gcd a b ∧ ρ1 = [.va (nD x), .va (nD m)]) (_) (⟨a, rfl, rfl⟩) (fun m ρ1 hI => ?_)
  obtain ⟨x, hg, rfl⟩ := hI
  refine ⟨_, (et_test (ev_op (ev_var rfl) ev_int rv_neI)), fun h0 => ?_, fun h0 => ?_⟩
  · skip
    have hm : 0 < m := by
      have h := h0
      rw [Bool.not_eq_true', decide_eq_false_iff_not] at h
      omega
    refine wp_par (ea_cons (ev_var rfl) (ea_cons (ev_op (ev_var rfl) (ev_var rfl) (rv_I (by walk_at "sd") fun _ => .int _)) ea_nil)) ?_
    walk_at "nz"
    show ∃ m, _ ∧ _
    exact ⟨x % m, Nat.mod_lt _ hm, m, by rw [← hg, Nat.gcd_comm x m, Nat.gcd_comm m (x % m), ← Nat.gcd_rec], by simp [nD]⟩
  · skip
    walk_at "nz"
    have hm : m = 0 := by
      have h := h0
      rw [Bool.not_eq_false', decide_eq_true_eq] at h
      omega
    subst hm
    rw [Nat.gcd_zero_right] at hg
    refine wp_ret (ev_var rfl) ?_
    walk_at "nz"
    rw [hg]
abbrev s_is_fraction : Stmt := topS 21
abbrev N_is_fraction : List Str := ["thing", "one"]
theorem sc_is_fraction : FnScope N_is_fraction ["thing"] (defScope s_is_fraction) := ⟨rfl, rfl, rfl, by decide +kernel, rfl, by decide +kernel, by decide +kernel⟩
theorem ok_is_fraction (D : Df K mg "is_fraction" s_is_fraction ["thing"]) (T : Tx K mg) (G_common : Ck P w K mg base "common" 1 ["one", "other"] (spD K (Pr_common K))) (G_is_number : Ck P w K mg base "is_number" 2 ["thing"] (spD K (Pr_is_number K))) : Ck P w K mg base "is_fraction" 3 ["thing"] (spD K (Pr_is_fraction K)) := by
  refine ck_mk (k := 2) D sc_is_fraction (fun ds r hp => ?_) fun f cdv A outer s H E ds r hr hp => ?_
  · obtain ⟨d, rfl, rfl⟩ := hp
    rfl
  refine ⟨_, (pss_cons (ps_if (PW.pt (pw_or (pt_not (pt_val (pe_callB (call_isiKK (K := K) rfl) (by rfl) T.n_isinstance bt_isinstance (pa_cons (pv 0) (pa_cons (pe_bltn (v := .ty "tuple") (by rfl) T.n_tuple bt_tuple rfl) pa_nil))))) (pw_or (pt_cmpR op_ne (pe_callB (call_lenK (K := K) rfl) (by rfl) T.n_len bt_len (pa_cons (pv 0) pa_nil)) pe_int (nomark _)) (pw_or1 (pt_not (pt_val (pe_callB (cr_allK (K := K) rfl rfl) (by rfl) T.n_all bt_all (pa_cons (pe_lc (own := [("one", 1)]) rfl sc_is_fraction.nd (pi_tupK (K := K) rfl (pv 0)) (blkOk_by (own := [("one", 1)]) (N := N_is_fraction) (sc := defScope s_is_fraction) (by decide +kernel)) (fun _ _ _ _ _ => (pg_name (i := 1) sc_is_fraction.nd rfl (by first | exact .inl rfl | exact .inr rfl))) (fun _ _ _ _ _ => pts_nil) (fun _ _ _ _ _ => (pe_callC G_is_number hr passLN (pa_cons (pv 1) pa_nil)))) pa_nil))))))))
      (pss_one (ps_ret pe_bl))
      pss_nil)
      (pss_one (ps_ret (pe_and (pe_cmpR op_le (pe_callB (cr_maxTK (K := K) rfl rfl) (by rfl) T.n_max bt_max (pa_cons (pv 0) pa_nil)) (pe_globI T.MOST_PART) (nomark _)) (pe_one (pe_cmpR op_eq (pe_callC G_common (hr.mono (by decide)) (L2N.passes_call (L2N.takes_of rfl rfl rfl rfl) fun _ _ _ _ h => h) (pa_cons (pe_ix (ix_tupK (K := K) rfl) (pv 0) pe_int (fun _ _ => rfl)) (pa_cons (pe_ix (ix_tupK (K := K) rfl) (pv 0) pe_int (fun _ _ => rfl)) pa_nil))) pe_int (nomark _))))))), ?_⟩
  obtain ⟨d, rfl, rfl⟩ := hp
  show Wp K E _ [.va (d), .no] _
  refine wp_seq ?_
  refine wp_if (b := badFrac d) ?_ (fun h0 => ?_) (fun h0 => ?_)
  · skip
    cases d with
    | tuple ds =>
      refine et_or (a := false) (EvT.to (et_not (et_B (ev_isi_tuple (ev_var rfl)))) rfl) fun _ => ?_
      refine (et_or (et_test (ev_op (ev_cb (ea_cons (ev_var rfl) ea_nil) rc_lenT) ev_int rv_neI)) fun hl => et_not (et_B (ev_cb (ea_cons (EvN.da (evn_lc0 (vs := [1]) (ei_tupD (ev_var rfl)) ?_ _ _ (fun x hx => ⟨eg_name, ev_call (ea_cons (ev_var rfl) ea_nil) ⟨_, rfl, rfl⟩⟩))) ea_nil) rc_allM))).to ?_
      · rw [Bool.not_eq_false', decide_eq_true_eq] at hl
        omega
      · congr 1
        rw [← decide_not]
        congr 1
        simp only [eq_iff_iff]
        show ¬ ((ds.length : Int) = 2) ↔ ¬ (ds.length = 2)
        omega
    | _ => exact et_or1 (EvT.to (et_not (et_B (ev_isi_tuple (ev_var rfl)))) rfl)
  · skip
    refine wp_ret ev_bl ?_
    walk_at "nz"
    rw [badFrac_true h0]
  · skip
    obtain ⟨a, b, rfl, ha, hb⟩ := badFrac_false h0
    refine wp_nil ?_
    walk_at "nz"
    refine wp_ret (d := .bool (isFracD (prD (a, b)))) ?_ ?_
    · skip
      rw [isFracD_pr ha hb]
      exact ev_andV ((ev_op (ev_cb (ea_cons (ev_var rfl) ea_nil) (rc_maxT (ns := [(a : Int), (b : Int)]) (Nat.zero_lt_succ _))) ev_int (rv_I0 fun _ => .bl _)).to rfl) fun _ => ev_op (ev_call (ea_cons (ev_op (ev_var rfl) ev_int (rv_ixT rfl)) (ea_cons (ev_op (ev_var rfl) ev_int (rv_ixT rfl)) ea_nil)) ⟨a, b, rfl, rfl⟩) ev_int rv_eqI
    walk_at "nz"
    first | done | rfl
abbrev s_is_program : Stmt := topS 22
abbrev N_is_program : List Str := ["thing", "one"]
theorem sc_is_program : FnScope N_is_program ["thing"] (defScope s_is_program) := ⟨rfl, rfl, rfl, by decide +kernel, rfl, by decide +kernel, by decide +kernel⟩
theorem ok_is_program (D : Df K mg "is_program" s_is_program ["thing"]) (T : Tx K mg) (G_is_fraction : Ck P w K mg base "is_fraction" 3 ["thing"] (spD K (Pr_is_fraction K))) : Ck P w K mg base "is_program" 4 ["thing"] (spD K (Pr_is_program K)) := by
  refine ck_mk (k := 3) D sc_is_program (fun ds r hp => ?_) fun f cdv A outer s H E ds r hr hp => ?_
  · obtain ⟨d, rfl, rfl⟩ := hp
    rfl
  refine ⟨_, (pss_cons (ps_if (PW.pt (pw_or (pt_not (pt_val (pe_callB (call_isiKK (K := K) rfl) (by rfl) T.n_isinstance bt_isinstance (pa_cons (pv 0) (pa_cons (pe_bltn (v := .ty "list") (by rfl) T.n_list bt_list rfl) pa_nil))))) (pw_or1 (pt_cmpR op_gt (pe_callB (call_lenK (K := K) rfl) (by rfl) T.n_len bt_len (pa_cons (pv 0) pa_nil)) (pe_globI T.MOST_FRACTIONS) (nomark _)))))
      (pss_one (ps_ret pe_bl))
      pss_nil)
      (pss_one (ps_ret (pe_callB (cr_allK (K := K) rfl rfl) (by rfl) T.n_all bt_all (pa_cons (pe_lc (own := [("one", 1)]) rfl sc_is_program.nd (pi_listK (K := K) rfl (pv 0)) (blkOk_by (own := [("one", 1)]) (N := N_is_program) (sc := defScope s_is_program) (by decide +kernel)) (fun _ _ _ _ _ => (pg_name (i := 1) sc_is_program.nd rfl (by first | exact .inl rfl | exact .inr rfl))) (fun _ _ _ _ _ => pts_nil) (fun _ _ _ _ _ => (pe_callC G_is_fraction hr passLN (pa_cons (pv 1) pa_nil)))) pa_nil))))), ?_⟩
  obtain ⟨d, rfl, rfl⟩ := hp
  show Wp K E _ [.va (d), .no] _
  refine wp_seq ?_
  refine wp_if (b := badProg d) ?_ (fun h0 => ?_) (fun h0 => ?_)
  · skip
    cases d with
    | list ds =>
      refine (et_or (a := false) (EvT.to (et_not (et_B (ev_isi_list (ev_var rfl)))) rfl) fun _ => et_test (ev_op (ev_cb (ea_cons (ev_var rfl) ea_nil) rc_lenL) ev_int (rv_I0 fun _ => .bl _))).to ?_
      show decide ((16 : Int) < (ds.length : Int)) = decide (16 < ds.length)
      congr 1
      simp only [eq_iff_iff]
      omega
    | _ => exact et_or1 (EvT.to (et_not (et_B (ev_isi_list (ev_var rfl)))) rfl)
  · skip
    refine wp_ret ev_bl ?_
    walk_at "nz"
    rw [badProg_true h0]
  · skip
    obtain ⟨ds, rfl, hl⟩ := badProg_false h0
    refine wp_nil ?_
    walk_at "nz"
    refine wp_ret (d := .bool (isProgD (.list ds))) ?_ ?_
    · skip
      rw [isProgD_list hl]
      exact ev_cb (ea_cons (EvN.da (evn_lc0 (vs := [1]) (ei_listD (ev_var rfl)) (by omega) _ _ (fun x hx => ⟨eg_name, ev_call (ea_cons (ev_var rfl) ea_nil) ⟨_, rfl, rfl⟩⟩))) ea_nil) rc_allM
    walk_at "nz"
    first | done | rfl
abbrev s_need_program : Stmt := topS 23
abbrev N_need_program : List Str := ["program"]
theorem sc_need_program : FnScope N_need_program ["program"] (defScope s_need_program) := ⟨rfl, rfl, rfl, by decide +kernel, rfl, by decide +kernel, by decide +kernel⟩
theorem ok_need_program (D : Df K mg "need_program" s_need_program ["program"]) (T : Tx K mg) (G_is_program : Ck P w K mg base "is_program" 4 ["thing"] (spD K (Pr_is_program K))) : Ck P w K mg base "need_program" 5 ["program"] (spD K (Pr_need_program K)) := by
  refine ck_mk (k := 4) D sc_need_program (fun ds r hp => ?_) fun f cdv A outer s H E ds r hr hp => ?_
  · obtain ⟨d, rfl, rfl⟩ := hp
    rfl
  refine ⟨_, (pss_one (ps_if (pt_not (pt_val (pe_callC G_is_program hr (L2N.passes_call (L2N.takes_of rfl rfl rfl rfl) fun _ _ _ _ h => h) (pa_cons (pv 0) pa_nil))))
      (pss_one (L2N.ps_raise rfl (L2N.takes_of rfl rfl rfl rfl) (L2N.pmk_own PySem.F.excBase_ValueError T.BadProgram.ex T.BadProgram.gl T.BadProgram.kp (raises_own T.BadProgram.sb T.BadProgram.ty) (by rfl))))
      pss_nil)), ?_⟩
  obtain ⟨d, rfl, rfl⟩ := hp
  show Wp K E _ [.va (d)] _
  refine wp_if (et_not (et_B (ev_call (ea_cons (ev_var rfl) ea_nil) (by walk_at "pr")))) (fun h0 => ?_) (fun h0 => ?_)
  · skip
    refine wp_raise ?_
    walk_at "nz"
    rw [Bool.not_eq_true'] at h0
    rw [h0]; rfl
  · skip
    refine wp_nil ?_
    walk_at "nz"
    rw [Bool.not_eq_false'] at h0
    rw [h0]; rfl
abbrev s_used_rooms : Stmt := topS 35
abbrev N_used_rooms : List Str := ["program", "found", "top", "under", "room", "many"]
theorem sc_used_rooms : FnScope N_used_rooms ["program"] (defScope s_used_rooms) := ⟨rfl, rfl, rfl, by decide +kernel, rfl, by decide +kernel, by decide +kernel⟩
theorem ok_used_rooms (D : Df K mg "used_rooms" s_used_rooms ["program"]) (T : Tx K mg) (G_need_program : Ck P w K mg base "need_program" 5 ["program"] (spD K (Pr_need_program K))) (G_parted : Ck P w K mg base "parted" 1 ["number"] (spD K (Pr_parted K))) : Ck P w K mg base "used_rooms" 6 ["program"] (spD K (Pr_used_rooms K)) := by
  refine ck_mk (k := 5) D sc_used_rooms (fun ds r hp => ?_) fun f cdv A outer s H E ds r hr hp => ?_
  · obtain ⟨d, rfl, rfl⟩ := hp
    rfl
  refine ⟨_, (pss_cons (ps_expr (pe_callC G_need_program hr (L2N.passes_call (L2N.takes_of rfl rfl rfl rfl) fun _ _ _ _ h => h) (pa_cons (pv 0) pa_nil)))
      (pss_cons (ps_set (i := 1) sc_used_rooms.nd rfl (.inl rfl) pe_dnewK)
      (pss_cons (ps_for (passes_of rfl) rfl (pi_listK (K := K) rfl (pv 0)) (pg_tupK (K := K) (n := 2) rfl rfl (pgs_cons (pg_name (i := 2) sc_used_rooms.nd rfl (.inl rfl)) (pgs_cons (pg_name (i := 3) sc_used_rooms.nd rfl (.inl rfl)) pgs_nil)))
      (pss_one (ps_for (passes_of rfl) rfl (pi_enT (K := K) rfl (by rfl) T.n_enumerate (pa_cons (pe_ix (ix_tupK (K := K) rfl) (pe_callC G_parted (hr.mono (by decide)) (L2N.passes_call (L2N.takes_of rfl rfl rfl rfl) fun _ _ _ _ h => h) (pa_cons (pe_op op_mulA (pv 2) (pv 3)) pa_nil)) pe_int (fun _ _ => rfl)) pa_nil)) (pg_tupK (K := K) (n := 2) rfl rfl (pgs_cons (pg_name (i := 4) sc_used_rooms.nd rfl (.inl rfl)) (pgs_cons (pg_name (i := 5) sc_used_rooms.nd rfl (.inl rfl)) pgs_nil)))
      (pss_one (ps_if (pt_cmpR op_gt (pv 5) pe_int (nomark _))
      (pss_one (ps_dput (Nat.lt_of_le_of_lt (Nat.add_le_add_left (by decide : 1 ≤ 64) _) hr.units) (pv 1) (pv 4) pe_bl (by rfl)))
      pss_nil)))))
      (pss_one (ps_ret (pe_callB (cr_sortDI rfl) (by rfl) T.n_sorted bt_sorted (pa_cons (pv 1) pa_nil))))))), ?_⟩
  obtain ⟨d, rfl, rfl⟩ := hp
  show Wp K E _ [.va (d), .no, .no, .no, .no, .no] _
  refine wp_seq ?_
  refine wp_exprE (eve_call (ea_cons (ev_var rfl) ea_nil) ⟨d, rfl, rfl⟩) (fun dv hd => ?_) (fun c hc => ?_)
  · skip
    walk_at "nz"
    obtain ⟨ps, rfl, hps⟩ := prog_ok hd
    rw [progE_ok hps]
    have sm := hps.small
    have l16 := hps.1
    walk_at "nz"
    refine wp_seq ?_
    refine wp_setD (i := 1) ?_
    walk_at "nz"
    refine wp_seq ?_
    refine wp_for (vs := [2, 3]) (ei_list (ev_var rfl)) (fun i ρ1 => ∃ (es : List (Int × Dt)) (s2 s3 s4 s5 : Sl), Us ps i 0 1 es ∧ ρ1 = [.va (lP ps), .dic es, s2, s3, s4, s5]) (⟨[], _, _, _, _, us_0 ps 1, rfl⟩) (fun i d ρ1 hd hI => ?_) (fun ρ1 hI => ?_)
    · obtain ⟨es, s2, s3, s4, s5, us, rfl⟩ := hI
      obtain ⟨p, hp, rfl⟩ := map_item hd
      have hfp := hps.2 p (List.mem_of_getElem? hp)
      have b1 := hfp.2.2.1
      have b2 := hfp.2.2.2.1
      have hpos : 0 < p.1 * p.2 := Nat.mul_pos hfp.1.1 hfp.2.1.1
      obtain ⟨i0, rfl⟩ : ∃ i0, i0 = i := ⟨i, rfl⟩
      refine ⟨_, (eg_tup (egs_cons eg_name (egs_cons eg_name egs_nil)) rfl), ?_⟩
      walk_at "nz"
      refine wp_for (vs := [4, 5]) (ei_enTM (ev_op (ev_call (ea_cons (ev_op (ev_var rfl) (ev_var rfl) (rv_I (by walk_at "sd") fun _ => .int _)) ea_nil) ⟨p.1 * p.2, hpos, by show [PyData.int _] = [PyData.int _]; rw [Int.natCast_mul], rfl⟩) ev_int (rv_ixT (by walk_at "ix")))) (fun i ρ1 => ∃ (es : List (Int × Dt)) (s4 s5 : Sl), Us ps i0 i (p.1 * p.2) es ∧ ρ1 = [.va (lP ps), .dic es, .va (nD p.1), .va (nD p.2), s4, s5]) (⟨es, _, _, us.start, rfl⟩) (fun i d ρ1 hd hI => ?_) (fun ρ1 hI => ?_)
      · obtain ⟨es, s4, s5, us, rfl⟩ := hI
        obtain ⟨q, hq, rfl⟩ := map_item hd
        obtain ⟨v, hv, rfl⟩ := enum_item2 hq
        have hi : i < 12 := by have := (List.getElem?_eq_some_iff.mp hv).1; rw [rooms_len] at this; exact this
        have eg := exGo_at hv
        have hlen := us.len
        refine ⟨_, (eg_tup (egs_cons eg_name (egs_cons eg_name egs_nil)) rfl), ?_⟩
        walk_at "nz"
        refine wp_if (et_test (ev_op (ev_var rfl) ev_int (rv_I0 fun _ => .bl _))) (fun h4 => ?_) (fun h4 => ?_)
        · skip
          refine wp_dput (i := 1) rfl ev_bl (ev_var rfl) (by walk_at "sz") ?_
          walk_at "nz"
          first
          | exact ⟨putD es (i : Int) (.bool true), _, _, us.put hi (by rw [eg]; have := of_decide_eq_true h4; omega), rfl⟩
          | exact ⟨es, _, _, us.skip (by rw [eg]; have := of_decide_eq_false h4; omega), rfl⟩
        · skip
          refine wp_nil ?_
          walk_at "nz"
          first
          | exact ⟨putD es (i : Int) (.bool true), _, _, us.put hi (by rw [eg]; have := of_decide_eq_true h4; omega), rfl⟩
          | exact ⟨es, _, _, us.skip (by rw [eg]; have := of_decide_eq_false h4; omega), rfl⟩
      · obtain ⟨es, s4, s5, us, rfl⟩ := hI
        walk_at "nz"
        have e12 : ((rooms (p.1 * p.2)).zipIdx.map fun p : Nat × Nat => PyData.tuple [.int (p.2 : Int), PyData.int (p.1 : Int)]).length = 12 := by rw [List.length_map, List.length_zipIdx, rooms_len]
        rw [e12] at us
        exact ⟨es, _, _, _, _, us.next (y := 1) hp, rfl⟩
    · obtain ⟨es, s2, s3, s4, s5, us, rfl⟩ := hI
      walk_at "nz"
      rw [List.length_map] at us
      refine wp_ret (d := lN (usedF ps)) ?_ ?_
      · skip
        exact Ev.to (EvN.da (evn_sortD rfl (by have := us.len; omega) us.done)) (by unfold lN; rw [List.map_map]; rfl)
      walk_at "nz"
      first | done | rfl
  · skip
    walk_at "nz"
    show progE K _ _ = .error c
    exact prog_xc hc
abbrev s_look : Stmt := topS 27
abbrev N_look : List Str := ["program", "number"]
theorem sc_look : FnScope N_look ["program", "number"] (defScope s_look) := ⟨rfl, rfl, rfl, by decide +kernel, rfl, by decide +kernel, by decide +kernel⟩
theorem ok_look (D : Df K mg "look" s_look ["program", "number"]) (T : Tx K mg) (G_need_number : Ck P w K mg base "need_number" 3 ["number"] (spD K (Pr_need_number K))) (G_need_program : Ck P w K mg base "need_program" 5 ["program"] (spD K (Pr_need_program K))) : Ck P w K mg base "look" 6 ["program", "number"] (spD K (Pr_look K)) := by
  refine ck_mk (k := 5) D sc_look (fun ds r hp => ?_) fun f cdv A outer s H E ds r hr hp => ?_
  · obtain ⟨d, e, rfl, rfl⟩ := hp
    rfl
  refine ⟨_, (pss_cons (ps_expr (pe_callC G_need_program hr (L2N.passes_call (L2N.takes_of rfl rfl rfl rfl) fun _ _ _ _ h => h) (pa_cons (pv 0) pa_nil)))
      (pss_one (ps_expr (pe_callC G_need_number (hr.mono (by decide)) (L2N.passes_call (L2N.takes_of rfl rfl rfl rfl) fun _ _ _ _ h => h) (pa_cons (pv 1) pa_nil))))), ?_⟩
  obtain ⟨d, e, rfl, rfl⟩ := hp
  show Wp K E _ [.va (d), .va (e)] _
  refine wp_seq ?_
  refine wp_exprE (eve_call (ea_cons (ev_var rfl) ea_nil) (by walk_at "pr")) (fun dv hd => ?_) (fun c hc => ?_)
  · skip
    walk_at "nz"
    have hp : isProgD d = true := by
      cases q : isProgD d with
      | true => rfl
      | false => rw [q] at hd; cases hd
    walk_at "nz"
    refine wp_exprE (eve_call (ea_cons (ev_var rfl) ea_nil) (by walk_at "pr")) (fun dv hd => ?_) (fun c hc => ?_)
    · skip
      walk_at "nz"
      have hn : isNumD e = true := by
        cases q : isNumD e with
        | true => rfl
        | false => rw [q] at hd; cases hd
      walk_at "nz"
      show lookE K d e _ = .ok .none
      unfold lookE progE
      rw [hp, hn]; rfl
    · skip
      walk_at "nz"
      show lookE K d e _ = .error c
      unfold lookE progE
      rw [hp]
      cases q : isNumD e with
      | true => rw [q] at hc; cases hc
      | false => rw [q] at hc; rw [if_pos rfl]; exact hc
  · skip
    walk_at "nz"
    show lookE K d e _ = .error c
    unfold lookE progE
    cases q : isProgD d with
    | true => rw [q] at hc; cases hc
    | false => rw [q] at hc; exact hc
abbrev s_need_count : Stmt := topS 12
abbrev N_need_count : List Str := ["thing", "low", "high"]
theorem sc_need_count : FnScope N_need_count ["thing", "low", "high"] (defScope s_need_count) := ⟨rfl, rfl, rfl, by decide +kernel, rfl, by decide +kernel, by decide +kernel⟩
theorem ok_need_count (D : Df K mg "need_count" s_need_count ["thing", "low", "high"]) (T : Tx K mg) (G_is_count : Ck P w K mg base "is_count" 1 ["thing", "low", "high"] (spD K (Pr_is_count K))) : Ck P w K mg base "need_count" 2 ["thing", "low", "high"] (spD K (Pr_need_count K)) := by
  refine ck_mk (k := 1) D sc_need_count (fun ds r hp => ?_) fun f cdv A outer s H E ds r hr hp => ?_
  · obtain ⟨d, lo, hi, rfl, rfl⟩ := hp
    rfl
  refine ⟨_, (pss_one (ps_if (pt_not (pt_val (pe_callC G_is_count hr (L2N.passes_call (L2N.takes_of rfl rfl rfl rfl) fun _ _ _ _ h => h) (pa_cons (pv 0) (pa_cons (pv 1) (pa_cons (pv 2) pa_nil))))))
      (pss_one (L2N.ps_raise rfl (L2N.takes_of rfl rfl rfl rfl) (L2N.pmk_own PySem.F.excBase_ValueError T.BadNumber.ex T.BadNumber.gl T.BadNumber.kp (raises_own T.BadNumber.sb T.BadNumber.ty) (by rfl))))
      pss_nil)), ?_⟩
  obtain ⟨d, lo, hi, rfl, rfl⟩ := hp
  show Wp K E _ [.va (d), .va (.int lo), .va (.int hi)] _
  refine wp_if (et_not (et_B (ev_call (ea_cons (ev_var rfl) (ea_cons (ev_var rfl) (ea_cons (ev_var rfl) ea_nil))) ⟨d, lo, hi, rfl, rfl⟩))) (fun h0 => ?_) (fun h0 => ?_)
  · skip
    refine wp_raise ?_
    walk_at "nz"
    rw [Bool.not_eq_true'] at h0
    rw [h0]; rfl
  · skip
    refine wp_nil ?_
    walk_at "nz"
    rw [Bool.not_eq_false'] at h0
    rw [h0]; rfl
abbrev s_first_at : Stmt := topS 24
abbrev N_first_at : List Str := ["program", "number", "place", "fraction"]
theorem sc_first_at : FnScope N_first_at ["program", "number"] (defScope s_first_at) := ⟨rfl, rfl, rfl, by decide +kernel, rfl, by decide +kernel, by decide +kernel⟩
theorem ok_first_at (D : Df K mg "first_at" s_first_at ["program", "number"]) (T : Tx K mg) : Ck P w K mg base "first_at" 1 ["program", "number"] (spD K (Pr_first_at K)) := by
  refine ck_mk (k := 0) D sc_first_at (fun ds r hp => ?_) fun f cdv A outer s H E ds r hr hp => ?_
  · obtain ⟨ps, n, hps, rfl, rfl⟩ := hp
    rfl
  refine ⟨_, (pss_cons (ps_for (passes_of rfl) rfl (pi_enumK (K := K) rfl (by rfl) T.n_enumerate (pa_cons (pv 0) pa_nil)) (pg_tupK (K := K) (n := 2) rfl rfl (pgs_cons (pg_name (i := 2) sc_first_at.nd rfl (.inl rfl)) (pgs_cons (pg_name (i := 3) sc_first_at.nd rfl (.inl rfl)) pgs_nil)))
      (pss_one (ps_if (pt_cmpR op_eq (pe_op op_mod (pv 1) (pe_ix (ix_tupK (K := K) rfl) (pv 3) pe_int (fun _ _ => rfl))) pe_int (nomark _))
      (pss_one (ps_ret (pv 2)))
      pss_nil)))
      (pss_one (ps_ret pe_non))), ?_⟩
  obtain ⟨ps, n, hps, rfl, rfl⟩ := hp
  show Wp K E _ [.va (lP ps), .va (nD n), .no, .no] _
  refine wp_seq ?_
  refine wp_for (vs := [2, 3]) (ei_enumM (ev_var rfl)) (fun i ρ1 => ∃ (s2 s3 : Sl), (∀ j q, j < i → ps[j]? = some q → n % q.2 ≠ 0) ∧ ρ1 = [.va (lP ps), .va (nD n), s2, s3]) (⟨_, _, fun j q h => absurd h (Nat.not_lt_zero j), rfl⟩) (fun i d ρ1 hd hI => ?_) (fun ρ1 hI => ?_)
  · obtain ⟨s2, s3, hb, rfl⟩ := hI
    obtain ⟨p, hp, rfl⟩ := enum_item hd
    have hp2 := hps p (List.mem_of_getElem? hp)
    refine ⟨_, (eg_tup (egs_cons eg_name (egs_cons eg_name egs_nil)) rfl), ?_⟩
    walk_at "nz"
    refine wp_if (et_test (ev_op (ev_op (ev_var rfl) (ev_op (ev_var rfl) ev_int (rv_ixT (by walk_at "ix"))) (rv_I (by walk_at "sd") fun _ => .int _)) ev_int rv_eqI)) (fun h1 => ?_) (fun h1 => ?_)
    · skip
      refine wp_ret (ev_var rfl) ?_
      walk_at "nz"
      have hz : n % p.2 = 0 := by have := of_decide_eq_true h1; omega
      rw [firstAt_some hp hz hb]; rfl
    · skip
      refine wp_nil ?_
      walk_at "nz"
      refine ⟨_, _, fun j q hj hq => ?_, rfl⟩
      rcases Nat.lt_succ_iff_lt_or_eq.mp hj with hj | rfl
      · exact hb j q hj hq
      · rw [hp] at hq
        cases hq
        have := of_decide_eq_false h1
        omega
  · obtain ⟨s2, s3, hb, rfl⟩ := hI
    walk_at "nz"
    refine wp_ret ev_non ?_
    walk_at "nz"
    rw [firstAt_none (by simpa using hb)]; rfl
abbrev s_led : Stmt := topS 25
abbrev N_led : List Str := ["program", "number", "place"]
theorem sc_led : FnScope N_led ["program", "number"] (defScope s_led) := ⟨rfl, rfl, rfl, by decide +kernel, rfl, by decide +kernel, by decide +kernel⟩
theorem ok_led (D : Df K mg "led" s_led ["program", "number"]) (T : Tx K mg) (G_first_at : Ck P w K mg base "first_at" 1 ["program", "number"] (spD K (Pr_first_at K))) : Ck P w K mg base "led" 2 ["program", "number"] (spD K (Pr_led K)) := by
  refine ck_mk (k := 1) D sc_led (fun ds r hp => ?_) fun f cdv A outer s H E ds r hr hp => ?_
  · obtain ⟨ps, n, hps, rfl, rfl⟩ := hp
    rfl
  refine ⟨_, (pss_cons (ps_set (i := 2) sc_led.nd rfl (.inl rfl) (pe_callC G_first_at hr (L2N.passes_call (L2N.takes_of rfl rfl rfl rfl) fun _ _ _ _ h => h) (pa_cons (pv 0) (pa_cons (pv 1) pa_nil))))
      (pss_one (ps_ret (pe_ifExp (pt_cmpR op_isN (pv 2) pe_non (nomark _)) pe_non (pe_op op_mulA (pe_op op_fdivW (pv 1) (pe_ix (ix_tupK (K := K) rfl) (pe_ix (ix_listK (K := K) rfl) (pv 0) (pv 2) (fun _ _ => rfl)) pe_int (fun _ _ => rfl))) (pe_ix (ix_tupK (K := K) rfl) (pe_ix (ix_listK (K := K) rfl) (pv 0) (pv 2) (fun _ _ => rfl)) pe_int (fun _ _ => rfl))))))), ?_⟩
  obtain ⟨ps, n, hps, rfl, rfl⟩ := hp
  show Wp K E _ [.va (lP ps), .va (nD n), .no] _
  refine wp_seq ?_
  refine wp_set (i := 2) (ev_call (ea_cons (ev_var rfl) (ea_cons (ev_var rfl) ea_nil)) ⟨ps, n, hps, rfl, rfl⟩) ?_
  walk_at "nz"
  refine wp_ret (d := oN (ledF ps n)) ?_ ?_
  · skip
    cases e : firstAt ps n with
    | none =>
      have e2 : ledF ps n = none := by unfold ledF; rw [e]; rfl
      rw [e2]
      exact ev_if (b := true) (et_test (ev_op (ev_var rfl) ev_non rv_isN)) (fun _ => ev_non) (fun z => nomatch z) (y := .none)
    | some i =>
      have e2 : ledF ps n = some (n / (fr ps i).2 * (fr ps i).1) := by unfold ledF; rw [e]; rfl
      rw [e2]
      obtain ⟨hp, hi, _⟩ := firstAt_spec e
      obtain ⟨g1, g2, g3, g4⟩ := hps _ (List.mem_of_getElem? hp)
      have ix : atI ps (i : Int) = some (fr ps i) := atI_nat hp
      refine (ev_if (b := false) (x := .none) (et_test (ev_op (ev_var rfl) ev_non rv_isN)) (fun z => nomatch z) (fun _ => ev_op (ev_op (ev_var rfl) (ev_op (ev_op (ev_var rfl) (ev_var rfl) (rv_ixLm ix)) ev_int (rv_ixT rfl)) (rv_I (cdiv_s (by omega) (by omega)) fun _ => .int _)) (ev_op (ev_op (ev_var rfl) (ev_var rfl) (rv_ixLm ix)) ev_int (rv_ixT rfl)) (rv_I (cmul_r (by omega) (by omega)) fun _ => .int _))).to ?_
      show PyData.int _ = PyData.int _
      congr 1
  walk_at "nz"
  first | done | rfl
abbrev s_need_room : Stmt := topS 26
abbrev N_need_room : List Str := ["number"]
theorem sc_need_room : FnScope N_need_room ["number"] (defScope s_need_room) := ⟨rfl, rfl, rfl, by decide +kernel, rfl, by decide +kernel, by decide +kernel⟩
theorem ok_need_room (D : Df K mg "need_room" s_need_room ["number"]) (T : Tx K mg) (G_parted : Ck P w K mg base "parted" 1 ["number"] (spD K (Pr_parted K))) : Ck P w K mg base "need_room" 2 ["number"] (spD K (Pr_need_room K)) := by
  refine ck_mk (k := 1) D sc_need_room (fun ds r hp => ?_) fun f cdv A outer s H E ds r hr hp => ?_
  · obtain ⟨n, hn, rfl, rfl⟩ := hp
    rfl
  refine ⟨_, (pss_one (ps_if (PW.pt (pw_and (pt_cmpR op_gt (pe_op op_fdivW (pe_op op_fdivW (pv 0) (pe_op op_pow pe_int pe_int)) (pe_op op_pow pe_int pe_int)) pe_int (nomark _)) (pw_and1 (pt_cmpR op_gt (pe_callB (cr_maxTK (K := K) rfl rfl) (by rfl) T.n_max bt_max (pa_cons (pe_ix (ix_tupK (K := K) rfl) (pe_callC G_parted hr (L2N.passes_call (L2N.takes_of rfl rfl rfl rfl) fun _ _ _ _ h => h) (pa_cons (pv 0) pa_nil)) pe_int (fun _ _ => rfl)) pa_nil)) (pe_globI T.MOST_ROOM) (nomark _)))))
      (pss_one (L2N.ps_raise rfl (L2N.takes_of rfl rfl rfl rfl) (L2N.pmk_own PySem.F.excBase_ValueError T.TooGreat.ex T.TooGreat.gl T.TooGreat.kp (raises_own T.TooGreat.sb T.TooGreat.ty) (by rfl))))
      pss_nil)), ?_⟩
  obtain ⟨n, hn, rfl, rfl⟩ := hp
  show Wp K E _ [.va (nD n)] _
  refine wp_if (b := tooB n) ?_ (fun h0 => ?_) (fun h0 => ?_)
  · skip
    exact et_and (et_test (ev_op (ev_op (ev_op (ev_var rfl) (ev_op ev_int ev_int (rv_I (by walk_at "sd") fun _ => .int _)) (rv_I (by walk_at "sd") fun _ => .int _)) (ev_op ev_int ev_int (rv_I (by walk_at "sd") fun _ => .int _)) (rv_I (by walk_at "sd") fun _ => .int _)) ev_int (rv_I0 fun _ => .bl _))) fun _ =>
      et_test (ev_op (ev_cb (ea_cons (ev_op (ev_call (ea_cons (ev_var rfl) ea_nil) ⟨n, hn, rfl, rfl⟩) ev_int (rv_ixT rfl)) ea_nil) (rc_maxTM (by rw [rooms_len]; decide))) ev_int (rv_I0 fun _ => .bl _))
  · skip
    refine wp_raise ?_
    walk_at "nz"
    rw [h0]; rfl
  · skip
    refine wp_nil ?_
    walk_at "nz"
    rw [h0]; rfl
abbrev s_greatest_rooms : Stmt := topS 34
abbrev N_greatest_rooms : List Str := ["program", "number", "most", "best", "here", "turn", "one", "other"]
theorem sc_greatest_rooms : FnScope N_greatest_rooms ["program", "number", "most"] (defScope s_greatest_rooms) := ⟨rfl, rfl, rfl, by decide +kernel, rfl, by decide +kernel, by decide +kernel⟩
theorem ok_greatest_rooms (D : Df K mg "greatest_rooms" s_greatest_rooms ["program", "number", "most"]) (T : Tx K mg) (G_led : Ck P w K mg base "led" 2 ["program", "number"] (spD K (Pr_led K))) (G_look : Ck P w K mg base "look" 6 ["program", "number"] (spD K (Pr_look K))) (G_need_count : Ck P w K mg base "need_count" 2 ["thing", "low", "high"] (spD K (Pr_need_count K))) (G_need_room : Ck P w K mg base "need_room" 2 ["number"] (spD K (Pr_need_room K))) (G_parted : Ck P w K mg base "parted" 1 ["number"] (spD K (Pr_parted K))) : Ck P w K mg base "greatest_rooms" 7 ["program", "number", "most"] (spD K (Pr_greatest_rooms K)) := by
  refine ck_mk (k := 6) D sc_greatest_rooms (fun ds r hp => ?_) fun f cdv A outer s H E ds r hr hp => ?_
  · obtain ⟨d, e, f, rfl, rfl⟩ := hp
    rfl
  refine ⟨_, (pss_cons (ps_expr (pe_callC G_look hr (L2N.passes_call (L2N.takes_of rfl rfl rfl rfl) fun _ _ _ _ h => h) (pa_cons (pv 0) (pa_cons (pv 1) pa_nil))))
      (pss_cons (ps_expr (pe_callC G_need_count (hr.mono (by decide)) (L2N.passes_call (L2N.takes_of rfl rfl rfl rfl) fun _ _ _ _ h => h) (pa_cons (pv 2) (pa_cons pe_int (pa_cons (pe_globI T.MOST_LOOKED) pa_nil)))))
      (pss_cons (ps_par (i := 3) (j := 4) (by rfl) sc_greatest_rooms.nd rfl rfl (by decide) rfl rfl (pa_cons (pe_callTy (call_listK (K := K) rfl) (by rfl) T.n_list bt_list (pa_cons (pe_ix (ix_tupK (K := K) rfl) (pe_callC G_parted (hr.mono (by decide)) (L2N.passes_call (L2N.takes_of rfl rfl rfl rfl) fun _ _ _ _ h => h) (pa_cons (pv 1) pa_nil)) pe_int (fun _ _ => rfl)) pa_nil)) (pa_cons (pv 1) pa_nil)) (by rfl))
      (pss_cons (ps_for (passes_of rfl) rfl (pi_range1 (by rfl) T.n_range (pa_cons (pv 2) pa_nil)) (pg_name (i := 5) sc_greatest_rooms.nd rfl (.inl rfl))
      (pss_cons (ps_set (i := 4) sc_greatest_rooms.nd rfl (.inl rfl) (pe_callC G_led (hr.mono (by decide)) (L2N.passes_call (L2N.takes_of rfl rfl rfl rfl) fun _ _ _ _ h => h) (pa_cons (pv 0) (pa_cons (pv 4) pa_nil))))
      (pss_cons (ps_if (pt_cmpR op_isN (pv 4) pe_non (nomark _))
      (pss_one (ps_ret (pe_callTy (call_tupK (K := K) rfl) (by rfl) T.n_tuple bt_tuple (pa_cons (pv 3) pa_nil))))
      pss_nil)
      (pss_cons (ps_expr (pe_callC G_need_room (hr.mono (by decide)) (L2N.passes_call (L2N.takes_of rfl rfl rfl rfl) fun _ _ _ _ h => h) (pa_cons (pv 4) pa_nil)))
      (pss_one (ps_setLc (i := 3) (own := [("one", 6), ("other", 7)]) rfl sc_greatest_rooms.nd rfl rfl (sw_true rfl rfl rfl (by decide +kernel)) (pi_zipMK (K := K) rfl (by rfl) T.n_zip (pa_cons (pv 3) (pa_cons (pe_ix (ix_tupK (K := K) rfl) (pe_callC G_parted (hr.mono (by decide)) (L2N.passes_call (L2N.takes_of rfl rfl rfl rfl) fun _ _ _ _ h => h) (pa_cons (pv 4) pa_nil)) pe_int (fun _ _ => rfl)) pa_nil))) (blkOk_by (own := [("one", 6), ("other", 7)]) (N := N_greatest_rooms) (sc := defScope s_greatest_rooms) (by decide +kernel)) (fun _ _ _ _ _ => (pg_tupK (K := K) (n := 2) rfl rfl (pgs_cons (pg_name (i := 6) sc_greatest_rooms.nd rfl (by first | exact .inl rfl | exact .inr rfl)) (pgs_cons (pg_name (i := 7) sc_greatest_rooms.nd rfl (by first | exact .inl rfl | exact .inr rfl)) pgs_nil)))) (fun _ _ _ _ _ => pts_nil) (fun _ _ _ _ _ => (pe_callB (call_max2 rfl) (by rfl) T.n_max bt_max (pa_cons (pv 6) (pa_cons (pv 7) pa_nil))))))))))
      (pss_one (ps_ret (pe_callTy (call_tupK (K := K) rfl) (by rfl) T.n_tuple bt_tuple (pa_cons (pv 3) pa_nil)))))))), ?_⟩
  obtain ⟨d, e, f, rfl, rfl⟩ := hp
  show Wp K E _ [.va (d), .va (e), .va (f), .no, .no, .no, .no, .no] _
  refine wp_seq ?_
  refine wp_exprE (eve_call (ea_cons (ev_var rfl) (ea_cons (ev_var rfl) ea_nil)) ⟨d, e, rfl, rfl⟩) (fun dv hd => ?_) (fun c hc => ?_)
  · skip
    walk_at "nz"
    obtain ⟨ps, n, rfl, rfl, hps, hn⟩ := look_ok hd
    rw [lookE_ok hps hn]
    have sm := hps.small
    walk_at "nz"
    refine wp_seq ?_
    refine wp_exprE (eve_call (ea_cons (ev_var rfl) (ea_cons ev_int (ea_cons ev_int ea_nil))) ⟨f, 0, 500, rfl, rfl⟩) (fun dv hd => ?_) (fun c hc => ?_)
    · skip
      walk_at "nz"
      obtain ⟨m, rfl, hm, hcm⟩ := count_ok hd
      have hm : m ≤ 500 := by omega
      walk_at "nz"
      refine wp_seq ?_
      refine wp_par (ea_cons (EvN.da (evn_cb (ea_cons (ev_op (ev_call (ea_cons (ev_var rfl) ea_nil) ⟨n, hn.1, rfl, rfl⟩) ev_int (rv_ixT (by walk_at "ix"))) ea_nil) rcn_listT)) (ea_cons (ev_var rfl) ea_nil)) ?_
      walk_at "nz"
      refine wp_seq ?_
      refine wp_for (vs := [5]) (ei_rng1 (ev_var rfl) (by walk_at "sd") (by walk_at "sd")) (fun i ρ1 => ∃ (best : List Nat) (c0 : Nat) (s6 s7 s8 : Sl), best.length = 12 ∧ 0 < c0 ∧ bestGo ps (m - i) best c0 = bestGo ps m (rooms n) n ∧ ρ1 = [.va (lP ps), .va (nD n), .va (nD m), .va (lN best), .va (nD c0), s6, s7, s8]) (⟨rooms n, n, _, _, _, rooms_len n, hn.1, rfl, rfl⟩) (fun i d ρ1 hd hI => ?_) (fun ρ1 hI => ?_)
      · obtain ⟨best, c0, s6, s7, s8, hbl, hc0, hgo, rfl⟩ := hI
        obtain ⟨hi, rfl⟩ := rng_item hd
        have efu : m - i = (m - (i + 1)) + 1 := by omega
        refine ⟨_, eg_name, ?_⟩
        walk_at "nz"
        refine wp_seq ?_
        refine wp_set (i := 4) (ev_call (ea_cons (ev_var rfl) (ea_cons (ev_var rfl) ea_nil)) ⟨ps, c0, sm, rfl, rfl⟩) ?_
        walk_at "nz"
        refine wp_seq ?_
        refine wp_if (et_test (ev_op (ev_var rfl) ev_non rv_isN)) (fun h5 => ?_) (fun h5 => ?_)
        · skip
          have el : ledF ps c0 = none := by
            cases q : ledF ps c0 with
            | none => rfl
            | some l => rw [q] at h5; cases h5
          refine wp_ret (ev_cb (ea_cons (ev_var rfl) ea_nil) rc_tupL) ?_
          walk_at "nz"
          show bestE K ps n (nD m) = _
          rw [bestE_on hm, ← hgo, efu, bg_end el]; rfl
        · skip
          obtain ⟨l, el⟩ : ∃ l, ledF ps c0 = some l := by
            cases q : ledF ps c0 with
            | none => rw [q] at h5; cases h5
            | some l => exact ⟨l, rfl⟩
          have hl0 := led_posS sm hc0 el
          rw [el]
          refine wp_nil ?_
          walk_at "nz"
          refine wp_seq ?_
          refine wp_exprE (eve_call (ea_cons (ev_var rfl) ea_nil) ⟨l, hl0, rfl, rfl⟩) (fun dv hd => ?_) (fun c hc => ?_)
          · skip
            walk_at "nz"
            have ht : tooB l = false := by
              cases q : tooB l with
              | false => rfl
              | true => rw [q] at hd; cases hd
            have lz : (best.zip (rooms l)).length ≤ 1000000 := by rw [List.length_zip, rooms_len]; omega
            walk_at "nz"
            refine wp_set (i := 3) (d := lN (zmax best (rooms l))) ?_ ?_
            · skip
              exact Ev.to (EvN.da (evn_lc0 (vs := [6, 7]) (xs := best.zip (rooms l)) (ei_zipMM (f := fun k : Nat => PyData.int (k : Int)) (g := fun k : Nat => PyData.int (k : Int)) (ev_var rfl) (ev_op (ev_call (ea_cons (ev_var rfl) ea_nil) ⟨l, hl0, rfl, rfl⟩) ev_int (rv_ixT rfl))) lz (fun p : Nat × Nat => PyData.int (max (p.1 : Int) (p.2 : Int))) _ (fun x hx => ⟨eg_tup (egs_cons eg_name (egs_cons eg_name egs_nil)) rfl, ev_cb (ea_cons (ev_var rfl) (ea_cons (ev_var rfl) ea_nil)) rc_max2⟩))) (zmax_D best (rooms l))
            walk_at "nz"
            exact ⟨zmax best (rooms l), l, _, _, _, zmax_len hbl (rooms_len l), hl0, by rw [← hgo, efu, bg_go el ht], rfl⟩
          · skip
            walk_at "nz"
            have ht : tooB l = true := by
              cases q : tooB l with
              | true => rfl
              | false => rw [q] at hc; cases hc
            rw [ht] at hc
            cases hc
            show bestE K ps n (nD m) = _
            rw [bestE_on hm, ← hgo, efu, bg_big el ht]; rfl
      · obtain ⟨best, c0, s6, s7, s8, hbl, hc0, hgo, rfl⟩ := hI
        walk_at "nz"
        have e : (rngD 0 (m : Int).toNat).length = m := by first | (simp [rngD]; done) | (simp [rngD]; omega)
        rw [e, Nat.sub_self] at hgo
        refine wp_ret (ev_cb (ea_cons (ev_var rfl) ea_nil) rc_tupL) ?_
        walk_at "nz"
        show bestE K ps n (nD m) = _
        rw [bestE_on hm, ← hgo]; rfl
    · skip
      walk_at "nz"
      obtain ⟨hb, rfl⟩ := count_xc hc
      show bestE K ps n f = _
      exact bestE_not hb
  · skip
    walk_at "nz"
    show lookE K _ _ _ = .error c
    exact look_xc hc
abbrev s_ring : Stmt := topS 30
abbrev N_ring : List Str := ["program", "number", "most", "seen", "here", "place", "later"]
theorem sc_ring : FnScope N_ring ["program", "number", "most"] (defScope s_ring) := ⟨rfl, rfl, rfl, by decide +kernel, rfl, by decide +kernel, by decide +kernel⟩
theorem ok_ring (D : Df K mg "ring" s_ring ["program", "number", "most"]) (T : Tx K mg) (G_led : Ck P w K mg base "led" 2 ["program", "number"] (spD K (Pr_led K))) (G_look : Ck P w K mg base "look" 6 ["program", "number"] (spD K (Pr_look K))) (G_need_count : Ck P w K mg base "need_count" 2 ["thing", "low", "high"] (spD K (Pr_need_count K))) (G_need_room : Ck P w K mg base "need_room" 2 ["number"] (spD K (Pr_need_room K))) : Ck P w K mg base "ring" 7 ["program", "number", "most"] (spD K (Pr_ring K)) := by
  refine ck_mk (k := 6) D sc_ring (fun ds r hp => ?_) fun f cdv A outer s H E ds r hr hp => ?_
  · obtain ⟨d, e, f, rfl, rfl⟩ := hp
    rfl
  refine ⟨_, (pss_cons (ps_expr (pe_callC G_look hr (L2N.passes_call (L2N.takes_of rfl rfl rfl rfl) fun _ _ _ _ h => h) (pa_cons (pv 0) (pa_cons (pv 1) pa_nil))))
      (pss_cons (ps_expr (pe_callC G_need_count (hr.mono (by decide)) (L2N.passes_call (L2N.takes_of rfl rfl rfl rfl) fun _ _ _ _ h => h) (pa_cons (pv 2) (pa_cons pe_int (pa_cons (pe_globI T.MOST_LOOKED) pa_nil)))))
      (pss_cons (ps_par (i := 3) (j := 4) (by rfl) sc_ring.nd rfl rfl (by decide) rfl rfl (pa_cons pe_dnewK (pa_cons (pv 1) pa_nil)) (by rfl))
      (pss_cons (ps_for (passes_of rfl) rfl (pi_range1 (by rfl) T.n_range (pa_cons (pe_op op_add (pv 2) pe_int) pa_nil)) (pg_name (i := 5) sc_ring.nd rfl (.inl rfl))
      (pss_cons (ps_if (pt_cmp (pc_din (Nat.lt_of_le_of_lt (Nat.add_le_add_left (by decide : 1 ≤ 64) _) hr.units) (pv 4) (pv 3)))
      (pss_one (ps_ret (pe_tup (pa_cons (pe_dget (Nat.lt_of_le_of_lt (Nat.add_le_add_left (by decide : 1 ≤ 64) _) hr.units) (pv 3) (pv 4) (fun _ _ => rfl)) (pa_cons (pv 5) pa_nil)))))
      pss_nil)
      (pss_cons (ps_dput (Nat.lt_of_le_of_lt (Nat.add_le_add_left (by decide : 1 ≤ 64) _) hr.units) (pv 3) (pv 4) (pv 5) (by rfl))
      (pss_cons (ps_set (i := 6) sc_ring.nd rfl (.inl rfl) (pe_callC G_led (hr.mono (by decide)) (L2N.passes_call (L2N.takes_of rfl rfl rfl rfl) fun _ _ _ _ h => h) (pa_cons (pv 0) (pa_cons (pv 4) pa_nil))))
      (pss_cons (ps_if (pt_cmpR op_isN (pv 6) pe_non (nomark _))
      (pss_one (ps_ret pe_non))
      pss_nil)
      (pss_cons (ps_if (pt_cmpR op_lt (pv 5) (pv 2) (nomark _))
      (pss_one (ps_expr (pe_callC G_need_room (hr.mono (by decide)) (L2N.passes_call (L2N.takes_of rfl rfl rfl rfl) fun _ _ _ _ h => h) (pa_cons (pv 6) pa_nil))))
      pss_nil)
      (pss_one (ps_set (i := 4) sc_ring.nd rfl (.inl rfl) (pv 6)))))))))
      (pss_one (ps_ret pe_non)))))), ?_⟩
  obtain ⟨d, e, f, rfl, rfl⟩ := hp
  show Wp K E _ [.va (d), .va (e), .va (f), .no, .no, .no, .no] _
  refine wp_seq ?_
  refine wp_exprE (eve_call (ea_cons (ev_var rfl) (ea_cons (ev_var rfl) ea_nil)) ⟨d, e, rfl, rfl⟩) (fun dv hd => ?_) (fun c hc => ?_)
  · skip
    walk_at "nz"
    obtain ⟨ps, n, rfl, rfl, hps, hn⟩ := look_ok hd
    rw [lookE_ok hps hn]
    have sm := hps.small
    walk_at "nz"
    refine wp_seq ?_
    refine wp_exprE (eve_call (ea_cons (ev_var rfl) (ea_cons ev_int (ea_cons ev_int ea_nil))) ⟨f, 0, 500, rfl, rfl⟩) (fun dv hd => ?_) (fun c hc => ?_)
    · skip
      walk_at "nz"
      obtain ⟨m, rfl, hm, hcm⟩ := count_ok hd
      have hm : m ≤ 500 := by omega
      walk_at "nz"
      refine wp_seq ?_
      refine wp_parDV (i := 3) (j := 4) (ev_var rfl) (by decide) ?_
      walk_at "nz"
      refine wp_seq ?_
      refine wp_for (vs := [5]) (ei_rng1 (ev_op (ev_var rfl) ev_int (rv_I0 fun _ => .int _)) (by walk_at "sd") (by walk_at "sd")) (fun i ρ1 => ∃ (xs : List Nat) (c0 : Nat) (s5 s6 : Sl), 0 < c0 ∧ xs.length = i ∧ ringGo ps m (m + 1 - i) xs c0 = ringGo ps m (m + 1) [] n ∧ ρ1 = [.va (lP ps), .va (nD n), .va (nD m), .dic (seenD xs), .va (nD c0), s5, s6]) (⟨[], n, _, _, hn.1, rfl, rfl, rfl⟩) (fun i d ρ1 hd hI => ?_) (fun ρ1 hI => ?_)
      · obtain ⟨xs, c0, s5, s6, hc0, hxl, hgo, rfl⟩ := hI
        obtain ⟨hi, rfl⟩ := rng_item hd
        have hi : i < m + 1 := by omega
        have efu : m + 1 - i = (m - i) + 1 := by omega
        have hsz : (seenD xs).length ≤ 1000000 := by unfold seenD; rw [List.length_map, List.length_zipIdx]; omega
        rw [Int.zero_add]
        refine ⟨_, eg_name, ?_⟩
        walk_at "nz"
        refine wp_seq ?_
        refine wp_if (b := decide (c0 ∈ xs)) ?_ (fun h4 => ?_) (fun h4 => ?_)
        · skip
          exact EvT.to (et_test (ev_din rfl (ev_var rfl))) (seen_is xs c0)
        · skip
          have hin := of_decide_eq_true h4
          have hix := seen_in hin
          refine wp_ret (ev_tup (ea_cons (ev_dget rfl (ev_var rfl) (by walk_at "ix")) (ea_cons (ev_var rfl) ea_nil)) (Nat.le_of_ble_eq_true rfl)) ?_
          walk_at "nz"
          show ringE K ps n (nD m) = _
          rw [ringE_on hm, ← hgo, efu, rg_in hin, hxl]; rfl
        · skip
          have hnot := of_decide_eq_false h4
          refine wp_nil ?_
          walk_at "nz"
          refine wp_seq ?_
          refine wp_dput (i := 3) rfl (ev_var rfl) (ev_var rfl) (by walk_at "sz") ?_
          walk_at "nz"
          rw [putD_new (seen_out hnot)]
          refine wp_seq ?_
          refine wp_set (i := 6) (ev_call (ea_cons (ev_var rfl) (ea_cons (ev_var rfl) ea_nil)) ⟨ps, c0, sm, rfl, rfl⟩) ?_
          walk_at "nz"
          refine wp_seq ?_
          refine wp_if (et_test (ev_op (ev_var rfl) ev_non rv_isN)) (fun h8 => ?_) (fun h8 => ?_)
          · skip
            have el : ledF ps c0 = none := by
              cases q : ledF ps c0 with
              | none => rfl
              | some l => rw [q] at h8; cases h8
            refine wp_ret ev_non ?_
            walk_at "nz"
            show ringE K ps n (nD m) = _
            rw [ringE_on hm, ← hgo, efu, rg_end hnot el]; rfl
          · skip
            obtain ⟨l, el⟩ : ∃ l, ledF ps c0 = some l := by
              cases q : ledF ps c0 with
              | none => rw [q] at h8; cases h8
              | some l => exact ⟨l, rfl⟩
            have hl0 := led_posS sm hc0 el
            rw [el]
            refine wp_nil ?_
            walk_at "nz"
            refine wp_seq ?_
            refine wp_if (et_test (ev_op (ev_var rfl) (ev_var rfl) (rv_I0 fun _ => .bl _))) (fun h10 => ?_) (fun h10 => ?_)
            · skip
              refine wp_exprE (eve_call (ea_cons (ev_var rfl) ea_nil) ⟨l, hl0, rfl, rfl⟩) (fun dv hd => ?_) (fun c hc => ?_)
              · skip
                walk_at "nz"
                have ht : tooB l = false := by
                  cases q : tooB l with
                  | false => rfl
                  | true => rw [q] at hd; cases hd
                have hlast : ¬ (xs.length < m ∧ tooB l = true) := fun z => by rw [ht] at z; exact absurd z.2 Bool.false_ne_true
                walk_at "nz"
                refine wp_set (i := 4) (ev_var rfl) ?_
                walk_at "nz"
                have hgo2 : ringGo ps m (m + 1 - (i + 1)) (xs ++ [c0]) l = ringGo ps m (m + 1) [] n := by
                  have hq : ¬ (xs.length < m ∧ tooB l = true) := hlast
                  rw [← hgo, efu, rg_go hnot el hq]
                  congr 1
                  omega
                exact ⟨xs ++ [c0], l, .va (.int (i : Int)), .va (oN (some l)), hl0, by simp [hxl], hgo2, by rw [seenD_snoc, hxl]; rfl⟩
              · skip
                walk_at "nz"
                have ht : tooB l = true := by
                  cases q : tooB l with
                  | true => rfl
                  | false => rw [q] at hc; cases hc
                rw [ht] at hc
                cases hc
                have hlt : xs.length < m := by have := of_decide_eq_true h10; omega
                show ringE K ps n (nD m) = _
                rw [ringE_on hm, ← hgo, efu, rg_big hnot el hlt ht]; rfl
            · skip
              have hlast : ¬ (xs.length < m ∧ tooB l = true) := fun z => by
                have := of_decide_eq_false h10
                have := z.1
                omega
              refine wp_nil ?_
              walk_at "nz"
              refine wp_set (i := 4) (ev_var rfl) ?_
              walk_at "nz"
              have hgo2 : ringGo ps m (m + 1 - (i + 1)) (xs ++ [c0]) l = ringGo ps m (m + 1) [] n := by
                have hq : ¬ (xs.length < m ∧ tooB l = true) := hlast
                rw [← hgo, efu, rg_go hnot el hq]
                congr 1
                omega
              exact ⟨xs ++ [c0], l, .va (.int (i : Int)), .va (oN (some l)), hl0, by simp [hxl], hgo2, by rw [seenD_snoc, hxl]; rfl⟩
      · obtain ⟨xs, c0, s5, s6, hc0, hxl, hgo, rfl⟩ := hI
        walk_at "nz"
        have e : (rngD 0 ((m : Int) + 1).toNat).length = m + 1 := by first | (simp [rngD]; done) | (simp [rngD]; omega)
        rw [e, Nat.sub_self] at hgo
        refine wp_ret ev_non ?_
        walk_at "nz"
        show ringE K ps n (nD m) = _
        rw [ringE_on hm, ← hgo]; rfl
    · skip
      walk_at "nz"
      obtain ⟨hb, rfl⟩ := count_xc hc
      show ringE K ps n f = _
      exact ringE_not hb
  · skip
    walk_at "nz"
    show lookE K _ _ _ = .error c
    exact look_xc hc
abbrev s_law : Stmt := topS 51
abbrev N_law : List Str := ["_law_script", "_law_k", "_law_more", "_law_j", "_law_here", "_law_program_here", "_law_number", "_law_most", "_law_row", "_law_one", "_law_rooms_here", "_law_room", "_law_own", "_law_due", "_law_order_here", "_law_gone", "_law_used", "_law_top", "_law_under", "_law_wide"]
theorem sc_law : FnScope N_law ["_law_script"] (defScope s_law) := ⟨rfl, rfl, rfl, by decide +kernel, rfl, by decide +kernel, by decide +kernel⟩
theorem ok_law (T : Tx K mg) (G__law_cell : Ck P w K mg base "_law_cell" 1 ["_law_script", "_law_k"] (spX K (Pr__law_cell K))) (G__law_drawn : Ck P w K mg base "_law_drawn" 1 ["_law_cell_here", "_law_k"] (spD K (Pr__law_drawn K))) (G__law_order : Ck P w K mg base "_law_order" 2 ["_law_more"] (spP K (Pr__law_order K))) (G__law_program : Ck P w K mg base "_law_program" 4 ["_law_more", "_law_primes_here"] (spD K (Pr__law_program K))) (G__law_ring_due : Ck P w K mg base "_law_ring_due" 1 ["_law_row"] (spD K (Pr__law_ring_due K))) (G__law_rooms : Ck P w K mg base "_law_rooms" 2 ["_law_number"] (spD K (Pr__law_rooms K))) (G__law_round : Ck P w K mg base "_law_round" 5 ["_law_more"] (spD K (Pr__law_round K))) (G__law_run : Ck P w K mg base "_law_run" 3 ["_law_program_here", "_law_number", "_law_most"] (spD K (Pr__law_run K))) (G__law_some : Ck P w K mg base "_law_some" 2 ["_law_more", "_law_primes_here", "_law_most"] (spD K (Pr__law_some K))) (G_greatest_rooms : Ck P w K mg base "greatest_rooms" 7 ["program", "number", "most"] (spD K (Pr_greatest_rooms K))) (G_moved : Ck P w K mg base "moved" 4 ["number", "order"] (spD K (Pr_moved K))) (G_ring : Ck P w K mg base "ring" 7 ["program", "number", "most"] (spD K (Pr_ring K))) (G_used_rooms : Ck P w K mg base "used_rooms" 6 ["program"] (spD K (Pr_used_rooms K))) (D__law_told : Df K mg "_law_told" s__law_told ["_law_deed"]) (G__law_word : Cw P w K mg base "_law_word" 1 wl fun x => x) (LM : Lm K mg base "law") {fd : FuncData} (F : Fun K "law" "law" s_law (He.ga K "law") fd) : FnOk P w K mg base (L2N.CX P w) 10 (He.ga K "law") fd ["_law_script"] (spX K (Pr_law K)) := by
  refine fn_mkXC (k := 9) F sc_law (fun ns ds r hp => ?_) fun A outer s H E ns ds r hr hp => ?_
  · obtain ⟨hlen, rfl, rfl⟩ := hp
    rfl
  refine ⟨_, (pss_cons (ps_for (passes_of rfl) rfl (pi_range1 (by rfl) T.n_range (pa_cons (pe_callB (call_max2 rfl) (by rfl) T.n_max bt_max (pa_cons pe_int (pa_cons (pe_callB (call_min2 rfl) (by rfl) T.n_min bt_min (pa_cons pe_int (pa_cons (pe_callB (call_lenK (K := K) rfl) (by rfl) T.n_len bt_len (pa_cons (pv 0) pa_nil)) pa_nil))) pa_nil))) pa_nil)) (pg_name (i := 1) sc_law.nd rfl (.inl rfl))
      (pss_cons (ps_set (i := 2) sc_law.nd rfl (.inl rfl) (pe_callC G__law_drawn (hr.mono (by decide)) (L2N.passes_call (L2N.takes_of rfl rfl rfl rfl) fun _ _ _ _ h => h) (pa_cons (pe_callC G__law_cell (hr.mono (by decide)) (L2N.passes_call (L2N.takes_of rfl rfl rfl rfl) fun _ _ _ _ h => h) (pa_cons (pv 0) (pa_cons (pv 1) pa_nil))) (pa_cons (pv 1) pa_nil))))
      (pss_one (ps_for (passes_of rfl) rfl (pi_range1 (by rfl) T.n_range (pa_cons pe_int pa_nil)) (pg_name (i := 3) sc_law.nd rfl (.inl rfl))
      (pss_cons (ps_set (i := 4) sc_law.nd rfl (.inl rfl) (pe_callC G__law_drawn (hr.mono (by decide)) (L2N.passes_call (L2N.takes_of rfl rfl rfl rfl) fun _ _ _ _ h => h) (pa_cons (pv 2) (pa_cons (pe_op op_add pe_int (pv 3)) pa_nil))))
      (pss_cons (ps_set (i := 5) sc_law.nd rfl (.inr rfl) (pe_ifExp (pt_cmpR op_eq (pe_op op_mod (pv 4) pe_int) pe_int (nomark _)) (pe_callC G__law_round (hr.mono (by decide)) (L2N.passes_call (L2N.takes_of rfl rfl rfl rfl) fun _ _ _ _ h => h) (pa_cons (pv 4) pa_nil)) (pe_callC G__law_program (hr.mono (by decide)) (L2N.passes_call (L2N.takes_of rfl rfl rfl rfl) fun _ _ _ _ h => h) (pa_cons (pe_op op_fdivW (pv 4) pe_int) (pa_cons (pe_op op_add pe_int (pe_op op_mod (pe_op op_fdivW (pv 4) (pe_op op_pow pe_int pe_int)) pe_int)) pa_nil)))))
      (pss_cons (ps_asg (pe_tup (pa_cons (pe_callC G__law_some (hr.mono (by decide)) (L2N.passes_call (L2N.takes_of rfl rfl rfl rfl) fun _ _ _ _ h => h) (pa_cons (pe_op op_fdivW (pv 4) pe_int) (pa_cons pe_int (pa_cons pe_int pa_nil)))) (pa_cons (pe_op op_mod (pe_op op_fdivW (pv 4) (pe_op op_pow pe_int pe_int)) pe_int) pa_nil))) (pg_tupK (K := K) (n := 2) rfl rfl (pgs_cons (pg_name (i := 6) sc_law.nd rfl (.inr rfl)) (pgs_cons (pg_name (i := 7) sc_law.nd rfl (.inr rfl)) pgs_nil))))
      (pss_cons (ps_set (i := 8) sc_law.nd rfl (.inl rfl) (pe_ix (ix_tupK (K := K) rfl) (pe_callC G__law_run (hr.mono (by decide)) (L2N.passes_call (L2N.takes_of rfl rfl rfl rfl) fun _ _ _ _ h => h) (pa_cons (pv 5) (pa_cons (pv 6) (pa_cons (pv 7) pa_nil)))) pe_int (fun _ _ => rfl)))
      (pss_cons (ps_if (pt_cmpR op_isN (pv 8) pe_non (nomark _))
      (pss_one ps_continue)
      pss_nil)
      (pss_cons (ps_if (pt_cmpR (op_neDK (K := K) rfl hr.units) (pe_told (k := 7) D__law_told rfl sc__law_told rfl rfl rfl rfl G__law_word (by decide) T.RowError.gl T.W.ex LM.tb rfl LM.me LM.un hr (lamS_by rfl) (fun A outer s H E f c1 hr => (pe_callC G_ring hr (L2N.passes_call (L2N.takes_of rfl rfl rfl rfl) fun _ _ _ _ h => h) (pa_cons (pv 5) (pa_cons (pv 6) (pa_cons (pv 7) pa_nil)))))) (pe_callC G__law_ring_due (hr.mono (by decide)) (L2N.passes_call (L2N.takes_of rfl rfl rfl rfl) fun _ _ _ _ h => h) (pa_cons (pv 8) pa_nil)) (nomark _))
      (pss_one (ps_ret pe_bl))
      pss_nil)
      (pss_cons (ps_set (i := 10) sc_law.nd rfl (.inr rfl) (pe_lc (own := [("_law_one", 9)]) rfl sc_law.nd (pi_listK (K := K) rfl (pv 8)) (blkOk_by (own := [("_law_one", 9)]) (N := N_law) (sc := defScope s_law) (by decide +kernel)) (fun _ _ _ _ _ => (pg_name (i := 9) sc_law.nd rfl (by first | exact .inl rfl | exact .inr rfl))) (fun _ _ _ _ _ => pts_nil) (fun _ _ _ _ _ => (pe_callC G__law_rooms (hr.mono (by decide)) passLN (pa_cons (pv 9) pa_nil)))))
      (pss_cons (ps_set (i := 13) sc_law.nd rfl (.inr rfl) (pe_callTy (call_tupK (K := K) rfl) (by rfl) T.n_tuple bt_tuple (pa_cons (pe_lc (own := [("_law_room", 11)]) rfl sc_law.nd (pi_range1 (by rfl) T.n_range (pa_cons pe_int pa_nil)) (blkOk_by (own := [("_law_room", 11)]) (N := N_law) (sc := defScope s_law) (by decide +kernel)) (fun _ _ _ _ _ => (pg_name (i := 11) sc_law.nd rfl (by first | exact .inl rfl | exact .inr rfl))) (fun _ _ _ _ _ => pts_nil) (fun _ _ _ _ _ => (pe_callB (cr_maxK (K := K) rfl rfl) (by rfl) T.n_max bt_max (pa_cons (pe_lc (own := [("_law_own", 12)]) rfl sc_law.nd (pi_listK (K := K) rfl (pv 10)) (by dsimp only [Cx.blk, compEnvC]; exact blkOk_by (own := [("_law_own", 12)]) (N := N_law) (by kernel_rfl)) (fun _ _ _ _ _ => (pg_name (i := 12) sc_law.nd rfl (by first | exact .inl rfl | exact .inr rfl))) (fun _ _ _ _ _ => pts_nil) (fun _ _ _ _ _ => (pe_ix (ix_listK (K := K) rfl) (pv 12) (pv 11) (fun _ _ => rfl)))) pa_nil)))) pa_nil)))
      (pss_cons (ps_if (pt_cmpR (op_neDK (K := K) rfl hr.units) (pe_told (k := 7) D__law_told rfl sc__law_told rfl rfl rfl rfl G__law_word (by decide) T.RowError.gl T.W.ex LM.tb rfl LM.me LM.un hr (lamS_by rfl) (fun A outer s H E f c1 hr => (pe_callC G_greatest_rooms hr (L2N.passes_call (L2N.takes_of rfl rfl rfl rfl) fun _ _ _ _ h => h) (pa_cons (pv 5) (pa_cons (pv 6) (pa_cons (pv 7) pa_nil)))))) (pv 13) (nomark _))
      (pss_one (ps_ret pe_bl))
      pss_nil)
      (pss_cons (ps_set (i := 14) sc_law.nd rfl (.inr rfl) (pe_callC G__law_order (hr.mono (by decide)) (L2N.passes_call (L2N.takes_of rfl rfl rfl rfl) fun _ _ _ _ h => h) (pa_cons (pv 4) pa_nil)))
      (pss_cons (ps_set (i := 15) sc_law.nd rfl (.inr rfl) (pe_callC G_moved (hr.mono (by decide)) (L2N.passes_call (L2N.takes_of rfl rfl rfl rfl) fun _ _ _ _ h => h) (pa_cons (pv 6) (pa_cons (pv 14) pa_nil))))
      (pss_cons (ps_if (pt_cmpR (op_neDK (K := K) rfl hr.units) (pe_lc (own := [("_law_room", 11)]) rfl sc_law.nd (pi_range1 (by rfl) T.n_range (pa_cons pe_int pa_nil)) (blkOk_by (own := [("_law_room", 11)]) (N := N_law) (sc := defScope s_law) (by decide +kernel)) (fun _ _ _ _ _ => (pg_name (i := 11) sc_law.nd rfl (by first | exact .inl rfl | exact .inr rfl))) (fun _ _ _ _ _ => pts_nil) (fun _ _ _ _ _ => (pe_ix (ix_listK (K := K) rfl) (pe_callC G__law_rooms (hr.mono (by decide)) passLN (pa_cons (pv 15) pa_nil)) (pe_ix (ix_tupK (K := K) rfl) (pv 14) (pv 11) (fun _ _ => rfl)) (fun _ _ => rfl)))) (pe_callC G__law_rooms (hr.mono (by decide)) (L2N.passes_call (L2N.takes_of rfl rfl rfl rfl) fun _ _ _ _ h => h) (pa_cons (pv 6) pa_nil)) (nomark _))
      (pss_one (ps_ret pe_bl))
      pss_nil)
      (pss_cons (ps_if (pt_cmpR op_ne (pe_callC G_moved (hr.mono (by decide)) (L2N.passes_call (L2N.takes_of rfl rfl rfl rfl) fun _ _ _ _ h => h) (pa_cons (pv 15) (pa_cons (pe_callTy (call_tupK (K := K) rfl) (by rfl) T.n_tuple bt_tuple (pa_cons (pe_lc (own := [("_law_room", 11)]) rfl sc_law.nd (pi_range1 (by rfl) T.n_range (pa_cons pe_int pa_nil)) (blkOk_by (own := [("_law_room", 11)]) (N := N_law) (sc := defScope s_law) (by decide +kernel)) (fun _ _ _ _ _ => (pg_name (i := 11) sc_law.nd rfl (by first | exact .inl rfl | exact .inr rfl))) (fun _ _ _ _ _ => pts_nil) (fun _ _ _ _ _ => (pe_bmP PySem.F.plainAttrs_tuple PySem.F.slot_tuple_index PySem.F.type_tuple_index (mt_tupIK (K := K) rfl) (pv 14) (pa_cons (pv 11) pa_nil)))) pa_nil)) pa_nil))) (pv 6) (nomark _))
      (pss_one (ps_ret pe_bl))
      pss_nil)
      (pss_cons (ps_setLc (i := 16) (own := [("_law_room", 11)]) rfl sc_law.nd rfl rfl (sw_true rfl rfl rfl (by decide +kernel)) (pi_range1 (by rfl) T.n_range (pa_cons pe_int pa_nil)) (blkOk_by (own := [("_law_room", 11)]) (N := N_law) (sc := defScope s_law) (by decide +kernel)) (fun _ _ _ _ _ => (pg_name (i := 11) sc_law.nd rfl (by first | exact .inl rfl | exact .inr rfl))) (fun _ _ _ _ _ => pts_one (pt_cmpR (op_neDK (K := K) rfl hr.units) (pe_lc (own := [("_law_one", 9)]) rfl sc_law.nd (pi_listK (K := K) rfl (pv 5)) (by dsimp only [Cx.blk, compEnvC]; exact blkOk_by (own := [("_law_one", 9)]) (N := N_law) (by kernel_rfl)) (fun _ _ _ _ _ => (pg_name (i := 9) sc_law.nd rfl (by first | exact .inl rfl | exact .inr rfl))) (fun _ _ _ _ _ => pts_one (pt_cmpR op_gt (pe_ix (ix_listK (K := K) rfl) (pe_callC G__law_rooms (hr.mono (by decide)) passLN (pa_cons (pe_op op_mulA (pe_ix (ix_tupK (K := K) rfl) (pv 9) pe_int (fun _ _ => rfl)) (pe_ix (ix_tupK (K := K) rfl) (pv 9) pe_int (fun _ _ => rfl))) pa_nil)) (pv 11) (fun _ _ => rfl)) pe_int (nomark _))) (fun _ _ _ _ _ => pe_int)) (pe_lst pa_nil) (nomark _))) (fun _ _ _ _ _ => (pv 11)))
      (pss_cons (ps_if (pt_cmpR (op_neDK (K := K) rfl hr.units) (pe_callC G_used_rooms (hr.mono (by decide)) (L2N.passes_call (L2N.takes_of rfl rfl rfl rfl) fun _ _ _ _ h => h) (pa_cons (pv 5) pa_nil)) (pv 16) (nomark _))
      (pss_one (ps_ret pe_bl))
      pss_nil)
      (pss_cons (ps_set (i := 13) sc_law.nd rfl (.inr rfl) (pe_callTy (call_tupK (K := K) rfl) (by rfl) T.n_tuple bt_tuple (pa_cons (pe_lc (own := [("_law_room", 11)]) rfl sc_law.nd (pi_range1 (by rfl) T.n_range (pa_cons pe_int pa_nil)) (blkOk_by (own := [("_law_room", 11)]) (N := N_law) (sc := defScope s_law) (by decide +kernel)) (fun _ _ _ _ _ => (pg_name (i := 11) sc_law.nd rfl (by first | exact .inl rfl | exact .inr rfl))) (fun _ _ _ _ _ => pts_nil) (fun _ _ _ _ _ => (pe_ix (ix_tupK (K := K) rfl) (pv 13) (pe_bmP PySem.F.plainAttrs_tuple PySem.F.slot_tuple_index PySem.F.type_tuple_index (mt_tupIK (K := K) rfl) (pv 14) (pa_cons (pv 11) pa_nil)) (fun _ _ => rfl)))) pa_nil)))
      (pss_cons (ps_setLc (i := 19) (own := [("_law_top", 17), ("_law_under", 18)]) rfl sc_law.nd rfl rfl (sw_true rfl rfl rfl (by decide +kernel)) (pi_listK (K := K) rfl (pv 5)) (blkOk_by (own := [("_law_top", 17), ("_law_under", 18)]) (N := N_law) (sc := defScope s_law) (by decide +kernel)) (fun _ _ _ _ _ => (pg_tupK (K := K) (n := 2) rfl rfl (pgs_cons (pg_name (i := 17) sc_law.nd rfl (by first | exact .inl rfl | exact .inr rfl)) (pgs_cons (pg_name (i := 18) sc_law.nd rfl (by first | exact .inl rfl | exact .inr rfl)) pgs_nil)))) (fun _ _ _ _ _ => pts_nil) (fun _ _ _ _ _ => (pe_tup (pa_cons (pe_callC G_moved (hr.mono (by decide)) passLN (pa_cons (pv 17) (pa_cons (pv 14) pa_nil))) (pa_cons (pe_callC G_moved (hr.mono (by decide)) passLN (pa_cons (pv 18) (pa_cons (pv 14) pa_nil))) pa_nil)))))
      (pss_one (ps_if (PW.pt (pw_and (pt_cmpR op_lt (pe_callB (cr_maxK (K := K) rfl rfl) (by rfl) T.n_max bt_max (pa_cons (pe_op op_cat (pe_lc (own := [("_law_one", 9)]) rfl sc_law.nd (pi_listK (K := K) rfl (pv 19)) (blkOk_by (own := [("_law_one", 9)]) (N := N_law) (sc := defScope s_law) (by decide +kernel)) (fun _ _ _ _ _ => (pg_name (i := 9) sc_law.nd rfl (by first | exact .inl rfl | exact .inr rfl))) (fun _ _ _ _ _ => pts_nil) (fun _ _ _ _ _ => (pe_callB (cr_maxTK (K := K) rfl rfl) (by rfl) T.n_max bt_max (pa_cons (pv 9) pa_nil)))) (pe_lst (pa_cons pe_int pa_nil))) pa_nil)) pe_int (nomark _)) (pw_and1 (pt_cmpR (op_neDK (K := K) rfl hr.units) (pe_callC G_greatest_rooms (hr.mono (by decide)) (L2N.passes_call (L2N.takes_of rfl rfl rfl rfl) fun _ _ _ _ h => h) (pa_cons (pv 19) (pa_cons (pv 15) (pa_cons (pv 7) pa_nil)))) (pv 13) (nomark _)))))
      (pss_one (ps_ret pe_bl))
      pss_nil)))))))))))))))))))))))
      (pss_one (ps_ret pe_bl))), ?_⟩
  obtain ⟨hlen, rfl, rfl⟩ := hp
  show Wp K E _ [.scr ns, .no, .no, .no, .no, .no, .no, .no, .no, .no, .no, .no, .no, .no, .no, .no, .no, .no, .no, .no] _
  refine wp_seq ?_
  refine wp_for (vs := [1]) (ei_rng1 (ev_cb (ea_cons ev_int (ea_cons (ev_cb (ea_cons ev_int (ea_cons (ev_lenS rfl) ea_nil)) rc_min2) ea_nil)) rc_max2) (by walk_at "sd") (by walk_at "sd")) (fun i ρ1 => ∃ (s1 s2 s3 s4 s5 s6 s7 s8 s9 s10 s11 s12 s13 s14 s15 s16 s17 s18 s19 : Sl), ρ1 = [.scr ns, s1, s2, s3, s4, s5, s6, s7, s8, s9, s10, s11, s12, s13, s14, s15, s16, s17, s18, s19]) (⟨_, _, _, _, _, _, _, _, _, _, _, _, _, _, _, _, _, _, _, rfl⟩) (fun i d ρ1 hd hI => ?_) (fun ρ1 hI => ?_)
  · obtain ⟨s1, s2, s3, s4, s5, s6, s7, s8, s9, s10, s11, s12, s13, s14, s15, s16, s17, s18, s19, rfl⟩ := hI
    obtain ⟨hi, e⟩ := rng_item hd
    rw [Int.zero_add] at e
    subst e
    clear hd
    obtain ⟨k, rfl⟩ : ∃ k, k = i := ⟨i, rfl⟩
    refine ⟨_, eg_name, ?_⟩
    walk_at "nz"
    refine wp_seq ?_
    refine wp_set (i := 2) (ev_call (ea_cons (ev_callX rfl (ea_cons (ev_var rfl) ea_nil) ⟨k, by omega, rfl, rfl⟩) (ea_cons (ev_var rfl) ea_nil)) ⟨cellF ns k, (k : Int), rfl, rfl⟩) ?_
    walk_at "nz"
    generalize drawn (cellF ns k) (k : Int) = m
    refine wp_for (vs := [3]) (ei_rng1 ev_int (by walk_at "sd") (by walk_at "sd")) (fun i ρ1 => ∃ (s3 s4 s5 s6 s7 s8 s9 s10 s11 s12 s13 s14 s15 s16 s17 s18 s19 : Sl), ρ1 = [.scr ns, .va (nD k), .va (.int m), s3, s4, s5, s6, s7, s8, s9, s10, s11, s12, s13, s14, s15, s16, s17, s18, s19]) (⟨_, _, _, _, _, _, _, _, _, _, _, _, _, _, _, _, _, rfl⟩) (fun i d ρ1 hd hI => ?_) (fun ρ1 hI => ?_)
    · obtain ⟨s3, s4, s5, s6, s7, s8, s9, s10, s11, s12, s13, s14, s15, s16, s17, s18, s19, rfl⟩ := hI
      obtain ⟨hi, rfl⟩ := rng_item hd
      refine ⟨_, eg_name, ?_⟩
      walk_at "nz"
      refine wp_seq ?_
      refine wp_set (i := 4) (ev_call (ea_cons (ev_var rfl) (ea_cons (ev_op ev_int (ev_var rfl) (rv_I0 fun _ => .int _)) ea_nil)) ⟨m, 10 + (0 + (i : Int)), rfl, rfl⟩) ?_
      walk_at "nz"
      generalize drawn m (10 + (0 + (i : Int))) = h
      obtain ⟨q, hq⟩ : ∃ q : Nat, (q : Int) = 2 + h / (2 : Int) ^ (20 : Int).toNat % 3 := ⟨(2 + h / (2 : Int) ^ (20 : Int).toNat % 3).toNat, by omega⟩
      refine wp_seq ?_
      refine wp_set (i := 5) (d := lP (if h % 2 = 0 then roundF h else progF (h / 4) q)) ?_ ?_
      · skip
        exact Ev.to (ev_if (et_test (ev_op (ev_op (ev_var rfl) ev_int (rv_I (by walk_at "sd") fun _ => .int _)) ev_int rv_eqI)) (fun _ => (ev_call (ea_cons (ev_var rfl) ea_nil) ⟨h, rfl, rfl⟩)) (fun _ => (ev_call (ea_cons (ev_op (ev_var rfl) ev_int (rv_I (by walk_at "sd") fun _ => .int _)) (ea_cons (ev_op ev_int (ev_op (ev_op (ev_var rfl) (ev_op ev_int ev_int (rv_I (by walk_at "sd") fun _ => .int _)) (rv_I (by walk_at "sd") fun _ => .int _)) ev_int (rv_I (by walk_at "sd") fun _ => .int _)) (rv_I0 fun _ => .int _)) ea_nil)) ⟨h / 4, q, by omega, by omega, by show [PyData.int _, PyData.int _] = [PyData.int _, PyData.int _]; rw [hq], rfl⟩))) (by by_cases e : h % 2 = 0 <;> simp [e])
      walk_at "nz"
      have hps : IsProg (if h % 2 = 0 then roundF h else progF (h / 4) q) := by
        split
        · exact roundF_isProg h
        · exact progF_isProg (h / 4) (q := q) (by omega) (by omega)
      generalize (if h % 2 = 0 then roundF h else progF (h / 4) q) = ps at hps ⊢
      refine wp_seq ?_
      refine wp_asg (vs := [6, 7]) (ev_tup (ea_cons (ev_call (ea_cons (ev_op (ev_var rfl) ev_int (rv_I (by walk_at "sd") fun _ => .int _)) (ea_cons ev_int (ea_cons ev_int ea_nil))) ⟨h / 64, 4, 9, by decide, by decide, by decide, rfl, rfl⟩) (ea_cons (ev_op (ev_op (ev_var rfl) (ev_op ev_int ev_int (rv_I (by walk_at "sd") fun _ => .int _)) (rv_I (by walk_at "sd") fun _ => .int _)) ev_int (rv_I (by walk_at "sd") fun _ => .int _)) ea_nil)) (Nat.le_of_ble_eq_true rfl)) (eg_tup (egs_cons eg_name (egs_cons eg_name egs_nil)) rfl) ?_
      walk_at "nz"
      obtain ⟨t, ht⟩ : ∃ t : Nat, (t : Int) = h / (2 : Int) ^ (30 : Int).toNat % 41 := ⟨(h / (2 : Int) ^ (30 : Int).toNat % 41).toNat, by omega⟩
      rw [← ht]
      have hn := someF_isNum (h / 64) (q := 4) (by decide) (by decide) (t := 9) (by decide)
      generalize someF (h / 64) 4 9 = n at hn ⊢
      refine wp_seq ?_
      refine wp_set (i := 8) (ev_op (ev_call (ea_cons (ev_var rfl) (ea_cons (ev_var rfl) (ea_cons (ev_var rfl) ea_nil))) ⟨ps, n, t, hps, hn.1, by omega, rfl, rfl⟩) ev_int (rv_ixT (by walk_at "ix"))) ?_
      walk_at "nz"
      have hf1 : (lrunF ps n t).1 = runF ps n t := lrun_fst hps.cop t n [n] []
      rw [hf1]
      refine wp_seq ?_
      refine wp_if (et_test (ev_op (ev_var rfl) ev_non rv_isN)) (fun h7 => ?_) (fun h7 => ?_)
      · skip
        refine wp_cont ?_
        walk_at "nz"
        exact ⟨_, _, _, _, _, _, _, _, _, _, _, _, _, _, _, _, _, rfl⟩
      · skip
        obtain ⟨xs, hxs⟩ : ∃ xs, runF ps n t = some xs := by
          cases q : runF ps n t with
          | none => rw [q] at h7; cases h7
          | some xs => exact ⟨xs, rfl⟩
        have hrow := row_of hxs
        have hxl := hrow.len
        have hpl := hps.1
        have hpos : ∀ x ∈ xs, 0 < x := fun x hx => by
          obtain ⟨j, hj, rfl⟩ := List.mem_iff_getElem.mp hx
          have := (hrow.num hps hn hj).1
          rw [List.getD_eq_getElem?_getD, List.getElem?_eq_getElem hj] at this
          exact this
        rw [hxs]
        show Wp K E _ [.scr ns, .va (nD k), .va (.int m), .va (.int (0 + (i : Int))), .va (.int h), .va (lP ps), .va (nD n), .va (nD t), .va (lN xs), s9, s10, s11, s12, s13, s14, s15, s16, s17, s18, s19] _
        refine wp_nil ?_
        walk_at "nz"
        refine wp_seq ?_
        refine wp_if (b := false) ?_ (fun h9 => ?_) (fun h9 => ?_)
        · skip
          exact et_neS (ev_told (L := wl) (fun E => (eve_call (ea_cons (ev_var rfl) (ea_cons (ev_var rfl) (ea_cons (ev_var rfl) ea_nil))) ⟨_, _, nD t, rfl, rfl⟩)) (tell_ok (K := K) (L := wl) ((lookE_ok hps hn).trans (ring_row (by omega) hrow))).1 (tell_ok (K := K) (L := wl) ((lookE_ok hps hn).trans (ring_row (by omega) hrow))).2) (ev_call (ea_cons (ev_var rfl) ea_nil) ⟨xs, by omega, rfl, rfl⟩) (sh_oP _) rfl
        · skip
          exact nomatch h9
        · skip
          refine wp_nil ?_
          walk_at "nz"
          refine wp_seq ?_
          refine wp_set (i := 10) (EvN.da (evn_lc0 (vs := [9]) (ei_list (ev_var rfl)) (by walk_at "sz") _ _ (fun x hx => ⟨eg_name, (ev_call (ea_cons (ev_var rfl) ea_nil) ⟨x, hpos x hx, rfl, rfl⟩)⟩))) ?_
          walk_at "nz"
          refine wp_seq ?_
          refine wp_set (i := 13) (d := rmD (bestF xs)) ?_ ?_
          · skip
            exact Ev.to (ev_cb (ea_cons (EvN.da (evn_lc0 (vs := [11]) (xs := List.range 12) (enc := fun i : Nat => PyData.int (i : Int)) ei_rng12 (by decide) (fun z => PyData.int (maxI (xs.map fun x => (((rooms x).getD z 0 : Nat) : Int)))) _ (fun z hz => ⟨eg_name, ev_cb (ea_cons (EvN.da (evn_lc0 (vs := [12]) (xs := xs) (enc := fun x => lN (rooms x)) (ei_list (ev_var rfl)) (by omega) (fun x => PyData.int (((rooms x).getD z 0 : Nat) : Int)) _ (fun x hx => ⟨eg_name, ev_op (ev_var rfl) (ev_var rfl) (rv_ixLm (rooms_at x (List.mem_range.mp hz)))⟩))) ea_nil) (rc_maxM hxl.1)⟩))) ea_nil) rc_tupL) (due80 hxl.1)
          walk_at "nz"
          refine wp_seq ?_
          refine wp_if (b := false) ?_ (fun h13 => ?_) (fun h13 => ?_)
          · skip
            exact et_neS (ev_told (L := wl) (fun E => (eve_call (ea_cons (ev_var rfl) (ea_cons (ev_var rfl) (ea_cons (ev_var rfl) ea_nil))) ⟨_, _, nD t, rfl, rfl⟩)) (tell_ok (K := K) (L := wl) ((lookE_ok hps hn).trans (best_rowE (by omega) hrow))).1 (tell_ok (K := K) (L := wl) ((lookE_ok hps hn).trans (best_rowE (by omega) hrow))).2) (ev_var rfl) (sh_rm _) rfl
          · skip
            exact nomatch h13
          · skip
            refine wp_nil ?_
            walk_at "nz"
            refine wp_seq ?_
            refine wp_setP (i := 14) (evp_call (ea_cons (ev_var rfl) ea_nil) ⟨h, rfl, rfl⟩) ?_
            walk_at "nz"
            have ho := ordF_ok h
            generalize ordF h = o at ho ⊢
            have hgn := ex_isNum ho hn
            refine wp_seq ?_
            refine wp_set (i := 15) (ev_call (ea_cons (ev_var rfl) (ea_cons (ev_varPt rfl) ea_nil)) ⟨_, _, rfl, (movedE_ok hn ho).symm⟩) ?_
            walk_at "nz"
            refine wp_seq ?_
            refine wp_if (b := false) ?_ (fun h17 => ?_) (fun h17 => ?_)
            · skip
              exact et_neS (Ev.to (EvN.da (evn_lc0 (vs := [11]) (xs := List.range 12) (enc := fun i : Nat => PyData.int (i : Int)) ei_rng12 (by decide) (fun z => PyData.int (((rooms (exN o n)).getD (o.getD z 0) 0 : Nat) : Int)) _ (fun z hz => ⟨eg_name, ev_op (ev_call (ea_cons (ev_var rfl) ea_nil) ⟨exN o n, hgn.1, rfl, rfl⟩) (ev_op (ev_varPt rfl) (ev_var rfl) (rv_ixTm (ord_atI ho (List.mem_range.mp hz)))) (rv_ixLm (rooms_at _ (ord_lt ho (List.mem_range.mp hz))))⟩))) (there80 ho n)) (ev_call (ea_cons (ev_var rfl) ea_nil) ⟨n, hn.1, rfl, rfl⟩) (sh_lN _) rfl
            · skip
              exact nomatch h17
            · skip
              refine wp_nil ?_
              walk_at "nz"
              refine wp_seq ?_
              refine wp_if (b := false) ?_ (fun h19 => ?_) (fun h19 => ?_)
              · skip
                exact EvT.to (et_test (ev_op (ev_call (ea_cons (ev_var rfl) (ea_cons (Ev.to (ev_cb (ea_cons (EvN.da (evn_lc0 (vs := [11]) (xs := List.range 12) (enc := fun i : Nat => PyData.int (i : Int)) ei_rng12 (by decide) (fun z => PyData.int ((o.idxOf z : Nat) : Int)) _ (fun z hz => ⟨eg_name, ev_indexPtN rfl (ea_cons (ev_var rfl) ea_nil) (ord_mem ho (List.mem_range.mp hz))⟩))) ea_nil) rc_tupL) (inv80 o)) ea_nil)) ⟨_, _, rfl, (movedE_ok hgn (invO_ord ho)).symm⟩) (ev_var rfl) rv_neI)) (by rw [ex_back ho hn.smooth]; simp)
              · skip
                exact nomatch h19
              · skip
                refine wp_nil ?_
                walk_at "nz"
                refine wp_seq ?_
                refine wp_set (i := 16) (d := lN (usedF ps)) ?_ ?_
                · skip
                  exact Ev.to (EvN.da (evn_lc (vs := [11]) (xs := List.range 12) (enc := fun i : Nat => PyData.int (i : Int)) ei_rng12 (by decide) (fun z => ps.any fun p => decide (0 < (rooms (p.1 * p.2)).getD z 0)) (fun z => PyData.int (z : Int)) _ (fun z hz => ⟨eg_name,
                    EvT.to (et_test (ev_op (EvN.da (evn_lc (vs := [9]) (xs := ps) (enc := prD) (ei_list (ev_var rfl)) (by omega) (fun p => decide ((((rooms (p.1 * p.2)).getD z 0 : Nat) : Int) > 0)) (fun _ => PyData.int 1) _ (fun p hp => ⟨eg_name,
                      et_test (ev_op (ev_op (ev_call (ea_cons (Ev.to (x := nD (p.1 * p.2)) (ev_op (ev_op (ev_var rfl) ev_int (rv_ixT rfl)) (ev_op (ev_var rfl) ev_int (rv_ixT rfl)) (rv_I (cmul80 (hps.2 p hp)) fun _ => .int _)) (by show PyData.int _ = PyData.int _; rw [Int.natCast_mul])) ea_nil) ⟨p.1 * p.2, pos80 (hps.2 p hp), rfl, rfl⟩) (ev_var rfl) (rv_ixLm (rooms_at _ (List.mem_range.mp hz)))) ev_int (rv_I0 fun _ => .bl _)), fun _ => ev_int⟩))) (EvN.da (evn_lst ea_nil (Nat.le_of_ble_eq_true rfl))) (rv_neD (sh80 _) (by rfl)))) (used80 ps z _), fun _ => ev_var rfl⟩))) (used80D ps)
                walk_at "nz"
                refine wp_seq ?_
                refine wp_if (b := false) ?_ (fun h22 => ?_) (fun h22 => ?_)
                · skip
                  exact et_neS (ev_call (ea_cons (ev_var rfl) ea_nil) ⟨_, rfl, by rw [progE_ok hps]⟩) (ev_var rfl) (sh_lN _) rfl
                · skip
                  exact nomatch h22
                · skip
                  refine wp_nil ?_
                  walk_at "nz"
                  refine wp_seq ?_
                  refine wp_set (i := 13) (d := rmD (exB80 o (bestF xs))) ?_ ?_
                  · skip
                    exact Ev.to (ev_cb (ea_cons (EvN.da (evn_lc0 (vs := [11]) (xs := List.range 12) (enc := fun i : Nat => PyData.int (i : Int)) ei_rng12 (by decide) (fun z => PyData.int (((bestF xs).getD (o.idxOf z) 0 : Nat) : Int)) _ (fun z hz => ⟨eg_name, ev_op (ev_var rfl) (ev_indexPtN rfl (ea_cons (ev_var rfl) ea_nil) (ord_mem ho (List.mem_range.mp hz))) (rv_ixTm (best_at xs (idx_lt ho (List.mem_range.mp hz))))⟩))) ea_nil) rc_tupL) (due2_80 o (bestF xs))
                  walk_at "nz"
                  refine wp_seq ?_
                  refine wp_set (i := 19) (d := lP (exP o ps)) ?_ ?_
                  · skip
                    exact Ev.to (EvN.da (evn_lc0 (vs := [17, 18]) (ei_list (ev_var rfl)) (by walk_at "sz") _ _ (fun x hx => ⟨(eg_tup (egs_cons eg_name (egs_cons eg_name egs_nil)) rfl), (ev_tup (ea_cons (ev_call (ea_cons (ev_var rfl) (ea_cons (ev_varPt rfl) ea_nil)) ⟨_, _, rfl, (movedE_ok (hps.2 x hx).1 ho).symm⟩) (ea_cons (ev_call (ea_cons (ev_var rfl) (ea_cons (ev_varPt rfl) ea_nil)) ⟨_, _, rfl, (movedE_ok (hps.2 x hx).2.1 ho).symm⟩) ea_nil)) (Nat.le_of_ble_eq_true rfl))⟩))) (exP_D o ps)
                  walk_at "nz"
                  refine wp_if (b := false) ?_ (fun h26 => ?_) (fun h26 => ?_)
                  · skip
                    refine EvT.to (et_and (a := decide (maxI (((exP o ps).map fun p : Nat × Nat => maxI ([p.1, p.2].map fun k : Nat => (k : Int))) ++ [1]) < 1000001)) (b := false) (et_test (ev_op (ev_cb (ea_cons (Ev.to (EvN.da (evn_op (EvN.da (evn_lc0 (vs := [9]) (xs := exP o ps) (enc := prD) (ei_list (ev_var rfl)) (by rw [exP, List.length_map]; omega) (fun p => PyData.int (maxI ([p.1, p.2].map fun k : Nat => (k : Int)))) _ (fun p hp => ⟨eg_name, ev_cb (ea_cons (Ev.to (x := .tuple ([p.1, p.2].map fun k : Nat => PyData.int (k : Int))) (ev_var rfl) rfl) ea_nil) (rc_maxTM (Nat.succ_pos _))⟩))) (EvN.da (evn_lst (ea_cons ev_int ea_nil) (Nat.le_of_ble_eq_true rfl))) (rvn_cat (by rw [List.length_map, exP, List.length_map]; show ps.length + 1 ≤ 1000000; omega)))) (wide80D (exP o ps))) ea_nil) (rc_max (by simp))) ev_int (rv_I0 fun _ => .bl _))) fun hl => ?_) (by simp)
                    have hb := wide80 (exP o ps) (of_decide_eq_true hl)
                    exact et_neS (ev_call (ea_cons (ev_var rfl) (ea_cons (ev_var rfl) (ea_cons (ev_var rfl) ea_nil))) ⟨_, _, nD t, rfl, (best_moved ho hps hn (by omega) hrow hb).symm⟩) (ev_var rfl) (sh_rm _) rfl
                  · skip
                    exact nomatch h26
                  · skip
                    refine wp_nil ?_
                    walk_at "nz"
                    exact ⟨_, _, _, _, _, _, _, _, _, _, _, _, _, _, _, _, _, rfl⟩
    · obtain ⟨s3, s4, s5, s6, s7, s8, s9, s10, s11, s12, s13, s14, s15, s16, s17, s18, s19, rfl⟩ := hI
      walk_at "nz"
      exact ⟨_, _, _, _, _, _, _, _, _, _, _, _, _, _, _, _, _, _, _, rfl⟩
  · obtain ⟨s1, s2, s3, s4, s5, s6, s7, s8, s9, s10, s11, s12, s13, s14, s15, s16, s17, s18, s19, rfl⟩ := hI
    walk_at "nz"
    refine wp_ret ev_bl ?_
    walk_at "nz"
    first | done | rfl
end
def dd (x : Str) (st : Stmt) : He.DefD := ⟨(x, none), x, x, defArgs st, defBody st, defScope st, [], []⟩
def fnL : List He.DefD := [dd "_law_drawn" s__law_drawn, dd "_law_cell" s__law_cell, dd "_law_order" s__law_order, dd "parted" s_parted, dd "is_number" s_is_number, dd "need_number" s_need_number, dd "is_count" s_is_count, dd "need_order" s_need_order, dd "made" s_made, dd "moved_number" s_moved_number, dd "moved" s_moved, dd "_law_primes" s__law_primes, dd "_law_some" s__law_some, dd "_law_fraction" s__law_fraction, dd "_law_program" s__law_program, dd "_law_round" s__law_round, dd "_law_step" s__law_step, dd "_law_rooms" s__law_rooms, dd "_law_run" s__law_run, dd "_law_word" s__law_word, dd "_law_told" s__law_told, dd "_law_ring_due" s__law_ring_due, dd "common" s_common, dd "is_fraction" s_is_fraction, dd "is_program" s_is_program, dd "need_program" s_need_program, dd "used_rooms" s_used_rooms, dd "look" s_look, dd "need_count" s_need_count, dd "first_at" s_first_at, dd "led" s_led, dd "need_room" s_need_room, dd "greatest_rooms" s_greatest_rooms, dd "ring" s_ring, dd "law" s_law]
def faL : List He.Fa := [.glo "_law_drawn",
  .glo "_law_cell",
  .glo "_law_order",
  .glo "parted",
  .glo "is_number",
  .glo "need_number",
  .glo "is_count",
  .glo "need_order",
  .glo "made",
  .glo "moved_number",
  .glo "moved",
  .glo "_law_primes",
  .glo "_law_some",
  .glo "_law_fraction",
  .glo "_law_program",
  .glo "_law_round",
  .glo "_law_step",
  .glo "_law_rooms",
  .glo "_law_run",
  .glo "_law_word",
  .glo "_law_told",
  .glo "_law_ring_due",
  .glo "common",
  .glo "is_fraction",
  .glo "is_program",
  .glo "need_program",
  .glo "used_rooms",
  .glo "look",
  .glo "need_count",
  .glo "first_at",
  .glo "led",
  .glo "need_room",
  .glo "greatest_rooms",
  .glo "ring",
  .glo "law",
  .free "zip",
  .free "all",
  .free "enumerate",
  .free "range",
  .free "tuple",
  .free "sorted",
  .free "isinstance",
  .free "int",
  .free "bool",
  .free "len",
  .free "list",
  .free "max",
  .free "sum",
  .free "min",
  .free "set",
  .free "ValueError",
  .glo "PRIMES",
  .int "MOST_ROOM" 400,
  .int "MOST_FRACTIONS" 16,
  .int "MOST_PART" 1000000,
  .int "MOST_LOOKED" 500,
  .glo "RowError",
  .exc "RowError",
  .glo "BadNumber",
  .exc "BadNumber",
  .glo "BadProgram",
  .exc "BadProgram",
  .glo "BadMachine",
  .exc "BadMachine",
  .glo "TooGreat",
  .exc "TooGreat",
  .glo "BadText",
  .exc "BadText",
  .glo "Nothing",
  .exc "Nothing"]
def tfL : List He.Defn := [("law", none)]
def exL (K : PySem.W.Frag) : Bool := He.tupB K "PRIMES" ([.int 2, .int 3, .int 5, .int 7, .int 11, .int 13, .int 17, .int 19, .int 23, .int 29, .int 31, .int 37] : List He.Dv) && (sepB K tfL && (wordB K wl))
def tsL : List He.Tab := []
abbrev rwL : PySem.W.OpenLaw := PySem.Challenge.rw_fractrows_k80_whole_turns
abbrev R : PySem.W.OpenRow := PySem.W.OpenLaw.row rwL
abbrev hk : PySem.W.Hook := He.hookX 4 faL fnL tsL tfL exL
def ob (s : PySem.W.SharedT) : He.AlX := He.obsX 4 faL fnL tsL tfL exL (HandSHeadRun.getT s)
theorem ob_eq (s : PySem.W.SharedT) : ob s = hk.obs s.abs := He.obsX_eq (HandSHeadRun.getT_eq s)
def looseL : List Str := (["RowError", "BadNumber", "BadProgram", "BadMachine", "TooGreat", "BadText", "Nothing", "is_count", "need_count", "parted", "is_number", "need_number", "made", "common", "is_fraction", "is_program", "need_program", "first_at", "led", "need_room", "look", "ring", "need_order", "moved_number", "moved", "greatest_rooms", "used_rooms", "_law_cell", "_law_drawn", "_law_word"] : List Str) ++ (["_law_told", "_law_primes", "_law_rooms", "_law_some", "_law_fraction", "_law_program", "_law_step", "_law_run", "_law_round", "_law_order", "_law_ring_due", "PRIMES", "MOST_ROOM", "MOST_FRACTIONS", "MOST_PART", "MOST_LOOKED"] : List Str)
theorem runL (w : World) : HandSHeadRun.RunEq R (PySem.W.view R.prog [51]) hk ob 3000 looseL w := by
  intro os
  kernel_rfl
theorem df_of {K : PySem.W.Frag} {h : Heap} {mg : Str → Option Value} {x : Str} {st : Stmt} {ps : List Str} (X : K.In h) (G : h.Ns mainGlobals mg) (c : (He.Fa.glo x).ok K = true) (F : ∃ fd, FunD K x x (defArgs st) (defBody st) (defScope st) [] [] (He.ga K x) fd)
    (hb : ∀ (kV doc pm : Value) (an : Option Addr) (cdv ct : Value) (us : List Value), us.length = ps.length → bindArgs (PySem.W.fnOf x x (defArgs st) (defBody st) (defScope st) .none kV doc pm an cdv ct) ⟨us, []⟩ = pure (ps.zip us)) : Df K mg x st ps := by
  obtain ⟨fd, F⟩ := F
  exact ⟨_, fd, He5.fun_of F, He.glo_ok X G c, F.bindsN hb⟩
theorem xc_of {K : PySem.W.Frag} {h : Heap} {mg : Str → Option Value} {x : Str} (X : K.In h) (G : h.Ns mainGlobals mg) (c : (He.Fa.glo x).ok K = true) (c2 : (He.Fa.exc x).ok K = true) : Xc K mg x := by
  obtain ⟨h1, h2⟩ := He.ba c2
  obtain ⟨h3, h4⟩ := He.ba h2
  obtain ⟨h5, h6⟩ := He.ba h4
  exact ⟨He.glo_ok X G c, h1, h3, of_decide_eq_true h5, of_decide_eq_true h6⟩
theorem tx_of {w : World} {K : PySem.W.Frag} {h : Heap} {mg : Str → Option Value} (X : K.In h) (G : h.Ns mainGlobals mg) (c : He.SaysX faL fnL tsL tfL exL w h K) : Tx K mg := by
  have d := c.t.d
  have m0 : exL K = true := c.more
  obtain ⟨t_PRIMES, m1⟩ := He.ba m0
  obtain ⟨t_sep, m2⟩ := He.ba m1
  have t_word := m2
  exact ⟨He.free_ok X G (d.fact 35 (f := .free "zip") rfl),
    He.free_ok X G (d.fact 36 (f := .free "all") rfl),
    He.free_ok X G (d.fact 37 (f := .free "enumerate") rfl),
    He.free_ok X G (d.fact 38 (f := .free "range") rfl),
    He.free_ok X G (d.fact 39 (f := .free "tuple") rfl),
    He.free_ok X G (d.fact 40 (f := .free "sorted") rfl),
    He.free_ok X G (d.fact 41 (f := .free "isinstance") rfl),
    He.free_ok X G (d.fact 42 (f := .free "int") rfl),
    He.free_ok X G (d.fact 43 (f := .free "bool") rfl),
    He.free_ok X G (d.fact 44 (f := .free "len") rfl),
    He.free_ok X G (d.fact 45 (f := .free "list") rfl),
    He.free_ok X G (d.fact 46 (f := .free "max") rfl),
    He.free_ok X G (d.fact 47 (f := .free "sum") rfl),
    He.free_ok X G (d.fact 48 (f := .free "min") rfl),
    He.free_ok X G (d.fact 49 (f := .free "set") rfl),
    He.free_ok X G (d.fact 50 (f := .free "ValueError") rfl),
    He.glo_ok X G (d.fact 51 (f := .glo "PRIMES") rfl),
    fun H => He.tupB_ok t_PRIMES H,
    He.int_ok X G (d.fact 52 (f := .int "MOST_ROOM" 400) rfl),
    He.int_ok X G (d.fact 53 (f := .int "MOST_FRACTIONS" 16) rfl),
    He.int_ok X G (d.fact 54 (f := .int "MOST_PART" 1000000) rfl),
    He.int_ok X G (d.fact 55 (f := .int "MOST_LOOKED" 500) rfl),
    xc_of X G (d.fact 56 (f := .glo "RowError") rfl) (d.fact 57 (f := .exc "RowError") rfl),
    xc_of X G (d.fact 58 (f := .glo "BadNumber") rfl) (d.fact 59 (f := .exc "BadNumber") rfl),
    xc_of X G (d.fact 60 (f := .glo "BadProgram") rfl) (d.fact 61 (f := .exc "BadProgram") rfl),
    xc_of X G (d.fact 62 (f := .glo "BadMachine") rfl) (d.fact 63 (f := .exc "BadMachine") rfl),
    xc_of X G (d.fact 64 (f := .glo "TooGreat") rfl) (d.fact 65 (f := .exc "TooGreat") rfl),
    xc_of X G (d.fact 66 (f := .glo "BadText") rfl) (d.fact 67 (f := .exc "BadText") rfl),
    xc_of X G (d.fact 68 (f := .glo "Nothing") rfl) (d.fact 69 (f := .exc "Nothing") rfl),
    wordB_ok t_word⟩
theorem sep_of {w : World} {K : PySem.W.Frag} {h : Heap} (c : He.SaysX faL fnL tsL tfL exL w h K) : sepB K tfL = true := by
  have m0 : exL K = true := c.more
  obtain ⟨t_PRIMES, m1⟩ := He.ba m0
  obtain ⟨t_sep, m2⟩ := He.ba m1
  have t_word := m2
  exact t_sep
theorem df__law_drawn {w : World} {K : PySem.W.Frag} {h : Heap} {mg : Str → Option Value} (X : K.In h) (G : h.Ns mainGlobals mg) (c : He.SaysX faL fnL tsL tfL exL w h K) : Df K mg "_law_drawn" s__law_drawn ["_law_cell_here", "_law_k"] := df_of X G (c.t.d.fact 0 (f := .glo "_law_drawn") rfl) (c.t.d.def_ 0 (d := dd "_law_drawn" s__law_drawn) rfl) fun _ _ _ _ _ _ us hl => match us, hl with | [_, _], _ => rfl
theorem df__law_cell {w : World} {K : PySem.W.Frag} {h : Heap} {mg : Str → Option Value} (X : K.In h) (G : h.Ns mainGlobals mg) (c : He.SaysX faL fnL tsL tfL exL w h K) : Df K mg "_law_cell" s__law_cell ["_law_script", "_law_k"] := df_of X G (c.t.d.fact 1 (f := .glo "_law_cell") rfl) (c.t.d.def_ 1 (d := dd "_law_cell" s__law_cell) rfl) fun _ _ _ _ _ _ us hl => match us, hl with | [_, _], _ => rfl
theorem df__law_order {w : World} {K : PySem.W.Frag} {h : Heap} {mg : Str → Option Value} (X : K.In h) (G : h.Ns mainGlobals mg) (c : He.SaysX faL fnL tsL tfL exL w h K) : Df K mg "_law_order" s__law_order ["_law_more"] := df_of X G (c.t.d.fact 2 (f := .glo "_law_order") rfl) (c.t.d.def_ 2 (d := dd "_law_order" s__law_order) rfl) fun _ _ _ _ _ _ us hl => match us, hl with | [_], _ => rfl
theorem df_parted {w : World} {K : PySem.W.Frag} {h : Heap} {mg : Str → Option Value} (X : K.In h) (G : h.Ns mainGlobals mg) (c : He.SaysX faL fnL tsL tfL exL w h K) : Df K mg "parted" s_parted ["number"] := df_of X G (c.t.d.fact 3 (f := .glo "parted") rfl) (c.t.d.def_ 3 (d := dd "parted" s_parted) rfl) fun _ _ _ _ _ _ us hl => match us, hl with | [_], _ => rfl
theorem df_is_number {w : World} {K : PySem.W.Frag} {h : Heap} {mg : Str → Option Value} (X : K.In h) (G : h.Ns mainGlobals mg) (c : He.SaysX faL fnL tsL tfL exL w h K) : Df K mg "is_number" s_is_number ["thing"] := df_of X G (c.t.d.fact 4 (f := .glo "is_number") rfl) (c.t.d.def_ 4 (d := dd "is_number" s_is_number) rfl) fun _ _ _ _ _ _ us hl => match us, hl with | [_], _ => rfl
theorem df_need_number {w : World} {K : PySem.W.Frag} {h : Heap} {mg : Str → Option Value} (X : K.In h) (G : h.Ns mainGlobals mg) (c : He.SaysX faL fnL tsL tfL exL w h K) : Df K mg "need_number" s_need_number ["number"] := df_of X G (c.t.d.fact 5 (f := .glo "need_number") rfl) (c.t.d.def_ 5 (d := dd "need_number" s_need_number) rfl) fun _ _ _ _ _ _ us hl => match us, hl with | [_], _ => rfl
theorem df_is_count {w : World} {K : PySem.W.Frag} {h : Heap} {mg : Str → Option Value} (X : K.In h) (G : h.Ns mainGlobals mg) (c : He.SaysX faL fnL tsL tfL exL w h K) : Df K mg "is_count" s_is_count ["thing", "low", "high"] := df_of X G (c.t.d.fact 6 (f := .glo "is_count") rfl) (c.t.d.def_ 6 (d := dd "is_count" s_is_count) rfl) fun _ _ _ _ _ _ us hl => match us, hl with | [_, _, _], _ => rfl
theorem df_need_order {w : World} {K : PySem.W.Frag} {h : Heap} {mg : Str → Option Value} (X : K.In h) (G : h.Ns mainGlobals mg) (c : He.SaysX faL fnL tsL tfL exL w h K) : Df K mg "need_order" s_need_order ["order"] := df_of X G (c.t.d.fact 7 (f := .glo "need_order") rfl) (c.t.d.def_ 7 (d := dd "need_order" s_need_order) rfl) fun _ _ _ _ _ _ us hl => match us, hl with | [_], _ => rfl
theorem df_made {w : World} {K : PySem.W.Frag} {h : Heap} {mg : Str → Option Value} (X : K.In h) (G : h.Ns mainGlobals mg) (c : He.SaysX faL fnL tsL tfL exL w h K) : Df K mg "made" s_made ["rooms"] := df_of X G (c.t.d.fact 8 (f := .glo "made") rfl) (c.t.d.def_ 8 (d := dd "made" s_made) rfl) fun _ _ _ _ _ _ us hl => match us, hl with | [_], _ => rfl
theorem df_moved_number {w : World} {K : PySem.W.Frag} {h : Heap} {mg : Str → Option Value} (X : K.In h) (G : h.Ns mainGlobals mg) (c : He.SaysX faL fnL tsL tfL exL w h K) : Df K mg "moved_number" s_moved_number ["number", "order"] := df_of X G (c.t.d.fact 9 (f := .glo "moved_number") rfl) (c.t.d.def_ 9 (d := dd "moved_number" s_moved_number) rfl) fun _ _ _ _ _ _ us hl => match us, hl with | [_, _], _ => rfl
theorem df_moved {w : World} {K : PySem.W.Frag} {h : Heap} {mg : Str → Option Value} (X : K.In h) (G : h.Ns mainGlobals mg) (c : He.SaysX faL fnL tsL tfL exL w h K) : Df K mg "moved" s_moved ["number", "order"] := df_of X G (c.t.d.fact 10 (f := .glo "moved") rfl) (c.t.d.def_ 10 (d := dd "moved" s_moved) rfl) fun _ _ _ _ _ _ us hl => match us, hl with | [_, _], _ => rfl
theorem df__law_primes {w : World} {K : PySem.W.Frag} {h : Heap} {mg : Str → Option Value} (X : K.In h) (G : h.Ns mainGlobals mg) (c : He.SaysX faL fnL tsL tfL exL w h K) : Df K mg "_law_primes" s__law_primes [] := df_of X G (c.t.d.fact 11 (f := .glo "_law_primes") rfl) (c.t.d.def_ 11 (d := dd "_law_primes" s__law_primes) rfl) fun _ _ _ _ _ _ us hl => match us, hl with | [], _ => rfl
theorem df__law_some {w : World} {K : PySem.W.Frag} {h : Heap} {mg : Str → Option Value} (X : K.In h) (G : h.Ns mainGlobals mg) (c : He.SaysX faL fnL tsL tfL exL w h K) : Df K mg "_law_some" s__law_some ["_law_more", "_law_primes_here", "_law_most"] := df_of X G (c.t.d.fact 12 (f := .glo "_law_some") rfl) (c.t.d.def_ 12 (d := dd "_law_some" s__law_some) rfl) fun _ _ _ _ _ _ us hl => match us, hl with | [_, _, _], _ => rfl
theorem df__law_fraction {w : World} {K : PySem.W.Frag} {h : Heap} {mg : Str → Option Value} (X : K.In h) (G : h.Ns mainGlobals mg) (c : He.SaysX faL fnL tsL tfL exL w h K) : Df K mg "_law_fraction" s__law_fraction ["_law_more", "_law_primes_here"] := df_of X G (c.t.d.fact 13 (f := .glo "_law_fraction") rfl) (c.t.d.def_ 13 (d := dd "_law_fraction" s__law_fraction) rfl) fun _ _ _ _ _ _ us hl => match us, hl with | [_, _], _ => rfl
theorem df__law_program {w : World} {K : PySem.W.Frag} {h : Heap} {mg : Str → Option Value} (X : K.In h) (G : h.Ns mainGlobals mg) (c : He.SaysX faL fnL tsL tfL exL w h K) : Df K mg "_law_program" s__law_program ["_law_more", "_law_primes_here"] := df_of X G (c.t.d.fact 14 (f := .glo "_law_program") rfl) (c.t.d.def_ 14 (d := dd "_law_program" s__law_program) rfl) fun _ _ _ _ _ _ us hl => match us, hl with | [_, _], _ => rfl
theorem df__law_round {w : World} {K : PySem.W.Frag} {h : Heap} {mg : Str → Option Value} (X : K.In h) (G : h.Ns mainGlobals mg) (c : He.SaysX faL fnL tsL tfL exL w h K) : Df K mg "_law_round" s__law_round ["_law_more"] := df_of X G (c.t.d.fact 15 (f := .glo "_law_round") rfl) (c.t.d.def_ 15 (d := dd "_law_round" s__law_round) rfl) fun _ _ _ _ _ _ us hl => match us, hl with | [_], _ => rfl
theorem df__law_step {w : World} {K : PySem.W.Frag} {h : Heap} {mg : Str → Option Value} (X : K.In h) (G : h.Ns mainGlobals mg) (c : He.SaysX faL fnL tsL tfL exL w h K) : Df K mg "_law_step" s__law_step ["_law_program_here", "_law_number"] := df_of X G (c.t.d.fact 16 (f := .glo "_law_step") rfl) (c.t.d.def_ 16 (d := dd "_law_step" s__law_step) rfl) fun _ _ _ _ _ _ us hl => match us, hl with | [_, _], _ => rfl
theorem df__law_rooms {w : World} {K : PySem.W.Frag} {h : Heap} {mg : Str → Option Value} (X : K.In h) (G : h.Ns mainGlobals mg) (c : He.SaysX faL fnL tsL tfL exL w h K) : Df K mg "_law_rooms" s__law_rooms ["_law_number"] := df_of X G (c.t.d.fact 17 (f := .glo "_law_rooms") rfl) (c.t.d.def_ 17 (d := dd "_law_rooms" s__law_rooms) rfl) fun _ _ _ _ _ _ us hl => match us, hl with | [_], _ => rfl
theorem df__law_run {w : World} {K : PySem.W.Frag} {h : Heap} {mg : Str → Option Value} (X : K.In h) (G : h.Ns mainGlobals mg) (c : He.SaysX faL fnL tsL tfL exL w h K) : Df K mg "_law_run" s__law_run ["_law_program_here", "_law_number", "_law_most"] := df_of X G (c.t.d.fact 18 (f := .glo "_law_run") rfl) (c.t.d.def_ 18 (d := dd "_law_run" s__law_run) rfl) fun _ _ _ _ _ _ us hl => match us, hl with | [_, _, _], _ => rfl
theorem df__law_word {w : World} {K : PySem.W.Frag} {h : Heap} {mg : Str → Option Value} (X : K.In h) (G : h.Ns mainGlobals mg) (c : He.SaysX faL fnL tsL tfL exL w h K) : Df K mg "_law_word" s__law_word ["_law_e"] := df_of X G (c.t.d.fact 19 (f := .glo "_law_word") rfl) (c.t.d.def_ 19 (d := dd "_law_word" s__law_word) rfl) fun _ _ _ _ _ _ us hl => match us, hl with | [_], _ => rfl
theorem df__law_told {w : World} {K : PySem.W.Frag} {h : Heap} {mg : Str → Option Value} (X : K.In h) (G : h.Ns mainGlobals mg) (c : He.SaysX faL fnL tsL tfL exL w h K) : Df K mg "_law_told" s__law_told ["_law_deed"] := df_of X G (c.t.d.fact 20 (f := .glo "_law_told") rfl) (c.t.d.def_ 20 (d := dd "_law_told" s__law_told) rfl) fun _ _ _ _ _ _ us hl => match us, hl with | [_], _ => rfl
theorem df__law_ring_due {w : World} {K : PySem.W.Frag} {h : Heap} {mg : Str → Option Value} (X : K.In h) (G : h.Ns mainGlobals mg) (c : He.SaysX faL fnL tsL tfL exL w h K) : Df K mg "_law_ring_due" s__law_ring_due ["_law_row"] := df_of X G (c.t.d.fact 21 (f := .glo "_law_ring_due") rfl) (c.t.d.def_ 21 (d := dd "_law_ring_due" s__law_ring_due) rfl) fun _ _ _ _ _ _ us hl => match us, hl with | [_], _ => rfl
theorem df_common {w : World} {K : PySem.W.Frag} {h : Heap} {mg : Str → Option Value} (X : K.In h) (G : h.Ns mainGlobals mg) (c : He.SaysX faL fnL tsL tfL exL w h K) : Df K mg "common" s_common ["one", "other"] := df_of X G (c.t.d.fact 22 (f := .glo "common") rfl) (c.t.d.def_ 22 (d := dd "common" s_common) rfl) fun _ _ _ _ _ _ us hl => match us, hl with | [_, _], _ => rfl
theorem df_is_fraction {w : World} {K : PySem.W.Frag} {h : Heap} {mg : Str → Option Value} (X : K.In h) (G : h.Ns mainGlobals mg) (c : He.SaysX faL fnL tsL tfL exL w h K) : Df K mg "is_fraction" s_is_fraction ["thing"] := df_of X G (c.t.d.fact 23 (f := .glo "is_fraction") rfl) (c.t.d.def_ 23 (d := dd "is_fraction" s_is_fraction) rfl) fun _ _ _ _ _ _ us hl => match us, hl with | [_], _ => rfl
theorem df_is_program {w : World} {K : PySem.W.Frag} {h : Heap} {mg : Str → Option Value} (X : K.In h) (G : h.Ns mainGlobals mg) (c : He.SaysX faL fnL tsL tfL exL w h K) : Df K mg "is_program" s_is_program ["thing"] := df_of X G (c.t.d.fact 24 (f := .glo "is_program") rfl) (c.t.d.def_ 24 (d := dd "is_program" s_is_program) rfl) fun _ _ _ _ _ _ us hl => match us, hl with | [_], _ => rfl
theorem df_need_program {w : World} {K : PySem.W.Frag} {h : Heap} {mg : Str → Option Value} (X : K.In h) (G : h.Ns mainGlobals mg) (c : He.SaysX faL fnL tsL tfL exL w h K) : Df K mg "need_program" s_need_program ["program"] := df_of X G (c.t.d.fact 25 (f := .glo "need_program") rfl) (c.t.d.def_ 25 (d := dd "need_program" s_need_program) rfl) fun _ _ _ _ _ _ us hl => match us, hl with | [_], _ => rfl
theorem df_used_rooms {w : World} {K : PySem.W.Frag} {h : Heap} {mg : Str → Option Value} (X : K.In h) (G : h.Ns mainGlobals mg) (c : He.SaysX faL fnL tsL tfL exL w h K) : Df K mg "used_rooms" s_used_rooms ["program"] := df_of X G (c.t.d.fact 26 (f := .glo "used_rooms") rfl) (c.t.d.def_ 26 (d := dd "used_rooms" s_used_rooms) rfl) fun _ _ _ _ _ _ us hl => match us, hl with | [_], _ => rfl
theorem df_look {w : World} {K : PySem.W.Frag} {h : Heap} {mg : Str → Option Value} (X : K.In h) (G : h.Ns mainGlobals mg) (c : He.SaysX faL fnL tsL tfL exL w h K) : Df K mg "look" s_look ["program", "number"] := df_of X G (c.t.d.fact 27 (f := .glo "look") rfl) (c.t.d.def_ 27 (d := dd "look" s_look) rfl) fun _ _ _ _ _ _ us hl => match us, hl with | [_, _], _ => rfl
theorem df_need_count {w : World} {K : PySem.W.Frag} {h : Heap} {mg : Str → Option Value} (X : K.In h) (G : h.Ns mainGlobals mg) (c : He.SaysX faL fnL tsL tfL exL w h K) : Df K mg "need_count" s_need_count ["thing", "low", "high"] := df_of X G (c.t.d.fact 28 (f := .glo "need_count") rfl) (c.t.d.def_ 28 (d := dd "need_count" s_need_count) rfl) fun _ _ _ _ _ _ us hl => match us, hl with | [_, _, _], _ => rfl
theorem df_first_at {w : World} {K : PySem.W.Frag} {h : Heap} {mg : Str → Option Value} (X : K.In h) (G : h.Ns mainGlobals mg) (c : He.SaysX faL fnL tsL tfL exL w h K) : Df K mg "first_at" s_first_at ["program", "number"] := df_of X G (c.t.d.fact 29 (f := .glo "first_at") rfl) (c.t.d.def_ 29 (d := dd "first_at" s_first_at) rfl) fun _ _ _ _ _ _ us hl => match us, hl with | [_, _], _ => rfl
theorem df_led {w : World} {K : PySem.W.Frag} {h : Heap} {mg : Str → Option Value} (X : K.In h) (G : h.Ns mainGlobals mg) (c : He.SaysX faL fnL tsL tfL exL w h K) : Df K mg "led" s_led ["program", "number"] := df_of X G (c.t.d.fact 30 (f := .glo "led") rfl) (c.t.d.def_ 30 (d := dd "led" s_led) rfl) fun _ _ _ _ _ _ us hl => match us, hl with | [_, _], _ => rfl
theorem df_need_room {w : World} {K : PySem.W.Frag} {h : Heap} {mg : Str → Option Value} (X : K.In h) (G : h.Ns mainGlobals mg) (c : He.SaysX faL fnL tsL tfL exL w h K) : Df K mg "need_room" s_need_room ["number"] := df_of X G (c.t.d.fact 31 (f := .glo "need_room") rfl) (c.t.d.def_ 31 (d := dd "need_room" s_need_room) rfl) fun _ _ _ _ _ _ us hl => match us, hl with | [_], _ => rfl
theorem df_greatest_rooms {w : World} {K : PySem.W.Frag} {h : Heap} {mg : Str → Option Value} (X : K.In h) (G : h.Ns mainGlobals mg) (c : He.SaysX faL fnL tsL tfL exL w h K) : Df K mg "greatest_rooms" s_greatest_rooms ["program", "number", "most"] := df_of X G (c.t.d.fact 32 (f := .glo "greatest_rooms") rfl) (c.t.d.def_ 32 (d := dd "greatest_rooms" s_greatest_rooms) rfl) fun _ _ _ _ _ _ us hl => match us, hl with | [_, _, _], _ => rfl
theorem df_ring {w : World} {K : PySem.W.Frag} {h : Heap} {mg : Str → Option Value} (X : K.In h) (G : h.Ns mainGlobals mg) (c : He.SaysX faL fnL tsL tfL exL w h K) : Df K mg "ring" s_ring ["program", "number", "most"] := df_of X G (c.t.d.fact 33 (f := .glo "ring") rfl) (c.t.d.def_ 33 (d := dd "ring" s_ring) rfl) fun _ _ _ _ _ _ us hl => match us, hl with | [_, _, _], _ => rfl
theorem df_law {w : World} {K : PySem.W.Frag} {h : Heap} {mg : Str → Option Value} (X : K.In h) (G : h.Ns mainGlobals mg) (c : He.SaysX faL fnL tsL tfL exL w h K) : Df K mg "law" s_law ["_law_script"] := df_of X G (c.t.d.fact 34 (f := .glo "law") rfl) (c.t.d.def_ 34 (d := dd "law" s_law) rfl) fun _ _ _ _ _ _ us hl => match us, hl with | [_], _ => rfl
theorem factsL {w : World} {K : PySem.W.Frag} {h : Heap} {mg : Str → Option Value} {f : Addr} (X : K.In h) (G : h.Ns mainGlobals mg) (hfa : mg ("law" : Str) = some (.ref f)) (c : He.SaysX faL fnL tsL tfL exL w h K) :
    ∃ fd : FuncData, (∀ (s : Shared) (v : Value), BindsTo s fd ⟨[v], []⟩ [("_law_script", v)]) ∧ ∀ base : Heap, K.In base → base.Ns mainGlobals mg → (∀ p ∈ tfL.map (He.cT K), TabB base mg p.1 p.2) → FnOk rwL.prog w K mg base (L2N.CX rwL.prog w) 10 f fd ["_law_script"] (@spX (tabsOf K tfL) K (Pr_law K)) := by
  obtain ⟨fd, F⟩ := c.t.d.def_ 34 (d := dd "law" s_law) rfl
  have e := hfa.symm.trans (He.glo_ok X G (c.t.d.fact 34 (f := .glo "law") rfl))
  cases e
  have T := tx_of X G c
  have b := FunD.bindsA (ps := ["_law_script"]) F fun _ _ _ _ _ _ us hl => match us, hl with | [_], _ => rfl
  refine ⟨fd, fun s v => b s [v] rfl, fun base _ _ tb => ?_⟩
  letI : TabL := tabsOf K tfL
  have dt := df__law_told X G c
  have G__law_drawn := ok__law_drawn (P := rwL.prog) (w := w) (base := base) (df__law_drawn X G c) T
  have G__law_cell := ok__law_cell (P := rwL.prog) (w := w) (base := base) (df__law_cell X G c) T
  have G__law_order := ok__law_order (P := rwL.prog) (w := w) (base := base) (df__law_order X G c) T G__law_drawn
  have G_parted := ok_parted (P := rwL.prog) (w := w) (base := base) (df_parted X G c) T
  have G_is_number := ok_is_number (P := rwL.prog) (w := w) (base := base) (df_is_number X G c) T G_parted
  have G_need_number := ok_need_number (P := rwL.prog) (w := w) (base := base) (df_need_number X G c) T G_is_number
  have G_is_count := ok_is_count (P := rwL.prog) (w := w) (base := base) (df_is_count X G c) T
  have G_need_order := ok_need_order (P := rwL.prog) (w := w) (base := base) (df_need_order X G c) T G_is_count
  have G_made := ok_made (P := rwL.prog) (w := w) (base := base) (df_made X G c) T
  have G_moved_number := ok_moved_number (P := rwL.prog) (w := w) (base := base) (df_moved_number X G c) T G_made G_parted
  have G_moved := ok_moved (P := rwL.prog) (w := w) (base := base) (df_moved X G c) T G_moved_number G_need_number G_need_order
  have G__law_primes := ok__law_primes (P := rwL.prog) (w := w) (base := base) (df__law_primes X G c) T
  have G__law_some := ok__law_some (P := rwL.prog) (w := w) (base := base) (df__law_some X G c) T G__law_drawn G__law_primes
  have G__law_fraction := ok__law_fraction (P := rwL.prog) (w := w) (base := base) (df__law_fraction X G c) T G__law_drawn G__law_primes G__law_some
  have G__law_program := ok__law_program (P := rwL.prog) (w := w) (base := base) (df__law_program X G c) T G__law_drawn G__law_fraction
  have G__law_round := ok__law_round (P := rwL.prog) (w := w) (base := base) (df__law_round X G c) T G__law_program
  have G__law_step := ok__law_step (P := rwL.prog) (w := w) (base := base) (df__law_step X G c) T
  have G__law_rooms := ok__law_rooms (P := rwL.prog) (w := w) (base := base) (df__law_rooms X G c) T G__law_primes
  have G__law_run := ok__law_run (P := rwL.prog) (w := w) (base := base) (df__law_run X G c) T G__law_rooms G__law_step
  have G__law_word := ok__law_word (P := rwL.prog) (w := w) (base := base) (df__law_word X G c) T
  have G__law_ring_due := ok__law_ring_due (P := rwL.prog) (w := w) (base := base) (df__law_ring_due X G c) T
  have G_common := ok_common (P := rwL.prog) (w := w) (base := base) (df_common X G c) T
  have G_is_fraction := ok_is_fraction (P := rwL.prog) (w := w) (base := base) (df_is_fraction X G c) T G_common G_is_number
  have G_is_program := ok_is_program (P := rwL.prog) (w := w) (base := base) (df_is_program X G c) T G_is_fraction
  have G_need_program := ok_need_program (P := rwL.prog) (w := w) (base := base) (df_need_program X G c) T G_is_program
  have G_used_rooms := ok_used_rooms (P := rwL.prog) (w := w) (base := base) (df_used_rooms X G c) T G_need_program G_parted
  have G_look := ok_look (P := rwL.prog) (w := w) (base := base) (df_look X G c) T G_need_number G_need_program
  have G_need_count := ok_need_count (P := rwL.prog) (w := w) (base := base) (df_need_count X G c) T G_is_count
  have G_first_at := ok_first_at (P := rwL.prog) (w := w) (base := base) (df_first_at X G c) T
  have G_led := ok_led (P := rwL.prog) (w := w) (base := base) (df_led X G c) T G_first_at
  have G_need_room := ok_need_room (P := rwL.prog) (w := w) (base := base) (df_need_room X G c) T G_parted
  have G_greatest_rooms := ok_greatest_rooms (P := rwL.prog) (w := w) (base := base) (df_greatest_rooms X G c) T G_led G_look G_need_count G_need_room G_parted
  have G_ring := ok_ring (P := rwL.prog) (w := w) (base := base) (df_ring X G c) T G_led G_look G_need_count G_need_room
  exact ok_law T G__law_cell G__law_drawn G__law_order G__law_program G__law_ring_due G__law_rooms G__law_round G__law_run G__law_some G_greatest_rooms G_moved G_ring G_used_rooms dt G__law_word (lm_mk (by decide) tb (sep_of c)) (He5.fun_of F)
end Fr
open PySem PySem.W PySem.Calls PyProof.Rows
theorem PySem.Challenge.cw_fractrows_k80_whole_turns_holds : PySem.Challenge.rw_fractrows_k80_whole_turns.Holds := by
  w_on; o_law
  refine HandSHeadRun.head_any (r := OpenLaw.row PySem.Challenge.rw_fractrows_k80_whole_turns) (q := view (OpenLaw.row PySem.Challenge.rw_fractrows_k80_whole_turns).prog [51]) (H := Fr.hk) (ob := Fr.ob) (M := 3000) (loose := Fr.looseL) (d := HandSHeadRun.topDef (OpenLaw.row PySem.Challenge.rw_fractrows_k80_whole_turns).prog 51) (kwd := []) Fr.ob_eq
    (by kernel_rfl) (fun s => by kernel_rfl) Fr.runL (by kernel_rfl) (by kernel_rfl) (by kernel_rfl) (by rfl) (by first | assumption | decide +kernel) (by decide +kernel) ⟨rfl, rfl, rfl, rfl, rfl, by decide +kernel⟩ ?hw ?hc
  case hw => w_witness2
  case hc =>
    refine LamX.walk_ofTsE (l := PySem.Challenge.rw_fractrows_k80_whole_turns) (n := 63) (k := 10) (x := "_law_script") (CX := fun w => L2N.CX (PySem.Challenge.rw_fractrows_k80_whole_turns).prog w) rfl (by decide) (by kernel_rfl) ⟨rfl, by decide, by decide⟩ ?F (fun _ _ _ _ _ ⟨_, _, _, _, _, _, _, _, _, _, _, _, z⟩ => z)
    intro w mg fa h Y G hmg0
    obtain ⟨K, KX, c⟩ := Y
    have hmg : mg ("law" : PySem.Str) = some (.ref fa) := by
      have e : (HandSHeadRun.topDef (OpenLaw.row PySem.Challenge.rw_fractrows_k80_whole_turns).prog 51).name = ("law" : PySem.Str) := by kernel_rfl
      rw [← e]
      exact hmg0
    obtain ⟨fd, hb, hF⟩ := Fr.factsL (w := w) KX G hmg c
    exact ⟨K, KX, Fr.law_at (n := 63) KX c hb (fun ns hl => ⟨hl, rfl, rfl⟩) hF⟩
