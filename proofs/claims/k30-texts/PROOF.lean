import PyProof.Rows.All
import Wide.All
import OpenK.AllK
import Wide.FinOn
import HandS.ForMost
import HandS.Exc
import HandS.TryOnly
import HandS.ExcOwn
import HandS.WordsExc
import HandS.Strs
import HandS.TupAny
import HandS.Flow
import HandS.Deep
import HandS.Style
import HandS.Rev
import KE.LtData
import HandS.CallSlots
import HandS.StrMore
import HandS.RevRange
import HandS.SetFor
import KE.SortData
import HandS.ExcValue
import HandS.ExcIs
import HandS.IsInst
import HandS.Conv
import KE.GoesComp
import KE.KAsSuite
import HandS.Codes
import PySem.Challenge.RW_forcemark_k30_texts
set_option Elab.async false
set_option linter.all false
set_option maxRecDepth 100000
set_option maxHeartbeats 4000000
/-! FM, part 1: data, what stands for them in the heap, slots, the two judgements and how they are put together. -/
namespace FM
open PySem L2

/-! ### data -/
inductive Ec where
  | web | set | steps | tree | text
  deriving DecidableEq
inductive D where
  | non | bl (b : Bool) | int (i : Int) | str (s : Str) | lst (l : List D) | tup (l : List D)
  | scr (l : List Int) | set (l : List Int) | dic (l : List (Int × Int)) | exc (c : Ec)
instance : Inhabited D := ⟨.non⟩
/-- what a piece of code comes to: a datum, an own error, or nothing is said -/
inductive Rz (α : Type) where
  | ok (a : α) | er (c : Ec) | bad
def Rz.bind {α β : Type} (r : Rz α) (k : α → Rz β) : Rz β := match r with
  | .ok a => k a
  | .er c => .er c
  | .bad => .bad
@[simp] theorem Rz.ok_bind {α β : Type} (a : α) (k : α → Rz β) : (Rz.ok a).bind k = k a := rfl
@[simp] theorem Rz.er_bind {α β : Type} (c : Ec) (k : α → Rz β) : (Rz.er c : Rz α).bind k = .er c := rfl
@[simp] theorem Rz.bad_bind {α β : Type} (k : α → Rz β) : (Rz.bad : Rz α).bind k = .bad := rfl
/-- a slot: nothing is known, a datum, an own list that may still grow -/
inductive Sl where
  | no | va (d : D) | ow (l : List D)
abbrev Rho := List Sl
/-- where a statement leads -/
inductive Oc where
  | nx (ρ : Rho) | rt (d : D) | er (c : Ec) (ρ : Rho) | bad

/-! ### what stands for a datum -/
structure Wd where
  K : PySem.W.Frag
  w : World
  ca : Ec → Addr
/-- an exception object of the class at C, kept -/
def ExH (C a : Addr) : HO := .ext fun h => ∃ (oe : Obj) (vs : Array Value), h.get? a = some oe ∧ Zc (.ref C) none oe ∧ oe.data = .fields vs
mutual
inductive Rep (W : Wd) (H : Hp) : V → D → Prop where
  | non : Rep W H .non .non
  | bl (b : Bool) : Rep W H (.bl b) (.bl b)
  | int (i : Int) : Rep W H (.int i) (.int i)
  | str (s : Str) : Rep W H (.str s) (.str s)
  | lst {a : Addr} {xs : List V} {ds : List D} (h : H a = some (.lst xs)) (r : Reps W H xs ds) : Rep W H (.ref a) (.lst ds)
  | tup {a : Addr} {xs : List V} {ds : List D} (h : H a = some (.tup xs)) (r : Reps W H xs ds) : Rep W H (.ref a) (.tup ds)
  | scr {a : Addr} {ns : List Int} (h : SqL W.K H a (ns.map V.int)) : Rep W H (.ref a) (.scr ns)
  | set {a : Addr} {l : List Int} {S : Int → Bool} (h : H a = some (SetO W.w a S l.length)) (m : ∀ k, S k = true ↔ k ∈ l) (nd : l.Nodup) : Rep W H (.ref a) (.set l)
  | dic {a : Addr} {l : List (Int × Int)} (h : H a = some (.dK (l.map fun p => (Sum.inl p.1, V.int p.2)))) : Rep W H (.ref a) (.dic l)
  | exc {a : Addr} {c : Ec} (h : H a = some (ExH (W.ca c) a)) : Rep W H (.ref a) (.exc c)
inductive Reps (W : Wd) (H : Hp) : List V → List D → Prop where
  | nil : Reps W H [] []
  | cons {x : V} {d : D} {xs : List V} {ds : List D} (h : Rep W H x d) (t : Reps W H xs ds) : Reps W H (x :: xs) (d :: ds)
end
theorem sqL_same {K : PySem.W.Frag} {H H' : Hp} {a : Addr} {xs : List V} (e : Same H H') (h : SqL K H a xs) : SqL K H' a xs := e.seq h
mutual
theorem Rep.mono {W : Wd} {H H' : Hp} (e : Same H H') : ∀ {v : V} {d : D}, Rep W H v d → Rep W H' v d
  | _, _, .non => .non
  | _, _, .bl b => .bl b
  | _, _, .int i => .int i
  | _, _, .str s => .str s
  | _, _, .lst h r => .lst (e _ _ h) (Reps.mono e r)
  | _, _, .tup h r => .tup (e _ _ h) (Reps.mono e r)
  | _, _, .scr h => .scr (e.seq h)
  | _, _, .set h m nd => .set (e _ _ h) m nd
  | _, _, .dic h => .dic (e _ _ h)
  | _, _, .exc h => .exc (e _ _ h)
theorem Reps.mono {W : Wd} {H H' : Hp} (e : Same H H') : ∀ {vs : List V} {ds : List D}, Reps W H vs ds → Reps W H' vs ds
  | _, _, .nil => .nil
  | _, _, .cons h t => .cons (Rep.mono e h) (Reps.mono e t)
end
section
variable {W : Wd} {H : Hp}
theorem Reps.length : ∀ {vs : List V} {ds : List D}, Reps W H vs ds → vs.length = ds.length
  | _, _, .nil => rfl
  | _, _, .cons _ t => by rw [List.length_cons, List.length_cons, Reps.length t]
theorem Reps.append : ∀ {vs us : List V} {ds es : List D}, Reps W H vs ds → Reps W H us es → Reps W H (vs ++ us) (ds ++ es)
  | _, _, _, _, .nil, s => s
  | _, _, _, _, .cons h t, s => .cons h (Reps.append t s)
theorem Reps.get : ∀ {vs : List V} {ds : List D} {i : Nat} {v : V}, Reps W H vs ds → vs[i]? = some v → ∃ d, ds[i]? = some d ∧ Rep W H v d
  | _, _, _, _, .nil, e => by simp at e
  | _, _, 0, _, .cons h _, e => by
    simp at e
    subst e
    exact ⟨_, rfl, h⟩
  | _, _, i + 1, v, .cons _ t, e => by
    obtain ⟨d, h1, h2⟩ := Reps.get (i := i) (v := v) t (by simpa using e)
    exact ⟨d, by simpa using h1, h2⟩
theorem Reps.getD : ∀ {vs : List V} {ds : List D} {i : Nat} {d : D}, Reps W H vs ds → ds[i]? = some d → ∃ v, vs[i]? = some v ∧ Rep W H v d
  | _, _, _, _, .nil, e => by simp at e
  | _, _, 0, _, .cons h _, e => by
    simp at e
    subst e
    exact ⟨_, rfl, h⟩
  | _, _, i + 1, d, .cons _ t, e => by
    obtain ⟨v, h1, h2⟩ := Reps.getD (i := i) (d := d) t (by simpa using e)
    exact ⟨v, by simpa using h1, h2⟩
theorem Reps.take : ∀ {vs : List V} {ds : List D} (n : Nat), Reps W H vs ds → Reps W H (vs.take n) (ds.take n)
  | _, _, 0, _ => .nil
  | _, _, _ + 1, .nil => .nil
  | _, _, n + 1, .cons h t => .cons h (Reps.take n t)
theorem Reps.drop : ∀ {vs : List V} {ds : List D} (n : Nat), Reps W H vs ds → Reps W H (vs.drop n) (ds.drop n)
  | _, _, 0, r => r
  | _, _, _ + 1, .nil => .nil
  | _, _, n + 1, .cons _ t => Reps.drop n t
theorem Reps.rev : ∀ {vs : List V} {ds : List D}, Reps W H vs ds → Reps W H vs.reverse ds.reverse
  | _, _, .nil => .nil
  | _, _, .cons h t => by
    rw [List.reverse_cons, List.reverse_cons]
    exact (Reps.rev t).append (.cons h .nil)
theorem Reps.ints : ∀ (ns : List Int), Reps W H (ns.map V.int) (ns.map D.int)
  | [] => .nil
  | n :: r => .cons (.int n) (Reps.ints r)
theorem Reps.of_ints : ∀ {vs : List V} {ns : List Int}, Reps W H vs (ns.map D.int) → vs = ns.map V.int
  | [], [], _ => rfl
  | _ :: _, n :: ns, .cons h t => by
    cases h
    rw [Reps.of_ints (ns := ns) t]
    rfl
theorem Reps.of_bls : ∀ {vs : List V} {bs : List Bool}, Reps W H vs (bs.map D.bl) → vs = bs.map V.bl
  | [], [], _ => rfl
  | _ :: _, b :: bs, .cons h t => by
    cases h
    rw [Reps.of_bls (bs := bs) t]
    rfl
theorem Reps.of_strs : ∀ {vs : List V} {ss : List Str}, Reps W H vs (ss.map D.str) → vs = ss.map V.str
  | [], [], _ => rfl
  | _ :: _, b :: bs, .cons h t => by
    cases h
    rw [Reps.of_strs (ss := bs) t]
    rfl
end

/-! ### heaps that grow: G is what is seen of H (own lists are not) -/
structure Grow (G H G' H' : Hp) : Prop where
  h : Same H H'
  g : Same G G'
  i : Same G' H'
  hid : ∀ p, G p = none → H p ≠ none → G' p = none
theorem Same.ne {H H' : Hp} (e : Same H H') {p : Addr} (h : H p ≠ none) : H' p ≠ none := by
  cases q : H p with
  | none => exact absurd q h
  | some o =>
    rw [e p o q]
    exact fun z => nomatch z
theorem Grow.refl {G H : Hp} (i : Same G H) : Grow G H G H := ⟨.refl _, .refl _, i, fun _ a _ => a⟩
theorem Grow.trans {G H G1 H1 G2 H2 : Hp} (a : Grow G H G1 H1) (b : Grow G1 H1 G2 H2) : Grow G H G2 H2 :=
  ⟨a.h.trans b.h, a.g.trans b.g, b.i, fun p x y => b.hid p (a.hid p x y) (Same.ne a.h y)⟩
theorem same_upd {H : Hp} {p : Addr} {o : HO} (n : H p = none) : Same H (upd H p o) := fun b u e => by
  rw [upd_ne (ne_of_none e n)]
  exact e
theorem same_upd2 {G H : Hp} {p : Addr} {o : HO} (i : Same G H) : Same (upd G p o) (upd H p o) := fun b u e => by
  by_cases hb : b = p
  · subst hb
    rw [upd_same] at e ⊢
    exact e
  · rw [upd_ne hb] at e ⊢
    exact i b u e
theorem Grow.new {G H : Hp} {p : Addr} {o : HO} (i : Same G H) (n : H p = none) : Grow G H (upd G p o) (upd H p o) :=
  ⟨same_upd n, same_upd (i.free n), same_upd2 i, fun q a b => by
    rw [upd_ne (fun z => b (by rw [z]; exact n))]
    exact a⟩
/-- a new object that stays hidden -/
theorem Grow.newH {G H : Hp} {p : Addr} {o : HO} (i : Same G H) (n : H p = none) : Grow G H G (upd H p o) :=
  ⟨same_upd n, .refl _, i.trans (same_upd n), fun _ a _ => a⟩

/-! ### slots -/
def SlOk (W : Wd) (H0 G H : Hp) (s : Option (Option V)) : Sl → Prop
  | .no => True
  | .va d => ∃ v, s = some (some v) ∧ Rep W G v d
  | .ow l => ∃ p vs, s = some (some (.ref p)) ∧ H0 p = none ∧ G p = none ∧ H p = some (.lst vs) ∧ Reps W G vs l
/-- B: a ground that is never left (a loop's iterator stands on it); G0, H0: the def's entry -/
structure EnvOk (W : Wd) (B G0 H0 G H : Hp) (σ : St) (ρ : Rho) : Prop where
  bs : Same B G
  gr : Grow G0 H0 G H
  ln : σ.length = ρ.length
  sl : ∀ (i : Nat) (x : Sl), ρ[i]? = some x → SlOk W H0 G H (σ[i]?) x
  ds : ∀ (i j : Nat) (p : Addr) (l m : List D), ρ[i]? = some (.ow l) → ρ[j]? = some (.ow m) → σ[i]? = some (some (.ref p)) → σ[j]? = some (some (.ref p)) → i = j
section
variable {W : Wd} {B G0 H0 G H G' H' : Hp} {σ : St} {ρ : Rho}
theorem SlOk.grow {s : Option (Option V)} {x : Sl} (g : Grow G H G' H') (h : SlOk W H0 G H s x) : SlOk W H0 G' H' s x := by
  cases x with
  | no => trivial
  | va d =>
    obtain ⟨v, e, r⟩ := h
    exact ⟨v, e, r.mono g.g⟩
  | ow l =>
    obtain ⟨p, vs, e, h0, hg, hh, r⟩ := h
    exact ⟨p, vs, e, h0, g.hid p hg (by rw [hh]; exact fun z => nomatch z), g.h _ _ hh, r.mono g.g⟩
theorem EnvOk.grow (E : EnvOk W B G0 H0 G H σ ρ) (g : Grow G H G' H') : EnvOk W B G0 H0 G' H' σ ρ :=
  ⟨E.bs.trans g.g, E.gr.trans g, E.ln, fun i x e => (E.sl i x e).grow g, E.ds⟩
theorem EnvOk.i (E : EnvOk W B G0 H0 G H σ ρ) : Same G H := E.gr.i
theorem EnvOk.base (E : EnvOk W B G0 H0 G H σ ρ) {B' : Hp} (h : Same B' G) : EnvOk W B' G0 H0 G H σ ρ := ⟨h, E.gr, E.ln, E.sl, E.ds⟩
theorem EnvOk.va {i : Nat} {d : D} (E : EnvOk W B G0 H0 G H σ ρ) (e : ρ[i]? = some (.va d)) : ∃ v, σ[i]? = some (some v) ∧ Rep W G v d := E.sl i _ e
theorem EnvOk.ow {i : Nat} {l : List D} (E : EnvOk W B G0 H0 G H σ ρ) (e : ρ[i]? = some (.ow l)) : ∃ p vs, σ[i]? = some (some (.ref p)) ∧ H0 p = none ∧ G p = none ∧ H p = some (.lst vs) ∧ Reps W G vs l := E.sl i _ e
/-- a slot gets a datum -/
theorem EnvOk.set {i : Nat} {v : V} {d : D} (E : EnvOk W B G0 H0 G H σ ρ) (r : Rep W G v d) : EnvOk W B G0 H0 G H (σ.set i (some v)) (ρ.set i (.va d)) := by
  refine ⟨E.bs, E.gr, by rw [List.length_set, List.length_set]; exact E.ln, fun j x e => ?_, fun j k p l m e1 e2 e3 e4 => ?_⟩
  · by_cases hj : i = j
    · subst hj
      have hi : i < ρ.length := by
        have q := (List.getElem?_eq_some_iff.mp e).1
        rw [List.length_set] at q
        exact q
      rw [List.getElem?_set_self hi] at e
      cases e
      rw [List.getElem?_set_self (by rw [E.ln]; exact hi)]
      exact ⟨v, rfl, r⟩
    · rw [List.getElem?_set_ne hj] at e ⊢
      exact E.sl j x e
  · have h1 : i ≠ j := fun z => by
      subst z
      have hi : i < ρ.length := by
        have q := (List.getElem?_eq_some_iff.mp e1).1
        rw [List.length_set] at q
        exact q
      rw [List.getElem?_set_self hi] at e1
      cases e1
    have h2 : i ≠ k := fun z => by
      subst z
      have hi : i < ρ.length := by
        have q := (List.getElem?_eq_some_iff.mp e2).1
        rw [List.length_set] at q
        exact q
      rw [List.getElem?_set_self hi] at e2
      cases e2
    rw [List.getElem?_set_ne h1] at e1 e3
    rw [List.getElem?_set_ne h2] at e2 e4
    exact E.ds j k p l m e1 e2 e3 e4
/-- a slot gets a new own list -/
theorem EnvOk.setOw {i : Nat} {p : Addr} {vs : List V} {l : List D} (E : EnvOk W B G0 H0 G H σ ρ) (n : H p = none) (r : Reps W G vs l) : EnvOk W B G0 H0 G (upd H p (.lst vs)) (σ.set i (some (.ref p))) (ρ.set i (.ow l)) := by
  have g : Grow G H G (upd H p (.lst vs)) := Grow.newH E.i n
  have E' := E.grow g
  have old : ∀ (j : Nat) (m : List D) (q : Addr), ρ[j]? = some (.ow m) → σ[j]? = some (some (.ref q)) → q ≠ p := fun j m q e1 e2 z => by
    obtain ⟨q', vs', e3, _, _, h4, _⟩ := E.ow e1
    rw [e2] at e3
    cases e3
    rw [z, n] at h4
    cases h4
  refine ⟨E'.bs, E'.gr, by rw [List.length_set, List.length_set]; exact E.ln, fun j x e => ?_, fun j k q l' m e1 e2 e3 e4 => ?_⟩
  · by_cases hj : i = j
    · subst hj
      have hi : i < ρ.length := by
        have q := (List.getElem?_eq_some_iff.mp e).1
        rw [List.length_set] at q
        exact q
      rw [List.getElem?_set_self hi] at e
      cases e
      rw [List.getElem?_set_self (by rw [E.ln]; exact hi)]
      exact ⟨p, vs, rfl, E.gr.h.free n, E.i.free n, upd_same, r⟩
    · rw [List.getElem?_set_ne hj] at e ⊢
      exact E'.sl j x e
  · have hi : ∀ {y : Sl} {z : Nat}, i = z → (ρ.set i (.ow l))[z]? = some y → i < ρ.length := fun {y z} ez e => by
      subst ez
      have q := (List.getElem?_eq_some_iff.mp e).1
      rw [List.length_set] at q
      exact q
    by_cases h1 : i = j
    · by_cases h2 : i = k
      · exact h1.symm.trans h2
      · have hl := hi h1 e1
        subst h1
        rw [List.getElem?_set_self (by rw [E.ln]; exact hl)] at e3
        rw [List.getElem?_set_ne h2] at e2 e4
        cases e3
        exact absurd rfl (old k m p e2 e4)
    · by_cases h2 : i = k
      · have hl := hi h2 e2
        subst h2
        rw [List.getElem?_set_self (by rw [E.ln]; exact hl)] at e4
        rw [List.getElem?_set_ne h1] at e1 e3
        cases e4
        exact absurd rfl (old j l' p e1 e3)
      · rw [List.getElem?_set_ne h1] at e1 e3
        rw [List.getElem?_set_ne h2] at e2 e4
        exact E.ds j k q l' m e1 e2 e3 e4
/-- an own list changes -/
theorem EnvOk.chg {i : Nat} {p : Addr} {vs' : List V} {l l' : List D} (E : EnvOk W B G0 H0 G H σ ρ) (e : ρ[i]? = some (.ow l)) (es : σ[i]? = some (some (.ref p))) (r : Reps W G vs' l') :
    EnvOk W B G0 H0 G (upd H p (.lst vs')) σ (ρ.set i (.ow l')) := by
  obtain ⟨p', vs, e1, h0, hg, hh, _⟩ := E.ow e
  rw [es] at e1
  cases e1
  have hi : i < ρ.length := (List.getElem?_eq_some_iff.mp e).1
  refine ⟨E.bs, ⟨?_, E.gr.g, ?_, E.gr.hid⟩, by rw [List.length_set]; exact E.ln, fun j x ej => ?_, fun j k q m m' e1 e2 e3 e4 => ?_⟩
  · intro b o hb
    rw [upd_ne (ne_of_none hb h0)]
    exact E.gr.h b o hb
  · intro b o hb
    rw [upd_ne (ne_of_none hb hg)]
    exact E.gr.i b o hb
  · by_cases hj : i = j
    · subst hj
      rw [List.getElem?_set_self hi] at ej
      cases ej
      exact ⟨p, vs', es, h0, hg, upd_same, r⟩
    · rw [List.getElem?_set_ne hj] at ej
      have q := E.sl j x ej
      cases x with
      | no => trivial
      | va d => exact q
      | ow m =>
        obtain ⟨p2, vs2, e2, a1, a2, a3, a4⟩ := q
        refine ⟨p2, vs2, e2, a1, a2, ?_, a4⟩
        rw [upd_ne (fun z => hj (E.ds i j p l m e ej es (by rw [e2, z])))]
        exact a3
  · have cv : ∀ {z : Nat} {m : List D}, (ρ.set i (.ow l'))[z]? = some (.ow m) → ∃ m', ρ[z]? = some (.ow m') := fun {z m} ez => by
      by_cases hz : i = z
      · subst hz
        exact ⟨l, e⟩
      · rw [List.getElem?_set_ne hz] at ez
        exact ⟨m, ez⟩
    obtain ⟨m1, f1⟩ := cv e1
    obtain ⟨m2, f2⟩ := cv e2
    exact E.ds j k q m1 m2 f1 f2 e3 e4
/-- an own list is given out: it grows no more -/
theorem EnvOk.frz {i : Nat} {l : List D} (E : EnvOk W B G0 H0 G H σ ρ) (e : ρ[i]? = some (.ow l)) : ∃ G', Grow G0 H0 G' H ∧ EnvOk W B G0 H0 G' H σ (ρ.set i (.va (.lst l))) := by
  obtain ⟨p, vs, es, h0, hg, hh, r⟩ := E.ow e
  have hi : i < ρ.length := (List.getElem?_eq_some_iff.mp e).1
  have s1 : Same G (upd G p (.lst vs)) := same_upd hg
  have gr : Grow G0 H0 (upd G p (.lst vs)) H := ⟨E.gr.h, E.gr.g.trans s1, fun b o hb => by
      by_cases hbp : b = p
      · subst hbp
        rw [upd_same] at hb
        cases hb
        exact hh
      · rw [upd_ne hbp] at hb
        exact E.gr.i b o hb, fun q a b => by
      rw [upd_ne (fun z => b (by rw [z]; exact h0))]
      exact E.gr.hid q a b⟩
  refine ⟨upd G p (.lst vs), gr, E.bs.trans s1, gr, by rw [List.length_set]; exact E.ln, fun j x ej => ?_, fun j k q m m' e1 e2 e3 e4 => ?_⟩
  · by_cases hj : i = j
    · subst hj
      rw [List.getElem?_set_self hi] at ej
      cases ej
      exact ⟨_, es, .lst upd_same (r.mono s1)⟩
    · rw [List.getElem?_set_ne hj] at ej
      have q := E.sl j x ej
      cases x with
      | no => trivial
      | va d =>
        obtain ⟨v, e1, r1⟩ := q
        exact ⟨v, e1, r1.mono s1⟩
      | ow m =>
        obtain ⟨p2, vs2, e2, a1, a2, a3, a4⟩ := q
        refine ⟨p2, vs2, e2, a1, ?_, a3, a4.mono s1⟩
        rw [upd_ne (fun z => hj (E.ds i j p l m e ej es (by rw [e2, z])))]
        exact a2
  · have cv : ∀ {z : Nat} {m : List D}, (ρ.set i (.va (.lst l)))[z]? = some (.ow m) → ρ[z]? = some (.ow m) := fun {z m} ez => by
      by_cases hz : i = z
      · subst hz
        rw [List.getElem?_set_self hi] at ez
        cases ez
      · rw [List.getElem?_set_ne hz] at ez
        exact ez
    exact E.ds j k q m m' (cv e1) (cv e2) e3 e4
/-- what is known of slots is forgotten -/
def wipeR (ρ : Rho) : List Nat → Rho
  | [] => ρ
  | v :: vs => (wipeR ρ vs).set v .no
theorem EnvOk.no {i : Nat} {σ' : St} (E : EnvOk W B G0 H0 G H σ ρ) (h : ∀ j, j ≠ i → σ'[j]? = σ[j]?) (hl : σ'.length = σ.length) : EnvOk W B G0 H0 G H σ' (ρ.set i .no) := by
  have cv : ∀ {z : Nat} {y : Sl}, (ρ.set i .no)[z]? = some y → y = .no ∨ (z ≠ i ∧ ρ[z]? = some y) := fun {z y} ez => by
    by_cases hz : i = z
    · subst hz
      have hi : i < ρ.length := by
        have q := (List.getElem?_eq_some_iff.mp ez).1
        rw [List.length_set] at q
        exact q
      rw [List.getElem?_set_self hi] at ez
      cases ez
      exact .inl rfl
    · rw [List.getElem?_set_ne hz] at ez
      exact .inr ⟨fun q => hz q.symm, ez⟩
  refine ⟨E.bs, E.gr, by rw [List.length_set, hl]; exact E.ln, fun j x ej => ?_, fun j k q m m' e1 e2 e3 e4 => ?_⟩
  · rcases cv ej with q | ⟨hj, q⟩
    · rw [q]
      trivial
    · rw [h j hj]
      exact E.sl j x q
  · rcases cv e1 with z | ⟨hj, f1⟩
    · cases z
    · rcases cv e2 with z | ⟨hk, f2⟩
      · cases z
      · rw [h j hj] at e3
        rw [h k hk] at e4
        exact E.ds j k q m m' f1 f2 e3 e4
theorem EnvOk.wipe (E : EnvOk W B G0 H0 G H σ ρ) : ∀ vs : List Nat, EnvOk W B G0 H0 G H σ (wipeR ρ vs)
  | [] => E
  | _ :: vs => (E.wipe vs).no (fun _ _ => rfl) rfl
/-- .. in the frame too -/
theorem EnvOk.wipe2 (E : EnvOk W B G0 H0 G H σ ρ) : ∀ vs : List Nat, EnvOk W B G0 H0 G H (L2.wipe σ vs) (wipeR ρ vs)
  | [] => E
  | v :: vs => (E.wipe2 vs).no (fun j hj => by
      show ((L2.wipe σ vs).set v none)[j]? = _
      rw [List.getElem?_set_ne (fun z => hj z.symm)]) (by
      show ((L2.wipe σ vs).set v none).length = _
      rw [List.length_set])
end

/-! ### the judgements -/
/-- what is wanted of an own error -/
abbrev wF : WX := fun _ _ _ _ => False
abbrev wE (E : XK) : WX := fun c d _ H => E c d H
def RzX {α β : Type} (R : Hp → β → α → Prop) (W : Wd) (wi : WX) (G H : Hp) (σ : St) (Q : β → Hp → Prop) : Rz α → Prop
  | .ok a => ∀ b G' H', Grow G H G' H' → R G' b a → Q b H'
  | .er c => ∀ G' H', Grow G H G' H' → wi (.ref (W.ca c)) none σ H'
  | .bad => False
def tX {α β : Type} (R : Hp → β → α → Prop) (W : Wd) (wi : WX) (g : Rho → Rz α) : St → Hp → (β → Hp → Prop) → Prop := fun σ H Q =>
  ∃ B G0 H0 G ρ, EnvOk W B G0 H0 G H σ ρ ∧ RzX R W wi G H σ Q (g ρ)
abbrev tD (W : Wd) (wi : WX) (g : Rho → Rz D) : TE := tX (fun G v d => Rep W G v d) W wi g
abbrev tT (W : Wd) (wi : WX) (g : Rho → Rz Bool) : TT := tX (fun _ b c => b = c) W wi g
abbrev tA (W : Wd) (wi : WX) (g : Rho → Rz (List D)) : TA := tX (fun G vs ds => Reps W G vs ds) W wi g
section
variable {α β α' β' : Type} {R : Hp → β → α → Prop} {R' : Hp → β' → α' → Prop} {W : Wd} {wi : WX} {B G0 H0 G H G1 H1 : Hp} {σ : St} {ρ : Rho} {g : Rho → Rz α} {Q : β → Hp → Prop} {Q' : β' → Hp → Prop}
theorem RzX.grow {r : Rz α} (h : RzX R W wi G H σ Q r) (e : Grow G H G1 H1) : RzX R W wi G1 H1 σ Q r := by
  cases r with
  | ok a => exact fun b G' H' e' r' => h b G' H' (e.trans e') r'
  | er c => exact fun G' H' e' => h G' H' (e.trans e')
  | bad => exact h
/-- THE STEP: evaluate g, then go on -/
theorem tX_go {k : α → Rz α'} (E : EnvOk W B G0 H0 G H σ ρ) (h : RzX R' W wi G H σ Q' ((g ρ).bind k))
    (go : ∀ a b G1 H1, g ρ = .ok a → Grow G H G1 H1 → R G1 b a → EnvOk W B G0 H0 G1 H1 σ ρ → RzX R' W wi G1 H1 σ Q' (k a) → Q b H1) : tX R W wi g σ H Q := by
  refine ⟨B, G0, H0, G, ρ, E, ?_⟩
  cases e : g ρ with
  | ok a =>
    rw [e] at h
    exact fun b G1 H1 g1 r1 => go a b G1 H1 e g1 r1 (E.grow g1) (RzX.grow h g1)
  | er c =>
    rw [e] at h
    exact h
  | bad =>
    rw [e] at h
    exact h
theorem PE.imp {X : Cx} {e : Expr} {t t' : TE} (h : PE X e t) (f : ∀ σ H Q, t' σ H Q → t σ H Q) : PE X e t' := ⟨fun pins s σ H Q I hw => h.run pins s σ H Q I (f σ H Q hw)⟩
theorem PT.imp {X : Cx} {e : Expr} {t t' : TT} (h : PT X e t) (f : ∀ σ H Q, t' σ H Q → t σ H Q) : PT X e t' := ⟨fun pins s σ H Q I hw => h.run pins s σ H Q I (f σ H Q hw)⟩
theorem PW.imp {X : Cx} {e : Expr} {t t' : TT} (h : PW X e t) (f : ∀ σ H Q, t' σ H Q → t σ H Q) : PW X e t' := ⟨fun wh pins s σ H Q I hw => h.run wh pins s σ H Q I (f σ H Q hw)⟩
theorem PTs.imp {X : Cx} {e : List Expr} {t t' : TT} (h : PTs X e t) (f : ∀ σ H Q, t' σ H Q → t σ H Q) : PTs X e t' := ⟨fun pins s σ H Q I hw => h.run pins s σ H Q I (f σ H Q hw)⟩
theorem PA.imp {X : Cx} {e : List Expr} {t t' : TA} (h : PA X e t) (f : ∀ σ H Q, t' σ H Q → t σ H Q) : PA X e t' := ⟨fun pos pins s σ H Q I hw => h.run pos pins s σ H Q I (f σ H Q hw)⟩
theorem PS.imp {X : Cx} {e : Stmt} {t t' : TS} (h : PS X e t) (f : ∀ D σ H, t' D σ H → t D σ H) : PS X e t' := ⟨fun pins s σ H D I hw => h.run pins s σ H D I (f D σ H hw)⟩
theorem PSs.imp {X : Cx} {e : List Stmt} {t t' : TS} (h : PSs X e t) (f : ∀ D σ H, t' D σ H → t D σ H) : PSs X e t' := ⟨fun pins s σ H D I hw => h.run pins s σ H D I (f D σ H hw)⟩
theorem PI.imp {X : Cx} {tg e : Expr} {t t' : TI} (h : PI X tg e t) (f : ∀ σ H Q, t' σ H Q → t σ H Q) : PI X tg e t' := ⟨fun pins s σ H Q I hw => h.run pins s σ H Q I (f σ H Q hw)⟩
end

/-! ### statements -/
def SzD (W : Wd) (wi : WX) (B G0 H0 : Hp) (D : Ends) : Oc → Prop
  | .nx ρ' => ∀ σ' G' H', EnvOk W B G0 H0 G' H' σ' ρ' → D.nx σ' H'
  | .rt d => ∀ v G' H', Grow G0 H0 G' H' → Rep W G' v d → D.rt v H'
  | .er c ρ' => ∀ σ' G' H', EnvOk W B G0 H0 G' H' σ' ρ' → wi (.ref (W.ca c)) none σ' H'
  | .bad => False
def sD (W : Wd) (wi : WX) (s : Rho → Oc) : TS := fun D σ H => ∃ B G0 H0 G ρ, EnvOk W B G0 H0 G H σ ρ ∧ SzD W wi B G0 H0 D (s ρ)
/-- an expression's end within a statement -/
def rzS {α : Type} (ρ : Rho) (k : α → Oc) : Rz α → Oc
  | .ok a => k a
  | .er c => .er c ρ
  | .bad => .bad
section
variable {α β : Type} {R : Hp → β → α → Prop} {W : Wd} {wi : WX} {B G0 H0 G H : Hp} {σ : St} {ρ : Rho} {g : Rho → Rz α} {D : Ends} {Q : β → Hp → Prop}
theorem sD_go {k : α → Oc} (E : EnvOk W B G0 H0 G H σ ρ) (h : SzD W wi B G0 H0 D (rzS ρ k (g ρ)))
    (go : ∀ a b G1 H1, g ρ = .ok a → Grow G H G1 H1 → R G1 b a → EnvOk W B G0 H0 G1 H1 σ ρ → SzD W wi B G0 H0 D (k a) → Q b H1) : tX R W wi g σ H Q := by
  refine ⟨B, G0, H0, G, ρ, E, ?_⟩
  cases e : g ρ with
  | ok a =>
    rw [e] at h
    exact fun b G1 H1 g1 r1 => go a b G1 H1 e g1 r1 (E.grow g1) h
  | er c =>
    rw [e] at h
    exact fun G' H' g1 => h σ G' H' (E.grow g1)
  | bad =>
    rw [e] at h
    exact h
end
end FM
set_option Elab.async false
set_option linter.all false
set_option maxRecDepth 100000
set_option maxHeartbeats 4000000
/-! FM, part 2: expressions. -/
namespace FM
open PySem L2
variable {X : Cx} {W : Wd} {wi : WX} {pos : Pos} {a b c : Expr} {ga gb gc : Rho → Rz D}

/-! ### names, constants -/
def gVar (i : Nat) : Rho → Rz D := fun ρ => match ρ[i]? with
  | some (.va d) => .ok d
  | _ => .bad
def gC (d : D) : Rho → Rz D := fun _ => .ok d
theorem gVar_ok {i : Nat} {ρ : Rho} {d : D} (h : gVar i ρ = .ok d) : ρ[i]? = some (.va d) := by
  unfold gVar at h
  split at h
  · rename_i e
    cases h
    exact e
  · cases h
theorem gVar_cases (i : Nat) (ρ : Rho) : (∃ d, gVar i ρ = .ok d ∧ ρ[i]? = some (.va d)) ∨ gVar i ρ = .bad := by
  unfold gVar
  split
  · rename_i e
    exact .inl ⟨_, rfl, e⟩
  · exact .inr rfl
theorem sem_var {i : Nat} {σ : St} {H : Hp} {Q : VK} (h : tD W wi (gVar i) σ H Q) : tVar i σ H Q := by
  obtain ⟨B, G0, H0, G, ρ, E, h⟩ := h
  rcases gVar_cases i ρ with ⟨d, e, e2⟩ | e
  · rw [e] at h
    obtain ⟨v, es, r⟩ := E.va e2
    exact ⟨v, es, h v G H (Grow.refl E.i) r⟩
  · rw [e] at h
    exact h.elim
theorem dx_var (i : Nat) {x : Str} (hN : X.N[i]? = some x := by rfl) (hv : Vis X.env.scope x := by first | exact Or.inl rfl | exact Or.inr (Or.inl rfl) | exact Or.inr (Or.inr rfl)) (hd : (x == ("__debug__" : Str)) = false := by decide)
    (hcd : (x == ("__classdict__" : Str)) = false := by decide) : PE X (.Name x pos) (tD W wi (gVar i)) := PE.imp (pv i hN hv hd hcd) fun _ _ _ h => sem_var h
theorem sem_c {v : V} {d : D} (hr : ∀ G, Rep W G v d) {σ : St} {H : Hp} {Q : VK} (h : tD W wi (gC d) σ H Q) : tC v σ H Q := by
  obtain ⟨B, G0, H0, G, ρ, E, h⟩ := h
  exact h v G H (Grow.refl E.i) (hr G)
theorem dx_int {i : Int} {j : Nat} : PE X (.Constant (.int i) j pos) (tD W wi (gC (.int i))) := PE.imp pe_int fun _ _ _ h => sem_c (fun _ => .int i) h
theorem dx_bl {k : Bool} {j : Nat} : PE X (.Constant (.bool k) j pos) (tD W wi (gC (.bl k))) := PE.imp pe_bl fun _ _ _ h => sem_c (fun _ => .bl k) h
theorem dx_non {j : Nat} : PE X (.Constant .none j pos) (tD W wi (gC .non)) := PE.imp pe_non fun _ _ _ h => sem_c (fun _ => .non) h
theorem dx_str {s : Str} {j : Nat} : PE X (.Constant (.str s) j pos) (tD W wi (gC (.str s))) := PE.imp pe_str fun _ _ _ h => sem_c (fun _ => .str s) h
theorem dx_gint {x : Str} {i : Int} (hg : Gl X x) (hm : ∃ t, X.mg x = some (.int i t)) (hd : (x == ("__debug__" : Str)) = false := by decide) : PE X (.Name x pos) (tD W wi (gC (.int i))) := by
  obtain ⟨t, hm⟩ := hm
  exact PE.imp (pe_glob (v := .int i) hg hm ⟨t, rfl⟩ hd) fun _ _ _ h => sem_c (fun _ => .int i) h
theorem dx_gstr {x : Str} {s : Str} (hg : Gl X x) (hm : ∃ t, X.mg x = some (.str s t)) (hd : (x == ("__debug__" : Str)) = false := by decide) : PE X (.Name x pos) (tD W wi (gC (.str s))) := by
  obtain ⟨t, hm⟩ := hm
  exact PE.imp (pe_glob (v := .str s) hg hm ⟨t, rfl⟩ hd) fun _ _ _ h => sem_c (fun _ => .str s) h

/-! ### two-place operations by values -/
def OpD (W : Wd) (r : R2) (f : D → D → Rz D) : Prop :=
  ∀ (wi : WX) (σ : St) (G H : Hp) (v u : V) (x y : D) (Q : VK), Same G H → Rep W G v x → Rep W G u y → RzX (fun G v d => Rep W G v d) W wi G H σ Q (f x y) → r v u H Q
def gBin (f : D → D → Rz D) (ga gb : Rho → Rz D) : Rho → Rz D := fun ρ => (ga ρ).bind fun x => (gb ρ).bind fun y => f x y
theorem sem_bin {r : R2} {f : D → D → Rz D} (hop : OpD W r f) {σ : St} {H : Hp} {Q : VK} (h : tD W wi (gBin f ga gb) σ H Q) : tOp r (tD W wi ga) (tD W wi gb) σ H Q := by
  obtain ⟨B, G0, H0, G, ρ, E, h⟩ := h
  exact tX_go E h fun x v G1 H1 _ g1 r1 E1 h1 => tX_go E1 h1 fun y u G2 H2 _ g2 r2 E2 h2 => hop wi σ G2 H2 v u x y Q E2.i (r1.mono g2.g) r2 h2
theorem dx_bin {op : Operator} {r : R2} {f : D → D → Rz D} (ho : OpR X (binaryOp op) r) (hop : OpD W r f) (ha : PE X a (tD W wi ga)) (hb : PE X b (tD W wi gb)) : PE X (.BinOp a op b pos) (tD W wi (gBin f ga gb)) :=
  PE.imp (pe_op ho ha hb) fun _ _ _ h => sem_bin hop h
theorem or_op {f : Value → Value → Sem Value} {r r' : R2} (h : OpR X f r) (h' : OpR X f r') : OpR X f (fun x y H Q => r x y H Q ∨ r' x y H Q) := by
  intro pins s σ H x y v u Q I rx ry q
  rcases q with q | q
  · exact h pins s σ H x y v u Q I rx ry q
  · exact h' pins s σ H x y v u Q I rx ry q
/-- a value that is there already -/
theorem RzX.here {G H : Hp} {σ : St} {Q : VK} {v : V} {d : D} (h : RzX (fun G v d => Rep W G v d) W wi G H σ Q (.ok d)) (i : Same G H) (r : Rep W G v d) : Q v H := h v G H (Grow.refl i) r
/-- a new list, a new tuple -/
theorem RzX.newL {G H : Hp} {σ : St} {Q : VK} {vs : List V} {ds : List D} {p : Addr} (h : RzX (fun G v d => Rep W G v d) W wi G H σ Q (.ok (.lst ds))) (i : Same G H) (r : Reps W G vs ds) (n : H p = none) : Q (.ref p) (upd H p (.lst vs)) :=
  h _ (upd G p (.lst vs)) _ (Grow.new i n) (.lst upd_same (r.mono (same_upd (i.free n))))
theorem RzX.newT {G H : Hp} {σ : St} {Q : VK} {vs : List V} {ds : List D} {p : Addr} (h : RzX (fun G v d => Rep W G v d) W wi G H σ Q (.ok (.tup ds))) (i : Same G H) (r : Reps W G vs ds) (n : H p = none) : Q (.ref p) (upd H p (.tup vs)) :=
  h _ (upd G p (.tup vs)) _ (Grow.new i n) (.tup upd_same (r.mono (same_upd (i.free n))))
def lim : Nat := 100000
theorem lim_le {n : Nat} (h : n ≤ lim) : n ≤ sizeLine := Nat.le_trans h (by decide)
theorem lim_lt {n : Nat} (h : n ≤ lim) : n < sizeLine := Nat.lt_of_le_of_lt h (by decide)

/-! a + b -/
def addD : D → D → Rz D
  | .int i, .int j => .ok (.int (i + j))
  | .str s, .str t => if s.length + t.length ≤ lim then .ok (.str (s ++ t)) else .bad
  | .tup l, .tup m => if l.length + m.length ≤ lim then .ok (.tup (l ++ m)) else .bad
  | .lst l, .lst m => if l.length + m.length ≤ lim then .ok (.lst (l ++ m)) else .bad
  | _, _ => .bad
def rAddD (K : PySem.W.Frag) : R2 := fun x y H Q => (rI0 fun i j => .int (i + j)) x y H Q ∨ ((fun x y H Q => ∃ i j, x = .str i ∧ y = .str j ∧ i.length + j.length ≤ sizeLine ∧ Q (.str (i ++ j)) H) : R2) x y H Q ∨ rCatA K x y H Q ∨ rCat x y H Q
theorem op_addD : OpR X (binaryOp .Add) (rAddD X.K) := or_op op_add (or_op op_add_str (or_op op_catA op_cat))
theorem opd_add {K : PySem.W.Frag} : OpD W (rAddD K) addD := by
  intro wi σ G H v u x y Q i rx ry h
  unfold addD at h
  split at h
  · cases rx
    cases ry
    exact .inl ⟨_, _, rfl, rfl, h.here i (.int _)⟩
  · cases rx
    cases ry
    split at h
    · rename_i hl
      exact .inr (.inl ⟨_, _, rfl, rfl, lim_le hl, h.here i (.str _)⟩)
    · exact h.elim
  · rename_i l m
    split at h
    · rename_i hl
      cases rx with
      | @tup p vs _ hp rp =>
        cases ry with
        | @tup q us _ hq rq =>
          have e1 := rp.length
          have e2 := rq.length
          refine .inr (.inr (.inl ⟨p, q, vs, us, rfl, rfl, SqT.of (i _ _ hp), SqT.of (i _ _ hq), by rw [e1, e2]; exact lim_le hl, fun z => ?_, fun _ z => ?_, fun _ _ t ht => h.newT i (rp.append rq) ht⟩))
          · subst z
            cases rp
            exact h.here i (.tup hq rq)
          · subst z
            cases rq
            rw [List.append_nil] at h
            exact h.here i (.tup hp rp)
    · exact h.elim
  · rename_i l m
    split at h
    · rename_i hl
      cases rx with
      | @lst p vs _ hp rp =>
        cases ry with
        | @lst q us _ hq rq =>
          have e1 := rp.length
          have e2 := rq.length
          exact .inr (.inr (.inr ⟨p, q, vs, us, rfl, rfl, i _ _ hp, i _ _ hq, by rw [e1, e2]; exact lim_le hl, fun t ht => h.newL i (rp.append rq) ht⟩))
    · exact h.elim
  · exact h.elim
theorem dx_add (ha : PE X a (tD W wi ga)) (hb : PE X b (tD W wi gb)) : PE X (.BinOp a .Add b pos) (tD W wi (gBin addD ga gb)) := dx_bin op_addD opd_add ha hb
/-! a - b, a * b, a // b, a % b -/
def subD : D → D → Rz D
  | .int i, .int j => .ok (.int (i - j))
  | _, _ => .bad
theorem opd_sub : OpD W (rI0 fun i j => .int (i - j)) subD := by
  intro wi σ G H v u x y Q i rx ry h
  unfold subD at h
  split at h
  · cases rx
    cases ry
    exact ⟨_, _, rfl, rfl, h.here i (.int _)⟩
  · exact h.elim
theorem dx_sub (ha : PE X a (tD W wi ga)) (hb : PE X b (tD W wi gb)) : PE X (.BinOp a .Sub b pos) (tD W wi (gBin subD ga gb)) := dx_bin op_sub opd_sub ha hb
instance (i j : Int) : Decidable (CMul i j) := by unfold CMul; infer_instance
instance (i j : Int) : Decidable (CDiv i j) := by unfold CDiv; infer_instance
def mulD : D → D → Rz D
  | .int i, .int j => if CMul i j then .ok (.int (i * j)) else .bad
  | .lst l, .int k => if 0 ≤ k ∧ k < 1000 ∧ l.length * k.toNat ≤ lim then .ok (.lst (List.replicate k.toNat l).flatten) else .bad
  | _, _ => .bad
theorem Reps.flat {H : Hp} {vs : List V} {ds : List D} (r : Reps W H vs ds) : ∀ n : Nat, Reps W H (List.replicate n vs).flatten (List.replicate n ds).flatten
  | 0 => .nil
  | n + 1 => by
    rw [List.replicate_succ, List.replicate_succ, List.flatten_cons, List.flatten_cons]
    exact r.append (r.flat n)
theorem op_mulD : OpR X (binaryOp .Mult) (fun x y H Q => (rI CMul fun i j => .int (i * j)) x y H Q ∨ rRep x y H Q) := or_op op_mul op_rep
theorem opd_mul : OpD W (fun x y H Q => (rI CMul fun i j => .int (i * j)) x y H Q ∨ rRep x y H Q) mulD := by
  intro wi σ G H v u x y Q i rx ry h
  unfold mulD at h
  split at h
  · cases rx
    cases ry
    split at h
    · rename_i hc
      exact .inl ⟨_, _, rfl, rfl, hc, h.here i (.int _)⟩
    · exact h.elim
  · cases ry
    split at h
    · rename_i hc
      cases rx with
      | @lst p vs _ hp rp =>
        have e1 := rp.length
        exact .inr ⟨p, _, vs, rfl, rfl, i _ _ hp, by omega, by omega, by rw [e1]; exact lim_le hc.2.2, fun t ht => h.newL i (rp.flat _) ht⟩
    · exact h.elim
  · exact h.elim
theorem dx_mul (ha : PE X a (tD W wi ga)) (hb : PE X b (tD W wi gb)) : PE X (.BinOp a .Mult b pos) (tD W wi (gBin mulD ga gb)) := dx_bin op_mulD opd_mul ha hb
def divD : D → D → Rz D
  | .int i, .int j => if CDiv i j then .ok (.int (i / j)) else .bad
  | _, _ => .bad
theorem opd_div : OpD W (rI CDiv fun i j => .int (i / j)) divD := by
  intro wi σ G H v u x y Q i rx ry h
  unfold divD at h
  split at h
  · cases rx
    cases ry
    split at h
    · rename_i hc
      exact ⟨_, _, rfl, rfl, hc, h.here i (.int _)⟩
    · exact h.elim
  · exact h.elim
theorem dx_div (ha : PE X a (tD W wi ga)) (hb : PE X b (tD W wi gb)) : PE X (.BinOp a .FloorDiv b pos) (tD W wi (gBin divD ga gb)) := dx_bin op_fdiv opd_div ha hb
def modD : D → D → Rz D
  | .int i, .int j => if 0 < j then .ok (.int (i % j)) else .bad
  | _, _ => .bad
theorem opd_mod : OpD W (rI (fun _ j => 0 < j) fun i j => .int (i % j)) modD := by
  intro wi σ G H v u x y Q i rx ry h
  unfold modD at h
  split at h
  · cases rx
    cases ry
    split at h
    · rename_i hc
      exact ⟨_, _, rfl, rfl, hc, h.here i (.int _)⟩
    · exact h.elim
  · exact h.elim
theorem dx_mod (ha : PE X a (tD W wi ga)) (hb : PE X b (tD W wi gb)) : PE X (.BinOp a .Mod b pos) (tD W wi (gBin modD ga gb)) := dx_bin op_mod opd_mod ha hb
/-! -a -/
def gNeg (ga : Rho → Rz D) : Rho → Rz D := fun ρ => (ga ρ).bind fun x => match x with
  | .int i => .ok (.int (-i))
  | _ => .bad
theorem dx_neg (ha : PE X a (tD W wi ga)) : PE X (.UnaryOp .USub a pos) (tD W wi (gNeg ga)) := by
  refine PE.imp (pe_un un_neg ha) fun σ H Q h => ?_
  obtain ⟨B, G0, H0, G, ρ, E, h⟩ := h
  refine tX_go E h fun x v G1 H1 _ g1 r1 E1 h1 => ?_
  split at h1
  · cases r1
    exact ⟨_, rfl, h1.here E1.i (.int _)⟩
  · exact h1.elim

/-! ### comparisons by values -/
mutual
def D.py : D → Option PyData
  | .non => some .none
  | .bl b => some (.bool b)
  | .int i => some (.int i)
  | .str s => some (.str s)
  | .lst l => (pyAll l).map .list
  | .tup l => (pyAll l).map .tuple
  | _ => none
def pyAll : List D → Option (List PyData)
  | [] => some []
  | x :: xs => match D.py x, pyAll xs with
    | some d, some ds => some (d :: ds)
    | _, _ => none
end
mutual
theorem dp_of {H : Hp} {K : PySem.W.Frag} : ∀ {v : V} {x : D} {p : PyData}, Rep W H v x → x.py = some p → Dp K H v p
  | _, _, _, .non, e => by
    cases e
    exact .non
  | _, _, _, .bl b, e => by
    cases e
    exact .bl b
  | _, _, _, .int b, e => by
    cases e
    exact .int b
  | _, _, _, .str b, e => by
    cases e
    exact .str b
  | _, _, _, .lst (ds := ds) h r, e => by
    rw [D.py, Option.map_eq_some_iff] at e
    obtain ⟨q, e1, e2⟩ := e
    subst e2
    exact .lst (SqL.of h) (dps_of r e1)
  | _, _, _, .tup (ds := ds) h r, e => by
    rw [D.py, Option.map_eq_some_iff] at e
    obtain ⟨q, e1, e2⟩ := e
    subst e2
    exact .tup (SqT.of h) (dps_of r e1)
  | _, _, _, .scr _, e => by cases e
  | _, _, _, .set _ _ _, e => by cases e
  | _, _, _, .dic _, e => by cases e
  | _, _, _, .exc _, e => by cases e
theorem dps_of {H : Hp} {K : PySem.W.Frag} : ∀ {vs : List V} {xs : List D} {ps : List PyData}, Reps W H vs xs → pyAll xs = some ps → DpAll K H vs ps
  | _, _, _, .nil, e => by
    cases e
    exact .nil
  | _, _, _, .cons h t, e => by
    rw [pyAll] at e
    split at e
    · rename_i d ds e1 e2
      cases e
      exact .cons (dp_of h e1) (dps_of t e2)
    · cases e
end
def eqB (x y : D) : Option Bool := match x.py, y.py with
  | some p, some q => if SeqAt.shaped p = true ∧ SeqAt.shaped q = true then some (PyData.eqv p q) else none
  | _, _ => none
def eqD (x y : D) : Rz D := match eqB x y with
  | some k => .ok (.bl k)
  | none => .bad
def neD (x y : D) : Rz D := match eqB x y with
  | some k => .ok (.bl (!k))
  | none => .bad
theorem eqB_some {x y : D} {k : Bool} (h : eqB x y = some k) : ∃ p q, x.py = some p ∧ y.py = some q ∧ SeqAt.shaped p = true ∧ SeqAt.shaped q = true ∧ k = PyData.eqv p q := by
  unfold eqB at h
  split at h
  · rename_i p q e1 e2
    split at h
    · rename_i hs
      cases h
      exact ⟨p, q, e1, e2, hs.1, hs.2, rfl⟩
    · cases h
  · cases h
theorem opd_eq {K : PySem.W.Frag} : OpD W (rEqD K) eqD := by
  intro wi σ G H v u x y Q i rx ry h
  unfold eqD at h
  split at h
  · rename_i k e
    obtain ⟨p, q, e1, e2, s1, s2, rfl⟩ := eqB_some e
    exact ⟨p, q, dp_of (rx.mono i) e1, dp_of (ry.mono i) e2, s1, s2, h.here i (.bl _)⟩
  · exact h.elim
theorem opd_ne {K : PySem.W.Frag} : OpD W (rNeD K) neD := by
  intro wi σ G H v u x y Q i rx ry h
  unfold neD at h
  split at h
  · rename_i k e
    obtain ⟨p, q, e1, e2, s1, s2, rfl⟩ := eqB_some e
    exact ⟨p, q, dp_of (rx.mono i) e1, dp_of (ry.mono i) e2, s1, s2, h.here i (.bl _)⟩
  · exact h.elim
/-- ints -/
def leD : D → D → Rz D
  | .int i, .int j => .ok (.bl (decide (i ≤ j)))
  | _, _ => .bad
def geD : D → D → Rz D
  | .int i, .int j => .ok (.bl (decide (j ≤ i)))
  | _, _ => .bad
def gtD : D → D → Rz D
  | .int i, .int j => .ok (.bl (decide (j < i)))
  | _, _ => .bad
theorem opd_le : OpD W (rI0 fun i j => .bl (decide (i ≤ j))) leD := by
  intro wi σ G H v u x y Q i rx ry h
  unfold leD at h
  split at h
  · cases rx
    cases ry
    exact ⟨_, _, rfl, rfl, h.here i (.bl _)⟩
  · exact h.elim
theorem opd_ge : OpD W (rI0 fun i j => .bl (decide (j ≤ i))) geD := by
  intro wi σ G H v u x y Q i rx ry h
  unfold geD at h
  split at h
  · cases rx
    cases ry
    exact ⟨_, _, rfl, rfl, h.here i (.bl _)⟩
  · exact h.elim
theorem opd_gt : OpD W (rI0 fun i j => .bl (decide (j < i))) gtD := by
  intro wi σ G H v u x y Q i rx ry h
  unfold gtD at h
  split at h
  · cases rx
    cases ry
    exact ⟨_, _, rfl, rfl, h.here i (.bl _)⟩
  · exact h.elim
end FM
set_option Elab.async false
set_option linter.all false
set_option maxRecDepth 100000
set_option maxHeartbeats 4000000
/-! FM, part 3: tests, subscripts, displays. -/
namespace FM
open PySem L2
variable {X : Cx} {W : Wd} {wi : WX} {pos : Pos} {a b c d : Expr} {ga gb gc gd : Rho → Rz D}

/-! ### a < b of alike data -/
def notNone : PyData → Bool
  | .none => false
  | _ => true
def ltB (x y : D) : Option Bool := match x.py, y.py with
  | some p, some q => if PySem.W.alike p q = true ∧ notNone p = true ∧ p.depth ≤ 64 then some (PySem.W.dataLt p q) else none
  | _, _ => none
def ltD (x y : D) : Rz D := match x, y with
  | .int i, .int j => .ok (.bl (decide (i < j)))
  | x, y => match ltB x y with
    | some k => .ok (.bl k)
    | none => .bad
def rLtD (K : PySem.W.Frag) : R2 := fun x y H Q => ∃ p q, Dp K H x p ∧ Dp K H y q ∧ PySem.W.alike p q = true ∧ p ≠ .none ∧ p.depth ≤ 64 ∧ Q (.bl (PySem.W.dataLt p q)) H
theorem op_ltDd (hu : X.A.units + 64 < cLine) : OpR X (compareOp .Lt) (rLtD X.K) := by
  intro pins s σ H x y v u Q I rx ry h
  obtain ⟨p, q, hp, hq, al, hn, hd, k⟩ := h
  obtain ⟨as, r1⟩ := Dp.reads I p x v hp rx
  obtain ⟨bs, r2⟩ := Dp.reads I q y u hq ry
  have hm : X.A.units + min p.depth q.depth < cLine := by
    have := Nat.min_le_left p.depth q.depth
    omega
  exact PySem.W.rcLt_alike p q X.A s v u as bs r1 r2 al hn hm X.prog X.w X.xe _ ⟨.bl _, H, I, rfl, k⟩
def rLtA (K : PySem.W.Frag) : R2 := fun x y H Q => (rI0 fun i j => .bl (decide (i < j))) x y H Q ∨ rLtD K x y H Q
theorem op_ltA (hu : X.A.units + 64 < cLine) : OpR X (compareOp .Lt) (rLtA X.K) := or_op op_lt (op_ltDd hu)
theorem opd_lt {K : PySem.W.Frag} : OpD W (rLtA K) ltD := by
  intro wi σ G H v u x y Q i rx ry h
  unfold ltD at h
  split at h
  · cases rx
    cases ry
    exact .inl ⟨_, _, rfl, rfl, h.here i (.bl _)⟩
  · split at h
    · rename_i k e
      unfold ltB at e
      split at e
      · rename_i p q e1 e2
        split at e
        · rename_i hs
          cases e
          exact .inr ⟨p, q, dp_of (rx.mono i) e1, dp_of (ry.mono i) e2, hs.1, (fun z => by rw [z] at hs; exact Bool.noConfusion hs.2.1), hs.2.2, h.here i (.bl _)⟩
        · cases e
      · cases e
    · exact h.elim

/-! ### in, not in -/
/-- a row of ints -/
def intsOf : List D → Option (List Int)
  | [] => some []
  | .int i :: r => (intsOf r).map (i :: ·)
  | _ :: _ => none
theorem intsOf_some : ∀ {l : List D} {ns : List Int}, intsOf l = some ns → l = ns.map D.int
  | [], _, h => by
    cases h
    rfl
  | .int i :: r, ns, h => by
    rw [intsOf, Option.map_eq_some_iff] at h
    obtain ⟨m, h1, h2⟩ := h
    subst h2
    rw [intsOf_some h1]
    rfl
@[simp] theorem intsOf_map : ∀ ns : List Int, intsOf (ns.map D.int) = some ns
  | [] => rfl
  | n :: r => by
    rw [List.map_cons, intsOf, intsOf_map r]
    rfl
theorem inV_ints (i : Int) : ∀ ns : List Int, inV (.int i) (ns.map V.int) = decide (i ∈ ns)
  | [] => rfl
  | n :: r => by
    have ih := inV_ints i r
    unfold inV at ih ⊢
    rw [List.map_cons, List.any_cons, ih]
    have e : eqV (.int n) (.int i) = decide (n = i) := rfl
    rw [e]
    by_cases h : n = i
    · subst h
      simp
    · have h' : ¬ i = n := fun z => h z.symm
      simp [h, h']
theorem flat_ints : ∀ ns : List Int, (ns.map V.int).all flatV = true
  | [] => rfl
  | n :: r => by
    rw [List.map_cons, List.all_cons, flat_ints r]
    rfl
def hasD (x : D) (l : List D) : Option Bool := match x.py, pyAll l with
  | some p, some ps => if SeqAt.shaped p = true ∧ SeqAt.shaped (.list ps) = true then some (ps.any fun z => PyData.eqv z p) else none
  | _, _ => none
def inB : D → D → Option Bool
  | .int i, .lst l => match intsOf l with
    | some ns => some (decide (i ∈ ns))
    | none => none
  | .int i, .tup l => match intsOf l with
    | some ns => some (decide (i ∈ ns))
    | none => none
  | .str s, .str t => if h : s.cps.size = 1 then some (decide (s.cps[0] ∈ t.cps.toList)) else none
  | .int i, .dic l => some ((l.find? fun p => decide (p.1 = i)).isSome)
  | x, .lst l => hasD x l
  | _, _ => none
def inD (neg : Bool) (x y : D) : Rz D := match inB x y with
  | some k => .ok (.bl (if neg then !k else k))
  | none => .bad
def rInA (K : PySem.W.Frag) (neg : Bool) : R2 := fun x y H Q => rIn K neg x y H Q ∨ ((fun x y H Q => ∃ (c : Nat) (z : Str), x = .str ⟨#[c]⟩ ∧ y = .str z ∧ Q (.bl (if neg then !decide (c ∈ z.cps.toList) else decide (c ∈ z.cps.toList))) H) : R2) x y H Q ∨ (if neg then rNotInD K x y H Q else rInD K x y H Q)
theorem op_inA (hu : X.A.units + 65 < cLine) : OpR X (compareOp .In) (rInA X.K false) := or_op op_in_seq (or_op op_in_sign (op_inD hu))
theorem op_notInA (hu : X.A.units + 65 < cLine) : OpR X (compareOp .NotIn) (rInA X.K true) := or_op op_notIn_seq (or_op op_notIn_sign (op_notInD hu))
def isDic : D → Bool
  | .dic _ => true
  | _ => false
def inND (neg : Bool) (x y : D) : Rz D := if isDic y then .bad else inD neg x y
theorem str_one {s : Str} (h : s.cps.size = 1) : s = ⟨#[s.cps[0]]⟩ := by
  obtain ⟨c⟩ := s
  obtain ⟨l⟩ := c
  match l, h with
  | [x], _ => rfl
theorem hasD_some {x : D} {l : List D} {k : Bool} (h : hasD x l = some k) : ∃ p ps, x.py = some p ∧ pyAll l = some ps ∧ SeqAt.shaped p = true ∧ SeqAt.shaped (.list ps) = true ∧ k = ps.any fun z => PyData.eqv z p := by
  unfold hasD at h
  split at h
  · rename_i p ps e1 e2
    split at h
    · rename_i hs
      cases h
      exact ⟨p, ps, e1, e2, hs.1, hs.2, rfl⟩
    · cases h
  · cases h
theorem opd_in {K : PySem.W.Frag} {neg : Bool} : OpD W (rInA K neg) (inND neg) := by
  intro wi σ G H v u x y Q i rx ry h
  unfold inND at h
  split at h
  · exact h.elim
  rename_i hd
  unfold inD at h
  split at h
  · rename_i k e
    have fin : Q (.bl (if neg = true then !k else k)) H := h.here i (.bl _)
    have big : ∀ l, y = .lst l → hasD x l = some k → rInA K neg v u H Q := fun l hy hh => by
      subst hy
      cases ry with
      | @lst p vs _ hp rp =>
        obtain ⟨q, qs, e1, e2, s1, s2, e3⟩ := hasD_some hh
        subst e3
        refine .inr (.inr ?_)
        cases neg with
        | true => exact ⟨q, qs, dp_of (rx.mono i) e1, .lst (SqL.of (i _ _ hp)) (dps_of (rp.mono i) e2), s1, s2, fin⟩
        | false => exact ⟨q, qs, dp_of (rx.mono i) e1, .lst (SqL.of (i _ _ hp)) (dps_of (rp.mono i) e2), s1, s2, fin⟩
    unfold inB at e
    split at e
    · rename_i l
      split at e
      · rename_i ns el
        cases e
        have el' := intsOf_some el
        subst el'
        cases rx
        cases ry with
        | @lst p vs _ hp rp =>
          have ev := Reps.of_ints rp
          subst ev
          refine .inl ⟨p, _, rfl, .inl (SqL.of (i _ _ hp)), rfl, flat_ints ns, ?_⟩
          rw [inV_ints]
          exact fin
      · cases e
    · rename_i l
      split at e
      · rename_i ns el
        cases e
        have el' := intsOf_some el
        subst el'
        cases rx
        cases ry with
        | @tup p vs _ hp rp =>
          have ev := Reps.of_ints rp
          subst ev
          refine .inl ⟨p, _, rfl, .inr (SqT.of (i _ _ hp)), rfl, flat_ints ns, ?_⟩
          rw [inV_ints]
          exact fin
      · cases e
    · split at e
      · rename_i s t hs
        cases e
        cases rx
        cases ry
        exact .inr (.inl ⟨s.cps[0], t, by rw [← str_one hs], rfl, fin⟩)
      · cases e
    · exact absurd rfl hd
    · exact big _ rfl e
    · cases e
  · exact h.elim

/-! ### comparisons as values, as tests -/
def asB : D → Rz Bool
  | .bl k => .ok k
  | _ => .bad
def gTst (g : Rho → Rz D) : Rho → Rz Bool := fun ρ => (g ρ).bind asB
theorem sem_tst {g : Rho → Rz D} {σ : St} {H : Hp} {Q : Bool → Hp → Prop} (h : tT W wi (gTst g) σ H Q) : tTest (tD W wi g) σ H Q := by
  obtain ⟨B, G0, H0, G, ρ, E, h⟩ := h
  refine tX_go E h fun x v G1 H1 _ g1 r1 E1 h1 => ?_
  unfold asB at h1
  split at h1
  · cases r1
    exact ⟨_, rfl, h1 _ G1 H1 (Grow.refl E1.i) rfl⟩
  · exact h1.elim
theorem dx_cmp {op : CmpOp} {r : R2} {f : D → D → Rz D} (ho : OpR X (compareOp op) r) (hop : OpD W r f) (ha : PE X a (tD W wi ga)) (hb : PE X b (tD W wi gb)) (hm : behindInMarks op b = false) : PE X (.Compare a [op] [b] pos) (tD W wi (gBin f ga gb)) :=
  PE.imp (pe_cmpR ho ha hb hm) fun _ _ _ h => sem_bin hop h
theorem dt_cmp {op : CmpOp} {r : R2} {f : D → D → Rz D} (ho : OpR X (compareOp op) r) (hop : OpD W r f) (ha : PE X a (tD W wi ga)) (hb : PE X b (tD W wi gb)) (hm : behindInMarks op b = false) : PT X (.Compare a [op] [b] pos) (tT W wi (gTst (gBin f ga gb))) :=
  PT.imp (pt_cmpR ho ha hb hm) fun _ _ _ h => sem_bin hop (sem_tst h)
/-- a op b op' c -/
def gCh (f f' : D → D → Rz D) (ga gb gc : Rho → Rz D) : Rho → Rz D := fun ρ => (ga ρ).bind fun x => (gb ρ).bind fun y => (f x y).bind fun z => (asB z).bind fun k => if k then (gc ρ).bind fun w => f' y w else .ok (.bl false)
theorem sem_ch {r r' : R2} {f f' : D → D → Rz D} (hop : OpD W r f) (hop' : OpD W r' f') {σ : St} {H : Hp} {Q : VK} (h : tD W wi (gCh f f' ga gb gc) σ H Q) : tChain r r' (tD W wi ga) (tD W wi gb) (tD W wi gc) σ H Q := by
  obtain ⟨B, G0, H0, G, ρ, E, h⟩ := h
  refine tX_go E h fun x v G1 H1 _ g1 r1 E1 h1 => tX_go E1 h1 fun y u G2 H2 _ g2 r2 E2 h2 => ?_
  refine hop wi σ G2 H2 v u x y _ E2.i (r1.mono g2.g) r2 ?_
  cases e : f x y with
  | ok z =>
    rw [e] at h2
    intro t G3 H3 g3 r3
    have h3 := RzX.grow h2 g3
    have E3 := E2.grow g3
    rw [Rz.ok_bind] at h3
    unfold asB at h3
    split at h3
    · rename_i z k
      cases r3
      refine ⟨k, rfl, ?_⟩
      rw [Rz.ok_bind] at h3
      cases k with
      | true => exact tX_go (k := fun w => f' y w) E3 h3 fun w t G4 H4 _ g4 r4 E4 h4 => hop' wi σ G4 H4 u t y w Q E4.i (r2.mono (g3.g.trans g4.g)) r4 h4
      | false => exact h3.here E3.i (.bl _)
    · exact h3.elim
  | er c =>
    rw [e] at h2
    exact h2
  | bad =>
    rw [e] at h2
    exact h2
theorem dx_ch {op op' : CmpOp} {r r' : R2} {f f' : D → D → Rz D} (ho : OpR X (compareOp op) r) (hop : OpD W r f) (ho' : OpR X (compareOp op') r') (hop' : OpD W r' f') (ha : PE X a (tD W wi ga)) (hb : PE X b (tD W wi gb)) (hc : PE X c (tD W wi gc))
    (hm : lastMarks [op, op'] [b, c] = false := by with_unfolding_all rfl) : PE X (.Compare a [op, op'] [b, c] pos) (tD W wi (gCh f f' ga gb gc)) := PE.imp (pe_chain ho ho' ha hb hc hm) fun _ _ _ h => sem_ch hop hop' h
theorem dt_ch {op op' : CmpOp} {r r' : R2} {f f' : D → D → Rz D} (ho : OpR X (compareOp op) r) (hop : OpD W r f) (ho' : OpR X (compareOp op') r') (hop' : OpD W r' f') (ha : PE X a (tD W wi ga)) (hb : PE X b (tD W wi gb)) (hc : PE X c (tD W wi gc))
    (hm : lastMarks [op, op'] [b, c] = false := by with_unfolding_all rfl) : PT X (.Compare a [op, op'] [b, c] pos) (tT W wi (gTst (gCh f f' ga gb gc))) := PT.imp (pt_chain ho ho' ha hb hc hm) fun _ _ _ h => sem_ch hop hop' (sem_tst h)
/-- a <= b < c < d, as a test -/
def tCh3 (r r' r'' : R2) (ta tb tc td : TE) : TT := fun σ H Q => ta σ H fun x H1 => tb σ H1 fun y H2 => r x y H2 fun z H3 => ∃ k, z = .bl k ∧
  (if k = true then tc σ H3 fun w H4 => r' y w H4 fun z' H5 => ∃ k', z' = .bl k' ∧ (if k' = true then td σ H5 fun w' H6 => r'' w w' H6 fun z'' H7 => ∃ k'', z'' = .bl k'' ∧ Q k'' H7 else Q false H5) else Q false H3)
theorem pt_ch3 {op op' op'' : CmpOp} {r r' r'' : R2} {ta tb tc td : TE} (ho : OpR X (compareOp op) r) (ho' : OpR X (compareOp op') r') (ho'' : OpR X (compareOp op'') r'') (ha : PE X a ta) (hb : PE X b tb) (hc : PE X c tc) (hd : PE X d td)
    (hm : lastMarks [op, op', op''] [b, c, d] = false := by with_unfolding_all rfl) : PT X (.Compare a [op, op', op''] [b, c, d] pos) (tCh3 r r' r'' ta tb tc td) := by
  refine ⟨fun pins s σ H Q I h => ?_⟩
  refine PyProof.Rows.isTrue_chain (thn (ha.run pins s σ H _ I h) fun v s1 ⟨x, H1, I1, r1, q1⟩ => PyProof.Rows.test_link (thn (hb.run pins s1 σ H1 _ I1 q1) fun u s2 ⟨y, H2, I2, r2, q2⟩ =>
    thn (ho pins s2 σ H2 x y v u _ I2 r1 r2 q2) fun e s3 ⟨z, H3, I3, r3, k, ez, q3⟩ => ?_)) hm
  subst ez
  cases r3
  refine wpAny_truthy_bool ?_
  cases k with
  | false => exact ⟨H3, I3, q3⟩
  | true =>
    refine PyProof.Rows.test_link (thn (hc.run pins s3 σ H3 _ I3 q3) fun w s4 ⟨z', H4, I4, r4, q4⟩ => thn (ho' pins s4 σ H4 y z' u w _ I4 r2 r4 q4) fun e' s5 ⟨z2, H5, I5, r5, k', ez', q5⟩ => ?_)
    subst ez'
    cases r5
    refine wpAny_truthy_bool ?_
    cases k' with
    | false => exact ⟨H5, I5, q5⟩
    | true =>
      refine PyProof.Rows.test_last (thn (hd.run pins s5 σ H5 _ I5 q5) fun w' s6 ⟨z3, H6, I6, r6, q6⟩ => thn (ho'' pins s6 σ H6 z' z3 w w' _ I6 r4 r6 q6) fun e'' s7 ⟨z4, H7, I7, r7, k'', ez'', q7⟩ => ?_)
      subst ez''
      cases r7
      exact wpAny_truthy_bool ⟨H7, I7, q7⟩
def gCh3 (f f' f'' : D → D → Rz D) (ga gb gc gd : Rho → Rz D) : Rho → Rz Bool := fun ρ => (ga ρ).bind fun x => (gb ρ).bind fun y => (f x y).bind fun z => (asB z).bind fun k => if k then
  (gc ρ).bind fun w => (f' y w).bind fun z' => (asB z').bind fun k' => if k' then (gd ρ).bind fun w' => (f'' w w').bind asB else .ok false else .ok false
/-- a step by values that gives a truth -/
theorem op_then {α β : Type} {R : Hp → β → α → Prop} {r : R2} {f : D → D → Rz D} (hop : OpD W r f) {σ : St} {G H : Hp} {Q : β → Hp → Prop} {v u : V} {x y : D} {k : D → Rz α} (i : Same G H) (rx : Rep W G v x) (ry : Rep W G u y) (h : RzX R W wi G H σ Q ((f x y).bind k))
    {Q' : VK} (go : ∀ z t G1 H1, f x y = .ok z → Grow G H G1 H1 → Rep W G1 t z → RzX R W wi G1 H1 σ Q (k z) → Q' t H1) : r v u H Q' := by
  refine hop wi σ G H v u x y _ i rx ry ?_
  cases e : f x y with
  | ok z =>
    rw [e] at h
    exact fun t G1 H1 g1 r1 => go z t G1 H1 e g1 r1 (RzX.grow h g1)
  | er c =>
    rw [e] at h
    exact h
  | bad =>
    rw [e] at h
    exact h
theorem asB_then {α β : Type} {R : Hp → β → α → Prop} {σ : St} {G H : Hp} {Q : β → Hp → Prop} {t : V} {z : D} {k : Bool → Rz α} (r : Rep W G t z) (h : RzX R W wi G H σ Q ((asB z).bind k)) : ∃ b, t = .bl b ∧ RzX R W wi G H σ Q (k b) := by
  unfold asB at h
  split at h
  · cases r
    exact ⟨_, rfl, h⟩
  · exact h.elim
theorem dt_ch3 {op op' op'' : CmpOp} {r r' r'' : R2} {f f' f'' : D → D → Rz D} (ho : OpR X (compareOp op) r) (hop : OpD W r f) (ho' : OpR X (compareOp op') r') (hop' : OpD W r' f') (ho'' : OpR X (compareOp op'') r'') (hop'' : OpD W r'' f'')
    (ha : PE X a (tD W wi ga)) (hb : PE X b (tD W wi gb)) (hc : PE X c (tD W wi gc)) (hd : PE X d (tD W wi gd)) (hm : lastMarks [op, op', op''] [b, c, d] = false := by with_unfolding_all rfl) :
    PT X (.Compare a [op, op', op''] [b, c, d] pos) (tT W wi (gCh3 f f' f'' ga gb gc gd)) := by
  refine PT.imp (pt_ch3 ho ho' ho'' ha hb hc hd hm) fun σ H Q h => ?_
  obtain ⟨B, G0, H0, G, ρ, E, h⟩ := h
  refine tX_go E h fun x v G1 H1 _ g1 r1 E1 h1 => tX_go E1 h1 fun y u G2 H2 _ g2 r2 E2 h2 => ?_
  refine op_then hop E2.i (r1.mono g2.g) r2 h2 fun z t G3 H3 _ g3 r3 h3 => ?_
  obtain ⟨k, e, h3⟩ := asB_then r3 h3
  have E3 := E2.grow g3
  refine ⟨k, e, ?_⟩
  cases k with
  | false => exact h3 _ G3 H3 (Grow.refl E3.i) rfl
  | true =>
    refine tX_go (k := fun w => (f' y w).bind fun z' => (asB z').bind fun k' => if k' then (gd ρ).bind fun w' => (f'' w w').bind asB else .ok false) E3 h3 fun w t2 G4 H4 _ g4 r4 E4 h4 => ?_
    refine op_then hop' E4.i (r2.mono (g3.g.trans g4.g)) r4 h4 fun z' t3 G5 H5 _ g5 r5 h5 => ?_
    obtain ⟨k', e', h5⟩ := asB_then r5 h5
    have E5 := E4.grow g5
    refine ⟨k', e', ?_⟩
    cases k' with
    | false => exact h5 _ G5 H5 (Grow.refl E5.i) rfl
    | true =>
      refine tX_go (k := fun w' => (f'' w w').bind asB) E5 h5 fun w' t4 G6 H6 _ g6 r6 E6 h6 => ?_
      refine op_then hop'' E6.i (r4.mono (g5.g.trans g6.g)) r6 h6 fun z'' t5 G7 H7 _ g7 r7 h7 => ?_
      have h7' : RzX (fun _ b c => b = c) W wi G7 H7 σ Q ((asB z'').bind .ok) := by
        cases e : asB z'' with
        | ok k =>
          rw [e] at h7
          exact h7
        | er c =>
          rw [e] at h7
          exact h7
        | bad =>
          rw [e] at h7
          exact h7
      obtain ⟨k'', e'', h8⟩ := asB_then r7 h7'
      exact ⟨k'', e'', h8 _ G7 H7 (Grow.refl (E6.grow g7).i) rfl⟩

/-! ### truth -/
def truD : D → Rz Bool
  | .non => .ok false
  | .bl k => .ok k
  | .int i => .ok (i != 0)
  | .str s => if s.length ≤ lim then .ok ((s.length : Int) != 0) else .bad
  | .lst l => .ok (!l.isEmpty)
  | .tup l => .ok (!l.isEmpty)
  | .scr l => .ok (!l.isEmpty)
  | _ => .bad
theorem reps_empty {H : Hp} {vs : List V} {ds : List D} (r : Reps W H vs ds) : (!ds.isEmpty) = !vs.isEmpty := by
  cases r <;> rfl
theorem truD_noer (z : D) (c : Ec) : truD z ≠ .er c := by
  intro h
  cases z with
  | str s =>
    have e : truD (.str s) = if s.length ≤ lim then .ok ((s.length : Int) != 0) else .bad := rfl
    rw [e] at h
    split at h <;> exact nomatch h
  | non => exact nomatch h
  | bl b => exact nomatch h
  | int b => exact nomatch h
  | lst b => exact nomatch h
  | tup b => exact nomatch h
  | scr b => exact nomatch h
  | set b => exact nomatch h
  | dic b => exact nomatch h
  | exc b => exact nomatch h
theorem tru_of {G H : Hp} {v : V} {x : D} {k : Bool} (i : Same G H) (r : Rep W G v x) (h : truD x = .ok k) : TruV W.K v H k := by
  cases r with
  | non =>
    cases h
    rfl
  | bl b =>
    cases h
    rfl
  | int b =>
    cases h
    rfl
  | str s =>
    have e : truD (.str s) = if s.length ≤ lim then .ok ((s.length : Int) != 0) else .bad := rfl
    rw [e] at h
    split at h
    · rename_i hl
      cases h
      exact ⟨lim_le hl, rfl⟩
    · cases h
  | lst hp rp =>
    cases h
    exact .inl ⟨_, SqL.of (i _ _ hp), reps_empty rp⟩
  | tup hp rp =>
    cases h
    exact .inr (.inl ⟨_, SqT.of (i _ _ hp), reps_empty rp⟩)
  | scr hp =>
    cases h
    refine .inl ⟨_, i.seq hp, ?_⟩
    rename_i l
    cases l <;> rfl
  | set _ _ _ => cases h
  | dic _ => cases h
  | exc _ => cases h
def gTru (g : Rho → Rz D) : Rho → Rz Bool := fun ρ => (g ρ).bind truD
theorem tru_then {α β : Type} {R : Hp → β → α → Prop} {σ : St} {G H : Hp} {Q : β → Hp → Prop} {t : V} {z : D} {k : Bool → Rz α} (i : Same G H) (r : Rep W G t z) (h : RzX R W wi G H σ Q ((truD z).bind k)) : ∃ b, TruV W.K t H b ∧ RzX R W wi G H σ Q (k b) := by
  cases e : truD z with
  | ok b =>
    rw [e] at h
    exact ⟨b, tru_of i r e, h⟩
  | er c =>
    exfalso
    exact truD_noer z c e
  | bad =>
    rw [e] at h
    exact h.elim
theorem rz_pure {α β : Type} {R : Hp → β → α → Prop} {σ : St} {G H : Hp} {Q : β → Hp → Prop} {r : Rz α} (h : RzX R W wi G H σ Q r) : RzX R W wi G H σ Q (r.bind .ok) := by
  cases r <;> exact h
theorem dt_tru {e : Expr} {g : Rho → Rz D} (hK : X.K = W.K) (he : PE X e (tD W wi g)) (hi : ∀ whole, isTrue e X.env whole = (do let v ← whole; standAt e.pos; holding [v] (truthy v)) := by intro _; rfl) : PT X e (tT W wi (gTru g)) := by
  refine PT.imp (pt_truth he hi) fun σ H Q h => ?_
  obtain ⟨B, G0, H0, G, ρ, E, h⟩ := h
  refine tX_go E h fun x v G1 H1 _ g1 r1 E1 h1 => ?_
  obtain ⟨k, e, h2⟩ := tru_then E1.i r1 (rz_pure h1)
  rw [hK]
  exact ⟨k, e, h2 _ G1 H1 (Grow.refl E1.i) rfl⟩
/-! and, or, not -/
section
variable {p q : Rho → Rz Bool} {rest : List Expr}
def gNot (p : Rho → Rz Bool) : Rho → Rz Bool := fun ρ => (p ρ).bind fun k => .ok (!k)
def gAnd (p q : Rho → Rz Bool) : Rho → Rz Bool := fun ρ => (p ρ).bind fun k => if k then q ρ else .ok false
def gOr (p q : Rho → Rz Bool) : Rho → Rz Bool := fun ρ => (p ρ).bind fun k => if k then .ok true else q ρ
theorem dt_not (ha : PT X a (tT W wi p)) : PT X (.UnaryOp .Not a pos) (tT W wi (gNot p)) := by
  refine PT.imp (pt_not ha) fun σ H Q h => ?_
  obtain ⟨B, G0, H0, G, ρ, E, h⟩ := h
  refine tX_go E h fun k v G1 H1 _ g1 r1 E1 h1 => ?_
  subst r1
  exact h1 _ G1 H1 (Grow.refl E1.i) rfl
theorem dw_and1 (ha : PT X a (tT W wi p)) : PW X (.BoolOp .And [a] pos) (tT W wi p) := pw_and1 ha
theorem dw_or1 (ha : PT X a (tT W wi p)) : PW X (.BoolOp .Or [a] pos) (tT W wi p) := pw_or1 ha
theorem dw_and (ha : PT X a (tT W wi p)) (hb : PW X (.BoolOp .And (b :: rest) pos) (tT W wi q)) : PW X (.BoolOp .And (a :: b :: rest) pos) (tT W wi (gAnd p q)) := by
  refine PW.imp (pw_and ha hb) fun σ H Q h => ?_
  obtain ⟨B, G0, H0, G, ρ, E, h⟩ := h
  refine tX_go E h fun k v G1 H1 _ g1 r1 E1 h1 => ?_
  subst r1
  cases v with
  | true => exact ⟨B, G0, H0, G1, ρ, E1, h1⟩
  | false => exact h1 _ G1 H1 (Grow.refl E1.i) rfl
theorem dw_or (ha : PT X a (tT W wi p)) (hb : PW X (.BoolOp .Or (b :: rest) pos) (tT W wi q)) : PW X (.BoolOp .Or (a :: b :: rest) pos) (tT W wi (gOr p q)) := by
  refine PW.imp (pw_or ha hb) fun σ H Q h => ?_
  obtain ⟨B, G0, H0, G, ρ, E, h⟩ := h
  refine tX_go E h fun k v G1 H1 _ g1 r1 E1 h1 => ?_
  subst r1
  cases v with
  | false => exact ⟨B, G0, H0, G1, ρ, E1, h1⟩
  | true => exact h1 _ G1 H1 (Grow.refl E1.i) rfl
theorem dt_bool {e : Expr} (h : PW X e (tT W wi p)) : PT X e (tT W wi p) := h.pt
/-- .. as values -/
def gOrV (ga gb : Rho → Rz D) : Rho → Rz D := fun ρ => (ga ρ).bind fun x => (truD x).bind fun k => if k then .ok x else gb ρ
def gAndV (ga gb : Rho → Rz D) : Rho → Rz D := fun ρ => (ga ρ).bind fun x => (truD x).bind fun k => if k then gb ρ else .ok x
def gNotV (ga : Rho → Rz D) : Rho → Rz D := fun ρ => (ga ρ).bind fun x => (truD x).bind fun k => .ok (.bl (!k))
theorem dx_one {op : BoolOp} (h : PE X a (tD W wi ga)) : PE X (.BoolOp op [a] pos) (tD W wi ga) := pe_one h
theorem dx_or (hK : X.K = W.K) (ha : PE X a (tD W wi ga)) (hb : PE X (.BoolOp .Or (b :: rest) pos) (tD W wi gb)) : PE X (.BoolOp .Or (a :: b :: rest) pos) (tD W wi (gOrV ga gb)) := by
  refine PE.imp (pe_orT ha hb) fun σ H Q h => ?_
  obtain ⟨B, G0, H0, G, ρ, E, h⟩ := h
  refine tX_go E h fun x v G1 H1 _ g1 r1 E1 h1 => ?_
  obtain ⟨k, e, h2⟩ := tru_then E1.i r1 h1
  rw [hK]
  refine ⟨k, e, ?_⟩
  cases k with
  | false => exact ⟨B, G0, H0, G1, ρ, E1, h2⟩
  | true => exact h2.here E1.i r1
theorem dx_and (hK : X.K = W.K) (ha : PE X a (tD W wi ga)) (hb : PE X (.BoolOp .And (b :: rest) pos) (tD W wi gb)) : PE X (.BoolOp .And (a :: b :: rest) pos) (tD W wi (gAndV ga gb)) := by
  refine PE.imp (pe_andT ha hb) fun σ H Q h => ?_
  obtain ⟨B, G0, H0, G, ρ, E, h⟩ := h
  refine tX_go E h fun x v G1 H1 _ g1 r1 E1 h1 => ?_
  obtain ⟨k, e, h2⟩ := tru_then E1.i r1 h1
  rw [hK]
  refine ⟨k, e, ?_⟩
  cases k with
  | true => exact ⟨B, G0, H0, G1, ρ, E1, h2⟩
  | false => exact h2.here E1.i r1
theorem dx_not (hK : X.K = W.K) (ha : PE X a (tD W wi ga)) : PE X (.UnaryOp .Not a pos) (tD W wi (gNotV ga)) := by
  refine PE.imp (pe_notT ha) fun σ H Q h => ?_
  obtain ⟨B, G0, H0, G, ρ, E, h⟩ := h
  refine tX_go E h fun x v G1 H1 _ g1 r1 E1 h1 => ?_
  obtain ⟨k, e, h2⟩ := tru_then E1.i r1 h1
  rw [hK]
  exact ⟨k, e, h2.here E1.i (.bl _)⟩
/-- a if t else b -/
def gIf (p : Rho → Rz Bool) (ga gb : Rho → Rz D) : Rho → Rz D := fun ρ => (p ρ).bind fun k => if k then ga ρ else gb ρ
theorem dx_if (hc : PT X c (tT W wi p)) (ha : PE X a (tD W wi ga)) (hb : PE X b (tD W wi gb)) : PE X (.IfExp c a b pos) (tD W wi (gIf p ga gb)) := by
  refine PE.imp (pe_ifExp hc ha hb) fun σ H Q h => ?_
  obtain ⟨B, G0, H0, G, ρ, E, h⟩ := h
  refine tX_go E h fun k v G1 H1 _ g1 r1 E1 h1 => ?_
  subst r1
  cases v with
  | true => exact ⟨B, G0, H0, G1, ρ, E1, h1⟩
  | false => exact ⟨B, G0, H0, G1, ρ, E1, h1⟩
end
/-! is None -/
def isNonD (neg : Bool) (x : D) : Rz D := match x with
  | .non => .ok (.bl (!neg))
  | _ => .ok (.bl neg)
theorem rep_non {H : Hp} {v : V} {x : D} (r : Rep W H v x) : decide (v = .non) = (match x with | .non => true | _ => false) := by
  cases r <;> rfl
def gIs (neg : Bool) (ga : Rho → Rz D) : Rho → Rz D := fun ρ => (ga ρ).bind (isNonD neg)
theorem sem_is {σ : St} {H : Hp} {Q : VK} (h : tD W wi (gIs false ga) σ H Q) : tIsN (tD W wi ga) σ H Q := by
  obtain ⟨B, G0, H0, G, ρ, E, h⟩ := h
  refine tX_go E h fun x v G1 H1 _ g1 r1 E1 h1 => ?_
  show Q (.bl (decide (v = .non))) H1
  rw [rep_non r1]
  cases x <;> exact h1.here E1.i (.bl _)
theorem sem_isnot {σ : St} {H : Hp} {Q : VK} (h : tD W wi (gIs true ga) σ H Q) : tNotN (tD W wi ga) σ H Q := by
  obtain ⟨B, G0, H0, G, ρ, E, h⟩ := h
  refine tX_go E h fun x v G1 H1 _ g1 r1 E1 h1 => ?_
  show Q (.bl (!decide (v = .non))) H1
  rw [rep_non r1]
  cases x <;> exact h1.here E1.i (.bl _)
theorem dx_is {j : Nat} {p : Pos} (ha : PE X a (tD W wi ga)) : PE X (.Compare a [.Is] [.Constant .none j p] pos) (tD W wi (gIs false ga)) := PE.imp (pe_cmp (pc_isN ha)) fun _ _ _ h => sem_is h
theorem dx_isnot {j : Nat} {p : Pos} (ha : PE X a (tD W wi ga)) : PE X (.Compare a [.IsNot] [.Constant .none j p] pos) (tD W wi (gIs true ga)) := PE.imp (pe_cmp (pc_notN ha)) fun _ _ _ h => sem_isnot h
theorem dt_is {j : Nat} {p : Pos} (ha : PE X a (tD W wi ga)) : PT X (.Compare a [.Is] [.Constant .none j p] pos) (tT W wi (gTst (gIs false ga))) := PT.imp (pt_cmp (pc_isN ha)) fun _ _ _ h => sem_is (sem_tst h)
theorem dt_isnot {j : Nat} {p : Pos} (ha : PE X a (tD W wi ga)) : PT X (.Compare a [.IsNot] [.Constant .none j p] pos) (tT W wi (gTst (gIs true ga))) := PT.imp (pt_cmp (pc_notN ha)) fun _ _ _ h => sem_isnot (sem_tst h)
end FM
set_option Elab.async false
set_option linter.all false
set_option maxRecDepth 100000
set_option maxHeartbeats 4000000
/-! FM, part 4: subscripts, displays, calls. -/
namespace FM
open PySem L2
variable {X : Cx} {W : Wd} {wi : WX} {pos : Pos} {a b c d : Expr} {ga gb gc gd : Rho → Rz D}

/-! ### a[i] -/
def ixD : D → D → Rz D
  | .lst l, .int i => match atI l i with
    | some x => .ok x
    | none => .bad
  | .tup l, .int i => match atI l i with
    | some x => .ok x
    | none => .bad
  | .str s, .int i => if s.length ≤ lim then (match atI s.cps.toList i with
    | some x => .ok (.str ⟨#[x]⟩)
    | none => .bad) else .bad
  | .scr l, .int i => match atI l i with
    | some x => .ok (.int x)
    | none => .bad
  | _, _ => .bad
theorem atI_reps {H : Hp} {vs : List V} {ds : List D} {i : Int} {x : D} (r : Reps W H vs ds) (h : atI ds i = some x) : ∃ v, atI vs i = some v ∧ Rep W H v x := by
  unfold atI at h ⊢
  rw [r.length]
  cases e : ixN ds.length i with
  | none =>
    rw [e] at h
    cases h
  | some j =>
    rw [e] at h
    exact r.getD h
theorem opd_ix (hK : X.K = W.K) : OpD W (rIx X.K) ixD := by
  intro wi σ G H v u x y Q i rx ry h
  unfold ixD at h
  split at h
  · rename_i l k
    split at h
    · rename_i z e
      cases ry
      cases rx with
      | @lst p vs _ hp rp =>
        obtain ⟨t, e2, r2⟩ := atI_reps rp e
        exact .inl ⟨p, vs, k, t, rfl, rfl, SqL.of (i _ _ hp), e2, h.here i r2⟩
    · exact h.elim
  · rename_i l k
    split at h
    · rename_i z e
      cases ry
      cases rx with
      | @tup p vs _ hp rp =>
        obtain ⟨t, e2, r2⟩ := atI_reps rp e
        exact .inr (.inl ⟨p, vs, k, t, rfl, rfl, SqT.of (i _ _ hp), e2, h.here i r2⟩)
    · exact h.elim
  · rename_i s k
    split at h
    · rename_i hl
      split at h
      · rename_i z e
        cases ry
        cases rx
        exact .inr (.inr ⟨s, k, z, rfl, rfl, lim_le hl, e, h.here i (.str _)⟩)
      · exact h.elim
    · exact h.elim
  · rename_i l k
    split at h
    · rename_i z e
      cases ry
      cases rx with
      | @scr p _ hp =>
        refine .inl ⟨p, l.map V.int, k, .int z, rfl, rfl, by rw [hK]; exact i.seq hp, ?_, h.here i (.int _)⟩
        unfold atI at e ⊢
        rw [List.length_map]
        cases e2 : ixN l.length k with
        | none =>
          rw [e2] at e
          cases e
        | some j =>
          rw [e2] at e
          show (l.map V.int)[j]? = _
          rw [List.getElem?_map]
          have e' : l[j]? = some z := e
          rw [e']
          rfl
    · exact h.elim
  · exact h.elim
theorem dx_ix (hK : X.K = W.K) (ha : PE X a (tD W wi ga)) (hb : PE X b (tD W wi gb)) (hs : PlainIx b) : PE X (.Subscript a b pos) (tD W wi (gBin ixD ga gb)) :=
  PE.imp (pe_ix ix_seq ha hb hs) fun _ _ _ h => sem_bin (opd_ix hK) h
/-- an own list's item -/
def gIxO (i : Nat) (gb : Rho → Rz D) : Rho → Rz D := fun ρ => match ρ[i]? with
  | some (.ow l) => (gb ρ).bind fun y => ixD (.lst l) y
  | _ => .bad
theorem dx_ixO (i : Nat) {x : Str} {p : Pos} (hN : X.N[i]? = some x) (hv : Vis X.env.scope x) (hb : PE X b (tD W wi gb)) (hs : PlainIx b) (hd : (x == ("__debug__" : Str)) = false := by decide)
    (hcd : (x == ("__classdict__" : Str)) = false := by decide) : PE X (.Subscript (.Name x p) b pos) (tD W wi (gIxO i gb)) := by
  refine PE.imp (pe_ix ix_list (pe_var hN hv hd hcd) hb hs) fun σ H Q h => ?_
  obtain ⟨B, G0, H0, G, ρ, E, h⟩ := h
  unfold gIxO at h
  split at h
  · rename_i l el
    obtain ⟨q, vs, es, h0, hg, hh, r⟩ := E.ow el
    refine ⟨.ref q, es, tX_go E h fun y u G1 H1 _ g1 r1 E1 h1 => ?_⟩
    unfold ixD at h1
    split at h1
    · rename_i l' k e1 e2
      cases e1
      split at h1
      · rename_i z e
        cases r1
        obtain ⟨t, e3, r3⟩ := atI_reps (r.mono g1.g) e
        exact ⟨q, vs, k, t, rfl, rfl, SqL.of (g1.h _ _ hh), e3, h1.here E1.i r3⟩
      · exact h1.elim
    all_goals first | exact h1.elim | (rename_i e1 _; cases e1) | (rename_i e1; cases e1)
  · exact h.elim

/-! ### a[lo:hi] -/
def cutD {α : Type} (l : List α) (lo hi : Option Int) : List α := (l.drop (HT.sIx l.length 0 lo)).take (HT.sIx l.length l.length hi - HT.sIx l.length 0 lo)
def slD (lo hi : Option Int) : D → Rz D
  | .lst l => .ok (.lst (cutD l lo hi))
  | .tup l => .ok (.tup (cutD l lo hi))
  | .str s => if s.length ≤ lim then .ok (.str (cutS s lo hi)) else .bad
  | _ => .bad
def gPart (g : Option (Rho → Rz D)) : Rho → Rz (Option Int) := fun ρ => match g with
  | none => .ok none
  | some g => (g ρ).bind fun x => match x with
    | .int i => .ok (some i)
    | _ => .bad
def gSl (ga : Rho → Rz D) (lo hi : Option (Rho → Rz D)) : Rho → Rz D := fun ρ => (ga ρ).bind fun x => (gPart lo ρ).bind fun l => (gPart hi ρ).bind fun u => slD l u x
abbrev tO (W : Wd) (wi : WX) (g : Rho → Rz (Option Int)) : TO := tX (fun _ b c => b = c) W wi g
theorem PO.imp {e : Option Expr} {t t' : TO} (h : PO X e t) (f : ∀ σ H Q, t' σ H Q → t σ H Q) : PO X e t' := ⟨fun pins s σ H Q I hw => h.run pins s σ H Q I (f σ H Q hw)⟩
theorem do_none : PO X none (tO W wi (gPart none)) := PO.imp po_none fun σ H Q h => by
  obtain ⟨B, G0, H0, G, ρ, E, h⟩ := h
  exact h none G H (Grow.refl E.i) rfl
theorem do_some {e : Expr} {g : Rho → Rz D} (he : PE X e (tD W wi g)) : PO X (some e) (tO W wi (gPart (some g))) := PO.imp (po_some he) fun σ H Q h => by
  obtain ⟨B, G0, H0, G, ρ, E, h⟩ := h
  refine tX_go (g := g) (k := fun x => match x with | .int i => .ok (some i) | _ => .bad) E h fun x v G1 H1 _ g1 r1 E1 h1 => ?_
  split at h1
  · cases r1
    exact ⟨_, rfl, h1 _ G1 H1 (Grow.refl E1.i) rfl⟩
  · exact h1.elim
theorem cut_reps {H : Hp} {vs : List V} {ds : List D} (r : Reps W H vs ds) (lo hi : Option Int) : Reps W H (cutV vs lo hi) (cutD ds lo hi) := by
  unfold cutV cutD
  rw [r.length]
  exact (r.drop _).take _
theorem cut_whole {α : Type} {l : List α} {lo hi : Option Int} (h : HT.sIx l.length 0 lo = 0 ∧ HT.sIx l.length l.length hi = l.length) : cutD l lo hi = l := by
  unfold cutD
  rw [h.1, h.2, List.drop_zero, Nat.sub_zero, List.take_length]
theorem sl_all : SlR X (fun x lo hi H Q => rSlL X.K x lo hi H Q ∨ rSlA X.K x lo hi H Q ∨ rSlS x lo hi H Q) := sl_list.or (sl_tupA.or sl_str)
theorem dx_sl {lo hi : Option Expr} {gl gh : Option (Rho → Rz D)} {p2 : Pos} (ha : PE X a (tD W wi ga)) (hl : PO X lo (tO W wi (gPart gl))) (hh : PO X hi (tO W wi (gPart gh))) : PE X (.Subscript a (.Slice lo hi none p2) pos) (tD W wi (gSl ga gl gh)) := by
  refine PE.imp (pe_slice sl_all ha hl hh) fun σ H Q h => ?_
  obtain ⟨B, G0, H0, G, ρ, E, h⟩ := h
  refine tX_go E h fun x v G1 H1 _ g1 r1 E1 h1 => tX_go E1 h1 fun l l' G2 H2 _ g2 r2 E2 h2 => tX_go E2 h2 fun u u' G3 H3 _ g3 r3 E3 h3 => ?_
  subst r2
  subst r3
  have r := r1.mono (g2.g.trans g3.g)
  cases x with
  | lst z =>
    cases r with
    | @lst p vs _ hp rp => exact .inl ⟨p, vs, rfl, SqL.of (E3.i _ _ hp), fun q hq => h3.newL E3.i (cut_reps rp _ _) hq⟩
  | tup z =>
    cases r with
    | @tup p vs _ hp rp =>
      refine .inr (.inl ⟨p, vs, rfl, SqT.of (E3.i _ _ hp), fun hw => ?_, fun _ q hq => h3.newT E3.i (cut_reps rp _ _) hq⟩)
      have e : cutD z l' u' = z := cut_whole (by rw [← rp.length]; exact hw)
      have h3' : RzX (fun G v d => Rep W G v d) W wi G3 H3 σ Q (.ok (.tup (cutD z l' u'))) := h3
      rw [e] at h3'
      exact h3'.here E3.i (.tup hp rp)
  | str s =>
    have e : slD l' u' (.str s) = if s.length ≤ lim then .ok (.str (cutS s l' u')) else .bad := rfl
    rw [e] at h3
    split at h3
    · rename_i hl
      cases r
      exact .inr (.inr ⟨s, rfl, lim_le hl, h3.here E3.i (.str _)⟩)
    · exact h3.elim
  | _ => exact h3.elim

/-! ### arguments, displays -/
def gNil : Rho → Rz (List D) := fun _ => .ok []
def gCons (g : Rho → Rz D) (gs : Rho → Rz (List D)) : Rho → Rz (List D) := fun ρ => (g ρ).bind fun x => (gs ρ).bind fun xs => .ok (x :: xs)
theorem da_nil : PA X [] (tA W wi gNil) := PA.imp pa_nil fun σ H Q h => by
  obtain ⟨B, G0, H0, G, ρ, E, h⟩ := h
  exact h [] G H (Grow.refl E.i) .nil
theorem da_cons {e : Expr} {es : List Expr} {g : Rho → Rz D} {gs : Rho → Rz (List D)} (ha : PE X e (tD W wi g)) (hr : PA X es (tA W wi gs)) (hs : starEach (e :: es) X.env = (false, eval e X.env) :: starEach es X.env := by rfl) : PA X (e :: es) (tA W wi (gCons g gs)) := by
  refine PA.imp (pa_cons ha hr hs) fun σ H Q h => ?_
  obtain ⟨B, G0, H0, G, ρ, E, h⟩ := h
  exact tX_go E h fun x v G1 H1 _ g1 r1 E1 h1 => tX_go E1 h1 fun xs vs G2 H2 _ g2 r2 E2 h2 => h2 _ G2 H2 (Grow.refl E2.i) (.cons (r1.mono g2.g) r2)
section
variable {es : List Expr} {gs : Rho → Rz (List D)}
def gTup (gs : Rho → Rz (List D)) : Rho → Rz D := fun ρ => (gs ρ).bind fun xs => if xs.length ≤ lim then .ok (.tup xs) else .bad
def gLst (gs : Rho → Rz (List D)) : Rho → Rz D := fun ρ => (gs ρ).bind fun xs => if xs.length ≤ lim then .ok (.lst xs) else .bad
theorem dx_tup {k : Nat} (h : PA X es (tA W wi gs)) : PE X (.Tuple es k pos) (tD W wi (gTup gs)) := by
  refine PE.imp (pe_tup h) fun σ H Q h => ?_
  obtain ⟨B, G0, H0, G, ρ, E, h⟩ := h
  refine tX_go E h fun xs vs G1 H1 _ g1 r1 E1 h1 => ?_
  split at h1
  · rename_i hl
    exact ⟨by rw [r1.length]; exact lim_le hl, fun p hp => h1.newT E1.i r1 hp⟩
  · exact h1.elim
theorem dx_lst (h : PA X es (tA W wi gs)) : PE X (.List es pos) (tD W wi (gLst gs)) := by
  refine PE.imp (pe_lst h) fun σ H Q h => ?_
  obtain ⟨B, G0, H0, G, ρ, E, h⟩ := h
  refine tX_go E h fun xs vs G1 H1 _ g1 r1 E1 h1 => ?_
  split at h1
  · rename_i hl
    exact ⟨by rw [r1.length]; exact lim_le hl, fun p hp => h1.newL E1.i r1 hp⟩
  · exact h1.elim

/-! ### calls of built-in functions and types -/
def CallD (W : Wd) (r : List V → Hp → VK → Prop) (f : List D → Rz D) : Prop :=
  ∀ (wi : WX) (σ : St) (G H : Hp) (vs : List V) (xs : List D) (Q : VK), Same G H → Reps W G vs xs → RzX (fun G v d => Rep W G v d) W wi G H σ Q (f xs) → r vs H Q
def gCall (f : List D → Rz D) (gs : Rho → Rz (List D)) : Rho → Rz D := fun ρ => (gs ρ).bind f
theorem sem_call {r : List V → Hp → VK → Prop} {f : List D → Rz D} (hf : CallD W r f) {σ : St} {H : Hp} {Q : VK} (h : tD W wi (gCall f gs) σ H Q) : tCB r (tA W wi gs) σ H Q := by
  obtain ⟨B, G0, H0, G, ρ, E, h⟩ := h
  exact tX_go E h fun xs vs G1 H1 _ g1 r1 E1 h1 => hf wi σ G1 H1 vs xs Q E1.i r1 h1
theorem dx_cb {x : Str} {id : String} {p : Pos} {r : List V → Hp → VK → Prop} {f : List D → Rz D} (hc : CallR X (.builtin id) r) (hf : CallD W r f) (hg : Gl X x) (hm : X.mg x = none) (hv : bootBuiltins x = some (.builtin id)) (ha : PA X (a :: es) (tA W wi gs))
    (hn : x ≠ "__name__" := by decide) (hdb : (x == ("__debug__" : Str)) = false := by decide) (he : starEach (a :: es) X.env = (false, eval a X.env) :: starEach es X.env := by rfl) (hpl : (backTo pos (starEach es X.env)).any (·.1) = false := by rfl) :
    PE X (.Call (.Name x p) (a :: es) [] pos) (tD W wi (gCall f gs)) := PE.imp (pe_callB hc hg hm hv ha hn hdb he hpl) fun _ _ _ h => sem_call hf h
theorem dx_ct {x : Str} {T : String} {p : Pos} {r : List V → Hp → VK → Prop} {f : List D → Rz D} (hc : CallR X (.type T) r) (hf : CallD W r f) (hg : Gl X x) (hm : X.mg x = none) (hv : bootBuiltins x = some (.type T)) (ha : PA X (a :: es) (tA W wi gs))
    (hn : x ≠ "__name__" := by decide) (hdb : (x == ("__debug__" : Str)) = false := by decide) (he : starEach (a :: es) X.env = (false, eval a X.env) :: starEach es X.env := by rfl) (hpl : (backTo pos (starEach es X.env)).any (·.1) = false := by rfl) :
    PE X (.Call (.Name x p) (a :: es) [] pos) (tD W wi (gCall f gs)) := PE.imp (pe_callTy hc hg hm hv ha hn hdb he hpl) fun _ _ _ h => sem_call hf h
end
theorem or_call {f : Value} {r r' : List V → Hp → VK → Prop} (h : CallR X f r) (h' : CallR X f r') : CallR X f (fun xs H Q => r xs H Q ∨ r' xs H Q) := by
  intro pins s σ H xs us Q I rx q
  rcases q with q | q
  · exact h pins s σ H xs us Q I rx q
  · exact h' pins s σ H xs us Q I rx q
/-! len -/
def lenD : List D → Rz D
  | [.str s] => if s.length ≤ lim then .ok (.int s.length) else .bad
  | [.lst l] => .ok (.int l.length)
  | [.tup l] => .ok (.int l.length)
  | [.scr l] => .ok (.int l.length)
  | _ => .bad
theorem cd_len (hK : X.K = W.K) : CallD W (fun xs H Q => ∃ x n, xs = [x] ∧ LenV X.K x H n ∧ Q (.int n) H) lenD := by
  intro wi σ G H vs xs Q i r h
  unfold lenD at h
  split at h
  · rename_i s
    split at h
    · rename_i hl
      cases r with
      | cons r1 r2 =>
        cases r2
        cases r1
        exact ⟨_, _, rfl, ⟨lim_le hl, rfl⟩, h.here i (.int _)⟩
    · exact h.elim
  · cases r with
    | cons r1 r2 =>
      cases r2
      cases r1 with
      | @lst p vs _ hp rp => exact ⟨_, _, rfl, .inl ⟨vs, SqL.of (i _ _ hp), rfl⟩, by rw [rp.length]; exact h.here i (.int _)⟩
  · cases r with
    | cons r1 r2 =>
      cases r2
      cases r1 with
      | @tup p vs _ hp rp => exact ⟨_, _, rfl, .inr ⟨vs, SqT.of (i _ _ hp), rfl⟩, by rw [rp.length]; exact h.here i (.int _)⟩
  · cases r with
    | cons r1 r2 =>
      cases r2
      cases r1 with
      | @scr p l hp => exact ⟨_, _, rfl, .inl ⟨_, by rw [hK]; exact i.seq hp, rfl⟩, by rw [List.length_map]; exact h.here i (.int _)⟩
  · exact h.elim
/-- len of an own list -/
def gLenO (i : Nat) : Rho → Rz D := fun ρ => match ρ[i]? with
  | some (.ow l) => .ok (.int l.length)
  | _ => .bad
theorem dx_lenO (i : Nat) {x : Str} {p p2 : Pos} (hN : X.N[i]? = some x) (hv : Vis X.env.scope x) (hg : Gl X "len") (hm : X.mg "len" = none) (hd : (x == ("__debug__" : Str)) = false := by decide)
    (hcd : (x == ("__classdict__" : Str)) = false := by decide) (he : starEach [.Name x p2] X.env = (false, eval (.Name x p2) X.env) :: starEach [] X.env := by rfl) (hpl : (backTo pos (starEach [] X.env)).any (·.1) = false := by rfl) :
    PE X (.Call (.Name "len" p) [.Name x p2] [] pos) (tD W wi (gLenO i)) := by
  refine PE.imp (pe_callB call_len hg hm PySem.boot_len (pa_cons (pe_var hN hv hd hcd) pa_nil he) (by decide) (by decide) he hpl) fun σ H Q h => ?_
  obtain ⟨B, G0, H0, G, ρ, E, h⟩ := h
  unfold gLenO at h
  split at h
  · rename_i l el
    obtain ⟨q, vs, es, h0, hg, hh, r⟩ := E.ow el
    exact ⟨.ref q, es, _, _, rfl, .inl ⟨vs, SqL.of hh, rfl⟩, by rw [r.length]; exact h.here E.i (.int _)⟩
  · exact h.elim
/-! list(x), tuple(x) -/
def listD : List D → Rz D
  | [.lst l] => .ok (.lst l)
  | [.tup l] => .ok (.lst l)
  | _ => .bad
def tupleD : List D → Rz D
  | [.lst l] => .ok (.tup l)
  | [.tup l] => .ok (.tup l)
  | _ => .bad
theorem cd_list : CallD W (fun xs H Q => ∃ p ys, xs = [.ref p] ∧ (SqL X.K H p ys ∨ SqT X.K H p ys) ∧ ∀ l, H l = none → Q (.ref l) (upd H l (.lst ys))) listD := by
  intro wi σ G H vs xs Q i r h
  unfold listD at h
  split at h
  · cases r with
    | cons r1 r2 =>
      cases r2
      cases r1 with
      | @lst p vs _ hp rp => exact ⟨p, vs, rfl, .inl (SqL.of (i _ _ hp)), fun l hl => h.newL i rp hl⟩
  · cases r with
    | cons r1 r2 =>
      cases r2
      cases r1 with
      | @tup p vs _ hp rp => exact ⟨p, vs, rfl, .inr (SqT.of (i _ _ hp)), fun l hl => h.newL i rp hl⟩
  · exact h.elim
theorem cd_tuple : CallD W (fun xs H Q => ∃ p ys, xs = [.ref p] ∧ ((SqL X.K H p ys ∧ ∀ l, H l = none → Q (.ref l) (upd H l (.tup ys))) ∨ (SqT X.K H p ys ∧ Q (.ref p) H))) tupleD := by
  intro wi σ G H vs xs Q i r h
  unfold tupleD at h
  split at h
  · cases r with
    | cons r1 r2 =>
      cases r2
      cases r1 with
      | @lst p vs _ hp rp => exact ⟨p, vs, rfl, .inl ⟨SqL.of (i _ _ hp), fun l hl => h.newT i rp hl⟩⟩
  · cases r with
    | cons r1 r2 =>
      cases r2
      cases r1 with
      | @tup p vs _ hp rp => exact ⟨p, vs, rfl, .inr ⟨SqT.of (i _ _ hp), h.here i (.tup hp rp)⟩⟩
  · exact h.elim
/-! any, all -/
def blsOf : List D → Option (List Bool)
  | [] => some []
  | .bl k :: r => (blsOf r).map (k :: ·)
  | _ :: _ => none
theorem blsOf_some : ∀ {l : List D} {ns : List Bool}, blsOf l = some ns → l = ns.map D.bl
  | [], _, h => by
    cases h
    rfl
  | .bl i :: r, ns, h => by
    rw [blsOf, Option.map_eq_some_iff] at h
    obtain ⟨m, h1, h2⟩ := h
    subst h2
    rw [blsOf_some h1]
    rfl
@[simp] theorem blsOf_map : ∀ ns : List Bool, blsOf (ns.map D.bl) = some ns
  | [] => rfl
  | n :: r => by
    rw [List.map_cons, blsOf, blsOf_map r]
    rfl
def anyD : List D → Rz D
  | [.lst l] => match blsOf l with
    | some bs => .ok (.bl (bs.any id))
    | none => .bad
  | _ => .bad
def allD : List D → Rz D
  | [.lst l] => match blsOf l with
    | some bs => .ok (.bl (bs.all id))
    | none => .bad
  | _ => .bad
theorem cd_any {K : PySem.W.Frag} : CallD W (rAny K) anyD := by
  intro wi σ G H vs xs Q i r h
  unfold anyD at h
  split at h
  · split at h
    · rename_i bs e
      have e' := blsOf_some e
      subst e'
      cases r with
      | cons r1 r2 =>
        cases r2
        cases r1 with
        | @lst p vs _ hp rp =>
          have ev := Reps.of_bls rp
          subst ev
          exact ⟨p, bs, rfl, SqL.of (i _ _ hp), h.here i (.bl _)⟩
    · exact h.elim
  · exact h.elim
theorem cd_all {K : PySem.W.Frag} : CallD W (rAll K) allD := by
  intro wi σ G H vs xs Q i r h
  unfold allD at h
  split at h
  · split at h
    · rename_i bs e
      have e' := blsOf_some e
      subst e'
      cases r with
      | cons r1 r2 =>
        cases r2
        cases r1 with
        | @lst p vs _ hp rp =>
          have ev := Reps.of_bls rp
          subst ev
          exact ⟨p, bs, rfl, SqL.of (i _ _ hp), h.here i (.bl _)⟩
    · exact h.elim
  · exact h.elim
/-! max(i, j), str(i), int(s) -/
def max2D : List D → Rz D
  | [.int i, .int j] => .ok (.int (if j > i then j else i))
  | _ => .bad
theorem cd_max2 : CallD W (fun xs H Q => ∃ i j, xs = [.int i, .int j] ∧ Q (.int (if j > i then j else i)) H) max2D := by
  intro wi σ G H vs xs Q i r h
  unfold max2D at h
  split at h
  · cases r with
    | cons r1 r2 =>
      cases r2 with
      | cons r3 r4 =>
        cases r4
        cases r1
        cases r3
        exact ⟨_, _, rfl, h.here i (.int _)⟩
  · exact h.elim
def strD : List D → Rz D
  | [.int i] => if i.natAbs.log2 < 1920 then .ok (.str (Str.ofString (toString i))) else .bad
  | _ => .bad
theorem cd_str : CallD W (fun xs H Q => ∃ i : Int, xs = [.int i] ∧ i.natAbs.log2 < 1920 ∧ Q (.str (toString i)) H) strD := by
  intro wi σ G H vs xs Q i r h
  unfold strD at h
  split at h
  · split at h
    · rename_i hl
      cases r with
      | cons r1 r2 =>
        cases r2
        cases r1
        exact ⟨_, rfl, hl, h.here i (.str _)⟩
    · exact h.elim
  · exact h.elim
def intD : List D → Rz D
  | [.str s] => if s.length ≤ 640 then (match PySem.intText? s with
    | some n => .ok (.int n)
    | none => .bad) else .bad
  | _ => .bad
theorem cd_int : CallD W (fun xs H Q => ∃ a n, xs = [.str a] ∧ PySem.intText? a = some n ∧ a.length ≤ 640 ∧ Q (.int n) H) intD := by
  intro wi σ G H vs xs Q i r h
  unfold intD at h
  split at h
  · split at h
    · rename_i hl
      split at h
      · rename_i n e
        cases r with
        | cons r1 r2 =>
          cases r2
          cases r1
          exact ⟨_, n, rfl, e, hl, h.here i (.int _)⟩
      · exact h.elim
    · exact h.elim
  · exact h.elim

/-! ### calls of own defs -/
/-- the promise of a def with n parameters that is f on data -/
def spD (W : Wd) (n : Nat) (f : List D → Rz D) : Sp := fun vs H Q E => ∃ G ds, Same G H ∧ Reps W G vs ds ∧ ds.length = n ∧ RzX (fun G v d => Rep W G v d) W (wE E) G H [] Q (f ds)
theorem spD_len {n : Nat} {f : List D → Rz D} {vs : List V} {H : Hp} {Q : VK} {E : XK} (h : spD W n f vs H Q E) : vs.length = n := by
  obtain ⟨G, ds, _, r, hl, _⟩ := h
  rw [r.length, hl]
theorem rz_wish {α β : Type} {R : Hp → β → α → Prop} {σ : St} {G H : Hp} {Q : β → Hp → Prop} {r : Rz α} (h : RzX R W wi G H σ Q r) : RzX R W (wE (WE wi σ)) G H [] Q r := by
  cases r <;> exact h
theorem dx_call {es : List Expr} {gs : Rho → Rz (List D)} {k n : Nat} {f : Addr} {fd : FuncData} {ps : List Str} {ff : List D → Rz D} {x : Str} {p : Pos} (F : FnOk X.prog X.w X.K X.mg X.base (L2.CX X.prog X.w) k f fd ps (spD W n ff)) (hn : ∀ ds, ds.length ≠ n → ff ds = .bad) (hr : Room k X.A)
    (tk : Takes X wi) (hg : Gl X x) (hm : X.mg x = some (.ref f)) (hk : PySem.W.keepIn X.K (.ref f) = true) (hb : Binds X.K fd ps [])
    (ha : PA X (a :: es) (tA W wi gs)) (hdb : (x == ("__debug__" : Str)) = false := by decide) (he : starEach (a :: es) X.env = (false, eval a X.env) :: starEach es X.env := by rfl) (hpl : (backTo pos (starEach es X.env)).any (·.1) = false := by rfl) :
    PE X (.Call (.Name x p) (a :: es) [] pos) (tD W wi (gCall ff gs)) := by
  refine PE.imp (pe_callS F hr hg hm hk hb (fun σ => passAt tk σ) ha hdb he hpl) fun σ H Q h => ?_
  obtain ⟨B, G0, H0, G, ρ, E, h⟩ := h
  refine tX_go E h fun xs vs G1 H1 _ g1 r1 E1 h1 => ?_
  have hl : xs.length = n := by
    by_cases e : xs.length = n
    · exact e
    · rw [hn xs e] at h1
      exact h1.elim
  exact ⟨G1, xs, E1.i, r1, hl, rz_wish h1⟩

/-! ### methods of texts -/
def splitD : D → D → Rz D
  | .str s, .str t => if t.length ≠ 0 ∧ s.length + 2 ≤ lim then .ok (.lst ((Txt.split s t).map D.str)) else .bad
  | _, _ => .bad
def strsOf : List D → Option (List Str)
  | [] => some []
  | .str k :: r => (strsOf r).map (k :: ·)
  | _ :: _ => none
theorem strsOf_some : ∀ {l : List D} {ns : List Str}, strsOf l = some ns → l = ns.map D.str
  | [], _, h => by
    cases h
    rfl
  | .str i :: r, ns, h => by
    rw [strsOf, Option.map_eq_some_iff] at h
    obtain ⟨m, h1, h2⟩ := h
    subst h2
    rw [strsOf_some h1]
    rfl
@[simp] theorem strsOf_map : ∀ ns : List Str, strsOf (ns.map D.str) = some ns
  | [] => rfl
  | n :: r => by
    rw [List.map_cons, strsOf, strsOf_map r]
    rfl
def joinD : D → D → Rz D
  | .str s, .lst l => match strsOf l with
    | some ys => if (ys.map (·.length)).sum + ys.length * s.length ≤ lim then .ok (.str (Txt.join s ys)) else .bad
    | none => .bad
  | _, _ => .bad
theorem reps_strs {H : Hp} : ∀ ss : List Str, Reps W H (ss.map V.str) (ss.map D.str)
  | [] => .nil
  | s :: r => .cons (.str s) (reps_strs r)
def gM1 (f : D → D → Rz D) (ga gb : Rho → Rz D) : Rho → Rz D := fun ρ => (ga ρ).bind fun x => match x with
  | .str s => (gb ρ).bind fun y => f (.str s) y
  | _ => .bad
def M1D (W : Wd) (r : V → List V → Hp → VK → Prop) (f : D → D → Rz D) : Prop :=
  ∀ (wi : WX) (σ : St) (G H : Hp) (v u : V) (x y : D) (Q : VK), Same G H → Rep W G v x → Rep W G u y → RzX (fun G v d => Rep W G v d) W wi G H σ Q (f x y) → r v [u] H Q
theorem sem_m1 {r : V → List V → Hp → VK → Prop} {f : D → D → Rz D} (hf : M1D W r f) {σ : St} {H : Hp} {Q : VK} (h : tD W wi (gM1 f ga gb) σ H Q) : tM1 r (tD W wi ga) (tD W wi gb) σ H Q := by
  obtain ⟨B, G0, H0, G, ρ, E, h⟩ := h
  refine tX_go E h fun x v G1 H1 _ g1 r1 E1 h1 => ?_
  split at h1
  · cases r1
    exact ⟨⟨_, rfl⟩, tX_go E1 h1 fun y u G2 H2 _ g2 r2 E2 h2 => hf wi σ G2 H2 _ u _ y Q E2.i (.str _) r2 h2⟩
  · exact h1.elim
theorem dx_split {apos : Pos} (ha : PE X a (tD W wi ga)) (hb : PE X b (tD W wi gb)) (hs : starEach [b] X.env = [(false, eval b X.env)] := by rfl) (hbase : attributeBase a "split" X.env (eval a X.env) = eval a X.env := by rfl) (hline : (apos.endLine == pos.line) = true := by rfl) :
    PE X (.Call (.Attribute a "split" apos) [b] [] pos) (tD W wi (gM1 splitD ga gb)) := PE.imp (pe_split ha hb hs hbase hline) fun _ _ _ h => sem_m1 (fun wi σ G H v u x y Q i rx ry h => by
      unfold splitD at h
      split at h
      · rename_i s t
        split at h
        · rename_i hc
          cases rx
          cases ry
          refine ⟨s, t, rfl, rfl, ?_, by have := lim_le hc.2; omega, fun p hp => h.newL i (reps_strs _) hp⟩
          have := hc.1
          simp [this]
        · exact h.elim
      · exact h.elim) h
theorem dx_join {apos : Pos} (ha : PE X a (tD W wi ga)) (hb : PE X b (tD W wi gb)) (hs : starEach [b] X.env = [(false, eval b X.env)] := by rfl) (hbase : attributeBase a "join" X.env (eval a X.env) = eval a X.env := by rfl) (hline : (apos.endLine == pos.line) = true := by rfl) :
    PE X (.Call (.Attribute a "join" apos) [b] [] pos) (tD W wi (gM1 joinD ga gb)) := PE.imp (pe_join ha hb hs hbase hline) fun _ _ _ h => sem_m1 (fun wi σ G H v u x y Q i rx ry h => by
      unfold joinD at h
      split at h
      · rename_i s l
        split at h
        · rename_i ys e
          have e' := strsOf_some e
          subst e'
          split at h
          · rename_i hc
            cases rx
            cases ry with
            | @lst p vs _ hp rp =>
              have ev := Reps.of_strs rp
              subst ev
              exact ⟨s, p, ys, rfl, rfl, .inl (SqL.of (i _ _ hp)), Nat.le_trans hc (by decide), h.here i (.str _)⟩
          · exact h.elim
        · exact h.elim
      · exact h.elim) h
def scountD : D → D → Rz D
  | .str s, .str t => .ok (.int (Txt.count s t))
  | _, _ => .bad
theorem dx_scount {apos : Pos} (ha : PE X a (tD W wi ga)) (hb : PE X b (tD W wi gb)) (hs : starEach [b] X.env = [(false, eval b X.env)] := by rfl) (hbase : attributeBase a "count" X.env (eval a X.env) = eval a X.env := by rfl) (hline : (apos.endLine == pos.line) = true := by rfl) :
    PE X (.Call (.Attribute a "count" apos) [b] [] pos) (tD W wi (gM1 scountD ga gb)) := PE.imp (pe_m1 PySem.F.slot_str_count PySem.F.type_str_count mt_count ha hb hs hbase hline) fun _ _ _ h => sem_m1 (fun wi σ G H v u x y Q i rx ry h => by
      unfold scountD at h
      split at h
      · cases rx
        cases ry
        exact ⟨_, _, rfl, rfl, h.here i (.int _)⟩
      · exact h.elim) h
end FM
set_option Elab.async false
set_option linter.all false
set_option maxRecDepth 100000
set_option maxHeartbeats 4000000
/-! FM, part 5: targets, what is walked, comprehensions, statements, the def. -/
namespace FM
open PySem L2
variable {X : Cx} {W : Wd} {wi : WX} {pos : Pos} {a b c d : Expr} {ga gb gc gd : Rho → Rz D}

/-! ### targets -/
inductive Tg where
  | nm (i : Nat) | pr (i j : Nat)
def tG (K : PySem.W.Frag) : Tg → TG
  | .nm i => L2.gName i
  | .pr i j => L2.gTup K 2 (L2.gCons (L2.gName i) (L2.gCons (L2.gName j) L2.gNil))
def bindT : Tg → D → Rho → Option Rho
  | .nm i, x, ρ => some (ρ.set i (.va x))
  | .pr i j, .tup [x, y], ρ => some ((ρ.set i (.va x)).set j (.va y))
  | _, _, _ => none
def Tg.all (p : Nat → Bool) : Tg → Bool
  | .nm i => p i
  | .pr i j => p i && p j
theorem bindT_pr {i j : Nat} {x : D} {ρ ρ' : Rho} (h : bindT (.pr i j) x ρ = some ρ') : ∃ a b, x = .tup [a, b] ∧ ρ' = (ρ.set i (.va a)).set j (.va b) := by
  unfold bindT at h
  split at h
  · rename_i e
    cases e
  · rename_i e
    cases e
    cases h
    exact ⟨_, _, rfl, rfl⟩
  · cases h
theorem tG_go {K : PySem.W.Frag} {B G0 H0 G H : Hp} {σ : St} {ρ ρ' : Rho} {v : V} {x : D} {tg : Tg} {Q : St → Hp → Prop} (E : EnvOk W B G0 H0 G H σ ρ) (r : Rep W G v x) (h : bindT tg x ρ = some ρ')
    (go : ∀ σ', EnvOk W B G0 H0 G H σ' ρ' → (∀ vs : List Nat, tg.all (fun i => vs.contains i) = true → wipe σ' vs = wipe σ vs) → Q σ' H) : tG K tg v σ H Q := by
  have ws : ∀ (σ : St) (vs : List Nat) (i : Nat) (o : Option V), vs.contains i = true → wipe (σ.set i o) vs = wipe σ vs := by
    intro σ vs
    induction vs with
    | nil =>
      intro i o h
      cases h
    | cons z zs ih =>
      intro i o h
      show (wipe (σ.set i o) zs).set z none = (wipe σ zs).set z none
      by_cases hz : i = z
      · subst hz
        have e2 : ∀ (zs : List Nat) (σ : St), (wipe (σ.set i o) zs).set i none = (wipe σ zs).set i none := by
          intro zs
          induction zs with
          | nil =>
            intro σ
            show (σ.set i o).set i none = σ.set i none
            rw [List.set_set]
          | cons y ys ih2 =>
            intro σ
            show ((wipe (σ.set i o) ys).set y none).set i none = ((wipe σ ys).set y none).set i none
            by_cases hy : i = y
            · subst hy
              rw [List.set_set, List.set_set]
              exact ih2 σ
            · rw [List.set_comm _ _ (Ne.symm hy), List.set_comm _ _ (Ne.symm hy), ih2 σ]
        exact e2 zs σ
      · have h2 : zs.contains i = true := by
          rw [List.contains_cons] at h
          have : (i == z) = false := by simpa using hz
          rw [this, Bool.false_or] at h
          exact h
        rw [ih i o h2]
  cases tg with
  | nm i =>
    cases h
    exact go _ (E.set r) fun vs hv => ws σ vs i _ hv
  | pr i j =>
    obtain ⟨x1, x2, rfl, rfl⟩ := bindT_pr h
    cases r with
    | @tup p vs _ hp rp =>
      cases rp with
      | cons r1 rr =>
        cases rr with
        | cons r2 rr =>
          cases rr
          refine ⟨p, _, rfl, SqT.of (E.i _ _ hp), rfl, _, _, rfl, _, _, rfl, rfl, ?_⟩
          refine go _ ((E.set r1).set r2) fun vs hv => ?_
          have hv' := Bool.and_eq_true_iff.mp hv
          rw [ws _ vs j _ hv'.2, ws _ vs i _ hv'.1]
theorem dg_nm (i : Nat) {x : Str} {p : Pos} (hN : X.N.Nodup) (hi : X.N[i]? = some x) (hx : Loc X.env.scope x) (hf : X.fn x = true ∨ X.env.scope.names.lookup x = some .local := by first | exact .inl rfl | exact .inr rfl | assumption) : PG X (.Name x p) (tG X.K (.nm i)) := pg_name hN hi hx hf
theorem dg_pr (i j : Nat) {x y : Str} {k : Nat} {p p1 p2 : Pos} (hc : X.calm = true) (hN : X.N.Nodup) (hi : X.N[i]? = some x) (hx : Loc X.env.scope x) (hj : X.N[j]? = some y) (hy : Loc X.env.scope y)
    (hf : X.fn x = true ∨ X.env.scope.names.lookup x = some .local := by first | exact .inl rfl | exact .inr rfl | assumption) (hf2 : X.fn y = true ∨ X.env.scope.names.lookup y = some .local := by first | exact .inl rfl | exact .inr rfl | assumption) :
    PG X (.Tuple [.Name x p1, .Name y p2] k p) (tG X.K (.pr i j)) := pg_tup hc (pgs_cons (pg_name hN hi hx hf) (pgs_cons (pg_name hN hj hy hf2) pgs_nil))

/-! ### what is walked -/
/-- J yields ds, in turn, as long as the heap stands on Bs -/
def Yl (W : Wd) (Bs : Hp) (J : It) (G : Hp) (ds : List D) : Prop :=
  ∃ vs, Reps W G vs ds ∧ (∀ (i : Nat) x H, Same Bs H → vs[i]? = some x → J.go i H ∧ ∀ y H', J.yld i H y H' → H' = H ∧ y = x) ∧ ∀ H, Same Bs H → J.stop vs.length H
abbrev tI (W : Wd) (wi : WX) (g : Rho → Rz (List D)) : TI := tX (fun G J ds => Yl W G J G ds) W wi g
theorem yl_list {K : PySem.W.Frag} {G : Hp} {p : Addr} {vs : List V} {ds : List D} (h : G p = some (.lst vs)) (r : Reps W G vs ds) : Yl W G (Itl K p) G ds := by
  refine ⟨vs, r, fun i x H e ei => ⟨⟨vs, x, SqL.of (e _ _ h), ei⟩, fun y H' hy => ⟨hy.1, ?_⟩⟩, fun H e => ⟨vs, SqL.of (e _ _ h), Nat.le_refl _⟩⟩
  have q := hy.2 vs (SqL.of (e _ _ h))
  rw [ei] at q
  exact (Option.some.inj q).symm
theorem yl_tup {K : PySem.W.Frag} {G : Hp} {p : Addr} {vs : List V} {ds : List D} (h : G p = some (.tup vs)) (r : Reps W G vs ds) : Yl W G (Itt K p) G ds := by
  refine ⟨vs, r, fun i x H e ei => ⟨⟨vs, x, SqT.of (e _ _ h), ei⟩, fun y H' hy => ⟨hy.1, ?_⟩⟩, fun H e => ⟨vs, SqT.of (e _ _ h), Nat.le_refl _⟩⟩
  have q := hy.2 vs (SqT.of (e _ _ h))
  rw [ei] at q
  exact (Option.some.inj q).symm
def signs (s : Str) : List D := s.cps.toList.map fun c => D.str ⟨#[c]⟩
theorem yl_str {G : Hp} {s : Str} : Yl W G (Its s) G (signs s) := by
  refine ⟨s.cps.toList.map fun c => V.str ⟨#[c]⟩, ?_, fun i x H e ei => ?_, fun H e => ?_⟩
  · have : ∀ l : List Nat, Reps W G (l.map fun c => V.str ⟨#[c]⟩) (l.map fun c => D.str ⟨#[c]⟩) := by
      intro l
      induction l with
      | nil => exact .nil
      | cons z zs ih => exact .cons (.str _) ih
    exact this _
  · rw [List.getElem?_map, Array.getElem?_toList] at ei
    cases e2 : s.cps[i]? with
    | none =>
      rw [e2] at ei
      cases ei
    | some c =>
      rw [e2] at ei
      cases ei
      refine ⟨(Array.getElem?_eq_some_iff.mp e2).1, fun y H' hy => ⟨hy.1, ?_⟩⟩
      obtain ⟨c', h1, h2⟩ := hy.2
      rw [e2] at h1
      cases h1
      exact h2
  · show s.cps.size ≤ _
    rw [List.length_map, Array.length_toList]
    exact Nat.le_refl _
def rngL (lo : Int) (n : Nat) : List D := (List.range n).map fun (k : Nat) => D.int (lo + (k : Int))
theorem yl_rng {G : Hp} {lo : Int} {n : Nat} : Yl W G (Itr lo n) G (rngL lo n) := by
  refine ⟨(List.range n).map fun (k : Nat) => V.int (lo + (k : Int)), ?_, fun i x H e ei => ?_, fun H e => ?_⟩
  · have : ∀ l : List Nat, Reps W G (l.map fun (k : Nat) => V.int (lo + (k : Int))) (l.map fun (k : Nat) => D.int (lo + (k : Int))) := by
      intro l
      induction l with
      | nil => exact .nil
      | cons z zs ih => exact .cons (.int _) ih
    exact this _
  · rw [List.getElem?_map] at ei
    cases e2 : (List.range n)[i]? with
    | none =>
      rw [e2] at ei
      cases ei
    | some c =>
      rw [e2] at ei
      cases ei
      obtain ⟨h1, h2⟩ := List.getElem?_eq_some_iff.mp e2
      rw [List.length_range] at h1
      rw [List.getElem_range] at h2
      subst h2
      exact ⟨h1, fun y H' hy => ⟨hy.1, hy.2⟩⟩
  · show n ≤ _
    rw [List.length_map, List.length_range]
    exact Nat.le_refl _
theorem yl_rev {K : PySem.W.Frag} {G : Hp} {p : Addr} {vs : List V} {ds : List D} (h : G p = some (.lst vs)) (r : Reps W G vs ds) : Yl W G (Itv K p vs.length) G ds.reverse := by
  refine ⟨vs.reverse, r.rev, fun i x H e ei => ?_, fun H e => ?_⟩
  · have hi : i < vs.length := by
      have := (List.getElem?_eq_some_iff.mp ei).1
      rw [List.length_reverse] at this
      exact this
    rw [List.getElem?_reverse hi] at ei
    refine ⟨⟨hi, vs, x, SqL.of (e _ _ h), ei⟩, fun y H' hy => ⟨hy.1, ?_⟩⟩
    have q := hy.2 vs (SqL.of (e _ _ h))
    rw [ei] at q
    exact (Option.some.inj q).symm
  · show vs.length ≤ _
    rw [List.length_reverse]
    exact Nat.le_refl _
theorem yl_revT {K : PySem.W.Frag} {G : Hp} {p : Addr} {vs : List V} {ds : List D} (h : G p = some (.tup vs)) (r : Reps W G vs ds) : Yl W G (RT.ItvT K p vs.length) G ds.reverse := by
  refine ⟨vs.reverse, r.rev, fun i x H e ei => ?_, fun H e => ?_⟩
  · have hi : i < vs.length := by
      have := (List.getElem?_eq_some_iff.mp ei).1
      rw [List.length_reverse] at this
      exact this
    rw [List.getElem?_reverse hi] at ei
    refine ⟨⟨hi, vs, x, SqT.of (e _ _ h), ei⟩, fun y H' hy => ⟨hy.1, ?_⟩⟩
    have q := hy.2 vs (SqT.of (e _ _ h))
    rw [ei] at q
    exact (Option.some.inj q).symm
  · show vs.length ≤ _
    rw [List.length_reverse]
    exact Nat.le_refl _
def iterD : D → Rz (List D)
  | .lst l => .ok l
  | .tup l => .ok l
  | .str s => .ok (signs s)
  | _ => .bad
def gIter (g : Rho → Rz D) : Rho → Rz (List D) := fun ρ => (g ρ).bind iterD
def iSeq (K : PySem.W.Frag) (te : TE) : TI := fun σ H R => te σ H fun x H1 => (∃ a, x = .ref a ∧ (∃ xs, SqL K H1 a xs) ∧ R (Itl K a) H1) ∨ (∃ a, x = .ref a ∧ (∃ xs, SqT K H1 a xs) ∧ R (Itt K a) H1) ∨ ∃ s, x = .str s ∧ R (Its s) H1
theorem pi_seq {tg e : Expr} {te : TE} (he : PE X e te) : PI X tg e (iSeq X.K te) := ⟨fun pins s σ H R I h => by
  refine thn (he.run pins s σ H _ I h) fun v st ⟨x, Hx, J, rx, hx⟩ => ?_
  rcases hx with ⟨a, rfl, ⟨xs, hq⟩, q⟩ | ⟨a, rfl, ⟨xs, hq⟩, q⟩ | ⟨y, rfl, q⟩
  · cases rx
    obtain ⟨us, _, hl, _⟩ := J.list hq
    exact wpAny_pyIter_list hl.isList (pi_one (tk := st.toks) J _ (turn_list a _) ⟨_, Heap.get?_push_size _ rfl, rfl, rfl⟩ q)
  · cases rx
    obtain ⟨us, _, ht, _⟩ := J.tuple hq
    have ht' : st.heap.IsTuple a us.toArray := ht
    exact wpAny_pyIter_tuple ht' (pi_one (tk := st.toks) J _ (turn_tuple a _) ⟨_, Heap.get?_push_size _ rfl, rfl, rfl⟩ q)
  · obtain ⟨tk, rfl⟩ := rx
    have small : (y.cps.all (· < 128)) = true ∨ (y.cps.all (· < 128)) = false := by cases y.cps.all (· < 128) <;> simp
    rcases small with hb | hb
    · exact wpAny_pyIter_ascii hb (pi_one (tk := st.toks) J _ (turn_str _ y tk "str_ascii_iterator" (Or.inl rfl)) ⟨_, Heap.get?_push_size _ rfl, rfl, rfl⟩ q)
    · exact wpAny_pyIter_wide hb (pi_one (tk := st.toks) J _ (turn_str _ y tk "str_iterator" (Or.inr rfl)) ⟨_, Heap.get?_push_size _ rfl, rfl, rfl⟩ q)⟩
theorem di_seq {tg e : Expr} {g : Rho → Rz D} (he : PE X e (tD W wi g)) : PI X tg e (tI W wi (gIter g)) := by
  refine PI.imp (pi_seq he) fun σ H R h => ?_
  obtain ⟨B, G0, H0, G, ρ, E, h⟩ := h
  refine tX_go E h fun x v G1 H1 _ g1 r1 E1 h1 => ?_
  cases x with
  | lst l =>
    cases r1 with
    | @lst p vs _ hp rp => exact .inl ⟨p, rfl, ⟨vs, SqL.of (E1.i _ _ hp)⟩, h1 _ G1 H1 (Grow.refl E1.i) (yl_list hp rp)⟩
  | tup l =>
    cases r1 with
    | @tup p vs _ hp rp => exact .inr (.inl ⟨p, rfl, ⟨vs, SqT.of (E1.i _ _ hp)⟩, h1 _ G1 H1 (Grow.refl E1.i) (yl_tup hp rp)⟩)
  | str s =>
    cases r1
    exact .inr (.inr ⟨s, rfl, h1 _ G1 H1 (Grow.refl E1.i) yl_str⟩)
  | _ => exact h1.elim
def rng1D : List D → Rz (List D)
  | [.int j] => if -(lim : Int) ≤ j ∧ j ≤ lim then .ok (rngL 0 j.toNat) else .bad
  | _ => .bad
def rng2D : List D → Rz (List D)
  | [.int i, .int j] => if (-(lim : Int) ≤ i ∧ i ≤ lim) ∧ -(lim : Int) ≤ j ∧ j ≤ lim then .ok (rngL i (j - i).toNat) else .bad
  | _ => .bad
def gRng (f : List D → Rz (List D)) (gs : Rho → Rz (List D)) : Rho → Rz (List D) := fun ρ => (gs ρ).bind f
theorem lim_big {i : Int} (h : -(lim : Int) ≤ i ∧ i ≤ lim) : -(2 ^ 62) ≤ i ∧ i < 2 ^ 62 := by
  have e : (lim : Int) = 100000 := rfl
  omega
theorem di_rng1 {tg a : Expr} {gs : Rho → Rz (List D)} {p : Pos} (hg : Gl X "range") (hm : X.mg "range" = none) (ha : PA X [a] (tA W wi gs)) (hs : starEach [a] X.env = [(false, eval a X.env)] := by rfl) : PI X tg (.Call (.Name "range" p) [a] [] pos) (tI W wi (gRng rng1D gs)) := by
  refine PI.imp (pi_range1 hg hm ha hs) fun σ H R h => ?_
  obtain ⟨B, G0, H0, G, ρ, E, h⟩ := h
  refine tX_go E h fun xs vs G1 H1 e1 g1 r1 E1 h1 => ?_
  unfold rng1D at h1
  split at h1
  · split at h1
    · rename_i hl
      cases r1 with
      | cons r1 rr =>
        cases rr
        cases r1
        exact ⟨_, rfl, (lim_big hl).1, (lim_big hl).2, h1 _ G1 H1 (Grow.refl E1.i) yl_rng⟩
    · exact h1.elim
  · exact h1.elim
theorem di_rng2 {tg a b : Expr} {gs : Rho → Rz (List D)} {p : Pos} (hg : Gl X "range") (hm : X.mg "range" = none) (ha : PA X [a, b] (tA W wi gs)) (hs : starEach [a, b] X.env = [(false, eval a X.env), (false, eval b X.env)] := by rfl) (hs2 : starEach [b] X.env = [(false, eval b X.env)] := by rfl) :
    PI X tg (.Call (.Name "range" p) [a, b] [] pos) (tI W wi (gRng rng2D gs)) := by
  refine PI.imp (pi_range2 hg hm ha hs hs2) fun σ H R h => ?_
  obtain ⟨B, G0, H0, G, ρ, E, h⟩ := h
  refine tX_go E h fun xs vs G1 H1 e1 g1 r1 E1 h1 => ?_
  unfold rng2D at h1
  split at h1
  · split at h1
    · rename_i hl
      cases r1 with
      | cons r1 rr =>
        cases rr with
        | cons r2 rr =>
          cases rr
          cases r1
          cases r2
          exact ⟨_, _, rfl, ⟨(lim_big hl.1).1, (lim_big hl.1).2, (lim_big hl.2).1, (lim_big hl.2).2⟩, h1 _ G1 H1 (Grow.refl E1.i) yl_rng⟩
    · exact h1.elim
  · exact h1.elim
def revD : D → Rz (List D)
  | .lst l => .ok l.reverse
  | .tup l => .ok l.reverse
  | _ => .bad
def gRev (g : Rho → Rz D) : Rho → Rz (List D) := fun ρ => (g ρ).bind revD
theorem di_rev {tg e : Expr} {g : Rho → Rz D} {p : Pos} (hg : Gl X "reversed") (hm : X.mg "reversed" = none) (he : PE X e (tD W wi g)) (hs : starEach [e] X.env = (false, eval e X.env) :: starEach [] X.env := by rfl) : PI X tg (.Call (.Name "reversed" p) [e] [] pos) (tI W wi (gRev g)) := by
  refine PI.imp (RT.pi_revA hg hm he hs) fun σ H R h => ?_
  obtain ⟨B, G0, H0, G, ρ, E, h⟩ := h
  refine tX_go E h fun x v G1 H1 _ g1 r1 E1 h1 => ?_
  cases x with
  | lst l =>
    cases r1 with
    | @lst p vs _ hp rp => exact ⟨p, vs, rfl, .inl ⟨SqL.of (E1.i _ _ hp), h1 _ G1 H1 (Grow.refl E1.i) (yl_rev hp rp)⟩⟩
  | tup l =>
    cases r1 with
    | @tup p vs _ hp rp => exact ⟨p, vs, rfl, .inr ⟨SqT.of (E1.i _ _ hp), h1 _ G1 H1 (Grow.refl E1.i) (yl_revT hp rp)⟩⟩
  | _ => exact h1.elim
end FM
set_option Elab.async false
set_option linter.all false
set_option maxRecDepth 100000
set_option maxHeartbeats 4000000
/-! FM, part 6: comprehensions, statements, loops, the def. -/
namespace FM
open PySem L2
variable {X : Cx} {W : Wd} {wi : WX} {pos : Pos} {a b c d : Expr} {ga gb gc gd : Rho → Rz D}

/-! ### comprehensions -/
def lcGo (tg : Tg) (c : Rho → Rz Bool) (ge : Rho → Rz D) (ρ : Rho) : List D → Rz (List D)
  | [] => .ok []
  | x :: xs => match bindT tg x ρ with
    | none => .bad
    | some ρ1 => match c ρ1 with
      | .ok true => (match ge ρ1 with
        | .ok d => (lcGo tg c ge ρ xs).bind fun r => .ok (d :: r)
        | _ => .bad)
      | .ok false => lcGo tg c ge ρ xs
      | _ => .bad
def gLc (gi : Rho → Rz (List D)) (tg : Tg) (ow : List Nat) (c : Rho → Rz Bool) (ge : Rho → Rz D) : Rho → Rz D := fun ρ =>
  (gi ρ).bind fun xs => if xs.length ≤ lim then (lcGo tg c ge (wipeR ρ ow) xs).bind fun l => .ok (.lst l) else .bad
def gYes : Rho → Rz Bool := fun _ => .ok true
theorem dts_nil {X : Cx} : PTs X [] (tT W wi gYes) := PTs.imp pts_nil fun σ H Q h => by
  obtain ⟨B, G0, H0, G, ρ, E, h⟩ := h
  exact h true G H (Grow.refl E.i) rfl
theorem dts_one {X : Cx} {c : Expr} {g : Rho → Rz Bool} (h : PT X c (tT W wi g)) : PTs X [c] (tT W wi g) := pts_one h
/-- the loop of a comprehension, on any iterator that yields xs while the heap stands on H1 -/
theorem lc_run {K : PySem.W.Frag} {B G0 H0 G1 H1 : Hp} {σ : St} {ρ : Rho} {J : It} {xs : List D} {tg : Tg} {ow : List Nat} {c : Rho → Rz Bool} {ge : Rho → Rz D} {Q : VK} (E : EnvOk W B G0 H0 G1 H1 σ ρ) (hy : Yl W H1 J G1 xs) (ht : tg.all (fun i => ow.contains i) = true)
    (h : RzX (fun G v d => Rep W G v d) W wi G1 H1 σ Q (if xs.length ≤ lim then (lcGo tg c ge (wipeR ρ ow) xs).bind fun l => .ok (.lst l) else .bad)) :
    ∀ Dl, H1 Dl = none → ∃ Wt : Nat → Nat → Hp → Prop, (∃ m, Wt 0 m (upd H1 Dl (.lst []))) ∧ ∀ i m H, Wt i m H →
      (J.stop i H ∧ Q (.ref Dl) H) ∨ (J.go i H ∧ ∃ Nx : Hp → Prop, (∀ H', Nx H' → ∃ m', m' < m ∧ Wt (i + 1) m' H') ∧ ∀ x H', J.yld i H x H' → tG K tg x (wipe σ ow) H' fun σ2 H2 => wipe σ2 ow = wipe σ ow ∧ tT W wF c σ2 H2 fun b H3 =>
        if b = true then tD W wF ge σ2 H3 fun y H4 => ∃ acc, H4 Dl = some (.lst acc) ∧ acc.length < sizeLine ∧ Nx (upd H4 Dl (.lst (acc ++ [y]))) else Nx H3) := by
  intro Dl hD
  split at h
  case isFalse => exact h.elim
  rename_i hlim
  obtain ⟨vs, rv, hgo, hstop⟩ := hy
  have hlen := rv.length
  have hgD : G1 Dl = none := E.i.free hD
  -- what holds ahead of turn i
  refine ⟨fun i m H => ∃ G acc done, Grow G1 H1 G H ∧ G Dl = none ∧ H Dl = some (.lst acc) ∧ Reps W G acc done ∧ acc.length ≤ i ∧ i ≤ vs.length ∧ m = vs.length - i ∧ RzX (fun G v d => Rep W G v d) W wi G1 H1 σ Q ((lcGo tg c ge (wipeR ρ ow) (xs.drop i)).bind fun l => .ok (.lst (done ++ l))),
    ⟨vs.length, G1, [], [], Grow.newH E.i hD, hgD, upd_same, .nil, Nat.le_refl _, Nat.zero_le _, rfl, ?_⟩, ?_⟩
  · rw [List.drop_zero]
    exact h
  rintro i m H ⟨G, acc, done, gr, gD, hDl, ra, hal, hi, rfl, hk⟩
  by_cases hlt : i < vs.length
  · refine .inr ?_
    have hx : i < xs.length := by rw [← hlen]; exact hlt
    obtain ⟨h1, h2⟩ := hgo i vs[i] H gr.h (by simp [hlt])
    obtain ⟨dx, ed, rx⟩ := rv.get (i := i) (v := vs[i]) (by simp [hlt])
    have edrop : xs.drop i = dx :: xs.drop (i + 1) := by
      rw [List.drop_eq_getElem_cons hx]
      congr 1
      rw [List.getElem?_eq_getElem hx] at ed
      exact Option.some.inj ed
    rw [edrop] at hk
    refine ⟨h1, fun H' => ∃ G acc done, Grow G1 H1 G H' ∧ G Dl = none ∧ H' Dl = some (.lst acc) ∧ Reps W G acc done ∧ acc.length ≤ i + 1 ∧ RzX (fun G v d => Rep W G v d) W wi G1 H1 σ Q ((lcGo tg c ge (wipeR ρ ow) (xs.drop (i + 1))).bind fun l => .ok (.lst (done ++ l))),
      fun H' ⟨G, acc, done, q1, q2, q3, q4, q5, q6⟩ => ⟨vs.length - (i + 1), by omega, G, acc, done, q1, q2, q3, q4, q5, hlt, rfl, q6⟩, fun x H' hyl => ?_⟩
    obtain ⟨e1, e2⟩ := h2 x H' hyl
    subst e1
    subst e2
    unfold lcGo at hk
    split at hk
    case h_1 => exact hk.elim
    rename_i ρ1 eb
    have E' : EnvOk W B G0 H0 G H' (wipe σ ow) (wipeR ρ ow) := (E.grow gr).wipe2 ow
    refine tG_go E' (rx.mono gr.g) eb fun σ2 E2 hw => ⟨?_, ?_⟩
    · rw [hw ow ht]
      have ww : ∀ (os ps : List Nat) (τ : St), (∀ z, z ∈ os → z ∈ ps) → wipe (wipe τ os) ps = wipe τ ps := by
        have ws : ∀ (σ : St) (vs : List Nat) (i : Nat), i ∈ vs → wipe (σ.set i none) vs = wipe σ vs := by
          intro σ vs
          induction vs with
          | nil =>
            intro i h
            cases h
          | cons z zs ih =>
            intro i h
            show (wipe (σ.set i none) zs).set z none = (wipe σ zs).set z none
            have cm : ∀ (zs : List Nat) (σ : St), (wipe (σ.set i none) zs).set i none = (wipe σ zs).set i none := by
              intro zs
              induction zs with
              | nil =>
                intro σ
                show (σ.set i none).set i none = σ.set i none
                rw [List.set_set]
              | cons y ys ih2 =>
                intro σ
                show ((wipe (σ.set i none) ys).set y none).set i none = ((wipe σ ys).set y none).set i none
                by_cases hy : i = y
                · subst hy
                  rw [List.set_set, List.set_set]
                  exact ih2 σ
                · rw [List.set_comm _ _ (Ne.symm hy), List.set_comm _ _ (Ne.symm hy), ih2 σ]
            by_cases hz : i = z
            · subst hz
              exact cm zs σ
            · rcases List.mem_cons.mp h with h | h
              · exact absurd h hz
              · rw [ih i h]
        intro os
        induction os with
        | nil =>
          intro ps τ _
          rfl
        | cons o os ih =>
          intro ps τ hh
          show wipe ((wipe τ os).set o none) ps = wipe τ ps
          rw [ws _ ps o (hh o List.mem_cons_self), ih ps τ fun z hz => hh z (List.mem_cons_of_mem _ hz)]
      exact ww ow ow σ fun _ z => z
    · cases ec : c ρ1 with
      | ok k =>
        rw [ec] at hk
        refine ⟨B, G0, H0, G, ρ1, E2, ?_⟩
        rw [ec]
        intro b G3 H3 g3 eb3
        subst eb3
        have gr3 := gr.trans g3
        cases b with
        | false => exact ⟨G3, acc, done, gr3, g3.hid _ gD (by rw [hDl]; exact fun z => nomatch z), g3.h _ _ hDl, ra.mono g3.g, Nat.le_succ_of_le hal, hk⟩
        | true =>
          have E3 := E2.grow g3
          cases ee : ge ρ1 with
          | ok d =>
            rw [if_pos rfl]
            refine ⟨B, G0, H0, G3, ρ1, E3, ?_⟩
            rw [ee]
            intro v G4 H4 g4 r4
            have gr4 := gr3.trans g4
            have hD3 : H3 Dl = some (.lst acc) := g3.h _ _ hDl
            have gD3 : G3 Dl = none := g3.hid _ gD (by rw [hDl]; exact fun z => nomatch z)
            have gD4 : G4 Dl = none := g4.hid _ gD3 (by rw [hD3]; exact fun z => nomatch z)
            refine ⟨acc, g4.h _ _ hD3, lim_lt (by omega), ?_⟩
            refine ⟨G4, acc ++ [v], done ++ [d], ⟨fun p o e => ?_, gr4.g, fun p o e => ?_, gr4.hid⟩, gD4, upd_same, (ra.mono (g3.g.trans g4.g)).append (.cons r4 .nil), by rw [List.length_append, List.length_singleton]; omega, ?_⟩
            · rw [upd_ne (ne_of_none e hD)]
              exact gr4.h p o e
            · rw [upd_ne (ne_of_none e gD4)]
              exact gr4.i p o e
            · rw [ee] at hk
              have hk' : RzX (fun G v d => Rep W G v d) W wi G1 H1 σ Q (((lcGo tg c ge (wipeR ρ ow) (xs.drop (i + 1))).bind fun r => .ok (d :: r)).bind fun l => .ok (.lst (done ++ l))) := hk
              cases er : lcGo tg c ge (wipeR ρ ow) (xs.drop (i + 1)) with
              | ok l =>
                rw [er] at hk'
                rw [Rz.ok_bind, List.append_assoc]
                exact hk'
              | er q =>
                rw [er] at hk'
                exact hk'
              | bad =>
                rw [er] at hk'
                exact hk'
          | er q =>
            rw [ee] at hk
            exact hk.elim
          | bad =>
            rw [ee] at hk
            exact hk.elim
      | er q =>
        rw [ec] at hk
        exact hk.elim
      | bad =>
        rw [ec] at hk
        exact hk.elim
  · have e : i = vs.length := by omega
    subst e
    refine .inl ⟨hstop H gr.h, ?_⟩
    have ed : xs.drop vs.length = [] := List.drop_eq_nil_of_le (by omega)
    rw [ed] at hk
    have hk' : RzX (fun G v d => Rep W G v d) W wi G1 H1 σ Q (.ok (.lst (done ++ []))) := hk
    rw [List.append_nil] at hk'
    have s1 : Same G (upd G Dl (.lst acc)) := same_upd gD
    refine hk' _ (upd G Dl (.lst acc)) H ⟨gr.h, gr.g.trans s1, fun p o e => ?_, fun p x y => ?_⟩ (.lst upd_same (ra.mono s1))
    · by_cases hp : p = Dl
      · subst hp
        rw [upd_same] at e
        cases e
        exact hDl
      · rw [upd_ne hp] at e
        exact gr.i p o e
    · rw [upd_ne (fun z => y (by rw [z]; exact hD))]
      exact gr.hid p x y
theorem sem_lc {K : PySem.W.Frag} {gi : Rho → Rz (List D)} {tg : Tg} {ow : List Nat} {cc : Rho → Rz Bool} {ge : Rho → Rz D} (ht : tg.all (fun i => ow.contains i) = true) {σ : St} {H : Hp} {Q : VK} (h : tD W wi (gLc gi tg ow cc ge) σ H Q) :
    tLc (tI W wi gi) (tG K tg) (tT W wF cc) (tD W wF ge) ow σ H Q := by
  obtain ⟨B, G0, H0, G, ρ, E, h⟩ := h
  refine tX_go E h fun xs J G1 H1 _ g1 r1 E1 h1 => ?_
  obtain ⟨vs, rv, hgo, hst⟩ := r1
  exact lc_run E1 ⟨vs, rv, fun i x H' e => hgo i x H' (E1.i.trans e), fun H' e => hst H' (E1.i.trans e)⟩ ht h1
theorem dx_lc {elt tg iter : Expr} {ifs : List Expr} {scope : Scope} {own : List (Str × Nat)} {gi : Rho → Rz (List D)} {t : Tg} {cc : Rho → Rz Bool} {ge : Rho → Rz D} (ht : t.all (fun i => (own.map (·.2)).contains i) = true) (hc : X.calm = true) (hN : X.N.Nodup) (hi : PI X tg iter (tI W wi gi)) (ok : BlkOk X.N X.env.scope scope own)
    (hg : ∀ (s : Shared) (H : Hp) (C : Addr) (cl : List (Str × Addr)) (fp : List Addr), PG (X.blk s H scope (compEnvC scope cl C X.env) fp) tg (tG X.K t))
    (hts : ∀ (s : Shared) (H : Hp) (C : Addr) (cl : List (Str × Addr)) (fp : List Addr), PTs (X.blk s H scope (compEnvC scope cl C X.env) fp) ifs (tT W wF cc))
    (he : ∀ (s : Shared) (H : Hp) (C : Addr) (cl : List (Str × Addr)) (fp : List Addr), PE (X.blk s H scope (compEnvC scope cl C X.env) fp) elt (tD W wF ge)) (hs : ∀ x, foldedSetIterable iter X.env x = pure x := by intro _; rfl) :
    PE X (.ListComp elt [⟨tg, iter, ifs, 0⟩] scope pos) (tD W wi (gLc gi t (own.map (·.2)) cc ge)) := PE.imp (pe_lc hc hN hi ok hg hts he hs) fun _ _ _ h => sem_lc ht h

/-! ### statements -/
def sSet (i : Nat) (g : Rho → Rz D) : Rho → Oc := fun ρ => rzS ρ (fun d => .nx (ρ.set i (.va d))) (g ρ)
def sRet (g : Rho → Rz D) : Rho → Oc := fun ρ => rzS ρ (fun d => .rt d) (g ρ)
def sExp (g : Rho → Rz D) : Rho → Oc := fun ρ => rzS ρ (fun _ => .nx ρ) (g ρ)
def sPair (t : Tg) (g : Rho → Rz D) : Rho → Oc := fun ρ => rzS ρ (fun d => match bindT t d ρ with
  | some ρ' => .nx ρ'
  | none => .bad) (g ρ)
def sNil : Rho → Oc := fun ρ => .nx ρ
def sSeq (s t : Rho → Oc) : Rho → Oc := fun ρ => match s ρ with
  | .nx ρ' => t ρ'
  | o => o
def sIf (c : Rho → Rz Bool) (s t : Rho → Oc) : Rho → Oc := fun ρ => rzS ρ (fun k => if k then s ρ else t ρ) (c ρ)
theorem sem_set {i : Nat} {g : Rho → Rz D} {Dd : Ends} {σ : St} {H : Hp} (h : sD W wi (sSet i g) Dd σ H) : tAsg (tD W wi g) (gName i) Dd σ H := by
  obtain ⟨B, G0, H0, G, ρ, E, h⟩ := h
  exact sD_go E h fun x v G1 H1 _ g1 r1 E1 h1 => h1 _ G1 H1 (E1.set r1)
theorem ds_set {i : Nat} {x : Str} {e : Expr} {g : Rho → Rz D} {p : Pos} (hN : X.N.Nodup) (hi : X.N[i]? = some x) (hx : Loc X.env.scope x) (he : PE X e (tD W wi g)) (hs : swapsWith e (some (.Name x p)) pos.line X.env = pure false := by rfl)
    (hf : X.fn x = true ∨ X.env.scope.names.lookup x = some .local := by first | exact .inl rfl | exact .inr rfl | assumption) : PS X (.Assign [.Name x p] e pos) (sD W wi (sSet i g)) := PS.imp (ps_set hN hi hx he hs hf) fun _ _ _ h => sem_set h
/-- x = [.. for ..] -/
theorem ds_setLc {i : Nat} {y : Str} {py : Pos} {elt tg iter : Expr} {ifs : List Expr} {scope : Scope} {own : List (Str × Nat)} {spos : Pos} {gi : Rho → Rz (List D)} {t : Tg} {cc : Rho → Rz Bool} {ge : Rho → Rz D} (ht : t.all (fun i => (own.map (·.2)).contains i) = true) (hc : X.calm = true) (hN : X.N.Nodup) (hy : X.N[i]? = some y) (hyl : X.env.scope.names.lookup y = some .local)
    (hsw : swapsWith (.ListComp elt [⟨tg, iter, ifs, 0⟩] scope pos) (some (.Name y py)) spos.line X.env = pure true) (hi : PI X tg iter (tI W wi gi)) (ok : BlkOk X.N X.env.scope scope own)
    (hg : ∀ (s : Shared) (H : Hp) (C : Addr) (cl : List (Str × Addr)) (fp : List Addr), PG (X.blk s H scope (compEnvC scope cl C X.env) fp) tg (tG X.K t))
    (hts : ∀ (s : Shared) (H : Hp) (C : Addr) (cl : List (Str × Addr)) (fp : List Addr), PTs (X.blk s H scope (compEnvC scope cl C X.env) fp) ifs (tT W wF cc))
    (he : ∀ (s : Shared) (H : Hp) (C : Addr) (cl : List (Str × Addr)) (fp : List Addr), PE (X.blk s H scope (compEnvC scope cl C X.env) fp) elt (tD W wF ge)) (hs : ∀ x, foldedSetIterable iter X.env x = pure x := by intro _; rfl) :
    PS X (.Assign [.Name y py] (.ListComp elt [⟨tg, iter, ifs, 0⟩] scope pos) spos) (sD W wi (sSet i (gLc gi t (own.map (·.2)) cc ge))) :=
  PS.imp (ps_setLc hc hN hy hyl hsw hi ok hg hts he hs) fun _ _ _ h => sem_lc ht (sem_set h)
theorem ds_ret {e : Expr} {g : Rho → Rz D} (he : PE X e (tD W wi g)) : PS X (.Return (some e) pos) (sD W wi (sRet g)) := PS.imp (ps_ret he) fun Dd σ H h => by
  obtain ⟨B, G0, H0, G, ρ, E, h⟩ := h
  exact sD_go E h fun x v G1 H1 _ g1 r1 E1 h1 => h1 v G1 H1 E1.gr r1
theorem ds_exp {e : Expr} {g : Rho → Rz D} (he : PE X e (tD W wi g)) (hs : swapsWith e none pos.line X.env = pure false := by rfl) : PS X (.Expr e pos) (sD W wi (sExp g)) := PS.imp (ps_expr he hs) fun Dd σ H h => by
  obtain ⟨B, G0, H0, G, ρ, E, h⟩ := h
  exact sD_go E h fun x v G1 H1 _ g1 r1 E1 h1 => h1 σ G1 H1 E1
theorem ds_pair {tg e : Expr} {t : Tg} {g : Rho → Rz D} (he : PE X e (tD W wi g)) (hg : PG X tg (tG X.K t)) (hs : swapsWithSole [tg] e pos.line X.env = pure false := by rfl) (hw : swappedStores [tg] e X.env = pure none := by rfl)
    (h1 : (assignEach [tg] X.env).map (·.2) = [assign tg X.env] := by rfl) : PS X (.Assign [tg] e pos) (sD W wi (sPair t g)) := PS.imp (ps_asg he hg hs hw h1) fun Dd σ H h => by
  obtain ⟨B, G0, H0, G, ρ, E, h⟩ := h
  refine sD_go E h fun x v G1 H1 _ g1 r1 E1 h1 => ?_
  split at h1
  · rename_i ρ' eb
    exact tG_go E1 r1 eb fun σ' E2 _ => h1 σ' G1 H1 E2
  · exact h1.elim
theorem dss_nil : PSs X [] (sD W wi sNil) := PSs.imp pss_nil fun Dd σ H h => by
  obtain ⟨B, G0, H0, G, ρ, E, h⟩ := h
  exact h σ G H E
theorem sem_seq {s t : Rho → Oc} {Dd : Ends} {σ : St} {H : Hp} (h : sD W wi (sSeq s t) Dd σ H) : sD W wi s { Dd with nx := sD W wi t Dd } σ H := by
  obtain ⟨B, G0, H0, G, ρ, E, h⟩ := h
  refine ⟨B, G0, H0, G, ρ, E, ?_⟩
  unfold sSeq at h
  cases e : s ρ with
  | nx ρ' =>
    rw [e] at h
    exact fun σ' G' H' E' => ⟨B, G0, H0, G', ρ', E', h⟩
  | rt d =>
    rw [e] at h
    exact h
  | er c ρ' =>
    rw [e] at h
    exact h
  | bad =>
    rw [e] at h
    exact h
theorem dss_cons {st : Stmt} {rest : List Stmt} {s t : Rho → Oc} (h1 : PS X st (sD W wi s)) (h2 : PSs X rest (sD W wi t)) : PSs X (st :: rest) (sD W wi (sSeq s t)) := PSs.imp (pss_cons h1 h2) fun _ _ _ h => sem_seq h
theorem dss_one {st : Stmt} {s : Rho → Oc} (h1 : PS X st (sD W wi s)) : PSs X [st] (sD W wi s) := pss_one h1
theorem ds_if {c : Expr} {p q : List Stmt} {cc : Rho → Rz Bool} {s t : Rho → Oc} (hc : PT X c (tT W wi cc)) (ha : PSs X p (sD W wi s)) (hb : PSs X q (sD W wi t)) : PS X (.If c p q pos) (sD W wi (sIf cc s t)) := PS.imp (ps_if hc ha hb) fun Dd σ H h => by
  obtain ⟨B, G0, H0, G, ρ, E, h⟩ := h
  refine sD_go E h fun k v G1 H1 _ g1 r1 E1 h1 => ?_
  subst r1
  cases v with
  | true => exact ⟨B, G0, H0, G1, ρ, E1, h1⟩
  | false => exact ⟨B, G0, H0, G1, ρ, E1, h1⟩
/-! what is forgotten behind a statement; an own list given out ahead of it -/
def ocMap (f : Rho → Rho) : Oc → Oc
  | .nx ρ => .nx (f ρ)
  | o => o
def sWp (vs : List Nat) (s : Rho → Oc) : Rho → Oc := fun ρ => ocMap (fun r => wipeR r vs) (s ρ)
theorem ds_wp {st : Stmt} {s : Rho → Oc} (vs : List Nat) (h : PS X st (sD W wi s)) : PS X st (sD W wi (sWp vs s)) := PS.imp h fun Dd σ H h => by
  obtain ⟨B, G0, H0, G, ρ, E, h⟩ := h
  refine ⟨B, G0, H0, G, ρ, E, ?_⟩
  unfold sWp at h
  cases e : s ρ with
  | nx ρ' =>
    rw [e] at h
    exact fun σ' G' H' E' => h σ' G' H' (E'.wipe vs)
  | rt d =>
    rw [e] at h
    exact h
  | er c ρ' =>
    rw [e] at h
    exact h
  | bad =>
    rw [e] at h
    exact h
def sFz (i : Nat) (s : Rho → Oc) : Rho → Oc := fun ρ => match ρ[i]? with
  | some (.ow l) => s (ρ.set i (.va (.lst l)))
  | _ => .bad
theorem ds_fz {st : Stmt} {s : Rho → Oc} (i : Nat) (h : PS X st (sD W wi s)) : PS X st (sD W wi (sFz i s)) := PS.imp h fun Dd σ H h => by
  obtain ⟨B, G0, H0, G, ρ, E, h⟩ := h
  unfold sFz at h
  split at h
  · rename_i l e
    obtain ⟨G', g', E'⟩ := E.frz e
    exact ⟨B, G0, H0, G', _, E', h⟩
  · exact h.elim
/-! own lists -/
def sOwn (i : Nat) (gs : Rho → Rz (List D)) : Rho → Oc := fun ρ => rzS ρ (fun ds => if ds.length ≤ lim then .nx (ρ.set i (.ow ds)) else .bad) (gs ρ)
theorem ds_own {i : Nat} {x : Str} {es : List Expr} {gs : Rho → Rz (List D)} {p lp : Pos} (hN : X.N.Nodup) (hi : X.N[i]? = some x) (hx : Loc X.env.scope x) (he : PA X es (tA W wi gs)) (hs : swapsWith (.List es lp) (some (.Name x p)) pos.line X.env = pure false := by rfl)
    (hf : X.fn x = true ∨ X.env.scope.names.lookup x = some .local := by first | exact .inl rfl | exact .inr rfl | assumption) : PS X (.Assign [.Name x p] (.List es lp) pos) (sD W wi (sOwn i gs)) := PS.imp (ps_set hN hi hx (pe_lst he) hs hf) fun Dd σ H h => by
  obtain ⟨B, G0, H0, G, ρ, E, h⟩ := h
  refine sD_go E h fun ds vs G1 H1 _ g1 r1 E1 h1 => ?_
  split at h1
  · rename_i hl
    exact ⟨by rw [r1.length]; exact lim_le hl, fun q hq => h1 _ G1 _ (E1.setOw hq r1)⟩
  · exact h1.elim
def sApp (i : Nat) (g : Rho → Rz D) : Rho → Oc := fun ρ => match ρ[i]? with
  | some (.ow l) => rzS ρ (fun d => if l.length ≤ lim then .nx (ρ.set i (.ow (l ++ [d]))) else .bad) (g ρ)
  | _ => .bad
theorem ds_app (i : Nat) {x : Str} {e : Expr} {g : Rho → Rz D} {p apos cpos : Pos} (hN : X.N[i]? = some x) (hv : Vis X.env.scope x) (he : PE X e (tD W wi g)) (hd : (x == ("__debug__" : Str)) = false := by decide) (hcd : (x == ("__classdict__" : Str)) = false := by decide)
    (hs : swapsWith (.Call (.Attribute (.Name x p) "append" apos) [e] [] cpos) none pos.line X.env = pure false := by rfl) (hse : starEach (e :: []) X.env = (false, eval e X.env) :: starEach [] X.env := by rfl)
    (hbase : attributeBase (.Name x p) "append" X.env (eval (.Name x p) X.env) = eval (.Name x p) X.env := by rfl)
    (hfew : ((backTo cpos (starEach (e :: []) X.env)).all (fun x => !x.1) && (backToKw cpos (keywordEach [] X.env)).all (fun x => x.1.isSome) && decide ((e :: []).length + ([] : List Keyword).length + (if ([] : List Keyword).isEmpty then 0 else 1) < 30)) = true := by rfl)
    (hline : (apos.endLine == cpos.line) = true := by rfl) (hplain : (backTo cpos (starEach [] X.env)).any (·.1) = false := by rfl) :
    PS X (.Expr (.Call (.Attribute (.Name x p) "append" apos) [e] [] cpos) pos) (sD W wi (sApp i g)) :=
  PS.imp (ps_expr (pe_bm PySem.F.plainAttrs_list PySem.F.slot_list_append PySem.F.type_list_append mt_append (pe_var hN hv hd hcd) (pa_cons he pa_nil hse) hbase hfew hline hse hplain) hs) fun Dd σ H h => by
    obtain ⟨B, G0, H0, G, ρ, E, h⟩ := h
    unfold sApp at h
    split at h
    · rename_i l el
      obtain ⟨q, vs, es, h0, hg, hh, r⟩ := E.ow el
      refine ⟨.ref q, es, .inl ⟨rfl, vs, SqL.of hh⟩, sD_go E h fun d v G1 H1 _ g1 r1 E1 h1 => ?_⟩
      split at h1
      · rename_i hl
        exact ⟨q, vs, v, rfl, rfl, g1.h _ _ hh, by rw [r.length]; exact lim_lt hl, h1 σ G1 _ (E1.chg el es ((r.mono g1.g).append (.cons r1 .nil)))⟩
      · exact h1.elim
    · exact h.elim
def sExt (i : Nat) (g : Rho → Rz D) : Rho → Oc := fun ρ => match ρ[i]? with
  | some (.ow l) => rzS ρ (fun d => match d with
    | .lst m => if l.length + m.length ≤ lim then .nx (ρ.set i (.ow (l ++ m))) else .bad
    | _ => .bad) (g ρ)
  | _ => .bad
theorem ds_ext (i : Nat) {x : Str} {e : Expr} {g : Rho → Rz D} {p apos cpos : Pos} (hN : X.N[i]? = some x) (hv : Vis X.env.scope x) (he : PE X e (tD W wi g)) (hd : (x == ("__debug__" : Str)) = false := by decide) (hcd : (x == ("__classdict__" : Str)) = false := by decide)
    (hs : swapsWith (.Call (.Attribute (.Name x p) "extend" apos) [e] [] cpos) none pos.line X.env = pure false := by rfl) (hse : starEach (e :: []) X.env = (false, eval e X.env) :: starEach [] X.env := by rfl)
    (hbase : attributeBase (.Name x p) "extend" X.env (eval (.Name x p) X.env) = eval (.Name x p) X.env := by rfl)
    (hfew : ((backTo cpos (starEach (e :: []) X.env)).all (fun x => !x.1) && (backToKw cpos (keywordEach [] X.env)).all (fun x => x.1.isSome) && decide ((e :: []).length + ([] : List Keyword).length + (if ([] : List Keyword).isEmpty then 0 else 1) < 30)) = true := by rfl)
    (hline : (apos.endLine == cpos.line) = true := by rfl) (hplain : (backTo cpos (starEach [] X.env)).any (·.1) = false := by rfl) :
    PS X (.Expr (.Call (.Attribute (.Name x p) "extend" apos) [e] [] cpos) pos) (sD W wi (sExt i g)) :=
  PS.imp (ps_expr (pe_bm PySem.F.plainAttrs_list PySem.F.slot_list_extend PySem.F.type_list_extend mt_extend (pe_var hN hv hd hcd) (pa_cons he pa_nil hse) hbase hfew hline hse hplain) hs) fun Dd σ H h => by
    obtain ⟨B, G0, H0, G, ρ, E, h⟩ := h
    unfold sExt at h
    split at h
    · rename_i l el
      obtain ⟨q, vs, es, h0, hg, hh, r⟩ := E.ow el
      refine ⟨.ref q, es, .inl ⟨rfl, vs, SqL.of hh⟩, sD_go E h fun d v G1 H1 _ g1 r1 E1 h1 => ?_⟩
      cases d with
      | lst m =>
        have h1' : SzD W wi B G0 H0 Dd (if l.length + m.length ≤ lim then .nx (ρ.set i (.ow (l ++ m))) else .bad) := h1
        split at h1'
        · rename_i hl
          cases r1 with
          | @lst q2 us _ hq2 r2 => exact ⟨q, q2, vs, us, rfl, rfl, g1.h _ _ hh, E1.i _ _ hq2, by rw [r.length, r2.length]; exact lim_le hl, h1' σ G1 _ (E1.chg el es ((r.mono g1.g).append r2))⟩
        · exact h1'.elim
      | _ => exact h1.elim
    · exact h.elim
/-! for, while -/
def forGo (tg : Tg) (wp : List Nat) (body : Rho → Oc) : List D → Rho → Oc
  | [], ρ => .nx ρ
  | x :: xs, ρ => match bindT tg x ρ with
    | none => .bad
    | some ρ1 => match body ρ1 with
      | .nx ρ2 => forGo tg wp body xs (wipeR ρ2 wp)
      | o => o
def sFor (gi : Rho → Rz (List D)) (tg : Tg) (wp : List Nat) (body : Rho → Oc) : Rho → Oc := fun ρ => rzS ρ (fun xs => forGo tg wp body xs ρ) (gi ρ)
theorem SzD.rebase {B B' G0 H0 : Hp} {Dd : Ends} {o : Oc} (h : SzD W wi B G0 H0 Dd o) (e : Same B B') : SzD W wi B' G0 H0 Dd o := by
  cases o with
  | nx ρ' => exact fun σ' G' H' E' => h σ' G' H' (E'.base (e.trans E'.bs))
  | rt d => exact h
  | er c ρ' => exact fun σ' G' H' E' => h σ' G' H' (E'.base (e.trans E'.bs))
  | bad => exact h
theorem sem_for {K : PySem.W.Frag} {gi : Rho → Rz (List D)} {tg : Tg} {wp : List Nat} {body : Rho → Oc} {Dd : Ends} {σ : St} {H : Hp} (h : sD W wi (sFor gi tg wp body) Dd σ H) : tFor (tI W wi gi) (tG K tg) (sD W wi body) Dd σ H := by
  obtain ⟨B, G0, H0, G, ρ, E, h⟩ := h
  refine sD_go E h fun xs J G1 H1 _ g1 r1 E1 h1 => ?_
  obtain ⟨vs, rv, hgo, hstop⟩ := r1
  have hlen := rv.length
  have hB : Same B G1 := E1.bs
  refine ⟨fun i m σ' H' => ∃ G' ρ', EnvOk W G1 G0 H0 G' H' σ' ρ' ∧ SzD W wi B G0 H0 Dd (forGo tg wp body (xs.drop i) ρ') ∧ i ≤ vs.length ∧ m = vs.length - i,
    ⟨vs.length, G1, ρ, E1.base (.refl _), h1, Nat.zero_le _, rfl⟩, ?_⟩
  rintro i m σ' H' ⟨G', ρ', E', hk, hi, rfl⟩
  have sH : Same G1 H' := E'.bs.trans E'.i
  by_cases hlt : i < vs.length
  · refine .inr ?_
    have hx : i < xs.length := by rw [← hlen]; exact hlt
    obtain ⟨q1, q2⟩ := hgo i vs[i] H' sH (by simp [hlt])
    obtain ⟨dx, ed, rx⟩ := rv.get (i := i) (v := vs[i]) (by simp [hlt])
    have edrop : xs.drop i = dx :: xs.drop (i + 1) := by
      rw [List.drop_eq_getElem_cons hx]
      congr 1
      rw [List.getElem?_eq_getElem hx] at ed
      exact Option.some.inj ed
    rw [edrop] at hk
    refine ⟨q1, fun σ2 H2 => ∃ G2 ρ2, EnvOk W G1 G0 H0 G2 H2 σ2 ρ2 ∧ SzD W wi B G0 H0 Dd (forGo tg wp body (xs.drop (i + 1)) ρ2),
      fun σ2 H2 ⟨G2, ρ2, z1, z2⟩ => ⟨vs.length - (i + 1), by omega, G2, ρ2, z1, z2, hlt, rfl⟩, fun x H2 hyl => ?_⟩
    obtain ⟨e1, e2⟩ := q2 x H2 hyl
    subst e1
    subst e2
    unfold forGo at hk
    split at hk
    case h_1 => exact hk.elim
    rename_i ρ1 eb
    refine tG_go E' (rx.mono E'.bs) eb fun σ2 E2 _ => ⟨G1, G0, H0, G', ρ1, E2, ?_⟩
    cases e : body ρ1 with
    | nx ρ2 =>
      rw [e] at hk
      exact fun σ3 G3 H3 E3 => ⟨G3, _, E3.wipe wp, hk⟩
    | rt d =>
      rw [e] at hk
      exact hk
    | er c ρ2 =>
      rw [e] at hk
      exact SzD.rebase hk hB
    | bad =>
      rw [e] at hk
      exact hk
  · have e : i = vs.length := by omega
    subst e
    have ed : xs.drop vs.length = [] := List.drop_eq_nil_of_le (by omega)
    rw [ed] at hk
    exact .inl ⟨hstop H' sH, hk σ' G' H' (E'.base (hB.trans E'.bs))⟩
theorem ds_for {tg iter : Expr} {body : List Stmt} {gi : Rho → Rz (List D)} {t : Tg} {s : Rho → Oc} (wp : List Nat) (hp : PassesOwn (model X.prog X.w) X.A X.env X.xe) (hc : X.calm = true) (hi : PI X tg iter (tI W wi gi)) (hg : PG X tg (tG X.K t)) (hb : PSs X body (sD W wi s))
    (hs : ∀ x, foldedSetIterable iter X.env x = pure x := by intro _; rfl) : PS X (.For tg iter body [] pos) (sD W wi (sFor gi t wp s)) := PS.imp (ps_for hp hc hi hg hb hs) fun _ _ _ h => sem_for h
def whGo (wp : List Nat) (c : Rho → Rz Bool) (body : Rho → Oc) : Nat → Rho → Oc
  | 0, _ => .bad
  | n + 1, ρ => rzS ρ (fun k => if k then (match body ρ with
    | .nx ρ2 => whGo wp c body n (wipeR ρ2 wp)
    | o => o) else .nx ρ) (c ρ)
def sWh (n : Nat) (wp : List Nat) (c : Rho → Rz Bool) (body : Rho → Oc) : Rho → Oc := whGo wp c body n
theorem ds_wh {test : Expr} {body : List Stmt} {cc : Rho → Rz Bool} {s : Rho → Oc} (n : Nat) (wp : List Nat) (hp : PassesOwn (model X.prog X.w) X.A X.env X.xe) (hc : PT X test (tT W wi cc)) (hb : PSs X body (sD W wi s)) : PS X (.While test body [] pos) (sD W wi (sWh n wp cc s)) := PS.imp (ps_while hp hc hb) fun Dd σ H h => by
  obtain ⟨B, G0, H0, G, ρ, E, h⟩ := h
  refine ⟨fun m σ' H' => ∃ G' ρ', EnvOk W B G0 H0 G' H' σ' ρ' ∧ SzD W wi B G0 H0 Dd (whGo wp cc s m ρ'), ⟨n, G, ρ, E, h⟩, ?_⟩
  rintro m σ' H' ⟨G', ρ', E', hk⟩
  cases m with
  | zero => exact hk.elim
  | succ m =>
    refine sD_go (k := fun k => if k then (match s ρ' with | .nx ρ2 => whGo wp cc s m (wipeR ρ2 wp) | o => o) else .nx ρ') E' hk fun k v G1 H1 _ g1 r1 E1 h1 => ?_
    subst r1
    cases v with
    | false =>
      rw [if_neg Bool.false_ne_true]
      exact h1 σ' G1 H1 E1
    | true =>
      rw [if_pos rfl]
      refine ⟨fun σ2 H2 => ∃ G2 ρ2, EnvOk W B G0 H0 G2 H2 σ2 ρ2 ∧ SzD W wi B G0 H0 Dd (whGo wp cc s m ρ2), fun σ2 H2 ⟨G2, ρ2, z1, z2⟩ => ⟨m, Nat.lt_succ_self _, G2, ρ2, z1, z2⟩, B, G0, H0, G1, ρ', E1, ?_⟩
      rw [if_pos rfl] at h1
      cases e : s ρ' with
      | nx ρ2 =>
        rw [e] at h1
        exact fun σ3 G3 H3 E3 => ⟨G3, _, E3.wipe wp, h1⟩
      | rt d =>
        rw [e] at h1
        exact h1
      | er c ρ2 =>
        rw [e] at h1
        exact h1
      | bad =>
        rw [e] at h1
        exact h1
/-! raise -/
def sRaise (c : Ec) : Rho → Oc := fun ρ => .er c ρ
theorem ds_raise {c : Ec} {x m : Str} {j : Nat} {p p2 pos' : Pos} {bmB : List Value} {Bn newId initId : String} (F : ExcBaseFacts Bn newId initId bmB) (q : PySem.W.excIn X.K (W.ca c) bmB newId = true) (gC : X.mg x = some (.ref (W.ca c))) (kC : PySem.W.keepIn X.K (.ref (W.ca c)) = true) (r : Raises X (.ref (W.ca c)))
    (hg : Gl X x) (hc : X.calm = true) (tk : Takes X wi) (hdb : (x == ("__debug__" : Str)) = false := by decide) :
    PS X (.Raise (some (.Call (.Name x p) [.Constant (.str m) j p2] [] pos')) none pos) (sD W wi (sRaise c)) := PS.imp (ps_raise hc tk (pmk_own F q gC kC r hg hdb)) fun Dd σ H h => by
  obtain ⟨B, G0, H0, G, ρ, E, h⟩ := h
  exact h σ G H E

/-! ### the def -/
def startR (n : Nat) (ds : List D) : Rho := ds.map Sl.va ++ List.replicate (n - ds.length) Sl.no
def fnD (a n : Nat) (s : Rho → Oc) (ds : List D) : Rz D := if ds.length = a then (match s (startR n ds) with
  | .nx _ => .ok .non
  | .rt d => .ok d
  | .er c _ => .er c
  | .bad => .bad) else .bad
theorem fnD_len {a n : Nat} {s : Rho → Oc} (ds : List D) (h : ds.length ≠ a) : fnD a n s ds = .bad := if_neg h
theorem env_start {G H : Hp} {N : List Str} {vs : List V} {ds : List D} (e : Same G H) (r : Reps W G vs ds) (hl : ds.length ≤ N.length) : EnvOk W G G H G H (L2.start N vs) (startR N.length ds) := by
  have len := r.length
  refine ⟨.refl _, Grow.refl e, ?_, fun i x h => ?_, fun i j p l m e1 _ _ _ => ?_⟩
  · unfold L2.start startR
    rw [List.length_append, List.length_append, List.length_map, List.length_map, List.length_replicate, List.length_replicate, len]
  · unfold L2.start
    unfold startR at h
    by_cases hi : i < ds.length
    · rw [List.getElem?_append_left (by rw [List.length_map]; exact hi), List.getElem?_map] at h
      rw [List.getElem?_append_left (by rw [List.length_map, len]; exact hi), List.getElem?_map]
      cases ed : ds[i]? with
      | none =>
        rw [ed] at h
        cases h
      | some d =>
        rw [ed] at h
        cases h
        obtain ⟨v, ev, rv⟩ := r.getD ed
        rw [ev]
        exact ⟨v, rfl, rv⟩
    · rw [List.getElem?_append_right (by rw [List.length_map]; omega), List.getElem?_replicate] at h
      split at h
      · cases h
        trivial
      · cases h
  · unfold startR at e1
    by_cases hi : i < ds.length
    · rw [List.getElem?_append_left (by rw [List.length_map]; exact hi), List.getElem?_map] at e1
      cases ed : ds[i]? with
      | none =>
        rw [ed] at e1
        cases e1
      | some d =>
        rw [ed] at e1
        cases e1
    · rw [List.getElem?_append_right (by rw [List.length_map]; omega), List.getElem?_replicate] at e1
      split at e1 <;> cases e1
/-- THE RULE of a def -/
theorem fn_ok {P : Program} {w : World} {K : PySem.W.Frag} {mg : Str → Option Value} {base : Heap} {x qual : Str} {st : Stmt} {f : Addr} {fd : FuncData} {N ps : List Str} {k : Nat} {s : Rho → Oc} {n : Nat} (F : Fun K x qual st f fd) (S : FnScope N ps (defScope st)) (hn : ps.length = n) (hN : n ≤ N.length)
    (hb : ∀ (cdv : Value) (A : Around) (outer : List Env) (s0 : Shared) (H : Hp) (E : XK), Room k (A.deeper (PyProof.Rows.envOfC qual (defScope st) s0.heap.objs.size f cdv)) → PSs (cxOf (L2.CX P w) P w K mg base N qual (defScope st) f cdv A outer s0 H E) (defBody st) (sD W (wE E) s)) :
    FnOk P w K mg base (L2.CX P w) (k + 1) f fd ps (spD W n (fnD n N.length s)) := by
  refine F.okX S (fun vs H Q E h => (spD_len h).trans hn.symm) (fun cdv A outer s0 H vs Q E hr h => ⟨_, hb cdv A outer s0 H E hr, ?_⟩)
  obtain ⟨G, ds, e, r, hl, h⟩ := h
  refine ⟨G, G, H, G, startR N.length ds, env_start e r (by omega), ?_⟩
  unfold fnD at h
  rw [if_pos hl] at h
  cases eo : s (startR N.length ds) with
  | nx ρ' =>
    rw [eo] at h
    exact fun σ' G' H' E' => h .non G' H' E'.gr .non
  | rt d =>
    rw [eo] at h
    exact fun v G' H' g' r' => h v G' H' g' r'
  | er c ρ' =>
    rw [eo] at h
    exact fun σ' G' H' E' => h G' H' E'.gr
  | bad =>
    rw [eo] at h
    exact h
end FM
set_option Elab.async false
set_option linter.all false
set_option maxRecDepth 100000
set_option maxHeartbeats 4000000
/-! FM, part 7: sorted(..) of lists, tuples and sets; set(..) of ints. -/
namespace PySem.W
open PySem PySem.Calls PyProof.Rows
section
variable {prog : Program} {w : World} {A : Around} {E : Value → Shared → Prop} {s : Shared}
/-- a tuple's items, taken as a list -/
theorem fm_collect_tup {t : Addr} {us : List Value} {Q : List Value → Shared → Prop} (ht : s.heap.IsTuple t us.toArray) (hz : us.length ≤ sizeLine)
    (k : Q us { s with heap := (s.heap.push (seqObj "list" #[] 0)).update s.heap.objs.size (Obj.mapSeq (· ++ us.toArray)) }) : wpAny (model prog w) A (collect (.ref t)) Q E s := by
  obtain ⟨ob, hob, hcls, ep, hdat⟩ := id ht
  have line : (sizeLine : Nat) = 16777216 := sizeLine_eq
  have far : (s.heap.push (seqObj "list" #[] 0)).get? t = some ob := Heap.get?_push_of_some _ hob
  have new : (s.heap.push (seqObj "list" #[] 0)).get? s.heap.objs.size = some (seqObj "list" #[] 0) := Heap.get?_push_size _ rfl
  unfold collect
  refine wpAny_bind (wpAny_runValue (codeAny_builtin entry_proto_collect' ?_))
  show wpAny _ _ (newList [] >>= fun z => again (.builtin "list.__iadd__" ⟨[z, .ref t], []⟩)) _ _ s
  refine wpAny_bind (wpAny_newList (wpAny_pure ⟨Code.quiet_builtin _ (by decide +kernel), codeAny_builtin entry_list_iadd' ?_⟩))
  show wpAny _ _ (Builtin.List.listExtendWith (.ref s.heap.objs.size) (.ref t) (.ref s.heap.objs.size)) _ _ { s with heap := s.heap.push (seqObj "list" #[] 0) }
  unfold Builtin.List.listExtendWith
  refine wpAny_bind (wpAny_typeOf (T := "tuple") ⟨ob, far, hcls⟩ ?_)
  rw [if_pos (by simp)]
  refine wpAny_bind (listItems_at far hdat (wpAny_bind (listItems_at (xs := #[]) (n := 0) new rfl ?_)))
  rw [if_neg (by simp)]
  refine wpAny_bind (listUpdate_at (xs := #[]) (n := 0) new rfl ?_ (Nat.zero_le _) (by show (#[] ++ us.toArray).size ≤ sizeLine + 1; simp; omega))
  refine wpAny_pure ?_
  show wpAny (model prog w) A (load s.heap.objs.size >>= fun o => match o.data with | .seq xs _ => pure xs.toList | _ => unsupported "internal:collect") Q E { s with heap := (s.heap.push (seqObj "list" #[] 0)).update s.heap.objs.size (Obj.mapSeq (· ++ us.toArray)) }
  refine wpAny_bind (wpAny_load (get?_update_seq new _) ?_)
  show wpAny _ _ (pure ((#[] : Array Value) ++ us.toArray).toList) Q E _
  have e : ((#[] : Array Value) ++ us.toArray).toList = us := by simp
  rw [e]
  exact wpAny_pure k
/-- sorted(t), t a tuple -/
theorem fm_sorted_tup {t : Addr} {us : List Value} {κ : PyProof.Rows.KeyKind} {Q : Value → Shared → Prop} (ht : s.heap.IsTuple t us.toArray) (S : SortsAt prog w A.in1.in1 { s with heap := sortingHeap (copyHeap s.heap us) (s.heap.objs.size + 1) us } κ us) (hz : us.length ≤ sizeLine)
    (k : Q (.ref (s.heap.objs.size + 1)) { s with heap := sortedAll s.heap us (sortVals κ false us us).toArray }) : wpAny (model prog w) A (call (.builtin "sorted") [.ref t]) Q E s := by
  refine call_function_entry_kw kind_sorted plain_sorted entry_sorted (args_sorted1 _) ?_
  unfold Builtin.«sorted»
  refine wpAny_bind (m := checkCount "sorted" 1 1 _) (wpAny_pure (wpAny_bind (fm_collect_tup ht hz (wpAny_bind (wpAny_newList ?_ hz)))))
  have hsz : ((s.heap.push (seqObj "list" #[] 0)).update s.heap.objs.size (Obj.mapSeq (· ++ us.toArray))).objs.size = s.heap.objs.size + 1 := by rw [Heap.size_update, size_push']
  show wpAny _ _ _ _ _ { s with heap := copyHeap s.heap us }
  rw [hsz]
  refine wpAny_bind (wpAny_holding (wpAny_call_entry_kw slot_list_sort ⟨_, copyHeap_at s.heap us, rfl⟩ entry_list_sort ?run (args_list_sort _)))
  case run =>
    refine wpAny_mono (list_sort_vals (s := { s with heap := copyHeap s.heap us }) (P := fun f s' => f = .done (.ret .none) ∧ s' = { s with heap := sortedAll s.heap us (sortVals κ false us us).toArray }) (copyHeap_at s.heap us) S hz ⟨rfl, rfl⟩) (fun f s' hf => ?_) fun _ _ e => e
    obtain ⟨rfl, rfl⟩ := hf
    exact ⟨_, rfl, wpAny_pure ⟨_, rfl, k⟩⟩
theorem fm_sorted_tup_data {t : Addr} {β : Type} {us : List Value} {bs : List β} {enc : β → PyData} {R : Value → β → Prop} {Q : Value → Shared → Prop} (ht : s.heap.IsTuple t us.toArray) (e : EachIs R us bs) (er : EachIs (fun v b => ∃ as, Reads s.heap v (enc b) as) us bs)
    (hal : AllAlike (bs.map enc)) (hk : Sortable (bs.map enc)) (hL : bs.length ≤ sizeLine) (hu : ∀ b, b ∈ bs → A.units + 2 + (enc b).depth < cLine)
    (h : ∀ out, out.length = bs.length → EachIs R out (bs.mergeSort (dataLe false enc)) → Q (.ref (s.heap.objs.size + 1)) { s with heap := sortedAll s.heap us (List.toArray out) }) : wpAny (model prog w) A (call (.builtin "sorted") [.ref t]) Q E s := by
  have er2 : EachIs (fun v b => ∃ as, Reads (sortingHeap (copyHeap s.heap us) (s.heap.objs.size + 1) us) v (enc b) as) us bs := er.mono fun _ _ ⟨as, r⟩ => ⟨as, PyProof.Rows.Reads.keeps (fun _ _ => sorting_copy_old) r⟩
  have er3 := each_map (R := fun v d => ∃ as, Reads (sortingHeap (copyHeap s.heap us) (s.heap.objs.size + 1) us) v d as) enc er2
  exact fm_sorted_tup ht (SortsAt.data (s := { s with heap := sortingHeap (copyHeap s.heap us) (s.heap.objs.size + 1) us }) er3 hal hk (bound_map hu)) (by rw [e.length]; exact hL) (h _ ((sortVals_length false rfl).trans e.length) (sortVals_data false e er2 hal))
end
end PySem.W
namespace FM
open PySem L2
variable {X : Cx} {W : Wd} {wi : WX}
/-! ### sorted -/
def pyD (d : D) : PyData := d.py.getD .none
def leP (x y : D) : Bool := PySem.W.dataLe false pyD x y
structure SortOk (l : List D) : Prop where
  py : ∀ d ∈ l, ∃ p, d.py = some p
  al : PySem.W.AllAlike (l.map pyD)
  so : PySem.W.Sortable (l.map pyD)
  dp : ∀ d ∈ l, (pyD d).depth ≤ 64
  ln : l.length ≤ lim
noncomputable instance (l : List D) : Decidable (SortOk l) := Classical.propDecidable _
noncomputable def sortedD : List D → Rz D
  | [.lst l] => if SortOk l then .ok (.lst (l.mergeSort leP)) else .bad
  | [.tup l] => if SortOk l then .ok (.lst (l.mergeSort leP)) else .bad
  | [.set l] => if l.length < 64 then .ok (.lst ((l.mergeSort fun a b => decide (a ≤ b)).map D.int)) else .bad
  | _ => .bad
def rSortA (K : PySem.W.Frag) : List V → Hp → VK → Prop := fun vs H Q => ∃ (a : Addr) (xs : List V) (ds : List D), vs = [V.ref a] ∧ (SqL K H a xs ∨ SqT K H a xs) ∧ SortOk ds ∧ (∀ (i : Nat) v, xs[i]? = some v → ∃ d, ds[i]? = some d ∧ Dp K H v (pyD d)) ∧ xs.length = ds.length ∧
  ∀ (ys : List (D × V)) p, ys.Perm (ds.zip xs) → ys.map (·.1) = ds.mergeSort leP → H p = none → Q (.ref p) (upd H p (.lst (ys.map (·.2))))
theorem each_zip {α β : Type} {R : α → β → Prop} : ∀ {as : List α} {bs : List β}, as.length = bs.length → (∀ (i : Nat) a b, as[i]? = some a → bs[i]? = some b → R a b) → PySem.W.EachIs R as bs
  | [], [], _, _ => .nil
  | a :: as, b :: bs, h, f => .cons (f 0 a b rfl rfl) (each_zip (by simpa using h) fun i x y h1 h2 => f (i + 1) x y h1 h2)
theorem vals_each {ys : List (D × V)} : ∀ {us : List Value}, PySem.W.EachIs (fun u (b : D × V) => RelV b.2 u) us ys → Vals (ys.map (·.2)) us := by
  induction ys with
  | nil =>
    intro us h
    cases h
    exact .nil
  | cons y ys ih =>
    intro us h
    cases h with
    | cons h1 t => exact .cons h1 (ih t)
theorem cr_sortA : CallR X (.builtin "sorted") (fun vs H Q => X.A.units + 80 < cLine ∧ rSortA X.K vs H Q) := by
  intro pins s σ H vs us Q I r h
  obtain ⟨hroom, a, xs, ds, rfl, hq, ok, hdp, hlen, q⟩ := h
  rw [Vals.ref1 r]
  have fin : ∀ (its : List Value), Vals xs its → xs.length ≤ sizeLine → (∀ out : List Value, out.length = (ds.zip xs).length → PySem.W.EachIs (fun u (b : D × V) => RelV b.2 u) out ((ds.zip xs).mergeSort (PySem.W.dataLe false fun b => pyD b.1)) →
      EP X pins σ Q (.ref (s.heap.objs.size + 1)) { s with heap := PyProof.Rows.sortedAll s.heap its (List.toArray out) }) := by
    intro its rv hz out hl he
    obtain ⟨ep, hat⟩ := PyProof.Rows.sortedAll_at s.heap its out.toArray
    have hv := vals_each he
    have hn : H (s.heap.objs.size + 1) = none := I.hok.fresh (Nat.le_succ _)
    have zl : ((((ds.zip xs).mergeSort (PySem.W.dataLe false fun b => pyD b.1)).map (·.2))).length ≤ sizeLine := by
      rw [List.length_map, List.length_mergeSort, List.length_zip, hlen, Nat.min_self, ← hlen]
      exact hz
    refine ⟨.ref _, upd H (s.heap.objs.size + 1) (.lst (((ds.zip xs).mergeSort (PySem.W.dataLe false fun b => pyD b.1)).map (·.2))), I.laid (t' := s.toks) (fun _ _ => PyProof.Rows.sortedAll_old) (Nat.le_succ _) ⟨zl, out, ep, hv, hat⟩, rfl, ?_⟩
    refine q _ _ (List.mergeSort_perm _ _) ?_ hn
    have e1 : (ds.zip xs).map (·.1) = ds := List.map_fst_zip (by omega)
    have e2 := PySem.W.sort_maps (r := PySem.W.dataLe false fun b : D × V => pyD b.1) (s := leP) (fun b : D × V => b.1) (l := ds.zip xs) (fun a _ b _ => rfl)
    rw [e1] at e2
    exact e2
  have lz : (ds.zip xs).length = xs.length := by rw [List.length_zip, hlen, Nat.min_self]
  have enc1 : (ds.zip xs).map (fun b => pyD b.1) = ds.map pyD := by
    have e1 : (ds.zip xs).map (·.1) = ds := List.map_fst_zip (by omega)
    have e2 : (ds.zip xs).map (fun b => pyD b.1) = ((ds.zip xs).map (·.1)).map pyD := (List.map_map (l := ds.zip xs) (f := fun b : D × V => b.1) (g := pyD)).symm
    rw [e2, e1]
  have hal : PySem.W.AllAlike ((ds.zip xs).map fun b => pyD b.1) := by
    rw [enc1]
    exact ok.al
  have hso : PySem.W.Sortable ((ds.zip xs).map fun b => pyD b.1) := by
    rw [enc1]
    exact ok.so
  have hu : ∀ b, b ∈ ds.zip xs → X.A.units + 2 + (pyD b.1).depth < cLine := fun b hb => by
    have := ok.dp b.1 (List.of_mem_zip hb).1
    omega
  have zipat : ∀ (i : Nat) (b : D × V), (ds.zip xs)[i]? = some b → ds[i]? = some b.1 ∧ xs[i]? = some b.2 := fun i b hb => by
    rw [List.getElem?_zip_eq_some] at hb
    exact hb
  rcases hq with hq | hq
  · obtain ⟨its, rv, pl, hz⟩ := I.list hq
    have li := rv.length
    have er : ∀ (i : Nat) (u : Value) (b : D × V), its[i]? = some u → (ds.zip xs)[i]? = some b → RelV b.2 u ∧ ∃ as, Reads s.heap u (pyD b.1) as := fun i u b h1 h2 => by
      obtain ⟨z1, z2⟩ := zipat i b h2
      obtain ⟨u', e1, r1⟩ := rv.get z2
      rw [h1] at e1
      cases e1
      obtain ⟨d, e3, dp⟩ := hdp i b.2 z2
      rw [z1] at e3
      cases e3
      exact ⟨r1, Dp.reads I _ _ _ dp r1⟩
    exact PySem.W.sorted_data (bs := ds.zip xs) (enc := fun b => pyD b.1) (R := fun u b => RelV b.2 u) pl.isList (each_zip (by omega) fun i u b h1 h2 => (er i u b h1 h2).1) (each_zip (by omega) fun i u b h1 h2 => (er i u b h1 h2).2) hal hso (by omega) hu (fin its rv hz)
  · obtain ⟨its, rv, pl, hz⟩ := I.tuple hq
    have pl' : s.heap.IsTuple a its.toArray := pl
    have li := rv.length
    have er : ∀ (i : Nat) (u : Value) (b : D × V), its[i]? = some u → (ds.zip xs)[i]? = some b → RelV b.2 u ∧ ∃ as, Reads s.heap u (pyD b.1) as := fun i u b h1 h2 => by
      obtain ⟨z1, z2⟩ := zipat i b h2
      obtain ⟨u', e1, r1⟩ := rv.get z2
      rw [h1] at e1
      cases e1
      obtain ⟨d, e3, dp⟩ := hdp i b.2 z2
      rw [z1] at e3
      cases e3
      exact ⟨r1, Dp.reads I _ _ _ dp r1⟩
    exact PySem.W.fm_sorted_tup_data (bs := ds.zip xs) (enc := fun b => pyD b.1) (R := fun u b => RelV b.2 u) pl' (each_zip (by omega) fun i u b h1 h2 => (er i u b h1 h2).1) (each_zip (by omega) fun i u b h1 h2 => (er i u b h1 h2).2) hal hso (by omega) hu (fin its rv hz)
theorem reps_perm {G : Hp} : ∀ (ys : List (D × V)), (∀ b ∈ ys, Rep W G b.2 b.1) → Reps W G (ys.map (·.2)) (ys.map (·.1))
  | [], _ => .nil
  | y :: r, h => .cons (h y List.mem_cons_self) (reps_perm r fun b hb => h b (List.mem_cons_of_mem _ hb))
theorem reps_zip {G : Hp} : ∀ {vs : List V} {ds : List D}, Reps W G vs ds → ∀ b ∈ ds.zip vs, Rep W G b.2 b.1
  | _, _, .nil, b, hb => by simp at hb
  | _, _, .cons h t, b, hb => by
    rw [List.zip_cons_cons, List.mem_cons] at hb
    rcases hb with rfl | hb
    · exact h
    · exact reps_zip t b hb
theorem sorted_uniq : ∀ {a b : List Int}, a.Pairwise (· < ·) → b.Pairwise (· < ·) → (∀ k, k ∈ a ↔ k ∈ b) → a = b
  | [], [], _, _, _ => rfl
  | [], y :: ys, _, _, h => absurd ((h y).mpr List.mem_cons_self) (by simp)
  | x :: xs, [], _, _, h => absurd ((h x).mp List.mem_cons_self) (by simp)
  | x :: xs, y :: ys, hx, hy, h => by
    rw [List.pairwise_cons] at hx hy
    have e : x = y := by
      have h1 := (h x).mp List.mem_cons_self
      have h2 := (h y).mpr List.mem_cons_self
      rw [List.mem_cons] at h1 h2
      rcases h1 with h1 | h1
      · exact h1
      · rcases h2 with h2 | h2
        · exact h2.symm
        · have := hy.1 x h1
          have := hx.1 y h2
          omega
    subst e
    rw [sorted_uniq hx.2 hy.2 fun k => ?_]
    have hk := h k
    rw [List.mem_cons, List.mem_cons] at hk
    constructor
    · intro z
      rcases hk.mp (.inr z) with q | q
      · have := hx.1 k z
        omega
      · exact q
    · intro z
      rcases hk.mpr (.inr z) with q | q
      · have := hy.1 k z
        omega
      · exact q
theorem msort_lt {l : List Int} (nd : l.Nodup) : (l.mergeSort fun a b => decide (a ≤ b)).Pairwise (· < ·) := by
  have h1 : (l.mergeSort fun a b => decide (a ≤ b)).Pairwise (fun a b => decide (a ≤ b) = true) := List.pairwise_mergeSort (fun a b c h h' => by simp only [decide_eq_true_eq] at *; omega) (fun a b => by simp only [Bool.or_eq_true, decide_eq_true_eq]; omega) l
  have h2 : (l.mergeSort fun a b => decide (a ≤ b)).Nodup := (List.mergeSort_perm _ _).nodup_iff.mpr nd
  refine (h1.and h2).imp fun {a b} h => ?_
  have := of_decide_eq_true h.1
  have := h.2
  omega
theorem cd_sorted (hK : X.K = W.K) (hw : X.w = W.w) (hc : X.calm = true) (hu : X.A.units + 80 < cLine) : ∃ r, CallR X (.builtin "sorted") r ∧ CallD W r sortedD := by
  refine ⟨_, or_call (X := X) cr_sortA (cr_sortedSet hc), ?_⟩
  intro wi σ G H vs xs Q i r h
  have body : ∀ (p : Addr) (us : List V) (l : List D), (SqL X.K H p us ∨ SqT X.K H p us) → Reps W G us l → RzX (fun G v d => Rep W G v d) W wi G H σ Q (if SortOk l then .ok (.lst (l.mergeSort leP)) else .bad) → rSortA X.K [.ref p] H Q := fun p us l hq ru h => by
    split at h
    · rename_i ok
      refine ⟨p, us, l, rfl, hq, ok, fun j v hv => ?_, ru.length, fun ys t hp he ht => ?_⟩
      · obtain ⟨d, ed, rd⟩ := ru.get hv
        obtain ⟨z, ez⟩ := ok.py d (List.mem_of_getElem? ed)
        refine ⟨d, ed, ?_⟩
        have : pyD d = z := by
          unfold pyD
          rw [ez]
          rfl
        rw [this]
        exact dp_of (rd.mono i) ez
      · have hr := reps_perm ys fun b hb => reps_zip ru b (hp.mem_iff.mp hb)
        rw [he] at hr
        exact h.newL i hr ht
    · exact h.elim
  unfold sortedD at h
  split at h
  · cases r with
    | cons r1 r2 =>
      cases r2
      cases r1 with
      | @lst p us _ hp rp => exact .inl ⟨hu, body p us _ (.inl (SqL.of (i _ _ hp))) rp h⟩
  · cases r with
    | cons r1 r2 =>
      cases r2
      cases r1 with
      | @tup p us _ hp rp => exact .inl ⟨hu, body p us _ (.inr (SqT.of (i _ _ hp))) rp h⟩
  · rename_i l
    cases r with
    | cons r1 r2 =>
      cases r2
      cases r1 with
      | @set p _ S hp hm nd =>
        split at h
        · rename_i hl
          refine .inr ⟨p, S, l.length, rfl, by rw [hw]; exact i _ _ hp, hl, fun ns t hs hmem _ ht => ?_⟩
          have e : ns = l.mergeSort fun a b => decide (a ≤ b) := sorted_uniq hs (msort_lt nd) fun k => by rw [hmem k, hm k, (List.mergeSort_perm _ _).mem_iff]
          subst e
          exact h.newL i (Reps.ints _) ht
        · exact h.elim
  · exact h.elim
/-! ### set(t), t a tuple of ints -/
def dedI : List Int → List Int
  | [] => []
  | x :: r => if x ∈ r then dedI r else x :: dedI r
theorem dedI_mem {k : Int} : ∀ {l : List Int}, k ∈ dedI l ↔ k ∈ l
  | [] => Iff.rfl
  | x :: r => by
    rw [dedI]
    split
    · rename_i h
      rw [dedI_mem (l := r), List.mem_cons]
      exact ⟨.inr, fun z => z.elim (fun e => e ▸ h) id⟩
    · rw [List.mem_cons, List.mem_cons, dedI_mem (l := r)]
theorem dedI_nodup : ∀ l : List Int, (dedI l).Nodup
  | [] => .nil
  | x :: r => by
    rw [dedI]
    split
    · exact dedI_nodup r
    · rename_i h
      exact List.nodup_cons.mpr ⟨fun z => h (dedI_mem.mp z), dedI_nodup r⟩
def setD : List D → Rz D
  | [.tup l] => match intsOf l with
    | some ns => if ns.length ≤ 60 then .ok (.set (dedI ns)) else .bad
    | none => .bad
  | [.lst l] => match intsOf l with
    | some ns => if ns.length ≤ 60 then .ok (.set (dedI ns)) else .bad
    | none => .bad
  | _ => .bad
end FM
set_option Elab.async false
set_option linter.all false
set_option maxRecDepth 100000
set_option maxHeartbeats 4000000
/-! FM, part 8: an own error that is caught and kept; isinstance. -/
namespace L2
open PySem PySem.Spec PyProof.Rows
section
variable {X : Cx} {pins : List (Addr × Obj)} {σ : St} {H : Hp} {s : Shared}
/-- an object that is there already is told of from now on -/
theorem Inv.fmTrack {a : Addr} {o : HO} (I : Inv X pins σ H s) (na : H a = none) (nL : a ≠ X.env.locals) (nC : ∀ x c, X.env.cells.lookup x = some c → c ≠ a) (nP : ∀ p ∈ X.pn ++ pins, p.1 ≠ a) (n0 : X.s_0.heap.get? a = none)
    (new : ObjOk X.prog X.w (upd H a o) s.heap a o) : Inv X pins σ (upd H a o) s := by
  have up : ∀ {b : Addr} {u : HO}, H b = some u → upd H a o b = some u := fun {b u} e => by
    rw [upd_ne (ne_of_none e na)]
    exact e
  have dn : ∀ {b : Addr}, b ≠ a → H b = none → upd H a o b = none := fun {b} hb e => by
    rw [upd_ne hb]
    exact e
  exact {
    ok := I.ok
    os := I.os
    bare := I.bare
    base := {
      keep := I.base.keep
      slot := I.base.slot
      free := fun b u e1 e2 e3 => dn (fun z => by rw [z, n0] at e1; cases e1) (I.base.free b u e1 e2 e3)
      there := I.base.there
      tups := fun b xs e => up (I.base.tups b xs e)
      frzs := fun b u v e => up (I.base.frzs b u v e)
      tbls := fun b ps e => by
        obtain ⟨more, q⟩ := I.base.tbls b ps e
        exact ⟨more, up q⟩ }
    loc := I.loc
    cell := I.cell
    free := dn (fun z => nL z.symm) I.free
    freeC := fun x c e => dn (nC x c e) (I.freeC x c e)
    pin := fun p hp => by
      obtain ⟨q1, q2, q3, q4, q5⟩ := I.pin p hp
      exact ⟨q1, dn (nP p hp) q2, q3, q4, q5⟩
    hok := I.hok.laidN (fun _ _ e => e) na new
    len := I.len }
end
end L2
namespace FM
open PySem L2 PyProof.Rows
theorem exH_ok {P : Program} {w : World} {H : Hp} {h : Heap} {a C : Addr} {oe : Obj} (e : h.get? a = some oe) (z : Zc (.ref C) none oe) (d : ∃ vs, oe.data = .fields vs) : ObjOk P w H h a (ExH C a) := by
  obtain ⟨vs, d⟩ := d
  exact ⟨⟨oe, vs, e, z, d⟩, ⟨oe, e⟩, fun _ _ ⟨o, v, q, r⟩ k => ⟨o, v, k o q, r⟩⟩
/-- what the clause «except x as n: y = n» wishes of an own error -/
def wKeep (K : PySem.W.Frag) (c : Value) (i k : Nat) (D : Ends) : WX := fun cls d σ H =>
  ∃ C : Addr, cls = .ref C ∧ d = none ∧ PySem.W.exmOne K cls c = some true ∧ ∀ a, H a = none → D.nx (((σ.set i (some (.ref a))).set k (some (.ref a))).set i none) (upd H a (ExH C a))
variable {X : Cx} {W : Wd} {wi : WX} {pos : Pos}
theorem ps_try_keep {x n y : Str} {c : Value} {i k : Nat} {body : List Stmt} {np py p2 apos pos' : Pos} {tb : WX → TS} (hs : X.stack = X.env :: X.outer) (hf : X.env.frame = some X.env.locals) (hex : X.ex = []) (hN : X.N.Nodup) (hi : X.N[i]? = some n) (hln : X.env.kindOf n = some .local) (hk : X.N[k]? = some y) (hlk : X.env.kindOf y = some .local) (hc : Names X x c)
    (hb : ∀ (V : WX) (pn : List (Addr × Obj)) (xe : Value → Shared → Prop), Takes (X.tr pn xe) V → PassesOwn (model X.prog X.w) X.A X.env xe → PSs (X.tr pn xe) body (tb V))
    (hsw : swapsWith (.Name n p2) (some (.Name y py)) apos.line X.env = pure false) (hd1 : (n == ("__debug__" : Str)) = false := by decide) (hd2 : (n == ("__classdict__" : Str)) = false := by decide) :
    PS X (.Try body [.ExceptHandler (some (.Name x np)) (some n) [.Assign [.Name y py] (.Name n p2) apos] pos'] [] [] pos) (fun D σ H => tb (wKeep X.K c i k D) D σ H) := ⟨fun pins s σ H D I h => by
  have ok := I.ok
  have framesEq : X.A.frames = some (X.env :: X.outer) := by rw [ok.frames, hs]
  refine wpAny_Try_except (wpAny_mono ((hb (wKeep X.K c i k D) (X.pn ++ pins) (fun e s₁ => wpAny (model X.prog X.w) X.A (noteFrame e X.env) (fun _ s₂ => wpAny (model X.prog X.w) X.A (setFlight e none) (fun _ s₃ =>
    wpAny (model X.prog X.w) X.A (handleBy e X.env [.ExceptHandler (some (.Name x np)) (some n) [.Assign [.Name y py] (.Name n p2) apos] pos']) (SP X pins D) X.xe s₃) X.xe s₂) X.xe s₁) (fun u s' thrown => ?_) PassesOwn.looking).run [] s σ H D (I.toTry _) h) (fun f s1 done => ?_) (fun e s1 he => he))
  · obtain ⟨a, Bh, sI, pn2, τ, Ht, cls, d, rfl, Jt, ground, up, sky, na, os, bare, C, rfl, rfl, match1, go⟩ := thrown
    have J : Inv X pins τ Ht sI := Jt.ofTry ok
    have sky2 : Sky Bh (X.env :: X.outer) a (Zc (.ref C) none) X.env.locals s'.heap := by
      rw [hs] at sky
      exact sky
    show wpAny (model X.prog X.w) X.A (noteFrame (.ref a) X.env) _ _ _
    refine Sky.land Zc.steady framesEq hf sky2 fun h3 fl3 up3 => ?_
    have J3 : Inv X pins τ Ht { s' with heap := h3 } := J.landed ground fl3.1 (up.trans up3) os bare
    obtain ⟨oe3, vs3, at3, zc3, dat3⟩ := fl3.there
    have noFrame : a ∉ frs (X.env :: X.outer) := fun hm => by
      obtain ⟨_, o', e', hnf⟩ := fl3.2.2.1.mem hm
      rw [at3] at e'
      cases e'
      exact hnf _ dat3
    have nL : a ≠ X.env.locals := fun z => noFrame (List.mem_filterMap.mpr ⟨X.env, List.mem_cons_self, by rw [hf, z]⟩)
    have nF : a ∉ X.fs := fun hm => by
      obtain ⟨e, he, q⟩ := List.mem_filterMap.mp hm
      exact noFrame (List.mem_filterMap.mpr ⟨e, List.mem_cons_of_mem _ he, q⟩)
    have S3 := J3.suite at3 dat3 na nL nF
    refine wpAny_handleBy_cons (codeAny_handlers_test ?_) (by intro q; cases q)
    have typ : PySem.W.Looks (model X.prog X.w) h3 (typeOf (.ref a)) (.ref C) := fun A' Q' E' s2 look q => wpAny_typeOf_ref (look _ _ at3) (by rw [zc3.1]; exact q)
    have isIt := PySem.W.exm_one (M := model X.prog X.w) J3.kIn typ match1
    have clause : ∀ {Q' : Value → Shared → Prop} {E' : Value → Shared → Prop}, Q' c { s' with heap := h3 } → wpAny (model X.prog X.w) (X.A.mark (some (.ref a))) (eval (.Name x np) X.env) Q' E' { s' with heap := h3 } := fun {Q' E'} q => by
      rcases hc with ⟨gl, dbg, hm | ⟨hm, hv, nn⟩⟩
      · exact ld_glob (X := X.suite a ((a, oe3) :: (X.pn ++ pins))) S3 gl hm q dbg
      · exact ld_blt (X := X.suite a ((a, oe3) :: (X.pn ++ pins))) S3 gl hm hv q nn dbg
    refine clause (isIt.here (codeAny_handlers_suite_as (HandSPX.lands_againZ fl3 fun h4 fl4 up4 => ?_)))
    have J4 : Inv X pins τ Ht { s' with heap := h4 } := J.landed ground fl4.1 ((up.trans up3).trans up4) os bare
    obtain ⟨oe4, vs4, at4, zc4, dat4⟩ := fl4.there
    have S4 := J4.suite at4 dat4 na nL nF
    refine store_ok (X := X.suite a ((a, oe4) :: (X.pn ++ pins))) (v := .ref a) S4 hN hi (.inl hln) rfl (fun s5 S5 => ?_) (.inr hln)
    have small : PS (X.suite a ((a, oe4) :: (X.pn ++ pins))) (.Assign [.Name y py] (.Name n p2) apos) (tAsg (tVar i) (L2.gName k)) := ps_set (X := X.suite a ((a, oe4) :: (X.pn ++ pins))) hN hk (.inl hlk) (pe_var hi (.inl hln) hd1 hd2) hsw (.inr hlk)
    have hil : i < τ.length := by
      rw [J.len]
      exact (List.getElem?_eq_some_iff.mp hi).1
    refine wpAny_mono ((pss_one small).run [] s5 _ Ht { nx := fun σ6 H6 => σ6 = (τ.set i (some (.ref a))).set k (some (.ref a)) ∧ H6 = Ht, rt := fun _ _ => False } S5 ⟨.ref a, List.getElem?_set_self hil, rfl, rfl⟩) (fun f s6 hsp => ?_) (fun _ _ z => False.elim z)
    cases f with
    | next =>
      obtain ⟨σ6, H6, S6, rfl, rfl⟩ := hsp
      refine gone_ok (X := X.suite a ((a, oe4) :: (X.pn ++ pins))) S6 hN hi hln fun s7 S7 => ?_
      have at7 := (S7.pin (a, oe4) (List.mem_append_left _ List.mem_cons_self)).1
      have J7 := S7.unsuite ok
      have n0 : X.s_0.heap.get? a = none := by
        cases e : X.s_0.heap.get? a with
        | none => rfl
        | some o =>
          obtain ⟨o', e'⟩ := J.base.there a o e (by rw [hex]; exact fun z => nomatch z)
          have z := ground a o' e' (by rw [hs]; exact noFrame)
          rw [fl3.2.1] at z
          cases z
      have J8 := J7.fmTrack (o := ExH C a) na nL (fun x' c' e z => by
          obtain ⟨v, o, ho, hd⟩ := J3.cell x' c' e
          rw [z, at3] at ho
          cases ho
          rw [dat3] at hd
          cases hd) (fun p hp z => by
          obtain ⟨q1, _, q3, q4, _⟩ := J.pin p hp
          have q5 := ground p.1 p.2 q1 fun hm => by
            rcases List.mem_cons.mp (J.stkSub _ hm) with w1 | w1
            · exact q3 w1
            · exact q4 w1
          rw [z, fl3.2.1] at q5
          cases q5) n0 (exH_ok at7 zc4 ⟨_, dat4⟩)
      exact ⟨_, _, J8, go a na⟩
    | brk =>
      obtain ⟨_, _, _, q⟩ := hsp
      exact False.elim q
    | cont =>
      obtain ⟨_, _, _, q⟩ := hsp
      exact False.elim q
    | ret u =>
      obtain ⟨_, _, _, _, _, q⟩ := hsp
      exact False.elim q
  · cases f with
    | next =>
      obtain ⟨τ, Ht, Jt, q⟩ := done
      exact wpAny_execs_nil ⟨τ, Ht, Jt.ofTry ok, q⟩
    | brk =>
      obtain ⟨τ, Ht, Jt, q⟩ := done
      exact ⟨τ, Ht, Jt.ofTry ok, q⟩
    | cont =>
      obtain ⟨τ, Ht, Jt, q⟩ := done
      exact ⟨τ, Ht, Jt.ofTry ok, q⟩
    | ret u =>
      obtain ⟨v, τ, Ht, Jt, r, q⟩ := done
      exact ⟨v, τ, Ht, Jt.ofTry ok, r, q⟩⟩
/-! at the level of data -/
def sTry (i k : Nat) (cat : Ec → Bool) (s : Rho → Oc) : Rho → Oc := fun ρ => match s ρ with
  | .er c ρ' => if cat c then .nx ((ρ'.set k (.va (.exc c))).set i .no) else .bad
  | o => o
theorem ds_try {x n y : Str} {c : Value} {i k : Nat} {cat : Ec → Bool} {body : List Stmt} {np py p2 apos pos' : Pos} {s : Rho → Oc} (hik : i ≠ k) (hcat : ∀ e, cat e = true → PySem.W.exmOne X.K (.ref (W.ca e)) c = some true) (hs : X.stack = X.env :: X.outer) (hf : X.env.frame = some X.env.locals) (hex : X.ex = []) (hN : X.N.Nodup) (hi : X.N[i]? = some n) (hln : X.env.kindOf n = some .local) (hk : X.N[k]? = some y) (hlk : X.env.kindOf y = some .local) (hc : Names X x c)
    (hb : ∀ (V : WX) (pn : List (Addr × Obj)) (xe : Value → Shared → Prop), Takes (X.tr pn xe) V → PassesOwn (model X.prog X.w) X.A X.env xe → PSs (X.tr pn xe) body (sD W V s))
    (hsw : swapsWith (.Name n p2) (some (.Name y py)) apos.line X.env = pure false := by rfl) (hd1 : (n == ("__debug__" : Str)) = false := by decide) (hd2 : (n == ("__classdict__" : Str)) = false := by decide) :
    PS X (.Try body [.ExceptHandler (some (.Name x np)) (some n) [.Assign [.Name y py] (.Name n p2) apos] pos'] [] [] pos) (sD W wi (sTry i k cat s)) := by
  refine PS.imp (ps_try_keep (tb := fun V => sD W V s) hs hf hex hN hi hln hk hlk hc hb hsw hd1 hd2) fun D σ H h => ?_
  obtain ⟨B, G0, H0, G, ρ, E, h⟩ := h
  refine ⟨B, G0, H0, G, ρ, E, ?_⟩
  unfold sTry at h
  cases e : s ρ with
  | nx ρ' =>
    rw [e] at h
    exact h
  | rt d =>
    rw [e] at h
    exact h
  | bad =>
    rw [e] at h
    exact h
  | er c0 ρ' =>
    rw [e] at h
    intro σ' G' H' E'
    cases ec : cat c0 with
    | false =>
      have h' : SzD W wi B G0 H0 D (if cat c0 = true then .nx ((ρ'.set k (.va (.exc c0))).set i .no) else .bad) := h
      rw [ec] at h'
      exact h'.elim
    | true =>
      have h' : SzD W wi B G0 H0 D (if cat c0 = true then .nx ((ρ'.set k (.va (.exc c0))).set i .no) else .bad) := h
      rw [ec, if_pos rfl] at h'
      refine ⟨W.ca c0, rfl, rfl, hcat c0 ec, fun a na => ?_⟩
      have ga : G' a = none := E'.i.free na
      have E1 : EnvOk W B G0 H0 (upd G' a (ExH (W.ca c0) a)) (upd H' a (ExH (W.ca c0) a)) σ' ρ' := E'.grow (Grow.new E'.i na)
      have E2 := E1.set (i := k) (v := .ref a) (d := .exc c0) (.exc upd_same)
      refine h' _ _ _ (E2.no (i := i) (fun j hj => ?_) ?_)
      · rw [List.getElem?_set_ne (Ne.symm hj)]
        by_cases hjk : k = j
        · subst hjk
          by_cases hl : k < σ'.length
          · rw [List.getElem?_set_self (by rw [List.length_set]; exact hl), List.getElem?_set_self hl]
          · rw [List.getElem?_eq_none (by rw [List.length_set, List.length_set]; omega), List.getElem?_eq_none (by rw [List.length_set]; omega)]
        · rw [List.getElem?_set_ne hjk, List.getElem?_set_ne hjk, List.getElem?_set_ne (Ne.symm hj)]
      · rw [List.length_set, List.length_set, List.length_set, List.length_set]
/-! ### isinstance -/
/-- what isinstance asks of the classes -/
structure ExCls (K : PySem.W.Frag) (ca : Ec → Addr) : Prop where
  ec : ∀ e, ExcC K (ca e)
  own : ∀ e e', PySem.W.kitOne K (.ref (ca e)) (.ref (ca e')) = some (decide (e = e'))
  val : ∀ e, PySem.W.kitOne K (.ref (ca e)) (.type "ValueError") = some true
def rIsX (K : PySem.W.Frag) : List V → Hp → VK → Prop := fun xs H Q => ∃ (a C : Addr) (t : V) (tv : Value) (k : Bool), xs = [.ref a, t] ∧ H a = some (ExH C a) ∧ ExcC K C ∧ (∀ u, RelV t u → u = tv) ∧ PySem.W.kitOne K (.ref C) tv = some k ∧ Q (.bl k) H
theorem call_isX : CallR X (.builtin "isinstance") (rIsX X.K) := by
  intro pins s σ H xs us Q I r h
  obtain ⟨a, C, t, tv, k, rfl, ha, ec, ht, e, q⟩ := h
  obtain ⟨u1, u2, rfl, r1, r2⟩ := vals2 r
  cases r1
  have e2 := ht _ r2
  subst e2
  obtain ⟨oe, vs, hget, ⟨z1, z2⟩, hv⟩ := (I.hok a _ ha).1
  have J : PySem.W.InstAt s.heap a oe C none := by
    obtain ⟨oc, od, oda, osl⟩ := oe
    dsimp only at z1 z2 hv
    subst z1
    subst z2
    subst hv
    exact ⟨hget, rfl, rfl, trivial⟩
  exact PySem.W.kia_one (PySem.W.handS_kitx_exc ec.hg ec.hk ec.hs ec.hd ec.ha ec.hn ec.ht ec.hm) I.kIn J e (fun z => nomatch z) fun tk => ⟨.bl k, H, I.tok tk, rfl, q⟩
def gIsE (p : Ec → Bool) (g : Rho → Rz D) : Rho → Rz D := fun ρ => (g ρ).bind fun x => match x with
  | .exc c => .ok (.bl (p c))
  | _ => .bad
theorem dx_isE {ca : Ec → Addr} (e' : Ec) {e : Expr} {g : Rho → Rz D} {x : Str} {p p2 : Pos} (hK : X.K = W.K) (T : ExCls W.K W.ca) (he : PE X e (tD W wi g)) (hg : Gl X "isinstance") (hm : X.mg "isinstance" = none) (hg2 : Gl X x) (hm2 : X.mg x = some (.ref (W.ca e'))) (hd2 : (x == ("__debug__" : Str)) = false := by decide)
    (hv : bootBuiltins "isinstance" = some (.builtin "isinstance") := by decide +kernel) (hs : starEach [e, .Name x p2] X.env = (false, eval e X.env) :: starEach [.Name x p2] X.env := by rfl) (hs2 : starEach [.Name x p2] X.env = (false, eval (.Name x p2) X.env) :: starEach [] X.env := by rfl)
    (hpl : (backTo pos (starEach [.Name x p2] X.env)).any (·.1) = false := by rfl) : PE X (.Call (.Name "isinstance" p) [e, .Name x p2] [] pos) (tD W wi (gIsE (fun c => decide (c = e')) g)) := by
  refine PE.imp (pe_callB call_isX hg hm hv (pa_cons he (pa_cons (pe_glob (v := .ref (W.ca e')) hg2 hm2 rfl hd2) pa_nil hs2) hs) (by decide) (by decide) hs hpl) fun σ H Q h => ?_
  obtain ⟨B, G0, H0, G, ρ, E, h⟩ := h
  refine tX_go E h fun y v G1 H1 _ g1 r1 E1 h1 => ?_
  split at h1
  · rename_i c _
    cases r1 with
    | @exc a _ hp => exact ⟨a, W.ca c, .ref (W.ca e'), .ref (W.ca e'), decide (c = e'), rfl, E1.i _ _ hp, by rw [hK]; exact T.ec c, fun u r => r, by rw [hK]; exact T.own c e', h1.here E1.i (.bl _)⟩
  · exact h1.elim
theorem dx_isV {e : Expr} {g : Rho → Rz D} {p p2 : Pos} (hK : X.K = W.K) (T : ExCls W.K W.ca) (he : PE X e (tD W wi g)) (hg : Gl X "isinstance") (hm : X.mg "isinstance" = none) (hg2 : Gl X "ValueError") (hm2 : X.mg "ValueError" = none)
    (hv : bootBuiltins "isinstance" = some (.builtin "isinstance") := by decide +kernel) (hv2 : bootBuiltins "ValueError" = some (.type "ValueError") := by decide +kernel) (hs : starEach [e, .Name "ValueError" p2] X.env = (false, eval e X.env) :: starEach [.Name "ValueError" p2] X.env := by rfl) (hs2 : starEach [.Name "ValueError" p2] X.env = (false, eval (.Name "ValueError" p2) X.env) :: starEach [] X.env := by rfl)
    (hpl : (backTo pos (starEach [.Name "ValueError" p2] X.env)).any (·.1) = false := by rfl) : PE X (.Call (.Name "isinstance" p) [e, .Name "ValueError" p2] [] pos) (tD W wi (gIsE (fun _ => true) g)) := by
  refine PE.imp (pe_callB call_isX hg hm hv (pa_cons he (pa_cons (pe_bltn (v := .ty "ValueError") hg2 hm2 hv2 rfl) pa_nil hs2) hs) (by decide) (by decide) hs hpl) fun σ H Q h => ?_
  obtain ⟨B, G0, H0, G, ρ, E, h⟩ := h
  refine tX_go E h fun y v G1 H1 _ g1 r1 E1 h1 => ?_
  split at h1
  · rename_i c _
    cases r1 with
    | @exc a _ hp => exact ⟨a, W.ca c, .ty "ValueError", .type "ValueError", true, rfl, E1.i _ _ hp, by rw [hK]; exact T.ec c, fun u r => r, by rw [hK]; exact T.val c, h1.here E1.i (.bl _)⟩
  · exact h1.elim
def isBoolD : D → Rz D
  | .bl _ => .ok (.bl true)
  | .non => .ok (.bl false)
  | .int _ => .ok (.bl false)
  | .str _ => .ok (.bl false)
  | .lst _ => .ok (.bl false)
  | .tup _ => .ok (.bl false)
  | _ => .bad
def gIsB (g : Rho → Rz D) : Rho → Rz D := fun ρ => (g ρ).bind isBoolD
theorem dx_isB {e : Expr} {g : Rho → Rz D} {p p2 : Pos} (he : PE X e (tD W wi g)) (hg : Gl X "isinstance") (hm : X.mg "isinstance" = none) (hg2 : Gl X "bool") (hm2 : X.mg "bool" = none)
    (hv : bootBuiltins "isinstance" = some (.builtin "isinstance") := by decide +kernel) (hv2 : bootBuiltins "bool" = some (.type "bool") := by decide +kernel) (hs : starEach [e, .Name "bool" p2] X.env = (false, eval e X.env) :: starEach [.Name "bool" p2] X.env := by rfl) (hs2 : starEach [.Name "bool" p2] X.env = (false, eval (.Name "bool" p2) X.env) :: starEach [] X.env := by rfl)
    (hpl : (backTo pos (starEach [.Name "bool" p2] X.env)).any (·.1) = false := by rfl) : PE X (.Call (.Name "isinstance" p) [e, .Name "bool" p2] [] pos) (tD W wi (gIsB g)) := by
  refine PE.imp (pe_callB call_isi hg hm hv (pa_cons he (pa_cons (pe_bltn (v := .ty "bool") hg2 hm2 hv2 rfl) pa_nil hs2) hs) (by decide) (by decide) hs hpl) fun σ H Q h => ?_
  obtain ⟨B, G0, H0, G, ρ, E, h⟩ := h
  refine tX_go E h fun y v G1 H1 _ g1 r1 E1 h1 => ?_
  cases r1 with
  | non => exact ⟨_, _, _, _, false, rfl, .ty "bool", .base .non, kit_ty (by decide +kernel), h1.here E1.i (.bl _)⟩
  | bl b => exact ⟨_, _, _, _, true, rfl, .ty "bool", .base (.bl b), kit_ty (by decide +kernel), h1.here E1.i (.bl _)⟩
  | int b => exact ⟨_, _, _, _, false, rfl, .ty "bool", .base (.int b), kit_ty (by decide +kernel), h1.here E1.i (.bl _)⟩
  | str b => exact ⟨_, _, _, _, false, rfl, .ty "bool", .base (.str b), kit_ty (by decide +kernel), h1.here E1.i (.bl _)⟩
  | lst hp _ => exact ⟨_, _, _, _, false, rfl, .ty "bool", .base (.lst (E1.i _ _ hp)), kit_ty (by decide +kernel), h1.here E1.i (.bl _)⟩
  | tup hp _ => exact ⟨_, _, _, _, false, rfl, .ty "bool", .base (.tup (E1.i _ _ hp)), kit_ty (by decide +kernel), h1.here E1.i (.bl _)⟩
  | scr _ => exact h1.elim
  | set _ _ _ => exact h1.elim
  | dic _ => exact h1.elim
  | exc _ => exact h1.elim
end FM
set_option Elab.async false
set_option linter.all false
set_option maxRecDepth 100000
set_option maxHeartbeats 4000000
/-! FM, part 9: sets of ints made, list.count, list.index, turned slices, list(range), dicts, comprehensions over an own list. -/
namespace FM
open PySem L2 PyProof.Rows
variable {X : Cx} {W : Wd} {wi : WX} {pos : Pos} {a b c d : Expr} {ga gb gc gd : Rho → Rz D}

/-! ### list.count, list.index of flat items -/
theorem countP_eqU {y : V} : ∀ {ys : List V} {us : List Value}, Vals ys us → flatV y = true → ys.all flatV = true → us.countP (eqU y) = ys.countP fun z => eqV z y
  | _, _, .nil, _, _ => rfl
  | _, _, .cons (a := z) (b := u) r t, fy, fs => by
    rw [List.all_cons, Bool.and_eq_true] at fs
    rw [List.countP_cons, List.countP_cons, countP_eqU t fy fs.2, eqU_of r fs.1]
def rCountV (K : PySem.W.Frag) : V → List V → Hp → VK → Prop := fun x xs H Q => ∃ (p : Addr) (ys : List V) (y : V), x = .ref p ∧ xs = [y] ∧ SqL K H p ys ∧ flatV y = true ∧ ys.all flatV = true ∧ Q (.int ((ys.countP fun z => eqV z y : Nat) : Int)) H
theorem mt_countV : MtR X "list.count" (rCountV X.K) := by
  intro pins s σ H x xs v us Q I rx rxs h
  obtain ⟨p, ys, y, rfl, rfl, hs, fy, fs, q⟩ := h
  cases rx
  cases rxs with
  | @cons _ uy _ _ ry rt =>
    cases rt
    obtain ⟨its, rv, ⟨⟨cls, dd, data, sl⟩, n, at1, hcls, hdd, hdat⟩, _⟩ := I.list hs
    dsimp only at hcls hdat
    subst hcls
    subst hdat
    have same := countP_eqU rv fy fs
    refine call_meets PySem.F.slot_list_count ⟨_, at1, rfl⟩ PySem.F.entry_list_count (PySem.F.args_list_count_2 _ _) (SeqAt.list_countAt p its.toArray n dd sl uy (eqU y)) ⟨at1, fun u hu => mem_eqAt ry fy rv fs u (by simpa using hu), ?_⟩
    refine ⟨.int ((ys.countP fun z => eqV z y : Nat) : Int), H, I.tok _, ⟨s.toks, ?_⟩, q⟩
    show Value.int ((its.toArray.toList.countP (eqU y) : Nat) : Int) s.toks = _
    rw [← same]
def flatD : D → Option V
  | .bl k => some (.bl k)
  | .int i => some (.int i)
  | _ => none
def flatsD : List D → Option (List V)
  | [] => some []
  | x :: r => match flatD x, flatsD r with
    | some v, some vs => some (v :: vs)
    | _, _ => none
theorem flatD_rep {H : Hp} {v y : V} {x : D} (r : Rep W H v x) (h : flatD x = some y) : v = y ∧ flatV y = true := by
  cases r with
  | bl k =>
    cases h
    exact ⟨rfl, rfl⟩
  | int k =>
    cases h
    exact ⟨rfl, rfl⟩
  | non => cases h
  | str _ => cases h
  | lst _ _ => cases h
  | tup _ _ => cases h
  | scr _ => cases h
  | set _ _ _ => cases h
  | dic _ => cases h
  | exc _ => cases h
theorem flatsD_rep {H : Hp} : ∀ {vs ys : List V} {xs : List D}, Reps W H vs xs → flatsD xs = some ys → vs = ys ∧ ys.all flatV = true
  | _, _, _, .nil, h => by
    cases h
    exact ⟨rfl, rfl⟩
  | _, _, _, .cons r t, h => by
    rw [flatsD] at h
    split at h
    · rename_i v vs e1 e2
      cases h
      obtain ⟨h1, h2⟩ := flatD_rep r e1
      obtain ⟨h3, h4⟩ := flatsD_rep t e2
      subst h1
      subst h3
      exact ⟨rfl, by rw [List.all_cons, h2, h4]; rfl⟩
    · cases h
def gMl (f : List D → D → Rz D) (ga gb : Rho → Rz D) : Rho → Rz D := fun ρ => (ga ρ).bind fun x => match x with
  | .lst l => (gb ρ).bind fun y => f l y
  | _ => .bad
def MlD (W : Wd) (r : V → List V → Hp → VK → Prop) (f : List D → D → Rz D) : Prop :=
  ∀ (wi : WX) (σ : L2.St) (G H : Hp) (p : Addr) (vs : List V) (u : V) (l : List D) (y : D) (Q : VK), Same G H → G p = some (.lst vs) → Reps W G vs l → Rep W G u y → RzX (fun G v d => Rep W G v d) W wi G H σ Q (f l y) → r (.ref p) [u] H Q
theorem sem_ml {r : V → List V → Hp → VK → Prop} {f : List D → D → Rz D} (hf : MlD W r f) {K : PySem.W.Frag} {σ : L2.St} {H : Hp} {Q : VK} (h : tD W wi (gMl f ga gb) σ H Q) : tBM K "list" r (tD W wi ga) (tCons (tD W wi gb) tNil) σ H Q := by
  obtain ⟨B, G0, H0, G, ρ, E, h⟩ := h
  refine tX_go E h fun x v G1 H1 _ g1 r1 E1 h1 => ?_
  cases x with
  | lst l =>
    cases r1 with
    | @lst p vs _ hp rp => exact ⟨.inl ⟨rfl, vs, SqL.of (E1.i _ _ hp)⟩, tX_go (k := fun y => f l y) E1 h1 fun y u G2 H2 _ g2 r2 E2 h2 => hf wi σ G2 H2 p vs u l y Q E2.i (g2.g _ _ hp) (rp.mono g2.g) r2 h2⟩
  | _ => exact h1.elim
def lcountD (l : List D) (y : D) : Rz D := match flatsD l, flatD y with
  | some vs, some v => .ok (.int ((vs.countP fun z => eqV z v : Nat) : Int))
  | _, _ => .bad
theorem mld_count {K : PySem.W.Frag} : MlD W (rCountV K) lcountD := by
  intro wi σ G H p vs u l y Q i hp rp ry h
  unfold lcountD at h
  split at h
  · rename_i ws w e1 e2
    obtain ⟨h1, h2⟩ := flatsD_rep rp e1
    obtain ⟨h3, h4⟩ := flatD_rep ry e2
    subst h1
    subst h3
    exact ⟨p, vs, u, rfl, rfl, SqL.of (i _ _ hp), h4, h2, h.here i (.int _)⟩
  · exact h.elim
def firstV (y : V) : List V → Option Nat
  | [] => none
  | z :: r => if eqV z y = true then some 0 else (firstV y r).map (· + 1)
theorem firstV_some {y : V} : ∀ {l : List V} {j : Nat}, firstV y l = some j → ∃ z, l[j]? = some z ∧ eqV z y = true ∧ ∀ (m : Nat) (z' : V), m < j → l[m]? = some z' → eqV z' y = false
  | [], j, h => by cases h
  | z :: r, j, h => by
    rw [firstV] at h
    split at h
    · rename_i e
      cases h
      exact ⟨z, rfl, e, fun m z' hm => by omega⟩
    · rename_i e
      rw [Option.map_eq_some_iff] at h
      obtain ⟨k, h1, h2⟩ := h
      subst h2
      obtain ⟨w, e1, e2, e3⟩ := firstV_some h1
      refine ⟨w, e1, e2, fun m z' hm hz => ?_⟩
      cases m with
      | zero =>
        cases hz
        exact Bool.eq_false_iff.mpr e
      | succ m => exact e3 m z' (by omega) hz
def lindexD (l : List D) (y : D) : Rz D := match flatsD l, flatD y with
  | some vs, some v => (match firstV v vs with
    | some j => .ok (.int (j : Nat))
    | none => .bad)
  | _, _ => .bad
theorem mld_index {K : PySem.W.Frag} : MlD W (rIndex K) lindexD := by
  intro wi σ G H p vs u l y Q i hp rp ry h
  unfold lindexD at h
  split at h
  · rename_i ws w e1 e2
    obtain ⟨h1, h2⟩ := flatsD_rep rp e1
    obtain ⟨h3, h4⟩ := flatD_rep ry e2
    subst h1
    subst h3
    split at h
    · rename_i j e
      obtain ⟨z, q1, q2, q3⟩ := firstV_some e
      exact ⟨p, vs, u, j, z, rfl, rfl, SqL.of (i _ _ hp), h4, h2, q1, q2, q3, h.here i (.int _)⟩
    · exact h.elim
  · exact h.elim
section
variable {apos cpos : Pos}
theorem dx_lcount (ha : PE X a (tD W wi ga)) (hb : PE X b (tD W wi gb)) (hs : starEach [b] X.env = (false, eval b X.env) :: starEach [] X.env := by rfl) (hbase : attributeBase a "count" X.env (eval a X.env) = eval a X.env := by rfl)
    (hfew : ((backTo pos (starEach (b :: []) X.env)).all (fun x => !x.1) && (backToKw pos (keywordEach [] X.env)).all (fun x => x.1.isSome) && decide ((b :: []).length + ([] : List Keyword).length + (if ([] : List Keyword).isEmpty then 0 else 1) < 30)) = true := by rfl)
    (hline : (apos.endLine == pos.line) = true := by rfl) (hplain : (backTo pos (starEach [] X.env)).any (·.1) = false := by rfl) : PE X (.Call (.Attribute a "count" apos) [b] [] pos) (tD W wi (gMl lcountD ga gb)) :=
  PE.imp (pe_bm PySem.F.plainAttrs_list PySem.F.slot_list_count PySem.F.type_list_count mt_countV ha (pa_cons hb pa_nil hs) hbase hfew hline hs hplain) fun _ _ _ h => sem_ml mld_count h
theorem dx_lindex (ha : PE X a (tD W wi ga)) (hb : PE X b (tD W wi gb)) (hs : starEach [b] X.env = (false, eval b X.env) :: starEach [] X.env := by rfl) (hbase : attributeBase a "index" X.env (eval a X.env) = eval a X.env := by rfl)
    (hfew : ((backTo pos (starEach (b :: []) X.env)).all (fun x => !x.1) && (backToKw pos (keywordEach [] X.env)).all (fun x => x.1.isSome) && decide ((b :: []).length + ([] : List Keyword).length + (if ([] : List Keyword).isEmpty then 0 else 1) < 30)) = true := by rfl)
    (hline : (apos.endLine == pos.line) = true := by rfl) (hplain : (backTo pos (starEach [] X.env)).any (·.1) = false := by rfl) : PE X (.Call (.Attribute a "index" apos) [b] [] pos) (tD W wi (gMl lindexD ga gb)) :=
  PE.imp (pe_bm PySem.F.plainAttrs_list PySem.F.slot_list_index PySem.F.type_list_index mt_index ha (pa_cons hb pa_nil hs) hbase hfew hline hs hplain) fun _ _ _ h => sem_ml mld_index h
end
/-! ### l[::-1] -/
def gRevL (ga : Rho → Rz D) : Rho → Rz D := fun ρ => (ga ρ).bind fun x => match x with
  | .lst l => .ok (.lst l.reverse)
  | _ => .bad
theorem dx_revL {k : Nat} {p1 p2 p3 : Pos} (ha : PE X a (tD W wi ga)) : PE X (.Subscript a (.Slice none none (some (.UnaryOp .USub (.Constant (.int 1) k p1) p2)) p3) pos) (tD W wi (gRevL ga)) := by
  refine PE.imp (pe_revL ha) fun σ H Q h => ?_
  obtain ⟨B, G0, H0, G, ρ, E, h⟩ := h
  refine tX_go E h fun x v G1 H1 _ g1 r1 E1 h1 => ?_
  cases x with
  | lst l =>
    cases r1 with
    | @lst p vs _ hp rp => exact ⟨p, vs, rfl, SqL.of (E1.i _ _ hp), fun q hq => h1.newL E1.i rp.rev hq⟩
  | _ => exact h1.elim
/-! ### list(range(n)), tuple(range(n)) -/
def gRgL (tup : Bool) (ga : Rho → Rz D) : Rho → Rz D := fun ρ => (ga ρ).bind fun x => match x with
  | .int n => if 0 ≤ n ∧ n ≤ 1000 then .ok (if tup then .tup (rngL 0 n.toNat) else .lst (rngL 0 n.toNat)) else .bad
  | _ => .bad
theorem reps_rng {G : Hp} (n : Int) : Reps W G (rgV 0 n) (rngL 0 n.toNat) := by
  unfold rgV rngL
  rw [Int.sub_zero]
  have : ∀ l : List Nat, Reps W G (l.map fun (i : Nat) => V.int (0 + (i : Int))) (l.map fun (k : Nat) => D.int (0 + (k : Int))) := by
    intro l
    induction l with
    | nil => exact .nil
    | cons z zs ih => exact .cons (.int _) ih
  exact this _
theorem dx_listRg {p p2 pos2 : Pos} (hc : X.calm = true) (hg : Gl X "list") (hm : X.mg "list" = none) (hg2 : Gl X "range") (hm2 : X.mg "range" = none) (ha : PE X a (tD W wi ga)) (hs : starEach [a] X.env = (false, eval a X.env) :: starEach [] X.env := by rfl)
    (hs2 : starEach [.Call (.Name "range" p2) [a] [] pos2] X.env = (false, eval (.Call (.Name "range" p2) [a] [] pos2) X.env) :: starEach [] X.env := by rfl) : PE X (.Call (.Name "list" p) [.Call (.Name "range" p2) [a] [] pos2] [] pos) (tD W wi (gRgL false ga)) := by
  refine PE.imp (pe_listRg hc hg hm (prg_1 hg2 hm2 ha hs) hs2) fun σ H Q h => ?_
  obtain ⟨B, G0, H0, G, ρ, E, h⟩ := h
  refine tX_go E h fun x v G1 H1 _ g1 r1 E1 h1 => ?_
  cases x with
  | int n =>
    have h2 : RzX (fun G v d => Rep W G v d) W wi G1 H1 σ Q (if 0 ≤ n ∧ n ≤ 1000 then .ok (.lst (rngL 0 n.toNat)) else .bad) := h1
    split at h2
    · rename_i hn
      cases r1
      exact ⟨n, rfl, RgOk.of_le (by omega) (by omega) (by omega) (by omega), fun q hq => h2.newL E1.i (reps_rng n) hq⟩
    · exact h2.elim
  | _ => exact h1.elim
theorem dx_tupRg {p p2 pos2 : Pos} (hc : X.calm = true) (hg : Gl X "tuple") (hm : X.mg "tuple" = none) (hg2 : Gl X "range") (hm2 : X.mg "range" = none) (ha : PE X a (tD W wi ga)) (hs : starEach [a] X.env = (false, eval a X.env) :: starEach [] X.env := by rfl)
    (hs2 : starEach [.Call (.Name "range" p2) [a] [] pos2] X.env = (false, eval (.Call (.Name "range" p2) [a] [] pos2) X.env) :: starEach [] X.env := by rfl) : PE X (.Call (.Name "tuple" p) [.Call (.Name "range" p2) [a] [] pos2] [] pos) (tD W wi (gRgL true ga)) := by
  refine PE.imp (pe_tupRg hc hg hm (prg_1 hg2 hm2 ha hs) hs2) fun σ H Q h => ?_
  obtain ⟨B, G0, H0, G, ρ, E, h⟩ := h
  refine tX_go E h fun x v G1 H1 _ g1 r1 E1 h1 => ?_
  cases x with
  | int n =>
    have h2 : RzX (fun G v d => Rep W G v d) W wi G1 H1 σ Q (if 0 ≤ n ∧ n ≤ 1000 then .ok (.tup (rngL 0 n.toNat)) else .bad) := h1
    split at h2
    · rename_i hn
      cases r1
      exact ⟨n, rfl, RgOk.of_le (by omega) (by omega) (by omega) (by omega), fun q hq => h2.newT E1.i (reps_rng n) hq⟩
    · exact h2.elim
  | _ => exact h1.elim
/-! ### set(t) of a tuple of ints -/
theorem call_setT (hc : X.calm = true) : CallR X (.type "set") (fun xs H Q => ∃ (p : Addr) (ns : List Int), xs = [.ref p] ∧ SqT X.K H p (ns.map V.int) ∧ ns.length ≤ 1000 ∧ ∀ (q : Addr) (S : Int → Bool) (c : Nat), H q = none → (∀ k, S k = true ↔ k ∈ ns) → c = (dedI ns).length → Q (.ref q) (upd H q (SetO X.w q S c))) := by
  intro pins s σ H xs us Q I r h
  obtain ⟨p, ns, rfl, hq, hl, q⟩ := h
  rw [Vals.ref1 r]
  obtain ⟨its, rv, pt, hz⟩ := I.tuple hq
  have pt' : s.heap.IsTuple p its.toArray := pt
  refine call_set_tupI ns (I.ok.hd hc) pt' (by simpa using rv.ints) (by unfold scanBound; omega) fun h' tk c R hcn k => ?_
  have hn : H s.heap.objs.size = none := I.hok.fresh (Nat.le_refl _)
  have hc2 : c = (dedI ns).length := by
    obtain ⟨o, es, ep, t, ho, hex, hdt, g, nd, hm2, hb, hf, he, hr, hl2⟩ := R
    have e1 : (es.toList.map keyOf).length = c := by
      rw [List.length_map, Array.length_toList]
      exact he
    have pm : (es.toList.map keyOf).Perm (dedI ns) := (List.perm_ext_iff_of_nodup nd (dedI_nodup ns)).mpr fun z => by
      rw [← hm2 z, dedI_mem, decide_eq_true_eq]
    rw [← e1, pm.length_eq]
  exact ⟨.ref _, _, I.laid (t' := tk) k (Nat.le_refl _) (setO_new R), rfl, q _ _ c hn (fun k => by rw [decide_eq_true_eq]) hc2⟩
end FM
set_option Elab.async false
set_option linter.all false
set_option maxRecDepth 100000
set_option maxHeartbeats 4000000
/-! FM, part 10: set(l) of a list of ints; set(..) as a rule on data. -/
namespace L2
open PySem PySem.Spec PyProof.Rows
section
variable {P : Program} {w : World} {A : Around} {E : Value → Shared → Prop} {s : Shared}
def fmNil (w : World) : Obj := { cls := .type "set", dict := none, data := .set #[] 0 (.fresh 0 0 (!w.params.followText "set-order")) }
set_option maxHeartbeats 8000000 in
theorem fm_set_list {l : Addr} {items : Array Value} (ns : List Int) {Q : Value → Shared → Prop} (calm : A.handled = none) (isl : s.heap.IsList l items) (hints : IntsAre items.toList ns) (few : ns.length + 1 < scanBound)
    (h : ∀ (h' : Heap) (tk c : Nat), SetR w h' s.heap.objs.size (fun j => decide (j ∈ ns)) c → c ≤ ns.length → (∀ b o, s.heap.get? b = some o → h'.get? b = some o) → Q (.ref s.heap.objs.size) { s with heap := h', toks := tk }) :
    wpAny (model P w) A (call (.type "set") [.ref l]) Q E s := by
  have count : items.size = ns.length := by rw [← Array.length_toList]; exact IntsAre.length hints
  have at_ : ∀ (i : Nat) (v : Value), items[i]? = some v → ∃ k t, ns[i]? = some k ∧ v = .int k t := fun i v hv => by
    have hi : i < ns.length := count ▸ (Array.getElem?_eq_some_iff.mp hv).1
    obtain ⟨t, e⟩ := PyProof.Rows.IntsAre.int_at hints i v (by rw [Array.getElem?_toList]; exact hv)
    exact ⟨ns[i], t, List.getElem?_eq_getElem hi, by rw [e, List.getD_eq_getElem?_getD, List.getElem?_eq_getElem hi] <;> rfl⟩
  obtain ⟨c, tl, hmro⟩ := F.called_set.mro
  have f1 := F.called_set.made
  have f2 := F.called_set.sub
  have f3 := F.called_set.notType
  have f4 := F.called_set.canCreate
  have f5 := F.typeCall_set_1 (.ref l)
  refine wpAny_call (codeAny_of_tree (show wpAny _ _ (callAny (.type "set") _) _ _ _ from wpAny_pure ⟨Code.quiet_builtin _ (by decide +kernel), codeAny_builtin F.entry_type_call ?_⟩))
  rw [Around.under_plain (weight_type_call_type "set" [.ref l] []) rfl]
  repeat (any_goals (first | assumption | wp_step))
  refine codeAny_mono (code_set_led1 (.ref l) (E := E) (Q₁ := fun obj s₁ => obj = .ref s.heap.objs.size ∧ s₁ = { s with heap := s.heap.push (fmNil w) }) ⟨rfl, rfl⟩) fun r s₁ hr => ?_
  match r, hr with
  | .error e, hr => exact hr
  | .ok (.ret obj), hr =>
    obtain ⟨rfl, rfl⟩ := hr
    have here : (s.heap.push (fmNil w)).get? s.heap.objs.size = some (fmNil w) := Heap.get?_push_size _ rfl
    have kind : Shared.TypeIs { s with heap := s.heap.push (fmNil w) } (.ref s.heap.objs.size) "set" := ⟨_, here, rfl⟩
    have f6 := F.called_set.init.lookup
    have f7 := F.called_set.init.bind (.ref s.heap.objs.size)
    repeat (any_goals (first | assumption | wp_step))
    refine codeAny_mono (codeAny_call_builtin (R := wants (fun r s₂ => r = .none ∧ ∃ h' tk c, s₂ = { s with heap := h', toks := tk } ∧ SetR w h' s.heap.objs.size (fun j => decide (j ∈ ns)) c ∧ c ≤ ns.length ∧ ∀ b o, s.heap.get? b = some o → h'.get? b = some o) E)
      F.called_set.init.plain F.entry_set_init (check_set_init_1 kind ?_)) fun r₂ s₂ hr₂ => ?_
    · obtain ⟨⟨lc, ld, ldat, lsl⟩, lat, lcls, ln, ldata⟩ := isl
      dsimp only at lcls ldata
      subst lcls
      subst ldata
      have far : (s.heap.push (fmNil w)).get? l = some { cls := .type "list", dict := ld, data := .seq items ln, slots := lsl } := Heap.get?_push_of_some _ lat
      have isl1 : (s.heap.push (fmNil w)).IsList l items := ⟨_, far, rfl, ln, rfl⟩
      have f8 := F.sub_list_set
      have f9 := F.sub_list_frozenset
      have f10 : (Value.type "list" == Value.type "dict") = false := by decide
      unfold Builtin.«set.__init__» noKeywords Builtin.Frozenset.updateFrom
      generalize hI : pyIter = it
      wp_walk
      subst hI
      refine wpAny_pyIter_list isl1 (wpAny_bind (wpAny_runValue ?_))
      have lt1 : l < s.heap.objs.size := Heap.lt_size lat
      have sz : (s.heap.push (fmNil w)).objs.size = s.heap.objs.size + 1 := Heap.size_push ..
      have apart : l ≠ (s.heap.push (fmNil w)).objs.size := by rw [sz]; exact Nat.ne_of_lt (Nat.lt_succ_of_lt lt1)
      have notIn : s.heap.objs.size ∉ [(s.heap.push (fmNil w)).objs.size, l] := by
        rw [sz]
        intro hm
        rcases List.mem_cons.mp hm with e | hm
        · exact Nat.ne_of_lt (Nat.lt_succ_self _) e
        · exact Nat.ne_of_gt lt1 (List.mem_singleton.mp hm)
      refine set_update_ints ((Walks.list (A := A.in1.in1.in1) (by simp [calm]) _ l apart items).toS) s.heap.objs.size notIn ns count few at_ (items.size - 0) 0 _ (by omega) (Nat.zero_le _) ⟨⟨_, Heap.get?_push_size _ rfl, rfl, rfl⟩, isl1.push _⟩ ⟨0, Nat.le_refl 0, setR_new_at (Heap.get?_push_of_some _ here)⟩ ?_
      rintro ⟨h', g', d', tk', o'⟩ c' moved hc' good
      have e1 : g' = s.gens := moved.gens
      have e2 : d' = s.drawn := moved.drawn
      have e3 : o' = s.os := moved.os
      subst e1
      subst e2
      subst e3
      show wpAny _ _ _ _ _ _
      refine wpAny_pure (show wpAny _ _ (ret Value.none) _ _ _ from wpAny_pure ⟨rfl, h', tk', c', rfl, good, by rw [← count]; exact hc', fun b o e => ?_⟩)
      have ltb := Heap.lt_size e
      refine moved.heap b o (fun hm => ?_) (Heap.get?_push_of_some _ (Heap.get?_push_of_some _ e))
      rcases List.mem_cons.mp hm with z | hm
      · exact Nat.ne_of_lt ltb z
      · rw [List.mem_singleton, sz] at hm
        exact Nat.ne_of_lt (Nat.lt_succ_of_lt ltb) hm
    · match r₂, hr₂ with
      | .error e, hr₂ => exact hr₂
      | .ok (.ret r), hr₂ =>
        obtain ⟨rfl, h', tk, c', rfl, q1, q2, q3⟩ := hr₂
        repeat (any_goals (first | assumption | wp_step))
        exact h _ _ _ q1 q2 q3
      | .ok .next, hr₂ => exact hr₂.elim
      | .ok .brk, hr₂ => exact hr₂.elim
      | .ok .cont, hr₂ => exact hr₂.elim
  | .ok .next, hr => exact hr.elim
  | .ok .brk, hr => exact hr.elim
  | .ok .cont, hr => exact hr.elim
end
end L2
namespace FM
open PySem L2 PyProof.Rows
variable {X : Cx} {W : Wd} {wi : WX} {pos : Pos}
theorem setR_count {w : World} {h : Heap} {a : Addr} {ns : List Int} {c : Nat} (R : SetR w h a (fun j => decide (j ∈ ns)) c) : c = (dedI ns).length := by
  obtain ⟨o, es, ep, t, ho, hex, hdt, g, nd, hm2, hb, hf, he, hr, hl2⟩ := R
  have e1 : (es.toList.map keyOf).length = c := by
    rw [List.length_map, Array.length_toList]
    exact he
  have pm : (es.toList.map keyOf).Perm (dedI ns) := (List.perm_ext_iff_of_nodup nd (dedI_nodup ns)).mpr fun z => by
    rw [← hm2 z, dedI_mem, decide_eq_true_eq]
  rw [← e1, pm.length_eq]
def rSetA (K : PySem.W.Frag) (w : World) : List V → Hp → VK → Prop := fun xs H Q => ∃ (p : Addr) (ns : List Int), xs = [.ref p] ∧ (SqL K H p (ns.map V.int) ∨ SqT K H p (ns.map V.int)) ∧ ns.length ≤ 1000 ∧ ∀ (q : Addr) (S : Int → Bool) (c : Nat), H q = none → (∀ k, S k = true ↔ k ∈ ns) → c = (dedI ns).length → Q (.ref q) (upd H q (SetO w q S c))
theorem call_setA (hc : X.calm = true) : CallR X (.type "set") (rSetA X.K X.w) := by
  intro pins s σ H xs us Q I r h
  obtain ⟨p, ns, rfl, hq, hl, q⟩ := h
  rw [Vals.ref1 r]
  have hn : H s.heap.objs.size = none := I.hok.fresh (Nat.le_refl _)
  rcases hq with hq | hq
  · obtain ⟨its, rv, pl, hz⟩ := I.list hq
    exact fm_set_list ns (I.ok.hd hc) pl.isList (by simpa using rv.ints) (by unfold scanBound; omega) fun h' tk c R _ k => ⟨.ref _, _, I.laid (t' := tk) k (Nat.le_refl _) (setO_new R), rfl, q _ _ c hn (fun k => by rw [decide_eq_true_eq]) (setR_count R)⟩
  · obtain ⟨its, rv, pt, hz⟩ := I.tuple hq
    have pt' : s.heap.IsTuple p its.toArray := pt
    exact call_set_tupI ns (I.ok.hd hc) pt' (by simpa using rv.ints) (by unfold scanBound; omega) fun h' tk c R _ k => ⟨.ref _, _, I.laid (t' := tk) k (Nat.le_refl _) (setO_new R), rfl, q _ _ c hn (fun k => by rw [decide_eq_true_eq]) (setR_count R)⟩
theorem cd_set (hw : X.w = W.w) : CallD W (rSetA X.K X.w) setD := by
  intro wi σ G H vs xs Q i r h
  have fin : ∀ (p : Addr) (ns : List Int), (SqL X.K H p (ns.map V.int) ∨ SqT X.K H p (ns.map V.int)) → RzX (fun G v d => Rep W G v d) W wi G H σ Q (if ns.length ≤ 60 then .ok (.set (dedI ns)) else .bad) → rSetA X.K X.w [.ref p] H Q := fun p ns hq h => by
    split at h
    · rename_i hl
      refine ⟨p, ns, rfl, hq, by omega, fun q S c hn hm hc => ?_⟩
      subst hc
      rw [hw]
      exact h _ (upd G q (SetO W.w q S (dedI ns).length)) _ (Grow.new i hn) (.set upd_same (fun k => (hm k).trans dedI_mem.symm) (dedI_nodup ns))
    · exact h.elim
  unfold setD at h
  split at h
  · split at h
    · rename_i ns e
      have e' := intsOf_some e
      subst e'
      cases r with
      | cons r1 r2 =>
        cases r2
        cases r1 with
        | @tup p us _ hp rp =>
          have ev := Reps.of_ints rp
          subst ev
          exact fin p ns (.inr (SqT.of (i _ _ hp))) h
    · exact h.elim
  · split at h
    · rename_i ns e
      have e' := intsOf_some e
      subst e'
      cases r with
      | cons r1 r2 =>
        cases r2
        cases r1 with
        | @lst p us _ hp rp =>
          have ev := Reps.of_ints rp
          subst ev
          exact fin p ns (.inl (SqL.of (i _ _ hp))) h
    · exact h.elim
  · exact h.elim
end FM
set_option Elab.async false
set_option linter.all false
set_option maxRecDepth 100000
set_option maxHeartbeats 4000000
/-! FM, part 11: short words for what the printer writes. -/
namespace FM
open PySem L2
variable {X : Cx} {W : Wd} {wi : WX} {pos : Pos} {a b c d : Expr} {ga gb gc gd : Rho → Rz D} {k : Nat}
theorem hu80 {A : Around} (hr : Room k A) : A.units + 80 < cLine := by
  have := hr.un
  omega
theorem hu64 {A : Around} (hr : Room k A) : A.units + 64 < cLine := by
  have := hr.un
  omega
theorem hu65 {A : Around} (hr : Room k A) : A.units + 65 < cLine := by
  have := hr.un
  omega
/-! comparisons -/
section
variable (hr : Room k X.A) (ha : PE X a (tD W wi ga)) (hb : PE X b (tD W wi gb))
include hr ha hb
theorem dx_eq : PE X (.Compare a [.Eq] [b] pos) (tD W wi (gBin eqD ga gb)) := dx_cmp (op_eqD (hu64 hr)) opd_eq ha hb (nomark _)
theorem dx_ne : PE X (.Compare a [.NotEq] [b] pos) (tD W wi (gBin neD ga gb)) := dx_cmp (op_neD (hu64 hr)) opd_ne ha hb (nomark _)
theorem dx_lt : PE X (.Compare a [.Lt] [b] pos) (tD W wi (gBin ltD ga gb)) := dx_cmp (op_ltA (hu64 hr)) opd_lt ha hb (nomark _)
theorem dx_le : PE X (.Compare a [.LtE] [b] pos) (tD W wi (gBin leD ga gb)) := dx_cmp op_le opd_le ha hb (nomark _)
theorem dx_gt : PE X (.Compare a [.Gt] [b] pos) (tD W wi (gBin gtD ga gb)) := dx_cmp op_gt opd_gt ha hb (nomark _)
theorem dx_ge : PE X (.Compare a [.GtE] [b] pos) (tD W wi (gBin geD ga gb)) := dx_cmp op_ge opd_ge ha hb (nomark _)
theorem dx_in (hm : behindInMarks .In b = false := by rfl) : PE X (.Compare a [.In] [b] pos) (tD W wi (gBin (inND false) ga gb)) := dx_cmp (op_inA (hu65 hr)) opd_in ha hb hm
theorem dx_nin (hm : behindInMarks .NotIn b = false := by rfl) : PE X (.Compare a [.NotIn] [b] pos) (tD W wi (gBin (inND true) ga gb)) := dx_cmp (op_notInA (hu65 hr)) opd_in ha hb hm
theorem dt_eq : PT X (.Compare a [.Eq] [b] pos) (tT W wi (gTst (gBin eqD ga gb))) := dt_cmp (op_eqD (hu64 hr)) opd_eq ha hb (nomark _)
theorem dt_ne : PT X (.Compare a [.NotEq] [b] pos) (tT W wi (gTst (gBin neD ga gb))) := dt_cmp (op_neD (hu64 hr)) opd_ne ha hb (nomark _)
theorem dt_lt : PT X (.Compare a [.Lt] [b] pos) (tT W wi (gTst (gBin ltD ga gb))) := dt_cmp (op_ltA (hu64 hr)) opd_lt ha hb (nomark _)
theorem dt_le : PT X (.Compare a [.LtE] [b] pos) (tT W wi (gTst (gBin leD ga gb))) := dt_cmp op_le opd_le ha hb (nomark _)
theorem dt_gt : PT X (.Compare a [.Gt] [b] pos) (tT W wi (gTst (gBin gtD ga gb))) := dt_cmp op_gt opd_gt ha hb (nomark _)
theorem dt_ge : PT X (.Compare a [.GtE] [b] pos) (tT W wi (gTst (gBin geD ga gb))) := dt_cmp op_ge opd_ge ha hb (nomark _)
theorem dt_in (hm : behindInMarks .In b = false := by rfl) : PT X (.Compare a [.In] [b] pos) (tT W wi (gTst (gBin (inND false) ga gb))) := dt_cmp (op_inA (hu65 hr)) opd_in ha hb hm
theorem dt_nin (hm : behindInMarks .NotIn b = false := by rfl) : PT X (.Compare a [.NotIn] [b] pos) (tT W wi (gTst (gBin (inND true) ga gb))) := dt_cmp (op_notInA (hu65 hr)) opd_in ha hb hm
end
/-! built-ins of one argument -/
section
variable {p : Pos} {gs : Rho → Rz (List D)}
theorem dx_len (hK : X.K = W.K) (hm : X.mg "len" = none) (ha : PE X a (tD W wi ga)) (hg : Gl X "len" := by rfl) (hs : starEach [a] X.env = (false, eval a X.env) :: starEach [] X.env := by rfl) : PE X (.Call (.Name "len" p) [a] [] pos) (tD W wi (gCall lenD (gCons ga gNil))) := dx_cb call_len (cd_len hK) hg hm PySem.boot_len (da_cons ha da_nil hs) (by decide) (by decide) hs rfl
theorem dx_list (hm : X.mg "list" = none) (ha : PE X a (tD W wi ga)) (hg : Gl X "list" := by rfl) (hs : starEach [a] X.env = (false, eval a X.env) :: starEach [] X.env := by rfl) (hv : bootBuiltins "list" = some (.type "list") := by decide +kernel) : PE X (.Call (.Name "list" p) [a] [] pos) (tD W wi (gCall listD (gCons ga gNil))) := dx_ct call_list_of cd_list hg hm hv (da_cons ha da_nil hs) (by decide) (by decide) hs rfl
theorem dx_tuple (hm : X.mg "tuple" = none) (ha : PE X a (tD W wi ga)) (hg : Gl X "tuple" := by rfl) (hs : starEach [a] X.env = (false, eval a X.env) :: starEach [] X.env := by rfl) (hv : bootBuiltins "tuple" = some (.type "tuple") := by decide +kernel) : PE X (.Call (.Name "tuple" p) [a] [] pos) (tD W wi (gCall tupleD (gCons ga gNil))) := dx_ct call_tuple_of cd_tuple hg hm hv (da_cons ha da_nil hs) (by decide) (by decide) hs rfl
theorem dx_any (hc : X.calm = true) (hm : X.mg "any" = none) (ha : PE X a (tD W wi ga)) (hg : Gl X "any" := by rfl) (hs : starEach [a] X.env = (false, eval a X.env) :: starEach [] X.env := by rfl) (hv : bootBuiltins "any" = some (.builtin "any") := by decide +kernel) : PE X (.Call (.Name "any" p) [a] [] pos) (tD W wi (gCall anyD (gCons ga gNil))) := dx_cb (cr_any hc) cd_any hg hm hv (da_cons ha da_nil hs) (by decide) (by decide) hs rfl
theorem dx_all (hc : X.calm = true) (hm : X.mg "all" = none) (ha : PE X a (tD W wi ga)) (hg : Gl X "all" := by rfl) (hs : starEach [a] X.env = (false, eval a X.env) :: starEach [] X.env := by rfl) (hv : bootBuiltins "all" = some (.builtin "all") := by decide +kernel) : PE X (.Call (.Name "all" p) [a] [] pos) (tD W wi (gCall allD (gCons ga gNil))) := dx_cb (cr_all hc) cd_all hg hm hv (da_cons ha da_nil hs) (by decide) (by decide) hs rfl
theorem dx_sorted (hK : X.K = W.K) (hw : X.w = W.w) (hc : X.calm = true) (hr : Room k X.A) (hm : X.mg "sorted" = none) (ha : PE X a (tD W wi ga)) (hg : Gl X "sorted" := by rfl) (hs : starEach [a] X.env = (false, eval a X.env) :: starEach [] X.env := by rfl) (hv : bootBuiltins "sorted" = some (.builtin "sorted") := by decide +kernel) : PE X (.Call (.Name "sorted" p) [a] [] pos) (tD W wi (gCall sortedD (gCons ga gNil))) := by
  obtain ⟨r, h1, h2⟩ := cd_sorted (W := W) hK hw hc (hu80 hr)
  exact dx_cb h1 h2 hg hm hv (da_cons ha da_nil hs) (by decide) (by decide) hs rfl
theorem dx_set (hw : X.w = W.w) (hc : X.calm = true) (hm : X.mg "set" = none) (ha : PE X a (tD W wi ga)) (hg : Gl X "set" := by rfl) (hs : starEach [a] X.env = (false, eval a X.env) :: starEach [] X.env := by rfl) (hv : bootBuiltins "set" = some (.type "set") := by decide +kernel) : PE X (.Call (.Name "set" p) [a] [] pos) (tD W wi (gCall setD (gCons ga gNil))) := dx_ct (call_setA hc) (cd_set hw) hg hm hv (da_cons ha da_nil hs) (by decide) (by decide) hs rfl
theorem dx_strI (hm : X.mg "str" = none) (ha : PE X a (tD W wi ga)) (hg : Gl X "str" := by rfl) (hs : starEach [a] X.env = (false, eval a X.env) :: starEach [] X.env := by rfl) (hv : bootBuiltins "str" = some (.type "str") := by decide +kernel) : PE X (.Call (.Name "str" p) [a] [] pos) (tD W wi (gCall strD (gCons ga gNil))) := dx_ct call_str_int cd_str hg hm hv (da_cons ha da_nil hs) (by decide) (by decide) hs rfl
theorem dx_intS (hm : X.mg "int" = none) (ha : PE X a (tD W wi ga)) (hg : Gl X "int" := by rfl) (hs : starEach [a] X.env = (false, eval a X.env) :: starEach [] X.env := by rfl) (hv : bootBuiltins "int" = some (.type "int") := by decide +kernel) : PE X (.Call (.Name "int" p) [a] [] pos) (tD W wi (gCall intD (gCons ga gNil))) := dx_ct call_int_str cd_int hg hm hv (da_cons ha da_nil hs) (by decide) (by decide) hs rfl
theorem dx_max (hc : X.calm = true) (hm : X.mg "max" = none) (ha : PE X a (tD W wi ga)) (hb : PE X b (tD W wi gb)) (hg : Gl X "max" := by rfl) (hs : starEach [a, b] X.env = (false, eval a X.env) :: starEach [b] X.env := by rfl) (hs2 : starEach [b] X.env = (false, eval b X.env) :: starEach [] X.env := by rfl) (hv : bootBuiltins "max" = some (.builtin "max") := by decide +kernel)
    (hpl : (backTo pos (starEach [b] X.env)).any (·.1) = false := by rfl) : PE X (.Call (.Name "max" p) [a, b] [] pos) (tD W wi (gCall max2D (gCons ga (gCons gb gNil)))) := dx_cb (call_max2 hc) cd_max2 hg hm hv (da_cons ha (da_cons hb da_nil hs2) hs) (by decide) (by decide) hs hpl
end
/-! own defs -/
/-- the def x of the module, with n parameters, is ff on data, by at most k calls in one another -/
def Has (P : Program) (w : World) (K : PySem.W.Frag) (mg : Str → Option Value) (base : Heap) (W : Wd) (k : Nat) (x : Str) (n : Nat) (ff : List D → Rz D) : Prop :=
  (∀ ds : List D, ds.length ≠ n → ff ds = .bad) ∧ ∃ (f : Addr) (fd : FuncData) (ps : List Str), FnOk P w K mg base (L2.CX P w) k f fd ps (spD W n ff) ∧ mg x = some (.ref f) ∧ PySem.W.keepIn K (.ref f) = true ∧ Binds K fd ps []
theorem Has.mono {P : Program} {w : World} {K : PySem.W.Frag} {mg : Str → Option Value} {base : Heap} {W : Wd} {j k n : Nat} {x : Str} {ff : List D → Rz D} (h : Has P w K mg base W j x n ff) (e : j ≤ k) : Has P w K mg base W k x n ff := by
  obtain ⟨h1, f, fd, ps, F, h2⟩ := h
  exact ⟨h1, f, fd, ps, F.mono e, h2⟩
theorem dx_fn {es : List Expr} {gs : Rho → Rz (List D)} {n : Nat} {ff : List D → Rz D} {x : Str} {p : Pos} (h : Has X.prog X.w X.K X.mg X.base W k x n ff) (hr : Room k X.A) (tk : Takes X wi) (ha : PA X (a :: es) (tA W wi gs)) (hg : Gl X x := by rfl)
    (hdb : (x == ("__debug__" : Str)) = false := by decide) (he : starEach (a :: es) X.env = (false, eval a X.env) :: starEach es X.env := by rfl) (hpl : (backTo pos (starEach es X.env)).any (·.1) = false := by rfl) :
    PE X (.Call (.Name x p) (a :: es) [] pos) (tD W wi (gCall ff gs)) := by
  obtain ⟨h1, f, fd, ps, F, hm, hk, hb⟩ := h
  exact dx_call F h1 hr tk hg hm hk hb ha hdb he hpl
/-- the def's text stands at its name -/
def DefAt (K : PySem.W.Frag) (mg : Str → Option Value) (x : Str) (st : Stmt) : Prop := ∃ (f : Addr) (fd : FuncData), Fun K x x st f fd ∧ mg x = some (.ref f)
theorem has_of {P : Program} {w : World} {K : PySem.W.Frag} {mg : Str → Option Value} {base : Heap} {W : Wd} {x : Str} {st : Stmt} {N ps : List Str} {k n : Nat} {s : Rho → Oc} (hd : DefAt K mg x st) (S : FnScope N ps (defScope st)) (hn : ps.length = n) (hN : n ≤ N.length)
    (hbd : ∀ (kV doc pm : Value) (an : Option Addr) (cdv ct : Value) (us : List Value), us.length = ps.length → bindArgs (PySem.W.fnOf x x (defArgs st) (defBody st) (defScope st) .none kV doc pm an cdv ct) ⟨us, []⟩ = pure (ps.zip us))
    (hb : ∀ (f : Addr) (cdv : Value) (A : Around) (outer : List Env) (s0 : Shared) (H : Hp) (E : XK), Room k (A.deeper (PyProof.Rows.envOfC x (defScope st) s0.heap.objs.size f cdv)) → Takes (cxOf (L2.CX P w) P w K mg base N x (defScope st) f cdv A outer s0 H E) (wE E) →
      PassesOwn (model P w) (A.deeper (PyProof.Rows.envOfC x (defScope st) s0.heap.objs.size f cdv)) (PyProof.Rows.envOfC x (defScope st) s0.heap.objs.size f cdv) (cxOf (L2.CX P w) P w K mg base N x (defScope st) f cdv A outer s0 H E).xe →
      PSs (cxOf (L2.CX P w) P w K mg base N x (defScope st) f cdv A outer s0 H E) (defBody st) (sD W (wE E) s)) : Has P w K mg base W (k + 1) x n (fnD n N.length s) := by
  obtain ⟨f, fd, F, hm⟩ := hd
  refine ⟨fun ds h => fnD_len ds h, f, fd, ps, fn_ok F S hn hN fun cdv A outer s0 H E hr => ?_, hm, F.kp, F.binds hbd⟩
  refine hb f cdv A outer s0 H E hr ?_ ?_
  · exact takes_of rfl rfl rfl rfl
  · exact passes_of (X := cxOf (L2.CX P w) P w K mg base N x (defScope st) f cdv A outer s0 H E) rfl
end FM
set_option Elab.async false
set_option linter.all false
set_option maxRecDepth 100000
set_option maxHeartbeats 4000000
/-! FM, part 12: the errors' classes as the top has made them; a def that calls itself; reversed(range(n)); x[::-1]. -/
namespace FM
open PySem L2
variable {X : Cx} {W : Wd} {wi : WX} {pos : Pos} {a b c d : Expr} {ga gb gc gd : Rho → Rz D} {k : Nat}
def ecName : Ec → Str
  | .web => "BadWeb"
  | .set => "BadSet"
  | .steps => "BadSteps"
  | .tree => "BadTree"
  | .text => "BadText"
/-- what the top has made of the errors' classes; aM: MarkError's -/
structure ExTxt (K : PySem.W.Frag) (mg : Str → Option Value) (ca : Ec → Addr) (aM : Addr) : Prop where
  mgE : ∀ c, mg (ecName c) = some (.ref (ca c))
  xE : ∀ c, PySem.W.excIn K (ca c) [.type "ValueError", .type "Exception", .type "BaseException", .type "object"] "ValueError.__new__" = true
  kE : ∀ c, PySem.W.keepIn K (.ref (ca c)) = true
  sE : ∀ c, PySem.W.subIn K (.ref (ca c)) (.type "BaseException") = some true
  tE : ∀ c, PySem.W.typeIn K (.ref (ca c)) = some (.type "type")
  exc : ExCls K ca
  nmMark : mg "MarkError" = some (.ref aM)
  cat : ∀ e, PySem.W.exmOne K (.ref (ca e)) (.ref aM) = some true
  catOne : ∀ e c, e = c → PySem.W.exmOne K (.ref (ca e)) (.ref (ca c)) = some true
theorem ds_raiseE {aM : Addr} {x m : Str} {j : Nat} {p p2 pos' : Pos} (T : ExTxt X.K X.mg W.ca aM) (c : Ec) (hx : x = ecName c) (hg : Gl X x) (hc : X.calm = true) (tk : Takes X wi) (hdb : (x == ("__debug__" : Str)) = false := by decide) :
    PS X (.Raise (some (.Call (.Name x p) [.Constant (.str m) j p2] [] pos')) none pos) (sD W wi (sRaise c)) :=
  ds_raise PySem.F.excBase_ValueError (T.xE c) (by rw [hx]; exact T.mgE c) (T.kE c) (raises_own (T.sE c) (T.tE c)) hg hc tk hdb
/-- nothing is asked with no calls left -/
theorem has_zero {P : Program} {w : World} {K : PySem.W.Frag} {mg : Str → Option Value} {base : Heap} {W : Wd} {x : Str} {st : Stmt} {ps : List Str} {k n : Nat} (hd : DefAt K mg x st) (hn : ps.length = n)
    (hbd : ∀ (kV doc pm : Value) (an : Option Addr) (cdv ct : Value) (us : List Value), us.length = ps.length → bindArgs (PySem.W.fnOf x x (defArgs st) (defBody st) (defScope st) .none kV doc pm an cdv ct) ⟨us, []⟩ = pure (ps.zip us)) : Has P w K mg base W k x n (fun _ => .bad) := by
  obtain ⟨f, fd, F, hm⟩ := hd
  have no : ∀ vs H Q E, ¬ spD W n (fun _ => .bad) vs H Q E := fun vs H Q E h => by
    obtain ⟨_, _, _, _, _, z⟩ := h
    exact z
  exact ⟨fun _ _ => rfl, f, fd, ps, ⟨fun vs H Q E h => absurd h (no vs H Q E), fun A outer s H args us vs Q E _ _ _ _ h => absurd h (no vs H Q E)⟩, hm, F.kp, F.binds hbd⟩
/-! ### for x in reversed(range(n)) -/
def gRevR (ga : Rho → Rz D) : Rho → Rz (List D) := fun ρ => (ga ρ).bind fun x => match x with
  | .int n => if 0 ≤ n ∧ n ≤ 1000 then .ok (rngL 0 n.toNat).reverse else .bad
  | _ => .bad
theorem yl_revR {G : Hp} {n : Nat} : Yl W G (Itc ((n : Int) - 1) (-1) n) G (rngL 0 n).reverse := by
  have len : (rngL 0 n).length = n := by
    unfold rngL
    rw [List.length_map, List.length_range]
  have vals : ∀ l : List Nat, Reps W G (l.map fun (i : Nat) => V.int (0 + (i : Int))) (l.map fun (k : Nat) => D.int (0 + (k : Int))) := by
    intro l
    induction l with
    | nil => exact .nil
    | cons z zs ih => exact .cons (.int _) ih
  have lv : ((List.range n).map fun (i : Nat) => V.int (0 + (i : Int))).length = n := by rw [List.length_map, List.length_range]
  refine ⟨((List.range n).map fun (i : Nat) => V.int (0 + (i : Int))).reverse, (vals _).rev, fun i x H e ei => ?_, fun H e => ?_⟩
  · have hi : i < n := by
      have := (List.getElem?_eq_some_iff.mp ei).1
      rw [List.length_reverse, lv] at this
      exact this
    refine ⟨hi, fun y H' hy => ⟨hy.1, ?_⟩⟩
    rw [List.getElem?_reverse (by rw [lv]; exact hi), lv, List.getElem?_map, List.getElem?_range (by omega)] at ei
    have e2 := Option.some.inj ei
    rw [hy.2, ← e2]
    congr 1
    omega
  · show n ≤ _
    rw [List.length_reverse, lv]
    exact Nat.le_refl _
theorem di_revR {tg : Expr} {p p2 pos2 : Pos} (hg : Gl X "reversed") (hm : X.mg "reversed" = none) (hg2 : Gl X "range") (hm2 : X.mg "range" = none) (ha : PE X a (tD W wi ga)) (hs : starEach [a] X.env = (false, eval a X.env) :: starEach [] X.env := by rfl)
    (hs2 : starEach [.Call (.Name "range" p2) [a] [] pos2] X.env = (false, eval (.Call (.Name "range" p2) [a] [] pos2) X.env) :: starEach [] X.env := by rfl) : PI X tg (.Call (.Name "reversed" p) [.Call (.Name "range" p2) [a] [] pos2] [] pos) (tI W wi (gRevR ga)) := by
  refine PI.imp (pi_revR hg hm (prg_1 hg2 hm2 ha hs) hs2) fun σ H R h => ?_
  obtain ⟨B, G0, H0, G, ρ, E, h⟩ := h
  refine tX_go E h fun x v G1 H1 _ g1 r1 E1 h1 => ?_
  cases x with
  | int n =>
    have h2 : RzX (fun G J ds => Yl W G J G ds) W wi G1 H1 σ R (if 0 ≤ n ∧ n ≤ 1000 then .ok (rngL 0 n.toNat).reverse else .bad) := h1
    split at h2
    · rename_i hn
      cases r1
      refine ⟨n, rfl, by omega, by omega, by omega, by omega, ?_⟩
      have e1 : (0 : Int) + (((n - 0).toNat : Nat) : Int) - 1 = (n.toNat : Int) - 1 := by omega
      have e2 : (n - 0).toNat = n.toNat := by omega
      rw [e1, e2]
      exact h2 _ G1 H1 (Grow.refl E1.i) yl_revR
    · exact h2.elim
  | _ => exact h1.elim
end FM
set_option Elab.async false
set_option linter.all false
set_option maxRecDepth 100000
set_option maxHeartbeats 4000000
/-! FM, part 13: defs by hand: near. -/
namespace FM
open PySem L2
/-- the neighbours of s in a row of lines, both ways, in turn -/
def nbrs (s : Int) (ls : List (Int × Int)) : List Int := ls.flatMap fun p => (if p.1 = s then [p.2] else []) ++ (if p.2 = s then [p.1] else [])
/-- lines as data: pairs of ints -/
def linesOf : List D → Option (List (Int × Int))
  | [] => some []
  | .tup [.int a, .int b] :: r => (linesOf r).map ((a, b) :: ·)
  | _ :: _ => none
def sortI (l : List Int) : List Int := l.mergeSort fun a b => decide (a ≤ b)
def nearL (n : Nat) (ls : List (Int × Int)) : List (List Int) := (List.range n).map fun s => sortI (nbrs (s : Nat) ls)
def near1 : D → Rz D
  | .tup [.int n, .lst l] => match linesOf l with
    | some ls => if 0 ≤ n ∧ n ≤ 1000 ∧ ls.length ≤ 1000 ∧ ∀ p ∈ ls, (0 ≤ p.1 ∧ p.1 < n) ∧ (0 ≤ p.2 ∧ p.2 < n) then .ok (.lst ((nearL n.toNat ls).map fun r => .lst (r.map D.int))) else .bad
    | none => .bad
  | _ => .bad
def b_near : Rho → Oc := fun ρ => match ρ with
  | [.va d, .no, .no, .no, .no, .no] => rzS ρ (fun x => .rt x) (near1 d)
  | _ => .bad
def f_near : List D → Rz D := fnD 1 6 b_near
end FM
set_option Elab.async false
set_option linter.all false
set_option maxRecDepth 100000
set_option maxHeartbeats 4000000
/-! FM, plain: sorted of ints, of pairs of ints. -/
namespace FM
open PySem L2
theorem sortI_le (l : List Int) : (sortI l).Pairwise (· ≤ ·) := by
  have h1 : (l.mergeSort fun a b => decide (a ≤ b)).Pairwise (fun a b => decide (a ≤ b) = true) := List.pairwise_mergeSort (fun a b c h h' => by simp only [decide_eq_true_eq] at *; omega) (fun a b => by simp only [Bool.or_eq_true, decide_eq_true_eq]; omega) l
  exact h1.imp fun h => of_decide_eq_true h
theorem sortI_perm (l : List Int) : (sortI l).Perm l := List.mergeSort_perm _ _
theorem sortI_len (l : List Int) : (sortI l).length = l.length := (sortI_perm l).length_eq
theorem sortI_mem {l : List Int} {k : Int} : k ∈ sortI l ↔ k ∈ l := (sortI_perm l).mem_iff
theorem sortI_self {l : List Int} (h : l.Pairwise (· ≤ ·)) : sortI l = l := List.mergeSort_of_pairwise (h.imp fun h => decide_eq_true h)
theorem sortI_lt {l : List Int} (h : l.Nodup) : (sortI l).Pairwise (· < ·) := msort_lt h
theorem leP_int (a b : Int) : leP (.int a) (.int b) = decide (a ≤ b) := by
  show (!(decide (b < a) || (!decide (a < b) && false))) = decide (a ≤ b)
  by_cases h : b < a
  · have : ¬ a ≤ b := by omega
    simp [h, this]
  · have : a ≤ b := by omega
    simp [h, this]
def pD (p : Int × Int) : D := .tup [.int p.1, .int p.2]
def lePr (p q : Int × Int) : Bool := decide (p.1 < q.1 ∨ (p.1 = q.1 ∧ p.2 ≤ q.2))
theorem leP_pair (p q : Int × Int) : leP (pD p) (pD q) = lePr p q := by
  obtain ⟨a, b⟩ := p
  obtain ⟨c, d⟩ := q
  have e : leP (pD (a, b)) (pD (c, d)) = !(PyProof.Rows.lexLt PyProof.Rows.itemOrd [.inl 1, .inl c, .inl 1, .inl d, .inl 0] [.inl 1, .inl a, .inl 1, .inl b, .inl 0]) := rfl
  rw [e]
  have ll : ∀ u v w x : Int, PyProof.Rows.lexLt PyProof.Rows.itemOrd [.inl 1, .inl u, .inl 1, .inl v, .inl 0] [.inl 1, .inl w, .inl 1, .inl x, .inl 0] = (decide (u < w) || (!decide (w < u) && (decide (v < x) || (!decide (x < v) && false)))) := fun u v w x => rfl
  rw [ll]
  unfold lePr
  rw [Bool.eq_iff_iff]
  simp only [Bool.and_false, Bool.or_false, Bool.not_eq_true', Bool.or_eq_false_iff, Bool.and_eq_false_iff, decide_eq_false_iff_not, decide_eq_true_eq, Bool.not_eq_false']
  omega
theorem sort_map_int (l : List Int) : (l.map D.int).mergeSort leP = (sortI l).map D.int := by
  have e2 := PySem.W.sort_maps (r := fun a b : Int => decide (a ≤ b)) (s := leP) D.int (l := l) (fun a _ b _ => (leP_int a b).symm)
  exact e2.symm
theorem sort_map_pair (l : List (Int × Int)) : (l.map pD).mergeSort leP = (l.mergeSort lePr).map pD := by
  have e2 := PySem.W.sort_maps (r := lePr) (s := leP) pD (l := l) (fun a _ b _ => (leP_pair a b).symm)
  exact e2.symm
theorem sortOk_int {l : List Int} (h : l.length ≤ lim) : SortOk (l.map D.int) := by
  have e : (l.map D.int).map pyD = l.map fun i => PyData.int i := by
    rw [List.map_map]
    rfl
  refine ⟨fun d hd => ?_, fun d hd d' hd' => ?_, .inr fun d hd => ?_, fun d hd => ?_, by rw [List.length_map]; exact h⟩
  · obtain ⟨i, _, rfl⟩ := List.mem_map.mp hd
    exact ⟨_, rfl⟩
  · rw [e] at hd hd'
    obtain ⟨i, _, rfl⟩ := List.mem_map.mp hd
    obtain ⟨j, _, rfl⟩ := List.mem_map.mp hd'
    rfl
  · rw [e] at hd
    obtain ⟨i, _, rfl⟩ := List.mem_map.mp hd
    exact ⟨(fun z => nomatch z), (fun _ z => nomatch z)⟩
  · obtain ⟨i, _, rfl⟩ := List.mem_map.mp hd
    exact Nat.zero_le _
theorem sortOk_pair {l : List (Int × Int)} (h : l.length ≤ lim) : SortOk (l.map pD) := by
  have e : (l.map pD).map pyD = l.map fun p => PyData.tuple [.int p.1, .int p.2] := by
    rw [List.map_map]
    rfl
  refine ⟨fun d hd => ?_, fun d hd d' hd' => ?_, .inl fun d hd => ?_, fun d hd => ?_, by rw [List.length_map]; exact h⟩
  · obtain ⟨i, _, rfl⟩ := List.mem_map.mp hd
    exact ⟨_, rfl⟩
  · rw [e] at hd hd'
    obtain ⟨i, _, rfl⟩ := List.mem_map.mp hd
    obtain ⟨j, _, rfl⟩ := List.mem_map.mp hd'
    rfl
  · rw [e] at hd
    obtain ⟨i, _, rfl⟩ := List.mem_map.mp hd
    exact ⟨_, _, rfl⟩
  · obtain ⟨i, _, rfl⟩ := List.mem_map.mp hd
    show 1 ≤ 64
    decide
theorem sortedD_lst {l : List Int} (h : l.length ≤ lim) : sortedD [.lst (l.map D.int)] = .ok (.lst ((sortI l).map D.int)) := by
  show (if SortOk (l.map D.int) then Rz.ok (D.lst ((l.map D.int).mergeSort leP)) else .bad) = _
  rw [if_pos (sortOk_int h), sort_map_int]
theorem sortedD_tup {l : List Int} (h : l.length ≤ lim) : sortedD [.tup (l.map D.int)] = .ok (.lst ((sortI l).map D.int)) := by
  show (if SortOk (l.map D.int) then Rz.ok (D.lst ((l.map D.int).mergeSort leP)) else .bad) = _
  rw [if_pos (sortOk_int h), sort_map_int]
theorem sortedD_pairs {l : List (Int × Int)} (h : l.length ≤ lim) : sortedD [.lst (l.map pD)] = .ok (.lst ((l.mergeSort lePr).map pD)) := by
  show (if SortOk (l.map pD) then Rz.ok (D.lst ((l.map pD).mergeSort leP)) else .bad) = _
  rw [if_pos (sortOk_pair h), sort_map_pair]
theorem sortPr_self {l : List (Int × Int)} (h : l.Pairwise fun p q => p.1 < q.1) : l.mergeSort lePr = l :=
  List.mergeSort_of_pairwise (h.imp fun {p q} h => decide_eq_true (.inl h))
theorem sortedD_set {l : List Int} (h : l.length < 64) : sortedD [.set l] = .ok (.lst ((sortI l).map D.int)) := by
  show (if l.length < 64 then Rz.ok (D.lst ((sortI l).map D.int)) else .bad) = _
  rw [if_pos h]
theorem setD_tup {l : List Int} (h : l.length ≤ 60) : setD [.tup (l.map D.int)] = .ok (.set (dedI l)) := by
  unfold setD
  simp only [intsOf_map, if_pos h]
theorem setD_lst {l : List Int} (h : l.length ≤ 60) : setD [.lst (l.map D.int)] = .ok (.set (dedI l)) := by
  unfold setD
  simp only [intsOf_map, if_pos h]
/-! a comprehension that goes through -/
theorem lc_nm {i : Nat} {c : Rho → Rz Bool} {ge : Rho → Rz D} {ρ : Rho} {p : D → Bool} {f : D → D} : ∀ (xs : List D), (∀ x ∈ xs, c (ρ.set i (.va x)) = .ok (p x)) → (∀ x ∈ xs, p x = true → ge (ρ.set i (.va x)) = .ok (f x)) → lcGo (.nm i) c ge ρ xs = .ok ((xs.filter p).map f)
  | [], _, _ => rfl
  | x :: xs, hc, hg => by
    have ih := lc_nm xs (fun y hy => hc y (List.mem_cons_of_mem _ hy)) (fun y hy => hg y (List.mem_cons_of_mem _ hy))
    have h1 := hc x List.mem_cons_self
    have h2 := hg x List.mem_cons_self
    simp only [lcGo, bindT, h1]
    cases e : p x with
    | true => simp [h2 e, ih, e]
    | false => simp [ih, e]
theorem lc_nmAll {i : Nat} {ge : Rho → Rz D} {ρ : Rho} {f : D → D} (xs : List D) (hg : ∀ x ∈ xs, ge (ρ.set i (.va x)) = .ok (f x)) : lcGo (.nm i) gYes ge ρ xs = .ok (xs.map f) := by
  have h := lc_nm (c := gYes) (p := fun _ => true) (ge := ge) (ρ := ρ) (f := f) (i := i) xs (fun _ _ => rfl) (fun x hx _ => hg x hx)
  rw [h, List.filter_eq_self.mpr fun _ _ => rfl]
end FM
set_option Elab.async false
set_option linter.all false
set_option maxRecDepth 100000
set_option maxHeartbeats 4000000
/-! FM, part 13b: near, by hand: a list of lists that grow. -/
namespace FM
open PySem L2
variable {X : Cx} {W : Wd} {wi : WX}

/-! ### rows as plain lists -/
def appAt : List (List Int) → Nat → Int → List (List Int)
  | [], _, _ => []
  | r :: rs, 0, x => (r ++ [x]) :: rs
  | r :: rs, i + 1, x => r :: appAt rs i x
theorem appAt_len : ∀ (rs : List (List Int)) (i : Nat) (x : Int), (appAt rs i x).length = rs.length
  | [], _, _ => rfl
  | _ :: _, 0, _ => rfl
  | _ :: rs, i + 1, x => by
    rw [appAt, List.length_cons, List.length_cons, appAt_len rs i x]
theorem appAt_get : ∀ (rs : List (List Int)) (i : Nat) (x : Int) (j : Nat), (appAt rs i x)[j]? = if i = j then rs[j]?.map (· ++ [x]) else rs[j]?
  | [], i, x, j => by simp [appAt]
  | r :: rs, 0, x, 0 => by simp [appAt]
  | r :: rs, 0, x, j + 1 => by simp [appAt]
  | r :: rs, i + 1, x, 0 => by simp [appAt]
  | r :: rs, i + 1, x, j + 1 => by
    simp only [appAt, List.getElem?_cons_succ, appAt_get rs i x j, Nat.add_right_cancel_iff]
def addOne (rs : List (List Int)) (p : Int × Int) : List (List Int) := appAt (appAt rs p.1.toNat p.2) p.2.toNat p.1
theorem addOne_len (rs : List (List Int)) (p : Int × Int) : (addOne rs p).length = rs.length := by
  unfold addOne
  rw [appAt_len, appAt_len]
def addAll (rs : List (List Int)) (ls : List (Int × Int)) : List (List Int) := ls.foldl addOne rs
theorem addAll_len : ∀ (ls : List (Int × Int)) (rs : List (List Int)), (addAll rs ls).length = rs.length
  | [], _ => rfl
  | p :: ls, rs => (addAll_len ls (addOne rs p)).trans (addOne_len rs p)
theorem addAll_get : ∀ (ls : List (Int × Int)) (rs : List (List Int)) (s : Nat), (∀ p ∈ ls, 0 ≤ p.1 ∧ 0 ≤ p.2) → (addAll rs ls)[s]? = rs[s]?.map (· ++ nbrs (s : Int) ls)
  | [], rs, s, _ => by
    cases h : rs[s]? with
    | none => simp [addAll, nbrs, h]
    | some r => simp [addAll, nbrs, h]
  | (a, b) :: ls, rs, s, h => by
    have h0 := h (a, b) List.mem_cons_self
    have e := addAll_get ls (addOne rs (a, b)) s fun p hp => h p (List.mem_cons_of_mem _ hp)
    show (addAll (addOne rs (a, b)) ls)[s]? = _
    rw [e]
    unfold addOne
    rw [appAt_get, appAt_get]
    have e1 : (a.toNat = s) ↔ a = (s : Int) := by omega
    have e2 : (b.toNat = s) ↔ b = (s : Int) := by omega
    have en : nbrs (s : Int) ((a, b) :: ls) = ((if a = (s : Int) then [b] else []) ++ (if b = (s : Int) then [a] else [])) ++ nbrs (s : Int) ls := rfl
    rw [en]
    simp only [e1, e2]
    cases rs[s]? with
    | none => simp
    | some r =>
      by_cases c1 : a = (s : Int)
      · by_cases c2 : b = (s : Int)
        · simp [c1, c2]
        · simp [c1, c2]
      · by_cases c2 : b = (s : Int)
        · simp [c1, c2]
        · simp [c1, c2]

/-! ### rows in the heap, not seen yet -/
structure Rws (H0 G H : Hp) (p : Addr) (qs : List Addr) (rows : List (List Int)) : Prop where
  p0 : H0 p = none
  pG : G p = none
  pH : H p = some (.lst (qs.map V.ref))
  nd : (p :: qs).Nodup
  len : qs.length = rows.length
  row : ∀ (i : Nat) (q : Addr) (r : List Int), qs[i]? = some q → rows[i]? = some r → H0 q = none ∧ G q = none ∧ H q = some (.lst (r.map V.int))
theorem Rws.grow {H0 G H G' H' : Hp} {p : Addr} {qs : List Addr} {rows : List (List Int)} (R : Rws H0 G H p qs rows) (g : Grow G H G' H') : Rws H0 G' H' p qs rows :=
  ⟨R.p0, g.hid p R.pG (by rw [R.pH]; exact fun z => nomatch z), g.h _ _ R.pH, R.nd, R.len, fun i q r e1 e2 => by
    obtain ⟨a, b, c⟩ := R.row i q r e1 e2
    exact ⟨a, g.hid q b (by rw [c]; exact fun z => nomatch z), g.h _ _ c⟩⟩
theorem Rws.put {H0 G H : Hp} {p q : Addr} {qs : List Addr} {rows : List (List Int)} {i : Nat} {r : List Int} {x : Int} (R : Rws H0 G H p qs rows) (e1 : qs[i]? = some q) (e2 : rows[i]? = some r) :
    Rws H0 G (upd H q (.lst ((r ++ [x]).map V.int))) p qs (appAt rows i x) := by
  have hq : q ∈ qs := List.mem_of_getElem? e1
  have nd := List.nodup_cons.mp R.nd
  refine ⟨R.p0, R.pG, ?_, R.nd, by rw [appAt_len]; exact R.len, fun j q' r' f1 f2 => ?_⟩
  · rw [upd_ne (fun z => nd.1 (by rw [z]; exact hq))]
    exact R.pH
  · rw [appAt_get] at f2
    by_cases hj : i = j
    · subst hj
      rw [if_pos rfl, e2] at f2
      cases f2
      rw [e1] at f1
      cases f1
      obtain ⟨a, b, _⟩ := R.row i q r e1 e2
      exact ⟨a, b, upd_same⟩
    · rw [if_neg hj] at f2
      obtain ⟨a, b, c⟩ := R.row j q' r' f1 f2
      refine ⟨a, b, ?_⟩
      rw [upd_ne ?_]
      · exact c
      · intro z
        subst z
        exact hj ((List.getElem?_inj (List.getElem?_eq_some_iff.mp e1).1 nd.2).mp (e1.trans f1.symm))
theorem EnvOk.chgH {B G0 H0 G H : Hp} {σ : L2.St} {ρ : Rho} {q : Addr} {o : HO} (E : EnvOk W B G0 H0 G H σ ρ) (no : ∀ (i : Nat) (l : List D), ρ[i]? ≠ some (.ow l)) (h0 : H0 q = none) (hg : G q = none) : EnvOk W B G0 H0 G (upd H q o) σ ρ := by
  refine ⟨E.bs, ⟨fun b u hb => ?_, E.gr.g, fun b u hb => ?_, E.gr.hid⟩, E.ln, fun i x e => ?_, fun i _ _ l _ e _ _ _ => absurd e (no i l)⟩
  · rw [upd_ne (ne_of_none hb h0)]
    exact E.gr.h b u hb
  · rw [upd_ne (ne_of_none hb hg)]
    exact E.gr.i b u hb
  · cases x with
    | no => trivial
    | va d => exact E.sl i _ e
    | ow l => exact absurd e (no i l)
theorem Rws.reps {H0 G H G' : Hp} {p : Addr} {qs : List Addr} {rows : List (List Int)} (R : Rws H0 G H p qs rows) (hG : ∀ q ∈ qs, G' q = H q) : Reps W G' (qs.map V.ref) (rows.map fun r => D.lst (r.map D.int)) := by
  have : ∀ (qs : List Addr) (rows : List (List Int)), qs.length = rows.length → (∀ (i : Nat) (q : Addr) (r : List Int), qs[i]? = some q → rows[i]? = some r → G' q = some (.lst (r.map V.int))) → Reps W G' (qs.map V.ref) (rows.map fun r => D.lst (r.map D.int)) := by
    intro qs
    induction qs with
    | nil =>
      intro rows hl _
      cases rows with
      | nil => exact .nil
      | cons _ _ => cases hl
    | cons q qs ih =>
      intro rows hl h
      cases rows with
      | nil => cases hl
      | cons r rows =>
        refine .cons (.lst (h 0 q r rfl rfl) (Reps.ints r)) (ih rows (by simpa using hl) fun i q' r' e1 e2 => h (i + 1) q' r' (by simpa using e1) (by simpa using e2))
  refine this qs rows R.len fun i q r e1 e2 => ?_
  rw [hG q (List.mem_of_getElem? e1)]
  exact (R.row i q r e1 e2).2.2
/-- the rows are seen: they grow no more -/
theorem Rws.see {B G0 H0 G H : Hp} {σ : L2.St} {ρ : Rho} {p : Addr} {qs : List Addr} {rows : List (List Int)} {i : Nat} (R : Rws H0 G H p qs rows) (E : EnvOk W B G0 H0 G H σ ρ) (no : ∀ (i : Nat) (l : List D), ρ[i]? ≠ some (.ow l)) (hs : σ[i]? = some (some (.ref p))) :
    ∃ G', EnvOk W B G0 H0 G' H σ (ρ.set i (.va (.lst (rows.map fun r => D.lst (r.map D.int))))) := by
  have row' : ∀ q ∈ qs, H0 q = none ∧ G q = none := fun q hq => by
    obtain ⟨j, hj⟩ := List.mem_iff_getElem?.mp hq
    have hl : j < rows.length := by rw [← R.len]; exact (List.getElem?_eq_some_iff.mp hj).1
    obtain ⟨a, b, _⟩ := R.row j q rows[j] hj (List.getElem?_eq_getElem hl)
    exact ⟨a, b⟩
  let G' : Hp := fun a => if a = p ∨ a ∈ qs then H a else G a
  have g1 : Same G G' := fun a o e => by
    show (if a = p ∨ a ∈ qs then H a else G a) = _
    split
    · exact E.gr.i a o e
    · exact e
  have gi : Same G' H := fun a o e => by
    have e' : (if a = p ∨ a ∈ qs then H a else G a) = some o := e
    split at e'
    · exact e'
    · exact E.gr.i a o e'
  have e1 : G' p = some (.lst (qs.map V.ref)) := by
    show (if p = p ∨ p ∈ qs then H p else G p) = _
    rw [if_pos (.inl rfl)]
    exact R.pH
  have rp : Rep W G' (.ref p) (.lst (rows.map fun r => D.lst (r.map D.int))) := .lst e1 (R.reps fun q hq => by
    show (if q = p ∨ q ∈ qs then H q else G q) = _
    rw [if_pos (.inr hq)])
  have E' : EnvOk W B G0 H0 G' H σ ρ := by
    refine ⟨E.bs.trans g1, ⟨E.gr.h, E.gr.g.trans g1, gi, fun a x y => ?_⟩, E.ln, fun j x e => ?_, fun j _ _ l _ e _ _ _ => absurd e (no j l)⟩
    · show (if a = p ∨ a ∈ qs then H a else G a) = none
      rw [if_neg]
      · exact E.gr.hid a x y
      · rintro (rfl | z)
        · exact y R.p0
        · exact y (row' a z).1
    · cases x with
      | no => trivial
      | va d =>
        obtain ⟨v, e2, r⟩ := E.va e
        exact ⟨v, e2, r.mono g1⟩
      | ow l => exact absurd e (no j l)
  have E2 := E'.set (i := i) rp
  have es : σ.set i (some (.ref p)) = σ := by
    apply List.ext_getElem?
    intro j
    by_cases hj : i = j
    · subst hj
      have := (List.getElem?_eq_some_iff.mp hs).1
      rw [List.getElem?_set_self this, hs]
    · rw [List.getElem?_set_ne hj]
  rw [es] at E2
  exact ⟨G', E2⟩

/-! ### the three statements -/
/-- what holds between them -/
def RN (W : Wd) (B G0 H0 G H : Hp) (σ : L2.St) (d : D) (rows : List (List Int)) : Prop :=
  EnvOk W B G0 H0 G H σ [.va d, .no, .no, .no, .no, .no] ∧ ∃ p qs, σ[1]? = some (some (.ref p)) ∧ Rws H0 G H p qs rows
theorem no_ow {d : D} : ∀ (i : Nat) (l : List D), ([.va d, .no, .no, .no, .no, .no] : Rho)[i]? ≠ some (.ow l)
  | 0, _, h => by cases h
  | 1, _, h => by cases h
  | 2, _, h => by cases h
  | 3, _, h => by cases h
  | 4, _, h => by cases h
  | 5, _, h => by cases h
  | i + 6, _, h => by simp at h
theorem no_ow2 {d a b : D} : ∀ (i : Nat) (l : List D), ([.va d, .no, .va a, .va b, .no, .no] : Rho)[i]? ≠ some (.ow l)
  | 0, _, h => by cases h
  | 1, _, h => by cases h
  | 2, _, h => by cases h
  | 3, _, h => by cases h
  | 4, _, h => by cases h
  | 5, _, h => by cases h
  | i + 6, _, h => by simp at h
/-- found[i].append(k) -/
def tAdd (i j k : Nat) : TS := fun D σ H => ∃ (p : Addr) (ps : List V) (z : Int) (q : Addr) (vs : List V) (y : V), σ[i]? = some (some (.ref p)) ∧ σ[j]? = some (some (.int z)) ∧ H p = some (.lst ps) ∧ atI ps z = some (.ref q) ∧ H q = some (.lst vs) ∧ vs.length < sizeLine ∧ σ[k]? = some (some y) ∧
  D.nx σ (upd H q (.lst (vs ++ [y])))
theorem ps_add {i j k : Nat} {x y z : Str} {p1 p2 p3 sp apos cpos pos : Pos} (hi : X.N[i]? = some x) (hvx : Vis X.env.scope x) (hj : X.N[j]? = some y) (hvy : Vis X.env.scope y) (hk : X.N[k]? = some z) (hvz : Vis X.env.scope z) (hpl : PlainIx (.Name y p2))
    (hd1 : (x == ("__debug__" : Str)) = false := by decide) (hc1 : (x == ("__classdict__" : Str)) = false := by decide) (hd2 : (y == ("__debug__" : Str)) = false := by decide) (hc2 : (y == ("__classdict__" : Str)) = false := by decide) (hd3 : (z == ("__debug__" : Str)) = false := by decide) (hc3 : (z == ("__classdict__" : Str)) = false := by decide)
    (hs : swapsWith (.Call (.Attribute (.Subscript (.Name x p1) (.Name y p2) sp) "append" apos) [.Name z p3] [] cpos) none pos.line X.env = pure false := by rfl) (hse : starEach (.Name z p3 :: []) X.env = (false, eval (.Name z p3) X.env) :: starEach [] X.env := by rfl)
    (hbase : attributeBase (.Subscript (.Name x p1) (.Name y p2) sp) "append" X.env (eval (.Subscript (.Name x p1) (.Name y p2) sp) X.env) = eval (.Subscript (.Name x p1) (.Name y p2) sp) X.env := by rfl)
    (hfew : ((backTo cpos (starEach (.Name z p3 :: []) X.env)).all (fun x => !x.1) && (backToKw cpos (keywordEach [] X.env)).all (fun x => x.1.isSome) && decide ((Expr.Name z p3 :: []).length + ([] : List Keyword).length + (if ([] : List Keyword).isEmpty then 0 else 1) < 30)) = true := by rfl)
    (hline : (apos.endLine == cpos.line) = true := by rfl) (hplain : (backTo cpos (starEach [] X.env)).any (·.1) = false := by rfl) :
    PS X (.Expr (.Call (.Attribute (.Subscript (.Name x p1) (.Name y p2) sp) "append" apos) [.Name z p3] [] cpos) pos) (tAdd i j k) :=
  PS.imp (ps_expr (pe_bm PySem.F.plainAttrs_list PySem.F.slot_list_append PySem.F.type_list_append mt_append (pe_ix ix_list (pe_var hi hvx hd1 hc1) (pe_var hj hvy hd2 hc2) hpl) (pa_cons (pe_var hk hvz hd3 hc3) pa_nil hse) hbase hfew hline hse hplain) hs) fun D σ H h => by
    obtain ⟨p, ps, n, q, vs, u, e1, e2, e3, e4, e5, e6, e7, e8⟩ := h
    exact ⟨_, e1, _, e2, p, ps, n, .ref q, rfl, rfl, SqL.of e3, e4, .inl ⟨rfl, vs, SqL.of e5⟩, _, e7, q, vs, u, rfl, rfl, e5, e6, e8⟩
/-! [[] for spot in range(web[0])] -/
def tS1 (W : Wd) : TS := fun D σ H => ∃ B G0 H0 G n l, EnvOk W B G0 H0 G H σ [.va (.tup [.int n, l]), .no, .no, .no, .no, .no] ∧ (0 ≤ n ∧ n ≤ 1000) ∧
  ∀ σ' G' H', RN W B G0 H0 G' H' σ' (.tup [.int n, l]) (List.replicate n.toNat []) → D.nx σ' H'
theorem rngL_len (lo : Int) (n : Nat) : (rngL lo n).length = n := by
  unfold rngL
  rw [List.length_map, List.length_range]
theorem s1_iter {n : Int} {l : D} (hn : 0 ≤ n ∧ n ≤ 1000) : gRng rng1D (gCons (gBin ixD (gVar 0) (gC (.int 0))) gNil) [.va (.tup [.int n, l]), .no, .no, .no, .no, .no] = .ok (rngL 0 n.toNat) := by
  show rng1D [.int n] = _
  have e : (lim : Int) = 100000 := rfl
  show (if -(lim : Int) ≤ n ∧ n ≤ lim then Rz.ok (rngL 0 n.toNat) else .bad) = _
  rw [if_pos (by rw [e]; omega)]
theorem sem_s1 {K : PySem.W.Frag} {Dd : Ends} {σ : L2.St} {H : Hp} (h : tS1 W Dd σ H) :
    tAsg (tLc (tI W wi (gRng rng1D (gCons (gBin ixD (gVar 0) (gC (.int 0))) gNil))) (tG K (.nm 4)) (tT W wF gYes) (tLst tNil) [4]) (gName 1) Dd σ H := by
  obtain ⟨B, G0, H0, G, n, l, E, hn, h⟩ := h
  refine ⟨B, G0, H0, G, _, E, ?_⟩
  rw [s1_iter hn]
  intro J G1 H1 g1 hy Dl hD
  have E1 := E.grow g1
  obtain ⟨vs, rv, hgo, hstop⟩ := hy
  have hlen : vs.length = n.toNat := by
    rw [rv.length, rngL_len]
  have i1 : Same G1 H1 := E1.i
  refine ⟨fun i m H2 => ∃ G2 qs, Grow G1 H1 G2 H2 ∧ G2 Dl = none ∧ H2 Dl = some (.lst (qs.map V.ref)) ∧ (Dl :: qs).Nodup ∧ qs.length = i ∧ i ≤ vs.length ∧ m = vs.length - i ∧ ∀ q ∈ qs, H1 q = none ∧ G2 q = none ∧ H2 q = some (.lst []),
    ⟨vs.length, G1, [], Grow.newH i1 hD, i1.free hD, upd_same, by simp, rfl, Nat.zero_le _, rfl, fun q hq => by simp at hq⟩, ?_⟩
  rintro i m H2 ⟨G2, qs, gr, gD, hDl, nd, hql, hi, rfl, hqs⟩
  by_cases hlt : i < vs.length
  · refine .inr ?_
    obtain ⟨h1, h2⟩ := hgo i vs[i] H2 (i1.trans gr.h) (by simp [hlt])
    obtain ⟨dx, ed, rx⟩ := rv.get (i := i) (v := vs[i]) (by simp [hlt])
    refine ⟨h1, fun H' => ∃ G2 qs, Grow G1 H1 G2 H' ∧ G2 Dl = none ∧ H' Dl = some (.lst (qs.map V.ref)) ∧ (Dl :: qs).Nodup ∧ qs.length = i + 1 ∧ ∀ q ∈ qs, H1 q = none ∧ G2 q = none ∧ H' q = some (.lst []),
      fun H' ⟨G2, qs, q1, q2, q3, q4, q5, q6⟩ => ⟨vs.length - (i + 1), by omega, G2, qs, q1, q2, q3, q4, q5, hlt, rfl, q6⟩, fun x H' hyl => ?_⟩
    obtain ⟨e1, e2⟩ := h2 x H' hyl
    subst e1
    subst e2
    have E2 := (E1.grow gr).wipe2 [4]
    refine tG_go (tg := .nm 4) E2 (rx.mono gr.g) rfl fun σ2 E3 hw => ⟨?_, ?_⟩
    · rw [hw [4] rfl]
      show (σ.set 4 none).set 4 none = σ.set 4 none
      rw [List.set_set]
    · refine ⟨B, G0, H0, G2, _, E3, ?_⟩
      intro b G3 H3 g3 eb
      subst eb
      rw [if_pos rfl]
      refine ⟨Nat.zero_le _, fun q hq => ?_⟩
      have gr3 := gr.trans g3
      have q1 : H1 q = none := gr3.h.free hq
      have hD3 : H3 Dl = some (.lst (qs.map V.ref)) := g3.h _ _ hDl
      have gD3 : G3 Dl = none := g3.hid _ gD (by rw [hDl]; exact fun z => nomatch z)
      have qD : q ≠ Dl := fun z => by
        rw [z, hD3] at hq
        cases hq
      have gq : G3 q = none := gr3.i.free hq
      have old : ∀ q' ∈ qs, q' ≠ q ∧ H1 q' = none ∧ G3 q' = none ∧ H3 q' = some (.lst []) := fun q' hq' => by
        obtain ⟨a, b, c⟩ := hqs q' hq'
        have c3 := g3.h _ _ c
        refine ⟨fun z => ?_, a, g3.hid _ b (by rw [c]; exact fun z => nomatch z), c3⟩
        rw [z, hq] at c3
        cases c3
      have nD : ∀ q' ∈ qs, q' ≠ Dl := fun q' hq' z => (List.nodup_cons.mp nd).1 (z ▸ hq')
      refine ⟨qs.map V.ref, by rw [upd_ne (Ne.symm qD)]; exact hD3, ?_, G3, qs ++ [q], ⟨?_, gr3.g, ?_, gr3.hid⟩, gD3, ?_, ?_, by rw [List.length_append, hql]; rfl, ?_⟩
      · rw [List.length_map, hql]
        exact lim_lt (by have : lim = 100000 := rfl; omega)
      · intro a o e
        rw [upd_ne (ne_of_none e hD), upd_ne (ne_of_none e q1)]
        exact gr3.h a o e
      · intro a o e
        rw [upd_ne (ne_of_none e gD3), upd_ne (ne_of_none e gq)]
        exact gr3.i a o e
      · rw [upd_same, List.map_append]
        rfl
      · have nd' := List.nodup_cons.mp nd
        refine List.nodup_cons.mpr ⟨fun z => ?_, List.nodup_append.mpr ⟨nd'.2, by simp, fun a ha b hb => ?_⟩⟩
        · rcases List.mem_append.mp z with z | z
          · exact nd'.1 z
          · exact qD (List.mem_singleton.mp z).symm
        · rw [List.mem_singleton.mp hb]
          exact (old a ha).1
      · intro q' hq'
        rcases List.mem_append.mp hq' with z | z
        · obtain ⟨a, b, c, d⟩ := old q' z
          exact ⟨b, c, by rw [upd_ne (nD q' z), upd_ne a]; exact d⟩
        · rw [List.mem_singleton.mp z]
          exact ⟨q1, gq, by rw [upd_ne qD, upd_same]⟩
  · have e : i = vs.length := by omega
    subst e
    refine .inl ⟨hstop H2 (i1.trans gr.h), ?_⟩
    refine h (σ.set 1 (some (.ref Dl))) G2 H2 ⟨?_, Dl, qs, ?_, ?_⟩
    · exact ((E1.grow gr).no (i := 1) (fun j hj => List.getElem?_set_ne (Ne.symm hj)) (List.length_set))
    · rw [List.getElem?_set_self (by rw [E.ln]; show 1 < 6; decide)]
    · have all0 : ∀ a, H1 a = none → H0 a = none := fun a ha => E1.gr.h.free ha
      refine ⟨all0 _ hD, gD, hDl, nd, by rw [hql, List.length_replicate, hlen], fun j q r e1 e2 => ?_⟩
      obtain ⟨a, b, c⟩ := hqs q (List.mem_of_getElem? e1)
      have er : r = [] := by
        have := List.mem_of_getElem? e2
        exact List.eq_of_mem_replicate this
      subst er
      exact ⟨all0 _ a, b, c⟩
/-! for one, other in web[1]: .. -/
def tS2 (W : Wd) : TS := fun D σ H => ∃ B G0 H0 G n l ls rows, RN W B G0 H0 G H σ (.tup [.int n, .lst l]) rows ∧ linesOf l = some ls ∧ ls.length ≤ 1000 ∧ (∀ p ∈ ls, (0 ≤ p.1 ∧ p.1 < rows.length) ∧ (0 ≤ p.2 ∧ p.2 < rows.length)) ∧ (∀ r ∈ rows, r = []) ∧
  ∀ σ' G' H', RN W B G0 H0 G' H' σ' (.tup [.int n, .lst l]) (addAll rows ls) → D.nx σ' H'
theorem lines_len : ∀ {l : List D} {ls : List (Int × Int)}, linesOf l = some ls → l.length = ls.length
  | [], ls, h => by
    cases h
    rfl
  | d :: r, ls, h => by
    unfold linesOf at h
    split at h
    · rename_i e
      cases e
    · rename_i a b r' e
      cases e
      rw [Option.map_eq_some_iff] at h
      obtain ⟨m, h1, h2⟩ := h
      subst h2
      rw [List.length_cons, List.length_cons, lines_len h1]
    · cases h
theorem lines_get : ∀ {l : List D} {ls : List (Int × Int)} {i : Nat} {d : D}, linesOf l = some ls → l[i]? = some d → ∃ a b, d = .tup [.int a, .int b] ∧ ls[i]? = some (a, b)
  | [], ls, i, d, h, e => by simp at e
  | x :: r, ls, i, d, h, e => by
    unfold linesOf at h
    split at h
    · rename_i q
      cases q
    · rename_i a b r' q
      cases q
      rw [Option.map_eq_some_iff] at h
      obtain ⟨m, h1, h2⟩ := h
      subst h2
      cases i with
      | zero =>
        cases e
        exact ⟨a, b, rfl, rfl⟩
      | succ i => exact lines_get (i := i) h1 (by simpa using e)
    · cases h
theorem addOne_row {rows : List (List Int)} {p : Int × Int} {k : Nat} (h : ∀ r ∈ rows, r.length ≤ k) : ∀ r ∈ addOne rows p, r.length ≤ k + 2 := by
  have one : ∀ (rows : List (List Int)) (i : Nat) (x : Int) (k : Nat), (∀ r ∈ rows, r.length ≤ k) → ∀ r ∈ appAt rows i x, r.length ≤ k + 1 := by
    intro rows
    induction rows with
    | nil =>
      intro i x k h r hr
      cases hr
    | cons r0 rs ih =>
      intro i x k h r hr
      cases i with
      | zero =>
        rw [appAt, List.mem_cons] at hr
        rcases hr with rfl | hr
        · have := h r0 List.mem_cons_self
          rw [List.length_append]
          show r0.length + 1 ≤ k + 1
          omega
        · have := h r (List.mem_cons_of_mem _ hr)
          omega
      | succ i =>
        rw [appAt, List.mem_cons] at hr
        rcases hr with rfl | hr
        · have := h r List.mem_cons_self
          omega
        · exact ih i x k (fun r hr => h r (List.mem_cons_of_mem _ hr)) r hr
  exact one _ _ _ _ (one _ _ _ _ h)
theorem atI_refs {qs : List Addr} {z : Int} {q : Addr} (h0 : 0 ≤ z) (h : qs[z.toNat]? = some q) : atI (qs.map V.ref) z = some (.ref q) := by
  have hl := (List.getElem?_eq_some_iff.mp h).1
  unfold atI ixN
  rw [List.length_map, if_pos h0, if_pos (by omega)]
  show (qs.map V.ref)[z.toNat]? = _
  rw [List.getElem?_map, h]
  rfl
def tSeqS (s t : TS) : TS := fun D σ H => s { D with nx := t D } σ H
theorem sem_s2 {K : PySem.W.Frag} {Dd : Ends} {σ : L2.St} {H : Hp} (h : tS2 W Dd σ H) :
    tFor (tI W wi (gIter (gBin ixD (gVar 0) (gC (.int 1))))) (tG K (.pr 2 3)) (tSeqS (tAdd 1 2 3) (tAdd 1 3 2)) Dd σ H := by
  obtain ⟨B, G0, H0, G, n, l, ls, rows, ⟨E, p, qs, es, R⟩, hl, hl2, hb, hr0, h⟩ := h
  refine ⟨B, G0, H0, G, _, E, ?_⟩
  have ei : gIter (gBin ixD (gVar 0) (gC (.int 1))) [.va (.tup [.int n, .lst l]), .no, .no, .no, .no, .no] = .ok l := rfl
  rw [ei]
  intro J G1 H1 g1 hy
  have E1 := E.grow g1
  have R1 := R.grow g1
  obtain ⟨vs, rv, hgo, hstop⟩ := hy
  have hlen := rv.length
  have hls := lines_len hl
  have hB : Same B G1 := E1.bs
  refine ⟨fun i m σ' H' => ∃ G' rows', RN W G1 G0 H0 G' H' σ' (.tup [.int n, .lst l]) rows' ∧ rows'.length = rows.length ∧ (∀ r ∈ rows', r.length ≤ 2 * i) ∧ addAll rows' (ls.drop i) = addAll rows ls ∧ i ≤ vs.length ∧ m = vs.length - i,
    ⟨vs.length, G1, rows, ⟨E1.base (.refl _), p, qs, es, R1⟩, rfl, fun r hr => by rw [hr0 r hr]; exact Nat.zero_le _, by rw [List.drop_zero], Nat.zero_le _, rfl⟩, ?_⟩
  rintro i m σ' H' ⟨G', rows', ⟨E', p', qs', es', R'⟩, hrl, hrow, hadd, hi, rfl⟩
  have sH : Same G1 H' := E'.bs.trans E'.i
  by_cases hlt : i < vs.length
  · refine .inr ?_
    have hx : i < ls.length := by omega
    obtain ⟨q1, q2⟩ := hgo i vs[i] H' sH (by simp [hlt])
    obtain ⟨dx, ed, rx⟩ := rv.get (i := i) (v := vs[i]) (by simp [hlt])
    obtain ⟨a, b, rfl, eab⟩ := lines_get hl ed
    have edrop : ls.drop i = (a, b) :: ls.drop (i + 1) := by
      rw [List.drop_eq_getElem_cons hx]
      congr 1
      rw [List.getElem?_eq_getElem hx] at eab
      exact Option.some.inj eab
    have hab := hb (a, b) (List.mem_of_getElem? eab)
    refine ⟨q1, fun σ2 H2 => ∃ G2 rows2, RN W G1 G0 H0 G2 H2 σ2 (.tup [.int n, .lst l]) rows2 ∧ rows2.length = rows.length ∧ (∀ r ∈ rows2, r.length ≤ 2 * (i + 1)) ∧ addAll rows2 (ls.drop (i + 1)) = addAll rows ls,
      fun σ2 H2 ⟨G2, rows2, z1, z2, z3, z4⟩ => ⟨vs.length - (i + 1), by omega, G2, rows2, z1, z2, z3, z4, hlt, rfl⟩, fun x H2 hyl => ?_⟩
    obtain ⟨e1, e2⟩ := q2 x H2 hyl
    subst e1
    subst e2
    refine tG_go (tg := .pr 2 3) E' (rx.mono E'.bs) rfl fun σ2 E2 hw => ?_
    have s1 : σ2[1]? = some (some (.ref p')) := by
      have hw1 := hw [2, 3] rfl
      have e1 : (wipe σ2 [2, 3])[1]? = σ2[1]? := by
        show ((σ2.set 3 none).set 2 none)[1]? = _
        rw [List.getElem?_set_ne (by decide), List.getElem?_set_ne (by decide)]
      have e2 : (wipe σ' [2, 3])[1]? = σ'[1]? := by
        show ((σ'.set 3 none).set 2 none)[1]? = _
        rw [List.getElem?_set_ne (by decide), List.getElem?_set_ne (by decide)]
      rw [← e1, hw1, e2]
      exact es'
    have E2' : EnvOk W G1 G0 H0 G' H2 σ2 [.va (.tup [.int n, .lst l]), .no, .va (.int a), .va (.int b), .no, .no] := E2
    have s2 : σ2[2]? = some (some (.int a)) := by
      obtain ⟨v, e, r⟩ := E2'.va (i := 2) rfl
      cases r
      exact e
    have s3 : σ2[3]? = some (some (.int b)) := by
      obtain ⟨v, e, r⟩ := E2'.va (i := 3) rfl
      cases r
      exact e
    have step : ∀ {H3 : Hp} {rw3 : List (List Int)} {z y : Int} {k : Nat}, EnvOk W G1 G0 H0 G' H3 σ2 [.va (.tup [.int n, .lst l]), .no, .va (.int a), .va (.int b), .no, .no] → Rws H0 G' H3 p' qs' rw3 → rw3.length = rows.length → (0 ≤ z ∧ z < rows.length) → (∀ r ∈ rw3, r.length ≤ k) → k ≤ 3000 →
        ∃ (q : Addr) (r : List Int), atI (qs'.map V.ref) z = some (.ref q) ∧ H3 q = some (.lst (r.map V.int)) ∧ (r.map V.int).length < sizeLine ∧
          EnvOk W G1 G0 H0 G' (upd H3 q (.lst (r.map V.int ++ [.int y]))) σ2 [.va (.tup [.int n, .lst l]), .no, .va (.int a), .va (.int b), .no, .no] ∧ Rws H0 G' (upd H3 q (.lst (r.map V.int ++ [.int y]))) p' qs' (appAt rw3 z.toNat y) := by
      intro H3 rw3 z y k E3 R3 hl3 hz hk hk2
      have hzr : z.toNat < rw3.length := by omega
      have hzq : z.toNat < qs'.length := by rw [R3.len]; exact hzr
      have g1 : qs'[z.toNat]? = some qs'[z.toNat] := List.getElem?_eq_getElem hzq
      have g2 : rw3[z.toNat]? = some rw3[z.toNat] := List.getElem?_eq_getElem hzr
      obtain ⟨c1, c2, c3⟩ := R3.row _ _ _ g1 g2
      have eapp : (rw3[z.toNat].map V.int ++ [V.int y]) = (rw3[z.toNat] ++ [y]).map V.int := by
        rw [List.map_append]
        rfl
      refine ⟨qs'[z.toNat], rw3[z.toNat], atI_refs hz.1 g1, c3, ?_, E3.chgH no_ow2 c1 c2, ?_⟩
      · rw [List.length_map]
        have := hk _ (List.mem_of_getElem? g2)
        exact lim_lt (by have : lim = 100000 := rfl; omega)
      · rw [eapp]
        exact R3.put g1 g2
    obtain ⟨q3, r3, a1, a2, a3, E3, R3⟩ := step (z := a) (y := b) (k := 2 * i) E2' R' hrl hab.1 hrow (by omega)
    refine ⟨p', qs'.map V.ref, a, q3, r3.map V.int, .int b, s1, s2, R'.pH, a1, a2, a3, s3, ?_⟩
    have hk1 : ∀ r ∈ appAt rows' a.toNat b, r.length ≤ 2 * i + 2 := by
      have one : ∀ (rows : List (List Int)) (i : Nat) (x : Int) (k : Nat), (∀ r ∈ rows, r.length ≤ k) → ∀ r ∈ appAt rows i x, r.length ≤ k + 2 := by
        intro rows
        induction rows with
        | nil =>
          intro i x k h r hr
          cases hr
        | cons r0 rs ih =>
          intro i x k h r hr
          cases i with
          | zero =>
            rw [appAt, List.mem_cons] at hr
            rcases hr with rfl | hr
            · have := h r0 List.mem_cons_self
              rw [List.length_append]
              show r0.length + 1 ≤ k + 2
              omega
            · have := h r (List.mem_cons_of_mem _ hr)
              omega
          | succ i =>
            rw [appAt, List.mem_cons] at hr
            rcases hr with rfl | hr
            · have := h r List.mem_cons_self
              omega
            · exact ih i x k (fun r hr => h r (List.mem_cons_of_mem _ hr)) r hr
      exact one _ _ _ _ hrow
    obtain ⟨q4, r4, b1, b2, b3, E4, R4⟩ := step (z := b) (y := a) (k := 2 * i + 2) E3 R3 (by rw [appAt_len]; exact hrl) hab.2 hk1 (by omega)
    refine ⟨p', qs'.map V.ref, b, q4, r4.map V.int, .int a, s1, s3, R3.pH, b1, b2, b3, s2, ?_⟩
    refine ⟨G', addOne rows' (a, b), ⟨E4.wipe [2, 3], p', qs', s1, R4⟩, by rw [addOne_len]; exact hrl, fun r hr => ?_, ?_⟩
    · have := addOne_row hrow r hr
      omega
    · rw [edrop] at hadd
      exact hadd
  · have e : i = vs.length := by omega
    subst e
    have ed : ls.drop vs.length = [] := List.drop_eq_nil_of_le (by omega)
    rw [ed] at hadd
    have hadd' : rows' = addAll rows ls := hadd
    rw [← hadd'] at h
    exact .inl ⟨hstop H' sH, h σ' G' H' ⟨E'.base (hB.trans E'.bs), p', qs', es', R'⟩⟩
/-! the three together -/
noncomputable def near3 : Rho → Oc := sRet (gLc (gIter (gVar 1)) (.nm 5) [5] gYes (gCall sortedD (gCons (gVar 5) gNil)))
theorem near3_eq {d : D} {rows : List (List Int)} (h : ∀ r ∈ rows, r.length ≤ lim) (hl : rows.length ≤ lim) :
    near3 [.va d, .va (.lst (rows.map fun r => D.lst (r.map D.int))), .no, .no, .no, .no] = .rt (.lst (rows.map fun r => D.lst ((sortI r).map D.int))) := by
  have e : lcGo (.nm 5) gYes (gCall sortedD (gCons (gVar 5) gNil)) [.va d, .va (.lst (rows.map fun r => D.lst (r.map D.int))), .no, .no, .no, .no] (rows.map fun r => D.lst (r.map D.int)) = .ok (rows.map fun r => D.lst ((sortI r).map D.int)) := by
    have := lc_nmAll (i := 5) (ge := gCall sortedD (gCons (gVar 5) gNil)) (ρ := [.va d, .va (.lst (rows.map fun r => D.lst (r.map D.int))), .no, .no, .no, .no]) (f := fun x => match sortedD [x] with | .ok y => y | _ => .non) (rows.map fun r => D.lst (r.map D.int)) (fun x hx => by
      obtain ⟨r, hr, rfl⟩ := List.mem_map.mp hx
      show sortedD [.lst (r.map D.int)] = _
      rw [sortedD_lst (h r hr)])
    rw [this, List.map_map]
    congr 1
    apply List.map_congr_left
    intro r hr
    show (match sortedD [.lst (r.map D.int)] with | .ok y => y | _ => .non) = _
    rw [sortedD_lst (h r hr)]
  have e2 : near3 [.va d, .va (.lst (rows.map fun r => D.lst (r.map D.int))), .no, .no, .no, .no] = rzS [.va d, .va (.lst (rows.map fun r => D.lst (r.map D.int))), .no, .no, .no, .no] (fun x => .rt x) (if (rows.map fun r => D.lst (r.map D.int)).length ≤ lim then (lcGo (.nm 5) gYes (gCall sortedD (gCons (gVar 5) gNil)) [.va d, .va (.lst (rows.map fun r => D.lst (r.map D.int))), .no, .no, .no, .no] (rows.map fun r => D.lst (r.map D.int))).bind fun l => .ok (.lst l) else .bad) := rfl
  rw [e2, if_pos (by rw [List.length_map]; exact hl), e]
  rfl
theorem near_rows {n : Nat} {ls : List (Int × Int)} (h : ∀ p ∈ ls, 0 ≤ p.1 ∧ 0 ≤ p.2) : addAll (List.replicate n []) ls = (List.range n).map fun (s : Nat) => nbrs (s : Int) ls := by
  apply List.ext_getElem?
  intro s
  rw [addAll_get ls _ s h, List.getElem?_map]
  by_cases hs : s < n
  · rw [List.getElem?_replicate, if_pos hs, List.getElem?_range hs]
    simp
  · rw [List.getElem?_replicate, if_neg hs, List.getElem?_eq_none (by rw [List.length_range]; omega)]
    rfl
theorem nbrs_len (s : Int) : ∀ ls : List (Int × Int), (nbrs s ls).length ≤ 2 * ls.length
  | [] => Nat.le_refl _
  | p :: ls => by
    have ih := nbrs_len s ls
    have en : nbrs s (p :: ls) = ((if p.1 = s then [p.2] else []) ++ (if p.2 = s then [p.1] else [])) ++ nbrs s ls := rfl
    rw [en, List.length_append, List.length_append, List.length_cons]
    have a : (if p.1 = s then [p.2] else []).length ≤ 1 := by split <;> simp
    have b : (if p.2 = s then [p.1] else []).length ≤ 1 := by split <;> simp
    omega
theorem sem_near {Dd : Ends} {σ : L2.St} {H : Hp} (h : sD W wi b_near Dd σ H) : tSeqS (tS1 W) (tSeqS (tS2 W) (sD W wi near3)) Dd σ H := by
  obtain ⟨B, G0, H0, G, ρ, E, h⟩ := h
  unfold b_near at h
  split at h
  case h_2 => exact h.elim
  rename_i d
  unfold near1 at h
  split at h
  case h_2 => exact h.elim
  rename_i n l
  split at h
  case h_2 => exact h.elim
  rename_i ls hl
  split at h
  case isFalse => exact h.elim
  rename_i hc
  obtain ⟨hn0, hn1, hls, hb⟩ := hc
  refine ⟨B, G0, H0, G, n, .lst l, E, ⟨hn0, hn1⟩, fun σ1 G1 H1 r1 => ?_⟩
  refine ⟨B, G0, H0, G1, n, l, ls, _, r1, hl, hls, fun p hp => ?_, (fun r hr => List.eq_of_mem_replicate hr), fun σ2 G2 H2 r2 => ?_⟩
  · rw [List.length_replicate]
    have := hb p hp
    omega
  · obtain ⟨E2, p, qs, es, R⟩ := r2
    obtain ⟨G3, E3⟩ := R.see E2 no_ow es
    have er := near_rows (n := n.toNat) (ls := ls) fun p hp => ⟨(hb p hp).1.1, (hb p hp).2.1⟩
    rw [er] at E3
    refine ⟨B, G0, H0, G3, _, E3, ?_⟩
    show SzD W wi B G0 H0 Dd (near3 [.va _, .va _, .no, .no, .no, .no])
    rw [near3_eq (fun r hr => ?_) ?_]
    · have e : (((List.range n.toNat).map fun (s : Nat) => nbrs (s : Int) ls).map fun r => D.lst ((sortI r).map D.int)) = (nearL n.toNat ls).map fun r => .lst (r.map D.int) := by
        unfold nearL
        rw [List.map_map, List.map_map]
        rfl
      rw [e]
      exact h
    · rw [List.length_map, List.length_range]
      have e : lim = 100000 := rfl
      omega
    · obtain ⟨s, _, rfl⟩ := List.mem_map.mp hr
      have := nbrs_len (s : Int) ls
      have e : lim = 100000 := rfl
      omega
theorem dss_near {X : Cx} {s1 s2 s3 : Stmt} (h1 : PS X s1 (tS1 W)) (h2 : PS X s2 (tS2 W)) (h3 : PS X s3 (sD W wi near3)) : PSs X [s1, s2, s3] (sD W wi b_near) :=
  PSs.imp (pss_cons h1 (pss_cons h2 (pss_one h3))) fun _ _ _ h => sem_near h
end FM
set_option Elab.async false
set_option linter.all false
set_option maxRecDepth 100000
set_option maxHeartbeats 4000000
/-! FM, part 15: a comprehension over an own list. -/
namespace FM
open PySem L2
variable {X : Cx} {W : Wd} {wi : WX} {pos : Pos}
def gLcO (i : Nat) (tg : Tg) (ow : List Nat) (c : Rho → Rz Bool) (ge : Rho → Rz D) : Rho → Rz D := fun ρ => match ρ[i]? with
  | some (.ow xs) => if xs.length ≤ lim then (lcGo tg c ge (wipeR ρ ow) xs).bind fun l => .ok (.lst l) else .bad
  | _ => .bad
theorem sem_lcO {i : Nat} {tg : Tg} {ow : List Nat} {cc : Rho → Rz Bool} {ge : Rho → Rz D} (ht : tg.all (fun i => ow.contains i) = true) {σ : L2.St} {H : Hp} {Q : VK} {K : PySem.W.Frag} (h : tD W wi (gLcO i tg ow cc ge) σ H Q) :
    tLc (iSeq K (tVar i)) (tG K tg) (tT W wF cc) (tD W wF ge) ow σ H Q := by
  obtain ⟨B, G0, H0, G, ρ, E, h⟩ := h
  unfold gLcO at h
  split at h
  · rename_i xs el
    obtain ⟨q, vs, es, h0, hg, hh, r⟩ := E.ow el
    refine ⟨.ref q, es, .inl ⟨q, rfl, ⟨vs, SqL.of hh⟩, ?_⟩⟩
    refine lc_run E ⟨vs, r, fun i x H' e ei => ⟨⟨vs, x, SqL.of (e _ _ hh), ei⟩, fun y H2 hy => ⟨hy.1, ?_⟩⟩, fun H' e => ⟨vs, SqL.of (e _ _ hh), Nat.le_refl _⟩⟩ ht h
    have z := hy.2 vs (SqL.of (e _ _ hh))
    rw [ei] at z
    exact (Option.some.inj z).symm
  · exact h.elim
theorem dx_lcO (i : Nat) {x : Str} {elt tg : Expr} {ifs : List Expr} {scope : Scope} {own : List (Str × Nat)} {p : Pos} {t : Tg} {cc : Rho → Rz Bool} {ge : Rho → Rz D} (hi : X.N[i]? = some x) (hv : Vis X.env.scope x) (ht : t.all (fun i => (own.map (·.2)).contains i) = true) (hc : X.calm = true) (hN : X.N.Nodup) (ok : BlkOk X.N X.env.scope scope own)
    (hg : ∀ (s : Shared) (H : Hp) (C : Addr) (cl : List (Str × Addr)) (fp : List Addr), PG (X.blk s H scope (compEnvC scope cl C X.env) fp) tg (tG X.K t))
    (hts : ∀ (s : Shared) (H : Hp) (C : Addr) (cl : List (Str × Addr)) (fp : List Addr), PTs (X.blk s H scope (compEnvC scope cl C X.env) fp) ifs (tT W wF cc))
    (he : ∀ (s : Shared) (H : Hp) (C : Addr) (cl : List (Str × Addr)) (fp : List Addr), PE (X.blk s H scope (compEnvC scope cl C X.env) fp) elt (tD W wF ge)) (hd : (x == ("__debug__" : Str)) = false := by decide)
    (hcd : (x == ("__classdict__" : Str)) = false := by decide) (hs : ∀ y, foldedSetIterable (.Name x p) X.env y = pure y := by intro _; rfl) :
    PE X (.ListComp elt [⟨tg, .Name x p, ifs, 0⟩] scope pos) (tD W wi (gLcO i t (own.map (·.2)) cc ge)) := PE.imp (pe_lc hc hN (pi_seq (pe_var hi hv hd hcd)) ok hg hts he hs) fun _ _ _ h => sem_lcO ht h
end FM
set_option Elab.async false
set_option linter.all false
set_option maxRecDepth 100000
set_option maxHeartbeats 4000000
/-! FM, part 14: what the end of a law wants: the defs and the classes as the top has made them, the law's own promise. -/
namespace FM
open PySem L2
section
variable {K : PySem.W.Frag} {mg : Str → Option Value} {h : Heap}
theorem defAt_of {x : Str} {st : Stmt} {f : Addr} {od an : Option Addr} {sl : Array (Option Value)} {oc kV dc pm cd ct : Value} (X : K.In h) (G : h.Ns mainGlobals mg) (a : PySem.W.nsIn K mainGlobals x = some (some (.ref f)))
    (l : K.lookup f = some ⟨oc, od, .func (PySem.W.fnOf x x (defArgs st) (defBody st) (defScope st) .none kV dc pm an cd ct), sl⟩) (c : PySem.W.codeIn K cd x = true) (k : PySem.W.keepIn K (.ref f) = true) : DefAt K mg x st :=
  ⟨f, _, fun_mk l c k, PySem.W.mg_of X G a⟩
theorem exTxt_of {C1 C2 C3 C4 C5 M : Addr} (X : K.In h) (G : h.Ns mainGlobals mg)
    (a1 : PySem.W.nsIn K mainGlobals "BadWeb" = some (some (.ref C1))) (a2 : PySem.W.nsIn K mainGlobals "BadSet" = some (some (.ref C2))) (a3 : PySem.W.nsIn K mainGlobals "BadSteps" = some (some (.ref C3))) (a4 : PySem.W.nsIn K mainGlobals "BadTree" = some (some (.ref C4))) (a5 : PySem.W.nsIn K mainGlobals "BadText" = some (some (.ref C5))) (a6 : PySem.W.nsIn K mainGlobals "MarkError" = some (some (.ref M)))
    (x : ∀ C, C = C1 ∨ C = C2 ∨ C = C3 ∨ C = C4 ∨ C = C5 → PySem.W.excIn K C [.type "ValueError", .type "Exception", .type "BaseException", .type "object"] "ValueError.__new__" = true ∧ PySem.W.keepIn K (.ref C) = true ∧ PySem.W.subIn K (.ref C) (.type "BaseException") = some true ∧ PySem.W.typeIn K (.ref C) = some (.type "type") ∧ PySem.W.isClsIn K C = true ∧
      (PySem.W.findIn K (.ref C) "__getattribute__" = some (some (.builtin "BaseException.__getattribute__")) ∧ PySem.W.findIn K (.ref C) "__getattr__" = some none ∧ PySem.W.hasDictIn K C = true ∧ PySem.W.findIn K (.ref C) "__class__" = some (some (.builtin "object.__class__")) ∧ PySem.W.mroIn K C (.type "object") = some true) ∧
      PySem.W.subIn K (.ref C) (.type "ValueError") = some true ∧ PySem.W.subIn K (.ref C) (.ref M) = some true ∧ PySem.W.subIn K (.ref C) (.ref C) = some true)
    (hn : PySem.W.specialIn K (.builtin "object.__class__") "__get__" = some (some (.builtin "getset_descriptor.__get__"))) (ht : PySem.W.takesIn K (.builtin "object.__class__") = some true)
    (m1 : PySem.W.subIn K (.ref M) (.type "BaseException") = some true) (m2 : PySem.W.typeIn K (.ref M) = some (.type "type")) (m3 : PySem.W.isClsIn K M = true)
    (s12 : PySem.W.subIn K (.ref C1) (.ref C2) = some false) (s13 : PySem.W.subIn K (.ref C1) (.ref C3) = some false) (s14 : PySem.W.subIn K (.ref C1) (.ref C4) = some false) (s15 : PySem.W.subIn K (.ref C1) (.ref C5) = some false)
    (s21 : PySem.W.subIn K (.ref C2) (.ref C1) = some false) (s23 : PySem.W.subIn K (.ref C2) (.ref C3) = some false) (s24 : PySem.W.subIn K (.ref C2) (.ref C4) = some false) (s25 : PySem.W.subIn K (.ref C2) (.ref C5) = some false)
    (s31 : PySem.W.subIn K (.ref C3) (.ref C1) = some false) (s32 : PySem.W.subIn K (.ref C3) (.ref C2) = some false) (s34 : PySem.W.subIn K (.ref C3) (.ref C4) = some false) (s35 : PySem.W.subIn K (.ref C3) (.ref C5) = some false)
    (s41 : PySem.W.subIn K (.ref C4) (.ref C1) = some false) (s42 : PySem.W.subIn K (.ref C4) (.ref C2) = some false) (s43 : PySem.W.subIn K (.ref C4) (.ref C3) = some false) (s45 : PySem.W.subIn K (.ref C4) (.ref C5) = some false)
    (s51 : PySem.W.subIn K (.ref C5) (.ref C1) = some false) (s52 : PySem.W.subIn K (.ref C5) (.ref C2) = some false) (s53 : PySem.W.subIn K (.ref C5) (.ref C3) = some false) (s54 : PySem.W.subIn K (.ref C5) (.ref C4) = some false) :
    ExTxt K mg (fun | .web => C1 | .set => C2 | .steps => C3 | .tree => C4 | .text => C5) M := by
  have all : ∀ c : Ec, (match c with | .web => C1 | .set => C2 | .steps => C3 | .tree => C4 | .text => C5) = C1 ∨ (match c with | .web => C1 | .set => C2 | .steps => C3 | .tree => C4 | .text => C5) = C2 ∨ (match c with | .web => C1 | .set => C2 | .steps => C3 | .tree => C4 | .text => C5) = C3 ∨ (match c with | .web => C1 | .set => C2 | .steps => C3 | .tree => C4 | .text => C5) = C4 ∨ (match c with | .web => C1 | .set => C2 | .steps => C3 | .tree => C4 | .text => C5) = C5 := by
    intro c
    cases c <;> simp
  have kit : ∀ {a b : Addr} {r : Bool}, PySem.W.typeIn K (.ref b) = some (.type "type") → PySem.W.isClsIn K b = true → PySem.W.subIn K (.ref a) (.ref b) = some r → (a = b → r = true) → PySem.W.kitOne K (.ref a) (.ref b) = some r := fun {a b r} t i s e => by
    unfold PySem.W.kitOne
    by_cases hab : a = b
    · subst hab
      rw [e rfl, if_pos (by simp)]
    · have hb : ((Value.ref a == Value.ref b) = true) = False := by
        simp [hab]
      rw [if_neg (by rw [hb]; exact id)]
      have i' : (PySem.W.clsIn K b).isSome = true := i
      show (if ((PySem.W.clsIn K b).isSome && PySem.W.typeIn K (.ref b) == some (.type "type")) = true then PySem.W.subIn K (.ref a) (.ref b) else none) = some r
      rw [if_pos (by rw [i', t]; rfl), s]
  have exm : ∀ {a b : Addr}, PySem.W.subIn K (.ref b) (.type "BaseException") = some true → PySem.W.typeIn K (.ref b) = some (.type "type") → PySem.W.isClsIn K b = true → PySem.W.subIn K (.ref a) (.ref b) = some true → PySem.W.exmOne K (.ref a) (.ref b) = some true := fun {a b} q t i s => by
    have e1 : (PySem.W.subIn K (.ref b) (.type "BaseException") == some true) = true := by rw [q]; rfl
    have i' : (PySem.W.clsIn K b).isSome = true := i
    have e2 : ((PySem.W.clsIn K b).isSome && PySem.W.typeIn K (.ref b) == some (.type "type")) = true := by rw [i', t]; rfl
    show (if (PySem.W.subIn K (.ref b) (.type "BaseException") == some true) = true then (if ((PySem.W.clsIn K b).isSome && PySem.W.typeIn K (.ref b) == some (.type "type")) = true then PySem.W.subIn K (.ref a) (.ref b) else none) else none) = some true
    rw [if_pos e1, if_pos e2, s]
  have o1 := x C1 (.inl rfl)
  have o2 := x C2 (.inr (.inl rfl))
  have o3 := x C3 (.inr (.inr (.inl rfl)))
  have o4 := x C4 (.inr (.inr (.inr (.inl rfl))))
  have o5 := x C5 (.inr (.inr (.inr (.inr rfl))))
  have ne : ∀ {a b : Addr}, PySem.W.subIn K (.ref a) (.ref a) = some true → PySem.W.subIn K (.ref a) (.ref b) = some false → a = b → (false : Bool) = true := fun {a b} q s e => by
    subst e
    rw [q] at s
    exact (Bool.noConfusion (Option.some.inj s))
  exact {
    mgE := fun c => by
      cases c
      · exact PySem.W.mg_of X G a1
      · exact PySem.W.mg_of X G a2
      · exact PySem.W.mg_of X G a3
      · exact PySem.W.mg_of X G a4
      · exact PySem.W.mg_of X G a5
    xE := fun c => (x _ (all c)).1
    kE := fun c => (x _ (all c)).2.1
    sE := fun c => (x _ (all c)).2.2.1
    tE := fun c => (x _ (all c)).2.2.2.1
    exc := {
      ec := fun c => by
        have o := x _ (all c)
        exact ⟨o.2.2.2.2.2.1.1, o.2.2.2.2.2.1.2.1, o.2.2.1, o.2.2.2.2.2.1.2.2.1, o.2.2.2.2.2.1.2.2.2.1, hn, ht, o.2.2.2.2.2.1.2.2.2.2⟩
      own := fun e e' => by
        cases e <;> cases e'
        · exact kit o1.2.2.2.1 o1.2.2.2.2.1 o1.2.2.2.2.2.2.2.2 (fun _ => rfl)
        · exact kit o2.2.2.2.1 o2.2.2.2.2.1 s12 (ne o1.2.2.2.2.2.2.2.2 s12)
        · exact kit o3.2.2.2.1 o3.2.2.2.2.1 s13 (ne o1.2.2.2.2.2.2.2.2 s13)
        · exact kit o4.2.2.2.1 o4.2.2.2.2.1 s14 (ne o1.2.2.2.2.2.2.2.2 s14)
        · exact kit o5.2.2.2.1 o5.2.2.2.2.1 s15 (ne o1.2.2.2.2.2.2.2.2 s15)
        · exact kit o1.2.2.2.1 o1.2.2.2.2.1 s21 (ne o2.2.2.2.2.2.2.2.2 s21)
        · exact kit o2.2.2.2.1 o2.2.2.2.2.1 o2.2.2.2.2.2.2.2.2 (fun _ => rfl)
        · exact kit o3.2.2.2.1 o3.2.2.2.2.1 s23 (ne o2.2.2.2.2.2.2.2.2 s23)
        · exact kit o4.2.2.2.1 o4.2.2.2.2.1 s24 (ne o2.2.2.2.2.2.2.2.2 s24)
        · exact kit o5.2.2.2.1 o5.2.2.2.2.1 s25 (ne o2.2.2.2.2.2.2.2.2 s25)
        · exact kit o1.2.2.2.1 o1.2.2.2.2.1 s31 (ne o3.2.2.2.2.2.2.2.2 s31)
        · exact kit o2.2.2.2.1 o2.2.2.2.2.1 s32 (ne o3.2.2.2.2.2.2.2.2 s32)
        · exact kit o3.2.2.2.1 o3.2.2.2.2.1 o3.2.2.2.2.2.2.2.2 (fun _ => rfl)
        · exact kit o4.2.2.2.1 o4.2.2.2.2.1 s34 (ne o3.2.2.2.2.2.2.2.2 s34)
        · exact kit o5.2.2.2.1 o5.2.2.2.2.1 s35 (ne o3.2.2.2.2.2.2.2.2 s35)
        · exact kit o1.2.2.2.1 o1.2.2.2.2.1 s41 (ne o4.2.2.2.2.2.2.2.2 s41)
        · exact kit o2.2.2.2.1 o2.2.2.2.2.1 s42 (ne o4.2.2.2.2.2.2.2.2 s42)
        · exact kit o3.2.2.2.1 o3.2.2.2.2.1 s43 (ne o4.2.2.2.2.2.2.2.2 s43)
        · exact kit o4.2.2.2.1 o4.2.2.2.2.1 o4.2.2.2.2.2.2.2.2 (fun _ => rfl)
        · exact kit o5.2.2.2.1 o5.2.2.2.2.1 s45 (ne o4.2.2.2.2.2.2.2.2 s45)
        · exact kit o1.2.2.2.1 o1.2.2.2.2.1 s51 (ne o5.2.2.2.2.2.2.2.2 s51)
        · exact kit o2.2.2.2.1 o2.2.2.2.2.1 s52 (ne o5.2.2.2.2.2.2.2.2 s52)
        · exact kit o3.2.2.2.1 o3.2.2.2.2.1 s53 (ne o5.2.2.2.2.2.2.2.2 s53)
        · exact kit o4.2.2.2.1 o4.2.2.2.2.1 s54 (ne o5.2.2.2.2.2.2.2.2 s54)
        · exact kit o5.2.2.2.1 o5.2.2.2.2.1 o5.2.2.2.2.2.2.2.2 (fun _ => rfl)
      val := fun c => by
        have o := (x _ (all c)).2.2.2.2.2.2.1
        have e1 : PySem.W.kitMeta "ValueError" = true := by decide +kernel
        unfold PySem.W.kitOne
        rw [if_neg (by simp)]
        unfold PySem.W.kitCls
        dsimp only
        rw [if_pos e1]
        exact o }
    nmMark := PySem.W.mg_of X G a6
    cat := fun c => exm m1 m2 m3 (x _ (all c)).2.2.2.2.2.2.2.1
    catOne := fun e c z => by
      subst z
      have o := x _ (all e)
      exact exm o.2.2.1 o.2.2.2.1 o.2.2.2.2.1 o.2.2.2.2.2.2.2.2 }
end
/-- as has_of, for the law itself -/
theorem ok_of {P : Program} {w : World} {K : PySem.W.Frag} {mg : Str → Option Value} {base : Heap} {W : Wd} {x : Str} {st : Stmt} {f : Addr} {fd : FuncData} {N ps : List Str} {k n : Nat} {s : Rho → Oc} (F : Fun K x x st f fd) (S : FnScope N ps (defScope st)) (hn : ps.length = n) (hN : n ≤ N.length)
    (hb : ∀ (f : Addr) (cdv : Value) (A : Around) (outer : List Env) (s0 : Shared) (H : Hp) (E : XK), Room k (A.deeper (PyProof.Rows.envOfC x (defScope st) s0.heap.objs.size f cdv)) → Takes (cxOf (L2.CX P w) P w K mg base N x (defScope st) f cdv A outer s0 H E) (wE E) →
      PassesOwn (model P w) (A.deeper (PyProof.Rows.envOfC x (defScope st) s0.heap.objs.size f cdv)) (PyProof.Rows.envOfC x (defScope st) s0.heap.objs.size f cdv) (cxOf (L2.CX P w) P w K mg base N x (defScope st) f cdv A outer s0 H E).xe →
      PSs (cxOf (L2.CX P w) P w K mg base N x (defScope st) f cdv A outer s0 H E) (defBody st) (sD W (wE E) s)) : FnOk P w K mg base (L2.CX P w) (k + 1) f fd ps (spD W n (fnD n N.length s)) :=
  fn_ok F S hn hN fun cdv A outer s0 H E hr => hb f cdv A outer s0 H E hr (takes_of rfl rfl rfl rfl) (passes_of (X := cxOf (L2.CX P w) P w K mg base N x (defScope st) f cdv A outer s0 H E) rfl)
/-- a law's own promise: of a script of at most 63 ints it comes to True -/
def spLaw (K : PySem.W.Frag) : Sp := fun vs H Q _ => ∃ (a : Addr) (ns : List Int), vs = [.ref a] ∧ SqL K H a (ns.map V.int) ∧ ns.length ≤ 63 ∧ ∀ H', Q (.bl true) H'
theorem law_fn {P : Program} {w : World} {K : PySem.W.Frag} {mg : Str → Option Value} {base : Heap} {ca : Ec → Addr} {k : Nat} {f : Addr} {fd : FuncData} {ps : List Str} {ff : List D → Rz D} (F : FnOk P w K mg base (L2.CX P w) k f fd ps (spD ⟨K, w, ca⟩ 1 ff)) (h : ∀ ns : List Int, ns.length ≤ 63 → ff [.scr ns] = .ok (.bl true)) :
    FnOk P w K mg base (L2.CX P w) k f fd ps (spLaw K) := F.imp fun vs H Q E hq => by
  obtain ⟨a, ns, rfl, hs, hl, q⟩ := hq
  refine ⟨H, [.scr ns], .refl _, .cons (.scr hs) .nil, rfl, ?_⟩
  rw [h ns hl]
  intro v G' H' _ r
  cases r
  exact q H'
theorem law_binds {K : PySem.W.Frag} {st : Stmt} {f : Addr} {fd : FuncData} {x : Str} (F : Fun K "law" "law" st f fd)
    (h : ∀ (kV doc pm : Value) (an : Option Addr) (cdv ct u : Value), bindArgs (PySem.W.fnOf "law" "law" (defArgs st) (defBody st) (defScope st) .none kV doc pm an cdv ct) ⟨[u], []⟩ = pure [(x, u)]) (s : Shared) (u : Value) : BindsTo s fd ⟨[u], []⟩ [(x, u)] := by
  obtain ⟨oc, od, kV, doc, pm, an, cdv, ct, osl, rfl, _, _⟩ := F.ex
  exact .of_eq (h kV doc pm an cdv ct u)
theorem cx_false {P : Program} {w : World} (H : Hp) (s : Shared) (e : Value) (s' : Shared) (h : L2.CX P w [] H s (fun _ _ _ => False) e s') : False := by
  obtain ⟨_, _, _, _, _, _, _, _, _, _, _, _, z⟩ := h
  exact z
theorem walkF {l : PySem.W.OpenLaw} {k : Nat} {q : Program} {loose : List Str} {XP : (Str → Option Value) → Heap → Prop} {YP : World → Heap → Prop} {d : DefRec} {K : Params → PySem.W.Frag} (hn : l.most = some 63) (hdf : d.params.defaults = []) (hr : Room k callerA)
    (hY : ∀ (w : World) (h : Heap), YP w h → (K w.params).In h)
    (F : ∀ (w : World) (mg : Str → Option Value) (fa : Addr) (h : Heap), (K w.params).In h → h.Ns mainGlobals mg → mg d.name = some (.ref fa) →
      ∃ fd : FuncData, (∀ (s : Shared) (u : Value), BindsTo s fd ⟨[u], []⟩ [("_law_script", u)]) ∧ ∀ base : Heap, (K w.params).In base → base.Ns mainGlobals mg → FnOk l.prog w (K w.params) mg base (L2.CX l.prog w) k fa fd ["_law_script"] (spLaw (K w.params))) :
    PySem.W.WalkO q loose XP YP l.row.toRowW d [] (fun f vs => PySem.call f vs) :=
  L2.walk_of (K := K) (n := 63) (CX := fun w => L2.CX l.prog w) (sp := fun w => spLaw (K w.params)) hn (by decide) hdf hr hY F (fun w H a ns hl _ hS => ⟨a, ns, rfl, hS, hl, fun _ => rfl⟩) fun w H s e s' h => cx_false H s e s' h
end FM
set_option Elab.async false
set_option linter.all false
set_option maxRecDepth 100000
set_option maxHeartbeats 4000000
/-! FM, part 16: t[::-1] of a tuple. -/
namespace HT
open PySem PySem.Calls PySem.Spec PyProof.Rows
section
variable {prog : Program} {w : World} {A : Around} {E : Value → Shared → Prop} {s : Shared}
theorem fm_back (xs : Array Value) : ((List.range xs.size).filterMap fun (m : Nat) => xs[((xs.size : Int) - 1 + (m : Int) * (-1)).toNat]?) = xs.toList.reverse := by
  apply List.ext_getElem?
  intro i
  have e1 : ((List.range xs.size).filterMap fun (m : Nat) => xs[((xs.size : Int) - 1 + (m : Int) * (-1)).toNat]?) = (List.range xs.size).map fun (m : Nat) => xs.toList.reverse.getD m .none := by
    rw [← List.filterMap_eq_map]
    have : ∀ l : List Nat, (∀ m ∈ l, m < xs.size) → l.filterMap (fun (m : Nat) => xs[((xs.size : Int) - 1 + (m : Int) * (-1)).toNat]?) = l.filterMap (some ∘ fun (m : Nat) => xs.toList.reverse.getD m .none) := by
      intro l
      induction l with
      | nil =>
        intro _
        rfl
      | cons m l ih =>
        intro hl
        have hm := hl m List.mem_cons_self
        have e2 : ((xs.size : Int) - 1 + (m : Int) * (-1)).toNat = xs.size - 1 - m := by omega
        have h3 : xs.size - 1 - m < xs.size := by omega
        have e3 : xs[((xs.size : Int) - 1 + (m : Int) * (-1)).toNat]? = some (xs.toList.reverse.getD m .none) := by
          rw [e2, List.getD_eq_getElem?_getD, List.getElem?_reverse (by rw [Array.length_toList]; exact hm), Array.length_toList, Array.getElem?_toList, Array.getElem?_eq_getElem h3]
          rfl
        rw [List.filterMap_cons, List.filterMap_cons, e3, ih fun k hk => hl k (List.mem_cons_of_mem _ hk)]
        rfl
    exact this _ fun m hm => List.mem_range.mp hm
  rw [e1, List.getElem?_map]
  by_cases hi : i < xs.size
  · rw [List.getElem?_range hi]
    show some (xs.toList.reverse.getD i .none) = _
    have : i < xs.toList.reverse.length := by rw [List.length_reverse, Array.length_toList]; exact hi
    rw [List.getD_eq_getElem?_getD, List.getElem?_eq_getElem this]
    rfl
  · rw [List.getElem?_eq_none (by rw [List.length_range]; omega), List.getElem?_eq_none (by rw [List.length_reverse, Array.length_toList]; omega)]
    rfl
theorem fm_revTup {t sl : Addr} {items : Array Value} {tk : Tok} {Q : Value → Shared → Prop} (ht : IsTup s.heap t items) (hs : s.heap.IsSliceOf sl .none .none (.int (-1) tk))
    (h : Q (.ref s.heap.objs.size) { s with heap := s.heap.push { cls := .type "tuple", data := .seq items.toList.reverse.toArray } }) (hsz : items.size ≤ sizeLine) : wpAny (model prog w) A (getItem (.ref t) (.ref sl)) Q E s := by
  have hsize : sizeOk (.seq items.toList.reverse.toArray) := by show items.toList.reverse.toArray.size ≤ sizeLine; rw [List.size_toArray, List.length_reverse, Array.length_toList]; exact hsz
  obtain ⟨os, hos, hcs, hds⟩ := id hs
  have isS : s.TypeIs (.ref sl) "slice" := ⟨os, hos, hcs⟩
  have applied : ∀ {A' : Around} {R : Int × Int × Nat → Shared → Prop}, R ((items.size : Int) - 1, -1, items.size) s → wpAny (model prog w) A' (Builtin.Slice.sliceApplied (.ref sl) (pure (items.size : Int))) R E s := by
    intro A' R hR
    unfold Builtin.Slice.sliceApplied Builtin.Slice.sliceFields
    refine wpAny_bind (wpAny_bind (wpAny_field hos hds (x := .none) rfl (wpAny_bind (wpAny_field hos hds (x := .none) rfl (wpAny_bind (wpAny_field hos hds (x := .int (-1) tk) rfl (wpAny_pure ?_)))))))
    refine wpAny_bind (slicePart_int ?_); show wpAny _ _ (if ((-1 : Int) == 0) = true then _ else _) _ _ s; rw [if_neg (by decide)]
    refine wpAny_bind (slicePart_none (wpAny_bind (slicePart_none (wpAny_bind (wpAny_pure ?_)))))
    have e1 : Builtin.Slice.sliceAdjust none none (-1) (items.size : Int) = ((items.size : Int) - 1, -1) := rfl
    have e2 : Builtin.Slice.slicePlaces ((items.size : Int) - 1) (-1) (-1) = items.size := by
      show (if (items.size : Int) - 1 > -1 then ((items.size : Int) - 1 - (-1) - 1) / 1 + 1 else 0).toNat = items.size
      rw [Int.ediv_one]
      split <;> omega
    show wpAny _ _ (match Builtin.Slice.sliceAdjust none none (-1) (items.size : Int) with | (lo, hi) => pure (lo, (-1 : Int), Builtin.Slice.slicePlaces lo hi (-1))) _ _ s
    rw [e1]; show wpAny _ _ (pure ((items.size : Int) - 1, (-1 : Int), Builtin.Slice.slicePlaces ((items.size : Int) - 1) (-1) (-1))) _ _ s; rw [e2]
    exact wpAny_pure hR
  unfold getItem
  try with_reducible refine wpAny_holding ?_; first | refine wpAny_bind (wpAny_pure ?_) | skip
  refine wpAny_bind (wpAny_sequenceKey ht.typeIs (by decide) (wpAny_bind (wpAny_callSpecial?_slot (name := Str.ofString "__getitem__") ht.typeIs PyProof.Rows.slot_tuple_getitem (wpAny_call_entry PyProof.Rows.slot_tuple_getitem ht.typeIs entry_tuple_getitem ?_ (args_tuple_getitem _ _)))))
  show wpAny _ _ (Builtin.Tuple.tupleItemsOf (.ref t) >>= _) _ _ s
  refine wpAny_bind (tupleItemsOf_ ht (wpAny_bind (wpAny_typeOf isS ?_))); rw [if_pos (by decide)]; refine wpAny_bind (applied ?_)
  have hno : ¬ (((((items.size : Int) - 1) == 0) && ((-1 : Int) == 1) && (items.size == items.size)) = true) := by intro q; rw [Bool.and_eq_true, Bool.and_eq_true] at q; exact absurd q.1.2 (by decide)
  show wpAny _ _ (if ((((items.size : Int) - 1) == 0) && ((-1 : Int) == 1) && (items.size == items.size)) = true then _ else _) _ _ s
  rw [if_neg hno, fm_back]
  first | exact wpAny_bind (m := Builtin.Tuple.tupleExact _) (wpAny_newObj_type (wpAny_pure ⟨_, rfl, wpAny_pure h⟩) hsize) | exact wpAny_bind (m := Builtin.Tuple.tupleExact _) (wpAny_newObj_type (wpAny_bind (wpAny_pure (wpAny_pure ⟨_, rfl, wpAny_pure h⟩))) hsize) | exact wpAny_bind (wpAny_bind (m := Builtin.Tuple.tupleExact _) (wpAny_newObj_type (wpAny_pure (wpAny_pure ⟨_, rfl, wpAny_pure h⟩)) hsize)) | exact wpAny_bind (wpAny_bind (m := Builtin.Tuple.tupleExact _) (wpAny_newObj_type (wpAny_pure ⟨_, rfl, wpAny_pure h⟩) hsize))
end
end HT
namespace FM
open PySem PySem.Spec PyProof.Rows L2
variable {X : Cx} {W : Wd} {wi : WX} {pos : Pos}
def tRevT (K : PySem.W.Frag) (te : TE) : TE := fun σ H Q => te σ H fun x H1 => ∃ p vs, x = .ref p ∧ SqT K H1 p vs ∧ ∀ q, H1 q = none → Q (.ref q) (upd H1 q (.tup vs.reverse))
theorem pe_revT {e : Expr} {te : TE} {k : Nat} {p1 p2 p3 : Pos} (he : PE X e te) : PE X (.Subscript e (.Slice none none (some (.UnaryOp .USub (.Constant (.int 1) k p1) p2)) p3) pos) (tRevT X.K te) := ⟨fun pins s σ H Q I hw => by
  refine Subscript_ (thn (he.run pins s σ H _ I hw) fun v s1 ⟨x, H1, I1, r1, p, vs, ex, hx, q⟩ => ?_)
  subst ex; cases r1
  have step : PO X (some (.UnaryOp .USub (.Constant (.int 1) k p1) p2)) (tPart (tUn (rU fun i => .int (-i)) (tC (.int 1)))) := po_some (pe_un un_neg pe_int)
  refine wpAny_Slice (thn (po_none.run pins s1 σ H1 (fun o H2 => o = none ∧ H2 = H1) I1 ⟨rfl, rfl⟩) fun vl s2 ⟨l, H2, I2, pl, el, e2⟩ => ?_); subst el e2
  refine thn (po_none.run pins s2 σ H2 (fun o H3 => o = none ∧ H3 = H2) I2 ⟨rfl, rfl⟩) fun vu s3 ⟨u, H3, I3, pu, eu, e3⟩ => ?_; subst eu e3
  refine thn (step.run pins s3 σ H3 (fun o H4 => o = some (-1) ∧ H4 = H3) I3 ⟨1, rfl, -1, rfl, rfl, rfl⟩) fun vt s4 ⟨o, H4, I4, pt, eo, e4⟩ => ?_; subst eo e4
  cases pl; cases pu; cases pt with
  | int _ tk =>
    have J : Inv X pins σ H4 { s4 with heap := s4.heap.push { cls := .type "slice", data := .fields #[.none, .none, .int (-1) tk] } } := I4.kept (t' := s4.toks) fun b ob z => Heap.get?_push_of_some _ z
    obtain ⟨its, rv, ht, hz⟩ := J.tuple hx
    have len := rv.length
    show wpAny (model X.prog X.w) X.A (subscriptTail e (.Slice none none (some (.UnaryOp .USub (.Constant (.int 1) k p1) p2)) p3) (.ref p) (.ref s4.heap.objs.size)) (EP X pins σ Q) X.xe { s4 with heap := s4.heap.push { cls := .type "slice", data := .fields #[.none, .none, .int (-1) tk] } }
    have ht' : PySem.Heap.IsTuple _ p its.toArray := ht
    refine tail_any (ops := [.ref p, .ref s4.heap.objs.size]) ht'.typeIs (PyProof.Rows.slot_tuple_getitem.lookup) (HT.fm_revTup ht (Heap.IsSliceOf.new _ .none .none (.int (-1) tk)) ?_ (by rw [List.size_toArray]; omega)) (by with_unfolding_all rfl)
    refine ⟨.ref _, _, J.laid (t' := s4.toks) (o := .tup vs.reverse) (fun b ob z => Heap.get?_push_of_some _ z) (Nat.le_refl _) ?_, rfl, q _ (J.hok.fresh (Nat.le_refl _))⟩
    exact ⟨by rw [List.length_reverse]; exact hz, _, rv.reverse, by rw [List.toList_toArray]; exact IsTup.new _ _⟩⟩
def gRevT (ga : Rho → Rz D) : Rho → Rz D := fun ρ => (ga ρ).bind fun x => match x with
  | .tup l => .ok (.tup l.reverse)
  | _ => .bad
theorem dx_revT {a : Expr} {ga : Rho → Rz D} {k : Nat} {p1 p2 p3 : Pos} (ha : PE X a (tD W wi ga)) : PE X (.Subscript a (.Slice none none (some (.UnaryOp .USub (.Constant (.int 1) k p1) p2)) p3) pos) (tD W wi (gRevT ga)) := PE.imp (pe_revT ha) fun σ H Q h => by
  obtain ⟨B, G0, H0, G, ρ, E, h⟩ := h
  refine tX_go E h fun x v G1 H1 _ g1 r1 E1 h1 => ?_
  cases x with
  | tup l =>
    cases r1 with
    | @tup p vs _ hp rp => exact ⟨p, vs, rfl, SqT.of (E1.i _ _ hp), fun q hq => h1.newT E1.i rp.rev hq⟩
  | _ => exact h1.elim
end FM
set_option Elab.async false
set_option linter.all false
set_option maxRecDepth 100000
set_option maxHeartbeats 4000000
/-! FM, part 19: a comprehension whose element may raise. -/
namespace FM
open PySem PySem.Spec PyProof.Rows L2
/-- the wish about exceptions is no part of what holds -/
theorem inv_xe {X : Cx} {pins : List (Addr × Obj)} {σ : L2.St} {H : Hp} {s : Shared} (f : Value → Shared → Prop) (I : Inv X pins σ H s) : Inv { X with xe := f } pins σ H s :=
  ⟨⟨I.ok.mod, I.ok.kind, I.ok.glob, I.ok.blt, I.ok.above, I.ok.inj, I.ok.has, I.ok.cab, I.ok.hd, I.ok.frames, I.ok.stk, I.ok.exf, I.ok.bs, I.ok.bsz, I.ok.noex, I.ok.exfs, I.ok.funs, I.ok.frf⟩,
    I.os, I.bare, I.base, I.loc, I.cell, I.free, I.freeC, I.pin, I.hok, I.len⟩
/-- what a callee lets out is taken -/
def PassB (X : Cx) (wi : WX) : Prop := ∀ σ, PassesAt (L2.CX X.prog X.w) X σ (WE wi σ)
/-- the context of a block whose element may raise -/
abbrev blkX (X : Cx) (s : Shared) (H : Hp) (scope : Scope) (ce : Env) (fp : List Addr) (f : Value → Shared → Prop) : Cx := { X.blk s H scope ce fp with xe := f }
section
variable {X : Cx} {E : XK}
/-- an exception out of a call in the block: the block is let go, the def's own frame holds it -/
theorem lcx_pass (tk : Takes X (wE E)) (hs0 : X.stack = X.env :: X.outer) (hf0 : X.env.frame = some X.env.locals) {pins : List (Addr × Obj)} {σ : L2.St} {H3 : Hp} {s3 : Shared} (I3 : Inv X pins σ H3 s3)
    {scope : Scope} {ce : Env} {fp : List Addr} (hce : ce.locals = s3.heap.objs.size) (hcf : ce.frame = X.env.frame) (f3 : ∀ b ∈ fp, FpOk X pins H3 b) {use : Option (Value → Sem Unit)} {Qf : Value → Shared → Prop} {acc : Value} :
    PassB (blkX X s3 H3 scope ce fp (notedBy (model X.prog X.w) X.A ce fun e s' => compEnds (model X.prog X.w) X.A X.xe use Qf acc ce (.error e) s')) (wE E) := by
  intro σb pinsb Hb sb e s' I c
  obtain ⟨a, B, sI, pins1, σ1, H1, cls, d, rfl, I1, nb, up, sky, na, os, ag, w⟩ := XE.of_call (W := wE E) I (fun _ _ _ h => h) c
  have fl : HandSPX.FlyingZ B X.stack a (Zc cls d) s'.heap := by
    obtain ⟨a0, B0, H0, cls0, d0, e0, fl0, _⟩ := c
    cases e0
    obtain ⟨_, _, _, oe, vs, T, oT, ts, he, hz, hd, h1, hnT, hTe, hT, hdT, h3⟩ := fl0
    rcases sky with ⟨_, _, _, oe', vs', he', _, hd', h1'⟩ | f | ⟨_, _, _, oe', vs', T', oT', ts', he', _, hd', h1', _, _, hT', hdT', h3'⟩
    · rw [he] at he'
      cases he'
      rw [hd] at hd'
      cases hd'
      rw [h1] at h1'
      cases h1'
    · exact f
    · rw [he] at he'
      cases he'
      rw [hd] at hd'
      cases hd'
      rw [h1] at h1'
      cases h1'
      rw [hT] at hT'
      cases hT'
      rw [hdT] at hdT'
      cases hdT'
      rw [h3] at h3'
      cases h3'
  obtain ⟨m, hn, _⟩ := I1.loc
  have hnC : sI.heap.Ns ce.locals m := hn
  have en : noteFrame (.ref a) ce = noteFrame (.ref a) X.env := by
    unfold noteFrame PySem.frameOf
    rw [hcf]
  show wpAny (model X.prog X.w) X.A (noteFrame (.ref a) ce) _ _ s'
  rw [en]
  refine HandSPX.looks_onZ (base := B) (outer := X.outer) Zc.steady (by rw [I3.ok.frames, hs0]) hf0 (by rw [← hs0]; exact fl) fun h1 hh1 up1 => ?_
  have goal : CompFails (model X.prog X.w) X.A X.xe ce (.ref a) { s' with heap := h1 } := by
    refine ⟨m, (up.trans up1).ns hnC, fun h2 m2 hn2 hs2 => ?_⟩
    obtain ⟨st1, b01, ff1, oe, vs, T, oT, ts, he, hz, hd, hv1, hnT, hTe, hT, hdT, hv3⟩ := hh1
    have dC : ∀ (b : Addr) (o : Obj) (xs : Array Value), h1.get? b = some o → o.data = .fields xs → b ≠ ce.locals := fun b o xs hb hx z => by
      obtain ⟨oC, es, ep, hoC, hdC, _⟩ := (up.trans up1).ns hnC
      rw [z, hoC] at hb
      cases hb
      rw [hdC] at hx
      cases hx
    have keep : ∀ b, b ≠ ce.locals → h2.get? b = h1.get? b := hs2.2
    have hidC : (PySem.W.hideAll B [ce.locals]).get? ce.locals = none := PySem.W.hideAll_none _ (by simp)
    have hidN : ∀ b, B.get? b = none → (PySem.W.hideAll B [ce.locals]).get? b = none := fun b hb => by
      cases q : (PySem.W.hideAll B [ce.locals]).get? b with
      | none => rfl
      | some o =>
        rw [PySem.W.of_hideAll _ q] at hb
        cases hb
    have st2 : (PySem.W.hideAll B [ce.locals]).StaysIn h2 := fun b o hb => by
      have hne : b ≠ ce.locals := fun z => by
        rw [z, hidC] at hb
        cases hb
      rw [keep b hne]
      exact st1 b o (PySem.W.of_hideAll _ hb)
    have ff2 : h2.FunFrames (PySem.W.hideAll B [ce.locals]) (X.env :: X.outer) := funFrames_none (Heap.FunFrames.sameBut hs2 hn2 ff1) fun b hb => hidN b (ff1.mem hb).1
    have t2 : HandSPX.TracedZ h2 (PySem.W.hideAll B [ce.locals]) a (Zc cls d) (rawInt X.env.locals) :=
      ⟨oe, vs, T, oT, ts, by rw [keep a (dC a oe vs he hd)]; exact he, hz, hd, hv1, hidN T hnT, hTe, by rw [keep T (dC T oT ts hT hdT)]; exact hT, hdT, hv3⟩
    obtain ⟨oe2, vs2, T2, oT2, ts2, he2, _, hd2, hv2, _⟩ := id t2
    unfold PySem.passOn
    refine wpAny_bind (wpAny_field he2 hd2 hv2 ?_)
    rw [if_neg (show ¬ ((Value.ref T2 == Value.none) = true) from by simp), hcf, hf0]
    refine wpAny_bind (HandSPX.setFlight_anyZ (l := X.env :: X.outer) st2 ff2 t2 fun h4 st4 ff4 t4 up4 => wpAny_throw ?_)
    -- in the def's own context
    have IX : Inv X pins σ H1 sI := I3.call' (ch := fp) I1.os I1.base I1.hok I1.bare fun b hb => ⟨(f3 b hb).2.2.2.1, (f3 b hb).2.1, (f3 b hb).2.2.2.2.1, (f3 b hb).2.2.2.2.2⟩
    have nC : H1 ce.locals = none := I1.free
    obtain ⟨q0, q1, q2, q3, q4, q5⟩ := I3.fpOk (b := ce.locals) (by rw [hce]; exact Nat.le_refl _) nC
    have IY := IX.turned (it := ce.locals) (h' := PySem.W.hideAll sI.heap [ce.locals]) (t' := sI.toks) (fun b o hb eb => PySem.W.hideAll_get _ eb (by simpa using hb)) q0 q1 q3 q4 q5
    have upX : (PySem.W.hideAll sI.heap [ce.locals]).UpToSlots h4 := fun b o hb hx => by
      have hne : b ≠ ce.locals := fun z => by
        rw [z, PySem.W.hideAll_none _ (by simp)] at hb
        cases hb
      obtain ⟨sl, e1⟩ := (up.trans up1) b o (PySem.W.of_hideAll _ hb) hx
      rw [← keep b hne] at e1
      exact up4 b _ e1 hx |>.imp fun sl2 e2 => e2
    refine tk (.ref a) _ ⟨a, PySem.W.hideAll B [ce.locals], _, pins, σ, H1, cls, d, rfl, IY, fun b o hb hx => ?_, upX, .inr (.inr ⟨?_, hidN a b01, ?_, ?_⟩), na, os, ag, w⟩
    · have hne : b ≠ ce.locals := fun z => by
        rw [z, PySem.W.hideAll_none _ (by simp)] at hb
        cases hb
      exact PySem.W.hideAll_get _ (nb b o (PySem.W.of_hideAll _ hb) hx) (by simpa using hne)
    · exact st4
    · rw [hs0]
      exact ff4
    · exact t4
  cases use <;> exact goal
/-- the loop: as the library's own core for blocks that raise nothing, but with the element's wish kept -/
theorem lcx_core {pins : List (Addr × Obj)} {s : Shared} {σ : L2.St} {H : Hp} {Q : VK} {elt tg iter : Expr} {ifs : List Expr} {scope : Scope} {own : List (Str × Nat)} {pos pos' : Pos} {wi : TI} {g : TG} {tt : TT} {te : TE} {use : Option (Value → Sem Unit)} {Qf : Value → Shared → Prop}
    (tk : Takes X (wE E)) (hs0 : X.stack = X.env :: X.outer) (hf0 : X.env.frame = some X.env.locals) (calm : X.calm = true) (nodup : X.N.Nodup) (I : Inv X pins σ H s) (walked : PI X tg iter wi) (ok : BlkOk X.N X.env.scope scope own)
    (hgt : ∀ (s : Shared) (H : Hp) (C : Addr) (cl : List (Str × Addr)) (fp : List Addr), PG (X.blk s H scope (compEnvC scope cl C X.env) fp) tg g)
    (hts : ∀ (s : Shared) (H : Hp) (C : Addr) (cl : List (Str × Addr)) (fp : List Addr), PTs (X.blk s H scope (compEnvC scope cl C X.env) fp) ifs tt)
    (hel : ∀ (s : Shared) (H : Hp) (C : Addr) (cl : List (Str × Addr)) (fp : List Addr) (f : Value → Shared → Prop), PassB (blkX X s H scope (compEnvC scope cl C X.env) fp f) (wE E) → PE (blkX X s H scope (compEnvC scope cl C X.env) fp f) elt te)
    (hfold : ∀ x, foldedSetIterable iter X.env x = pure x) (h : tLc wi g tt te (own.map (·.2)) σ H Q)
    (hend : ∀ D C s' m H', Inv X pins σ H' s' → Q (.ref D) H' → s'.heap.Ns C m → FpOk X pins H' C → ∀ ce : Env, ce.locals = C → compEnds (model X.prog X.w) X.A X.xe use Qf (.ref D) ce (.ok .next) s') :
    wpAny (model X.prog X.w) X.A (comprehension (.ListComp elt [⟨tg, iter, ifs, 0⟩] scope pos) scope X.env pos' (newList []) false (eval iter X.env) use) Qf X.xe s := by
  have caught : ∀ y ∈ scope.names, y.2 = .free → ∃ c, X.env.cells.lookup y.1 = some c := fun y hy e => (ok.free y hy e).elim (fun k => I.ok.has _ (.inl k)) fun k => I.ok.has _ (.inr k)
  refine comprehension_at (use := use) rfl hfold (closure_ok caught) ok.kind (fun y hy e => by rw [ok.uniq y hy, e]) (thn (walked.run pins s σ H _ I h) fun xv s1 h1 => thn h1 fun itv s2 h2 => ?_)
  obtain ⟨it, fp, tn, J, H2, e, I2, T, st2, f2, q⟩ := h2
  subst e
  refine wpAny_newObj_type (newEnv_comp ?_) (Nat.zero_le sizeLine)
  generalize hD : s2.heap.objs.size = D
  obtain ⟨W, ⟨m0, w0⟩, turn⟩ := q D (I2.hok.fresh (Nat.le_of_eq hD))
  generalize es3 : ({ s2 with heap := s2.heap.push { cls := .type "list", data := .seq ([] : List Value).toArray } } : Shared) = s3
  have I3 : Inv X pins σ (upd H2 D (.lst [])) s3 := es3 ▸ I2.laid (t' := s2.toks) (fun b o e => Heap.get?_push_of_some _ e) (Nat.le_of_eq hD) ⟨Nat.zero_le _, [], 0, .nil, hD ▸ Heap.get?_push_size _ rfl⟩
  have heap3 : s3.heap = s2.heap.push { cls := .type "list", data := .seq ([] : List Value).toArray } := by rw [← es3]
  have f3 : ∀ b ∈ fp, FpOk X pins (upd H2 D (.lst [])) b ∧ b < s3.heap.objs.size := fun b hb => by
    obtain ⟨o, eo, _⟩ := T.obj _ _ st2 b hb
    have lt := Heap.lt_size eo
    refine ⟨⟨?_, (f2 b hb).2⟩, by rw [heap3, Heap.size_push]; exact Nat.lt_succ_of_lt lt⟩
    rw [upd_ne (hD ▸ Nat.ne_of_lt lt)]
    exact (f2 b hb).1
  have stands3 : tn 0 s3.heap := T.keep _ _ _ st2 fun b _ o eo => heap3 ▸ Heap.get?_push_of_some _ eo
  have I4 := block_start I3 ok nodup f3
  have pg := hgt s3 (upd H2 D (.lst [])) s3.heap.objs.size (cellsFrom (s3.heap.objs.size + 1) scope.names (cloFrom X.env.cells scope.names [])) fp
  have pt := hts s3 (upd H2 D (.lst [])) s3.heap.objs.size (cellsFrom (s3.heap.objs.size + 1) scope.names (cloFrom X.env.cells scope.names [])) fp
  have pe := hel s3 (upd H2 D (.lst [])) s3.heap.objs.size (cellsFrom (s3.heap.objs.size + 1) scope.names (cloFrom X.env.cells scope.names [])) fp
  have untracked : ∀ b ∈ fp, (upd H2 D (.lst [])) b = none := fun b hb => (f3 b hb).1.1
  show codeAny _ _ (.compStart (.ListComp elt [⟨tg, iter, ifs, 0⟩] scope pos) 0 (.ref it) (.ref D) (compEnvC scope (cellsFrom (s3.heap.objs.size + 1) scope.names (cloFrom X.env.cells scope.names [])) s3.heap.objs.size X.env))
    (compEnds (model X.prog X.w) X.A X.xe use Qf (.ref D) (compEnvC scope (cellsFrom (s3.heap.objs.size + 1) scope.names (cloFrom X.env.cells scope.names [])) s3.heap.objs.size X.env)) { s3 with heap := pushCells (s3.heap.push { cls := .type "dict", data := .dict #[] }) scope.names }
  generalize hce : compEnvC scope (cellsFrom (s3.heap.objs.size + 1) scope.names (cloFrom X.env.cells scope.names [])) s3.heap.objs.size X.env = ce at I4 pg pt pe ⊢
  have cL : ce.locals = s3.heap.objs.size := hce ▸ rfl
  have cF : ce.frame = X.env.frame := hce ▸ rfl
  generalize hH3 : upd H2 D (.lst []) = H3 at I3 I4 pg pt pe w0 untracked f3
  have pb := lcx_pass (scope := scope) (ce := ce) (fp := fp) (use := use) (Qf := Qf) (acc := .ref D) tk hs0 hf0 I3 cL cF fun b hb => (f3 b hb).1
  have pel := pe _ pb
  generalize es4 : ({ s3 with heap := pushCells (s3.heap.push { cls := .type "dict", data := .dict #[] }) scope.names } : Shared) = s4 at I4 ⊢
  have stands4 : tn 0 s4.heap := T.keep _ _ _ stands3 fun b _ o eo => es4 ▸ pushCells_keeps _ _ _ _ (Heap.get?_push_of_some _ eo)
  have stat : ∀ {σ' : L2.St} {H' : Hp} {s' : Shared}, Inv (X.blk s3 H3 scope ce fp) [] σ' H' s' → (∀ b ∈ fp, H' b = none) → ∀ b ∈ fp, FpOk (X.blk s3 H3 scope ce fp) [] H' b := fun I' hn b hb =>
    ⟨hn b hb, (I'.ok.exf b hb).1, I'.ok.exfs b hb, .inl hb, fun x c e => (I'.ok.exf b hb).2 x c e, fun p hp => absurd (show p ∈ ([] : List (Addr × Obj)) ++ [] from hp) List.not_mem_nil⟩
  have loop : codeAny (model X.prog X.w) X.A (.compLoop (.ListComp elt [⟨tg, iter, ifs, 0⟩] scope pos) 0 (.ref it) (.ref D) ce) (compEnds (model X.prog X.w) X.A X.xe use Qf (.ref D) ce) s4 := by
    refine compLoop_any (fun n s' => ∃ i H', Inv (X.blk s3 H3 scope ce fp) [] (L2.wipe σ (own.map (·.2))) H' s' ∧ tn i s'.heap ∧ (∀ b ∈ fp, H' b = none) ∧ W i n H') ?_ m0 ⟨0, H3, I4, stands4, untracked, w0⟩
    rintro n s5 ⟨i, H5, I5, st5, n5, w5⟩
    rcases turn i n H5 w5 with ⟨stop, qq⟩ | ⟨go, Nx, hNx, step⟩
    · refine thnF (T.done (X.blk s3 H3 scope ce fp) rfl rfl rfl calm i [] s5 _ H5 (fun _ _ => False) I5 (stat I5 n5) st5 stop) fun r s6 ⟨hr, I6⟩ => ?_
      subst hr
      have back : Inv X pins σ H5 s6 := I3.call' (ch := fp) I6.os I6.base I6.hok I6.bare fun b hb => let z := (f3 b hb).1; ⟨z.2.2.2.1, z.2.1, z.2.2.2.2.1, z.2.2.2.2.2⟩
      have nC : H5 s3.heap.objs.size = none := by
        rw [← cL]
        exact I6.free
      obtain ⟨m, hn, _⟩ := I6.loc
      have hn : s6.heap.Ns ce.locals m := hn
      exact hend D s3.heap.objs.size s6 m H5 back qq (cL ▸ hn) (I3.fpOk (Nat.le_refl _) nC) ce cL
    · refine thnF (T.item (X.blk s3 H3 scope ce fp) rfl rfl rfl calm i [] s5 _ H5 (fun _ _ => False) I5 (stat I5 n5) st5 go) fun r s6 ⟨u, hr, h6⟩ => ?_
      subst hr
      refine thnF h6 fun _ s7 ⟨x, H7, I7, r7, y7, st7, n7⟩ => ?_
      have I7p := I7.pinned (stat I7 n7) (T.obj _ _ st7)
      refine thnF (pg.run _ s7 _ H7 x u _ I7p r7 (step x H7 y7)) fun _ s8 ⟨σ8, H8, I8, hw8, q8⟩ => thnF (pt.run _ s8 σ8 H8 _ I8 q8) fun b s9 ⟨H9, I9, q9⟩ => ?_
      have fin : ∀ {s' : Shared} {H' : Hp}, Inv (X.blk s3 H3 scope ce fp) ([] ++ pinsAt fp s7.heap) σ8 H' s' → Nx H' → ∃ m, m < n ∧ ∃ i H', Inv (X.blk s3 H3 scope ce fp) [] (L2.wipe σ (own.map (·.2))) H' s' ∧ tn i s'.heap ∧ (∀ b ∈ fp, H' b = none) ∧ W i m H' := fun {s' H'} I' nx => by
        obtain ⟨m', hm, w'⟩ := hNx H' nx
        have pin : ∀ b ∈ fp, ∀ o, s7.heap.get? b = some o → s'.heap.get? b = some o ∧ H' b = none := fun b hb o eo => (I'.pin (b, o) (List.mem_append_right _ (List.mem_append_right _ (mem_pinsAt hb eo)))).imp id And.left
        refine ⟨m', hm, i + 1, H', (I'.unpinned (pins := [])).weak (by rw [← hw8, wipe_length]) fun j v ev => ?_, T.keep _ _ _ st7 fun b hb o eo => (pin b hb o eo).1, fun b hb => ?_, w'⟩
        · rw [← hw8] at ev
          exact (wipe_some ev).1
        · obtain ⟨o, eo, _⟩ := T.obj _ _ st7 b hb
          exact (pin b hb o eo).2
      cases b with
      | false =>
        rw [if_neg Bool.false_ne_true] at q9 ⊢
        exact fin I9 q9
      | true =>
        rw [if_pos rfl] at q9 ⊢
        refine thn (pel.run _ s9 σ8 H9 _ (inv_xe _ I9) q9) fun z s10 ⟨yv, H10, I10, r10, acc, hD10, hz10, nx⟩ => ?_
        have I10' : Inv (X.blk s3 H3 scope ce fp) ([] ++ pinsAt fp s7.heap) σ8 H10 s10 := inv_xe (fun _ _ => False) I10
        exact app_ok (X := X.blk s3 H3 scope ce fp) I10' hD10 hz10 r10 fun s11 I11 => fin I11 nx
  exact codeAny_compStart_list loop (T.self X.A 0 _ _ _ stands4 loop)
theorem pe_lcX {elt tg iter : Expr} {ifs : List Expr} {scope : Scope} {own : List (Str × Nat)} {pos : Pos} {wi : TI} {g : TG} {tt : TT} {te : TE} (tk : Takes X (wE E)) (hs0 : X.stack = X.env :: X.outer) (hf0 : X.env.frame = some X.env.locals)
    (calm : X.calm = true) (nodup : X.N.Nodup) (walked : PI X tg iter wi) (ok : BlkOk X.N X.env.scope scope own)
    (hgt : ∀ (s : Shared) (H : Hp) (C : Addr) (cl : List (Str × Addr)) (fp : List Addr), PG (X.blk s H scope (compEnvC scope cl C X.env) fp) tg g)
    (hts : ∀ (s : Shared) (H : Hp) (C : Addr) (cl : List (Str × Addr)) (fp : List Addr), PTs (X.blk s H scope (compEnvC scope cl C X.env) fp) ifs tt)
    (hel : ∀ (s : Shared) (H : Hp) (C : Addr) (cl : List (Str × Addr)) (fp : List Addr) (f : Value → Shared → Prop), PassB (blkX X s H scope (compEnvC scope cl C X.env) fp f) (wE E) → PE (blkX X s H scope (compEnvC scope cl C X.env) fp f) elt te)
    (hfold : ∀ x, foldedSetIterable iter X.env x = pure x := by intro _; rfl) : PE X (.ListComp elt [⟨tg, iter, ifs, 0⟩] scope pos) (tLc wi g tt te (own.map (·.2))) := by
  refine ⟨fun pins s σ H Q I h => ?_⟩
  rw [eval_ListComp]
  refine lcx_core tk hs0 hf0 calm nodup I walked ok hgt hts hel hfold h fun D C s' m H' I' q hn f ce hL => ⟨m, by rw [hL]; exact hn, fun h'' sb => ?_⟩
  rw [hL] at sb
  exact ⟨.ref D, H', I'.turned (t' := s'.toks) (fun b o hb e => (sb.2 b hb).trans e) f.1 f.2.1 f.2.2.2.1 f.2.2.2.2.1 f.2.2.2.2.2, rfl, q⟩
end
end FM
set_option Elab.async false
set_option linter.all false
set_option maxRecDepth 100000
set_option maxHeartbeats 4000000
/-! FM, part 20: a comprehension whose element may raise an own error, as data. -/
namespace FM
open PySem L2
variable {X : Cx} {W : Wd} {wi : WX} {pos : Pos} {a b c d : Expr} {ga gb gc gd : Rho → Rz D}
def lcGoX (tg : Tg) (c : Rho → Rz Bool) (ge : Rho → Rz D) (ρ : Rho) : List D → Rz (List D)
  | [] => .ok []
  | x :: xs => match bindT tg x ρ with
    | none => .bad
    | some ρ1 => match c ρ1 with
      | .ok true => (match ge ρ1 with
        | .ok d => (lcGoX tg c ge ρ xs).bind fun r => .ok (d :: r)
        | .er e => .er e
        | .bad => .bad)
      | .ok false => lcGoX tg c ge ρ xs
      | _ => .bad
def gLcX (gi : Rho → Rz (List D)) (tg : Tg) (ow : List Nat) (c : Rho → Rz Bool) (ge : Rho → Rz D) : Rho → Rz D := fun ρ =>
  (gi ρ).bind fun xs => if xs.length ≤ lim then (lcGoX tg c ge (wipeR ρ ow) xs).bind fun l => .ok (.lst l) else .bad
/-- the loop of a comprehension whose element may raise -/
theorem lcX_run {K : PySem.W.Frag} {EE : XK} {B G0 H0 G1 H1 : Hp} {σ : L2.St} {ρ : Rho} {J : It} {xs : List D} {tg : Tg} {ow : List Nat} {c : Rho → Rz Bool} {ge : Rho → Rz D} {Q : VK} (E : EnvOk W B G0 H0 G1 H1 σ ρ) (hy : Yl W H1 J G1 xs) (ht : tg.all (fun i => ow.contains i) = true)
    (h : RzX (fun G v d => Rep W G v d) W (wE EE) G1 H1 σ Q (if xs.length ≤ lim then (lcGoX tg c ge (wipeR ρ ow) xs).bind fun l => .ok (.lst l) else .bad)) :
    ∀ Dl, H1 Dl = none → ∃ Wt : Nat → Nat → Hp → Prop, (∃ m, Wt 0 m (upd H1 Dl (.lst []))) ∧ ∀ i m H, Wt i m H →
      (J.stop i H ∧ Q (.ref Dl) H) ∨ (J.go i H ∧ ∃ Nx : Hp → Prop, (∀ H', Nx H' → ∃ m', m' < m ∧ Wt (i + 1) m' H') ∧ ∀ x H', J.yld i H x H' → tG K tg x (wipe σ ow) H' fun σ2 H2 => wipe σ2 ow = wipe σ ow ∧ tT W wF c σ2 H2 fun b H3 =>
        if b = true then tD W (wE EE) ge σ2 H3 fun y H4 => ∃ acc, H4 Dl = some (.lst acc) ∧ acc.length < sizeLine ∧ Nx (upd H4 Dl (.lst (acc ++ [y]))) else Nx H3) := by
  intro Dl hD
  split at h
  case isFalse => exact h.elim
  rename_i hlim
  obtain ⟨vs, rv, hgo, hstop⟩ := hy
  have hlen := rv.length
  have hgD : G1 Dl = none := E.i.free hD
  -- what holds ahead of turn i
  refine ⟨fun i m H => ∃ G acc done, Grow G1 H1 G H ∧ G Dl = none ∧ H Dl = some (.lst acc) ∧ Reps W G acc done ∧ acc.length ≤ i ∧ i ≤ vs.length ∧ m = vs.length - i ∧ RzX (fun G v d => Rep W G v d) W (wE EE) G1 H1 σ Q ((lcGoX tg c ge (wipeR ρ ow) (xs.drop i)).bind fun l => .ok (.lst (done ++ l))),
    ⟨vs.length, G1, [], [], Grow.newH E.i hD, hgD, upd_same, .nil, Nat.le_refl _, Nat.zero_le _, rfl, ?_⟩, ?_⟩
  · rw [List.drop_zero]
    exact h
  rintro i m H ⟨G, acc, done, gr, gD, hDl, ra, hal, hi, rfl, hk⟩
  by_cases hlt : i < vs.length
  · refine .inr ?_
    have hx : i < xs.length := by rw [← hlen]; exact hlt
    obtain ⟨h1, h2⟩ := hgo i vs[i] H gr.h (by simp [hlt])
    obtain ⟨dx, ed, rx⟩ := rv.get (i := i) (v := vs[i]) (by simp [hlt])
    have edrop : xs.drop i = dx :: xs.drop (i + 1) := by
      rw [List.drop_eq_getElem_cons hx]
      congr 1
      rw [List.getElem?_eq_getElem hx] at ed
      exact Option.some.inj ed
    rw [edrop] at hk
    refine ⟨h1, fun H' => ∃ G acc done, Grow G1 H1 G H' ∧ G Dl = none ∧ H' Dl = some (.lst acc) ∧ Reps W G acc done ∧ acc.length ≤ i + 1 ∧ RzX (fun G v d => Rep W G v d) W (wE EE) G1 H1 σ Q ((lcGoX tg c ge (wipeR ρ ow) (xs.drop (i + 1))).bind fun l => .ok (.lst (done ++ l))),
      fun H' ⟨G, acc, done, q1, q2, q3, q4, q5, q6⟩ => ⟨vs.length - (i + 1), by omega, G, acc, done, q1, q2, q3, q4, q5, hlt, rfl, q6⟩, fun x H' hyl => ?_⟩
    obtain ⟨e1, e2⟩ := h2 x H' hyl
    subst e1
    subst e2
    unfold lcGoX at hk
    split at hk
    case h_1 => exact hk.elim
    rename_i ρ1 eb
    have E' : EnvOk W B G0 H0 G H' (wipe σ ow) (wipeR ρ ow) := (E.grow gr).wipe2 ow
    refine tG_go E' (rx.mono gr.g) eb fun σ2 E2 hw => ⟨?_, ?_⟩
    · rw [hw ow ht]
      have ww : ∀ (os ps : List Nat) (τ : L2.St), (∀ z, z ∈ os → z ∈ ps) → wipe (wipe τ os) ps = wipe τ ps := by
        have ws : ∀ (σ : L2.St) (vs : List Nat) (i : Nat), i ∈ vs → wipe (σ.set i none) vs = wipe σ vs := by
          intro σ vs
          induction vs with
          | nil =>
            intro i h
            cases h
          | cons z zs ih =>
            intro i h
            show (wipe (σ.set i none) zs).set z none = (wipe σ zs).set z none
            have cm : ∀ (zs : List Nat) (σ : L2.St), (wipe (σ.set i none) zs).set i none = (wipe σ zs).set i none := by
              intro zs
              induction zs with
              | nil =>
                intro σ
                show (σ.set i none).set i none = σ.set i none
                rw [List.set_set]
              | cons y ys ih2 =>
                intro σ
                show ((wipe (σ.set i none) ys).set y none).set i none = ((wipe σ ys).set y none).set i none
                by_cases hy : i = y
                · subst hy
                  rw [List.set_set, List.set_set]
                  exact ih2 σ
                · rw [List.set_comm _ _ (Ne.symm hy), List.set_comm _ _ (Ne.symm hy), ih2 σ]
            by_cases hz : i = z
            · subst hz
              exact cm zs σ
            · rcases List.mem_cons.mp h with h | h
              · exact absurd h hz
              · rw [ih i h]
        intro os
        induction os with
        | nil =>
          intro ps τ _
          rfl
        | cons o os ih =>
          intro ps τ hh
          show wipe ((wipe τ os).set o none) ps = wipe τ ps
          rw [ws _ ps o (hh o List.mem_cons_self), ih ps τ fun z hz => hh z (List.mem_cons_of_mem _ hz)]
      exact ww ow ow σ fun _ z => z
    · cases ec : c ρ1 with
      | ok k =>
        rw [ec] at hk
        refine ⟨B, G0, H0, G, ρ1, E2, ?_⟩
        rw [ec]
        intro b G3 H3 g3 eb3
        subst eb3
        have gr3 := gr.trans g3
        cases b with
        | false => exact ⟨G3, acc, done, gr3, g3.hid _ gD (by rw [hDl]; exact fun z => nomatch z), g3.h _ _ hDl, ra.mono g3.g, Nat.le_succ_of_le hal, hk⟩
        | true =>
          have E3 := E2.grow g3
          cases ee : ge ρ1 with
          | ok d =>
            rw [if_pos rfl]
            refine ⟨B, G0, H0, G3, ρ1, E3, ?_⟩
            rw [ee]
            intro v G4 H4 g4 r4
            have gr4 := gr3.trans g4
            have hD3 : H3 Dl = some (.lst acc) := g3.h _ _ hDl
            have gD3 : G3 Dl = none := g3.hid _ gD (by rw [hDl]; exact fun z => nomatch z)
            have gD4 : G4 Dl = none := g4.hid _ gD3 (by rw [hD3]; exact fun z => nomatch z)
            refine ⟨acc, g4.h _ _ hD3, lim_lt (by omega), ?_⟩
            refine ⟨G4, acc ++ [v], done ++ [d], ⟨fun p o e => ?_, gr4.g, fun p o e => ?_, gr4.hid⟩, gD4, upd_same, (ra.mono (g3.g.trans g4.g)).append (.cons r4 .nil), by rw [List.length_append, List.length_singleton]; omega, ?_⟩
            · rw [upd_ne (ne_of_none e hD)]
              exact gr4.h p o e
            · rw [upd_ne (ne_of_none e gD4)]
              exact gr4.i p o e
            · rw [ee] at hk
              have hk' : RzX (fun G v d => Rep W G v d) W (wE EE) G1 H1 σ Q (((lcGoX tg c ge (wipeR ρ ow) (xs.drop (i + 1))).bind fun r => .ok (d :: r)).bind fun l => .ok (.lst (done ++ l))) := hk
              cases er : lcGoX tg c ge (wipeR ρ ow) (xs.drop (i + 1)) with
              | ok l =>
                rw [er] at hk'
                rw [Rz.ok_bind, List.append_assoc]
                exact hk'
              | er q =>
                rw [er] at hk'
                exact hk'
              | bad =>
                rw [er] at hk'
                exact hk'
          | er q =>
            rw [ee] at hk
            rw [if_pos rfl]
            refine ⟨B, G0, H0, G3, ρ1, E3, ?_⟩
            rw [ee]
            exact fun G' H' g' => hk G' H' (gr3.trans g')
          | bad =>
            rw [ee] at hk
            exact hk.elim
      | er q =>
        rw [ec] at hk
        exact hk.elim
      | bad =>
        rw [ec] at hk
        exact hk.elim
  · have e : i = vs.length := by omega
    subst e
    refine .inl ⟨hstop H gr.h, ?_⟩
    have ed : xs.drop vs.length = [] := List.drop_eq_nil_of_le (by omega)
    rw [ed] at hk
    have hk' : RzX (fun G v d => Rep W G v d) W (wE EE) G1 H1 σ Q (.ok (.lst (done ++ []))) := hk
    rw [List.append_nil] at hk'
    have s1 : Same G (upd G Dl (.lst acc)) := same_upd gD
    refine hk' _ (upd G Dl (.lst acc)) H ⟨gr.h, gr.g.trans s1, fun p o e => ?_, fun p x y => ?_⟩ (.lst upd_same (ra.mono s1))
    · by_cases hp : p = Dl
      · subst hp
        rw [upd_same] at e
        cases e
        exact hDl
      · rw [upd_ne hp] at e
        exact gr.i p o e
    · rw [upd_ne (fun z => y (by rw [z]; exact hD))]
      exact gr.hid p x y
theorem sem_lcX {K : PySem.W.Frag} {EE : XK} {gi : Rho → Rz (List D)} {tg : Tg} {ow : List Nat} {cc : Rho → Rz Bool} {ge : Rho → Rz D} (ht : tg.all (fun i => ow.contains i) = true) {σ : L2.St} {H : Hp} {Q : VK} (h : tD W (wE EE) (gLcX gi tg ow cc ge) σ H Q) :
    tLc (tI W (wE EE) gi) (tG K tg) (tT W wF cc) (tD W (wE EE) ge) ow σ H Q := by
  obtain ⟨B, G0, H0, G, ρ, E, h⟩ := h
  refine tX_go E h fun xs J G1 H1 _ g1 r1 E1 h1 => ?_
  obtain ⟨vs, rv, hgo, hst⟩ := r1
  exact lcX_run E1 ⟨vs, rv, fun i x H' e => hgo i x H' (E1.i.trans e), fun H' e => hst H' (E1.i.trans e)⟩ ht h1
theorem dx_lcX {EE : XK} {elt tg iter : Expr} {ifs : List Expr} {scope : Scope} {own : List (Str × Nat)} {gi : Rho → Rz (List D)} {t : Tg} {cc : Rho → Rz Bool} {ge : Rho → Rz D} (ht : t.all (fun i => (own.map (·.2)).contains i) = true) (tk : Takes X (wE EE)) (hs0 : X.stack = X.env :: X.outer) (hf0 : X.env.frame = some X.env.locals)
    (hc : X.calm = true) (hN : X.N.Nodup) (hi : PI X tg iter (tI W (wE EE) gi)) (ok : BlkOk X.N X.env.scope scope own)
    (hg : ∀ (s : Shared) (H : Hp) (C : Addr) (cl : List (Str × Addr)) (fp : List Addr), PG (X.blk s H scope (compEnvC scope cl C X.env) fp) tg (tG X.K t))
    (hts : ∀ (s : Shared) (H : Hp) (C : Addr) (cl : List (Str × Addr)) (fp : List Addr), PTs (X.blk s H scope (compEnvC scope cl C X.env) fp) ifs (tT W wF cc))
    (he : ∀ (s : Shared) (H : Hp) (C : Addr) (cl : List (Str × Addr)) (fp : List Addr) (f : Value → Shared → Prop), PassB (blkX X s H scope (compEnvC scope cl C X.env) fp f) (wE EE) → PE (blkX X s H scope (compEnvC scope cl C X.env) fp f) elt (tD W (wE EE) ge)) (hs : ∀ x, foldedSetIterable iter X.env x = pure x := by intro _; rfl) :
    PE X (.ListComp elt [⟨tg, iter, ifs, 0⟩] scope pos) (tD W (wE EE) (gLcX gi t (own.map (·.2)) cc ge)) := PE.imp (pe_lcX tk hs0 hf0 hc hN hi ok hg hts he hs) fun _ _ _ h => sem_lcX ht h
theorem dx_fnP {es : List Expr} {gs : Rho → Rz (List D)} {k n : Nat} {ff : List D → Rz D} {x : Str} {p : Pos} (h : Has X.prog X.w X.K X.mg X.base W k x n ff) (hr : Room k X.A) (ps : PassB X wi) (ha : PA X (a :: es) (tA W wi gs)) (hg : Gl X x := by rfl)
    (hdb : (x == ("__debug__" : Str)) = false := by decide) (he : starEach (a :: es) X.env = (false, eval a X.env) :: starEach es X.env := by rfl) (hpl : (backTo pos (starEach es X.env)).any (·.1) = false := by rfl) :
    PE X (.Call (.Name x p) (a :: es) [] pos) (tD W wi (gCall ff gs)) := by
  obtain ⟨hn, f, fd, pn, F, hm, hk, hb⟩ := h
  refine PE.imp (pe_callS F hr hg hm hk hb ps ha hdb he hpl) fun σ H Q h => ?_
  obtain ⟨B, G0, H0, G, ρ, E, h⟩ := h
  refine tX_go E h fun xs vs G1 H1 _ g1 r1 E1 h1 => ?_
  have hl : xs.length = n := by
    by_cases e : xs.length = n
    · exact e
    · rw [hn xs e] at h1
      exact h1.elim
  exact ⟨G1, xs, E1.i, r1, hl, rz_wish h1⟩
end FM
set_option Elab.async false
set_option linter.all false
set_option maxRecDepth 100000
set_option maxHeartbeats 8000000

/-! FM: the data functions of the defs of law_k30_texts, printed by gen.py. -/
namespace FM
open PySem L2
/-- def look_web(web): slots web many lines k -/
noncomputable def b_look_web : Rho → Oc :=
  (sSeq (sWp [0] (sPair (.pr 1 2) (gVar 0)))
  (sSeq (sIf (gNot (gTst (gCh leD leD (gC (.int 0)) (gVar 1) (gC (.int 10)))))
  (sRaise .web)
  sNil)
  (sWp [1, 2, 3] (sFor (gRng rng1D (gCons (gCall lenD (gCons (gVar 2) gNil)) gNil)) (.nm 3) [3]
  (sWp [3] (sIf (gOr (gTst (gBin neD (gCall lenD (gCons (gBin ixD (gVar 2) (gVar 3)) gNil)) (gC (.int 2)))) (gOr (gNot (gCh3 leD ltD ltD (gC (.int 0)) (gBin ixD (gBin ixD (gVar 2) (gVar 3)) (gC (.int 0))) (gBin ixD (gBin ixD (gVar 2) (gVar 3)) (gC (.int 1))) (gVar 1))) (gAnd (gTst (gBin gtD (gVar 3) (gC (.int 0)))) (gNot (gTst (gBin ltD (gBin ixD (gVar 2) (gBin subD (gVar 3) (gC (.int 1)))) (gBin ixD (gVar 2) (gVar 3))))))))
  (sRaise .web)
  sNil))))))
noncomputable def f_look_web : List D → Rz D := fnD 1 4 b_look_web

/-- def written(web): slots web rows spot ends one other -/
noncomputable def b_written : Rho → Oc :=
  (sSeq (sExp (gCall f_look_web (gCons (gVar 0) gNil)))
  (sSeq (sOwn 1 (gCons (gBin addD (gC (.str "spots ")) (gCall strD (gCons (gBin ixD (gVar 0) (gC (.int 0))) gNil))) gNil))
  (sSeq (sWp [0, 2, 3] (sFor (gRng rng1D (gCons (gBin ixD (gVar 0) (gC (.int 0))) gNil)) (.nm 2) [2, 3]
  (sSeq (sSet 3 (gLc (gIter (gBin ixD (gVar 0) (gC (.int 1)))) (.pr 4 5) [4, 5] (gTst (gBin eqD (gVar 4) (gVar 2))) (gVar 5)))
  (sWp [2, 3] (sIf (gTru (gVar 3))
  (sWp [2, 3] (sApp 1 (gBin addD (gBin addD (gCall strD (gCons (gVar 2) gNil)) (gC (.str ": "))) (gM1 joinD (gC (.str " ")) (gLc (gIter (gVar 3)) (.nm 5) [5] gYes (gCall strD (gCons (gVar 5) gNil)))))))
  sNil)))))
  (sFz 1 (sRet (gM1 joinD (gC (.str "\n")) (gVar 1)))))))
noncomputable def f_written : List D → Rz D := fnD 1 6 b_written

/-- def number_in(word): slots word sign -/
noncomputable def b_number_in : Rho → Oc :=
  (sSeq (sIf (gOr (gNot (gTst (gCh leD leD (gC (.int 1)) (gCall lenD (gCons (gVar 0) gNil)) (gC (.int 2))))) (gOr (gNot (gTru (gCall allD (gCons (gLc (gIter (gVar 0)) (.nm 1) [1] gYes (gBin (inND false) (gVar 1) (gC (.str "0123456789")))) gNil)))) (gAnd (gTst (gBin eqD (gBin ixD (gVar 0) (gC (.int 0))) (gC (.str "0")))) (gTst (gBin neD (gVar 0) (gC (.str "0")))))))
  (sRaise .text)
  sNil)
  (sRet (gCall intD (gCons (gVar 0) gNil))))
noncomputable def f_number_in : List D → Rz D := fnD 1 2 b_number_in

/-- def read(text): slots text rows lines last row parts found kept e word -/
noncomputable def b_read : Rho → Oc :=
  (sSeq (sWp [0] (sSet 1 (gM1 splitD (gVar 0) (gC (.str "\n")))))
  (sSeq (sIf (gTst (gBin neD (gSl (gBin ixD (gVar 1) (gC (.int 0))) none (some (gC (.int 6)))) (gC (.str "spots "))))
  (sRaise .text)
  sNil)
  (sSeq (sOwn 2 gNil)
  (sSeq (sSet 3 (gNeg (gC (.int 1))))
  (sSeq (sWp [3, 4, 5] (sFor (gIter (gSl (gVar 1) (some (gC (.int 1))) none)) (.nm 4) [4, 5]
  (sSeq (sWp [4] (sSet 5 (gM1 splitD (gVar 4) (gC (.str ": ")))))
  (sSeq (sWp [3] (sIf (gOr (gTst (gBin neD (gCall lenD (gCons (gVar 5) gNil)) (gC (.int 2)))) (gTst (gBin leD (gCall f_number_in (gCons (gBin ixD (gVar 5) (gC (.int 0))) gNil)) (gVar 3))))
  (sRaise .text)
  sNil))
  (sSeq (sSet 3 (gCall f_number_in (gCons (gBin ixD (gVar 5) (gC (.int 0))) gNil)))
  (sWp [5] (sExt 2 (gLcX (gIter (gM1 splitD (gBin ixD (gVar 5) (gC (.int 1))) (gC (.str " ")))) (.nm 9) [9] gYes (gTup (gCons (gVar 3) (gCons (gCall f_number_in (gCons (gVar 9) gNil)) gNil)))))))))))
  (sSeq (sWp [1, 2] (sFz 2 (sSet 6 (gTup (gCons (gCall f_number_in (gCons (gSl (gBin ixD (gVar 1) (gC (.int 0))) (some (gC (.int 6))) none) gNil)) (gCons (gVar 2) gNil))))))
  (sSeq (sSet 7 (gC .non))
  (sSeq (sWp [8] (sTry 8 7 (fun c => decide (c = .web)) (sExp (gCall f_look_web (gCons (gVar 6) gNil)))))
  (sSeq (sWp [7] (sIf (gTst (gIs true (gVar 7)))
  (sRaise .text)
  sNil))
  (sRet (gVar 6)))))))))))
noncomputable def f_read : List D → Rz D := fnD 1 10 b_read

/-- def _law_cell(_law_script, _law_k): slots _law_script _law_k -/
noncomputable def b_law_cell : Rho → Oc :=
  (sSeq (sWp [0, 1] (sIf (gTru (gVar 0))
  (sRet (gBin ixD (gVar 0) (gBin modD (gVar 1) (gCall lenD (gCons (gVar 0) gNil)))))
  sNil))
  (sRet (gC (.int 0))))
noncomputable def f_law_cell : List D → Rz D := fnD 2 2 b_law_cell

/-- def _law_mix(_law_script, _law_k): slots _law_script _law_k _law_number -/
noncomputable def b_law_mix : Rho → Oc :=
  (sSeq (sWp [0, 1] (sSet 2 (gBin modD (gBin addD (gCall f_law_cell (gCons (gVar 0) (gCons (gVar 1) gNil))) (gBin mulD (gC (.int 104729)) (gBin addD (gVar 1) (gC (.int 1))))) (gC (.int 4294967291)))))
  (sSeq (sSet 2 (gBin modD (gBin mulD (gVar 2) (gC (.int 48271))) (gC (.int 4294967279))))
  (sRet (gBin modD (gBin addD (gBin mulD (gBin divD (gVar 2) (gC (.int 64))) (gC (.int 69621))) (gVar 2)) (gC (.int 4294967231))))))
noncomputable def f_law_mix : List D → Rz D := fnD 2 3 b_law_mix

/-- def _law_web(_law_script, _law_k, _law_most): slots _law_script _law_k _law_most _law_many _law_way _law_lines _law_one _law_other _law_number _law_road -/
noncomputable def b_law_web : Rho → Oc :=
  (sSeq (sWp [2] (sSet 3 (gBin modD (gCall f_law_mix (gCons (gVar 0) (gCons (gVar 1) gNil))) (gBin addD (gVar 2) (gC (.int 1))))))
  (sSeq (sSet 4 (gBin modD (gCall f_law_mix (gCons (gVar 0) (gCons (gBin addD (gVar 1) (gC (.int 1))) gNil))) (gC (.int 5))))
  (sSeq (sOwn 5 gNil)
  (sSeq (sWp [0, 1, 4, 6, 7, 8, 9] (sFor (gRng rng1D (gCons (gVar 3) gNil)) (.nm 6) [6, 7, 8, 9]
  (sWp [6, 7, 8, 9] (sFor (gRng rng2D (gCons (gBin addD (gVar 6) (gC (.int 1))) (gCons (gVar 3) gNil))) (.nm 7) [7, 8, 9]
  (sSeq (sSet 8 (gBin divD (gCall f_law_mix (gCons (gVar 0) (gCons (gBin addD (gBin addD (gBin addD (gVar 1) (gC (.int 2))) (gBin mulD (gC (.int 8)) (gVar 6))) (gVar 7)) gNil))) (gC (.int 8))))
  (sSeq (sSet 9 (gOrV (gAndV (gBin eqD (gVar 4) (gC (.int 0))) (gBin eqD (gVar 7) (gBin addD (gVar 6) (gC (.int 1))))) (gAndV (gBin eqD (gVar 4) (gC (.int 1))) (gBin eqD (gVar 6) (gBin modD (gVar 8) (gVar 7))))))
  (sWp [7, 8, 9] (sIf (gOr (gTru (gVar 9)) (gAnd (gTst (gBin gtD (gVar 4) (gC (.int 1)))) (gTst (gBin ltD (gBin modD (gVar 8) (gC (.int 6))) (gVar 4)))))
  (sWp [7] (sApp 5 (gTup (gCons (gVar 6) (gCons (gVar 7) gNil)))))
  sNil))))))))
  (sFz 5 (sRet (gTup (gCons (gVar 3) (gCons (gVar 5) gNil)))))))))
noncomputable def f_law_web : List D → Rz D := fnD 3 10 b_law_web

/-- def _law_refusal(_law_kept): slots _law_kept _law_kinds -/
noncomputable def b_law_refusal : Rho → Oc :=
  (sSeq (sIf (gTst (gIs false (gVar 0)))
  (sRet (gC (.str "ok")))
  sNil)
  (sSeq (sSet 1 (gLst (gCons (gIsE (fun c => decide (c = .set)) (gVar 0)) (gCons (gIsE (fun c => decide (c = .steps)) (gVar 0)) (gCons (gIsE (fun c => decide (c = .text)) (gVar 0)) gNil)))))
  (sSeq (sSet 1 (gBin addD (gVar 1) (gLst (gCons (gIsE (fun c => decide (c = .tree)) (gVar 0)) (gCons (gIsE (fun c => decide (c = .web)) (gVar 0)) gNil)))))
  (sSeq (sWp [0] (sIf (gOr (gTst (gBin neD (gMl lcountD (gVar 1) (gC (.bl true))) (gC (.int 1)))) (gNot (gTru (gIsE (fun _ => true) (gVar 0)))))
  (sRet (gC (.str "wrong")))
  sNil))
  (sRet (gBin ixD (gLst (gCons (gC (.str "set")) (gCons (gC (.str "steps")) (gCons (gC (.str "text")) (gCons (gC (.str "tree")) (gCons (gC (.str "web")) gNil)))))) (gMl lindexD (gVar 1) (gC (.bl true)))))))))
noncomputable def f_law_refusal : List D → Rz D := fnD 1 2 b_law_refusal

/-- def _law_text(_law_web_here): slots _law_web_here _law_rows _law_spot _law_ends _law_one _law_other -/
noncomputable def b_law_text_k30 : Rho → Oc :=
  (sSeq (sOwn 1 (gCons (gBin addD (gC (.str "spots ")) (gCall strD (gCons (gBin ixD (gVar 0) (gC (.int 0))) gNil))) gNil))
  (sSeq (sWp [0, 2, 3] (sFor (gRng rng1D (gCons (gBin ixD (gVar 0) (gC (.int 0))) gNil)) (.nm 2) [2, 3]
  (sSeq (sSet 3 (gLc (gIter (gBin ixD (gVar 0) (gC (.int 1)))) (.pr 4 5) [4, 5] (gTst (gBin eqD (gVar 4) (gVar 2))) (gCall strD (gCons (gVar 5) gNil))))
  (sWp [2, 3] (sIf (gTst (gBin neD (gVar 3) (gLst gNil)))
  (sWp [2, 3] (sApp 1 (gBin addD (gBin addD (gCall strD (gCons (gVar 2) gNil)) (gC (.str ": "))) (gM1 joinD (gC (.str " ")) (gVar 3)))))
  sNil)))))
  (sFz 1 (sRet (gM1 joinD (gC (.str "\n")) (gVar 1))))))
noncomputable def f_law_text_k30 : List D → Rz D := fnD 1 6 b_law_text_k30

/-- def _law_numbers(_law_words): slots _law_words _law_found _law_word _law_one -/
noncomputable def b_law_numbers_k30 : Rho → Oc :=
  (sSeq (sOwn 1 gNil)
  (sSeq (sWp [0, 2] (sFor (gIter (gVar 0)) (.nm 2) [2]
  (sSeq (sIf (gOr (gTst (gBin eqD (gVar 2) (gC (.str "")))) (gOr (gTst (gBin gtD (gCall lenD (gCons (gVar 2) gNil)) (gC (.int 2)))) (gOr (gNot (gTru (gCall allD (gCons (gLc (gIter (gVar 2)) (.nm 3) [3] gYes (gBin (inND false) (gVar 3) (gC (.str "0123456789")))) gNil)))) (gTst (gBin neD (gCall strD (gCons (gCall intD (gCons (gVar 2) gNil)) gNil)) (gVar 2))))))
  (sRet (gC .non))
  sNil)
  (sWp [2] (sApp 1 (gCall intD (gCons (gVar 2) gNil)))))))
  (sFz 1 (sRet (gVar 1)))))
noncomputable def f_law_numbers_k30 : List D → Rz D := fnD 1 4 b_law_numbers_k30

/-- def _law_tried(_law_text_here): slots _law_text_here _law_rows _law_many _law_lines _law_row _law_parts _law_found _law_kept e _law_word -/
noncomputable def b_law_tried_k30 : Rho → Oc :=
  (sSeq (sSet 1 (gM1 splitD (gVar 0) (gC (.str "\n"))))
  (sSeq (sSet 2 (gCall f_law_numbers_k30 (gCons (gLst (gCons (gSl (gBin ixD (gVar 1) (gC (.int 0))) (some (gC (.int 6))) none) gNil)) gNil)))
  (sSeq (sIf (gOr (gTst (gBin neD (gSl (gBin ixD (gVar 1) (gC (.int 0))) none (some (gC (.int 6)))) (gC (.str "spots ")))) (gTst (gIs false (gVar 2))))
  (sRet (gC .non))
  sNil)
  (sSeq (sSet 3 (gLst gNil))
  (sSeq (sWp [1, 4, 5] (sFor (gIter (gSl (gVar 1) (some (gC (.int 1))) none)) (.nm 4) [4, 5]
  (sSeq (sWp [4] (sSet 5 (gM1 splitD (gVar 4) (gC (.str ": ")))))
  (sSeq (sIf (gOr (gTst (gBin neD (gCall lenD (gCons (gVar 5) gNil)) (gC (.int 2)))) (gOr (gTst (gIs false (gCall f_law_numbers_k30 (gCons (gSl (gVar 5) none (some (gC (.int 1)))) gNil)))) (gTst (gIs false (gCall f_law_numbers_k30 (gCons (gM1 splitD (gBin ixD (gVar 5) (gC (.int 1))) (gC (.str " "))) gNil))))))
  (sRet (gC .non))
  sNil)
  (sWp [5] (sSet 3 (gBin addD (gVar 3) (gLc (gIter (gM1 splitD (gBin ixD (gVar 5) (gC (.int 1))) (gC (.str " ")))) (.nm 9) [9] gYes (gTup (gCons (gCall intD (gCons (gBin ixD (gVar 5) (gC (.int 0))) gNil)) (gCons (gCall intD (gCons (gVar 9) gNil)) gNil)))))))))))
  (sSeq (sWp [2, 3] (sSet 6 (gTup (gCons (gBin ixD (gVar 2) (gC (.int 0))) (gCons (gVar 3) gNil)))))
  (sSeq (sSet 7 (gC .non))
  (sSeq (sWp [8] (sTry 8 7 (fun c => decide (c = .web)) (sExp (gCall f_look_web (gCons (gVar 6) gNil)))))
  (sRet (gIf (gAnd (gTst (gIs false (gVar 7))) (gTst (gBin eqD (gCall f_law_text_k30 (gCons (gVar 6) gNil)) (gVar 0)))) (gVar 6) (gC .non)))))))))))
noncomputable def f_law_tried_k30 : List D → Rz D := fnD 1 10 b_law_tried_k30

/-- def law(_law_script): slots _law_script _law_web_here _law_text_here _law_k _law_number _law_at _law_one _law_some _law_rows _law_kept _law_found e _law_due -/
noncomputable def b_law_main_k30 : Rho → Oc :=
  (sSeq (sSet 1 (gCall f_law_web (gCons (gVar 0) (gCons (gC (.int 0)) (gCons (gC (.int 7)) gNil)))))
  (sSeq (sSet 2 (gCall f_law_text_k30 (gCons (gVar 1) gNil)))
  (sSeq (sWp [1] (sIf (gOr (gTst (gBin neD (gCall f_written (gCons (gVar 1) gNil)) (gVar 2))) (gTst (gBin neD (gCall f_read (gCons (gVar 2) gNil)) (gVar 1))))
  (sRet (gC (.bl false)))
  sNil))
  (sSeq (sWp [3, 4, 5, 6, 7] (sFor (gRng rng1D (gCons (gBin addD (gC (.int 1)) (gBin modD (gCall f_law_mix (gCons (gVar 0) (gCons (gC (.int 90)) gNil))) (gC (.int 2)))) gNil)) (.nm 3) [3, 4, 5, 6, 7]
  (sSeq (sWp [3] (sSet 4 (gCall f_law_mix (gCons (gVar 0) (gCons (gBin addD (gC (.int 91)) (gVar 3)) gNil)))))
  (sSeq (sSet 5 (gBin modD (gBin divD (gVar 4) (gC (.int 8))) (gBin addD (gCall lenD (gCons (gVar 2) gNil)) (gC (.int 1)))))
  (sSeq (sSet 6 (gBin ixD (gC (.str "0123 :\nspt7")) (gBin modD (gBin divD (gVar 4) (gC (.int 4096))) (gC (.int 11)))))
  (sSeq (sWp [2, 5, 6] (sSet 7 (gLst (gCons (gBin addD (gBin addD (gSl (gVar 2) none (some (gVar 5))) (gVar 6)) (gSl (gVar 2) (some (gVar 5)) none)) (gCons (gBin addD (gBin addD (gSl (gVar 2) none (some (gVar 5))) (gVar 6)) (gSl (gVar 2) (some (gBin addD (gVar 5) (gC (.int 1)))) none)) (gCons (gBin addD (gSl (gVar 2) none (some (gVar 5))) (gSl (gVar 2) (some (gBin addD (gVar 5) (gC (.int 1)))) none)) gNil))))))
  (sWp [4, 7] (sSet 2 (gBin ixD (gVar 7) (gBin modD (gVar 4) (gC (.int 3))))))))))))
  (sSeq (sWp [0, 8] (sIf (gAnd (gTst (gBin eqD (gBin modD (gCall f_law_mix (gCons (gVar 0) (gCons (gC (.int 93)) gNil))) (gC (.int 6))) (gC (.int 0)))) (gTst (gBin gtD (gM1 scountD (gVar 2) (gC (.str "\n"))) (gC (.int 1)))))
  (sSeq (sWp [2] (sSet 8 (gM1 splitD (gVar 2) (gC (.str "\n")))))
  (sWp [8] (sSet 2 (gM1 joinD (gC (.str "\n")) (gBin addD (gLst (gCons (gBin ixD (gVar 8) (gC (.int 0))) gNil)) (gRevL (gSl (gVar 8) (some (gC (.int 1))) none)))))))
  sNil))
  (sSeq (sSet 9 (gC .non))
  (sSeq (sSet 10 (gC .non))
  (sSeq (sWp [11] (sTry 11 9 (fun _ => true) (sSet 10 (gCall f_read (gCons (gVar 2) gNil)))))
  (sSeq (sWp [2] (sSet 12 (gCall f_law_tried_k30 (gCons (gVar 2) gNil))))
  (sSeq (sWp [10, 12] (sIf (gTst (gIs true (gVar 12)))
  (sRet (gAndV (gIs false (gVar 9)) (gBin eqD (gVar 10) (gVar 12))))
  sNil))
  (sSeq (sWp [9] (sIf (gTst (gBin neD (gCall f_law_refusal (gCons (gVar 9) gNil)) (gC (.str "text"))))
  (sRet (gC (.bl false)))
  sNil))
  (sSeq (sSet 9 (gC .non))
  (sSeq (sWp [11] (sTry 11 9 (fun _ => true) (sExp (gCall f_written (gCons (gTup (gCons (gC (.int 11)) (gCons (gLst gNil) gNil))) gNil)))))
  (sRet (gBin eqD (gCall f_law_refusal (gCons (gVar 9) gNil)) (gC (.str "web")))))))))))))))))
noncomputable def f_law_main_k30 : List D → Rz D := fnD 1 13 b_law_main_k30

end FM
set_option Elab.async false
set_option linter.all false
set_option maxRecDepth 100000
set_option maxHeartbeats 4000000
/-! FM, plain: how the pieces of a def's data function come out. -/
namespace FM
open PySem L2
section
variable {ga gb gc gd : Rho → Rz D} {gs : Rho → Rz (List D)} {s t : Rho → Oc} {p q : Rho → Rz Bool} {ρ : Rho} {i j : Nat} {d x y : D}
@[simp] theorem e_gVar : gVar i ρ = match ρ[i]? with | some (.va d) => .ok d | _ => .bad := rfl
@[simp] theorem e_gC : gC d ρ = .ok d := rfl
@[simp] theorem e_gBin {f : D → D → Rz D} : gBin f ga gb ρ = (ga ρ).bind fun x => (gb ρ).bind fun y => f x y := rfl
@[simp] theorem e_gNeg : gNeg ga ρ = (ga ρ).bind fun x => match x with | .int i => .ok (.int (-i)) | _ => .bad := rfl
@[simp] theorem e_gTst : gTst ga ρ = (ga ρ).bind asB := rfl
@[simp] theorem e_gTru : gTru ga ρ = (ga ρ).bind truD := rfl
@[simp] theorem e_gNot : gNot p ρ = (p ρ).bind fun k => .ok (!k) := rfl
@[simp] theorem e_gAnd : gAnd p q ρ = (p ρ).bind fun k => if k then q ρ else .ok false := rfl
@[simp] theorem e_gOr : gOr p q ρ = (p ρ).bind fun k => if k then .ok true else q ρ := rfl
@[simp] theorem e_gOrV : gOrV ga gb ρ = (ga ρ).bind fun x => (truD x).bind fun k => if k then .ok x else gb ρ := rfl
@[simp] theorem e_gAndV : gAndV ga gb ρ = (ga ρ).bind fun x => (truD x).bind fun k => if k then gb ρ else .ok x := rfl
@[simp] theorem e_gNotV : gNotV ga ρ = (ga ρ).bind fun x => (truD x).bind fun k => .ok (.bl (!k)) := rfl
@[simp] theorem e_gIf : gIf p ga gb ρ = (p ρ).bind fun k => if k then ga ρ else gb ρ := rfl
@[simp] theorem e_gIs {neg : Bool} : gIs neg ga ρ = (ga ρ).bind (isNonD neg) := rfl
@[simp] theorem e_gIxO : gIxO i gb ρ = match ρ[i]? with | some (.ow l) => (gb ρ).bind fun y => ixD (.lst l) y | _ => .bad := rfl
@[simp] theorem e_gNil : gNil ρ = .ok [] := rfl
@[simp] theorem e_gCons : gCons ga gs ρ = (ga ρ).bind fun x => (gs ρ).bind fun xs => .ok (x :: xs) := rfl
@[simp] theorem e_gTup : gTup gs ρ = (gs ρ).bind fun xs => if xs.length ≤ lim then .ok (.tup xs) else .bad := rfl
@[simp] theorem e_gLst : gLst gs ρ = (gs ρ).bind fun xs => if xs.length ≤ lim then .ok (.lst xs) else .bad := rfl
@[simp] theorem e_gCall {f : List D → Rz D} : gCall f gs ρ = (gs ρ).bind f := rfl
@[simp] theorem e_gRng {f : List D → Rz (List D)} : gRng f gs ρ = (gs ρ).bind f := rfl
@[simp] theorem e_gIter : gIter ga ρ = (ga ρ).bind iterD := rfl
@[simp] theorem e_gCh {f f' : D → D → Rz D} : gCh f f' ga gb gc ρ = (ga ρ).bind fun x => (gb ρ).bind fun y => (f x y).bind fun z => (asB z).bind fun k => if k then (gc ρ).bind fun w => f' y w else .ok (.bl false) := rfl
@[simp] theorem e_gCh3 {f f' f'' : D → D → Rz D} : gCh3 f f' f'' ga gb gc gd ρ = (ga ρ).bind fun x => (gb ρ).bind fun y => (f x y).bind fun z => (asB z).bind fun k => if k then (gc ρ).bind fun w => (f' y w).bind fun z' => (asB z').bind fun k' => if k' then (gd ρ).bind fun w' => (f'' w w').bind asB else .ok false else .ok false := rfl
@[simp] theorem e_gYes : gYes ρ = .ok true := rfl
@[simp] theorem e_gLc {gi : Rho → Rz (List D)} {tg : Tg} {ow : List Nat} {c : Rho → Rz Bool} {ge : Rho → Rz D} : gLc gi tg ow c ge ρ = (gi ρ).bind fun xs => if xs.length ≤ lim then (lcGo tg c ge (wipeR ρ ow) xs).bind fun l => .ok (.lst l) else .bad := rfl
@[simp] theorem e_sSet : sSet i ga ρ = rzS ρ (fun d => .nx (ρ.set i (.va d))) (ga ρ) := rfl
@[simp] theorem e_sRet : sRet ga ρ = rzS ρ (fun d => .rt d) (ga ρ) := rfl
@[simp] theorem e_sExp : sExp ga ρ = rzS ρ (fun _ => .nx ρ) (ga ρ) := rfl
@[simp] theorem e_sPair {t : Tg} : sPair t ga ρ = rzS ρ (fun d => match bindT t d ρ with | some ρ' => .nx ρ' | none => .bad) (ga ρ) := rfl
@[simp] theorem e_sNil : sNil ρ = .nx ρ := rfl
@[simp] theorem e_sSeq : sSeq s t ρ = match s ρ with | .nx ρ' => t ρ' | o => o := rfl
@[simp] theorem e_sIf : sIf p s t ρ = rzS ρ (fun k => if k then s ρ else t ρ) (p ρ) := rfl
@[simp] theorem e_sWp {vs : List Nat} : sWp vs s ρ = ocMap (fun r => wipeR r vs) (s ρ) := rfl
@[simp] theorem e_sFz : sFz i s ρ = match ρ[i]? with | some (.ow l) => s (ρ.set i (.va (.lst l))) | _ => .bad := rfl
@[simp] theorem e_sOwn : sOwn i gs ρ = rzS ρ (fun ds => if ds.length ≤ lim then .nx (ρ.set i (.ow ds)) else .bad) (gs ρ) := rfl
@[simp] theorem e_sApp : sApp i ga ρ = match ρ[i]? with | some (.ow l) => rzS ρ (fun d => if l.length ≤ lim then .nx (ρ.set i (.ow (l ++ [d]))) else .bad) (ga ρ) | _ => .bad := rfl
@[simp] theorem e_sFor {gi : Rho → Rz (List D)} {tg : Tg} {wp : List Nat} : sFor gi tg wp s ρ = rzS ρ (fun xs => forGo tg wp s xs ρ) (gi ρ) := rfl
@[simp] theorem e_sWh {n : Nat} {wp : List Nat} : sWh n wp p s ρ = whGo wp p s n ρ := rfl
@[simp] theorem e_sRaise {c : Ec} : sRaise c ρ = .er c ρ := rfl
@[simp] theorem e_sTry {k : Nat} {cat : Ec → Bool} : sTry i k cat s ρ = match s ρ with | .er c ρ' => if cat c then .nx ((ρ'.set k (.va (.exc c))).set i .no) else .bad | o => o := rfl
@[simp] theorem e_rzSok {α : Type} {k : α → Oc} {a : α} : rzS ρ k (.ok a) = k a := rfl
@[simp] theorem e_rzSer {α : Type} {k : α → Oc} {c : Ec} : rzS ρ k (.er c) = .er c ρ := rfl
@[simp] theorem e_ocnx {f : Rho → Rho} : ocMap f (.nx ρ) = .nx (f ρ) := rfl
@[simp] theorem e_ocrt {f : Rho → Rho} : ocMap f (.rt d) = .rt d := rfl
@[simp] theorem e_ocer {f : Rho → Rho} {c : Ec} : ocMap f (.er c ρ) = .er c ρ := rfl
@[simp] theorem e_wipeN : wipeR ρ [] = ρ := rfl
@[simp] theorem e_wipeC {vs : List Nat} : wipeR ρ (i :: vs) = (wipeR ρ vs).set i .no := rfl
@[simp] theorem e_asB {k : Bool} : asB (.bl k) = .ok k := rfl
@[simp] theorem e_truB {k : Bool} : truD (.bl k) = .ok k := rfl
@[simp] theorem e_truL {l : List D} : truD (.lst l) = .ok (!l.isEmpty) := rfl
@[simp] theorem e_truT {l : List D} : truD (.tup l) = .ok (!l.isEmpty) := rfl
@[simp] theorem e_truS {l : List Int} : truD (.scr l) = .ok (!l.isEmpty) := rfl
@[simp] theorem e_bindN : bindT (.nm i) x ρ = some (ρ.set i (.va x)) := rfl
@[simp] theorem e_bindP : bindT (.pr i j) (.tup [x, y]) ρ = some ((ρ.set i (.va x)).set j (.va y)) := rfl
@[simp] theorem e_addI {a b : Int} : addD (.int a) (.int b) = .ok (.int (a + b)) := rfl
@[simp] theorem e_addT {l m : List D} : addD (.tup l) (.tup m) = if l.length + m.length ≤ lim then .ok (.tup (l ++ m)) else .bad := rfl
@[simp] theorem e_addL {l m : List D} : addD (.lst l) (.lst m) = if l.length + m.length ≤ lim then .ok (.lst (l ++ m)) else .bad := rfl
@[simp] theorem e_subI {a b : Int} : subD (.int a) (.int b) = .ok (.int (a - b)) := rfl
@[simp] theorem e_lenL {l : List D} : lenD [.lst l] = .ok (.int l.length) := rfl
@[simp] theorem e_lenT {l : List D} : lenD [.tup l] = .ok (.int l.length) := rfl
@[simp] theorem e_lenS {l : List Int} : lenD [.scr l] = .ok (.int l.length) := rfl
@[simp] theorem e_listL {l : List D} : listD [.lst l] = .ok (.lst l) := rfl
@[simp] theorem e_listT {l : List D} : listD [.tup l] = .ok (.lst l) := rfl
@[simp] theorem e_tupL {l : List D} : tupleD [.lst l] = .ok (.tup l) := rfl
@[simp] theorem e_tupT {l : List D} : tupleD [.tup l] = .ok (.tup l) := rfl
@[simp] theorem e_iterL {l : List D} : iterD (.lst l) = .ok l := rfl
@[simp] theorem e_iterT {l : List D} : iterD (.tup l) = .ok l := rfl
@[simp] theorem e_leI {a b : Int} : leD (.int a) (.int b) = .ok (.bl (decide (a ≤ b))) := rfl
@[simp] theorem e_gtI {a b : Int} : gtD (.int a) (.int b) = .ok (.bl (decide (b < a))) := rfl
@[simp] theorem e_ltI {a b : Int} : ltD (.int a) (.int b) = .ok (.bl (decide (a < b))) := rfl
theorem lim_is : lim = 100000 := rfl
theorem e_mod {a b : Int} (h : 0 < b) : modD (.int a) (.int b) = .ok (.int (a % b)) := if_pos h
theorem e_div {a b : Int} (h : 0 < b) (h2 : b < 1073741824) : divD (.int a) (.int b) = .ok (.int (a / b)) := if_pos ⟨h, h2⟩
theorem e_mul {a b : Int} (h : CMul a b) : mulD (.int a) (.int b) = .ok (.int (a * b)) := if_pos h
end
/-! indexes -/
theorem ixN_nn {n : Nat} {k : Nat} (h : k < n) : ixN n (k : Int) = some k := by
  unfold ixN
  rw [if_pos (Int.natCast_nonneg k), if_pos (by omega), Int.toNat_natCast]
theorem atI_nn {α : Type} {l : List α} {k : Nat} {a : α} (h : l[k]? = some a) : atI l (k : Int) = some a := by
  have hk := (List.getElem?_eq_some_iff.mp h).1
  unfold atI
  rw [ixN_nn hk]
  exact h
theorem ixL_nn {l : List D} {k : Nat} {x : D} (h : l[k]? = some x) : ixD (.lst l) (.int (k : Int)) = .ok x := by
  show (match atI l (k : Int) with | some x => Rz.ok x | none => .bad) = _
  rw [atI_nn h]
theorem ixT_nn {l : List D} {k : Nat} {x : D} (h : l[k]? = some x) : ixD (.tup l) (.int (k : Int)) = .ok x := by
  show (match atI l (k : Int) with | some x => Rz.ok x | none => .bad) = _
  rw [atI_nn h]
@[simp] theorem ixT_0 {x : D} {l : List D} : ixD (.tup (x :: l)) (.int 0) = .ok x := ixT_nn (k := 0) rfl
@[simp] theorem ixT_1 {x y : D} {l : List D} : ixD (.tup (x :: y :: l)) (.int 1) = .ok y := ixT_nn (k := 1) rfl
@[simp] theorem ixL_0 {x : D} {l : List D} : ixD (.lst (x :: l)) (.int 0) = .ok x := ixL_nn (k := 0) rfl
theorem atI_last {α : Type} {l : List α} {a : α} : atI (l ++ [a]) (-1) = some a := by
  unfold atI ixN
  rw [if_neg (by decide), if_pos (by rw [List.length_append, List.length_singleton]; omega)]
  show (l ++ [a])[((-1 : Int) + ((l ++ [a]).length : Nat)).toNat]? = some a
  have : ((-1 : Int) + ((l ++ [a]).length : Nat)).toNat = l.length := by
    rw [List.length_append, List.length_singleton]
    omega
  rw [this]
  simp
theorem ixT_last {l : List D} {x : D} : ixD (.tup (l ++ [x])) (.int (-1)) = .ok x := by
  show (match atI (l ++ [x]) (-1) with | some x => Rz.ok x | none => .bad) = _
  rw [atI_last]
theorem ixL_last {l : List D} {x : D} : ixD (.lst (l ++ [x])) (.int (-1)) = .ok x := by
  show (match atI (l ++ [x]) (-1) with | some x => Rz.ok x | none => .bad) = _
  rw [atI_last]
/-! sets, tuples of ints -/
def tI' (l : List Int) : D := .tup (l.map D.int)
def lI (l : List Int) : D := .lst (l.map D.int)
def tupI (l : List Int) : D := .tup (l.map D.int)
def wD (n : Int) (ls : List (Int × Int)) : D := .tup [.int n, .lst (ls.map pD)]
theorem inT {neg : Bool} {i : Int} {l : List Int} : inND neg (.int i) (.tup (l.map D.int)) = .ok (.bl (if neg then !decide (i ∈ l) else decide (i ∈ l))) := by
  show (match (match intsOf (l.map D.int) with | some ns => some (decide (i ∈ ns)) | none => none) with | some k => Rz.ok (D.bl (if neg then !k else k)) | none => .bad) = _
  rw [intsOf_map]
theorem inL {neg : Bool} {i : Int} {l : List Int} : inND neg (.int i) (.lst (l.map D.int)) = .ok (.bl (if neg then !decide (i ∈ l) else decide (i ∈ l))) := by
  show (match (match intsOf (l.map D.int) with | some ns => some (decide (i ∈ ns)) | none => none) with | some k => Rz.ok (D.bl (if neg then !k else k)) | none => .bad) = _
  rw [intsOf_map]
/-! equality -/
theorem eqD_self {x : D} {p : PyData} (h : x.py = some p) (hs : SeqAt.shaped p = true) : eqD x x = .ok (.bl true) := by
  unfold eqD eqB
  rw [h]
  simp only [hs, and_self, if_true]
  rw [SeqAt.eqv_refl p (SeqAt.canLay_of_shaped hs)]
theorem neD_self {x : D} {p : PyData} (h : x.py = some p) (hs : SeqAt.shaped p = true) : neD x x = .ok (.bl false) := by
  unfold neD eqB
  rw [h]
  simp only [hs, and_self, if_true]
  rw [SeqAt.eqv_refl p (SeqAt.canLay_of_shaped hs)]
  rfl
/-- plain data not deeper than n -/
def Sh (n : Nat) (x : D) : Prop := ∃ p, x.py = some p ∧ p.canLay0 = true ∧ p.depth ≤ n
theorem Sh.non {n : Nat} : Sh n .non := ⟨_, rfl, rfl, Nat.zero_le _⟩
theorem Sh.bl {n : Nat} {b : Bool} : Sh n (.bl b) := ⟨_, rfl, rfl, Nat.zero_le _⟩
theorem Sh.int {n : Nat} {i : Int} : Sh n (.int i) := ⟨_, rfl, rfl, Nat.zero_le _⟩
theorem Sh.str {n : Nat} {s : Str} (h : PyData.strOk s = true) : Sh n (.str s) := ⟨_, rfl, h, Nat.zero_le _⟩
theorem Sh.all {n : Nat} : ∀ {l : List D}, (∀ x ∈ l, Sh n x) → ∃ ps, pyAll l = some ps ∧ PyData.canLayAll0 ps = true ∧ PyData.depthAll ps ≤ n
  | [], _ => ⟨[], rfl, rfl, Nat.zero_le _⟩
  | x :: l, h => by
    obtain ⟨p, e1, c1, d1⟩ := h x List.mem_cons_self
    obtain ⟨ps, e2, c2, d2⟩ := Sh.all (l := l) fun y hy => h y (List.mem_cons_of_mem _ hy)
    refine ⟨p :: ps, ?_, ?_, ?_⟩
    · rw [pyAll, e1, e2]
    · rw [PyData.canLayAll0, c1, c2]
      rfl
    · rw [PyData.depthAll]
      omega
theorem Sh.lst {n : Nat} {l : List D} (h : ∀ x ∈ l, Sh n x) : Sh (n + 1) (.lst l) := by
  obtain ⟨ps, e, c, d⟩ := Sh.all h
  refine ⟨.list ps, by rw [D.py, e]; rfl, c, ?_⟩
  rw [PyData.depth]
  omega
theorem Sh.tup {n : Nat} {l : List D} (h : ∀ x ∈ l, Sh n x) : Sh (n + 1) (.tup l) := by
  obtain ⟨ps, e, c, d⟩ := Sh.all h
  refine ⟨.tuple ps, by rw [D.py, e]; rfl, c, ?_⟩
  rw [PyData.depth]
  omega
theorem Sh.ok {n : Nat} {x : D} (h : Sh n x) (hn : n ≤ 64) : ∃ p, x.py = some p ∧ SeqAt.shaped p = true := by
  obtain ⟨p, e, c, d⟩ := h
  refine ⟨p, e, ?_⟩
  unfold SeqAt.shaped
  rw [c, decide_eq_true (Nat.le_trans d hn)]
  rfl
theorem Sh.eq {n : Nat} {x : D} (h : Sh n x) (hn : n ≤ 64) : eqD x x = .ok (.bl true) := by
  obtain ⟨p, e, c⟩ := h.ok hn
  exact eqD_self e c
theorem Sh.ne {n : Nat} {x : D} (h : Sh n x) (hn : n ≤ 64) : neD x x = .ok (.bl false) := by
  obtain ⟨p, e, c⟩ := h.ok hn
  exact neD_self e c
theorem Sh.ints {n : Nat} {l : List Int} : Sh (n + 1) (.tup (l.map D.int)) := Sh.tup fun x hx => by
  obtain ⟨i, _, rfl⟩ := List.mem_map.mp hx
  exact Sh.int
theorem Sh.intsL {n : Nat} {l : List Int} : Sh (n + 1) (.lst (l.map D.int)) := Sh.lst fun x hx => by
  obtain ⟨i, _, rfl⟩ := List.mem_map.mp hx
  exact Sh.int
theorem Sh.pair {n : Nat} {p : Int × Int} : Sh (n + 1) (pD p) := Sh.tup fun x hx => by
  simp only [List.mem_cons, List.not_mem_nil, or_false] at hx
  rcases hx with rfl | rfl
  · exact Sh.int
  · exact Sh.int
theorem Sh.pairs {n : Nat} {l : List (Int × Int)} : Sh (n + 2) (.lst (l.map pD)) := Sh.lst fun x hx => by
  obtain ⟨i, _, rfl⟩ := List.mem_map.mp hx
  exact Sh.pair
/-! lists that are not the same -/
theorem py_ints : ∀ l : List Int, pyAll (l.map D.int) = some (l.map PyData.int)
  | [] => rfl
  | i :: l => by
    rw [List.map_cons, pyAll, py_ints l]
    rfl
theorem eqv_ints : ∀ l m : List Int, PyData.eqvAll (l.map PyData.int) (m.map PyData.int) = decide (l = m)
  | [], [] => rfl
  | [], _ :: _ => by simp [PyData.eqvAll]
  | _ :: _, [] => by simp [PyData.eqvAll]
  | a :: l, b :: m => by
    rw [List.map_cons, List.map_cons, PyData.eqvAll, eqv_ints l m]
    show (a == b && decide (l = m)) = _
    by_cases h : a = b
    · by_cases h2 : l = m
      · simp [h, h2]
      · simp [h, h2]
    · simp [h]
theorem eqL {l m : List Int} : eqD (.lst (l.map D.int)) (.lst (m.map D.int)) = .ok (.bl (decide (l = m))) := by
  obtain ⟨p, e1, c1⟩ := (Sh.intsL (n := 0) (l := l)).ok (by decide)
  obtain ⟨q, e2, c2⟩ := (Sh.intsL (n := 0) (l := m)).ok (by decide)
  have f1 : p = .list (l.map PyData.int) := by
    rw [D.py, py_ints] at e1
    exact (Option.some.inj e1).symm
  have f2 : q = .list (m.map PyData.int) := by
    rw [D.py, py_ints] at e2
    exact (Option.some.inj e2).symm
  unfold eqD eqB
  rw [e1, e2]
  simp only [c1, c2, and_self, if_true]
  subst f1
  subst f2
  show Rz.ok (D.bl (PyData.eqvAll _ _)) = _
  rw [eqv_ints]
theorem neNil {n : Nat} {l : List D} (h : ∀ x ∈ l, Sh n x) (hn : n ≤ 63) : neD (.lst l) (.lst []) = .ok (.bl (!l.isEmpty)) := by
  obtain ⟨ps, e, c, d⟩ := Sh.all h
  have hs : SeqAt.shaped (.list ps) = true := by
    unfold SeqAt.shaped
    have c' : (PyData.list ps).canLay0 = true := c
    have d' : (PyData.list ps).depth ≤ 64 := by
      rw [PyData.depth]
      omega
    rw [c', decide_eq_true d']
    rfl
  have hp : (D.lst l).py = some (.list ps) := by
    rw [D.py, e]
    rfl
  have h0 : (D.lst []).py = some (.list []) := rfl
  unfold neD eqB
  rw [hp, h0]
  have h1 : SeqAt.shaped (.list []) = true := rfl
  simp only [hs, h1, and_self, if_true]
  cases l with
  | nil =>
    rw [pyAll] at e
    cases e
    rfl
  | cons x l =>
    rw [pyAll] at e
    split at e
    · cases e
      rfl
    · cases e
def ltPr (p q : Int × Int) : Bool := decide (p.1 < q.1 ∨ (p.1 = q.1 ∧ p.2 < q.2))
theorem ltP (p q : Int × Int) : ltD (pD p) (pD q) = .ok (.bl (ltPr p q)) := by
  have e : ltD (pD p) (pD q) = .ok (.bl (PyProof.Rows.lexLt PyProof.Rows.itemOrd [.inl 1, .inl p.1, .inl 1, .inl p.2, .inl 0] [.inl 1, .inl q.1, .inl 1, .inl q.2, .inl 0])) := rfl
  have ll : ∀ u v w x : Int, PyProof.Rows.lexLt PyProof.Rows.itemOrd [.inl 1, .inl u, .inl 1, .inl v, .inl 0] [.inl 1, .inl w, .inl 1, .inl x, .inl 0] = (decide (u < w) || (!decide (w < u) && (decide (v < x) || (!decide (x < v) && false)))) := fun u v w x => rfl
  rw [e, ll]
  congr 2
  unfold ltPr
  rw [Bool.eq_iff_iff]
  simp only [Bool.and_false, Bool.or_false, Bool.or_eq_true, Bool.and_eq_true, Bool.not_eq_true', decide_eq_false_iff_not, decide_eq_true_eq]
  omega
theorem eqII {a b : Int} : eqD (.int a) (.int b) = .ok (.bl (decide (a = b))) := by
  show (match (if SeqAt.shaped (.int a) = true ∧ SeqAt.shaped (.int b) = true then some (PyData.eqv (.int a) (.int b)) else none) with | some k => Rz.ok (D.bl k) | none => .bad) = _
  rw [if_pos ⟨rfl, rfl⟩]
  show Rz.ok (D.bl (a == b)) = _
  congr 2
theorem neII {a b : Int} : neD (.int a) (.int b) = .ok (.bl (!decide (a = b))) := by
  show (match (if SeqAt.shaped (.int a) = true ∧ SeqAt.shaped (.int b) = true then some (PyData.eqv (.int a) (.int b)) else none) with | some k => Rz.ok (D.bl (!k)) | none => .bad) = _
  rw [if_pos ⟨rfl, rfl⟩]
  show Rz.ok (D.bl (!(a == b))) = _
  congr 2
/-! a loop that holds -/
theorem for_inv {tg : Tg} {wp : List Nat} {body : Rho → Oc} (P : Nat → Rho → Prop) : ∀ (xs : List D) (n : Nat) (ρ : Rho), P n ρ →
    (∀ i x ρ, xs[i]? = some x → P (n + i) ρ → ∃ ρ1 ρ2, bindT tg x ρ = some ρ1 ∧ body ρ1 = .nx ρ2 ∧ P (n + i + 1) (wipeR ρ2 wp)) → ∃ ρ', forGo tg wp body xs ρ = .nx ρ' ∧ P (n + xs.length) ρ'
  | [], n, ρ, h, _ => ⟨ρ, rfl, h⟩
  | x :: xs, n, ρ, h, st => by
    obtain ⟨ρ1, ρ2, e1, e2, h2⟩ := st 0 x ρ rfl h
    obtain ⟨ρ', e3, h3⟩ := for_inv P xs (n + 1) _ h2 fun i y ρ hy hp => by
      have e : n + 1 + i = n + (i + 1) := by omega
      rw [e] at hp ⊢
      exact st (i + 1) y ρ (by simpa using hy) hp
    refine ⟨ρ', ?_, ?_⟩
    · rw [forGo, e1]
      show (match body ρ1 with | .nx ρ2 => forGo tg wp body xs (wipeR ρ2 wp) | o => o) = _
      rw [e2]
      exact e3
    · have e : n + (x :: xs).length = n + 1 + xs.length := by
        rw [List.length_cons]
        omega
      rw [e]
      exact h3
theorem rngL_get {lo : Int} {n i : Nat} {x : D} (h : (rngL lo n)[i]? = some x) : x = .int (lo + (i : Int)) ∧ i < n := by
  unfold rngL at h
  rw [List.getElem?_map] at h
  cases e : (List.range n)[i]? with
  | none =>
    rw [e] at h
    cases h
  | some c =>
    rw [e] at h
    obtain ⟨h1, h2⟩ := List.getElem?_eq_some_iff.mp e
    rw [List.length_range] at h1
    rw [List.getElem_range] at h2
    subst h2
    cases h
    exact ⟨rfl, h1⟩
theorem rng1_ok {n : Int} (h : 0 ≤ n ∧ n ≤ 100000) : rng1D [.int n] = .ok (rngL 0 n.toNat) := by
  show (if -(lim : Int) ≤ n ∧ n ≤ lim then Rz.ok (rngL 0 n.toNat) else .bad) = _
  rw [if_pos (by rw [lim_is]; omega)]
theorem rng2_ok {m n : Int} (h : 0 ≤ m ∧ m ≤ 100000) (h2 : 0 ≤ n ∧ n ≤ 100000) : rng2D [.int m, .int n] = .ok (rngL m (n - m).toNat) := by
  show (if (-(lim : Int) ≤ m ∧ m ≤ lim) ∧ -(lim : Int) ≤ n ∧ n ≤ lim then Rz.ok (rngL m (n - m).toNat) else .bad) = _
  rw [if_pos (by rw [lim_is]; omega)]
theorem fn_nx {a n : Nat} {s : Rho → Oc} {ds : List D} {ρ : Rho} (h : ds.length = a) (e : s (startR n ds) = .nx ρ) : fnD a n s ds = .ok .non := by
  unfold fnD
  rw [if_pos h, e]
theorem fn_rt {a n : Nat} {s : Rho → Oc} {ds : List D} {d : D} (h : ds.length = a) (e : s (startR n ds) = .rt d) : fnD a n s ds = .ok d := by
  unfold fnD
  rw [if_pos h, e]
theorem fn_er {a n : Nat} {s : Rho → Oc} {ds : List D} {ρ : Rho} {c : Ec} (h : ds.length = a) (e : s (startR n ds) = .er c ρ) : fnD a n s ds = .er c := by
  unfold fnD
  rw [if_pos h, e]
theorem seq_nx {s t : Rho → Oc} {ρ ρ' : Rho} {o : Oc} (h1 : s ρ = .nx ρ') (h2 : t ρ' = o) : sSeq s t ρ = o := by
  unfold sSeq
  rw [h1]
  exact h2
end FM
set_option Elab.async false
set_option linter.all false
set_option maxRecDepth 100000
set_option maxHeartbeats 4000000
/-! FM, plain: webs, sets: what the program's own defs say of them. -/
namespace FM
open PySem L2
structure WebOk (n : Int) (ls : List (Int × Int)) : Prop where
  n0 : 0 ≤ n
  n1 : n ≤ 10
  ln : ∀ p ∈ ls, 0 ≤ p.1 ∧ p.1 < p.2 ∧ p.2 < n
  up : ls.Pairwise fun p q => ltPr p q = true
  le : ls.length ≤ 900
structure SetOk (n : Int) (S : List Int) : Prop where
  up : S.Pairwise (· < ·)
  bd : ∀ x ∈ S, 0 ≤ x ∧ x < n
theorem rise_len : ∀ {S : List Int} {a n : Int}, a ≤ n → S.Pairwise (· < ·) → (∀ x ∈ S, a ≤ x ∧ x < n) → (S.length : Int) ≤ n - a
  | [], a, n, h, _, _ => by
    simp
    omega
  | x :: S, a, n, h, up, bd => by
    rw [List.pairwise_cons] at up
    have hx := bd x List.mem_cons_self
    have ih := rise_len (S := S) (a := x + 1) (n := n) (by omega) up.2 fun y hy => ⟨up.1 y hy, (bd y (List.mem_cons_of_mem _ hy)).2⟩
    rw [List.length_cons]
    omega
theorem SetOk.len {n : Int} {S : List Int} (h : SetOk n S) (h0 : 0 ≤ n) : (S.length : Int) ≤ n := by
  have := rise_len h0 h.up h.bd
  omega
/-! look_web, of lines as they come: pairs, or a line of one spot -/
abbrev Ln := Int × Option Int
def lnD : Ln → D
  | (a, some b) => .tup [.int a, .int b]
  | (a, none) => .tup [.int a]
def lineBad (n : Int) (pv : Option Ln) : Ln → Bool
  | (_, none) => true
  | (a, some b) => !decide (0 ≤ a) || !decide (a < b) || !decide (b < n) || (match pv with
    | some (c, some d) => !ltPr (c, d) (a, b)
    | _ => false)
def prev (L : List Ln) : Nat → Option Ln
  | 0 => none
  | k + 1 => L[k]?
noncomputable def lw_body : Rho → Oc := (sWp [3] (sIf (gOr (gTst (gBin neD (gCall lenD (gCons (gBin ixD (gVar 2) (gVar 3)) gNil)) (gC (.int 2)))) (gOr (gNot (gCh3 leD ltD ltD (gC (.int 0)) (gBin ixD (gBin ixD (gVar 2) (gVar 3)) (gC (.int 0))) (gBin ixD (gBin ixD (gVar 2) (gVar 3)) (gC (.int 1))) (gVar 1))) (gAnd (gTst (gBin gtD (gVar 3) (gC (.int 0)))) (gNot (gTst (gBin ltD (gBin ixD (gVar 2) (gBin subD (gVar 3) (gC (.int 1)))) (gBin ixD (gVar 2) (gVar 3))))))))
  (sRaise .web)
  sNil))
theorem lw_step {n : Int} {L : List Ln} {k : Nat} {l : Ln} (hl : L[k]? = some l) (hp : ∀ pv, prev L k = some pv → ∃ c d, pv = (c, some d)) :
    lw_body [.no, .va (.int n), .va (.lst (L.map lnD)), .va (.int k)] = if lineBad n (prev L k) l = true then .er .web [.no, .va (.int n), .va (.lst (L.map lnD)), .va (.int k)] else .nx [.no, .va (.int n), .va (.lst (L.map lnD)), .no] := by
  have h1 : ixD (.lst (L.map lnD)) (.int (k : Int)) = .ok (lnD l) := ixL_nn (by rw [List.getElem?_map, hl]; rfl)
  unfold lw_body
  obtain ⟨a, o⟩ := l
  cases o with
  | none =>
    simp [h1, lnD, neII, lineBad]
  | some b =>
    by_cases ha : 0 ≤ a
    · by_cases hab : a < b
      · by_cases hb : b < n
        · cases k with
          | zero =>
            have h1' : ixD (.lst (L.map lnD)) (.int 0) = .ok (lnD (a, some b)) := h1
            simp [h1', lnD, neII, lineBad, ha, hab, hb, prev]
          | succ k =>
            have hk : k < L.length := by
              have := (List.getElem?_eq_some_iff.mp hl).1
              omega
            obtain ⟨c, d, e⟩ := hp L[k] (List.getElem?_eq_getElem hk)
            have h2' : ixD (.lst (L.map lnD)) (.int (k : Int)) = .ok (pD (c, d)) := by
              refine ixL_nn ?_
              rw [List.getElem?_map, List.getElem?_eq_getElem hk, e]
              rfl
            have h1' : ixD (.lst (L.map lnD)) (.int ((k : Int) + 1)) = .ok (pD (a, b)) := h1
            have hk0 : (0 : Int) < (k : Int) + 1 := by omega
            have hpv : prev L (k + 1) = some (c, some d) := by
              show L[k]? = _
              rw [List.getElem?_eq_getElem hk, e]
            have hlen : lenD [pD (a, b)] = .ok (.int 2) := rfl
            have i0 : ixD (pD (a, b)) (.int 0) = .ok (.int a) := rfl
            have i1 : ixD (pD (a, b)) (.int 1) = .ok (.int b) := rfl
            simp [h1', h2', hlen, i0, i1, neII, lineBad, ha, hab, hb, hpv, hk0, ltP]
            cases ltPr (c, d) (a, b) <;> simp
        · simp [h1, lnD, neII, lineBad, ha, hab, hb]
      · simp [h1, lnD, neII, lineBad, ha, hab]
    · simp [h1, lnD, neII, lineBad, ha]
theorem lw_go {n : Int} {L : List Ln} : ∀ (m k : Nat), k + m = L.length → (∀ pv, prev L k = some pv → ∃ c d, pv = (c, some d)) →
    ((∀ j l, k ≤ j → L[j]? = some l → lineBad n (prev L j) l = false) → forGo (.nm 3) [3] lw_body ((rngL 0 L.length).drop k) [.no, .va (.int n), .va (.lst (L.map lnD)), .no] = .nx [.no, .va (.int n), .va (.lst (L.map lnD)), .no]) ∧
    ((∃ j l, k ≤ j ∧ L[j]? = some l ∧ lineBad n (prev L j) l = true) → ∃ ρ, forGo (.nm 3) [3] lw_body ((rngL 0 L.length).drop k) [.no, .va (.int n), .va (.lst (L.map lnD)), .no] = .er .web ρ)
  | 0, k, hk, _ => by
    have ed : (rngL 0 L.length).drop k = [] := List.drop_eq_nil_of_le (by rw [rngL_len]; omega)
    rw [ed]
    refine ⟨fun _ => rfl, fun ⟨j, l, h1, h2, _⟩ => ?_⟩
    have := (List.getElem?_eq_some_iff.mp h2).1
    omega
  | m + 1, k, hk, hp => by
    have hkl : k < L.length := by omega
    have ek : L[k]? = some L[k] := List.getElem?_eq_getElem hkl
    have ed : (rngL 0 L.length).drop k = .int (k : Int) :: (rngL 0 L.length).drop (k + 1) := by
      have hk2 : k < (rngL 0 L.length).length := by rw [rngL_len]; exact hkl
      rw [List.drop_eq_getElem_cons hk2]
      congr 1
      have := (rngL_get (List.getElem?_eq_getElem hk2)).1
      rw [this, Int.zero_add]
    have st := lw_step (n := n) ek hp
    have go : forGo (.nm 3) [3] lw_body ((rngL 0 L.length).drop k) [.no, .va (.int n), .va (.lst (L.map lnD)), .no] = match lw_body [.no, .va (.int n), .va (.lst (L.map lnD)), .va (.int k)] with
      | .nx ρ2 => forGo (.nm 3) [3] lw_body ((rngL 0 L.length).drop (k + 1)) (wipeR ρ2 [3])
      | o => o := by
      rw [ed]
      rfl
    cases hb : lineBad n (prev L k) L[k] with
    | true =>
      rw [hb, if_pos rfl] at st
      refine ⟨fun h => ?_, fun _ => ?_⟩
      · have := h k L[k] (Nat.le_refl _) ek
        rw [hb] at this
        cases this
      · rw [go, st]
        exact ⟨_, rfl⟩
    | false =>
      rw [hb, if_neg Bool.false_ne_true] at st
      have hp' : ∀ pv, prev L (k + 1) = some pv → ∃ c d, pv = (c, some d) := fun pv e => by
        have e' : L[k]? = some pv := e
        rw [ek] at e'
        cases e'
        have key : ∀ l : Ln, lineBad n (prev L k) l = false → ∃ c d, l = (c, some d) := fun l hl => by
          obtain ⟨a, o⟩ := l
          cases o with
          | none => cases hl
          | some b => exact ⟨a, b, rfl⟩
        exact key _ hb
      obtain ⟨i1, i2⟩ := lw_go m (k + 1) (by omega) hp'
      refine ⟨fun h => ?_, fun ⟨j, l, h1, h2, h3⟩ => ?_⟩
      · rw [go, st]
        exact i1 fun j l hj hl => h j l (by omega) hl
      · have hj : k + 1 ≤ j := by
          rcases Nat.lt_or_ge k j with z | z
          · exact z
          · have : j = k := by omega
            subst this
            rw [ek] at h2
            cases h2
            rw [hb] at h3
            cases h3
        obtain ⟨ρ, e⟩ := i2 ⟨j, l, hj, h2, h3⟩
        refine ⟨ρ, ?_⟩
        rw [go, st]
        exact e
theorem lw_head {n : Int} {L : List Ln} (hL : L.length ≤ 1000) : b_look_web [.va (.tup [.int n, .lst (L.map lnD)]), .no, .no, .no] = if 0 ≤ n ∧ n ≤ 10 then ocMap (fun r => wipeR r [1, 2, 3]) (forGo (.nm 3) [3] lw_body (rngL 0 L.length) [.no, .va (.int n), .va (.lst (L.map lnD)), .no]) else .er .web [.no, .va (.int n), .va (.lst (L.map lnD)), .no] := by
  have hr : rng1D [.int (L.length : Int)] = .ok (rngL 0 L.length) := by
    rw [rng1_ok (by omega), Int.toNat_natCast]
  unfold b_look_web
  by_cases h0 : 0 ≤ n
  · by_cases h1 : n ≤ 10
    · simp [h0, h1, hr]
      rfl
    · simp [h0, h1]
  · simp [h0]
theorem look_web_bad {n : Int} {L : List Ln} (hL : L.length ≤ 1000) (h : ¬ (0 ≤ n ∧ n ≤ 10) ∨ ∃ j l, L[j]? = some l ∧ lineBad n (prev L j) l = true) : f_look_web [.tup [.int n, .lst (L.map lnD)]] = .er .web := by
  have hd := lw_head (n := n) hL
  by_cases hn : 0 ≤ n ∧ n ≤ 10
  · rw [if_pos hn] at hd
    rcases h with h | ⟨j, l, h1, h2⟩
    · exact absurd hn h
    · obtain ⟨ρ, e⟩ := (lw_go (n := n) (L := L) L.length 0 (by omega) (fun pv e => nomatch e)).2 ⟨j, l, Nat.zero_le _, h1, h2⟩
      rw [List.drop_zero] at e
      rw [e] at hd
      exact fn_er rfl hd
  · rw [if_neg hn] at hd
    exact fn_er rfl hd
theorem look_web_ok {n : Int} {ls : List (Int × Int)} (h : WebOk n ls) : f_look_web [wD n ls] = .ok .non := by
  have eL : wD n ls = .tup [.int n, .lst ((ls.map fun p => ((p.1, some p.2) : Ln)).map lnD)] := by
    unfold wD
    rw [List.map_map]
    rfl
  rw [eL]
  have hd := lw_head (n := n) (L := ls.map fun p => ((p.1, some p.2) : Ln)) (by rw [List.length_map]; exact Nat.le_trans h.le (by decide))
  rw [if_pos ⟨h.n0, h.n1⟩] at hd
  have e := (lw_go (n := n) (L := ls.map fun p => ((p.1, some p.2) : Ln)) _ 0 (Nat.zero_add _) (fun pv e => nomatch e)).1 fun j l _ hl => by
    rw [List.getElem?_map] at hl
    cases e1 : ls[j]? with
    | none =>
      rw [e1] at hl
      cases hl
    | some p =>
      rw [e1] at hl
      cases hl
      have hp := h.ln p (List.mem_of_getElem? e1)
      cases j with
      | zero => simp [lineBad, prev, hp]
      | succ j =>
        have hj : j < ls.length := by
          have := (List.getElem?_eq_some_iff.mp e1).1
          omega
        have e2 : ls[j]? = some ls[j] := List.getElem?_eq_getElem hj
        have hlt : ltPr ls[j] p = true := by
          have hj1 := (List.getElem?_eq_some_iff.mp e1).1
          have := List.pairwise_iff_getElem.mp h.up j (j + 1) hj hj1 (Nat.lt_succ_self _)
          have e3 : ls[j + 1] = p := (List.getElem?_eq_some_iff.mp e1).2
          rw [e3] at this
          exact this
        have hpv : prev (ls.map fun p => ((p.1, some p.2) : Ln)) (j + 1) = some (ls[j].1, some ls[j].2) := by
          show (ls.map fun p => ((p.1, some p.2) : Ln))[j]? = _
          rw [List.getElem?_map, e2]
          rfl
        rw [hpv]
        simp [lineBad, hp, hlt]
  rw [List.drop_zero] at e
  rw [e] at hd
  exact fn_nx rfl hd
end FM

set_option Elab.async false
set_option linter.all false
set_option maxRecDepth 100000
set_option maxHeartbeats 4000000
/-! FM, plain: what a script becomes: numbers, a web, a set. -/
namespace FM
open PySem L2
theorem e_ixS {l : List Int} {k : Nat} {z : Int} (h : l[k]? = some z) : ixD (.scr l) (.int (k : Int)) = .ok (.int z) := by
  show (match atI l (k : Int) with | some x => Rz.ok (D.int x) | none => .bad) = _
  rw [atI_nn h]
theorem cell_eq (ns : List Int) {k : Int} (hk : 0 ≤ k) : ∃ z, f_law_cell [.scr ns, .int k] = .ok (.int z) := by
  have hs : startR 2 [.scr ns, .int k] = [.va (.scr ns), .va (.int k)] := rfl
  cases ns with
  | nil =>
    refine ⟨0, fn_rt rfl ?_⟩
    rw [hs]
    unfold b_law_cell
    simp
  | cons a t =>
    have hp : (0 : Int) < ((a :: t).length : Nat) := by
      rw [List.length_cons]
      omega
    have h0 : 0 ≤ k % ((a :: t).length : Nat) := Int.emod_nonneg _ (by omega)
    have h1 : k % ((a :: t).length : Nat) < ((a :: t).length : Nat) := Int.emod_lt_of_pos _ hp
    obtain ⟨j, hj⟩ := Int.eq_ofNat_of_zero_le h0
    have hj2 : j < (a :: t).length := by omega
    have hm : modD (.int k) (.int ((a :: t).length : Nat)) = .ok (.int (j : Int)) := by
      rw [e_mod hp, hj]
    have hix := e_ixS (List.getElem?_eq_getElem hj2)
    have hm' : modD (.int k) (.int ((t.length : Int) + 1)) = .ok (.int (j : Int)) := hm
    refine ⟨(a :: t)[j], fn_rt rfl ?_⟩
    rw [hs]
    unfold b_law_cell
    simp [hm']
    rw [hix]
    rfl
theorem mix_eq (ns : List Int) {k : Int} (hk : 0 ≤ k) : ∃ m, f_law_mix [.scr ns, .int k] = .ok (.int m) ∧ 0 ≤ m := by
  obtain ⟨z, hz⟩ := cell_eq ns hk
  have hs : startR 3 [.scr ns, .int k] = [.va (.scr ns), .va (.int k), .no] := rfl
  have m1 : mulD (.int 104729) (.int (k + 1)) = .ok (.int (104729 * (k + 1))) := e_mul (.inl ⟨by decide, by decide⟩)
  have d1 : modD (.int (z + 104729 * (k + 1))) (.int 4294967291) = .ok (.int ((z + 104729 * (k + 1)) % 4294967291)) := e_mod (by decide)
  generalize (z + 104729 * (k + 1)) % 4294967291 = u at d1
  have m2 : mulD (.int u) (.int 48271) = .ok (.int (u * 48271)) := e_mul (.inr ⟨by decide, by decide⟩)
  have d2 : modD (.int (u * 48271)) (.int 4294967279) = .ok (.int (u * 48271 % 4294967279)) := e_mod (by decide)
  generalize u * 48271 % 4294967279 = v at d2
  have q1 : divD (.int v) (.int 64) = .ok (.int (v / 64)) := e_div (by decide) (by decide)
  have m3 : mulD (.int (v / 64)) (.int 69621) = .ok (.int (v / 64 * 69621)) := e_mul (.inr ⟨by decide, by decide⟩)
  have d3 : modD (.int (v / 64 * 69621 + v)) (.int 4294967231) = .ok (.int ((v / 64 * 69621 + v) % 4294967231)) := e_mod (by decide)
  refine ⟨(v / 64 * 69621 + v) % 4294967231, fn_rt rfl ?_, Int.emod_nonneg _ (by decide)⟩
  rw [hs]
  unfold b_law_mix
  simp [hz, m1, d1, m2, d2, q1, m3, d3]
/-! a web -/
structure Part (n : Int) (i j : Int) (L : List (Int × Int)) : Prop where
  ln : ∀ p ∈ L, 0 ≤ p.1 ∧ p.1 < p.2 ∧ p.2 < n
  up : L.Pairwise fun p q => ltPr p q = true
  be : ∀ p ∈ L, p.1 < i ∨ (p.1 = i ∧ p.2 < j)
theorem Part.more {n i j : Int} {L : List (Int × Int)} (h : Part n i j L) (h0 : 0 ≤ i) (h1 : i < j) (h2 : j < n) : Part n i (j + 1) (L ++ [(i, j)]) := by
  refine ⟨fun p hp => ?_, List.pairwise_append.mpr ⟨h.up, by simp, fun p hp q hq => ?_⟩, fun p hp => ?_⟩
  · rcases List.mem_append.mp hp with z | z
    · exact h.ln p z
    · rw [List.mem_singleton] at z
      subst z
      exact ⟨h0, h1, h2⟩
  · rw [List.mem_singleton] at hq
    subst hq
    exact decide_eq_true (h.be p hp)
  · rcases List.mem_append.mp hp with z | z
    · have := h.be p z
      omega
    · rw [List.mem_singleton] at z
      subst z
      right
      exact ⟨rfl, by show j < j + 1; omega⟩
theorem Part.next {n i j j' : Int} {L : List (Int × Int)} (h : Part n i j L) (e : j ≤ j') : Part n i j' L := ⟨h.ln, h.up, fun p hp => by
  have := h.be p hp
  omega⟩
theorem Part.row {n i j : Int} {L : List (Int × Int)} (h : Part n i j L) : Part n (i + 1) (i + 2) L := ⟨h.ln, h.up, fun p hp => by
  have := h.be p hp
  omega⟩
noncomputable def wb_in : Rho → Oc := (sSeq (sSet 8 (gBin divD (gCall f_law_mix (gCons (gVar 0) (gCons (gBin addD (gBin addD (gBin addD (gVar 1) (gC (.int 2))) (gBin mulD (gC (.int 8)) (gVar 6))) (gVar 7)) gNil))) (gC (.int 8))))
  (sSeq (sSet 9 (gOrV (gAndV (gBin eqD (gVar 4) (gC (.int 0))) (gBin eqD (gVar 7) (gBin addD (gVar 6) (gC (.int 1))))) (gAndV (gBin eqD (gVar 4) (gC (.int 1))) (gBin eqD (gVar 6) (gBin modD (gVar 8) (gVar 7))))))
  (sWp [7, 8, 9] (sIf (gOr (gTru (gVar 9)) (gAnd (gTst (gBin gtD (gVar 4) (gC (.int 1)))) (gTst (gBin ltD (gBin modD (gVar 8) (gC (.int 6))) (gVar 4)))))
  (sWp [7] (sApp 5 (gTup (gCons (gVar 6) (gCons (gVar 7) gNil)))))
  sNil))))
theorem wb_step (ns : List Int) {k n way i j : Int} {L : List (Int × Int)} (hk : 0 ≤ k) (hi : 0 ≤ i) (hij : i < j) (hL : L.length ≤ 3000) :
    ∃ ρ b, wb_in [.va (.scr ns), .va (.int k), .no, .va (.int n), .va (.int way), .ow (L.map pD), .va (.int i), .va (.int j), .no, .no] = .nx ρ ∧
      wipeR ρ [7, 8, 9] = [.va (.scr ns), .va (.int k), .no, .va (.int n), .va (.int way), .ow ((if b = true then L ++ [(i, j)] else L).map pD), .va (.int i), .no, .no, .no] := by
  obtain ⟨m, hm, _⟩ := mix_eq ns (k := k + 2 + 8 * i + j) (by omega)
  have m1 : mulD (.int 8) (.int i) = .ok (.int (8 * i)) := e_mul (.inl ⟨by decide, by decide⟩)
  have q1 : divD (.int m) (.int 8) = .ok (.int (m / 8)) := e_div (by decide) (by decide)
  generalize m / 8 = u at q1
  have d1 : modD (.int u) (.int j) = .ok (.int (u % j)) := e_mod (by omega)
  have d2 : modD (.int u) (.int 6) = .ok (.int (u % 6)) := e_mod (by decide)
  generalize u % j = v at d1
  generalize u % 6 = w at d2
  have hl2 : (2 : Nat) ≤ lim := by decide
  have hl : L.length ≤ lim := by
    rw [lim_is]
    omega
  have road : ∃ b, gOrV (gAndV (gBin eqD (gVar 4) (gC (.int 0))) (gBin eqD (gVar 7) (gBin addD (gVar 6) (gC (.int 1))))) (gAndV (gBin eqD (gVar 4) (gC (.int 1))) (gBin eqD (gVar 6) (gBin modD (gVar 8) (gVar 7))))
      [.va (.scr ns), .va (.int k), .no, .va (.int n), .va (.int way), .ow (L.map pD), .va (.int i), .va (.int j), .va (.int u), .no] = .ok (.bl b) := by
    by_cases w0 : way = 0
    · by_cases j1 : j = i + 1
      · exact ⟨true, by simp [eqII, w0, j1]⟩
      · exact ⟨false, by simp [eqII, w0, j1]⟩
    · by_cases w1 : way = 1
      · exact ⟨decide (i = v), by simp [eqII, w1, d1]⟩
      · exact ⟨false, by simp [eqII, w0, w1]⟩
  obtain ⟨b, hb⟩ := road
  have e1 : wb_in [.va (.scr ns), .va (.int k), .no, .va (.int n), .va (.int way), .ow (L.map pD), .va (.int i), .va (.int j), .no, .no] =
      ocMap (fun r => wipeR r [7, 8, 9]) (sIf (gOr (gTru (gVar 9)) (gAnd (gTst (gBin gtD (gVar 4) (gC (.int 1)))) (gTst (gBin ltD (gBin modD (gVar 8) (gC (.int 6))) (gVar 4))))) (sWp [7] (sApp 5 (gTup (gCons (gVar 6) (gCons (gVar 7) gNil))))) sNil
        [.va (.scr ns), .va (.int k), .no, .va (.int n), .va (.int way), .ow (L.map pD), .va (.int i), .va (.int j), .va (.int u), .va (.bl b)]) := by
    unfold wb_in
    rw [e_sSeq]
    have a1 : sSet 8 (gBin divD (gCall f_law_mix (gCons (gVar 0) (gCons (gBin addD (gBin addD (gBin addD (gVar 1) (gC (.int 2))) (gBin mulD (gC (.int 8)) (gVar 6))) (gVar 7)) gNil))) (gC (.int 8))) [.va (.scr ns), .va (.int k), .no, .va (.int n), .va (.int way), .ow (L.map pD), .va (.int i), .va (.int j), .no, .no] =
        .nx [.va (.scr ns), .va (.int k), .no, .va (.int n), .va (.int way), .ow (L.map pD), .va (.int i), .va (.int j), .va (.int u), .no] := by
      simp [m1, hm, q1]
    rw [a1]
    show sSeq _ _ [.va (.scr ns), .va (.int k), .no, .va (.int n), .va (.int way), .ow (L.map pD), .va (.int i), .va (.int j), .va (.int u), .no] = _
    rw [e_sSeq, e_sSet, hb]
    rfl
  by_cases hc : (b = true ∨ (1 < way ∧ w < way))
  · refine ⟨[.va (.scr ns), .va (.int k), .no, .va (.int n), .va (.int way), .ow ((L ++ [(i, j)]).map pD), .va (.int i), .no, .no, .no], true, ?_, rfl⟩
    rw [e1]
    cases b with
    | true => simp [hl, hl2, pD]
    | false =>
      have hc' : 1 < way ∧ w < way := by simpa using hc
      simp [d2, hc', hl, hl2, pD]
  · refine ⟨[.va (.scr ns), .va (.int k), .no, .va (.int n), .va (.int way), .ow (L.map pD), .va (.int i), .no, .no, .no], false, ?_, rfl⟩
    rw [e1]
    cases b with
    | true => simp at hc
    | false =>
      by_cases h1 : 1 < way
      · have h2 : ¬ w < way := fun z => hc (.inr ⟨h1, z⟩)
        simp [d2, h1, h2]
      · simp [h1]
noncomputable def wb_out : Rho → Oc := sWp [6, 7, 8, 9] (sFor (gRng rng2D (gCons (gBin addD (gVar 6) (gC (.int 1))) (gCons (gVar 3) gNil))) (.nm 7) [7, 8, 9] wb_in)
theorem wb_row (ns : List Int) {k n way i : Int} {L : List (Int × Int)} (hk : 0 ≤ k) (hi : 0 ≤ i) (hin : i < n) (hn : n ≤ 10) (hL : L.length ≤ 1000) (hP : Part n i (i + 1) L) :
    ∃ L', wb_out [.va (.scr ns), .va (.int k), .no, .va (.int n), .va (.int way), .ow (L.map pD), .va (.int i), .no, .no, .no] = .nx [.va (.scr ns), .va (.int k), .no, .va (.int n), .va (.int way), .ow (L'.map pD), .no, .no, .no, .no] ∧ L'.length ≤ L.length + 10 ∧ Part n (i + 1) (i + 2) L' := by
  have hr : rng2D [.int (i + 1), .int n] = .ok (rngL (i + 1) (n - (i + 1)).toNat) := rng2_ok (by omega) (by omega)
  obtain ⟨ρ', e1, L', hl, hp, eρ⟩ := for_inv (tg := .nm 7) (wp := [7, 8, 9]) (body := wb_in) (fun m ρ => ∃ L', L'.length ≤ L.length + m ∧ Part n i (i + 1 + m) L' ∧ ρ = [.va (.scr ns), .va (.int k), .no, .va (.int n), .va (.int way), .ow (L'.map pD), .va (.int i), .no, .no, .no])
    (rngL (i + 1) (n - (i + 1)).toNat) 0 [.va (.scr ns), .va (.int k), .no, .va (.int n), .va (.int way), .ow (L.map pD), .va (.int i), .no, .no, .no] ⟨L, Nat.le_refl _, by simpa using hP, rfl⟩ (fun m x ρ hx ⟨L', hl, hp, eρ⟩ => by
      obtain ⟨rfl, hm⟩ := rngL_get hx
      rw [Nat.zero_add] at hl hp ⊢
      subst eρ
      obtain ⟨ρ2, b, b1, b2⟩ := wb_step ns (k := k) (n := n) (way := way) (i := i) (j := i + 1 + (m : Int)) (L := L') hk hi (by omega) (by omega)
      refine ⟨_, ρ2, rfl, b1, if b = true then L' ++ [(i, i + 1 + (m : Int))] else L', ?_, ?_, b2⟩
      · cases b with
        | true =>
          rw [if_pos rfl, List.length_append, List.length_singleton]
          omega
        | false =>
          rw [if_neg Bool.false_ne_true]
          omega
      · have e : i + 1 + ((m + 1 : Nat) : Int) = i + 1 + (m : Int) + 1 := by omega
        rw [e]
        cases b with
        | true =>
          rw [if_pos rfl]
          exact hp.more hi (by omega) (by omega)
        | false =>
          rw [if_neg Bool.false_ne_true]
          exact hp.next (by omega))
  rw [Nat.zero_add, rngL_len] at hl
  refine ⟨L', ?_, by omega, hp.row⟩
  unfold wb_out
  rw [e_sWp, e_sFor]
  have eg : gRng rng2D (gCons (gBin addD (gVar 6) (gC (.int 1))) (gCons (gVar 3) gNil)) [.va (.scr ns), .va (.int k), .no, .va (.int n), .va (.int way), .ow (L.map pD), .va (.int i), .no, .no, .no] = .ok (rngL (i + 1) (n - (i + 1)).toNat) := by
    simp [hr]
  rw [eg, e_rzSok, e1, eρ]
  rfl
theorem law_web_eq (ns : List Int) {k most : Int} (hk : 0 ≤ k) (hm : 0 ≤ most ∧ most ≤ 10) : ∃ n ls, f_law_web [.scr ns, .int k, .int most] = .ok (wD n ls) ∧ WebOk n ls ∧ n ≤ most := by
  obtain ⟨a, ha, _⟩ := mix_eq ns hk
  obtain ⟨b, hb, _⟩ := mix_eq ns (k := k + 1) (by omega)
  have d1 : modD (.int a) (.int (most + 1)) = .ok (.int (a % (most + 1))) := e_mod (by omega)
  have n0 : 0 ≤ a % (most + 1) := Int.emod_nonneg _ (by omega)
  have n1 : a % (most + 1) < most + 1 := Int.emod_lt_of_pos _ (by omega)
  generalize a % (most + 1) = n at d1 n0 n1
  have d2 : modD (.int b) (.int 5) = .ok (.int (b % 5)) := e_mod (by decide)
  generalize b % 5 = way at d2
  have hr : rng1D [.int n] = .ok (rngL 0 n.toNat) := rng1_ok (by omega)
  obtain ⟨ρ', e1, L', hl, hp, eρ⟩ := for_inv (tg := .nm 6) (wp := [6, 7, 8, 9]) (body := wb_out) (fun m ρ => ∃ L', L'.length ≤ 10 * m ∧ Part n m (m + 1) L' ∧ ρ = [.va (.scr ns), .va (.int k), .no, .va (.int n), .va (.int way), .ow (L'.map pD), .no, .no, .no, .no])
    (rngL 0 n.toNat) 0 [.va (.scr ns), .va (.int k), .no, .va (.int n), .va (.int way), .ow [], .no, .no, .no, .no] ⟨[], Nat.le_refl _, ⟨(fun p hp => by cases hp), .nil, (fun p hp => by cases hp)⟩, rfl⟩ (fun m x ρ hx ⟨L', hl, hp, eρ⟩ => by
      obtain ⟨rfl, hmn⟩ := rngL_get hx
      rw [Nat.zero_add] at hl hp ⊢
      subst eρ
      obtain ⟨L2, b1, b2, b3⟩ := wb_row ns (k := k) (n := n) (way := way) (i := (m : Int)) (L := L') hk (by omega) (by omega) (by omega) (by omega) hp
      refine ⟨_, [.va (.scr ns), .va (.int k), .no, .va (.int n), .va (.int way), .ow (L2.map pD), .no, .no, .no, .no], rfl, ?_, L2, by omega, ?_, rfl⟩
      · rw [Int.zero_add]
        exact b1
      · have e : ((m + 1 : Nat) : Int) = (m : Int) + 1 := by omega
        rw [e, show (m : Int) + 1 + 1 = m + 2 by omega]
        exact b3)
  rw [Nat.zero_add, rngL_len] at hl
  have hl2 : (2 : Nat) ≤ lim := by decide
  refine ⟨n, L', fn_rt rfl ?_, ⟨n0, by omega, hp.ln, hp.up, by omega⟩, by omega⟩
  have hs : startR 10 [.scr ns, .int k, .int most] = [.va (.scr ns), .va (.int k), .va (.int most), .no, .no, .no, .no, .no, .no, .no] := rfl
  rw [hs]
  unfold b_law_web
  have eb : ∀ xs ρ, forGo (.nm 6) [6, 7, 8, 9] (sWp [6, 7, 8, 9] (sFor (gRng rng2D (gCons (gBin addD (gVar 6) (gC (.int 1))) (gCons (gVar 3) gNil))) (.nm 7) [7, 8, 9]
    (sSeq (sSet 8 (gBin divD (gCall f_law_mix (gCons (gVar 0) (gCons (gBin addD (gBin addD (gBin addD (gVar 1) (gC (.int 2))) (gBin mulD (gC (.int 8)) (gVar 6))) (gVar 7)) gNil))) (gC (.int 8))))
    (sSeq (sSet 9 (gOrV (gAndV (gBin eqD (gVar 4) (gC (.int 0))) (gBin eqD (gVar 7) (gBin addD (gVar 6) (gC (.int 1))))) (gAndV (gBin eqD (gVar 4) (gC (.int 1))) (gBin eqD (gVar 6) (gBin modD (gVar 8) (gVar 7))))))
    (sWp [7, 8, 9] (sIf (gOr (gTru (gVar 9)) (gAnd (gTst (gBin gtD (gVar 4) (gC (.int 1)))) (gTst (gBin ltD (gBin modD (gVar 8) (gC (.int 6))) (gVar 4)))))
    (sWp [7] (sApp 5 (gTup (gCons (gVar 6) (gCons (gVar 7) gNil)))))
    sNil)))))) xs ρ = forGo (.nm 6) [6, 7, 8, 9] wb_out xs ρ := fun _ _ => rfl
  simp [ha, d1, hb, d2, hr, eb, e1, eρ, hl2, wD]
end FM

set_option Elab.async false
set_option linter.all false
set_option maxRecDepth 100000
set_option maxHeartbeats 4000000
/-! FM, plain: what is told. -/
namespace FM
open PySem L2
@[simp] theorem e_isN1 : isNonD false .non = .ok (.bl true) := rfl
@[simp] theorem e_isN2 {c : Ec} : isNonD false (.exc c) = .ok (.bl false) := rfl
def nmE : Ec → D
  | .set => .str "set"
  | .steps => .str "steps"
  | .text => .str "text"
  | .tree => .str "tree"
  | .web => .str "web"
theorem refusal_eq (c : Ec) : f_law_refusal [.exc c] = .ok (nmE c) := by
  cases c <;> rfl
end FM
set_option Elab.async false
set_option linter.all false
set_option maxRecDepth 100000
set_option maxHeartbeats 4000000
/-! FM, plain: texts of webs as lists of signs: written, read. -/
namespace FM
open PySem L2
abbrev Cs := List Nat
def digs (w : Cs) : Bool := w.all fun c => decide (48 ≤ c) && decide (c ≤ 57)
def lead0 (w : Cs) : Bool := decide (w[0]? = some 48) && !decide (w = [48])
def numIn (w : Cs) : Option Nat := if (decide (1 ≤ w.length) && decide (w.length ≤ 2)) = true ∧ digs w = true ∧ lead0 w = false then some (NumText.digitsVal w) else none
theorem numL_two {k : Nat} (h1 : 10 ≤ k) (h2 : k < 100) : TL.numL k = [48 + k / 10, 48 + k % 10] := by
  rw [TL.numL_step h1, TL.numL_lt (show k / 10 < 10 by omega)]
  rfl
/-- a word of one or two figures is a number's own text just if it has no nought ahead -/
theorem back_iff {w : Cs} (h1 : 1 ≤ w.length) (h2 : w.length ≤ 2) (hd : digs w = true) : TL.numL (NumText.digitsVal w) = w ↔ lead0 w = false := by
  have hc : ∀ c ∈ w, 48 ≤ c ∧ c ≤ 57 := fun c hc => by
    have := List.all_eq_true.mp hd c hc
    simpa using this
  match w, h1, h2, hc with
  | [c], _, _, hc =>
    have h := hc c (by simp)
    have e : NumText.digitsVal [c] = c - 48 := by simp [NumText.digitsVal]
    rw [e, TL.numL_lt (by omega)]
    have e2 : 48 + (c - 48) = c := by omega
    rw [e2]
    simp [lead0]
  | [c, d], _, _, hc =>
    have hcc := hc c (by simp)
    have hdd := hc d (by simp)
    have e : NumText.digitsVal [c, d] = (c - 48) * 10 + (d - 48) := by simp [NumText.digitsVal]
    rw [e]
    by_cases h0 : c = 48
    · subst h0
      have e3 : (48 - 48) * 10 + (d - 48) = d - 48 := by omega
      rw [e3, TL.numL_lt (by omega)]
      simp [lead0]
    · rw [numL_two (by omega) (by omega)]
      have e3 : 48 + ((c - 48) * 10 + (d - 48)) / 10 = c := by omega
      have e4 : 48 + ((c - 48) * 10 + (d - 48)) % 10 = d := by omega
      rw [e3, e4]
      simp [lead0, h0]
theorem numL_len2 {k : Nat} (h : k < 100) : 1 ≤ (TL.numL k).length ∧ (TL.numL k).length ≤ 2 := by
  by_cases h1 : k < 10
  · rw [TL.numL_lt h1]
    simp
  · rw [numL_two (by omega) h]
    simp
theorem digs_num (k : Nat) : digs (TL.numL k) = true := List.all_eq_true.mpr fun c hc => by
  have := TL.numL_digits k c hc
  simp [this]
theorem numIn_num {k : Nat} (h : k < 100) : numIn (TL.numL k) = some k := by
  obtain ⟨h1, h2⟩ := numL_len2 h
  have hb := (back_iff h1 h2 (digs_num k)).mp (by rw [TL.numL_val])
  unfold numIn
  rw [if_pos ⟨by simp [h1, h2], digs_num k, hb⟩, TL.numL_val]
theorem numIn_some {w : Cs} {k : Nat} (h : numIn w = some k) : w = TL.numL k ∧ k < 100 := by
  unfold numIn at h
  split at h
  · rename_i hc
    obtain ⟨hl, hd, h0⟩ := hc
    simp only [Bool.and_eq_true, decide_eq_true_eq] at hl
    have hb := (back_iff hl.1 hl.2 hd).mpr h0
    cases h
    refine ⟨hb.symm, ?_⟩
    have hc : ∀ c ∈ w, 48 ≤ c ∧ c ≤ 57 := fun c hc => by
      have := List.all_eq_true.mp hd c hc
      simpa using this
    match w, hl, hc with
    | [c], _, hc =>
      have h := hc c (by simp)
      have e : NumText.digitsVal [c] = c - 48 := by simp [NumText.digitsVal]
      rw [e]
      omega
    | [c, d], _, hc =>
      have hcc := hc c (by simp)
      have hdd := hc d (by simp)
      have e : NumText.digitsVal [c, d] = (c - 48) * 10 + (d - 48) := by simp [NumText.digitsVal]
      rw [e]
      omega
  · cases h
/-! cut and glued -/
theorem join_spl {a b : Cs} (hb : b ≠ []) (hk : b.all (· < 256) = true) : TL.joinL b (TL.spl b 0 [] a) = a := by
  have e1 := StrLaws.join_split (SX.S a) (SX.S b)
  have e2 := congrArg TL.tl e1
  rw [TL.tl_join, SX.split_S hb hk, SX.map_S_tl] at e2
  exact e2
theorem spl_ne {b : Cs} : ∀ (a acc : Cs) (k : Nat), TL.spl b k acc a ≠ []
  | [], acc, k => by
    rw [TL.spl_nil]
    simp
  | c :: r, acc, 0 => by
    unfold TL.spl
    split
    · simp
    · exact spl_ne r _ 0
  | c :: r, acc, k + 1 => spl_ne r acc k
def SPT : Cs := [115, 112, 111, 116, 115, 32]
def rowT (k : Nat) (es : List Nat) : Cs := TL.numL k ++ ([58, 32] ++ TL.joinL [32] (es.map TL.numL))
def endsN (s : Nat) (ls : List (Nat × Nat)) : List Nat := (ls.filter fun p => decide (p.1 = s)).map (·.2)
def rowsN (m : Nat) (ls : List (Nat × Nat)) : List (Nat × List Nat) := (List.range m).filterMap fun s => if endsN s ls = [] then none else some (s, endsN s ls)
def textN (m : Nat) (ls : List (Nat × Nat)) : Cs := TL.joinL [10] ((SPT ++ TL.numL m) :: (rowsN m ls).map fun r => rowT r.1 r.2)
def allNum : List Cs → Option (List Nat)
  | [] => some []
  | w :: r => match numIn w, allNum r with
    | some k, some ks => some (k :: ks)
    | _, _ => none
def rowP (row : Cs) : Option (Nat × List Nat) := match TL.spl [58, 32] 0 [] row with
  | [h, ws] => match numIn h, allNum (TL.spl [32] 0 [] ws) with
    | some k, some es => some (k, es)
    | _, _ => none
  | _ => none
def allRow : List Cs → Option (List (Nat × List Nat))
  | [] => some []
  | w :: r => match rowP w, allRow r with
    | some k, some ks => some (k :: ks)
    | _, _ => none
def flatR (rs : List (Nat × List Nat)) : List (Nat × Nat) := rs.flatMap fun r => r.2.map fun e => (r.1, e)
def risesFrom : Int → List (Nat × List Nat) → Bool
  | _, [] => true
  | l, r :: rs => decide (l < r.1) && risesFrom r.1 rs
def parse (t : Cs) : Option (Nat × List (Nat × List Nat)) := match TL.spl [10] 0 [] t with
  | [] => none
  | r0 :: rest => if r0.take 6 = SPT then (match numIn (r0.drop 6), allRow rest with
    | some m, some rs => some (m, rs)
    | _, _ => none) else none
theorem allNum_some : ∀ {ws : List Cs} {es : List Nat}, allNum ws = some es → ws = es.map TL.numL ∧ ∀ e ∈ es, e < 100
  | [], es, h => by
    cases h
    exact ⟨rfl, fun e he => by cases he⟩
  | w :: ws, es, h => by
    unfold allNum at h
    split at h
    · rename_i k ks h1 h2
      cases h
      obtain ⟨e1, e2⟩ := numIn_some h1
      obtain ⟨e3, e4⟩ := allNum_some h2
      exact ⟨by rw [e1, e3]; rfl, fun e he => by
        rcases List.mem_cons.mp he with rfl | he
        · exact e2
        · exact e4 e he⟩
    · cases h
theorem allNum_nums : ∀ {es : List Nat}, (∀ e ∈ es, e < 100) → allNum (es.map TL.numL) = some es
  | [], _ => rfl
  | e :: es, h => by
    rw [List.map_cons, allNum, numIn_num (h e List.mem_cons_self), allNum_nums fun x hx => h x (List.mem_cons_of_mem _ hx)]
theorem num_free {k c : Nat} (h : c < 48 ∨ 57 < c) : c ∉ TL.numL k := TL.numL_free h
theorem joinL_mem {b : Cs} {c : Nat} : ∀ {l : List Cs}, c ∈ TL.joinL b l → c ∈ b ∨ ∃ p ∈ l, c ∈ p
  | [], h => by cases h
  | [p], h => .inr ⟨p, List.mem_singleton.mpr rfl, h⟩
  | p :: q :: r, h => by
    unfold TL.joinL at h
    rcases List.mem_append.mp h with h | h
    · exact .inr ⟨p, List.mem_cons_self, h⟩
    · rcases List.mem_append.mp h with h | h
      · exact .inl h
      · rcases joinL_mem h with h | ⟨x, hx, h⟩
        · exact .inl h
        · exact .inr ⟨x, List.mem_cons_of_mem _ hx, h⟩
theorem words_free {es : List Nat} {c : Nat} (h : c < 48 ∨ 57 < c) (h32 : c ≠ 32) : c ∉ TL.joinL [32] (es.map TL.numL) := fun hm => by
  rcases joinL_mem hm with h1 | ⟨p, hp, h1⟩
  · simp at h1
    exact h32 h1
  · obtain ⟨e, _, rfl⟩ := List.mem_map.mp hp
    exact num_free h h1
theorem rowP_row {k : Nat} {es : List Nat} (hk : k < 100) (hne : es ≠ []) (he : ∀ e ∈ es, e < 100) : rowP (rowT k es) = some (k, es) := by
  have e1 : TL.spl [58, 32] 0 [] (rowT k es) = [TL.numL k, TL.joinL [32] (es.map TL.numL)] := by
    unfold rowT
    rw [SX.spl_free _ (by simp) (SX.free_head (num_free (by omega))), TL.spl_last1 (words_free (by omega) (by omega))]
    rfl
  have e2 : TL.spl [32] 0 [] (TL.joinL [32] (es.map TL.numL)) = es.map TL.numL := SX.spl_join (by simpa using hne) fun p hp => by
    obtain ⟨e, _, rfl⟩ := List.mem_map.mp hp
    exact num_free (by omega)
  unfold rowP
  rw [e1]
  simp only [e2, numIn_num hk, allNum_nums he]
theorem rowP_some {row : Cs} {k : Nat} {es : List Nat} (h : rowP row = some (k, es)) : row = rowT k es ∧ k < 100 ∧ es ≠ [] ∧ ∀ e ∈ es, e < 100 := by
  unfold rowP at h
  split at h
  · rename_i hd ws e
    split at h
    · rename_i k' es' h1 h2
      cases h
      obtain ⟨e1, e2⟩ := numIn_some h1
      obtain ⟨e3, e4⟩ := allNum_some h2
      have j1 := join_spl (a := row) (b := [58, 32]) (by simp) (by decide)
      rw [e] at j1
      have j2 := join_spl (a := ws) (b := [32]) (by simp) (by decide)
      rw [e3] at j2
      refine ⟨?_, e2, fun z => ?_, e4⟩
      · rw [← j1]
        show hd ++ ([58, 32] ++ ws) = _
        rw [← j2, e1]
        rfl
      · rw [z] at e3
        exact spl_ne ws [] 0 e3
    · cases h
  · cases h
theorem allRow_some : ∀ {ws : List Cs} {rs : List (Nat × List Nat)}, allRow ws = some rs → ws = rs.map (fun r => rowT r.1 r.2) ∧ ∀ r ∈ rs, r.1 < 100 ∧ r.2 ≠ [] ∧ ∀ e ∈ r.2, e < 100
  | [], rs, h => by
    cases h
    exact ⟨rfl, fun e he => by cases he⟩
  | w :: ws, rs, h => by
    unfold allRow at h
    split at h
    · rename_i k ks h1 h2
      cases h
      obtain ⟨e1, e2⟩ := rowP_some (k := k.1) (es := k.2) h1
      obtain ⟨e3, e4⟩ := allRow_some h2
      exact ⟨by rw [e1, e3]; rfl, fun e he => by
        rcases List.mem_cons.mp he with rfl | he
        · exact e2
        · exact e4 e he⟩
    · cases h
theorem allRow_rows : ∀ {rs : List (Nat × List Nat)}, (∀ r ∈ rs, r.1 < 100 ∧ r.2 ≠ [] ∧ ∀ e ∈ r.2, e < 100) → allRow (rs.map fun r => rowT r.1 r.2) = some rs
  | [], _ => rfl
  | r :: rs, h => by
    obtain ⟨h1, h2, h3⟩ := h r List.mem_cons_self
    rw [List.map_cons, allRow, rowP_row h1 h2 h3, allRow_rows fun x hx => h x (List.mem_cons_of_mem _ hx)]
theorem row_free {k : Nat} {es : List Nat} : 10 ∉ rowT k es := fun h => by
  unfold rowT at h
  rcases List.mem_append.mp h with h | h
  · exact num_free (by omega) h
  · rcases List.mem_append.mp h with h | h
    · simp at h
    · exact words_free (by omega) (by omega) h
theorem spl_text {m : Nat} {rs : List (Nat × List Nat)} : TL.spl [10] 0 [] (TL.joinL [10] ((SPT ++ TL.numL m) :: rs.map fun r => rowT r.1 r.2)) = (SPT ++ TL.numL m) :: rs.map fun r => rowT r.1 r.2 :=
  SX.spl_join (by simp) fun p hp => by
    rcases List.mem_cons.mp hp with rfl | hp
    · intro h
      rcases List.mem_append.mp h with h | h
      · simp [SPT] at h
      · exact num_free (by omega) h
    · obtain ⟨r, _, rfl⟩ := List.mem_map.mp hp
      exact row_free
theorem parse_rows {m : Nat} {rs : List (Nat × List Nat)} (hm : m < 100) (h : ∀ r ∈ rs, r.1 < 100 ∧ r.2 ≠ [] ∧ ∀ e ∈ r.2, e < 100) : parse (TL.joinL [10] ((SPT ++ TL.numL m) :: rs.map fun r => rowT r.1 r.2)) = some (m, rs) := by
  unfold parse
  rw [spl_text]
  have e1 : (SPT ++ TL.numL m).take 6 = SPT := by
    rw [List.take_append_of_le_length (by simp [SPT])]
    rfl
  have e2 : (SPT ++ TL.numL m).drop 6 = TL.numL m := List.drop_left (l₁ := SPT)
  simp only [e1, e2, if_true, numIn_num hm, allRow_rows h]
theorem parse_some {t : Cs} {m : Nat} {rs : List (Nat × List Nat)} (h : parse t = some (m, rs)) : t = TL.joinL [10] ((SPT ++ TL.numL m) :: rs.map fun r => rowT r.1 r.2) ∧ m < 100 ∧ ∀ r ∈ rs, r.1 < 100 ∧ r.2 ≠ [] ∧ ∀ e ∈ r.2, e < 100 := by
  unfold parse at h
  split at h
  · cases h
  · rename_i r0 rest e
    split at h
    · rename_i h6
      split at h
      · rename_i m' rs' h1 h2
        cases h
        obtain ⟨e1, e2⟩ := numIn_some h1
        obtain ⟨e3, e4⟩ := allRow_some h2
        have j := join_spl (a := t) (b := [10]) (by simp) (by decide)
        rw [e] at j
        have e5 : r0 = SPT ++ TL.numL m := by
          rw [← e1, ← h6, List.take_append_drop]
        exact ⟨by rw [← j, e5, e3], e2, e4⟩
      · cases h
    · cases h
/-! the rows of a web -/
structure WebN (m : Nat) (ls : List (Nat × Nat)) : Prop where
  mx : m ≤ 10
  ln : ∀ p ∈ ls, p.1 < p.2 ∧ p.2 < m
  up : ls.Pairwise fun p q => p.1 < q.1 ∨ (p.1 = q.1 ∧ p.2 < q.2)
theorem pair_uniq : ∀ {a b : List (Nat × Nat)}, a.Pairwise (fun p q => p.1 < q.1 ∨ (p.1 = q.1 ∧ p.2 < q.2)) → b.Pairwise (fun p q => p.1 < q.1 ∨ (p.1 = q.1 ∧ p.2 < q.2)) → (∀ k, k ∈ a ↔ k ∈ b) → a = b
  | [], [], _, _, _ => rfl
  | [], y :: ys, _, _, h => absurd ((h y).mpr List.mem_cons_self) (by simp)
  | x :: xs, [], _, _, h => absurd ((h x).mp List.mem_cons_self) (by simp)
  | x :: xs, y :: ys, hx, hy, h => by
    rw [List.pairwise_cons] at hx hy
    have e : x = y := by
      rcases List.mem_cons.mp ((h x).mp List.mem_cons_self) with e | e
      · exact e
      · rcases List.mem_cons.mp ((h y).mpr List.mem_cons_self) with e2 | e2
        · exact e2.symm
        · have h1 := hy.1 x e
          have h2 := hx.1 y e2
          exfalso
          omega
    subst e
    congr 1
    refine pair_uniq hx.2 hy.2 fun k => ?_
    have nx : x ∉ xs := fun z => by
      have := hx.1 x z
      omega
    have ny : x ∉ ys := fun z => by
      have := hy.1 x z
      omega
    constructor
    · intro hk
      rcases List.mem_cons.mp ((h k).mp (List.mem_cons_of_mem _ hk)) with e | e
      · exact absurd (e ▸ hk) nx
      · exact e
    · intro hk
      rcases List.mem_cons.mp ((h k).mpr (List.mem_cons_of_mem _ hk)) with e | e
      · exact absurd (e ▸ hk) ny
      · exact e
theorem flat_filter (ls : List (Nat × Nat)) : ∀ l : List Nat, flatR (l.filterMap fun s => if endsN s ls = [] then none else some (s, endsN s ls)) = l.flatMap fun s => ls.filter fun p => decide (p.1 = s)
  | [] => rfl
  | s :: l => by
    have ih := flat_filter ls l
    have em : (endsN s ls).map (fun e => (s, e)) = ls.filter fun p => decide (p.1 = s) := by
      unfold endsN
      rw [List.map_map]
      conv => rhs; rw [← List.map_id (ls.filter fun p => decide (p.1 = s))]
      apply List.map_congr_left
      intro p hp
      have := of_decide_eq_true (List.mem_filter.mp hp).2
      show (s, p.2) = id p
      rw [← this]
      rfl
    rw [List.filterMap_cons, List.flatMap_cons, ← em]
    by_cases h : endsN s ls = []
    · simp only [h, if_true, List.map_nil, List.nil_append]
      exact ih
    · simp only [h, if_false]
      show (endsN s ls).map (fun e => (s, e)) ++ flatR _ = _
      rw [ih]
theorem flat_rows {m : Nat} {ls : List (Nat × Nat)} (h : WebN m ls) : flatR (rowsN m ls) = ls := by
  unfold rowsN
  rw [flat_filter]
  refine pair_uniq ?_ h.up fun k => ?_
  · rw [List.flatMap, List.pairwise_flatten]
    refine ⟨fun l hl => ?_, ?_⟩
    · obtain ⟨s, _, rfl⟩ := List.mem_map.mp hl
      exact h.up.filter _
    · rw [List.pairwise_map]
      refine List.pairwise_lt_range.imp fun {s t} hst p hp q hq => .inl ?_
      have h1 := of_decide_eq_true (List.mem_filter.mp hp).2
      have h2 := of_decide_eq_true (List.mem_filter.mp hq).2
      omega
  · rw [List.mem_flatMap]
    constructor
    · rintro ⟨s, _, hk⟩
      exact (List.mem_filter.mp hk).1
    · intro hk
      have := h.ln k hk
      exact ⟨k.1, List.mem_range.mpr (by omega), List.mem_filter.mpr ⟨hk, by simp⟩⟩
theorem rises_of {l : Int} : ∀ {rs : List (Nat × List Nat)}, (rs.Pairwise fun a b => a.1 < b.1) → (∀ r ∈ rs, l < (r.1 : Int)) → risesFrom l rs = true
  | [], _, _ => rfl
  | r :: rs, hp, h => by
    rw [List.pairwise_cons] at hp
    unfold risesFrom
    rw [rises_of hp.2 fun q hq => by have := hp.1 q hq; omega]
    simp [h r List.mem_cons_self]
theorem rises_gt : ∀ {rs : List (Nat × List Nat)} {l : Int}, risesFrom l rs = true → ∀ r ∈ rs, l < (r.1 : Int)
  | [], _, _, r, hr => by cases hr
  | r0 :: rs, l, h, r, hr => by
    unfold risesFrom at h
    rw [Bool.and_eq_true, decide_eq_true_eq] at h
    rcases List.mem_cons.mp hr with rfl | hr
    · exact h.1
    · have := rises_gt h.2 r hr
      omega
theorem rows_rise (m : Nat) (ls : List (Nat × Nat)) : risesFrom (-1) (rowsN m ls) = true := by
  refine rises_of ?_ fun r _ => by omega
  unfold rowsN
  rw [List.pairwise_filterMap]
  refine List.pairwise_lt_range.imp fun {a b} hab x hx y hy => ?_
  split at hx
  · cases hx
  · split at hy
    · cases hy
    · cases hx
      cases hy
      exact hab
theorem ends_cons (s : Nat) (r : Nat × List Nat) (rs : List (Nat × List Nat)) : endsN s (flatR (r :: rs)) = (if r.1 = s then r.2 else []) ++ endsN s (flatR rs) := by
  unfold endsN flatR
  rw [List.flatMap_cons, List.filter_append, List.map_append]
  congr 1
  by_cases h : r.1 = s
  · rw [if_pos h]
    have : (r.2.map fun e => (r.1, e)).filter (fun p => decide (p.1 = s)) = r.2.map fun e => (r.1, e) := List.filter_eq_self.mpr fun p hp => by
      obtain ⟨e, _, rfl⟩ := List.mem_map.mp hp
      simp [h]
    rw [this, List.map_map]
    exact List.map_id _
  · rw [if_neg h]
    have : (r.2.map fun e => (r.1, e)).filter (fun p => decide (p.1 = s)) = [] := List.filter_eq_nil_iff.mpr fun p hp => by
      obtain ⟨e, _, rfl⟩ := List.mem_map.mp hp
      simp [h]
    rw [this]
    rfl
theorem ends_none {s : Nat} : ∀ {rs : List (Nat × List Nat)}, (∀ r ∈ rs, r.1 ≠ s) → endsN s (flatR rs) = []
  | [], _ => rfl
  | r :: rs, h => by
    rw [ends_cons, if_neg (h r List.mem_cons_self), ends_none fun q hq => h q (List.mem_cons_of_mem _ hq)]
    rfl
theorem rows_back : ∀ (m lo : Nat) (rs : List (Nat × List Nat)), risesFrom ((lo : Int) - 1) rs = true → (∀ r ∈ rs, r.1 < lo + m ∧ r.2 ≠ []) →
    (List.range' lo m).filterMap (fun s => if endsN s (flatR rs) = [] then none else some (s, endsN s (flatR rs))) = rs
  | 0, lo, rs, h, hb => by
    cases rs with
    | nil => rfl
    | cons r rs =>
      have h1 := rises_gt h r List.mem_cons_self
      have h2 := (hb r List.mem_cons_self).1
      omega
  | m + 1, lo, rs, h, hb => by
    rw [List.range'_succ, List.filterMap_cons]
    cases rs with
    | nil =>
      have ih := rows_back m (lo + 1) [] rfl fun r hr => by cases hr
      simp only [flatR, List.flatMap_nil] at ih ⊢
      have : endsN lo [] = [] := rfl
      simp only [this, if_true]
      exact ih
    | cons r rs =>
      have hgt := rises_gt h
      have h2 := h
      unfold risesFrom at h2
      rw [Bool.and_eq_true, decide_eq_true_eq] at h2
      by_cases hr : r.1 = lo
      · have he : endsN lo (flatR (r :: rs)) = r.2 := by
          rw [ends_cons, if_pos hr, ends_none fun q hq => by have := rises_gt h2.2 q hq; omega, List.append_nil]
        have hne := (hb r List.mem_cons_self).2
        simp only [he, hne, if_false]
        have e0 : (lo, r.2) = r := by rw [← hr]
        rw [e0]
        congr 1
        have ih := rows_back m (lo + 1) rs (by rw [hr] at h2; have : ((lo + 1 : Nat) : Int) - 1 = (lo : Int) := by omega
                                               rw [this]; exact h2.2) fun q hq => ⟨by have := (hb q (List.mem_cons_of_mem _ hq)).1; omega, (hb q (List.mem_cons_of_mem _ hq)).2⟩
        rw [← ih]
        conv => rhs; rw [ih]
        have : ∀ l : List Nat, (∀ s ∈ l, lo < s) → l.filterMap (fun s => if endsN s (flatR (r :: rs)) = [] then none else some (s, endsN s (flatR (r :: rs)))) = l.filterMap (fun s => if endsN s (flatR rs) = [] then none else some (s, endsN s (flatR rs))) := by
          intro l
          induction l with
          | nil =>
            intro _
            rfl
          | cons s l ih2 =>
            intro hl
            have hs := hl s List.mem_cons_self
            have hsr : ¬ r.1 = s := by omega
            have es : endsN s (flatR (r :: rs)) = endsN s (flatR rs) := by
              rw [ends_cons, if_neg hsr, List.nil_append]
            rw [List.filterMap_cons, List.filterMap_cons, es, ih2 fun x hx => hl x (List.mem_cons_of_mem _ hx)]
        rw [ih]
        rw [this _ fun s hs => by have := List.mem_range'.mp hs; omega]
        exact ih
      · have he : endsN lo (flatR (r :: rs)) = [] := ends_none fun q hq => by
          rcases List.mem_cons.mp hq with rfl | hq
          · exact hr
          · have h3 := rises_gt h2.2 q hq
            have h4 := h2.1
            omega
        simp only [he, if_true]
        refine rows_back m (lo + 1) (r :: rs) ?_ fun q hq => ⟨by have := (hb q hq).1; omega, (hb q hq).2⟩
        unfold risesFrom
        rw [Bool.and_eq_true, decide_eq_true_eq]
        exact ⟨by omega, h2.2⟩
theorem rows_of {m : Nat} {rs : List (Nat × List Nat)} (h : risesFrom (-1) rs = true) (hb : ∀ r ∈ rs, r.1 < m ∧ r.2 ≠ []) : rowsN m (flatR rs) = rs := by
  unfold rowsN
  rw [List.range_eq_range']
  exact rows_back m 0 rs h fun r hr => ⟨by have := (hb r hr).1; omega, (hb r hr).2⟩
theorem rowsN_ok {m : Nat} {ls : List (Nat × Nat)} (h : WebN m ls) : ∀ r ∈ rowsN m ls, r.1 < 100 ∧ r.2 ≠ [] ∧ ∀ e ∈ r.2, e < 100 := fun r hr => by
  have hm := h.mx
  unfold rowsN at hr
  obtain ⟨s, hs, e⟩ := List.mem_filterMap.mp hr
  split at e
  · cases e
  · rename_i hne
    cases e
    refine ⟨by have := List.mem_range.mp hs; show s < 100; omega, hne, fun e he => ?_⟩
    obtain ⟨p, hp, rfl⟩ := List.mem_map.mp he
    have := h.ln p (List.mem_filter.mp hp).1
    omega
/-- what is written is read again -/
theorem parse_text {m : Nat} {ls : List (Nat × Nat)} (h : WebN m ls) : parse (textN m ls) = some (m, rowsN m ls) := parse_rows (by have := h.mx; omega) (rowsN_ok h)
/-- of a text that parses to a web: its rows rise just if it is the web's text -/
theorem rise_iff {t : Cs} {m : Nat} {rs : List (Nat × List Nat)} (h : parse t = some (m, rs)) (hw : WebN m (flatR rs)) : risesFrom (-1) rs = true ↔ textN m (flatR rs) = t := by
  obtain ⟨et, hm, hr⟩ := parse_some h
  constructor
  · intro hri
    have hb : ∀ r ∈ rs, r.1 < m ∧ r.2 ≠ [] := fun r hr2 => by
      obtain ⟨h1, h2, h3⟩ := hr r hr2
      refine ⟨?_, h2⟩
      obtain ⟨e, he⟩ := List.exists_mem_of_ne_nil _ h2
      have hm : (r.1, e) ∈ flatR rs := List.mem_flatMap.mpr ⟨r, hr2, List.mem_map.mpr ⟨e, he, rfl⟩⟩
      have := hw.ln _ hm
      show r.1 < m
      have h4 : r.1 < e ∧ e < m := this
      omega
    unfold textN
    rw [rows_of hri hb]
    exact et.symm
  · intro e
    have p := parse_text hw
    rw [e, h] at p
    have : rs = rowsN m (flatR rs) := by
      have := Option.some.inj p
      exact (Prod.ext_iff.mp this).2
    rw [this]
    exact rows_rise _ _
/-! lengths -/
theorem joinL_len (b : Cs) : ∀ l : List Cs, (TL.joinL b l).length ≤ (l.map List.length).sum + l.length * b.length
  | [] => by simp [TL.joinL]
  | [p] => by simp [TL.joinL]
  | p :: q :: r => by
    have ih := joinL_len b (q :: r)
    unfold TL.joinL
    rw [List.length_append, List.length_append]
    simp only [List.map_cons, List.sum_cons, List.length_cons, Nat.succ_mul] at ih ⊢
    omega
theorem spl_weight {a b : Cs} (hb : b ≠ []) (hk : b.all (· < 256) = true) : ((TL.spl b 0 [] a).map List.length).sum + (TL.spl b 0 [] a).length ≤ a.length + 1 := by
  have e := PyProof.Rows.split_weight (SX.S a) (SX.S b) (by rw [SX.S_len]; exact List.length_pos_iff.mpr hb)
  rw [SX.split_S hb hk, SX.lens, List.length_map, SX.S_len] at e
  exact e
end FM
set_option Elab.async false
set_option linter.all false
set_option maxRecDepth 100000
set_option maxHeartbeats 8000000
/-! FM, plain: texts as data: the pieces. -/
namespace FM
open PySem L2
def sL (l : Cs) : D := .str (SX.S l)
def Ok (l : Cs) : Prop := ∀ c ∈ l, c < 128
def FIG : Cs := [48, 49, 50, 51, 52, 53, 54, 55, 56, 57]
theorem lit_spots : (D.str "spots ") = sL SPT := congrArg D.str (by decide +kernel)
theorem lit_nl : (D.str "\n") = sL [10] := congrArg D.str (by decide +kernel)
theorem lit_cs : (D.str ": ") = sL [58, 32] := congrArg D.str (by decide +kernel)
theorem lit_sp : (D.str " ") = sL [32] := congrArg D.str (by decide +kernel)
theorem lit_fig : (D.str "0123456789") = sL FIG := congrArg D.str (by decide +kernel)
theorem lit_0 : (D.str "0") = sL [48] := congrArg D.str (by decide +kernel)
theorem lit_e : (D.str "") = sL [] := congrArg D.str (by decide +kernel)
theorem S_length (l : Cs) : (SX.S l).length = l.length := SX.S_len l
def m1 (f : D → D → Rz D) (gb : Rho → Rz D) (ρ : Rho) (x : D) : Rz D := match x with
  | .str s => (gb ρ).bind fun y => f (.str s) y
  | _ => .bad
@[simp] theorem e_gM1 {f : D → D → Rz D} {ga gb : Rho → Rz D} {ρ : Rho} : gM1 f ga gb ρ = (ga ρ).bind (m1 f gb ρ) := rfl
@[simp] theorem m1_sL {f : D → D → Rz D} {gb : Rho → Rz D} {ρ : Rho} {t : Cs} : m1 f gb ρ (sL t) = (gb ρ).bind fun y => f (sL t) y := rfl
theorem sp_split {t b : Cs} (hb : b ≠ []) (hk : b.all (· < 256) = true) (hl : t.length + 2 ≤ lim) : splitD (sL t) (sL b) = .ok (.lst ((TL.spl b 0 [] t).map sL)) := by
  show (if (SX.S b).length ≠ 0 ∧ (SX.S t).length + 2 ≤ lim then Rz.ok (D.lst ((Txt.split (SX.S t) (SX.S b)).map D.str)) else .bad) = _
  rw [if_pos ⟨by rw [S_length]; exact fun z => hb (List.length_eq_zero_iff.mp z), by rw [S_length]; exact hl⟩, SX.split_S hb hk, List.map_map]
  rfl
theorem sl_to {t : Cs} {k : Nat} (hl : t.length ≤ lim) : slD none (some (k : Int)) (sL t) = .ok (sL (t.take k)) := by
  show (if (SX.S t).length ≤ lim then Rz.ok (D.str (cutS (SX.S t) none (some (k : Int)))) else .bad) = _
  rw [if_pos (by rw [S_length]; exact hl)]
  unfold cutS sL
  rw [HT.sIx_none, HT.sIx_nat, S_length, List.drop_zero, Nat.sub_zero]
  show Rz.ok (D.str (SX.S (t.take (min k t.length)))) = _
  rw [← List.take_take, List.take_length]
theorem sl_from {t : Cs} {k : Nat} (hl : t.length ≤ lim) : slD (some (k : Int)) none (sL t) = .ok (sL (t.drop k)) := by
  show (if (SX.S t).length ≤ lim then Rz.ok (D.str (cutS (SX.S t) (some (k : Int)) none)) else .bad) = _
  rw [if_pos (by rw [S_length]; exact hl)]
  unfold cutS sL
  rw [HT.sIx_none, HT.sIx_nat, S_length]
  show Rz.ok (D.str (SX.S ((t.drop (min k t.length)).take (t.length - min k t.length)))) = _
  rw [List.take_of_length_le (Nat.le_of_eq List.length_drop)]
  by_cases h : k ≤ t.length
  · rw [Nat.min_eq_left h]
  · rw [Nat.min_eq_right (by omega), List.drop_eq_nil_of_le (Nat.le_refl _), List.drop_eq_nil_of_le (by omega)]
theorem str_ok {a : Cs} (h : Ok a) : PyData.strOk (SX.S a) = true := by
  show (SX.S a).cps.all (· < 0x110000) = true
  rw [← Array.all_toList]
  exact List.all_eq_true.mpr fun c hc => by
    have := h c hc
    simp only [decide_eq_true_eq]
    omega
theorem S_dec {a b : Cs} : (SX.S a == SX.S b) = decide (a = b) := SX.S_beq_eq
theorem eqS {a b : Cs} (ha : Ok a) (hb : Ok b) : eqD (sL a) (sL b) = .ok (.bl (decide (a = b))) := by
  obtain ⟨p, e1, c1⟩ := (Sh.str (n := 0) (str_ok ha)).ok (by decide)
  obtain ⟨q, e2, c2⟩ := (Sh.str (n := 0) (str_ok hb)).ok (by decide)
  cases (Option.some.inj e1)
  cases (Option.some.inj e2)
  unfold eqD eqB sL
  rw [e1, e2]
  simp only [c1, c2, and_self, if_true]
  show Rz.ok (D.bl (SX.S a == SX.S b)) = _
  rw [S_dec]
theorem neS {a b : Cs} (ha : Ok a) (hb : Ok b) : neD (sL a) (sL b) = .ok (.bl (!decide (a = b))) := by
  obtain ⟨p, e1, c1⟩ := (Sh.str (n := 0) (str_ok ha)).ok (by decide)
  obtain ⟨q, e2, c2⟩ := (Sh.str (n := 0) (str_ok hb)).ok (by decide)
  cases (Option.some.inj e1)
  cases (Option.some.inj e2)
  unfold neD eqB sL
  rw [e1, e2]
  simp only [c1, c2, and_self, if_true]
  show Rz.ok (D.bl (!(SX.S a == SX.S b))) = _
  rw [S_dec]
theorem addS {a b : Cs} (h : a.length + b.length ≤ lim) : addD (sL a) (sL b) = .ok (sL (a ++ b)) := by
  show (if (SX.S a).length + (SX.S b).length ≤ lim then Rz.ok (D.str (SX.S a ++ SX.S b)) else .bad) = _
  rw [if_pos (by rw [S_length, S_length]; exact h), SX.S_cat]
  rfl
theorem ixS {w : Cs} {k : Nat} {c : Nat} (h : w[k]? = some c) (hl : w.length ≤ lim) : ixD (sL w) (.int (k : Int)) = .ok (sL [c]) := by
  show (if (SX.S w).length ≤ lim then (match atI (SX.S w).cps.toList (k : Int) with | some x => Rz.ok (D.str ⟨#[x]⟩) | none => .bad) else .bad) = _
  rw [if_pos (by rw [S_length]; exact hl)]
  have : atI (SX.S w).cps.toList (k : Int) = some c := atI_nn h
  rw [this]
  rfl
theorem iterS (w : Cs) : iterD (sL w) = .ok (w.map fun c => sL [c]) := rfl
theorem lenSL (w : Cs) (h : w.length ≤ lim) : lenD [sL w] = .ok (.int (w.length : Int)) := by
  show (if (SX.S w).length ≤ lim then Rz.ok (D.int ((SX.S w).length : Nat)) else .bad) = _
  rw [if_pos (by rw [S_length]; exact h), S_length]
theorem inFig (c : Nat) : inND false (sL [c]) (sL FIG) = .ok (.bl (decide (48 ≤ c) && decide (c ≤ 57))) := by
  have e : inND false (sL [c]) (sL FIG) = .ok (.bl (decide (c ∈ FIG))) := by
    show (match (if h : (SX.S [c]).cps.size = 1 then some (decide ((SX.S [c]).cps[0] ∈ (SX.S FIG).cps.toList)) else none) with | some k => Rz.ok (D.bl (if false = true then !k else k)) | none => .bad) = _
    rfl
  rw [e]
  congr 2
  rw [Bool.eq_iff_iff]
  simp only [Bool.and_eq_true, decide_eq_true_eq, FIG, List.mem_cons, List.not_mem_nil, or_false]
  omega
theorem strN {k : Nat} (h : k < 1000) : strD [.int (k : Int)] = .ok (sL (TL.numL k)) := by
  show (if ((k : Int)).natAbs.log2 < 1920 then Rz.ok (D.str (Str.ofString (toString (k : Int)))) else .bad) = _
  rw [if_pos (by
    rw [Int.natAbs_natCast]
    have : k.log2 ≤ k := Nat.log2_le_self k
    omega), SX.num_S]
  rfl
theorem intN {w : Cs} (hd : digs w = true) (hne : w ≠ []) (hl : w.length ≤ 640) : intD [sL w] = .ok (.int ((NumText.digitsVal w : Nat) : Int)) := by
  show (if (SX.S w).length ≤ 640 then (match PySem.intText? (SX.S w) with | some n => Rz.ok (D.int n) | none => .bad) else .bad) = _
  rw [if_pos (by rw [S_length]; exact hl), SX.int_S hd hne (by omega)]
theorem joinS {b : Cs} {rows : List Cs} (h : (rows.map List.length).sum + rows.length * b.length ≤ lim) : joinD (sL b) (.lst (rows.map sL)) = .ok (sL (TL.joinL b rows)) := by
  have e : rows.map sL = (rows.map SX.S).map D.str := by
    rw [List.map_map]
    rfl
  rw [e]
  unfold joinD sL
  simp only [strsOf_map]
  rw [SX.lens, List.length_map, S_length, if_pos h, SX.join_S]
theorem lcGo_yes3 {i : Nat} {ge : Rho → Rz D} {ρ : Rho} {x d : D} {xs r : List D} (h1 : ge (ρ.set i (.va x)) = .ok d) (h2 : lcGo (.nm i) gYes ge ρ xs = .ok r) : lcGo (.nm i) gYes ge ρ (x :: xs) = .ok (d :: r) := by
  simp [lcGo, h1, h2]
theorem wp_for3 {vs wp : List Nat} {gi : Rho → Rz (List D)} {tg : Tg} {body : Rho → Oc} {ρ ρ' : Rho} {xs : List D} (P : Nat → Rho → Prop) (hg : gi ρ = .ok xs) (h0 : P 0 ρ)
    (st : ∀ i x ρ, xs[i]? = some x → P i ρ → ∃ ρ1 ρ2, bindT tg x ρ = some ρ1 ∧ body ρ1 = .nx ρ2 ∧ P (i + 1) (wipeR ρ2 wp)) (hf : ∀ ρ2, P xs.length ρ2 → wipeR ρ2 vs = ρ') : sWp vs (sFor gi tg wp body) ρ = .nx ρ' := by
  obtain ⟨ρ2, e1, e2⟩ := for_inv (tg := tg) (wp := wp) (body := body) P xs 0 ρ h0 fun i x ρ hx hp => by
    rw [Nat.zero_add] at hp ⊢
    exact st i x ρ hx hp
  rw [Nat.zero_add] at e2
  rw [e_sWp, e_sFor, hg, e_rzSok, e1, e_ocnx, hf ρ2 e2]
/-! all signs are figures -/
theorem dig_all {i j : Nat} {w : Cs} {ρ : Rho} (hw : w.length ≤ 1000) (hj : ρ[j]? = some (.va (sL w))) (hi : i < ρ.length) :
    gCall allD (gCons (gLc (gIter (gVar j)) (.nm i) [i] gYes (gBin (inND false) (gVar i) (gC (sL FIG)))) gNil) ρ = .ok (.bl (digs w)) := by
  have hi1 : i < (wipeR ρ [i]).length := by
    show i < (ρ.set i .no).length
    rw [List.length_set]
    exact hi
  have key : ∀ l : Cs, lcGo (.nm i) gYes (gBin (inND false) (gVar i) (gC (sL FIG))) (wipeR ρ [i]) (l.map fun c => sL [c]) = .ok ((l.map fun c => decide (48 ≤ c) && decide (c ≤ 57)).map D.bl) := by
    intro l
    induction l with
    | nil => rfl
    | cons c l ih =>
      have a1 : ((wipeR ρ [i]).set i (.va (sL [c])))[i]? = some (.va (sL [c])) := List.getElem?_set_self hi1
      have e1 : gBin (inND false) (gVar i) (gC (sL FIG)) ((wipeR ρ [i]).set i (.va (sL [c]))) = .ok (.bl (decide (48 ≤ c) && decide (c ≤ 57))) := by
        rw [e_gBin, e_gVar, a1, e_gC]
        exact inFig c
      exact lcGo_yes3 e1 ih
  rw [e_gCall, e_gCons, e_gLc, e_gIter, e_gVar, hj]
  show (((if (w.map fun c => sL [c]).length ≤ lim then (lcGo (.nm i) gYes (gBin (inND false) (gVar i) (gC (sL FIG))) (wipeR ρ [i]) (w.map fun c => sL [c])).bind fun l => Rz.ok (D.lst l) else .bad).bind fun x => Rz.ok [x])).bind allD = _
  rw [if_pos (by rw [List.length_map, lim_is]; omega), key]
  show (match blsOf ((w.map fun c => decide (48 ≤ c) && decide (c ≤ 57)).map D.bl) with | some bs => Rz.ok (D.bl (bs.all id)) | none => .bad) = _
  rw [blsOf_map]
  show Rz.ok (D.bl ((w.map fun c => decide (48 ≤ c) && decide (c ≤ 57)).all id)) = _
  rw [List.all_map]
  rfl
theorem digs_ok {w : Cs} (h : digs w = true) : Ok w := fun c hc => by
  have := List.all_eq_true.mp h c hc
  simp at this
  omega
/-- number_in -/
theorem number_eq {w : Cs} (hw : w.length ≤ 1000) : (∀ k, numIn w = some k → f_number_in [sL w] = .ok (.int (k : Int))) ∧ (numIn w = none → f_number_in [sL w] = .er .text) := by
  have hll : w.length ≤ lim := by
    rw [lim_is]
    omega
  have hs : startR 2 [sL w] = [.va (sL w), .no] := rfl
  have e1 := lenSL w hll
  have hd := dig_all (i := 1) (j := 0) (ρ := [.va (sL w), .no]) hw rfl (show 1 < 2 by decide)
  have c1 : gTst (gCh leD leD (gC (.int 1)) (gCall lenD (gCons (gVar 0) gNil)) (gC (.int 2))) [.va (sL w), .no] = .ok (decide (1 ≤ w.length) && decide (w.length ≤ 2)) := by
    by_cases h1 : 1 ≤ w.length
    · have h1' : (1 : Int) ≤ (w.length : Int) := by omega
      by_cases h2 : w.length ≤ 2
      · have h2' : (w.length : Int) ≤ 2 := by omega
        simp [e1, h1, h1', h2, h2']
      · have h2' : ¬ (w.length : Int) ≤ 2 := by omega
        simp [e1, h1, h1', h2, h2']
    · have h1' : ¬ (1 : Int) ≤ (w.length : Int) := by omega
      simp [e1, h1, h1']
  have cond : (gOr (gNot (gTst (gCh leD leD (gC (.int 1)) (gCall lenD (gCons (gVar 0) gNil)) (gC (.int 2))))) (gOr (gNot (gTru (gCall allD (gCons (gLc (gIter (gVar 0)) (.nm 1) [1] gYes (gBin (inND false) (gVar 1) (gC (sL FIG)))) gNil)))) (gAnd (gTst (gBin eqD (gBin ixD (gVar 0) (gC (.int 0))) (gC (sL [48])))) (gTst (gBin neD (gVar 0) (gC (sL [48]))))))) [.va (sL w), .no] = .ok (numIn w).isNone := by
    rw [e_gOr, e_gNot, c1, Rz.ok_bind, Rz.ok_bind]
    have no : ¬ ((decide (1 ≤ w.length) && decide (w.length ≤ 2)) = true ∧ digs w = true ∧ lead0 w = false) → numIn w = none := fun h => if_neg h
    cases h1 : (decide (1 ≤ w.length) && decide (w.length ≤ 2)) with
    | false =>
      rw [no (by rw [h1]; simp)]
      rfl
    | true =>
      rw [if_neg (by simp), e_gOr, e_gNot, e_gTru, hd]
      cases h2 : digs w with
      | false =>
        rw [no (by rw [h2]; simp)]
        rfl
      | true =>
        have hh1 := h1
        simp only [Bool.and_eq_true, decide_eq_true_eq] at h1
        obtain ⟨c, hc⟩ : ∃ c, w[0]? = some c := ⟨_, List.getElem?_eq_getElem h1.1⟩
        have i0 : ixD (sL w) (.int 0) = .ok (sL [c]) := ixS (k := 0) hc hll
        have ok1 := digs_ok h2
        have okc : Ok [c] := fun x hx => by
          rw [List.mem_singleton] at hx
          subst hx
          exact ok1 x (List.mem_of_getElem? hc)
        have ok48 : Ok [48] := fun x hx => by
          rw [List.mem_singleton] at hx
          omega
        have e3 := eqS okc ok48
        have e4 := neS ok1 ok48
        show (if (!true) = true then Rz.ok true else (gAnd (gTst (gBin eqD (gBin ixD (gVar 0) (gC (.int 0))) (gC (sL [48])))) (gTst (gBin neD (gVar 0) (gC (sL [48]))))) [.va (sL w), .no]) = _
        rw [if_neg (by simp), e_gAnd]
        have t1 : gTst (gBin eqD (gBin ixD (gVar 0) (gC (.int 0))) (gC (sL [48]))) [.va (sL w), .no] = .ok (decide ([c] = [48])) := by simp [i0, e3]
        have t2 : gTst (gBin neD (gVar 0) (gC (sL [48]))) [.va (sL w), .no] = .ok (!decide (w = [48])) := by simp [e4]
        rw [t1, t2, Rz.ok_bind]
        have e5 : decide ([c] = [48]) = decide (w[0]? = some 48) := by
          rw [hc]
          simp
        rw [e5]
        have yes : lead0 w = false → numIn w = some (NumText.digitsVal w) := fun h => if_pos ⟨hh1, h2, h⟩
        cases h3 : decide (w[0]? = some 48) with
        | false =>
          rw [yes (by unfold lead0; rw [h3]; rfl)]
          rfl
        | true =>
          rw [if_pos rfl]
          cases h4 : decide (w = [48]) with
          | false =>
            rw [no (by unfold lead0; rw [h3, h4]; simp)]
            rfl
          | true =>
            rw [yes (by unfold lead0; rw [h3, h4]; rfl)]
            rfl
  refine ⟨fun k hk => fn_rt rfl ?_, fun hk => fn_er (ρ := [.va (sL w), .no]) rfl ?_⟩
  · rw [hs]
    unfold b_number_in
    rw [lit_fig, lit_0]
    rw [hk] at cond
    obtain ⟨ew, hk2⟩ := numIn_some hk
    have hdg : digs w = true := by
      rw [ew]
      exact digs_num k
    have hne : w ≠ [] := by
      rw [ew]
      exact TL.numL_ne k
    have ei := intN hdg hne (by have := numL_len2 hk2; rw [ew]; omega)
    have ev : NumText.digitsVal w = k := by
      rw [ew, TL.numL_val]
    rw [ev] at ei
    refine seq_nx (ρ' := [.va (sL w), .no]) (by rw [e_sIf, cond]; rfl) ?_
    simp [ei]
  · rw [hs]
    unfold b_number_in
    rw [lit_fig, lit_0]
    rw [hk] at cond
    rw [e_sSeq, e_sIf, cond]
    rfl
/-! what is cut out has no other signs -/
theorem spl_chars {b : Cs} {c : Nat} {p : Cs} : ∀ (a acc : Cs) (k : Nat), p ∈ TL.spl b k acc a → c ∈ p → c ∈ acc ∨ c ∈ a
  | [], acc, k, h, hc => by
    rw [TL.spl_nil, List.mem_singleton] at h
    subst h
    exact .inl hc
  | d :: r, acc, 0, h, hc => by
    unfold TL.spl at h
    split at h
    · rcases List.mem_cons.mp h with rfl | h
      · exact .inl hc
      · rcases spl_chars r [] _ h hc with z | z
        · cases z
        · exact .inr (List.mem_cons_of_mem _ z)
    · rcases spl_chars r (acc ++ [d]) 0 h hc with z | z
      · rcases List.mem_append.mp z with z | z
        · exact .inl z
        · rw [List.mem_singleton] at z
          subst z
          exact .inr List.mem_cons_self
      · exact .inr (List.mem_cons_of_mem _ z)
  | d :: r, acc, k + 1, h, hc => by
    rcases spl_chars r acc k h hc with z | z
    · exact .inl z
    · exact .inr (List.mem_cons_of_mem _ z)
theorem spl_ok {a b p : Cs} (h : Ok a) (hp : p ∈ TL.spl b 0 [] a) : Ok p := fun c hc => by
  rcases spl_chars a [] 0 hp hc with z | z
  · cases z
  · exact h c z
theorem len_sum {p : Cs} : ∀ {l : List Cs}, p ∈ l → p.length ≤ (l.map List.length).sum
  | q :: l, h => by
    rw [List.map_cons, List.sum_cons]
    rcases List.mem_cons.mp h with rfl | h
    · omega
    · have := len_sum h
      omega
theorem spl_len {a b p : Cs} (hb : b ≠ []) (hk : b.all (· < 256) = true) (hp : p ∈ TL.spl b 0 [] a) : p.length ≤ a.length := by
  have w := spl_weight (a := a) hb hk
  have hs : p.length ≤ ((TL.spl b 0 [] a).map List.length).sum := len_sum hp
  have hc : 1 ≤ (TL.spl b 0 [] a).length := List.length_pos_iff.mpr (spl_ne a [] 0)
  omega
end FM
set_option Elab.async false
set_option linter.all false
set_option maxRecDepth 100000
set_option maxHeartbeats 8000000
/-! FM, plain: the law's numbers; look_web of what was read; read. -/
namespace FM
open PySem L2
def zl (ls : List (Nat × Nat)) : List (Int × Int) := ls.map fun p => ((p.1 : Int), (p.2 : Int))
def nI (ks : List Nat) : List D := ks.map fun (k : Nat) => D.int (k : Int)
theorem allNum_len : ∀ {ws : List Cs} {ks : List Nat}, allNum ws = some ks → ks.length = ws.length
  | [], ks, h => by
    cases h
    rfl
  | w :: ws, ks, h => by
    unfold allNum at h
    split at h
    · rename_i k ks' h1 h2
      cases h
      rw [List.length_cons, List.length_cons, allNum_len h2]
    · cases h
/-! the law's numbers -/
noncomputable def ln_body : Rho → Oc := (sSeq (sIf (gOr (gTst (gBin eqD (gVar 2) (gC (sL [])))) (gOr (gTst (gBin gtD (gCall lenD (gCons (gVar 2) gNil)) (gC (.int 2)))) (gOr (gNot (gTru (gCall allD (gCons (gLc (gIter (gVar 2)) (.nm 3) [3] gYes (gBin (inND false) (gVar 3) (gC (sL FIG)))) gNil)))) (gTst (gBin neD (gCall strD (gCons (gCall intD (gCons (gVar 2) gNil)) gNil)) (gVar 2))))))
  (sRet (gC .non))
  sNil)
  (sWp [2] (sApp 1 (gCall intD (gCons (gVar 2) gNil)))))
theorem ln_step {x : Sl} {acc : List D} {w : Cs} (hw : w.length ≤ 1000) (ok : Ok w) (ha : acc.length ≤ lim) :
    ln_body [x, .ow acc, .va (sL w), .no] = match numIn w with
      | some k => .nx [x, .ow (acc ++ [.int (k : Int)]), .no, .no]
      | none => .rt .non := by
  have hll : w.length ≤ lim := by
    rw [lim_is]
    omega
  have okn : Ok [] := fun c hc => by cases hc
  have e1 := eqS ok okn
  have e2 := lenSL w hll
  have hd := dig_all (i := 3) (j := 2) (ρ := [x, .ow acc, .va (sL w), .no]) hw rfl (show 3 < 4 by decide)
  have t1 : gTst (gBin eqD (gVar 2) (gC (sL []))) [x, .ow acc, .va (sL w), .no] = .ok (decide (w = [])) := by simp [e1]
  have t2 : gTst (gBin gtD (gCall lenD (gCons (gVar 2) gNil)) (gC (.int 2))) [x, .ow acc, .va (sL w), .no] = .ok (decide (2 < w.length)) := by
    by_cases h : 2 < w.length
    · have h' : (2 : Int) < (w.length : Int) := by omega
      simp [e2, h, h']
    · have h' : ¬ (2 : Int) < (w.length : Int) := by omega
      simp [e2, h, h']
  have no : ¬ ((decide (1 ≤ w.length) && decide (w.length ≤ 2)) = true ∧ digs w = true ∧ lead0 w = false) → numIn w = none := fun h => if_neg h
  unfold ln_body
  by_cases h0 : w = []
  · rw [no (by rw [h0]; simp)]
    rw [e_sSeq, e_sIf, e_gOr, t1, Rz.ok_bind, if_pos (decide_eq_true h0)]
    rfl
  · have hpos : 1 ≤ w.length := List.length_pos_iff.mpr h0
    by_cases h2 : 2 < w.length
    · rw [no (by
        have : ¬ w.length ≤ 2 := by omega
        simp [this])]
      rw [e_sSeq, e_sIf, e_gOr, t1, Rz.ok_bind, if_neg (by simp [h0]), e_gOr, t2, Rz.ok_bind, if_pos (decide_eq_true h2)]
      rfl
    · cases h3 : digs w with
      | false =>
        rw [no (by rw [h3]; simp)]
        rw [h3] at hd
        rw [e_sSeq, e_sIf, e_gOr, t1, Rz.ok_bind, if_neg (by simp [h0]), e_gOr, t2, Rz.ok_bind, if_neg (by simp [h2]), e_gOr, e_gNot, e_gTru, hd]
        rfl
      | true =>
        rw [h3] at hd
        have ei := intN h3 h0 (by omega)
        have hb := back_iff hpos (by omega) h3
        have hv : NumText.digitsVal w < 1000 := by
          have hcc : ∀ c ∈ w, 48 ≤ c ∧ c ≤ 57 := fun c hc => by
            have := List.all_eq_true.mp h3 c hc
            simpa using this
          match w, hpos, h2, hcc with
          | [c], _, _, hcc =>
            have := hcc c (by simp)
            simp [NumText.digitsVal]
            omega
          | [c, d], _, _, hcc =>
            have := hcc c (by simp)
            have := hcc d (by simp)
            simp [NumText.digitsVal]
            omega
          | _ :: _ :: _ :: _, _, h2, _ =>
            simp at h2
        have es := strN hv
        have okb : Ok (TL.numL (NumText.digitsVal w)) := digs_ok (digs_num _)
        have en := neS okb ok
        have t4 : gTst (gBin neD (gCall strD (gCons (gCall intD (gCons (gVar 2) gNil)) gNil)) (gVar 2)) [x, .ow acc, .va (sL w), .no] = .ok (lead0 w) := by
          have : (!decide (TL.numL (NumText.digitsVal w) = w)) = lead0 w := by
            cases h5 : lead0 w with
            | false =>
              rw [hb.mpr h5]
              simp
            | true =>
              have : ¬ TL.numL (NumText.digitsVal w) = w := fun z => by
                rw [hb.mp z] at h5
                cases h5
              simp [this]
          simp [ei, es, en, this]
        have head : gOr (gTst (gBin eqD (gVar 2) (gC (sL [])))) (gOr (gTst (gBin gtD (gCall lenD (gCons (gVar 2) gNil)) (gC (.int 2)))) (gOr (gNot (gTru (gCall allD (gCons (gLc (gIter (gVar 2)) (.nm 3) [3] gYes (gBin (inND false) (gVar 3) (gC (sL FIG)))) gNil)))) (gTst (gBin neD (gCall strD (gCons (gCall intD (gCons (gVar 2) gNil)) gNil)) (gVar 2))))) [x, .ow acc, .va (sL w), .no] = .ok (lead0 w) := by
          rw [e_gOr, t1, Rz.ok_bind, if_neg (by simp [h0]), e_gOr, t2, Rz.ok_bind, if_neg (by simp [h2]), e_gOr, e_gNot, e_gTru, hd]
          exact t4
        cases h5 : lead0 w with
        | true =>
          rw [no (by rw [h5]; simp)]
          rw [e_sSeq, e_sIf, head, h5]
          rfl
        | false =>
          have yes : numIn w = some (NumText.digitsVal w) := if_pos ⟨by
            have : w.length ≤ 2 := by omega
            simp [hpos, this], h3, h5⟩
          rw [yes]
          refine seq_nx (ρ' := [x, .ow acc, .va (sL w), .no]) (by rw [e_sIf, head, h5]; rfl) ?_
          simp [ei, ha]
theorem ln_run {x : Sl} : ∀ (ws : List Cs) (acc : List D), (∀ w ∈ ws, w.length ≤ 1000 ∧ Ok w) → acc.length + ws.length ≤ lim →
    forGo (.nm 2) [2] ln_body (ws.map sL) [x, .ow acc, .no, .no] = match allNum ws with
      | some ks => .nx [x, .ow (acc ++ nI ks), .no, .no]
      | none => .rt .non
  | [], acc, _, _ => by
    show Oc.nx [x, .ow acc, .no, .no] = .nx [x, .ow (acc ++ []), .no, .no]
    rw [List.append_nil]
  | w :: ws, acc, h, hl => by
    rw [List.length_cons] at hl
    obtain ⟨h1, h2⟩ := h w List.mem_cons_self
    have st := ln_step (x := x) (acc := acc) h1 h2 (by omega)
    have go : forGo (.nm 2) [2] ln_body ((w :: ws).map sL) [x, .ow acc, .no, .no] = match ln_body [x, .ow acc, .va (sL w), .no] with
      | .nx ρ2 => forGo (.nm 2) [2] ln_body (ws.map sL) (wipeR ρ2 [2])
      | o => o := rfl
    rw [go, st]
    unfold allNum
    cases e : numIn w with
    | none => rfl
    | some k =>
      have ih := ln_run (x := x) ws (acc ++ [.int (k : Int)]) (fun y hy => h y (List.mem_cons_of_mem _ hy)) (by rw [List.length_append, List.length_singleton]; omega)
      show forGo (.nm 2) [2] ln_body (ws.map sL) [x, .ow (acc ++ [.int (k : Int)]), .no, .no] = _
      rw [ih]
      cases e2 : allNum ws with
      | none => rfl
      | some ks =>
        show Oc.nx [x, .ow (acc ++ [.int (k : Int)] ++ nI ks), .no, .no] = .nx [x, .ow (acc ++ nI (k :: ks)), .no, .no]
        rw [List.append_assoc]
        rfl
theorem numbers_eq {ws : List Cs} (h : ∀ w ∈ ws, w.length ≤ 1000 ∧ Ok w) (hl : ws.length ≤ 2000) : f_law_numbers_k30 [.lst (ws.map sL)] = .ok (match allNum ws with
    | some ks => .lst (nI ks)
    | none => .non) := by
  have r := ln_run (x := .va (.lst (ws.map sL))) ws [] h (by rw [lim_is]; simp; omega)
  refine fn_rt rfl ?_
  have hs : startR 4 [.lst (ws.map sL)] = [.va (.lst (ws.map sL)), .no, .no, .no] := rfl
  rw [hs]
  unfold b_law_numbers_k30
  rw [lit_e, lit_fig]
  have eb : ∀ xs ρ, forGo (.nm 2) [2] (sSeq (sIf (gOr (gTst (gBin eqD (gVar 2) (gC (sL [])))) (gOr (gTst (gBin gtD (gCall lenD (gCons (gVar 2) gNil)) (gC (.int 2)))) (gOr (gNot (gTru (gCall allD (gCons (gLc (gIter (gVar 2)) (.nm 3) [3] gYes (gBin (inND false) (gVar 3) (gC (sL FIG)))) gNil)))) (gTst (gBin neD (gCall strD (gCons (gCall intD (gCons (gVar 2) gNil)) gNil)) (gVar 2))))))
  (sRet (gC .non))
  sNil)
  (sWp [2] (sApp 1 (gCall intD (gCons (gVar 2) gNil))))) xs ρ = forGo (.nm 2) [2] ln_body xs ρ := fun _ _ => rfl
  have l0 : (0 : Nat) ≤ lim := Nat.zero_le _
  generalize ws.map sL = wd at *
  cases e : allNum ws with
  | none =>
    rw [e] at r
    simp [l0, eb, r]
  | some ks =>
    rw [e] at r
    simp only [List.nil_append] at r
    show _ = Oc.rt (.lst (nI ks))
    generalize nI ks = kd at *
    simp [l0, eb, r]
/-! look_web of what was read -/
theorem pair_chain : ∀ {ls : List (Nat × Nat)}, (∀ (j : Nat) (p q : Nat × Nat), ls[j]? = some p → ls[j + 1]? = some q → p.1 < q.1 ∨ (p.1 = q.1 ∧ p.2 < q.2)) → ls.Pairwise fun p q => p.1 < q.1 ∨ (p.1 = q.1 ∧ p.2 < q.2)
  | [], _ => .nil
  | [p], _ => by simp
  | p :: q :: r, h => by
    have ih := pair_chain (ls := q :: r) fun j a b e1 e2 => h (j + 1) a b (by simpa using e1) (by simpa using e2)
    have h0 := h 0 p q rfl rfl
    refine List.pairwise_cons.mpr ⟨fun x hx => ?_, ih⟩
    rcases List.mem_cons.mp hx with rfl | hx
    · exact h0
    · have := (List.pairwise_cons.mp ih).1 x hx
      omega
theorem webN_ok {m : Nat} {ls : List (Nat × Nat)} (h : WebN m ls) (hl : ls.length ≤ 900) : WebOk (m : Int) (zl ls) := by
  have hm := h.mx
  refine ⟨by omega, by omega, fun p hp => ?_, ?_, by unfold zl; rw [List.length_map]; exact hl⟩
  · obtain ⟨q, hq, rfl⟩ := List.mem_map.mp hp
    have := h.ln q hq
    show 0 ≤ (q.1 : Int) ∧ (q.1 : Int) < (q.2 : Int) ∧ (q.2 : Int) < (m : Int)
    omega
  · unfold zl
    rw [List.pairwise_map]
    refine h.up.imp fun {p q} hpq => ?_
    show decide ((p.1 : Int) < (q.1 : Int) ∨ ((p.1 : Int) = (q.1 : Int) ∧ (p.2 : Int) < (q.2 : Int))) = true
    exact decide_eq_true (by omega)
theorem zl_ln (ls : List (Nat × Nat)) : (zl ls).map pD = (ls.map fun p => (((p.1 : Int), some (p.2 : Int)) : Ln)).map lnD := by
  unfold zl
  rw [List.map_map, List.map_map]
  rfl
theorem look_read {m : Nat} {ls : List (Nat × Nat)} (hl : ls.length ≤ 900) : (WebN m ls → f_look_web [wD (m : Int) (zl ls)] = .ok .non) ∧ (¬ WebN m ls → f_look_web [wD (m : Int) (zl ls)] = .er .web) := by
  refine ⟨fun h => look_web_ok (webN_ok h hl), fun h => ?_⟩
  unfold wD
  rw [zl_ln]
  refine look_web_bad (by rw [List.length_map]; omega) ?_
  by_cases hm : m ≤ 10
  · refine .inr (Classical.byContradiction fun hno => h ?_)
    have fine : ∀ (j : Nat) (p : Nat × Nat), ls[j]? = some p → lineBad (m : Int) (prev (ls.map fun p => (((p.1 : Int), some (p.2 : Int)) : Ln)) j) (((p.1 : Int), some (p.2 : Int)) : Ln) = false := fun j p e => by
      cases q : lineBad (m : Int) (prev (ls.map fun p => (((p.1 : Int), some (p.2 : Int)) : Ln)) j) (((p.1 : Int), some (p.2 : Int)) : Ln) with
      | false => rfl
      | true => exact absurd ⟨j, _, by rw [List.getElem?_map, e]; rfl, q⟩ hno
    refine ⟨hm, fun p hp => ?_, pair_chain fun j p q e1 e2 => ?_⟩
    · obtain ⟨j, hj⟩ := List.mem_iff_getElem?.mp hp
      have := fine j p hj
      unfold lineBad at this
      simp only [Bool.or_eq_false_iff, Bool.not_eq_false', decide_eq_true_eq] at this
      omega
    · have := fine (j + 1) q e2
      have hpv : prev (ls.map fun p => (((p.1 : Int), some (p.2 : Int)) : Ln)) (j + 1) = some (((p.1 : Int), some (p.2 : Int)) : Ln) := by
        show (ls.map fun p => (((p.1 : Int), some (p.2 : Int)) : Ln))[j]? = _
        rw [List.getElem?_map, e1]
        rfl
      rw [hpv] at this
      unfold lineBad at this
      simp only [Bool.or_eq_false_iff, Bool.not_eq_false'] at this
      have h2 : decide ((p.1 : Int) < (q.1 : Int) ∨ ((p.1 : Int) = (q.1 : Int) ∧ (p.2 : Int) < (q.2 : Int))) = true := this.2
      have := of_decide_eq_true h2
      omega
  · exact .inl (by omega)
/-! read -/
def runR : Int → List Cs → Option (List (Nat × List Nat))
  | _, [] => some []
  | l, w :: ws => match rowP w with
    | some r => if l < (r.1 : Int) then (runR r.1 ws).map (r :: ·) else none
    | none => none
theorem runR_some : ∀ {ws : List Cs} {l : Int} {rs : List (Nat × List Nat)}, runR l ws = some rs ↔ allRow ws = some rs ∧ risesFrom l rs = true
  | [], l, rs => by
    constructor
    · intro h
      cases h
      exact ⟨rfl, rfl⟩
    · rintro ⟨h, _⟩
      cases h
      rfl
  | w :: ws, l, rs => by
    unfold runR allRow
    cases e : rowP w with
    | none => simp
    | some r =>
      have ih : ∀ {rs}, runR (r.1 : Int) ws = some rs ↔ allRow ws = some rs ∧ risesFrom (r.1 : Int) rs = true := runR_some
      by_cases hl : l < (r.1 : Int)
      · simp only [hl, if_true]
        constructor
        · intro h
          rw [Option.map_eq_some_iff] at h
          obtain ⟨rs', h1, rfl⟩ := h
          obtain ⟨h2, h3⟩ := ih.mp h1
          rw [h2]
          exact ⟨rfl, by unfold risesFrom; rw [h3]; simp [hl]⟩
        · rintro ⟨h1, h2⟩
          cases e2 : allRow ws with
          | none =>
            rw [e2] at h1
            cases h1
          | some rs' =>
            rw [e2] at h1
            cases h1
            unfold risesFrom at h2
            rw [Bool.and_eq_true] at h2
            rw [ih.mpr ⟨e2, h2.2⟩]
            rfl
      · simp only [hl, if_false]
        constructor
        · intro h
          cases h
        · rintro ⟨h1, h2⟩
          exfalso
          cases e2 : allRow ws with
          | none =>
            rw [e2] at h1
            cases h1
          | some rs' =>
            rw [e2] at h1
            cases h1
            unfold risesFrom at h2
            rw [Bool.and_eq_true, decide_eq_true_eq] at h2
            exact hl h2.1
theorem lcX_words {ρ : Rho} {k : Nat} (hk : ρ[3]? = some (.va (.int (k : Int)))) (h9 : 9 < ρ.length) : ∀ ws : List Cs, (∀ w ∈ ws, w.length ≤ 1000) →
    (∀ es, allNum ws = some es → lcGoX (.nm 9) gYes (gTup (gCons (gVar 3) (gCons (gCall f_number_in (gCons (gVar 9) gNil)) gNil))) ρ (ws.map sL) = .ok ((es.map fun (e : Nat) => (((k : Int), (e : Int)) : Int × Int)).map pD)) ∧
    (allNum ws = none → lcGoX (.nm 9) gYes (gTup (gCons (gVar 3) (gCons (gCall f_number_in (gCons (gVar 9) gNil)) gNil))) ρ (ws.map sL) = .er .text)
  | [], _ => ⟨fun es h => by
      cases h
      rfl, fun h => by cases h⟩
  | w :: ws, h => by
    obtain ⟨i1, i2⟩ := lcX_words hk h9 ws fun x hx => h x (List.mem_cons_of_mem _ hx)
    obtain ⟨n1, n2⟩ := number_eq (h w List.mem_cons_self)
    have a9 : (ρ.set 9 (.va (sL w)))[9]? = some (.va (sL w)) := List.getElem?_set_self h9
    have a3 : (ρ.set 9 (.va (sL w)))[3]? = some (.va (.int (k : Int))) := by
      rw [List.getElem?_set_ne (by decide), hk]
    have l2 : (2 : Nat) ≤ lim := by decide
    have go : lcGoX (.nm 9) gYes (gTup (gCons (gVar 3) (gCons (gCall f_number_in (gCons (gVar 9) gNil)) gNil))) ρ ((w :: ws).map sL) = (match gTup (gCons (gVar 3) (gCons (gCall f_number_in (gCons (gVar 9) gNil)) gNil)) (ρ.set 9 (.va (sL w))) with
      | .ok d => (lcGoX (.nm 9) gYes (gTup (gCons (gVar 3) (gCons (gCall f_number_in (gCons (gVar 9) gNil)) gNil))) ρ (ws.map sL)).bind fun r => .ok (d :: r)
      | .er e => .er e
      | .bad => .bad) := rfl
    unfold allNum
    cases e : numIn w with
    | none =>
      refine ⟨fun es h => (by cases h), fun _ => ?_⟩
      rw [go]
      have : gTup (gCons (gVar 3) (gCons (gCall f_number_in (gCons (gVar 9) gNil)) gNil)) (ρ.set 9 (.va (sL w))) = .er .text := by
        rw [e_gTup, e_gCons, e_gVar, a3, Rz.ok_bind, e_gCons, e_gCall, e_gCons, e_gVar, a9]
        show (((f_number_in [sL w]).bind fun x => (gNil _).bind fun xs => Rz.ok (x :: xs)).bind fun xs => Rz.ok (D.int (k : Int) :: xs)).bind _ = _
        rw [n2 e]
        rfl
      rw [this]
    | some z =>
      have ht : gTup (gCons (gVar 3) (gCons (gCall f_number_in (gCons (gVar 9) gNil)) gNil)) (ρ.set 9 (.va (sL w))) = .ok (pD (((k : Int), (z : Int)) : Int × Int)) := by
        rw [e_gTup, e_gCons, e_gVar, a3, Rz.ok_bind, e_gCons, e_gCall, e_gCons, e_gVar, a9]
        show (((f_number_in [sL w]).bind fun x => (gNil _).bind fun xs => Rz.ok (x :: xs)).bind fun xs => Rz.ok (D.int (k : Int) :: xs)).bind _ = _
        rw [n1 z e]
        show (if [D.int (k : Int), D.int (z : Int)].length ≤ lim then Rz.ok (D.tup [D.int (k : Int), D.int (z : Int)]) else .bad) = _
        rw [if_pos (show [D.int (k : Int), D.int (z : Int)].length ≤ lim from l2)]
        rfl
      rw [go, ht]
      cases e2 : allNum ws with
      | none =>
        refine ⟨fun es h => (by cases h), fun _ => ?_⟩
        rw [i2 e2]
        rfl
      | some es' =>
        refine ⟨fun es h => ?_, fun h => by cases h⟩
        cases h
        rw [i1 es' e2]
        rfl
noncomputable def rd_body : Rho → Oc := (sSeq (sWp [4] (sSet 5 (gM1 splitD (gVar 4) (gC (sL [58, 32])))))
  (sSeq (sWp [3] (sIf (gOr (gTst (gBin neD (gCall lenD (gCons (gVar 5) gNil)) (gC (.int 2)))) (gTst (gBin leD (gCall f_number_in (gCons (gBin ixD (gVar 5) (gC (.int 0))) gNil)) (gVar 3))))
  (sRaise .text)
  sNil))
  (sSeq (sSet 3 (gCall f_number_in (gCons (gBin ixD (gVar 5) (gC (.int 0))) gNil)))
  (sWp [5] (sExt 2 (gLcX (gIter (gM1 splitD (gBin ixD (gVar 5) (gC (.int 1))) (gC (sL [32])))) (.nm 9) [9] gYes (gTup (gCons (gVar 3) (gCons (gCall f_number_in (gCons (gVar 9) gNil)) gNil)))))))))
theorem rd_step {R : Sl} {row : Cs} {l : Int} {acc : List (Int × Int)} (hr : row.length ≤ 1000) (ha : acc.length ≤ 3000) :
    (∀ r, rowP row = some r → l < (r.1 : Int) → rd_body [.no, R, .ow (acc.map pD), .va (.int l), .va (sL row), .no, .no, .no, .no, .no] = .nx [.no, R, .ow ((acc ++ zl (r.2.map fun e => (r.1, e))).map pD), .va (.int (r.1 : Int)), .no, .no, .no, .no, .no, .no]) ∧
    ((∀ r, rowP row = some r → ¬ l < (r.1 : Int)) → ∃ ρ, rd_body [.no, R, .ow (acc.map pD), .va (.int l), .va (sL row), .no, .no, .no, .no, .no] = .er .text ρ) := by
  have sp := sp_split (t := row) (b := [58, 32]) (by simp) (by decide) (by rw [lim_is]; omega)
  have pl : ∀ p ∈ TL.spl [58, 32] 0 [] row, p.length ≤ row.length := fun p hp => spl_len (by simp) (by decide) hp
  have wt := spl_weight (a := row) (b := [58, 32]) (by simp) (by decide)
  have s1 : (sWp [4] (sSet 5 (gM1 splitD (gVar 4) (gC (sL [58, 32]))))) [.no, R, .ow (acc.map pD), .va (.int l), .va (sL row), .no, .no, .no, .no, .no] = .nx [.no, R, .ow (acc.map pD), .va (.int l), .no, .va (.lst ((TL.spl [58, 32] 0 [] row).map sL)), .no, .no, .no, .no] := by
    simp [sp]
  have hlen : lenD [.lst ((TL.spl [58, 32] 0 [] row).map sL)] = .ok (.int ((TL.spl [58, 32] 0 [] row).length : Int)) := by
    show Rz.ok (D.int (((TL.spl [58, 32] 0 [] row).map sL).length : Nat)) = _
    rw [List.length_map]
  unfold rowP
  generalize hsp : TL.spl [58, 32] 0 [] row = parts at *
  by_cases h2 : parts.length = 2
  · obtain ⟨hd, ws, rfl⟩ : ∃ hd ws, parts = [hd, ws] := by
      match parts, h2 with
      | [a, b], _ => exact ⟨a, b, rfl⟩
    have hhd := pl hd (by simp)
    have hws := pl ws (by simp)
    obtain ⟨n1, n2⟩ := number_eq (w := hd) (by omega)
    have hix0 : ixD (.lst ([hd, ws].map sL)) (.int 0) = .ok (sL hd) := ixL_0
    have hix1 : ixD (.lst ([hd, ws].map sL)) (.int 1) = .ok (sL ws) := ixL_nn (k := 1) rfl
    have hlen2 : lenD [.lst ([hd, ws].map sL)] = .ok (.int 2) := hlen
    have spw := sp_split (t := ws) (b := [32]) (by simp) (by decide) (by rw [lim_is]; omega)
    have wl : ∀ w ∈ TL.spl [32] 0 [] ws, w.length ≤ 1000 := fun w hw => by
      have := spl_len (a := ws) (b := [32]) (by simp) (by decide) hw
      omega
    have wcount := spl_weight (a := ws) (b := [32]) (by simp) (by decide)
    generalize hpd : ([hd, ws] : List Cs).map sL = pd at *
    cases ek : numIn hd with
    | none =>
      refine ⟨fun r h => by simp [ek] at h, fun _ => ?_⟩
      have e := n2 ek
      refine ⟨[.no, R, .ow (acc.map pD), .va (.int l), .no, .va (.lst pd), .no, .no, .no, .no], ?_⟩
      unfold rd_body
      refine seq_nx s1 ?_
      simp [hlen2, neII, hix0, e]
    | some k =>
      have e := n1 k ek
      by_cases hlk : l < (k : Int)
      · have hnl : ¬ (k : Int) ≤ l := by omega
        obtain ⟨x1, x2⟩ := lcX_words (ρ := [.no, R, .ow (acc.map pD), .va (.int (k : Int)), .no, .va (.lst pd), .no, .no, .no, .no]) (k := k) rfl (show 9 < 10 by decide) _ wl
        have q2 : (sWp [3] (sIf (gOr (gTst (gBin neD (gCall lenD (gCons (gVar 5) gNil)) (gC (.int 2)))) (gTst (gBin leD (gCall f_number_in (gCons (gBin ixD (gVar 5) (gC (.int 0))) gNil)) (gVar 3))))
  (sRaise .text)
  sNil)) [.no, R, .ow (acc.map pD), .va (.int l), .no, .va (.lst pd), .no, .no, .no, .no] = .nx [.no, R, .ow (acc.map pD), .no, .no, .va (.lst pd), .no, .no, .no, .no] := by
          simp [hlen2, neII, hix0, e, hnl]
        have q3 : (sSet 3 (gCall f_number_in (gCons (gBin ixD (gVar 5) (gC (.int 0))) gNil))) [.no, R, .ow (acc.map pD), .no, .no, .va (.lst pd), .no, .no, .no, .no] = .nx [.no, R, .ow (acc.map pD), .va (.int (k : Int)), .no, .va (.lst pd), .no, .no, .no, .no] := by
          simp [hix0, e]
        have gi : gIter (gM1 splitD (gBin ixD (gVar 5) (gC (.int 1))) (gC (sL [32]))) [.no, R, .ow (acc.map pD), .va (.int (k : Int)), .no, .va (.lst pd), .no, .no, .no, .no] = .ok ((TL.spl [32] 0 [] ws).map sL) := by
          simp [hix1, spw]
        have hll : ((TL.spl [32] 0 [] ws).map sL).length ≤ lim := by
          rw [List.length_map, lim_is]
          omega
        cases ew : allNum (TL.spl [32] 0 [] ws) with
        | none =>
          refine ⟨fun r h => by simp [ek, ew] at h, fun _ => ?_⟩
          refine ⟨[.no, R, .ow (acc.map pD), .va (.int (k : Int)), .no, .va (.lst pd), .no, .no, .no, .no], ?_⟩
          unfold rd_body
          refine seq_nx s1 (seq_nx q2 (seq_nx q3 ?_))
          have g : gLcX (gIter (gM1 splitD (gBin ixD (gVar 5) (gC (.int 1))) (gC (sL [32])))) (.nm 9) [9] gYes (gTup (gCons (gVar 3) (gCons (gCall f_number_in (gCons (gVar 9) gNil)) gNil))) [.no, R, .ow (acc.map pD), .va (.int (k : Int)), .no, .va (.lst pd), .no, .no, .no, .no] = .er .text := by
            unfold gLcX
            rw [gi, Rz.ok_bind, if_pos hll]
            show (lcGoX _ _ _ [.no, R, .ow (acc.map pD), .va (.int (k : Int)), .no, .va (.lst pd), .no, .no, .no, .no] _).bind _ = _
            rw [x2 ew]
            rfl
          rw [e_sWp]
          unfold sExt
          show ocMap _ (rzS _ _ (gLcX _ _ _ _ _ [.no, R, .ow (acc.map pD), .va (.int (k : Int)), .no, .va (.lst pd), .no, .no, .no, .no])) = _
          rw [g]
          rfl
        | some es =>
          refine ⟨fun r h _ => ?_, fun h => absurd hlk (h (k, es) (by simp [ek, ew]))⟩
          have hr' : r = (k, es) := by simpa [ek, ew] using h.symm
          subst hr'
          unfold rd_body
          refine seq_nx s1 (seq_nx q2 (seq_nx q3 ?_))
          have hes := allNum_len ew
          have ez : zl (es.map fun e => (k, e)) = es.map fun (e : Nat) => (((k : Int), (e : Int)) : Int × Int) := by
            unfold zl
            rw [List.map_map]
            rfl
          have g : gLcX (gIter (gM1 splitD (gBin ixD (gVar 5) (gC (.int 1))) (gC (sL [32])))) (.nm 9) [9] gYes (gTup (gCons (gVar 3) (gCons (gCall f_number_in (gCons (gVar 9) gNil)) gNil))) [.no, R, .ow (acc.map pD), .va (.int (k : Int)), .no, .va (.lst pd), .no, .no, .no, .no] = .ok (.lst ((zl (es.map fun e => (k, e))).map pD)) := by
            unfold gLcX
            rw [gi, Rz.ok_bind, if_pos hll]
            show (lcGoX _ _ _ [.no, R, .ow (acc.map pD), .va (.int (k : Int)), .no, .va (.lst pd), .no, .no, .no, .no] _).bind _ = _
            rw [x1 es ew, ez]
            rfl
          rw [e_sWp]
          unfold sExt
          show ocMap _ (rzS _ _ (gLcX _ _ _ _ _ [.no, R, .ow (acc.map pD), .va (.int (k : Int)), .no, .va (.lst pd), .no, .no, .no, .no])) = _
          rw [g, e_rzSok]
          show ocMap _ (if (acc.map pD).length + ((zl (es.map fun e => (k, e))).map pD).length ≤ lim then _ else _) = _
          rw [if_pos (by
            unfold zl
            rw [List.length_map, List.length_map, List.length_map, List.length_map, hes, lim_is]
            omega), List.map_append]
          rfl
      · have hnl : (k : Int) ≤ l := by omega
        refine ⟨fun r h hl => ?_, fun _ => ?_⟩
        · exfalso
          cases ew : allNum (TL.spl [32] 0 [] ws) with
          | none => simp [ek, ew] at h
          | some es =>
            have hr' : r = (k, es) := by simpa [ek, ew] using h.symm
            subst hr'
            exact hlk hl
        · refine ⟨[.no, R, .ow (acc.map pD), .va (.int l), .no, .va (.lst pd), .no, .no, .no, .no], ?_⟩
          unfold rd_body
          refine seq_nx s1 ?_
          simp [hlen2, neII, hix0, e, hnl]
  · refine ⟨fun r h => ?_, fun _ => ?_⟩
    · exfalso
      split at h
      · rename_i hd ws
        exact h2 rfl
      · cases h
    · have h2' : ¬ ((parts.length : Int) = 2) := by omega
      refine ⟨[.no, R, .ow (acc.map pD), .va (.int l), .no, .va (.lst (parts.map sL)), .no, .no, .no, .no], ?_⟩
      unfold rd_body
      refine seq_nx s1 ?_
      generalize parts.map sL = pd at *
      simp [hlen, neII, h2']
theorem rd_run {R : Sl} : ∀ (rows : List Cs) (l : Int) (acc : List (Int × Int)), (∀ r ∈ rows, r.length ≤ 1000) → acc.length + (rows.map List.length).sum + rows.length ≤ 3000 →
    (∀ rs, runR l rows = some rs → ∃ l', forGo (.nm 4) [4, 5] rd_body (rows.map sL) [.no, R, .ow (acc.map pD), .va (.int l), .no, .no, .no, .no, .no, .no] = .nx [.no, R, .ow ((acc ++ zl (flatR rs)).map pD), .va (.int l'), .no, .no, .no, .no, .no, .no]) ∧
    (runR l rows = none → ∃ ρ, forGo (.nm 4) [4, 5] rd_body (rows.map sL) [.no, R, .ow (acc.map pD), .va (.int l), .no, .no, .no, .no, .no, .no] = .er .text ρ)
  | [], l, acc, _, _ => ⟨fun rs h => by
      cases h
      refine ⟨l, ?_⟩
      show Oc.nx _ = Oc.nx [.no, R, .ow ((acc ++ []).map pD), .va (.int l), .no, .no, .no, .no, .no, .no]
      rw [List.append_nil], fun h => by cases h⟩
  | row :: rows, l, acc, h, hl => by
    rw [List.map_cons, List.sum_cons, List.length_cons] at hl
    obtain ⟨s1, s2⟩ := rd_step (R := R) (l := l) (acc := acc) (h row List.mem_cons_self) (by omega)
    have go : forGo (.nm 4) [4, 5] rd_body ((row :: rows).map sL) [.no, R, .ow (acc.map pD), .va (.int l), .no, .no, .no, .no, .no, .no] = match rd_body [.no, R, .ow (acc.map pD), .va (.int l), .va (sL row), .no, .no, .no, .no, .no] with
      | .nx ρ2 => forGo (.nm 4) [4, 5] rd_body (rows.map sL) (wipeR ρ2 [4, 5])
      | o => o := rfl
    cases e : rowP row with
    | none =>
      have un : runR l (row :: rows) = none := by
        unfold runR
        rw [e]
      rw [un]
      refine ⟨fun rs h => (by cases h), fun _ => ?_⟩
      obtain ⟨ρ, er⟩ := s2 fun r hr => by rw [e] at hr; cases hr
      rw [go, er]
      exact ⟨ρ, rfl⟩
    | some r =>
      have us : runR l (row :: rows) = if l < (r.1 : Int) then (runR r.1 rows).map (r :: ·) else none := by
        rw [runR, e]
      rw [us]
      by_cases hlr : l < (r.1 : Int)
      · have st := s1 r e hlr
        obtain ⟨er, _, _, _⟩ := rowP_some (k := r.1) (es := r.2) e
        have hrl : r.2.length ≤ row.length + 1 := by
          have wz : (zl (r.2.map fun e => (r.1, e))).length = r.2.length := by
            unfold zl
            rw [List.length_map, List.length_map]
          have e' := e
          unfold rowP at e'
          split at e'
          · rename_i hd ws hsp
            split at e'
            · rename_i k es h1 h2
              cases e'
              have c1 := allNum_len h2
              have c2 := spl_weight (a := ws) (b := [32]) (by simp) (by decide)
              have c3 := spl_len (a := row) (b := [58, 32]) (p := ws) (by simp) (by decide) (by rw [hsp]; simp)
              show es.length ≤ row.length + 1
              omega
            · cases e'
          · cases e'
        have zlen : (acc ++ zl (r.2.map fun e => (r.1, e))).length = acc.length + r.2.length := by
          unfold zl
          rw [List.length_append, List.length_map, List.length_map]
        obtain ⟨i1, i2⟩ := rd_run (R := R) rows (r.1 : Int) (acc ++ zl (r.2.map fun e => (r.1, e))) (fun x hx => h x (List.mem_cons_of_mem _ hx)) (by rw [zlen]; omega)
        rw [if_pos hlr, go, st]
        refine ⟨fun rs h => ?_, fun h => ?_⟩
        · rw [Option.map_eq_some_iff] at h
          obtain ⟨rs', h1, rfl⟩ := h
          obtain ⟨l', e2⟩ := i1 rs' h1
          refine ⟨l', ?_⟩
          have ef : zl (flatR (r :: rs')) = zl (r.2.map fun e => (r.1, e)) ++ zl (flatR rs') := by
            unfold zl flatR
            rw [List.flatMap_cons, List.map_append]
          rw [ef, ← List.append_assoc]
          exact e2
        · rw [Option.map_eq_none_iff] at h
          exact i2 h
      · refine ⟨fun rs h => (by rw [if_neg hlr] at h; cases h), fun _ => ?_⟩
        obtain ⟨ρ, er2⟩ := s2 fun r' hr => by rw [e] at hr; cases hr; exact hlr
        rw [go, er2]
        exact ⟨ρ, rfl⟩
end FM
set_option Elab.async false
set_option linter.all false
set_option maxRecDepth 100000
set_option maxHeartbeats 8000000
/-! FM, plain: read; the law's own try. -/
namespace FM
open PySem L2
theorem seq_er {s t : Rho → Oc} {ρ ρ' : Rho} {c : Ec} (h1 : s ρ = .er c ρ') : sSeq s t ρ = .er c ρ' := by
  unfold sSeq
  rw [h1]
theorem seq_rt {s t : Rho → Oc} {ρ : Rho} {d : D} (h1 : s ρ = .rt d) : sSeq s t ρ = .rt d := by
  unfold sSeq
  rw [h1]
theorem parse_inv {t : Cs} {m : Nat} {rs : List (Nat × List Nat)} : parse t = some (m, rs) ↔ ∃ r0 rest, TL.spl [10] 0 [] t = r0 :: rest ∧ r0.take 6 = SPT ∧ numIn (r0.drop 6) = some m ∧ allRow rest = some rs := by
  unfold parse
  constructor
  · intro h
    split at h
    · cases h
    · rename_i r0 rest e
      split at h
      · rename_i h6
        split at h
        · rename_i m' rs' h1 h2
          cases h
          exact ⟨r0, rest, e, h6, h1, h2⟩
        · cases h
      · cases h
  · rintro ⟨r0, rest, e, h6, h1, h2⟩
    rw [e]
    simp only [h6, if_true, h1, h2]
theorem rowP_len {row : Cs} {r : Nat × List Nat} (e : rowP row = some r) : r.2.length ≤ row.length + 1 := by
  unfold rowP at e
  split at e
  · rename_i hd ws hsp
    split at e
    · rename_i k es h1 h2
      cases e
      have c1 := allNum_len h2
      have c2 := spl_weight (a := ws) (b := [32]) (by simp) (by decide)
      have c3 := spl_len (a := row) (b := [58, 32]) (p := ws) (by simp) (by decide) (by rw [hsp]; simp)
      show es.length ≤ row.length + 1
      omega
    · cases e
  · cases e
theorem flat_len : ∀ {rows : List Cs} {rs : List (Nat × List Nat)}, allRow rows = some rs → (flatR rs).length ≤ (rows.map List.length).sum + rows.length
  | [], rs, h => by
    cases h
    exact Nat.zero_le _
  | row :: rows, rs, h => by
    unfold allRow at h
    split at h
    · rename_i r rs' h1 h2
      cases h
      have := flat_len h2
      have h3 := rowP_len h1
      have ef : (flatR (r :: rs')).length = r.2.length + (flatR rs').length := by
        unfold flatR
        rw [List.flatMap_cons, List.length_append, List.length_map]
      rw [ef, List.map_cons, List.sum_cons, List.length_cons]
      omega
    · cases h
theorem take_ok {a : Cs} (h : Ok a) (k : Nat) : Ok (a.take k) := fun c hc => h c (List.mem_of_mem_take hc)
theorem drop_ok {a : Cs} (h : Ok a) (k : Nat) : Ok (a.drop k) := fun c hc => h c (List.mem_of_mem_drop hc)
theorem spt_ok : Ok SPT := fun c hc => by
  simp [SPT] at hc
  omega
theorem cut1 {r0 : D} {rest : List D} : slD (some 1) none (.lst (r0 :: rest)) = .ok (.lst rest) := by
  show Rz.ok (D.lst (cutD (r0 :: rest) (some ((1 : Nat) : Int)) none)) = _
  unfold cutD
  rw [HT.sIx_none, HT.sIx_nat]
  have : min 1 (r0 :: rest).length = 1 := by
    rw [List.length_cons]
    omega
  rw [this]
  show Rz.ok (D.lst (rest.take ((r0 :: rest).length - 1))) = _
  rw [List.take_of_length_le (by rw [List.length_cons]; omega)]
theorem e_isN3 : isNonD true .non = .ok (.bl false) := rfl
theorem e_isN4 {c : Ec} : isNonD true (.exc c) = .ok (.bl true) := rfl
/-! read -/
theorem rd_unf {R : Sl} (xs : List D) (ρ : Rho) : forGo (.nm 4) [4, 5] (sSeq (sWp [4] (sSet 5 (gM1 splitD (gVar 4) (gC (sL [58, 32])))))
  (sSeq (sWp [3] (sIf (gOr (gTst (gBin neD (gCall lenD (gCons (gVar 5) gNil)) (gC (.int 2)))) (gTst (gBin leD (gCall f_number_in (gCons (gBin ixD (gVar 5) (gC (.int 0))) gNil)) (gVar 3))))
  (sRaise .text)
  sNil))
  (sSeq (sSet 3 (gCall f_number_in (gCons (gBin ixD (gVar 5) (gC (.int 0))) gNil)))
  (sWp [5] (sExt 2 (gLcX (gIter (gM1 splitD (gBin ixD (gVar 5) (gC (.int 1))) (gC (sL [32])))) (.nm 9) [9] gYes (gTup (gCons (gVar 3) (gCons (gCall f_number_in (gCons (gVar 9) gNil)) gNil))))))))) xs ρ = forGo (.nm 4) [4, 5] rd_body xs ρ := rfl
theorem read_both {t : Cs} (ok : Ok t) (hl : t.length ≤ 800) :
    (∀ m rs, parse t = some (m, rs) → risesFrom (-1) rs = true → WebN m (flatR rs) → f_read [sL t] = .ok (wD (m : Int) (zl (flatR rs)))) ∧
    ((∀ m rs, parse t = some (m, rs) → risesFrom (-1) rs = true → ¬ WebN m (flatR rs)) → f_read [sL t] = .er .text) := by
  have sp := sp_split (t := t) (b := [10]) (by simp) (by decide) (by rw [lim_is]; omega)
  have wt := spl_weight (a := t) (b := [10]) (by simp) (by decide)
  have pin := @parse_inv t
  have hsub : ∀ p ∈ TL.spl [10] 0 [] t, p.length ≤ t.length ∧ Ok p := fun p hp => ⟨spl_len (by simp) (by decide) hp, spl_ok ok hp⟩
  cases hrows : TL.spl [10] 0 [] t with
  | nil => exact absurd hrows (spl_ne t [] 0)
  | cons r0 rest =>
    rw [hrows] at sp wt hsub pin
    obtain ⟨hr0, ok0⟩ := hsub r0 List.mem_cons_self
    have hs : startR 10 [sL t] = [.va (sL t), .no, .no, .no, .no, .no, .no, .no, .no, .no] := rfl
    have ix0 : ixD (.lst ((r0 :: rest).map sL)) (.int 0) = .ok (sL r0) := ixL_0
    have sl6 : slD none (some (6 : Int)) (sL r0) = .ok (sL (r0.take 6)) := sl_to (k := 6) (by rw [lim_is]; omega)
    have sl6b : slD (some (6 : Int)) none (sL r0) = .ok (sL (r0.drop 6)) := sl_from (k := 6) (by rw [lim_is]; omega)
    have n6 := neS (take_ok ok0 6) spt_ok
    have l0 : (0 : Nat) ≤ lim := Nat.zero_le _
    have l2 : (2 : Nat) ≤ lim := by decide
    have s1 : (sWp [0] (sSet 1 (gM1 splitD (gVar 0) (gC (sL [10]))))) [.va (sL t), .no, .no, .no, .no, .no, .no, .no, .no, .no] = .nx [.no, .va (.lst ((r0 :: rest).map sL)), .no, .no, .no, .no, .no, .no, .no, .no] := by
      simp [sp]
    by_cases h6 : r0.take 6 = SPT
    · have sl6' := sl6
      rw [h6] at sl6'
      have n6' := neS spt_ok spt_ok
      have s2 : (sIf (gTst (gBin neD (gSl (gBin ixD (gVar 1) (gC (.int 0))) none (some (gC (.int 6)))) (gC (sL SPT)))) (sRaise .text) sNil) [.no, .va (.lst ((r0 :: rest).map sL)), .no, .no, .no, .no, .no, .no, .no, .no] = .nx [.no, .va (.lst ((r0 :: rest).map sL)), .no, .no, .no, .no, .no, .no, .no, .no] := by
        generalize (r0 :: rest).map sL = rd at *
        simp [gSl, gPart, ix0, sl6', n6']
      have cut : gIter (gSl (gVar 1) (some (gC (.int 1))) none) [.no, .va (.lst ((r0 :: rest).map sL)), .ow [], .va (.int (-1)), .no, .no, .no, .no, .no, .no] = .ok (rest.map sL) := by
        have c := cut1 (r0 := sL r0) (rest := rest.map sL)
        have em : (r0 :: rest).map sL = sL r0 :: rest.map sL := rfl
        rw [em]
        generalize rest.map sL = rd at *
        simp [gSl, gPart, c]
      obtain ⟨q1, q2⟩ := rd_run (R := .va (.lst ((r0 :: rest).map sL))) rest (-1) [] (fun r hr => by have := (hsub r (List.mem_cons_of_mem _ hr)).1; omega) (by
        rw [List.map_cons, List.sum_cons, List.length_cons] at wt
        simp
        omega)
      obtain ⟨n1, n2⟩ := number_eq (w := r0.drop 6) (by rw [List.length_drop]; omega)
      have body : ∀ o, (sSeq (sWp [3, 4, 5] (sFor (gIter (gSl (gVar 1) (some (gC (.int 1))) none)) (.nm 4) [4, 5] rd_body))
          (sSeq (sWp [1, 2] (sFz 2 (sSet 6 (gTup (gCons (gCall f_number_in (gCons (gSl (gBin ixD (gVar 1) (gC (.int 0))) (some (gC (.int 6))) none) gNil)) (gCons (gVar 2) gNil))))))
          (sSeq (sSet 7 (gC .non))
          (sSeq (sWp [8] (sTry 8 7 (fun c => decide (c = .web)) (sExp (gCall f_look_web (gCons (gVar 6) gNil)))))
          (sSeq (sWp [7] (sIf (gTst (gIs true (gVar 7)))
          (sRaise .text)
          sNil))
          (sRet (gVar 6))))))) [.no, .va (.lst ((r0 :: rest).map sL)), .ow [], .va (.int (-1)), .no, .no, .no, .no, .no, .no] = o → b_read [.va (sL t), .no, .no, .no, .no, .no, .no, .no, .no, .no] = o := fun o ho => by
        unfold b_read
        rw [lit_nl, lit_spots, lit_cs, lit_sp]
        refine seq_nx s1 (seq_nx s2 ?_)
        refine seq_nx (ρ' := [.no, .va (.lst ((r0 :: rest).map sL)), .ow [], .no, .no, .no, .no, .no, .no, .no]) (by simp) ?_
        exact seq_nx (ρ' := [.no, .va (.lst ((r0 :: rest).map sL)), .ow [], .va (.int (-1)), .no, .no, .no, .no, .no, .no]) (by simp) ho
      cases er : runR (-1) rest with
      | none =>
        refine ⟨fun m rs hp hri _ => ?_, fun _ => ?_⟩
        · exfalso
          obtain ⟨r0', rest', e1, _, _, e4⟩ := pin.mp hp
          cases e1
          rw [runR_some.mpr ⟨e4, hri⟩] at er
          cases er
        · obtain ⟨ρ, e⟩ := q2 er
          have e' : forGo (.nm 4) [4, 5] rd_body (rest.map sL) [.no, .va (.lst ((r0 :: rest).map sL)), .ow [], .va (.int (-1)), .no, .no, .no, .no, .no, .no] = .er .text ρ := e
          refine fn_er (ρ := ρ) rfl ?_
          rw [hs]
          refine body _ (seq_er ?_)
          rw [e_sWp, e_sFor, cut, e_rzSok, e']
          rfl
      | some rs =>
        obtain ⟨ar, hri⟩ := runR_some.mp er
        obtain ⟨l', e⟩ := q1 rs er
        have e' : forGo (.nm 4) [4, 5] rd_body (rest.map sL) [.no, .va (.lst ((r0 :: rest).map sL)), .ow [], .va (.int (-1)), .no, .no, .no, .no, .no, .no] = .nx [.no, .va (.lst ((r0 :: rest).map sL)), .ow ((zl (flatR rs)).map pD), .va (.int l'), .no, .no, .no, .no, .no, .no] := by
          rw [List.nil_append] at e
          exact e
        have f1 : (sWp [3, 4, 5] (sFor (gIter (gSl (gVar 1) (some (gC (.int 1))) none)) (.nm 4) [4, 5] rd_body)) [.no, .va (.lst ((r0 :: rest).map sL)), .ow [], .va (.int (-1)), .no, .no, .no, .no, .no, .no] = .nx [.no, .va (.lst ((r0 :: rest).map sL)), .ow ((zl (flatR rs)).map pD), .no, .no, .no, .no, .no, .no, .no] := by
          rw [e_sWp, e_sFor, cut, e_rzSok, e']
          rfl
        have hflat := flat_len ar
        have hfl9 : (flatR rs).length ≤ 900 := by
          rw [List.map_cons, List.sum_cons, List.length_cons] at wt
          omega
        cases en : numIn (r0.drop 6) with
        | none =>
          refine ⟨fun m rs hp hri _ => ?_, fun _ => ?_⟩
          · exfalso
            obtain ⟨r0', rest', e1, _, e3, _⟩ := pin.mp hp
            cases e1
            rw [en] at e3
            cases e3
          · have ne := n2 en
            refine fn_er (ρ := [.no, .va (.lst ((r0 :: rest).map sL)), .va (.lst ((zl (flatR rs)).map pD)), .no, .no, .no, .no, .no, .no, .no]) rfl ?_
            rw [hs]
            refine body _ (seq_nx f1 (seq_er ?_))
            generalize (r0 :: rest).map sL = rd at *
            generalize (zl (flatR rs)).map pD = zd at *
            simp [gSl, gPart, ix0, sl6b, ne]
        | some m =>
          have ne := n1 m en
          have ewD : wD (m : Int) (zl (flatR rs)) = .tup [.int (m : Int), .lst ((zl (flatR rs)).map pD)] := rfl
          obtain ⟨w1, w2⟩ := look_read (m := m) (ls := flatR rs) hfl9
          have hpp : parse t = some (m, rs) := pin.mpr ⟨r0, rest, rfl, h6, en, ar⟩
          have f2 : (sWp [1, 2] (sFz 2 (sSet 6 (gTup (gCons (gCall f_number_in (gCons (gSl (gBin ixD (gVar 1) (gC (.int 0))) (some (gC (.int 6))) none) gNil)) (gCons (gVar 2) gNil)))))) [.no, .va (.lst ((r0 :: rest).map sL)), .ow ((zl (flatR rs)).map pD), .no, .no, .no, .no, .no, .no, .no] = .nx [.no, .no, .no, .no, .no, .no, .va (wD (m : Int) (zl (flatR rs))), .no, .no, .no] := by
            rw [ewD]
            generalize (r0 :: rest).map sL = rd at *
            generalize (zl (flatR rs)).map pD = zd at *
            simp [gSl, gPart, ix0, sl6b, ne, l2]
          refine ⟨fun m' rs' hp _ hw => ?_, fun hno => ?_⟩
          · rw [hpp] at hp
            cases hp
            have lw := w1 hw
            refine fn_rt rfl ?_
            rw [hs]
            refine body _ (seq_nx f1 (seq_nx f2 ?_))
            generalize wD (m : Int) (zl (flatR rs)) = wd at *
            refine seq_nx (ρ' := [.no, .no, .no, .no, .no, .no, .va wd, .va .non, .no, .no]) (by simp) ?_
            refine seq_nx (ρ' := [.no, .no, .no, .no, .no, .no, .va wd, .va .non, .no, .no]) (by simp [lw]) ?_
            refine seq_nx (ρ' := [.no, .no, .no, .no, .no, .no, .va wd, .no, .no, .no]) (by simp [e_isN3]) ?_
            simp
          · have lw := w2 (hno m rs hpp hri)
            refine fn_er (ρ := [.no, .no, .no, .no, .no, .no, .va (wD (m : Int) (zl (flatR rs))), .va (.exc .web), .no, .no]) rfl ?_
            rw [hs]
            refine body _ (seq_nx f1 (seq_nx f2 ?_))
            generalize wD (m : Int) (zl (flatR rs)) = wd at *
            refine seq_nx (ρ' := [.no, .no, .no, .no, .no, .no, .va wd, .va .non, .no, .no]) (by simp) ?_
            refine seq_nx (ρ' := [.no, .no, .no, .no, .no, .no, .va wd, .va (.exc .web), .no, .no]) (by simp [lw]) ?_
            exact seq_er (by simp [e_isN4])
    · refine ⟨fun m rs hp _ _ => ?_, fun _ => ?_⟩
      · exfalso
        obtain ⟨r0', rest', e1, e2, _, _⟩ := pin.mp hp
        cases e1
        exact h6 e2
      · refine fn_er (ρ := [.no, .va (.lst ((r0 :: rest).map sL)), .no, .no, .no, .no, .no, .no, .no, .no]) rfl ?_
        rw [hs]
        unfold b_read
        rw [lit_nl, lit_spots, lit_cs, lit_sp]
        refine seq_nx s1 (seq_er ?_)
        generalize (r0 :: rest).map sL = rd at *
        simp [gSl, gPart, ix0, sl6, n6, h6]
/-! the law's own try -/
noncomputable def tr_body : Rho → Oc := (sSeq (sWp [4] (sSet 5 (gM1 splitD (gVar 4) (gC (sL [58, 32])))))
  (sSeq (sIf (gOr (gTst (gBin neD (gCall lenD (gCons (gVar 5) gNil)) (gC (.int 2)))) (gOr (gTst (gIs false (gCall f_law_numbers_k30 (gCons (gSl (gVar 5) none (some (gC (.int 1)))) gNil)))) (gTst (gIs false (gCall f_law_numbers_k30 (gCons (gM1 splitD (gBin ixD (gVar 5) (gC (.int 1))) (gC (sL [32]))) gNil))))))
  (sRet (gC .non))
  sNil)
  (sWp [5] (sSet 3 (gBin addD (gVar 3) (gLc (gIter (gM1 splitD (gBin ixD (gVar 5) (gC (.int 1))) (gC (sL [32])))) (.nm 9) [9] gYes (gTup (gCons (gCall intD (gCons (gBin ixD (gVar 5) (gC (.int 0))) gNil)) (gCons (gCall intD (gCons (gVar 9) gNil)) gNil)))))))))
theorem lc_words {ρ : Rho} {pd : D} {hd : Cs} {k : Nat} (h5 : ρ[5]? = some (.va pd)) (hix : ixD pd (.int 0) = .ok (sL hd)) (hk : numIn hd = some k) (h9 : 9 < ρ.length) : ∀ {ws : List Cs} {es : List Nat}, allNum ws = some es →
    lcGo (.nm 9) gYes (gTup (gCons (gCall intD (gCons (gBin ixD (gVar 5) (gC (.int 0))) gNil)) (gCons (gCall intD (gCons (gVar 9) gNil)) gNil))) ρ (ws.map sL) = .ok ((es.map fun (e : Nat) => (((k : Int), (e : Int)) : Int × Int)).map pD)
  | [], es, h => by
    cases h
    rfl
  | w :: ws, es, h => by
    unfold allNum at h
    split at h
    · rename_i z es' h1 h2
      cases h
      refine lcGo_yes3 (d := pD (((k : Int), (z : Int)) : Int × Int)) ?_ (lc_words h5 hix hk h9 h2)
      have a9 : (ρ.set 9 (.va (sL w)))[9]? = some (.va (sL w)) := List.getElem?_set_self h9
      have a5 : (ρ.set 9 (.va (sL w)))[5]? = some (.va pd) := by
        rw [List.getElem?_set_ne (by decide), h5]
      have intW : ∀ {w : Cs} {z : Nat}, numIn w = some z → intD [sL w] = .ok (.int (z : Int)) := fun {w z} hz => by
        obtain ⟨ew, hz2⟩ := numIn_some hz
        have := intN (w := w) (by rw [ew]; exact digs_num z) (by rw [ew]; exact TL.numL_ne z) (by have := numL_len2 hz2; rw [ew]; omega)
        rw [this, ew, TL.numL_val]
      have i1 := intW hk
      have i2 := intW h1
      have l2 : (2 : Nat) ≤ lim := by decide
      rw [e_gTup, e_gCons, e_gCall, e_gCons, e_gBin, e_gVar, a5, e_gC]
      show ((((((ixD pd (.int 0)).bind fun x => (gNil _).bind fun xs => Rz.ok (x :: xs)).bind intD).bind fun x => ((gCall intD (gCons (gVar 9) gNil) (ρ.set 9 (.va (sL w)))).bind fun y => (gNil (ρ.set 9 (.va (sL w)))).bind fun xs => Rz.ok (y :: xs)).bind fun xs => Rz.ok (x :: xs)).bind fun xs => if xs.length ≤ lim then Rz.ok (D.tup xs) else .bad)) = _
      rw [hix, e_gCall, e_gCons, e_gVar, a9]
      show ((((intD [sL hd]).bind fun x => (((intD [sL w])).bind fun y => (gNil (ρ.set 9 (.va (sL w)))).bind fun xs => Rz.ok (y :: xs)).bind fun xs => Rz.ok (x :: xs)).bind fun xs => if xs.length ≤ lim then Rz.ok (D.tup xs) else .bad)) = _
      rw [i1, i2]
      show (if [D.int (k : Int), D.int (z : Int)].length ≤ lim then Rz.ok (D.tup [D.int (k : Int), D.int (z : Int)]) else .bad) = _
      rw [if_pos (show [D.int (k : Int), D.int (z : Int)].length ≤ lim from l2)]
      rfl
    · cases h
theorem tr_step {T R M : Sl} {row : Cs} {acc : List (Int × Int)} (hr : row.length ≤ 1000) (ok : Ok row) (ha : acc.length ≤ 3000) :
    (∀ r, rowP row = some r → tr_body [T, R, M, .va (.lst (acc.map pD)), .va (sL row), .no, .no, .no, .no, .no] = .nx [T, R, M, .va (.lst ((acc ++ zl (r.2.map fun e => (r.1, e))).map pD)), .no, .no, .no, .no, .no, .no]) ∧
    (rowP row = none → tr_body [T, R, M, .va (.lst (acc.map pD)), .va (sL row), .no, .no, .no, .no, .no] = .rt .non) := by
  have sp := sp_split (t := row) (b := [58, 32]) (by simp) (by decide) (by rw [lim_is]; omega)
  have pl : ∀ p ∈ TL.spl [58, 32] 0 [] row, p.length ≤ row.length ∧ Ok p := fun p hp => ⟨spl_len (by simp) (by decide) hp, spl_ok ok hp⟩
  have s1 : (sWp [4] (sSet 5 (gM1 splitD (gVar 4) (gC (sL [58, 32]))))) [T, R, M, .va (.lst (acc.map pD)), .va (sL row), .no, .no, .no, .no, .no] = .nx [T, R, M, .va (.lst (acc.map pD)), .no, .va (.lst ((TL.spl [58, 32] 0 [] row).map sL)), .no, .no, .no, .no] := by
    simp [sp]
  have hlen : lenD [.lst ((TL.spl [58, 32] 0 [] row).map sL)] = .ok (.int ((TL.spl [58, 32] 0 [] row).length : Int)) := by
    show Rz.ok (D.int (((TL.spl [58, 32] 0 [] row).map sL).length : Nat)) = _
    rw [List.length_map]
  unfold rowP
  generalize hsp : TL.spl [58, 32] 0 [] row = parts at *
  by_cases h2 : parts.length = 2
  · obtain ⟨hd, ws, rfl⟩ : ∃ hd ws, parts = [hd, ws] := by
      match parts, h2 with
      | [a, b], _ => exact ⟨a, b, rfl⟩
    obtain ⟨hhd, okh⟩ := pl hd (by simp)
    obtain ⟨hws, okw⟩ := pl ws (by simp)
    have hix0 : ixD (.lst ([hd, ws].map sL)) (.int 0) = .ok (sL hd) := ixL_0
    have hix1 : ixD (.lst ([hd, ws].map sL)) (.int 1) = .ok (sL ws) := ixL_nn (k := 1) rfl
    have hlen2 : lenD [.lst ([hd, ws].map sL)] = .ok (.int 2) := hlen
    have hsl : slD none (some (1 : Int)) (.lst ([hd, ws].map sL)) = .ok (.lst ([hd].map sL)) := rfl
    have spw := sp_split (t := ws) (b := [32]) (by simp) (by decide) (by rw [lim_is]; omega)
    have wl : ∀ w ∈ TL.spl [32] 0 [] ws, w.length ≤ 1000 ∧ Ok w := fun w hw => ⟨by have := spl_len (a := ws) (b := [32]) (by simp) (by decide) hw; omega, spl_ok okw hw⟩
    have wcount := spl_weight (a := ws) (b := [32]) (by simp) (by decide)
    have nm1 := numbers_eq (ws := [hd]) (fun w hw => by rw [List.mem_singleton] at hw; subst hw; exact ⟨by omega, okh⟩) (by simp)
    have nm2 := numbers_eq (ws := TL.spl [32] 0 [] ws) wl (by omega)
    have en1 : allNum [hd] = (numIn hd).map fun k => [k] := by
      unfold allNum
      cases numIn hd <;> rfl
    rw [en1] at nm1
    generalize hpd : ([hd, ws] : List Cs).map sL = pd at *
    generalize hpd1 : ([hd] : List Cs).map sL = pd1 at *
    cases ek : numIn hd with
    | none =>
      refine ⟨fun r h => by simp [ek] at h, fun _ => ?_⟩
      rw [ek] at nm1
      have nm1' : f_law_numbers_k30 [.lst pd1] = .ok .non := nm1
      unfold tr_body
      refine seq_nx s1 (seq_rt ?_)
      simp [gSl, gPart, hlen2, neII, hsl, nm1']
    | some k =>
      rw [ek] at nm1
      have nm1' : f_law_numbers_k30 [.lst pd1] = .ok (.lst (nI [k])) := nm1
      have isl : ∀ l : List D, isNonD false (.lst l) = .ok (.bl false) := fun _ => rfl
      have gi : gIter (gM1 splitD (gBin ixD (gVar 5) (gC (.int 1))) (gC (sL [32]))) [T, R, M, .va (.lst (acc.map pD)), .no, .va (.lst pd), .no, .no, .no, .no] = .ok ((TL.spl [32] 0 [] ws).map sL) := by
        simp [hix1, spw]
      have hll : ((TL.spl [32] 0 [] ws).map sL).length ≤ lim := by
        rw [List.length_map, lim_is]
        omega
      cases ew : allNum (TL.spl [32] 0 [] ws) with
      | none =>
        refine ⟨fun r h => by simp [ek, ew] at h, fun _ => ?_⟩
        rw [ew] at nm2
        have nm2' : f_law_numbers_k30 [.lst ((TL.spl [32] 0 [] ws).map sL)] = .ok .non := nm2
        generalize (TL.spl [32] 0 [] ws).map sL = wsd at *
        unfold tr_body
        refine seq_nx s1 (seq_rt ?_)
        simp [gSl, gPart, hlen2, neII, hsl, nm1', isl, hix1, spw, nm2']
      | some es =>
        refine ⟨fun r h => ?_, fun h => by simp [ek, ew] at h⟩
        have hr' : r = (k, es) := by simpa [ek, ew] using h.symm
        subst hr'
        rw [ew] at nm2
        have nm2' : f_law_numbers_k30 [.lst ((TL.spl [32] 0 [] ws).map sL)] = .ok (.lst (nI es)) := nm2
        have hes := allNum_len ew
        have ez : zl (es.map fun e => (k, e)) = es.map fun (e : Nat) => (((k : Int), (e : Int)) : Int × Int) := by
          unfold zl
          rw [List.map_map]
          rfl
        have lw := lc_words (ρ := [T, R, M, .va (.lst (acc.map pD)), .no, .va (.lst pd), .no, .no, .no, .no]) (pd := .lst pd) (hd := hd) (k := k) rfl hix0 ek (show 9 < 10 by decide) ew
        rw [← ez] at lw
        have ad : addD (.lst (acc.map pD)) (.lst ((zl (es.map fun e => (k, e))).map pD)) = .ok (.lst ((acc ++ zl (es.map fun e => (k, e))).map pD)) := by
          rw [e_addL, if_pos (by
            unfold zl
            rw [List.length_map, List.length_map, List.length_map, List.length_map, hes, lim_is]
            omega), List.map_append]
        have g : gLc (gIter (gM1 splitD (gBin ixD (gVar 5) (gC (.int 1))) (gC (sL [32])))) (.nm 9) [9] gYes (gTup (gCons (gCall intD (gCons (gBin ixD (gVar 5) (gC (.int 0))) gNil)) (gCons (gCall intD (gCons (gVar 9) gNil)) gNil))) [T, R, M, .va (.lst (acc.map pD)), .no, .va (.lst pd), .no, .no, .no, .no] = .ok (.lst ((zl (es.map fun e => (k, e))).map pD)) := by
          unfold gLc
          rw [gi, Rz.ok_bind, if_pos hll]
          show (lcGo _ _ _ [T, R, M, .va (.lst (acc.map pD)), .no, .va (.lst pd), .no, .no, .no, .no] _).bind _ = _
          rw [lw]
          rfl
        unfold tr_body
        refine seq_nx s1 (seq_nx (ρ' := [T, R, M, .va (.lst (acc.map pD)), .no, .va (.lst pd), .no, .no, .no, .no]) ?_ ?_)
        · generalize (TL.spl [32] 0 [] ws).map sL = wsd at *
          simp [gSl, gPart, hlen2, neII, hsl, nm1', isl, hix1, spw, nm2']
        · rw [e_sWp, e_sSet, e_gBin, g]
          show ocMap _ (rzS _ _ (addD (.lst (acc.map pD)) (.lst ((zl (es.map fun e => (k, e))).map pD)))) = _
          rw [ad]
          rfl
  · refine ⟨fun r h => ?_, fun _ => ?_⟩
    · exfalso
      split at h
      · exact h2 rfl
      · cases h
    · have h2' : ¬ ((parts.length : Int) = 2) := by omega
      unfold tr_body
      refine seq_nx s1 (seq_rt ?_)
      generalize parts.map sL = pd at *
      simp [hlen, neII, h2']
theorem tr_run {T R M : Sl} : ∀ (rows : List Cs) (acc : List (Int × Int)), (∀ r ∈ rows, r.length ≤ 1000 ∧ Ok r) → acc.length + (rows.map List.length).sum + rows.length ≤ 3000 →
    forGo (.nm 4) [4, 5] tr_body (rows.map sL) [T, R, M, .va (.lst (acc.map pD)), .no, .no, .no, .no, .no, .no] = match allRow rows with
      | some rs => .nx [T, R, M, .va (.lst ((acc ++ zl (flatR rs)).map pD)), .no, .no, .no, .no, .no, .no]
      | none => .rt .non
  | [], acc, _, _ => by
    show Oc.nx _ = Oc.nx [T, R, M, .va (.lst ((acc ++ []).map pD)), .no, .no, .no, .no, .no, .no]
    rw [List.append_nil]
  | row :: rows, acc, h, hl => by
    rw [List.map_cons, List.sum_cons, List.length_cons] at hl
    obtain ⟨h1, h2⟩ := h row List.mem_cons_self
    obtain ⟨s1, s2⟩ := tr_step (T := T) (R := R) (M := M) (acc := acc) h1 h2 (by omega)
    have go : forGo (.nm 4) [4, 5] tr_body ((row :: rows).map sL) [T, R, M, .va (.lst (acc.map pD)), .no, .no, .no, .no, .no, .no] = match tr_body [T, R, M, .va (.lst (acc.map pD)), .va (sL row), .no, .no, .no, .no, .no] with
      | .nx ρ2 => forGo (.nm 4) [4, 5] tr_body (rows.map sL) (wipeR ρ2 [4, 5])
      | o => o := rfl
    cases e : rowP row with
    | none =>
      have un : allRow (row :: rows) = none := by
        rw [allRow, e]
      rw [un, go, s2 e]
    | some r =>
      have zlen : (acc ++ zl (r.2.map fun e => (r.1, e))).length = acc.length + r.2.length := by
        unfold zl
        rw [List.length_append, List.length_map, List.length_map]
      have hrl := rowP_len e
      have ih := tr_run (T := T) (R := R) (M := M) rows (acc ++ zl (r.2.map fun e => (r.1, e))) (fun x hx => h x (List.mem_cons_of_mem _ hx)) (by rw [zlen]; omega)
      rw [go, s1 r e]
      have us : allRow (row :: rows) = match allRow rows with | some ks => some (r :: ks) | none => none := by
        rw [allRow, e]
        cases allRow rows <;> rfl
      rw [us]
      show forGo (.nm 4) [4, 5] tr_body (rows.map sL) [T, R, M, .va (.lst ((acc ++ zl (r.2.map fun e => (r.1, e))).map pD)), .no, .no, .no, .no, .no, .no] = _
      rw [ih]
      cases e2 : allRow rows with
      | none => rfl
      | some rs =>
        have ef : zl (flatR (r :: rs)) = zl (r.2.map fun e => (r.1, e)) ++ zl (flatR rs) := by
          unfold zl flatR
          rw [List.flatMap_cons, List.map_append]
        show Oc.nx _ = Oc.nx [T, R, M, .va (.lst ((acc ++ zl (flatR (r :: rs))).map pD)), .no, .no, .no, .no, .no, .no]
        rw [ef, List.append_assoc]
end FM
set_option Elab.async false
set_option linter.all false
set_option maxRecDepth 100000
set_option maxHeartbeats 8000000
/-! FM, plain: a web's text, the law's and the program's; the law's own try. -/
namespace FM
open PySem L2
/-! sizes -/
theorem sum_le {k : Nat} : ∀ {l : List Cs}, (∀ p ∈ l, p.length ≤ k) → (l.map List.length).sum ≤ k * l.length
  | [], _ => Nat.zero_le _
  | p :: l, h => by
    have ih := sum_le fun q hq => h q (List.mem_cons_of_mem _ hq)
    have h1 := h p List.mem_cons_self
    rw [List.map_cons, List.sum_cons, List.length_cons, Nat.mul_succ]
    omega
theorem ends_rise {m : Nat} {ls : List (Nat × Nat)} (h : WebN m ls) (s : Nat) : (endsN s ls).length ≤ 10 ∧ ∀ e ∈ endsN s ls, e < 100 := by
  have hb : ∀ e ∈ endsN s ls, e < m := fun e he => by
    obtain ⟨p, hp, rfl⟩ := List.mem_map.mp he
    exact (h.ln p (List.mem_filter.mp hp).1).2
  have hm := h.mx
  refine ⟨?_, fun e he => by have := hb e he; omega⟩
  have hp : ((endsN s ls).map fun (e : Nat) => (e : Int)).Pairwise (· < ·) := by
    unfold endsN
    rw [List.pairwise_map, List.pairwise_map]
    refine (h.up.filter _).imp_of_mem fun {p q} hp hq hpq => ?_
    have e1 := of_decide_eq_true (List.mem_filter.mp hp).2
    have e2 := of_decide_eq_true (List.mem_filter.mp hq).2
    omega
  have := rise_len (a := 0) (n := (m : Int)) (by omega) hp fun x hx => by
    obtain ⟨e, he, rfl⟩ := List.mem_map.mp hx
    have := hb e he
    omega
  rw [List.length_map] at this
  omega
theorem words_len {es : List Nat} (h1 : es.length ≤ 10) (h2 : ∀ e ∈ es, e < 100) : ((es.map TL.numL).map List.length).sum + (es.map TL.numL).length * 1 ≤ 30 := by
  have := sum_le (k := 2) (l := es.map TL.numL) fun p hp => by
    obtain ⟨e, he, rfl⟩ := List.mem_map.mp hp
    exact (numL_len2 (h2 e he)).2
  rw [List.length_map] at this ⊢
  omega
theorem rowT_len {k : Nat} {es : List Nat} (hk : k < 100) (h1 : es.length ≤ 10) (h2 : ∀ e ∈ es, e < 100) : (rowT k es).length ≤ 34 := by
  have a := (numL_len2 hk).2
  have b := joinL_len [32] (es.map TL.numL)
  have c := words_len h1 h2
  have d : ([32] : Cs).length = 1 := rfl
  rw [d] at b
  unfold rowT
  rw [List.length_append, List.length_append]
  show (TL.numL k).length + (2 + _) ≤ 34
  omega
theorem rowsN_len (m : Nat) (ls : List (Nat × Nat)) : (rowsN m ls).length ≤ m := by
  unfold rowsN
  have := List.length_filterMap_le (fun s => if endsN s ls = [] then none else some (s, endsN s ls)) (List.range m)
  rw [List.length_range] at this
  exact this
def textsN (m i : Nat) (ls : List (Nat × Nat)) : List Cs := (SPT ++ TL.numL m) :: (rowsN i ls).map fun r => rowT r.1 r.2
theorem rowsN_in {m i : Nat} {ls : List (Nat × Nat)} {r : Nat × List Nat} (h : r ∈ rowsN i ls) : r.1 < i ∧ r.2 = endsN r.1 ls := by
  unfold rowsN at h
  obtain ⟨s, hs, e⟩ := List.mem_filterMap.mp h
  split at e
  · cases e
  · cases e
    exact ⟨List.mem_range.mp hs, rfl⟩
theorem texts_len {m : Nat} {ls : List (Nat × Nat)} (h : WebN m ls) : ((textsN m m ls).map List.length).sum + (textsN m m ls).length * 1 ≤ 400 := by
  have hm := h.mx
  have a := (numL_len2 (k := m) (by omega)).2
  have b := sum_le (k := 34) (l := (rowsN m ls).map fun r => rowT r.1 r.2) fun p hp => by
    obtain ⟨r, hr, rfl⟩ := List.mem_map.mp hp
    obtain ⟨h1, h2⟩ := rowsN_in (m := m) hr
    obtain ⟨h3, h4⟩ := ends_rise h r.1
    exact rowT_len (by omega) (by rw [h2]; exact h3) (by rw [h2]; exact h4)
  have c := rowsN_len m ls
  unfold textsN
  rw [List.map_cons, List.sum_cons, List.length_cons, List.length_append]
  rw [List.length_map] at b ⊢
  show 6 + _ + _ + _ ≤ 400
  omega
theorem text_len {m : Nat} {ls : List (Nat × Nat)} (h : WebN m ls) : (textN m ls).length ≤ 400 := by
  have a := joinL_len [10] (textsN m m ls)
  have b := texts_len h
  have d : ([10] : Cs).length = 1 := rfl
  rw [d] at a
  exact Nat.le_trans a b
theorem num_ok (k : Nat) : Ok (TL.numL k) := digs_ok (digs_num k)
theorem app_ok {a b : Cs} (ha : Ok a) (hb : Ok b) : Ok (a ++ b) := fun c hc => by
  rcases List.mem_append.mp hc with h | h
  · exact ha c h
  · exact hb c h
theorem join_ok {b : Cs} {l : List Cs} (hb : Ok b) (hl : ∀ p ∈ l, Ok p) : Ok (TL.joinL b l) := fun c hc => by
  rcases joinL_mem hc with h | ⟨p, hp, h⟩
  · exact hb c h
  · exact hl p hp c h
theorem ok10 : Ok [10] := fun c hc => by
  rw [List.mem_singleton] at hc
  omega
theorem ok32 : Ok [32] := fun c hc => by
  rw [List.mem_singleton] at hc
  omega
theorem ok58 : Ok [58, 32] := fun c hc => by
  simp at hc
  omega
theorem row_ok (k : Nat) (es : List Nat) : Ok (rowT k es) := app_ok (num_ok k) (app_ok ok58 (join_ok ok32 fun p hp => by
  obtain ⟨e, _, rfl⟩ := List.mem_map.mp hp
  exact num_ok e))
theorem text_ok (m : Nat) (ls : List (Nat × Nat)) : Ok (textN m ls) := join_ok ok10 fun p hp => by
  rcases List.mem_cons.mp hp with rfl | hp
  · exact app_ok spt_ok (num_ok m)
  · obtain ⟨r, _, rfl⟩ := List.mem_map.mp hp
    exact row_ok r.1 r.2
/-! the loop of rows, the law's and the program's -/
theorem lc_pr3 {i j : Nat} {c : Rho → Rz Bool} {ge : Rho → Rz D} {ρ : Rho} {p : Int × Int → Bool} {f : Int × Int → D} : ∀ (xs : List (Int × Int)), (∀ x ∈ xs, c ((ρ.set i (.va (.int x.1))).set j (.va (.int x.2))) = .ok (p x)) → (∀ x ∈ xs, p x = true → ge ((ρ.set i (.va (.int x.1))).set j (.va (.int x.2))) = .ok (f x)) →
    lcGo (.pr i j) c ge ρ (xs.map pD) = .ok ((xs.filter p).map f)
  | [], _, _ => rfl
  | x :: xs, hc, hg => by
    have ih := lc_pr3 xs (fun y hy => hc y (List.mem_cons_of_mem _ hy)) (fun y hy => hg y (List.mem_cons_of_mem _ hy))
    have h1 := hc x List.mem_cons_self
    have h2 := hg x List.mem_cons_self
    have eb : bindT (.pr i j) (pD x) ρ = some ((ρ.set i (.va (.int x.1))).set j (.va (.int x.2))) := rfl
    rw [List.map_cons]
    simp only [lcGo, eb, h1]
    cases e : p x with
    | true => simp [h2 e, ih, e]
    | false => simp [ih, e]
theorem zl_ends {g : Int → D} (s : Nat) : ∀ ls : List (Nat × Nat), ((zl ls).filter fun x => decide (x.1 = (s : Int))).map (fun x => g x.2) = (endsN s ls).map fun (e : Nat) => g (e : Int)
  | [] => rfl
  | p :: ls => by
    have ih := zl_ends (g := g) s ls
    unfold zl endsN at *
    rw [List.map_cons, List.filter_cons, List.filter_cons]
    by_cases h : p.1 = s
    · have h' : (p.1 : Int) = (s : Int) := by omega
      simp only [h, h', decide_true, if_true, List.map_cons, ih]
    · have h' : ¬ (p.1 : Int) = (s : Int) := by omega
      simp only [h, h', decide_false, Bool.false_eq_true, if_false, ih]
theorem rowsN_succ (i : Nat) (ls : List (Nat × Nat)) : rowsN (i + 1) ls = rowsN i ls ++ (if endsN i ls = [] then [] else [(i, endsN i ls)]) := by
  unfold rowsN
  rw [List.range_succ, List.filterMap_append]
  congr 1
  by_cases h : endsN i ls = [] <;> simp [h]
theorem text_run {m : Nat} {ls : List (Nat × Nat)} {w : D} {body : Rho → Oc} (hm : m ≤ 10) (hw : ixD w (.int 0) = .ok (.int (m : Int)))
    (st : ∀ (s : Nat) (rows : List D), s < m → rows.length ≤ 100 → body [.va w, .ow rows, .va (.int (s : Int)), .no, .no, .no] = .nx [.va w, .ow (rows ++ (if endsN s ls = [] then [] else [sL (rowT s (endsN s ls))])), .no, .no, .no, .no]) :
    sWp [0, 2, 3] (sFor (gRng rng1D (gCons (gBin ixD (gVar 0) (gC (.int 0))) gNil)) (.nm 2) [2, 3] body) [.va w, .ow [sL (SPT ++ TL.numL m)], .no, .no, .no, .no] = .nx [.no, .ow ((textsN m m ls).map sL), .no, .no, .no, .no] := by
  have hr : rng1D [.int (m : Int)] = .ok (rngL 0 m) := rng1_ok (n := (m : Int)) (by omega)
  refine wp_for3 (xs := rngL 0 m) (P := fun i ρ => ρ = [.va w, .ow ((textsN m i ls).map sL), .no, .no, .no, .no]) (by simp [hw, hr]) rfl (fun i x ρ hx hp => ?_) fun ρ2 hp => by
    rw [rngL_len] at hp
    subst hp
    rfl
  subst hp
  obtain ⟨rfl, him⟩ := rngL_get hx
  have hl : ((textsN m i ls).map sL).length ≤ 100 := by
    have := rowsN_len i ls
    unfold textsN
    rw [List.length_map, List.length_cons, List.length_map]
    omega
  have e := st i _ him hl
  refine ⟨_, [.va w, .ow ((textsN m (i + 1) ls).map sL), .no, .no, .no, .no], rfl, ?_, rfl⟩
  have ez : (0 : Int) + (i : Int) = (i : Int) := by omega
  rw [ez]
  show body [.va w, .ow ((textsN m i ls).map sL), .va (.int (i : Int)), .no, .no, .no] = _
  rw [e]
  have : (textsN m (i + 1) ls).map sL = (textsN m i ls).map sL ++ (if endsN i ls = [] then [] else [sL (rowT i (endsN i ls))]) := by
    unfold textsN
    rw [rowsN_succ]
    by_cases h : endsN i ls = [] <;> simp [h]
  rw [this]
theorem join_row {s : Nat} {es : List Nat} (hs : s < 100) (h1 : es.length ≤ 10) (h2 : ∀ e ∈ es, e < 100) :
    strD [.int (s : Int)] = .ok (sL (TL.numL s)) ∧ addD (sL (TL.numL s)) (sL [58, 32]) = .ok (sL (TL.numL s ++ [58, 32])) ∧ joinD (sL [32]) (.lst ((es.map TL.numL).map sL)) = .ok (sL (TL.joinL [32] (es.map TL.numL))) ∧ addD (sL (TL.numL s ++ [58, 32])) (sL (TL.joinL [32] (es.map TL.numL))) = .ok (sL (rowT s es)) := by
  have a := (numL_len2 hs).2
  have c := words_len h1 h2
  have b := joinL_len [32] (es.map TL.numL)
  have d : ([32] : Cs).length = 1 := rfl
  refine ⟨strN (by omega), addS (by rw [lim_is]; show _ + 2 ≤ _; omega), joinS (by rw [d, lim_is]; omega), ?_⟩
  rw [d] at b
  rw [addS (by rw [lim_is, List.length_append]; show _ + 2 + _ ≤ _; omega)]
  unfold rowT
  rw [List.append_assoc]
theorem words_sh {es : List Nat} : ∀ x ∈ (es.map TL.numL).map sL, Sh 0 x := fun x hx => by
  obtain ⟨w, hw, rfl⟩ := List.mem_map.mp hx
  obtain ⟨e, _, rfl⟩ := List.mem_map.mp hw
  exact Sh.str (str_ok (num_ok e))
theorem law_text_eq {m : Nat} {ls : List (Nat × Nat)} (h : WebN m ls) (hl : ls.length ≤ 900) : f_law_text_k30 [wD (m : Int) (zl ls)] = .ok (sL (textN m ls)) := by
  have hm := h.mx
  refine fn_rt rfl ?_
  have hs : startR 6 [wD (m : Int) (zl ls)] = [.va (wD (m : Int) (zl ls)), .no, .no, .no, .no, .no] := rfl
  rw [hs]
  unfold b_law_text_k30
  rw [lit_nl, lit_spots, lit_cs, lit_sp]
  have l1 : (1 : Nat) ≤ lim := by decide
  have l0 : (0 : Nat) ≤ lim := by decide
  have i0 : ixD (wD (m : Int) (zl ls)) (.int 0) = .ok (.int (m : Int)) := ixT_0
  have i1 : ixD (wD (m : Int) (zl ls)) (.int 1) = .ok (.lst ((zl ls).map pD)) := ixT_1
  have sm := strN (k := m) (by omega)
  have nl := numL_len2 (k := m) (by omega)
  have ad := addS (a := SPT) (b := TL.numL m) (by rw [lim_is]; show 6 + _ ≤ _; omega)
  refine seq_nx (ρ' := [.va (wD (m : Int) (zl ls)), .ow [sL (SPT ++ TL.numL m)], .no, .no, .no, .no]) ?_ ?_
  · generalize wD (m : Int) (zl ls) = w at *
    simp [i0, sm, ad, l1]
  refine seq_nx (ρ' := [.no, .ow ((textsN m m ls).map sL), .no, .no, .no, .no]) (text_run hm i0 fun s rows hs hr => ?_) ?_
  · obtain ⟨hn, he⟩ := ends_rise h s
    obtain ⟨j1, j2, j3, j4⟩ := join_row (s := s) (by omega) hn he
    have hzl : ((zl ls).map pD).length ≤ lim := by
      unfold zl
      rw [List.length_map, List.length_map, lim_is]
      omega
    have lc := lc_pr3 (i := 4) (j := 5) (c := gTst (gBin eqD (gVar 4) (gVar 2))) (ge := gCall strD (gCons (gVar 5) gNil)) (ρ := [.va (wD (m : Int) (zl ls)), .ow rows, .va (.int (s : Int)), .no, .no, .no]) (p := fun x => decide (x.1 = (s : Int))) (f := fun x => sL (TL.numL x.2.toNat)) (zl ls) (fun x hx => by simp [eqII]) (fun x hx _ => by
      obtain ⟨p, hp, rfl⟩ := List.mem_map.mp hx
      have hq := h.ln p hp
      have := strN (k := p.2) (by omega)
      simp [this])
    rw [zl_ends (g := fun z => sL (TL.numL z.toNat))] at lc
    have ew : ((endsN s ls).map fun (e : Nat) => sL (TL.numL ((e : Int)).toNat)) = ((endsN s ls).map TL.numL).map sL := by
      rw [List.map_map]
      rfl
    rw [ew] at lc
    have ne := neNil (n := 0) (words_sh (es := endsN s ls)) (by decide)
    have hrl : rows.length ≤ lim := by
      rw [lim_is]
      omega
    refine seq_nx (ρ' := [.va (wD (m : Int) (zl ls)), .ow rows, .va (.int (s : Int)), .va (.lst (((endsN s ls).map TL.numL).map sL)), .no, .no]) ?_ ?_
    · generalize ((endsN s ls).map TL.numL).map sL = wd at *
      generalize wD (m : Int) (zl ls) = w at *
      generalize (zl ls).map pD = zs at *
      simp [i1, hzl, lc]
    · by_cases hem : endsN s ls = []
      · rw [hem]
        generalize wD (m : Int) (zl ls) = w at *
        have ne2 : neD (.lst []) (.lst []) = .ok (.bl false) := neNil (n := 0) (l := []) (fun x hx => by cases hx) (by decide)
        simp [ne2, l0]
      · have hne : (((endsN s ls).map TL.numL).map sL).isEmpty = false := by
          rw [List.isEmpty_eq_false_iff]
          simpa using hem
        rw [hne] at ne
        rw [if_neg hem]
        generalize ((endsN s ls).map TL.numL).map sL = wd at *
        generalize wD (m : Int) (zl ls) = w at *
        generalize TL.joinL [32] ((endsN s ls).map TL.numL) = jn at *
        generalize rowT s (endsN s ls) = rw0 at *
        simp [ne, l0, hrl, j1, j2, j3, j4]
  · have jj : joinD (sL [10]) (.lst ((textsN m m ls).map sL)) = .ok (sL (textN m ls)) := joinS (by
      have := texts_len h
      have d : ([10] : Cs).length = 1 := rfl
      rw [d, lim_is]
      omega)
    generalize (textsN m m ls).map sL = ts at *
    simp [jj]
theorem lc_str {ρ : Rho} (h5 : 5 < ρ.length) : ∀ es : List Nat, (∀ e ∈ es, e < 100) → lcGo (.nm 5) gYes (gCall strD (gCons (gVar 5) gNil)) ρ (nI es) = .ok ((es.map TL.numL).map sL)
  | [], _ => rfl
  | e :: es, h => by
    have a5 : (ρ.set 5 (.va (.int (e : Int))))[5]? = some (.va (.int (e : Int))) := List.getElem?_set_self h5
    refine lcGo_yes3 ?_ (lc_str h5 es fun x hx => h x (List.mem_cons_of_mem _ hx))
    rw [e_gCall, e_gCons, e_gVar, a5]
    show strD [.int (e : Int)] = _
    exact strN (by have := h e List.mem_cons_self; omega)
theorem written_eq {m : Nat} {ls : List (Nat × Nat)} (h : WebN m ls) (hl : ls.length ≤ 900) : f_written [wD (m : Int) (zl ls)] = .ok (sL (textN m ls)) := by
  have hm := h.mx
  have lk := (look_read (m := m) hl).1 h
  refine fn_rt rfl ?_
  have hs : startR 6 [wD (m : Int) (zl ls)] = [.va (wD (m : Int) (zl ls)), .no, .no, .no, .no, .no] := rfl
  rw [hs]
  unfold b_written
  rw [lit_nl, lit_spots, lit_cs, lit_sp]
  have l1 : (1 : Nat) ≤ lim := by decide
  have l0 : (0 : Nat) ≤ lim := by decide
  have i0 : ixD (wD (m : Int) (zl ls)) (.int 0) = .ok (.int (m : Int)) := ixT_0
  have i1 : ixD (wD (m : Int) (zl ls)) (.int 1) = .ok (.lst ((zl ls).map pD)) := ixT_1
  have sm := strN (k := m) (by omega)
  have nl := numL_len2 (k := m) (by omega)
  have ad := addS (a := SPT) (b := TL.numL m) (by rw [lim_is]; show 6 + _ ≤ _; omega)
  refine seq_nx (ρ' := [.va (wD (m : Int) (zl ls)), .no, .no, .no, .no, .no]) ?_ ?_
  · generalize wD (m : Int) (zl ls) = w at *
    simp [lk]
  refine seq_nx (ρ' := [.va (wD (m : Int) (zl ls)), .ow [sL (SPT ++ TL.numL m)], .no, .no, .no, .no]) ?_ ?_
  · generalize wD (m : Int) (zl ls) = w at *
    simp [i0, sm, ad, l1]
  refine seq_nx (ρ' := [.no, .ow ((textsN m m ls).map sL), .no, .no, .no, .no]) (text_run hm i0 fun s rows hs hr => ?_) ?_
  · obtain ⟨hn, he⟩ := ends_rise h s
    obtain ⟨j1, j2, j3, j4⟩ := join_row (s := s) (by omega) hn he
    have hzl : ((zl ls).map pD).length ≤ lim := by
      unfold zl
      rw [List.length_map, List.length_map, lim_is]
      omega
    have lc := lc_pr3 (i := 4) (j := 5) (c := gTst (gBin eqD (gVar 4) (gVar 2))) (ge := gVar 5) (ρ := [.va (wD (m : Int) (zl ls)), .ow rows, .va (.int (s : Int)), .no, .no, .no]) (p := fun x => decide (x.1 = (s : Int))) (f := fun x => .int x.2) (zl ls) (fun x hx => by simp [eqII]) (fun x hx _ => by simp)
    rw [zl_ends (g := fun z => .int z)] at lc
    have lc' : lcGo (.pr 4 5) (gTst (gBin eqD (gVar 4) (gVar 2))) (gVar 5) [.va (wD (m : Int) (zl ls)), .ow rows, .va (.int (s : Int)), .no, .no, .no] ((zl ls).map pD) = .ok (nI (endsN s ls)) := lc
    have ls2 := lc_str (ρ := [.va (wD (m : Int) (zl ls)), .ow rows, .va (.int (s : Int)), .va (.lst (nI (endsN s ls))), .no, .no]) (show 5 < 6 by decide) (endsN s ls) he
    have hnl : (nI (endsN s ls)).length ≤ lim := by
      unfold nI
      rw [List.length_map, lim_is]
      omega
    have hrl : rows.length ≤ lim := by
      rw [lim_is]
      omega
    refine seq_nx (ρ' := [.va (wD (m : Int) (zl ls)), .ow rows, .va (.int (s : Int)), .va (.lst (nI (endsN s ls))), .no, .no]) ?_ ?_
    · generalize nI (endsN s ls) = wd at *
      generalize wD (m : Int) (zl ls) = w at *
      generalize (zl ls).map pD = zs at *
      simp [i1, hzl, lc']
    · by_cases hem : endsN s ls = []
      · rw [hem]
        generalize wD (m : Int) (zl ls) = w at *
        simp [nI]
      · have hne : (nI (endsN s ls)).isEmpty = false := by
          rw [List.isEmpty_eq_false_iff]
          unfold nI
          simpa using hem
        rw [if_neg hem]
        generalize ((endsN s ls).map TL.numL).map sL = wd at *
        generalize wD (m : Int) (zl ls) = w at *
        generalize TL.joinL [32] ((endsN s ls).map TL.numL) = jn at *
        generalize rowT s (endsN s ls) = rw0 at *
        generalize nI (endsN s ls) = nn at *
        simp [hne, l0, hrl, hnl, j1, j2, j3, j4, ls2]
  · have jj : joinD (sL [10]) (.lst ((textsN m m ls).map sL)) = .ok (sL (textN m ls)) := joinS (by
      have := texts_len h
      have d : ([10] : Cs).length = 1 := rfl
      rw [d, lim_is]
      omega)
    generalize (textsN m m ls).map sL = ts at *
    simp [jj]
end FM
set_option Elab.async false
set_option linter.all false
set_option maxRecDepth 100000
set_option maxHeartbeats 8000000
/-! FM, plain: what the law's own try says. -/
namespace FM
open PySem L2
def TriedOk (t : Cs) (m : Nat) (rs : List (Nat × List Nat)) : Prop := parse t = some (m, rs) ∧ WebN m (flatR rs) ∧ textN m (flatR rs) = t
theorem tried_both {t : Cs} (ok : Ok t) (hl : t.length ≤ 800) :
    (∀ m rs, TriedOk t m rs → f_law_tried_k30 [sL t] = .ok (wD (m : Int) (zl (flatR rs)))) ∧
    ((∀ m rs, ¬ TriedOk t m rs) → f_law_tried_k30 [sL t] = .ok .non) := by
  have sp := sp_split (t := t) (b := [10]) (by simp) (by decide) (by rw [lim_is]; omega)
  have wt := spl_weight (a := t) (b := [10]) (by simp) (by decide)
  have pin := @parse_inv t
  have hsub : ∀ p ∈ TL.spl [10] 0 [] t, p.length ≤ t.length ∧ Ok p := fun p hp => ⟨spl_len (by simp) (by decide) hp, spl_ok ok hp⟩
  cases hrows : TL.spl [10] 0 [] t with
  | nil => exact absurd hrows (spl_ne t [] 0)
  | cons r0 rest =>
    rw [hrows] at sp wt hsub pin
    obtain ⟨hr0, ok0⟩ := hsub r0 List.mem_cons_self
    have hs : startR 10 [sL t] = [.va (sL t), .no, .no, .no, .no, .no, .no, .no, .no, .no] := rfl
    have ix0 : ixD (.lst ((r0 :: rest).map sL)) (.int 0) = .ok (sL r0) := ixL_0
    have sl6 : slD none (some (6 : Int)) (sL r0) = .ok (sL (r0.take 6)) := sl_to (k := 6) (by rw [lim_is]; omega)
    have sl6b : slD (some (6 : Int)) none (sL r0) = .ok (sL (r0.drop 6)) := sl_from (k := 6) (by rw [lim_is]; omega)
    have n6 := neS (take_ok ok0 6) spt_ok
    have l0 : (0 : Nat) ≤ lim := Nat.zero_le _
    have l1 : (1 : Nat) ≤ lim := by decide
    have l2 : (2 : Nat) ≤ lim := by decide
    have hrows1 : ∀ r ∈ rest, r.length ≤ 1000 ∧ Ok r := fun r hr => by
      obtain ⟨h1, h2⟩ := hsub r (List.mem_cons_of_mem _ hr)
      exact ⟨by omega, h2⟩
    rw [List.map_cons, List.sum_cons, List.length_cons] at wt
    have hnum := numbers_eq (ws := [r0.drop 6]) (fun w hw => by
      rw [List.mem_singleton] at hw
      subst hw
      exact ⟨by rw [List.length_drop]; omega, drop_ok ok0 6⟩) (by simp)
    have ean : allNum [r0.drop 6] = (numIn (r0.drop 6)).map fun k => [k] := by
      unfold allNum
      cases numIn (r0.drop 6) <;> rfl
    rw [ean] at hnum
    have hnum' : f_law_numbers_k30 [.lst [sL (r0.drop 6)]] = .ok (match (numIn (r0.drop 6)).map fun k => [k] with
      | some ks => .lst (nI ks)
      | none => .non) := hnum
    have cut : ∀ M : Sl, gIter (gSl (gVar 1) (some (gC (.int 1))) none) [.va (sL t), .va (.lst ((r0 :: rest).map sL)), M, .va (.lst []), .no, .no, .no, .no, .no, .no] = .ok (rest.map sL) := fun M => by
      have c := cut1 (r0 := sL r0) (rest := rest.map sL)
      have em : (r0 :: rest).map sL = sL r0 :: rest.map sL := rfl
      rw [em]
      generalize rest.map sL = rd at *
      simp [gSl, gPart, c]
    have isl : ∀ l : List D, isNonD false (.lst l) = .ok (.bl false) := fun _ => rfl
    -- the start
    have body : ∀ (M d : D) (o : Oc), f_law_numbers_k30 [.lst [sL (r0.drop 6)]] = .ok M →
        (sSeq (sIf (gOr (gTst (gBin neD (gSl (gBin ixD (gVar 1) (gC (.int 0))) none (some (gC (.int 6)))) (gC (sL SPT)))) (gTst (gIs false (gVar 2))))
  (sRet (gC .non))
  sNil)
  (sSeq (sSet 3 (gLst gNil))
  (sSeq (sWp [1, 4, 5] (sFor (gIter (gSl (gVar 1) (some (gC (.int 1))) none)) (.nm 4) [4, 5] tr_body))
  (sSeq (sWp [2, 3] (sSet 6 (gTup (gCons (gBin ixD (gVar 2) (gC (.int 0))) (gCons (gVar 3) gNil)))))
  (sSeq (sSet 7 (gC .non))
  (sSeq (sWp [8] (sTry 8 7 (fun c => decide (c = .web)) (sExp (gCall f_look_web (gCons (gVar 6) gNil)))))
  (sRet (gIf (gAnd (gTst (gIs false (gVar 7))) (gTst (gBin eqD (gCall f_law_text_k30 (gCons (gVar 6) gNil)) (gVar 0)))) (gVar 6) (gC .non))))))))) [.va (sL t), .va (.lst ((r0 :: rest).map sL)), .va M, .no, .no, .no, .no, .no, .no, .no] = o → b_law_tried_k30 [.va (sL t), .no, .no, .no, .no, .no, .no, .no, .no, .no] = o := fun M d o hM ho => by
      unfold b_law_tried_k30
      rw [lit_nl, lit_spots, lit_cs, lit_sp]
      refine seq_nx (ρ' := [.va (sL t), .va (.lst ((r0 :: rest).map sL)), .no, .no, .no, .no, .no, .no, .no, .no]) ?_ (seq_nx (ρ' := [.va (sL t), .va (.lst ((r0 :: rest).map sL)), .va M, .no, .no, .no, .no, .no, .no, .no]) ?_ ho)
      · simp [sp]
      · generalize (r0 :: rest).map sL = rd at *
        simp [gSl, gPart, ix0, sl6b, l1, hM]
    by_cases h6 : r0.take 6 = SPT
    · have sl6' := sl6
      rw [h6] at sl6'
      have n6' := neS spt_ok spt_ok
      cases en : numIn (r0.drop 6) with
      | none =>
        refine ⟨fun m rs hp => ?_, fun _ => ?_⟩
        · exfalso
          obtain ⟨r0', rest', e1, _, e3, _⟩ := pin.mp hp.1
          cases e1
          rw [en] at e3
          cases e3
        · rw [en] at hnum'
          have hM : f_law_numbers_k30 [.lst [sL (r0.drop 6)]] = .ok .non := hnum'
          refine fn_rt rfl ?_
          rw [hs]
          refine body .non .non _ hM (seq_rt ?_)
          generalize (r0 :: rest).map sL = rd at *
          simp [gSl, gPart, ix0, sl6', n6']
      | some m =>
        rw [en] at hnum'
        have hM : f_law_numbers_k30 [.lst [sL (r0.drop 6)]] = .ok (.lst (nI [m])) := hnum'
        have test : (sIf (gOr (gTst (gBin neD (gSl (gBin ixD (gVar 1) (gC (.int 0))) none (some (gC (.int 6)))) (gC (sL SPT)))) (gTst (gIs false (gVar 2)))) (sRet (gC .non)) sNil) [.va (sL t), .va (.lst ((r0 :: rest).map sL)), .va (.lst (nI [m])), .no, .no, .no, .no, .no, .no, .no] = .nx [.va (sL t), .va (.lst ((r0 :: rest).map sL)), .va (.lst (nI [m])), .no, .no, .no, .no, .no, .no, .no] := by
          generalize (r0 :: rest).map sL = rd at *
          generalize nI [m] = nm at *
          simp [gSl, gPart, ix0, sl6', n6', isl]
        have set3 : (sSet 3 (gLst gNil)) [.va (sL t), .va (.lst ((r0 :: rest).map sL)), .va (.lst (nI [m])), .no, .no, .no, .no, .no, .no, .no] = .nx [.va (sL t), .va (.lst ((r0 :: rest).map sL)), .va (.lst (nI [m])), .va (.lst []), .no, .no, .no, .no, .no, .no] := by
          simp [l0]
        have run := tr_run (T := .va (sL t)) (R := .va (.lst ((r0 :: rest).map sL))) (M := .va (.lst (nI [m]))) rest [] hrows1 (by simp; omega)
        have run' : forGo (.nm 4) [4, 5] tr_body (rest.map sL) [.va (sL t), .va (.lst ((r0 :: rest).map sL)), .va (.lst (nI [m])), .va (.lst []), .no, .no, .no, .no, .no, .no] = match allRow rest with
          | some rs => .nx [.va (sL t), .va (.lst ((r0 :: rest).map sL)), .va (.lst (nI [m])), .va (.lst ((zl (flatR rs)).map pD)), .no, .no, .no, .no, .no, .no]
          | none => .rt .non := run
        cases ar : allRow rest with
        | none =>
          refine ⟨fun m rs hp => ?_, fun _ => ?_⟩
          · exfalso
            obtain ⟨r0', rest', e1, _, _, e4⟩ := pin.mp hp.1
            cases e1
            rw [ar] at e4
            cases e4
          · rw [ar] at run'
            refine fn_rt rfl ?_
            rw [hs]
            refine body _ .non _ hM (seq_nx test (seq_nx set3 (seq_rt ?_)))
            rw [e_sWp, e_sFor, cut, e_rzSok, run']
            rfl
        | some rs =>
          rw [ar] at run'
          have f1 : (sWp [1, 4, 5] (sFor (gIter (gSl (gVar 1) (some (gC (.int 1))) none)) (.nm 4) [4, 5] tr_body)) [.va (sL t), .va (.lst ((r0 :: rest).map sL)), .va (.lst (nI [m])), .va (.lst []), .no, .no, .no, .no, .no, .no] = .nx [.va (sL t), .no, .va (.lst (nI [m])), .va (.lst ((zl (flatR rs)).map pD)), .no, .no, .no, .no, .no, .no] := by
            rw [e_sWp, e_sFor, cut, e_rzSok, run']
            rfl
          have hflat := flat_len ar
          have hfl9 : (flatR rs).length ≤ 900 := by omega
          have hpp : parse t = some (m, rs) := pin.mpr ⟨r0, rest, rfl, h6, en, ar⟩
          have inm : ixD (.lst (nI [m])) (.int 0) = .ok (.int (m : Int)) := ixL_0
          have ewD : wD (m : Int) (zl (flatR rs)) = .tup [.int (m : Int), .lst ((zl (flatR rs)).map pD)] := rfl
          have f2 : (sWp [2, 3] (sSet 6 (gTup (gCons (gBin ixD (gVar 2) (gC (.int 0))) (gCons (gVar 3) gNil))))) [.va (sL t), .no, .va (.lst (nI [m])), .va (.lst ((zl (flatR rs)).map pD)), .no, .no, .no, .no, .no, .no] = .nx [.va (sL t), .no, .no, .no, .no, .no, .va (wD (m : Int) (zl (flatR rs))), .no, .no, .no] := by
            rw [ewD]
            generalize nI [m] = nm at *
            generalize (zl (flatR rs)).map pD = zd at *
            simp [inm, l2]
          obtain ⟨w1, w2⟩ := look_read (m := m) (ls := flatR rs) hfl9
          have only : ∀ m' rs', parse t = some (m', rs') → m' = m ∧ rs' = rs := fun m' rs' h => by
            rw [hpp] at h
            cases h
            exact ⟨rfl, rfl⟩
          have fin : ∀ (d : D), (sSeq (sSet 7 (gC .non))
  (sSeq (sWp [8] (sTry 8 7 (fun c => decide (c = .web)) (sExp (gCall f_look_web (gCons (gVar 6) gNil)))))
  (sRet (gIf (gAnd (gTst (gIs false (gVar 7))) (gTst (gBin eqD (gCall f_law_text_k30 (gCons (gVar 6) gNil)) (gVar 0)))) (gVar 6) (gC .non))))) [.va (sL t), .no, .no, .no, .no, .no, .va (wD (m : Int) (zl (flatR rs))), .no, .no, .no] = .rt d → f_law_tried_k30 [sL t] = .ok d := fun d hd => by
            refine fn_rt rfl ?_
            rw [hs]
            exact body _ .non _ hM (seq_nx test (seq_nx set3 (seq_nx f1 (seq_nx f2 hd))))
          by_cases hw : WebN m (flatR rs)
          · have lw := w1 hw
            have tx := law_text_eq hw hfl9
            have eq := eqS (text_ok m (flatR rs)) ok
            by_cases ht : textN m (flatR rs) = t
            · refine ⟨fun m' rs' hp => ?_, fun hno => absurd ⟨hpp, hw, ht⟩ (hno m rs)⟩
              obtain ⟨rfl, rfl⟩ := only m' rs' hp.1
              rw [ht] at eq tx
              refine fin _ ?_
              generalize wD (m' : Int) (zl (flatR rs')) = wd at *
              refine seq_nx (ρ' := [.va (sL t), .no, .no, .no, .no, .no, .va wd, .va .non, .no, .no]) (by simp) ?_
              refine seq_nx (ρ' := [.va (sL t), .no, .no, .no, .no, .no, .va wd, .va .non, .no, .no]) (by simp [lw]) ?_
              simp [tx, eq]
            · refine ⟨fun m' rs' hp => ?_, fun _ => ?_⟩
              · exfalso
                obtain ⟨rfl, rfl⟩ := only m' rs' hp.1
                exact ht hp.2.2
              · refine fin _ ?_
                rw [decide_eq_false ht] at eq
                generalize wD (m : Int) (zl (flatR rs)) = wd at *
                refine seq_nx (ρ' := [.va (sL t), .no, .no, .no, .no, .no, .va wd, .va .non, .no, .no]) (by simp) ?_
                refine seq_nx (ρ' := [.va (sL t), .no, .no, .no, .no, .no, .va wd, .va .non, .no, .no]) (by simp [lw]) ?_
                simp [tx, eq]
          · have lw := w2 hw
            refine ⟨fun m' rs' hp => ?_, fun _ => ?_⟩
            · exfalso
              obtain ⟨rfl, rfl⟩ := only m' rs' hp.1
              exact hw hp.2.1
            · refine fin _ ?_
              generalize wD (m : Int) (zl (flatR rs)) = wd at *
              refine seq_nx (ρ' := [.va (sL t), .no, .no, .no, .no, .no, .va wd, .va .non, .no, .no]) (by simp) ?_
              refine seq_nx (ρ' := [.va (sL t), .no, .no, .no, .no, .no, .va wd, .va (.exc .web), .no, .no]) (by simp [lw]) ?_
              simp
    · refine ⟨fun m rs hp => ?_, fun _ => ?_⟩
      · exfalso
        obtain ⟨r0', rest', e1, e2, _, _⟩ := pin.mp hp.1
        cases e1
        exact h6 e2
      · rw [decide_eq_false h6] at n6
        have fin : ∀ M, f_law_numbers_k30 [.lst [sL (r0.drop 6)]] = .ok M → f_law_tried_k30 [sL t] = .ok .non := fun M hM => by
          refine fn_rt rfl ?_
          rw [hs]
          refine body M .non _ hM (seq_rt ?_)
          generalize (r0 :: rest).map sL = rd at *
          simp [gSl, gPart, ix0, sl6, n6]
        exact fin _ hnum'
/-- read and the law's own try come to the same -/
theorem read_tried {t : Cs} (ok : Ok t) (hl : t.length ≤ 800) :
    (∃ m ls, WebN m ls ∧ ls.length ≤ 900 ∧ f_read [sL t] = .ok (wD (m : Int) (zl ls)) ∧ f_law_tried_k30 [sL t] = .ok (wD (m : Int) (zl ls))) ∨ (f_read [sL t] = .er .text ∧ f_law_tried_k30 [sL t] = .ok .non) := by
  obtain ⟨a1, a2⟩ := read_both ok hl
  obtain ⟨b1, b2⟩ := tried_both ok hl
  by_cases h : ∃ m rs, TriedOk t m rs
  · obtain ⟨m, rs, h1, h2, h3⟩ := h
    refine .inl ⟨m, flatR rs, h2, ?_, a1 m rs h1 ((rise_iff h1 h2).mpr h3) h2, b1 m rs ⟨h1, h2, h3⟩⟩
    obtain ⟨r0, rest, e1, _, _, e4⟩ := parse_inv.mp h1
    have wt := spl_weight (a := t) (b := [10]) (by simp) (by decide)
    rw [e1, List.map_cons, List.sum_cons, List.length_cons] at wt
    have := flat_len e4
    omega
  · refine .inr ⟨a2 fun m rs h1 h2 h3 => h ⟨m, rs, h1, h3, (rise_iff h1 h3).mp h2⟩, b2 fun m rs h1 => h ⟨m, rs, h1⟩⟩
end FM
set_option Elab.async false
set_option linter.all false
set_option maxRecDepth 100000
set_option maxHeartbeats 8000000
/-! FM, plain: the law k30. -/
namespace FM
open PySem L2
-- @need f_law_main_k30
theorem webN_of {n : Int} {ls : List (Int × Int)} (h : WebOk n ls) : ∃ (m : Nat) (L : List (Nat × Nat)), n = (m : Int) ∧ ls = zl L ∧ WebN m L ∧ L.length ≤ 900 := by
  have h0 := h.n0
  have h1 := h.n1
  have ez : ls = zl (ls.map fun p => (p.1.toNat, p.2.toNat)) := by
    unfold zl
    rw [List.map_map]
    conv => lhs; rw [← List.map_id ls]
    apply List.map_congr_left
    intro p hp
    have := h.ln p hp
    show (p.1, p.2) = (((p.1.toNat : Nat) : Int), ((p.2.toNat : Nat) : Int))
    rw [Int.toNat_of_nonneg (by omega), Int.toNat_of_nonneg (by omega)]
  refine ⟨n.toNat, ls.map fun p => (p.1.toNat, p.2.toNat), by omega, ez, ⟨by omega, fun q hq => ?_, ?_⟩, by rw [List.length_map]; exact h.le⟩
  · obtain ⟨p, hp, rfl⟩ := List.mem_map.mp hq
    have := h.ln p hp
    show p.1.toNat < p.2.toNat ∧ p.2.toNat < n.toNat
    omega
  · rw [List.pairwise_map]
    refine h.up.imp_of_mem fun {p q} hp hq hpq => ?_
    have a := h.ln p hp
    have b := h.ln q hq
    have c : p.1 < q.1 ∨ (p.1 = q.1 ∧ p.2 < q.2) := of_decide_eq_true hpq
    show p.1.toNat < q.1.toNat ∨ (p.1.toNat = q.1.toNat ∧ p.2.toNat < q.2.toNat)
    omega
def SGN : Cs := [48, 49, 50, 51, 32, 58, 10, 115, 112, 116, 55]
theorem lit_sgn : (D.str "0123 :\nspt7") = sL SGN := congrArg D.str (by decide +kernel)
theorem sgn_ok : Ok SGN := fun c hc => by
  simp [SGN] at hc
  omega
/-! one sign put in, changed, let go -/
noncomputable def mu_body : Rho → Oc := (sSeq (sWp [3] (sSet 4 (gCall f_law_mix (gCons (gVar 0) (gCons (gBin addD (gC (.int 91)) (gVar 3)) gNil)))))
  (sSeq (sSet 5 (gBin modD (gBin divD (gVar 4) (gC (.int 8))) (gBin addD (gCall lenD (gCons (gVar 2) gNil)) (gC (.int 1)))))
  (sSeq (sSet 6 (gBin ixD (gC (sL SGN)) (gBin modD (gBin divD (gVar 4) (gC (.int 4096))) (gC (.int 11)))))
  (sSeq (sWp [2, 5, 6] (sSet 7 (gLst (gCons (gBin addD (gBin addD (gSl (gVar 2) none (some (gVar 5))) (gVar 6)) (gSl (gVar 2) (some (gVar 5)) none)) (gCons (gBin addD (gBin addD (gSl (gVar 2) none (some (gVar 5))) (gVar 6)) (gSl (gVar 2) (some (gBin addD (gVar 5) (gC (.int 1)))) none)) (gCons (gBin addD (gSl (gVar 2) none (some (gVar 5))) (gSl (gVar 2) (some (gBin addD (gVar 5) (gC (.int 1)))) none)) gNil))))))
  (sWp [4, 7] (sSet 2 (gBin ixD (gVar 7) (gBin modD (gVar 4) (gC (.int 3))))))))))
theorem mu_step (ns : List Int) {t : Cs} (ok : Ok t) (hl : t.length ≤ 700) (k : Nat) : ∃ t' : Cs, Ok t' ∧ t'.length ≤ t.length + 1 ∧
    mu_body [.va (.scr ns), .no, .va (sL t), .va (.int (k : Int)), .no, .no, .no, .no, .no, .no, .no, .no, .no] = .nx [.va (.scr ns), .no, .va (sL t'), .no, .no, .no, .no, .no, .no, .no, .no, .no, .no] := by
  obtain ⟨num, hnum, hn0⟩ := mix_eq ns (k := 91 + (k : Int)) (by omega)
  have hll : t.length ≤ lim := by
    rw [lim_is]
    omega
  have len := lenSL t hll
  have d1 : divD (.int num) (.int 8) = .ok (.int (num / 8)) := e_div (by decide) (by decide)
  have e1 : modD (.int (num / 8)) (.int ((t.length : Int) + 1)) = .ok (.int (num / 8 % ((t.length : Int) + 1))) := e_mod (by omega)
  have a0 := Int.emod_nonneg (num / 8) (b := (t.length : Int) + 1) (by omega)
  have a1 := Int.emod_lt_of_pos (num / 8) (b := (t.length : Int) + 1) (by omega)
  obtain ⟨j, hj⟩ : ∃ j : Nat, num / 8 % ((t.length : Int) + 1) = (j : Int) := ⟨(num / 8 % ((t.length : Int) + 1)).toNat, by omega⟩
  have hjl : j ≤ t.length := by omega
  rw [hj] at e1
  have d2 : divD (.int num) (.int 4096) = .ok (.int (num / 4096)) := e_div (by decide) (by decide)
  have e2 : modD (.int (num / 4096)) (.int 11) = .ok (.int (num / 4096 % 11)) := e_mod (by omega)
  have b0 := Int.emod_nonneg (num / 4096) (b := 11) (by omega)
  have b1 := Int.emod_lt_of_pos (num / 4096) (b := 11) (by omega)
  obtain ⟨i, hi⟩ : ∃ i : Nat, num / 4096 % 11 = (i : Int) := ⟨(num / 4096 % 11).toNat, by omega⟩
  rw [hi] at e2
  have hi11 : i < SGN.length := by
    show i < 11
    omega
  obtain ⟨c, hc⟩ : ∃ c, SGN[i]? = some c := ⟨_, List.getElem?_eq_getElem hi11⟩
  have okc : Ok [c] := fun x hx => by
    rw [List.mem_singleton] at hx
    subst hx
    exact sgn_ok x (List.mem_of_getElem? hc)
  have ic := ixS (w := SGN) (k := i) hc (by decide)
  have e3 : modD (.int num) (.int 3) = .ok (.int (num % 3)) := e_mod (by omega)
  have c0 := Int.emod_nonneg num (b := 3) (by omega)
  have c1 := Int.emod_lt_of_pos num (b := 3) (by omega)
  have s1 := sl_to (t := t) (k := j) hll
  have s2 := sl_from (t := t) (k := j) hll
  have s3 : slD (some ((j : Int) + 1)) none (sL t) = .ok (sL (t.drop (j + 1))) := sl_from (t := t) (k := j + 1) hll
  have t1 : (t.take j).length = j := by
    rw [List.length_take]
    omega
  have t2 : (t.drop j).length = t.length - j := List.length_drop
  have t3 : (t.drop (j + 1)).length = t.length - (j + 1) := List.length_drop
  have q1 := addS (a := t.take j) (b := [c]) (by rw [t1, lim_is]; show j + 1 ≤ _; omega)
  have t4 : (t.take j ++ [c]).length = j + 1 := by
    rw [List.length_append, t1]
    rfl
  have q2 := addS (a := t.take j ++ [c]) (b := t.drop j) (by rw [t4, t2, lim_is]; omega)
  have q3 := addS (a := t.take j ++ [c]) (b := t.drop (j + 1)) (by rw [t4, t3, lim_is]; omega)
  have q4 := addS (a := t.take j) (b := t.drop (j + 1)) (by rw [t1, t3, lim_is]; omega)
  have l3 : (3 : Nat) ≤ lim := by decide
  obtain ⟨t', okt, ltt, ix⟩ : ∃ t' : Cs, Ok t' ∧ t'.length ≤ t.length + 1 ∧ ixD (.lst [sL (t.take j ++ [c] ++ t.drop j), sL (t.take j ++ [c] ++ t.drop (j + 1)), sL (t.take j ++ t.drop (j + 1))]) (.int (num % 3)) = .ok (sL t') := by
    have : num % 3 = 0 ∨ num % 3 = 1 ∨ num % 3 = 2 := by omega
    rcases this with z | z | z
    · exact ⟨t.take j ++ [c] ++ t.drop j, app_ok (app_ok (take_ok ok j) okc) (drop_ok ok j), by rw [List.length_append, t4, t2]; omega, by rw [z]; exact ixL_nn (k := 0) rfl⟩
    · exact ⟨t.take j ++ [c] ++ t.drop (j + 1), app_ok (app_ok (take_ok ok j) okc) (drop_ok ok (j + 1)), by rw [List.length_append, t4, t3]; omega, by rw [z]; exact ixL_nn (k := 1) rfl⟩
    · exact ⟨t.take j ++ t.drop (j + 1), app_ok (take_ok ok j) (drop_ok ok (j + 1)), by rw [List.length_append, t1, t3]; omega, by rw [z]; exact ixL_nn (k := 2) rfl⟩
  refine ⟨t', okt, ltt, ?_⟩
  unfold mu_body
  refine seq_nx (ρ' := [.va (.scr ns), .no, .va (sL t), .no, .va (.int num), .no, .no, .no, .no, .no, .no, .no, .no]) (by simp [hnum]) ?_
  refine seq_nx (ρ' := [.va (.scr ns), .no, .va (sL t), .no, .va (.int num), .va (.int (j : Int)), .no, .no, .no, .no, .no, .no, .no]) (by simp [len, d1, e1]) ?_
  refine seq_nx (ρ' := [.va (.scr ns), .no, .va (sL t), .no, .va (.int num), .va (.int (j : Int)), .va (sL [c]), .no, .no, .no, .no, .no, .no]) (by generalize sL SGN = sg at *; simp [d2, e2, ic]) ?_
  refine seq_nx (ρ' := [.va (.scr ns), .no, .no, .no, .va (.int num), .no, .no, .va (.lst [sL (t.take j ++ [c] ++ t.drop j), sL (t.take j ++ [c] ++ t.drop (j + 1)), sL (t.take j ++ t.drop (j + 1))]), .no, .no, .no, .no, .no]) ?_ ?_
  · generalize sL (t.take j ++ [c] ++ t.drop j) = x1 at *
    generalize sL (t.take j ++ [c] ++ t.drop (j + 1)) = x2 at *
    generalize sL (t.take j ++ t.drop (j + 1)) = x3 at *
    generalize sL (t.take j ++ [c]) = x4 at *
    generalize sL (t.take j) = x5 at *
    generalize sL (t.drop (j + 1)) = x6 at *
    generalize sL (t.drop j) = x7 at *
    generalize sL [c] = x8 at *
    generalize sL t = x9 at *
    simp [gSl, gPart, s1, s2, s3, q1, q2, q3, q4, l3]
  · generalize sL (t.take j ++ [c] ++ t.drop j) = x1 at *
    generalize sL (t.take j ++ [c] ++ t.drop (j + 1)) = x2 at *
    generalize sL (t.take j ++ t.drop (j + 1)) = x3 at *
    simp [e3, ix]
/-! rows the other way round -/
theorem gRevL_is {ga : Rho → Rz D} {ρ : Rho} {l : List D} (h : ga ρ = .ok (.lst l)) : gRevL ga ρ = .ok (.lst l.reverse) := by
  unfold gRevL
  rw [h]
  rfl
theorem rv_step (ns : List Int) {t : Cs} (ok : Ok t) (hl : t.length ≤ 700) : ∃ t' : Cs, Ok t' ∧ t'.length ≤ t.length + 1 ∧
    (sWp [0, 8] (sIf (gAnd (gTst (gBin eqD (gBin modD (gCall f_law_mix (gCons (gVar 0) (gCons (gC (.int 93)) gNil))) (gC (.int 6))) (gC (.int 0)))) (gTst (gBin gtD (gM1 scountD (gVar 2) (gC (sL [10]))) (gC (.int 1)))))
  (sSeq (sWp [2] (sSet 8 (gM1 splitD (gVar 2) (gC (sL [10])))))
  (sWp [8] (sSet 2 (gM1 joinD (gC (sL [10])) (gBin addD (gLst (gCons (gBin ixD (gVar 8) (gC (.int 0))) gNil)) (gRevL (gSl (gVar 8) (some (gC (.int 1))) none)))))))
  sNil)) [.va (.scr ns), .no, .va (sL t), .no, .no, .no, .no, .no, .no, .no, .no, .no, .no] = .nx [.no, .no, .va (sL t'), .no, .no, .no, .no, .no, .no, .no, .no, .no, .no] := by
  obtain ⟨num, hnum, hn0⟩ := mix_eq ns (k := 93) (by omega)
  have e1 : modD (.int num) (.int 6) = .ok (.int (num % 6)) := e_mod (by omega)
  have sc : scountD (sL t) (sL [10]) = .ok (.int (Txt.count (SX.S t) (SX.S [10]))) := rfl
  generalize hcn : (Txt.count (SX.S t) (SX.S [10]) : Int) = cn at sc
  by_cases c1 : num % 6 = 0
  · by_cases c2 : (1 : Int) < cn
    · have sp := sp_split (t := t) (b := [10]) (by simp) (by decide) (by rw [lim_is]; omega)
      have wt := spl_weight (a := t) (b := [10]) (by simp) (by decide)
      have hok : ∀ p ∈ TL.spl [10] 0 [] t, Ok p := fun p hp => spl_ok ok hp
      cases hrows : TL.spl [10] 0 [] t with
      | nil => exact absurd hrows (spl_ne t [] 0)
      | cons r0 rest =>
        rw [hrows] at sp wt hok
        have ix0 : ixD (.lst ((r0 :: rest).map sL)) (.int 0) = .ok (sL r0) := ixL_0
        have hsum : ((r0 :: rest.reverse).map List.length).sum + (r0 :: rest.reverse).length = ((r0 :: rest).map List.length).sum + (r0 :: rest).length := by
          rw [List.map_cons, List.map_cons, List.sum_cons, List.sum_cons, List.length_cons, List.length_cons, List.length_reverse, List.map_reverse, List.sum_reverse]
        have d : ([10] : Cs).length = 1 := rfl
        have jn := joinS (b := [10]) (rows := r0 :: rest.reverse) (by rw [d, lim_is]; omega)
        have jl := joinL_len [10] (r0 :: rest.reverse)
        rw [d] at jl
        refine ⟨TL.joinL [10] (r0 :: rest.reverse), join_ok ok10 fun p hp => hok p ?_, by omega, ?_⟩
        · rcases List.mem_cons.mp hp with rfl | hp
          · exact List.mem_cons_self
          · exact List.mem_cons_of_mem _ (List.mem_reverse.mp hp)
        have cut := cut1 (r0 := sL r0) (rest := rest.map sL)
        have l1 : (1 : Nat) ≤ lim := by decide
        have rv : ∀ R : Rho, R[8]? = some (.va (.lst ((r0 :: rest).map sL))) → gRevL (gSl (gVar 8) (some (gC (.int 1))) none) R = .ok (.lst (rest.map sL).reverse) := fun R hR => gRevL_is (by
          have em : (r0 :: rest).map sL = sL r0 :: rest.map sL := rfl
          rw [em] at hR
          unfold gSl
          rw [e_gVar, hR]
          exact cut)
        have ad : addD (.lst [sL r0]) (.lst (rest.map sL).reverse) = .ok (.lst ((r0 :: rest.reverse).map sL)) := by
          rw [e_addL, if_pos (by
            rw [List.map_cons, List.sum_cons, List.length_cons] at wt
            rw [List.length_reverse, List.length_map, lim_is]
            show 1 + _ ≤ _
            omega), List.map_cons, List.map_reverse]
          rfl
        have p1 : (sWp [2] (sSet 8 (gM1 splitD (gVar 2) (gC (sL [10]))))) [.va (.scr ns), .no, .va (sL t), .no, .no, .no, .no, .no, .no, .no, .no, .no, .no] = .nx [.va (.scr ns), .no, .no, .no, .no, .no, .no, .no, .va (.lst ((r0 :: rest).map sL)), .no, .no, .no, .no] := by
          simp [sp]
        have rv' := rv [.va (.scr ns), .no, .no, .no, .no, .no, .no, .no, .va (.lst ((r0 :: rest).map sL)), .no, .no, .no, .no] rfl
        have p2 : (sWp [8] (sSet 2 (gM1 joinD (gC (sL [10])) (gBin addD (gLst (gCons (gBin ixD (gVar 8) (gC (.int 0))) gNil)) (gRevL (gSl (gVar 8) (some (gC (.int 1))) none)))))) [.va (.scr ns), .no, .no, .no, .no, .no, .no, .no, .va (.lst ((r0 :: rest).map sL)), .no, .no, .no, .no] = .nx [.va (.scr ns), .no, .va (sL (TL.joinL [10] (r0 :: rest.reverse))), .no, .no, .no, .no, .no, .no, .no, .no, .no, .no] := by
          generalize (r0 :: rest).map sL = rd at *
          generalize (rest.map sL).reverse = rr at *
          generalize (r0 :: rest.reverse).map sL = rj at *
          simp [ix0, rv', l1, ad, jn]
        have test : (gAnd (gTst (gBin eqD (gBin modD (gCall f_law_mix (gCons (gVar 0) (gCons (gC (.int 93)) gNil))) (gC (.int 6))) (gC (.int 0)))) (gTst (gBin gtD (gM1 scountD (gVar 2) (gC (sL [10]))) (gC (.int 1))))) [.va (.scr ns), .no, .va (sL t), .no, .no, .no, .no, .no, .no, .no, .no, .no, .no] = .ok true := by
          simp [hnum, e1, eqII, c1, sc, c2]
        rw [e_sWp, e_sIf, test, e_rzSok, if_pos rfl, seq_nx p1 p2]
        rfl
    · refine ⟨t, ok, by omega, ?_⟩
      have test : (gAnd (gTst (gBin eqD (gBin modD (gCall f_law_mix (gCons (gVar 0) (gCons (gC (.int 93)) gNil))) (gC (.int 6))) (gC (.int 0)))) (gTst (gBin gtD (gM1 scountD (gVar 2) (gC (sL [10]))) (gC (.int 1))))) [.va (.scr ns), .no, .va (sL t), .no, .no, .no, .no, .no, .no, .no, .no, .no, .no] = .ok false := by
        simp [hnum, e1, eqII, c1, sc, c2]
      rw [e_sWp, e_sIf, test]
      rfl
  · refine ⟨t, ok, by omega, ?_⟩
    have test : (gAnd (gTst (gBin eqD (gBin modD (gCall f_law_mix (gCons (gVar 0) (gCons (gC (.int 93)) gNil))) (gC (.int 6))) (gC (.int 0)))) (gTst (gBin gtD (gM1 scountD (gVar 2) (gC (sL [10]))) (gC (.int 1))))) [.va (.scr ns), .no, .va (sL t), .no, .no, .no, .no, .no, .no, .no, .no, .no, .no] = .ok false := by
      simp [hnum, e1, eqII, c1]
    rw [e_sWp, e_sIf, test]
    rfl
theorem wD_sh {n : Int} {ls : List (Int × Int)} : Sh 3 (wD n ls) := Sh.tup fun x hx => by
  simp only [List.mem_cons, List.not_mem_nil, or_false] at hx
  rcases hx with rfl | rfl
  · exact Sh.int
  · exact Sh.pairs
/-- the law k30 -/
theorem law_k30 (ns : List Int) (h : ns.length ≤ 63) : f_law_main_k30 [.scr ns] = .ok (.bl true) := by
  obtain ⟨n, ls, hweb, hw, hn7⟩ := law_web_eq ns (k := 0) (most := 7) (by decide) (by decide)
  obtain ⟨m, L, rfl, rfl, hN, hL⟩ := webN_of hw
  refine fn_rt rfl ?_
  have hs : startR 13 [.scr ns] = [.va (.scr ns), .no, .no, .no, .no, .no, .no, .no, .no, .no, .no, .no, .no] := rfl
  rw [hs]
  unfold b_law_main_k30
  rw [lit_nl, lit_sgn]
  have hm := hN.mx
  have tl := text_len hN
  have tok := text_ok m L
  refine seq_nx (ρ' := [.va (.scr ns), .va (wD (m : Int) (zl L)), .no, .no, .no, .no, .no, .no, .no, .no, .no, .no, .no]) ?_ ?_
  · generalize wD (m : Int) (zl L) = w at *
    simp [hweb]
  have ht := law_text_eq hN hL
  have hwr := written_eq hN hL
  have hrd := (read_both tok (by omega)).1 m (rowsN m L) (parse_text hN) (rows_rise m L) (by rw [flat_rows hN]; exact hN)
  rw [flat_rows hN] at hrd
  refine seq_nx (ρ' := [.va (.scr ns), .va (wD (m : Int) (zl L)), .va (sL (textN m L)), .no, .no, .no, .no, .no, .no, .no, .no, .no, .no]) ?_ ?_
  · generalize wD (m : Int) (zl L) = w at *
    simp [ht]
  have ne1 := neS tok tok
  rw [decide_eq_true rfl] at ne1
  have ne2 : neD (wD (m : Int) (zl L)) (wD (m : Int) (zl L)) = .ok (.bl false) := wD_sh.ne (by decide)
  refine seq_nx (ρ' := [.va (.scr ns), .no, .va (sL (textN m L)), .no, .no, .no, .no, .no, .no, .no, .no, .no, .no]) ?_ ?_
  · generalize wD (m : Int) (zl L) = w at *
    simp [hwr, ne1, hrd, ne2]
  -- changed once or twice
  obtain ⟨t1, ok1, hl1, run1⟩ : ∃ t1 : Cs, Ok t1 ∧ t1.length ≤ 402 ∧ (sWp [3, 4, 5, 6, 7] (sFor (gRng rng1D (gCons (gBin addD (gC (.int 1)) (gBin modD (gCall f_law_mix (gCons (gVar 0) (gCons (gC (.int 90)) gNil))) (gC (.int 2)))) gNil)) (.nm 3) [3, 4, 5, 6, 7] mu_body)) [.va (.scr ns), .no, .va (sL (textN m L)), .no, .no, .no, .no, .no, .no, .no, .no, .no, .no] = .nx [.va (.scr ns), .no, .va (sL t1), .no, .no, .no, .no, .no, .no, .no, .no, .no, .no] := by
    obtain ⟨num, hnum, hn0⟩ := mix_eq ns (k := 90) (by omega)
    have e1 : modD (.int num) (.int 2) = .ok (.int (num % 2)) := e_mod (by omega)
    have c0 := Int.emod_nonneg num (b := 2) (by omega)
    have c1 := Int.emod_lt_of_pos num (b := 2) (by omega)
    obtain ⟨j, hj⟩ : ∃ j : Nat, num % 2 = (j : Int) := ⟨(num % 2).toNat, by omega⟩
    rw [hj] at e1
    have hr : rng1D [.int (1 + (j : Int))] = .ok (rngL 0 (1 + j)) := by
      have := rng1_ok (n := 1 + (j : Int)) (by omega)
      have e : (1 + (j : Int)).toNat = 1 + j := by omega
      rw [e] at this
      exact this
    have hg : gRng rng1D (gCons (gBin addD (gC (.int 1)) (gBin modD (gCall f_law_mix (gCons (gVar 0) (gCons (gC (.int 90)) gNil))) (gC (.int 2)))) gNil) [.va (.scr ns), .no, .va (sL (textN m L)), .no, .no, .no, .no, .no, .no, .no, .no, .no, .no] = .ok (rngL 0 (1 + j)) := by
      simp [hnum, e1, hr]
    obtain ⟨ρ2, r1, r2⟩ := for_inv (tg := .nm 3) (wp := [3, 4, 5, 6, 7]) (body := mu_body) (fun i ρ => ∃ t : Cs, Ok t ∧ t.length ≤ 400 + i ∧ ρ = [.va (.scr ns), .no, .va (sL t), .no, .no, .no, .no, .no, .no, .no, .no, .no, .no]) (rngL 0 (1 + j)) 0 [.va (.scr ns), .no, .va (sL (textN m L)), .no, .no, .no, .no, .no, .no, .no, .no, .no, .no] ⟨textN m L, tok, by omega, rfl⟩ fun i x ρ hx hp => by
      rw [Nat.zero_add] at hp ⊢
      obtain ⟨t, okt, hlt, rfl⟩ := hp
      obtain ⟨rfl, hi⟩ := rngL_get hx
      have ez : (0 : Int) + (i : Int) = (i : Int) := by omega
      rw [ez]
      obtain ⟨t', okt', hlt', e⟩ := mu_step ns okt (by omega) i
      exact ⟨_, _, rfl, e, t', okt', by omega, rfl⟩
    rw [Nat.zero_add, rngL_len] at r2
    obtain ⟨t1, ok1, hl1, rfl⟩ := r2
    refine ⟨t1, ok1, by omega, ?_⟩
    rw [e_sWp, e_sFor, hg, e_rzSok, r1]
    rfl
  refine seq_nx run1 ?_
  obtain ⟨t, ok, hl, run2⟩ := rv_step ns ok1 (by omega)
  refine seq_nx run2 ?_
  refine seq_nx (ρ' := [.no, .no, .va (sL t), .no, .no, .no, .no, .no, .no, .va .non, .no, .no, .no]) (by simp) ?_
  refine seq_nx (ρ' := [.no, .no, .va (sL t), .no, .no, .no, .no, .no, .no, .va .non, .va .non, .no, .no]) (by simp) ?_
  rcases read_tried ok (by omega) with ⟨m', ls', hN', _, r1, r2⟩ | ⟨r1, r2⟩
  · have nn : isNonD true (wD (m' : Int) (zl ls')) = .ok (.bl true) := rfl
    have eq : eqD (wD (m' : Int) (zl ls')) (wD (m' : Int) (zl ls')) = .ok (.bl true) := wD_sh.eq (by decide)
    generalize wD (m' : Int) (zl ls') = w at *
    refine seq_nx (ρ' := [.no, .no, .va (sL t), .no, .no, .no, .no, .no, .no, .va .non, .va w, .no, .no]) (by simp [r1]) ?_
    refine seq_nx (ρ' := [.no, .no, .no, .no, .no, .no, .no, .no, .no, .va .non, .va w, .no, .va w]) (by simp [r2]) ?_
    exact seq_rt (by simp [nn, eq])
  · have st : neD (.str "text") (.str "text") = .ok (.bl false) := (show Sh 0 (.str "text") from Sh.str (by decide +kernel)).ne (by decide)
    have sw : eqD (.str "web") (.str "web") = .ok (.bl true) := (show Sh 0 (.str "web") from Sh.str (by decide +kernel)).eq (by decide)
    have rt : f_law_refusal [.exc .text] = .ok (.str "text") := refusal_eq .text
    have rw0 : f_law_refusal [.exc .web] = .ok (.str "web") := refusal_eq .web
    have hw11 : f_look_web [.tup [.int 11, .lst []]] = .er .web := look_web_bad (L := []) (Nat.zero_le _) (.inl (by decide))
    have wr11 : f_written [.tup [.int 11, .lst []]] = .er .web := by
      refine fn_er (ρ := [.va (.tup [.int 11, .lst []]), .no, .no, .no, .no, .no]) rfl ?_
      have hs6 : startR 6 [.tup [.int 11, .lst []]] = [.va (.tup [.int 11, .lst []]), .no, .no, .no, .no, .no] := rfl
      rw [hs6]
      unfold b_written
      exact seq_er (by simp [hw11])
    have l0 : (0 : Nat) ≤ lim := by decide
    have l2 : (2 : Nat) ≤ lim := by decide
    refine seq_nx (ρ' := [.no, .no, .va (sL t), .no, .no, .no, .no, .no, .no, .va (.exc .text), .va .non, .no, .no]) (by simp [r1]) ?_
    refine seq_nx (ρ' := [.no, .no, .no, .no, .no, .no, .no, .no, .no, .va (.exc .text), .va .non, .no, .va .non]) (by simp [r2]) ?_
    refine seq_nx (ρ' := [.no, .no, .no, .no, .no, .no, .no, .no, .no, .va (.exc .text), .no, .no, .no]) (by simp [e_isN3]) ?_
    refine seq_nx (ρ' := [.no, .no, .no, .no, .no, .no, .no, .no, .no, .no, .no, .no, .no]) (by simp [rt, st]) ?_
    refine seq_nx (ρ' := [.no, .no, .no, .no, .no, .no, .no, .no, .no, .va .non, .no, .no, .no]) (by simp) ?_
    refine seq_nx (ρ' := [.no, .no, .no, .no, .no, .no, .no, .no, .no, .va (.exc .web), .no, .no, .no]) (by simp [wr11, l0, l2]) ?_
    simp [rw0, sw]
-- @end
end FM
set_option Elab.async false
set_option linter.all false
set_option maxRecDepth 100000
set_option maxHeartbeats 8000000

/-! FM: the walk of each def of law_k30_texts, printed by gen.py. -/
namespace FM
open PySem L2
def topS (i : Nat) : Stmt := PySem.Challenge.pw_forcemark_k30_texts.main.body.getD i (.Pass ⟨0, 0, 0, 0⟩)
structure Txt (K : PySem.W.Frag) (mg : Str → Option Value) (ca : Ec → Addr) (aM : Addr) : Prop extends ExTxt K mg ca aM where
  z_ValueError : mg "ValueError" = none
  z_all : mg "all" = none
  z_int : mg "int" = none
  z_isinstance : mg "isinstance" = none
  z_len : mg "len" = none
  z_range : mg "range" = none
  z_str : mg "str" = none
  MOST_SPOTS : ∃ t, mg "MOST_SPOTS" = some (.int 10 t)
  FIGURES : ∃ t, mg "FIGURES" = some (.str "0123456789" t)

section
variable {P : Program} {w : World} {K : PySem.W.Frag} {mg : Str → Option Value} {base : Heap} {ca : Ec → Addr} {aM : Addr}
abbrev s_look_web : Stmt := topS 9
abbrev n_look_web : List Str := ["web", "many", "lines", "k"]
theorem sc_look_web : FnScope n_look_web ["web"] (defScope s_look_web) := ⟨rfl, rfl, rfl, by decide +kernel, rfl, by decide +kernel, by decide +kernel⟩
theorem has_look_web (T : Txt K mg ca aM) (D0 : DefAt K mg "look_web" s_look_web)  : Has P w K mg base ⟨K, w, ca⟩ 1 "look_web" 1 f_look_web := by
  refine has_of (N := n_look_web) (ps := ["web"]) (k := 0) D0 sc_look_web rfl (by decide) (fun _ _ _ _ _ _ us hl => match us, hl with | [_], _ => rfl) fun f cdv A outer s0 H E hr tk hp => ?_
  unfold b_look_web
  exact (dss_cons (ds_wp [0] (ds_pair (dx_var 0) (dg_pr 1 2 rfl sc_look_web.nd rfl (by first | exact .inl rfl | exact .inr rfl) rfl (by first | exact .inl rfl | exact .inr rfl))))
  (dss_cons (ds_if (dt_not (dt_ch op_le opd_le op_le opd_le dx_int (dx_var 1) (dx_gint (by rfl) T.MOST_SPOTS)))
  (dss_one (ds_raiseE T.toExTxt .web (by rfl) (by rfl) rfl tk))
  dss_nil)
  (dss_one (ds_wp [1, 2, 3] (ds_for [3] hp rfl (di_rng1 (by rfl) T.z_range (da_cons (dx_len rfl T.z_len (dx_var 2)) da_nil)) (dg_nm 3 sc_look_web.nd rfl (by first | exact .inl rfl | exact .inr rfl))
  (dss_one (ds_wp [3] (ds_if (dt_bool (dw_or (dt_ne hr (dx_len rfl T.z_len (dx_ix rfl (dx_var 2) (dx_var 3) (fun _ _ => rfl))) dx_int) (dw_or (dt_not (dt_ch3 op_le opd_le (op_ltA (hu64 hr)) opd_lt (op_ltA (hu64 hr)) opd_lt dx_int (dx_ix rfl (dx_ix rfl (dx_var 2) (dx_var 3) (fun _ _ => rfl)) dx_int (fun _ _ => rfl)) (dx_ix rfl (dx_ix rfl (dx_var 2) (dx_var 3) (fun _ _ => rfl)) dx_int (fun _ _ => rfl)) (dx_var 1))) (dw_or1 (dt_bool (dw_and (dt_gt hr (dx_var 3) dx_int) (dw_and1 (dt_not (dt_lt hr (dx_ix rfl (dx_var 2) (dx_sub (dx_var 3) dx_int) (fun _ _ => rfl)) (dx_ix rfl (dx_var 2) (dx_var 3) (fun _ _ => rfl)))))))))))
  (dss_one (ds_raiseE T.toExTxt .web (by rfl) (by rfl) rfl tk))
  dss_nil))))))))

abbrev s_written : Stmt := topS 12
abbrev n_written : List Str := ["web", "rows", "spot", "ends", "one", "other"]
theorem sc_written : FnScope n_written ["web"] (defScope s_written) := ⟨rfl, rfl, rfl, by decide +kernel, rfl, by decide +kernel, by decide +kernel⟩
theorem has_written (T : Txt K mg ca aM) (D0 : DefAt K mg "written" s_written) (h_look_web : Has P w K mg base ⟨K, w, ca⟩ 1 "look_web" 1 f_look_web) : Has P w K mg base ⟨K, w, ca⟩ 2 "written" 1 f_written := by
  refine has_of (N := n_written) (ps := ["web"]) (k := 1) D0 sc_written rfl (by decide) (fun _ _ _ _ _ _ us hl => match us, hl with | [_], _ => rfl) fun f cdv A outer s0 H E hr tk hp => ?_
  unfold b_written
  exact (dss_cons (ds_exp (dx_fn h_look_web (hr.mono (by decide)) tk (da_cons (dx_var 0) da_nil)))
  (dss_cons (ds_own (i := 1) sc_written.nd rfl (by first | exact .inl rfl | exact .inr rfl) (da_cons (dx_add dx_str (dx_strI T.z_str (dx_ix rfl (dx_var 0) dx_int (fun _ _ => rfl)))) da_nil))
  (dss_cons (ds_wp [0, 2, 3] (ds_for [2, 3] hp rfl (di_rng1 (by rfl) T.z_range (da_cons (dx_ix rfl (dx_var 0) dx_int (fun _ _ => rfl)) da_nil)) (dg_nm 2 sc_written.nd rfl (by first | exact .inl rfl | exact .inr rfl))
  (dss_cons (ds_setLc (i := 3) (own := [("one", 4), ("other", 5)]) (t := (.pr 4 5)) rfl rfl sc_written.nd rfl rfl (sw_true rfl rfl rfl (by decide +kernel)) (di_seq (dx_ix rfl (dx_var 0) dx_int (fun _ _ => rfl))) (blkOk_by (N := n_written) (sc := defScope s_written) (by decide +kernel)) (fun _ _ _ _ _ => (dg_pr 4 5 rfl sc_written.nd rfl (by first | exact .inl rfl | exact .inr rfl) rfl (by first | exact .inl rfl | exact .inr rfl))) (fun _ _ _ _ _ => (dts_one (dt_eq hr (dx_var 4) (dx_var 2)))) (fun _ _ _ _ _ => (dx_var 5)))
  (dss_one (ds_wp [2, 3] (ds_if (dt_tru rfl (dx_var 3))
  (dss_one (ds_wp [2, 3] (ds_app 1 rfl (by first | exact Or.inl rfl | exact Or.inr (Or.inl rfl) | exact Or.inr (Or.inr rfl)) (dx_add (dx_add (dx_strI T.z_str (dx_var 2)) dx_str) (dx_join dx_str (dx_lc (own := [("other", 5)]) (t := (.nm 5)) rfl rfl sc_written.nd (di_seq (dx_var 3)) (blkOk_by (N := n_written) (sc := defScope s_written) (by decide +kernel)) (fun _ _ _ _ _ => (dg_nm 5 sc_written.nd rfl (by first | exact .inl rfl | exact .inr rfl))) (fun _ _ _ _ _ => dts_nil) (fun _ _ _ _ _ => (dx_strI T.z_str (dx_var 5)))))))))
  dss_nil))))))
  (dss_one (ds_fz 1 (ds_ret (dx_join dx_str (dx_var 1))))))))

abbrev s_number_in : Stmt := topS 13
abbrev n_number_in : List Str := ["word", "sign"]
theorem sc_number_in : FnScope n_number_in ["word"] (defScope s_number_in) := ⟨rfl, rfl, rfl, by decide +kernel, rfl, by decide +kernel, by decide +kernel⟩
theorem has_number_in (T : Txt K mg ca aM) (D0 : DefAt K mg "number_in" s_number_in)  : Has P w K mg base ⟨K, w, ca⟩ 1 "number_in" 1 f_number_in := by
  refine has_of (N := n_number_in) (ps := ["word"]) (k := 0) D0 sc_number_in rfl (by decide) (fun _ _ _ _ _ _ us hl => match us, hl with | [_], _ => rfl) fun f cdv A outer s0 H E hr tk hp => ?_
  unfold b_number_in
  exact (dss_cons (ds_if (dt_bool (dw_or (dt_not (dt_ch op_le opd_le op_le opd_le dx_int (dx_len rfl T.z_len (dx_var 0)) dx_int)) (dw_or (dt_not (dt_tru rfl (dx_all rfl T.z_all (dx_lc (own := [("sign", 1)]) (t := (.nm 1)) rfl rfl sc_number_in.nd (di_seq (dx_var 0)) (blkOk_by (N := n_number_in) (sc := defScope s_number_in) (by decide +kernel)) (fun _ _ _ _ _ => (dg_nm 1 sc_number_in.nd rfl (by first | exact .inl rfl | exact .inr rfl))) (fun _ _ _ _ _ => dts_nil) (fun _ _ _ _ _ => (dx_in hr (dx_var 1) (dx_gstr (by rfl) T.FIGURES))))))) (dw_or1 (dt_bool (dw_and (dt_eq hr (dx_ix rfl (dx_var 0) dx_int (fun _ _ => rfl)) dx_str) (dw_and1 (dt_ne hr (dx_var 0) dx_str))))))))
  (dss_one (ds_raiseE T.toExTxt .text (by rfl) (by rfl) rfl tk))
  dss_nil)
  (dss_one (ds_ret (dx_intS T.z_int (dx_var 0)))))

abbrev s_read : Stmt := topS 14
abbrev n_read : List Str := ["text", "rows", "lines", "last", "row", "parts", "found", "kept", "e", "word"]
theorem sc_read : FnScope n_read ["text"] (defScope s_read) := ⟨rfl, rfl, rfl, by decide +kernel, rfl, by decide +kernel, by decide +kernel⟩
theorem has_read (T : Txt K mg ca aM) (D0 : DefAt K mg "read" s_read) (h_look_web : Has P w K mg base ⟨K, w, ca⟩ 1 "look_web" 1 f_look_web) (h_number_in : Has P w K mg base ⟨K, w, ca⟩ 1 "number_in" 1 f_number_in) : Has P w K mg base ⟨K, w, ca⟩ 2 "read" 1 f_read := by
  refine has_of (N := n_read) (ps := ["text"]) (k := 1) D0 sc_read rfl (by decide) (fun _ _ _ _ _ _ us hl => match us, hl with | [_], _ => rfl) fun f cdv A outer s0 H E hr tk hp => ?_
  unfold b_read
  exact (dss_cons (ds_wp [0] (ds_set (i := 1) sc_read.nd rfl (by first | exact .inl rfl | exact .inr rfl) (dx_split (dx_var 0) dx_str)))
  (dss_cons (ds_if (dt_ne hr (dx_sl (dx_ix rfl (dx_var 1) dx_int (fun _ _ => rfl)) do_none (do_some dx_int)) dx_str)
  (dss_one (ds_raiseE T.toExTxt .text (by rfl) (by rfl) rfl tk))
  dss_nil)
  (dss_cons (ds_own (i := 2) sc_read.nd rfl (by first | exact .inl rfl | exact .inr rfl) da_nil)
  (dss_cons (ds_set (i := 3) sc_read.nd rfl (by first | exact .inl rfl | exact .inr rfl) (dx_neg dx_int))
  (dss_cons (ds_wp [3, 4, 5] (ds_for [4, 5] hp rfl (di_seq (dx_sl (dx_var 1) (do_some dx_int) do_none)) (dg_nm 4 sc_read.nd rfl (by first | exact .inl rfl | exact .inr rfl))
  (dss_cons (ds_wp [4] (ds_set (i := 5) sc_read.nd rfl (by first | exact .inl rfl | exact .inr rfl) (dx_split (dx_var 4) dx_str)))
  (dss_cons (ds_wp [3] (ds_if (dt_bool (dw_or (dt_ne hr (dx_len rfl T.z_len (dx_var 5)) dx_int) (dw_or1 (dt_le hr (dx_fn h_number_in (hr.mono (by decide)) tk (da_cons (dx_ix rfl (dx_var 5) dx_int (fun _ _ => rfl)) da_nil)) (dx_var 3)))))
  (dss_one (ds_raiseE T.toExTxt .text (by rfl) (by rfl) rfl tk))
  dss_nil))
  (dss_cons (ds_set (i := 3) sc_read.nd rfl (by first | exact .inl rfl | exact .inr rfl) (dx_fn h_number_in (hr.mono (by decide)) tk (da_cons (dx_ix rfl (dx_var 5) dx_int (fun _ _ => rfl)) da_nil)))
  (dss_one (ds_wp [5] (ds_ext 2 rfl (by first | exact Or.inl rfl | exact Or.inr (Or.inl rfl) | exact Or.inr (Or.inr rfl)) (dx_lcX (own := [("word", 9)]) (t := (.nm 9)) rfl tk rfl rfl rfl sc_read.nd (di_seq (dx_split (dx_ix rfl (dx_var 5) dx_int (fun _ _ => rfl)) dx_str)) (blkOk_by (N := n_read) (sc := defScope s_read) (by decide +kernel)) (fun _ _ _ _ _ => (dg_nm 9 sc_read.nd rfl (by first | exact .inl rfl | exact .inr rfl))) (fun _ _ _ _ _ => dts_nil) (fun _ _ _ _ _ _ ps => (dx_tup (da_cons (dx_var 3) (da_cons (dx_fnP h_number_in (hr.mono (by decide)) ps (da_cons (dx_var 9) da_nil)) da_nil)))))))))))))
  (dss_cons (ds_wp [1, 2] (ds_fz 2 (ds_set (i := 6) sc_read.nd rfl (by first | exact .inl rfl | exact .inr rfl) (dx_tup (da_cons (dx_fn h_number_in (hr.mono (by decide)) tk (da_cons (dx_sl (dx_ix rfl (dx_var 1) dx_int (fun _ _ => rfl)) (do_some dx_int) do_none) da_nil)) (da_cons (dx_var 2) da_nil))))))
  (dss_cons (ds_set (i := 7) sc_read.nd rfl (by first | exact .inl rfl | exact .inr rfl) dx_non)
  (dss_cons (ds_wp [8] (ds_try (i := 8) (k := 7) (cat := (fun c => decide (c = .web))) (by decide) (fun e he => T.catOne e .web (of_decide_eq_true he)) rfl rfl rfl sc_read.nd rfl rfl rfl rfl ⟨by rfl, by decide, .inl (T.mgE .web)⟩ (fun V pn xe tkB hpB => (dss_one (ds_exp (dx_fn h_look_web (hr.mono (by decide)) tkB (da_cons (dx_var 6) da_nil)))))))
  (dss_cons (ds_wp [7] (ds_if (dt_isnot (dx_var 7))
  (dss_one (ds_raiseE T.toExTxt .text (by rfl) (by rfl) rfl tk))
  dss_nil))
  (dss_one (ds_ret (dx_var 6))))))))))))

abbrev s_law_cell : Stmt := topS 16
abbrev n_law_cell : List Str := ["_law_script", "_law_k"]
theorem sc_law_cell : FnScope n_law_cell ["_law_script", "_law_k"] (defScope s_law_cell) := ⟨rfl, rfl, rfl, by decide +kernel, rfl, by decide +kernel, by decide +kernel⟩
theorem has_law_cell (T : Txt K mg ca aM) (D0 : DefAt K mg "_law_cell" s_law_cell)  : Has P w K mg base ⟨K, w, ca⟩ 1 "_law_cell" 2 f_law_cell := by
  refine has_of (N := n_law_cell) (ps := ["_law_script", "_law_k"]) (k := 0) D0 sc_law_cell rfl (by decide) (fun _ _ _ _ _ _ us hl => match us, hl with | [_, _], _ => rfl) fun f cdv A outer s0 H E hr tk hp => ?_
  unfold b_law_cell
  exact (dss_cons (ds_wp [0, 1] (ds_if (dt_tru rfl (dx_var 0))
  (dss_one (ds_ret (dx_ix rfl (dx_var 0) (dx_mod (dx_var 1) (dx_len rfl T.z_len (dx_var 0))) (fun _ _ => rfl))))
  dss_nil))
  (dss_one (ds_ret dx_int)))

abbrev s_law_mix : Stmt := topS 17
abbrev n_law_mix : List Str := ["_law_script", "_law_k", "_law_number"]
theorem sc_law_mix : FnScope n_law_mix ["_law_script", "_law_k"] (defScope s_law_mix) := ⟨rfl, rfl, rfl, by decide +kernel, rfl, by decide +kernel, by decide +kernel⟩
theorem has_law_mix (T : Txt K mg ca aM) (D0 : DefAt K mg "_law_mix" s_law_mix) (h_law_cell : Has P w K mg base ⟨K, w, ca⟩ 1 "_law_cell" 2 f_law_cell) : Has P w K mg base ⟨K, w, ca⟩ 2 "_law_mix" 2 f_law_mix := by
  refine has_of (N := n_law_mix) (ps := ["_law_script", "_law_k"]) (k := 1) D0 sc_law_mix rfl (by decide) (fun _ _ _ _ _ _ us hl => match us, hl with | [_, _], _ => rfl) fun f cdv A outer s0 H E hr tk hp => ?_
  unfold b_law_mix
  exact (dss_cons (ds_wp [0, 1] (ds_set (i := 2) sc_law_mix.nd rfl (by first | exact .inl rfl | exact .inr rfl) (dx_mod (dx_add (dx_fn h_law_cell (hr.mono (by decide)) tk (da_cons (dx_var 0) (da_cons (dx_var 1) da_nil))) (dx_mul dx_int (dx_add (dx_var 1) dx_int))) dx_int)))
  (dss_cons (ds_set (i := 2) sc_law_mix.nd rfl (by first | exact .inl rfl | exact .inr rfl) (dx_mod (dx_mul (dx_var 2) dx_int) dx_int))
  (dss_one (ds_ret (dx_mod (dx_add (dx_mul (dx_div (dx_var 2) dx_int) dx_int) (dx_var 2)) dx_int)))))

abbrev s_law_web : Stmt := topS 18
abbrev n_law_web : List Str := ["_law_script", "_law_k", "_law_most", "_law_many", "_law_way", "_law_lines", "_law_one", "_law_other", "_law_number", "_law_road"]
theorem sc_law_web : FnScope n_law_web ["_law_script", "_law_k", "_law_most"] (defScope s_law_web) := ⟨rfl, rfl, rfl, by decide +kernel, rfl, by decide +kernel, by decide +kernel⟩
theorem has_law_web (T : Txt K mg ca aM) (D0 : DefAt K mg "_law_web" s_law_web) (h_law_mix : Has P w K mg base ⟨K, w, ca⟩ 2 "_law_mix" 2 f_law_mix) : Has P w K mg base ⟨K, w, ca⟩ 3 "_law_web" 3 f_law_web := by
  refine has_of (N := n_law_web) (ps := ["_law_script", "_law_k", "_law_most"]) (k := 2) D0 sc_law_web rfl (by decide) (fun _ _ _ _ _ _ us hl => match us, hl with | [_, _, _], _ => rfl) fun f cdv A outer s0 H E hr tk hp => ?_
  unfold b_law_web
  exact (dss_cons (ds_wp [2] (ds_set (i := 3) sc_law_web.nd rfl (by first | exact .inl rfl | exact .inr rfl) (dx_mod (dx_fn h_law_mix (hr.mono (by decide)) tk (da_cons (dx_var 0) (da_cons (dx_var 1) da_nil))) (dx_add (dx_var 2) dx_int))))
  (dss_cons (ds_set (i := 4) sc_law_web.nd rfl (by first | exact .inl rfl | exact .inr rfl) (dx_mod (dx_fn h_law_mix (hr.mono (by decide)) tk (da_cons (dx_var 0) (da_cons (dx_add (dx_var 1) dx_int) da_nil))) dx_int))
  (dss_cons (ds_own (i := 5) sc_law_web.nd rfl (by first | exact .inl rfl | exact .inr rfl) da_nil)
  (dss_cons (ds_wp [0, 1, 4, 6, 7, 8, 9] (ds_for [6, 7, 8, 9] hp rfl (di_rng1 (by rfl) T.z_range (da_cons (dx_var 3) da_nil)) (dg_nm 6 sc_law_web.nd rfl (by first | exact .inl rfl | exact .inr rfl))
  (dss_one (ds_wp [6, 7, 8, 9] (ds_for [7, 8, 9] hp rfl (di_rng2 (by rfl) T.z_range (da_cons (dx_add (dx_var 6) dx_int) (da_cons (dx_var 3) da_nil))) (dg_nm 7 sc_law_web.nd rfl (by first | exact .inl rfl | exact .inr rfl))
  (dss_cons (ds_set (i := 8) sc_law_web.nd rfl (by first | exact .inl rfl | exact .inr rfl) (dx_div (dx_fn h_law_mix (hr.mono (by decide)) tk (da_cons (dx_var 0) (da_cons (dx_add (dx_add (dx_add (dx_var 1) dx_int) (dx_mul dx_int (dx_var 6))) (dx_var 7)) da_nil))) dx_int))
  (dss_cons (ds_set (i := 9) sc_law_web.nd rfl (by first | exact .inl rfl | exact .inr rfl) (dx_or rfl (dx_and rfl (dx_eq hr (dx_var 4) dx_int) (dx_one (dx_eq hr (dx_var 7) (dx_add (dx_var 6) dx_int)))) (dx_one (dx_and rfl (dx_eq hr (dx_var 4) dx_int) (dx_one (dx_eq hr (dx_var 6) (dx_mod (dx_var 8) (dx_var 7))))))))
  (dss_one (ds_wp [7, 8, 9] (ds_if (dt_bool (dw_or (dt_tru rfl (dx_var 9)) (dw_or1 (dt_bool (dw_and (dt_gt hr (dx_var 4) dx_int) (dw_and1 (dt_lt hr (dx_mod (dx_var 8) dx_int) (dx_var 4))))))))
  (dss_one (ds_wp [7] (ds_app 5 rfl (by first | exact Or.inl rfl | exact Or.inr (Or.inl rfl) | exact Or.inr (Or.inr rfl)) (dx_tup (da_cons (dx_var 6) (da_cons (dx_var 7) da_nil))))))
  dss_nil))))))))))
  (dss_one (ds_fz 5 (ds_ret (dx_tup (da_cons (dx_var 3) (da_cons (dx_var 5) da_nil))))))))))

abbrev s_law_refusal : Stmt := topS 19
abbrev n_law_refusal : List Str := ["_law_kept", "_law_kinds"]
theorem sc_law_refusal : FnScope n_law_refusal ["_law_kept"] (defScope s_law_refusal) := ⟨rfl, rfl, rfl, by decide +kernel, rfl, by decide +kernel, by decide +kernel⟩
theorem has_law_refusal (T : Txt K mg ca aM) (D0 : DefAt K mg "_law_refusal" s_law_refusal)  : Has P w K mg base ⟨K, w, ca⟩ 1 "_law_refusal" 1 f_law_refusal := by
  refine has_of (N := n_law_refusal) (ps := ["_law_kept"]) (k := 0) D0 sc_law_refusal rfl (by decide) (fun _ _ _ _ _ _ us hl => match us, hl with | [_], _ => rfl) fun f cdv A outer s0 H E hr tk hp => ?_
  unfold b_law_refusal
  exact (dss_cons (ds_if (dt_is (dx_var 0))
  (dss_one (ds_ret dx_str))
  dss_nil)
  (dss_cons (ds_set (i := 1) sc_law_refusal.nd rfl (by first | exact .inl rfl | exact .inr rfl) (dx_lst (da_cons (dx_isE (ca := ca) .set rfl T.exc (dx_var 0) (by rfl) T.z_isinstance (by rfl) (T.mgE .set)) (da_cons (dx_isE (ca := ca) .steps rfl T.exc (dx_var 0) (by rfl) T.z_isinstance (by rfl) (T.mgE .steps)) (da_cons (dx_isE (ca := ca) .text rfl T.exc (dx_var 0) (by rfl) T.z_isinstance (by rfl) (T.mgE .text)) da_nil)))))
  (dss_cons (ds_set (i := 1) sc_law_refusal.nd rfl (by first | exact .inl rfl | exact .inr rfl) (dx_add (dx_var 1) (dx_lst (da_cons (dx_isE (ca := ca) .tree rfl T.exc (dx_var 0) (by rfl) T.z_isinstance (by rfl) (T.mgE .tree)) (da_cons (dx_isE (ca := ca) .web rfl T.exc (dx_var 0) (by rfl) T.z_isinstance (by rfl) (T.mgE .web)) da_nil)))))
  (dss_cons (ds_wp [0] (ds_if (dt_bool (dw_or (dt_ne hr (dx_lcount (dx_var 1) dx_bl) dx_int) (dw_or1 (dt_not (dt_tru rfl (dx_isV rfl T.exc (dx_var 0) (by rfl) T.z_isinstance (by rfl) T.z_ValueError))))))
  (dss_one (ds_ret dx_str))
  dss_nil))
  (dss_one (ds_ret (dx_ix rfl (dx_lst (da_cons dx_str (da_cons dx_str (da_cons dx_str (da_cons dx_str (da_cons dx_str da_nil)))))) (dx_lindex (dx_var 1) dx_bl) (fun _ _ => rfl))))))))

abbrev s_law_text : Stmt := topS 20
abbrev n_law_text : List Str := ["_law_web_here", "_law_rows", "_law_spot", "_law_ends", "_law_one", "_law_other"]
theorem sc_law_text : FnScope n_law_text ["_law_web_here"] (defScope s_law_text) := ⟨rfl, rfl, rfl, by decide +kernel, rfl, by decide +kernel, by decide +kernel⟩
theorem has_law_text (T : Txt K mg ca aM) (D0 : DefAt K mg "_law_text" s_law_text)  : Has P w K mg base ⟨K, w, ca⟩ 1 "_law_text" 1 f_law_text_k30 := by
  refine has_of (N := n_law_text) (ps := ["_law_web_here"]) (k := 0) D0 sc_law_text rfl (by decide) (fun _ _ _ _ _ _ us hl => match us, hl with | [_], _ => rfl) fun f cdv A outer s0 H E hr tk hp => ?_
  unfold b_law_text_k30
  exact (dss_cons (ds_own (i := 1) sc_law_text.nd rfl (by first | exact .inl rfl | exact .inr rfl) (da_cons (dx_add dx_str (dx_strI T.z_str (dx_ix rfl (dx_var 0) dx_int (fun _ _ => rfl)))) da_nil))
  (dss_cons (ds_wp [0, 2, 3] (ds_for [2, 3] hp rfl (di_rng1 (by rfl) T.z_range (da_cons (dx_ix rfl (dx_var 0) dx_int (fun _ _ => rfl)) da_nil)) (dg_nm 2 sc_law_text.nd rfl (by first | exact .inl rfl | exact .inr rfl))
  (dss_cons (ds_setLc (i := 3) (own := [("_law_one", 4), ("_law_other", 5)]) (t := (.pr 4 5)) rfl rfl sc_law_text.nd rfl rfl (sw_true rfl rfl rfl (by decide +kernel)) (di_seq (dx_ix rfl (dx_var 0) dx_int (fun _ _ => rfl))) (blkOk_by (N := n_law_text) (sc := defScope s_law_text) (by decide +kernel)) (fun _ _ _ _ _ => (dg_pr 4 5 rfl sc_law_text.nd rfl (by first | exact .inl rfl | exact .inr rfl) rfl (by first | exact .inl rfl | exact .inr rfl))) (fun _ _ _ _ _ => (dts_one (dt_eq hr (dx_var 4) (dx_var 2)))) (fun _ _ _ _ _ => (dx_strI T.z_str (dx_var 5))))
  (dss_one (ds_wp [2, 3] (ds_if (dt_ne hr (dx_var 3) (dx_lst da_nil))
  (dss_one (ds_wp [2, 3] (ds_app 1 rfl (by first | exact Or.inl rfl | exact Or.inr (Or.inl rfl) | exact Or.inr (Or.inr rfl)) (dx_add (dx_add (dx_strI T.z_str (dx_var 2)) dx_str) (dx_join dx_str (dx_var 3))))))
  dss_nil))))))
  (dss_one (ds_fz 1 (ds_ret (dx_join dx_str (dx_var 1)))))))

abbrev s_law_numbers : Stmt := topS 21
abbrev n_law_numbers : List Str := ["_law_words", "_law_found", "_law_word", "_law_one"]
theorem sc_law_numbers : FnScope n_law_numbers ["_law_words"] (defScope s_law_numbers) := ⟨rfl, rfl, rfl, by decide +kernel, rfl, by decide +kernel, by decide +kernel⟩
theorem has_law_numbers (T : Txt K mg ca aM) (D0 : DefAt K mg "_law_numbers" s_law_numbers)  : Has P w K mg base ⟨K, w, ca⟩ 1 "_law_numbers" 1 f_law_numbers_k30 := by
  refine has_of (N := n_law_numbers) (ps := ["_law_words"]) (k := 0) D0 sc_law_numbers rfl (by decide) (fun _ _ _ _ _ _ us hl => match us, hl with | [_], _ => rfl) fun f cdv A outer s0 H E hr tk hp => ?_
  unfold b_law_numbers_k30
  exact (dss_cons (ds_own (i := 1) sc_law_numbers.nd rfl (by first | exact .inl rfl | exact .inr rfl) da_nil)
  (dss_cons (ds_wp [0, 2] (ds_for [2] hp rfl (di_seq (dx_var 0)) (dg_nm 2 sc_law_numbers.nd rfl (by first | exact .inl rfl | exact .inr rfl))
  (dss_cons (ds_if (dt_bool (dw_or (dt_eq hr (dx_var 2) dx_str) (dw_or (dt_gt hr (dx_len rfl T.z_len (dx_var 2)) dx_int) (dw_or (dt_not (dt_tru rfl (dx_all rfl T.z_all (dx_lc (own := [("_law_one", 3)]) (t := (.nm 3)) rfl rfl sc_law_numbers.nd (di_seq (dx_var 2)) (blkOk_by (N := n_law_numbers) (sc := defScope s_law_numbers) (by decide +kernel)) (fun _ _ _ _ _ => (dg_nm 3 sc_law_numbers.nd rfl (by first | exact .inl rfl | exact .inr rfl))) (fun _ _ _ _ _ => dts_nil) (fun _ _ _ _ _ => (dx_in hr (dx_var 3) dx_str)))))) (dw_or1 (dt_ne hr (dx_strI T.z_str (dx_intS T.z_int (dx_var 2))) (dx_var 2)))))))
  (dss_one (ds_ret dx_non))
  dss_nil)
  (dss_one (ds_wp [2] (ds_app 1 rfl (by first | exact Or.inl rfl | exact Or.inr (Or.inl rfl) | exact Or.inr (Or.inr rfl)) (dx_intS T.z_int (dx_var 2))))))))
  (dss_one (ds_fz 1 (ds_ret (dx_var 1))))))

abbrev s_law_tried : Stmt := topS 22
abbrev n_law_tried : List Str := ["_law_text_here", "_law_rows", "_law_many", "_law_lines", "_law_row", "_law_parts", "_law_found", "_law_kept", "e", "_law_word"]
theorem sc_law_tried : FnScope n_law_tried ["_law_text_here"] (defScope s_law_tried) := ⟨rfl, rfl, rfl, by decide +kernel, rfl, by decide +kernel, by decide +kernel⟩
theorem has_law_tried (T : Txt K mg ca aM) (D0 : DefAt K mg "_law_tried" s_law_tried) (h_law_numbers : Has P w K mg base ⟨K, w, ca⟩ 1 "_law_numbers" 1 f_law_numbers_k30) (h_law_text : Has P w K mg base ⟨K, w, ca⟩ 1 "_law_text" 1 f_law_text_k30) (h_look_web : Has P w K mg base ⟨K, w, ca⟩ 1 "look_web" 1 f_look_web) : Has P w K mg base ⟨K, w, ca⟩ 2 "_law_tried" 1 f_law_tried_k30 := by
  refine has_of (N := n_law_tried) (ps := ["_law_text_here"]) (k := 1) D0 sc_law_tried rfl (by decide) (fun _ _ _ _ _ _ us hl => match us, hl with | [_], _ => rfl) fun f cdv A outer s0 H E hr tk hp => ?_
  unfold b_law_tried_k30
  exact (dss_cons (ds_set (i := 1) sc_law_tried.nd rfl (by first | exact .inl rfl | exact .inr rfl) (dx_split (dx_var 0) dx_str))
  (dss_cons (ds_set (i := 2) sc_law_tried.nd rfl (by first | exact .inl rfl | exact .inr rfl) (dx_fn h_law_numbers (hr.mono (by decide)) tk (da_cons (dx_lst (da_cons (dx_sl (dx_ix rfl (dx_var 1) dx_int (fun _ _ => rfl)) (do_some dx_int) do_none) da_nil)) da_nil)))
  (dss_cons (ds_if (dt_bool (dw_or (dt_ne hr (dx_sl (dx_ix rfl (dx_var 1) dx_int (fun _ _ => rfl)) do_none (do_some dx_int)) dx_str) (dw_or1 (dt_is (dx_var 2)))))
  (dss_one (ds_ret dx_non))
  dss_nil)
  (dss_cons (ds_set (i := 3) sc_law_tried.nd rfl (by first | exact .inl rfl | exact .inr rfl) (dx_lst da_nil))
  (dss_cons (ds_wp [1, 4, 5] (ds_for [4, 5] hp rfl (di_seq (dx_sl (dx_var 1) (do_some dx_int) do_none)) (dg_nm 4 sc_law_tried.nd rfl (by first | exact .inl rfl | exact .inr rfl))
  (dss_cons (ds_wp [4] (ds_set (i := 5) sc_law_tried.nd rfl (by first | exact .inl rfl | exact .inr rfl) (dx_split (dx_var 4) dx_str)))
  (dss_cons (ds_if (dt_bool (dw_or (dt_ne hr (dx_len rfl T.z_len (dx_var 5)) dx_int) (dw_or (dt_is (dx_fn h_law_numbers (hr.mono (by decide)) tk (da_cons (dx_sl (dx_var 5) do_none (do_some dx_int)) da_nil))) (dw_or1 (dt_is (dx_fn h_law_numbers (hr.mono (by decide)) tk (da_cons (dx_split (dx_ix rfl (dx_var 5) dx_int (fun _ _ => rfl)) dx_str) da_nil)))))))
  (dss_one (ds_ret dx_non))
  dss_nil)
  (dss_one (ds_wp [5] (ds_set (i := 3) sc_law_tried.nd rfl (by first | exact .inl rfl | exact .inr rfl) (dx_add (dx_var 3) (dx_lc (own := [("_law_word", 9)]) (t := (.nm 9)) rfl rfl sc_law_tried.nd (di_seq (dx_split (dx_ix rfl (dx_var 5) dx_int (fun _ _ => rfl)) dx_str)) (blkOk_by (N := n_law_tried) (sc := defScope s_law_tried) (by decide +kernel)) (fun _ _ _ _ _ => (dg_nm 9 sc_law_tried.nd rfl (by first | exact .inl rfl | exact .inr rfl))) (fun _ _ _ _ _ => dts_nil) (fun _ _ _ _ _ => (dx_tup (da_cons (dx_intS T.z_int (dx_ix rfl (dx_var 5) dx_int (fun _ _ => rfl))) (da_cons (dx_intS T.z_int (dx_var 9)) da_nil)))))))))))))
  (dss_cons (ds_wp [2, 3] (ds_set (i := 6) sc_law_tried.nd rfl (by first | exact .inl rfl | exact .inr rfl) (dx_tup (da_cons (dx_ix rfl (dx_var 2) dx_int (fun _ _ => rfl)) (da_cons (dx_var 3) da_nil)))))
  (dss_cons (ds_set (i := 7) sc_law_tried.nd rfl (by first | exact .inl rfl | exact .inr rfl) dx_non)
  (dss_cons (ds_wp [8] (ds_try (i := 8) (k := 7) (cat := (fun c => decide (c = .web))) (by decide) (fun e he => T.catOne e .web (of_decide_eq_true he)) rfl rfl rfl sc_law_tried.nd rfl rfl rfl rfl ⟨by rfl, by decide, .inl (T.mgE .web)⟩ (fun V pn xe tkB hpB => (dss_one (ds_exp (dx_fn h_look_web (hr.mono (by decide)) tkB (da_cons (dx_var 6) da_nil)))))))
  (dss_one (ds_ret (dx_if (dt_bool (dw_and (dt_is (dx_var 7)) (dw_and1 (dt_eq hr (dx_fn h_law_text (hr.mono (by decide)) tk (da_cons (dx_var 6) da_nil)) (dx_var 0))))) (dx_var 6) dx_non)))))))))))

abbrev s_law_main : Stmt := topS 23
abbrev n_law_main : List Str := ["_law_script", "_law_web_here", "_law_text_here", "_law_k", "_law_number", "_law_at", "_law_one", "_law_some", "_law_rows", "_law_kept", "_law_found", "e", "_law_due"]
theorem sc_law_main : FnScope n_law_main ["_law_script"] (defScope s_law_main) := ⟨rfl, rfl, rfl, by decide +kernel, rfl, by decide +kernel, by decide +kernel⟩
theorem ok_law_main (T : Txt K mg ca aM) {f : Addr} {fd : FuncData} (F : Fun K "law" "law" s_law_main f fd) (h_law_mix : Has P w K mg base ⟨K, w, ca⟩ 2 "_law_mix" 2 f_law_mix) (h_law_refusal : Has P w K mg base ⟨K, w, ca⟩ 1 "_law_refusal" 1 f_law_refusal) (h_law_text : Has P w K mg base ⟨K, w, ca⟩ 1 "_law_text" 1 f_law_text_k30) (h_law_tried : Has P w K mg base ⟨K, w, ca⟩ 2 "_law_tried" 1 f_law_tried_k30) (h_law_web : Has P w K mg base ⟨K, w, ca⟩ 3 "_law_web" 3 f_law_web) (h_read : Has P w K mg base ⟨K, w, ca⟩ 2 "read" 1 f_read) (h_written : Has P w K mg base ⟨K, w, ca⟩ 2 "written" 1 f_written) : FnOk P w K mg base (L2.CX P w) 4 f fd ["_law_script"] (spD ⟨K, w, ca⟩ 1 f_law_main_k30) := by
  refine ok_of (N := n_law_main) (ps := ["_law_script"]) (k := 3) F sc_law_main rfl (by decide) fun f cdv A outer s0 H E hr tk hp => ?_
  unfold b_law_main_k30
  exact (dss_cons (ds_set (i := 1) sc_law_main.nd rfl (by first | exact .inl rfl | exact .inr rfl) (dx_fn h_law_web (hr.mono (by decide)) tk (da_cons (dx_var 0) (da_cons dx_int (da_cons dx_int da_nil)))))
  (dss_cons (ds_set (i := 2) sc_law_main.nd rfl (by first | exact .inl rfl | exact .inr rfl) (dx_fn h_law_text (hr.mono (by decide)) tk (da_cons (dx_var 1) da_nil)))
  (dss_cons (ds_wp [1] (ds_if (dt_bool (dw_or (dt_ne hr (dx_fn h_written (hr.mono (by decide)) tk (da_cons (dx_var 1) da_nil)) (dx_var 2)) (dw_or1 (dt_ne hr (dx_fn h_read (hr.mono (by decide)) tk (da_cons (dx_var 2) da_nil)) (dx_var 1)))))
  (dss_one (ds_ret dx_bl))
  dss_nil))
  (dss_cons (ds_wp [3, 4, 5, 6, 7] (ds_for [3, 4, 5, 6, 7] hp rfl (di_rng1 (by rfl) T.z_range (da_cons (dx_add dx_int (dx_mod (dx_fn h_law_mix (hr.mono (by decide)) tk (da_cons (dx_var 0) (da_cons dx_int da_nil))) dx_int)) da_nil)) (dg_nm 3 sc_law_main.nd rfl (by first | exact .inl rfl | exact .inr rfl))
  (dss_cons (ds_wp [3] (ds_set (i := 4) sc_law_main.nd rfl (by first | exact .inl rfl | exact .inr rfl) (dx_fn h_law_mix (hr.mono (by decide)) tk (da_cons (dx_var 0) (da_cons (dx_add dx_int (dx_var 3)) da_nil)))))
  (dss_cons (ds_set (i := 5) sc_law_main.nd rfl (by first | exact .inl rfl | exact .inr rfl) (dx_mod (dx_div (dx_var 4) dx_int) (dx_add (dx_len rfl T.z_len (dx_var 2)) dx_int)))
  (dss_cons (ds_set (i := 6) sc_law_main.nd rfl (by first | exact .inl rfl | exact .inr rfl) (dx_ix rfl dx_str (dx_mod (dx_div (dx_var 4) dx_int) dx_int) (fun _ _ => rfl)))
  (dss_cons (ds_wp [2, 5, 6] (ds_set (i := 7) sc_law_main.nd rfl (by first | exact .inl rfl | exact .inr rfl) (dx_lst (da_cons (dx_add (dx_add (dx_sl (dx_var 2) do_none (do_some (dx_var 5))) (dx_var 6)) (dx_sl (dx_var 2) (do_some (dx_var 5)) do_none)) (da_cons (dx_add (dx_add (dx_sl (dx_var 2) do_none (do_some (dx_var 5))) (dx_var 6)) (dx_sl (dx_var 2) (do_some (dx_add (dx_var 5) dx_int)) do_none)) (da_cons (dx_add (dx_sl (dx_var 2) do_none (do_some (dx_var 5))) (dx_sl (dx_var 2) (do_some (dx_add (dx_var 5) dx_int)) do_none)) da_nil))))))
  (dss_one (ds_wp [4, 7] (ds_set (i := 2) sc_law_main.nd rfl (by first | exact .inl rfl | exact .inr rfl) (dx_ix rfl (dx_var 7) (dx_mod (dx_var 4) dx_int) (fun _ _ => rfl)))))))))))
  (dss_cons (ds_wp [0, 8] (ds_if (dt_bool (dw_and (dt_eq hr (dx_mod (dx_fn h_law_mix (hr.mono (by decide)) tk (da_cons (dx_var 0) (da_cons dx_int da_nil))) dx_int) dx_int) (dw_and1 (dt_gt hr (dx_scount (dx_var 2) dx_str) dx_int))))
  (dss_cons (ds_wp [2] (ds_set (i := 8) sc_law_main.nd rfl (by first | exact .inl rfl | exact .inr rfl) (dx_split (dx_var 2) dx_str)))
  (dss_one (ds_wp [8] (ds_set (i := 2) sc_law_main.nd rfl (by first | exact .inl rfl | exact .inr rfl) (dx_join dx_str (dx_add (dx_lst (da_cons (dx_ix rfl (dx_var 8) dx_int (fun _ _ => rfl)) da_nil)) (dx_revL (dx_sl (dx_var 8) (do_some dx_int) do_none))))))))
  dss_nil))
  (dss_cons (ds_set (i := 9) sc_law_main.nd rfl (by first | exact .inl rfl | exact .inr rfl) dx_non)
  (dss_cons (ds_set (i := 10) sc_law_main.nd rfl (by first | exact .inl rfl | exact .inr rfl) dx_non)
  (dss_cons (ds_wp [11] (ds_try (i := 11) (k := 9) (cat := (fun _ => true)) (by decide) (fun e _ => T.cat e) rfl rfl rfl sc_law_main.nd rfl rfl rfl rfl ⟨by rfl, by decide, .inl T.nmMark⟩ (fun V pn xe tkB hpB => (dss_one (ds_set (i := 10) sc_law_main.nd rfl (by first | exact .inl rfl | exact .inr rfl) (dx_fn h_read (hr.mono (by decide)) tkB (da_cons (dx_var 2) da_nil)))))))
  (dss_cons (ds_wp [2] (ds_set (i := 12) sc_law_main.nd rfl (by first | exact .inl rfl | exact .inr rfl) (dx_fn h_law_tried (hr.mono (by decide)) tk (da_cons (dx_var 2) da_nil))))
  (dss_cons (ds_wp [10, 12] (ds_if (dt_isnot (dx_var 12))
  (dss_one (ds_ret (dx_and rfl (dx_is (dx_var 9)) (dx_one (dx_eq hr (dx_var 10) (dx_var 12))))))
  dss_nil))
  (dss_cons (ds_wp [9] (ds_if (dt_ne hr (dx_fn h_law_refusal (hr.mono (by decide)) tk (da_cons (dx_var 9) da_nil)) dx_str)
  (dss_one (ds_ret dx_bl))
  dss_nil))
  (dss_cons (ds_set (i := 9) sc_law_main.nd rfl (by first | exact .inl rfl | exact .inr rfl) dx_non)
  (dss_cons (ds_wp [11] (ds_try (i := 11) (k := 9) (cat := (fun _ => true)) (by decide) (fun e _ => T.cat e) rfl rfl rfl sc_law_main.nd rfl rfl rfl rfl ⟨by rfl, by decide, .inl T.nmMark⟩ (fun V pn xe tkB hpB => (dss_one (ds_exp (dx_fn h_written (hr.mono (by decide)) tkB (da_cons (dx_tup (da_cons dx_int (da_cons (dx_lst da_nil) da_nil))) da_nil)))))))
  (dss_one (ds_ret (dx_eq hr (dx_fn h_law_refusal (hr.mono (by decide)) tk (da_cons (dx_var 9) da_nil)) dx_str))))))))))))))))

end
end FM
set_option Elab.async false
set_option linter.all false
set_option maxRecDepth 100000
set_option maxHeartbeats 8000000
abbrev FM.fragOf {K : PySem.W.Frag} {h : PySem.Heap} (_ : K.In h) : PySem.W.Frag := K
open PySem PySem.W PyProof.Rows
set_option maxRecDepth 100000 in
set_option maxHeartbeats 0 in
theorem PySem.Challenge.cw_forcemark_k30_texts_holds : PySem.Challenge.rw_forcemark_k30_texts.Holds := by
  w_on; o_law; k_head; (case hw => w_witness2)
  k_fill
  refine FM.walkF (l := PySem.Challenge.rw_forcemark_k30_texts) (k := 4) rfl rfl ⟨rfl, by decide, by decide⟩ (fun w h Y => PySem.W.kIn_of Y) ?F
  intro w mg fa h KX G hmg
  have D_look_web : FM.DefAt (FM.fragOf KX) mg "look_web" FM.s_look_web := by
    delta FM.fragOf
    refine' FM.defAt_of KX G ?a ?l ?c ?k
    (case a => k_is)
    (case l => k_is)
    (case c => k_is)
    (case k => k_is)
  have D_written : FM.DefAt (FM.fragOf KX) mg "written" FM.s_written := by
    delta FM.fragOf
    refine' FM.defAt_of KX G ?a ?l ?c ?k
    (case a => k_is)
    (case l => k_is)
    (case c => k_is)
    (case k => k_is)
  have D_number_in : FM.DefAt (FM.fragOf KX) mg "number_in" FM.s_number_in := by
    delta FM.fragOf
    refine' FM.defAt_of KX G ?a ?l ?c ?k
    (case a => k_is)
    (case l => k_is)
    (case c => k_is)
    (case k => k_is)
  have D_read : FM.DefAt (FM.fragOf KX) mg "read" FM.s_read := by
    delta FM.fragOf
    refine' FM.defAt_of KX G ?a ?l ?c ?k
    (case a => k_is)
    (case l => k_is)
    (case c => k_is)
    (case k => k_is)
  have D_law_cell : FM.DefAt (FM.fragOf KX) mg "_law_cell" FM.s_law_cell := by
    delta FM.fragOf
    refine' FM.defAt_of KX G ?a ?l ?c ?k
    (case a => k_is)
    (case l => k_is)
    (case c => k_is)
    (case k => k_is)
  have D_law_mix : FM.DefAt (FM.fragOf KX) mg "_law_mix" FM.s_law_mix := by
    delta FM.fragOf
    refine' FM.defAt_of KX G ?a ?l ?c ?k
    (case a => k_is)
    (case l => k_is)
    (case c => k_is)
    (case k => k_is)
  have D_law_web : FM.DefAt (FM.fragOf KX) mg "_law_web" FM.s_law_web := by
    delta FM.fragOf
    refine' FM.defAt_of KX G ?a ?l ?c ?k
    (case a => k_is)
    (case l => k_is)
    (case c => k_is)
    (case k => k_is)
  have D_law_refusal : FM.DefAt (FM.fragOf KX) mg "_law_refusal" FM.s_law_refusal := by
    delta FM.fragOf
    refine' FM.defAt_of KX G ?a ?l ?c ?k
    (case a => k_is)
    (case l => k_is)
    (case c => k_is)
    (case k => k_is)
  have D_law_text : FM.DefAt (FM.fragOf KX) mg "_law_text" FM.s_law_text := by
    delta FM.fragOf
    refine' FM.defAt_of KX G ?a ?l ?c ?k
    (case a => k_is)
    (case l => k_is)
    (case c => k_is)
    (case k => k_is)
  have D_law_numbers : FM.DefAt (FM.fragOf KX) mg "_law_numbers" FM.s_law_numbers := by
    delta FM.fragOf
    refine' FM.defAt_of KX G ?a ?l ?c ?k
    (case a => k_is)
    (case l => k_is)
    (case c => k_is)
    (case k => k_is)
  have D_law_tried : FM.DefAt (FM.fragOf KX) mg "_law_tried" FM.s_law_tried := by
    delta FM.fragOf
    refine' FM.defAt_of KX G ?a ?l ?c ?k
    (case a => k_is)
    (case l => k_is)
    (case c => k_is)
    (case k => k_is)
  have D_law_main : FM.DefAt (FM.fragOf KX) mg "law" FM.s_law_main := by
    delta FM.fragOf
    refine' FM.defAt_of KX G ?a ?l ?c ?k
    (case a => k_is)
    (case l => k_is)
    (case c => k_is)
    (case k => k_is)
  have E : ∃ ca aM, FM.ExTxt (FM.fragOf KX) mg ca aM := by
    delta FM.fragOf
    refine' ⟨_, _, FM.exTxt_of KX G ?a1 ?a2 ?a3 ?a4 ?a5 ?a6 ?x ?hn ?ht ?m1 ?m2 ?m3 ?s12 ?s13 ?s14 ?s15 ?s21 ?s23 ?s24 ?s25 ?s31 ?s32 ?s34 ?s35 ?s41 ?s42 ?s43 ?s45 ?s51 ?s52 ?s53 ?s54⟩
    (case a1 => k_is)
    (case a2 => k_is)
    (case a3 => k_is)
    (case a4 => k_is)
    (case a5 => k_is)
    (case a6 => k_is)
    (case hn => k_is)
    (case ht => k_is)
    (case m1 => k_is)
    (case m2 => k_is)
    (case m3 => k_is)
    (case s12 => k_is)
    (case s13 => k_is)
    (case s14 => k_is)
    (case s15 => k_is)
    (case s21 => k_is)
    (case s23 => k_is)
    (case s24 => k_is)
    (case s25 => k_is)
    (case s31 => k_is)
    (case s32 => k_is)
    (case s34 => k_is)
    (case s35 => k_is)
    (case s41 => k_is)
    (case s42 => k_is)
    (case s43 => k_is)
    (case s45 => k_is)
    (case s51 => k_is)
    (case s52 => k_is)
    (case s53 => k_is)
    (case s54 => k_is)
    case x =>
      rintro C (rfl | rfl | rfl | rfl | rfl)
      all_goals refine' ⟨_, _, _, _, _, ⟨_, _, _, _, _⟩, _, _, _⟩
      all_goals first | k_is | k_exc | rfl
  obtain ⟨ca, aM, E⟩ := E
  have T : FM.Txt (FM.fragOf KX) mg ca aM := { toExTxt := E, z_ValueError := PySem.W.mg_none_of KX G (by k_is), z_all := PySem.W.mg_none_of KX G (by k_is), z_int := PySem.W.mg_none_of KX G (by k_is), z_isinstance := PySem.W.mg_none_of KX G (by k_is), z_len := PySem.W.mg_none_of KX G (by k_is), z_range := PySem.W.mg_none_of KX G (by k_is), z_str := PySem.W.mg_none_of KX G (by k_is), MOST_SPOTS := ⟨_, PySem.W.mg_of KX G (by k_is)⟩, FIGURES := ⟨_, PySem.W.mg_of KX G (by k_is)⟩ }
  obtain ⟨f, fd, FL, hm⟩ := D_law_main
  have e := hmg.symm.trans hm
  cases e
  refine ⟨fd, FM.law_binds FL (fun _ _ _ _ _ _ _ => rfl), fun base _ _ => ?_⟩
  have h_look_web := FM.has_look_web (P := PySem.Challenge.rw_forcemark_k30_texts.prog) (w := w) (base := base) T D_look_web 
  have h_written := FM.has_written (P := PySem.Challenge.rw_forcemark_k30_texts.prog) (w := w) (base := base) T D_written h_look_web
  have h_number_in := FM.has_number_in (P := PySem.Challenge.rw_forcemark_k30_texts.prog) (w := w) (base := base) T D_number_in 
  have h_read := FM.has_read (P := PySem.Challenge.rw_forcemark_k30_texts.prog) (w := w) (base := base) T D_read h_look_web h_number_in
  have h_law_cell := FM.has_law_cell (P := PySem.Challenge.rw_forcemark_k30_texts.prog) (w := w) (base := base) T D_law_cell 
  have h_law_mix := FM.has_law_mix (P := PySem.Challenge.rw_forcemark_k30_texts.prog) (w := w) (base := base) T D_law_mix h_law_cell
  have h_law_web := FM.has_law_web (P := PySem.Challenge.rw_forcemark_k30_texts.prog) (w := w) (base := base) T D_law_web h_law_mix
  have h_law_refusal := FM.has_law_refusal (P := PySem.Challenge.rw_forcemark_k30_texts.prog) (w := w) (base := base) T D_law_refusal 
  have h_law_text := FM.has_law_text (P := PySem.Challenge.rw_forcemark_k30_texts.prog) (w := w) (base := base) T D_law_text 
  have h_law_numbers := FM.has_law_numbers (P := PySem.Challenge.rw_forcemark_k30_texts.prog) (w := w) (base := base) T D_law_numbers 
  have h_law_tried := FM.has_law_tried (P := PySem.Challenge.rw_forcemark_k30_texts.prog) (w := w) (base := base) T D_law_tried h_law_numbers h_law_text h_look_web
  exact FM.law_fn (FM.ok_law_main T FL h_law_mix h_law_refusal h_law_text h_law_tried h_law_web h_read h_written) FM.law_k30
