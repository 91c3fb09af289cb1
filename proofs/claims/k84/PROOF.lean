import PyProof.Rows.All
import Wide.All
import OpenK.AllK
import Wide.FinOn
import HandS.ForMost
import HandS.TupAny
import HandS.DictComp
import HandS.SetKeys
import HandS.Strs
import HandS.Conv
import HandS.Flow
import HandS.Style
import HandS.Zip
import HandS.SortKw
import HandS.RaiseMore
import PyProof.ReprRoads
import PyProof.ReprBulk
import HandS.SortInts
import KE.SortKeyHeap
import KE.KDictSum
import HandS.TupLen
import HandS.More
import HandS.SetFor
import KE.GoesMore
import KE.GoesZip
import KE.GoesEnum
import KE.GoesEnumKw
import PySem.Challenge.RW_bitloom_k84_whole_clauses_of_graphs
set_option Elab.async false
set_option linter.all false
set_option maxRecDepth 100000
set_option maxHeartbeats 4000000
/-! Vl1: values by data. D: plain data; Fz: a value that is data in the frozen part G of the heap; Own: a value whose spine is owned; Rel, Step, VE. -/
namespace Bl
open PySem PySem.Spec PyProof.Rows L2

inductive D where
  | non | bl (b : Bool) | int (i : Int) | str (x : Str)
  | tup (xs : List D) | lst (xs : List D)
  | dic (kvs : List (Key × D)) | dit (kvs : List (List Key × D))
  | src (c : List Int) (l m t : Int)
  | scr (ns : List Int)
  | dead
abbrev Rho := List D

mutual
inductive Fz (K : PySem.W.Frag) (G : Hp) : V → D → Prop
  | non : Fz K G .non .non
  | bl (b : Bool) : Fz K G (.bl b) (.bl b)
  | int (i : Int) : Fz K G (.int i) (.int i)
  | str (x : Str) : Fz K G (.str x) (.str x)
  | tup {a : Addr} {vs : List V} {ds : List D} : G a = some (.tup vs) → FzA K G vs ds → Fz K G (.ref a) (.tup ds)
  | lst {a : Addr} {vs : List V} {ds : List D} : G a = some (.lst vs) → FzA K G vs ds → Fz K G (.ref a) (.lst ds)
  | dic {a : Addr} {kvs : List (Key × V)} {ds : List (Key × D)} : Rd G a (.dK kvs) → kvs.map (·.1) = ds.map (·.1) → FzA K G (kvs.map (·.2)) (ds.map (·.2)) → Fz K G (.ref a) (.dic ds)
  | dit {a : Addr} {kvs : List (List Key × V)} {ds : List (List Key × D)} : Rd G a (.dT kvs) → kvs.map (·.1) = ds.map (·.1) → FzA K G (kvs.map (·.2)) (ds.map (·.2)) → Fz K G (.ref a) (.dit ds)
  | src {v : V} {c : List Int} {l m t : Int} : Fz K G v (.src c l m t)
  | scr {a : Addr} {ns : List Int} : SqL K G a (ns.map V.int) → Fz K G (.ref a) (.scr ns)
inductive FzA (K : PySem.W.Frag) (G : Hp) : List V → List D → Prop
  | nil : FzA K G [] []
  | cons {v : V} {vs : List V} {d : D} {ds : List D} : Fz K G v d → FzA K G vs ds → FzA K G (v :: vs) (d :: ds)
end

theorem rd_mono {G G' : Hp} (s : Same G G') {a : Addr} {u : HO} : Rd G a u → Rd G' a u
  | .inl h => .inl (s _ _ h)
  | .inr ⟨o, h⟩ => .inr ⟨o, s _ _ h⟩
theorem sqT_mono {K : PySem.W.Frag} {G G' : Hp} (s : Same G G') {a : Addr} {xs : List V} : SqT K G a xs → SqT K G' a xs
  | .inl h => .inl (rd_mono s h)
  | .inr h => .inr h
mutual
theorem Fz.mono {K : PySem.W.Frag} {G G' : Hp} (s : Same G G') : ∀ {v : V} {d : D}, Fz K G v d → Fz K G' v d
  | _, _, .non => .non
  | _, _, .bl b => .bl b
  | _, _, .int i => .int i
  | _, _, .str x => .str x
  | _, _, .tup q r => .tup (s _ _ q) (FzA.mono s r)
  | _, _, .lst q r => .lst (s _ _ q) (FzA.mono s r)
  | _, _, .scr q => .scr (s.seq q)
  | _, _, .dic q e r => .dic (rd_mono s q) e (FzA.mono s r)
  | _, _, .dit q e r => .dit (rd_mono s q) e (FzA.mono s r)
  | _, _, .src => .src
theorem FzA.mono {K : PySem.W.Frag} {G G' : Hp} (s : Same G G') : ∀ {vs : List V} {ds : List D}, FzA K G vs ds → FzA K G' vs ds
  | _, _, .nil => .nil
  | _, _, .cons h t => .cons (Fz.mono s h) (FzA.mono s t)
end
theorem FzA.length {K : PySem.W.Frag} {G : Hp} : ∀ {vs : List V} {ds : List D}, FzA K G vs ds → vs.length = ds.length
  | _, _, .nil => rfl
  | _, _, .cons _ t => by simp [FzA.length t]
theorem FzA.get {K : PySem.W.Frag} {G : Hp} : ∀ {vs : List V} {ds : List D} {i : Nat} {d : D}, FzA K G vs ds → ds[i]? = some d → ∃ v, vs[i]? = some v ∧ Fz K G v d
  | _, _, _, _, .nil, h => by simp at h
  | _, _, 0, _, .cons h _, e => by
    simp at e
    subst e
    exact ⟨_, rfl, h⟩
  | _, _, i + 1, _, .cons _ t, e => by
    obtain ⟨v, h1, h2⟩ := FzA.get (i := i) t (by simpa using e)
    exact ⟨v, by simpa using h1, h2⟩
theorem FzA.append {K : PySem.W.Frag} {G : Hp} : ∀ {vs ws : List V} {ds es : List D}, FzA K G vs ds → FzA K G ws es → FzA K G (vs ++ ws) (ds ++ es)
  | _, _, _, _, .nil, h => h
  | _, _, _, _, .cons h t, r => .cons h (FzA.append t r)
theorem FzA.take {K : PySem.W.Frag} {G : Hp} : ∀ {vs : List V} {ds : List D} (n : Nat), FzA K G vs ds → FzA K G (vs.take n) (ds.take n)
  | _, _, 0, _ => by simp; exact .nil
  | _, _, _ + 1, .nil => .nil
  | _, _, n + 1, .cons h t => .cons h (FzA.take n t)
theorem FzA.drop {K : PySem.W.Frag} {G : Hp} : ∀ {vs : List V} {ds : List D} (n : Nat), FzA K G vs ds → FzA K G (vs.drop n) (ds.drop n)
  | _, _, 0, h => h
  | _, _, _ + 1, .nil => .nil
  | _, _, n + 1, .cons _ t => FzA.drop n t
theorem FzA.set {K : PySem.W.Frag} {G : Hp} {v : V} {d : D} (h : Fz K G v d) : ∀ {vs : List V} {ds : List D} (i : Nat), FzA K G vs ds → FzA K G (vs.set i v) (ds.set i d)
  | _, _, _, .nil => .nil
  | _, _, 0, .cons _ t => .cons h t
  | _, _, i + 1, .cons q t => .cons q (FzA.set h i t)
theorem FzA.reverse {K : PySem.W.Frag} {G : Hp} : ∀ {vs : List V} {ds : List D}, FzA K G vs ds → FzA K G vs.reverse ds.reverse
  | _, _, .nil => .nil
  | _, _, .cons h t => by
    rw [List.reverse_cons, List.reverse_cons]
    exact (FzA.reverse t).append (.cons h .nil)
theorem FzA.dropLast {K : PySem.W.Frag} {G : Hp} {vs : List V} {ds : List D} (h : FzA K G vs ds) : FzA K G vs.dropLast ds.dropLast := by
  rw [List.dropLast_eq_take, List.dropLast_eq_take, h.length]
  exact h.take _
theorem FzA.ints {K : PySem.W.Frag} {G : Hp} : ∀ ns : List Int, FzA K G (ns.map V.int) (ns.map D.int)
  | [] => .nil
  | n :: r => .cons (.int n) (FzA.ints r)
theorem FzA.of_ints {K : PySem.W.Frag} {G : Hp} : ∀ {ns : List Int} {vs : List V}, FzA K G vs (ns.map D.int) → vs = ns.map V.int
  | [], _, .nil => rfl
  | n :: r, _, .cons h t => by
    cases h
    rw [FzA.of_ints t]
    rfl

/-- the source's dict -/
def srcK (q : Addr) (l m t : Int) : List (Key × V) := [(.inr "cells", .ref q), (.inr "left", .int l), (.inr "mixed", .int m), (.inr "turn", .int t)]
inductive Own (K : PySem.W.Frag) (G H : Hp) : V → D → List Addr → Prop
  | lst {p : Addr} {vs : List V} {ds : List D} : H p = some (.lst vs) → G p = none → FzA K G vs ds → Own K G H (.ref p) (.lst ds) [p]
  | dic {p : Addr} {kvs : List (Key × V)} {ds : List (Key × D)} : H p = some (.dK kvs) → G p = none → kvs.map (·.1) = ds.map (·.1) → FzA K G (kvs.map (·.2)) (ds.map (·.2)) → Own K G H (.ref p) (.dic ds) [p]
  | dit {p : Addr} {kvs : List (List Key × V)} {ds : List (List Key × D)} : H p = some (.dT kvs) → G p = none → kvs.map (·.1) = ds.map (·.1) → FzA K G (kvs.map (·.2)) (ds.map (·.2)) → Own K G H (.ref p) (.dit ds) [p]
  | src {p q : Addr} {c : List Int} {l m t : Int} : H p = some (.dK (srcK q l m t)) → H q = some (.lst (c.map V.int)) → G p = none → G q = none → p ≠ q → Own K G H (.ref p) (.src c l m t) [p, q]
theorem Own.noTup {K : PySem.W.Frag} {G H : Hp} {v : V} {d : D} {fp : List Addr} (o : Own K G H v d fp) : ∀ b, b ∈ fp → ∀ xs, H b ≠ some (.tup xs) := by
  intro b hb xs
  cases o with
  | lst h1 h2 _ => simp at hb; subst hb; rw [h1]; simp
  | dic h1 h2 _ _ => simp at hb; subst hb; rw [h1]; simp
  | dit h1 h2 _ _ => simp at hb; subst hb; rw [h1]; simp
  | src h1 h2 h3 h4 _ =>
    simp at hb
    rcases hb with hb | hb
    · subst hb; rw [h1]; simp
    · subst hb; rw [h2]; simp
/-- none stands there, or a tuple does -/
def Nn (H : Hp) (b : Addr) : Prop := H b = none ∨ ∃ xs, H b = some (.tup xs)
/-- owned by the slots of M -/
def Ow (M : List Nat) (f : Nat → List Addr) (b : Addr) : Prop := ∃ i, i ∈ M ∧ b ∈ f i
structure Rel (K : PySem.W.Frag) (M : List Nat) (G H : Hp) (σ : L2.St) (ρ : Rho) (f : Nat → List Addr) : Prop where
  sub : Same G H
  len : σ.length = ρ.length
  fz : ∀ i d, ρ[i]? = some d → i ∉ M → d = .dead ∨ ∃ v, σ[i]? = some (some v) ∧ Fz K G v d
  ow : ∀ i, i ∈ M → ∃ d v, ρ[i]? = some d ∧ σ[i]? = some (some v) ∧ Own K G H v d (f i)
  dis : ∀ i, i ∈ M → ∀ j, j ∈ M → i ≠ j → ∀ b, b ∈ f i → b ∉ f j
structure Step (M : List Nat) (f : Nat → List Addr) (G H : Hp) (M' : List Nat) (f' : Nat → List Addr) (G' H' : Hp) : Prop where
  sub : Same G G'
  new : ∀ b, G' b ≠ none → G b ≠ none ∨ Nn H b ∨ Ow M f b
  keep : ∀ b o, H b = some o → ¬ Ow M f b → H' b = some o
  live : ∀ b, H b ≠ none → H' b ≠ none
  own : ∀ b, Ow M' f' b → Ow M f b ∨ H b = none
theorem Step.refl {M : List Nat} {f : Nat → List Addr} {G H : Hp} : Step M f G H M f G H := ⟨Same.refl _, fun _ h => .inl h, fun _ _ h _ => h, fun _ h => h, fun _ h => .inl h⟩
theorem Step.trans {M M1 M2 : List Nat} {f f1 f2 : Nat → List Addr} {G H G1 H1 G2 H2 : Hp} (a : Step M f G H M1 f1 G1 H1) (b : Step M1 f1 G1 H1 M2 f2 G2 H2) : Step M f G H M2 f2 G2 H2 where
  sub := a.sub.trans b.sub
  new := fun x hx => by
    rcases b.new x hx with h | h | h
    · exact a.new x h
    · rcases Classical.em (Ow M f x) with w | w
      · exact .inr (.inr w)
      · refine .inr (.inl ?_)
        cases e : H x with
        | none => exact .inl e
        | some o =>
          have k := a.keep x o e w
          rcases h with h | ⟨xs, h⟩
          · exact absurd h (a.live x (by rw [e]; simp))
          · rw [h] at k
            cases k
            exact .inr ⟨xs, e⟩
    · rcases a.own x h with q | q
      · exact .inr (.inr q)
      · exact .inr (.inl (.inl q))
  keep := fun x o hx hn => by
    refine b.keep x o (a.keep x o hx hn) fun q => ?_
    rcases a.own x q with z | z
    · exact hn z
    · rw [hx] at z; cases z
  live := fun x hx => b.live x (a.live x hx)
  own := fun x hx => by
    rcases b.own x hx with h | h
    · exact a.own x h
    · refine .inr ?_
      cases e : H x with
      | none => rfl
      | some o => exact absurd h (a.live x (by rw [e]; simp))
theorem Own.here {K : PySem.W.Frag} {G H : Hp} {v : V} {d : D} {fp : List Addr} (o : Own K G H v d fp) : ∀ b, b ∈ fp → H b ≠ none ∧ G b = none := by
  intro b hb
  cases o with
  | lst h1 h2 _ => simp at hb; subst hb; exact ⟨by rw [h1]; simp, h2⟩
  | dic h1 h2 _ _ => simp at hb; subst hb; exact ⟨by rw [h1]; simp, h2⟩
  | dit h1 h2 _ _ => simp at hb; subst hb; exact ⟨by rw [h1]; simp, h2⟩
  | src h1 h2 h3 h4 _ =>
    simp at hb
    rcases hb with hb | hb
    · subst hb; exact ⟨by rw [h1]; simp, h3⟩
    · subst hb; exact ⟨by rw [h2]; simp, h4⟩
/-- the objects at fp as they were, G grown elsewhere -/
theorem Own.move {K : PySem.W.Frag} {G H G' H' : Hp} {v : V} {d : D} {fp : List Addr} (o : Own K G H v d fp) (s : Same G G') (hH : ∀ b, b ∈ fp → ∀ u, H b = some u → H' b = some u) (hG : ∀ b, b ∈ fp → G' b = none) : Own K G' H' v d fp := by
  cases o with
  | lst h1 h2 r => exact .lst (hH _ (by simp) _ h1) (hG _ (by simp)) (r.mono s)
  | dic h1 h2 e r => exact .dic (hH _ (by simp) _ h1) (hG _ (by simp)) e (r.mono s)
  | dit h1 h2 e r => exact .dit (hH _ (by simp) _ h1) (hG _ (by simp)) e (r.mono s)
  | src h1 h2 h3 h4 e => exact .src (hH _ (by simp) _ h1) (hH _ (by simp) _ h2) (hG _ (by simp)) (hG _ (by simp)) e
theorem Own.step {K : PySem.W.Frag} {M M' : List Nat} {f f' : Nat → List Addr} {G H G' H' : Hp} {v : V} {d : D} {fp : List Addr} (o : Own K G H v d fp) (S : Step M f G H M' f' G' H') (h : ∀ b, b ∈ fp → ¬ Ow M f b) : Own K G' H' v d fp := by
  refine o.move S.sub (fun b hb u e => S.keep b u e (h b hb)) fun b hb => ?_
  cases e : G' b with
  | none => rfl
  | some u =>
    rcases S.new b (by rw [e]; simp) with q | (q | ⟨xs, q⟩) | q
    · exact absurd (o.here b hb).2 q
    · exact absurd q (o.here b hb).1
    · exact absurd q (o.noTup b hb xs)
    · exact absurd q (h b hb)
/-- an owned thing is frozen -/
theorem Own.freeze {K : PySem.W.Frag} {G H : Hp} {v : V} {d : D} {fp : List Addr} (o : Own K G H v d fp) {G' : Hp} (s : Same G G') (h : ∀ b, b ∈ fp → G' b = H b) : Fz K G' v d := by
  cases o with
  | lst h1 h2 r => exact .lst ((h _ (by simp)).trans h1) (r.mono s)
  | dic h1 h2 e r => exact .dic (.inl ((h _ (by simp)).trans h1)) e (r.mono s)
  | dit h1 h2 e r => exact .dit (.inl ((h _ (by simp)).trans h1)) e (r.mono s)
  | src h1 h2 h3 h4 e => exact .src

/-- a step that owns nothing and changes nothing -/
structure Grow (G H G' H' : Hp) : Prop where
  sub : Same G G'
  sub2 : Same G' H'
  keep : Same H H'
  new : ∀ b, G' b ≠ none → G b ≠ none ∨ Nn H b
theorem Grow.refl {G H : Hp} (s : Same G H) : Grow G H G H := ⟨Same.refl _, s, Same.refl _, fun _ h => .inl h⟩
theorem same_upd {G H : Hp} {p : Addr} {o : HO} (s : Same G H) : Same (upd G p o) (upd H p o) := fun b u e => by
  by_cases h : b = p
  · subst h; rw [upd_same] at e ⊢; exact e
  · rw [upd_ne h] at e ⊢; exact s b u e
theorem same_new {H : Hp} {p : Addr} {o : HO} (h : H p = none) : Same H (upd H p o) := fun b u e => by rw [upd_ne (ne_of_none e h)]; exact e
theorem sub_none {G H : Hp} (s : Same G H) {p : Addr} (h : H p = none) : G p = none := s.free h
theorem Grow.laid {G H : Hp} (s : Same G H) {p : Addr} {o : HO} (h : H p = none) : Grow G H (upd G p o) (upd H p o) :=
  ⟨same_new (sub_none s h), same_upd s, same_new h, fun b e => by
    by_cases q : b = p
    · subst q; exact .inr (.inl h)
    · rw [upd_ne q] at e; exact .inl e⟩
theorem Grow.own {G H : Hp} (s : Same G H) {p : Addr} {o : HO} (h : H p = none) : Grow G H G (upd H p o) :=
  ⟨Same.refl _, fun b u e => by rw [upd_ne (ne_of_none (s b u e) h)]; exact s b u e, same_new h, fun _ e => .inl e⟩
theorem Grow.trans {G H G1 H1 G2 H2 : Hp} (a : Grow G H G1 H1) (b : Grow G1 H1 G2 H2) : Grow G H G2 H2 :=
  ⟨a.sub.trans b.sub, b.sub2, a.keep.trans b.keep, fun x hx => by
    rcases b.new x hx with h | h
    · exact a.new x h
    · refine .inr ?_
      cases e : H x with
      | none => exact .inl e
      | some o =>
        have k := a.keep x o e
        rcases h with h | ⟨xs, h⟩
        · rw [h] at k; cases k
        · rw [h] at k; cases k; exact .inr ⟨xs, e⟩⟩
theorem Grow.step {G H G' H' : Hp} (g : Grow G H G' H') (M : List Nat) (f : Nat → List Addr) : Step M f G H M f G' H' :=
  ⟨g.sub, fun b h => (g.new b h).elim .inl fun q => .inr (.inl q), fun b o h _ => g.keep b o h, fun b h => by
    cases e : H b with
    | none => exact absurd e h
    | some o => rw [g.keep b o e]; simp, fun _ h => .inl h⟩
section
variable {K : PySem.W.Frag} {M : List Nat} {G H G' H' : Hp} {σ : L2.St} {ρ : Rho} {f : Nat → List Addr}
theorem Rel.grow (R : Rel K M G H σ ρ f) (g : Grow G H G' H') : Rel K M G' H' σ ρ f := by
  refine ⟨g.sub2, R.len, fun i d e hi => ?_, fun i hi => ?_, R.dis⟩
  · rcases R.fz i d e hi with h | ⟨v, h1, h2⟩
    · exact .inl h
    · exact .inr ⟨v, h1, h2.mono g.sub⟩
  · obtain ⟨d, v, h1, h2, o⟩ := R.ow i hi
    refine ⟨d, v, h1, h2, o.move g.sub (fun b _ u e => g.keep b u e) fun b hb => ?_⟩
    cases e : G' b with
    | none => rfl
    | some u =>
      rcases g.new b (by rw [e]; simp) with q | q | ⟨xs, q⟩
      · exact absurd (o.here b hb).2 q
      · exact absurd q (o.here b hb).1
      · exact absurd q (o.noTup b hb xs)
end

/-- what a value is: frozen data, or an owned thing of its own -/
def Res (m : Bool) (K : PySem.W.Frag) (G' H' : Hp) (M' : List Nat) (f' : Nat → List Addr) (M : List Nat) (H : Hp) (f : Nat → List Addr) (v : V) (d : D) : Prop :=
  match m with
  | false => Fz K G' v d
  | true => ∃ fp, Own K G' H' v d fp ∧ ∀ b, b ∈ fp → ¬ Ow M' f' b ∧ (Ow M f b ∨ H b = none)
def Res0 (m : Bool) (K : PySem.W.Frag) (G' H' : Hp) (H : Hp) (v : V) (d : D) : Prop :=
  match m with
  | false => Fz K G' v d
  | true => ∃ fp, Own K G' H' v d fp ∧ ∀ b, b ∈ fp → H b = none
theorem Res0.res {m : Bool} {K : PySem.W.Frag} {M : List Nat} {G H G' H' : Hp} {σ : L2.St} {ρ : Rho} {f : Nat → List Addr} {v : V} {d : D} (R : Rel K M G H σ ρ f) (h : Res0 m K G' H' H v d) : Res m K G' H' M f M H f v d := by
  cases m with
  | false => exact h
  | true =>
    obtain ⟨fp, o, q⟩ := h
    refine ⟨fp, o, fun b hb => ⟨fun ⟨i, hi, hb'⟩ => ?_, .inr (q b hb)⟩⟩
    obtain ⟨d', v', _, _, o'⟩ := R.ow i hi
    exact (o'.here b hb').1 (q b hb)

abbrev Ev := Rho → Option (D × Rho)
abbrev Et := Rho → Option (Bool × Rho)
abbrev Ea := Rho → Option (List D × Rho)
/-- an expression's value by data -/
def VE (X : Cx) (M : List Nat) (m : Bool) (e : Expr) (fn : Ev) : Prop :=
  ∃ t : TE, PE X e t ∧ ∀ (G H : Hp) (σ : L2.St) (ρ : Rho) (f : Nat → List Addr) (d : D) (ρ' : Rho) (Q : VK), Rel X.K M G H σ ρ f → fn ρ = some (d, ρ') →
    (∀ v G' H' f', Step M f G H M f' G' H' → Rel X.K M G' H' σ ρ' f' → Res m X.K G' H' M f' M H f v d → Q v H') → t σ H Q
def VT (X : Cx) (M : List Nat) (e : Expr) (fn : Et) : Prop :=
  ∃ t : TT, PT X e t ∧ ∀ (G H : Hp) (σ : L2.St) (ρ : Rho) (f : Nat → List Addr) (b : Bool) (ρ' : Rho) (Q : Bool → Hp → Prop), Rel X.K M G H σ ρ f → fn ρ = some (b, ρ') →
    (∀ G' H' f', Step M f G H M f' G' H' → Rel X.K M G' H' σ ρ' f' → Q b H') → t σ H Q
/-- an argument: a value, or (some j) the name of an owned slot -/
inductive ArgA (K : PySem.W.Frag) (G : Hp) (σ : L2.St) : List (Option Nat) → List V → List D → Prop
  | nil : ArgA K G σ [] [] []
  | val {v : V} {d : D} {js : List (Option Nat)} {vs : List V} {ds : List D} : Fz K G v d → ArgA K G σ js vs ds → ArgA K G σ (none :: js) (v :: vs) (d :: ds)
  | own {v : V} {j : Nat} {js : List (Option Nat)} {vs : List V} {ds : List D} : σ[j]? = some (some v) → ArgA K G σ js vs ds → ArgA K G σ (some j :: js) (v :: vs) (.dead :: ds)
def VA (X : Cx) (M : List Nat) (js : List (Option Nat)) (es : List Expr) (fn : Ea) : Prop :=
  ∃ t : TA, PA X es t ∧ ∀ (G H : Hp) (σ : L2.St) (ρ : Rho) (f : Nat → List Addr) (ds : List D) (ρ' : Rho) (Q : List V → Hp → Prop), Rel X.K M G H σ ρ f → fn ρ = some (ds, ρ') →
    (∀ vs G' H' f', Step M f G H M f' G' H' → Rel X.K M G' H' σ ρ' f' → ArgA X.K G' σ js vs ds → Q vs H') → t σ H Q
theorem ArgA.mono {K : PySem.W.Frag} {G G' : Hp} (s : Same G G') {σ : L2.St} : ∀ {js : List (Option Nat)} {vs : List V} {ds : List D}, ArgA K G σ js vs ds → ArgA K G' σ js vs ds
  | _, _, _, .nil => .nil
  | _, _, _, .val h t => .val (h.mono s) (ArgA.mono s t)
  | _, _, _, .own h t => .own h (ArgA.mono s t)
/-- all are values -/
def allN : List (Option Nat) → Bool
  | [] => true
  | none :: r => allN r
  | some _ :: _ => false
theorem ArgA.all {K : PySem.W.Frag} {G : Hp} {σ : L2.St} : ∀ {js : List (Option Nat)} {vs : List V} {ds : List D}, ArgA K G σ js vs ds → allN js = true → FzA K G vs ds
  | _, _, _, .nil, _ => .nil
  | _, _, _, .val h t, q => .cons h (ArgA.all t q)
  | _, _, _, .own _ _, q => nomatch q

/-! ### freezing a result -/
theorem VE.frz {X : Cx} {M : List Nat} {e : Expr} {fn : Ev} (h : VE X M true e fn) : VE X M false e fn := by
  obtain ⟨t, p, k⟩ := h
  refine ⟨t, p, fun G H σ ρ f d ρ' Q R e hQ => k G H σ ρ f d ρ' Q R e fun v G' H' f' S R' ⟨fp, o, hf⟩ => ?_⟩
  have inG : ∀ b, b ∈ fp → G' b = none := fun b hb => (o.here b hb).2
  classical
  let G2 : Hp := fun b => if b ∈ fp then H' b else G' b
  have g2 : ∀ b, b ∈ fp → G2 b = H' b := fun b hb => if_pos hb
  have g3 : ∀ b, b ∉ fp → G2 b = G' b := fun b hb => if_neg hb
  have s2 : Same G' G2 := fun b u q => by
    by_cases hb : b ∈ fp
    · rw [inG b hb] at q; cases q
    · rw [g3 b hb]; exact q
  have s3 : Same G2 H' := fun b u q => by
    by_cases hb : b ∈ fp
    · rw [g2 b hb] at q; exact q
    · rw [g3 b hb] at q; exact R'.sub b u q
  refine hQ v G2 H' f' ⟨S.sub.trans s2, fun b hb => ?_, S.keep, S.live, S.own⟩ ⟨s3, R'.len, fun i d' e' hi => ?_, fun i hi => ?_, R'.dis⟩ (o.freeze s2 g2)
  · by_cases q : b ∈ fp
    · rcases (hf b q).2 with z | z
      · exact .inr (.inr z)
      · exact .inr (.inl (.inl z))
    · rw [g3 b q] at hb; exact S.new b hb
  · rcases R'.fz i d' e' hi with z | ⟨v', h1, h2⟩
    · exact .inl z
    · exact .inr ⟨v', h1, h2.mono s2⟩
  · obtain ⟨d', v', h1, h2, o'⟩ := R'.ow i hi
    refine ⟨d', v', h1, h2, o'.move s2 (fun _ _ _ q => q) fun b hb => ?_⟩
    have : b ∉ fp := fun q => (hf b q).1 ⟨i, hi, hb⟩
    rw [g3 b this]
    exact (o'.here b hb).2

/-! ### names, constants -/
def slot (i : Nat) (ρ : Rho) : Option D := match ρ[i]? with
  | some .dead => none
  | some d => some d
  | none => none
theorem slot_some {i : Nat} {ρ : Rho} {d : D} (h : slot i ρ = some d) : ρ[i]? = some d ∧ d ≠ .dead := by
  unfold slot at h
  split at h
  · cases h
  · rename_i d' q h'
    cases h
    exact ⟨h', fun z => q z⟩
  · cases h
def fName (i : Nat) : Ev := fun ρ => (slot i ρ).map fun d => (d, ρ)
def fC (d : D) : Ev := fun ρ => some (d, ρ)
section
variable {X : Cx} {M : List Nat} {pos : Pos}
theorem ve_name (i : Nat) {x : Str} (hi : (M.contains i) = false) (hN : X.N[i]? = some x := by rfl) (hv : Vis X.env.scope x := by first | exact Or.inl rfl | exact Or.inr (Or.inl rfl) | exact Or.inr (Or.inr rfl)) (hd : (x == ("__debug__" : Str)) = false := by decide)
    (hcd : (x == ("__classdict__" : Str)) = false := by decide) : VE X M false (.Name x pos) (fName i) := by
  refine ⟨_, pe_var hN hv hd hcd, fun G H σ ρ f d ρ' Q R e hQ => ?_⟩
  unfold fName at e
  cases q : slot i ρ with
  | none => rw [q] at e; cases e
  | some d' =>
    rw [q] at e
    cases e
    obtain ⟨h1, h2⟩ := slot_some q
    rcases R.fz i d h1 (by simpa using hi) with z | ⟨v, h3, h4⟩
    · exact absurd z h2
    · exact ⟨v, h3, hQ v G H f .refl R h4⟩
theorem ve_c {e : Expr} {v : V} {d : D} (h : PE X e (tC v)) (hf : ∀ G, Fz X.K G v d) : VE X M false e (fC d) := by
  refine ⟨_, h, fun G H σ ρ f d' ρ' Q R e hQ => ?_⟩
  cases e
  exact hQ v G H f .refl R (hf G)
theorem ve_int {i : Int} {j pos} : VE X M false (.Constant (.int i) j pos) (fC (.int i)) := ve_c pe_int fun _ => .int i
theorem ve_bl {i : Bool} {j pos} : VE X M false (.Constant (.bool i) j pos) (fC (.bl i)) := ve_c pe_bl fun _ => .bl i
theorem ve_non {j pos} : VE X M false (.Constant .none j pos) (fC .non) := ve_c pe_non fun _ => .non
theorem ve_str {x : Str} {j pos} : VE X M false (.Constant (.str x) j pos) (fC (.str x)) := ve_c pe_str fun _ => .str x
theorem ve_glob {x : Str} {i : Int} {t : Tok} (hg : Gl X x) (hm : X.mg x = some (.int i t)) (hd : (x == ("__debug__" : Str)) = false := by decide) : VE X M false (.Name x pos) (fC (.int i)) := ve_c (pe_glob (v := .int i) hg hm ⟨t, rfl⟩ hd) fun _ => .int i
end

/-! ### arguments -/
def aNil : Ea := fun ρ => some ([], ρ)
def aCons (fa : Ev) (fr : Ea) : Ea := fun ρ => (fa ρ).bind fun p => (fr p.2).map fun q => (p.1 :: q.1, q.2)
def aOwn (fr : Ea) : Ea := fun ρ => (fr ρ).map fun q => (.dead :: q.1, q.2)
section
variable {X : Cx} {M : List Nat} {pos : Pos} {e : Expr} {es : List Expr} {fa : Ev} {fr : Ea} {js : List (Option Nat)}
theorem va_nil : VA X M [] [] aNil := ⟨_, pa_nil, fun G H σ ρ f ds ρ' Q R e hQ => by
  cases e
  exact hQ [] G H f .refl R .nil⟩
theorem va_cons (ha : VE X M false e fa) (hr : VA X M js es fr) (hs : starEach (e :: es) X.env = (false, eval e X.env) :: starEach es X.env := by rfl) : VA X M (none :: js) (e :: es) (aCons fa fr) := by
  obtain ⟨t, p, k⟩ := ha
  obtain ⟨u, q, l⟩ := hr
  refine ⟨_, pa_cons p q hs, fun G H σ ρ f ds ρ' Q R e hQ => ?_⟩
  unfold aCons at e
  obtain ⟨⟨d, ρ1⟩, e1, e2⟩ := Option.bind_eq_some_iff.mp e
  obtain ⟨⟨ds', ρ2⟩, e3, e4⟩ := Option.map_eq_some_iff.mp e2
  cases e4
  refine k G H σ ρ f d ρ1 _ R e1 fun v G1 H1 f1 S1 R1 r1 => ?_
  refine l G1 H1 σ ρ1 f1 ds' ρ2 _ R1 e3 fun vs G2 H2 f2 S2 R2 r2 => ?_
  exact hQ (v :: vs) G2 H2 f2 (S1.trans S2) R2 (.val (Fz.mono S2.sub r1) r2)
theorem va_own (j : Nat) {x : Str} (hj : (M.contains j) = true) (hr : VA X M js es fr) (hN : X.N[j]? = some x := by rfl) (hv : Vis X.env.scope x := by first | exact Or.inl rfl | exact Or.inr (Or.inl rfl) | exact Or.inr (Or.inr rfl)) (hd : (x == ("__debug__" : Str)) = false := by decide)
    (hcd : (x == ("__classdict__" : Str)) = false := by decide) (hs : starEach (.Name x pos :: es) X.env = (false, eval (.Name x pos) X.env) :: starEach es X.env := by rfl) : VA X M (some j :: js) (.Name x pos :: es) (aOwn fr) := by
  obtain ⟨u, q, l⟩ := hr
  refine ⟨_, pa_cons (pe_var hN hv hd hcd) q hs, fun G H σ ρ f ds ρ' Q R e hQ => ?_⟩
  unfold aOwn at e
  obtain ⟨⟨ds', ρ2⟩, e3, e4⟩ := Option.map_eq_some_iff.mp e
  cases e4
  obtain ⟨d, v, h1, h2, o⟩ := R.ow j (by simpa using hj)
  refine ⟨v, h2, ?_⟩
  refine l G H σ ρ f ds' ρ2 _ R e3 fun vs G2 H2 f2 S2 R2 r2 => ?_
  exact hQ (v :: vs) G2 H2 f2 S2 R2 (.own h2 r2)
end

/-! ### operators -/
def Lift2 (K : PySem.W.Frag) (m : Bool) (r : R2) (k : D → D → Option D) : Prop :=
  ∀ (G H : Hp) (x y : V) (dx dy d : D) (Q : VK), Same G H → Fz K G x dx → Fz K G y dy → k dx dy = some d → (∀ v G' H', Grow G H G' H' → Res0 m K G' H' H v d → Q v H') → r x y H Q
def Lift1 (K : PySem.W.Frag) (m : Bool) (r : V → Hp → VK → Prop) (k : D → Option D) : Prop :=
  ∀ (G H : Hp) (x : V) (dx d : D) (Q : VK), Same G H → Fz K G x dx → k dx = some d → (∀ v G' H', Grow G H G' H' → Res0 m K G' H' H v d → Q v H') → r x H Q
def LiftN (K : PySem.W.Frag) (m : Bool) (r : List V → Hp → VK → Prop) (k : List D → Option D) : Prop :=
  ∀ (G H : Hp) (xs : List V) (ds : List D) (d : D) (Q : VK), Same G H → FzA K G xs ds → k ds = some d → (∀ v G' H', Grow G H G' H' → Res0 m K G' H' H v d → Q v H') → r xs H Q
def op1 (k : D → Option D) (fa : Ev) : Ev := fun ρ => (fa ρ).bind fun p => (k p.1).map fun d => (d, p.2)
def op2 (k : D → D → Option D) (fa fb : Ev) : Ev := fun ρ => (fa ρ).bind fun p => (fb p.2).bind fun q => (k p.1 q.1).map fun d => (d, q.2)
def opN (k : List D → Option D) (fa : Ea) : Ev := fun ρ => (fa ρ).bind fun p => (k p.1).map fun d => (d, p.2)
section
variable {X : Cx} {M : List Nat} {m : Bool} {pos : Pos} {a b : Expr} {es : List Expr} {fa fb : Ev} {fs : Ea} {js : List (Option Nat)}
theorem lift2_go {r : R2} {k : D → D → Option D} (L : Lift2 X.K m r k) {ta tb : TE} {G H : Hp} {σ : L2.St} {ρ : Rho} {f : Nat → List Addr} {d : D} {ρ' : Rho} {Q : VK} (R : Rel X.K M G H σ ρ f) (e : op2 k fa fb ρ = some (d, ρ'))
    (ka : ∀ (G H : Hp) (σ : L2.St) (ρ : Rho) (f : Nat → List Addr) (d : D) (ρ' : Rho) (Q : VK), Rel X.K M G H σ ρ f → fa ρ = some (d, ρ') → (∀ v G' H' f', Step M f G H M f' G' H' → Rel X.K M G' H' σ ρ' f' → Res false X.K G' H' M f' M H f v d → Q v H') → ta σ H Q)
    (kb : ∀ (G H : Hp) (σ : L2.St) (ρ : Rho) (f : Nat → List Addr) (d : D) (ρ' : Rho) (Q : VK), Rel X.K M G H σ ρ f → fb ρ = some (d, ρ') → (∀ v G' H' f', Step M f G H M f' G' H' → Rel X.K M G' H' σ ρ' f' → Res false X.K G' H' M f' M H f v d → Q v H') → tb σ H Q)
    (hQ : ∀ v G' H' f', Step M f G H M f' G' H' → Rel X.K M G' H' σ ρ' f' → Res m X.K G' H' M f' M H f v d → Q v H') : tOp r ta tb σ H Q := by
  unfold op2 at e
  obtain ⟨⟨dx, ρ1⟩, e1, e2⟩ := Option.bind_eq_some_iff.mp e
  obtain ⟨⟨dy, ρ2⟩, e3, e4⟩ := Option.bind_eq_some_iff.mp e2
  obtain ⟨d', e5, e6⟩ := Option.map_eq_some_iff.mp e4
  cases e6
  refine ka G H σ ρ f dx ρ1 _ R e1 fun x G1 H1 f1 S1 R1 r1 => ?_
  refine kb G1 H1 σ ρ1 f1 dy ρ2 _ R1 e3 fun y G2 H2 f2 S2 R2 r2 => ?_
  refine L G2 H2 x y dx dy d Q R2.sub (Fz.mono S2.sub r1) r2 e5 fun v G3 H3 g r3 => ?_
  have S12 := S1.trans S2
  refine hQ v G3 H3 f2 (S12.trans (g.step M f2)) (R2.grow g) ?_
  have r4 := Res0.res R2 r3
  cases m with
  | false => exact r4
  | true =>
    obtain ⟨fp, o, q⟩ := r4
    exact ⟨fp, o, fun c hc => ⟨(q c hc).1, by
      rcases (q c hc).2 with z | z
      · exact S12.own c z
      · refine .inr ?_
        cases e : H c with
        | none => rfl
        | some u => exact absurd z (S12.live c (by rw [e]; simp))⟩⟩
theorem ve_op {op : Operator} {r : R2} {k : D → D → Option D} (ho : OpR X (binaryOp op) r) (L : Lift2 X.K m r k) (ha : VE X M false a fa) (hb : VE X M false b fb) : VE X M m (.BinOp a op b pos) (op2 k fa fb) := by
  obtain ⟨ta, pa, ka⟩ := ha
  obtain ⟨tb, pb, kb⟩ := hb
  exact ⟨_, pe_op ho pa pb, fun G H σ ρ f d ρ' Q R e hQ => lift2_go L R e ka kb hQ⟩
theorem ve_cmp {op : CmpOp} {r : R2} {k : D → D → Option D} (ho : OpR X (compareOp op) r) (L : Lift2 X.K m r k) (ha : VE X M false a fa) (hb : VE X M false b fb) (hm : behindInMarks op b = false) : VE X M m (.Compare a [op] [b] pos) (op2 k fa fb) := by
  obtain ⟨ta, pa, ka⟩ := ha
  obtain ⟨tb, pb, kb⟩ := hb
  exact ⟨_, pe_cmpR ho pa pb hm, fun G H σ ρ f d ρ' Q R e hQ => lift2_go L R e ka kb hQ⟩
theorem ve_ix {r : R2} {k : D → D → Option D} (hr : IxR X r) (L : Lift2 X.K m r k) (ha : VE X M false a fa) (hb : VE X M false b fb) (hs : PlainIx b := by intro _ _; rfl) : VE X M m (.Subscript a b pos) (op2 k fa fb) := by
  obtain ⟨ta, pa, ka⟩ := ha
  obtain ⟨tb, pb, kb⟩ := hb
  exact ⟨_, pe_ix hr pa pb hs, fun G H σ ρ f d ρ' Q R e hQ => lift2_go L R e ka kb hQ⟩
/-- the end of a lift behind steps -/
theorem res_back {M : List Nat} {K : PySem.W.Frag} {m : Bool} {G H G2 H2 G3 H3 : Hp} {f f2 : Nat → List Addr} {v : V} {d : D} {σ : L2.St} {ρ : Rho} (S : Step M f G H M f2 G2 H2) (R2 : Rel K M G2 H2 σ ρ f2) (r3 : Res0 m K G3 H3 H2 v d) : Res m K G3 H3 M f2 M H f v d := by
  have r4 := Res0.res R2 r3
  cases m with
  | false => exact r4
  | true =>
    obtain ⟨fp, o, q⟩ := r4
    exact ⟨fp, o, fun c hc => ⟨(q c hc).1, by
      rcases (q c hc).2 with z | z
      · exact S.own c z
      · refine .inr ?_
        cases e : H c with
        | none => rfl
        | some u => exact absurd z (S.live c (by rw [e]; simp))⟩⟩
theorem ve_un {op : UnaryOp} {r : V → Hp → VK → Prop} {k : D → Option D} (ho : UnR X (unaryOp op) r) (L : Lift1 X.K m r k) (ha : VE X M false a fa) : VE X M m (.UnaryOp op a pos) (op1 k fa) := by
  obtain ⟨ta, pa, ka⟩ := ha
  refine ⟨_, pe_un ho pa, fun G H σ ρ f d ρ' Q R e hQ => ?_⟩
  unfold op1 at e
  obtain ⟨⟨dx, ρ1⟩, e1, e2⟩ := Option.bind_eq_some_iff.mp e
  obtain ⟨d', e5, e6⟩ := Option.map_eq_some_iff.mp e2
  cases e6
  refine ka G H σ ρ f dx ρ1 _ R e1 fun x G1 H1 f1 S1 R1 r1 => ?_
  refine L G1 H1 x dx d Q R1.sub r1 e5 fun v G3 H3 g r3 => ?_
  exact hQ v G3 H3 f1 (S1.trans (g.step M f1)) (R1.grow g) (res_back S1 R1 r3)
theorem callT {r : List V → Hp → VK → Prop} {k : List D → Option D} (L : LiftN X.K m r k) (hj : allN js = true) {ta : TA} {G H : Hp} {σ : L2.St} {ρ : Rho} {f : Nat → List Addr} {d : D} {ρ' : Rho} {Q : VK} (R : Rel X.K M G H σ ρ f) (e : opN k fs ρ = some (d, ρ'))
    (ka : ∀ (G H : Hp) (σ : L2.St) (ρ : Rho) (f : Nat → List Addr) (ds : List D) (ρ' : Rho) (Q : List V → Hp → Prop), Rel X.K M G H σ ρ f → fs ρ = some (ds, ρ') → (∀ vs G' H' f', Step M f G H M f' G' H' → Rel X.K M G' H' σ ρ' f' → ArgA X.K G' σ js vs ds → Q vs H') → ta σ H Q)
    (hQ : ∀ v G' H' f', Step M f G H M f' G' H' → Rel X.K M G' H' σ ρ' f' → Res m X.K G' H' M f' M H f v d → Q v H') : ta σ H fun vs H1 => r vs H1 Q := by
  unfold opN at e
  obtain ⟨⟨dx, ρ1⟩, e1, e2⟩ := Option.bind_eq_some_iff.mp e
  obtain ⟨d', e5, e6⟩ := Option.map_eq_some_iff.mp e2
  cases e6
  refine ka G H σ ρ f dx ρ1 _ R e1 fun x G1 H1 f1 S1 R1 r1 => ?_
  refine L G1 H1 x dx d Q R1.sub (r1.all hj) e5 fun v G3 H3 g r3 => ?_
  exact hQ v G3 H3 f1 (S1.trans (g.step M f1)) (R1.grow g) (res_back S1 R1 r3)
/-- f(e, ..), f a built-in function -/
theorem ve_callB {x : Str} {id : String} {p : Pos} {r : List V → Hp → VK → Prop} {k : List D → Option D} (hc : CallR X (.builtin id) r) (L : LiftN X.K m r k) (hm : X.mg x = none) (hv : bootBuiltins x = some (.builtin id)) (hg : Gl X x) (hj : allN js = true) (ha : VA X M js (a :: es) fs)
    (hn : x ≠ "__name__" := by decide) (hdb : (x == ("__debug__" : Str)) = false := by decide) (he : starEach (a :: es) X.env = (false, eval a X.env) :: starEach es X.env := by rfl) (hpl : (backTo pos (starEach es X.env)).any (·.1) = false := by rfl) :
    VE X M m (.Call (.Name x p) (a :: es) [] pos) (opN k fs) := by
  obtain ⟨ta, pa, ka⟩ := ha
  exact ⟨_, pe_callB hc hg hm hv pa hn hdb he hpl, fun G H σ ρ f d ρ' Q R e hQ => callT L hj R e ka hQ⟩
theorem ve_callTy {x : Str} {T : String} {p : Pos} {r : List V → Hp → VK → Prop} {k : List D → Option D} (hc : CallR X (.type T) r) (L : LiftN X.K m r k) (hm : X.mg x = none) (hv : bootBuiltins x = some (.type T)) (hg : Gl X x) (hj : allN js = true) (ha : VA X M js (a :: es) fs)
    (hn : x ≠ "__name__" := by decide) (hdb : (x == ("__debug__" : Str)) = false := by decide) (he : starEach (a :: es) X.env = (false, eval a X.env) :: starEach es X.env := by rfl) (hpl : (backTo pos (starEach es X.env)).any (·.1) = false := by rfl) :
    VE X M m (.Call (.Name x p) (a :: es) [] pos) (opN k fs) := by
  obtain ⟨ta, pa, ka⟩ := ha
  exact ⟨_, pe_callTy hc hg hm hv pa hn hdb he hpl, fun G H σ ρ f d ρ' Q R e hQ => callT L hj R e ka hQ⟩
/-- displays -/
def kTup : List D → Option D := fun ds => if ds.length ≤ 1000000 then some (.tup ds) else none
def kLst : List D → Option D := fun ds => if ds.length ≤ 1000000 then some (.lst ds) else none
theorem small_line {n : Nat} (h : n ≤ 1000000) : n ≤ sizeLine := by rw [sizeLine_eq]; omega
theorem ve_tup {kk : Nat} (hj : allN js = true) (ha : VA X M js es fs) : VE X M false (.Tuple es kk pos) (opN kTup fs) := by
  obtain ⟨ta, pa, ka⟩ := ha
  refine ⟨_, pe_tup pa, fun G H σ ρ f d ρ' Q R e hQ => ?_⟩
  refine callT (m := false) (r := fun xs H1 Q => xs.length ≤ sizeLine ∧ ∀ p, H1 p = none → Q (.ref p) (upd H1 p (.tup xs))) (fun G H xs ds d Q s h e hQ => ?_) hj R e ka hQ
  unfold kTup at e
  split at e
  · rename_i hl
    cases e
    refine ⟨by rw [h.length]; exact small_line hl, fun p hp => hQ _ (upd G p (.tup xs)) _ (Grow.laid s hp) (.tup upd_same (h.mono (same_new (sub_none s hp))))⟩
  · cases e
theorem ve_lst (hj : allN js = true) (ha : VA X M js es fs) : VE X M true (.List es pos) (opN kLst fs) := by
  obtain ⟨ta, pa, ka⟩ := ha
  refine ⟨_, pe_lst pa, fun G H σ ρ f d ρ' Q R e hQ => ?_⟩
  refine callT (m := true) (r := fun xs H1 Q => xs.length ≤ sizeLine ∧ ∀ p, H1 p = none → Q (.ref p) (upd H1 p (.lst xs))) (fun G H xs ds d Q s h e hQ => ?_) hj R e ka hQ
  unfold kLst at e
  split at e
  · rename_i hl
    cases e
    refine ⟨by rw [h.length]; exact small_line hl, fun p hp => hQ _ G _ (Grow.own s hp) ⟨[p], .lst upd_same (sub_none s hp) h, fun b hb => by simp at hb; subst hb; exact hp⟩⟩
  · cases e
end
end Bl

set_option Elab.async false
set_option linter.all false
set_option maxRecDepth 100000
set_option maxHeartbeats 4000000
/-! Vl2: operators, comparisons, tests, slices, calls by data. -/
namespace Bl
open PySem PySem.Spec PyProof.Rows L2

def lim : Nat := 1000000
theorem lim_line {n : Nat} (h : n ≤ lim) : n ≤ sizeLine := small_line h
theorem lim_lt {n : Nat} (h : n < lim) : n < sizeLine := by
  have := sizeLine_eq
  unfold lim at h
  omega

/-! ### data as the library's data -/
mutual
def D.py : D → PyData
  | .non => .none
  | .bl b => .bool b
  | .int i => .int i
  | .str x => .str x
  | .tup xs => .tuple (pys xs)
  | .lst xs => .list (pys xs)
  | _ => .none
def pys : List D → List PyData
  | [] => []
  | d :: ds => D.py d :: pys ds
end
mutual
def D.isd : D → Bool
  | .non => true
  | .bl _ => true
  | .int _ => true
  | .str _ => true
  | .tup xs => isds xs
  | .lst xs => isds xs
  | _ => false
def isds : List D → Bool
  | [] => true
  | d :: ds => D.isd d && isds ds
end
mutual
theorem dp_of {K : PySem.W.Frag} {G H : Hp} (s : Same G H) : ∀ {v : V} {d : D}, Fz K G v d → d.isd = true → Dp K H v d.py
  | _, _, .non, _ => by rw [D.py]; exact .non
  | _, _, .bl b, _ => by rw [D.py]; exact .bl b
  | _, _, .int i, _ => by rw [D.py]; exact .int i
  | _, _, .str x, _ => by rw [D.py]; exact .str x
  | _, _, .tup q r, h => by rw [D.py]; exact .tup (.inl (.inl (s _ _ q))) (dps_of s r (by rw [D.isd] at h; exact h))
  | _, _, .lst q r, h => by rw [D.py]; exact .lst (.inl (.inl (s _ _ q))) (dps_of s r (by rw [D.isd] at h; exact h))
  | _, _, .dic _ _ _, h => by simp [D.isd] at h
  | _, _, .dit _ _ _, h => by simp [D.isd] at h
  | _, _, .src, h => by simp [D.isd] at h
  | _, _, .scr _, h => by simp [D.isd] at h
theorem dps_of {K : PySem.W.Frag} {G H : Hp} (s : Same G H) : ∀ {vs : List V} {ds : List D}, FzA K G vs ds → isds ds = true → DpAll K H vs (pys ds)
  | _, _, .nil, _ => by rw [pys]; exact .nil
  | _, _, .cons h t, q => by
    rw [isds, Bool.and_eq_true] at q
    rw [pys]
    exact .cons (dp_of s h q.1) (dps_of s t q.2)
end

/-! ### operators on ints -/
section
variable {K : PySem.W.Frag}
theorem fz_res {G H G' H' : Hp} {v : V} {d : D} (h : Fz K G' v d) : Res0 false K G' H' H v d := h
def kII (g : Int → Int → D) : D → D → Option D := fun a b => match a, b with
  | .int i, .int j => some (g i j)
  | _, _ => none
theorem kII_some {g : Int → Int → D} {a b d : D} (h : kII g a b = some d) : ∃ i j, a = .int i ∧ b = .int j ∧ d = g i j := by
  unfold kII at h
  split at h
  · cases h; exact ⟨_, _, rfl, rfl, rfl⟩
  · cases h
def kIC (c : Int → Int → Bool) (g : Int → Int → D) : D → D → Option D := fun a b => match a, b with
  | .int i, .int j => if c i j then some (g i j) else none
  | _, _ => none
theorem kIC_some {c : Int → Int → Bool} {g : Int → Int → D} {a b d : D} (h : kIC c g a b = some d) : ∃ i j, a = .int i ∧ b = .int j ∧ c i j = true ∧ d = g i j := by
  unfold kIC at h
  split at h
  · split at h
    · cases h; rename_i q; exact ⟨_, _, rfl, rfl, q, rfl⟩
    · cases h
  · cases h
theorem Fz.int_inv {G : Hp} {v : V} {i : Int} (h : Fz K G v (.int i)) : v = .int i := by cases h; rfl
theorem Fz.bl_inv {G : Hp} {v : V} {i : Bool} (h : Fz K G v (.bl i)) : v = .bl i := by cases h; rfl
theorem Fz.str_inv {G : Hp} {v : V} {i : Str} (h : Fz K G v (.str i)) : v = .str i := by cases h; rfl
theorem lift_I0 {g : Int → Int → V} {g' : Int → Int → D} (hg : ∀ i j G, Fz K G (g i j) (g' i j)) : Lift2 K false (rI0 g) (kII g') := by
  intro G H x y dx dy d Q s hx hy e hQ
  obtain ⟨i, j, rfl, rfl, rfl⟩ := kII_some e
  exact ⟨i, j, hx.int_inv, hy.int_inv, hQ _ G H (.refl s) (hg i j G)⟩
theorem lift_IC {C : Int → Int → Prop} {c : Int → Int → Bool} {g : Int → Int → V} {g' : Int → Int → D} (hc : ∀ i j, c i j = true → C i j) (hg : ∀ i j G, Fz K G (g i j) (g' i j)) : Lift2 K false (rI C g) (kIC c g') := by
  intro G H x y dx dy d Q s hx hy e hQ
  obtain ⟨i, j, rfl, rfl, q, rfl⟩ := kIC_some e
  exact ⟨i, j, hx.int_inv, hy.int_inv, hc i j q, hQ _ G H (.refl s) (hg i j G)⟩
def kSub := kII fun i j => .int (i - j)
def kMul := kIC (fun i j => decide (i.natAbs < 2 ^ 64 ∨ j.natAbs < 2 ^ 64)) fun i j => .int (i * j)
def kDiv := kIC (fun _ j => decide (0 < j ∧ j.natAbs < 1073741824)) fun i j => .int (i / j)
def kMod := kIC (fun _ j => decide (0 < j)) fun i j => .int (i % j)
def kShl := kIC (fun i j => decide (0 ≤ j ∧ j ≤ 1000000 ∧ i.natAbs < 2 ^ 64)) fun i j => .int (i * 2 ^ j.toNat)
def kPow := kIC (fun i j => decide (0 ≤ j ∧ j ≤ 1000000 ∧ i.natAbs < 2 ^ 64)) fun i j => .int (i ^ j.toNat)
def kShr := kIC (fun _ j => decide (0 ≤ j)) fun i j => .int (i / 2 ^ j.toNat)
def kAnd := kII fun i j => .int (Builtin.bitAnd i j)
def kOr := kII fun i j => .int (Builtin.bitOr i j)
def kXor := kII fun i j => .int (Builtin.bitXor i j)
def kLt := kII fun i j => .bl (decide (i < j))
def kLe := kII fun i j => .bl (decide (i ≤ j))
def kGt := kII fun i j => .bl (decide (j < i))
def kGe := kII fun i j => .bl (decide (j ≤ i))
theorem l_sub : Lift2 K false (rI0 fun i j => .int (i - j)) kSub := lift_I0 fun i j _ => .int _
theorem l_mul : Lift2 K false (rI CMul fun i j => .int (i * j)) kMul := lift_IC (fun i j h => by
  have h := of_decide_eq_true h
  unfold CMul
  omega) fun i j _ => .int _
theorem l_div : Lift2 K false (rI CDiv fun i j => .int (i / j)) kDiv := lift_IC (fun i j h => by
  have h := of_decide_eq_true h
  unfold CDiv
  omega) fun i j _ => .int _
theorem l_mod : Lift2 K false (rI (fun _ j => 0 < j) fun i j => .int (i % j)) kMod := lift_IC (fun i j h => by simpa [CMul, CDiv, CPow] using h) fun i j _ => .int _
theorem l_shl : Lift2 K false (rI CPow fun i j => .int (i * 2 ^ j.toNat)) kShl := lift_IC (fun i j h => by simpa [CMul, CDiv, CPow] using h) fun i j _ => .int _
theorem l_pow : Lift2 K false (rI CPow fun i j => .int (i ^ j.toNat)) kPow := lift_IC (fun i j h => by simpa [CMul, CDiv, CPow] using h) fun i j _ => .int _
theorem l_shr : Lift2 K false (rI (fun _ j => 0 ≤ j) fun i j => .int (i / 2 ^ j.toNat)) kShr := lift_IC (fun i j h => by simpa [CMul, CDiv, CPow] using h) fun i j _ => .int _
theorem l_and : Lift2 K false (rI0 fun i j => .int (Builtin.bitAnd i j)) kAnd := lift_I0 fun i j _ => .int _
theorem l_or : Lift2 K false (rI0 fun i j => .int (Builtin.bitOr i j)) kOr := lift_I0 fun i j _ => .int _
theorem l_xor : Lift2 K false (rI0 fun i j => .int (Builtin.bitXor i j)) kXor := lift_I0 fun i j _ => .int _
theorem l_lt : Lift2 K false (rI0 fun i j => .bl (decide (i < j))) kLt := lift_I0 fun i j _ => .bl _
theorem l_le : Lift2 K false (rI0 fun i j => .bl (decide (i ≤ j))) kLe := lift_I0 fun i j _ => .bl _
theorem l_gt : Lift2 K false (rI0 fun i j => .bl (decide (j < i))) kGt := lift_I0 fun i j _ => .bl _
theorem l_ge : Lift2 K false (rI0 fun i j => .bl (decide (j ≤ i))) kGe := lift_I0 fun i j _ => .bl _
def kNeg : D → Option D | .int i => some (.int (-i)) | _ => none
theorem l_neg : Lift1 K false (rU fun i => .int (-i)) kNeg := by
  intro G H x dx d Q s hx e hQ
  unfold kNeg at e
  split at e
  · cases e
    exact ⟨_, hx.int_inv, hQ _ G H (.refl s) (.int _)⟩
  · cases e

/-! ### + -/
def kAdd : D → D → Option D := fun a b => match a, b with
  | .int i, .int j => some (.int (i + j))
  | .tup xs, .tup ys => if xs.length + ys.length ≤ lim then some (.tup (xs ++ ys)) else none
  | _, _ => none
def kCat : D → D → Option D := fun a b => match a, b with
  | .lst xs, .lst ys => if xs.length + ys.length ≤ lim then some (.lst (xs ++ ys)) else none
  | _, _ => none
theorem Fz.tup_inv {G : Hp} {v : V} {ds : List D} (h : Fz K G v (.tup ds)) : ∃ a vs, v = .ref a ∧ G a = some (.tup vs) ∧ FzA K G vs ds := by
  cases h with
  | tup q r => exact ⟨_, _, rfl, q, r⟩
theorem Fz.lst_inv {G : Hp} {v : V} {ds : List D} (h : Fz K G v (.lst ds)) : ∃ a vs, v = .ref a ∧ G a = some (.lst vs) ∧ FzA K G vs ds := by
  cases h with
  | lst q r => exact ⟨_, _, rfl, q, r⟩
/-- a new tuple, a new list: its own, or frozen -/
theorem new_tup {G H : Hp} {vs : List V} {ds : List D} (s : Same G H) (r : FzA K G vs ds) {p : Addr} (hp : H p = none) : Grow G H (upd G p (.tup vs)) (upd H p (.tup vs)) ∧ Fz K (upd G p (.tup vs)) (.ref p) (.tup ds) :=
  ⟨Grow.laid s hp, .tup upd_same (r.mono (same_new (sub_none s hp)))⟩
theorem new_lst {G H : Hp} {vs : List V} {ds : List D} (s : Same G H) (r : FzA K G vs ds) {p : Addr} (hp : H p = none) : Grow G H G (upd H p (.lst vs)) ∧ Res0 true K G (upd H p (.lst vs)) H (.ref p) (.lst ds) :=
  ⟨Grow.own s hp, [p], .lst upd_same (sub_none s hp) r, fun b hb => by simp at hb; subst hb; exact hp⟩
theorem l_add : Lift2 K false (fun x y H Q => rI0 (fun i j => .int (i + j)) x y H Q ∨ rCatA K x y H Q) kAdd := by
  intro G H x y dx dy d Q s hx hy e hQ
  unfold kAdd at e
  split at e
  · cases e
    exact .inl ⟨_, _, hx.int_inv, hy.int_inv, hQ _ G H (.refl s) (.int _)⟩
  · rename_i xs ys
    split at e
    · rename_i hl
      cases e
      obtain ⟨a, vs, rfl, ha, ra⟩ := hx.tup_inv
      obtain ⟨b, ws, rfl, hb, rb⟩ := hy.tup_inv
      refine .inr ⟨a, b, vs, ws, rfl, rfl, .inl (.inl (s _ _ ha)), .inl (.inl (s _ _ hb)), by rw [ra.length, rb.length]; exact lim_line hl, fun z => ?_, fun z1 z2 => ?_, fun _ _ p hp => ?_⟩
      · subst z
        cases ra
        exact hQ _ G H (.refl s) (.tup hb rb)
      · subst z2
        cases rb
        rw [List.append_nil] at hQ
        exact hQ _ G H (.refl s) (.tup ha ra)
      · obtain ⟨g, r⟩ := new_tup s (ra.append rb) hp
        exact hQ _ _ _ g r
    · cases e
  · cases e
theorem l_cat : Lift2 K true rCat kCat := by
  intro G H x y dx dy d Q s hx hy e hQ
  unfold kCat at e
  split at e
  · rename_i xs ys
    split at e
    · rename_i hl
      cases e
      obtain ⟨a, vs, rfl, ha, ra⟩ := hx.lst_inv
      obtain ⟨b, ws, rfl, hb, rb⟩ := hy.lst_inv
      refine ⟨a, b, vs, ws, rfl, rfl, s _ _ ha, s _ _ hb, by rw [ra.length, rb.length]; exact lim_line hl, fun p hp => ?_⟩
      obtain ⟨g, r⟩ := new_lst s (ra.append rb) hp
      exact hQ _ _ _ g r
    · cases e
  · cases e

/-! ### == -/
def kEqD (neg : Bool) : D → D → Option D := fun a b => match a, b with
  | .int i, .int j => some (.bl (if neg then !(i == j) else i == j))
  | a, b => if a.isd && b.isd && SeqAt.shaped a.py && SeqAt.shaped b.py then some (.bl (if neg then !PyData.eqv a.py b.py else PyData.eqv a.py b.py)) else none
theorem kEqD_some {neg : Bool} {a b d : D} (h : kEqD neg a b = some d) : a.isd = true ∧ b.isd = true ∧ SeqAt.shaped a.py = true ∧ SeqAt.shaped b.py = true ∧ d = .bl (if neg then !PyData.eqv a.py b.py else PyData.eqv a.py b.py) := by
  unfold kEqD at h
  split at h
  · cases h
    refine ⟨rfl, rfl, by rw [D.py]; rfl, by rw [D.py]; rfl, ?_⟩
    simp [D.py, PyData.eqv]
  · split at h
    · rename_i q
      cases h
      simp only [Bool.and_eq_true] at q
      exact ⟨q.1.1.1, q.1.1.2, q.1.2, q.2, rfl⟩
    · cases h
theorem l_eq : Lift2 K false (rEqD K) (kEqD false) := by
  intro G H x y dx dy d Q s hx hy e hQ
  obtain ⟨h1, h2, h3, h4, rfl⟩ := kEqD_some e
  exact ⟨_, _, dp_of s hx h1, dp_of s hy h2, h3, h4, hQ _ G H (.refl s) (.bl _)⟩
theorem l_ne : Lift2 K false (rNeD K) (kEqD true) := by
  intro G H x y dx dy d Q s hx hy e hQ
  obtain ⟨h1, h2, h3, h4, rfl⟩ := kEqD_some e
  exact ⟨_, _, dp_of s hx h1, dp_of s hy h2, h3, h4, hQ _ G H (.refl s) (.bl _)⟩
/-- is None -/
def kIsN (neg : Bool) : D → D → Option D := fun a b => match b with
  | .non => (match a with
    | .dead => none
    | .src _ _ _ _ => none
    | .non => some (.bl (!neg))
    | _ => some (.bl neg))
  | _ => none
theorem l_isN : Lift2 K false (fun x y H Q => y = .non ∧ Q (.bl (decide (x = .non))) H) (kIsN false) := by
  intro G H x y dx dy d Q s hx hy e hQ
  cases dy <;> first | (cases e; done) | skip
  cases hy
  refine ⟨rfl, ?_⟩
  cases hx <;> first | (cases e; done) | (cases e; exact hQ _ G H (.refl s) (.bl _))
theorem l_notN : Lift2 K false (fun x y H Q => y = .non ∧ Q (.bl (!decide (x = .non))) H) (kIsN true) := by
  intro G H x y dx dy d Q s hx hy e hQ
  cases dy <;> first | (cases e; done) | skip
  cases hy
  refine ⟨rfl, ?_⟩
  cases hx <;> first | (cases e; done) | (cases e; exact hQ _ G H (.refl s) (.bl _))

/-! ### in, over ints and texts -/
/-- a flat thing as a value -/
def D.sc : D → Option V
  | .non => some .non
  | .bl b => some (.bl b)
  | .int i => some (.int i)
  | .str x => some (.str x)
  | _ => none
theorem sc_of {G : Hp} {v w : V} {d : D} (h : Fz K G v d) (e : d.sc = some w) : v = w ∧ flatV v = true := by
  cases h <;> first | (cases e; exact ⟨rfl, rfl⟩) | cases e
def scs : List D → Option (List V)
  | [] => some []
  | d :: ds => (d.sc).bind fun v => (scs ds).map fun r => v :: r
theorem scs_of {G : Hp} : ∀ {vs ws : List V} {ds : List D}, FzA K G vs ds → scs ds = some ws → vs = ws ∧ vs.all flatV = true
  | _, _, _, .nil, e => by cases e; exact ⟨rfl, rfl⟩
  | _, _, _, .cons h t, e => by
    unfold scs at e
    obtain ⟨v, e1, e2⟩ := Option.bind_eq_some_iff.mp e
    obtain ⟨r, e3, e4⟩ := Option.map_eq_some_iff.mp e2
    cases e4
    obtain ⟨h1, h2⟩ := sc_of h e1
    obtain ⟨h3, h4⟩ := scs_of t e3
    subst h1 h3
    exact ⟨rfl, by rw [List.all_cons, h2, h4]; rfl⟩
def kIn (neg : Bool) : D → D → Option D := fun a b => match a, b with
  | a, .lst ds => (a.sc).bind fun v => (scs ds).map fun ws => .bl (if neg then !inV v ws else inV v ws)
  | a, .tup ds => (a.sc).bind fun v => (scs ds).map fun ws => .bl (if neg then !inV v ws else inV v ws)
  | .str x, .str y => some (.bl (if neg then !(!(Builtin.Str.occurrences y x 0 y.length 1).isEmpty) else !(Builtin.Str.occurrences y x 0 y.length 1).isEmpty))
  | _, _ => none
theorem l_in (neg : Bool) : Lift2 K false (fun x y H Q => rIn K neg x y H Q ∨ ∃ i j, x = .str i ∧ y = .str j ∧ Q (.bl (if neg then !(!(Builtin.Str.occurrences j i 0 j.length 1).isEmpty) else !(Builtin.Str.occurrences j i 0 j.length 1).isEmpty)) H) (kIn neg) := by
  intro G H x y dx dy d Q s hx hy e hQ
  unfold kIn at e
  split at e
  · obtain ⟨v, e1, e2⟩ := Option.bind_eq_some_iff.mp e
    obtain ⟨ws, e3, e4⟩ := Option.map_eq_some_iff.mp e2
    cases e4
    obtain ⟨a, vs, rfl, ha, ra⟩ := hy.lst_inv
    obtain ⟨rfl, f1⟩ := sc_of hx e1
    obtain ⟨rfl, f2⟩ := scs_of ra e3
    exact .inl ⟨a, _, rfl, .inl (.inl (.inl (s _ _ ha))), f1, f2, hQ _ G H (.refl s) (.bl _)⟩
  · obtain ⟨v, e1, e2⟩ := Option.bind_eq_some_iff.mp e
    obtain ⟨ws, e3, e4⟩ := Option.map_eq_some_iff.mp e2
    cases e4
    obtain ⟨a, vs, rfl, ha, ra⟩ := hy.tup_inv
    obtain ⟨rfl, f1⟩ := sc_of hx e1
    obtain ⟨rfl, f2⟩ := scs_of ra e3
    exact .inl ⟨a, _, rfl, .inr (.inl (.inl (s _ _ ha))), f1, f2, hQ _ G H (.refl s) (.bl _)⟩
  · cases e
    exact .inr ⟨_, _, hx.str_inv, hy.str_inv, hQ _ G H (.refl s) (.bl _)⟩
  · cases e

/-! ### items -/
def kIx : D → D → Option D := fun a b => match a, b with
  | .lst ds, .int i => atI ds i
  | .tup ds, .int i => atI ds i
  | _, _ => none
theorem atI_fz {G : Hp} {vs : List V} {ds : List D} {i : Int} {d : D} (r : FzA K G vs ds) (h : atI ds i = some d) : ∃ v, atI vs i = some v ∧ Fz K G v d := by
  unfold atI at h ⊢
  rw [r.length]
  obtain ⟨j, e1, e2⟩ := Option.bind_eq_some_iff.mp h
  obtain ⟨v, h1, h2⟩ := r.get e2
  exact ⟨v, by rw [e1]; exact h1, h2⟩
theorem l_ix : Lift2 K false (rIx K) kIx := by
  intro G H x y dx dy d Q s hx hy e hQ
  unfold kIx at e
  split at e
  · obtain ⟨a, vs, rfl, ha, ra⟩ := hx.lst_inv
    obtain ⟨v, h1, h2⟩ := atI_fz ra e
    exact .inl ⟨a, vs, _, v, rfl, hy.int_inv, .inl (.inl (s _ _ ha)), h1, hQ v G H (.refl s) h2⟩
  · obtain ⟨a, vs, rfl, ha, ra⟩ := hx.tup_inv
    obtain ⟨v, h1, h2⟩ := atI_fz ra e
    exact .inr (.inl ⟨a, vs, _, v, rfl, hy.int_inv, .inl (.inl (s _ _ ha)), h1, hQ v G H (.refl s) h2⟩)
  · cases e
end

/-! ### slices -/
abbrev Eo := Rho → Option (Option Int × Rho)
def VO (X : Cx) (M : List Nat) (e : Option Expr) (fn : Eo) : Prop :=
  ∃ t : TO, PO X e t ∧ ∀ (G H : Hp) (σ : L2.St) (ρ : Rho) (f : Nat → List Addr) (o : Option Int) (ρ' : Rho) (Q : Option Int → Hp → Prop), Rel X.K M G H σ ρ f → fn ρ = some (o, ρ') →
    (∀ G' H' f', Step M f G H M f' G' H' → Rel X.K M G' H' σ ρ' f' → Q o H') → t σ H Q
def oNone : Eo := fun ρ => some (none, ρ)
def oSome (fa : Ev) : Eo := fun ρ => (fa ρ).bind fun p => match p.1 with | .int i => some (some i, p.2) | _ => none
def cutD {α : Type} (xs : List α) (lo hi : Option Int) : List α := (xs.drop (HT.sIx xs.length 0 lo)).take (HT.sIx xs.length xs.length hi - HT.sIx xs.length 0 lo)
def kSl : D → Option Int → Option Int → Option D := fun a lo hi => match a with
  | .lst ds => some (.lst (cutD ds lo hi))
  | _ => none
def kSlT : D → Option Int → Option Int → Option D := fun a lo hi => match a with
  | .tup ds => some (.tup (cutD ds lo hi))
  | _ => none
def op3 (k : D → Option Int → Option Int → Option D) (fa : Ev) (fl fh : Eo) : Ev := fun ρ => (fa ρ).bind fun p => (fl p.2).bind fun q => (fh q.2).bind fun r => (k p.1 q.1 r.1).map fun d => (d, r.2)
section
variable {X : Cx} {M : List Nat} {m : Bool} {pos p2 : Pos} {a b : Expr} {es : List Expr} {fa fb : Ev} {fs : Ea} {js : List (Option Nat)} {lo hi : Option Expr} {fl fh : Eo}
theorem vo_none : VO X M none oNone := ⟨_, po_none, fun G H σ ρ f o ρ' Q R e hQ => by
  cases e
  exact hQ G H f .refl R⟩
theorem vo_some (ha : VE X M false a fa) : VO X M (some a) (oSome fa) := by
  obtain ⟨t, p, k⟩ := ha
  refine ⟨_, po_some p, fun G H σ ρ f o ρ' Q R e hQ => ?_⟩
  unfold oSome at e
  obtain ⟨⟨d, ρ1⟩, e1, e2⟩ := Option.bind_eq_some_iff.mp e
  refine k G H σ ρ f d ρ1 _ R e1 fun v G' H' f' S R' r => ?_
  split at e2
  · rename_i i z
    cases e2
    simp only at z
    subst z
    exact ⟨i, Fz.int_inv r, hQ G' H' f' S R'⟩
  · cases e2
def LiftS (K : PySem.W.Frag) (m : Bool) (r : V → Option Int → Option Int → Hp → VK → Prop) (k : D → Option Int → Option Int → Option D) : Prop :=
  ∀ (G H : Hp) (x : V) (dx d : D) (lo hi : Option Int) (Q : VK), Same G H → Fz K G x dx → k dx lo hi = some d → (∀ v G' H', Grow G H G' H' → Res0 m K G' H' H v d → Q v H') → r x lo hi H Q
theorem ve_slice {r : V → Option Int → Option Int → Hp → VK → Prop} {k : D → Option Int → Option Int → Option D} (hr : SlR X r) (L : LiftS X.K m r k) (ha : VE X M false a fa) (hl : VO X M lo fl) (hh : VO X M hi fh) : VE X M m (.Subscript a (.Slice lo hi none p2) pos) (op3 k fa fl fh) := by
  obtain ⟨t, p, ka⟩ := ha
  obtain ⟨u, q, kl⟩ := hl
  obtain ⟨w, z, kh⟩ := hh
  refine ⟨_, pe_slice hr p q z, fun G H σ ρ f d ρ' Q R e hQ => ?_⟩
  unfold op3 at e
  obtain ⟨⟨dx, ρ1⟩, e1, e2⟩ := Option.bind_eq_some_iff.mp e
  obtain ⟨⟨ol, ρ2⟩, e3, e4⟩ := Option.bind_eq_some_iff.mp e2
  obtain ⟨⟨oh, ρ3⟩, e5, e6⟩ := Option.bind_eq_some_iff.mp e4
  obtain ⟨d', e7, e8⟩ := Option.map_eq_some_iff.mp e6
  cases e8
  refine ka G H σ ρ f dx ρ1 _ R e1 fun x G1 H1 f1 S1 R1 r1 => ?_
  refine kl G1 H1 σ ρ1 f1 ol ρ2 _ R1 e3 fun G2 H2 f2 S2 R2 => ?_
  refine kh G2 H2 σ ρ2 f2 oh ρ3 _ R2 e5 fun G3 H3 f3 S3 R3 => ?_
  have S13 := (S1.trans S2).trans S3
  refine L G3 H3 x dx d ol oh Q R3.sub (Fz.mono (S2.trans S3).sub r1) e7 fun v G4 H4 g r4 => ?_
  exact hQ v G4 H4 f3 (S13.trans (g.step M f3)) (R3.grow g) (res_back S13 R3 r4)
theorem fza_cut {K : PySem.W.Frag} {G : Hp} {vs : List V} {ds : List D} (r : FzA K G vs ds) (lo hi : Option Int) : FzA K G (cutV vs lo hi) (cutD ds lo hi) := by
  unfold cutV cutD
  rw [r.length]
  exact (r.drop _).take _
theorem l_slL {K : PySem.W.Frag} : LiftS K true (rSlL K) kSl := by
  intro G H x dx d lo hi Q s hx e hQ
  unfold kSl at e
  split at e
  · cases e
    obtain ⟨a, vs, rfl, ha, ra⟩ := hx.lst_inv
    refine ⟨a, vs, rfl, .inl (.inl (s _ _ ha)), fun p hp => ?_⟩
    obtain ⟨g, r⟩ := new_lst s (fza_cut ra lo hi) hp
    exact hQ _ _ _ g r
  · cases e
theorem l_slT {K : PySem.W.Frag} : LiftS K false (rSlA K) kSlT := by
  intro G H x dx d lo hi Q s hx e hQ
  unfold kSlT at e
  split at e
  · rename_i ds
    cases e
    obtain ⟨a, vs, rfl, ha, ra⟩ := hx.tup_inv
    refine ⟨a, vs, rfl, .inl (.inl (s _ _ ha)), fun z => ?_, fun _ p hp => ?_⟩
    · have e : cutD ds lo hi = ds := by
        unfold cutD
        rw [← ra.length, z.1, z.2]
        simp [ra.length]
      rw [e] at hQ
      exact hQ _ G H (.refl s) (.tup ha ra)
    · obtain ⟨g, r⟩ := new_tup s (fza_cut ra lo hi) hp
      exact hQ _ _ _ g r
  · cases e

/-! ### tests -/
def tB (fa : Ev) : Et := fun ρ => (fa ρ).bind fun p => match p.1 with | .bl b => some (b, p.2) | _ => none
theorem vt_val (ha : VE X M false a fa) (he : ∀ whole, isTrue a X.env whole = (do let v ← whole; standAt a.pos; holding [v] (truthy v)) := by intro _; rfl) : VT X M a (tB fa) := by
  obtain ⟨t, p, k⟩ := ha
  refine ⟨_, pt_val p he, fun G H σ ρ f b ρ' Q R e hQ => ?_⟩
  unfold tB at e
  obtain ⟨⟨d, ρ1⟩, e1, e2⟩ := Option.bind_eq_some_iff.mp e
  refine k G H σ ρ f d ρ1 _ R e1 fun v G' H' f' S R' r => ?_
  split at e2
  · rename_i i z
    cases e2
    simp only at z
    subst z
    exact ⟨b, Fz.bl_inv r, hQ G' H' f' S R'⟩
  · cases e2
theorem vt_cmp {op : CmpOp} {r : R2} {k : D → D → Option D} (ho : OpR X (compareOp op) r) (L : Lift2 X.K false r k) (ha : VE X M false a fa) (hb : VE X M false b fb) (hm : behindInMarks op b = false) : VT X M (.Compare a [op] [b] pos) (tB (op2 k fa fb)) := by
  obtain ⟨ta, pa, ka⟩ := ha
  obtain ⟨tb, pb, kb⟩ := hb
  refine ⟨_, pt_cmpR ho pa pb hm, fun G H σ ρ f b ρ' Q R e hQ => ?_⟩
  unfold tB at e
  obtain ⟨⟨d, ρ1⟩, e1, e2⟩ := Option.bind_eq_some_iff.mp e
  refine lift2_go L R e1 ka kb fun v G' H' f' S R' r => ?_
  split at e2
  · rename_i i z
    cases e2
    simp only at z
    subst z
    exact ⟨b, Fz.bl_inv r, hQ G' H' f' S R'⟩
  · cases e2
def tNotF (fa : Et) : Et := fun ρ => (fa ρ).map fun p => (!p.1, p.2)
def tAndF (fa fb : Et) : Et := fun ρ => (fa ρ).bind fun p => if p.1 then fb p.2 else some (false, p.2)
def tOrF (fa fb : Et) : Et := fun ρ => (fa ρ).bind fun p => if p.1 then some (true, p.2) else fb p.2
def VW (X : Cx) (M : List Nat) (e : Expr) (fn : Et) : Prop :=
  ∃ t : TT, PW X e t ∧ ∀ (G H : Hp) (σ : L2.St) (ρ : Rho) (f : Nat → List Addr) (b : Bool) (ρ' : Rho) (Q : Bool → Hp → Prop), Rel X.K M G H σ ρ f → fn ρ = some (b, ρ') →
    (∀ G' H' f', Step M f G H M f' G' H' → Rel X.K M G' H' σ ρ' f' → Q b H') → t σ H Q
variable {fc fd : Et} {rest : List Expr}
theorem VW.vt (h : VW X M a fc) : VT X M a fc := by
  obtain ⟨t, p, k⟩ := h
  exact ⟨t, p.pt, k⟩
theorem vt_not (h : VT X M a fc) : VT X M (.UnaryOp .Not a pos) (tNotF fc) := by
  obtain ⟨t, p, k⟩ := h
  refine ⟨_, pt_not p, fun G H σ ρ f b ρ' Q R e hQ => ?_⟩
  unfold tNotF at e
  obtain ⟨⟨c, ρ1⟩, e1, e2⟩ := Option.map_eq_some_iff.mp e
  cases e2
  exact k G H σ ρ f c ρ1 _ R e1 fun G' H' f' S R' => hQ G' H' f' S R'
theorem vw_and1 (h : VT X M a fc) : VW X M (.BoolOp .And [a] pos) fc := by
  obtain ⟨t, p, k⟩ := h
  exact ⟨_, pw_and1 p, k⟩
theorem vw_or1 (h : VT X M a fc) : VW X M (.BoolOp .Or [a] pos) fc := by
  obtain ⟨t, p, k⟩ := h
  exact ⟨_, pw_or1 p, k⟩
theorem vw_and (h : VT X M a fc) (hr : VW X M (.BoolOp .And (b :: rest) pos) fd) : VW X M (.BoolOp .And (a :: b :: rest) pos) (tAndF fc fd) := by
  obtain ⟨t, p, k⟩ := h
  obtain ⟨u, q, l⟩ := hr
  refine ⟨_, pw_and p q, fun G H σ ρ f b ρ' Q R e hQ => ?_⟩
  unfold tAndF at e
  obtain ⟨⟨c, ρ1⟩, e1, e2⟩ := Option.bind_eq_some_iff.mp e
  refine k G H σ ρ f c ρ1 _ R e1 fun G' H' f' S R' => ?_
  cases c with
  | true =>
    rw [if_pos rfl] at e2 ⊢
    exact l G' H' σ ρ1 f' b ρ' Q R' e2 fun G2 H2 f2 S2 R2 => hQ G2 H2 f2 (S.trans S2) R2
  | false =>
    rw [if_neg Bool.false_ne_true] at e2 ⊢
    cases e2
    exact hQ G' H' f' S R'
theorem vw_or (h : VT X M a fc) (hr : VW X M (.BoolOp .Or (b :: rest) pos) fd) : VW X M (.BoolOp .Or (a :: b :: rest) pos) (tOrF fc fd) := by
  obtain ⟨t, p, k⟩ := h
  obtain ⟨u, q, l⟩ := hr
  refine ⟨_, pw_or p q, fun G H σ ρ f b ρ' Q R e hQ => ?_⟩
  unfold tOrF at e
  obtain ⟨⟨c, ρ1⟩, e1, e2⟩ := Option.bind_eq_some_iff.mp e
  refine k G H σ ρ f c ρ1 _ R e1 fun G' H' f' S R' => ?_
  cases c with
  | false =>
    rw [if_neg Bool.false_ne_true] at e2 ⊢
    exact l G' H' σ ρ1 f' b ρ' Q R' e2 fun G2 H2 f2 S2 R2 => hQ G2 H2 f2 (S.trans S2) R2
  | true =>
    rw [if_pos rfl] at e2 ⊢
    cases e2
    exact hQ G' H' f' S R'
/-- and, or as values: all but the last bools -/
def eAnd (fa fb : Ev) : Ev := fun ρ => (fa ρ).bind fun p => match p.1 with | .bl true => fb p.2 | .bl false => some (.bl false, p.2) | _ => none
def eOr (fa fb : Ev) : Ev := fun ρ => (fa ρ).bind fun p => match p.1 with | .bl false => fb p.2 | .bl true => some (.bl true, p.2) | _ => none
def eNot (fa : Ev) : Ev := fun ρ => (fa ρ).bind fun p => match p.1 with | .bl b => some (.bl (!b), p.2) | _ => none
theorem ve_one {op} (h : VE X M false a fa) : VE X M false (.BoolOp op [a] pos) fa := by
  obtain ⟨t, p, k⟩ := h
  exact ⟨_, pe_one p, k⟩
theorem ve_and (ha : VE X M false a fa) (hb : VE X M false (.BoolOp .And (b :: rest) pos) fb) : VE X M false (.BoolOp .And (a :: b :: rest) pos) (eAnd fa fb) := by
  obtain ⟨t, p, k⟩ := ha
  obtain ⟨u, q, l⟩ := hb
  refine ⟨_, pe_and p q, fun G H σ ρ f d ρ' Q R e hQ => ?_⟩
  unfold eAnd at e
  obtain ⟨⟨c, ρ1⟩, e1, e2⟩ := Option.bind_eq_some_iff.mp e
  refine k G H σ ρ f c ρ1 _ R e1 fun v G' H' f' S R' r => ?_
  split at e2
  · rename_i z
    simp only at z
    subst z
    refine ⟨true, Fz.bl_inv r, ?_⟩
    rw [if_pos rfl]
    exact l G' H' σ ρ1 f' d ρ' Q R' e2 fun v2 G2 H2 f2 S2 R2 r2 => hQ v2 G2 H2 f2 (S.trans S2) R2 r2
  · rename_i z
    simp only at z
    subst z
    cases e2
    refine ⟨false, Fz.bl_inv r, ?_⟩
    rw [if_neg Bool.false_ne_true]
    exact hQ _ G' H' f' S R' (Fz.bl false)
  · cases e2
theorem ve_or (ha : VE X M false a fa) (hb : VE X M false (.BoolOp .Or (b :: rest) pos) fb) : VE X M false (.BoolOp .Or (a :: b :: rest) pos) (eOr fa fb) := by
  obtain ⟨t, p, k⟩ := ha
  obtain ⟨u, q, l⟩ := hb
  refine ⟨_, pe_or p q, fun G H σ ρ f d ρ' Q R e hQ => ?_⟩
  unfold eOr at e
  obtain ⟨⟨c, ρ1⟩, e1, e2⟩ := Option.bind_eq_some_iff.mp e
  refine k G H σ ρ f c ρ1 _ R e1 fun v G' H' f' S R' r => ?_
  split at e2
  · rename_i z
    simp only at z
    subst z
    refine ⟨false, Fz.bl_inv r, ?_⟩
    rw [if_neg Bool.false_ne_true]
    exact l G' H' σ ρ1 f' d ρ' Q R' e2 fun v2 G2 H2 f2 S2 R2 r2 => hQ v2 G2 H2 f2 (S.trans S2) R2 r2
  · rename_i z
    simp only at z
    subst z
    cases e2
    refine ⟨true, Fz.bl_inv r, ?_⟩
    rw [if_pos rfl]
    exact hQ _ G' H' f' S R' (Fz.bl true)
  · cases e2
theorem ve_not (ha : VE X M false a fa) : VE X M false (.UnaryOp .Not a pos) (eNot fa) := by
  obtain ⟨t, p, k⟩ := ha
  refine ⟨_, pe_not p, fun G H σ ρ f d ρ' Q R e hQ => ?_⟩
  unfold eNot at e
  obtain ⟨⟨c, ρ1⟩, e1, e2⟩ := Option.bind_eq_some_iff.mp e
  refine k G H σ ρ f c ρ1 _ R e1 fun v G' H' f' S R' r => ?_
  split at e2
  · rename_i z
    simp only at z
    subst z
    cases e2
    exact ⟨_, Fz.bl_inv r, hQ _ G' H' f' S R' (Fz.bl _)⟩
  · cases e2
/-- a if c else b -/
def eIf (fc : Et) (fa fb : Ev) : Ev := fun ρ => (fc ρ).bind fun p => if p.1 then fa p.2 else fb p.2
theorem ve_if {c : Expr} (hc : VT X M c fc) (ha : VE X M m a fa) (hb : VE X M m b fb) : VE X M m (.IfExp c a b pos) (eIf fc fa fb) := by
  obtain ⟨t, p, k⟩ := hc
  obtain ⟨ta, pa, ka⟩ := ha
  obtain ⟨tb, pb, kb⟩ := hb
  refine ⟨_, pe_ifExp p pa pb, fun G H σ ρ f d ρ' Q R e hQ => ?_⟩
  unfold eIf at e
  obtain ⟨⟨c, ρ1⟩, e1, e2⟩ := Option.bind_eq_some_iff.mp e
  have back : ∀ {v : V} {G' H' G2 H2 : Hp} {f' f2 : Nat → List Addr}, Step M f G H M f' G' H' → Res m X.K G2 H2 M f2 M H' f' v d → Res m X.K G2 H2 M f2 M H f v d := fun {v G' H' G2 H2 f' f2} S r => by
    cases m with
    | false => exact r
    | true =>
      obtain ⟨fp, o, q⟩ := r
      refine ⟨fp, o, fun x hx => ⟨(q x hx).1, ?_⟩⟩
      rcases (q x hx).2 with z | z
      · exact S.own x z
      · refine .inr ?_
        cases w : H x with
        | none => rfl
        | some u => exact absurd z (S.live x (by rw [w]; simp))
  refine k G H σ ρ f c ρ1 _ R e1 fun G' H' f' S R' => ?_
  cases c with
  | true =>
    rw [if_pos rfl] at e2 ⊢
    exact ka G' H' σ ρ1 f' d ρ' Q R' e2 fun v G2 H2 f2 S2 R2 r => hQ v G2 H2 f2 (S.trans S2) R2 (back S r)
  | false =>
    rw [if_neg Bool.false_ne_true] at e2 ⊢
    exact kb G' H' σ ρ1 f' d ρ' Q R' e2 fun v G2 H2 f2 S2 R2 r => hQ v G2 H2 f2 (S.trans S2) R2 (back S r)
end

/-! ### built-in functions -/
section
variable {K : PySem.W.Frag}
theorem FzA.one {G : Hp} {vs : List V} {d : D} (h : FzA K G vs [d]) : ∃ v, vs = [v] ∧ Fz K G v d := by
  cases h with
  | cons h t => cases t; exact ⟨_, rfl, h⟩
theorem FzA.two {G : Hp} {vs : List V} {d e : D} (h : FzA K G vs [d, e]) : ∃ v w, vs = [v, w] ∧ Fz K G v d ∧ Fz K G w e := by
  cases h with
  | cons h t =>
    obtain ⟨w, rfl, h2⟩ := t.one
    exact ⟨_, _, rfl, h, h2⟩
def kAbs : List D → Option D | [.int i] => some (.int (if i < 0 then -i else i)) | _ => none
def kMax2 : List D → Option D | [.int i, .int j] => some (.int (if j > i then j else i)) | _ => none
def kMin2 : List D → Option D | [.int i, .int j] => some (.int (if j < i then j else i)) | _ => none
def kInt : List D → Option D | [.int i] => some (.int i) | [.bl b] => some (.int (if b then 1 else 0)) | _ => none
theorem l_abs : LiftN K false (fun xs H Q => ∃ i, xs = [.int i] ∧ Q (.int (if i < 0 then -i else i)) H) kAbs := by
  intro G H xs ds d Q s h e hQ
  unfold kAbs at e
  split at e
  · cases e
    obtain ⟨v, rfl, h1⟩ := h.one
    exact ⟨_, by rw [h1.int_inv], hQ _ G H (.refl s) (.int _)⟩
  · cases e
theorem l_max2 : LiftN K false (fun xs H Q => ∃ i j, xs = [.int i, .int j] ∧ Q (.int (if j > i then j else i)) H) kMax2 := by
  intro G H xs ds d Q s h e hQ
  unfold kMax2 at e
  split at e
  · cases e
    obtain ⟨v, w, rfl, h1, h2⟩ := h.two
    exact ⟨_, _, by rw [h1.int_inv, h2.int_inv], hQ _ G H (.refl s) (.int _)⟩
  · cases e
theorem l_min2 : LiftN K false (fun xs H Q => ∃ i j, xs = [.int i, .int j] ∧ Q (.int (if j < i then j else i)) H) kMin2 := by
  intro G H xs ds d Q s h e hQ
  unfold kMin2 at e
  split at e
  · cases e
    obtain ⟨v, w, rfl, h1, h2⟩ := h.two
    exact ⟨_, _, by rw [h1.int_inv, h2.int_inv], hQ _ G H (.refl s) (.int _)⟩
  · cases e
theorem l_int : LiftN K false (fun xs H Q => (∃ i, xs = [.int i] ∧ Q (.int i) H) ∨ ∃ k, xs = [.bl k] ∧ Q (.int (if k then 1 else 0)) H) kInt := by
  intro G H xs ds d Q s h e hQ
  unfold kInt at e
  split at e
  · cases e
    obtain ⟨v, rfl, h1⟩ := h.one
    exact .inl ⟨_, by rw [h1.int_inv], hQ _ G H (.refl s) (.int _)⟩
  · cases e
    obtain ⟨v, rfl, h1⟩ := h.one
    exact .inr ⟨_, by rw [h1.bl_inv], hQ _ G H (.refl s) (.int _)⟩
  · cases e
def kLen : List D → Option D
  | [.lst ds] => some (.int ds.length)
  | [.tup ds] => some (.int ds.length)
  | _ => none
theorem l_len : LiftN K false (fun xs H Q => ∃ p ys, xs = [.ref p] ∧ (SqL K H p ys ∨ SqT K H p ys) ∧ Q (.int ys.length) H) kLen := by
  intro G H xs ds d Q s h e hQ
  unfold kLen at e
  split at e
  · cases e
    obtain ⟨v, rfl, h1⟩ := h.one
    obtain ⟨a, vs, rfl, ha, ra⟩ := h1.lst_inv
    exact ⟨a, vs, rfl, .inl (.inl (.inl (s _ _ ha))), by rw [ra.length]; exact hQ _ G H (.refl s) (.int _)⟩
  · cases e
    obtain ⟨v, rfl, h1⟩ := h.one
    obtain ⟨a, vs, rfl, ha, ra⟩ := h1.tup_inv
    exact ⟨a, vs, rfl, .inr (.inl (.inl (s _ _ ha))), by rw [ra.length]; exact hQ _ G H (.refl s) (.int _)⟩
  · cases e
def kList : List D → Option D
  | [.lst ds] => some (.lst ds)
  | [.tup ds] => some (.lst ds)
  | _ => none
theorem l_list : LiftN K true (fun xs H Q => ∃ p ys, xs = [.ref p] ∧ (SqL K H p ys ∨ SqT K H p ys) ∧ ∀ l, H l = none → Q (.ref l) (upd H l (.lst ys))) kList := by
  intro G H xs ds d Q s h e hQ
  unfold kList at e
  split at e
  · cases e
    obtain ⟨v, rfl, h1⟩ := h.one
    obtain ⟨a, vs, rfl, ha, ra⟩ := h1.lst_inv
    refine ⟨a, vs, rfl, .inl (.inl (.inl (s _ _ ha))), fun p hp => ?_⟩
    obtain ⟨g, r⟩ := new_lst s ra hp
    exact hQ _ _ _ g r
  · cases e
    obtain ⟨v, rfl, h1⟩ := h.one
    obtain ⟨a, vs, rfl, ha, ra⟩ := h1.tup_inv
    refine ⟨a, vs, rfl, .inr (.inl (.inl (s _ _ ha))), fun p hp => ?_⟩
    obtain ⟨g, r⟩ := new_lst s ra hp
    exact hQ _ _ _ g r
  · cases e
def kTuple : List D → Option D
  | [.lst ds] => some (.tup ds)
  | [.tup ds] => some (.tup ds)
  | _ => none
theorem l_tuple : LiftN K false (fun xs H Q => ∃ p ys, xs = [.ref p] ∧ ((SqL K H p ys ∧ ∀ l, H l = none → Q (.ref l) (upd H l (.tup ys))) ∨ (SqT K H p ys ∧ Q (.ref p) H))) kTuple := by
  intro G H xs ds d Q s h e hQ
  unfold kTuple at e
  split at e
  · cases e
    obtain ⟨v, rfl, h1⟩ := h.one
    obtain ⟨a, vs, rfl, ha, ra⟩ := h1.lst_inv
    refine ⟨a, vs, rfl, .inl ⟨.inl (.inl (s _ _ ha)), fun p hp => ?_⟩⟩
    obtain ⟨g, r⟩ := new_tup s ra hp
    exact hQ _ _ _ g r
  · cases e
    obtain ⟨v, rfl, h1⟩ := h.one
    obtain ⟨a, vs, rfl, ha, ra⟩ := h1.tup_inv
    exact ⟨a, vs, rfl, .inr ⟨.inl (.inl (s _ _ ha)), hQ _ G H (.refl s) (.tup ha ra)⟩⟩
  · cases e
/-- ints of data -/
def intsD : List D → Option (List Int)
  | [] => some []
  | .int i :: ds => (intsD ds).map fun r => i :: r
  | _ => none
theorem ints_of {G : Hp} : ∀ {vs : List V} {ds : List D} {ns : List Int}, FzA K G vs ds → intsD ds = some ns → vs = ns.map V.int
  | _, _, _, .nil, e => by cases e; rfl
  | _, d :: ds, ns, .cons h t, e => by
    cases h <;> first | (unfold intsD at e; cases e; done) | skip
    unfold intsD at e
    obtain ⟨r, e1, e2⟩ := Option.map_eq_some_iff.mp e
    subst e2
    rw [ints_of t e1]
    rfl
theorem ints_map (ns : List Int) : intsD (ns.map D.int) = some ns := by
  induction ns with
  | nil => rfl
  | cons n r ih => simp [intsD, ih]
def blsD : List D → Option (List Bool)
  | [] => some []
  | .bl i :: ds => (blsD ds).map fun r => i :: r
  | _ => none
theorem bls_of {G : Hp} : ∀ {vs : List V} {ds : List D} {ns : List Bool}, FzA K G vs ds → blsD ds = some ns → vs = ns.map V.bl
  | _, _, _, .nil, e => by cases e; rfl
  | _, d :: ds, ns, .cons h t, e => by
    cases h <;> first | (unfold blsD at e; cases e; done) | skip
    unfold blsD at e
    obtain ⟨r, e1, e2⟩ := Option.map_eq_some_iff.mp e
    subst e2
    rw [bls_of t e1]
    rfl
theorem bls_map (ns : List Bool) : blsD (ns.map D.bl) = some ns := by
  induction ns with
  | nil => rfl
  | cons n r ih => simp [blsD, ih]
def kAny : List D → Option D | [.lst ds] => (blsD ds).map fun bs => .bl (bs.any id) | _ => none
def kAll : List D → Option D | [.lst ds] => (blsD ds).map fun bs => .bl (bs.all id) | _ => none
def kSum : List D → Option D | [.lst ds] => (intsD ds).map fun bs => .int bs.sum | _ => none
theorem l_any : LiftN K false (rAny K) kAny := by
  intro G H xs ds d Q s h e hQ
  unfold kAny at e
  split at e
  · obtain ⟨bs, e1, e2⟩ := Option.map_eq_some_iff.mp e
    cases e2
    obtain ⟨v, rfl, h1⟩ := h.one
    obtain ⟨a, vs, rfl, ha, ra⟩ := h1.lst_inv
    exact ⟨a, bs, rfl, by rw [← bls_of ra e1]; exact .inl (.inl (s _ _ ha)), hQ _ G H (.refl s) (.bl _)⟩
  · cases e
theorem l_all : LiftN K false (rAll K) kAll := by
  intro G H xs ds d Q s h e hQ
  unfold kAll at e
  split at e
  · obtain ⟨bs, e1, e2⟩ := Option.map_eq_some_iff.mp e
    cases e2
    obtain ⟨v, rfl, h1⟩ := h.one
    obtain ⟨a, vs, rfl, ha, ra⟩ := h1.lst_inv
    exact ⟨a, bs, rfl, by rw [← bls_of ra e1]; exact .inl (.inl (s _ _ ha)), hQ _ G H (.refl s) (.bl _)⟩
  · cases e
theorem l_sum : LiftN K false (rSum K) kSum := by
  intro G H xs ds d Q s h e hQ
  unfold kSum at e
  split at e
  · obtain ⟨bs, e1, e2⟩ := Option.map_eq_some_iff.mp e
    cases e2
    obtain ⟨v, rfl, h1⟩ := h.one
    obtain ⟨a, vs, rfl, ha, ra⟩ := h1.lst_inv
    exact ⟨a, bs, rfl, by rw [← ints_of ra e1]; exact .inl (.inl (s _ _ ha)), hQ _ G H (.refl s) (.int _)⟩
  · cases e
end

/-! ### the view: all owned slots frozen for a moment; the value is flat -/
mutual
def D.flat : D → Bool
  | .non => true
  | .bl _ => true
  | .int _ => true
  | .str _ => true
  | .tup xs => flats xs
  | _ => false
def flats : List D → Bool
  | [] => true
  | d :: ds => D.flat d && flats ds
end
/- flat data lies in what holds tuples alone -/
mutual
theorem Fz.flatten {K : PySem.W.Frag} {G G' : Hp} (s : ∀ b xs, G b = some (.tup xs) → G' b = some (.tup xs)) : ∀ {v : V} {d : D}, Fz K G v d → d.flat = true → Fz K G' v d
  | _, _, .non, _ => .non
  | _, _, .bl b, _ => .bl b
  | _, _, .int i, _ => .int i
  | _, _, .str x, _ => .str x
  | _, _, .tup q r, h => .tup (s _ _ q) (FzA.flatten s r (by rw [D.flat] at h; exact h))
  | _, _, .lst _ _, h => by simp [D.flat] at h
  | _, _, .dic _ _ _, h => by simp [D.flat] at h
  | _, _, .dit _ _ _, h => by simp [D.flat] at h
  | _, _, .src, h => by simp [D.flat] at h
  | _, _, .scr _, h => by simp [D.flat] at h
theorem FzA.flatten {K : PySem.W.Frag} {G G' : Hp} (s : ∀ b xs, G b = some (.tup xs) → G' b = some (.tup xs)) : ∀ {vs : List V} {ds : List D}, FzA K G vs ds → flats ds = true → FzA K G' vs ds
  | _, _, .nil, _ => .nil
  | _, _, .cons h t, q => by
    rw [flats, Bool.and_eq_true] at q
    exact .cons (Fz.flatten s h q.1) (FzA.flatten s t q.2)
end
/-- flat inside -/
def D.flatIn : D → Bool
  | .lst xs => flats xs
  | .dic kvs => flats (kvs.map (·.2))
  | .dit kvs => flats (kvs.map (·.2))
  | _ => false
def eView (m : Bool) (fa : Ev) : Ev := fun ρ => (fa ρ).bind fun p => if (match m with | false => p.1.flat | true => p.1.flatIn) then some (p.1, ρ) else none
theorem Own.flatten {K : PySem.W.Frag} {G G' H H' : Hp} {v : V} {d : D} {fp : List Addr} (o : Own K G H v d fp) (hf : d.flatIn = true) (s : ∀ b xs, G b = some (.tup xs) → G' b = some (.tup xs)) (hH : ∀ b, b ∈ fp → H' b = H b) (hG : ∀ b, b ∈ fp → G' b = none) : Own K G' H' v d fp := by
  cases o with
  | lst h1 h2 r => exact .lst ((hH _ (by simp)).trans h1) (hG _ (by simp)) (r.flatten s hf)
  | dic h1 h2 e r => exact .dic ((hH _ (by simp)).trans h1) (hG _ (by simp)) e (r.flatten s hf)
  | dit h1 h2 e r => exact .dit ((hH _ (by simp)).trans h1) (hG _ (by simp)) e (r.flatten s hf)
  | src h1 h2 h3 h4 e => simp [D.flatIn] at hf
theorem ve_view {X : Cx} {M : List Nat} {m : Bool} {e : Expr} {fa : Ev} (h : VE X [] m e fa) : VE X M m e (eView m fa) := by
  classical
  obtain ⟨t, p, k⟩ := h
  refine ⟨t, p, fun G H σ ρ f d ρ' Q R e hQ => ?_⟩
  unfold eView at e
  obtain ⟨⟨d0, ρ0⟩, e1, e2⟩ := Option.bind_eq_some_iff.mp e
  let G1 : Hp := fun b => if Ow M f b then H b else G b
  have g1 : ∀ b, Ow M f b → G1 b = H b := fun b hb => if_pos hb
  have g0 : ∀ b, ¬ Ow M f b → G1 b = G b := fun b hb => if_neg hb
  have noG : ∀ b, Ow M f b → G b = none := fun b ⟨i, hi, hb⟩ => by
    obtain ⟨_, _, _, _, o⟩ := R.ow i hi
    exact (o.here b hb).2
  have inH : ∀ b, Ow M f b → H b ≠ none := fun b ⟨i, hi, hb⟩ => by
    obtain ⟨_, _, _, _, o⟩ := R.ow i hi
    exact (o.here b hb).1
  have noT : ∀ b, Ow M f b → ∀ xs, H b ≠ some (.tup xs) := fun b ⟨i, hi, hb⟩ => by
    obtain ⟨_, _, _, _, o⟩ := R.ow i hi
    exact o.noTup b hb
  have s1 : Same G G1 := fun b u q => by
    by_cases hb : Ow M f b
    · rw [noG b hb] at q; cases q
    · rw [g0 b hb]; exact q
  have s2 : Same G1 H := fun b u q => by
    by_cases hb : Ow M f b
    · rw [g1 b hb] at q; exact q
    · rw [g0 b hb] at q; exact R.sub b u q
  have R1 : Rel X.K [] G1 H σ ρ f := ⟨s2, R.len, fun i d e _ => by
    by_cases hi : i ∈ M
    · obtain ⟨d', v, h1, h2, o⟩ := R.ow i hi
      rw [h1] at e
      cases e
      exact .inr ⟨v, h2, o.freeze s1 fun b hb => g1 b ⟨i, hi, hb⟩⟩
    · rcases R.fz i d e hi with z | ⟨v, h1, h2⟩
      · exact .inl z
      · exact .inr ⟨v, h1, h2.mono s1⟩, fun i hi => (nomatch hi), fun i hi => (nomatch hi)⟩
  refine k G1 H σ ρ f d0 ρ0 _ R1 e1 fun v G' H' f' S R' r => ?_
  have keepH : ∀ b o, H b = some o → H' b = some o := fun b o q => S.keep b o q fun ⟨i, hi, _⟩ => nomatch hi
  let G2 : Hp := fun b => if Ow M f b then none else G' b
  have g2 : ∀ b, Ow M f b → G2 b = none := fun b hb => if_pos hb
  have g3 : ∀ b, ¬ Ow M f b → G2 b = G' b := fun b hb => if_neg hb
  have s3 : Same G G2 := fun b u q => by
    by_cases hb : Ow M f b
    · rw [noG b hb] at q; cases q
    · rw [g3 b hb]; exact S.sub b u (s1 b u q)
  have s4 : Same G2 H' := fun b u q => by
    by_cases hb : Ow M f b
    · rw [g2 b hb] at q; cases q
    · rw [g3 b hb] at q; exact R'.sub b u q
  have tups : ∀ b xs, G' b = some (.tup xs) → G2 b = some (.tup xs) := fun b xs q => by
    by_cases hb : Ow M f b
    · have z := R'.sub b _ q
      cases w : H b with
      | none => exact absurd w (inH b hb)
      | some u =>
        rw [keepH b u w] at z
        cases z
        exact absurd w (noT b hb xs)
    · rw [g3 b hb]; exact q
  have S2 : Step M f G H M f G2 H' := by
    refine ⟨s3, fun b hb => ?_, fun b o q _ => keepH b o q, S.live, fun b hb => .inl hb⟩
    by_cases w : Ow M f b
    · exact .inr (.inr w)
    · rw [g3 b w] at hb
      rcases S.new b hb with z | z | ⟨i, hi, _⟩
      · rw [g0 b w] at z
        exact .inl z
      · exact .inr (.inl z)
      · exact nomatch hi
  have R2 : Rel X.K M G2 H' σ ρ f := by
    refine ⟨s4, R.len, fun i d e hi => ?_, fun i hi => ?_, R.dis⟩
    · rcases R.fz i d e hi with z | ⟨v, h1, h2⟩
      · exact .inl z
      · exact .inr ⟨v, h1, h2.mono s3⟩
    · obtain ⟨d', v', h1, h2, o⟩ := R.ow i hi
      exact ⟨d', v', h1, h2, o.move s3 (fun b _ u q => keepH b u q) fun b hb => g2 b ⟨i, hi, hb⟩⟩
  cases m with
  | false =>
    simp only at e2
    split at e2
    · rename_i hf
      cases e2
      exact hQ v G2 H' f S2 R2 (Fz.flatten tups r hf)
    · cases e2
  | true =>
    simp only at e2
    split at e2
    · rename_i hf
      cases e2
      obtain ⟨fp, o, q⟩ := r
      have new : ∀ b, b ∈ fp → H b = none := fun b hb => by
        rcases (q b hb).2 with ⟨i, hi, _⟩ | z
        · exact nomatch hi
        · exact z
      refine hQ v G2 H' f S2 R2 ⟨fp, o.flatten hf tups (fun _ _ => rfl) (fun b hb => ?_), fun b hb => ⟨fun w => ?_, .inr (new b hb)⟩⟩
      · rw [g3 b (fun w => inH b w (new b hb))]
        exact (o.here b hb).2
      · exact inH b w (new b hb)
    · cases e2
end Bl

set_option Elab.async false
set_option linter.all false
set_option maxRecDepth 100000
set_option maxHeartbeats 4000000
/-! Vl3: targets, walks, comprehensions, statements, loops. -/
namespace Bl
open PySem PySem.Spec PyProof.Rows L2

/-! ### the readings by data, whatever the context -/
def tOf (K : PySem.W.Frag) (M : List Nat) (m : Bool) (fn : Ev) : TE := fun σ H Q => ∃ G ρ f d ρ', Rel K M G H σ ρ f ∧ fn ρ = some (d, ρ') ∧
  ∀ v G' H' f', Step M f G H M f' G' H' → Rel K M G' H' σ ρ' f' → Res m K G' H' M f' M H f v d → Q v H'
def tTOf (K : PySem.W.Frag) (M : List Nat) (fn : Et) : TT := fun σ H Q => ∃ G ρ f b ρ', Rel K M G H σ ρ f ∧ fn ρ = some (b, ρ') ∧
  ∀ G' H' f', Step M f G H M f' G' H' → Rel K M G' H' σ ρ' f' → Q b H'
/-- alike but at ts -/
def Eqx (ts : List Nat) (σ σ' : L2.St) : Prop := σ'.length = σ.length ∧ ∀ j, j ∉ ts → σ'[j]? = σ[j]?
abbrev Eg := D → Rho → Option Rho
def gOf (K : PySem.W.Frag) (M ts : List Nat) (fg : Eg) : TG := fun v σ H Q => ∃ G ρ f d ρ', Rel K M G H σ ρ f ∧ Fz K G v d ∧ fg d ρ = some ρ' ∧
  ∀ σ', Rel K M G H σ' ρ' f → Eqx ts σ σ' → Q σ' H
theorem VE.pe {X : Cx} {M : List Nat} {m : Bool} {e : Expr} {fn : Ev} (h : VE X M m e fn) : PE X e (tOf X.K M m fn) := by
  obtain ⟨t, p, k⟩ := h
  exact ⟨fun pins s σ H Q I ⟨G, ρ, f, d, ρ', R, e, hQ⟩ => p.run pins s σ H Q I (k G H σ ρ f d ρ' Q R e hQ)⟩
theorem VT.pt {X : Cx} {M : List Nat} {e : Expr} {fn : Et} (h : VT X M e fn) : PT X e (tTOf X.K M fn) := by
  obtain ⟨t, p, k⟩ := h
  exact ⟨fun pins s σ H Q I ⟨G, ρ, f, d, ρ', R, e, hQ⟩ => p.run pins s σ H Q I (k G H σ ρ f d ρ' Q R e hQ)⟩
/-- tests of a comprehension -/
def VTs (X : Cx) (M : List Nat) (es : List Expr) (fn : Et) : Prop := PTs X es (tTOf X.K M fn)
def fYes : Et := fun ρ => some (true, ρ)
theorem vts_nil {X : Cx} {M : List Nat} : VTs X M [] fYes := ⟨fun pins s σ H Q I ⟨G, ρ, f, b, ρ', R, e, hQ⟩ => by
  cases e
  exact wpAny_tests_nil ⟨H, I, hQ G H f .refl R⟩⟩
theorem vts_one {X : Cx} {M : List Nat} {c : Expr} {fn : Et} (h : VT X M c fn) : VTs X M [c] fn := pts_one h.pt
/-- targets -/
def VG (X : Cx) (M ts : List Nat) (tg : Expr) (fg : Eg) : Prop := PG X tg (gOf X.K M ts fg)
def gSet (i : Nat) : Eg := fun d ρ => some (ρ.set i d)
theorem Rel.setF {K : PySem.W.Frag} {M : List Nat} {G H : Hp} {σ : L2.St} {ρ : Rho} {f : Nat → List Addr} {i : Nat} {v : V} {d : D} (R : Rel K M G H σ ρ f) (hi : i ∉ M) (hv : Fz K G v d) : Rel K M G H (σ.set i (some v)) (ρ.set i d) f := by
  refine ⟨R.sub, by simp [R.len], fun j e hj hm => ?_, fun j hj => ?_, R.dis⟩
  · by_cases q : i = j
    · subst q
      have hl : i < ρ.length := by
        have := (List.getElem?_eq_some_iff.mp hj).1
        simpa using this
      rw [List.getElem?_set_self hl] at hj
      cases hj
      exact .inr ⟨v, by rw [List.getElem?_set_self (by rw [R.len]; exact hl)], hv⟩
    · rw [List.getElem?_set_ne q] at hj
      rw [List.getElem?_set_ne q]
      exact R.fz j e hj hm
  · have q : i ≠ j := fun z => hi (z ▸ hj)
    rw [List.getElem?_set_ne q, List.getElem?_set_ne q]
    exact R.ow j hj
theorem eqx_set {ts : List Nat} {σ : L2.St} {i : Nat} {v : Option V} (h : i ∈ ts) : Eqx ts σ (σ.set i v) := ⟨by simp, fun j hj => List.getElem?_set_ne fun z => hj (by rw [← z]; exact h)⟩
theorem Eqx.refl {ts : List Nat} {σ : L2.St} : Eqx ts σ σ := ⟨rfl, fun _ _ => rfl⟩
theorem Eqx.trans {ts : List Nat} {σ σ1 σ2 : L2.St} (a : Eqx ts σ σ1) (b : Eqx ts σ1 σ2) : Eqx ts σ σ2 := ⟨b.1.trans a.1, fun j hj => (b.2 j hj).trans (a.2 j hj)⟩
theorem Eqx.mono {ts us : List Nat} {σ σ1 : L2.St} (a : Eqx ts σ σ1) (h : ∀ j, j ∈ ts → j ∈ us) : Eqx us σ σ1 := ⟨a.1, fun j hj => a.2 j fun z => hj (h j z)⟩
section
variable {X : Cx} {M ts : List Nat} {pos : Pos}
theorem vg_name (i : Nat) {x : Str} (hN : X.N.Nodup) (hm : (M.contains i) = false) (hx : Loc X.env.scope x := by first | exact Or.inl rfl | exact Or.inr rfl) (hi : X.N[i]? = some x := by rfl) (hf : X.fn x = true ∨ X.env.scope.names.lookup x = some .local := by first | exact .inl rfl | exact .inr rfl) : VG X M [i] (.Name x pos) (gSet i) := by
  refine ⟨fun pins s σ H v u Q I r ⟨G, ρ, f, d, ρ', R, hv, e, hQ⟩ => ?_⟩
  cases e
  exact (pg_name (pos := pos) hN hi hx hf).run pins s σ H v u Q I r (hQ _ (R.setF (by simpa using hm) hv) (eqx_set (by simp)))
/-- several targets of a tuple -/
abbrev Egs := List D → Rho → Option Rho
def gsOf (K : PySem.W.Frag) (M ts : List Nat) (fg : Egs) : TGs := fun vs σ H Q => ∃ G ρ f ds ρ', Rel K M G H σ ρ f ∧ FzA K G vs ds ∧ fg ds ρ = some ρ' ∧
  ∀ σ', Rel K M G H σ' ρ' f → Eqx ts σ σ' → Q σ' H
def VGs (X : Cx) (M ts : List Nat) (tg : List Expr) (fg : Egs) : Prop := PGs X tg (gsOf X.K M ts fg)
def gsNil : Egs := fun ds ρ => match ds with | [] => some ρ | _ => none
def gsCons (fa : Eg) (fr : Egs) : Egs := fun ds ρ => match ds with | d :: r => (fa d ρ).bind fun ρ1 => fr r ρ1 | [] => none
theorem vgs_nil : VGs X M [] [] gsNil := ⟨fun pins s σ H vs us Q I r ⟨G, ρ, f, ds, ρ', R, hv, e, hQ⟩ => by
  cases hv with
  | nil =>
    cases e
    exact pgs_nil.run pins s σ H [] us Q I r ⟨rfl, hQ σ R .refl⟩
  | cons _ _ => cases e⟩
theorem vgs_cons {us : List Nat} {a : Expr} {es : List Expr} {fa : Eg} {fr : Egs} (ha : VG X M ts a fa) (hr : VGs X M us es fr) (hs : (assignEach (a :: es) X.env).map (·.2) = assign a X.env :: (assignEach es X.env).map (·.2) := by rfl) : VGs X M (ts ++ us) (a :: es) (gsCons fa fr) := by
  refine ⟨fun pins s σ H vs ws Q I r ⟨G, ρ, f, ds, ρ', R, hv, e, hQ⟩ => ?_⟩
  cases hv with
  | nil => cases e
  | @cons v vr d dr h1 h2 =>
    obtain ⟨ρ1, e1, e2⟩ := Option.bind_eq_some_iff.mp (show (fa d ρ).bind (fun ρ1 => fr dr ρ1) = some ρ' from e)
    refine (pgs_cons (t := gOf X.K M ts fa) (u := gsOf X.K M us fr) ha hr hs).run pins s σ H _ ws Q I r ⟨v, vr, rfl, G, ρ, f, d, ρ1, R, h1, e1, fun σ1 R1 x1 => ?_⟩
    exact ⟨G, ρ1, f, dr, ρ', R1, h2, e2, fun σ2 R2 x2 => hQ σ2 R2 ((x1.mono fun j hj => List.mem_append_left _ hj).trans (x2.mono fun j hj => List.mem_append_right _ hj))⟩
def gTupF (fg : Egs) : Eg := fun d ρ => match d with | .tup ds => fg ds ρ | _ => none
theorem vg_tup {es : List Expr} {k n : Nat} {fg : Egs} (hc : X.calm = true) (h : VGs X M ts es fg) (hlen : ∀ ds ρ ρ', fg ds ρ = some ρ' → ds.length = n) (hn : (assignEach es X.env).length = n := by rfl) (hst : (assignEach es X.env).findIdx? (·.1) = none := by rfl) :
    VG X M ts (.Tuple es k pos) (gTupF fg) := by
  refine ⟨fun pins s σ H v u Q I r ⟨G, ρ, f, d, ρ', R, hv, e, hQ⟩ => ?_⟩
  unfold gTupF at e
  split at e
  · rename_i ds
    obtain ⟨a, vs, rfl, h1, h2⟩ := hv.tup_inv
    refine (pg_tup (t := gsOf X.K M ts fg) (k := k) (pos := pos) hc h hn hst).run pins s σ H _ u Q I r ⟨a, vs, rfl, .inl (.inl (R.sub _ _ h1)), by rw [h2.length]; exact hlen _ _ _ e, G, ρ, f, ds, ρ', R, h2, e, hQ⟩
  · cases e
end

/-! ### what is walked -/
def Walks (K : PySem.W.Frag) (J : It) (G0 : Hp) (ds : List D) : Prop := ∀ (i : Nat) (G H : Hp), Same G0 G → Same G H →
  (ds.length = i → J.stop i H) ∧ ∀ d, ds[i]? = some d → J.go i H ∧ ∀ x H', J.yld i H x H' → ∃ G', Grow G H G' H' ∧ Fz K G' x d
def VI (X : Cx) (M : List Nat) (tg iter : Expr) (fn : Ea) : Prop :=
  ∃ wi : TI, PI X tg iter wi ∧ ∀ (G H : Hp) (σ : L2.St) (ρ : Rho) (f : Nat → List Addr) (ds : List D) (ρ' : Rho) (Q : It → Hp → Prop), Rel X.K M G H σ ρ f → fn ρ = some (ds, ρ') →
    (∀ J G' H' f', Step M f G H M f' G' H' → Rel X.K M G' H' σ ρ' f' → Walks X.K J G' ds → Q J H') → wi σ H Q
def iLst (fa : Ev) : Ea := fun ρ => (fa ρ).bind fun p => match p.1 with | .lst ds => some (ds, p.2) | _ => none
def iTupF (fa : Ev) : Ea := fun ρ => (fa ρ).bind fun p => match p.1 with | .tup ds => some (ds, p.2) | _ => none
def iScr (fa : Ev) : Ea := fun ρ => (fa ρ).bind fun p => match p.1 with | .scr ns => some (ns.map D.int, p.2) | _ => none
def in62 (j : Int) : Bool := decide (j.natAbs < 2 ^ 62)
theorem in62_of {j : Int} (h : in62 j = true) : -(2 ^ 62) ≤ j ∧ j < 2 ^ 62 := by
  have h := of_decide_eq_true h
  omega
/-- lo, lo + 1, .. -/
def rangeD (lo hi : Int) : List D := (List.range (hi - lo).toNat).map fun i => .int (lo + (i : Nat))
def iRange1 (fa : Ea) : Ea := fun ρ => (fa ρ).bind fun p => match p.1 with
  | [.int j] => if in62 j then some (rangeD 0 j, p.2) else none
  | _ => none
def iRange2 (fa : Ea) : Ea := fun ρ => (fa ρ).bind fun p => match p.1 with
  | [.int i, .int j] => if in62 i && in62 j then some (rangeD i j, p.2) else none
  | _ => none
theorem walks_list {K : PySem.W.Frag} {G0 : Hp} {a : Addr} {vs : List V} {ds : List D} (h : G0 a = some (.lst vs)) (r : FzA K G0 vs ds) (uniq : ∀ (H : Hp) xs ys, SqL K H a xs → SqL K H a ys → xs = ys) : Walks K (Itl K a) G0 ds := by
  intro i G H s1 s2
  have hH : SqL K H a vs := .inl (.inl (s2 _ _ (s1 _ _ h)))
  refine ⟨fun hl => ⟨vs, hH, by rw [r.length]; exact Nat.le_of_eq hl⟩, fun d e => ?_⟩
  obtain ⟨v, h1, h2⟩ := r.get e
  refine ⟨⟨vs, v, hH, h1⟩, fun x H' ⟨e1, e2⟩ => ?_⟩
  subst e1
  have := e2 vs hH
  rw [h1] at this
  cases this
  exact ⟨G, .refl s2, h2.mono s1⟩
section
variable {X : Cx} {M : List Nat} {tg a : Expr} {fa : Ev} {pos p : Pos} {fs : Ea} {js : List (Option Nat)}
/-- the list's items, whatever list stands there (one list at a time) -/
theorem walks_l {K : PySem.W.Frag} {G0 : Hp} {b : Addr} {vs : List V} {ds : List D} (h : ∀ G H, Same G0 G → Same G H → SqL K H b vs) (r : FzA K G0 vs ds) : Walks K (Itl K b) G0 ds := by
  intro i G H s1 s2
  have hH := h G H s1 s2
  refine ⟨fun hl => ⟨vs, hH, by rw [r.length]; exact Nat.le_of_eq hl⟩, fun d e => ?_⟩
  obtain ⟨v, h1, h2⟩ := r.get e
  refine ⟨⟨vs, v, hH, h1⟩, fun x H' ⟨e1, e2⟩ => ?_⟩
  subst e1
  have := e2 vs hH
  rw [h1] at this
  cases this
  exact ⟨G, .refl s2, h2.mono s1⟩
theorem walks_t {K : PySem.W.Frag} {G0 : Hp} {b : Addr} {vs : List V} {ds : List D} (h : ∀ G H, Same G0 G → Same G H → SqT K H b vs) (r : FzA K G0 vs ds) : Walks K (Itt K b) G0 ds := by
  intro i G H s1 s2
  have hH := h G H s1 s2
  refine ⟨fun hl => ⟨vs, hH, by rw [r.length]; exact Nat.le_of_eq hl⟩, fun d e => ?_⟩
  obtain ⟨v, h1, h2⟩ := r.get e
  refine ⟨⟨vs, v, hH, h1⟩, fun x H' ⟨e1, e2⟩ => ?_⟩
  subst e1
  have := e2 vs hH
  rw [h1] at this
  cases this
  exact ⟨G, .refl s2, h2.mono s1⟩
theorem vi_list (ha : VE X M false a fa) : VI X M tg a (iLst fa) := by
  obtain ⟨t, q, k⟩ := ha
  refine ⟨_, pi_list q, fun G H σ ρ f ds ρ' Q R e hQ => ?_⟩
  unfold iLst at e
  obtain ⟨⟨d, ρ1⟩, e1, e2⟩ := Option.bind_eq_some_iff.mp e
  refine k G H σ ρ f d ρ1 _ R e1 fun v G' H' f' S R' r => ?_
  split at e2
  · rename_i z
    simp only at z
    subst z
    cases e2
    obtain ⟨b, vs, rfl, h1, h2⟩ := Fz.lst_inv r
    exact ⟨b, rfl, ⟨vs, .inl (.inl (R'.sub _ _ h1))⟩, hQ _ G' H' f' S R' (walks_l (fun G H s1 s2 => .inl (.inl (s2 _ _ (s1 _ _ h1)))) h2)⟩
  · cases e2
theorem vi_tup (ha : VE X M false a fa) : VI X M tg a (iTupF fa) := by
  obtain ⟨t, q, k⟩ := ha
  refine ⟨_, pi_tup q, fun G H σ ρ f ds ρ' Q R e hQ => ?_⟩
  unfold iTupF at e
  obtain ⟨⟨d, ρ1⟩, e1, e2⟩ := Option.bind_eq_some_iff.mp e
  refine k G H σ ρ f d ρ1 _ R e1 fun v G' H' f' S R' r => ?_
  split at e2
  · rename_i z
    simp only at z
    subst z
    cases e2
    obtain ⟨b, vs, rfl, h1, h2⟩ := Fz.tup_inv r
    exact ⟨b, rfl, ⟨vs, .inl (.inl (R'.sub _ _ h1))⟩, hQ _ G' H' f' S R' (walks_t (fun G H s1 s2 => .inl (.inl (s2 _ _ (s1 _ _ h1)))) h2)⟩
  · cases e2
theorem vi_scr (ha : VE X M false a fa) : VI X M tg a (iScr fa) := by
  obtain ⟨t, q, k⟩ := ha
  refine ⟨_, pi_list q, fun G H σ ρ f ds ρ' Q R e hQ => ?_⟩
  unfold iScr at e
  obtain ⟨⟨d, ρ1⟩, e1, e2⟩ := Option.bind_eq_some_iff.mp e
  refine k G H σ ρ f d ρ1 _ R e1 fun v G' H' f' S R' r => ?_
  split at e2
  · rename_i z
    simp only at z
    subst z
    cases e2
    have r : Fz X.K G' v (.scr _) := r
    cases r with
    | scr h1 => exact ⟨_, rfl, ⟨_, R'.sub.seq h1⟩, hQ _ G' H' f' S R' (walks_l (fun G H s1 s2 => s2.seq (s1.seq h1)) (FzA.ints _))⟩
  · cases e2
theorem walks_r {K : PySem.W.Frag} {G0 : Hp} (lo hi : Int) : Walks K (Itr lo (hi - lo).toNat) G0 (rangeD lo hi) := by
  intro i G H s1 s2
  refine ⟨fun hl => by
    show (hi - lo).toNat ≤ i
    unfold rangeD at hl
    rw [List.length_map, List.length_range] at hl
    exact Nat.le_of_eq hl, fun d e => ?_⟩
  unfold rangeD at e
  rw [List.getElem?_map] at e
  obtain ⟨j, e1, e2⟩ := Option.map_eq_some_iff.mp e
  obtain ⟨h1, h2⟩ := List.getElem?_eq_some_iff.mp e1
  simp at h1 h2
  subst h2
  subst e2
  refine ⟨by show i < (hi - lo).toNat; omega, fun x H' ⟨e1, e2⟩ => ?_⟩
  subst e1 e2
  exact ⟨G, .refl s2, .int _⟩
theorem vi_range1 (hg : Gl X "range") (hm : X.mg "range" = none) (hj : allN js = true) (ha : VA X M js [a] fs) (hs : starEach [a] X.env = [(false, eval a X.env)] := by rfl) : VI X M tg (.Call (.Name "range" p) [a] [] pos) (iRange1 fs) := by
  obtain ⟨t, q, k⟩ := ha
  refine ⟨_, pi_range1 hg hm q hs, fun G H σ ρ f ds ρ' Q R e hQ => ?_⟩
  unfold iRange1 at e
  obtain ⟨⟨d, ρ1⟩, e1, e2⟩ := Option.bind_eq_some_iff.mp e
  refine k G H σ ρ f d ρ1 _ R e1 fun v G' H' f' S R' r => ?_
  split at e2
  · rename_i j z
    simp only at z
    subst z
    split at e2
    · rename_i hb
      cases e2
      obtain ⟨b1, b2⟩ := in62_of hb
      obtain ⟨w, rfl, h1⟩ := (r.all hj).one
      refine ⟨j, by rw [h1.int_inv], b1, b2, ?_⟩
      have := hQ _ G' H' f' S R' (walks_r 0 j)
      rwa [Int.sub_zero] at this
    · cases e2
  · cases e2
theorem vi_range2 {b : Expr} (hg : Gl X "range") (hm : X.mg "range" = none) (hj : allN js = true) (ha : VA X M js [a, b] fs) (hs : starEach [a, b] X.env = [(false, eval a X.env), (false, eval b X.env)] := by rfl) (hs2 : starEach [b] X.env = [(false, eval b X.env)] := by rfl) : VI X M tg (.Call (.Name "range" p) [a, b] [] pos) (iRange2 fs) := by
  obtain ⟨t, q, k⟩ := ha
  refine ⟨_, pi_range2 hg hm q hs hs2, fun G H σ ρ f ds ρ' Q R e hQ => ?_⟩
  unfold iRange2 at e
  obtain ⟨⟨d, ρ1⟩, e1, e2⟩ := Option.bind_eq_some_iff.mp e
  refine k G H σ ρ f d ρ1 _ R e1 fun v G' H' f' S R' r => ?_
  split at e2
  · rename_i i j z
    simp only at z
    subst z
    split at e2
    · rename_i hb
      cases e2
      rw [Bool.and_eq_true] at hb
      obtain ⟨b1, b2⟩ := in62_of hb.1
      obtain ⟨b3, b4⟩ := in62_of hb.2
      obtain ⟨v, w, rfl, h1, h2⟩ := (r.all hj).two
      exact ⟨i, j, by rw [h1.int_inv, h2.int_inv], ⟨b1, b2, b3, b4⟩, hQ _ G' H' f' S R' (walks_r i j)⟩
    · cases e2
  · cases e2
end

/-! ### slots wiped -/
def wipeD (ρ : Rho) : List Nat → Rho
  | [] => ρ
  | v :: vs => (wipeD ρ vs).set v .dead
theorem wipeD_length (ρ : Rho) : ∀ vs, (wipeD ρ vs).length = ρ.length
  | [] => rfl
  | v :: vs => by unfold wipeD; rw [List.length_set, wipeD_length ρ vs]
theorem wipe_at (σ : L2.St) (j : Nat) : ∀ vs : List Nat, j ∉ vs → (L2.wipe σ vs)[j]? = σ[j]?
  | [], _ => rfl
  | v :: vs, h => by
    unfold L2.wipe
    rw [List.getElem?_set_ne (fun z => h (by simp [z])), wipe_at σ j vs fun z => h (by simp [z])]
theorem wipe_in (σ : L2.St) (j : Nat) (hl : j < σ.length) : ∀ vs : List Nat, j ∈ vs → (L2.wipe σ vs)[j]? = some none
  | v :: vs, h => by
    unfold L2.wipe
    by_cases e : v = j
    · subst e
      rw [List.getElem?_set_self (by rw [wipe_length]; exact hl)]
    · rw [List.getElem?_set_ne e]
      exact wipe_in σ j hl vs ((List.mem_cons.mp h).resolve_left fun z => e z.symm)
theorem wipeD_at (ρ : Rho) (j : Nat) : ∀ vs : List Nat, j ∉ vs → (wipeD ρ vs)[j]? = ρ[j]?
  | [], _ => rfl
  | v :: vs, h => by
    unfold wipeD
    rw [List.getElem?_set_ne (fun z => h (by simp [z])), wipeD_at ρ j vs fun z => h (by simp [z])]
theorem wipeD_in (ρ : Rho) (j : Nat) (d : D) : ∀ vs : List Nat, j ∈ vs → (wipeD ρ vs)[j]? = some d → d = .dead
  | v :: vs, h, q => by
    unfold wipeD at q
    by_cases e : v = j
    · subst e
      rw [List.getElem?_set] at q
      simp at q
      exact q.2.symm
    · rw [List.getElem?_set_ne e] at q
      exact wipeD_in ρ j d vs ((List.mem_cons.mp h).resolve_left fun z => e z.symm) q
theorem wipe_eqx {σ σ2 : L2.St} {vs ts : List Nat} (x : Eqx ts (L2.wipe σ vs) σ2) (h : ∀ j, j ∈ ts → j ∈ vs) : L2.wipe σ2 vs = L2.wipe σ vs := by
  have hl : σ2.length = σ.length := by rw [x.1, wipe_length]
  apply List.ext_getElem?
  intro j
  by_cases hj : j ∈ vs
  · by_cases q : j < σ.length
    · rw [wipe_in σ j q vs hj, wipe_in σ2 j (by omega) vs hj]
    · rw [List.getElem?_eq_none (by rw [wipe_length]; omega), List.getElem?_eq_none (by rw [wipe_length]; omega)]
  · rw [wipe_at σ2 j vs hj, x.2 j fun z => hj (h j z)]
theorem Rel.wipe {K : PySem.W.Frag} {M : List Nat} {G H : Hp} {σ : L2.St} {ρ : Rho} {f : Nat → List Addr} (R : Rel K M G H σ ρ f) (vs : List Nat) (h : ∀ i, i ∈ vs → i ∉ M) : Rel K M G H (L2.wipe σ vs) (wipeD ρ vs) f := by
  refine ⟨R.sub, by rw [wipe_length, wipeD_length]; exact R.len, fun i d e hi => ?_, fun i hi => ?_, R.dis⟩
  · by_cases q : i ∈ vs
    · exact .inl (wipeD_in ρ i d vs q e)
    · rw [wipeD_at ρ i vs q] at e
      rw [wipe_at σ i vs q]
      exact R.fz i d e hi
  · have q : i ∉ vs := fun z => h i z hi
    rw [wipeD_at ρ i vs q, wipe_at σ i vs q]
    exact R.ow i hi
/-- behind a block: the slots stand again, what was known of the wiped ones is forgotten -/
theorem Rel.unwipe {K : PySem.W.Frag} {M : List Nat} {G H : Hp} {σ σ2 : L2.St} {ρ : Rho} {f : Nat → List Addr} {vs : List Nat} (R : Rel K M G H σ2 ρ f) (x : L2.wipe σ2 vs = L2.wipe σ vs) (h : ∀ i, i ∈ vs → i ∉ M) : Rel K M G H σ (wipeD ρ vs) f := by
  have R2 := R.wipe vs h
  rw [x] at R2
  refine ⟨R2.sub, by rw [← wipe_length σ vs]; exact R2.len, fun i d e hi => ?_, fun i hi => ?_, R2.dis⟩
  · rcases R2.fz i d e hi with z | ⟨v, h1, h2⟩
    · exact .inl z
    · exact .inr ⟨v, (wipe_some h1).1, h2⟩
  · obtain ⟨d, v, h1, h2, o⟩ := R2.ow i hi
    exact ⟨d, v, h1, (wipe_some h2).1, o⟩
theorem Rel.rewipe {K : PySem.W.Frag} {M : List Nat} {G H : Hp} {σ σ2 : L2.St} {ρ : Rho} {f : Nat → List Addr} {vs : List Nat} (R : Rel K M G H σ2 ρ f) (x : L2.wipe σ2 vs = L2.wipe σ vs) (h : ∀ i, i ∈ vs → i ∉ M) : Rel K M G H (L2.wipe σ vs) (wipeD ρ vs) f := by
  have R2 := R.wipe vs h
  rwa [x] at R2

/-! ### an object of nobody's -/
theorem Rel.free {K : PySem.W.Frag} {M : List Nat} {G H : Hp} {σ : L2.St} {ρ : Rho} {f : Nat → List Addr} {p : Addr} {o : HO} (R : Rel K M G H σ ρ f) (hG : G p = none) (hO : ¬ Ow M f p) : Rel K M G (upd H p o) σ ρ f := by
  refine ⟨fun b u e => ?_, R.len, R.fz, fun i hi => ?_, R.dis⟩
  · have : b ≠ p := fun z => by rw [z, hG] at e; cases e
    rw [upd_ne this]
    exact R.sub b u e
  · obtain ⟨d, v, h1, h2, q⟩ := R.ow i hi
    refine ⟨d, v, h1, h2, q.move (Same.refl _) (fun b hb u e => ?_) fun b hb => (q.here b hb).2⟩
    have : b ≠ p := fun z => hO ⟨i, hi, z ▸ hb⟩
    rw [upd_ne this]
    exact e
theorem Step.free {M M' : List Nat} {f f' : Nat → List Addr} {G H G' H' : Hp} {p : Addr} {o : HO} (S : Step M f G H M' f' G' H') (hp : H p = none) : Step M f G H M' f' G' (upd H' p o) :=
  ⟨S.sub, S.new, fun b u e n => by rw [upd_ne (ne_of_none e hp)]; exact S.keep b u e n, fun b e => by
    have : b ≠ p := fun z => e (z ▸ hp)
    rw [upd_ne this]
    exact S.live b e, S.own⟩

/-! ### list comprehensions -/
def lcGo (fg : Eg) (ft : Et) (fe : Ev) (vs : List Nat) : List D → List D → Rho → Option (List D × Rho)
  | [], acc, ρ => some (acc, ρ)
  | d :: ds, acc, ρ => (fg d ρ).bind fun ρ1 => (ft ρ1).bind fun p =>
    if p.1 then (fe p.2).bind fun q => if acc.length < lim then lcGo fg ft fe vs ds (acc ++ [q.1]) (wipeD q.2 vs) else none
    else lcGo fg ft fe vs ds acc (wipeD p.2 vs)
def fLc (fi : Ea) (fg : Eg) (ft : Et) (fe : Ev) (vs : List Nat) : Ev := fun ρ => (fi ρ).bind fun p => (lcGo fg ft fe vs p.1 [] (wipeD p.2 vs)).map fun q => (.lst q.1, q.2)
section
variable {K : PySem.W.Frag} {M : List Nat} {fi : Ea} {fg : Eg} {ft : Et} {fe : Ev} {vs ts : List Nat}
theorem drop_get {ds : List D} {i : Nat} (h : i < ds.length) : ∃ d, ds[i]? = some d ∧ ds.drop i = d :: ds.drop (i + 1) := ⟨ds[i], by simp [h], by rw [List.drop_eq_getElem_cons h]⟩
theorem lc_loop {J : It} (hvM : ∀ i, i ∈ vs → i ∉ M) (hts : ∀ j, j ∈ ts → j ∈ vs) {G1 H1 : Hp} {σ : L2.St} {ρ1 ρ2 : Rho} {f1 : Nat → List Addr} {ds out : List D} {Qd : Hp → Prop} (R1 : Rel K M G1 H1 σ ρ1 f1) (wk : Walks K J G1 ds) (e3 : lcGo fg ft fe vs ds [] (wipeD ρ1 vs) = some (out, ρ2))
    {L : Addr} (hL : H1 L = none) (hQ : ∀ Gc Hc fc accV, Step M f1 G1 H1 M fc Gc Hc → Rel K M Gc Hc σ ρ2 fc → Hc L = some (.lst accV) → Gc L = none → ¬ Ow M fc L → FzA K Gc accV out → Qd Hc) :
    ∃ W : Nat → Nat → Hp → Prop, (∃ m, W 0 m (upd H1 L (.lst []))) ∧ ∀ i m H, W i m H →
      (J.stop i H ∧ Qd H) ∨ (J.go i H ∧ ∃ Nx : Hp → Prop, (∀ H', Nx H' → ∃ m', m' < m ∧ W (i + 1) m' H') ∧ ∀ x H', J.yld i H x H' → gOf K M ts fg x (L2.wipe σ vs) H' fun σ2 H2 => L2.wipe σ2 vs = L2.wipe σ vs ∧ tTOf K M ft σ2 H2 fun b H3 =>
        if b = true then tOf K M false fe σ2 H3 fun y H4 => ∃ acc, H4 L = some (.lst acc) ∧ acc.length < sizeLine ∧ Nx (upd H4 L (.lst (acc ++ [y]))) else Nx H3) := by
  refine ⟨fun i m Hc => m = ds.length - i ∧ i ≤ ds.length ∧ ∃ (Gc : Hp) (fc : Nat → List Addr) (ρc : Rho) (accD : List D) (accV : List V), Step M f1 G1 H1 M fc Gc Hc ∧ Rel K M Gc Hc (L2.wipe σ vs) ρc fc ∧ wipeD ρc vs = ρc ∧
    Hc L = some (.lst accV) ∧ Gc L = none ∧ ¬ Ow M fc L ∧ FzA K Gc accV accD ∧ lcGo fg ft fe vs (ds.drop i) accD ρc = some (out, ρ2), ?_, ?_⟩
  · have hO : ¬ Ow M f1 L := fun ⟨i, hi, hb⟩ => by
      obtain ⟨_, _, _, _, o⟩ := R1.ow i hi
      exact (o.here L hb).1 hL
    have hG : G1 L = none := sub_none R1.sub hL
    have ww : wipeD (wipeD ρ1 vs) vs = wipeD ρ1 vs := by
      apply List.ext_getElem?
      intro j
      by_cases q : j ∈ vs
      · cases z : (wipeD ρ1 vs)[j]? with
        | none =>
          rw [List.getElem?_eq_none_iff] at z ⊢
          rw [wipeD_length]
          exact z
        | some d =>
          have := wipeD_in ρ1 j d vs q z
          subst this
          have hl : j < (wipeD (wipeD ρ1 vs) vs).length := by
            rw [wipeD_length]
            exact (List.getElem?_eq_some_iff.mp z).1
          cases z2 : (wipeD (wipeD ρ1 vs) vs)[j]? with
          | none => rw [List.getElem?_eq_none_iff] at z2; omega
          | some d2 => rw [wipeD_in _ j d2 vs q z2]
      · rw [wipeD_at _ j vs q]
    exact ⟨_, rfl, Nat.zero_le _, G1, f1, _, [], [], Step.free .refl hL, (R1.wipe vs hvM).free hG hO, ww, upd_same, hG, hO, .nil, e3⟩
  · rintro i m Hc ⟨rfl, hi, Gc, fc, ρc, accD, accV, Sc, Rc, hw, hLc, hGc, hOc, ra, eg⟩
    have wkc := wk i Gc Hc Sc.sub Rc.sub
    by_cases hlt : i < ds.length
    · obtain ⟨d, hd, hdr⟩ := drop_get hlt
      rw [hdr] at eg
      obtain ⟨ρ3, g1, g2⟩ := Option.bind_eq_some_iff.mp (show (fg d ρc).bind _ = some (out, ρ2) from eg)
      obtain ⟨⟨b, ρ4⟩, g3, g4⟩ := Option.bind_eq_some_iff.mp g2
      obtain ⟨hgo, hy⟩ := wkc.2 d hd
      refine .inr ⟨hgo, fun Hn => ∃ (Gn : Hp) (fn : Nat → List Addr) (ρn : Rho) (accDn : List D) (accVn : List V), Step M f1 G1 H1 M fn Gn Hn ∧ Rel K M Gn Hn (L2.wipe σ vs) ρn fn ∧ wipeD ρn vs = ρn ∧
        Hn L = some (.lst accVn) ∧ Gn L = none ∧ ¬ Ow M fn L ∧ FzA K Gn accVn accDn ∧ lcGo fg ft fe vs (ds.drop (i + 1)) accDn ρn = some (out, ρ2),
        fun Hn ⟨Gn, fn, ρn, aD, aV, h1, h2, h3, h4, h5, h6, h7, h8⟩ => ⟨ds.length - (i + 1), by omega, rfl, hlt, Gn, fn, ρn, aD, aV, h1, h2, h3, h4, h5, h6, h7, h8⟩, ?_⟩
      intro x H2 hyl
      obtain ⟨G2, gr, hx⟩ := hy x H2 hyl
      have R2 := Rc.grow gr
      have hL2 : H2 L = some (.lst accV) := gr.keep _ _ hLc
      have ww2 : ∀ r : Rho, wipeD (wipeD r vs) vs = wipeD r vs := fun r => by
        apply List.ext_getElem?
        intro j
        by_cases q : j ∈ vs
        · cases z : (wipeD r vs)[j]? with
          | none =>
            rw [List.getElem?_eq_none_iff] at z ⊢
            rw [wipeD_length]
            exact z
          | some d =>
            have := wipeD_in r j d vs q z
            subst this
            have hl : j < (wipeD (wipeD r vs) vs).length := by
              rw [wipeD_length]
              exact (List.getElem?_eq_some_iff.mp z).1
            cases z2 : (wipeD (wipeD r vs) vs)[j]? with
            | none => rw [List.getElem?_eq_none_iff] at z2; omega
            | some d2 => rw [wipeD_in _ j d2 vs q z2]
        · rw [wipeD_at _ j vs q]
      have wipe2 : L2.wipe (L2.wipe σ vs) vs = L2.wipe σ vs := wipe_eqx (ts := []) .refl (fun _ h => nomatch h)
      refine ⟨G2, ρc, fc, d, ρ3, R2, hx, g1, fun σ3 R3 x3 => ?_⟩
      have hw3 : L2.wipe σ3 vs = L2.wipe σ vs := wipe_eqx x3 hts
      refine ⟨hw3, ?_⟩
      refine ⟨G2, ρ3, fc, b, ρ4, R3, g3, fun G4 H4 f4 S4 R4 => ?_⟩
      have Sc2 : Step M f1 G1 H1 M fc G2 H2 := Sc.trans (gr.step M fc)
      have Sc4 := Sc2.trans S4
      have keepL : ∀ {fa fb : Nat → List Addr} {Ga Ha Gb Hb : Hp} {o : HO}, (∀ xs, o ≠ .tup xs) → Step M fa Ga Ha M fb Gb Hb → Ha L = some o → Ga L = none → ¬ Ow M fa L → Hb L = some o ∧ Gb L = none ∧ ¬ Ow M fb L := fun {fa fb Ga Ha Gb Hb o} nt S a b c => by
        refine ⟨S.keep _ _ a c, ?_, fun w => ?_⟩
        · cases z : Gb L with
          | none => rfl
          | some u =>
            rcases S.new L (by rw [z]; simp) with q | (q | ⟨xs, q⟩) | q
            · exact absurd b q
            · rw [a] at q; cases q
            · rw [a] at q; exact absurd (Option.some.inj q) (nt xs)
            · exact absurd q c
        · rcases S.own L w with q | q
          · exact c q
          · rw [a] at q; cases q
      have hG2 : G2 L = none := by
        cases z : G2 L with
        | none => rfl
        | some u =>
          rcases gr.new L (by rw [z]; simp) with q | q | ⟨xs, q⟩
          · exact absurd hGc q
          · rw [hLc] at q; cases q
          · rw [hLc] at q; cases q
      obtain ⟨k1, k2, k3⟩ := keepL (by intro _ z; cases z) S4 hL2 hG2 hOc
      cases b with
      | false =>
        refine iteF ?_
        have g4 : lcGo fg ft fe vs (ds.drop (i + 1)) accD (wipeD ρ4 vs) = some (out, ρ2) := by simpa using g4
        exact ⟨G4, f4, wipeD ρ4 vs, accD, accV, Sc4, R4.rewipe hw3 hvM, ww2 _, k1, k2, k3, ra.mono (gr.sub.trans S4.sub), g4⟩
      | true =>
        refine iteT ?_
        obtain ⟨⟨y, ρ5⟩, g5, g6⟩ := Option.bind_eq_some_iff.mp (show (fe ρ4).bind _ = some (out, ρ2) from by simpa using g4)
        split at g6
        · rename_i hlen
          refine ⟨G4, ρ4, f4, y, ρ5, R4, g5, fun v G5 H5 f5 S5 R5 r5 => ?_⟩
          obtain ⟨l1, l2, l3⟩ := keepL (by intro _ z; cases z) S5 k1 k2 k3
          have ra5 : FzA K G5 accV accD := ra.mono ((gr.sub.trans S4.sub).trans S5.sub)
          refine ⟨accV, l1, by rw [ra5.length]; exact lim_lt hlen, ?_⟩
          exact ⟨G5, f5, wipeD ρ5 vs, accD ++ [y], accV ++ [v], (Sc4.trans S5).free hL, (R5.rewipe hw3 hvM).free l2 l3, ww2 _, upd_same, l2, l3, ra5.append (.cons r5 .nil), g6⟩
        · cases g6
    · have ei : i = ds.length := by omega
      subst ei
      rw [List.drop_length] at eg
      cases eg
      refine .inl ⟨wkc.1 rfl, ?_⟩
      have wipe2 : L2.wipe (L2.wipe σ vs) vs = L2.wipe σ vs := wipe_eqx (ts := []) .refl (fun _ h => nomatch h)
      have Rf := Rc.unwipe wipe2 hvM
      rw [hw] at Rf
      exact hQ Gc Hc fc accV Sc Rf hLc hGc hOc ra
theorem lc_go {wi : TI} (hvM : ∀ i, i ∈ vs → i ∉ M) (hts : ∀ j, j ∈ ts → j ∈ vs)
    (ki : ∀ (G H : Hp) (σ : L2.St) (ρ : Rho) (f : Nat → List Addr) (ds : List D) (ρ' : Rho) (Q : It → Hp → Prop), Rel K M G H σ ρ f → fi ρ = some (ds, ρ') →
      (∀ J G' H' f', Step M f G H M f' G' H' → Rel K M G' H' σ ρ' f' → Walks K J G' ds → Q J H') → wi σ H Q)
    {G H : Hp} {σ : L2.St} {ρ : Rho} {f : Nat → List Addr} {d : D} {ρ' : Rho} {Q : VK} (R : Rel K M G H σ ρ f) (e : fLc fi fg ft fe vs ρ = some (d, ρ'))
    (hQ : ∀ v G' H' f', Step M f G H M f' G' H' → Rel K M G' H' σ ρ' f' → Res true K G' H' M f' M H f v d → Q v H') :
    tLc wi (gOf K M ts fg) (tTOf K M ft) (tOf K M false fe) vs σ H Q := by
  unfold fLc at e
  obtain ⟨⟨ds, ρ1⟩, e1, e2⟩ := Option.bind_eq_some_iff.mp e
  obtain ⟨⟨out, ρ2⟩, e3, e4⟩ := Option.map_eq_some_iff.mp e2
  cases e4
  refine ki G H σ ρ f ds ρ1 _ R e1 fun J G1 H1 f1 S1 R1 wk => ?_
  intro L hL
  refine lc_loop hvM hts R1 wk e3 hL fun Gc Hc fc accV Sc Rf hLc hGc hOc ra => ?_
  refine hQ _ Gc Hc fc (S1.trans Sc) Rf ⟨[L], .lst hLc hGc ra, fun b hb => ?_⟩
  simp at hb
  subst hb
  refine ⟨hOc, .inr ?_⟩
  cases z : H b with
  | none => rfl
  | some u => exact absurd hL (S1.live b (by rw [z]; simp))
end
section
variable {X : Cx} {M : List Nat} {fi : Ea} {fg : Eg} {ft : Et} {fe : Ev} {ts : List Nat} {elt tg iter : Expr} {ifs : List Expr} {scope : Scope} {own : List (Str × Nat)} {pos : Pos}
theorem ve_lc (hc : X.calm = true) (hN : X.N.Nodup) (ok : blkC X.N X.env.scope scope own = true) (hM : (own.map (·.2)).all (fun i => !M.contains i) = true) (hts : ts.all (fun i => (own.map (·.2)).contains i) = true) (hi : VI X M tg iter fi)
    (hg : ∀ (s : Shared) (H : Hp) (C : Addr) (cl : List (Str × Addr)) (fp : List Addr), VG (X.blk s H scope (compEnvC scope cl C X.env) fp) M ts tg fg) (ht : ∀ (s : Shared) (H : Hp) (C : Addr) (cl : List (Str × Addr)) (fp : List Addr), VTs (X.blk s H scope (compEnvC scope cl C X.env) fp) M ifs ft)
    (he : ∀ (s : Shared) (H : Hp) (C : Addr) (cl : List (Str × Addr)) (fp : List Addr), VE (X.blk s H scope (compEnvC scope cl C X.env) fp) M false elt fe) (hs : ∀ x, foldedSetIterable iter X.env x = pure x := by intro _; rfl) :
    VE X M true (.ListComp elt [⟨tg, iter, ifs, 0⟩] scope pos) (fLc fi fg ft fe (own.map (·.2))) := by
  obtain ⟨wi, pi, ki⟩ := hi
  refine ⟨_, pe_lc hc hN pi (blkOk_by ok) (g := gOf X.K M ts fg) (tt := tTOf X.K M ft) (te := tOf X.K M false fe) hg ht (fun s H C cl fp => (he s H C cl fp).pe) hs, fun G H σ ρ f d ρ' Q R e hQ => ?_⟩
  exact lc_go (fun i hi => by simpa using List.all_eq_true.mp hM i hi) (fun i hi => by simpa using List.all_eq_true.mp hts i hi) ki R e hQ
end

/-! ### statements -/
inductive Out where
  | nx (ρ : Rho)
  | rt (d : D) (ρ : Rho)
  | bk (ρ : Rho)
  | ct (ρ : Rho)
abbrev Es := Rho → Option Out
/-- the callers' slots stand -/
def Pin (C : List (Nat × V)) (σ : L2.St) : Prop := ∀ p, p ∈ C → σ[p.1]? = some (some p.2)
def Post (K : PySem.W.Frag) (M M' io : List Nat) (rk : Bool) (B : List Nat) (C : List (Nat × V)) (G H : Hp) (f : Nat → List Addr) (E : Ends) : Out → Prop
  | .nx ρ' => ∀ σ' G' H' f', Step M f G H M' f' G' H' → Rel K M' G' H' σ' ρ' f' → Pin C σ' → E.nx σ' H'
  | .rt d ρ' => ∀ v σ' G' H' f', Step M f G H io f' G' H' → Rel K io G' H' σ' ρ' f' → Pin C σ' → Res rk K G' H' io f' M H f v d → E.rt v H'
  | .bk ρ' => ∀ σ' G' H' f', Step M f G H B f' G' H' → Rel K B G' H' σ' ρ' f' → Pin C σ' → E.bk σ' H'
  | .ct ρ' => ∀ σ' G' H' f', Step M f G H B f' G' H' → Rel K B G' H' σ' ρ' f' → Pin C σ' → E.ct σ' H'
def sOf (K : PySem.W.Frag) (M M' io : List Nat) (rk : Bool) (B : List Nat) (F : Es) : TS := fun E σ H => ∃ C G ρ f o, Rel K M G H σ ρ f ∧ Pin C σ ∧ (∀ p, p ∈ C → p.1 ∈ io) ∧ F ρ = some o ∧ Post K M M' io rk B C G H f E o
structure VS (X : Cx) (M M' io : List Nat) (rk : Bool) (B : List Nat) (st : Stmt) (F : Es) : Prop where
  ps : PS X st (sOf X.K M M' io rk B F)
structure VSs (X : Cx) (M M' io : List Nat) (rk : Bool) (B : List Nat) (sts : List Stmt) (F : Es) : Prop where
  ps : PSs X sts (sOf X.K M M' io rk B F)
/-- the result's place behind an earlier step -/
theorem res_from {rk : Bool} {K : PySem.W.Frag} {M M1 io : List Nat} {G H G1 H1 G2 H2 : Hp} {f f1 f2 : Nat → List Addr} {v : V} {d : D} (S : Step M f G H M1 f1 G1 H1) (S2 : Step M1 f1 G1 H1 io f2 G2 H2) (h : ∀ b, (Ow M1 f1 b ∨ H1 b = none) → Ow M f b ∨ H b = none) (r : Res rk K G2 H2 io f2 M1 H1 f1 v d) : Res rk K G2 H2 io f2 M H f v d := by
  cases rk with
  | false => exact r
  | true =>
    obtain ⟨fp, o, q⟩ := r
    exact ⟨fp, o, fun b hb => ⟨(q b hb).1, h b (q b hb).2⟩⟩
theorem Step.back {M M1 : List Nat} {G H G1 H1 : Hp} {f f1 : Nat → List Addr} (S : Step M f G H M1 f1 G1 H1) (b : Addr) (h : Ow M1 f1 b ∨ H1 b = none) : Ow M f b ∨ H b = none := by
  rcases h with h | h
  · exact S.own b h
  · refine .inr ?_
    cases z : H b with
    | none => rfl
    | some u => exact absurd h (S.live b (by rw [z]; simp))
/-- a step ahead of what follows -/
theorem Post.pre {K : PySem.W.Frag} {M M1 M' io : List Nat} {rk : Bool} {B : List Nat} {C : List (Nat × V)} {G H G1 H1 : Hp} {f f1 : Nat → List Addr} {E : Ends} {o : Out} (S : Step M f G H M1 f1 G1 H1) (h : Post K M M' io rk B C G H f E o) : Post K M1 M' io rk B C G1 H1 f1 E o := by
  cases o with
  | nx ρ' => exact fun σ' G' H' f' S' R' P' => h σ' G' H' f' (S.trans S') R' P'
  | rt d ρ' => exact fun v σ' G' H' f' S' R' P' r => h v σ' G' H' f' (S.trans S') R' P' (res_from S S' S.back r)
  | bk ρ' => exact fun σ' G' H' f' S' R' P' => h σ' G' H' f' (S.trans S') R' P'
  | ct ρ' => exact fun σ' G' H' f' S' R' P' => h σ' G' H' f' (S.trans S') R' P'
def sSeq (F1 F2 : Es) : Es := fun ρ => (F1 ρ).bind fun o => match o with | .nx ρ1 => F2 ρ1 | o => some o
def sNil : Es := fun ρ => some (.nx ρ)
section
variable {X : Cx} {M M1 M' io : List Nat} {rk : Bool} {B : List Nat} {st : Stmt} {rest : List Stmt} {F F1 F2 : Es} {pos : Pos}
theorem vss_nil : VSs X M M io rk B [] sNil := ⟨⟨fun pins s σ H E I ⟨C, G, ρ, f, o, R, P, hC, e, h⟩ => by
  cases e
  exact (pss_nil).run pins s σ H E I (h σ G H f .refl R P)⟩⟩
theorem vss_cons (h1 : VS X M M1 io rk B st F1) (h2 : VSs X M1 M' io rk B rest F2) : VSs X M M' io rk B (st :: rest) (sSeq F1 F2) := by
  refine ⟨⟨fun pins s σ H E I ⟨C, G, ρ, f, o, R, P, hC, e, h⟩ => ?_⟩⟩
  refine (pss_cons h1.ps h2.ps).run pins s σ H E I ?_
  obtain ⟨o1, e1, e2⟩ := Option.bind_eq_some_iff.mp e
  refine ⟨C, G, ρ, f, o1, R, P, hC, e1, ?_⟩
  cases o1 with
  | nx ρ1 => exact fun σ1 G1 H1 f1 S1 R1 P1 => ⟨C, G1, ρ1, f1, o, R1, P1, hC, e2, h.pre S1⟩
  | rt d ρ1 => cases e2; exact h
  | bk ρ1 => cases e2; exact h
  | ct ρ1 => cases e2; exact h
theorem vss_one (h1 : VS X M M' io rk B st F) : VSs X M M' io rk B [st] F := ⟨⟨fun pins s σ H E I q => (pss_one h1.ps).run pins s σ H E I q⟩⟩
def sPass : Es := fun ρ => some (.nx ρ)
theorem vs_pass : VS X M M io rk B (.Pass pos) sPass := ⟨⟨fun pins s σ H E I ⟨C, G, ρ, f, o, R, P, hC, e, h⟩ => by
  cases e
  exact ps_pass.run pins s σ H E I (h σ G H f .refl R P)⟩⟩
def sBrk : Es := fun ρ => some (.bk ρ)
def sCnt : Es := fun ρ => some (.ct ρ)
theorem vs_break : VS X M M io rk M (.Break pos) sBrk := ⟨⟨fun pins s σ H E I ⟨C, G, ρ, f, o, R, P, hC, e, h⟩ => by
  cases e
  exact ps_break.run pins s σ H E I (h σ G H f .refl R P)⟩⟩
theorem vs_continue : VS X M M io rk M (.Continue pos) sCnt := ⟨⟨fun pins s σ H E I ⟨C, G, ρ, f, o, R, P, hC, e, h⟩ => by
  cases e
  exact ps_continue.run pins s σ H E I (h σ G H f .refl R P)⟩⟩
/-- an expression whose value is dropped -/
def sExpr (fa : Ev) : Es := fun ρ => (fa ρ).map fun p => .nx p.2
theorem vs_expr {a : Expr} {m : Bool} {fa : Ev} (ha : VE X M m a fa) (hs : swapsWith a none pos.line X.env = pure false := by rfl) : VS X M M io rk B (.Expr a pos) (sExpr fa) := by
  obtain ⟨t, p, k⟩ := ha
  refine ⟨⟨fun pins s σ H E I ⟨C, G, ρ, f, o, R, P, hC, e, h⟩ => ?_⟩⟩
  refine (ps_expr p hs).run pins s σ H E I ?_
  obtain ⟨⟨d, ρ1⟩, e1, e2⟩ := Option.map_eq_some_iff.mp e
  subst e2
  exact k G H σ ρ f d ρ1 _ R e1 fun v G' H' f' S R' _ => h σ G' H' f' S R' P
def sIf (fc : Et) (F1 F2 : Es) : Es := fun ρ => (fc ρ).bind fun p => if p.1 then F1 p.2 else F2 p.2
theorem vs_if {c : Expr} {a b : List Stmt} {fc : Et} (hc : VT X M c fc) (ha : VSs X M M' io rk B a F1) (hb : VSs X M M' io rk B b F2) : VS X M M' io rk B (.If c a b pos) (sIf fc F1 F2) := by
  obtain ⟨t, p, k⟩ := hc
  refine ⟨⟨fun pins s σ H E I ⟨C, G, ρ, f, o, R, P, hC, e, h⟩ => ?_⟩⟩
  refine (ps_if p ha.ps hb.ps).run pins s σ H E I ?_
  obtain ⟨⟨c, ρ1⟩, e1, e2⟩ := Option.bind_eq_some_iff.mp e
  refine k G H σ ρ f c ρ1 _ R e1 fun G' H' f' S R' => ?_
  cases c with
  | true =>
    rw [if_pos rfl] at e2 ⊢
    exact ⟨C, G', ρ1, f', o, R', P, hC, e2, h.pre S⟩
  | false =>
    rw [if_neg Bool.false_ne_true] at e2 ⊢
    exact ⟨C, G', ρ1, f', o, R', P, hC, e2, h.pre S⟩
theorem Pin.eqx {C : List (Nat × V)} {σ σ' : L2.St} {ts : List Nat} (P : Pin C σ) (x : Eqx ts σ σ') (hC : ∀ p, p ∈ C → p.1 ∈ io) (h : ∀ j, j ∈ ts → j ∉ io) : Pin C σ' := fun p hp => by
  rw [x.2 p.1 fun z => h _ z (hC p hp)]
  exact P p hp
/-- x = e, frozen -/
def sSet (i : Nat) (fa : Ev) : Es := fun ρ => (fa ρ).map fun p => .nx (p.2.set i p.1)
theorem vs_set (i : Nat) {x : Str} {a : Expr} {fa : Ev} {pos' : Pos} (hN : X.N.Nodup) (hm : (M.contains i) = false) (ho : (io.contains i) = false) (ha : VE X M false a fa) (hs : swapsWith a (some (.Name x pos')) pos.line X.env = pure false := by rfl)
    (hx : Loc X.env.scope x := by first | exact Or.inl rfl | exact Or.inr rfl) (hi : X.N[i]? = some x := by rfl) (hf : X.fn x = true ∨ X.env.scope.names.lookup x = some .local := by first | exact .inl rfl | exact .inr rfl) : VS X M M io rk B (.Assign [.Name x pos'] a pos) (sSet i fa) := by
  obtain ⟨t, p, k⟩ := ha
  refine ⟨⟨fun pins s σ H E I ⟨C, G, ρ, f, o, R, P, hC, e, h⟩ => ?_⟩⟩
  refine (ps_set hN hi hx p hs hf).run pins s σ H E I ?_
  obtain ⟨⟨d, ρ1⟩, e1, e2⟩ := Option.map_eq_some_iff.mp e
  subst e2
  refine k G H σ ρ f d ρ1 _ R e1 fun v G' H' f' S R' r => ?_
  exact h _ G' H' f' S (R'.setF (by simpa using hm) r) (P.eqx (ts := [i]) (eqx_set (by simp)) hC (fun j hj => by simp at hj; subst hj; simpa using ho))
/-- an owned thing at a slot -/
theorem Rel.setO {K : PySem.W.Frag} {M : List Nat} {G H : Hp} {σ : L2.St} {ρ : Rho} {f : Nat → List Addr} {i : Nat} {v : V} {d : D} {fp : List Addr} (R : Rel K M G H σ ρ f) (hi : i ∉ M) (hl : i < ρ.length) (ho : Own K G H v d fp) (hd : ∀ b, b ∈ fp → ¬ Ow M f b) :
    Rel K (i :: M) G H (σ.set i (some v)) (ρ.set i d) (fun j => if j = i then fp else f j) := by
  refine ⟨R.sub, by simp [R.len], fun j e hj hm => ?_, fun j hj => ?_, fun j hj l hl' hne b hb => ?_⟩
  · have q : i ≠ j := fun z => hm (by simp [z])
    rw [List.getElem?_set_ne q] at hj
    rw [List.getElem?_set_ne q]
    exact R.fz j e hj fun z => hm (List.mem_cons_of_mem _ z)
  · by_cases q : i = j
    · subst q
      refine ⟨d, v, by rw [List.getElem?_set_self hl], by rw [List.getElem?_set_self (by rw [R.len]; exact hl)], ?_⟩
      rw [if_pos rfl]
      exact ho
    · have hj' : j ∈ M := (List.mem_cons.mp hj).resolve_left fun z => q z.symm
      rw [List.getElem?_set_ne q, List.getElem?_set_ne q, if_neg fun z => q z.symm]
      exact R.ow j hj'
  · by_cases q : j = i
    · subst q
      have hl2 : l ∈ M := (List.mem_cons.mp hl').resolve_left fun z => hne z.symm
      rw [if_pos rfl] at hb
      rw [if_neg (fun z => hne z.symm)]
      exact fun w => hd b hb ⟨l, hl2, w⟩
    · have hj' : j ∈ M := (List.mem_cons.mp hj).resolve_left q
      rw [if_neg q] at hb
      by_cases q2 : l = i
      · subst q2
        rw [if_pos rfl]
        exact fun w => hd b w ⟨j, hj', hb⟩
      · have hl2 : l ∈ M := (List.mem_cons.mp hl').resolve_left q2
        rw [if_neg q2]
        exact R.dis j hj' l hl2 hne b hb
theorem Step.addO {M M1 : List Nat} {f f1 : Nat → List Addr} {G H G1 H1 : Hp} {i : Nat} {fp : List Addr} (S : Step M f G H M1 f1 G1 H1) (hd : ∀ b, b ∈ fp → Ow M f b ∨ H b = none) : Step M f G H (i :: M1) (fun j => if j = i then fp else f1 j) G1 H1 :=
  ⟨S.sub, S.new, S.keep, S.live, fun b ⟨j, hj, hb⟩ => by
    by_cases q : j = i
    · subst q
      have hb : b ∈ (if j = j then fp else f1 j) := hb
      rw [if_pos rfl] at hb
      exact hd b hb
    · have hb : b ∈ (if j = i then fp else f1 j) := hb
      rw [if_neg q] at hb
      exact S.own b ⟨j, (List.mem_cons.mp hj).resolve_left q, hb⟩⟩
/-- x = e, owned -/
theorem set_own {i : Nat} {G H : Hp} {σ : L2.St} {ρ ρ1 : Rho} {f : Nat → List Addr} {d : D} {E : Ends} {C : List (Nat × V)} {K : PySem.W.Frag} (hm : i ∉ M) (hl : i < ρ1.length) {v : V} {G' H' : Hp} {f' : Nat → List Addr} (S : Step M f G H M f' G' H') (R' : Rel K M G' H' σ ρ1 f')
    (r : Res true K G' H' M f' M H f v d) (h : Post K M (i :: M) io rk B C G H f E (.nx (ρ1.set i d))) (P : Pin C (σ.set i (some v))) : E.nx (σ.set i (some v)) H' := by
  obtain ⟨fp, o, q⟩ := r
  exact h _ G' H' _ (S.addO fun b hb => (q b hb).2) (R'.setO hm hl o fun b hb => (q b hb).1) P
def sSetO (i : Nat) (fa : Ev) : Es := fun ρ => (fa ρ).bind fun p => if i < p.2.length then some (.nx (p.2.set i p.1)) else none
theorem vs_setO (i : Nat) {x : Str} {a : Expr} {fa : Ev} {pos' : Pos} (hN : X.N.Nodup) (hm : (M.contains i) = false) (ho : (io.contains i) = false) (ha : VE X M true a fa) (hs : swapsWith a (some (.Name x pos')) pos.line X.env = pure false := by rfl)
    (hx : Loc X.env.scope x := by first | exact Or.inl rfl | exact Or.inr rfl) (hi : X.N[i]? = some x := by rfl) (hf : X.fn x = true ∨ X.env.scope.names.lookup x = some .local := by first | exact .inl rfl | exact .inr rfl) : VS X M (i :: M) io rk B (.Assign [.Name x pos'] a pos) (sSetO i fa) := by
  obtain ⟨t, p, k⟩ := ha
  refine ⟨⟨fun pins s σ H E I ⟨C, G, ρ, f, o, R, P, hC, e, h⟩ => ?_⟩⟩
  refine (ps_set hN hi hx p hs hf).run pins s σ H E I ?_
  obtain ⟨⟨d, ρ1⟩, e1, e2⟩ := Option.bind_eq_some_iff.mp e
  split at e2
  · rename_i hl
    cases e2
    refine k G H σ ρ f d ρ1 _ R e1 fun v G' H' f' S R' r => ?_
    exact set_own (ρ := ρ) (by simpa using hm) hl S R' r h (P.eqx (ts := [i]) (eqx_set (by simp)) hC (fun j hj => by simp at hj; subst hj; simpa using ho))
  · cases e2
/-- y = [..], y a plain local -/
theorem vs_setLc (i : Nat) {y : Str} {py : Pos} {fi : Ea} {fg : Eg} {ft : Et} {fe : Ev} {ts : List Nat} {elt tg iter : Expr} {ifs : List Expr} {scope : Scope} {own : List (Str × Nat)} {lpos : Pos} (hc : X.calm = true) (hN : X.N.Nodup) (hm : (M.contains i) = false) (ho : (io.contains i) = false)
    (ok : blkC X.N X.env.scope scope own = true) (hM : (own.map (·.2)).all (fun i => !M.contains i) = true) (hts : ts.all (fun i => (own.map (·.2)).contains i) = true) (hyl : X.env.scope.names.lookup y = some .local) (hsw : swapsWith (.ListComp elt [⟨tg, iter, ifs, 0⟩] scope lpos) (some (.Name y py)) pos.line X.env = pure true) (hi : VI X M tg iter fi)
    (hg : ∀ (s : Shared) (H : Hp) (C : Addr) (cl : List (Str × Addr)) (fp : List Addr), VG (X.blk s H scope (compEnvC scope cl C X.env) fp) M ts tg fg) (ht : ∀ (s : Shared) (H : Hp) (C : Addr) (cl : List (Str × Addr)) (fp : List Addr), VTs (X.blk s H scope (compEnvC scope cl C X.env) fp) M ifs ft)
    (he : ∀ (s : Shared) (H : Hp) (C : Addr) (cl : List (Str × Addr)) (fp : List Addr), VE (X.blk s H scope (compEnvC scope cl C X.env) fp) M false elt fe) (hy : X.N[i]? = some y := by rfl) (hs : ∀ x, foldedSetIterable iter X.env x = pure x := by intro _; rfl) :
    VS X M (i :: M) io rk B (.Assign [.Name y py] (.ListComp elt [⟨tg, iter, ifs, 0⟩] scope lpos) pos) (sSetO i (fLc fi fg ft fe (own.map (·.2)))) := by
  obtain ⟨wi, pi, ki⟩ := hi
  refine ⟨⟨fun pins s σ H E I ⟨C, G, ρ, f, o, R, P, hC, e, h⟩ => ?_⟩⟩
  refine (ps_setLc hc hN hy hyl hsw pi (blkOk_by ok) (g := gOf X.K M ts fg) (tt := tTOf X.K M ft) (te := tOf X.K M false fe) hg ht (fun s H C cl fp => (he s H C cl fp).pe) hs).run pins s σ H E I ?_
  obtain ⟨⟨d, ρ1⟩, e1, e2⟩ := Option.bind_eq_some_iff.mp e
  split at e2
  · rename_i hl
    cases e2
    refine lc_go (fun i hi => by simpa using List.all_eq_true.mp hM i hi) (fun i hi => by simpa using List.all_eq_true.mp hts i hi) ki R e1 fun v G' H' f' S R' r => ?_
    exact set_own (ρ := ρ) (by simpa using hm) hl S R' r h (P.eqx (ts := [i]) (eqx_set (by simp)) hC (fun j hj => by simp at hj; subst hj; simpa using ho))
  · cases e2
/-- target = e -/
def sAsg (fg : Eg) (fa : Ev) : Es := fun ρ => (fa ρ).bind fun p => (fg p.1 p.2).map fun ρ1 => .nx ρ1
theorem vs_asg {ts : List Nat} {tg a : Expr} {fg : Eg} {fa : Ev} (ho : ts.all (fun i => !io.contains i) = true) (hg : VG X M ts tg fg) (ha : VE X M false a fa) (hs : swapsWithSole [tg] a pos.line X.env = pure false := by rfl) (hw : swappedStores [tg] a X.env = pure none := by rfl)
    (h1 : (assignEach [tg] X.env).map (·.2) = [assign tg X.env] := by rfl) : VS X M M io rk B (.Assign [tg] a pos) (sAsg fg fa) := by
  obtain ⟨t, p, k⟩ := ha
  refine ⟨⟨fun pins s σ H E I ⟨C, G, ρ, f, o, R, P, hC, e, h⟩ => ?_⟩⟩
  refine (ps_asg p hg hs hw h1).run pins s σ H E I ?_
  obtain ⟨⟨d, ρ1⟩, e1, e2⟩ := Option.bind_eq_some_iff.mp e
  obtain ⟨ρ2, e3, e4⟩ := Option.map_eq_some_iff.mp e2
  subst e4
  refine k G H σ ρ f d ρ1 _ R e1 fun v G' H' f' S R' r => ?_
  exact ⟨G', ρ1, f', d, ρ2, R', r, e3, fun σ' R2 x => h σ' G' H' f' S R2 (P.eqx x hC fun j hj => by simpa using List.all_eq_true.mp ho j hj)⟩

/-! ### returns -/
def maskFrom (io : List Nat) : Nat → Rho → Rho
  | _, [] => []
  | i, d :: r => (if io.contains i then d else .dead) :: maskFrom io (i + 1) r
def mask (io : List Nat) (ρ : Rho) : Rho := maskFrom io 0 ρ
theorem maskFrom_get (io : List Nat) : ∀ (ρ : Rho) (k i : Nat), (maskFrom io k ρ)[i]? = (ρ[i]?).map fun d => if io.contains (k + i) then d else .dead
  | [], _, _ => by simp [maskFrom]
  | d :: r, k, 0 => by simp [maskFrom]
  | d :: r, k, i + 1 => by
    rw [maskFrom, List.getElem?_cons_succ, List.getElem?_cons_succ, maskFrom_get io r (k + 1) i, show k + 1 + i = k + (i + 1) by omega]
theorem mask_get (io : List Nat) (ρ : Rho) (i : Nat) : (mask io ρ)[i]? = (ρ[i]?).map fun d => if io.contains i then d else .dead := by
  have := maskFrom_get io ρ 0 i
  rw [Nat.zero_add] at this
  exact this
theorem mask_length (io : List Nat) (ρ : Rho) : (mask io ρ).length = ρ.length := by
  have : ∀ (ρ : Rho) k, (maskFrom io k ρ).length = ρ.length := by
    intro ρ
    induction ρ with
    | nil => intro k; rfl
    | cons d r ih => intro k; simp [maskFrom, ih]
  exact this ρ 0
theorem Rel.mask {K : PySem.W.Frag} {M : List Nat} {G H : Hp} {σ : L2.St} {ρ : Rho} {f : Nat → List Addr} (R : Rel K M G H σ ρ f) (h : ∀ i, i ∈ io → i ∈ M) : Rel K io G H σ (mask io ρ) f := by
  refine ⟨R.sub, by rw [mask_length]; exact R.len, fun i d e hi => ?_, fun i hi => ?_, fun i hi j hj => R.dis i (h i hi) j (h j hj)⟩
  · rw [mask_get] at e
    obtain ⟨d', e1, e2⟩ := Option.map_eq_some_iff.mp e
    rw [if_neg (by simpa using hi)] at e2
    exact .inl e2.symm
  · obtain ⟨d, v, h1, h2, o⟩ := R.ow i (h i hi)
    exact ⟨d, v, by rw [mask_get, h1]; simp [hi], h2, o⟩
theorem Step.less {M M1 : List Nat} {f f1 : Nat → List Addr} {G H G1 H1 : Hp} (S : Step M f G H M1 f1 G1 H1) (h : ∀ i, i ∈ io → i ∈ M1) : Step M f G H io f1 G1 H1 :=
  ⟨S.sub, S.new, S.keep, S.live, fun b ⟨i, hi, hb⟩ => S.own b ⟨i, h i hi, hb⟩⟩
def sRet (io : List Nat) (fa : Ev) : Es := fun ρ => (fa ρ).map fun p => .rt p.1 (mask io p.2)
end
end Bl

set_option Elab.async false
set_option linter.all false
set_option maxRecDepth 100000
set_option maxHeartbeats 4000000
/-! Vl4: returns, loops, owned slots changed, dicts, calls of the text's own defs. -/
namespace Bl
open PySem PySem.Spec PyProof.Rows L2
section
variable {X : Cx} {M M1 M' io : List Nat} {rk : Bool} {B : List Nat} {st : Stmt} {rest : List Stmt} {F F1 F2 : Es} {pos : Pos} {a : Expr} {fa : Ev}

/-! ### return -/
theorem sub_of {io M : List Nat} (h : io.all (fun i => M.contains i) = true) : ∀ i, i ∈ io → i ∈ M := fun i hi => by simpa using List.all_eq_true.mp h i hi
theorem res_less {K : PySem.W.Frag} {G1 H1 H : Hp} {f f1 : Nat → List Addr} {v : V} {d : D} (h : ∀ i, i ∈ io → i ∈ M) {m : Bool} (r : Res m K G1 H1 M f1 M H f v d) : Res m K G1 H1 io f1 M H f v d := by
  cases m with
  | false => exact r
  | true =>
    obtain ⟨fp, o, q⟩ := r
    exact ⟨fp, o, fun b hb => ⟨fun ⟨i, hi, w⟩ => (q b hb).1 ⟨i, h i hi, w⟩, (q b hb).2⟩⟩
theorem vs_ret (hio : io.all (fun i => M.contains i) = true) (ha : VE X M rk a fa) : VS X M M' io rk B (.Return (some a) pos) (sRet io fa) := by
  obtain ⟨t, p, k⟩ := ha
  refine ⟨⟨fun pins s σ H E I ⟨C, G, ρ, f, o, R, P, hC, e, h⟩ => ?_⟩⟩
  refine (ps_ret p).run pins s σ H E I ?_
  obtain ⟨⟨d, ρ1⟩, e1, e2⟩ := Option.map_eq_some_iff.mp e
  subst e2
  have hs := sub_of hio
  exact k G H σ ρ f d ρ1 _ R e1 fun v G' H' f' S R' r => h v σ G' H' f' (S.less hs) (R'.mask hs) P (res_less hs r)
def sRetN (io : List Nat) : Es := fun ρ => some (.rt .non (mask io ρ))
theorem vs_retN (hio : io.all (fun i => M.contains i) = true) : VS X M M' io false B (.Return none pos) (sRetN io) := by
  refine ⟨⟨fun pins s σ H E I ⟨C, G, ρ, f, o, R, P, hC, e, h⟩ => ?_⟩⟩
  cases e
  have hs := sub_of hio
  exact ps_retN.run pins s σ H E I (h .non σ G H f (Step.refl.less hs) (R.mask hs) P .non)
/-- return x, x owned -/
def sRetS (io : List Nat) (j : Nat) : Es := fun ρ => (ρ[j]?).map fun d => .rt d (mask io ρ)
theorem vs_retS (j : Nat) {x : Str} {pos' : Pos} (hio : io.all (fun i => M.contains i) = true) (hj : (M.contains j) = true) (hjo : (io.contains j) = false) (hN : X.N[j]? = some x := by rfl) (hv : Vis X.env.scope x := by first | exact Or.inl rfl | exact Or.inr (Or.inl rfl) | exact Or.inr (Or.inr rfl))
    (hd : (x == ("__debug__" : Str)) = false := by decide) (hcd : (x == ("__classdict__" : Str)) = false := by decide) : VS X M M' io true B (.Return (some (.Name x pos')) pos) (sRetS io j) := by
  refine ⟨⟨fun pins s σ H E I ⟨C, G, ρ, f, o, R, P, hC, e, h⟩ => ?_⟩⟩
  obtain ⟨d, e1, e2⟩ := Option.map_eq_some_iff.mp e
  subst e2
  have hs := sub_of hio
  have hj : j ∈ M := by simpa using hj
  have hjo : j ∉ io := by simpa using hjo
  obtain ⟨d', v, h1, h2, ow⟩ := R.ow j hj
  rw [h1] at e1
  cases e1
  refine (ps_ret (pe_var hN hv hd hcd)).run pins s σ H E I ⟨v, h2, ?_⟩
  refine h v σ G H f (Step.refl.less hs) (R.mask hs) P ⟨f j, ow, fun b hb => ⟨fun ⟨i, hi, w⟩ => ?_, .inl ⟨j, hj, hb⟩⟩⟩
  exact R.dis j hj i (hs i hi) (fun z => hjo (z ▸ hi)) b hb w

/-! ### owned slots frozen (what is known of them stays) -/
theorem Rel.freeze {K : PySem.W.Frag} {G H : Hp} {σ : L2.St} {ρ : Rho} {f : Nat → List Addr} (R : Rel K M G H σ ρ f) (h : ∀ i, i ∈ M1 → i ∈ M) : ∃ G1, Step M f G H M1 f G1 H ∧ Rel K M1 G1 H σ ρ f := by
  classical
  let G1 : Hp := fun b => if Ow M f b ∧ ¬ Ow M1 f b then H b else G b
  have g1 : ∀ b, Ow M f b → ¬ Ow M1 f b → G1 b = H b := fun b hb hc => if_pos ⟨hb, hc⟩
  have g0 : ∀ b, ¬ (Ow M f b ∧ ¬ Ow M1 f b) → G1 b = G b := fun b hb => if_neg hb
  have noG : ∀ b, Ow M f b → G b = none := fun b ⟨i, hi, hb⟩ => by
    obtain ⟨_, _, _, _, o⟩ := R.ow i hi
    exact (o.here b hb).2
  have s1 : Same G G1 := fun b u q => by
    by_cases hb : Ow M f b ∧ ¬ Ow M1 f b
    · rw [noG b hb.1] at q; cases q
    · rw [g0 b hb]; exact q
  refine ⟨G1, ⟨s1, fun b hb => ?_, fun b o q _ => q, fun b q => q, fun b ⟨i, hi, hb⟩ => .inl ⟨i, h i hi, hb⟩⟩, fun b u q => ?_, R.len, fun i d e hi => ?_, fun i hi => ?_, fun i hi j hj => R.dis i (h i hi) j (h j hj)⟩
  · by_cases q : Ow M f b ∧ ¬ Ow M1 f b
    · exact .inr (.inr q.1)
    · rw [g0 b q] at hb; exact .inl hb
  · by_cases hb : Ow M f b ∧ ¬ Ow M1 f b
    · rw [g1 b hb.1 hb.2] at q; exact q
    · rw [g0 b hb] at q; exact R.sub b u q
  · by_cases hm : i ∈ M
    · obtain ⟨d', v, h1, h2, o⟩ := R.ow i hm
      rw [h1] at e
      cases e
      refine .inr ⟨v, h2, o.freeze s1 fun b hb => g1 b ⟨i, hm, hb⟩ fun ⟨j, hj, w⟩ => ?_⟩
      exact R.dis i hm j (h j hj) (fun z => hi (z ▸ hj)) b hb w
    · rcases R.fz i d e hm with z | ⟨v, h1, h2⟩
      · exact .inl z
      · exact .inr ⟨v, h1, h2.mono s1⟩
  · obtain ⟨d, v, h1, h2, o⟩ := R.ow i (h i hi)
    refine ⟨d, v, h1, h2, o.move s1 (fun _ _ _ q => q) fun b hb => ?_⟩
    rw [g0 b fun w => w.2 ⟨i, hi, hb⟩]
    exact (o.here b hb).2
theorem vs_frz (hs : M1.all (fun i => M.contains i) = true) (h : VS X M1 M' io rk B st F) : VS X M M' io rk B st F := by
  refine ⟨⟨fun pins s σ H E I ⟨C, G, ρ, f, o, R, P, hC, e, q⟩ => ?_⟩⟩
  obtain ⟨G1, S1, R1⟩ := R.freeze (sub_of hs)
  exact h.ps.run pins s σ H E I ⟨C, G1, ρ, f, o, R1, P, hC, e, q.pre S1⟩
theorem vss_frz {sts : List Stmt} (hs : M1.all (fun i => M.contains i) = true) (h : VSs X M1 M' io rk B sts F) : VSs X M M' io rk B sts F := by
  refine ⟨⟨fun pins s σ H E I ⟨C, G, ρ, f, o, R, P, hC, e, q⟩ => ?_⟩⟩
  obtain ⟨G1, S1, R1⟩ := R.freeze (sub_of hs)
  exact h.ps.run pins s σ H E I ⟨C, G1, ρ, f, o, R1, P, hC, e, q.pre S1⟩
/-- frozen at a block's end -/
theorem vss_end {sts : List Stmt} (hs : M1.all (fun i => M'.contains i) = true) (h : VSs X M M' io rk B sts F) : VSs X M M1 io rk B sts F := by
  refine ⟨⟨fun pins s σ H E I ⟨C, G, ρ, f, o, R, P, hC, e, q⟩ => ?_⟩⟩
  refine h.ps.run pins s σ H E I ⟨C, G, ρ, f, o, R, P, hC, e, ?_⟩
  cases o with
  | nx ρ' =>
    intro σ' G' H' f' S R' P'
    obtain ⟨G1, S1, R1⟩ := R'.freeze (sub_of hs)
    exact q σ' G1 H' f' (S.trans S1) R1 P'
  | rt d ρ' => exact q
  | bk ρ' => exact q
  | ct ρ' => exact q
/-- what is known of slots is forgotten -/
def sDrop (vs : List Nat) (F : Es) : Es := fun ρ => (F ρ).map fun o => match o with
  | .nx ρ' => .nx (wipeD ρ' vs)
  | .ct ρ' => .ct (wipeD ρ' vs)
  | .bk ρ' => .bk (wipeD ρ' vs)
  | o => o
theorem Rel.drop {K : PySem.W.Frag} {G H : Hp} {σ : L2.St} {ρ : Rho} {f : Nat → List Addr} (R : Rel K M G H σ ρ f) (vs : List Nat) (h : ∀ i, i ∈ vs → i ∉ M) : Rel K M G H σ (wipeD ρ vs) f := by
  refine ⟨R.sub, by rw [wipeD_length]; exact R.len, fun i d e hi => ?_, fun i hi => ?_, R.dis⟩
  · by_cases q : i ∈ vs
    · exact .inl (wipeD_in ρ i d vs q e)
    · rw [wipeD_at ρ i vs q] at e
      exact R.fz i d e hi
  · rw [wipeD_at ρ i vs fun z => h i z hi]
    exact R.ow i hi
theorem vss_drop {sts : List Stmt} (vs : List Nat) (h1 : vs.all (fun i => !M'.contains i) = true) (h2 : vs.all (fun i => !B.contains i) = true) (h : VSs X M M' io rk B sts F) : VSs X M M' io rk B sts (sDrop vs F) := by
  refine ⟨⟨fun pins s σ H E I ⟨C, G, ρ, f, o, R, P, hC, e, q⟩ => ?_⟩⟩
  obtain ⟨o1, e1, e2⟩ := Option.map_eq_some_iff.mp e
  refine h.ps.run pins s σ H E I ⟨C, G, ρ, f, o1, R, P, hC, e1, ?_⟩
  have a1 : ∀ i, i ∈ vs → i ∉ M' := fun i hi => by simpa using List.all_eq_true.mp h1 i hi
  have a2 : ∀ i, i ∈ vs → i ∉ B := fun i hi => by simpa using List.all_eq_true.mp h2 i hi
  cases o1 with
  | nx ρ' => subst e2; exact fun σ' G' H' f' S R' P' => q σ' G' H' f' S (R'.drop vs a1) P'
  | rt d ρ' => subst e2; exact q
  | bk ρ' => subst e2; exact fun σ' G' H' f' S R' P' => q σ' G' H' f' S (R'.drop vs a2) P'
  | ct ρ' => subst e2; exact fun σ' G' H' f' S R' P' => q σ' G' H' f' S (R'.drop vs a2) P'

/-! ### for -/
def forGo (fg : Eg) (F : Es) : List D → Rho → Option Out
  | [], ρ => some (.nx ρ)
  | d :: ds, ρ => (fg d ρ).bind fun ρ1 => (F ρ1).bind fun o => match o with
    | .nx ρ2 => forGo fg F ds ρ2
    | .ct ρ2 => forGo fg F ds ρ2
    | .bk ρ2 => some (.nx ρ2)
    | .rt d ρ2 => some (.rt d ρ2)
def sFor (fi : Ea) (fg : Eg) (F : Es) : Es := fun ρ => (fi ρ).bind fun p => forGo fg F p.1 p.2
theorem vs_for {tg iter : Expr} {body : List Stmt} {fi : Ea} {fg : Eg} {ts : List Nat} (hp : PassesOwn (model X.prog X.w) X.A X.env X.xe) (hc : X.calm = true) (ho : ts.all (fun i => !io.contains i) = true) (hi : VI X M tg iter fi) (hg : VG X M ts tg fg) (hb : VSs X M M io rk M body F)
    (hs : ∀ x, foldedSetIterable iter X.env x = pure x := by intro _; rfl) : VS X M M io rk B (.For tg iter body [] pos) (sFor fi fg F) := by
  obtain ⟨wi, pi, ki⟩ := hi
  refine ⟨⟨fun pins s σ H E I ⟨C, G, ρ, f, o, R, P, hC, e, h⟩ => ?_⟩⟩
  refine (ps_for hp hc pi hg hb.ps hs).run pins s σ H E I ?_
  obtain ⟨⟨ds, ρ1⟩, e1, e2⟩ := Option.bind_eq_some_iff.mp e
  refine ki G H σ ρ f ds ρ1 _ R e1 fun J G1 H1 f1 S1 R1 wk => ?_
  have hts : ∀ j, j ∈ ts → j ∉ io := fun j hj => by simpa using List.all_eq_true.mp ho j hj
  refine ⟨fun i m σc Hc => m = ds.length - i ∧ i ≤ ds.length ∧ ∃ (Gc : Hp) (fc : Nat → List Addr) (ρc : Rho), Step M f1 G1 H1 M fc Gc Hc ∧ Rel X.K M Gc Hc σc ρc fc ∧ Pin C σc ∧ forGo fg F (ds.drop i) ρc = some o, ⟨_, rfl, Nat.zero_le _, G1, f1, ρ1, .refl, R1, P, e2⟩, ?_⟩
  rintro i m σc Hc ⟨rfl, hi, Gc, fc, ρc, Sc, Rc, Pc, eg⟩
  have wkc := wk i Gc Hc Sc.sub Rc.sub
  by_cases hlt : i < ds.length
  · obtain ⟨d, hd, hdr⟩ := drop_get hlt
    rw [hdr] at eg
    obtain ⟨ρ3, g1, g2⟩ := Option.bind_eq_some_iff.mp (show (fg d ρc).bind _ = some o from eg)
    obtain ⟨o3, g3, g4⟩ := Option.bind_eq_some_iff.mp g2
    obtain ⟨hgo, hy⟩ := wkc.2 d hd
    refine .inr ⟨hgo, fun σn Hn => ∃ (Gn : Hp) (fn : Nat → List Addr) (ρn : Rho), Step M f1 G1 H1 M fn Gn Hn ∧ Rel X.K M Gn Hn σn ρn fn ∧ Pin C σn ∧ forGo fg F (ds.drop (i + 1)) ρn = some o,
      fun σn Hn ⟨Gn, fn, ρn, h1, h2, h3, h4⟩ => ⟨ds.length - (i + 1), by omega, rfl, hlt, Gn, fn, ρn, h1, h2, h3, h4⟩, ?_⟩
    intro x H2 hyl
    obtain ⟨G2, gr, hx⟩ := hy x H2 hyl
    have R2 := Rc.grow gr
    have S2 : Step M f1 G1 H1 M fc G2 H2 := Sc.trans (gr.step M fc)
    refine ⟨G2, ρc, fc, d, ρ3, R2, hx, g1, fun σ3 R3 x3 => ?_⟩
    refine ⟨C, G2, ρ3, fc, o3, R3, Pc.eqx x3 hC hts, hC, g3, ?_⟩
    have S02 := S1.trans S2
    cases o3 with
    | nx ρ4 => exact fun σ4 G4 H4 f4 S4 R4 P4 => ⟨G4, f4, ρ4, S2.trans S4, R4, P4, g4⟩
    | ct ρ4 => exact fun σ4 G4 H4 f4 S4 R4 P4 => ⟨G4, f4, ρ4, S2.trans S4, R4, P4, g4⟩
    | bk ρ4 =>
      cases g4
      exact fun σ4 G4 H4 f4 S4 R4 P4 => h σ4 G4 H4 f4 (S02.trans S4) R4 P4
    | rt d ρ4 =>
      cases g4
      exact h.pre S02
  · have ei : i = ds.length := by omega
    subst ei
    rw [List.drop_length] at eg
    cases eg
    exact .inl ⟨wkc.1 rfl, h σc Gc Hc fc (S1.trans Sc) Rc Pc⟩

/-! ### while -/
def wGo (fc : Et) (F : Es) : Nat → Rho → Option Out
  | 0, _ => none
  | n + 1, ρ => (fc ρ).bind fun p => if p.1 then (F p.2).bind fun o => match o with
    | .nx ρ2 => wGo fc F n ρ2
    | .ct ρ2 => wGo fc F n ρ2
    | .bk ρ2 => some (.nx ρ2)
    | .rt d ρ2 => some (.rt d ρ2)
    else some (.nx p.2)
theorem wGo_more {fc : Et} {F : Es} : ∀ {n k : Nat} {ρ : Rho} {o : Out}, wGo fc F n ρ = some o → wGo fc F (n + k) ρ = some o
  | 0, _, _, _, h => by cases h
  | n + 1, k, ρ, o, h => by
    rw [show n + 1 + k = (n + k) + 1 by omega]
    unfold wGo at h ⊢
    obtain ⟨⟨c, ρ1⟩, e1, e2⟩ := Option.bind_eq_some_iff.mp h
    rw [e1]
    show (if c then _ else _) = some o
    cases c with
    | false => exact e2
    | true =>
      obtain ⟨o1, e3, e4⟩ := Option.bind_eq_some_iff.mp (show (F ρ1).bind _ = some o from e2)
      show (F ρ1).bind _ = some o
      rw [e3]
      cases o1 with
      | nx ρ2 => exact wGo_more (show wGo fc F n ρ2 = some o from e4)
      | ct ρ2 => exact wGo_more (show wGo fc F n ρ2 = some o from e4)
      | bk ρ2 => exact e4
      | rt d ρ2 => exact e4
def sWhile (fuel : Nat) (fc : Et) (F : Es) : Es := wGo fc F fuel
theorem vs_while {c : Expr} {body : List Stmt} {fc : Et} (fuel : Nat) (hp : PassesOwn (model X.prog X.w) X.A X.env X.xe) (hc : VT X M c fc) (hb : VSs X M M io rk M body F) : VS X M M io rk B (.While c body [] pos) (sWhile fuel fc F) := by
  obtain ⟨t, p, k⟩ := hc
  refine ⟨⟨fun pins s σ H E I ⟨C, G, ρ, f, o, R, P, hC, e, h⟩ => ?_⟩⟩
  refine (ps_while hp p hb.ps).run pins s σ H E I ?_
  refine ⟨fun n σc Hc => ∃ (Gc : Hp) (fc' : Nat → List Addr) (ρc : Rho), Step M f G H M fc' Gc Hc ∧ Rel X.K M Gc Hc σc ρc fc' ∧ Pin C σc ∧ wGo fc F n ρc = some o, ⟨fuel, G, f, ρ, .refl, R, P, e⟩, ?_⟩
  rintro n σc Hc ⟨Gc, fc', ρc, Sc, Rc, Pc, eg⟩
  cases n with
  | zero => cases eg
  | succ n =>
    unfold wGo at eg
    obtain ⟨⟨b, ρ1⟩, e1, e2⟩ := Option.bind_eq_some_iff.mp eg
    refine k Gc Hc σc ρc fc' b ρ1 _ Rc e1 fun G1 H1 f1 S1 R1 => ?_
    have S01 := Sc.trans S1
    cases b with
    | false =>
      refine iteF ?_
      cases (show some (Out.nx ρ1) = some o from e2)
      exact h σc G1 H1 f1 S01 R1 Pc
    | true =>
      refine iteT ?_
      obtain ⟨o3, g3, g4⟩ := Option.bind_eq_some_iff.mp (show (F ρ1).bind _ = some o from e2)
      refine ⟨fun σn Hn => ∃ (Gn : Hp) (fn : Nat → List Addr) (ρn : Rho), Step M f G H M fn Gn Hn ∧ Rel X.K M Gn Hn σn ρn fn ∧ Pin C σn ∧ wGo fc F n ρn = some o, fun σn Hn ⟨Gn, fn, ρn, h1, h2, h3, h4⟩ => ⟨n, Nat.lt_succ_self n, Gn, fn, ρn, h1, h2, h3, h4⟩, ?_⟩
      refine ⟨C, G1, ρ1, f1, o3, R1, Pc, hC, g3, ?_⟩
      cases o3 with
      | nx ρ4 => exact fun σ4 G4 H4 f4 S4 R4 P4 => ⟨G4, f4, ρ4, S01.trans S4, R4, P4, g4⟩
      | ct ρ4 => exact fun σ4 G4 H4 f4 S4 R4 P4 => ⟨G4, f4, ρ4, S01.trans S4, R4, P4, g4⟩
      | bk ρ4 =>
        cases g4
        exact fun σ4 G4 H4 f4 S4 R4 P4 => h σ4 G4 H4 f4 (S01.trans S4) R4 P4
      | rt d ρ4 =>
        cases g4
        exact h.pre S01

/-! ### an owned slot's object is changed -/
/-- the object of slot j is now d' (same places) -/
theorem Rel.change {K : PySem.W.Frag} {G H H' : Hp} {σ : L2.St} {ρ : Rho} {f : Nat → List Addr} {j : Nat} {d d' : D} {v : V} (R : Rel K M G H σ ρ f) (hj : j ∈ M) (hd : ρ[j]? = some d) (hv : σ[j]? = some (some v)) (o : Own K G H' v d' (f j)) (hH : ∀ b, b ∉ f j → H' b = H b) :
    Rel K M G H' σ (ρ.set j d') f ∧ Step M f G H M f G H' := by
  have hl : j < ρ.length := (List.getElem?_eq_some_iff.mp hd).1
  obtain ⟨d0, v0, h1, h2, o0⟩ := R.ow j hj
  refine ⟨⟨fun b u e => ?_, by simp [R.len], fun i e hi hm => ?_, fun i hi => ?_, R.dis⟩, Same.refl _, fun b h => .inl h, fun b u e n => ?_, fun b e => ?_, fun b h => .inl h⟩
  · have : b ∉ f j := fun z => by rw [(o0.here b z).2] at e; cases e
    rw [hH b this]
    exact R.sub b u e
  · have q : j ≠ i := fun z => hm (z ▸ hj)
    rw [List.getElem?_set_ne q] at hi
    exact R.fz i e hi hm
  · by_cases q : j = i
    · subst q
      exact ⟨d', v, by rw [List.getElem?_set_self hl], hv, o⟩
    · obtain ⟨d2, v2, h3, h4, o2⟩ := R.ow i hi
      refine ⟨d2, v2, by rw [List.getElem?_set_ne q]; exact h3, h4, o2.move (Same.refl _) (fun b hb u e => ?_) fun b hb => (o2.here b hb).2⟩
      rw [hH b (R.dis i hi j hj (fun z => q z.symm) b hb)]
      exact e
  · rw [hH b fun z => n ⟨j, hj, z⟩]
    exact e
  · by_cases z : b ∈ f j
    · exact (o.here b z).1
    · rw [hH b z]; exact e
/-- a method that changes the object: k gives what it is then, and what comes back -/
def LiftM (K : PySem.W.Frag) (r : V → List V → Hp → VK → Prop) (k : D → List D → Option (D × D)) : Prop :=
  ∀ (G H : Hp) (v : V) (d : D) (fp : List Addr), Same G H → Own K G H v d fp → ∀ (vs : List V) (ds : List D) (d' w : D) (Q : VK), FzA K G vs ds → k d ds = some (d', w) →
    (∀ u H', Own K G H' v d' fp → (∀ b, b ∉ fp → H' b = H b) → Fz K G u w → Q u H') → r v vs H Q
/-- which built-in type a thing is of -/
def tyD : String → D → Bool
  | "list", .lst _ => true
  | "dict", .dic _ => true
  | "dict", .dit _ => true
  | _, _ => false
theorem tyD_of {K : PySem.W.Frag} {G H : Hp} {v : V} {d : D} {fp : List Addr} {T : String} (o : Own K G H v d fp) (h : tyD T d = true) : tyV K T v H := by
  unfold tyD at h
  split at h
  · cases o with
    | lst h1 _ _ => exact .inl ⟨rfl, _, SqL.of h1⟩
  · cases o with
    | dic h1 _ _ _ => exact .inr (.inr (.inl ⟨rfl, .inl ⟨_, h1⟩⟩))
  · cases o with
    | dit h1 _ _ _ => exact .inr (.inr (.inl ⟨rfl, .inr ⟨_, h1⟩⟩))
  · cases h
def fOwn (T : String) (j : Nat) (k : D → List D → Option (D × D)) (fs : Ea) : Ev := fun ρ => (slot j ρ).bind fun d1 => if tyD T d1 = true then (fs ρ).bind fun p => (slot j p.2).bind fun d => (k d p.1).map fun q => (q.2, p.2.set j q.1) else none
variable {T id : String} {r : V → List V → Hp → VK → Prop} {k : D → List D → Option (D × D)} {e : Expr} {es : List Expr} {fs : Ea} {js : List (Option Nat)} {name x : Str} {apos cpos xp : Pos}
theorem ve_own (j : Nat) (hj : (M.contains j) = true) (L : LiftM X.K r k) (pa : PlainAttrs T) (slot' : Slot T name id) (hty : typeOf (.builtin id) = pure (.type "method_descriptor")) (hm : MtR X id r) (hjs : allN js = true) (ha : VA X M js (e :: es) fs)
    (hN : X.N[j]? = some x := by rfl) (hv : Vis X.env.scope x := by first | exact Or.inl rfl | exact Or.inr (Or.inl rfl) | exact Or.inr (Or.inr rfl)) (hd : (x == ("__debug__" : Str)) = false := by decide) (hcd : (x == ("__classdict__" : Str)) = false := by decide)
    (hbase : attributeBase (.Name x xp) name X.env (eval (.Name x xp) X.env) = eval (.Name x xp) X.env := by rfl)
    (hfew : ((backTo cpos (starEach (e :: es) X.env)).all (fun x => !x.1) && (backToKw cpos (keywordEach [] X.env)).all (fun x => x.1.isSome)
      && decide ((e :: es).length + ([] : List Keyword).length + (if ([] : List Keyword).isEmpty then 0 else 1) < 30)) = true := by rfl)
    (hline : (apos.endLine == cpos.line) = true := by rfl) (hs : starEach (e :: es) X.env = (false, eval e X.env) :: starEach es X.env := by rfl) (hplain : (backTo cpos (starEach es X.env)).any (·.1) = false := by rfl) :
    VE X M false (.Call (.Attribute (.Name x xp) name apos) (e :: es) [] cpos) (fOwn T j k fs) := by
  obtain ⟨t, p, ka⟩ := ha
  refine ⟨_, pe_bm pa slot' hty hm (pe_var hN hv hd hcd) p hbase hfew hline hs hplain, fun G H σ ρ f d ρ' Q R e hQ => ?_⟩
  unfold fOwn at e
  obtain ⟨dj0, e0, e00⟩ := Option.bind_eq_some_iff.mp e
  split at e00
  · rename_i ht
    obtain ⟨⟨ds, ρ1⟩, e1, e2⟩ := Option.bind_eq_some_iff.mp e00
    obtain ⟨d0, e3', e4⟩ := Option.bind_eq_some_iff.mp e2
    have e3 := (slot_some e3').1
    obtain ⟨⟨d', w⟩, e5, e6⟩ := Option.map_eq_some_iff.mp e4
    cases e6
    have hj : j ∈ M := by simpa using hj
    obtain ⟨dj, v, h1, h2, o⟩ := R.ow j hj
    rw [(slot_some e0).1] at h1
    cases h1
    refine ⟨v, h2, tyD_of o ht, ?_⟩
    refine ka G H σ ρ f ds ρ1 _ R e1 fun vs G1 H1 f1 S1 R1 r1 => ?_
    obtain ⟨d3, v3, h3, h4, o3⟩ := R1.ow j hj
    rw [h2] at h4
    cases h4
    rw [e3] at h3
    cases h3
    refine (L G1 H1 v d0 _ R1.sub o3) vs ds d' w _ (r1.all hjs) e5 fun u H2 o2 hH hu => ?_
    obtain ⟨R2, S2⟩ := R1.change hj e3 h2 o2 hH
    exact hQ u G1 H2 f1 (S1.trans S2) R2 hu
  · cases e00
def fOwn0 (T : String) (j : Nat) (k : D → List D → Option (D × D)) : Ev := fun ρ => (slot j ρ).bind fun d => if tyD T d = true then (k d []).map fun q => (q.2, ρ.set j q.1) else none
theorem ve_own0 (j : Nat) (hj : (M.contains j) = true) (L : LiftM X.K r k) (pa : PlainAttrs T) (slot' : Slot T name id) (hty : typeOf (.builtin id) = pure (.type "method_descriptor")) (hm : MtR X id r)
    (hN : X.N[j]? = some x := by rfl) (hv : Vis X.env.scope x := by first | exact Or.inl rfl | exact Or.inr (Or.inl rfl) | exact Or.inr (Or.inr rfl)) (hd : (x == ("__debug__" : Str)) = false := by decide) (hcd : (x == ("__classdict__" : Str)) = false := by decide)
    (hbase : attributeBase (.Name x xp) name X.env (eval (.Name x xp) X.env) = eval (.Name x xp) X.env := by rfl) (hline : (apos.endLine == cpos.line) = true := by rfl) :
    VE X M false (.Call (.Attribute (.Name x xp) name apos) [] [] cpos) (fOwn0 T j k) := by
  refine ⟨_, pe_bm0 pa slot' hty hm (pe_var hN hv hd hcd) hbase hline, fun G H σ ρ f d ρ' Q R e hQ => ?_⟩
  unfold fOwn0 at e
  obtain ⟨d0, e3', e4'⟩ := Option.bind_eq_some_iff.mp e
  split at e4'
  · rename_i ht
    have e3 := (slot_some e3').1
    obtain ⟨⟨d', w⟩, e5, e6⟩ := Option.map_eq_some_iff.mp e4'
    cases e6
    have hj : j ∈ M := by simpa using hj
    obtain ⟨dj, v, h1, h2, o⟩ := R.ow j hj
    rw [e3] at h1
    cases h1
    refine ⟨v, h2, tyD_of o ht, ?_⟩
    refine (L G H v d0 _ R.sub o) [] [] d' w _ .nil e5 fun u H2 o2 hH hu => ?_
    obtain ⟨R2, S2⟩ := R.change hj e3 h2 o2 hH
    exact hQ u G H2 f S2 R2 hu
  · cases e4'
end

/-! ### lists' methods -/
section
variable {K : PySem.W.Frag}
def kAppend : D → List D → Option (D × D) := fun d ds => match d, ds with
  | .lst xs, [y] => if xs.length < lim then some (.lst (xs ++ [y]), .non) else none
  | _, _ => none
theorem lm_append : LiftM K rAppend kAppend := by
  intro G H v d fp s o vs ds d' w Q h e hQ
  · unfold kAppend at e
    split at e
    · split at e
      · rename_i hl
        cases e
        cases o with
        | lst h1 h2 r =>
          obtain ⟨u, rfl, hu⟩ := h.one
          refine ⟨_, _, u, rfl, rfl, h1, by rw [r.length]; exact lim_lt hl, hQ _ _ (.lst upd_same h2 (r.append (.cons hu .nil))) (fun b hb => upd_ne (by simpa using hb)) .non⟩
      · cases e
    · cases e
def kPop0 : D → List D → Option (D × D) := fun d ds => match d, ds with
  | .lst xs, [] => (xs[xs.length - 1]?).map fun y => (.lst xs.dropLast, y)
  | _, _ => none
theorem lm_pop0 : LiftM K rPop kPop0 := by
  intro G H v d fp s o vs ds d' w Q h e hQ
  · unfold kPop0 at e
    split at e
    · obtain ⟨y, e1, e2⟩ := Option.map_eq_some_iff.mp e
      cases e2
      cases h
      cases o with
      | lst h1 h2 r =>
        obtain ⟨u, g1, g2⟩ := r.get e1
        rw [← r.length] at g1
        exact ⟨_, _, u, rfl, rfl, h1, g1, hQ _ _ (.lst upd_same h2 r.dropLast) (fun b hb => upd_ne (by simpa using hb)) g2⟩
    · cases e
theorem FzA.eraseIdx {G : Hp} : ∀ {vs : List V} {ds : List D} (i : Nat), FzA K G vs ds → FzA K G (vs.eraseIdx i) (ds.eraseIdx i)
  | _, _, _, .nil => .nil
  | _, _, 0, .cons _ t => t
  | _, _, i + 1, .cons h t => .cons h (FzA.eraseIdx i t)
def kPopAt : D → List D → Option (D × D) := fun d ds => match d, ds with
  | .lst xs, [.int i] => if in62 i then (seqIndex? i xs.length).bind fun k => (xs[k]?).map fun y => (.lst (xs.eraseIdx k), y) else none
  | _, _ => none
theorem lm_popAt : LiftM K rPopAt kPopAt := by
  intro G H v d fp s o vs ds d' w Q h e hQ
  · unfold kPopAt at e
    split at e
    · split at e
      · rename_i hb
        obtain ⟨b1, b2⟩ := in62_of hb
        obtain ⟨k, e0, e1'⟩ := Option.bind_eq_some_iff.mp e
        obtain ⟨y, e1, e2⟩ := Option.map_eq_some_iff.mp e1'
        cases e2
        cases o with
        | lst h1 h2 r =>
          obtain ⟨u, rfl, hu⟩ := h.one
          obtain ⟨u2, g1, g2⟩ := r.get e1
          rw [← r.length] at e0
          refine ⟨_, _, _, k, u2, rfl, by rw [hu.int_inv], h1, by omega, by omega, e0, g1, hQ _ _ (.lst upd_same h2 (r.eraseIdx k)) (fun b hb => upd_ne (by simpa using hb)) g2⟩
      · cases e
    · cases e
end
end Bl

set_option Elab.async false
set_option linter.all false
set_option maxRecDepth 100000
set_option maxHeartbeats 4000000
/-! Vl5: items stored, dicts, defs. -/
namespace Bl
open PySem PySem.Spec PyProof.Rows L2

/-! ### x[i] = e, x an owned list -/
section
variable {X : Cx} {M M' io : List Nat} {rk : Bool} {B : List Nat} {pos : Pos} {a i : Expr} {fa fi : Ev}
def sPutL (j : Nat) (fa fi : Ev) : Es := fun ρ => (fa ρ).bind fun p => (fi p.2).bind fun q => (slot j q.2).bind fun d => match d, q.1 with
  | .lst xs, .int n => (ixN xs.length n).map fun k => .nx (q.2.set j (.lst (xs.set k p.1)))
  | _, _ => none
theorem vs_putL (j : Nat) {x : Str} {xp sp : Pos} (hj : (M.contains j) = true) (ha : VE X M false a fa) (hi : VE X M false i fi) (hN : X.N[j]? = some x := by rfl) (hv : Vis X.env.scope x := by first | exact Or.inl rfl | exact Or.inr (Or.inl rfl) | exact Or.inr (Or.inr rfl)) (hd : (x == ("__debug__" : Str)) = false := by decide) (hcd : (x == ("__classdict__" : Str)) = false := by decide)
    (has : ∀ v, assign (.Subscript (.Name x xp) i sp) X.env v = (do
      let ov ← holding [v] (eval (.Name x xp) X.env)
      let iv ← holding [v, ov] (eval i X.env)
      standAt sp
      holding [v, ov, iv] (setItem ov iv v)
      release [v, ov, iv] []) := by intro _; rfl)
    (hs : swapsWithSole [.Subscript (.Name x xp) i sp] a pos.line X.env = pure false := by rfl) (hw : swappedStores [.Subscript (.Name x xp) i sp] a X.env = pure none := by rfl)
    (h1 : (assignEach [.Subscript (.Name x xp) i sp] X.env).map (·.2) = [assign (.Subscript (.Name x xp) i sp) X.env] := by rfl) : VS X M M io rk B (.Assign [.Subscript (.Name x xp) i sp] a pos) (sPutL j fa fi) := by
  obtain ⟨t, p, k⟩ := ha
  obtain ⟨u, q, l⟩ := hi
  refine ⟨⟨fun pins s σ H E I ⟨C, G, ρ, f, o, R, P, hC, e, h⟩ => ?_⟩⟩
  refine (ps_asg p (pg_sub (pe_var hN hv hd hcd) q set_list has) hs hw h1).run pins s σ H E I ?_
  obtain ⟨⟨d, ρ1⟩, e1, e2⟩ := Option.bind_eq_some_iff.mp e
  obtain ⟨⟨di, ρ2⟩, e3, e4⟩ := Option.bind_eq_some_iff.mp e2
  obtain ⟨d0, e5, e6⟩ := Option.bind_eq_some_iff.mp e4
  have hj : j ∈ M := by simpa using hj
  refine k G H σ ρ f d ρ1 _ R e1 fun v G1 H1 f1 S1 R1 r1 => ?_
  obtain ⟨_, w, _, h2, _⟩ := R1.ow j hj
  refine ⟨w, h2, ?_⟩
  refine l G1 H1 σ ρ1 f1 di ρ2 _ R1 e3 fun iv G2 H2 f2 S2 R2 r2 => ?_
  obtain ⟨d3, w3, h3, h4, o3⟩ := R2.ow j hj
  rw [h2] at h4
  cases h4
  rw [(slot_some e5).1] at h3
  cases h3
  split at e6
  · rename_i xs n z
    obtain ⟨kk, e7, e8⟩ := Option.map_eq_some_iff.mp e6
    subst e8
    simp only at z
    subst z
    cases hf : f2 j with
    | nil => rw [hf] at o3; cases o3
    | cons b bs =>
      have o3' := o3
      rw [hf] at o3
      cases o3 with
      | @lst _ vs _ g1 g2 r =>
        have hx : Fz X.K G2 v d := Fz.mono S2.sub r1
        have hR : Rel X.K M G2 (upd H2 b (.lst (vs.set kk v))) σ (ρ2.set j (.lst (xs.set kk d))) f2 ∧ Step M f2 G2 H2 M f2 G2 (upd H2 b (.lst (vs.set kk v))) := by
          refine R2.change hj (slot_some e5).1 h2 ?_ fun c hc => upd_ne fun z => hc (by rw [hf, z]; simp)
          rw [hf]
          exact .lst upd_same g2 (r.set hx kk)
        exact ⟨b, vs, n, kk, rfl, Fz.int_inv r2, g1, by rw [r.length]; exact e7, h σ _ _ _ ((S1.trans S2).trans hR.2) hR.1 P⟩
  · cases e6
end

/-! ### dicts -/
def keyD : D → Option Key
  | .int i => some (.inl i)
  | .str s => some (.inr s)
  | _ => none
def keysD : List D → Option (List Key)
  | [] => some []
  | d :: ds => (keyD d).bind fun k => (keysD ds).map fun r => k :: r
def valP {κ α : Type} [DecidableEq κ] (kvs : List (κ × α)) (k : κ) : Option α := (kvs.find? fun kv => decide (kv.1 = k)).map (·.2)
def putP {κ α : Type} [DecidableEq κ] (kvs : List (κ × α)) (k : κ) (v : α) : List (κ × α) :=
  if (kvs.any fun kv => decide (kv.1 = k)) = true then kvs.map (fun kv => if kv.1 = k then (kv.1, v) else kv) else kvs ++ [(k, v)]
def dropP {κ α : Type} [DecidableEq κ] (kvs : List (κ × α)) (k : κ) : List (κ × α) := kvs.filter fun kv => decide (kv.1 ≠ k)
section
variable {K : PySem.W.Frag} {G : Hp}
theorem keyD_of {v : V} {d : D} {k : Key} (h : Fz K G v d) (e : keyD d = some k) : v = kV k := by
  cases h <;> first | (cases e; done) | (cases e; rfl)
theorem keysD_of : ∀ {vs : List V} {ds : List D} {ks : List Key}, FzA K G vs ds → keysD ds = some ks → vs = ks.map kV
  | _, _, _, .nil, e => by cases e; rfl
  | _, _, _, .cons h t, e => by
    unfold keysD at e
    obtain ⟨k, e1, e2⟩ := Option.bind_eq_some_iff.mp e
    obtain ⟨r, e3, e4⟩ := Option.map_eq_some_iff.mp e2
    subst e4
    rw [keyD_of h e1, keysD_of t e3]
    rfl
theorem valP_of {κ : Type} [DecidableEq κ] (k : κ) : ∀ {kvs : List (κ × V)} {ds : List (κ × D)}, kvs.map (·.1) = ds.map (·.1) → FzA K G (kvs.map (·.2)) (ds.map (·.2)) →
    (valP ds k = none ∧ valV kvs k = none) ∨ ∃ v d, valP ds k = some d ∧ valV kvs k = some v ∧ Fz K G v d
  | [], [], _, _ => .inl ⟨rfl, rfl⟩
  | [], _ :: _, e, _ => by simp at e
  | _ :: _, [], e, _ => by simp at e
  | (k1, v1) :: r, (k2, d2) :: ds, e, h => by
    simp only [List.map_cons, List.cons.injEq] at e
    obtain ⟨rfl, e⟩ := e
    simp only [List.map_cons] at h
    cases h with
    | cons h1 h2 =>
      by_cases q : k1 = k
      · exact .inr ⟨v1, d2, by simp [valP, q], by simp [valV, q], h1⟩
      · rcases valP_of k e h2 with ⟨a, b⟩ | ⟨v, d, a, b, c⟩
        · exact .inl ⟨by simpa [valP, List.find?_cons, q] using a, by simpa [valV, List.find?_cons, q] using b⟩
        · exact .inr ⟨v, d, by simpa [valP, List.find?_cons, q] using a, by simpa [valV, List.find?_cons, q] using b, c⟩
theorem any_keys {κ α β : Type} [DecidableEq κ] (k : κ) : ∀ {kvs : List (κ × α)} {ds : List (κ × β)}, kvs.map (·.1) = ds.map (·.1) → (kvs.any fun kv => decide (kv.1 = k)) = (ds.any fun kv => decide (kv.1 = k))
  | [], [], _ => rfl
  | [], _ :: _, e => by simp at e
  | _ :: _, [], e => by simp at e
  | (k1, v1) :: r, (k2, d2) :: ds, e => by
    simp only [List.map_cons, List.cons.injEq] at e
    rw [List.any_cons, List.any_cons, any_keys k e.2, e.1]
theorem putP_of {κ : Type} [DecidableEq κ] (k : κ) {v : V} {d : D} (hv : Fz K G v d) {kvs : List (κ × V)} {ds : List (κ × D)} (e : kvs.map (·.1) = ds.map (·.1)) (h : FzA K G (kvs.map (·.2)) (ds.map (·.2))) :
    (putK kvs k v).map (·.1) = (putP ds k d).map (·.1) ∧ FzA K G ((putK kvs k v).map (·.2)) ((putP ds k d).map (·.2)) := by
  unfold putK putP
  rw [any_keys k e]
  split
  · rename_i z
    clear z
    have go : ∀ (kvs : List (κ × V)) (ds : List (κ × D)), kvs.map (·.1) = ds.map (·.1) → FzA K G (kvs.map (·.2)) (ds.map (·.2)) →
        (kvs.map (fun kv => if kv.1 = k then (kv.1, v) else kv)).map (·.1) = (ds.map (fun kv => if kv.1 = k then (kv.1, d) else kv)).map (·.1) ∧ FzA K G ((kvs.map (fun kv => if kv.1 = k then (kv.1, v) else kv)).map (·.2)) ((ds.map (fun kv => if kv.1 = k then (kv.1, d) else kv)).map (·.2)) := by
      intro kvs
      induction kvs with
      | nil =>
        intro ds e h
        cases ds with
        | nil => exact ⟨rfl, .nil⟩
        | cons _ _ => simp at e
      | cons p r ih =>
        intro ds e h
        cases ds with
        | nil => simp at e
        | cons q ds =>
          simp only [List.map_cons, List.cons.injEq] at e
          simp only [List.map_cons] at h
          cases h with
          | cons h1 h2 =>
            obtain ⟨i1, i2⟩ := ih ds e.2 h2
            obtain ⟨k1, v1⟩ := p
            obtain ⟨k2, d2⟩ := q
            have e1 : k1 = k2 := e.1
            subst e1
            simp only [List.map_cons]
            by_cases w : k1 = k
            · simp only [w, if_true]
              exact ⟨by rw [i1], .cons hv i2⟩
            · simp only [w, if_false]
              exact ⟨by rw [i1], .cons h1 i2⟩
    exact go kvs ds e h
  · refine ⟨by rw [List.map_append, List.map_append, e]; rfl, ?_⟩
    rw [List.map_append, List.map_append]
    exact h.append (.cons hv .nil)
/-- what a dict has at a key -/
def kDVal : D → D → Option (Option D) := fun d k => match d, k with
  | .dic kvs, k => (keyD k).map fun k => valP kvs k
  | .dit kvs, .tup ks => (keysD ks).map fun k => valP kvs k
  | _, _ => none
theorem dget_of {H : Hp} (s : Same G H) {x y : V} {d k : D} {o : Option D} (hx : Fz K G x d) (hy : Fz K G y k) (e : kDVal d k = some o) : ∃ a r, x = .ref a ∧ DGet H a y r ∧ ((o = none ∧ r = none) ∨ ∃ v w, o = some w ∧ r = some v ∧ Fz K G v w) := by
  unfold kDVal at e
  split at e
  · obtain ⟨kk, e1, e2⟩ := Option.map_eq_some_iff.mp e
    cases hx with
    | dic h1 h2 h3 =>
      rename_i a kvs
      have := keyD_of hy e1
      subst this
      refine ⟨a, valV kvs kk, rfl, .inl ⟨kvs, kk, rd_mono s h1, rfl, rfl⟩, ?_⟩
      rcases valP_of kk h2 h3 with ⟨p, q⟩ | ⟨v, d, p, q, r⟩
      · exact .inl ⟨by rw [← e2, p], q⟩
      · exact .inr ⟨v, d, by rw [← e2, p], q, r⟩
  · obtain ⟨kk, e1, e2⟩ := Option.map_eq_some_iff.mp e
    cases hx with
    | dit h1 h2 h3 =>
      rename_i a kvs
      obtain ⟨b, vs, rfl, hb, rb⟩ := hy.tup_inv
      have := keysD_of rb e1
      subst this
      refine ⟨a, valV kvs kk, rfl, .inr ⟨kvs, kk, b, rd_mono s h1, rfl, s _ _ hb, rfl⟩, ?_⟩
      rcases valP_of kk h2 h3 with ⟨p, q⟩ | ⟨v, d, p, q, r⟩
      · exact .inl ⟨by rw [← e2, p], q⟩
      · exact .inr ⟨v, d, by rw [← e2, p], q, r⟩
  · cases e
theorem isD_of {H : Hp} (s : Same G H) {x : V} {d : D} (hx : Fz K G x d) (h : tyD "dict" d = true) : ∃ a, x = .ref a ∧ IsD H a := by
  cases hx <;> first | (cases h; done) | skip
  · rename_i h1 _ _
    exact ⟨_, rfl, .inl ⟨_, rd_mono s h1⟩⟩
  · rename_i h1 _ _
    exact ⟨_, rfl, .inr ⟨_, rd_mono s h1⟩⟩
end
section
variable {X : Cx} {M M' io : List Nat} {rk : Bool} {B : List Nat} {pos apos cpos : Pos} {a b c : Expr} {fa fb fc : Ev}
/-- d[k] -/
def fDItem (fa fb : Ev) : Ev := fun ρ => (fa ρ).bind fun p => (fb p.2).bind fun q => (kDVal p.1 q.1).bind fun o => o.map fun d => (d, q.2)
theorem ve_ditem (hu : X.A.units + 1 < cLine) (ha : VE X M false a fa) (hb : VE X M false b fb) (hs : NoSl b := by intro _ _; rfl) : VE X M false (.Subscript a b pos) (fDItem fa fb) := by
  obtain ⟨ta, pa, ka⟩ := ha
  obtain ⟨tb, pb, kb⟩ := hb
  refine ⟨_, pe_dget hu pa pb hs, fun G H σ ρ f d ρ' Q R e hQ => ?_⟩
  obtain ⟨⟨dx, ρ1⟩, e1, e2⟩ := Option.bind_eq_some_iff.mp e
  obtain ⟨⟨dy, ρ2⟩, e3, e4⟩ := Option.bind_eq_some_iff.mp e2
  obtain ⟨o, e5, e6⟩ := Option.bind_eq_some_iff.mp e4
  obtain ⟨w, e7, e8⟩ := Option.map_eq_some_iff.mp e6
  cases e8
  refine ka G H σ ρ f dx ρ1 _ R e1 fun x G1 H1 f1 S1 R1 r1 => ?_
  refine kb G1 H1 σ ρ1 f1 dy ρ2 _ R1 e3 fun y G2 H2 f2 S2 R2 r2 => ?_
  obtain ⟨b, r, rfl, g, z⟩ := dget_of R2.sub (Fz.mono S2.sub r1) r2 e5
  rcases z with ⟨z, _⟩ | ⟨v, w', z1, z2, z3⟩
  · rw [e7] at z; cases z
  · rw [e7] at z1
    cases z1
    subst z2
    exact ⟨b, v, rfl, g, hQ v G2 H2 f2 (S1.trans S2) R2 z3⟩
/-- k in d -/
def fDIn (neg : Bool) (fa fb : Ev) : Ev := fun ρ => (fa ρ).bind fun p => (fb p.2).bind fun q => (kDVal q.1 p.1).map fun o => (.bl (if neg then !o.isSome else o.isSome), q.2)
theorem din_go {neg : Bool} {ta tb : TE} (ka : ∀ (G H : Hp) (σ : L2.St) (ρ : Rho) (f : Nat → List Addr) (d : D) (ρ' : Rho) (Q : VK), Rel X.K M G H σ ρ f → fa ρ = some (d, ρ') → (∀ v G' H' f', Step M f G H M f' G' H' → Rel X.K M G' H' σ ρ' f' → Res false X.K G' H' M f' M H f v d → Q v H') → ta σ H Q)
    (kb : ∀ (G H : Hp) (σ : L2.St) (ρ : Rho) (f : Nat → List Addr) (d : D) (ρ' : Rho) (Q : VK), Rel X.K M G H σ ρ f → fb ρ = some (d, ρ') → (∀ v G' H' f', Step M f G H M f' G' H' → Rel X.K M G' H' σ ρ' f' → Res false X.K G' H' M f' M H f v d → Q v H') → tb σ H Q)
    {G H : Hp} {σ : L2.St} {ρ : Rho} {f : Nat → List Addr} {d : D} {ρ' : Rho} {Q : VK} (R : Rel X.K M G H σ ρ f) (e : fDIn neg fa fb ρ = some (d, ρ')) (hQ : ∀ v G' H' f', Step M f G H M f' G' H' → Rel X.K M G' H' σ ρ' f' → Res false X.K G' H' M f' M H f v d → Q v H') :
    ta σ H fun y H1 => tb σ H1 fun x H2 => ∃ a o, x = .ref a ∧ DGet H2 a y o ∧ Q (.bl (if neg then !o.isSome else o.isSome)) H2 := by
  obtain ⟨⟨dx, ρ1⟩, e1, e2⟩ := Option.bind_eq_some_iff.mp e
  obtain ⟨⟨dy, ρ2⟩, e3, e4⟩ := Option.bind_eq_some_iff.mp e2
  obtain ⟨o, e5, e6⟩ := Option.map_eq_some_iff.mp e4
  cases e6
  refine ka G H σ ρ f dx ρ1 _ R e1 fun x G1 H1 f1 S1 R1 r1 => ?_
  refine kb G1 H1 σ ρ1 f1 dy ρ2 _ R1 e3 fun y G2 H2 f2 S2 R2 r2 => ?_
  obtain ⟨b, r, rfl, g, z⟩ := dget_of R2.sub r2 (Fz.mono S2.sub r1) e5
  refine ⟨b, r, rfl, g, ?_⟩
  have hr : r.isSome = o.isSome := by
    rcases z with ⟨z1, z2⟩ | ⟨_, _, z1, z2, _⟩ <;> rw [z1, z2] <;> rfl
  rw [hr]
  exact hQ _ G2 H2 f2 (S1.trans S2) R2 (.bl _)
theorem ve_din (hu : X.A.units + 1 < cLine) (ha : VE X M false a fa) (hb : VE X M false b fb) (hbm : behindInMarks .In b = false := by rfl) : VE X M false (.Compare a [.In] [b] pos) (fDIn false fa fb) := by
  obtain ⟨ta, pa, ka⟩ := ha
  obtain ⟨tb, pb, kb⟩ := hb
  exact ⟨_, pe_cmp (pc_din hu pa pb) hbm, fun G H σ ρ f d ρ' Q R e hQ => din_go (neg := false) ka kb R e hQ⟩
theorem ve_dnotin (hu : X.A.units + 1 < cLine) (ha : VE X M false a fa) (hb : VE X M false b fb) (hbm : behindInMarks .NotIn b = false := by rfl) : VE X M false (.Compare a [.NotIn] [b] pos) (fDIn true fa fb) := by
  obtain ⟨ta, pa, ka⟩ := ha
  obtain ⟨tb, pb, kb⟩ := hb
  exact ⟨_, pe_cmp (pc_dnotin hu pa pb) hbm, fun G H σ ρ f d ρ' Q R e hQ => din_go (neg := true) ka kb R e hQ⟩
theorem tB_go {t : TE} {fa : Ev} (k : ∀ (G H : Hp) (σ : L2.St) (ρ : Rho) (f : Nat → List Addr) (d : D) (ρ' : Rho) (Q : VK), Rel X.K M G H σ ρ f → fa ρ = some (d, ρ') → (∀ v G' H' f', Step M f G H M f' G' H' → Rel X.K M G' H' σ ρ' f' → Res false X.K G' H' M f' M H f v d → Q v H') → t σ H Q)
    {G H : Hp} {σ : L2.St} {ρ : Rho} {f : Nat → List Addr} {b : Bool} {ρ' : Rho} {Q : Bool → Hp → Prop} (R : Rel X.K M G H σ ρ f) (e : tB fa ρ = some (b, ρ')) (hQ : ∀ G' H' f', Step M f G H M f' G' H' → Rel X.K M G' H' σ ρ' f' → Q b H') :
    t σ H fun x H1 => ∃ c, x = .bl c ∧ Q c H1 := by
  unfold tB at e
  obtain ⟨⟨d, ρ1⟩, e1, e2⟩ := Option.bind_eq_some_iff.mp e
  refine k G H σ ρ f d ρ1 _ R e1 fun v G' H' f' S R' r => ?_
  split at e2
  · rename_i i z
    cases e2
    simp only at z
    subst z
    exact ⟨b, Fz.bl_inv r, hQ G' H' f' S R'⟩
  · cases e2
theorem vt_din (hu : X.A.units + 1 < cLine) (ha : VE X M false a fa) (hb : VE X M false b fb) (hbm : behindInMarks .In b = false := by rfl) : VT X M (.Compare a [.In] [b] pos) (tB (fDIn false fa fb)) := by
  obtain ⟨ta, pa, ka⟩ := ha
  obtain ⟨tb, pb, kb⟩ := hb
  exact ⟨_, pt_cmp (pc_din hu pa pb) hbm, fun G H σ ρ f d ρ' Q R e hQ => tB_go (fun G H σ ρ f d ρ' Q R e hQ => din_go (neg := false) ka kb R e hQ) R e hQ⟩
theorem vt_dnotin (hu : X.A.units + 1 < cLine) (ha : VE X M false a fa) (hb : VE X M false b fb) (hbm : behindInMarks .NotIn b = false := by rfl) : VT X M (.Compare a [.NotIn] [b] pos) (tB (fDIn true fa fb)) := by
  obtain ⟨ta, pa, ka⟩ := ha
  obtain ⟨tb, pb, kb⟩ := hb
  exact ⟨_, pt_cmp (pc_dnotin hu pa pb) hbm, fun G H σ ρ f d ρ' Q R e hQ => tB_go (fun G H σ ρ f d ρ' Q R e hQ => din_go (neg := true) ka kb R e hQ) R e hQ⟩
/-- d.get(k), d.get(k, x) -/
def fDGet1 (fa fb : Ev) : Ev := fun ρ => (fa ρ).bind fun p => if tyD "dict" p.1 = true then (fb p.2).bind fun q => (kDVal p.1 q.1).map fun o => (o.getD .non, q.2) else none
def fDGet2 (fa fb fc : Ev) : Ev := fun ρ => (fa ρ).bind fun p => if tyD "dict" p.1 = true then (fb p.2).bind fun q => (fc q.2).bind fun r => (kDVal p.1 q.1).map fun o => (o.getD r.1, r.2) else none
theorem ve_dget1 (hu : X.A.units + 1 < cLine) (ha : VE X M false a fa) (hb : VE X M false b fb) (m : M1 X a "get" apos b cpos) : VE X M false (.Call (.Attribute a "get" apos) [b] [] cpos) (fDGet1 fa fb) := by
  obtain ⟨ta, pa, ka⟩ := ha
  obtain ⟨tb, pb, kb⟩ := hb
  refine ⟨_, pe_dget1 hu pa pb m, fun G H σ ρ f d ρ' Q R e hQ => ?_⟩
  obtain ⟨⟨dx, ρ1⟩, e1, e2⟩ := Option.bind_eq_some_iff.mp e
  split at e2
  · rename_i ht
    obtain ⟨⟨dy, ρ2⟩, e3, e4⟩ := Option.bind_eq_some_iff.mp e2
    obtain ⟨o, e5, e6⟩ := Option.map_eq_some_iff.mp e4
    cases e6
    refine ka G H σ ρ f dx ρ1 _ R e1 fun x G1 H1 f1 S1 R1 r1 => ?_
    obtain ⟨b, rfl, hD⟩ := isD_of R1.sub r1 ht
    refine ⟨b, rfl, hD, ?_⟩
    refine kb G1 H1 σ ρ1 f1 dy ρ2 _ R1 e3 fun y G2 H2 f2 S2 R2 r2 => ?_
    obtain ⟨b', r, hb, g, z⟩ := dget_of R2.sub (Fz.mono S2.sub r1) r2 e5
    cases hb
    refine ⟨r, g, ?_⟩
    rcases z with ⟨z1, z2⟩ | ⟨v, w, z1, z2, z3⟩
    · subst z1 z2
      exact hQ .non G2 H2 f2 (S1.trans S2) R2 .non
    · subst z1 z2
      exact hQ v G2 H2 f2 (S1.trans S2) R2 z3
  · cases e2
theorem ve_dget2 (hu : X.A.units + 1 < cLine) (ha : VE X M false a fa) (hb : VE X M false b fb) (hc : VE X M false c fc) (m : M2 X a "get" apos b c cpos) : VE X M false (.Call (.Attribute a "get" apos) [b, c] [] cpos) (fDGet2 fa fb fc) := by
  obtain ⟨ta, pa, ka⟩ := ha
  obtain ⟨tb, pb, kb⟩ := hb
  obtain ⟨tc, pc, kc⟩ := hc
  refine ⟨_, pe_dget2 hu pa pb pc m, fun G H σ ρ f d ρ' Q R e hQ => ?_⟩
  obtain ⟨⟨dx, ρ1⟩, e1, e2⟩ := Option.bind_eq_some_iff.mp e
  split at e2
  · rename_i ht
    obtain ⟨⟨dy, ρ2⟩, e3, e4⟩ := Option.bind_eq_some_iff.mp e2
    obtain ⟨⟨dz, ρ3⟩, e7, e8⟩ := Option.bind_eq_some_iff.mp e4
    obtain ⟨o, e5, e6⟩ := Option.map_eq_some_iff.mp e8
    cases e6
    refine ka G H σ ρ f dx ρ1 _ R e1 fun x G1 H1 f1 S1 R1 r1 => ?_
    obtain ⟨b, rfl, hD⟩ := isD_of R1.sub r1 ht
    refine ⟨b, rfl, hD, ?_⟩
    refine kb G1 H1 σ ρ1 f1 dy ρ2 _ R1 e3 fun y G2 H2 f2 S2 R2 r2 => ?_
    refine kc G2 H2 σ ρ2 f2 dz ρ3 _ R2 e7 fun u G3 H3 f3 S3 R3 r3 => ?_
    obtain ⟨b', r, hb, g, z⟩ := dget_of R3.sub (Fz.mono (S2.trans S3).sub r1) (Fz.mono S3.sub r2) e5
    cases hb
    refine ⟨r, g, ?_⟩
    rcases z with ⟨z1, z2⟩ | ⟨v, w, z1, z2, z3⟩
    · subst z1 z2
      exact hQ u G3 H3 f3 ((S1.trans S2).trans S3) R3 r3
    · subst z1 z2
      exact hQ v G3 H3 f3 ((S1.trans S2).trans S3) R3 z3
  · cases e2
/-- {} -/
theorem ve_dnewK : VE X M true (.Dict [] [] pos) (fC (.dic [])) := by
  refine ⟨_, pe_dnewK, fun G H σ ρ f d ρ' Q R e hQ p hp => ?_⟩
  cases e
  have g : Grow G H G (upd H p (.dK [])) := Grow.own R.sub hp
  exact hQ _ G _ f (g.step M f) (R.grow g) (Res0.res R ⟨[p], .dic upd_same (sub_none R.sub hp) rfl .nil, fun b hb => by simp at hb; subst hb; exact hp⟩)
theorem ve_dnewT : VE X M true (.Dict [] [] pos) (fC (.dit [])) := by
  refine ⟨_, pe_dnewT, fun G H σ ρ f d ρ' Q R e hQ p hp => ?_⟩
  cases e
  have g : Grow G H G (upd H p (.dT [])) := Grow.own R.sub hp
  exact hQ _ G _ f (g.step M f) (R.grow g) (Res0.res R ⟨[p], .dit upd_same (sub_none R.sub hp) rfl .nil, fun b hb => by simp at hb; subst hb; exact hp⟩)
/-- d[k] = e, d an owned dict -/
def kDPut : D → D → D → Option D := fun d k v => match d, k with
  | .dic kvs, k => (keyD k).bind fun k => if kvs.length < lim then some (.dic (putP kvs k v)) else none
  | .dit kvs, .tup ks => (keysD ks).bind fun k => if kvs.length < lim then some (.dit (putP kvs k v)) else none
  | _, _ => none
theorem dput_of {K : PySem.W.Frag} {G H : Hp} {x y v : V} {d k e d' : D} {fp : List Addr} (s : Same G H) (o : Own K G H x d fp) (hy : Fz K G y k) (hv : Fz K G v e) (h : kDPut d k e = some d') :
    ∃ a H', x = .ref a ∧ DPut H a y v H' ∧ Own K G H' x d' fp ∧ ∀ b, b ∉ fp → H' b = H b := by
  unfold kDPut at h
  split at h
  · obtain ⟨kk, e1, e2⟩ := Option.bind_eq_some_iff.mp h
    split at e2
    · rename_i hl
      cases e2
      cases o with
      | dic h1 h2 h3 h4 =>
        rename_i p kvs
        have := keyD_of hy e1
        subst this
        obtain ⟨g1, g2⟩ := putP_of kk hv h3 h4
        have hlen : kvs.length < sizeLine := by
          have := congrArg List.length h3
          rw [List.length_map, List.length_map] at this
          rw [this]
          exact lim_lt hl
        exact ⟨p, _, rfl, .inl ⟨kvs, kk, h1, rfl, hlen, rfl⟩, .dic upd_same h2 g1 g2, fun b hb => upd_ne (by simpa using hb)⟩
    · cases e2
  · obtain ⟨kk, e1, e2⟩ := Option.bind_eq_some_iff.mp h
    split at e2
    · rename_i hl
      cases e2
      cases o with
      | dit h1 h2 h3 h4 =>
        rename_i p kvs
        obtain ⟨b, vs, rfl, hb, rb⟩ := hy.tup_inv
        have := keysD_of rb e1
        subst this
        obtain ⟨g1, g2⟩ := putP_of kk hv h3 h4
        have hlen : kvs.length < sizeLine := by
          have := congrArg List.length h3
          rw [List.length_map, List.length_map] at this
          rw [this]
          exact lim_lt hl
        exact ⟨p, _, rfl, .inr ⟨kvs, kk, b, h1, rfl, s _ _ hb, hlen, rfl⟩, .dit upd_same h2 g1 g2, fun b hb => upd_ne (by simpa using hb)⟩
    · cases e2
  · cases h
def sDPutF (j : Nat) (fa fb : Ev) : Es := fun ρ => (fa ρ).bind fun p => (fb p.2).bind fun q => (slot j q.2).bind fun d => (kDPut d q.1 p.1).map fun d' => .nx (q.2.set j d')
theorem vs_dput (j : Nat) {x : Str} {xp sp : Pos} (hu : X.A.units + 1 < cLine) (hj : (M.contains j) = true) (ha : VE X M false a fa) (hb : VE X M false b fb) (hN : X.N[j]? = some x := by rfl) (hv : Vis X.env.scope x := by first | exact Or.inl rfl | exact Or.inr (Or.inl rfl) | exact Or.inr (Or.inr rfl)) (hd : (x == ("__debug__" : Str)) = false := by decide) (hcd : (x == ("__classdict__" : Str)) = false := by decide)
    (hs : swapsWith a (some (.Subscript (.Name x xp) b sp)) pos.line X.env = pure false := by rfl) : VS X M M io rk B (.Assign [.Subscript (.Name x xp) b sp] a pos) (sDPutF j fa fb) := by
  obtain ⟨t, p, k⟩ := ha
  obtain ⟨u, q, l⟩ := hb
  refine ⟨⟨fun pins s σ H E I ⟨C, G, ρ, f, o, R, P, hC, e, h⟩ => ?_⟩⟩
  refine (ps_dput hu (pe_var hN hv hd hcd) q p hs).run pins s σ H E I ?_
  obtain ⟨⟨d, ρ1⟩, e1, e2⟩ := Option.bind_eq_some_iff.mp e
  obtain ⟨⟨di, ρ2⟩, e3, e4⟩ := Option.bind_eq_some_iff.mp e2
  obtain ⟨d0, e5, e6⟩ := Option.bind_eq_some_iff.mp e4
  obtain ⟨d', e7, e8⟩ := Option.map_eq_some_iff.mp e6
  subst e8
  have hj : j ∈ M := by simpa using hj
  refine k G H σ ρ f d ρ1 _ R e1 fun v G1 H1 f1 S1 R1 r1 => ?_
  obtain ⟨_, w, _, h2, _⟩ := R1.ow j hj
  refine ⟨w, h2, ?_⟩
  refine l G1 H1 σ ρ1 f1 di ρ2 _ R1 e3 fun iv G2 H2 f2 S2 R2 r2 => ?_
  obtain ⟨d3, w3, h3, h4, o3⟩ := R2.ow j hj
  rw [h2] at h4
  cases h4
  rw [(slot_some e5).1] at h3
  cases h3
  obtain ⟨c, H3, rfl, hp, o4, hH⟩ := dput_of R2.sub o3 r2 (Fz.mono S2.sub r1) e7
  obtain ⟨R3, S3⟩ := R2.change hj (slot_some e5).1 h2 o4 hH
  exact ⟨c, H3, rfl, hp, h σ _ _ _ ((S1.trans S2).trans S3) R3 P⟩
end

/-! ### defs: what they give by data -/
structure RoomG (k : Nat) (A : Around) : Prop where
  rm : Room k A
  gd : A.guards = some []
theorem RoomG.mono {j k : Nat} {A : Around} (r : RoomG k A) (h : j ≤ k) : RoomG j A := ⟨r.rm.mono h, r.gd⟩
theorem RoomG.hu {k : Nat} {A : Around} (r : RoomG k A) : A.units + 1 < cLine := by have := r.rm.un; omega
theorem RoomG.hu64 {k : Nat} {A : Around} (r : RoomG k A) : A.units + 64 < cLine := r.rm.units
/-- a def's promise, where no repr is under way -/
structure FnG (P : Program) (w : World) (K : PySem.W.Frag) (mg : Str → Option Value) (base : Heap) (k : Nat) (f : Addr) (fd : FuncData) (ps : List Str) (sp : Sp) : Prop where
  len : ∀ vs H Q E, sp vs H Q E → vs.length = ps.length
  run : ∀ (A : Around) (outer : List Env) (s : Shared) (H : Hp) (args : Args) (us : List Value) (vs : List V) (Q : VK) (E : XK), RoomG k A → Env0 P w K mg base A outer s H → BindsTo s fd args (ps.zip us) → Vals vs us → sp vs H Q E →
    codeAny (model P w) A (.call (.ref f) args) (CR CX0 outer P w H s Q E) s
theorem FnG.mono {P : Program} {w : World} {K : PySem.W.Frag} {mg : Str → Option Value} {base : Heap} {j k : Nat} {f : Addr} {fd : FuncData} {ps : List Str} {sp : Sp} (F : FnG P w K mg base j f fd ps sp) (h : j ≤ k) : FnG P w K mg base k f fd ps sp :=
  ⟨F.len, fun A outer s H args us vs Q E hr => F.run A outer s H args us vs Q E (hr.mono h)⟩
theorem fnG_of {P : Program} {w : World} {K : PySem.W.Frag} {mg : Str → Option Value} {base : Heap} {k : Nat} {x qual : Str} {st : Stmt} {f : Addr} {fd : FuncData} {N ps : List Str} {sp : Sp} (F : Fun K x qual st f fd) (S : FnScope N ps (defScope st)) (len : ∀ vs H Q E, sp vs H Q E → vs.length = ps.length)
    (hbody : ∀ (cdv : Value) (A : Around) (outer : List Env) (s : Shared) (H : Hp) (vs : List V) (Q : VK) (E : XK), RoomG k (A.deeper (envOfC qual (defScope st) s.heap.objs.size f cdv)) → sp vs H Q E →
      ∃ t, PSs (cxOf CX0 P w K mg base N qual (defScope st) f cdv A outer s H E).nox (defBody st) t ∧ t { nx := fun _ H' => Q .non H', rt := Q } (L2.start N vs) H) : FnG P w K mg base (k + 1) f fd ps sp := by
  obtain ⟨oc, od, kV, doc, pm, an, cdv, ct, osl, rfl, lk, hcd⟩ := F.ex
  refine ⟨len, fun A outer s H args us vs Q E hr e0 hb r hsp => ?_⟩
  have hl := len _ _ _ _ hsp
  have hK : K.In s.heap := e0.mod.kin.keeps fun b o e => (e0.bs b o e).1
  have hlim : s.heap.NoLimit := e0.mod.nolimit.keeps fun b o e => (e0.bs b o e).1
  have kinds : ∀ y, y ∈ ps.zip us → (defScope st).names.lookup y.1 = some .local ∨ ((defScope st).names.lookup y.1 = some .cell ∧ ((cellsFrom (s.heap.objs.size + 1) (defScope st).names []).lookup y.1).isSome = true) := by
    rintro ⟨n, v⟩ hy
    rcases S.par n (List.of_mem_zip hy).1 with q | q
    · exact Or.inl q
    · exact Or.inr ⟨q, PySem.W.cellsFrom_some _ _ _ (Or.inl q)⟩
  refine codeAny_call_function hr.rm.depth (hK _ _ lk) rfl S.co S.gen rfl (PySem.W.codeRec_of hK hcd) (hb _ _ _ _ ?_)
  refine wpAny_newFunctionEnv_cells S.kind kinds fun env he s1 xx => ?_
  subst he
  refine ⟨hlim.keeps xx.toInCall.keep, codeAny_func ?_⟩
  obtain ⟨t, ht, hq⟩ := hbody cdv A outer s H vs Q E ⟨hr.rm.deeper _, hr.gd⟩ hsp
  have J : Inv (cxOf CX0 P w K mg base N qual (defScope st) f cdv A outer s H E) [] (L2.start N vs) H s1 := inv_start S hr.rm.hd e0 hl r xx
  refine wpAny_mono (ht.nox.run [] s1 (L2.start N vs) H _ J hq) (fun fl s' hs => ?_) fun e s' hs => hs
  cases fl with
  | ret u =>
    obtain ⟨v, σ', H', J', rv, q⟩ := hs
    exact ⟨v, H', J'.os, J'.bare, J'.base, J'.hok, rv, q⟩
  | next =>
    obtain ⟨σ', H', J', q⟩ := hs
    exact ⟨V.non, H', J'.os, J'.bare, J'.base, J'.hok, rfl, q⟩
  | brk =>
    obtain ⟨_, _, _, q⟩ := hs
    exact q.elim
  | cont =>
    obtain ⟨_, _, _, q⟩ := hs
    exact q.elim
/-- what a def gives -/
abbrev Ef := List D → Option (D × Rho)
def SpV (K : PySem.W.Frag) (io : List Nat) (rk : Bool) (n : Nat) (F : Ef) : Sp := fun vs H Q _ => ∃ G ρ f d ρ', vs.length = n ∧ Rel K io G H (vs.map some) ρ f ∧ F ρ = some (d, ρ') ∧
  ∀ v G' H' f', Step io f G H io f' G' H' → Rel K io G' H' (vs.map some) ρ' f' → Res rk K G' H' io f' io H f v d → Q v H'
def funF (n np : Nat) (io : List Nat) (rk : Bool) (F : Es) : Ef := fun ρ => (F (ρ ++ List.replicate (n - np) .dead)).bind fun o => match o with
  | .rt d ρ' => if np ≤ ρ'.length then some (d, (mask io ρ').take np) else none
  | .nx ρ' => if rk then none else if np ≤ ρ'.length then some (.non, (mask io ρ').take np) else none
  | _ => none
theorem rel_start {K : PySem.W.Frag} {io : List Nat} {G H : Hp} {N : List Str} {vs : List V} {ρ : Rho} {f : Nat → List Addr} (R : Rel K io G H (vs.map some) ρ f) : Rel K io G H (L2.start N vs) (ρ ++ List.replicate (N.length - vs.length) .dead) f := by
  have hl : vs.length = ρ.length := by simpa using R.len
  unfold L2.start
  refine ⟨R.sub, by simp [hl], fun i d e hi => ?_, fun i hi => ?_, R.dis⟩
  · by_cases q : i < ρ.length
    · rw [List.getElem?_append_left q] at e
      rw [List.getElem?_append_left (by simpa [hl] using q)]
      exact R.fz i d e hi
    · rw [List.getElem?_append_right (by omega)] at e
      rw [List.getElem?_replicate] at e
      split at e
      · cases e; exact .inl rfl
      · cases e
  · obtain ⟨d, v, h1, h2, o⟩ := R.ow i hi
    have q : i < ρ.length := (List.getElem?_eq_some_iff.mp h1).1
    exact ⟨d, v, by rw [List.getElem?_append_left q]; exact h1, by rw [List.getElem?_append_left (by simpa [hl] using q)]; exact h2, o⟩
/-- the callers' slots -/
def pinsOf (io : List Nat) (vs : List V) : List (Nat × V) := io.filterMap fun i => (vs[i]?).map fun v => (i, v)
theorem pin_start {io : List Nat} {N : List Str} {vs : List V} : Pin (pinsOf io vs) (L2.start N vs) := by
  intro p hp
  obtain ⟨i, hi, e⟩ := List.mem_filterMap.mp hp
  obtain ⟨v, e1, e2⟩ := Option.map_eq_some_iff.mp e
  subst e2
  unfold L2.start
  have q : i < vs.length := (List.getElem?_eq_some_iff.mp e1).1
  rw [List.getElem?_append_left (by simpa using q), List.getElem?_map, e1]
  rfl
theorem rel_back {K : PySem.W.Frag} {io : List Nat} {G H : Hp} {vs : List V} {σ : L2.St} {ρ : Rho} {f : Nat → List Addr} (R : Rel K io G H σ ρ f) (P : Pin (pinsOf io vs) σ) (hio : ∀ i, i ∈ io → i < vs.length) (hm : ∀ i d, ρ[i]? = some d → i ∉ io → d = .dead) (hl : vs.length ≤ ρ.length) :
    Rel K io G H (vs.map some) (ρ.take vs.length) f := by
  refine ⟨R.sub, by simp; omega, fun i d e hi => ?_, fun i hi => ?_, R.dis⟩
  · rw [List.getElem?_take] at e
    split at e
    · exact .inl (hm i d e hi)
    · cases e
  · obtain ⟨d, v, h1, h2, o⟩ := R.ow i hi
    have q := hio i hi
    have hp : (i, vs[i]) ∈ pinsOf io vs := List.mem_filterMap.mpr ⟨i, hi, by simp [q]⟩
    have := P _ hp
    rw [h2] at this
    cases this
    exact ⟨d, vs[i], by rw [List.getElem?_take, if_pos q]; exact h1, by simp [q], o⟩
theorem mask_dead (io : List Nat) (ρ : Rho) (i : Nat) (d : D) (e : (mask io ρ)[i]? = some d) (hi : i ∉ io) : d = .dead := by
  rw [mask_get] at e
  obtain ⟨d', e1, e2⟩ := Option.map_eq_some_iff.mp e
  rw [if_neg (by simpa using hi)] at e2
  exact e2.symm
/-- THE RULE for a def by data -/
theorem fnV_of {P : Program} {w : World} {K : PySem.W.Frag} {mg : Str → Option Value} {base : Heap} {k np : Nat} {x qual : Str} {st : Stmt} {f : Addr} {fd : FuncData} {N ps : List Str} {io M' : List Nat} {rk : Bool} {Fs : Es} (F : Fun K x qual st f fd) (S : FnScope N ps (defScope st)) (hn : ps.length = np) (hio : io.all (fun i => decide (i < np)) = true) (hM : io.all (fun i => M'.contains i) = true)
    (body : ∀ (cdv : Value) (A : Around) (outer : List Env) (s : Shared) (H : Hp) (E : XK), RoomG k (A.deeper (envOfC qual (defScope st) s.heap.objs.size f cdv)) →
      VSs (cxOf CX0 P w K mg base N qual (defScope st) f cdv A outer s H E).nox io M' io rk [] (defBody st) Fs) : FnG P w K mg base (k + 1) f fd ps (SpV K io rk np (funF N.length np io rk Fs)) := by
  refine fnG_of F S (fun vs H Q E ⟨_, _, _, _, _, h, _⟩ => h.trans hn.symm) fun cdv A outer s H vs Q E hr ⟨G, ρ, g, d, ρ', hl, R, e, hQ⟩ => ?_
  refine ⟨_, (body cdv A outer s H E hr).ps, pinsOf io vs, G, ρ ++ List.replicate (N.length - np) .dead, g, ?_⟩
  obtain ⟨o, e1, e2⟩ := Option.bind_eq_some_iff.mp e
  have R0 := rel_start (N := N) R
  rw [hl] at R0
  have hin : ∀ i, i ∈ io → i < vs.length := fun i hi => by
    have := List.all_eq_true.mp hio i hi
    rw [hl]
    simpa using this
  refine ⟨o, R0, pin_start, fun p hp => ?_, e1, ?_⟩
  · obtain ⟨i, hi, q⟩ := List.mem_filterMap.mp hp
    obtain ⟨v, _, q2⟩ := Option.map_eq_some_iff.mp q
    subst q2
    exact hi
  cases o with
  | rt d0 ρ0 =>
    intro v σ' G' H' f' S' R' P' r
    have e2 : (if np ≤ ρ0.length then some (d0, (mask io ρ0).take np) else none) = some (d, ρ') := e2
    split at e2
    · rename_i hlen
      cases e2
      refine hQ v G' H' f' S' ?_ r
      have z := rel_back (vs := vs) (R'.mask fun _ h => h) P' hin (fun i d e hi => mask_dead io _ i d e hi) (by rw [mask_length, hl]; exact hlen)
      rwa [hl] at z
    · cases e2
  | nx ρ0 =>
    intro σ' G' H' f' S' R' P'
    cases rk with
    | true => cases e2
    | false =>
      have e2 : (if np ≤ ρ0.length then some (D.non, (mask io ρ0).take np) else none) = some (d, ρ') := e2
      split at e2
      · rename_i hlen
        cases e2
        have hs := sub_of hM
        refine hQ .non G' H' f' (S'.less hs) ?_ .non
        have z := rel_back (vs := vs) (R'.mask hs) P' hin (fun i d e hi => mask_dead io _ i d e hi) (by rw [mask_length, hl]; exact hlen)
        rwa [hl] at z
      · cases e2
  | bk ρ0 => cases e2
  | ct ρ0 => cases e2

/-! ### calls of such defs -/
def fillA : List (Option Nat) → List D → Rho → List D
  | none :: js, d :: ds, ρ => d :: fillA js ds ρ
  | some j :: js, _ :: ds, ρ => (ρ.getD j .dead) :: fillA js ds ρ
  | _, _, _ => []
def backA : List (Option Nat) → List D → Rho → Rho
  | none :: js, _ :: ds, ρ => backA js ds ρ
  | some j :: js, d :: ds, ρ => backA js ds (ρ.set j d)
  | _, _, ρ => ρ
/-- the places of owned arguments -/
def ioFrom : Nat → List (Option Nat) → List Nat
  | _, [] => []
  | k, none :: js => ioFrom (k + 1) js
  | k, some _ :: js => k :: ioFrom (k + 1) js
def fCall (F : Ef) (js : List (Option Nat)) (fa : Ea) : Ev := fun ρ => (fa ρ).bind fun p => (F (fillA js p.1 p.2)).map fun q => (q.1, backA js q.2 p.2)
theorem ioFrom_mem : ∀ {js : List (Option Nat)} {k i : Nat}, i ∈ ioFrom k js ↔ ∃ n j, i = k + n ∧ js[n]? = some (some j)
  | [], k, i => by simp [ioFrom]
  | none :: js, k, i => by
    unfold ioFrom
    rw [ioFrom_mem (js := js)]
    constructor
    · rintro ⟨n, j, rfl, h⟩
      exact ⟨n + 1, j, by omega, by simpa using h⟩
    · rintro ⟨n, j, rfl, h⟩
      cases n with
      | zero => simp at h
      | succ n => exact ⟨n, j, by omega, by simpa using h⟩
  | some j0 :: js, k, i => by
    unfold ioFrom
    rw [List.mem_cons, ioFrom_mem (js := js)]
    constructor
    · rintro (rfl | ⟨n, j, rfl, h⟩)
      · exact ⟨0, j0, rfl, rfl⟩
      · exact ⟨n + 1, j, by omega, by simpa using h⟩
    · rintro ⟨n, j, rfl, h⟩
      cases n with
      | zero => exact .inl rfl
      | succ n => exact .inr ⟨n, j, by omega, by simpa using h⟩
theorem argA_len {K : PySem.W.Frag} {G : Hp} {σ : L2.St} : ∀ {js : List (Option Nat)} {vs : List V} {ds : List D}, ArgA K G σ js vs ds → vs.length = js.length ∧ ds.length = js.length
  | _, _, _, .nil => ⟨rfl, rfl⟩
  | _, _, _, .val _ t => by simp [argA_len t]
  | _, _, _, .own _ t => by simp [argA_len t]
theorem argA_none {K : PySem.W.Frag} {G : Hp} {σ : L2.St} : ∀ {js : List (Option Nat)} {vs : List V} {ds : List D} {ρ : Rho}, ArgA K G σ js vs ds → ∀ {n : Nat}, js[n]? = some none → ∃ v d, vs[n]? = some v ∧ (fillA js ds ρ)[n]? = some d ∧ Fz K G v d
  | _, _, _, _, .nil, n, h => by simp at h
  | _, _, _, ρ, .val (v := v) (d := d) hv t, 0, h => ⟨v, d, rfl, rfl, hv⟩
  | _, _, _, ρ, .val hv t, n + 1, h => by
    obtain ⟨v, d, h1, h2, h3⟩ := argA_none (ρ := ρ) t (n := n) (by simpa using h)
    exact ⟨v, d, by simpa using h1, by simpa [fillA] using h2, h3⟩
  | _, _, _, ρ, .own _ t, 0, h => by simp at h
  | _, _, _, ρ, .own _ t, n + 1, h => by
    obtain ⟨v, d, h1, h2, h3⟩ := argA_none (ρ := ρ) t (n := n) (by simpa using h)
    exact ⟨v, d, by simpa using h1, by simpa [fillA] using h2, h3⟩
theorem argA_some {K : PySem.W.Frag} {G : Hp} {σ : L2.St} : ∀ {js : List (Option Nat)} {vs : List V} {ds : List D} {ρ : Rho}, ArgA K G σ js vs ds → ∀ {n j : Nat}, js[n]? = some (some j) → ∃ v, vs[n]? = some v ∧ σ[j]? = some (some v) ∧ (fillA js ds ρ)[n]? = some (ρ.getD j .dead)
  | _, _, _, _, .nil, n, j, h => by simp at h
  | _, _, _, ρ, .val hv t, 0, j, h => by simp at h
  | _, _, _, ρ, .val hv t, n + 1, j, h => by
    obtain ⟨v, h1, h2, h3⟩ := argA_some (ρ := ρ) t (n := n) (j := j) (by simpa using h)
    exact ⟨v, by simpa using h1, h2, by simpa [fillA] using h3⟩
  | _, _, _, ρ, .own (v := v) (j := j0) hj t, 0, j, h => by
    simp at h
    subst h
    exact ⟨v, rfl, hj, rfl⟩
  | _, _, _, ρ, .own _ t, n + 1, j, h => by
    obtain ⟨v, h1, h2, h3⟩ := argA_some (ρ := ρ) t (n := n) (j := j) (by simpa using h)
    exact ⟨v, by simpa using h1, h2, by simpa [fillA] using h3⟩
theorem fillA_len {K : PySem.W.Frag} {G : Hp} {σ : L2.St} : ∀ {js : List (Option Nat)} {vs : List V} {ds : List D} {ρ : Rho}, ArgA K G σ js vs ds → (fillA js ds ρ).length = js.length
  | _, _, _, _, .nil => rfl
  | _, _, _, _, .val _ t => by simp [fillA, fillA_len t]
  | _, _, _, _, .own _ t => by simp [fillA, fillA_len t]
theorem backA_len : ∀ (js : List (Option Nat)) (ds : List D) (ρ : Rho), (backA js ds ρ).length = ρ.length
  | none :: js, _ :: ds, ρ => backA_len js ds ρ
  | some j :: js, d :: ds, ρ => by rw [backA, backA_len js ds]; simp
  | [], _, _ => by simp [backA]
  | none :: _, [], _ => by simp [backA]
  | some _ :: _, [], _ => by simp [backA]
theorem backA_other : ∀ (js : List (Option Nat)) (ds : List D) (ρ : Rho) (i : Nat), some i ∉ js → (backA js ds ρ)[i]? = ρ[i]?
  | none :: js, _ :: ds, ρ, i, h => backA_other js ds ρ i fun z => h (by simp [z])
  | some j :: js, d :: ds, ρ, i, h => by
    rw [backA, backA_other js ds _ i fun z => h (by simp [z]), List.getElem?_set_ne fun z => h (by simp [z])]
  | [], _, _, _, _ => by simp [backA]
  | none :: _, [], _, _, _ => by simp [backA]
  | some _ :: _, [], _, _, _ => by simp [backA]
theorem backA_at : ∀ (js : List (Option Nat)) (ds : List D) (ρ : Rho) (n j : Nat) (d : D), (js.filterMap id).Nodup → js[n]? = some (some j) → ds[n]? = some d → j < ρ.length → (backA js ds ρ)[j]? = some d
  | none :: js, _ :: ds, ρ, 0, j, d, hn, h, h2, hl => by simp at h
  | none :: js, _ :: ds, ρ, n + 1, j, d, hn, h, h2, hl => by
    rw [backA]
    exact backA_at js ds ρ n j d (by simpa using hn) (by simpa using h) (by simpa using h2) hl
  | some j0 :: js, d0 :: ds, ρ, 0, j, d, hn, h, h2, hl => by
    simp at h h2
    subst h h2
    rw [backA, backA_other]
    · rw [List.getElem?_set_self hl]
    · intro z
      simp only [List.filterMap_cons, id, List.nodup_cons] at hn
      exact hn.1 (List.mem_filterMap.mpr ⟨_, z, rfl⟩)
  | some j0 :: js, d0 :: ds, ρ, n + 1, j, d, hn, h, h2, hl => by
    rw [backA]
    simp only [List.filterMap_cons, id, List.nodup_cons] at hn
    exact backA_at js ds _ n j d hn.2 (by simpa using h) (by simpa using h2) (by simpa using hl)
  | [], _, _, _, _, _, _, h, _, _ => by simp at h
  | none :: _, [], _, _, _, _, _, _, h, _ => by simp at h
  | some _ :: _, [], _, _, _, _, _, _, h, _ => by simp at h
section
variable {K : PySem.W.Frag} {M : List Nat} {js : List (Option Nat)}
theorem js_inj (hn : (js.filterMap id).Nodup) {n m j : Nat} (h1 : js[n]? = some (some j)) (h2 : js[m]? = some (some j)) : n = m := by
  have go : ∀ (js : List (Option Nat)) (n m j : Nat), (js.filterMap id).Nodup → js[n]? = some (some j) → js[m]? = some (some j) → n = m := by
    intro js
    induction js with
    | nil => intro n m j _ h; simp at h
    | cons a r ih =>
      intro n m j hn h1 h2
      cases a with
      | none =>
        cases n with
        | zero => simp at h1
        | succ n =>
          cases m with
          | zero => simp at h2
          | succ m => rw [ih n m j (by simpa using hn) (by simpa using h1) (by simpa using h2)]
      | some a =>
        simp only [List.filterMap_cons, id, List.nodup_cons] at hn
        cases n with
        | zero =>
          cases m with
          | zero => rfl
          | succ m =>
            simp at h1 h2
            subst h1
            exact absurd (show a ∈ r.filterMap id from List.mem_filterMap.mpr ⟨some a, List.mem_of_getElem? h2, rfl⟩) hn.1
        | succ n =>
          cases m with
          | zero =>
            simp at h1 h2
            subst h2
            exact absurd (show a ∈ r.filterMap id from List.mem_filterMap.mpr ⟨some a, List.mem_of_getElem? h1, rfl⟩) hn.1
          | succ m => rw [ih n m j hn.2 (by simpa using h1) (by simpa using h2)]
  exact go js n m j hn h1 h2
/-- a call's promise, from what the caller knows -/
theorem call_go {F : Ef} {rk : Bool} {io : List Nat} {np : Nat} (hio : ioFrom 0 js = io) (hnp : js.length = np) (hn : (js.filterMap id).Nodup) (hM : ∀ (n j : Nat), js[n]? = some (some j) → j ∈ M) {fa : Ea} {ta : TA}
    (ka : ∀ (G H : Hp) (σ : L2.St) (ρ : Rho) (f : Nat → List Addr) (ds : List D) (ρ' : Rho) (Q : List V → Hp → Prop), Rel K M G H σ ρ f → fa ρ = some (ds, ρ') → (∀ vs G' H' f', Step M f G H M f' G' H' → Rel K M G' H' σ ρ' f' → ArgA K G' σ js vs ds → Q vs H') → ta σ H Q)
    {G H : Hp} {σ : L2.St} {ρ : Rho} {f : Nat → List Addr} {d : D} {ρ' : Rho} {Q : VK} {E : XK} (R : Rel K M G H σ ρ f) (e : fCall F js fa ρ = some (d, ρ'))
    (hQ : ∀ v G' H' f', Step M f G H M f' G' H' → Rel K M G' H' σ ρ' f' → Res rk K G' H' M f' M H f v d → Q v H') : ta σ H fun vs H1 => SpV K io rk np F vs H1 Q E := by
  classical
  obtain ⟨⟨ds, ρ1⟩, e1, e2⟩ := Option.bind_eq_some_iff.mp e
  obtain ⟨⟨d', ρc⟩, e3, e4⟩ := Option.map_eq_some_iff.mp e2
  cases e4
  refine ka G H σ ρ f ds ρ1 _ R e1 fun vs G1 H1 f1 S1 R1 r1 => ?_
  have hl := argA_len r1
  -- the callee's owned places
  let fc : Nat → List Addr := fun n => match js[n]? with | some (some j) => f1 j | _ => []
  have fcE : ∀ (n j : Nat), js[n]? = some (some j) → fc n = f1 j := fun n j h => by show (match js[n]? with | some (some j) => f1 j | _ => []) = _; rw [h]
  have mio : ∀ n : Nat, n ∈ io ↔ ∃ j : Nat, js[n]? = some (some j) := fun n => by
    rw [← hio, ioFrom_mem]
    constructor
    · rintro ⟨m, j, rfl, h⟩
      exact ⟨j, by simpa using h⟩
    · rintro ⟨j, h⟩
      exact ⟨n, j, by omega, h⟩
  have Rc : Rel K io G1 H1 (vs.map some) (fillA js ds ρ1) fc := by
    refine ⟨R1.sub, by rw [fillA_len r1, List.length_map, hl.1], fun n dd h hi => ?_, fun n hi => ?_, fun n hi m hi' hne b hb => ?_⟩
    · have q : n < js.length := by
        rw [← fillA_len (ρ := ρ1) r1]
        exact (List.getElem?_eq_some_iff.mp h).1
      cases z : js[n]? with
      | none => rw [List.getElem?_eq_none_iff] at z; omega
      | some a =>
        cases a with
        | some j => exact absurd ((mio n).mpr ⟨j, z⟩) hi
        | none =>
          obtain ⟨v, d2, h1, h2, h3⟩ := argA_none (ρ := ρ1) r1 z
          rw [h] at h2
          cases h2
          exact .inr ⟨v, by rw [List.getElem?_map, h1]; rfl, h3⟩
    · obtain ⟨j, z⟩ := (mio n).mp hi
      obtain ⟨v, h1, h2, h3⟩ := argA_some (ρ := ρ1) r1 z
      obtain ⟨d2, v2, g1, g2, o⟩ := R1.ow j (hM n j z)
      rw [h2] at g2
      cases g2
      rw [fcE n j z]
      exact ⟨d2, v, by rw [h3, List.getD_eq_getElem?_getD, g1]; rfl, by rw [List.getElem?_map, h1]; rfl, o⟩
    · obtain ⟨j, z⟩ := (mio n).mp hi
      obtain ⟨l, z2⟩ := (mio m).mp hi'
      rw [fcE n j z] at hb
      rw [fcE m l z2]
      exact R1.dis j (hM n j z) l (hM m l z2) (fun q => hne (js_inj hn z (q ▸ z2))) b hb
  refine ⟨G1, fillA js ds ρ1, fc, d', ρc, by rw [hl.1, hnp], Rc, e3, fun v G2 H2 fc' S2 R2 r2 => ?_⟩
  -- the caller's owned places behind the call
  let f2 : Nat → List Addr := fun j => if h : ∃ n : Nat, js[n]? = some (some j) then fc' h.choose else f1 j
  have f2E : ∀ (n j : Nat), js[n]? = some (some j) → f2 j = fc' n := fun n j h => by
    have hx : ∃ n : Nat, js[n]? = some (some j) := ⟨n, h⟩
    show (if h : ∃ n : Nat, js[n]? = some (some j) then fc' h.choose else f1 j) = _
    rw [dif_pos hx, js_inj hn hx.choose_spec h]
  have f2N : ∀ j : Nat, (¬ ∃ n : Nat, js[n]? = some (some j)) → f2 j = f1 j := fun j h => by
    show (if h : ∃ n : Nat, js[n]? = some (some j) then fc' h.choose else f1 j) = _
    rw [dif_neg h]
  have owc : ∀ b, Ow io fc b → Ow M f1 b := fun b ⟨n, hi, hb⟩ => by
    obtain ⟨j, z⟩ := (mio n).mp hi
    rw [fcE n j z] at hb
    exact ⟨j, hM n j z, hb⟩
  have ow2 : ∀ b, Ow M f2 b → Ow M f1 b ∨ Ow io fc' b := fun b ⟨j, hj, hb⟩ => by
    by_cases h : ∃ n : Nat, js[n]? = some (some j)
    · obtain ⟨n, z⟩ := h
      rw [f2E n j z] at hb
      exact .inr ⟨n, (mio n).mpr ⟨j, z⟩, hb⟩
    · rw [f2N j h] at hb
      exact .inl ⟨j, hj, hb⟩
  have SM : Step M f1 G1 H1 M f2 G2 H2 := by
    refine ⟨S2.sub, fun b hb => ?_, fun b o h n => S2.keep b o h fun w => n (owc b w), S2.live, fun b hb => ?_⟩
    · rcases S2.new b hb with z | z | z
      · exact .inl z
      · exact .inr (.inl z)
      · exact .inr (.inr (owc b z))
    · rcases ow2 b hb with z | z
      · exact .inl z
      · rcases S2.own b z with w | w
        · exact .inl (owc b w)
        · exact .inr w
  have notc : ∀ j : Nat, j ∈ M → (¬ ∃ n : Nat, js[n]? = some (some j)) → ∀ b, b ∈ f1 j → ¬ Ow io fc b := fun j hj h b hb ⟨n, hi, w⟩ => by
    obtain ⟨l, z⟩ := (mio n).mp hi
    rw [fcE n l z] at w
    exact R1.dis j hj l (hM n l z) (fun q => h ⟨n, q ▸ z⟩) b hb w
  have notc' : ∀ j : Nat, j ∈ M → (¬ ∃ n : Nat, js[n]? = some (some j)) → ∀ b, b ∈ f1 j → ¬ Ow io fc' b := fun j hj h b hb w => by
    rcases S2.own b w with z | z
    · exact notc j hj h b hb z
    · obtain ⟨_, _, _, _, o⟩ := R1.ow j hj
      exact (o.here b hb).1 z
  have RM : Rel K M G2 H2 σ (backA js ρc ρ1) f2 := by
    refine ⟨R2.sub, by rw [backA_len]; exact R1.len, fun i dd h hi => ?_, fun j hj => ?_, fun i hi j hj hne b hb => ?_⟩
    · have : some i ∉ js := fun z => by
        obtain ⟨n, hlt, q⟩ := List.mem_iff_getElem.mp z
        exact hi (hM n i (by rw [List.getElem?_eq_getElem hlt, q]))
      rw [backA_other js ρc ρ1 i this] at h
      rcases R1.fz i dd h hi with z | ⟨v, h1, h2⟩
      · exact .inl z
      · exact .inr ⟨v, h1, h2.mono S2.sub⟩
    · by_cases h : ∃ n : Nat, js[n]? = some (some j)
      · obtain ⟨n, z⟩ := h
        obtain ⟨d2, v2, g1, g2, o⟩ := R2.ow n ((mio n).mpr ⟨j, z⟩)
        obtain ⟨v, h1, h2, _⟩ := argA_some (ρ := ρ1) r1 z
        rw [List.getElem?_map, h1] at g2
        cases g2
        obtain ⟨d3, v3, g3, _, _⟩ := R1.ow j hj
        rw [f2E n j z]
        exact ⟨d2, _, backA_at js ρc ρ1 n j d2 hn z g1 (List.getElem?_eq_some_iff.mp g3).1, h2, o⟩
      · obtain ⟨d2, v2, g1, g2, o⟩ := R1.ow j hj
        have : some j ∉ js := fun z => by
          obtain ⟨n, hlt, q⟩ := List.mem_iff_getElem.mp z
          exact h ⟨n, by rw [List.getElem?_eq_getElem hlt, q]⟩
        rw [f2N j h]
        exact ⟨d2, v2, by rw [backA_other js ρc ρ1 j this]; exact g1, g2, o.step S2 (notc j hj h)⟩
    · by_cases h1 : ∃ n : Nat, js[n]? = some (some i)
      · obtain ⟨n, z⟩ := h1
        rw [f2E n i z] at hb
        by_cases h2 : ∃ n : Nat, js[n]? = some (some j)
        · obtain ⟨m, z2⟩ := h2
          rw [f2E m j z2]
          exact R2.dis n ((mio n).mpr ⟨i, z⟩) m ((mio m).mpr ⟨j, z2⟩) (fun q => hne (by subst q; rw [z] at z2; simpa using z2)) b hb
        · rw [f2N j h2]
          exact fun w => notc' j hj h2 b w ⟨n, (mio n).mpr ⟨i, z⟩, hb⟩
      · rw [f2N i h1] at hb
        by_cases h2 : ∃ n : Nat, js[n]? = some (some j)
        · obtain ⟨m, z2⟩ := h2
          rw [f2E m j z2]
          exact fun w => notc' i hi h1 b hb ⟨m, (mio m).mpr ⟨j, z2⟩, w⟩
        · rw [f2N j h2]
          exact R1.dis i hi j hj hne b hb
  refine hQ v G2 H2 f2 (S1.trans SM) RM ?_
  cases rk with
  | false => exact r2
  | true =>
    obtain ⟨fp, o, q⟩ := r2
    refine ⟨fp, o, fun b hb => ⟨fun w => ?_, ?_⟩⟩
    · obtain ⟨j, hj, hb'⟩ := w
      by_cases h : ∃ n : Nat, js[n]? = some (some j)
      · obtain ⟨n, z⟩ := h
        rw [f2E n j z] at hb'
        exact (q b hb).1 ⟨n, (mio n).mpr ⟨j, z⟩, hb'⟩
      · rw [f2N j h] at hb'
        rcases (q b hb).2 with z | z
        · exact notc j hj h b hb' z
        · obtain ⟨_, _, _, _, o⟩ := R1.ow j hj
          exact (o.here b hb').1 z
    · rcases (q b hb).2 with z | z
      · exact S1.back b (.inl (owc b z))
      · exact S1.back b (.inr z)
end
section
variable {X : Cx} {M : List Nat} {js : List (Option Nat)} {k : Nat} {f : Addr} {fd : FuncData} {ps : List Str} {x : Str} {p pos : Pos} {a : Expr} {es : List Expr} {fa : Ea} {F : Ef} {rk : Bool} {io : List Nat} {np : Nat}
theorem run_fnG {sp : Sp} {pins : List (Addr × Obj)} {σ : L2.St} {H : Hp} {s : Shared} {Q : VK} {us : List Value} {vs : List V} (F : FnG X.prog X.w X.K X.mg X.base k f fd ps sp) (hr : RoomG k X.A) (hb : Binds X.K fd ps []) (I : Inv X pins σ H s) (r : Vals vs us) (h : sp vs H Q E0) :
    wpAny (model X.prog X.w) X.A (call (.ref f) us) (EP X pins σ Q) X.xe s := by
  have hl : (us ++ ([] : List Value)).length = ps.length := by
    rw [List.append_nil, ← r.length]
    exact F.len _ _ _ _ h
  have hb' := hb s us I.kIn hl
  rw [List.append_nil] at hb'
  refine wpAny_call (codeAny_mono (F.run X.A X.stack s H ⟨us, []⟩ us vs Q E0 hr I.env0 hb' r h) fun rr s' hq => ?_)
  cases rr with
  | error e => exact False.elim hq
  | ok fl =>
    cases fl with
    | ret u => exact I.after hq
    | next => exact False.elim hq
    | brk => exact False.elim hq
    | cont => exact False.elim hq
theorem ve_call (G : FnG X.prog X.w X.K X.mg X.base k f fd ps (SpV X.K io rk np F)) (hr : RoomG k X.A) (hm : X.mg x = some (.ref f)) (hk : PySem.W.keepIn X.K (.ref f) = true) (hb : Binds X.K fd ps []) (hg : Gl X x) (hio : ioFrom 0 js = io) (hnp : js.length = np) (hn : decide ((js.filterMap id).Nodup) = true) (hM : (js.filterMap id).all (fun j => M.contains j) = true) (ha : VA X M js (a :: es) fa)
    (hdb : (x == ("__debug__" : Str)) = false := by decide) (he : starEach (a :: es) X.env = (false, eval a X.env) :: starEach es X.env := by rfl) (hpl : (backTo pos (starEach es X.env)).any (·.1) = false := by rfl) : VE X M rk (.Call (.Name x p) (a :: es) [] pos) (fCall F js fa) := by
  obtain ⟨ta, pa, ka⟩ := ha
  refine ⟨fun σ H Q => ta σ H fun vs H1 => SpV X.K io rk np F vs H1 Q E0, ⟨fun pins s σ H Q I h => ?_⟩, fun G H σ ρ f d ρ' Q R e hQ => call_go hio hnp (of_decide_eq_true hn) (fun n j z => ?_) ka R e hQ⟩
  · refine wpAny_Call_Name_kw (ld_glob I hg hm ?_ hdb)
    refine PySem.W.callWith_K (h₀ := X.base) I.ok.mod.kin hk (thn (pa.run pos pins s σ H _ I h) fun us s1 ⟨vs, H1, I1, r, q⟩ => ⟨I1.kIn, ?_⟩) he hpl
    exact run_fnG G hr hb I1 r q
  · have := List.all_eq_true.mp hM j (List.mem_filterMap.mpr ⟨_, List.mem_of_getElem? z, rfl⟩)
    simpa using this
end
end Bl

set_option Elab.async false
set_option linter.all false
set_option maxRecDepth 100000
set_option maxHeartbeats 4000000
/-! Vl6: views of tests, ends of single statements, dict comprehensions, pairs, the source's dict. -/
namespace Bl
open PySem PySem.Spec PyProof.Rows L2

/-! ### how many targets -/
theorem len1 {fa : Eg} : ∀ ds ρ ρ', gsCons fa gsNil ds ρ = some ρ' → ds.length = 1
  | [_], _, _, _ => rfl
  | [], _, _, h => by cases h
  | _ :: _ :: _, _, _, h => by
    obtain ⟨_, _, e⟩ := Option.bind_eq_some_iff.mp h
    cases e
theorem lenS {fa : Eg} {fr : Egs} {n : Nat} (k : ∀ ds ρ ρ', fr ds ρ = some ρ' → ds.length = n) : ∀ ds ρ ρ', gsCons fa fr ds ρ = some ρ' → ds.length = n + 1
  | [], _, _, h => by cases h
  | _ :: r, _, _, h => by
    obtain ⟨_, _, e⟩ := Option.bind_eq_some_iff.mp h
    rw [List.length_cons, k r _ _ e]
theorem len2 {fa fb : Eg} : ∀ ds ρ ρ', gsCons fa (gsCons fb gsNil) ds ρ = some ρ' → ds.length = 2 := lenS len1
theorem len3 {fa fb fc : Eg} : ∀ ds ρ ρ', gsCons fa (gsCons fb (gsCons fc gsNil)) ds ρ = some ρ' → ds.length = 3 := lenS len2
theorem len4 {fa fb fc fd : Eg} : ∀ ds ρ ρ', gsCons fa (gsCons fb (gsCons fc (gsCons fd gsNil))) ds ρ = some ρ' → ds.length = 4 := lenS len3

/-! ### a test that reads owned things -/
def tView (fc : Et) : Et := fun ρ => (fc ρ).map fun p => (p.1, ρ)
theorem vt_view {X : Cx} {M : List Nat} {e : Expr} {fc : Et} (h : VT X [] e fc) : VT X M e (tView fc) := by
  classical
  obtain ⟨t, p, k⟩ := h
  refine ⟨t, p, fun G H σ ρ f b ρ' Q R e hQ => ?_⟩
  unfold tView at e
  obtain ⟨⟨b0, ρ0⟩, e1, e2⟩ := Option.map_eq_some_iff.mp e
  cases e2
  let G1 : Hp := fun b => if Ow M f b then H b else G b
  have g1 : ∀ b, Ow M f b → G1 b = H b := fun b hb => if_pos hb
  have g0 : ∀ b, ¬ Ow M f b → G1 b = G b := fun b hb => if_neg hb
  have noG : ∀ b, Ow M f b → G b = none := fun b ⟨i, hi, hb⟩ => by
    obtain ⟨_, _, _, _, o⟩ := R.ow i hi
    exact (o.here b hb).2
  have s1 : Same G G1 := fun b u q => by
    by_cases hb : Ow M f b
    · rw [noG b hb] at q; cases q
    · rw [g0 b hb]; exact q
  have s2 : Same G1 H := fun b u q => by
    by_cases hb : Ow M f b
    · rw [g1 b hb] at q; exact q
    · rw [g0 b hb] at q; exact R.sub b u q
  have R1 : Rel X.K [] G1 H σ ρ f := ⟨s2, R.len, fun i d e _ => by
    by_cases hi : i ∈ M
    · obtain ⟨d', v, h1, h2, o⟩ := R.ow i hi
      rw [h1] at e
      cases e
      exact .inr ⟨v, h2, o.freeze s1 fun b hb => g1 b ⟨i, hi, hb⟩⟩
    · rcases R.fz i d e hi with z | ⟨v, h1, h2⟩
      · exact .inl z
      · exact .inr ⟨v, h1, h2.mono s1⟩, fun i hi => (nomatch hi), fun i hi => (nomatch hi)⟩
  refine k G1 H σ ρ f b0 ρ0 _ R1 e1 fun G' H' f' S R' => ?_
  have keepH : ∀ b o, H b = some o → H' b = some o := fun b o q => S.keep b o q fun ⟨i, hi, _⟩ => nomatch hi
  refine hQ G H' f ⟨Same.refl _, fun b h => .inl h, fun b o q _ => keepH b o q, S.live, fun b hb => .inl hb⟩ ⟨fun b u q => keepH b u (R.sub b u q), R.len, R.fz, fun i hi => ?_, R.dis⟩
  obtain ⟨d', v', h1, h2, o⟩ := R.ow i hi
  exact ⟨d', v', h1, h2, o.move (Same.refl _) (fun b _ u q => keepH b u q) fun b hb => (o.here b hb).2⟩

section
variable {X : Cx} {M M1 M' io : List Nat} {rk : Bool} {B : List Nat} {st : Stmt} {F : Es} {pos : Pos}
theorem vs_end (hs : M1.all (fun i => M'.contains i) = true) (h : VS X M M' io rk B st F) : VS X M M1 io rk B st F := by
  refine ⟨⟨fun pins s σ H E I ⟨C, G, ρ, f, o, R, P, hC, e, q⟩ => ?_⟩⟩
  refine h.ps.run pins s σ H E I ⟨C, G, ρ, f, o, R, P, hC, e, ?_⟩
  cases o with
  | nx ρ' =>
    intro σ' G' H' f' S R' P'
    obtain ⟨G1, S1, R1⟩ := R'.freeze (sub_of hs)
    exact q σ' G1 H' f' (S.trans S1) R1 P'
  | rt d ρ' => exact q
  | bk ρ' => exact q
  | ct ρ' => exact q
end

/-! ### dict comprehensions -/
def dcGo (fg : Eg) (ft : Et) (fk fv : Ev) (vs : List Nat) : List D → List (Key × D) → Rho → Option (List (Key × D) × Rho)
  | [], acc, ρ => some (acc, ρ)
  | d :: ds, acc, ρ => (fg d ρ).bind fun ρ1 => (ft ρ1).bind fun p =>
    if p.1 then (fk p.2).bind fun q => (fv q.2).bind fun r => (keyD q.1).bind fun k => if acc.length < lim then dcGo fg ft fk fv vs ds (putP acc k r.1) (wipeD r.2 vs) else none
    else dcGo fg ft fk fv vs ds acc (wipeD p.2 vs)
def fDc (fi : Ea) (fg : Eg) (ft : Et) (fk fv : Ev) (vs : List Nat) : Ev := fun ρ => (fi ρ).bind fun p => (dcGo fg ft fk fv vs p.1 [] (wipeD p.2 vs)).map fun q => (.dic q.1, q.2)
theorem wipe_wipe (r : Rho) (vs : List Nat) : wipeD (wipeD r vs) vs = wipeD r vs := by
  apply List.ext_getElem?
  intro j
  by_cases q : j ∈ vs
  · cases z : (wipeD r vs)[j]? with
    | none =>
      rw [List.getElem?_eq_none_iff] at z ⊢
      rw [wipeD_length]
      exact z
    | some d =>
      have := wipeD_in r j d vs q z
      subst this
      have hl : j < (wipeD (wipeD r vs) vs).length := by
        rw [wipeD_length]
        exact (List.getElem?_eq_some_iff.mp z).1
      cases z2 : (wipeD (wipeD r vs) vs)[j]? with
      | none => rw [List.getElem?_eq_none_iff] at z2; omega
      | some d2 => rw [wipeD_in _ j d2 vs q z2]
  · rw [wipeD_at _ j vs q]
theorem keepL {K : PySem.W.Frag} {M : List Nat} {L : Addr} {fa fb : Nat → List Addr} {Ga Ha Gb Hb : Hp} {o : HO} (nt : ∀ xs, o ≠ .tup xs) (S : Step M fa Ga Ha M fb Gb Hb) (a : Ha L = some o) (b : Ga L = none) (c : ¬ Ow M fa L) : Hb L = some o ∧ Gb L = none ∧ ¬ Ow M fb L := by
  refine ⟨S.keep _ _ a c, ?_, fun w => ?_⟩
  · cases z : Gb L with
    | none => rfl
    | some u =>
      rcases S.new L (by rw [z]; simp) with q | (q | ⟨xs, q⟩) | q
      · exact absurd b q
      · rw [a] at q; cases q
      · rw [a] at q; exact absurd (Option.some.inj q) (nt xs)
      · exact absurd q c
  · rcases S.own L w with q | q
    · exact c q
    · rw [a] at q; cases q
section
variable {K : PySem.W.Frag} {M : List Nat} {fi : Ea} {fg : Eg} {ft : Et} {fk fv : Ev} {vs ts : List Nat}
theorem dc_loop {J : It} (hvM : ∀ i, i ∈ vs → i ∉ M) (hts : ∀ j, j ∈ ts → j ∈ vs) {G1 H1 : Hp} {σ : L2.St} {ρ1 ρ2 : Rho} {f1 : Nat → List Addr} {ds : List D} {out : List (Key × D)} {Qd : Hp → Prop} (R1 : Rel K M G1 H1 σ ρ1 f1) (wk : Walks K J G1 ds) (e3 : dcGo fg ft fk fv vs ds [] (wipeD ρ1 vs) = some (out, ρ2))
    {L : Addr} (hL : H1 L = none) (hQ : ∀ Gc Hc fc accV, Step M f1 G1 H1 M fc Gc Hc → Rel K M Gc Hc σ ρ2 fc → Hc L = some (.dK accV) → Gc L = none → ¬ Ow M fc L → accV.map (·.1) = out.map (·.1) → FzA K Gc (accV.map (·.2)) (out.map (·.2)) → Qd Hc) :
    ∃ W : Nat → Nat → Hp → Prop, (∃ m, W 0 m (upd H1 L (.dK []))) ∧ ∀ i m H, W i m H →
      (J.stop i H ∧ Qd H) ∨ (J.go i H ∧ ∃ Nx : Hp → Prop, (∀ H', Nx H' → ∃ m', m' < m ∧ W (i + 1) m' H') ∧ ∀ x H', J.yld i H x H' → gOf K M ts fg x (L2.wipe σ vs) H' fun σ2 H2 => L2.wipe σ2 vs = L2.wipe σ vs ∧ tTOf K M ft σ2 H2 fun b H3 =>
        if b = true then tOf K M false fk σ2 H3 fun y H4 => tOf K M false fv σ2 H4 fun z H5 => ∃ kvs k, y = kV k ∧ H5 L = some (.dK kvs) ∧ kvs.length < sizeLine ∧ Nx (upd H5 L (.dK (putK kvs k z))) else Nx H3) := by
  refine ⟨fun i m Hc => m = ds.length - i ∧ i ≤ ds.length ∧ ∃ (Gc : Hp) (fc : Nat → List Addr) (ρc : Rho) (accD : List (Key × D)) (accV : List (Key × V)), Step M f1 G1 H1 M fc Gc Hc ∧ Rel K M Gc Hc (L2.wipe σ vs) ρc fc ∧ wipeD ρc vs = ρc ∧
    Hc L = some (.dK accV) ∧ Gc L = none ∧ ¬ Ow M fc L ∧ (accV.map (·.1) = accD.map (·.1) ∧ FzA K Gc (accV.map (·.2)) (accD.map (·.2))) ∧ dcGo fg ft fk fv vs (ds.drop i) accD ρc = some (out, ρ2), ?_, ?_⟩
  · have hO : ¬ Ow M f1 L := fun ⟨i, hi, hb⟩ => by
      obtain ⟨_, _, _, _, o⟩ := R1.ow i hi
      exact (o.here L hb).1 hL
    have hG : G1 L = none := sub_none R1.sub hL
    exact ⟨_, rfl, Nat.zero_le _, G1, f1, _, [], [], Step.free .refl hL, (R1.wipe vs hvM).free hG hO, wipe_wipe _ _, upd_same, hG, hO, ⟨rfl, .nil⟩, e3⟩
  · rintro i m Hc ⟨rfl, hi, Gc, fc, ρc, accD, accV, Sc, Rc, hw, hLc, hGc, hOc, ra, eg⟩
    have wkc := wk i Gc Hc Sc.sub Rc.sub
    by_cases hlt : i < ds.length
    · obtain ⟨d, hd, hdr⟩ := drop_get hlt
      rw [hdr] at eg
      obtain ⟨ρ3, g1, g2⟩ := Option.bind_eq_some_iff.mp (show (fg d ρc).bind _ = some (out, ρ2) from eg)
      obtain ⟨⟨b, ρ4⟩, g3, g4⟩ := Option.bind_eq_some_iff.mp g2
      obtain ⟨hgo, hy⟩ := wkc.2 d hd
      refine .inr ⟨hgo, fun Hn => ∃ (Gn : Hp) (fn : Nat → List Addr) (ρn : Rho) (accDn : List (Key × D)) (accVn : List (Key × V)), Step M f1 G1 H1 M fn Gn Hn ∧ Rel K M Gn Hn (L2.wipe σ vs) ρn fn ∧ wipeD ρn vs = ρn ∧
        Hn L = some (.dK accVn) ∧ Gn L = none ∧ ¬ Ow M fn L ∧ (accVn.map (·.1) = accDn.map (·.1) ∧ FzA K Gn (accVn.map (·.2)) (accDn.map (·.2))) ∧ dcGo fg ft fk fv vs (ds.drop (i + 1)) accDn ρn = some (out, ρ2),
        fun Hn ⟨Gn, fn, ρn, aD, aV, h1, h2, h3, h4, h5, h6, h7, h8⟩ => ⟨ds.length - (i + 1), by omega, rfl, hlt, Gn, fn, ρn, aD, aV, h1, h2, h3, h4, h5, h6, h7, h8⟩, ?_⟩
      intro x H2 hyl
      obtain ⟨G2, gr, hx⟩ := hy x H2 hyl
      have R2 := Rc.grow gr
      have hL2 : H2 L = some (.dK accV) := gr.keep _ _ hLc
      have wipe2 : L2.wipe (L2.wipe σ vs) vs = L2.wipe σ vs := wipe_eqx (ts := []) .refl (fun _ h => nomatch h)
      refine ⟨G2, ρc, fc, d, ρ3, R2, hx, g1, fun σ3 R3 x3 => ?_⟩
      have hw3 : L2.wipe σ3 vs = L2.wipe σ vs := wipe_eqx x3 hts
      refine ⟨hw3, ?_⟩
      refine ⟨G2, ρ3, fc, b, ρ4, R3, g3, fun G4 H4 f4 S4 R4 => ?_⟩
      have Sc2 : Step M f1 G1 H1 M fc G2 H2 := Sc.trans (gr.step M fc)
      have Sc4 := Sc2.trans S4
      have hG2 : G2 L = none := by
        cases z : G2 L with
        | none => rfl
        | some u =>
          rcases gr.new L (by rw [z]; simp) with q | q | ⟨xs, q⟩
          · exact absurd hGc q
          · rw [hLc] at q; cases q
          · rw [hLc] at q; cases q
      obtain ⟨k1, k2, k3⟩ := keepL (K := K) (by intro _ z; cases z) S4 hL2 hG2 hOc
      cases b with
      | false =>
        refine iteF ?_
        have g4 : dcGo fg ft fk fv vs (ds.drop (i + 1)) accD (wipeD ρ4 vs) = some (out, ρ2) := by simpa using g4
        exact ⟨G4, f4, wipeD ρ4 vs, accD, accV, Sc4, R4.rewipe hw3 hvM, wipe_wipe _ _, k1, k2, k3, ⟨ra.1, ra.2.mono (gr.sub.trans S4.sub)⟩, g4⟩
      | true =>
        refine iteT ?_
        obtain ⟨⟨y, ρ5⟩, g5, g6⟩ := Option.bind_eq_some_iff.mp (show (fk ρ4).bind _ = some (out, ρ2) from by simpa using g4)
        obtain ⟨⟨z, ρ6⟩, g7, g8⟩ := Option.bind_eq_some_iff.mp g6
        obtain ⟨kk, g9, g10⟩ := Option.bind_eq_some_iff.mp g8
        split at g10
        · rename_i hlen
          refine ⟨G4, ρ4, f4, y, ρ5, R4, g5, fun v G5 H5 f5 S5 R5 r5 => ?_⟩
          obtain ⟨l1, l2, l3⟩ := keepL (K := K) (by intro _ z; cases z) S5 k1 k2 k3
          refine ⟨G5, ρ5, f5, z, ρ6, R5, g7, fun v6 G6 H6 f6 S6 R6 r6 => ?_⟩
          obtain ⟨m1, m2, m3⟩ := keepL (K := K) (by intro _ z; cases z) S6 l1 l2 l3
          have ra6 : FzA K G6 (accV.map (·.2)) (accD.map (·.2)) := ra.2.mono (((gr.sub.trans S4.sub).trans S5.sub).trans S6.sub)
          have hkk := keyD_of (Fz.mono S6.sub r5) g9
          have hlen2 : accV.length < sizeLine := by
            have := congrArg List.length ra.1
            rw [List.length_map, List.length_map] at this
            rw [this]
            exact lim_lt hlen
          refine ⟨accV, kk, hkk, m1, hlen2, ?_⟩
          exact ⟨G6, f6, wipeD ρ6 vs, putP accD kk z, putK accV kk v6, ((Sc4.trans S5).trans S6).free hL, (R6.rewipe hw3 hvM).free m2 m3, wipe_wipe _ _, upd_same, m2, m3, putP_of kk r6 ra.1 ra6, g10⟩
        · cases g10
    · have ei : i = ds.length := by omega
      subst ei
      rw [List.drop_length] at eg
      cases eg
      refine .inl ⟨wkc.1 rfl, ?_⟩
      have wipe2 : L2.wipe (L2.wipe σ vs) vs = L2.wipe σ vs := wipe_eqx (ts := []) .refl (fun _ h => nomatch h)
      have Rf := Rc.unwipe wipe2 hvM
      rw [hw] at Rf
      exact hQ Gc Hc fc accV Sc Rf hLc hGc hOc ra.1 ra.2
end
section
variable {X : Cx} {M : List Nat} {fi : Ea} {fg : Eg} {ft : Et} {fk fv : Ev} {ts : List Nat} {kx vx tg iter : Expr} {ifs : List Expr} {scope : Scope} {own : List (Str × Nat)} {pos : Pos}
theorem ve_dc (hc : X.calm = true) (hN : X.N.Nodup) (ok : blkC X.N X.env.scope scope own = true) (hM : (own.map (·.2)).all (fun i => !M.contains i) = true) (hts : ts.all (fun i => (own.map (·.2)).contains i) = true) (hi : VI X M tg iter fi)
    (hg : ∀ (s : Shared) (H : Hp) (C : Addr) (cl : List (Str × Addr)) (fp : List Addr), VG (X.blk s H scope (compEnvC scope cl C X.env) fp) M ts tg fg) (ht : ∀ (s : Shared) (H : Hp) (C : Addr) (cl : List (Str × Addr)) (fp : List Addr), VTs (X.blk s H scope (compEnvC scope cl C X.env) fp) M ifs ft)
    (hk : ∀ (s : Shared) (H : Hp) (C : Addr) (cl : List (Str × Addr)) (fp : List Addr), VE (X.blk s H scope (compEnvC scope cl C X.env) fp) M false kx fk)
    (he : ∀ (s : Shared) (H : Hp) (C : Addr) (cl : List (Str × Addr)) (fp : List Addr), VE (X.blk s H scope (compEnvC scope cl C X.env) fp) M false vx fv) (hs : ∀ x, foldedSetIterable iter X.env x = pure x := by intro _; rfl) :
    VE X M true (.DictComp kx vx [⟨tg, iter, ifs, 0⟩] scope pos) (fDc fi fg ft fk fv (own.map (·.2))) := by
  obtain ⟨wi, pi, ki⟩ := hi
  refine ⟨_, pe_dc hc hN pi (blkOk_by ok) (g := gOf X.K M ts fg) (tt := tTOf X.K M ft) (tk := tOf X.K M false fk) (tv := tOf X.K M false fv) hg ht (fun s H C cl fp => (hk s H C cl fp).pe) (fun s H C cl fp => (he s H C cl fp).pe) hs, fun G H σ ρ f d ρ' Q R e hQ => ?_⟩
  unfold fDc at e
  obtain ⟨⟨ds, ρ1⟩, e1, e2⟩ := Option.bind_eq_some_iff.mp e
  obtain ⟨⟨out, ρ2⟩, e3, e4⟩ := Option.map_eq_some_iff.mp e2
  cases e4
  refine ki G H σ ρ f ds ρ1 _ R e1 fun J G1 H1 f1 S1 R1 wk => ?_
  intro L hL
  refine dc_loop (fun i hi => by simpa using List.all_eq_true.mp hM i hi) (fun i hi => by simpa using List.all_eq_true.mp hts i hi) R1 wk e3 hL fun Gc Hc fc accV Sc Rf hLc hGc hOc rk ra => ?_
  refine hQ _ Gc Hc fc (S1.trans Sc) Rf ⟨[L], .dic hLc hGc rk ra, fun b hb => ?_⟩
  simp at hb
  subst hb
  refine ⟨hOc, .inr ?_⟩
  cases z : H b with
  | none => rfl
  | some u => exact absurd hL (S1.live b (by rw [z]; simp))
end
end Bl

set_option Elab.async false
set_option linter.all false
set_option maxRecDepth 100000
set_option maxHeartbeats 4000000
/-! Vl7: pairs of names set at once; the source's dict. -/
namespace Bl
open PySem PySem.Spec PyProof.Rows L2

/-! ### several values, each frozen or owned -/
inductive ResB (K : PySem.W.Frag) (G' H' : Hp) (P : Addr → Prop) : List Bool → List V → List D → List (List Addr) → Prop
  | nil : ResB K G' H' P [] [] [] []
  | val {v : V} {d : D} {ms : List Bool} {vs : List V} {ds : List D} {fs : List (List Addr)} : Fz K G' v d → ResB K G' H' P ms vs ds fs → ResB K G' H' P (false :: ms) (v :: vs) (d :: ds) ([] :: fs)
  | own {v : V} {d : D} {fp : List Addr} {ms : List Bool} {vs : List V} {ds : List D} {fs : List (List Addr)} : Own K G' H' v d fp → (∀ b, b ∈ fp → P b) → (∀ b, b ∈ fp → ∀ g, g ∈ fs → b ∉ g) → ResB K G' H' P ms vs ds fs → ResB K G' H' P (true :: ms) (v :: vs) (d :: ds) (fp :: fs)
def VB (X : Cx) (M : List Nat) (ms : List Bool) (es : List Expr) (fn : Ea) : Prop :=
  ∃ t : TA, PA X es t ∧ ∀ (G H : Hp) (σ : L2.St) (ρ : Rho) (f : Nat → List Addr) (ds : List D) (ρ' : Rho) (Q : List V → Hp → Prop), Rel X.K M G H σ ρ f → fn ρ = some (ds, ρ') →
    (∀ vs G' H' f' fs, Step M f G H M f' G' H' → Rel X.K M G' H' σ ρ' f' → ResB X.K G' H' (fun b => ¬ Ow M f' b ∧ (Ow M f b ∨ H b = none)) ms vs ds fs → Q vs H') → t σ H Q
theorem ResB.mono {K : PySem.W.Frag} {G' H' : Hp} {P P' : Addr → Prop} (h : ∀ b, P b → P' b) : ∀ {ms : List Bool} {vs : List V} {ds : List D} {fs : List (List Addr)}, ResB K G' H' P ms vs ds fs → ResB K G' H' P' ms vs ds fs
  | _, _, _, _, .nil => .nil
  | _, _, _, _, .val a r => .val a (ResB.mono h r)
  | _, _, _, _, .own a b c r => .own a (fun x hx => h x (b x hx)) c (ResB.mono h r)
theorem ResB.mem {K : PySem.W.Frag} {G' H' : Hp} {P : Addr → Prop} : ∀ {ms : List Bool} {vs : List V} {ds : List D} {fs : List (List Addr)}, ResB K G' H' P ms vs ds fs → ∀ g, g ∈ fs → ∀ b, b ∈ g → P b
  | _, _, _, _, .nil, g, hg, _, _ => nomatch hg
  | _, _, _, _, .val a r, g, hg, b, hb => by
    rcases List.mem_cons.mp hg with z | z
    · subst z; exact nomatch hb
    · exact ResB.mem r g z b hb
  | _, _, _, _, .own a p c r, g, hg, b, hb => by
    rcases List.mem_cons.mp hg with z | z
    · subst z; exact p b hb
    · exact ResB.mem r g z b hb
theorem ResB.len {K : PySem.W.Frag} {G' H' : Hp} {P : Addr → Prop} : ∀ {ms : List Bool} {vs : List V} {ds : List D} {fs : List (List Addr)}, ResB K G' H' P ms vs ds fs → vs.length = ms.length
  | _, _, _, _, .nil => rfl
  | _, _, _, _, .val a r => by rw [List.length_cons, List.length_cons, ResB.len r]
  | _, _, _, _, .own a p c r => by rw [List.length_cons, List.length_cons, ResB.len r]
section
variable {X : Cx} {M : List Nat} {m : Bool} {ms : List Bool} {e : Expr} {es : List Expr} {fa : Ev} {fr : Ea}
theorem vb_nil : VB X M [] [] aNil := ⟨_, pa_nil, fun G H σ ρ f ds ρ' Q R e hQ => by
  cases e
  exact hQ [] G H f [] .refl R .nil⟩
theorem vb_cons (ha : VE X M m e fa) (hr : VB X M ms es fr) (hs : starEach (e :: es) X.env = (false, eval e X.env) :: starEach es X.env := by rfl) : VB X M (m :: ms) (e :: es) (aCons fa fr) := by
  obtain ⟨t, p, k⟩ := ha
  obtain ⟨u, q, l⟩ := hr
  refine ⟨_, pa_cons p q hs, fun G H σ ρ f ds ρ' Q R e hQ => ?_⟩
  unfold aCons at e
  obtain ⟨⟨d, ρ1⟩, e1, e2⟩ := Option.bind_eq_some_iff.mp e
  obtain ⟨⟨ds', ρ2⟩, e3, e4⟩ := Option.map_eq_some_iff.mp e2
  cases e4
  refine k G H σ ρ f d ρ1 _ R e1 fun v G1 H1 f1 S1 R1 r1 => ?_
  refine l G1 H1 σ ρ1 f1 ds' ρ2 _ R1 e3 fun vs G2 H2 f2 fs S2 R2 r2 => ?_
  have back : ∀ b, (¬ Ow M f2 b ∧ (Ow M f1 b ∨ H1 b = none)) → (¬ Ow M f2 b ∧ (Ow M f b ∨ H b = none)) := fun b hb => ⟨hb.1, S1.back b hb.2⟩
  have r2' := r2.mono back
  cases m with
  | false => exact hQ (v :: vs) G2 H2 f2 ([] :: fs) (S1.trans S2) R2 (.val (Fz.mono S2.sub r1) r2')
  | true =>
    obtain ⟨fp, o, z⟩ := r1
    refine hQ (v :: vs) G2 H2 f2 (fp :: fs) (S1.trans S2) R2 (.own (o.step S2 fun b hb => (z b hb).1) (fun b hb => ⟨fun w => ?_, (z b hb).2⟩) (fun b hb g hg w => ?_) r2')
    · rcases S2.own b w with q | q
      · exact (z b hb).1 q
      · exact (o.here b hb).1 q
    · rcases (r2.mem g hg b w).2 with q | q
      · exact (z b hb).1 q
      · exact (o.here b hb).1 q
end
/-! ### the slots set -/
def addB : List Nat → List Bool → List Nat → List Nat
  | i :: is, true :: ms, M => addB is ms (i :: M)
  | _ :: is, false :: ms, M => addB is ms M
  | _, _, M => M
def setsV : List Nat → List V → L2.St → L2.St
  | i :: is, v :: vs, σ => setsV is vs (σ.set i (some v))
  | _, _, σ => σ
def setsD : List Nat → List D → Rho → Rho
  | i :: is, d :: ds, ρ => setsD is ds (ρ.set i d)
  | _, _, ρ => ρ
theorem setsV_eqx : ∀ (is : List Nat) (vs : List V) (σ : L2.St), Eqx is σ (setsV is vs σ)
  | [], _, σ => by simp [setsV]; exact .refl
  | _ :: _, [], σ => by simp [setsV]; exact .refl
  | i :: is, v :: vs, σ => by
    rw [setsV]
    exact (eqx_set (ts := i :: is) (by simp)).trans ((setsV_eqx is vs _).mono fun j hj => List.mem_cons_of_mem _ hj)
theorem store_go {K : PySem.W.Frag} : ∀ {is : List Nat} {ms : List Bool} {vs : List V} {ds : List D} {fs : List (List Addr)} {M M0 : List Nat} {G H G0 H0 : Hp} {σ : L2.St} {ρ : Rho} {f f0 : Nat → List Addr} {P : Addr → Prop}, ResB K G H P ms vs ds fs → is.length = ms.length → (∀ i, i ∈ is → i ∉ M ∧ i < ρ.length) → is.Nodup →
    Rel K M G H σ ρ f → Step M0 f0 G0 H0 M f G H → (∀ b, P b → Ow M0 f0 b ∨ H0 b = none) → (∀ g, g ∈ fs → ∀ b, b ∈ g → ¬ Ow M f b) →
    ∃ f', Step M0 f0 G0 H0 (addB is ms M) f' G H ∧ Rel K (addB is ms M) G H (setsV is vs σ) (setsD is ds ρ) f'
  | [], _, _, _, _, M, _, _, _, _, _, _, _, f, _, _, .nil, _, _, _, R, S, _, _ => ⟨f, S, R⟩
  | [], _, _, _, _, _, _, _, _, _, _, _, _, _, _, _, .val _ _, hl, _, _, _, _, _, _ => by simp at hl
  | [], _, _, _, _, _, _, _, _, _, _, _, _, _, _, _, .own _ _ _ _, hl, _, _, _, _, _, _ => by simp at hl
  | _ :: _, _, _, _, _, _, _, _, _, _, _, _, _, _, _, _, .nil, hl, _, _, _, _, _, _ => by simp at hl
  | i :: is, _, _, _, _, M, M0, G, H, G0, H0, σ, ρ, f, f0, P, .val (v := v) (d := d) hv r, hl, hM, nd, R, S, hP, hf => by
    obtain ⟨n1, n2⟩ := List.nodup_cons.mp nd
    exact store_go (is := is) r (by simpa using hl) (fun j hj => ⟨(hM j (List.mem_cons_of_mem _ hj)).1, by simpa using (hM j (List.mem_cons_of_mem _ hj)).2⟩) n2 (R.setF (hM i (by simp)).1 hv) S hP fun g hg => hf g (List.mem_cons_of_mem _ hg)
  | i :: is, _, _, _, _, M, M0, G, H, G0, H0, σ, ρ, f, f0, P, .own (v := v) (d := d) (fp := fp) (fs := fs) o p c r, hl, hM, nd, R, S, hP, hf => by
    obtain ⟨n1, n2⟩ := List.nodup_cons.mp nd
    have R1 := R.setO (hM i (by simp)).1 (hM i (by simp)).2 o fun b hb => hf fp (by simp) b hb
    have S1 := S.addO (i := i) fun b hb => hP b (p b hb)
    refine store_go (is := is) r (by simpa using hl) (fun j hj => ⟨fun w => ?_, by simpa using (hM j (List.mem_cons_of_mem _ hj)).2⟩) n2 R1 S1 hP fun g hg b hb w => ?_
    · rcases List.mem_cons.mp w with z | z
      · exact n1 (z ▸ hj)
      · exact (hM j (List.mem_cons_of_mem _ hj)).1 z
    · obtain ⟨j, hj, w⟩ := w
      by_cases q : j = i
      · subst q
        have w : b ∈ (if j = j then fp else f j) := w
        rw [if_pos rfl] at w
        exact c b w g hg hb
      · have w : b ∈ (if j = i then fp else f j) := w
        rw [if_neg q] at w
        exact hf g (List.mem_cons_of_mem _ hg) b hb ⟨j, (List.mem_cons.mp hj).resolve_left q, w⟩
def sPar (is : List Nat) (ms : List Bool) (fa : Ea) : Es := fun ρ => (fa ρ).bind fun p => if is.all (fun i => decide (i < p.2.length)) = true then some (.nx (setsD is p.1 p.2)) else none
section
variable {X : Cx} {M io : List Nat} {rk : Bool} {B : List Nat} {pos px py pz pt pt2 : Pos} {a b c : Expr} {fa : Ea} {ms : List Bool} {kt k2 : Nat}
/-- what comes behind the values -/
theorem par_go {is : List Nat} {M' : List Nat} {ta : TA} (hM' : addB is ms M = M') (hl : is.length = ms.length) (hnd : decide is.Nodup = true) (hm : is.all (fun i => !M.contains i) = true) (ho : is.all (fun i => !io.contains i) = true)
    (ka : ∀ (G H : Hp) (σ : L2.St) (ρ : Rho) (f : Nat → List Addr) (ds : List D) (ρ' : Rho) (Q : List V → Hp → Prop), Rel X.K M G H σ ρ f → fa ρ = some (ds, ρ') →
      (∀ vs G' H' f' fs, Step M f G H M f' G' H' → Rel X.K M G' H' σ ρ' f' → ResB X.K G' H' (fun b => ¬ Ow M f' b ∧ (Ow M f b ∨ H b = none)) ms vs ds fs → Q vs H') → ta σ H Q)
    {C : List (Nat × V)} {G H : Hp} {σ : L2.St} {ρ : Rho} {f : Nat → List Addr} {o : Out} {E : Ends} (R : Rel X.K M G H σ ρ f) (P : Pin C σ) (hC : ∀ p, p ∈ C → p.1 ∈ io) (e : sPar is ms fa ρ = some o) (h : Post X.K M M' io rk B C G H f E o) {Q : List V → Hp → Prop} (hQ : ∀ vs H1, vs.length = is.length → (∀ Hn, (∀ b, H1 b ≠ none → Hn b = H1 b) → E.nx (setsV is vs σ) Hn) → Q vs H1) :
    ta σ H Q := by
  obtain ⟨⟨ds, ρ1⟩, e1, e2⟩ := Option.bind_eq_some_iff.mp e
  split at e2
  · rename_i hlt
    cases e2
    refine ka G H σ ρ f ds ρ1 _ R e1 fun vs G1 H1 f1 fs S1 R1 r1 => ?_
    refine hQ vs H1 (by rw [r1.len, hl]) fun Hn hn => ?_
    obtain ⟨f', S2, R2⟩ := store_go r1 hl (fun i hi => ⟨by simpa using List.all_eq_true.mp hm i hi, by simpa using List.all_eq_true.mp hlt i hi⟩) (of_decide_eq_true hnd) R1 S1 (fun b hb => hb.2) fun g hg b hb => (r1.mem g hg b hb).1
    rw [hM'] at S2 R2
    have up : ∀ b u, H1 b = some u → Hn b = some u := fun b u q => by rw [hn b (by rw [q]; simp)]; exact q
    refine h _ G1 Hn f' ⟨S2.sub, S2.new, fun b o q n => up b o (S2.keep b o q n), fun b q => by rw [hn b (S2.live b q)]; exact S2.live b q, S2.own⟩ ⟨fun b u q => up b u (R2.sub b u q), R2.len, R2.fz, fun i hi => ?_, R2.dis⟩ (P.eqx (setsV_eqx is vs σ) hC fun j hj => by simpa using List.all_eq_true.mp ho j hj)
    obtain ⟨d, v, h1, h2, o⟩ := R2.ow i hi
    exact ⟨d, v, h1, h2, o.move (Same.refl _) (fun b _ u q => up b u q) fun b hb => (o.here b hb).2⟩
  · cases e2
theorem vs_par2 (i j : Nat) {x y : Str} {M' : List Nat} (hN : X.N.Nodup) (hc : X.calm = true) (hm : [i, j].all (fun i => !M.contains i) = true) (ho : [i, j].all (fun i => !io.contains i) = true) (hij : i ≠ j) (hl : ms.length = 2) (hM' : addB [i, j] ms M = M')
    (hw : swappedStores [.Tuple [.Name x px, .Name y py] kt pt] (.Tuple [a, b] k2 pt2) X.env = pure (some [x, y])) (ha : VB X M ms [a, b] fa)
    (hi : X.N[i]? = some x := by rfl) (hj : X.N[j]? = some y := by rfl) (hx : X.env.scope.names.lookup x = some .local := by rfl) (hy : X.env.scope.names.lookup y = some .local := by rfl)
    (hs : swapsWithSole [.Tuple [.Name x px, .Name y py] kt pt] (.Tuple [a, b] k2 pt2) pos.line X.env = pure false := by rfl) :
    VS X M M' io rk B (.Assign [.Tuple [.Name x px, .Name y py] kt pt] (.Tuple [a, b] k2 pt2) pos) (sPar [i, j] ms fa) := by
  obtain ⟨ta, pa, ka⟩ := ha
  refine ⟨⟨fun pins s σ H E I ⟨C, G, ρ, f, o, R, P, hC, e, h⟩ => ?_⟩⟩
  refine (ps_par hc hN hi hj hij hx hy pa hw hs).run pins s σ H E I ?_
  refine par_go (is := [i, j]) hM' (by rw [hl]; rfl) (by simpa using hij) hm ho ka R P hC e h fun vs H1 h1 h2 => ?_
  match vs, h1 with
  | [v, w], _ => exact ⟨v, w, rfl, h2 H1 fun _ _ => rfl⟩
theorem vs_par3 (i j l : Nat) {x y z : Str} {M' : List Nat} (hN : X.N.Nodup) (hc : X.calm = true) (hm : [i, j, l].all (fun i => !M.contains i) = true) (ho : [i, j, l].all (fun i => !io.contains i) = true) (hij : i ≠ j) (hil : i ≠ l) (hjl : j ≠ l) (hl : ms.length = 3) (hM' : addB [i, j, l] ms M = M')
    (hw : swappedStores [.Tuple [.Name x px, .Name y py, .Name z pz] kt pt] (.Tuple [a, b, c] k2 pt2) X.env = pure (some [x, y, z])) (ha : VB X M ms [a, b, c] fa)
    (hi : X.N[i]? = some x := by rfl) (hj : X.N[j]? = some y := by rfl) (hk : X.N[l]? = some z := by rfl) (hx : X.env.scope.names.lookup x = some .local := by rfl) (hy : X.env.scope.names.lookup y = some .local := by rfl) (hz : X.env.scope.names.lookup z = some .local := by rfl)
    (hs : swapsWithSole [.Tuple [.Name x px, .Name y py, .Name z pz] kt pt] (.Tuple [a, b, c] k2 pt2) pos.line X.env = pure false := by rfl) :
    VS X M M' io rk B (.Assign [.Tuple [.Name x px, .Name y py, .Name z pz] kt pt] (.Tuple [a, b, c] k2 pt2) pos) (sPar [i, j, l] ms fa) := by
  obtain ⟨ta, pa, ka⟩ := ha
  refine ⟨⟨fun pins s σ H E I ⟨C, G, ρ, f, o, R, P, hC, e, h⟩ => ?_⟩⟩
  refine (ps_par3 hc hN hi hj hk hij hil hjl hx hy hz pa hw hs).run pins s σ H E I ?_
  refine par_go (is := [i, j, l]) hM' (by rw [hl]; rfl) (by simp [hij, hil, hjl]) hm ho ka R P hC e h fun vs H1 h1 h2 => ?_
  match vs, h1 with
  | [u, v, w], _ => exact ⟨u, v, w, rfl, h2 H1 fun _ _ => rfl⟩
/-- by a tuple that is laid and taken apart -/
def gSets (is : List Nat) : TGs := fun vs σ H Q => vs.length = is.length ∧ Q (setsV is vs σ) H
theorem vpt_nil : PGs X [] (gSets []) := ⟨fun pins s σ H vs us Q I r ⟨hl, h⟩ => by
  cases vs with
  | nil => exact pgs_nil.run pins s σ H [] us Q I r ⟨rfl, h⟩
  | cons _ _ => cases hl⟩
theorem vpt_cons (i : Nat) {is : List Nat} {x : Str} {es : List Expr} (hN : X.N.Nodup) (hr : PGs X es (gSets is)) (hx : Loc X.env.scope x := by first | exact Or.inl rfl | exact Or.inr rfl) (hi : X.N[i]? = some x := by rfl) (hf : X.fn x = true ∨ X.env.scope.names.lookup x = some .local := by first | exact .inl rfl | exact .inr rfl)
    (hs : (assignEach (.Name x px :: es) X.env).map (·.2) = assign (.Name x px) X.env :: (assignEach es X.env).map (·.2) := by rfl) : PGs X (.Name x px :: es) (gSets (i :: is)) := by
  refine ⟨fun pins s σ H vs us Q I r ⟨hl, h⟩ => ?_⟩
  cases vs with
  | nil => cases hl
  | cons v vs => exact (pgs_cons (pg_name hN hi hx hf) hr hs).run pins s σ H (v :: vs) us Q I r ⟨v, vs, rfl, by simpa using hl, h⟩
theorem vs_parT {is : List Nat} {M' : List Nat} {es tgs : List Expr} (hc : X.calm = true) (hm : is.all (fun i => !M.contains i) = true) (ho : is.all (fun i => !io.contains i) = true) (hl : is.length = ms.length) (hnd : decide is.Nodup = true) (hM' : addB is ms M = M') (hg : PGs X tgs (gSets is)) (ha : VB X M ms es fa)
    (hlim : decide (is.length ≤ 1000) = true := by rfl) (hs : swapsWithSole [.Tuple tgs kt pt] (.Tuple es k2 pt2) pos.line X.env = pure false := by rfl) (hw : swappedStores [.Tuple tgs kt pt] (.Tuple es k2 pt2) X.env = pure none := by rfl)
    (h1 : (assignEach [.Tuple tgs kt pt] X.env).map (·.2) = [assign (.Tuple tgs kt pt) X.env] := by rfl) (hn : (assignEach tgs X.env).length = is.length := by rfl) (hst : (assignEach tgs X.env).findIdx? (·.1) = none := by rfl) :
    VS X M M' io rk B (.Assign [.Tuple tgs kt pt] (.Tuple es k2 pt2) pos) (sPar is ms fa) := by
  obtain ⟨ta, pa, ka⟩ := ha
  refine ⟨⟨fun pins s σ H E I ⟨C, G, ρ, f, o, R, P, hC, e, h⟩ => ?_⟩⟩
  refine (ps_asg (pe_tup pa) (pg_tup (n := is.length) hc hg hn hst) hs hw h1).run pins s σ H E I ?_
  refine par_go hM' hl hnd hm ho ka R P hC e h fun vs H1 h1 h2 => ?_
  have := of_decide_eq_true hlim
  refine ⟨by rw [h1, sizeLine_eq]; omega, fun p hp => ⟨p, vs, rfl, .inl (.inl upd_same), h1, h1, h2 _ fun b hb => upd_ne fun z => hb (z ▸ hp)⟩⟩
end
end Bl

set_option Elab.async false
set_option linter.all false
set_option maxRecDepth 100000
set_option maxHeartbeats 4000000
/-! Vl8: the source's dict, [::-1], list(range), repr, sorted. -/
namespace Bl
open PySem PySem.Spec PyProof.Rows L2

/-! ### the source -/
def fSrc (g : Int → Int → Int → Int) (j : Nat) : Ev := fun ρ => (slot j ρ).bind fun d => match d with
  | .src _ l m t => some (.int (g l m t), ρ)
  | _ => none
abbrev fSrc_left (j : Nat) : Ev := fSrc (fun l _ _ => l) j
abbrev fSrc_mixed (j : Nat) : Ev := fSrc (fun _ m _ => m) j
abbrev fSrc_turn (j : Nat) : Ev := fSrc (fun _ _ t => t) j
section
variable {X : Cx} {M M' io : List Nat} {rk : Bool} {B : List Nat} {pos xp cp apos cpos : Pos} {jj : Nat} {fa : Ev}
theorem src_at {K : PySem.W.Frag} {G H : Hp} {σ : L2.St} {ρ : Rho} {f : Nat → List Addr} {j : Nat} {c : List Int} {l m t : Int} (R : Rel K M G H σ ρ f) (hj : (M.contains j) = true) (e : slot j ρ = some (.src c l m t)) :
    ∃ p q, σ[j]? = some (some (.ref p)) ∧ f j = [p, q] ∧ H p = some (.dK (srcK q l m t)) ∧ H q = some (.lst (c.map V.int)) ∧ G p = none ∧ G q = none ∧ p ≠ q ∧ ρ[j]? = some (.src c l m t) ∧ j ∈ M := by
  have hj : j ∈ M := by simpa using hj
  obtain ⟨h1, _⟩ := slot_some e
  obtain ⟨d, v, g1, g2, o⟩ := R.ow j hj
  rw [h1] at g1
  cases g1
  cases hf : f j with
  | nil => rw [hf] at o; cases o
  | cons b bs =>
    rw [hf] at o
    cases o with
    | src k1 k2 k3 k4 k5 => exact ⟨_, _, g2, rfl, k1, k2, k3, k4, k5, h1, hj⟩
theorem ve_srcGet {key : Str} {g : Int → Int → Int → Int} (hg : ∀ q l m t, valV (srcK q l m t) (.inr key) = some (.int (g l m t))) (j : Nat) {x : Str} (hj : (M.contains j) = true) (hu : X.A.units + 1 < cLine) (hN : X.N[j]? = some x := by rfl) (hv : Vis X.env.scope x := by first | exact Or.inl rfl | exact Or.inr (Or.inl rfl) | exact Or.inr (Or.inr rfl)) (hd : (x == ("__debug__" : Str)) = false := by decide) (hcd : (x == ("__classdict__" : Str)) = false := by decide) :
    VE X M false (.Subscript (.Name x xp) (.Constant (.str key) jj cp) pos) (fSrc g j) := by
  refine ⟨_, pe_dget hu (pe_var hN hv hd hcd) pe_str (by intro _ _; rfl), fun G H σ ρ f d ρ' Q R e hQ => ?_⟩
  obtain ⟨d0, e1, e2⟩ := Option.bind_eq_some_iff.mp e
  split at e2
  · rename_i c l m t
    cases e2
    obtain ⟨p, q, h1, h2, h3, h4, _⟩ := src_at R hj e1
    exact ⟨_, h1, p, _, rfl, .inl ⟨_, _, .inl h3, rfl, (hg q l m t).symm⟩, hQ _ G H f .refl R (.int _)⟩
  · cases e2
theorem ve_srcGet_left (j : Nat) {x : Str} (hj : (M.contains j) = true) (hu : X.A.units + 1 < cLine) (hN : X.N[j]? = some x := by rfl) (hv : Vis X.env.scope x := by first | exact Or.inl rfl | exact Or.inr (Or.inl rfl) | exact Or.inr (Or.inr rfl)) (hd : (x == ("__debug__" : Str)) = false := by decide) (hcd : (x == ("__classdict__" : Str)) = false := by decide) :
    VE X M false (.Subscript (.Name x xp) (.Constant (.str "left") jj cp) pos) (fSrc_left j) := ve_srcGet (fun q l m t => by first | rfl | simp [valV, srcK]) j hj hu hN hv hd hcd
theorem ve_srcGet_mixed (j : Nat) {x : Str} (hj : (M.contains j) = true) (hu : X.A.units + 1 < cLine) (hN : X.N[j]? = some x := by rfl) (hv : Vis X.env.scope x := by first | exact Or.inl rfl | exact Or.inr (Or.inl rfl) | exact Or.inr (Or.inr rfl)) (hd : (x == ("__debug__" : Str)) = false := by decide) (hcd : (x == ("__classdict__" : Str)) = false := by decide) :
    VE X M false (.Subscript (.Name x xp) (.Constant (.str "mixed") jj cp) pos) (fSrc_mixed j) := ve_srcGet (fun q l m t => by first | rfl | simp [valV, srcK]) j hj hu hN hv hd hcd
theorem ve_srcGet_turn (j : Nat) {x : Str} (hj : (M.contains j) = true) (hu : X.A.units + 1 < cLine) (hN : X.N[j]? = some x := by rfl) (hv : Vis X.env.scope x := by first | exact Or.inl rfl | exact Or.inr (Or.inl rfl) | exact Or.inr (Or.inr rfl)) (hd : (x == ("__debug__" : Str)) = false := by decide) (hcd : (x == ("__classdict__" : Str)) = false := by decide) :
    VE X M false (.Subscript (.Name x xp) (.Constant (.str "turn") jj cp) pos) (fSrc_turn j) := ve_srcGet (fun q l m t => by first | rfl | simp [valV, srcK]) j hj hu hN hv hd hcd
theorem src_cells {q : Addr} {l m t : Int} : valV (srcK q l m t) (.inr "cells") = some (.ref q) := by first | rfl | simp [valV, srcK]
def fSrcLen (j : Nat) : Ev := fun ρ => (slot j ρ).bind fun d => match d with
  | .src c _ _ _ => some (.int c.length, ρ)
  | _ => none
theorem ve_srcLen (j : Nat) {x : Str} {lp : Pos} (hj : (M.contains j) = true) (hu : X.A.units + 1 < cLine) (hm : X.mg "len" = none) (hg : Gl X "len") (hN : X.N[j]? = some x := by rfl) (hv : Vis X.env.scope x := by first | exact Or.inl rfl | exact Or.inr (Or.inl rfl) | exact Or.inr (Or.inr rfl)) (hd : (x == ("__debug__" : Str)) = false := by decide) (hcd : (x == ("__classdict__" : Str)) = false := by decide)
    (hs : starEach [.Subscript (.Name x xp) (.Constant (.str "cells") jj cp) pos] X.env = (false, eval (.Subscript (.Name x xp) (.Constant (.str "cells") jj cp) pos) X.env) :: starEach [] X.env := by rfl) :
    VE X M false (.Call (.Name "len" lp) [.Subscript (.Name x xp) (.Constant (.str "cells") jj cp) pos] [] cpos) (fSrcLen j) := by
  refine ⟨_, pe_callB call_len_seq hg hm (by decide +kernel) (pa_cons (pe_dget hu (pe_var hN hv hd hcd) pe_str (by intro _ _; rfl)) pa_nil hs) (by decide) (by decide) hs (by rfl), fun G H σ ρ f d ρ' Q R e hQ => ?_⟩
  obtain ⟨d0, e1, e2⟩ := Option.bind_eq_some_iff.mp e
  split at e2
  · rename_i c l m t
    cases e2
    obtain ⟨p, q, h1, h2, h3, h4, _⟩ := src_at R hj e1
    refine ⟨_, h1, p, _, rfl, .inl ⟨_, _, .inl h3, rfl, src_cells.symm⟩, q, _, rfl, .inl (SqL.of h4), ?_⟩
    rw [List.length_map]
    exact hQ _ G H f .refl R (.int _)
  · cases e2
def fSrcPop (j : Nat) : Ev := fun ρ => (slot j ρ).bind fun d => match d with
  | .src c l m t => (c[c.length - 1]?).map fun y => (.int y, ρ.set j (.src c.dropLast l m t))
  | _ => none
theorem ve_srcPop (j : Nat) {x : Str} (hj : (M.contains j) = true) (hu : X.A.units + 1 < cLine) (hN : X.N[j]? = some x := by rfl) (hv : Vis X.env.scope x := by first | exact Or.inl rfl | exact Or.inr (Or.inl rfl) | exact Or.inr (Or.inr rfl)) (hd : (x == ("__debug__" : Str)) = false := by decide) (hcd : (x == ("__classdict__" : Str)) = false := by decide)
    (hbase : attributeBase (.Subscript (.Name x xp) (.Constant (.str "cells") jj cp) pos) "pop" X.env (eval (.Subscript (.Name x xp) (.Constant (.str "cells") jj cp) pos) X.env) = eval (.Subscript (.Name x xp) (.Constant (.str "cells") jj cp) pos) X.env := by rfl) (hline : (apos.endLine == cpos.line) = true := by rfl) :
    VE X M false (.Call (.Attribute (.Subscript (.Name x xp) (.Constant (.str "cells") jj cp) pos) "pop" apos) [] [] cpos) (fSrcPop j) := by
  refine ⟨_, pe_bm0 PySem.F.plainAttrs_list PySem.F.slot_list_pop PySem.F.type_list_pop mt_pop (pe_dget hu (pe_var hN hv hd hcd) pe_str (by intro _ _; rfl)) hbase hline, fun G H σ ρ f d ρ' Q R e hQ => ?_⟩
  obtain ⟨d0, e1, e2⟩ := Option.bind_eq_some_iff.mp e
  split at e2
  · rename_i c l m t
    obtain ⟨y, e3, e4⟩ := Option.map_eq_some_iff.mp e2
    cases e4
    obtain ⟨p, q, h1, h2, h3, h4, g1, g2, hne, h5, hj⟩ := src_at R hj e1
    refine ⟨_, h1, p, _, rfl, .inl ⟨_, _, .inl h3, rfl, src_cells.symm⟩, .inl ⟨rfl, _, SqL.of h4⟩, q, _, .int y, rfl, rfl, h4, by rw [List.length_map, List.getElem?_map, e3]; rfl, ?_⟩
    have hR : Rel X.K M G (upd H q (.lst ((c.map V.int).dropLast))) σ (ρ.set j (.src c.dropLast l m t)) f ∧ Step M f G H M f G (upd H q (.lst ((c.map V.int).dropLast))) := by
      refine R.change hj h5 h1 ?_ fun b hb => upd_ne fun z => hb (by rw [h2, z]; simp)
      rw [h2]
      exact .src (by rw [upd_ne hne]; exact h3) (by rw [upd_same, List.dropLast_eq_take, List.dropLast_eq_take, List.map_take, List.length_map]) g1 g2 hne
    exact hQ _ G _ f hR.2 hR.1 (.int _)
  · cases e2
def sSrcPut (g : Int → Int → Int → Int → Int × Int × Int) (j : Nat) (fa : Ev) : Es := fun ρ => (fa ρ).bind fun p => (slot j p.2).bind fun d => match d, p.1 with
  | .src c l m t, .int i => some (.nx (p.2.set j (.src c (g l m t i).1 (g l m t i).2.1 (g l m t i).2.2)))
  | _, _ => none
abbrev sSrcPut_left (j : Nat) (fa : Ev) : Es := sSrcPut (fun _ m t i => (i, m, t)) j fa
abbrev sSrcPut_mixed (j : Nat) (fa : Ev) : Es := sSrcPut (fun l _ t i => (l, i, t)) j fa
abbrev sSrcPut_turn (j : Nat) (fa : Ev) : Es := sSrcPut (fun l m _ i => (l, m, i)) j fa
theorem vs_srcPut {key : Str} {g : Int → Int → Int → Int → Int × Int × Int} (hg : ∀ q l m t i, putK (srcK q l m t) (.inr key) (.int i) = srcK q (g l m t i).1 (g l m t i).2.1 (g l m t i).2.2) (j : Nat) {x : Str} {a : Expr} (hj : (M.contains j) = true) (hu : X.A.units + 1 < cLine) (ha : VE X M false a fa) (hN : X.N[j]? = some x := by rfl) (hv : Vis X.env.scope x := by first | exact Or.inl rfl | exact Or.inr (Or.inl rfl) | exact Or.inr (Or.inr rfl)) (hd : (x == ("__debug__" : Str)) = false := by decide) (hcd : (x == ("__classdict__" : Str)) = false := by decide)
    (hs : swapsWith a (some (.Subscript (.Name x xp) (.Constant (.str key) jj cp) apos)) pos.line X.env = pure false := by rfl) : VS X M M io rk B (.Assign [.Subscript (.Name x xp) (.Constant (.str key) jj cp) apos] a pos) (sSrcPut g j fa) := by
  obtain ⟨t, p, k⟩ := ha
  refine ⟨⟨fun pins s σ H E I ⟨C, G, ρ, f, o, R, P, hC, e, h⟩ => ?_⟩⟩
  refine (ps_dput hu (pe_var hN hv hd hcd) pe_str p hs).run pins s σ H E I ?_
  obtain ⟨⟨d, ρ1⟩, e1, e2⟩ := Option.bind_eq_some_iff.mp e
  obtain ⟨d0, e3, e4⟩ := Option.bind_eq_some_iff.mp e2
  refine k G H σ ρ f d ρ1 _ R e1 fun v G1 H1 f1 S1 R1 r1 => ?_
  split at e4
  · rename_i c l m t i z
    cases e4
    simp only at z
    subst z
    obtain ⟨p, q, h1, h2, h3, h4, g1, g2, hne, h5, hj⟩ := src_at R1 hj e3
    cases Fz.int_inv r1
    refine ⟨_, h1, p, _, rfl, .inl ⟨_, .inr key, h3, rfl, by rw [sizeLine_eq]; show 4 < _; omega, rfl⟩, ?_⟩
    rw [hg]
    have hR : Rel X.K M G1 (upd H1 p (.dK (srcK q (g l m t i).1 (g l m t i).2.1 (g l m t i).2.2))) σ (ρ1.set j (.src c (g l m t i).1 (g l m t i).2.1 (g l m t i).2.2)) f1 ∧ Step M f1 G1 H1 M f1 G1 (upd H1 p (.dK (srcK q (g l m t i).1 (g l m t i).2.1 (g l m t i).2.2))) := by
      refine R1.change hj h5 h1 ?_ fun b hb => upd_ne fun z => hb (by rw [h2, z]; simp)
      rw [h2]
      exact .src upd_same (by rw [upd_ne (Ne.symm hne)]; exact h4) g1 g2 hne
    exact h σ _ _ _ (S1.trans hR.2) hR.1 P
  · cases e4
theorem put_left (q : Addr) (l m t i : Int) : putK (srcK q l m t) (.inr "left") (.int i) = srcK q i m t := by first | rfl | simp [putK, srcK]
theorem put_mixed (q : Addr) (l m t i : Int) : putK (srcK q l m t) (.inr "mixed") (.int i) = srcK q l i t := by first | rfl | simp [putK, srcK]
theorem put_turn (q : Addr) (l m t i : Int) : putK (srcK q l m t) (.inr "turn") (.int i) = srcK q l m i := by first | rfl | simp [putK, srcK]
theorem vs_srcPut_left (j : Nat) {x : Str} {a : Expr} (hj : (M.contains j) = true) (hu : X.A.units + 1 < cLine) (ha : VE X M false a fa) (hN : X.N[j]? = some x := by rfl) (hv : Vis X.env.scope x := by first | exact Or.inl rfl | exact Or.inr (Or.inl rfl) | exact Or.inr (Or.inr rfl)) (hd : (x == ("__debug__" : Str)) = false := by decide) (hcd : (x == ("__classdict__" : Str)) = false := by decide)
    (hs : swapsWith a (some (.Subscript (.Name x xp) (.Constant (.str "left") jj cp) apos)) pos.line X.env = pure false := by rfl) : VS X M M io rk B (.Assign [.Subscript (.Name x xp) (.Constant (.str "left") jj cp) apos] a pos) (sSrcPut_left j fa) := vs_srcPut put_left j hj hu ha hN hv hd hcd hs
theorem vs_srcPut_mixed (j : Nat) {x : Str} {a : Expr} (hj : (M.contains j) = true) (hu : X.A.units + 1 < cLine) (ha : VE X M false a fa) (hN : X.N[j]? = some x := by rfl) (hv : Vis X.env.scope x := by first | exact Or.inl rfl | exact Or.inr (Or.inl rfl) | exact Or.inr (Or.inr rfl)) (hd : (x == ("__debug__" : Str)) = false := by decide) (hcd : (x == ("__classdict__" : Str)) = false := by decide)
    (hs : swapsWith a (some (.Subscript (.Name x xp) (.Constant (.str "mixed") jj cp) apos)) pos.line X.env = pure false := by rfl) : VS X M M io rk B (.Assign [.Subscript (.Name x xp) (.Constant (.str "mixed") jj cp) apos] a pos) (sSrcPut_mixed j fa) := vs_srcPut put_mixed j hj hu ha hN hv hd hcd hs
theorem vs_srcPut_turn (j : Nat) {x : Str} {a : Expr} (hj : (M.contains j) = true) (hu : X.A.units + 1 < cLine) (ha : VE X M false a fa) (hN : X.N[j]? = some x := by rfl) (hv : Vis X.env.scope x := by first | exact Or.inl rfl | exact Or.inr (Or.inl rfl) | exact Or.inr (Or.inr rfl)) (hd : (x == ("__debug__" : Str)) = false := by decide) (hcd : (x == ("__classdict__" : Str)) = false := by decide)
    (hs : swapsWith a (some (.Subscript (.Name x xp) (.Constant (.str "turn") jj cp) apos)) pos.line X.env = pure false := by rfl) : VS X M M io rk B (.Assign [.Subscript (.Name x xp) (.Constant (.str "turn") jj cp) apos] a pos) (sSrcPut_turn j fa) := vs_srcPut put_turn j hj hu ha hN hv hd hcd hs
end
end Bl

set_option Elab.async false
set_option linter.all false
set_option maxRecDepth 100000
set_option maxHeartbeats 4000000
/-! Vl9: the source made; [::-1], list(range(n)), repr, sorted, dict(pairs). -/
namespace Bl
open PySem PySem.Spec PyProof.Rows L2

section
variable {X : Cx} {M : List Nat} {pos p1 p2 p3 : Pos} {k : Nat} {e : Expr} {fa : Ev}
theorem VE.lift1 {e' : Expr} {m : Bool} {t' : TE → TE} {r : V → Hp → VK → Prop} {kk : D → Option D} (hp : ∀ {t : TE}, PE X e t → PE X e' (fun σ H Q => t σ H fun x H1 => r x H1 Q)) (L : Lift1 X.K m r kk) (ha : VE X M false e fa) : VE X M m e' (op1 kk fa) := by
  obtain ⟨ta, pa, ka⟩ := ha
  refine ⟨_, hp pa, fun G H σ ρ f d ρ' Q R e hQ => ?_⟩
  unfold op1 at e
  obtain ⟨⟨dx, ρ1⟩, e1, e2⟩ := Option.bind_eq_some_iff.mp e
  obtain ⟨d', e5, e6⟩ := Option.map_eq_some_iff.mp e2
  cases e6
  refine ka G H σ ρ f dx ρ1 _ R e1 fun x G1 H1 f1 S1 R1 r1 => ?_
  refine L G1 H1 x dx d Q R1.sub r1 e5 fun v G3 H3 g r3 => ?_
  exact hQ v G3 H3 f1 (S1.trans (g.step M f1)) (R1.grow g) (res_back S1 R1 r3)
/-- xs[::-1] -/
def kRevL : D → Option D | .lst ds => some (.lst ds.reverse) | _ => none
theorem l_revL {K : PySem.W.Frag} : Lift1 K true (fun x H Q => ∃ a xs, x = .ref a ∧ SqL K H a xs ∧ ∀ p, H p = none → Q (.ref p) (upd H p (.lst xs.reverse))) kRevL := by
  intro G H x dx d Q s hx e hQ
  unfold kRevL at e
  split at e
  · cases e
    obtain ⟨a, vs, rfl, ha, ra⟩ := hx.lst_inv
    refine ⟨a, vs, rfl, .inl (.inl (s _ _ ha)), fun p hp => ?_⟩
    obtain ⟨g, r⟩ := new_lst s ra.reverse hp
    exact hQ _ _ _ g r
  · cases e
theorem ve_revL (ha : VE X M false e fa) : VE X M true (.Subscript e (.Slice none none (some (.UnaryOp .USub (.Constant (.int 1) k p1) p2)) p3) pos) (op1 kRevL fa) :=
  VE.lift1 (t' := id) (fun h => pe_revL h) l_revL ha
/-- list(range(n)) -/
def kListRg : D → Option D | .int n => if n ≤ 1000000 ∧ -1000000 ≤ n then some (.lst (rangeD 0 n)) else none | _ => none
theorem FzA.range {K : PySem.W.Frag} {G : Hp} (lo : Int) : ∀ l : List Nat, FzA K G (l.map fun i => V.int (lo + (i : Nat))) (l.map fun i => D.int (lo + (i : Nat)))
  | [] => .nil
  | n :: r => .cons (.int _) (FzA.range lo r)
theorem ve_listRg {q q2 rp lp : Pos} (hm : X.mg "list" = none) (hm2 : X.mg "range" = none) (hc : X.calm = true) (hg : Gl X "list") (hg2 : Gl X "range") (ha : VE X M false e fa) (na : starEach [e] X.env = (false, eval e X.env) :: starEach [] X.env := by rfl)
    (na2 : starEach [.Call (.Name "range" rp) [e] [] q] X.env = (false, eval (.Call (.Name "range" rp) [e] [] q) X.env) :: starEach [] X.env := by rfl) : VE X M true (.Call (.Name "list" lp) [.Call (.Name "range" rp) [e] [] q] [] pos) (op1 kListRg fa) := by
  obtain ⟨ta, pa, ka⟩ := ha
  refine ⟨_, pe_listRg hc hg hm (prg_1 hg2 hm2 pa na) na2, fun G H σ ρ f d ρ' Q R e hQ => ?_⟩
  unfold op1 at e
  obtain ⟨⟨dx, ρ1⟩, e1, e2⟩ := Option.bind_eq_some_iff.mp e
  obtain ⟨d', e5, e6⟩ := Option.map_eq_some_iff.mp e2
  cases e6
  refine ka G H σ ρ f dx ρ1 _ R e1 fun x G1 H1 f1 S1 R1 r1 => ?_
  simp only at e5
  unfold kListRg at e5
  split at e5
  · rename_i n
    split at e5
    · rename_i hn
      cases e5
      cases Fz.int_inv r1
      refine ⟨n, rfl, ⟨by omega, by omega, by omega, by omega, by omega⟩, fun p hp => ?_⟩
      obtain ⟨g, r⟩ := new_lst (vs := rgV 0 n) (ds := rangeD 0 n) R1.sub (FzA.range 0 _) hp
      exact hQ _ _ _ f1 (S1.trans (g.step M f1)) (R1.grow g) (res_back S1 R1 r)
    · cases e5
  · cases e5
end

/-! ### repr -/
def kRepr : D → Option D
  | .int i => if i.natAbs < 2 ^ 64 then some (.str (toString i)) else none
  | .tup xs => if (D.tup xs).isd && (D.tup xs).py.showable && !(D.tup xs).py.hasDict && decide ((D.tup xs).py.depth ≤ 50) && (D.tup xs).py.leavesShort 13 && decide ((D.tup xs).py.bulk ≤ 2 ^ 20) then some (.str (D.tup xs).py.shown) else none
  | .lst xs => if (D.lst xs).isd && (D.lst xs).py.showable && !(D.lst xs).py.hasDict && decide ((D.lst xs).py.depth ≤ 50) && (D.lst xs).py.leavesShort 13 && decide ((D.lst xs).py.bulk ≤ 2 ^ 20) then some (.str (D.lst xs).py.shown) else none
  | _ => none
def rRepr (K : PySem.W.Frag) : List V → Hp → VK → Prop := fun xs H Q => (∃ i, xs = [.int i] ∧ i.natAbs < 2 ^ 64 ∧ Q (.str (toString i)) H) ∨ ∃ (a : Addr) (d : PyData), xs = [.ref a] ∧ Dp K H (.ref a) d ∧ d.showable = true ∧ d.hasDict = false ∧ d.depth ≤ 50 ∧ d.shown.length ≤ sizeLine ∧ Q (.str d.shown) H
theorem call_reprD {X : Cx} {k : Nat} (hr : RoomG k X.A) : CallR X (.builtin "repr") (rRepr X.K) := by
  intro pins s σ H xs us Q I r h
  rcases h with ⟨i, rfl, hi, q⟩ | ⟨a, d, rfl, hd, h1, h2, h3, h4, q⟩
  · refine SkE.call_repr_int pins s σ H [.int i] us Q I r ⟨i, rfl, ?_, q⟩
    by_cases z : i.natAbs = 0
    · rw [z]; decide
    · have : i.natAbs.log2 < 64 := (Nat.log2_lt z).mpr hi
      omega
  · obtain ⟨u, rfl, ru⟩ := vals1 r
    obtain ⟨as, hrd⟩ := Dp.reads I d _ _ hd ru
    obtain rfl : u = Value.ref a := ru
    refine repr_of_reads' hrd h1 (fun z => by rw [h2] at z; cases z) hr.gd ?_ (fun _ _ e => e) (fun h' u tk hk => ⟨.str _, H, I.kept (t' := tk) hk, ⟨u, rfl⟩, q⟩) h4
    have := hr.hu64
    omega
theorem shown_fits {d : PyData} (h1 : d.leavesShort 13 = true) (h2 : d.bulk ≤ 2 ^ 20) : d.shown.length ≤ sizeLine := PyData.shown_fits_bulk (B := 13) (by decide) (by decide) h1 h2
theorem l_reprD {K : PySem.W.Frag} : Lift1 K false (fun x H Q => rRepr K [x] H Q) kRepr := by
  intro G H x dx d Q s hx e hQ
  unfold kRepr at e
  split at e
  · split at e
    · rename_i h
      cases e
      cases Fz.int_inv hx
      exact .inl ⟨_, rfl, h, hQ _ G H (.refl s) (.str _)⟩
    · cases e
  · split at e
    · rename_i xs h
      cases e
      simp only [Bool.and_eq_true, decide_eq_true_eq, Bool.not_eq_true'] at h
      obtain ⟨⟨⟨⟨⟨h1, h2⟩, h3⟩, h4⟩, h5⟩, h6⟩ := h
      have hd := dp_of s hx h1
      obtain ⟨a, vs, rfl, _, _⟩ := hx.tup_inv
      exact .inr ⟨a, _, rfl, hd, h2, h3, h4, shown_fits h5 h6, hQ _ G H (.refl s) (.str _)⟩
    · cases e
  · split at e
    · rename_i xs h
      cases e
      simp only [Bool.and_eq_true, decide_eq_true_eq, Bool.not_eq_true'] at h
      obtain ⟨⟨⟨⟨⟨h1, h2⟩, h3⟩, h4⟩, h5⟩, h6⟩ := h
      have hd := dp_of s hx h1
      obtain ⟨a, vs, rfl, _, _⟩ := hx.lst_inv
      exact .inr ⟨a, _, rfl, hd, h2, h3, h4, shown_fits h5 h6, hQ _ G H (.refl s) (.str _)⟩
    · cases e
  · cases e
section
variable {X : Cx} {M : List Nat} {pos p : Pos} {e : Expr} {fa : Ev}
theorem ve_repr {k : Nat} (hr : RoomG k X.A) (hm : X.mg "repr" = none) (hg : Gl X "repr") (ha : VE X M false e fa) (he : starEach [e] X.env = (false, eval e X.env) :: starEach [] X.env := by rfl) : VE X M false (.Call (.Name "repr" p) [e] [] pos) (op1 kRepr fa) :=
  VE.lift1 (t' := id) (r := fun x H Q => rRepr X.K [x] H Q) (fun h => pe_callB (call_reprD hr) hg hm (by decide +kernel) (pa_cons h pa_nil he) (by decide) (by decide) he (by rfl)) l_reprD ha
end

/-! ### the source is made -/
def fSrcNew (fa f1 f2 f3 : Ev) : Ev := fun ρ => (fa ρ).bind fun p => (f1 p.2).bind fun q1 => (f2 q1.2).bind fun q2 => (f3 q2.2).bind fun q3 => match p.1, q1.1, q2.1, q3.1 with
  | .lst ds, .int l, .int m, .int t => (intsD ds).map fun c => (.src c l m t, q3.2)
  | _, _, _, _ => none
section
variable {X : Cx} {M : List Nat} {pos p1 p2 p3 p4 : Pos} {j1 j2 j3 j4 : Nat} {a b c e : Expr} {fa f1 f2 f3 : Ev}
theorem ve_srcNew (ha : VE X M true a fa) (h1 : VE X M false b f1) (h2 : VE X M false c f2) (h3 : VE X M false e f3) :
    VE X M true (.Dict [some (.Constant (.str "cells") j1 p1), some (.Constant (.str "left") j2 p2), some (.Constant (.str "mixed") j3 p3), some (.Constant (.str "turn") j4 p4)] [a, b, c, e] pos) (fSrcNew fa f1 f2 f3) := by
  obtain ⟨ta, pa, ka⟩ := ha
  obtain ⟨tb, pb, kb⟩ := h1
  obtain ⟨tc, pc, kc⟩ := h2
  obtain ⟨te, pe, ke⟩ := h3
  refine ⟨_, pe_disp (pps_cons pe_str pa (pps_cons pe_str pb (pps_cons pe_str pc (pps_cons pe_str pe pps_nil)))) rfl rfl (by simp) (by simp), fun G H σ ρ f d ρ' Q R e hQ p hp => ?_⟩
  obtain ⟨⟨da, ρ1⟩, e1, x1⟩ := Option.bind_eq_some_iff.mp e
  obtain ⟨⟨db, ρ2⟩, e2, x2⟩ := Option.bind_eq_some_iff.mp x1
  obtain ⟨⟨dc, ρ3⟩, e3, x3⟩ := Option.bind_eq_some_iff.mp x2
  obtain ⟨⟨de, ρ4⟩, e4, x4⟩ := Option.bind_eq_some_iff.mp x3
  clear e x1 x2 x3
  have hG : G p = none := sub_none R.sub hp
  have hO : ¬ Ow M f p := fun ⟨i, hi, hb⟩ => by
    obtain ⟨_, _, _, _, o⟩ := R.ow i hi
    exact (o.here p hb).1 hp
  have R0 := R.free (o := .dK []) hG hO
  refine ka G _ σ ρ f da ρ1 _ R0 e1 fun va G1 H1 g1 S1 R1 r1 => ?_
  refine kb G1 H1 σ ρ1 g1 db ρ2 _ R1 e2 fun vb G2 H2 g2 S2 R2 r2 => ?_
  refine kc G2 H2 σ ρ2 g2 dc ρ3 _ R2 e3 fun vc G3 H3 g3 S3 R3 r3 => ?_
  refine ke G3 H3 σ ρ3 g3 de ρ4 _ R3 e4 fun ve G4 H4 g4 S4 R4 r4 => ?_
  have S04 := ((S1.trans S2).trans S3).trans S4
  obtain ⟨z1, z2, z3⟩ := keepL (K := X.K) (by intro _ z; cases z) S04 upd_same hG hO
  simp only at x4
  split at x4
  · rename_i ds l m t
    obtain ⟨cs, e5, e6⟩ := Option.map_eq_some_iff.mp x4
    cases e6
    cases Fz.int_inv r2
    cases Fz.int_inv r3
    cases Fz.int_inv r4
    obtain ⟨fp, o, hfp⟩ := r1
    have S14 := (S2.trans S3).trans S4
    have o4 := o.step S14 fun b hb => (hfp b hb).1
    cases o4 with
    | @lst q vs _ k1 k2 kr =>
      have hint := ints_of kr e5
      subst hint
      obtain ⟨w1, w2⟩ := hfp q (by simp)
      have hqp : p ≠ q := fun z => by
        subst z
        rcases w2 with w | w
        · exact hO w
        · rw [upd_same] at w; cases w
      have hq0 : Ow M f q ∨ H q = none := by
        rcases w2 with w | w
        · exact .inl w
        · rw [upd_ne (Ne.symm hqp)] at w; exact .inr w
      refine ⟨z1, [(.inr "cells", .ref q), (.inr "left", .int l), (.inr "mixed", .int m), (.inr "turn", .int t)], rfl, by simp, ?_⟩
      have hk : mergeK [] [(.inr "cells", .ref q), (.inr "left", .int l), (.inr "mixed", .int m), (.inr "turn", .int t)] = srcK q l m t := by first | rfl | simp [mergeK, putK, srcK]
      rw [hk]
      have S5 : Step M f G H M g4 G4 (upd H4 p (.dK (srcK q l m t))) := by
        refine ⟨S04.sub, fun b hb => ?_, fun b u e n => ?_, fun b e => ?_, fun b w => ?_⟩
        · rcases S04.new b hb with w | w | w
          · exact .inl w
          · by_cases y : b = p
            · subst y
              rcases w with w | ⟨xs, w⟩
              · rw [upd_same] at w; cases w
              · rw [upd_same] at w; cases w
            · refine .inr (.inl ?_)
              rcases w with w | ⟨xs, w⟩
              · rw [upd_ne y] at w; exact .inl w
              · rw [upd_ne y] at w; exact .inr ⟨xs, w⟩
          · exact .inr (.inr w)
        · have y : b ≠ p := fun y => by rw [y, hp] at e; cases e
          rw [upd_ne y]
          exact S04.keep b u (by rw [upd_ne y]; exact e) n
        · have y : b ≠ p := fun y => e (y ▸ hp)
          rw [upd_ne y]
          exact S04.live b (by rw [upd_ne y]; exact e)
        · rcases S04.own b w with w | w
          · exact .inl w
          · by_cases y : b = p
            · subst y; rw [upd_same] at w; cases w
            · rw [upd_ne y] at w; exact .inr w
      refine hQ _ G4 _ g4 S5 (R4.free z2 z3) ⟨[p, q], .src upd_same (by rw [upd_ne (Ne.symm hqp)]; exact k1) z2 k2 hqp, fun b hb => ?_⟩
      simp at hb
      rcases hb with hb | hb
      · subst hb; exact ⟨z3, .inr hp⟩
      · subst hb
        refine ⟨fun w => ?_, hq0⟩
        rcases S14.own b w with y | y
        · exact w1 y
        · exact (o.here b (by simp)).1 y
  · cases x4
end

/-! ### sorted of ints -/
def insI (x : Int) : List Int → List Int
  | [] => [x]
  | y :: r => if x ≤ y then x :: y :: r else y :: insI x r
def sortI : List Int → List Int
  | [] => []
  | x :: r => insI x (sortI r)
theorem insI_perm (x : Int) : ∀ l, (insI x l).Perm (x :: l)
  | [] => .refl _
  | y :: r => by
    unfold insI
    split
    · exact .refl _
    · exact ((insI_perm x r).cons y).trans (.swap x y r)
theorem sortI_perm : ∀ l, (sortI l).Perm l
  | [] => .refl _
  | x :: r => (insI_perm x _).trans ((sortI_perm r).cons x)
theorem insI_sorted (x : Int) : ∀ l : List Int, l.Pairwise (· ≤ ·) → (insI x l).Pairwise (· ≤ ·)
  | [], _ => by simp [insI]
  | y :: r, h => by
    unfold insI
    rw [List.pairwise_cons] at h
    split
    · rename_i hxy
      exact List.pairwise_cons.mpr ⟨fun z hz => by
        rcases List.mem_cons.mp hz with q | q
        · rw [q]; exact hxy
        · exact Int.le_trans hxy (h.1 z q), List.pairwise_cons.mpr h⟩
    · rename_i hxy
      refine List.pairwise_cons.mpr ⟨fun z hz => ?_, insI_sorted x r h.2⟩
      rcases List.mem_cons.mp ((insI_perm x r).mem_iff.mp hz) with q | q
      · rw [q]; omega
      · exact h.1 z q
theorem sortI_sorted : ∀ l, (sortI l).Pairwise (· ≤ ·)
  | [] => .nil
  | x :: r => insI_sorted x _ (sortI_sorted r)
theorem sorted_one {l m : List Int} (hp : l.Perm m) (h : l.Pairwise (· ≤ ·)) : l = sortI m :=
  (hp.trans (sortI_perm m).symm).eq_of_pairwise (le := fun a b : Int => a ≤ b) (fun a b _ _ h1 h2 => Int.le_antisymm h1 h2) h (sortI_sorted m)
def kSorted : List D → Option D | [.lst ds] => (intsD ds).map fun ns => .lst ((sortI ns).map D.int) | [.tup ds] => none | _ => none
theorem l_sorted {K : PySem.W.Frag} : LiftN K true (rSortedI K) kSorted := by
  intro G H xs ds d Q s h e hQ
  unfold kSorted at e
  split at e
  · obtain ⟨ns, e1, e2⟩ := Option.map_eq_some_iff.mp e
    cases e2
    obtain ⟨v, rfl, h1⟩ := h.one
    obtain ⟨a, vs, rfl, ha, ra⟩ := h1.lst_inv
    have := ints_of ra e1
    subst this
    refine ⟨a, ns, rfl, .inl (.inl (s _ _ ha)), fun ns' p hp hs hn => ?_⟩
    have := sorted_one hp hs
    subst this
    obtain ⟨g, r⟩ := new_lst s (FzA.ints (sortI ns)) hn
    exact hQ _ _ _ g r
  · cases e
  · cases e
end Bl

set_option Elab.async false
set_option linter.all false
set_option maxRecDepth 100000
set_option maxHeartbeats 4000000
/-! Vl10: a comprehension over a frozen dict's keys. -/
namespace Bl
open PySem PySem.Spec PyProof.Rows L2

def FzMap (K : PySem.W.Frag) (G G' : Hp) : Prop := ∀ v d, Fz K G v d → Fz K G' v d
theorem FzMap.all {K : PySem.W.Frag} {G G' : Hp} (m : FzMap K G G') : ∀ {vs : List V} {ds : List D}, FzA K G vs ds → FzA K G' vs ds
  | _, _, .nil => .nil
  | _, _, .cons h t => .cons (m _ _ h) (FzMap.all m t)
/-- what keeps tuples, lists and what dicts read -/
structure Lk (K : PySem.W.Frag) (G G' : Hp) : Prop where
  t : ∀ b xs, G b = some (.tup xs) → G' b = some (.tup xs)
  l : ∀ b xs, G b = some (.lst xs) → G' b = some (.lst xs)
  rd : ∀ b u, (∀ o w, u ≠ .frz o w) → Rd G b u → Rd G' b u
  sq : ∀ b xs, SqL K G b xs → SqL K G' b xs
theorem Lk.dk {K : PySem.W.Frag} {G G' : Hp} (s : Lk K G G') {b : Addr} {kvs : List (Key × V)} (h : Rd G b (.dK kvs)) : Rd G' b (.dK kvs) := s.rd _ _ (fun _ _ z => nomatch z) h
theorem Lk.dt {K : PySem.W.Frag} {G G' : Hp} (s : Lk K G G') {b : Addr} {kvs : List (List Key × V)} (h : Rd G b (.dT kvs)) : Rd G' b (.dT kvs) := s.rd _ _ (fun _ _ z => nomatch z) h
mutual
theorem Fz.lk {K : PySem.W.Frag} {G G' : Hp} (s : Lk K G G') : ∀ {v : V} {d : D}, Fz K G v d → Fz K G' v d
  | _, _, .non => .non
  | _, _, .bl b => .bl b
  | _, _, .int i => .int i
  | _, _, .str x => .str x
  | _, _, .tup q r => .tup (s.t _ _ q) (FzA.lk s r)
  | _, _, .lst q r => .lst (s.l _ _ q) (FzA.lk s r)
  | _, _, .scr q => .scr (s.sq _ _ q)
  | _, _, .dic q e r => .dic (s.dk q) e (FzA.lk s r)
  | _, _, .dit q e r => .dit (s.dt q) e (FzA.lk s r)
  | _, _, .src => .src
theorem FzA.lk {K : PySem.W.Frag} {G G' : Hp} (s : Lk K G G') : ∀ {vs : List V} {ds : List D}, FzA K G vs ds → FzA K G' vs ds
  | _, _, .nil => .nil
  | _, _, .cons h t => .cons (Fz.lk s h) (FzA.lk s t)
end
theorem Own.map {K : PySem.W.Frag} {G H G' H' : Hp} {v : V} {d : D} {fp : List Addr} (o : Own K G H v d fp) (m : FzMap K G G') (hH : ∀ b, b ∈ fp → H' b = H b) (hG : ∀ b, b ∈ fp → G' b = none) : Own K G' H' v d fp := by
  cases o with
  | lst h1 h2 r => exact .lst ((hH _ (by simp)).trans h1) (hG _ (by simp)) (m.all r)
  | dic h1 h2 e r => exact .dic ((hH _ (by simp)).trans h1) (hG _ (by simp)) e (m.all r)
  | dit h1 h2 e r => exact .dit ((hH _ (by simp)).trans h1) (hG _ (by simp)) e (m.all r)
  | src h1 h2 h3 h4 e => exact .src ((hH _ (by simp)).trans h1) ((hH _ (by simp)).trans h2) (hG _ (by simp)) (hG _ (by simp)) e
theorem lk_of {K : PySem.W.Frag} {G G' : Hp} (t : ∀ b xs, G b = some (.tup xs) → G' b = some (.tup xs)) (l : ∀ b xs, G b = some (.lst xs) → G' b = some (.lst xs)) (rd : ∀ b u, (∀ o w, u ≠ .frz o w) → Rd G b u → Rd G' b u) : Lk K G G' :=
  ⟨t, l, rd, fun b xs h => h.imp (rd _ _ fun _ _ z => nomatch z) id⟩
theorem lk_lock {K : PySem.W.Frag} {G : Hp} {c : Addr} {od : Obj} {u : HO} (hG : G c = some u) (hd : (∃ kvs, u = .dK kvs) ∨ ∃ kvs, u = .dT kvs) : Lk K G (upd G c (.frz od u)) := by
  have nt : ∀ xs, u ≠ .tup xs := fun xs z => by rcases hd with ⟨_, h⟩ | ⟨_, h⟩ <;> rw [h] at z <;> cases z
  have nl : ∀ xs, u ≠ .lst xs := fun xs z => by rcases hd with ⟨_, h⟩ | ⟨_, h⟩ <;> rw [h] at z <;> cases z
  have nf : ∀ o w, u ≠ .frz o w := fun o w z => by rcases hd with ⟨_, h⟩ | ⟨_, h⟩ <;> rw [h] at z <;> cases z
  refine lk_of (fun b xs q => ?_) (fun b xs q => ?_) fun b w hw q => ?_
  · rw [upd_ne (fun z => by rw [z, hG] at q; exact nt xs (Option.some.inj q))]; exact q
  · rw [upd_ne (fun z => by rw [z, hG] at q; exact nl xs (Option.some.inj q))]; exact q
  · by_cases z : b = c
    · subst z
      rcases q with q | ⟨o, q⟩
      · rw [hG] at q
        cases q
        exact .inr ⟨od, upd_same⟩
      · rw [hG] at q
        exact absurd (Option.some.inj q) (nf _ _)
    · rcases q with q | ⟨o, q⟩
      · exact .inl (by rw [upd_ne z]; exact q)
      · exact .inr ⟨o, by rw [upd_ne z]; exact q⟩
theorem lk_unlock {K : PySem.W.Frag} {G : Hp} {c : Addr} {od : Obj} {u : HO} (hG : G c = some (.frz od u)) : Lk K G (upd G c u) := by
  refine lk_of (fun b xs q => ?_) (fun b xs q => ?_) fun b w hw q => ?_
  · rw [upd_ne (fun z => by rw [z, hG] at q; cases q)]; exact q
  · rw [upd_ne (fun z => by rw [z, hG] at q; cases q)]; exact q
  · by_cases z : b = c
    · subst z
      rcases q with q | ⟨o, q⟩
      · rw [hG] at q
        exact absurd (Option.some.inj q).symm (hw _ _)
      · rw [hG] at q
        cases q
        exact .inl upd_same
    · rcases q with q | ⟨o, q⟩
      · exact .inl (by rw [upd_ne z]; exact q)
      · exact .inr ⟨o, by rw [upd_ne z]; exact q⟩
/-- the object at c is another one, all that is read stays -/
theorem Rel.swap {K : PySem.W.Frag} {M : List Nat} {G H : Hp} {σ : L2.St} {ρ : Rho} {f : Nat → List Addr} {c : Addr} {u : HO} (R : Rel K M G H σ ρ f) (hc : G c ≠ none) (m : FzMap K G (upd G c u)) : Rel K M (upd G c u) (upd H c u) σ ρ f := by
  refine ⟨same_upd R.sub, R.len, fun i d e hi => ?_, fun i hi => ?_, R.dis⟩
  · rcases R.fz i d e hi with z | ⟨v, h1, h2⟩
    · exact .inl z
    · exact .inr ⟨v, h1, m _ _ h2⟩
  · obtain ⟨d, v, h1, h2, o⟩ := R.ow i hi
    have ne : ∀ b, b ∈ f i → b ≠ c := fun b hb z => hc (z ▸ (o.here b hb).2)
    exact ⟨d, v, h1, h2, o.map m (fun b hb => upd_ne (ne b hb)) fun b hb => by rw [upd_ne (ne b hb)]; exact (o.here b hb).2⟩
theorem Step.swap {M M' : List Nat} {f f' : Nat → List Addr} {G H G' H' : Hp} {c : Addr} {u w : HO} (hG : G c = some u) (hH : H c = some u) (S : Step M f (upd G c w) (upd H c w) M' f' G' H') : Step M f G H M' f' (upd G' c u) (upd H' c u) := by
  refine ⟨fun b o e => ?_, fun b hb => ?_, fun b o e n => ?_, fun b e => ?_, fun b hb => ?_⟩
  · by_cases q : b = c
    · subst q; rw [upd_same, ← hG]; exact e
    · rw [upd_ne q]; exact S.sub b o (by rw [upd_ne q]; exact e)
  · by_cases q : b = c
    · subst q; exact .inl (by rw [hG]; simp)
    · rw [upd_ne q] at hb
      rcases S.new b hb with z | (z | ⟨xs, z⟩) | z
      · rw [upd_ne q] at z; exact .inl z
      · rw [upd_ne q] at z; exact .inr (.inl (.inl z))
      · rw [upd_ne q] at z; exact .inr (.inl (.inr ⟨xs, z⟩))
      · exact .inr (.inr z)
  · by_cases q : b = c
    · subst q; rw [upd_same, ← hH]; exact e
    · rw [upd_ne q]; exact S.keep b o (by rw [upd_ne q]; exact e) n
  · by_cases q : b = c
    · subst q; rw [upd_same]; simp
    · rw [upd_ne q]; exact S.live b (by rw [upd_ne q]; exact e)
  · rcases S.own b hb with z | z
    · exact .inl z
    · by_cases q : b = c
      · subst q; rw [upd_same] at z; cases z
      · rw [upd_ne q] at z; exact .inr z
/-- a dict's keys as data -/
def keyDat : Key → D
  | .inl i => .int i
  | .inr s => .str s
theorem fz_key {K : PySem.W.Frag} {G : Hp} (k : Key) : Fz K G (kV k) (keyDat k) := by
  cases k with
  | inl i => exact .int i
  | inr s => exact .str s
def iKeysD (i : Nat) : Ea := fun ρ => (slot i ρ).bind fun d => match d with
  | .dic kvs => some (kvs.map fun kv => keyDat kv.1, ρ)
  | _ => none
theorem walks_k {K : PySem.W.Frag} {G0 : Hp} {c : Addr} {o : Obj} {kvs : List (Key × V)} {ds : List (Key × D)} (h : G0 c = some (.frz o (.dK kvs))) (e : kvs.map (·.1) = ds.map (·.1)) : Walks K (Itk c o kvs) G0 (ds.map fun kv => keyDat kv.1) := by
  intro i G H s1 s2
  have hH := s2 _ _ (s1 _ _ h)
  have hl : kvs.length = ds.length := by simpa using congrArg List.length e
  refine ⟨fun q => ⟨hH, by rw [List.length_map] at q; omega⟩, fun d q => ?_⟩
  have hi : i < ds.length := by simpa using (List.getElem?_eq_some_iff.mp q).1
  refine ⟨⟨hH, by omega⟩, fun x H' ⟨e1, k, v, e2, e3⟩ => ?_⟩
  subst e1 e3
  refine ⟨G, .refl s2, ?_⟩
  have h2 : (kvs.map (·.1))[i]? = some k := by rw [List.getElem?_map, e2]; rfl
  rw [e, List.getElem?_map] at h2
  rw [List.getElem?_map] at q
  obtain ⟨p, h3, h4⟩ := Option.map_eq_some_iff.mp h2
  rw [h3] at q
  cases q
  show Fz K G (kV k) (keyDat p.1)
  rw [h4]
  exact fz_key k
theorem PE.or {X : Cx} {e : Expr} {t u : TE} (h : PE X e t) (h' : PE X e u) : PE X e (fun σ H Q => t σ H Q ∨ u σ H Q) := ⟨fun pins s σ H Q I q => q.elim (h.run pins s σ H Q I) (h'.run pins s σ H Q I)⟩
section
variable {X : Cx} {M : List Nat} {fg : Eg} {ft : Et} {fe : Ev} {ts : List Nat} {elt tg : Expr} {ifs : List Expr} {scope : Scope} {own : List (Str × Nat)} {pos np : Pos}
theorem ve_lcKeys (i : Nat) {x : Str} (hc : X.calm = true) (hN : X.N.Nodup) (ok : blkC X.N X.env.scope scope own = true) (hM : (own.map (·.2)).all (fun i => !M.contains i) = true) (hts : ts.all (fun i => (own.map (·.2)).contains i) = true) (hiM : (M.contains i) = false)
    (hg : ∀ (s : Shared) (H : Hp) (C : Addr) (cl : List (Str × Addr)) (fp : List Addr), VG (X.blk s H scope (compEnvC scope cl C X.env) fp) M ts tg fg) (ht : ∀ (s : Shared) (H : Hp) (C : Addr) (cl : List (Str × Addr)) (fp : List Addr), VTs (X.blk s H scope (compEnvC scope cl C X.env) fp) M ifs ft)
    (he : ∀ (s : Shared) (H : Hp) (C : Addr) (cl : List (Str × Addr)) (fp : List Addr), VE (X.blk s H scope (compEnvC scope cl C X.env) fp) M false elt fe) (hs : ∀ y, foldedSetIterable (.Name x np) X.env y = pure y := by intro _; rfl)
    (hNi : X.N[i]? = some x := by rfl) (hv : Vis X.env.scope x := by first | exact Or.inl rfl | exact Or.inr (Or.inl rfl) | exact Or.inr (Or.inr rfl)) (hd : (x == ("__debug__" : Str)) = false := by decide) (hcd : (x == ("__classdict__" : Str)) = false := by decide) :
    VE X M true (.ListComp elt [⟨tg, .Name x np, ifs, 0⟩] scope pos) (fLc (iKeysD i) fg ft fe (own.map (·.2))) := by
  have pe0 := pe_lc hc hN (pi_keys (tg := tg) (pe_var hNi hv hd hcd)) (blkOk_by ok) (pos := pos) (g := gOf X.K M ts fg) (tt := tTOf X.K M ft) (te := tOf X.K M false fe) hg ht (fun s H C cl fp => (he s H C cl fp).pe) hs
  refine ⟨_, PE.or (pe_lock pe0) pe0, fun G H σ ρ f d ρ' Q R e hQ => ?_⟩
  have hvM : ∀ i, i ∈ own.map (·.2) → i ∉ M := fun i hi => by simpa using List.all_eq_true.mp hM i hi
  have htv : ∀ j, j ∈ ts → j ∈ own.map (·.2) := fun i hi => by simpa using List.all_eq_true.mp hts i hi
  unfold fLc at e
  obtain ⟨⟨ds, ρ1⟩, e1, e2⟩ := Option.bind_eq_some_iff.mp e
  obtain ⟨⟨out, ρ2⟩, e3, e4⟩ := Option.map_eq_some_iff.mp e2
  cases e4
  unfold iKeysD at e1
  obtain ⟨d0, g1, g2⟩ := Option.bind_eq_some_iff.mp e1
  split at g2
  · rename_i kds
    cases g2
    obtain ⟨g3, g4⟩ := slot_some g1
    rcases R.fz i _ g3 (by simpa using hiM) with z | ⟨v, h1, h2⟩
    · cases z
    · cases h2 with
      | @dic c kvs _ rd ek rv =>
        rcases rd with hGc | ⟨o, hGc⟩
        · -- locked first
          have hHc := R.sub _ _ hGc
          refine .inl ⟨c, .dK kvs, hHc, True.intro, fun od => ⟨_, h1, c, od, rfl, .inl ⟨kvs, upd_same, fun L hL => ?_⟩⟩⟩
          have m1 : FzMap X.K G (upd G c (.frz od (.dK kvs))) := fun v d h => Fz.lk (lk_lock hGc (.inl ⟨_, rfl⟩)) h
          have R1 := R.swap (u := .frz od (.dK kvs)) (by rw [hGc]; simp) m1
          have wk : Walks X.K (Itk c od kvs) (upd G c (.frz od (.dK kvs))) (kds.map fun kv => keyDat kv.1) := walks_k upd_same ek
          refine lc_loop hvM htv R1 wk e3 hL fun Gc Hc fc accV Sc Rf hLc hGc2 hOc ra => ?_
          have kG : Gc c = some (.frz od (.dK kvs)) := Sc.sub _ _ upd_same
          have kH : Hc c = some (.frz od (.dK kvs)) := Rf.sub _ _ kG
          refine ⟨kH, ?_⟩
          have m2 : FzMap X.K Gc (upd Gc c (.dK kvs)) := fun v d h => Fz.lk (lk_unlock kG) h
          have R2 := Rf.swap (u := .dK kvs) (by rw [kG]; simp) m2
          have hLn : L ≠ c := fun z => by rw [z, kG] at hGc2; cases hGc2
          have hHL : H L = none := by rw [upd_ne hLn] at hL; exact hL
          refine hQ _ _ _ fc (Step.swap hGc hHc Sc) R2 ⟨[L], .lst (by rw [upd_ne hLn]; exact hLc) (by rw [upd_ne hLn]; exact hGc2) (m2.all ra), fun b hb => ?_⟩
          simp at hb
          subst hb
          exact ⟨hOc, .inr hHL⟩
        · refine .inr ⟨_, h1, c, o, rfl, .inl ⟨kvs, R.sub _ _ hGc, fun L hL => ?_⟩⟩
          refine lc_loop hvM htv R (walks_k hGc ek) e3 hL fun Gc Hc fc accV Sc Rf hLc hGc2 hOc ra => ?_
          refine hQ _ Gc Hc fc Sc Rf ⟨[L], .lst hLc hGc2 ra, fun b hb => ?_⟩
          simp at hb
          subst hb
          exact ⟨hOc, .inr hL⟩
  · cases g2
end
end Bl

set_option Elab.async false
set_option linter.all false
set_option maxRecDepth 100000
set_option maxHeartbeats 4000000
/-! Vl11: sorted by abs, dicts made lists and tuples, len of dicts, dict(pairs). -/
namespace Bl
open PySem PySem.Spec PyProof.Rows L2

/-! ### sorted(d, key=abs), a dict of int keys, no two of one absolute value -/
def insA (x : Int) : List Int → List Int
  | [] => [x]
  | y :: r => if x.natAbs ≤ y.natAbs then x :: y :: r else y :: insA x r
def sortA : List Int → List Int
  | [] => []
  | x :: r => insA x (sortA r)
theorem insA_perm (x : Int) : ∀ l, (insA x l).Perm (x :: l)
  | [] => .refl _
  | y :: r => by
    unfold insA
    split
    · exact .refl _
    · exact ((insA_perm x r).cons y).trans (.swap x y r)
theorem sortA_perm : ∀ l, (sortA l).Perm l
  | [] => .refl _
  | x :: r => (insA_perm x _).trans ((sortA_perm r).cons x)
theorem insA_sorted (x : Int) : ∀ l : List Int, l.Pairwise (fun a b => a.natAbs ≤ b.natAbs) → (insA x l).Pairwise (fun a b => a.natAbs ≤ b.natAbs)
  | [], _ => by simp [insA]
  | y :: r, h => by
    unfold insA
    rw [List.pairwise_cons] at h
    split
    · rename_i hxy
      exact List.pairwise_cons.mpr ⟨fun z hz => by
        rcases List.mem_cons.mp hz with q | q
        · rw [q]; exact hxy
        · exact Nat.le_trans hxy (h.1 z q), List.pairwise_cons.mpr h⟩
    · rename_i hxy
      refine List.pairwise_cons.mpr ⟨fun z hz => ?_, insA_sorted x r h.2⟩
      rcases List.mem_cons.mp ((insA_perm x r).mem_iff.mp hz) with q | q
      · rw [q]; omega
      · exact h.1 z q
theorem sortA_sorted : ∀ l, (sortA l).Pairwise (fun a b => a.natAbs ≤ b.natAbs)
  | [] => .nil
  | x :: r => insA_sorted x _ (sortA_sorted r)
theorem abs_inj {l : List Int} (h : (l.map Int.natAbs).Nodup) : ∀ a b, a ∈ l → b ∈ l → a.natAbs = b.natAbs → a = b := by
  induction l with
  | nil => intro a b ha; cases ha
  | cons x r ih =>
    intro a b ha hb e
    rw [List.map_cons, List.nodup_cons] at h
    rcases List.mem_cons.mp ha with p | p <;> rcases List.mem_cons.mp hb with q | q
    · rw [p, q]
    · exact absurd (List.mem_map.mpr ⟨b, q, by rw [← e, p]⟩) h.1
    · exact absurd (List.mem_map.mpr ⟨a, p, by rw [e, q]⟩) h.1
    · exact ih h.2 a b p q e
theorem sortA_one {l m : List Int} (hn : (m.map Int.natAbs).Nodup) (hp : l.Perm m) (h : l.Pairwise (fun a b => a.natAbs ≤ b.natAbs)) : l = sortA m :=
  (hp.trans (sortA_perm m).symm).eq_of_pairwise (le := fun a b : Int => a.natAbs ≤ b.natAbs) (fun a b ha hb h1 h2 => abs_inj hn a b (hp.mem_iff.mp ha) ((sortA_perm m).mem_iff.mp hb) (Nat.le_antisymm h1 h2)) h (sortA_sorted m)
theorem merge_abs {m : List Int} (hn : (m.map Int.natAbs).Nodup) : m.mergeSort (PySem.W.dataLe false fun b : Int => .int (if b < 0 then -b else b)) = sortA m := by
  rw [PySem.W.dataLe_int]
  refine sortA_one hn (List.mergeSort_perm _ _) ?_
  have h := List.pairwise_mergeSort (le := fun a b : Int => decide ((if a < 0 then -a else a) ≤ (if b < 0 then -b else b))) (fun a b c h1 h2 => by
    rw [decide_eq_true_eq] at *
    exact Int.le_trans h1 h2) (fun a b => by
    simp only [Bool.or_eq_true, decide_eq_true_eq]
    exact Int.le_total _ _) m
  refine h.imp fun {a b} q => ?_
  rw [decide_eq_true_eq] at q
  split at q <;> split at q <;> omega
section
variable {prog : Program} {w : World} {A : Around} {E : Value → Shared → Prop} {s : Shared} {T : String} {r d : Addr} {n : Nat} {P : Nat → Value → Prop} {OK : Heap → Prop}
theorem eachI_of {ns : List Int} : ∀ {vs : List Value}, vs.length = ns.length → (∀ (j : Nat) (v : Value) (k : Int), vs[j]? = some v → ns[j]? = some k → ∃ t, v = .int k t) → PySem.W.EachIs (fun v (k : Int) => ∃ t, v = Value.int k t) vs ns := by
  induction ns with
  | nil =>
    intro vs h _
    cases vs with
    | nil => exact .nil
    | cons _ _ => simp at h
  | cons k ks ih =>
    intro vs h q
    cases vs with
    | nil => simp at h
    | cons v vs => exact .cons (q 0 v k rfl rfl) (ih (by simpa using h) fun j u l h1 h2 => q (j + 1) u l (by simpa using h1) (by simpa using h2))
theorem eachI_out {ns : List Int} {vs : List Value} (h : PySem.W.EachIs (fun v (k : Int) => ∃ t, v = Value.int k t) vs ns) : Vals (ns.map V.int) vs := by
  induction h with
  | nil => exact .nil
  | cons a _ ih => exact .cons a ih
/-- the items gathered, then sorted by abs -/
theorem sorted_abs_src (hh : A.handled = none) (K : PySem.W.KdlSrc prog w T r d n P OK) (hok : OK s.heap) (hn : n ≤ sizeLine) {ns : List Int} (hl : ns.length = n) (hP : ∀ (i : Nat) (v : Value) (k : Int), P i v → ns[i]? = some k → ∃ t, v = .int k t) (hu : A.units + 64 < cLine) {Q : Value → Shared → Prop}
    (h : ∀ (D : Addr) (out : List Value) (c : Nat) (g h' : Heap) (tk : Nat), (∀ b o, s.heap.get? b = some o → g.get? b = some o) → D = g.objs.size → (∀ b o, g.get? b = some o → h'.get? b = some o) → h'.get? D = some (seqObj "list" (List.toArray out) c) → Vals ((ns.mergeSort (PySem.W.dataLe false fun b : Int => .int (if b < 0 then -b else b))).map V.int) out → Q (.ref D) { s with heap := h', toks := tk }) :
    wpAny (model prog w) A (call (.builtin "sorted") [.ref r] [(Str.ofString "key", .builtin "abs")]) Q E s := by
  refine call_function_entry_kw kind_sorted plain_sorted entry_sorted (ksk_s1 _ _) ?_
  unfold Builtin.«sorted»
  refine wpAny_bind (m := checkCount "sorted" 1 1 _) (wpAny_pure ?_)
  refine wpAny_bind (PySem.W.kdu_collect (A := A.in1) K hh hok hn fun g tg acc keep items => ?_)
  have lenA : acc.toList.length = ns.length := by rw [Array.length_toList, items.1, hl]
  have lineA : acc.toList.length ≤ sizeLine := by rw [lenA, hl]; exact hn
  refine wpAny_bind (wpAny_newList ?_ lineA)
  have objL : (g.push (seqObj "list" acc.toList.toArray 0)).get? g.objs.size = some (seqObj "list" acc.toList.toArray 0) := Heap.get?_push_size _ rfl
  have each := eachI_of lenA fun j v k h1 h2 => hP j v k (items.2 j v (by rw [← Array.getElem?_toList]; exact h1)) h2
  refine wpAny_bind (wpAny_holding (wpAny_call_entry_kw slot_list_sort ⟨_, objL, rfl⟩ entry_list_sort ?sorts (ksk_l1 _ _)))
  case sorts =>
    rw [ksk_t4]
    refine PySem.W.keyH_tree (b := false) (kz := ns.map fun b : Int => PyData.int (if b < 0 then -b else b)) (s := { s with heap := g.push (seqObj "list" acc.toList.toArray 0), toks := tg }) objL (by rw [List.length_map]; exact lenA.symm) lineA ?al ?so ?dp
      (PySem.W.keyH_turns (s := { s with heap := g.push (seqObj "list" acc.toList.toArray 0), toks := tg }) (k := fun b : Int => PyData.int (if b < 0 then -b else b)) each fun v k hv _ hp tk _ => ?tn) fun hp tk out c kp hD ko => ⟨_, rfl, wpAny_pure ⟨_, rfl, ?fin⟩⟩
    case al =>
      intro x hx y hy
      obtain ⟨i, _, rfl⟩ := List.mem_map.mp hx
      obtain ⟨j, _, rfl⟩ := List.mem_map.mp hy
      rfl
    case so =>
      refine .inr fun x hx => ?_
      obtain ⟨i, _, rfl⟩ := List.mem_map.mp hx
      exact ⟨fun z => (nomatch z), fun _ z => (nomatch z)⟩
    case dp =>
      intro x hx
      obtain ⟨i, _, rfl⟩ := List.mem_map.mp hx
      show A.units + 1 + 1 + _ < cLine
      simp only [PyData.depth]
      omega
    case tn =>
      obtain ⟨t, rfl⟩ := hv
      exact call_abs_int fun u tk' => ⟨hp, tk', rfl, fun _ _ e => e, .int _ u⟩
    case fin =>
      exact h g.objs.size out c g hp tk keep rfl (fun b o e => kp b o (Nat.ne_of_lt (Heap.lt_size e)) (Heap.get?_push_of_some _ e)) hD (eachI_out (PySem.W.keyedOut_each (fun b : Int => PyData.int (if b < 0 then -b else b)) ko each))
end
section
variable {X : Cx} {M : List Nat} {pos p p2 kp : Pos} {e : Expr} {fa : Ev}
def rAbsD : List V → Hp → VK → Prop := fun xs H Q => ∃ (a : Addr) (kvs : List (Key × V)) (ns : List Int), xs = [.ref a] ∧ Rd H a (.dK kvs) ∧ kvs.map (·.1) = ns.map Sum.inl ∧ ∀ q, H q = none → Q (.ref q) (upd H q (.lst ((ns.mergeSort (PySem.W.dataLe false fun b : Int => .int (if b < 0 then -b else b))).map V.int)))
theorem pe_sortedAbsD {ta : TE} (hm : X.mg "sorted" = none) (hm2 : X.mg "abs" = none) (hg : Gl X "sorted") (hg2 : Gl X "abs") (hc : X.calm = true) (hu : X.A.units + 64 < cLine) (pa : PE X e ta) (he : starEach [e] X.env = (false, eval e X.env) :: starEach [] X.env) :
    PE X (.Call (.Name "sorted" p) [e] [⟨some "key", .Name "abs" p2, kp⟩] pos) (fun σ H Q => ta σ H fun x H1 => rAbsD [x] H1 Q) := by
  refine ⟨fun pins s σ H Q I h => ?_⟩
  refine wpAny_Call_Name_kw (ld_blt I hg hm (by decide +kernel : bootBuiltins "sorted" = some (.builtin "sorted")) ?_)
  refine PyProof.Rows.callWith_kw (thn ((pa_cons pa pa_nil he).run pos pins s σ H (fun vs H2 => rAbsD vs H2 Q) I h) fun us s1 ⟨vs, H1, I1, r1, q1⟩ => ?_) (by rw [he] <;> rfl) (by rw [he] <;> rfl)
  show wpAny _ _ (evalAll ((do let v ← eval (.Name "abs" p2) X.env; standAt pos; pure v) :: [])) _ _ s1
  refine wpAny_evalAll_cons (wpAny_bind (ld_blt I1 hg2 hm2 (by decide +kernel : bootBuiltins "abs" = some (.builtin "abs")) (wpAny_bind (wpAny_standAt (wpAny_pure (wpAny_evalAll_nil ?_))))))
  obtain ⟨a, kvs, ns, rfl, rd, ek, q⟩ := q1
  rw [Vals.ref1 r1]
  obtain ⟨z, lo, vs, rk, dd⟩ := dk_rd I1.hok rd
  obtain ⟨ep, hat⟩ := dd.dictAt
  have l1 : kvs.length = vs.length := Paired.length rk
  have l2 : kvs.length = ns.length := by simpa using congrArg List.length ek
  refine sorted_abs_src (I1.ok.hd hc) (PySem.W.kdl_dict (knd := mixKind X.prog X.w) (kvs := vs) (ep := ep) lo) hat (by omega) (ns := ns) (by omega) (fun i v k hP hk => ?_) hu fun D out c g h' tk k1 eD k2 ho rv => ?_
  · obtain ⟨kk, x, e1, e2⟩ := hP
    have e3 : (vs.map (·.1))[i]? = some kk := by rw [List.getElem?_map, e1] <;> rfl
    rw [← KV.keys rk, ek, List.getElem?_map, hk] at e3
    cases e3
    exact keyIs_rel (show keyIs (Sum.inl k) v = true from e2)
  · subst eD
    have I2 : Inv X pins σ H1 { s1 with heap := g } := I1.kept (t' := s1.toks) k1
    have hn : H1 g.objs.size = none := I2.hok.fresh (Nat.le_refl _)
    have lenO : ((ns.mergeSort (PySem.W.dataLe false fun b : Int => .int (if b < 0 then -b else b))).map V.int).length ≤ sizeLine := by
      rw [List.length_map, (List.mergeSort_perm ns _).length_eq]
      omega
    exact ⟨.ref g.objs.size, _, I2.laid (t' := tk) (o := .lst ((ns.mergeSort (PySem.W.dataLe false fun b : Int => .int (if b < 0 then -b else b))).map V.int)) k2 (Nat.le_refl _) ⟨lenO, out, c, rv, ho⟩, rfl, q _ hn⟩
def intKeys : List (Key × D) → Option (List Int)
  | [] => some []
  | (.inl i, _) :: r => (intKeys r).map fun l => i :: l
  | (.inr _, _) :: _ => none
theorem intKeys_of : ∀ {kvs : List (Key × D)} {ns : List Int}, intKeys kvs = some ns → kvs.map (·.1) = ns.map Sum.inl
  | [], _, h => by cases h; rfl
  | (.inl i, _) :: r, _, h => by
    obtain ⟨l, h1, h2⟩ := Option.map_eq_some_iff.mp (show (intKeys r).map (fun l => i :: l) = _ from h)
    subst h2
    rw [List.map_cons, List.map_cons, intKeys_of h1]
  | (.inr _, _) :: _, _, h => by cases h
def kSortedAbsD : D → Option D
  | .dic kvs => (intKeys kvs).bind fun ns => if (ns.map Int.natAbs).Nodup then some (.lst ((sortA ns).map D.int)) else none
  | _ => none
theorem l_sortedAbsD {K : PySem.W.Frag} : Lift1 K true (fun x H Q => rAbsD [x] H Q) kSortedAbsD := by
  intro G H x dx d Q s hx e hQ
  unfold kSortedAbsD at e
  split at e
  · obtain ⟨ns, e1, e2⟩ := Option.bind_eq_some_iff.mp e
    split at e2
    · rename_i hn
      cases e2
      cases hx with
      | dic h1 h2 h3 =>
        refine ⟨_, _, ns, rfl, rd_mono s h1, h2.trans (intKeys_of e1), fun q hq => ?_⟩
        rw [merge_abs hn]
        obtain ⟨g, r⟩ := new_lst s (FzA.ints (sortA ns)) hq
        exact hQ _ _ _ g r
    · cases e2
  · cases e
theorem ve_sortedAbsD (hm : X.mg "sorted" = none) (hm2 : X.mg "abs" = none) (hu : X.A.units + 64 < cLine) (hc : X.calm = true) (hg : Gl X "sorted") (hg2 : Gl X "abs") (ha : VE X M false e fa) (he : starEach [e] X.env = (false, eval e X.env) :: starEach [] X.env := by rfl) :
    VE X M true (.Call (.Name "sorted" p) [e] [⟨some "key", .Name "abs" p2, kp⟩] pos) (op1 kSortedAbsD fa) :=
  VE.lift1 (t' := id) (r := fun x H Q => rAbsD [x] H Q) (fun h => pe_sortedAbsD hm hm2 hg hg2 hc hu h he) l_sortedAbsD ha
end
end Bl

set_option Elab.async false
set_option linter.all false
set_option maxRecDepth 100000
set_option maxHeartbeats 4000000
/-! Vl12: dicts made tuples and lists, len of dicts, dict(pairs). -/
namespace Bl
open PySem PySem.Spec PyProof.Rows L2
section
variable {prog : Program} {w : World} {A : Around} {E : Value → Shared → Prop} {s : Shared} {r d : Addr} {n : Nat} {P : Nat → Value → Prop} {OK : Heap → Prop}
theorem code_tuple_src {Q₁ : Value → Shared → Prop} (hh : A.handled = none) (K : PySem.W.KdlSrc prog w "dict" r d n P OK) (hok : OK s.heap) (hn : n ≤ sizeLine)
    (h : ∀ (g : Heap) (tg : Nat) (acc : Array Value), (∀ b o, s.heap.get? b = some o → g.get? b = some o) → ItemsOf P acc n → Q₁ (.ref g.objs.size) { s with heap := g.push { cls := .type "tuple", data := .seq acc }, toks := tg }) :
    codeAny (model prog w) A (.call (.builtin "tuple.__new__") ⟨[.type "tuple", .ref r], []⟩) (wants Q₁ E) s := by
  have kind := K.type s hok
  have sub0 := sub_tuple_self
  have ini0 := init_tuple_lookup
  have made0 := madeHere_tuple
  have hh0 : A.in1.handled = none := hh
  apply codeAny_of_tree
  show wpAny _ A.in1 (do checkBuiltinCall "tuple.__new__" ⟨[.type "tuple", .ref r], []⟩; again (.builtin "tuple.__new__" ⟨[.type "tuple", .ref r], []⟩)) _ _ s
  refine wpAny_bind (wpAny_of_eq (PySem.F.newCall_tuple_1 _) (wpAny_pure ⟨plainId_quiet PySem.F.plain_tuple_new _, codeAny_builtin PySem.F.entry_tuple_new ?_⟩))
  rw [Around.under_plainId PySem.F.plain_tuple_new _]
  wp_walk using wpAny_typeOf kind, PySem.W.kdu_collect (A := A.in1) K hh0 hok hn
  intro g tg acc keep items
  have tl : acc.toList.toArray = acc := by simp
  show wpAny _ _ (Builtin.Tuple.tupleExact acc.toList.toArray >>= fun v => ret v) _ _ _
  unfold Builtin.Tuple.tupleExact
  refine wpAny_bind (wpAny_newObj_type ?_ (by show acc.toList.toArray.size ≤ sizeLine; rw [tl, items.1]; exact hn))
  rw [tl]
  exact wpAny_pure (h g tg acc keep items)
theorem call_tuple_src {Q : Value → Shared → Prop} (hh : A.handled = none) (K : PySem.W.KdlSrc prog w "dict" r d n P OK) (hok : OK s.heap) (hn : n ≤ sizeLine)
    (h : ∀ (g : Heap) (tg : Nat) (acc : Array Value), (∀ b o, s.heap.get? b = some o → g.get? b = some o) → ItemsOf P acc n → Q (.ref g.objs.size) { s with heap := g.push { cls := .type "tuple", data := .seq acc }, toks := tg }) :
    wpAny (model prog w) A (call (.type "tuple") [.ref r]) Q E s :=
  callType_codes (Q₁ := fun x s₁ => s₁.TypeIs x "tuple" ∧ Q x s₁) PySem.F.called_tuple (PySem.F.typeCall_tuple_1 _) PySem.F.entry_object_init (code_tuple_src (A := A.in1) hh K hok hn fun g tg acc keep items => ⟨⟨_, Heap.get?_push_size _ rfl, rfl⟩, h g tg acc keep items⟩)
    fun x s₁ k => ⟨k.1, PySem.F.args_object_init_2 x _, object_init_meets PySem.F.called_tuple.init.lookup PySem.F.called_tuple.made (by decide) prog w A.in1 _ s₁ ⟨k.1, rfl, k.2⟩⟩
end

/-! ### a dict as a source of its keys -/
section
variable {X : Cx} {pins : List (Addr × Obj)} {σ : L2.St} {H : Hp} {s : Shared}
theorem src_dK (I : Inv X pins σ H s) {a : Addr} {kvs : List (Key × V)} (rd : Rd H a (.dK kvs)) : ∃ (P : Nat → Value → Prop) (OK : Heap → Prop), PySem.W.KdlSrc X.prog X.w "dict" a a kvs.length P OK ∧ OK s.heap ∧ kvs.length ≤ sizeLine ∧ ∀ acc, ItemsOf P acc kvs.length → Vals (kvs.map fun kv => kV kv.1) acc.toList := by
  obtain ⟨z, lo, vs, rk, dd⟩ := dk_rd I.hok rd
  obtain ⟨ep, hat⟩ := dd.dictAt
  have l1 : kvs.length = vs.length := Paired.length rk
  rw [l1]
  refine ⟨_, _, PySem.W.kdl_dict (knd := mixKind X.prog X.w) (kvs := vs) (ep := ep) lo, hat, by omega, fun acc items => ?_⟩
  refine vals_of_at (by rw [List.length_map, l1]; exact items.1.symm.trans (Array.length_toList (xs := acc)).symm) fun j x u h1 h2 => ?_
  obtain ⟨k, y, e1, e2⟩ := items.2 j u (by rw [← Array.getElem?_toList]; exact h2)
  have e3 : (kvs.map (·.1))[j]? = some k := by rw [KV.keys rk, List.getElem?_map, e1] <;> rfl
  have e4 : (kvs.map fun kv => kV kv.1)[j]? = some (kV k) := by
    have : (kvs.map fun kv => kV kv.1) = (kvs.map (·.1)).map kV := by rw [List.map_map] <;> rfl
    rw [this, List.getElem?_map, e3] <;> rfl
  rw [e4] at h1
  cases h1
  exact keyIs_rel (show keyIs k u = true from e2)
theorem src_dT (I : Inv X pins σ H s) {a : Addr} {kvs : List (List Key × V)} (rd : Rd H a (.dT kvs)) : ∃ (P : Nat → Value → Prop) (OK : Heap → Prop), PySem.W.KdlSrc X.prog X.w "dict" a a kvs.length P OK ∧ OK s.heap ∧ kvs.length ≤ sizeLine ∧ ∀ acc, ItemsOf P acc kvs.length → ∃ bs, IsKeys H kvs bs ∧ Vals (bs.map V.ref) acc.toList := by
  obtain ⟨z, lo, ks, pr, o, es, ep, ho, hx, hdt, he, hn⟩ := (show ObjOk X.prog X.w H s.heap a (.dT kvs) from rd.ok I.hok)
  have l1 : es.size = ks.length := size_of_entries he
  have l2 : kvs.length = ks.length := Paired.length pr
  have l3 : es.size = kvs.length := by omega
  rw [← l3]
  refine ⟨_, _, kdl_raw lo hx hdt, ho, by omega, fun acc items => ⟨ks.map fun x => x.2.1, isKeys_of pr, ?_⟩⟩
  refine vals_of_at (by rw [List.length_map, List.length_map, ← l1]; exact items.1.symm.trans (Array.length_toList (xs := acc)).symm) fun j x u h1 h2 => ?_
  obtain ⟨en, e1, e2⟩ := items.2 j u (by rw [← Array.getElem?_toList]; exact h2)
  have q := entry_at he j
  rw [e1] at q
  cases hb : ks[j]? with
  | none =>
    rw [hb] at q
    cases q
  | some b =>
    rw [hb] at q
    have e3 : en = entryOfKey (tupleKind (mixKind X.prog X.w)) b := Option.some.inj q
    rw [List.getElem?_map, List.getElem?_map, hb] at h1
    cases h1
    rw [e2, e3]
    rfl
end
/-- list(d), tuple(d) -/
def rKeysTo (mk : List V → HO) : List V → Hp → VK → Prop := fun xs H Q => ∃ a, xs = [.ref a] ∧ ((∃ kvs, Rd H a (.dK kvs) ∧ ∀ p, H p = none → Q (.ref p) (upd H p (mk (kvs.map fun kv => kV kv.1)))) ∨ ∃ kvs, Rd H a (.dT kvs) ∧ ∀ p bs, H p = none → IsKeys H kvs bs → Q (.ref p) (upd H p (mk (bs.map V.ref))))
section
variable {X : Cx}
theorem call_tupleD (hc : X.calm = true) : CallR X (.type "tuple") (rKeysTo .tup) := by
  intro pins s σ H xs us Q I r h
  obtain ⟨a, rfl, h⟩ := h
  obtain ⟨u, rfl, ru⟩ := vals1 r
  cases ru
  have go : ∀ {n : Nat} {P : Nat → Value → Prop} {OK : Heap → Prop} {R : List V → Prop}, PySem.W.KdlSrc X.prog X.w "dict" a a n P OK → OK s.heap → n ≤ sizeLine → (∀ acc, ItemsOf P acc n → ∃ vs, Vals vs acc.toList ∧ R vs) → (∀ vs p, R vs → H p = none → Q (.ref p) (upd H p (.tup vs))) →
      wpAny (model X.prog X.w) X.A (call (.type "tuple") [.ref a]) (EP X pins σ Q) X.xe s := fun {n P OK R} K ok hn hv hq => by
    refine call_tuple_src (I.ok.hd hc) K ok hn fun g tg acc keep items => ?_
    obtain ⟨vs, rv, hR⟩ := hv acc items
    have I1 : Inv X pins σ H { s with heap := g, toks := tg } := I.kept keep
    have hz : vs.length ≤ sizeLine := by rw [rv.length, Array.length_toList, items.1]; exact hn
    exact ⟨.ref g.objs.size, _, I1.laid (t' := tg) (o := .tup vs) (fun b o e => Heap.get?_push_of_some _ e) (Nat.le_refl _) ⟨hz, acc.toList, rv, by rw [Array.toArray_toList]; exact IsTup.new _ _⟩, rfl, hq vs _ hR (I1.hok.fresh (Nat.le_refl _))⟩
  rcases h with ⟨kvs, rd, q⟩ | ⟨kvs, rd, q⟩
  · obtain ⟨P, OK, K, ok, hn, hv⟩ := src_dK I rd
    exact go (R := fun vs => vs = kvs.map fun kv => kV kv.1) K ok hn (fun acc it => ⟨_, hv acc it, rfl⟩) fun vs p e hp => by subst e; exact q p hp
  · obtain ⟨P, OK, K, ok, hn, hv⟩ := src_dT I rd
    exact go (R := fun vs => ∃ bs, vs = bs.map V.ref ∧ IsKeys H kvs bs) K ok hn (fun acc it => by obtain ⟨bs, h1, h2⟩ := hv acc it; exact ⟨_, h2, bs, rfl, h1⟩) fun vs p e hp => by obtain ⟨bs, e, h1⟩ := e; subst e; exact q p bs hp h1
theorem call_listD (hc : X.calm = true) : CallR X (.type "list") (rKeysTo .lst) := by
  intro pins s σ H xs us Q I r h
  obtain ⟨a, rfl, h⟩ := h
  obtain ⟨u, rfl, ru⟩ := vals1 r
  cases ru
  have go : ∀ {n : Nat} {P : Nat → Value → Prop} {OK : Heap → Prop} {R : List V → Prop}, PySem.W.KdlSrc X.prog X.w "dict" a a n P OK → OK s.heap → n ≤ sizeLine → (∀ acc, ItemsOf P acc n → ∃ vs, Vals vs acc.toList ∧ R vs) → (∀ vs p, R vs → H p = none → Q (.ref p) (upd H p (.lst vs))) →
      wpAny (model X.prog X.w) X.A (call (.type "list") [.ref a]) (EP X pins σ Q) X.xe s := fun {n P OK R} K ok hn hv hq => by
    refine PySem.W.kdl_call K (I.ok.hd hc) ok hn fun g tg acc c keep ho items => ?_
    obtain ⟨vs, rv, hR⟩ := hv acc items
    have hz : vs.length ≤ sizeLine := by rw [rv.length, Array.length_toList, items.1]; exact hn
    exact ⟨.ref s.heap.objs.size, _, I.laid (t' := tg) (o := .lst vs) keep (Nat.le_refl _) ⟨hz, acc.toList, c, rv, by rw [Array.toArray_toList]; exact ho⟩, rfl, hq vs _ hR (I.hok.fresh (Nat.le_refl _))⟩
  rcases h with ⟨kvs, rd, q⟩ | ⟨kvs, rd, q⟩
  · obtain ⟨P, OK, K, ok, hn, hv⟩ := src_dK I rd
    exact go (R := fun vs => vs = kvs.map fun kv => kV kv.1) K ok hn (fun acc it => ⟨_, hv acc it, rfl⟩) fun vs p e hp => by subst e; exact q p hp
  · obtain ⟨P, OK, K, ok, hn, hv⟩ := src_dT I rd
    exact go (R := fun vs => ∃ bs, vs = bs.map V.ref ∧ IsKeys H kvs bs) K ok hn (fun acc it => by obtain ⟨bs, h1, h2⟩ := hv acc it; exact ⟨_, h2, bs, rfl, h1⟩) fun vs p e hp => by obtain ⟨bs, e, h1⟩ := e; subst e; exact q p bs hp h1
end
/-- tuples that stand are tracked from now on -/
theorem grow_take {K : PySem.W.Frag} {G H : Hp} (s : Same G H) : ∀ {kvs : List (List Key × V)} {bs : List Addr}, IsKeys H kvs bs → ∃ G', Grow G H G' H ∧ FzA K G' (bs.map V.ref) (kvs.map fun kv => D.tup (kv.1.map keyDat))
  | _, _, .nil => ⟨G, .refl s, .nil⟩
  | _, _, .cons (a := p) (b := b) (l₁ := kvs) (l₂ := bs) h t => by
    obtain ⟨G1, g1, r1⟩ := grow_take (K := K) s t
    have hs : Same G1 H := g1.sub2
    have s2 : Same G1 (upd G1 b (.tup (p.1.map kV))) := fun c u e => by
      by_cases q : c = b
      · subst q
        rw [upd_same]
        have := hs _ _ e
        rw [h] at this
        exact this
      · rw [upd_ne q]; exact e
    refine ⟨upd G1 b (.tup (p.1.map kV)), g1.trans ⟨s2, fun c u e => ?_, Same.refl _, fun c e => ?_⟩, .cons (.tup upd_same (keys_fz _)) (r1.mono s2)⟩
    · by_cases q : c = b
      · subst q
        rw [upd_same] at e
        cases e
        exact h
      · rw [upd_ne q] at e; exact hs c u e
    · by_cases q : c = b
      · subst q; exact .inr (.inr ⟨_, h⟩)
      · rw [upd_ne q] at e; exact .inl e
where keys_fz {K : PySem.W.Frag} {G : Hp} : ∀ ks : List Key, FzA K G (ks.map kV) (ks.map keyDat)
  | [] => .nil
  | k :: r => .cons (fz_key k) (keys_fz r)
theorem dk_keys {K : PySem.W.Frag} {G : Hp} : ∀ {kvs : List (Key × V)} {ds : List (Key × D)}, kvs.map (·.1) = ds.map (·.1) → FzA K G (kvs.map fun kv => kV kv.1) (ds.map fun kv => keyDat kv.1)
  | [], [], _ => .nil
  | [], _ :: _, e => by simp at e
  | _ :: _, [], e => by simp at e
  | (k, v) :: r, (k2, d) :: ds, e => by
    simp only [List.map_cons, List.cons.injEq] at e
    obtain ⟨rfl, e⟩ := e
    exact .cons (fz_key k) (dk_keys e)
def kKeys (mk : List D → D) : List D → Option D
  | [.dic kvs] => if kvs.length ≤ lim then some (mk (kvs.map fun kv => keyDat kv.1)) else none
  | [.dit kvs] => if kvs.length ≤ lim then some (mk (kvs.map fun kv => D.tup (kv.1.map keyDat))) else none
  | _ => none
abbrev kTupleD := kKeys .tup
abbrev kListD := kKeys .lst
section
variable {K : PySem.W.Frag}
theorem tups_eq {G : Hp} {kvs : List (List Key × V)} {ds : List (List Key × D)} (e : kvs.map (·.1) = ds.map (·.1)) : (kvs.map fun kv => D.tup (kv.1.map keyDat)) = ds.map fun kv => D.tup (kv.1.map keyDat) := by
  have : ∀ {α : Type} (l : List (List Key × α)), (l.map fun kv => D.tup (kv.1.map keyDat)) = (l.map (·.1)).map fun k => D.tup (k.map keyDat) := fun l => by rw [List.map_map] <;> rfl
  rw [this, this, e]
theorem l_tupleD : LiftN K false (rKeysTo .tup) kTupleD := by
  intro G H xs ds d Q s h e hQ
  unfold kTupleD kKeys at e
  split at e
  · split at e
    · cases e
      obtain ⟨v, rfl, h1⟩ := h.one
      cases h1 with
      | dic h1 h2 h3 =>
        refine ⟨_, rfl, .inl ⟨_, rd_mono s h1, fun p hp => ?_⟩⟩
        obtain ⟨g, r⟩ := new_tup s (dk_keys (K := K) (G := G) h2) hp
        exact hQ _ _ _ g r
    · cases e
  · split at e
    · cases e
      obtain ⟨v, rfl, h1⟩ := h.one
      cases h1 with
      | dit h1 h2 h3 =>
        refine ⟨_, rfl, .inr ⟨_, rd_mono s h1, fun p bs hp hk => ?_⟩⟩
        obtain ⟨G1, g1, r1⟩ := grow_take (K := K) s hk
        obtain ⟨g, r⟩ := new_tup g1.sub2 r1 hp
        rw [← tups_eq (G := G) h2] at hQ
        exact hQ _ _ _ (g1.trans g) r
    · cases e
  · cases e
theorem l_listD : LiftN K true (rKeysTo .lst) kListD := by
  intro G H xs ds d Q s h e hQ
  unfold kListD kKeys at e
  split at e
  · split at e
    · cases e
      obtain ⟨v, rfl, h1⟩ := h.one
      cases h1 with
      | dic h1 h2 h3 =>
        refine ⟨_, rfl, .inl ⟨_, rd_mono s h1, fun p hp => ?_⟩⟩
        obtain ⟨g, r⟩ := new_lst s (dk_keys (K := K) (G := G) h2) hp
        exact hQ _ _ _ g r
    · cases e
  · split at e
    · cases e
      obtain ⟨v, rfl, h1⟩ := h.one
      cases h1 with
      | dit h1 h2 h3 =>
        refine ⟨_, rfl, .inr ⟨_, rd_mono s h1, fun p bs hp hk => ?_⟩⟩
        obtain ⟨G1, g1, r1⟩ := grow_take (K := K) s hk
        obtain ⟨g, r⟩ := new_lst g1.sub2 r1 hp
        rw [← tups_eq (G := G) h2] at hQ
        exact hQ _ _ _ (g1.trans g) r
    · cases e
  · cases e
end

/-! ### len of a dict -/
def rLenDA : List V → Hp → VK → Prop := fun xs H Q => ∃ a, xs = [.ref a] ∧ ((∃ kvs, Rd H a (.dK kvs) ∧ Q (.int (kvs.length : Nat)) H) ∨ ∃ kvs, Rd H a (.dT kvs) ∧ Q (.int (kvs.length : Nat)) H)
theorem call_lenDA {X : Cx} : CallR X (.builtin "len") rLenDA := by
  intro pins s σ H xs us Q I r h
  obtain ⟨a, rfl, h⟩ := h
  obtain ⟨u, rfl, ru⟩ := vals1 r
  cases ru
  rcases h with ⟨kvs, rd, q⟩ | ⟨kvs, rd, q⟩
  · exact d_len I rd fun t s' I' => ⟨.int kvs.length, H, I', ⟨t, rfl⟩, q⟩
  · obtain ⟨z, lo, ks, pr, dd⟩ := dt_rd I.hok rd
    have l2 : kvs.length = ks.length := Paired.length pr
    refine call_len_dictH lo dd (by rw [sizeLine_eq] at z; omega) ?_
    rw [← l2]
    exact ⟨.int (kvs.length : Nat), H, I.tok _, ⟨_, rfl⟩, q⟩
def kLenD : List D → Option D
  | [.dic kvs] => some (.int (kvs.length : Nat))
  | [.dit kvs] => some (.int (kvs.length : Nat))
  | _ => none
theorem l_lenD {K : PySem.W.Frag} : LiftN K false rLenDA kLenD := by
  intro G H xs ds d Q s h e hQ
  unfold kLenD at e
  split at e
  · cases e
    obtain ⟨v, rfl, h1⟩ := h.one
    cases h1 with
    | dic h1 h2 h3 =>
      have := congrArg List.length h2
      rw [List.length_map, List.length_map] at this
      exact ⟨_, rfl, .inl ⟨_, rd_mono s h1, by rw [this]; exact hQ _ G H (.refl s) (.int _)⟩⟩
  · cases e
    obtain ⟨v, rfl, h1⟩ := h.one
    cases h1 with
    | dit h1 h2 h3 =>
      have := congrArg List.length h2
      rw [List.length_map, List.length_map] at this
      exact ⟨_, rfl, .inr ⟨_, rd_mono s h1, by rw [this]; exact hQ _ G H (.refl s) (.int _)⟩⟩
  · cases e
end Bl

set_option Elab.async false
set_option linter.all false
set_option maxRecDepth 100000
set_option maxHeartbeats 4000000
/-! Vl13: dict(pairs), update. -/
namespace Bl
open PySem PySem.Spec PyProof.Rows L2

def mergeP (kvs more : List (Key × D)) : List (Key × D) := more.foldl (fun acc kv => putP acc kv.1 kv.2) kvs
theorem mergeP_of {K : PySem.W.Frag} {G : Hp} : ∀ {more : List (Key × V)} {dm : List (Key × D)} {kvs : List (Key × V)} {ds : List (Key × D)}, more.map (·.1) = dm.map (·.1) → FzA K G (more.map (·.2)) (dm.map (·.2)) → kvs.map (·.1) = ds.map (·.1) → FzA K G (kvs.map (·.2)) (ds.map (·.2)) →
    (mergeK kvs more).map (·.1) = (mergeP ds dm).map (·.1) ∧ FzA K G ((mergeK kvs more).map (·.2)) ((mergeP ds dm).map (·.2))
  | [], [], _, _, _, _, e, h => ⟨e, h⟩
  | [], _ :: _, _, _, e, _, _, _ => by simp at e
  | _ :: _, [], _, _, e, _, _, _ => by simp at e
  | (k, v) :: r, (k2, d) :: dm, kvs, ds, e, h, e2, h2 => by
    simp only [List.map_cons, List.cons.injEq] at e
    obtain ⟨rfl, e⟩ := e
    simp only [List.map_cons] at h
    cases h with
    | cons h3 h4 =>
      obtain ⟨g1, g2⟩ := putP_of k h3 e2 h2
      have := mergeP_of (more := r) (dm := dm) e h4 g1 g2
      exact this
theorem mergeP_len : ∀ (more kvs : List (Key × D)), (mergeP kvs more).length ≤ kvs.length + more.length
  | [], kvs => by show kvs.length ≤ kvs.length + 0; omega
  | p :: r, kvs => by
    have h1 := mergeP_len r (putP kvs p.1 p.2)
    have h2 : (putP kvs p.1 p.2).length ≤ kvs.length + 1 := by
      unfold putP
      split
      · rw [List.length_map]; omega
      · rw [List.length_append]; simp
    show (mergeP (putP kvs p.1 p.2) r).length ≤ _
    rw [List.length_cons]
    omega
def pairsD : List D → Option (List (Key × D))
  | [] => some []
  | .tup [k, v] :: r => (keyD k).bind fun k => (pairsD r).map fun l => (k, v) :: l
  | _ => none
theorem pairsD_of {K : PySem.W.Frag} {G H : Hp} (s : Same G H) : ∀ {ds : List D} {vs : List V} {prs : List (Key × D)}, FzA K G vs ds → pairsD ds = some prs →
    ∃ (ps : List Addr) (kvs : List (Key × V)), vs = ps.map V.ref ∧ Paired (fun p kv => SqT K H p [kV kv.1, kv.2]) ps kvs ∧ kvs.map (·.1) = prs.map (·.1) ∧ FzA K G (kvs.map (·.2)) (prs.map (·.2))
  | [], _, _, .nil, e => by
    cases e
    exact ⟨[], [], rfl, .nil, rfl, .nil⟩
  | d :: r, _, prs, .cons h t, e => by
    unfold pairsD at e
    split at e
    · rename_i z
      cases z
    · rename_i k v r2 z
      cases z
      obtain ⟨kk, e1, e2⟩ := Option.bind_eq_some_iff.mp e
      obtain ⟨l, e3, e4⟩ := Option.map_eq_some_iff.mp e2
      subst e4
      obtain ⟨ps, kvs, h1, h2, h3, h4⟩ := pairsD_of s t e3
      obtain ⟨a, ws, rfl, ha, rw'⟩ := h.tup_inv
      obtain ⟨x, y, rfl, hx, hy⟩ := rw'.two
      have := keyD_of hx e1
      subst this
      exact ⟨a :: ps, (kk, y) :: kvs, by rw [h1]; rfl, .cons (.inl (.inl (s _ _ ha))) h2, by rw [List.map_cons, List.map_cons, h3], by rw [List.map_cons, List.map_cons]; exact .cons hy h4⟩
    · cases e
def kDictP : List D → Option D
  | [.lst ds] => (pairsD ds).map fun prs => .dic (mergeP [] prs)
  | _ => none
section
variable {K : PySem.W.Frag}
theorem l_dictP : LiftN K true (fun xs H Q => ∃ (a : Addr) (ps : List Addr) (kvs : List (Key × V)), xs = [.ref a] ∧ SqL K H a (ps.map V.ref) ∧ Paired (fun p kv => SqT K H p [kV kv.1, kv.2]) ps kvs ∧ ∀ p, H p = none → Q (.ref p) (upd H p (.dK (mergeK [] kvs)))) kDictP := by
  intro G H xs ds d Q s h e hQ
  unfold kDictP at e
  split at e
  · obtain ⟨prs, e1, e2⟩ := Option.map_eq_some_iff.mp e
    cases e2
    obtain ⟨v, rfl, h1⟩ := h.one
    obtain ⟨a, vs, rfl, ha, ra⟩ := h1.lst_inv
    obtain ⟨ps, kvs, rfl, h2, h3, h4⟩ := pairsD_of s ra e1
    obtain ⟨g1, g2⟩ := mergeP_of h3 h4 (kvs := []) (ds := []) rfl .nil
    exact ⟨a, ps, kvs, rfl, .inl (.inl (s _ _ ha)), h2, fun p hp => hQ _ G _ (Grow.own s hp) ⟨[p], .dic upd_same (sub_none s hp) g1 g2, fun b hb => by simp at hb; subst hb; exact hp⟩⟩
  · cases e
end
/-! ### d.update(e) -/
def rUpdate : V → List V → Hp → VK → Prop := fun x xs H Q => ∃ (a b : Addr) (ks ms : List (Key × V)), x = .ref a ∧ xs = [.ref b] ∧ a ≠ b ∧ H a = some (.dK ks) ∧ Rd H b (.dK ms) ∧ ks.length + ms.length ≤ sizeLine ∧ Q .non (upd H a (.dK (mergeK ks ms)))
theorem mt_update {X : Cx} (hc : X.calm = true) : MtR X "dict.update" rUpdate := by
  intro pins s σ H x xs v us Q I rx rxs h
  obtain ⟨a, b, ks, ms, rfl, rfl, hab, ha, hb, hz, q⟩ := h
  cases rx
  obtain ⟨u, rfl, ru⟩ := vals1 rxs
  cases ru
  obtain ⟨z1, lo1, vs, r1, d1⟩ := dk_of I.hok ha
  obtain ⟨z2, lo2, ws, r2, d2⟩ := dk_rd I.hok hb
  have l1 : ks.length = vs.length := Paired.length r1
  have l2 : ms.length = ws.length := Paired.length r2
  refine call_meetsIn PySem.F.slot_dict_update d1.typeIs PySem.F.entry_dict_update (PySem.F.args_dict_update_2 _ _) (meets_dict_update (mixKind X.prog X.w) a b hab lo2) ⟨vs, ws, d1, d2, by omega, fun g dd _ sb => ?_⟩
  have he : ∃ q, g.get? a = some q := let ⟨q, _, _, hq, _⟩ := dd; ⟨q, hq⟩
  exact ⟨.non, _, d_write (t' := s.toks) I (by rw [ha]; exact True.intro) sb he (dk_new (Nat.le_trans (length_mergeK ms ks) hz) lo1 (KV.merge r2 r1) dd), rfl, q⟩
def kUpdate : D → List D → Option (D × D) := fun d ds => match d, ds with
  | .dic a, [.dic b] => if a.length + b.length ≤ lim then some (.dic (mergeP a b), .non) else none
  | _, _ => none
theorem lm_update {K : PySem.W.Frag} : LiftM K rUpdate kUpdate := by
  intro G H v d fp s o vs ds d' w Q h e hQ
  unfold kUpdate at e
  split at e
  · split at e
    · rename_i hl
      cases e
      obtain ⟨u, rfl, hu⟩ := h.one
      cases o with
      | dic h1 h2 h3 h4 =>
        cases hu with
        | @dic b _ _ g1 g2 g3 =>
          have l1 := congrArg List.length h3
          have l2 := congrArg List.length g2
          rw [List.length_map, List.length_map] at l1 l2
          obtain ⟨k1, k2⟩ := mergeP_of g2 g3 h3 h4
          refine ⟨_, _, _, _, rfl, rfl, fun z => ?_, h1, rd_mono s g1, by rw [l1, l2]; exact lim_line hl, hQ _ _ (.dic upd_same h2 k1 k2) (fun b hb => upd_ne (by simpa using hb)) .non⟩
          subst z
          rcases g1 with g1 | ⟨_, g1⟩ <;> rw [h2] at g1 <;> cases g1
    · cases e
  · cases e
end Bl

set_option Elab.async false
set_option linter.all false
set_option maxRecDepth 100000
set_option maxHeartbeats 8000000
/-! Vl14: set(xs) of ints, as sorted and len see it. -/
namespace Bl
open PySem PySem.Spec PyProof.Rows L2
section
variable {P : Program} {w : World} {A : Around} {E : Value → Shared → Prop} {s : Shared}
/-- a set just made -/
def set0 (w : World) : Obj := { cls := .type "set", dict := none, data := .set #[] 0 (.fresh 0 0 (!w.params.followText "set-order")) }
theorem set_of_list {l : Addr} {arr : Array Value} (ks : List Int) {Q : Value → Shared → Prop} (quiet : A.handled = none) (isl : s.heap.IsList l arr) (vals : IntsAre arr.toList ks) (few : ks.length + 1 < scanBound)
    (fin : ∀ (g : Heap) (tg m : Nat), SetR w g s.heap.objs.size (fun j => decide (j ∈ ks)) m → m ≤ ks.length → (∀ b o, s.heap.get? b = some o → g.get? b = some o) → Q (.ref s.heap.objs.size) { s with heap := g, toks := tg }) :
    wpAny (model P w) A (call (.type "set") [.ref l]) Q E s := by
  have size0 : arr.size = ks.length := by
    have z := IntsAre.length vals
    rwa [Array.length_toList] at z
  obtain ⟨mc, mt, mro0⟩ := PySem.F.called_set.mro
  have made0 := PySem.F.called_set.made
  have self0 := PySem.F.called_set.sub
  apply wpAny_call
  apply codeAny_of_tree
  show wpAny _ _ (callAny (.type "set") _) _ _ _
  refine wpAny_pure ⟨Code.quiet_builtin _ (by decide +kernel), codeAny_builtin PySem.F.entry_type_call ?_⟩
  rw [Around.under_plain (weight_type_call_type "set" [.ref l] []) rfl]
  have nt0 := PySem.F.called_set.notType
  have cc0 := PySem.F.called_set.canCreate
  have ct0 := PySem.F.typeCall_set_1 (.ref l)
  all_goals repeat (any_goals (first | assumption | wp_step))
  refine codeAny_mono (code_set_led1 (.ref l) (E := E) (Q₁ := fun x s₁ => x = .ref s.heap.objs.size ∧ s₁ = { s with heap := s.heap.push (set0 w) }) ⟨rfl, rfl⟩) fun res s₁ hres => ?_
  cases res with
  | error e => exact hres
  | ok fl =>
    cases fl with
    | ret x =>
      obtain ⟨rfl, rfl⟩ := hres
      have at0 : (s.heap.push (set0 w)).get? s.heap.objs.size = some (set0 w) := Heap.get?_push_size _ rfl
      have ty0 : Shared.TypeIs { s with heap := s.heap.push (set0 w) } (.ref s.heap.objs.size) "set" := ⟨_, at0, rfl⟩
      have il0 := PySem.F.called_set.init.lookup
      have ib0 := PySem.F.called_set.init.bind (.ref s.heap.objs.size)
      all_goals repeat (any_goals (first | assumption | wp_step))
      refine codeAny_mono (codeAny_call_builtin (R := wants (fun res s₂ => res = .none ∧ ∃ g tg m, s₂ = { s with heap := g, toks := tg } ∧ SetR w g s.heap.objs.size (fun j => decide (j ∈ ks)) m ∧ m ≤ ks.length ∧ (∀ b o, s.heap.get? b = some o → g.get? b = some o)) E)
        PySem.F.called_set.init.plain PySem.F.entry_set_init (check_set_init_1 ty0 ?_)) fun res₂ s₂ hres₂ => ?_
      · obtain ⟨lo, hlo, clo, nlo, dlo⟩ := isl
        obtain ⟨c0, d0, t0, sl0⟩ := lo
        simp only at clo dlo
        subst clo
        subst dlo
        have below : l < s.heap.objs.size := Heap.lt_size hlo
        have hlo1 : (s.heap.push (set0 w)).get? l = some { cls := .type "list", dict := d0, data := .seq arr nlo, slots := sl0 } := Heap.get?_push_of_some _ hlo
        have ls0 := PySem.F.sub_list_set
        have lf0 := PySem.F.sub_list_frozenset
        have nd0 : (Value.type "list" == Value.type "dict") = false := by decide
        have isl1 : (s.heap.push (set0 w)).IsList l arr := ⟨_, hlo1, rfl, nlo, rfl⟩
        unfold Builtin.«set.__init__» noKeywords Builtin.Frozenset.updateFrom
        generalize eI : pyIter = It
        wp_walk
        subst eI
        apply wpAny_pyIter_list isl1
        refine wpAny_bind (wpAny_runValue ?_)
        have quiet3 : A.in1.in1.in1.handled = none := by simp [quiet]
        have size1 : (s.heap.push (set0 w)).objs.size = s.heap.objs.size + 1 := Heap.size_push ..
        have lneq : l ≠ (s.heap.push (set0 w)).objs.size := by
          rw [size1]
          exact Nat.ne_of_lt (Nat.lt_succ_of_lt below)
        have apart : s.heap.objs.size ∉ [(s.heap.push (set0 w)).objs.size, l] := fun z => by
          rcases List.mem_cons.mp z with z | z
          · rw [size1] at z; exact Nat.ne_of_lt (Nat.lt_succ_self _) z
          · exact Nat.ne_of_gt below (List.mem_singleton.mp z)
        have each : ∀ (i : Nat) (v : Value), arr[i]? = some v → ∃ k t, ks[i]? = some k ∧ v = .int k t := fun i v hv => by
          have hi : i < ks.length := by rw [← size0]; exact (Array.getElem?_eq_some_iff.mp hv).1
          obtain ⟨t, e⟩ := IntsAre.int_at vals i v (by rw [Array.getElem?_toList]; exact hv)
          exact ⟨ks[i], t, List.getElem?_eq_getElem hi, by rw [e, List.getD_eq_getElem?_getD, List.getElem?_eq_getElem hi] <;> rfl⟩
        refine set_update_ints ((Walks.list quiet3 _ l lneq arr).toS) s.heap.objs.size apart ks size0 few each (arr.size - 0) 0 _ (by omega) (Nat.zero_le _) ⟨⟨_, Heap.get?_push_size _ rfl, rfl, rfl⟩, isl1.push _⟩ ⟨0, Nat.le_refl 0, setR_new_at (Heap.get?_push_of_some _ at0)⟩ fun s' m mv hm hS => ?_
        obtain ⟨g, gg, gd, tg, go⟩ := s'
        have e1 : gg = s.gens := mv.gens
        have e2 : gd = s.drawn := mv.drawn
        have e3 : go = s.os := mv.os
        subst e1 e2 e3
        show wpAny _ _ _ _ _ _
        apply wpAny_pure
        show wpAny _ _ (ret Value.none) _ _ _
        rw [size0] at hm
        refine wpAny_pure ⟨rfl, g, tg, m, rfl, hS, hm, fun b o e => ?_⟩
        have lt := Heap.lt_size e
        refine mv.heap b o (fun z => ?_) (Heap.get?_push_of_some _ (Heap.get?_push_of_some _ e))
        rcases List.mem_cons.mp z with z | z
        · exact Nat.ne_of_lt lt z
        · rw [List.mem_singleton.mp z, size1] at lt
          exact Nat.lt_irrefl _ (Nat.lt_of_succ_lt lt)
      · cases res₂ with
        | error e => exact hres₂
        | ok fl₂ =>
          cases fl₂ with
          | ret x =>
            obtain ⟨rfl, g, tg, m, rfl, hS, hm, keep⟩ := hres₂
            all_goals repeat (any_goals (first | assumption | wp_step))
            exact fin g tg m hS hm keep
          | _ => exact hres₂.elim
    | _ => exact hres.elim
end
end Bl

set_option Elab.async false
set_option linter.all false
set_option maxRecDepth 100000
set_option maxHeartbeats 4000000
/-! Vl15: sorted(set(xs)), len(set(xs)). -/
namespace Bl
open PySem PySem.Spec PyProof.Rows L2
/-- its members in the order they are met -/
def dedupI : List Int → List Int
  | [] => []
  | x :: r => x :: (dedupI r).filter (fun y => y != x)
theorem dedup_mem : ∀ (l : List Int) (k : Int), k ∈ dedupI l ↔ k ∈ l
  | [], k => by simp [dedupI]
  | x :: r, k => by
    unfold dedupI
    rw [List.mem_cons, List.mem_cons, List.mem_filter, dedup_mem r k]
    by_cases h : k = x
    · simp [h]
    · simp [h]
theorem dedup_nodup : ∀ l : List Int, (dedupI l).Nodup
  | [] => .nil
  | x :: r => by
    unfold dedupI
    refine List.nodup_cons.mpr ⟨fun h => ?_, (dedup_nodup r).filter _⟩
    have := (List.mem_filter.mp h).2
    simp at this
theorem nodup_len {a b : List Int} (ha : a.Nodup) (hb : b.Nodup) (h : ∀ k, k ∈ a ↔ k ∈ b) : a.length = b.length :=
  ((List.perm_ext_iff_of_nodup ha hb).mpr h).length_eq
theorem nodup_perm {a b : List Int} (ha : a.Nodup) (hb : b.Nodup) (h : ∀ k, k ∈ a ↔ k ∈ b) : a.Perm b := (List.perm_ext_iff_of_nodup ha hb).mpr h
section
variable {X : Cx} {M : List Nat} {pos p p2 q : Pos} {e : Expr} {fa : Ev}
def rSortSet (K : PySem.W.Frag) : List V → Hp → VK → Prop := fun xs H Q => ∃ (a : Addr) (ks : List Int), xs = [.ref a] ∧ SqL K H a (ks.map V.int) ∧ ks.length < 60 ∧ ∀ p, H p = none → Q (.ref p) (upd H p (.lst ((sortI (dedupI ks)).map V.int)))
theorem pe_sortedSet {ta : TE} (hm : X.mg "sorted" = none) (hm2 : X.mg "set" = none) (hg : Gl X "sorted") (hg2 : Gl X "set") (hc : X.calm = true) (pa : PE X e ta) (he : starEach [e] X.env = (false, eval e X.env) :: starEach [] X.env) :
    PE X (.Call (.Name "sorted" p) [.Call (.Name "set" p2) [e] [] q] [] pos) (fun σ H Q => ta σ H fun x H1 => rSortSet X.K [x] H1 Q) := by
  refine ⟨fun pins s σ H Q I h => ?_⟩
  refine Call_ (ld_blt I hg hm (by decide +kernel : bootBuiltins "sorted" = some (.builtin "sorted")) ?_)
  refine PyProof.Rows.callWith_builtin1 (PyProof.Rows.args_cons ?_ rfl) rfl rfl
  refine Call_ (ld_blt I hg2 hm2 PyProof.Rows.boot_set ?_)
  refine PyProof.Rows.callWith_type1 (thn ((pa_cons pa pa_nil he).run q pins s σ H (fun vs H2 => rSortSet X.K vs H2 Q) I h) fun us s1 ⟨vs, H1, I1, r1, q1⟩ => ?_) he rfl
  obtain ⟨a, ks, rfl, hq, hl, qq⟩ := q1
  rw [Vals.ref1 r1]
  obtain ⟨its, rv, pl, hz⟩ := I1.list hq
  refine set_of_list ks (I1.ok.hd hc) pl.isList (by simpa using rv.ints) (by unfold scanBound; omega) fun g tg m hS hm2 keep => ?_
  refine PyProof.Rows.args_nil ?_
  have I2 : Inv X pins σ H1 { s1 with heap := g, toks := tg } := I1.kept keep
  refine sorted_set hS (I1.ok.hd hc) (by omega) fun s' b out c ns k1 g1 o1 hle ho hI hlt hmem hlen => ?_
  have eq : ns = sortI (dedupI ks) := by
    have nd : ns.Nodup := hlt.imp fun h => by omega
    refine sorted_one (nodup_perm nd (dedup_nodup ks) fun k => ?_) (hlt.imp fun h => by omega)
    rw [hmem k, dedup_mem]
    simp
  subst eq
  have hn : H1 b = none := I2.hok.fresh hle
  have line : ((sortI (dedupI ks)).map V.int).length ≤ sizeLine := by
    rw [List.length_map, hlen, sizeLine_eq]
    omega
  have J : Inv X pins σ (upd H1 b (.lst ((sortI (dedupI ks)).map V.int))) { ({ s1 with heap := g, toks := tg } : Shared) with heap := s'.heap, gens := s'.gens, drawn := s'.drawn, toks := s'.toks } :=
    I2.call (ch := []) (Un.laid k1 hle hn) (I2.hok.laid k1 hle ⟨line, out.toList, c, vals_of_ints hI, ho⟩) (by rw [g1]; exact I2.bare) (fun _ z => nomatch z)
  have es : s' = { ({ s1 with heap := g, toks := tg } : Shared) with heap := s'.heap, gens := s'.gens, drawn := s'.drawn, toks := s'.toks } := by
    obtain ⟨a1, a2, a3, a4, a5⟩ := s'
    obtain ⟨b1, b2, b3, b4, b5⟩ := s1
    cases o1
    rfl
  rw [es]
  exact ⟨.ref b, _, J, rfl, qq b hn⟩
def rLenSet (K : PySem.W.Frag) : List V → Hp → VK → Prop := fun xs H Q => ∃ (a : Addr) (ks : List Int), xs = [.ref a] ∧ SqL K H a (ks.map V.int) ∧ ks.length < 60 ∧ Q (.int ((dedupI ks).length : Nat)) H
theorem pe_lenSet' {ta : TE} (hm : X.mg "len" = none) (hm2 : X.mg "set" = none) (hg : Gl X "len") (hg2 : Gl X "set") (hc : X.calm = true) (pa : PE X e ta) (he : starEach [e] X.env = (false, eval e X.env) :: starEach [] X.env) :
    PE X (.Call (.Name "len" p) [.Call (.Name "set" p2) [e] [] q] [] pos) (fun σ H Q => ta σ H fun x H1 => rLenSet X.K [x] H1 Q) := by
  refine ⟨fun pins s σ H Q I h => ?_⟩
  refine Call_ (ld_blt I hg hm (by decide +kernel : bootBuiltins "len" = some (.builtin "len")) ?_)
  refine PyProof.Rows.callWith_builtin1 (PyProof.Rows.args_cons ?_ rfl) rfl rfl
  refine Call_ (ld_blt I hg2 hm2 PyProof.Rows.boot_set ?_)
  refine PyProof.Rows.callWith_type1 (thn ((pa_cons pa pa_nil he).run q pins s σ H (fun vs H2 => rLenSet X.K vs H2 Q) I h) fun us s1 ⟨vs, H1, I1, r1, q1⟩ => ?_) he rfl
  obtain ⟨a, ks, rfl, hq, hl, qq⟩ := q1
  rw [Vals.ref1 r1]
  obtain ⟨its, rv, pl, hz⟩ := I1.list hq
  refine set_of_list ks (I1.ok.hd hc) pl.isList (by simpa using rv.ints) (by unfold scanBound; omega) fun g tg m hS hm2 keep => ?_
  refine PyProof.Rows.args_nil ?_
  have I2 : Inv X pins σ H1 { s1 with heap := g, toks := tg } := I1.kept keep
  obtain ⟨o, es, ep, t, ho, hex, hd, hg, nd, mem, _, hf, hn, _⟩ := hS
  have len : es.size = (dedupI ks).length := by
    have z := nodup_len nd (dedup_nodup ks) fun k => by
      rw [← mem k, dedup_mem]
      simp
    rw [List.length_map, Array.length_toList] at z
    exact z
  refine call_len_set ho hex hd hf (by rw [hn]; omega) ⟨.int ((dedupI ks).length : Nat), H1, I2.tok _, ⟨_, by rw [len]⟩, qq⟩
def kSortedSet : D → Option D
  | .lst ds => (intsD ds).bind fun ks => if ks.length < 60 then some (.lst ((sortI (dedupI ks)).map D.int)) else none
  | _ => none
def kLenSet : D → Option D
  | .lst ds => (intsD ds).bind fun ks => if ks.length < 60 then some (.int ((dedupI ks).length : Nat)) else none
  | _ => none
theorem l_sortedSet {K : PySem.W.Frag} : Lift1 K true (fun x H Q => rSortSet K [x] H Q) kSortedSet := by
  intro G H x dx d Q s hx e hQ
  unfold kSortedSet at e
  split at e
  · obtain ⟨ks, e1, e2⟩ := Option.bind_eq_some_iff.mp e
    split at e2
    · rename_i hl
      cases e2
      obtain ⟨a, vs, rfl, ha, ra⟩ := hx.lst_inv
      have := ints_of ra e1
      subst this
      refine ⟨a, ks, rfl, .inl (.inl (s _ _ ha)), hl, fun p hp => ?_⟩
      obtain ⟨g, r⟩ := new_lst s (FzA.ints (sortI (dedupI ks))) hp
      exact hQ _ _ _ g r
    · cases e2
  · cases e
theorem l_lenSet {K : PySem.W.Frag} : Lift1 K false (fun x H Q => rLenSet K [x] H Q) kLenSet := by
  intro G H x dx d Q s hx e hQ
  unfold kLenSet at e
  split at e
  · obtain ⟨ks, e1, e2⟩ := Option.bind_eq_some_iff.mp e
    split at e2
    · rename_i hl
      cases e2
      obtain ⟨a, vs, rfl, ha, ra⟩ := hx.lst_inv
      have := ints_of ra e1
      subst this
      exact ⟨a, ks, rfl, .inl (.inl (s _ _ ha)), hl, hQ _ G H (.refl s) (.int _)⟩
    · cases e2
  · cases e
theorem ve_sortedSet (hm : X.mg "sorted" = none) (hm2 : X.mg "set" = none) (hc : X.calm = true) (hg : Gl X "sorted") (hg2 : Gl X "set") (ha : VE X M false e fa) (he : starEach [e] X.env = (false, eval e X.env) :: starEach [] X.env := by rfl) :
    VE X M true (.Call (.Name "sorted" p) [.Call (.Name "set" p2) [e] [] q] [] pos) (op1 kSortedSet fa) :=
  VE.lift1 (t' := id) (r := fun x H Q => rSortSet X.K [x] H Q) (fun h => pe_sortedSet hm hm2 hg hg2 hc h he) l_sortedSet ha
theorem ve_lenSet (hm : X.mg "len" = none) (hm2 : X.mg "set" = none) (hc : X.calm = true) (hg : Gl X "len") (hg2 : Gl X "set") (ha : VE X M false e fa) (he : starEach [e] X.env = (false, eval e X.env) :: starEach [] X.env := by rfl) :
    VE X M false (.Call (.Name "len" p) [.Call (.Name "set" p2) [e] [] q] [] pos) (op1 kLenSet fa) :=
  VE.lift1 (t' := id) (r := fun x H Q => rLenSet X.K [x] H Q) (fun h => pe_lenSet' hm hm2 hg hg2 hc h he) l_lenSet ha
end
end Bl

set_option Elab.async false
set_option linter.all false
set_option maxRecDepth 100000
set_option maxHeartbeats 8000000
/-! Vl16: zip(a, b, strict=True) at the library's level, over any two iterators that draw. -/
namespace Bl
open PySem PySem.Spec PyProof.Rows L2
abbrev kwS : List (Str × Value) := [(Str.ofString "strict", .bool true)]
/-- a zip that is strict -/
abbrev IsZipS (h : Heap) (z TI TO : Addr) (f0 : Value) : Prop := h.get? z = some { cls := .type "zip", dict := none, data := .fields #[f0, .bool false, .bool true, .ref TI, .ref TO], slots := #[] }
theorem typeCall_zipS (a b : Value) : checkTypeCall "zip" ⟨[a, b], kwS⟩ = pure () := by kernel_rfl
theorem newCall_zipS (a b : Value) : checkBuiltinCall "zip.__new__" ⟨[.type "zip", a, b], kwS⟩ = pure () := by kernel_rfl
theorem args_initS (o a b : Value) : argsOk "object.__init__" ⟨[o, a, b], kwS⟩ := by unfold argsOk; kernel_rfl
abbrev zsH (h : Heap) (o1 o2 : Obj) : Heap := (gzO2 h o1 o2).push { cls := .type "zip", data := .fields #[.none, .bool false, .bool true, .ref ((h.push o1).push o2).objs.size, .ref (gzT2 h o1 o2).objs.size] }
theorem meets_zipS {v1 v2 : Value} {o1 o2 : Obj} {H1 H2 : Heap → Prop} (B1 : Begins v1 o1 H1) (B2 : Begins v2 o2 H2) :
    Meets (Builtin.«zip.__new__» ⟨[.type "zip", v1, v2], kwS⟩) (fun _ R s => (H1 s.heap ∧ H2 s.heap) ∧ R (.ok (.ret (.ref (gzO2 s.heap o1 o2).objs.size))) { s with heap := zsH s.heap o1 o2 }) :=
  .of_wp fun prog w A R s h => by
    obtain ⟨hp, gs, dr, tk, os⟩ := s
    obtain ⟨⟨k1, k2⟩, h⟩ := h
    have self0 := sub_zip
    have it1 : ∀ {A' : Around} {E : Value → Shared → Prop} {Q : Value → Shared → Prop}, Q (.ref hp.objs.size) ⟨hp.push o1, gs, dr, tk, os⟩ → wpAny (model prog w) A' (pyIter v1) Q E ⟨hp, gs, dr, tk, os⟩ := fun q => B1.iter prog w _ _ ⟨hp, gs, dr, tk, os⟩ _ k1 q
    have it2 : ∀ {A' : Around} {E : Value → Shared → Prop} {Q : Value → Shared → Prop}, Q (.ref (hp.push o1).objs.size) ⟨(hp.push o1).push o2, gs, dr, tk, os⟩ → wpAny (model prog w) A' (pyIter v2) Q E ⟨hp.push o1, gs, dr, tk, os⟩ := fun q => B2.iter prog w _ _ ⟨hp.push o1, gs, dr, tk, os⟩ _ (B2.keeps _ _ k2 fun b o' e => Heap.get?_push_of_some _ e) q
    have e1 : (Str.ofString "strict" != ("strict" : Str)) = false := by decide +kernel
    wp_walk using it1, it2
    exact ⟨_, rfl, h⟩
section
variable {prog : Program} {w : World} {A : Around} {E : Value → Shared → Prop} {s : Shared}
theorem zipS_begins {v1 v2 : Value} {o1 o2 : Obj} {H1 H2 : Heap → Prop} {Q : Value → Shared → Prop} (B1 : Begins v1 o1 H1) (B2 : Begins v2 o2 H2) (k1 : H1 s.heap) (k2 : H2 s.heap)
    (h : ∀ g, IsZipS g (s.heap.objs.size + 4) (s.heap.objs.size + 2) (s.heap.objs.size + 3) .none → IsTupOf2 g (s.heap.objs.size + 2) (.ref s.heap.objs.size) (.ref (s.heap.objs.size + 1)) → IsTupOf2 g (s.heap.objs.size + 3) .none .none → g.get? s.heap.objs.size = some o1 → g.get? (s.heap.objs.size + 1) = some o2 →
      (∀ c o, s.heap.get? c = some o → g.get? c = some o) → Q (.ref (s.heap.objs.size + 4)) { s with heap := g }) :
    wpAny (model prog w) A (call (.type "zip") [v1, v2] kwS) Q E s := by
  refine callType_newKw PySem.F.called_zip (by decide) (typeCall_zipS _ _) (newCall_zipS _ _) (fun o => args_initS o _ _) PySem.F.entry_zip_new (meets_zipS B1 B2) ⟨⟨k1, k2⟩, ?_⟩
  have n1 : (s.heap.push o1).objs.size = s.heap.objs.size + 1 := Heap.size_push ..
  have n2 : ((s.heap.push o1).push o2).objs.size = s.heap.objs.size + 2 := by rw [Heap.size_push, n1]
  have n3 : (gzT2 s.heap o1 o2).objs.size = s.heap.objs.size + 3 := by rw [Heap.size_push, n2]
  have n4 : (gzO2 s.heap o1 o2).objs.size = s.heap.objs.size + 4 := by rw [Heap.size_push, n3]
  have up1 : ∀ {g : Heap} {x o : Obj} {c : Addr}, g.get? c = some o → (g.push x).get? c = some o := fun e => Heap.get?_push_of_some _ e
  have a5 : (zsH s.heap o1 o2).get? (gzO2 s.heap o1 o2).objs.size = some { cls := .type "zip", data := .fields #[.none, .bool false, .bool true, .ref ((s.heap.push o1).push o2).objs.size, .ref (gzT2 s.heap o1 o2).objs.size] } := Heap.get?_push_size _ rfl
  have a4 : (zsH s.heap o1 o2).get? (gzT2 s.heap o1 o2).objs.size = some _ := up1 (Heap.get?_push_size _ rfl)
  have a3 : (zsH s.heap o1 o2).get? ((s.heap.push o1).push o2).objs.size = some _ := up1 (up1 (Heap.get?_push_size _ rfl))
  have a2 : (zsH s.heap o1 o2).get? (s.heap.push o1).objs.size = some o2 := up1 (up1 (up1 (Heap.get?_push_size _ B2.free)))
  have a1 : (zsH s.heap o1 o2).get? s.heap.objs.size = some o1 := up1 (up1 (up1 (up1 (Heap.get?_push_size _ B1.free))))
  rw [n4, n3, n2] at a5
  rw [n3] at a4
  rw [n2, n1] at a3
  rw [n1] at a2
  show _ ∧ _
  rw [n4]
  exact ⟨⟨_, a5, rfl⟩, h _ a5 a3 a4 a1 a2 fun c o e => up1 (up1 (up1 (up1 (up1 e))))⟩

/-! ### a turn -/
variable {z TI TO i1 i2 : Addr} {fp1 fp2 : List Addr} {n1 n2 i : Nat} {P1 P2 : Nat → Value → Prop} {St1 St2 : Nat → Heap → Prop} {a1 a2 : Value}
theorem draw_item {it : Addr} {fp : List Addr} {n i : Nat} {P : Nat → Value → Prop} {St : Nat → Heap → Prop} {Q : Option Value → Shared → Prop} (D : Draws prog w A it fp n P St) (hi : i < n) (st : St i s.heap) (h : ∀ x g tk, P i x → St (i + 1) g → Heap.SameBut it s.heap g → Q (some x) { s with heap := g, toks := tk }) :
    wpAny (model prog w) A (Builtin.SmallTypes.nextOrEnd (.ref it)) Q E s := by
  unfold Builtin.SmallTypes.nextOrEnd
  exact wpAny_bind (wpAny_attempt (D.item i s _ _ hi st fun x g tk px sx sb => wpAny_pure (h x g tk px sx sb)))
theorem draw_end {it : Addr} {fp : List Addr} {n : Nat} {P : Nat → Value → Prop} {St : Nat → Heap → Prop} {Q : Option Value → Shared → Prop} (D : Draws prog w A it fp n P St) (st : St n s.heap) (h : ∀ g, Heap.ExtBut it s.heap g → Q none { s with heap := g }) :
    wpAny (model prog w) A (Builtin.SmallTypes.nextOrEnd (.ref it)) Q E s := by
  unfold Builtin.SmallTypes.nextOrEnd
  refine wpAny_bind (wpAny_attempt (D.done s _ _ st fun g e hg he => ?_))
  obtain ⟨o, ho, hc⟩ := he
  exact wpAny_bind (wpAny_isInstance (T := "StopIteration") (b := true) ⟨o, ho, hc⟩ isSubtype_stop (wpAny_pure (h g hg)))
theorem zipS_item {Q : Value → Shared → Prop} (S : ZipSep2 z TI TO i1 i2 fp1 fp2) (D1 : Draws prog w A i1 fp1 n1 P1 St1) (D2 : Draws prog w A i2 fp2 n2 P2 St2)
    (hz : IsZipS s.heap z TI TO .none) (hTI : IsTupOf2 s.heap TI (.ref i1) (.ref i2)) (hTO : IsTupOf2 s.heap TO a1 a2) (st1 : St1 i s.heap) (st2 : St2 i s.heap) (lt1 : i < n1) (lt2 : i < n2)
    (hQ : ∀ x y g tk, P1 i x → P2 i y → IsZipS g z TI TO (rawInt s.heap.objs.size) → IsTupOf2 g TO x y → St1 (i + 1) g → St2 (i + 1) g → IsTupOf2 g s.heap.objs.size x y → g.objs.size = s.heap.objs.size + 1 →
      (∀ c o, c ≠ z → c ≠ TO → c ≠ i1 → c ≠ i2 → s.heap.get? c = some o → g.get? c = some o) → Q (.ref s.heap.objs.size) { s with heap := g, toks := tk }) :
    wpAny (model prog w) A (Builtin.«zip.__next__» ⟨[.ref z], []⟩) (fun fin s' => ∃ v, fin = .done (.ret v) ∧ Q v s') E s := by
  obtain ⟨hp, gs, dr, tk0, os⟩ := s
  show wpAny _ _ (field (.ref z) 2 >>= _) _ _ _
  apply wpAny_bind; refine wpAny_field hz rfl (x := .bool true) rfl ?_
  show wpAny _ _ (field (.ref z) 3 >>= _) _ _ _
  apply wpAny_bind; refine wpAny_field hz rfl (x := .ref TI) rfl ?_
  apply wpAny_bind; refine wpAny_seqItems hTI rfl ?_
  show wpAny _ _ (Builtin.SmallTypes.ownedTupleIsFree (.ref z) >>= _) _ _ _
  apply wpAny_bind
  unfold Builtin.SmallTypes.ownedTupleIsFree
  apply wpAny_bind; refine wpAny_field hz rfl (x := .none) rfl (wpAny_pure ?_)
  simp only [if_true]
  apply wpAny_bind; refine wpAny_rule ?_
  apply wpAny_bind; refine wpAny_field hz rfl (x := .ref TO) rfl ?_
  apply wpAny_bind; refine wpAny_setField_rec hz (by simp) fun g0 z0 s0 => ?_
  replace z0 : IsZipS g0 z TI TO .ellipsis := z0
  replace s0 : Heap.SameBut z hp g0 := s0
  apply wpAny_bind
  simp only [List.zipIdx_cons, List.zipIdx_nil, List.forIn_cons, List.forIn_nil]
  apply wpAny_bind; apply wpAny_bind; apply wpAny_onRaise
  show wpAny _ _ (Builtin.SmallTypes.nextOrEnd (.ref i1)) _ _ ⟨g0, gs, dr, tk0, os⟩
  refine draw_item D1 lt1 (D1.over st1 s0 S.zf1) fun x g1 tk1 px t1 b1 => ?_
  replace b1 : Heap.SameBut i1 g0 g1 := b1
  have u1 : IsTupOf2 g1 TO a1 a2 := b1.extBut _ _ S.Ti1 (s0.extBut _ _ S.TOz hTO)
  apply wpAny_bind; refine wpAny_seqItems (s := ⟨g1, gs, dr, tk1, os⟩) u1 rfl ?_
  apply wpAny_bind; refine updateSeq_IsTupOf2 (s := ⟨g1, gs, dr, tk1, os⟩) u1 fun g2 u2 b2 => ?_
  replace u2 : IsTupOf2 g2 TO x a2 := u2
  replace b2 : Heap.SameBut TO g1 g2 := b2
  refine wpAny_bind (wpAny_letGo (wpAny_pure ?_))
  apply wpAny_bind; apply wpAny_bind; apply wpAny_onRaise
  show wpAny _ _ (Builtin.SmallTypes.nextOrEnd (.ref i2)) _ _ ⟨g2, gs, dr, tk1, os⟩
  refine draw_item D2 lt2 (D2.over (D2.over (D2.over st2 s0 S.zf2) b1 S.sep1_2) b2 S.Tf2) fun y g3 tk2 py t2 b3 => ?_
  replace b3 : Heap.SameBut i2 g2 g3 := b3
  have u3 : IsTupOf2 g3 TO x a2 := b3.extBut _ _ S.Ti2 u2
  apply wpAny_bind; refine wpAny_seqItems (s := ⟨g3, gs, dr, tk2, os⟩) u3 rfl ?_
  apply wpAny_bind; refine updateSeq_IsTupOf2 (s := ⟨g3, gs, dr, tk2, os⟩) u3 fun g4 u4 b4 => ?_
  replace u4 : IsTupOf2 g4 TO x y := u4
  replace b4 : Heap.SameBut TO g3 g4 := b4
  refine wpAny_bind (wpAny_letGo (wpAny_pure (wpAny_pure ?_)))
  apply wpAny_bind; refine wpAny_seqItems (s := ⟨g4, gs, dr, tk2, os⟩) u4 rfl ?_
  refine wpAny_bind (wpAny_newTuple ?_)
  have size4 : g4.objs.size = hp.objs.size := by rw [b4.1, b3.1, b2.1, b1.1, s0.1]
  have z4 : IsZipS g4 z TI TO .ellipsis := b4.extBut _ _ S.TOz.symm (b3.extBut _ _ S.zi2 (b2.extBut _ _ S.TOz.symm (b1.extBut _ _ S.zi1 z0)))
  have up4 : ∀ c o, c ≠ z → c ≠ TO → c ≠ i1 → c ≠ i2 → hp.get? c = some o → g4.get? c = some o := fun c o c1 c2 c3 c4 e => b4.extBut _ _ c2 (b3.extBut _ _ c4 (b2.extBut _ _ c2 (b1.extBut _ _ c3 (s0.extBut _ _ c1 e))))
  have t1' : St1 (i + 1) g4 := D1.over (D1.over (D1.over t1 b2 S.Tf1) b3 S.sep2_1) b4 S.Tf1
  have t2' : St2 (i + 1) g4 := D2.over t2 b4 S.Tf2
  have zlt : z < g4.objs.size := Heap.lt_size z4
  show wpAny _ _ (Builtin.SmallTypes.ownedTupleHandOut (.ref z) (.ref g4.objs.size) >>= _) _ _ ⟨g4.push { cls := .type "tuple", data := .seq #[x, y] }, gs, dr, tk2, os⟩
  apply wpAny_bind
  unfold Builtin.SmallTypes.ownedTupleHandOut
  have z5 : IsZipS (g4.push { cls := .type "tuple", data := .seq #[x, y] }) z TI TO .ellipsis := Heap.get?_push_of_some _ z4
  apply wpAny_bind; refine wpAny_setField_rec z5 (by simp) fun g6 z6 b6 => ?_
  replace z6 : IsZipS g6 z TI TO (rawInt g4.objs.size) := z6
  refine wpAny_setField_rec z6 (by simp) fun g7 z7 b7 => ?_
  replace z7 : IsZipS g7 z TI TO (rawInt g4.objs.size) := z7
  replace b6 : Heap.SameBut z (g4.push { cls := .type "tuple", data := .seq #[x, y] }) g6 := b6
  replace b7 : Heap.SameBut z g6 g7 := b7
  have up7 : ∀ c o, c ≠ z → g4.get? c = some o → g7.get? c = some o := fun c o c1 e => b7.extBut _ _ c1 (b6.extBut _ _ c1 (Heap.get?_push_of_some _ e))
  have t7 : IsTupOf2 g7 g4.objs.size x y := b7.extBut _ _ (Nat.ne_of_gt zlt) (b6.extBut _ _ (Nat.ne_of_gt zlt) (Heap.get?_push_size _ rfl))
  have size7 : g7.objs.size = g4.objs.size + 1 := by rw [b7.1, b6.1, Heap.size_push]
  rw [size4] at z7 t7 size7
  refine wpAny_pure ⟨_, rfl, ?_⟩
  show Q (.ref g4.objs.size) ⟨g7, gs, dr, tk2, os⟩
  rw [size4]
  exact hQ x y g7 tk2 px py z7 (up7 _ _ S.TOz u4) (D1.frame _ _ _ t1' fun b hb o e => up7 b o (fun q => S.zf1 (q ▸ hb)) e) (D2.frame _ _ _ t2' fun b hb o e => up7 b o (fun q => S.zf2 (q ▸ hb)) e) t7 size7 fun c o c1 c2 c3 c4 e => up7 c o c1 (up4 c o c1 c2 c3 c4 e)
theorem zipS_end {n : Nat} {Q : Fin → Shared → Prop} (hh : A.handled = none) (S : ZipSep2 z TI TO i1 i2 fp1 fp2) (D1 : Draws prog w A i1 fp1 n P1 St1) (D2 : Draws prog w A i2 fp2 n P2 St2)
    (hz : IsZipS s.heap z TI TO .none) (hTI : IsTupOf2 s.heap TI (.ref i1) (.ref i2)) (hTO : IsTupOf2 s.heap TO a1 a2) (st1 : St1 n s.heap) (st2 : St2 n s.heap)
    (hE : ∀ g tk e, (∀ c o, c ≠ z → c ≠ TO → c ≠ i1 → c ≠ i2 → s.heap.get? c = some o → g.get? c = some o) → (∃ o, g.get? e = some o ∧ o.cls = .type "StopIteration") → E (.ref e) { s with heap := g, toks := tk }) :
    wpAny (model prog w) A (Builtin.«zip.__next__» ⟨[.ref z], []⟩) Q E s := by
  obtain ⟨hp, gs, dr, tk0, os⟩ := s
  show wpAny _ _ (field (.ref z) 2 >>= _) _ _ _
  apply wpAny_bind; refine wpAny_field hz rfl (x := .bool true) rfl ?_
  show wpAny _ _ (field (.ref z) 3 >>= _) _ _ _
  apply wpAny_bind; refine wpAny_field hz rfl (x := .ref TI) rfl ?_
  apply wpAny_bind; refine wpAny_seqItems hTI rfl ?_
  show wpAny _ _ (Builtin.SmallTypes.ownedTupleIsFree (.ref z) >>= _) _ _ _
  apply wpAny_bind
  unfold Builtin.SmallTypes.ownedTupleIsFree
  apply wpAny_bind; refine wpAny_field hz rfl (x := .none) rfl (wpAny_pure ?_)
  simp only [if_true]
  apply wpAny_bind; refine wpAny_rule ?_
  apply wpAny_bind; refine wpAny_field hz rfl (x := .ref TO) rfl ?_
  apply wpAny_bind; refine wpAny_setField_rec hz (by simp) fun g0 z0 s0 => ?_
  replace z0 : IsZipS g0 z TI TO .ellipsis := z0
  replace s0 : Heap.SameBut z hp g0 := s0
  apply wpAny_bind
  simp only [List.zipIdx_cons, List.zipIdx_nil, List.forIn_cons, List.forIn_nil]
  apply wpAny_bind; apply wpAny_bind; apply wpAny_onRaise
  show wpAny _ _ (Builtin.SmallTypes.nextOrEnd (.ref i1)) _ _ ⟨g0, gs, dr, tk0, os⟩
  refine draw_end D1 (D1.over st1 s0 S.zf1) fun g1 b1 => ?_
  replace b1 : Heap.ExtBut i1 g0 g1 := b1
  have z1 : IsZipS g1 z TI TO .ellipsis := b1 _ _ S.zi1 z0
  apply wpAny_bind; refine wpAny_setField_rec (s := ⟨g1, gs, dr, tk0, os⟩) z1 (by simp) fun g2 z2 b2 => ?_
  replace b2 : Heap.SameBut z g1 g2 := b2
  have up2 : ∀ c o, c ≠ z → c ≠ i1 → hp.get? c = some o → g2.get? c = some o := fun c o c1 c2 e => b2.extBut _ _ c1 (b1 _ _ c2 (s0.extBut _ _ c1 e))
  have t2 : St2 n g2 := D2.frame _ _ _ st2 fun b hb o e => up2 b o (fun q => S.zf2 (q ▸ hb)) (fun q => S.sep1_2 (q ▸ hb)) e
  refine wpAny_bind ?_
  refine wpAny_bind ?_
  simp only [List.drop_succ_cons, List.drop_zero, List.zipIdx_cons, List.zipIdx_nil, List.forIn_cons, List.forIn_nil]
  apply wpAny_bind; apply wpAny_bind
  refine draw_end (s := ⟨g2, gs, dr, tk0, os⟩) D2 t2 fun g3 b3 => ?_
  replace b3 : Heap.ExtBut i2 g2 g3 := b3
  show wpAny _ _ (pure (ForInStep.yield PUnit.unit)) _ _ _
  apply wpAny_pure
  apply wpAny_pure
  apply wpAny_bind; refine wpAny_rule ?_
  unfold Builtin.SmallTypes.stopIteration
  apply wpAny_bind
  simp only [newExc, newTuple]
  apply wpAny_bind; refine wpAny_newObj_type ?_ (by size_fits)
  apply wpAny_bind (m := firstArgMember _ _); refine wpAny_of_eq (a := Value.none) (by first | rfl | (simp only [firstArgMember]; rfl)) ?_
  refine wpAny_newObj_type ?_ (by size_fits)
  simp only [raiseNew]
  apply wpAny_bind; apply wpAny_handled
  rw [hh]
  apply wpAny_throw
  exact hE _ tk0 _ (fun c o c1 c2 c3 c4 e => Heap.get?_push_of_some _ (Heap.get?_push_of_some _ (b3 _ _ c4 (up2 c o c1 c3 e)))) ⟨_, Heap.get?_push_size _ rfl, rfl⟩
theorem pyNext_zipS_item {Q : Option Value → Shared → Prop} (S : ZipSep2 z TI TO i1 i2 fp1 fp2) (D1 : Draws prog w A.in1 i1 fp1 n1 P1 St1) (D2 : Draws prog w A.in1 i2 fp2 n2 P2 St2)
    (hz : IsZipS s.heap z TI TO .none) (hTI : IsTupOf2 s.heap TI (.ref i1) (.ref i2)) (hTO : IsTupOf2 s.heap TO a1 a2) (st1 : St1 i s.heap) (st2 : St2 i s.heap) (lt1 : i < n1) (lt2 : i < n2)
    (hQ : ∀ x y g tk, P1 i x → P2 i y → IsZipS g z TI TO (rawInt s.heap.objs.size) → IsTupOf2 g TO x y → St1 (i + 1) g → St2 (i + 1) g → IsTupOf2 g s.heap.objs.size x y → g.objs.size = s.heap.objs.size + 1 →
      (∀ c o, c ≠ z → c ≠ TO → c ≠ i1 → c ≠ i2 → s.heap.get? c = some o → g.get? c = some o) → Q (some (.ref s.heap.objs.size)) { s with heap := g, toks := tk }) :
    wpAny (model prog w) A (pyNext (.ref z)) Q E s := by
  have ty : s.TypeIs (.ref z) "zip" := ⟨_, hz, rfl⟩
  unfold pyNext
  refine wpAny_bind (wpAny_attempt (wpAny_callSpecial?_slot (name := Str.ofString "__next__") ty PySem.F.slot_zip_next (wpAny_call_entry PySem.F.slot_zip_next ty PySem.F.entry_zip_next ?_ (PySem.F.args_zip_next_1 _))))
  exact zipS_item S D1 D2 hz hTI hTO st1 st2 lt1 lt2 fun x y g tk b1 b2 b3 b4 b5 b6 b7 b8 b9 => wpAny_pure (hQ x y g tk b1 b2 b3 b4 b5 b6 b7 b8 b9)
theorem pyNext_zipS_end {n : Nat} {Q : Option Value → Shared → Prop} (hh : A.handled = none) (S : ZipSep2 z TI TO i1 i2 fp1 fp2) (D1 : Draws prog w A.in1 i1 fp1 n P1 St1) (D2 : Draws prog w A.in1 i2 fp2 n P2 St2)
    (hz : IsZipS s.heap z TI TO .none) (hTI : IsTupOf2 s.heap TI (.ref i1) (.ref i2)) (hTO : IsTupOf2 s.heap TO a1 a2) (st1 : St1 n s.heap) (st2 : St2 n s.heap)
    (hQ : ∀ g tk, (∀ c o, c ≠ z → c ≠ TO → c ≠ i1 → c ≠ i2 → s.heap.get? c = some o → g.get? c = some o) → Q none { s with heap := g, toks := tk }) : wpAny (model prog w) A (pyNext (.ref z)) Q E s := by
  have ty : s.TypeIs (.ref z) "zip" := ⟨_, hz, rfl⟩
  unfold pyNext
  refine wpAny_bind (wpAny_attempt (wpAny_callSpecial?_slot (name := Str.ofString "__next__") ty PySem.F.slot_zip_next (wpAny_call_entry PySem.F.slot_zip_next ty PySem.F.entry_zip_next ?_ (PySem.F.args_zip_next_1 _))))
  refine zipS_end (A := A.in1) hh S D1 D2 hz hTI hTO st1 st2 fun g tk e k ⟨o, ho, hc⟩ => ?_
  exact wpAny_bind (wpAny_isInstance (T := "StopIteration") (b := true) ⟨o, ho, hc⟩ isSubtype_stop (wpAny_pure (hQ _ _ k)))
theorem go_zipS {elts : List Expr} {kk : Nat} {pos : Pos} {T : Addr} {Q : Unit → Shared → Prop} (hz : IsZipS s.heap z TI TO (rawInt T)) (hQ : ∀ g, IsZipS g z TI TO .none → Heap.SameBut z s.heap g → Q () { s with heap := g }) :
    wpAny (model prog w) A (letOwnedTupleGo (.Tuple elts kk pos) (.ref z) (.ref T)) Q E s := by
  unfold letOwnedTupleGo
  apply wpAny_bind; refine wpAny_load hz ?_
  show wpAny _ _ (if (["enumerate", "zip", "dict_itemiterator", "dict_reverseitemiterator", "odict_iterator", "itertools.zip_longest", "itertools.pairwise"].contains "zip" && (#[rawInt T, .bool false, .bool true, .ref TI, .ref TO] : Array Value)[0]? == some (rawInt T)) = true then _ else _) Q E s
  rw [if_pos (by simp)]
  apply wpAny_bind; refine wpAny_rule ?_
  show wpAny _ _ (setField (.ref z) 0 .none) Q E s
  exact wpAny_setField_rec hz (by simp) fun g z' b => hQ g z' b
theorem iter_zipS {f0 : Value} {Q : Value → Shared → Prop} (hz : IsZipS s.heap z TI TO f0) (h : Q (.ref z) s) : wpAny (model prog w) A (pyIter (.ref z)) Q E s := by
  have ty : s.TypeIs (.ref z) "zip" := ⟨_, hz, rfl⟩
  refine wpAny_pyIter_slot ty PySem.F.slot_zip_iter (wpAny_call_entry PySem.F.slot_zip_iter ty PySem.F.entry_zip_iter ?_ (PySem.F.args_zip_iter_1 _))
  show wpAny _ _ (ret (.ref z)) _ _ s
  exact wpAny_pure ⟨_, rfl, "zip", _, ty, PySem.F.slot_zip_next.lookup, h⟩
end
end Bl

set_option Elab.async false
set_option linter.all false
set_option maxRecDepth 100000
set_option maxHeartbeats 8000000
/-! Vl17: enumerate and zip over lists and tuples, by data. -/
namespace Bl
open PySem PySem.Spec PyProof.Rows L2

/-! ### a list (true) or a tuple (false) -/
def SqW (t : Bool) (K : PySem.W.Frag) (H : Hp) (a : Addr) (xs : List V) : Prop := match t with | true => SqL K H a xs | false => SqT K H a xs
def IsW (t : Bool) (h : Heap) (a : Addr) (arr : Array Value) : Prop := match t with | true => h.IsList a arr | false => h.IsTuple a arr
def ItW (t : Bool) (h : Heap) (it a : Addr) (i : Nat) : Prop := match t with | true => h.IsListIter it a i | false => h.IsTupleIter it a i
def obW (t : Bool) (a : Addr) : Obj := match t with | true => { cls := .type "list_iterator", data := .fields #[.ref a, .int 0 0] } | false => { cls := .type "tuple_iterator", data := .fields #[.ref a, .int 0 0] }
theorem beginsW (t : Bool) (a : Addr) (arr : Array Value) : Begins (.ref a) (obW t a) fun h => IsW t h a arr := match t with
  | true => begins_list a arr
  | false => begins_tuple a arr
theorem drawsW (t : Bool) {prog : Program} {w : World} {A : Around} (hh : A.handled = none) (it a : Addr) (hne : a ≠ it) (arr : Array Value) : Draws prog w A it [it, a] arr.size (fun i v => arr[i]? = some v) (fun i h => ItW t h it a i ∧ IsW t h a arr) := match t with
  | true => Draws.list hh it a hne arr
  | false => Draws.tuple hh it a hne arr
theorem ItW.new (t : Bool) {h : Heap} {it a : Addr} (e : h.get? it = some (obW t a)) : ItW t h it a 0 := match t with
  | true => ⟨_, e, rfl, rfl⟩
  | false => ⟨_, e, rfl, rfl⟩
theorem ItW.keep {t : Bool} {h h' : Heap} {it a : Addr} {i : Nat} (x : ItW t h it a i) (k : ∀ o, h.get? it = some o → h'.get? it = some o) : ItW t h' it a i := match t, x with
  | true, x => Heap.IsListIter.at x k
  | false, x => Heap.IsTupleIter.at x k
theorem ItW.obj {t : Bool} {h : Heap} {it a : Addr} {i : Nat} (x : ItW t h it a i) : ∃ o, h.get? it = some o ∧ ∀ v, o.data ≠ .cell v := match t, x with
  | true, ⟨o, e, _, d⟩ => ⟨o, e, fun v z => by rw [d] at z; cases z⟩
  | false, ⟨o, e, _, d⟩ => ⟨o, e, fun v z => by rw [d] at z; cases z⟩
section
variable {X : Cx} {pins : List (Addr × Obj)} {σ : L2.St} {H : Hp} {s : Shared}
theorem seqW (I : Inv X pins σ H s) {t : Bool} {a : Addr} {xs : List V} (h : SqW t X.K H a xs) : ∃ its, Vals xs its ∧ IsW t s.heap a its.toArray ∧ a < s.heap.objs.size := by
  cases t with
  | true =>
    obtain ⟨its, rv, p, _⟩ := I.list h
    exact ⟨its, rv, p.isList, p.lt⟩
  | false =>
    obtain ⟨its, rv, p, _⟩ := I.tuple h
    obtain ⟨o, ho, _⟩ := id p
    exact ⟨its, rv, p, Heap.lt_size ho⟩
theorem injW (I : Inv X pins σ H s) {t : Bool} {a : Addr} {xs ys : List V} (h : SqW t X.K H a xs) (h' : SqW t X.K H a ys) : xs = ys := by
  cases t with
  | true => exact I.list_inj h h'
  | false => exact I.tuple_inj h h'
end

/-! ### enumerate(x) -/
theorem meets_enum1 {v : Value} {o : Obj} {H : Heap → Prop} (B : Begins v o H) :
    Meets (Builtin.«enumerate.__new__» ⟨[.type "enumerate", v], []⟩) (fun _ R s => H s.heap ∧
      R (.ok (.ret (.ref (s.heap.push o).objs.size))) { s with heap := (s.heap.push o).push { cls := .type "enumerate", data := .fields #[.none, .bool false, .ref s.heap.objs.size, rawInt 0, .none, .none] } }) :=
  .of_wp fun prog w A R s h => by
    obtain ⟨hp, gs, dr, tk, os⟩ := s
    obtain ⟨k1, h⟩ := h
    have self0 := sub_enumerate
    have it1 : ∀ {A' : Around} {E : Value → Shared → Prop} {Q : Value → Shared → Prop}, Q (.ref hp.objs.size) ⟨hp.push o, gs, dr, tk, os⟩ → wpAny (model prog w) A' (pyIter v) Q E ⟨hp, gs, dr, tk, os⟩ := fun q => B.iter prog w _ _ ⟨hp, gs, dr, tk, os⟩ _ k1 q
    wp_walk using it1
    refine wpAny_stack_any fun st => wpAny_pure ?_
    split
    · rename_i c _ _ _ _ _
      cases (c == Value.type "enumerate") <;> (wp_walk using it1; exact ⟨_, rfl, h⟩)
    · wp_walk using it1
      exact ⟨_, rfl, h⟩
theorem enum1_begins {prog : Program} {w : World} {A : Around} {E : Value → Shared → Prop} {s : Shared} {v : Value} {o : Obj} {H : Heap → Prop} {Q : Value → Shared → Prop} (B : Begins v o H) (k1 : H s.heap)
    (h : ∀ g, IsEnum g (s.heap.objs.size + 1) s.heap.objs.size 0 .none → g.get? s.heap.objs.size = some o → (∀ b u, s.heap.get? b = some u → g.get? b = some u) → Q (.ref (s.heap.objs.size + 1)) { s with heap := g }) :
    wpAny (model prog w) A (call (.type "enumerate") [v]) Q E s := by
  refine callType_new PySem.F.called_enumerate (by decide) (PySem.F.typeCall_enumerate_1 _) (PySem.F.newCall_enumerate_1 _) (fun x => PySem.F.args_object_init_2 x _) PySem.F.entry_enumerate_new (meets_enum1 B) ⟨k1, ?_⟩
  have n1 : (s.heap.push o).objs.size = s.heap.objs.size + 1 := Heap.size_push ..
  show _ ∧ _
  rw [n1]
  have en : IsEnum ((s.heap.push o).push { cls := .type "enumerate", data := .fields #[.none, .bool false, .ref s.heap.objs.size, rawInt 0, .none, .none] }) (s.heap.objs.size + 1) s.heap.objs.size 0 .none := by
    have z := Heap.get?_push_size (s.heap.push o) (o := { cls := .type "enumerate", data := .fields #[.none, .bool false, .ref s.heap.objs.size, rawInt 0, .none, .none] }) rfl
    rwa [n1] at z
  exact ⟨⟨_, en, rfl⟩, h _ en (Heap.get?_push_of_some _ (Heap.get?_push_size _ B.free)) fun b u e => Heap.get?_push_of_some _ (Heap.get?_push_of_some _ e)⟩
def IteW (t : Bool) (K : PySem.W.Frag) (a : Addr) : It :=
  ⟨fun i H => ∃ (xs : List V) (x : V), SqW t K H a xs ∧ xs[i]? = some x, fun i H v H' => ∃ T x, v = .ref T ∧ H T = none ∧ H' = upd H T (.tup [.int (i : Nat), x]) ∧ ∀ xs, SqW t K H a xs → xs[i]? = some x, fun i H => ∃ xs : List V, SqW t K H a xs ∧ xs.length = i⟩
theorem turn_enumW {P : Program} {w : World} {K : PySem.W.Frag} {elts : List Expr} {kk : Nat} {tpos : Pos} (t : Bool) (a e it : Addr) :
    Turn P w K (.Tuple elts kk tpos) (IteW t K a) [e, it] e (fun i h => (∃ old, IsEnum h e it ((i : Nat) : Int) old) ∧ ItW t h it a i ∧ e ≠ it ∧ e ≠ a ∧ a ≠ it) where
  mem := List.mem_cons_self ..
  obj := fun i h ⟨⟨old, he⟩, hit, _⟩ b hb => by
    rcases List.mem_cons.mp hb with z | z
    · rw [z]; exact ⟨_, he, fun v q => nomatch q⟩
    · rw [List.mem_singleton.mp z]; exact hit.obj
  keep := fun i h h' ⟨⟨old, he⟩, hit, ne⟩ k => ⟨⟨old, k e (List.mem_cons_self ..) _ he⟩, hit.keep fun o q => k it (List.mem_cons_of_mem _ (List.mem_singleton.mpr rfl)) o q, ne⟩
  item := by
    intro X eP ew eK hc i pins s σ H E I hf st hg
    subst eP ew eK
    obtain ⟨⟨old, he⟩, hit, n1, n2, n3⟩ := st
    obtain ⟨xs, x, hq, hx⟩ := hg
    obtain ⟨its, rv, isw, _⟩ := seqW I hq
    obtain ⟨u, hu, ru⟩ := rv.get hx
    have hi : i < its.toArray.size := by
      have := (List.getElem?_eq_some_iff.mp hu).1
      simpa using this
    have elt : e < s.heap.objs.size := Heap.lt_size he
    have ilt : it < s.heap.objs.size := by obtain ⟨_, q, _⟩ := hit.obj; exact Heap.lt_size q
    refine wpAny_pyNext_enum_itemC (drawsW t (A := X.A.in1) (I.ok.hd hc) it a n3 its.toArray) he ⟨hit, isw⟩ hi n1 (fun z => ?_) fun y g tk py out hst hT hsz keep => ?_
    · rcases List.mem_cons.mp z with z | z
      · exact n1 z
      · exact n2 (List.mem_singleton.mp z)
    have ey : y = u := by
      have : its.toArray[i]? = some u := by simpa using hu
      rw [this] at py
      exact (Option.some.inj py).symm
    subst ey
    refine ⟨_, rfl, wpAny_letOwnedTupleGo_enum (s := { s with heap := g, toks := tk + 1 }) out fun g2 en2 sb => ?_⟩
    have hT2 : g2.get? s.heap.objs.size = some { cls := .type "tuple", data := .seq #[.int i tk, y] } := (sb.2 _ (Nat.ne_of_gt elt)).trans hT
    have new : ObjOk X.prog X.w (upd H s.heap.objs.size (.tup [.int (i : Nat), x])) g2 s.heap.objs.size (.tup [.int (i : Nat), x]) := ⟨by show 2 ≤ sizeLine; decide, [.int i tk, y], .cons ⟨_, rfl⟩ (.cons ru .nil), ⟨_, hT2, rfl, _, rfl⟩⟩
    have I1 : Inv X pins σ (upd H s.heap.objs.size (.tup [.int (i : Nat), x])) { s with heap := g2, toks := tk + 1 } :=
      I.turnedNew (ch := [e, it]) (fun b o hb q => (sb.2 b fun z => hb (z ▸ List.mem_cons_self ..)).trans (keep b o (fun z => hb (z ▸ List.mem_cons_self ..)) (fun z => hb (z ▸ List.mem_cons_of_mem _ (List.mem_singleton.mpr rfl))) q)) hf (Nat.le_refl _) new
    refine ⟨.ref s.heap.objs.size, _, I1, rfl, ⟨_, x, rfl, I.hok.fresh (Nat.le_refl _), rfl, fun ys hy => by rw [injW I hy hq]; exact hx⟩, ⟨⟨y, ?_⟩, hst.1.keep fun o q => (sb.2 it (Ne.symm n1)).trans q, n1, n2, n3⟩, fun b hb => ?_⟩
    · have e1 : ((i + 1 : Nat) : Int) = (i : Int) + 1 := by omega
      rw [e1]
      exact en2
    · have blt : b < s.heap.objs.size := by
        rcases List.mem_cons.mp hb with z | z
        · rw [z]; exact elt
        · rw [List.mem_singleton.mp z]; exact ilt
      rw [upd_ne (Nat.ne_of_lt blt)]
      exact (hf b hb).1
  done := by
    intro X eP ew eK hc i pins s σ H E I hf st hg
    subst eP ew eK
    obtain ⟨⟨old, he⟩, hit, n1, n2, n3⟩ := st
    obtain ⟨xs, hq, hx⟩ := hg
    obtain ⟨its, rv, isw, _⟩ := seqW I hq
    obtain ⟨f0, f1, f2, f3, f4, f5⟩ := hf it (List.mem_cons_of_mem _ (List.mem_singleton.mpr rfl))
    have hi : i = its.toArray.size := by rw [← hx, rv.length]; simp
    refine wpAny_pyNext_enum_endD (drawsW t (A := X.A.in1) (I.ok.hd hc) it a n3 its.toArray) he (by rw [← hi]; exact ⟨hit, isw⟩) fun g eb => ⟨rfl, ?_⟩
    exact I.turned (t' := s.toks) (fun b o hb q => eb b o hb q) f0 f1 f3 f4 f5
  self := fun A i s Q E st h => let ⟨⟨_, he⟩, _⟩ := st; wpAny_pyIter_enum he h
def iEnumW (t : Bool) (K : PySem.W.Frag) (ta : TA) : TI := fun σ H R => ta σ H fun vs H1 => ∃ a xs, vs = [.ref a] ∧ SqW t K H1 a xs ∧ R (IteW t K a) H1
theorem pi_enumW {X : Cx} {e : Expr} {ta : TA} {p pos tpos : Pos} {elts : List Expr} {kk : Nat} (t : Bool) (hg : Gl X "enumerate") (hm : X.mg "enumerate" = none) (ha : PA X [e] ta) (hs : starEach [e] X.env = [(false, eval e X.env)] := by rfl) :
    PI X (.Tuple elts kk tpos) (.Call (.Name "enumerate" p) [e] [] pos) (iEnumW t X.K ta) := by
  refine ⟨fun pins s σ H R I h => ?_⟩
  refine Call_ (ld_blt I hg hm boot_enumerate (PyProof.Rows.callWith_type1 (thn (ha.run pos pins s σ H _ I h) fun us s1 ⟨vs, H1, I1, r1, q1⟩ => ?_) hs rfl))
  obtain ⟨a, xs, rfl, hq, q⟩ := q1
  rw [Vals.ref1 r1]
  obtain ⟨its, rv, isw, alt⟩ := seqW I1 hq
  refine enum1_begins (beginsW t a its.toArray) isw fun g en ho keep => wpAny_pyIter_enum en ?_
  have I2 : Inv X pins σ H1 { s1 with heap := g } := I1.kept (t' := s1.toks) keep
  refine ⟨s1.heap.objs.size + 1, [s1.heap.objs.size + 1, s1.heap.objs.size], _, _, H1, rfl, I2, turn_enumW t a (s1.heap.objs.size + 1) s1.heap.objs.size, ⟨⟨.none, en⟩, ItW.new t ho, Nat.succ_ne_self _, fun z => ?_, Nat.ne_of_lt alt⟩, fun b hb => ?_, q⟩
  · rw [← z] at alt
    exact Nat.not_succ_lt_self alt
  · have hle : s1.heap.objs.size ≤ b := by
      rcases List.mem_cons.mp hb with z | z
      · rw [z]; exact Nat.le_add_right _ _
      · rw [List.mem_singleton.mp z]; exact Nat.le_refl _
    exact I1.fpOk hle (I1.hok.fresh hle)
/-- by data -/
def enumD : Nat → List D → List D
  | _, [] => []
  | k, d :: r => .tup [.int (k : Nat), d] :: enumD (k + 1) r
theorem enumD_get : ∀ (ds : List D) (k i : Nat), (enumD k ds)[i]? = (ds[i]?).map fun d => .tup [.int ((k + i : Nat) : Int), d]
  | [], _, _ => by simp [enumD]
  | d :: r, k, 0 => by simp [enumD]
  | d :: r, k, i + 1 => by
    rw [enumD, List.getElem?_cons_succ, List.getElem?_cons_succ, enumD_get r (k + 1) i]
    rw [show k + 1 + i = k + (i + 1) by omega]
theorem enumD_len : ∀ (ds : List D) (k : Nat), (enumD k ds).length = ds.length
  | [], _ => rfl
  | d :: r, k => by rw [enumD, List.length_cons, List.length_cons, enumD_len r]
theorem walks_enum {K : PySem.W.Frag} {t : Bool} {G0 : Hp} {a : Addr} {vs : List V} {ds : List D} (h : ∀ G H, Same G0 G → Same G H → SqW t K H a vs) (r : FzA K G0 vs ds) : Walks K (IteW t K a) G0 (enumD 0 ds) := by
  intro i G H s1 s2
  have hH := h G H s1 s2
  refine ⟨fun hl => ⟨vs, hH, by rw [r.length]; rw [enumD_len] at hl; exact hl⟩, fun d e => ?_⟩
  rw [enumD_get, Nat.zero_add] at e
  obtain ⟨d', e1, e2⟩ := Option.map_eq_some_iff.mp e
  subst e2
  obtain ⟨v, h1, h2⟩ := r.get e1
  refine ⟨⟨vs, v, hH, h1⟩, fun x H' ⟨T, y, e3, hT, e4, e5⟩ => ?_⟩
  have := e5 vs hH
  rw [h1] at this
  cases this
  subst e3 e4
  obtain ⟨g, q⟩ := new_tup (vs := [.int (i : Nat), v]) s2 (.cons (.int _) (.cons (h2.mono s1) .nil)) hT
  exact ⟨_, g, q⟩
def iEnumT (fa : Ea) : Ea := fun ρ => (fa ρ).bind fun p => match p.1 with | [.tup ds] => some (enumD 0 ds, p.2) | _ => none
def iEnumL (fa : Ea) : Ea := fun ρ => (fa ρ).bind fun p => match p.1 with | [.lst ds] => some (enumD 0 ds, p.2) | _ => none
section
variable {X : Cx} {M : List Nat} {e : Expr} {fa : Ea} {js : List (Option Nat)} {p pos tpos : Pos} {elts : List Expr} {kk : Nat}
theorem vi_enumT (hg : Gl X "enumerate") (hm : X.mg "enumerate" = none) (hj : allN js = true) (ha : VA X M js [e] fa) (hs : starEach [e] X.env = [(false, eval e X.env)] := by rfl) : VI X M (.Tuple elts kk tpos) (.Call (.Name "enumerate" p) [e] [] pos) (iEnumT fa) := by
  obtain ⟨t, q, k⟩ := ha
  refine ⟨_, pi_enumW false hg hm q hs, fun G H σ ρ f ds ρ' Q R e hQ => ?_⟩
  obtain ⟨⟨d, ρ1⟩, e1, e2⟩ := Option.bind_eq_some_iff.mp e
  refine k G H σ ρ f d ρ1 _ R e1 fun v G' H' f' S R' r => ?_
  split at e2
  · rename_i z
    simp only at z
    subst z
    cases e2
    obtain ⟨v, rfl, h1⟩ := (r.all hj).one
    obtain ⟨b, vs, rfl, h2, h3⟩ := h1.tup_inv
    exact ⟨b, vs, rfl, .inl (.inl (R'.sub _ _ h2)), hQ _ G' H' f' S R' (walks_enum (t := false) (fun G H s1 s2 => .inl (.inl (s2 _ _ (s1 _ _ h2)))) h3)⟩
  · cases e2
theorem vi_enumL (hg : Gl X "enumerate") (hm : X.mg "enumerate" = none) (hj : allN js = true) (ha : VA X M js [e] fa) (hs : starEach [e] X.env = [(false, eval e X.env)] := by rfl) : VI X M (.Tuple elts kk tpos) (.Call (.Name "enumerate" p) [e] [] pos) (iEnumL fa) := by
  obtain ⟨t, q, k⟩ := ha
  refine ⟨_, pi_enumW true hg hm q hs, fun G H σ ρ f ds ρ' Q R e hQ => ?_⟩
  obtain ⟨⟨d, ρ1⟩, e1, e2⟩ := Option.bind_eq_some_iff.mp e
  refine k G H σ ρ f d ρ1 _ R e1 fun v G' H' f' S R' r => ?_
  split at e2
  · rename_i z
    simp only at z
    subst z
    cases e2
    obtain ⟨v, rfl, h1⟩ := (r.all hj).one
    obtain ⟨b, vs, rfl, h2, h3⟩ := h1.lst_inv
    exact ⟨b, vs, rfl, .inl (.inl (R'.sub _ _ h2)), hQ _ G' H' f' S R' (walks_enum (t := true) (fun G H s1 s2 => .inl (.inl (s2 _ _ (s1 _ _ h2)))) h3)⟩
  · cases e2
end
end Bl

set_option Elab.async false
set_option linter.all false
set_option maxRecDepth 100000
set_option maxHeartbeats 8000000
/-! Vl18: zip of two, strict or not, over lists and tuples, by data. -/
namespace Bl
open PySem PySem.Spec PyProof.Rows L2
def IsZB (b : Bool) (h : Heap) (z TI TO : Addr) (f0 : Value) : Prop := match b with | false => IsZip h z TI TO f0 | true => IsZipS h z TI TO f0
theorem IsZB.at {b : Bool} {h : Heap} {z TI TO : Addr} {f0 : Value} (x : IsZB b h z TI TO f0) : ∃ fs, h.get? z = some { cls := .type "zip", dict := none, data := .fields fs, slots := #[] } := match b, x with
  | false, x => ⟨_, x⟩
  | true, x => ⟨_, x⟩
theorem IsZB.keep {b : Bool} {h h' : Heap} {z TI TO : Addr} {f0 : Value} (x : IsZB b h z TI TO f0) (k : ∀ o, h.get? z = some o → h'.get? z = some o) : IsZB b h' z TI TO f0 := match b, x with
  | false, x => k _ x
  | true, x => k _ x
section
variable {prog : Program} {w : World} {A : Around} {E : Value → Shared → Prop} {s : Shared} {z TI TO i1 i2 : Addr} {fp1 fp2 : List Addr} {n1 n2 i : Nat} {P1 P2 : Nat → Value → Prop} {St1 St2 : Nat → Heap → Prop} {a1 a2 : Value}
theorem zipB_item (b : Bool) {Q : Option Value → Shared → Prop} (S : ZipSep2 z TI TO i1 i2 fp1 fp2) (D1 : Draws prog w A.in1 i1 fp1 n1 P1 St1) (D2 : Draws prog w A.in1 i2 fp2 n2 P2 St2)
    (hz : IsZB b s.heap z TI TO .none) (hTI : IsTupOf2 s.heap TI (.ref i1) (.ref i2)) (hTO : IsTupOf2 s.heap TO a1 a2) (st1 : St1 i s.heap) (st2 : St2 i s.heap) (lt1 : i < n1) (lt2 : i < n2)
    (hQ : ∀ x y g tk, P1 i x → P2 i y → IsZB b g z TI TO (rawInt s.heap.objs.size) → IsTupOf2 g TO x y → St1 (i + 1) g → St2 (i + 1) g → IsTupOf2 g s.heap.objs.size x y →
      (∀ c o, c ≠ z → c ≠ TO → c ≠ i1 → c ≠ i2 → s.heap.get? c = some o → g.get? c = some o) → Q (some (.ref s.heap.objs.size)) { s with heap := g, toks := tk }) :
    wpAny (model prog w) A (pyNext (.ref z)) Q E s := by
  cases b with
  | false => exact wpAny_pyNext_zipD2_item S D1 D2 hz hTI hTO st1 st2 lt1 lt2 fun x y g tk b1 b2 b3 b4 b5 b6 b7 _ b9 => hQ x y g tk b1 b2 b3 b4 b5 b6 b7 b9
  | true => exact pyNext_zipS_item S D1 D2 hz hTI hTO st1 st2 lt1 lt2 fun x y g tk b1 b2 b3 b4 b5 b6 b7 _ b9 => hQ x y g tk b1 b2 b3 b4 b5 b6 b7 b9
theorem zipB_end (b : Bool) {Q : Option Value → Shared → Prop} (hh : A.handled = none) (S : ZipSep2 z TI TO i1 i2 fp1 fp2) (D1 : Draws prog w A.in1 i1 fp1 n1 P1 St1) (D2 : Draws prog w A.in1 i2 fp2 n2 P2 St2)
    (hz : IsZB b s.heap z TI TO .none) (hTI : IsTupOf2 s.heap TI (.ref i1) (.ref i2)) (hTO : IsTupOf2 s.heap TO a1 a2) (st1 : St1 i s.heap) (st2 : St2 i s.heap) (le1 : i ≤ n1) (le2 : i ≤ n2) (he : i = n1 ∨ i = n2) (hb : b = true → n1 = n2)
    (hQ : ∀ g tk, (∀ c o, c ≠ z → c ≠ TO → c ≠ i1 → c ≠ i2 → s.heap.get? c = some o → g.get? c = some o) → Q none { s with heap := g, toks := tk }) : wpAny (model prog w) A (pyNext (.ref z)) Q E s := by
  cases b with
  | false => exact wpAny_pyNext_zipD2_end S D1 D2 hz hTI hTO st1 st2 le1 le2 he hQ
  | true =>
    have := hb rfl
    subst this
    have : i = n1 := by omega
    subst this
    exact pyNext_zipS_end hh S D1 D2 hz hTI hTO st1 st2 hQ
theorem goB (b : Bool) {elts : List Expr} {kk : Nat} {pos : Pos} {T : Addr} {Q : Unit → Shared → Prop} (hz : IsZB b s.heap z TI TO (rawInt T)) (hQ : ∀ g, IsZB b g z TI TO .none → Heap.SameBut z s.heap g → Q () { s with heap := g }) :
    wpAny (model prog w) A (letOwnedTupleGo (.Tuple elts kk pos) (.ref z) (.ref T)) Q E s := by
  cases b with
  | false => exact wpAny_letOwnedTupleGo_zip hz hQ
  | true => exact go_zipS hz hQ
theorem iterB (b : Bool) {f0 : Value} {Q : Value → Shared → Prop} (hz : IsZB b s.heap z TI TO f0) (h : Q (.ref z) s) : wpAny (model prog w) A (pyIter (.ref z)) Q E s := by
  cases b with
  | false => exact wpAny_pyIter_zip hz h
  | true => exact iter_zipS hz h
end
def ItzW (b t1 t2 : Bool) (K : PySem.W.Frag) (a1 a2 : Addr) : It :=
  ⟨fun i H => ∃ (xs ys : List V) (x y : V), SqW t1 K H a1 xs ∧ SqW t2 K H a2 ys ∧ xs[i]? = some x ∧ ys[i]? = some y,
    fun i H v H' => ∃ T x y, v = .ref T ∧ H T = none ∧ H' = upd H T (.tup [x, y]) ∧ (∀ xs, SqW t1 K H a1 xs → xs[i]? = some x) ∧ ∀ ys, SqW t2 K H a2 ys → ys[i]? = some y,
    fun i H => ∃ xs ys : List V, SqW t1 K H a1 xs ∧ SqW t2 K H a2 ys ∧ i ≤ xs.length ∧ i ≤ ys.length ∧ (i = xs.length ∨ i = ys.length) ∧ (b = true → xs.length = ys.length)⟩
theorem turn_zipW {P : Program} {w : World} {K : PySem.W.Frag} {elts : List Expr} {kk : Nat} {tpos : Pos} (b t1 t2 : Bool) {a1 a2 z TI TO i1 i2 : Addr} (S : ZipSep2 z TI TO i1 i2 [i1, a1] [i2, a2]) (ne1 : a1 ≠ i1) (ne2 : a2 ≠ i2) :
    Turn P w K (.Tuple elts kk tpos) (ItzW b t1 t2 K a1 a2) [z, TI, TO, i1, i2] z (fun i h => IsZB b h z TI TO .none ∧ IsTupOf2 h TI (.ref i1) (.ref i2) ∧ (∃ x y, IsTupOf2 h TO x y) ∧ ItW t1 h i1 a1 i ∧ ItW t2 h i2 a2 i) where
  mem := List.mem_cons_self ..
  obj := fun i h ⟨hz, hTI, ⟨x, y, hTO⟩, h1, h2⟩ c hc => by
    have e' : c = z ∨ c = TI ∨ c = TO ∨ c = i1 ∨ c = i2 := by simpa using hc
    rcases e' with q | q | q | q | q <;> subst q
    · obtain ⟨fs, e⟩ := hz.at
      exact ⟨_, e, fun v q => nomatch q⟩
    · exact ⟨_, hTI, fun v q => nomatch q⟩
    · exact ⟨_, hTO, fun v q => nomatch q⟩
    · exact h1.obj
    · exact h2.obj
  keep := fun i h h' ⟨hz, hTI, ⟨x, y, hTO⟩, h1, h2⟩ k => ⟨hz.keep fun o q => k z (by simp) o q, k TI (by simp) _ hTI, ⟨x, y, k TO (by simp) _ hTO⟩, h1.keep fun o q => k i1 (by simp) o q, h2.keep fun o q => k i2 (by simp) o q⟩
  item := by
    intro X eP ew eK hc i pins s σ H E I hf st hg
    subst eP ew eK
    obtain ⟨hz, hTI, ⟨x0, y0, hTO⟩, h1, h2⟩ := st
    obtain ⟨xs, ys, x, y, q1, q2, g1, g2⟩ := hg
    obtain ⟨its1, r1, w1, _⟩ := seqW I q1
    obtain ⟨its2, r2, w2, _⟩ := seqW I q2
    obtain ⟨u, hu, ru⟩ := r1.get g1
    obtain ⟨u2, hu2, ru2⟩ := r2.get g2
    have lt1 : i < its1.toArray.size := by simpa using (List.getElem?_eq_some_iff.mp hu).1
    have lt2 : i < its2.toArray.size := by simpa using (List.getElem?_eq_some_iff.mp hu2).1
    have zlt : z < s.heap.objs.size := by obtain ⟨_, e⟩ := hz.at; exact Heap.lt_size e
    refine zipB_item b S (drawsW t1 (A := X.A.in1) (I.ok.hd hc) i1 a1 ne1 its1.toArray) (drawsW t2 (A := X.A.in1) (I.ok.hd hc) i2 a2 ne2 its2.toArray) hz hTI hTO ⟨h1, w1⟩ ⟨h2, w2⟩ lt1 lt2 fun v v2 g tk p1 p2 hz' hTO' s1 s2 hT keep => ?_
    have e1 : v = u := by
      have : its1.toArray[i]? = some u := by simpa using hu
      rw [this] at p1
      exact (Option.some.inj p1).symm
    have e2 : v2 = u2 := by
      have : its2.toArray[i]? = some u2 := by simpa using hu2
      rw [this] at p2
      exact (Option.some.inj p2).symm
    subst e1 e2
    refine ⟨_, rfl, goB b (s := { s with heap := g, toks := tk }) hz' fun g' hz'' sb => ?_⟩
    have hT2 : g'.get? s.heap.objs.size = some { cls := .type "tuple", data := .seq #[v, v2] } := (sb.2 _ (Nat.ne_of_gt zlt)).trans hT
    have new : ObjOk X.prog X.w (upd H s.heap.objs.size (.tup [x, y])) g' s.heap.objs.size (.tup [x, y]) := ⟨by show 2 ≤ sizeLine; decide, [v, v2], .cons ru (.cons ru2 .nil), ⟨_, hT2, rfl, _, rfl⟩⟩
    have I1 : Inv X pins σ (upd H s.heap.objs.size (.tup [x, y])) { s with heap := g', toks := tk } :=
      I.turnedNew (ch := [z, TI, TO, i1, i2]) (fun c o hb q => (sb.2 c fun e => hb (by simp [e])).trans (keep c o (fun e => hb (by simp [e])) (fun e => hb (by simp [e])) (fun e => hb (by simp [e])) (fun e => hb (by simp [e])) q)) hf (Nat.le_refl _) new
    refine ⟨.ref s.heap.objs.size, _, I1, rfl, ⟨_, x, y, rfl, I.hok.fresh (Nat.le_refl _), rfl, fun l hl => by rw [injW I hl q1]; exact g1, fun l hl => by rw [injW I hl q2]; exact g2⟩, ⟨hz'', ?_, ⟨v, v2, ?_⟩, ?_, ?_⟩, fun c hcm => ?_⟩
    · exact (sb.2 _ S.TIz).trans (keep _ _ S.TIz S.TITO S.TIi1 S.TIi2 hTI)
    · exact (sb.2 _ S.TOz).trans hTO'
    · exact s1.1.keep fun o q => (sb.2 _ S.zi1.symm).trans q
    · exact s2.1.keep fun o q => (sb.2 _ S.zi2.symm).trans q
    · have clt : c < s.heap.objs.size := by
        have e' : c = z ∨ c = TI ∨ c = TO ∨ c = i1 ∨ c = i2 := by simpa using hcm
        rcases e' with q | q | q | q | q <;> subst q
        · exact zlt
        · exact Heap.lt_size hTI
        · exact Heap.lt_size hTO
        · obtain ⟨_, e, _⟩ := h1.obj; exact Heap.lt_size e
        · obtain ⟨_, e, _⟩ := h2.obj; exact Heap.lt_size e
      rw [upd_ne (Nat.ne_of_lt clt)]
      exact (hf c hcm).1
  done := by
    intro X eP ew eK hc i pins s σ H E I hf st hg
    subst eP ew eK
    obtain ⟨hz, hTI, ⟨x0, y0, hTO⟩, h1, h2⟩ := st
    obtain ⟨xs, ys, q1, q2, l1, l2, he, hb⟩ := hg
    obtain ⟨its1, r1, w1, _⟩ := seqW I q1
    obtain ⟨its2, r2, w2, _⟩ := seqW I q2
    have m1 := r1.length
    have m2 := r2.length
    have k1 : its1.toArray.size = xs.length := by simp [m1]
    have k2 : its2.toArray.size = ys.length := by simp [m2]
    refine zipB_end b (I.ok.hd hc) S (drawsW t1 (A := X.A.in1) (I.ok.hd hc) i1 a1 ne1 its1.toArray) (drawsW t2 (A := X.A.in1) (I.ok.hd hc) i2 a2 ne2 its2.toArray) hz hTI hTO ⟨h1, w1⟩ ⟨h2, w2⟩ (by omega) (by omega) (by omega) (fun z => by rw [k1, k2]; exact hb z) fun g tk keep => ⟨rfl, ?_⟩
    exact I.turnedL (t' := tk) (ch := [z, TI, TO, i1, i2]) (fun c o hb q => keep c o (fun e => hb (by simp [e])) (fun e => hb (by simp [e])) (fun e => hb (by simp [e])) (fun e => hb (by simp [e])) q) hf
  self := fun A i s Q E st h => iterB b st.1 h
/-! ### the calls -/
theorem callWith_typeKw {M : Model} {A : Around} {E : Value → Shared → Prop} {s : Shared} {env : Env} {pos : Pos} {T : String} {e : Expr} {rest : List Expr} {kws : List Keyword} {Q : Value → Shared → Prop}
    (h : wpAny M A (spliced (backTo pos (starEach (e :: rest) env))) (fun vs s₁ => wpAny M A (evalAll ((backToKw pos (keywordEach kws env)).map (·.2))) (fun kvs s₂ => wpAny M A (call (.type T) vs (((backToKw pos (keywordEach kws env)).filterMap (·.1)).zip kvs)) Q E s₂) E s₁) E s)
    (he : backTo pos (starEach (e :: rest) env) = (false, eval e env) :: backTo pos (starEach rest env)) (hplain : (backTo pos (starEach (e :: rest) env)).any (·.1) = false)
    (hall : (backToKw pos (keywordEach kws env)).all (·.1.isSome) = true) (hkw : (backToKw pos (keywordEach kws env)).any (·.1.isNone) = false) :
    wpAny M A (callWith pos (.type T) [] (backTo pos (starEach (e :: rest) env)) (backToKw pos (keywordEach kws env))) Q E s := by
  unfold callWith
  have h2 : wpAny M A (evalArgs (.type T) true (backTo pos (starEach (e :: rest) env)) (backToKw pos (keywordEach kws env))) (fun a s₁ => wpAny M A (call (.type T) ([] ++ a.pos) a.kw) Q E s₁) E s := by
    rw [he] at h ⊢
    exact evalArgs_kwB hall h
  apply wpAny_bind; apply wpAny_holding
  refine thn h2 fun a s₁ k => wpAny_bind (wpAny_standAt ?_)
  simp only [hplain, hkw, Bool.or_false]
  apply wpAny_bind; apply wpAny_pure
  apply wpAny_bind
  exact thn k fun r s₂ hr => wpAny_bind (wpAny_holding (wpAny_point (wpAny_pure hr)))
def iZipB (b t1 t2 : Bool) (K : PySem.W.Frag) (ta : TA) : TI := fun σ H R => ta σ H fun vs H1 => ∃ a c xs ys, vs = [.ref a, .ref c] ∧ SqW t1 K H1 a xs ∧ SqW t2 K H1 c ys ∧ R (ItzW b t1 t2 K a c) H1
section
variable {X : Cx} {M : List Nat} {e e2 : Expr} {ta : TA} {fa : Ea} {js : List (Option Nat)} {p pos tpos kp cp : Pos} {elts : List Expr} {kk j1 : Nat}
theorem zip_laid {pins : List (Addr × Obj)} {σ : L2.St} {H : Hp} {s : Shared} {R : It → Hp → Prop} (b t1 t2 : Bool) (I : Inv X pins σ H s) {a c : Addr} (la : a < s.heap.objs.size) (lc : c < s.heap.objs.size) {g : Heap} (hz : IsZB b g (s.heap.objs.size + 4) (s.heap.objs.size + 2) (s.heap.objs.size + 3) .none)
    (hTI : IsTupOf2 g (s.heap.objs.size + 2) (.ref s.heap.objs.size) (.ref (s.heap.objs.size + 1))) (hTO : IsTupOf2 g (s.heap.objs.size + 3) .none .none) (h1 : g.get? s.heap.objs.size = some (obW t1 a)) (h2 : g.get? (s.heap.objs.size + 1) = some (obW t2 c)) (keep : ∀ c o, s.heap.get? c = some o → g.get? c = some o)
    (q : R (ItzW b t1 t2 X.K a c) H) : PIE X pins σ (.Tuple elts kk tpos) R (.ref (s.heap.objs.size + 4)) { s with heap := g } := by
  have I2 : Inv X pins σ H { s with heap := g } := I.kept (t' := s.toks) keep
  have sep := zip_sep2 (N := s.heap.objs.size) (fp1 := [a]) (fp2 := [c]) (fun b hb => by rw [List.mem_singleton.mp hb]; exact la) (fun b hb => by rw [List.mem_singleton.mp hb]; exact lc)
  refine ⟨s.heap.objs.size + 4, [s.heap.objs.size + 4, s.heap.objs.size + 2, s.heap.objs.size + 3, s.heap.objs.size, s.heap.objs.size + 1], _, _, H, rfl, I2, turn_zipW b t1 t2 sep (Nat.ne_of_lt la) (Nat.ne_of_lt (Nat.lt_succ_of_lt lc)), ⟨hz, hTI, ⟨_, _, hTO⟩, ItW.new t1 h1, ItW.new t2 h2⟩, fun x hx => ?_, q⟩
  have e' : x = s.heap.objs.size + 4 ∨ x = s.heap.objs.size + 2 ∨ x = s.heap.objs.size + 3 ∨ x = s.heap.objs.size ∨ x = s.heap.objs.size + 1 := by simpa using hx
  have hle : s.heap.objs.size ≤ x := by
    rcases e' with z | z | z | z | z <;> rw [z]
    · exact Nat.le_add_right _ _
    · exact Nat.le_add_right _ _
    · exact Nat.le_add_right _ _
    · exact Nat.le_refl _
    · exact Nat.le_add_right _ _
  exact I.fpOk hle (I.hok.fresh hle)
theorem pi_zipW (t1 t2 : Bool) (hg : Gl X "zip") (hm : X.mg "zip" = none) (ha : PA X [e, e2] ta) (hs : starEach [e, e2] X.env = (false, eval e X.env) :: starEach [e2] X.env := by rfl) (hpl : (backTo pos (starEach [e2] X.env)).any (·.1) = false := by rfl) :
    PI X (.Tuple elts kk tpos) (.Call (.Name "zip" p) [e, e2] [] pos) (iZipB false t1 t2 X.K ta) := by
  refine ⟨fun pins s σ H R I h => ?_⟩
  refine Call_ (ld_blt I hg hm PyProof.Rows.boot_zip (PyProof.Rows.callWith_type1 (thn (ha.run pos pins s σ H _ I h) fun us s1 ⟨vs, H1, I1, r1, q1⟩ => ?_) hs hpl))
  obtain ⟨a, c, xs, ys, rfl, q1, q2, q⟩ := q1
  obtain ⟨u, u2, rfl, ru, ru2⟩ := vals2 r1
  cases ru
  cases ru2
  obtain ⟨its1, rv1, w1, la⟩ := seqW I1 q1
  obtain ⟨its2, rv2, w2, lc⟩ := seqW I1 q2
  exact zip_begins2 (beginsW t1 a its1.toArray) (beginsW t2 c its2.toArray) w1 w2 fun g hz hTI hTO h1 h2 _ keep => iterB false hz (zip_laid false t1 t2 I1 la lc hz hTI hTO h1 h2 keep q)
theorem pi_zipSW (t1 t2 : Bool) (hg : Gl X "zip") (hm : X.mg "zip" = none) (ha : PA X [e, e2] ta) (hs : starEach [e, e2] X.env = (false, eval e X.env) :: starEach [e2] X.env := by rfl) (hpl : (backTo pos (starEach [e, e2] X.env)).any (·.1) = false := by rfl) :
    PI X (.Tuple elts kk tpos) (.Call (.Name "zip" p) [e, e2] [⟨some "strict", .Constant (.bool true) j1 cp, kp⟩] pos) (iZipB true t1 t2 X.K ta) := by
  refine ⟨fun pins s σ H R I h => ?_⟩
  refine wpAny_Call_Name_kw (ld_blt I hg hm PyProof.Rows.boot_zip ?_)
  refine callWith_typeKw (thn (ha.run pos pins s σ H _ I h) fun us s1 ⟨vs, H1, I1, r1, q1⟩ => ?_) (by rw [hs] <;> rfl) hpl (by rfl) (by rfl)
  obtain ⟨a, c, xs, ys, rfl, q1, q2, q⟩ := q1
  obtain ⟨u, u2, rfl, ru, ru2⟩ := vals2 r1
  cases ru
  cases ru2
  have hk := (pk_cons (nm := some "strict") (kpos := kp) (pe_bl (X := X) (b := true) (j := j1) (pos := cp)) pk_nil).run pos pins s1 σ H1 (fun ws H2 => ws = [.bl true] ∧ H2 = H1) I1 ⟨rfl, rfl⟩
  refine thn hk fun ws s2 ⟨zs, H2, I2, r2, e1, e2⟩ => ?_
  subst e1 e2
  obtain ⟨w1, rfl, ew⟩ := vals1 r2
  obtain rfl : w1 = Value.bool true := ew
  obtain ⟨its1, rv1, w1, la⟩ := seqW I2 q1
  obtain ⟨its2, rv2, w2, lc⟩ := seqW I2 q2
  show wpAny (model X.prog X.w) X.A (call (.type "zip") [.ref a, .ref c] kwS) _ _ _
  exact zipS_begins (beginsW t1 a its1.toArray) (beginsW t2 c its2.toArray) w1 w2 fun g hz hTI hTO h1 h2 keep => iterB true hz (zip_laid true t1 t2 I2 la lc hz hTI hTO h1 h2 keep q)
/-! ### by data -/
def zipD : List D → List D → List D
  | d :: ds, e :: es => .tup [d, e] :: zipD ds es
  | _, _ => []
theorem zipD_get : ∀ (ds es : List D) (i : Nat), (zipD ds es)[i]? = (ds[i]?).bind fun d => (es[i]?).map fun e => .tup [d, e]
  | [], _, _ => by simp [zipD]
  | d :: ds, [], i => by
    simp [zipD]
  | d :: ds, e :: es, 0 => by simp [zipD]
  | d :: ds, e :: es, i + 1 => by
    rw [zipD, List.getElem?_cons_succ, List.getElem?_cons_succ, List.getElem?_cons_succ, zipD_get ds es i]
theorem zipD_len : ∀ (ds es : List D), (zipD ds es).length = min ds.length es.length
  | [], _ => by simp [zipD]
  | d :: ds, [] => by simp [zipD]
  | d :: ds, e :: es => by
    rw [zipD, List.length_cons, List.length_cons, List.length_cons, zipD_len ds es]
    omega
def seqD : Bool → D → Option (List D)
  | true, .lst ds => some ds
  | false, .tup ds => some ds
  | _, _ => none
theorem seqD_of {K : PySem.W.Frag} {G : Hp} {t : Bool} {v : V} {d : D} {ds : List D} (h : Fz K G v d) (e : seqD t d = some ds) : ∃ a vs, v = .ref a ∧ FzA K G vs ds ∧ ∀ G1 H, Same G G1 → Same G1 H → SqW t K H a vs := by
  unfold seqD at e
  split at e
  · cases e
    obtain ⟨a, vs, rfl, h1, h2⟩ := h.lst_inv
    exact ⟨a, vs, rfl, h2, fun G1 H s1 s2 => .inl (.inl (s2 _ _ (s1 _ _ h1)))⟩
  · cases e
    obtain ⟨a, vs, rfl, h1, h2⟩ := h.tup_inv
    exact ⟨a, vs, rfl, h2, fun G1 H s1 s2 => .inl (.inl (s2 _ _ (s1 _ _ h1)))⟩
  · cases e
def iZip (b t1 t2 : Bool) (fa : Ea) : Ea := fun ρ => (fa ρ).bind fun p => match p.1 with
  | [d, e] => (seqD t1 d).bind fun ds => (seqD t2 e).bind fun es => if b && !(ds.length == es.length) then none else some (zipD ds es, p.2)
  | _ => none
theorem walks_zip {K : PySem.W.Frag} {b t1 t2 : Bool} {G0 : Hp} {a c : Addr} {vs ws : List V} {ds es : List D} (h1 : ∀ G H, Same G0 G → Same G H → SqW t1 K H a vs) (h2 : ∀ G H, Same G0 G → Same G H → SqW t2 K H c ws) (r1 : FzA K G0 vs ds) (r2 : FzA K G0 ws es) (hb : b = true → ds.length = es.length) : Walks K (ItzW b t1 t2 K a c) G0 (zipD ds es) := by
  intro i G H s1 s2
  have k1 := h1 G H s1 s2
  have k2 := h2 G H s1 s2
  have l1 := r1.length
  have l2 := r2.length
  refine ⟨fun hl => ⟨vs, ws, k1, k2, ?_⟩, fun d e => ?_⟩
  · rw [zipD_len] at hl
    exact ⟨by omega, by omega, by omega, fun z => by rw [l1, l2]; exact hb z⟩
  · rw [zipD_get] at e
    obtain ⟨d1, e1, e2⟩ := Option.bind_eq_some_iff.mp e
    obtain ⟨d2, e3, e4⟩ := Option.map_eq_some_iff.mp e2
    subst e4
    obtain ⟨v, g1, f1⟩ := r1.get e1
    obtain ⟨w, g2, f2⟩ := r2.get e3
    refine ⟨⟨vs, ws, v, w, k1, k2, g1, g2⟩, fun x H' ⟨T, y, z, e5, hT, e6, e7, e8⟩ => ?_⟩
    have z1 := e7 vs k1
    have z2 := e8 ws k2
    rw [g1] at z1
    rw [g2] at z2
    cases z1
    cases z2
    subst e5 e6
    obtain ⟨g, q⟩ := new_tup (vs := [v, w]) s2 (.cons (f1.mono s1) (.cons (f2.mono s1) .nil)) hT
    exact ⟨_, g, q⟩
theorem zip_go {b t1 t2 : Bool} (hj : allN js = true) (ka : ∀ (G H : Hp) (σ : L2.St) (ρ : Rho) (f : Nat → List Addr) (ds : List D) (ρ' : Rho) (Q : List V → Hp → Prop), Rel X.K M G H σ ρ f → fa ρ = some (ds, ρ') →
      (∀ vs G' H' f', Step M f G H M f' G' H' → Rel X.K M G' H' σ ρ' f' → ArgA X.K G' σ js vs ds → Q vs H') → ta σ H Q)
    {G H : Hp} {σ : L2.St} {ρ : Rho} {f : Nat → List Addr} {ds : List D} {ρ' : Rho} {Q : It → Hp → Prop} (R : Rel X.K M G H σ ρ f) (e : iZip b t1 t2 fa ρ = some (ds, ρ'))
    (hQ : ∀ J G' H' f', Step M f G H M f' G' H' → Rel X.K M G' H' σ ρ' f' → Walks X.K J G' ds → Q J H') : iZipB b t1 t2 X.K ta σ H Q := by
  obtain ⟨⟨d, ρ1⟩, e1, e2⟩ := Option.bind_eq_some_iff.mp e
  refine ka G H σ ρ f d ρ1 _ R e1 fun v G' H' f' S R' r => ?_
  split at e2
  · rename_i x y z
    simp only at z
    subst z
    obtain ⟨xs, e3, e4⟩ := Option.bind_eq_some_iff.mp e2
    obtain ⟨ys, e5, e6⟩ := Option.bind_eq_some_iff.mp e4
    split at e6
    · cases e6
    · rename_i hb
      cases e6
      obtain ⟨v, w, rfl, h1, h2⟩ := (r.all hj).two
      obtain ⟨a, vs, rfl, q1, q2⟩ := seqD_of h1 e3
      obtain ⟨c, ws, rfl, q3, q4⟩ := seqD_of h2 e5
      refine ⟨a, c, vs, ws, rfl, q2 _ _ (Same.refl _) R'.sub, q4 _ _ (Same.refl _) R'.sub, hQ _ G' H' f' S R' (walks_zip q2 q4 q1 q3 fun z => ?_)⟩
      subst z
      simpa using hb
  · cases e2
theorem vi_zip (t1 t2 : Bool) (hg : Gl X "zip") (hm : X.mg "zip" = none) (hj : allN js = true) (ha : VA X M js [e, e2] fa) (hs : starEach [e, e2] X.env = (false, eval e X.env) :: starEach [e2] X.env := by rfl) (hpl : (backTo pos (starEach [e2] X.env)).any (·.1) = false := by rfl) :
    VI X M (.Tuple elts kk tpos) (.Call (.Name "zip" p) [e, e2] [] pos) (iZip false t1 t2 fa) := by
  obtain ⟨t, q, k⟩ := ha
  exact ⟨_, pi_zipW t1 t2 hg hm q hs hpl, fun G H σ ρ f ds ρ' Q R e hQ => zip_go hj k R e hQ⟩
theorem vi_zipS (t1 t2 : Bool) (hg : Gl X "zip") (hm : X.mg "zip" = none) (hj : allN js = true) (ha : VA X M js [e, e2] fa) (hs : starEach [e, e2] X.env = (false, eval e X.env) :: starEach [e2] X.env := by rfl) (hpl : (backTo pos (starEach [e, e2] X.env)).any (·.1) = false := by rfl) :
    VI X M (.Tuple elts kk tpos) (.Call (.Name "zip" p) [e, e2] [⟨some "strict", .Constant (.bool true) j1 cp, kp⟩] pos) (iZip true t1 t2 fa) := by
  obtain ⟨t, q, k⟩ := ha
  exact ⟨_, pi_zipSW t1 t2 hg hm q hs hpl, fun G H σ ρ f ds ρ' Q R e hQ => zip_go hj k R e hQ⟩
end
end Bl

set_option Elab.async false
set_option linter.all false
set_option maxRecDepth 100000
set_option maxHeartbeats 4000000
/-! Vl19: the head: from the law's def by data to the law's row. -/
namespace Bl
open PySem PySem.Spec PyProof.Rows L2
theorem law_callG {P : Program} {w : World} {K : PySem.W.Frag} {mg mb : Str → Option Value} {k : Nat} {fa a : Addr} {fd : FuncData} {x : Str} {Fl : Ef} {s₁ : Shared} {vs : List Value} {ns : List Int} {ρ' : Rho}
    (inK : K.In s₁.heap) (nsM : s₁.heap.Ns mainGlobals mg) (nsB : s₁.heap.Ns builtinsNs mb) (boot : ∀ x : Str, x ≠ "__name__" → mb x = bootBuiltins x) (nolim : s₁.heap.NoLimit) (nogen : s₁.gens = #[])
    (hobj : s₁.heap.get? a = some { cls := .type "list", data := .seq vs.toArray }) (hints : IntsAre vs ns) (hlen : ns.length ≤ sizeLine) (hr : RoomG k callerA)
    (F : ∀ base : Heap, K.In base → base.Ns mainGlobals mg → FnG P w K mg base k fa fd [x] (SpV K [] false 1 Fl)) (hbind : ∀ (s : Shared) (u : Value), BindsTo s fd ⟨[u], []⟩ [(x, u)]) (hF : Fl [.scr ns] = some (.bl true, ρ')) :
    codeAny (model P w) callerA (.call (.ref fa) ⟨[.ref a], []⟩) (fun r s' => r = .ok (.ret (.bool true)) ∧ OldK s₁.heap s'.heap ∧ s'.os = s₁.os ∧ AllBare s'.gens) s₁ := by
  have rv : Vals (ns.map V.int) vs := vals_ints hints
  have lenV : vs.length = ns.length := hints.length
  -- one object at most is tracked: the script, locked
  have main : ∀ H : Hp, (∀ b, H b = none ∨ (b = a ∧ ∃ o xs, H b = some (.frz o (.lst xs)))) → SqL K H a (ns.map V.int) → HOk P w H s₁.heap → (H a ≠ none → K.lookup a = none) →
      codeAny (model P w) callerA (.call (.ref fa) ⟨[.ref a], []⟩) (fun r s' => r = .ok (.ret (.bool true)) ∧ OldK s₁.heap s'.heap ∧ s'.os = s₁.os ∧ AllBare s'.gens) s₁ := by
    intro H only seq ok noK
    have other : ∀ b, b ≠ a → H b = none := fun b hb => (only b).elim id fun z => absurd z.1 hb
    have under : ∀ {b : Addr} {o : Obj}, s₁.heap.get? b = some o → H b = none → (hidT s₁.heap H).get? b = some o := fun e n => hidT_get e n
    have nodict : ∀ {b : Addr} {o : Obj} {es : Array DictEntry} {ep : Nat}, s₁.heap.get? b = some o → o.data = .dict es ep → H b = none := fun {b o es ep} e d => by
      refine other b fun z => ?_
      subst z
      rw [hobj] at e
      cases e
      cases (show Data.seq vs.toArray _ = Data.dict es ep from d)
    have nsOf : ∀ {b : Addr} {m : Str → Option Value}, s₁.heap.Ns b m → (hidT s₁.heap H).Ns b m := fun {b m} z => by
      obtain ⟨o, es, ep, e, d, r⟩ := z
      exact ⟨o, es, ep, under e (nodict e d), d, r⟩
    have inB : K.In (hidT s₁.heap H) := fun b o e => under (inK b o e) (by
      by_cases z : b = a
      · subst z
        cases q : H b with
        | none => rfl
        | some u =>
          rw [noK (by rw [q]; simp)] at e
          cases e
      · exact other b z)
    have md : Mod K mg (hidT s₁.heap H) := ⟨inB, nsOf nsM, ⟨mb, nsOf nsB, boot⟩, let ⟨mc, h1, h2⟩ := nolim; ⟨mc, nsOf h1, h2⟩⟩
    have e0 : Env0 P w K mg (hidT s₁.heap H) callerA [] s₁ H := ⟨rfl, md, fun b o e => of_hidT e, Nat.le_of_eq (hidT_size _ _), trivial, fun b hb => absurd (show b ∈ ([] : List Addr) from hb) (by simp), ok, .of_eq nogen⟩
    have rel : Rel K [] H H ([V.ref a].map some) [.scr ns] (fun _ => []) := by
      refine ⟨Same.refl _, rfl, fun i d e _ => ?_, fun i hi => (nomatch hi), fun i hi => (nomatch hi)⟩
      cases i with
      | zero =>
        cases e
        exact .inr ⟨.ref a, rfl, .scr seq⟩
      | succ i => cases e
    have sp : SpV K [] false 1 Fl [.ref a] H (fun v _ => v = .bl true) fun _ _ _ => False := ⟨H, _, _, _, _, rfl, rel, hF, fun v G' H' f' _ _ r => Fz.bl_inv (show Fz K G' v (.bl true) from r)⟩
    refine codeAny_mono ((F _ inB (nsOf nsM)).run callerA [] s₁ H ⟨[.ref a], []⟩ [.ref a] [.ref a] _ _ hr e0 (hbind s₁ (.ref a)) (.cons rfl .nil) sp) fun r s' h => ?_
    cases r with
    | error e => exact False.elim h
    | ok fl =>
      cases fl with
      | next => exact False.elim h
      | brk => exact False.elim h
      | cont => exact False.elim h
      | ret u =>
        obtain ⟨v, H', os, bare, un, ok', rr, q⟩ := h
        obtain rfl : v = .bl true := q
        obtain rfl : u = Value.bool true := rr
        refine ⟨rfl, OldK.of_keep fun b o e => ?_, os, bare⟩
        rcases only b with z | ⟨_, ob, xs, z⟩
        · exact un.keep b o e z (fun y => absurd (show b ∈ ([] : List Addr) from y) (by simp)) (by simp)
        · obtain ⟨e1, _⟩ := ok b _ z
          obtain ⟨e2, _⟩ := ok' b _ (un.frzs b ob _ z)
          rw [e] at e1
          cases e1
          exact e2
  cases hk : K.lookup a with
  | some o =>
    have e := inK a o hk
    rw [hobj] at e
    cases e
    exact main (fun _ => none) (fun _ => .inl rfl) (.inr ⟨_, vs.toArray, _, hk, rfl, rfl, rfl, by rw [List.size_toArray, lenV]; exact hlen, by simpa using rv⟩) (fun b u z => by cases (show (none : Option HO) = some u from z)) fun z => absurd rfl z
  | none =>
    refine main (fun b => if b = a then some (.frz { cls := .type "list", data := .seq vs.toArray } (.lst (ns.map V.int))) else none) (fun b => ?_) (.inl (.inr ⟨{ cls := .type "list", data := .seq vs.toArray }, if_pos rfl⟩)) (fun b u z => ?_) fun _ => hk
    · by_cases hb : b = a
      · exact .inr ⟨hb, _, _, if_pos hb⟩
      · exact .inl (if_neg hb)
    · by_cases hb : b = a
      · cases (if_pos hb).symm.trans z
        subst hb
        exact ⟨hobj, by rw [List.length_map]; exact hlen, vs, _, rv, hobj⟩
      · cases (if_neg hb).symm.trans z
theorem walk_G {l : PySem.W.OpenLaw} {n k : Nat} {q : Program} {loose : List Str} {XP : (Str → Option Value) → Heap → Prop} {YP : World → Heap → Prop} {d : DefRec} {K : Params → PySem.W.Frag} {Fl : Ef} {x : Str}
    (hn : l.most = some n) (hn2 : n ≤ sizeLine) (hdf : d.params.defaults = []) (hr : RoomG k callerA) (hY : ∀ (w : World) (h : Heap), YP w h → (K w.params).In h)
    (F : ∀ (w : World) (mg : Str → Option Value) (fa : Addr) (h : Heap), (K w.params).In h → h.Ns mainGlobals mg → mg d.name = some (.ref fa) →
      ∃ fd : FuncData, (∀ (s : Shared) (u : Value), BindsTo s fd ⟨[u], []⟩ [(x, u)]) ∧ ∀ base : Heap, (K w.params).In base → base.Ns mainGlobals mg → FnG l.prog w (K w.params) mg base k fa fd [x] (SpV (K w.params) [] false 1 Fl))
    (hF : ∀ ns : List Int, ns.length ≤ n → ∃ ρ', Fl [.scr ns] = some (.bl true, ρ')) :
    PySem.W.WalkO q loose XP YP l.row.toRowW d [] (fun f vs => PySem.call f vs) := by
  refine Att.attach_call hn hdf fun w s₀ s₁ mg mb fa o pm cd doc a vs ns G Y ho hd hcd hmg hobj hints hlen hg => ?_
  obtain ⟨fd, hb, hFn⟩ := F w mg fa _ (hY w _ Y) G.T.g hmg
  obtain ⟨ρ', hf⟩ := hF ns hlen
  exact law_callG (hY w _ Y) G.T.g G.T.b G.T.builtins G.T.nolimit hg hobj hints (Nat.le_trans hlen hn2) hr hFn hb hf
end Bl

set_option Elab.async false
set_option linter.all false
set_option maxRecDepth 100000
set_option maxHeartbeats 4000000
/-! printed by gen.py: the defs of bitloom_k84_whole_clauses_of_graphs as plain functions, and their walks. -/
namespace Bl
open PySem PySem.Spec PyProof.Rows L2
def top (i : Nat) : Stmt := PySem.Challenge.pw_bitloom_k84_whole_clauses_of_graphs.main.body.getD i (.Pass ⟨0, 0, 0, 0⟩)
abbrev s_moved_literal : Stmt := top 2
abbrev s_literal_of : Stmt := top 1
abbrev s_put_clause : Stmt := top 3
abbrev s_put_and : Stmt := top 4
abbrev s_put_same : Stmt := top 5
abbrev s_first_and : Stmt := top 6
abbrev s_size_of : Stmt := top 7
abbrev s_put_graph : Stmt := top 8
abbrev s_clauses_of : Stmt := top 9
abbrev s_register_letter : Stmt := top 10
abbrev s_unrolled : Stmt := top 11
abbrev s_starting : Stmt := top 12
abbrev s__law_literal : Stmt := top 14
abbrev s__law_nodes : Stmt := top 15
abbrev s__law_pick : Stmt := top 19
abbrev s__law_draw_literal : Stmt := top 16
abbrev s__law_draw_graph : Stmt := top 17
abbrev s__law_source : Stmt := top 18
abbrev s__law_all_bits : Stmt := top 20
abbrev s__law_kept : Stmt := top 21
abbrev s__law_put : Stmt := top 22
abbrev s__law_far : Stmt := top 23
abbrev s__law_graph_clauses : Stmt := top 24
abbrev s__law_size : Stmt := top 25
abbrev s__law_unrolled : Stmt := top 26
abbrev s__law_starting : Stmt := top 27
abbrev s__law_step_of : Stmt := top 28
abbrev s__law_rough_graph : Stmt := top 29
abbrev s__law_true_of : Stmt := top 30
abbrev s__law_values_right : Stmt := top 31
abbrev s__law_run_right : Stmt := top 32
abbrev s_law : Stmt := top 33
theorem sc_moved_literal : FnScope ["literal", "shift", "letter"] ["literal", "shift"] (defScope s_moved_literal) := ⟨rfl, rfl, rfl, by decide +kernel, rfl, by decide +kernel, by decide +kernel⟩
def F_moved_literal : Ef := funF 3 2 [] false (sSeq (sSet 2 (op2 kAdd (op2 kAdd (op2 kDiv (fName 0) (fC (.int 2))) (fC (.int 1))) (fName 1))) (sRet [] (eIf (tB (op2 (kEqD false) (op2 kMod (fName 0) (fC (.int 2))) (fC (.int 0)))) (fName 2) (op1 kNeg (fName 2)))))
theorem sc_literal_of : FnScope ["literal"] ["literal"] (defScope s_literal_of) := ⟨rfl, rfl, rfl, by decide +kernel, rfl, by decide +kernel, by decide +kernel⟩
def F_literal_of : Ef := funF 1 1 [] false (sRet [] (fCall F_moved_literal [none, none] (aCons (fName 0) (aCons (fC (.int 0)) aNil))))
theorem sc_put_clause : FnScope ["clauses", "literals", "found", "literal"] ["clauses", "literals"] (defScope s_put_clause) := ⟨rfl, rfl, rfl, by decide +kernel, rfl, by decide +kernel, by decide +kernel⟩
def F_put_clause : Ef := funF 4 2 [0] false (sSeq (sSet 2 (fDc (iLst (fName 1)) (gSet 3) fYes (fName 3) (fC (.bl true)) [3])) (sIf (tNotF (tB (opN kAny (aCons (fLc (iKeysD 2) (gSet 3) fYes (fDIn false (op1 kNeg (fName 3)) (fName 2)) [3]) aNil)))) (sExpr (fOwn "list" 0 kAppend (aCons (opN kTuple (aCons (op1 kSortedAbsD (fName 2)) aNil)) aNil))) sNil))
theorem sc_put_and : FnScope ["clauses", "letter", "one", "other"] ["clauses", "letter", "one", "other"] (defScope s_put_and) := ⟨rfl, rfl, rfl, by decide +kernel, rfl, by decide +kernel, by decide +kernel⟩
def F_put_and : Ef := funF 4 4 [0] false (sSeq (sExpr (fCall F_put_clause [some 0, none] (aOwn (aCons (opN kLst (aCons (op1 kNeg (fName 1)) (aCons (fName 2) aNil))) aNil)))) (sSeq (sExpr (fCall F_put_clause [some 0, none] (aOwn (aCons (opN kLst (aCons (op1 kNeg (fName 1)) (aCons (fName 3) aNil))) aNil)))) (sExpr (fCall F_put_clause [some 0, none] (aOwn (aCons (opN kLst (aCons (fName 1) (aCons (op1 kNeg (fName 2)) (aCons (op1 kNeg (fName 3)) aNil)))) aNil))))))
theorem sc_put_same : FnScope ["clauses", "one", "other"] ["clauses", "one", "other"] (defScope s_put_same) := ⟨rfl, rfl, rfl, by decide +kernel, rfl, by decide +kernel, by decide +kernel⟩
def F_put_same : Ef := funF 3 3 [0] false (sSeq (sExpr (fCall F_put_clause [some 0, none] (aOwn (aCons (opN kLst (aCons (op1 kNeg (fName 1)) (aCons (fName 2) aNil))) aNil)))) (sExpr (fCall F_put_clause [some 0, none] (aOwn (aCons (opN kLst (aCons (fName 1) (aCons (op1 kNeg (fName 2)) aNil))) aNil)))))
theorem sc_first_and : FnScope ["graph"] ["graph"] (defScope s_first_and) := ⟨rfl, rfl, rfl, by decide +kernel, rfl, by decide +kernel, by decide +kernel⟩
def F_first_and : Ef := funF 1 1 [] false (sRet [] (op2 kAdd (op2 kAdd (fC (.int 1)) (op2 kIx (fName 0) (fC (.int 0)))) (opN kLen (aCons (op2 kIx (fName 0) (fC (.int 1))) aNil))))
theorem sc_size_of : FnScope ["graph"] ["graph"] (defScope s_size_of) := ⟨rfl, rfl, rfl, by decide +kernel, rfl, by decide +kernel, by decide +kernel⟩
def F_size_of : Ef := funF 1 1 [] false (sRet [] (op2 kAdd (fCall F_first_and [none] (aCons (fName 0) aNil)) (opN kLen (aCons (op2 kIx (fName 0) (fC (.int 2))) aNil))))
theorem sc_put_graph : FnScope ["clauses", "graph", "shift", "number", "one", "other", "letter"] ["clauses", "graph", "shift"] (defScope s_put_graph) := ⟨rfl, rfl, rfl, by decide +kernel, rfl, by decide +kernel, by decide +kernel⟩
def F_put_graph : Ef := funF 7 3 [0] false (sSeq (sExpr (fOwn "list" 0 kAppend (aCons (opN kTup (aCons (op2 kSub (op1 kNeg (fC (.int 1))) (fName 2)) aNil)) aNil))) (sFor (iEnumT (aCons (op2 kIx (fName 1) (fC (.int 2))) aNil)) (gTupF (gsCons (gSet 3) (gsCons (gTupF (gsCons (gSet 4) (gsCons (gSet 5) gsNil))) gsNil))) (sDrop [3, 4, 5, 6] (sSeq (sSet 6 (op2 kAdd (op2 kAdd (op2 kAdd (fCall F_first_and [none] (aCons (fName 1) aNil)) (fName 3)) (fC (.int 1))) (fName 2))) (sExpr (fCall F_put_and [some 0, none, none, none] (aOwn (aCons (fName 6) (aCons (fCall F_moved_literal [none, none] (aCons (fName 4) (aCons (fName 2) aNil))) (aCons (fCall F_moved_literal [none, none] (aCons (fName 5) (aCons (fName 2) aNil))) aNil))))))))))
theorem sc_clauses_of : FnScope ["graph", "clauses"] ["graph"] (defScope s_clauses_of) := ⟨rfl, rfl, rfl, by decide +kernel, rfl, by decide +kernel, by decide +kernel⟩
def F_clauses_of : Ef := funF 2 1 [] true (sSeq (sSetO 1 (opN kLst aNil)) (sSeq (sExpr (fCall F_put_graph [some 1, none, none] (aOwn (aCons (fName 0) (aCons (fC (.int 0)) aNil))))) (sRetS [] 1)))
theorem sc_register_letter : FnScope ["graph", "index", "clock"] ["graph", "index", "clock"] (defScope s_register_letter) := ⟨rfl, rfl, rfl, by decide +kernel, rfl, by decide +kernel, by decide +kernel⟩
def F_register_letter : Ef := funF 3 3 [] false (sRet [] (op2 kAdd (op2 kAdd (op2 kAdd (op2 kMul (fName 2) (fCall F_size_of [none] (aCons (fName 0) aNil))) (op2 kIx (fName 0) (fC (.int 0)))) (fName 1)) (fC (.int 2))))
theorem sc_unrolled : FnScope ["graph", "clocks", "clauses", "size", "clock", "index", "start", "taken"] ["graph", "clocks"] (defScope s_unrolled) := ⟨rfl, rfl, rfl, by decide +kernel, rfl, by decide +kernel, by decide +kernel⟩
def F_unrolled : Ef := funF 8 2 [] true (sSeq (sPar [2, 3] [true, false] (aCons (opN kLst aNil) (aCons (fCall F_size_of [none] (aCons (fName 0) aNil)) aNil))) (sSeq (sFor (iRange1 (aCons (fName 1) aNil)) (gSet 4) (sDrop [4, 5, 6, 7] (sSeq (sExpr (fCall F_put_graph [some 2, none, none] (aOwn (aCons (fName 0) (aCons (op2 kMul (fName 4) (fName 3)) aNil))))) (sFor (iEnumT (aCons (eIf (tB (op2 kGt (fName 4) (fC (.int 0)))) (op2 kIx (fName 0) (fC (.int 1))) (opN kTup aNil)) aNil)) (gTupF (gsCons (gSet 5) (gsCons (gTupF (gsCons (gSet 6) (gsCons (gSet 7) gsNil))) gsNil))) (sDrop [5, 6, 7] (sExpr (fCall F_put_same [some 2, none, none] (aOwn (aCons (fCall F_register_letter [none, none, none] (aCons (fName 0) (aCons (fName 5) (aCons (fName 4) aNil)))) (aCons (fCall F_moved_literal [none, none] (aCons (fName 7) (aCons (op2 kMul (op2 kSub (fName 4) (fC (.int 1))) (fName 3)) aNil))) aNil)))))))))) (sRetS [] 2)))
theorem sc_starting : FnScope ["graph", "letters", "index", "letter", "start", "taken"] ["graph"] (defScope s_starting) := ⟨rfl, rfl, rfl, by decide +kernel, rfl, by decide +kernel, by decide +kernel⟩
def F_starting : Ef := funF 6 1 [] true (sSeq (sSetO 1 (fLc (iRange1 (aCons (opN kLen (aCons (op2 kIx (fName 0) (fC (.int 1))) aNil)) aNil)) (gSet 2) fYes (fCall F_register_letter [none, none, none] (aCons (fName 0) (aCons (fName 2) (aCons (fC (.int 0)) aNil)))) [2])) (sRet [] (fLc (iZip true true false (aCons (fName 1) (aCons (op2 kIx (fName 0) (fC (.int 1))) aNil))) (gTupF (gsCons (gSet 3) (gsCons (gTupF (gsCons (gSet 4) (gsCons (gSet 5) gsNil))) gsNil))) fYes (opN kTup (aCons (eIf (tB (op2 (kEqD false) (fName 4) (fC (.int 1)))) (fName 3) (op1 kNeg (fName 3))) aNil)) [3, 4, 5])))
theorem sc__law_literal : FnScope ["_law_values", "_law_l", "_law_full"] ["_law_values", "_law_l", "_law_full"] (defScope s__law_literal) := ⟨rfl, rfl, rfl, by decide +kernel, rfl, by decide +kernel, by decide +kernel⟩
def F__law_literal : Ef := funF 3 3 [] false (sRet [] (op2 kXor (op2 kIx (fName 0) (op2 kDiv (fName 1) (fC (.int 2)))) (op2 kMul (fName 2) (op2 kMod (opN kInt (aCons (fName 1) aNil)) (fC (.int 2))))))
theorem sc__law_nodes : FnScope ["_law_graph", "_law_state", "_law_lot", "_law_full", "_law_found", "_law_l", "_law_m"] ["_law_graph", "_law_state", "_law_lot", "_law_full"] (defScope s__law_nodes) := ⟨rfl, rfl, rfl, by decide +kernel, rfl, by decide +kernel, by decide +kernel⟩
def F__law_nodes : Ef := funF 7 4 [] true (sSeq (sSetO 4 (op2 kCat (op2 kCat (opN kLst (aCons (fC (.int 0)) aNil)) (opN kList (aCons (fName 2) aNil))) (opN kList (aCons (fName 1) aNil)))) (sSeq (sFor (iTupF (op2 kIx (fName 0) (fC (.int 2)))) (gTupF (gsCons (gSet 5) (gsCons (gSet 6) gsNil))) (sDrop [5, 6] (sExpr (fOwn "list" 4 kAppend (aCons (eView false (op2 kAnd (fCall F__law_literal [none, none, none] (aCons (fName 4) (aCons (fName 5) (aCons (fName 3) aNil)))) (fCall F__law_literal [none, none, none] (aCons (fName 4) (aCons (fName 6) (aCons (fName 3) aNil)))))) aNil))))) (sRetS [] 4)))
theorem sc__law_pick : FnScope ["_law_source_here", "_law_many", "_law_left", "_law_mixed"] ["_law_source_here", "_law_many"] (defScope s__law_pick) := ⟨rfl, rfl, rfl, by decide +kernel, rfl, by decide +kernel, by decide +kernel⟩
def F__law_pick : Ef := funF 4 2 [0] false (sSeq (sWhile lim (tAndF (tB (op2 kGt (fName 1) (fC (.int 1)))) (tAndF (tB (op2 kLt (fSrc_left 0) (fC (.int 2)))) (tB (op2 kGt (fSrcLen 0) (fC (.int 0)))))) (sSrcPut_left 0 (fSrcPop 0))) (sSeq (sSet 2 (fSrc_left 0)) (sSeq (sIf (tOrF (tB (op2 kLt (fName 1) (fC (.int 2)))) (tB (op2 kGt (fName 2) (fC (.int 1))))) (sSeq (sSrcPut_left 0 (op2 kDiv (fName 2) (opN kMax2 (aCons (fC (.int 1)) (aCons (fName 1) aNil))))) (sRet [0] (op2 kMod (opN kInt (aCons (fName 2) aNil)) (opN kMax2 (aCons (fC (.int 1)) (aCons (fName 1) aNil)))))) sNil) (sSeq (sSrcPut_turn 0 (op2 kAdd (fSrc_turn 0) (fC (.int 1)))) (sSeq (sSet 3 (op2 kMod (opN kInt (aCons (op2 kAdd (fSrc_mixed 0) (op2 kMul (fSrc_turn 0) (fC (.int 104729)))) aNil)) (fC (.int 998244353)))) (sSeq (sSet 3 (op2 kMod (opN kInt (aCons (op2 kAdd (op2 kMul (fName 3) (fName 3)) (op2 kMul (fSrc_turn 0) (fC (.int 17)))) aNil)) (fC (.int 2147483647)))) (sSeq (sSrcPut_mixed 0 (fName 3)) (sRet [0] (op2 kMod (opN kInt (aCons (op2 kDiv (fName 3) (fC (.int 16))) aNil)) (fName 1))))))))))
theorem sc__law_draw_literal : FnScope ["_law_source_here", "_law_many", "_law_node"] ["_law_source_here", "_law_many"] (defScope s__law_draw_literal) := ⟨rfl, rfl, rfl, by decide +kernel, rfl, by decide +kernel, by decide +kernel⟩
def F__law_draw_literal : Ef := funF 3 2 [0] false (sSeq (sSet 2 (eIf (tB (op2 kGt (fCall F__law_pick [some 0, none] (aOwn (aCons (fC (.int 3)) aNil))) (fC (.int 0)))) (op2 kSub (op2 kSub (fName 1) (fC (.int 1))) (fCall F__law_pick [some 0, none] (aOwn (aCons (opN kMin2 (aCons (fName 1) (aCons (fC (.int 10)) aNil))) aNil)))) (fCall F__law_pick [some 0, none] (aOwn (aCons (fName 1) aNil))))) (sRet [0] (op2 kAdd (op2 kMul (fC (.int 2)) (fName 2)) (fCall F__law_pick [some 0, none] (aOwn (aCons (fC (.int 2)) aNil))))))
theorem sc__law_draw_graph : FnScope ["_law_source_here", "_law_many_ins", "_law_many_regs", "_law_most", "_law_ins", "_law_regs", "_law_known", "_law_first", "_law_lap", "_law_pair", "_law_many", "_law_told", "_law_outs", "_law_side", "_law_k"] ["_law_source_here", "_law_many_ins", "_law_many_regs", "_law_most"] (defScope s__law_draw_graph) := ⟨rfl, rfl, rfl, by decide +kernel, rfl, by decide +kernel, by decide +kernel⟩
def F__law_draw_graph : Ef := funF 15 4 [0] false (sSeq (sPar [4, 5, 6] [false, false, true] (aCons (fCall F__law_pick [some 0, none] (aOwn (aCons (op2 kAdd (fName 1) (fC (.int 1))) aNil))) (aCons (fCall F__law_pick [some 0, none] (aOwn (aCons (op2 kAdd (fName 2) (fC (.int 1))) aNil))) (aCons (fC (.dit [])) aNil)))) (sSeq (sSet 7 (op2 kAdd (op2 kAdd (fC (.int 1)) (fName 4)) (fName 5))) (sSeq (sFor (iRange1 (aCons (eIf (tB (op2 kGt (fName 7) (fC (.int 2)))) (fCall F__law_pick [some 0, none] (aOwn (aCons (op2 kAdd (fName 3) (fC (.int 1))) aNil))) (fC (.int 0))) aNil)) (gSet 8) (sDrop [8, 9] (sSeq (sSet 9 (opN kTuple (aCons (opN kSorted (aCons (fLc (iRange1 (aCons (fC (.int 2)) aNil)) (gSet 13) fYes (fCall F__law_draw_literal [some 0, none] (aOwn (aCons (eView false (op2 kAdd (fName 7) (opN kLenD (aCons (fName 6) aNil)))) aNil))) [13]) aNil)) aNil))) (sIf (tAndF (tB (op2 kGt (op2 kIx (fName 9) (fC (.int 0))) (fC (.int 1)))) (tB (op2 (kEqD true) (op2 kDiv (op2 kIx (fName 9) (fC (.int 0))) (fC (.int 2))) (op2 kDiv (op2 kIx (fName 9) (fC (.int 1))) (fC (.int 2)))))) (sDPutF 6 (fC (.bl true)) (fName 9)) sNil)))) (sSeq (sSet 10 (eView false (op2 kAdd (fName 7) (opN kLenD (aCons (fName 6) aNil))))) (sSeq (sSet 11 (opN kTuple (aCons (fLc (iRange1 (aCons (fName 5) aNil)) (gSet 14) fYes (opN kTup (aCons (fCall F__law_pick [some 0, none] (aOwn (aCons (fC (.int 2)) aNil))) (aCons (fCall F__law_draw_literal [some 0, none] (aOwn (aCons (fName 10) aNil))) aNil))) [14]) aNil))) (sSeq (sSet 12 (opN kTuple (aCons (fLc (iRange1 (aCons (op2 kAdd (fC (.int 1)) (fCall F__law_pick [some 0, none] (aOwn (aCons (fC (.int 4)) aNil)))) aNil)) (gSet 14) fYes (fCall F__law_draw_literal [some 0, none] (aOwn (aCons (fName 10) aNil))) [14]) aNil))) (sRet [0] (opN kTup (aCons (fName 4) (aCons (fName 11) (aCons (opN kTupleD (aCons (fName 6) aNil)) (aCons (fName 12) aNil))))))))))))
theorem sc__law_source : FnScope ["_law_script", "_law_mixed", "_law_cell"] ["_law_script"] (defScope s__law_source) := ⟨rfl, rfl, rfl, by decide +kernel, rfl, by decide +kernel, by decide +kernel⟩
def F__law_source : Ef := funF 3 1 [] true (sSeq (sSet 1 (fC (.int 11))) (sSeq (sFor (iScr (fName 0)) (gSet 2) (sSet 1 (op2 kMod (opN kInt (aCons (op2 kAdd (op2 kAdd (op2 kMul (fName 1) (fC (.int 69069))) (op2 kMul (fName 2) (fC (.int 31)))) (fC (.int 5))) aNil)) (fC (.int 2147483629))))) (sRet [] (fSrcNew (op1 kRevL (fLc (iScr (fName 0)) (gSet 2) fYes (opN kAbs (aCons (fName 2) aNil)) [2])) (fC (.int 1)) (fName 1) (fC (.int 0))))))
theorem sc__law_all_bits : FnScope ["_law_many", "_law_found", "_law_lap", "_law_bits"] ["_law_many"] (defScope s__law_all_bits) := ⟨rfl, rfl, rfl, by decide +kernel, rfl, by decide +kernel, by decide +kernel⟩
def F__law_all_bits : Ef := funF 4 1 [] false (sSeq (sSet 1 (opN kLst (aCons (opN kTup aNil) aNil))) (sSeq (sFor (iRange1 (aCons (fName 0) aNil)) (gSet 2) (sDrop [2] (sSet 1 (op2 kCat (fLc (iLst (fName 1)) (gSet 3) fYes (op2 kAdd (fName 3) (opN kTup (aCons (fC (.int 0)) aNil))) [3]) (fLc (iLst (fName 1)) (gSet 3) fYes (op2 kAdd (fName 3) (opN kTup (aCons (fC (.int 1)) aNil))) [3]))))) (sRet [] (fName 1))))
theorem sc__law_kept : FnScope ["_law_clauses", "_law_true", "_law_clause", "_law_one"] ["_law_clauses", "_law_true"] (defScope s__law_kept) := ⟨rfl, rfl, rfl, by decide +kernel, rfl, by decide +kernel, by decide +kernel⟩
def F__law_kept : Ef := funF 4 2 [] false (sSeq (sFor (iLst (fName 0)) (gSet 2) (sDrop [2] (sIf (tB (op2 (kEqD false) (fLc (iTupF (fName 2)) (gSet 3) (tB (op2 (kEqD false) (fDGet1 (fName 1) (opN kAbs (aCons (fName 3) aNil))) (fName 3))) (fName 3) [3]) (opN kLst aNil))) (sRet [] (fC (.bl false))) sNil))) (sRet [] (fC (.bl true))))
theorem sc__law_put : FnScope ["_law_clauses", "_law_literals", "_law_some", "_law_one", "_law_letter"] ["_law_clauses", "_law_literals"] (defScope s__law_put) := ⟨rfl, rfl, rfl, by decide +kernel, rfl, by decide +kernel, by decide +kernel⟩
def F__law_put : Ef := funF 5 2 [0] false (sSeq (sSet 2 (op1 kSortedSet (fLc (iLst (fName 1)) (gSet 3) fYes (opN kAbs (aCons (fName 3) aNil)) [3]))) (sIf (tB (op2 (kEqD false) (op1 kLenSet (fName 1)) (opN kLen (aCons (fName 2) aNil)))) (sExpr (fOwn "list" 0 kAppend (aCons (opN kTuple (aCons (fLc (iLst (fName 2)) (gSet 4) fYes (eIf (tB (op2 (kIn false) (fName 4) (fName 1))) (fName 4) (op1 kNeg (fName 4))) [4]) aNil)) aNil))) sNil))
theorem sc__law_far : FnScope ["_law_literal_here", "_law_shift", "_law_letter"] ["_law_literal_here", "_law_shift"] (defScope s__law_far) := ⟨rfl, rfl, rfl, by decide +kernel, rfl, by decide +kernel, by decide +kernel⟩
def F__law_far : Ef := funF 3 2 [] false (sSeq (sSet 2 (op2 kAdd (op2 kAdd (op2 kDiv (fName 0) (fC (.int 2))) (fC (.int 1))) (fName 1))) (sRet [] (eIf (tB (op2 (kEqD false) (op2 kMod (opN kInt (aCons (fName 0) aNil)) (fC (.int 2))) (fC (.int 0)))) (fName 2) (op1 kNeg (fName 2)))))
theorem sc__law_graph_clauses : FnScope ["_law_graph", "_law_shift", "_law_found", "_law_first", "_law_number", "_law_pair", "_law_y", "_law_a", "_law_b", "_law_some"] ["_law_graph", "_law_shift"] (defScope s__law_graph_clauses) := ⟨rfl, rfl, rfl, by decide +kernel, rfl, by decide +kernel, by decide +kernel⟩
def F__law_graph_clauses : Ef := funF 10 2 [] true (sSeq (sPar [2, 3] [true, false] (aCons (opN kLst (aCons (opN kTup (aCons (op2 kSub (op1 kNeg (fC (.int 1))) (fName 1)) aNil)) aNil)) (aCons (op2 kAdd (op2 kAdd (fC (.int 1)) (op2 kIx (fName 0) (fC (.int 0)))) (opN kLen (aCons (op2 kIx (fName 0) (fC (.int 1))) aNil))) aNil))) (sSeq (sFor (iEnumT (aCons (op2 kIx (fName 0) (fC (.int 2))) aNil)) (gTupF (gsCons (gSet 4) (gsCons (gSet 5) gsNil))) (sDrop [4, 5, 6, 7, 8, 9] (sSeq (sPar [6, 7, 8] [false, false, false] (aCons (op2 kAdd (op2 kAdd (op2 kAdd (fName 3) (fName 4)) (fC (.int 1))) (fName 1)) (aCons (fCall F__law_far [none, none] (aCons (op2 kIx (fName 5) (fC (.int 0))) (aCons (fName 1) aNil))) (aCons (fCall F__law_far [none, none] (aCons (op2 kIx (fName 5) (fC (.int 1))) (aCons (fName 1) aNil))) aNil)))) (sFor (iTupF (opN kTup (aCons (opN kLst (aCons (op1 kNeg (fName 6)) (aCons (fName 7) aNil))) (aCons (opN kLst (aCons (op1 kNeg (fName 6)) (aCons (fName 8) aNil))) (aCons (opN kLst (aCons (fName 6) (aCons (op1 kNeg (fName 7)) (aCons (op1 kNeg (fName 8)) aNil)))) aNil))))) (gSet 9) (sDrop [9] (sExpr (fCall F__law_put [some 2, none] (aOwn (aCons (fName 9) aNil))))))))) (sRetS [] 2)))
theorem sc__law_size : FnScope ["_law_graph"] ["_law_graph"] (defScope s__law_size) := ⟨rfl, rfl, rfl, by decide +kernel, rfl, by decide +kernel, by decide +kernel⟩
def F__law_size : Ef := funF 1 1 [] false (sRet [] (op2 kAdd (op2 kAdd (op2 kAdd (fC (.int 1)) (op2 kIx (fName 0) (fC (.int 0)))) (opN kLen (aCons (op2 kIx (fName 0) (fC (.int 1))) aNil))) (opN kLen (aCons (op2 kIx (fName 0) (fC (.int 2))) aNil))))
theorem sc__law_unrolled : FnScope ["_law_graph", "_law_clocks", "_law_found", "_law_size_here", "_law_clock", "_law_k", "_law_reg", "_law_z", "_law_x", "_law_some"] ["_law_graph", "_law_clocks"] (defScope s__law_unrolled) := ⟨rfl, rfl, rfl, by decide +kernel, rfl, by decide +kernel, by decide +kernel⟩
def F__law_unrolled : Ef := funF 10 2 [] true (sSeq (sPar [2, 3] [true, false] (aCons (opN kLst aNil) (aCons (fCall F__law_size [none] (aCons (fName 0) aNil)) aNil))) (sSeq (sFor (iRange1 (aCons (fName 1) aNil)) (gSet 4) (sDrop [4, 5, 6, 7, 8, 9] (sSeq (sSetO 2 (op2 kCat (fName 2) (fCall F__law_graph_clauses [none, none] (aCons (fName 0) (aCons (op2 kMul (fName 4) (fName 3)) aNil))))) (sFor (iEnumT (aCons (eIf (tB (op2 kGt (fName 4) (fC (.int 0)))) (op2 kIx (fName 0) (fC (.int 1))) (opN kTup aNil)) aNil)) (gTupF (gsCons (gSet 5) (gsCons (gSet 6) gsNil))) (sDrop [5, 6, 7, 8, 9] (sSeq (sPar [7, 8] [false, false] (aCons (op2 kAdd (op2 kAdd (op2 kAdd (op2 kMul (fName 4) (fName 3)) (op2 kIx (fName 0) (fC (.int 0)))) (fName 5)) (fC (.int 2))) (aCons (fCall F__law_far [none, none] (aCons (op2 kIx (fName 6) (fC (.int 1))) (aCons (op2 kMul (op2 kSub (fName 4) (fC (.int 1))) (fName 3)) aNil))) aNil))) (sFor (iTupF (opN kTup (aCons (opN kLst (aCons (op1 kNeg (fName 7)) (aCons (fName 8) aNil))) (aCons (opN kLst (aCons (fName 7) (aCons (op1 kNeg (fName 8)) aNil))) aNil)))) (gSet 9) (sDrop [9] (sExpr (fCall F__law_put [some 2, none] (aOwn (aCons (fName 9) aNil)))))))))))) (sRetS [] 2)))
theorem sc__law_starting : FnScope ["_law_graph", "_law_letters", "_law_k", "_law_z", "_law_reg"] ["_law_graph"] (defScope s__law_starting) := ⟨rfl, rfl, rfl, by decide +kernel, rfl, by decide +kernel, by decide +kernel⟩
def F__law_starting : Ef := funF 5 1 [] true (sSeq (sSetO 1 (fLc (iRange1 (aCons (opN kLen (aCons (op2 kIx (fName 0) (fC (.int 1))) aNil)) aNil)) (gSet 2) fYes (op2 kAdd (op2 kAdd (op2 kIx (fName 0) (fC (.int 0))) (fName 2)) (fC (.int 2))) [2])) (sRet [] (fLc (iZip false true false (aCons (fName 1) (aCons (op2 kIx (fName 0) (fC (.int 1))) aNil))) (gTupF (gsCons (gSet 3) (gsCons (gSet 4) gsNil))) fYes (eIf (tB (op2 (kEqD false) (op2 kIx (fName 4) (fC (.int 0))) (fC (.int 1)))) (opN kTup (aCons (fName 3) aNil)) (opN kTup (aCons (op1 kNeg (fName 3)) aNil))) [3, 4])))
theorem sc__law_step_of : FnScope ["_law_graph", "_law_lot", "_law_state", "_law_values", "_law_outs", "_law_l", "_law_reg"] ["_law_graph", "_law_lot", "_law_state"] (defScope s__law_step_of) := ⟨rfl, rfl, rfl, by decide +kernel, rfl, by decide +kernel, by decide +kernel⟩
def F__law_step_of : Ef := funF 7 3 [] false (sSeq (sSet 3 (fCall F__law_nodes [none, none, none, none] (aCons (fName 0) (aCons (fName 2) (aCons (fName 1) (aCons (fC (.int 1)) aNil)))))) (sSeq (sSet 4 (opN kTuple (aCons (fLc (iTupF (op2 kIx (fName 0) (fC (.int 3)))) (gSet 5) fYes (fCall F__law_literal [none, none, none] (aCons (fName 3) (aCons (fName 5) (aCons (fC (.int 1)) aNil)))) [5]) aNil))) (sRet [] (opN kTup (aCons (fName 4) (aCons (opN kTuple (aCons (fLc (iTupF (op2 kIx (fName 0) (fC (.int 1)))) (gSet 6) fYes (fCall F__law_literal [none, none, none] (aCons (fName 3) (aCons (op2 kIx (fName 6) (fC (.int 1))) (aCons (fC (.int 1)) aNil)))) [6]) aNil)) aNil))))))
theorem sc__law_rough_graph : FnScope ["_law_source_here", "_law_graph", "_law_l", "_law_ands"] ["_law_source_here"] (defScope s__law_rough_graph) := ⟨rfl, rfl, rfl, by decide +kernel, rfl, by decide +kernel, by decide +kernel⟩
def F__law_rough_graph : Ef := funF 4 1 [0] false (sSeq (sSet 1 (fCall F__law_draw_graph [some 0, none, none, none] (aOwn (aCons (fC (.int 3)) (aCons (fC (.int 3)) (aCons (fC (.int 9)) aNil)))))) (sSeq (sIf (tB (op2 (kEqD false) (fCall F__law_pick [some 0, none] (aOwn (aCons (fC (.int 2)) aNil))) (fC (.int 0)))) (sRet [0] (fName 1)) sNil) (sSeq (sSet 2 (fCall F__law_pick [some 0, none] (aOwn (aCons (op2 kMul (fC (.int 2)) (fCall F__law_size [none] (aCons (fName 1) aNil))) aNil)))) (sSeq (sSet 3 (op2 kAdd (op2 kIx (fName 1) (fC (.int 2))) (op3 kSlT (opN kTup (aCons (opN kTup (aCons (fName 2) (aCons (fName 2) aNil))) (aCons (opN kTup (aCons (fName 2) (aCons (op2 kXor (fName 2) (fC (.int 1))) aNil))) (aCons (opN kTup (aCons (fName 2) (aCons (fC (.int 0)) aNil))) (aCons (opN kTup (aCons (fC (.int 1)) (aCons (fName 2) aNil))) aNil))))) oNone (oSome (op2 kAdd (fC (.int 1)) (fCall F__law_pick [some 0, none] (aOwn (aCons (fC (.int 4)) aNil)))))))) (sRet [0] (opN kTup (aCons (op2 kIx (fName 1) (fC (.int 0))) (aCons (op2 kIx (fName 1) (fC (.int 1))) (aCons (fName 3) (aCons (op2 kAdd (op2 kIx (fName 1) (fC (.int 3))) (opN kTup (aCons (op2 kMul (fC (.int 2)) (op2 kAdd (fCall F__law_size [none] (aCons (fName 1) aNil)) (fCall F__law_pick [some 0, none] (aOwn (aCons (fC (.int 1)) aNil))))) aNil))) aNil))))))))))
theorem sc__law_true_of : FnScope ["_law_values", "_law_shift", "_law_n", "_law_bit"] ["_law_values", "_law_shift"] (defScope s__law_true_of) := ⟨rfl, rfl, rfl, by decide +kernel, rfl, by decide +kernel, by decide +kernel⟩
def F__law_true_of : Ef := funF 4 2 [] true (sRet [] (opN kDictP (aCons (fLc (iEnumL (aCons (fName 0) aNil)) (gTupF (gsCons (gSet 2) (gsCons (gSet 3) gsNil))) fYes (opN kTup (aCons (op2 kAdd (op2 kAdd (fName 2) (fC (.int 1))) (fName 1)) (aCons (eIf (tB (op2 (kEqD false) (fName 3) (fC (.int 1)))) (op2 kAdd (op2 kAdd (fName 2) (fC (.int 1))) (fName 1)) (op2 kSub (op2 kSub (op1 kNeg (fName 2)) (fC (.int 1))) (fName 1))) aNil))) [2, 3]) aNil)))
theorem sc__law_values_right : FnScope ["_law_source_here", "_law_graph", "_law_clauses", "_law_first", "_law_size_here", "_law_bits", "_law_values", "_law_spot"] ["_law_source_here", "_law_graph", "_law_clauses"] (defScope s__law_values_right) := ⟨rfl, rfl, rfl, by decide +kernel, rfl, by decide +kernel, by decide +kernel⟩
def F__law_values_right : Ef := funF 8 3 [0] false (sSeq (sPar [3, 4] [false, false] (aCons (op2 kAdd (op2 kAdd (fC (.int 1)) (op2 kIx (fName 1) (fC (.int 0)))) (opN kLen (aCons (op2 kIx (fName 1) (fC (.int 1))) aNil))) (aCons (fCall F__law_size [none] (aCons (fName 1) aNil)) aNil))) (sSeq (sFor (iLst (fCall F__law_all_bits [none] (aCons (op2 kSub (fName 3) (fC (.int 1))) aNil))) (gSet 5) (sDrop [5, 6, 7] (sSeq (sSetO 6 (fCall F__law_nodes [none, none, none, none] (aCons (fName 1) (aCons (op3 kSlT (fName 5) (oSome (op2 kIx (fName 1) (fC (.int 0)))) oNone) (aCons (op3 kSlT (fName 5) oNone (oSome (op2 kIx (fName 1) (fC (.int 0))))) (aCons (fC (.int 1)) aNil)))))) (sSeq (sIf (tNotF (tB (eView false (fCall F__law_kept [none, none] (aCons (fName 2) (aCons (fCall F__law_true_of [none, none] (aCons (fName 6) (aCons (fC (.int 0)) aNil))) aNil)))))) (sRet [0] (fC (.bl false))) sNil) (sSeq (sSet 7 (eIf (tB (op2 kGt (fName 4) (fName 3))) (op2 kAdd (fCall F__law_pick [some 0, none] (aOwn (aCons (op2 kSub (fName 4) (fName 3)) aNil))) (fName 3)) (fC (.int 0)))) (sSeq (sPutL 6 (eView false (op2 kSub (fC (.int 1)) (op2 kIx (fName 6) (fName 7)))) (fName 7)) (sIf (tB (eView false (fCall F__law_kept [none, none] (aCons (fName 2) (aCons (fCall F__law_true_of [none, none] (aCons (fName 6) (aCons (fC (.int 0)) aNil))) aNil))))) (sRet [0] (fC (.bl false))) sNil))))))) (sRet [0] (fC (.bl true)))))
theorem sc__law_run_right : FnScope ["_law_source_here", "_law_graph", "_law_clocks", "_law_state", "_law_true", "_law_clauses", "_law_clock", "_law_lot", "_law_reg", "_law_k"] ["_law_source_here", "_law_graph"] (defScope s__law_run_right) := ⟨rfl, rfl, rfl, by decide +kernel, rfl, by decide +kernel, by decide +kernel⟩
def F__law_run_right : Ef := funF 10 2 [0] false (sSeq (sPar [2, 3, 4] [false, false, true] (aCons (op2 kAdd (fC (.int 1)) (fCall F__law_pick [some 0, none] (aOwn (aCons (fC (.int 4)) aNil)))) (aCons (opN kTuple (aCons (fLc (iTupF (op2 kIx (fName 1) (fC (.int 1)))) (gSet 8) fYes (op2 kIx (fName 8) (fC (.int 0))) [8]) aNil)) (aCons (fC (.dic [])) aNil)))) (sSeq (sSet 5 (fCall F_unrolled [none, none] (aCons (fName 1) (aCons (fName 2) aNil)))) (sSeq (sIf (tOrF (tB (op2 (kEqD true) (op1 kRepr (fName 5)) (op1 kRepr (fCall F__law_unrolled [none, none] (aCons (fName 1) (aCons (fName 2) aNil)))))) (tB (op2 (kEqD true) (op1 kRepr (fCall F_starting [none] (aCons (fName 1) aNil))) (op1 kRepr (fCall F__law_starting [none] (aCons (fName 1) aNil)))))) (sRet [0] (fC (.bl false))) sNil) (sSeq (sFor (iRange1 (aCons (fName 2) aNil)) (gSet 6) (sDrop [6, 7] (sSeq (sSet 7 (opN kTuple (aCons (fLc (iRange1 (aCons (op2 kIx (fName 1) (fC (.int 0))) aNil)) (gSet 9) fYes (fCall F__law_pick [some 0, none] (aOwn (aCons (fC (.int 2)) aNil))) [9]) aNil))) (sSeq (sExpr (fOwn "dict" 4 kUpdate (aCons (fCall F__law_true_of [none, none] (aCons (fCall F__law_nodes [none, none, none, none] (aCons (fName 1) (aCons (fName 3) (aCons (fName 7) (aCons (fC (.int 1)) aNil))))) (aCons (op2 kMul (fName 6) (fCall F__law_size [none] (aCons (fName 1) aNil))) aNil))) aNil))) (sSet 3 (op2 kIx (fCall F__law_step_of [none, none, none] (aCons (fName 1) (aCons (fName 7) (aCons (fName 3) aNil)))) (fC (.int 1)))))))) (sRet [0] (eAnd (fCall F__law_kept [none, none] (aCons (fName 5) (aCons (fName 4) aNil))) (fCall F__law_kept [none, none] (aCons (fCall F_starting [none] (aCons (fName 1) aNil)) (aCons (fName 4) aNil)))))))))
theorem sc_law : FnScope ["_law_script", "_law_source_here", "_law_graph", "_law_clauses", "_law_due", "_law_again", "_law_lap", "_law_l"] ["_law_script"] (defScope s_law) := ⟨rfl, rfl, rfl, by decide +kernel, rfl, by decide +kernel, by decide +kernel⟩
def F_law : Ef := funF 8 1 [] false (sSeq (sSetO 1 (fCall F__law_source [none] (aCons (fName 0) aNil))) (sSeq (sSet 2 (fCall F__law_rough_graph [some 1] (aOwn aNil))) (sSeq (sSet 3 (fCall F_clauses_of [none] (aCons (fName 2) aNil))) (sSeq (sSet 4 (op1 kRepr (fCall F__law_graph_clauses [none, none] (aCons (fName 2) (aCons (fC (.int 0)) aNil))))) (sSeq (sIf (tOrF (tB (op2 (kEqD true) (op1 kRepr (fName 3)) (fName 4))) (tB (op2 (kEqD true) (op1 kRepr (fCall F_clauses_of [none] (aCons (fName 2) aNil))) (fName 4)))) (sRet [] (fC (.bl false))) sNil) (sSeq (sSetO 5 (fCall F_clauses_of [none] (aCons (fName 2) aNil))) (sSeq (sExpr (fOwn "list" 5 kAppend (aCons (opN kTup aNil) aNil))) (sSeq (sIf (tB (op2 (kEqD true) (op1 kRepr (fCall F_clauses_of [none] (aCons (fName 2) aNil))) (fName 4))) (sRet [] (fC (.bl false))) sNil) (sSeq (sFor (iRange1 (aCons (fC (.int 4)) aNil)) (gSet 6) (sDrop [6, 7] (sSeq (sSet 7 (fCall F__law_pick [some 1, none] (aOwn (aCons (op2 kMul (fC (.int 2)) (fCall F__law_size [none] (aCons (fName 2) aNil))) aNil)))) (sIf (tB (op2 (kEqD true) (op1 kRepr (fCall F_literal_of [none] (aCons (fName 7) aNil))) (op1 kRepr (fCall F__law_far [none, none] (aCons (fName 7) (aCons (fC (.int 0)) aNil)))))) (sRet [] (fC (.bl false))) sNil)))) (sSeq (sIf (tOrF (tNotF (tB (fCall F__law_values_right [some 1, none, none] (aOwn (aCons (fName 2) (aCons (fName 3) aNil)))))) (tNotF (tB (fCall F__law_run_right [some 1, none] (aOwn (aCons (fName 2) aNil)))))) (sRet [] (fC (.bl false))) sNil) (sRet [] (op2 (kEqD false) (fCall F_clauses_of [none] (aCons (opN kTup (aCons (fC (.int 1)) (aCons (opN kTup (aCons (opN kTup (aCons (fC (.int 0)) (aCons (fC (.int 6)) aNil))) aNil)) (aCons (opN kTup (aCons (opN kTup (aCons (fC (.int 2)) (aCons (fC (.int 4)) aNil))) aNil)) (aCons (opN kTup (aCons (fC (.int 7)) (aCons (fC (.int 5)) aNil))) aNil))))) aNil)) (opN kLst (aCons (opN kTup (aCons (op1 kNeg (fC (.int 1))) aNil)) (aCons (opN kTup (aCons (fC (.int 2)) (aCons (op1 kNeg (fC (.int 4))) aNil))) (aCons (opN kTup (aCons (fC (.int 3)) (aCons (op1 kNeg (fC (.int 4))) aNil))) (aCons (opN kTup (aCons (op1 kNeg (fC (.int 2))) (aCons (op1 kNeg (fC (.int 3))) (aCons (fC (.int 4)) aNil)))) aNil)))))))))))))))))
/-- what the top has left -/
structure Txt (K : PySem.W.Frag) (mg : Str → Option Value) where
  n_abs : mg "abs" = none
  n_any : mg "any" = none
  n_dict : mg "dict" = none
  n_enumerate : mg "enumerate" = none
  n_int : mg "int" = none
  n_len : mg "len" = none
  n_list : mg "list" = none
  n_max : mg "max" = none
  n_min : mg "min" = none
  n_range : mg "range" = none
  n_repr : mg "repr" = none
  n_set : mg "set" = none
  n_sorted : mg "sorted" = none
  n_tuple : mg "tuple" = none
  n_zip : mg "zip" = none
  a_moved_literal : Addr
  d_moved_literal : FuncData
  F_moved_literal : Fun K "moved_literal" "moved_literal" s_moved_literal a_moved_literal d_moved_literal
  m_moved_literal : mg "moved_literal" = some (.ref a_moved_literal)
  a_literal_of : Addr
  d_literal_of : FuncData
  F_literal_of : Fun K "literal_of" "literal_of" s_literal_of a_literal_of d_literal_of
  m_literal_of : mg "literal_of" = some (.ref a_literal_of)
  a_put_clause : Addr
  d_put_clause : FuncData
  F_put_clause : Fun K "put_clause" "put_clause" s_put_clause a_put_clause d_put_clause
  m_put_clause : mg "put_clause" = some (.ref a_put_clause)
  a_put_and : Addr
  d_put_and : FuncData
  F_put_and : Fun K "put_and" "put_and" s_put_and a_put_and d_put_and
  m_put_and : mg "put_and" = some (.ref a_put_and)
  a_put_same : Addr
  d_put_same : FuncData
  F_put_same : Fun K "put_same" "put_same" s_put_same a_put_same d_put_same
  m_put_same : mg "put_same" = some (.ref a_put_same)
  a_first_and : Addr
  d_first_and : FuncData
  F_first_and : Fun K "first_and" "first_and" s_first_and a_first_and d_first_and
  m_first_and : mg "first_and" = some (.ref a_first_and)
  a_size_of : Addr
  d_size_of : FuncData
  F_size_of : Fun K "size_of" "size_of" s_size_of a_size_of d_size_of
  m_size_of : mg "size_of" = some (.ref a_size_of)
  a_put_graph : Addr
  d_put_graph : FuncData
  F_put_graph : Fun K "put_graph" "put_graph" s_put_graph a_put_graph d_put_graph
  m_put_graph : mg "put_graph" = some (.ref a_put_graph)
  a_clauses_of : Addr
  d_clauses_of : FuncData
  F_clauses_of : Fun K "clauses_of" "clauses_of" s_clauses_of a_clauses_of d_clauses_of
  m_clauses_of : mg "clauses_of" = some (.ref a_clauses_of)
  a_register_letter : Addr
  d_register_letter : FuncData
  F_register_letter : Fun K "register_letter" "register_letter" s_register_letter a_register_letter d_register_letter
  m_register_letter : mg "register_letter" = some (.ref a_register_letter)
  a_unrolled : Addr
  d_unrolled : FuncData
  F_unrolled : Fun K "unrolled" "unrolled" s_unrolled a_unrolled d_unrolled
  m_unrolled : mg "unrolled" = some (.ref a_unrolled)
  a_starting : Addr
  d_starting : FuncData
  F_starting : Fun K "starting" "starting" s_starting a_starting d_starting
  m_starting : mg "starting" = some (.ref a_starting)
  a__law_literal : Addr
  d__law_literal : FuncData
  F__law_literal : Fun K "_law_literal" "_law_literal" s__law_literal a__law_literal d__law_literal
  m__law_literal : mg "_law_literal" = some (.ref a__law_literal)
  a__law_nodes : Addr
  d__law_nodes : FuncData
  F__law_nodes : Fun K "_law_nodes" "_law_nodes" s__law_nodes a__law_nodes d__law_nodes
  m__law_nodes : mg "_law_nodes" = some (.ref a__law_nodes)
  a__law_pick : Addr
  d__law_pick : FuncData
  F__law_pick : Fun K "_law_pick" "_law_pick" s__law_pick a__law_pick d__law_pick
  m__law_pick : mg "_law_pick" = some (.ref a__law_pick)
  a__law_draw_literal : Addr
  d__law_draw_literal : FuncData
  F__law_draw_literal : Fun K "_law_draw_literal" "_law_draw_literal" s__law_draw_literal a__law_draw_literal d__law_draw_literal
  m__law_draw_literal : mg "_law_draw_literal" = some (.ref a__law_draw_literal)
  a__law_draw_graph : Addr
  d__law_draw_graph : FuncData
  F__law_draw_graph : Fun K "_law_draw_graph" "_law_draw_graph" s__law_draw_graph a__law_draw_graph d__law_draw_graph
  m__law_draw_graph : mg "_law_draw_graph" = some (.ref a__law_draw_graph)
  a__law_source : Addr
  d__law_source : FuncData
  F__law_source : Fun K "_law_source" "_law_source" s__law_source a__law_source d__law_source
  m__law_source : mg "_law_source" = some (.ref a__law_source)
  a__law_all_bits : Addr
  d__law_all_bits : FuncData
  F__law_all_bits : Fun K "_law_all_bits" "_law_all_bits" s__law_all_bits a__law_all_bits d__law_all_bits
  m__law_all_bits : mg "_law_all_bits" = some (.ref a__law_all_bits)
  a__law_kept : Addr
  d__law_kept : FuncData
  F__law_kept : Fun K "_law_kept" "_law_kept" s__law_kept a__law_kept d__law_kept
  m__law_kept : mg "_law_kept" = some (.ref a__law_kept)
  a__law_put : Addr
  d__law_put : FuncData
  F__law_put : Fun K "_law_put" "_law_put" s__law_put a__law_put d__law_put
  m__law_put : mg "_law_put" = some (.ref a__law_put)
  a__law_far : Addr
  d__law_far : FuncData
  F__law_far : Fun K "_law_far" "_law_far" s__law_far a__law_far d__law_far
  m__law_far : mg "_law_far" = some (.ref a__law_far)
  a__law_graph_clauses : Addr
  d__law_graph_clauses : FuncData
  F__law_graph_clauses : Fun K "_law_graph_clauses" "_law_graph_clauses" s__law_graph_clauses a__law_graph_clauses d__law_graph_clauses
  m__law_graph_clauses : mg "_law_graph_clauses" = some (.ref a__law_graph_clauses)
  a__law_size : Addr
  d__law_size : FuncData
  F__law_size : Fun K "_law_size" "_law_size" s__law_size a__law_size d__law_size
  m__law_size : mg "_law_size" = some (.ref a__law_size)
  a__law_unrolled : Addr
  d__law_unrolled : FuncData
  F__law_unrolled : Fun K "_law_unrolled" "_law_unrolled" s__law_unrolled a__law_unrolled d__law_unrolled
  m__law_unrolled : mg "_law_unrolled" = some (.ref a__law_unrolled)
  a__law_starting : Addr
  d__law_starting : FuncData
  F__law_starting : Fun K "_law_starting" "_law_starting" s__law_starting a__law_starting d__law_starting
  m__law_starting : mg "_law_starting" = some (.ref a__law_starting)
  a__law_step_of : Addr
  d__law_step_of : FuncData
  F__law_step_of : Fun K "_law_step_of" "_law_step_of" s__law_step_of a__law_step_of d__law_step_of
  m__law_step_of : mg "_law_step_of" = some (.ref a__law_step_of)
  a__law_rough_graph : Addr
  d__law_rough_graph : FuncData
  F__law_rough_graph : Fun K "_law_rough_graph" "_law_rough_graph" s__law_rough_graph a__law_rough_graph d__law_rough_graph
  m__law_rough_graph : mg "_law_rough_graph" = some (.ref a__law_rough_graph)
  a__law_true_of : Addr
  d__law_true_of : FuncData
  F__law_true_of : Fun K "_law_true_of" "_law_true_of" s__law_true_of a__law_true_of d__law_true_of
  m__law_true_of : mg "_law_true_of" = some (.ref a__law_true_of)
  a__law_values_right : Addr
  d__law_values_right : FuncData
  F__law_values_right : Fun K "_law_values_right" "_law_values_right" s__law_values_right a__law_values_right d__law_values_right
  m__law_values_right : mg "_law_values_right" = some (.ref a__law_values_right)
  a__law_run_right : Addr
  d__law_run_right : FuncData
  F__law_run_right : Fun K "_law_run_right" "_law_run_right" s__law_run_right a__law_run_right d__law_run_right
  m__law_run_right : mg "_law_run_right" = some (.ref a__law_run_right)
section
variable {P : Program} {w : World} {K : PySem.W.Frag} {mg : Str → Option Value} {base : Heap}
theorem c_moved_literal (T : Txt K mg) : FnG P w K mg base 1 T.a_moved_literal T.d_moved_literal ["literal", "shift"] (SpV K [] false 2 F_moved_literal) :=
  fnV_of T.F_moved_literal sc_moved_literal rfl rfl rfl (M' := []) fun cdv A outer s H E hr =>
    have hu := hr.hu
    have hu64 := hr.hu64
    (vss_cons (vs_set 2 sc_moved_literal.nd rfl rfl (ve_op (op_add.or op_catA) l_add (ve_op (op_add.or op_catA) l_add (ve_op op_fdiv l_div (ve_name 0 rfl) ve_int) ve_int) (ve_name 1 rfl))) (vss_one (vs_ret rfl (ve_if (vt_cmp (op_eqD hu64) l_eq (ve_op op_mod l_mod (ve_name 0 rfl) ve_int) ve_int (nomark _)) (ve_name 2 rfl) (ve_un un_neg l_neg (ve_name 2 rfl))))))
theorem b_moved_literal (T : Txt K mg) : Binds K T.d_moved_literal ["literal", "shift"] [] := T.F_moved_literal.binds (ps := ["literal", "shift"]) fun _ _ _ _ _ _ us hl => match us, hl with | [_, _], _ => rfl
theorem c_literal_of (T : Txt K mg) : FnG P w K mg base 2 T.a_literal_of T.d_literal_of ["literal"] (SpV K [] false 1 F_literal_of) :=
  fnV_of T.F_literal_of sc_literal_of rfl rfl rfl (M' := []) fun cdv A outer s H E hr =>
    have hu := hr.hu
    have hu64 := hr.hu64
    (vss_one (vs_ret rfl (ve_call (js := [none, none]) (c_moved_literal T) (hr.mono (by decide)) T.m_moved_literal T.F_moved_literal.kp (b_moved_literal T) rfl rfl rfl rfl rfl (va_cons (ve_name 0 rfl) (va_cons ve_int va_nil)))))
theorem b_literal_of (T : Txt K mg) : Binds K T.d_literal_of ["literal"] [] := T.F_literal_of.binds (ps := ["literal"]) fun _ _ _ _ _ _ us hl => match us, hl with | [_], _ => rfl
theorem c_put_clause (T : Txt K mg) : FnG P w K mg base 1 T.a_put_clause T.d_put_clause ["clauses", "literals"] (SpV K [0] false 2 F_put_clause) :=
  fnV_of T.F_put_clause sc_put_clause rfl rfl rfl (M' := [0]) fun cdv A outer s H E hr =>
    have hu := hr.hu
    have hu64 := hr.hu64
    (vss_cons (vs_set 2 sc_put_clause.nd rfl rfl (VE.frz (ve_dc (own := [("literal", 3)]) (ts := [3]) rfl sc_put_clause.nd rfl rfl rfl (vi_list (ve_name 1 rfl)) (fun _ _ _ _ _ => (vg_name 3 sc_put_clause.nd rfl)) (fun _ _ _ _ _ => vts_nil) (fun _ _ _ _ _ => (ve_name 3 rfl)) (fun _ _ _ _ _ => ve_bl)))) (vss_one (vs_if (M' := [0]) (vt_not (vt_val (ve_callB (cr_any rfl) l_any T.n_any (by decide +kernel) rfl (js := [none]) rfl (va_cons (VE.frz (ve_lcKeys (own := [("literal", 3)]) (ts := [3]) 2 rfl sc_put_clause.nd rfl rfl rfl rfl (fun _ _ _ _ _ => (vg_name 3 sc_put_clause.nd rfl)) (fun _ _ _ _ _ => vts_nil) (fun _ _ _ _ _ => (ve_din hu (ve_un un_neg l_neg (ve_name 3 rfl)) (ve_name 2 rfl))))) va_nil)))) (vss_one (vs_expr (ve_own 0 rfl lm_append PySem.F.plainAttrs_list PySem.F.slot_list_append PySem.F.type_list_append mt_append (js := [none]) rfl (va_cons (ve_callTy call_tuple_of l_tuple T.n_tuple (by decide +kernel) rfl (js := [none]) rfl (va_cons (VE.frz (ve_sortedAbsD T.n_sorted T.n_abs hu64 rfl rfl rfl (ve_name 2 rfl))) va_nil)) va_nil)))) vss_nil)))
theorem b_put_clause (T : Txt K mg) : Binds K T.d_put_clause ["clauses", "literals"] [] := T.F_put_clause.binds (ps := ["clauses", "literals"]) fun _ _ _ _ _ _ us hl => match us, hl with | [_, _], _ => rfl
theorem c_put_and (T : Txt K mg) : FnG P w K mg base 2 T.a_put_and T.d_put_and ["clauses", "letter", "one", "other"] (SpV K [0] false 4 F_put_and) :=
  fnV_of T.F_put_and sc_put_and rfl rfl rfl (M' := [0]) fun cdv A outer s H E hr =>
    have hu := hr.hu
    have hu64 := hr.hu64
    (vss_cons (vs_expr (ve_call (js := [some 0, none]) (c_put_clause T) (hr.mono (by decide)) T.m_put_clause T.F_put_clause.kp (b_put_clause T) rfl rfl rfl rfl rfl (va_own 0 rfl (va_cons (VE.frz (ve_lst (js := [none, none]) rfl (va_cons (ve_un un_neg l_neg (ve_name 1 rfl)) (va_cons (ve_name 2 rfl) va_nil)))) va_nil)))) (vss_cons (vs_expr (ve_call (js := [some 0, none]) (c_put_clause T) (hr.mono (by decide)) T.m_put_clause T.F_put_clause.kp (b_put_clause T) rfl rfl rfl rfl rfl (va_own 0 rfl (va_cons (VE.frz (ve_lst (js := [none, none]) rfl (va_cons (ve_un un_neg l_neg (ve_name 1 rfl)) (va_cons (ve_name 3 rfl) va_nil)))) va_nil)))) (vss_one (vs_expr (ve_call (js := [some 0, none]) (c_put_clause T) (hr.mono (by decide)) T.m_put_clause T.F_put_clause.kp (b_put_clause T) rfl rfl rfl rfl rfl (va_own 0 rfl (va_cons (VE.frz (ve_lst (js := [none, none, none]) rfl (va_cons (ve_name 1 rfl) (va_cons (ve_un un_neg l_neg (ve_name 2 rfl)) (va_cons (ve_un un_neg l_neg (ve_name 3 rfl)) va_nil))))) va_nil)))))))
theorem b_put_and (T : Txt K mg) : Binds K T.d_put_and ["clauses", "letter", "one", "other"] [] := T.F_put_and.binds (ps := ["clauses", "letter", "one", "other"]) fun _ _ _ _ _ _ us hl => match us, hl with | [_, _, _, _], _ => rfl
theorem c_put_same (T : Txt K mg) : FnG P w K mg base 2 T.a_put_same T.d_put_same ["clauses", "one", "other"] (SpV K [0] false 3 F_put_same) :=
  fnV_of T.F_put_same sc_put_same rfl rfl rfl (M' := [0]) fun cdv A outer s H E hr =>
    have hu := hr.hu
    have hu64 := hr.hu64
    (vss_cons (vs_expr (ve_call (js := [some 0, none]) (c_put_clause T) (hr.mono (by decide)) T.m_put_clause T.F_put_clause.kp (b_put_clause T) rfl rfl rfl rfl rfl (va_own 0 rfl (va_cons (VE.frz (ve_lst (js := [none, none]) rfl (va_cons (ve_un un_neg l_neg (ve_name 1 rfl)) (va_cons (ve_name 2 rfl) va_nil)))) va_nil)))) (vss_one (vs_expr (ve_call (js := [some 0, none]) (c_put_clause T) (hr.mono (by decide)) T.m_put_clause T.F_put_clause.kp (b_put_clause T) rfl rfl rfl rfl rfl (va_own 0 rfl (va_cons (VE.frz (ve_lst (js := [none, none]) rfl (va_cons (ve_name 1 rfl) (va_cons (ve_un un_neg l_neg (ve_name 2 rfl)) va_nil)))) va_nil))))))
theorem b_put_same (T : Txt K mg) : Binds K T.d_put_same ["clauses", "one", "other"] [] := T.F_put_same.binds (ps := ["clauses", "one", "other"]) fun _ _ _ _ _ _ us hl => match us, hl with | [_, _, _], _ => rfl
theorem c_first_and (T : Txt K mg) : FnG P w K mg base 1 T.a_first_and T.d_first_and ["graph"] (SpV K [] false 1 F_first_and) :=
  fnV_of T.F_first_and sc_first_and rfl rfl rfl (M' := []) fun cdv A outer s H E hr =>
    have hu := hr.hu
    have hu64 := hr.hu64
    (vss_one (vs_ret rfl (ve_op (op_add.or op_catA) l_add (ve_op (op_add.or op_catA) l_add ve_int (ve_ix ix_seq l_ix (ve_name 0 rfl) ve_int)) (ve_callB call_len_seq l_len T.n_len (by decide +kernel) rfl (js := [none]) rfl (va_cons (ve_ix ix_seq l_ix (ve_name 0 rfl) ve_int) va_nil)))))
theorem b_first_and (T : Txt K mg) : Binds K T.d_first_and ["graph"] [] := T.F_first_and.binds (ps := ["graph"]) fun _ _ _ _ _ _ us hl => match us, hl with | [_], _ => rfl
theorem c_size_of (T : Txt K mg) : FnG P w K mg base 2 T.a_size_of T.d_size_of ["graph"] (SpV K [] false 1 F_size_of) :=
  fnV_of T.F_size_of sc_size_of rfl rfl rfl (M' := []) fun cdv A outer s H E hr =>
    have hu := hr.hu
    have hu64 := hr.hu64
    (vss_one (vs_ret rfl (ve_op (op_add.or op_catA) l_add (ve_call (js := [none]) (c_first_and T) (hr.mono (by decide)) T.m_first_and T.F_first_and.kp (b_first_and T) rfl rfl rfl rfl rfl (va_cons (ve_name 0 rfl) va_nil)) (ve_callB call_len_seq l_len T.n_len (by decide +kernel) rfl (js := [none]) rfl (va_cons (ve_ix ix_seq l_ix (ve_name 0 rfl) ve_int) va_nil)))))
theorem b_size_of (T : Txt K mg) : Binds K T.d_size_of ["graph"] [] := T.F_size_of.binds (ps := ["graph"]) fun _ _ _ _ _ _ us hl => match us, hl with | [_], _ => rfl
theorem c_put_graph (T : Txt K mg) : FnG P w K mg base 3 T.a_put_graph T.d_put_graph ["clauses", "graph", "shift"] (SpV K [0] false 3 F_put_graph) :=
  fnV_of T.F_put_graph sc_put_graph rfl rfl rfl (M' := [0]) fun cdv A outer s H E hr =>
    have hu := hr.hu
    have hu64 := hr.hu64
    (vss_cons (vs_expr (ve_own 0 rfl lm_append PySem.F.plainAttrs_list PySem.F.slot_list_append PySem.F.type_list_append mt_append (js := [none]) rfl (va_cons (ve_tup (js := [none]) rfl (va_cons (ve_op op_sub l_sub (ve_un un_neg l_neg ve_int) (ve_name 2 rfl)) va_nil)) va_nil))) (vss_one (vs_for (M := [0]) PassesOwn.never rfl rfl (vi_enumT rfl T.n_enumerate (js := [none]) rfl (va_cons (ve_ix ix_seq l_ix (ve_name 1 rfl) ve_int) va_nil)) (vg_tup rfl (vgs_cons (vg_name 3 sc_put_graph.nd rfl) (vgs_cons (vg_tup rfl (vgs_cons (vg_name 4 sc_put_graph.nd rfl) (vgs_cons (vg_name 5 sc_put_graph.nd rfl) vgs_nil)) len2) vgs_nil)) len2) (vss_drop [3, 4, 5, 6] rfl rfl (vss_cons (vs_set 6 sc_put_graph.nd rfl rfl (ve_op (op_add.or op_catA) l_add (ve_op (op_add.or op_catA) l_add (ve_op (op_add.or op_catA) l_add (ve_call (js := [none]) (c_first_and T) (hr.mono (by decide)) T.m_first_and T.F_first_and.kp (b_first_and T) rfl rfl rfl rfl rfl (va_cons (ve_name 1 rfl) va_nil)) (ve_name 3 rfl)) ve_int) (ve_name 2 rfl))) (vss_one (vs_expr (ve_call (js := [some 0, none, none, none]) (c_put_and T) (hr.mono (by decide)) T.m_put_and T.F_put_and.kp (b_put_and T) rfl rfl rfl rfl rfl (va_own 0 rfl (va_cons (ve_name 6 rfl) (va_cons (ve_call (js := [none, none]) (c_moved_literal T) (hr.mono (by decide)) T.m_moved_literal T.F_moved_literal.kp (b_moved_literal T) rfl rfl rfl rfl rfl (va_cons (ve_name 4 rfl) (va_cons (ve_name 2 rfl) va_nil))) (va_cons (ve_call (js := [none, none]) (c_moved_literal T) (hr.mono (by decide)) T.m_moved_literal T.F_moved_literal.kp (b_moved_literal T) rfl rfl rfl rfl rfl (va_cons (ve_name 5 rfl) (va_cons (ve_name 2 rfl) va_nil))) va_nil))))))))))))
theorem b_put_graph (T : Txt K mg) : Binds K T.d_put_graph ["clauses", "graph", "shift"] [] := T.F_put_graph.binds (ps := ["clauses", "graph", "shift"]) fun _ _ _ _ _ _ us hl => match us, hl with | [_, _, _], _ => rfl
theorem c_clauses_of (T : Txt K mg) : FnG P w K mg base 4 T.a_clauses_of T.d_clauses_of ["graph"] (SpV K [] true 1 F_clauses_of) :=
  fnV_of T.F_clauses_of sc_clauses_of rfl rfl rfl (M' := [1]) fun cdv A outer s H E hr =>
    have hu := hr.hu
    have hu64 := hr.hu64
    (vss_cons (vs_setO 1 sc_clauses_of.nd rfl rfl (ve_lst (js := []) rfl va_nil)) (vss_cons (vs_expr (ve_call (js := [some 1, none, none]) (c_put_graph T) (hr.mono (by decide)) T.m_put_graph T.F_put_graph.kp (b_put_graph T) rfl rfl rfl rfl rfl (va_own 1 rfl (va_cons (ve_name 0 rfl) (va_cons ve_int va_nil))))) (vss_one (vs_retS 1 rfl rfl rfl))))
theorem b_clauses_of (T : Txt K mg) : Binds K T.d_clauses_of ["graph"] [] := T.F_clauses_of.binds (ps := ["graph"]) fun _ _ _ _ _ _ us hl => match us, hl with | [_], _ => rfl
theorem c_register_letter (T : Txt K mg) : FnG P w K mg base 3 T.a_register_letter T.d_register_letter ["graph", "index", "clock"] (SpV K [] false 3 F_register_letter) :=
  fnV_of T.F_register_letter sc_register_letter rfl rfl rfl (M' := []) fun cdv A outer s H E hr =>
    have hu := hr.hu
    have hu64 := hr.hu64
    (vss_one (vs_ret rfl (ve_op (op_add.or op_catA) l_add (ve_op (op_add.or op_catA) l_add (ve_op (op_add.or op_catA) l_add (ve_op op_mul l_mul (ve_name 2 rfl) (ve_call (js := [none]) (c_size_of T) (hr.mono (by decide)) T.m_size_of T.F_size_of.kp (b_size_of T) rfl rfl rfl rfl rfl (va_cons (ve_name 0 rfl) va_nil))) (ve_ix ix_seq l_ix (ve_name 0 rfl) ve_int)) (ve_name 1 rfl)) ve_int)))
theorem b_register_letter (T : Txt K mg) : Binds K T.d_register_letter ["graph", "index", "clock"] [] := T.F_register_letter.binds (ps := ["graph", "index", "clock"]) fun _ _ _ _ _ _ us hl => match us, hl with | [_, _, _], _ => rfl
theorem c_unrolled (T : Txt K mg) : FnG P w K mg base 4 T.a_unrolled T.d_unrolled ["graph", "clocks"] (SpV K [] true 2 F_unrolled) :=
  fnV_of T.F_unrolled sc_unrolled rfl rfl rfl (M' := [2]) fun cdv A outer s H E hr =>
    have hu := hr.hu
    have hu64 := hr.hu64
    (vss_cons (vs_par2 2 3 (M' := [2]) (ms := [true, false]) sc_unrolled.nd rfl rfl rfl (by decide) rfl rfl (by rfl) (vb_cons (ve_lst (js := []) rfl va_nil) (vb_cons (ve_call (js := [none]) (c_size_of T) (hr.mono (by decide)) T.m_size_of T.F_size_of.kp (b_size_of T) rfl rfl rfl rfl rfl (va_cons (ve_name 0 rfl) va_nil)) vb_nil))) (vss_cons (vs_for (M := [2]) PassesOwn.never rfl rfl (vi_range1 rfl T.n_range (js := [none]) rfl (va_cons (ve_name 1 rfl) va_nil)) (vg_name 4 sc_unrolled.nd rfl) (vss_drop [4, 5, 6, 7] rfl rfl (vss_cons (vs_expr (ve_call (js := [some 2, none, none]) (c_put_graph T) (hr.mono (by decide)) T.m_put_graph T.F_put_graph.kp (b_put_graph T) rfl rfl rfl rfl rfl (va_own 2 rfl (va_cons (ve_name 0 rfl) (va_cons (ve_op op_mul l_mul (ve_name 4 rfl) (ve_name 3 rfl)) va_nil))))) (vss_one (vs_for (M := [2]) PassesOwn.never rfl rfl (vi_enumT rfl T.n_enumerate (js := [none]) rfl (va_cons (ve_if (vt_cmp op_gt l_gt (ve_name 4 rfl) ve_int (nomark _)) (ve_ix ix_seq l_ix (ve_name 0 rfl) ve_int) (ve_tup (js := []) rfl va_nil)) va_nil)) (vg_tup rfl (vgs_cons (vg_name 5 sc_unrolled.nd rfl) (vgs_cons (vg_tup rfl (vgs_cons (vg_name 6 sc_unrolled.nd rfl) (vgs_cons (vg_name 7 sc_unrolled.nd rfl) vgs_nil)) len2) vgs_nil)) len2) (vss_drop [5, 6, 7] rfl rfl (vss_one (vs_expr (ve_call (js := [some 2, none, none]) (c_put_same T) (hr.mono (by decide)) T.m_put_same T.F_put_same.kp (b_put_same T) rfl rfl rfl rfl rfl (va_own 2 rfl (va_cons (ve_call (js := [none, none, none]) (c_register_letter T) (hr.mono (by decide)) T.m_register_letter T.F_register_letter.kp (b_register_letter T) rfl rfl rfl rfl rfl (va_cons (ve_name 0 rfl) (va_cons (ve_name 5 rfl) (va_cons (ve_name 4 rfl) va_nil)))) (va_cons (ve_call (js := [none, none]) (c_moved_literal T) (hr.mono (by decide)) T.m_moved_literal T.F_moved_literal.kp (b_moved_literal T) rfl rfl rfl rfl rfl (va_cons (ve_name 7 rfl) (va_cons (ve_op op_mul l_mul (ve_op op_sub l_sub (ve_name 4 rfl) ve_int) (ve_name 3 rfl)) va_nil))) va_nil)))))))))))) (vss_one (vs_retS 2 rfl rfl rfl))))
theorem b_unrolled (T : Txt K mg) : Binds K T.d_unrolled ["graph", "clocks"] [] := T.F_unrolled.binds (ps := ["graph", "clocks"]) fun _ _ _ _ _ _ us hl => match us, hl with | [_, _], _ => rfl
theorem c_starting (T : Txt K mg) : FnG P w K mg base 4 T.a_starting T.d_starting ["graph"] (SpV K [] true 1 F_starting) :=
  fnV_of T.F_starting sc_starting rfl rfl rfl (M' := []) fun cdv A outer s H E hr =>
    have hu := hr.hu
    have hu64 := hr.hu64
    (vss_cons (vs_end (M1 := []) (M' := [1]) rfl (vs_setLc 1 (own := [("index", 2)]) (ts := [2]) rfl sc_starting.nd rfl rfl rfl rfl rfl rfl (sw_true rfl rfl rfl (by decide +kernel)) (vi_range1 rfl T.n_range (js := [none]) rfl (va_cons (ve_callB call_len_seq l_len T.n_len (by decide +kernel) rfl (js := [none]) rfl (va_cons (ve_ix ix_seq l_ix (ve_name 0 rfl) ve_int) va_nil)) va_nil)) (fun _ _ _ _ _ => (vg_name 2 sc_starting.nd rfl)) (fun _ _ _ _ _ => vts_nil) (fun _ _ _ _ _ => (ve_call (js := [none, none, none]) (c_register_letter T) (hr.mono (by decide)) T.m_register_letter T.F_register_letter.kp (b_register_letter T) rfl rfl rfl rfl rfl (va_cons (ve_name 0 rfl) (va_cons (ve_name 2 rfl) (va_cons ve_int va_nil))))))) (vss_one (vs_ret rfl (ve_lc (own := [("letter", 3), ("start", 4), ("taken", 5)]) (ts := [3, 4, 5]) rfl sc_starting.nd rfl rfl rfl (vi_zipS true false rfl T.n_zip (js := [none, none]) rfl (va_cons (ve_name 1 rfl) (va_cons (ve_ix ix_seq l_ix (ve_name 0 rfl) ve_int) va_nil))) (fun _ _ _ _ _ => (vg_tup rfl (vgs_cons (vg_name 3 sc_starting.nd rfl) (vgs_cons (vg_tup rfl (vgs_cons (vg_name 4 sc_starting.nd rfl) (vgs_cons (vg_name 5 sc_starting.nd rfl) vgs_nil)) len2) vgs_nil)) len2)) (fun _ _ _ _ _ => vts_nil) (fun _ _ _ _ _ => (ve_tup (js := [none]) rfl (va_cons (ve_if (vt_cmp (op_eqD hu64) l_eq (ve_name 4 rfl) ve_int (nomark _)) (ve_name 3 rfl) (ve_un un_neg l_neg (ve_name 3 rfl))) va_nil)))))))
theorem b_starting (T : Txt K mg) : Binds K T.d_starting ["graph"] [] := T.F_starting.binds (ps := ["graph"]) fun _ _ _ _ _ _ us hl => match us, hl with | [_], _ => rfl
theorem c__law_literal (T : Txt K mg) : FnG P w K mg base 1 T.a__law_literal T.d__law_literal ["_law_values", "_law_l", "_law_full"] (SpV K [] false 3 F__law_literal) :=
  fnV_of T.F__law_literal sc__law_literal rfl rfl rfl (M' := []) fun cdv A outer s H E hr =>
    have hu := hr.hu
    have hu64 := hr.hu64
    (vss_one (vs_ret rfl (ve_op op_xor l_xor (ve_ix ix_seq l_ix (ve_name 0 rfl) (ve_op op_fdiv l_div (ve_name 1 rfl) ve_int)) (ve_op op_mul l_mul (ve_name 2 rfl) (ve_op op_mod l_mod (ve_callTy call_int1 l_int T.n_int (by decide +kernel) rfl (js := [none]) rfl (va_cons (ve_name 1 rfl) va_nil)) ve_int)))))
theorem b__law_literal (T : Txt K mg) : Binds K T.d__law_literal ["_law_values", "_law_l", "_law_full"] [] := T.F__law_literal.binds (ps := ["_law_values", "_law_l", "_law_full"]) fun _ _ _ _ _ _ us hl => match us, hl with | [_, _, _], _ => rfl
theorem c__law_nodes (T : Txt K mg) : FnG P w K mg base 2 T.a__law_nodes T.d__law_nodes ["_law_graph", "_law_state", "_law_lot", "_law_full"] (SpV K [] true 4 F__law_nodes) :=
  fnV_of T.F__law_nodes sc__law_nodes rfl rfl rfl (M' := [4]) fun cdv A outer s H E hr =>
    have hu := hr.hu
    have hu64 := hr.hu64
    (vss_cons (vs_setO 4 sc__law_nodes.nd rfl rfl (ve_op op_cat l_cat (VE.frz (ve_op op_cat l_cat (VE.frz (ve_lst (js := [none]) rfl (va_cons ve_int va_nil))) (VE.frz (ve_callTy call_list_of l_list T.n_list (by decide +kernel) rfl (js := [none]) rfl (va_cons (ve_name 2 rfl) va_nil))))) (VE.frz (ve_callTy call_list_of l_list T.n_list (by decide +kernel) rfl (js := [none]) rfl (va_cons (ve_name 1 rfl) va_nil))))) (vss_cons (vs_for (M := [4]) PassesOwn.never rfl rfl (vi_tup (ve_ix ix_seq l_ix (ve_name 0 rfl) ve_int)) (vg_tup rfl (vgs_cons (vg_name 5 sc__law_nodes.nd rfl) (vgs_cons (vg_name 6 sc__law_nodes.nd rfl) vgs_nil)) len2) (vss_drop [5, 6] rfl rfl (vss_one (vs_expr (ve_own 4 rfl lm_append PySem.F.plainAttrs_list PySem.F.slot_list_append PySem.F.type_list_append mt_append (js := [none]) rfl (va_cons (ve_view (ve_op op_and l_and (ve_call (js := [none, none, none]) (c__law_literal T) (hr.mono (by decide)) T.m__law_literal T.F__law_literal.kp (b__law_literal T) rfl rfl rfl rfl rfl (va_cons (ve_name 4 rfl) (va_cons (ve_name 5 rfl) (va_cons (ve_name 3 rfl) va_nil)))) (ve_call (js := [none, none, none]) (c__law_literal T) (hr.mono (by decide)) T.m__law_literal T.F__law_literal.kp (b__law_literal T) rfl rfl rfl rfl rfl (va_cons (ve_name 4 rfl) (va_cons (ve_name 6 rfl) (va_cons (ve_name 3 rfl) va_nil)))))) va_nil)))))) (vss_one (vs_retS 4 rfl rfl rfl))))
theorem b__law_nodes (T : Txt K mg) : Binds K T.d__law_nodes ["_law_graph", "_law_state", "_law_lot", "_law_full"] [] := T.F__law_nodes.binds (ps := ["_law_graph", "_law_state", "_law_lot", "_law_full"]) fun _ _ _ _ _ _ us hl => match us, hl with | [_, _, _, _], _ => rfl
theorem c__law_pick (T : Txt K mg) : FnG P w K mg base 1 T.a__law_pick T.d__law_pick ["_law_source_here", "_law_many"] (SpV K [0] false 2 F__law_pick) :=
  fnV_of T.F__law_pick sc__law_pick rfl rfl rfl (M' := [0]) fun cdv A outer s H E hr =>
    have hu := hr.hu
    have hu64 := hr.hu64
    (vss_cons (vs_while (M := [0]) lim PassesOwn.never (VW.vt (vw_and (vt_cmp op_gt l_gt (ve_name 1 rfl) ve_int (nomark _)) (vw_and (vt_cmp op_lt l_lt (ve_srcGet_left 0 rfl hu) ve_int (nomark _)) (vw_and1 (vt_cmp op_gt l_gt (ve_srcLen 0 rfl hu T.n_len rfl) ve_int (nomark _)))))) (vss_one (vs_srcPut_left 0 rfl hu (ve_srcPop 0 rfl hu)))) (vss_cons (vs_set 2 sc__law_pick.nd rfl rfl (ve_srcGet_left 0 rfl hu)) (vss_cons (vs_if (M' := [0]) (VW.vt (vw_or (vt_cmp op_lt l_lt (ve_name 1 rfl) ve_int (nomark _)) (vw_or1 (vt_cmp op_gt l_gt (ve_name 2 rfl) ve_int (nomark _))))) (vss_cons (vs_srcPut_left 0 rfl hu (ve_op op_fdiv l_div (ve_name 2 rfl) (ve_callB (call_max2 rfl) l_max2 T.n_max (by decide +kernel) rfl (js := [none, none]) rfl (va_cons ve_int (va_cons (ve_name 1 rfl) va_nil))))) (vss_one (vs_ret rfl (ve_op op_mod l_mod (ve_callTy call_int1 l_int T.n_int (by decide +kernel) rfl (js := [none]) rfl (va_cons (ve_name 2 rfl) va_nil)) (ve_callB (call_max2 rfl) l_max2 T.n_max (by decide +kernel) rfl (js := [none, none]) rfl (va_cons ve_int (va_cons (ve_name 1 rfl) va_nil))))))) vss_nil) (vss_cons (vs_srcPut_turn 0 rfl hu (ve_op (op_add.or op_catA) l_add (ve_srcGet_turn 0 rfl hu) ve_int)) (vss_cons (vs_set 3 sc__law_pick.nd rfl rfl (ve_op op_mod l_mod (ve_callTy call_int1 l_int T.n_int (by decide +kernel) rfl (js := [none]) rfl (va_cons (ve_op (op_add.or op_catA) l_add (ve_srcGet_mixed 0 rfl hu) (ve_op op_mul l_mul (ve_srcGet_turn 0 rfl hu) ve_int)) va_nil)) ve_int)) (vss_cons (vs_set 3 sc__law_pick.nd rfl rfl (ve_op op_mod l_mod (ve_callTy call_int1 l_int T.n_int (by decide +kernel) rfl (js := [none]) rfl (va_cons (ve_op (op_add.or op_catA) l_add (ve_op op_mul l_mul (ve_name 3 rfl) (ve_name 3 rfl)) (ve_op op_mul l_mul (ve_srcGet_turn 0 rfl hu) ve_int)) va_nil)) ve_int)) (vss_cons (vs_srcPut_mixed 0 rfl hu (ve_name 3 rfl)) (vss_one (vs_ret rfl (ve_op op_mod l_mod (ve_callTy call_int1 l_int T.n_int (by decide +kernel) rfl (js := [none]) rfl (va_cons (ve_op op_fdiv l_div (ve_name 3 rfl) ve_int) va_nil)) (ve_name 1 rfl)))))))))))
theorem b__law_pick (T : Txt K mg) : Binds K T.d__law_pick ["_law_source_here", "_law_many"] [] := T.F__law_pick.binds (ps := ["_law_source_here", "_law_many"]) fun _ _ _ _ _ _ us hl => match us, hl with | [_, _], _ => rfl
theorem c__law_draw_literal (T : Txt K mg) : FnG P w K mg base 2 T.a__law_draw_literal T.d__law_draw_literal ["_law_source_here", "_law_many"] (SpV K [0] false 2 F__law_draw_literal) :=
  fnV_of T.F__law_draw_literal sc__law_draw_literal rfl rfl rfl (M' := [0]) fun cdv A outer s H E hr =>
    have hu := hr.hu
    have hu64 := hr.hu64
    (vss_cons (vs_set 2 sc__law_draw_literal.nd rfl rfl (ve_if (vt_cmp op_gt l_gt (ve_call (js := [some 0, none]) (c__law_pick T) (hr.mono (by decide)) T.m__law_pick T.F__law_pick.kp (b__law_pick T) rfl rfl rfl rfl rfl (va_own 0 rfl (va_cons ve_int va_nil))) ve_int (nomark _)) (ve_op op_sub l_sub (ve_op op_sub l_sub (ve_name 1 rfl) ve_int) (ve_call (js := [some 0, none]) (c__law_pick T) (hr.mono (by decide)) T.m__law_pick T.F__law_pick.kp (b__law_pick T) rfl rfl rfl rfl rfl (va_own 0 rfl (va_cons (ve_callB (call_min2 rfl) l_min2 T.n_min (by decide +kernel) rfl (js := [none, none]) rfl (va_cons (ve_name 1 rfl) (va_cons ve_int va_nil))) va_nil)))) (ve_call (js := [some 0, none]) (c__law_pick T) (hr.mono (by decide)) T.m__law_pick T.F__law_pick.kp (b__law_pick T) rfl rfl rfl rfl rfl (va_own 0 rfl (va_cons (ve_name 1 rfl) va_nil))))) (vss_one (vs_ret rfl (ve_op (op_add.or op_catA) l_add (ve_op op_mul l_mul ve_int (ve_name 2 rfl)) (ve_call (js := [some 0, none]) (c__law_pick T) (hr.mono (by decide)) T.m__law_pick T.F__law_pick.kp (b__law_pick T) rfl rfl rfl rfl rfl (va_own 0 rfl (va_cons ve_int va_nil)))))))
theorem b__law_draw_literal (T : Txt K mg) : Binds K T.d__law_draw_literal ["_law_source_here", "_law_many"] [] := T.F__law_draw_literal.binds (ps := ["_law_source_here", "_law_many"]) fun _ _ _ _ _ _ us hl => match us, hl with | [_, _], _ => rfl
theorem c__law_draw_graph (T : Txt K mg) : FnG P w K mg base 3 T.a__law_draw_graph T.d__law_draw_graph ["_law_source_here", "_law_many_ins", "_law_many_regs", "_law_most"] (SpV K [0] false 4 F__law_draw_graph) :=
  fnV_of T.F__law_draw_graph sc__law_draw_graph rfl rfl rfl (M' := [6, 0]) fun cdv A outer s H E hr =>
    have hu := hr.hu
    have hu64 := hr.hu64
    (vss_cons (vs_parT (is := [4, 5, 6]) (M' := [6, 0]) (ms := [false, false, true]) rfl rfl rfl rfl rfl rfl (vpt_cons 4 sc__law_draw_graph.nd (vpt_cons 5 sc__law_draw_graph.nd (vpt_cons 6 sc__law_draw_graph.nd vpt_nil))) (vb_cons (ve_call (js := [some 0, none]) (c__law_pick T) (hr.mono (by decide)) T.m__law_pick T.F__law_pick.kp (b__law_pick T) rfl rfl rfl rfl rfl (va_own 0 rfl (va_cons (ve_op (op_add.or op_catA) l_add (ve_name 1 rfl) ve_int) va_nil))) (vb_cons (ve_call (js := [some 0, none]) (c__law_pick T) (hr.mono (by decide)) T.m__law_pick T.F__law_pick.kp (b__law_pick T) rfl rfl rfl rfl rfl (va_own 0 rfl (va_cons (ve_op (op_add.or op_catA) l_add (ve_name 2 rfl) ve_int) va_nil))) (vb_cons ve_dnewT vb_nil)))) (vss_cons (vs_set 7 sc__law_draw_graph.nd rfl rfl (ve_op (op_add.or op_catA) l_add (ve_op (op_add.or op_catA) l_add ve_int (ve_name 4 rfl)) (ve_name 5 rfl))) (vss_cons (vs_for (M := [6, 0]) PassesOwn.never rfl rfl (vi_range1 rfl T.n_range (js := [none]) rfl (va_cons (ve_if (vt_cmp op_gt l_gt (ve_name 7 rfl) ve_int (nomark _)) (ve_call (js := [some 0, none]) (c__law_pick T) (hr.mono (by decide)) T.m__law_pick T.F__law_pick.kp (b__law_pick T) rfl rfl rfl rfl rfl (va_own 0 rfl (va_cons (ve_op (op_add.or op_catA) l_add (ve_name 3 rfl) ve_int) va_nil))) ve_int) va_nil)) (vg_name 8 sc__law_draw_graph.nd rfl) (vss_drop [8, 9] rfl rfl (vss_cons (vs_set 9 sc__law_draw_graph.nd rfl rfl (ve_callTy call_tuple_of l_tuple T.n_tuple (by decide +kernel) rfl (js := [none]) rfl (va_cons (VE.frz (ve_callB cr_sortedI l_sorted T.n_sorted (by decide +kernel) rfl (js := [none]) rfl (va_cons (VE.frz (ve_lc (own := [("_law_side", 13)]) (ts := [13]) rfl sc__law_draw_graph.nd rfl rfl rfl (vi_range1 rfl T.n_range (js := [none]) rfl (va_cons ve_int va_nil)) (fun _ _ _ _ _ => (vg_name 13 sc__law_draw_graph.nd rfl)) (fun _ _ _ _ _ => vts_nil) (fun _ _ _ _ _ => (ve_call (js := [some 0, none]) (c__law_draw_literal T) (hr.mono (by decide)) T.m__law_draw_literal T.F__law_draw_literal.kp (b__law_draw_literal T) rfl rfl rfl rfl rfl (va_own 0 rfl (va_cons (ve_view (ve_op (op_add.or op_catA) l_add (ve_name 7 rfl) (ve_callB call_lenDA l_lenD T.n_len (by decide +kernel) rfl (js := [none]) rfl (va_cons (ve_name 6 rfl) va_nil)))) va_nil)))))) va_nil))) va_nil))) (vss_one (vs_if (M' := [6, 0]) (VW.vt (vw_and (vt_cmp op_gt l_gt (ve_ix ix_seq l_ix (ve_name 9 rfl) ve_int) ve_int (nomark _)) (vw_and1 (vt_cmp (op_neD hu64) l_ne (ve_op op_fdiv l_div (ve_ix ix_seq l_ix (ve_name 9 rfl) ve_int) ve_int) (ve_op op_fdiv l_div (ve_ix ix_seq l_ix (ve_name 9 rfl) ve_int) ve_int) (nomark _))))) (vss_one (vs_dput 6 hu rfl ve_bl (ve_name 9 rfl))) vss_nil))))) (vss_cons (vs_set 10 sc__law_draw_graph.nd rfl rfl (ve_view (ve_op (op_add.or op_catA) l_add (ve_name 7 rfl) (ve_callB call_lenDA l_lenD T.n_len (by decide +kernel) rfl (js := [none]) rfl (va_cons (ve_name 6 rfl) va_nil))))) (vss_cons (vs_set 11 sc__law_draw_graph.nd rfl rfl (ve_callTy call_tuple_of l_tuple T.n_tuple (by decide +kernel) rfl (js := [none]) rfl (va_cons (VE.frz (ve_lc (own := [("_law_k", 14)]) (ts := [14]) rfl sc__law_draw_graph.nd rfl rfl rfl (vi_range1 rfl T.n_range (js := [none]) rfl (va_cons (ve_name 5 rfl) va_nil)) (fun _ _ _ _ _ => (vg_name 14 sc__law_draw_graph.nd rfl)) (fun _ _ _ _ _ => vts_nil) (fun _ _ _ _ _ => (ve_tup (js := [none, none]) rfl (va_cons (ve_call (js := [some 0, none]) (c__law_pick T) (hr.mono (by decide)) T.m__law_pick T.F__law_pick.kp (b__law_pick T) rfl rfl rfl rfl rfl (va_own 0 rfl (va_cons ve_int va_nil))) (va_cons (ve_call (js := [some 0, none]) (c__law_draw_literal T) (hr.mono (by decide)) T.m__law_draw_literal T.F__law_draw_literal.kp (b__law_draw_literal T) rfl rfl rfl rfl rfl (va_own 0 rfl (va_cons (ve_name 10 rfl) va_nil))) va_nil)))))) va_nil))) (vss_cons (vs_set 12 sc__law_draw_graph.nd rfl rfl (ve_callTy call_tuple_of l_tuple T.n_tuple (by decide +kernel) rfl (js := [none]) rfl (va_cons (VE.frz (ve_lc (own := [("_law_k", 14)]) (ts := [14]) rfl sc__law_draw_graph.nd rfl rfl rfl (vi_range1 rfl T.n_range (js := [none]) rfl (va_cons (ve_op (op_add.or op_catA) l_add ve_int (ve_call (js := [some 0, none]) (c__law_pick T) (hr.mono (by decide)) T.m__law_pick T.F__law_pick.kp (b__law_pick T) rfl rfl rfl rfl rfl (va_own 0 rfl (va_cons ve_int va_nil)))) va_nil)) (fun _ _ _ _ _ => (vg_name 14 sc__law_draw_graph.nd rfl)) (fun _ _ _ _ _ => vts_nil) (fun _ _ _ _ _ => (ve_call (js := [some 0, none]) (c__law_draw_literal T) (hr.mono (by decide)) T.m__law_draw_literal T.F__law_draw_literal.kp (b__law_draw_literal T) rfl rfl rfl rfl rfl (va_own 0 rfl (va_cons (ve_name 10 rfl) va_nil)))))) va_nil))) (vss_one (vs_frz (M1 := [0]) rfl (vs_ret rfl (ve_tup (js := [none, none, none, none]) rfl (va_cons (ve_name 4 rfl) (va_cons (ve_name 11 rfl) (va_cons (ve_callTy (call_tupleD rfl) l_tupleD T.n_tuple (by decide +kernel) rfl (js := [none]) rfl (va_cons (ve_name 6 rfl) va_nil)) (va_cons (ve_name 12 rfl) va_nil))))))))))))))
theorem b__law_draw_graph (T : Txt K mg) : Binds K T.d__law_draw_graph ["_law_source_here", "_law_many_ins", "_law_many_regs", "_law_most"] [] := T.F__law_draw_graph.binds (ps := ["_law_source_here", "_law_many_ins", "_law_many_regs", "_law_most"]) fun _ _ _ _ _ _ us hl => match us, hl with | [_, _, _, _], _ => rfl
theorem c__law_source (T : Txt K mg) : FnG P w K mg base 1 T.a__law_source T.d__law_source ["_law_script"] (SpV K [] true 1 F__law_source) :=
  fnV_of T.F__law_source sc__law_source rfl rfl rfl (M' := []) fun cdv A outer s H E hr =>
    have hu := hr.hu
    have hu64 := hr.hu64
    (vss_cons (vs_set 1 sc__law_source.nd rfl rfl ve_int) (vss_cons (vs_for (M := []) PassesOwn.never rfl rfl (vi_scr (ve_name 0 rfl)) (vg_name 2 sc__law_source.nd rfl) (vss_one (vs_set 1 sc__law_source.nd rfl rfl (ve_op op_mod l_mod (ve_callTy call_int1 l_int T.n_int (by decide +kernel) rfl (js := [none]) rfl (va_cons (ve_op (op_add.or op_catA) l_add (ve_op (op_add.or op_catA) l_add (ve_op op_mul l_mul (ve_name 1 rfl) ve_int) (ve_op op_mul l_mul (ve_name 2 rfl) ve_int)) ve_int) va_nil)) ve_int)))) (vss_one (vs_ret rfl (ve_srcNew (ve_revL (VE.frz (ve_lc (own := [("_law_cell", 2)]) (ts := [2]) rfl sc__law_source.nd rfl rfl rfl (vi_scr (ve_name 0 rfl)) (fun _ _ _ _ _ => (vg_name 2 sc__law_source.nd rfl)) (fun _ _ _ _ _ => vts_nil) (fun _ _ _ _ _ => (ve_callB call_abs l_abs T.n_abs (by decide +kernel) rfl (js := [none]) rfl (va_cons (ve_name 2 rfl) va_nil)))))) ve_int (ve_name 1 rfl) ve_int)))))
theorem b__law_source (T : Txt K mg) : Binds K T.d__law_source ["_law_script"] [] := T.F__law_source.binds (ps := ["_law_script"]) fun _ _ _ _ _ _ us hl => match us, hl with | [_], _ => rfl
theorem c__law_all_bits (T : Txt K mg) : FnG P w K mg base 1 T.a__law_all_bits T.d__law_all_bits ["_law_many"] (SpV K [] false 1 F__law_all_bits) :=
  fnV_of T.F__law_all_bits sc__law_all_bits rfl rfl rfl (M' := []) fun cdv A outer s H E hr =>
    have hu := hr.hu
    have hu64 := hr.hu64
    (vss_cons (vs_set 1 sc__law_all_bits.nd rfl rfl (VE.frz (ve_lst (js := [none]) rfl (va_cons (ve_tup (js := []) rfl va_nil) va_nil)))) (vss_cons (vs_for (M := []) PassesOwn.never rfl rfl (vi_range1 rfl T.n_range (js := [none]) rfl (va_cons (ve_name 0 rfl) va_nil)) (vg_name 2 sc__law_all_bits.nd rfl) (vss_drop [2] rfl rfl (vss_one (vs_set 1 sc__law_all_bits.nd rfl rfl (VE.frz (ve_op op_cat l_cat (VE.frz (ve_lc (own := [("_law_bits", 3)]) (ts := [3]) rfl sc__law_all_bits.nd rfl rfl rfl (vi_list (ve_name 1 rfl)) (fun _ _ _ _ _ => (vg_name 3 sc__law_all_bits.nd rfl)) (fun _ _ _ _ _ => vts_nil) (fun _ _ _ _ _ => (ve_op (op_add.or op_catA) l_add (ve_name 3 rfl) (ve_tup (js := [none]) rfl (va_cons ve_int va_nil)))))) (VE.frz (ve_lc (own := [("_law_bits", 3)]) (ts := [3]) rfl sc__law_all_bits.nd rfl rfl rfl (vi_list (ve_name 1 rfl)) (fun _ _ _ _ _ => (vg_name 3 sc__law_all_bits.nd rfl)) (fun _ _ _ _ _ => vts_nil) (fun _ _ _ _ _ => (ve_op (op_add.or op_catA) l_add (ve_name 3 rfl) (ve_tup (js := [none]) rfl (va_cons ve_int va_nil)))))))))))) (vss_one (vs_ret rfl (ve_name 1 rfl)))))
theorem b__law_all_bits (T : Txt K mg) : Binds K T.d__law_all_bits ["_law_many"] [] := T.F__law_all_bits.binds (ps := ["_law_many"]) fun _ _ _ _ _ _ us hl => match us, hl with | [_], _ => rfl
theorem c__law_kept (T : Txt K mg) : FnG P w K mg base 1 T.a__law_kept T.d__law_kept ["_law_clauses", "_law_true"] (SpV K [] false 2 F__law_kept) :=
  fnV_of T.F__law_kept sc__law_kept rfl rfl rfl (M' := []) fun cdv A outer s H E hr =>
    have hu := hr.hu
    have hu64 := hr.hu64
    (vss_cons (vs_for (M := []) PassesOwn.never rfl rfl (vi_list (ve_name 0 rfl)) (vg_name 2 sc__law_kept.nd rfl) (vss_drop [2] rfl rfl (vss_one (vs_if (M' := []) (vt_cmp (op_eqD hu64) l_eq (VE.frz (ve_lc (own := [("_law_one", 3)]) (ts := [3]) rfl sc__law_kept.nd rfl rfl rfl (vi_tup (ve_name 2 rfl)) (fun _ _ _ _ _ => (vg_name 3 sc__law_kept.nd rfl)) (fun _ _ _ _ _ => (vts_one (vt_cmp (op_eqD hu64) l_eq (ve_dget1 hu (ve_name 1 rfl) (ve_callB call_abs l_abs T.n_abs (by decide +kernel) rfl (js := [none]) rfl (va_cons (ve_name 3 rfl) va_nil)) ⟨rfl, rfl, rfl, rfl⟩) (ve_name 3 rfl) (nomark _)))) (fun _ _ _ _ _ => (ve_name 3 rfl)))) (VE.frz (ve_lst (js := []) rfl va_nil)) (nomark _)) (vss_one (vs_ret rfl ve_bl)) vss_nil)))) (vss_one (vs_ret rfl ve_bl)))
theorem b__law_kept (T : Txt K mg) : Binds K T.d__law_kept ["_law_clauses", "_law_true"] [] := T.F__law_kept.binds (ps := ["_law_clauses", "_law_true"]) fun _ _ _ _ _ _ us hl => match us, hl with | [_, _], _ => rfl
theorem c__law_put (T : Txt K mg) : FnG P w K mg base 1 T.a__law_put T.d__law_put ["_law_clauses", "_law_literals"] (SpV K [0] false 2 F__law_put) :=
  fnV_of T.F__law_put sc__law_put rfl rfl rfl (M' := [0]) fun cdv A outer s H E hr =>
    have hu := hr.hu
    have hu64 := hr.hu64
    (vss_cons (vs_set 2 sc__law_put.nd rfl rfl (VE.frz (ve_sortedSet T.n_sorted T.n_set rfl rfl rfl (VE.frz (ve_lc (own := [("_law_one", 3)]) (ts := [3]) rfl sc__law_put.nd rfl rfl rfl (vi_list (ve_name 1 rfl)) (fun _ _ _ _ _ => (vg_name 3 sc__law_put.nd rfl)) (fun _ _ _ _ _ => vts_nil) (fun _ _ _ _ _ => (ve_callB call_abs l_abs T.n_abs (by decide +kernel) rfl (js := [none]) rfl (va_cons (ve_name 3 rfl) va_nil)))))))) (vss_one (vs_if (M' := [0]) (vt_cmp (op_eqD hu64) l_eq (ve_lenSet T.n_len T.n_set rfl rfl rfl (ve_name 1 rfl)) (ve_callB call_len_seq l_len T.n_len (by decide +kernel) rfl (js := [none]) rfl (va_cons (ve_name 2 rfl) va_nil)) (nomark _)) (vss_one (vs_expr (ve_own 0 rfl lm_append PySem.F.plainAttrs_list PySem.F.slot_list_append PySem.F.type_list_append mt_append (js := [none]) rfl (va_cons (ve_callTy call_tuple_of l_tuple T.n_tuple (by decide +kernel) rfl (js := [none]) rfl (va_cons (VE.frz (ve_lc (own := [("_law_letter", 4)]) (ts := [4]) rfl sc__law_put.nd rfl rfl rfl (vi_list (ve_name 2 rfl)) (fun _ _ _ _ _ => (vg_name 4 sc__law_put.nd rfl)) (fun _ _ _ _ _ => vts_nil) (fun _ _ _ _ _ => (ve_if (vt_cmp (op_in_seq.or op_in_str) (l_in false) (ve_name 4 rfl) (ve_name 1 rfl) rfl) (ve_name 4 rfl) (ve_un un_neg l_neg (ve_name 4 rfl)))))) va_nil)) va_nil)))) vss_nil)))
theorem b__law_put (T : Txt K mg) : Binds K T.d__law_put ["_law_clauses", "_law_literals"] [] := T.F__law_put.binds (ps := ["_law_clauses", "_law_literals"]) fun _ _ _ _ _ _ us hl => match us, hl with | [_, _], _ => rfl
theorem c__law_far (T : Txt K mg) : FnG P w K mg base 1 T.a__law_far T.d__law_far ["_law_literal_here", "_law_shift"] (SpV K [] false 2 F__law_far) :=
  fnV_of T.F__law_far sc__law_far rfl rfl rfl (M' := []) fun cdv A outer s H E hr =>
    have hu := hr.hu
    have hu64 := hr.hu64
    (vss_cons (vs_set 2 sc__law_far.nd rfl rfl (ve_op (op_add.or op_catA) l_add (ve_op (op_add.or op_catA) l_add (ve_op op_fdiv l_div (ve_name 0 rfl) ve_int) ve_int) (ve_name 1 rfl))) (vss_one (vs_ret rfl (ve_if (vt_cmp (op_eqD hu64) l_eq (ve_op op_mod l_mod (ve_callTy call_int1 l_int T.n_int (by decide +kernel) rfl (js := [none]) rfl (va_cons (ve_name 0 rfl) va_nil)) ve_int) ve_int (nomark _)) (ve_name 2 rfl) (ve_un un_neg l_neg (ve_name 2 rfl))))))
theorem b__law_far (T : Txt K mg) : Binds K T.d__law_far ["_law_literal_here", "_law_shift"] [] := T.F__law_far.binds (ps := ["_law_literal_here", "_law_shift"]) fun _ _ _ _ _ _ us hl => match us, hl with | [_, _], _ => rfl
theorem c__law_graph_clauses (T : Txt K mg) : FnG P w K mg base 2 T.a__law_graph_clauses T.d__law_graph_clauses ["_law_graph", "_law_shift"] (SpV K [] true 2 F__law_graph_clauses) :=
  fnV_of T.F__law_graph_clauses sc__law_graph_clauses rfl rfl rfl (M' := [2]) fun cdv A outer s H E hr =>
    have hu := hr.hu
    have hu64 := hr.hu64
    (vss_cons (vs_par2 2 3 (M' := [2]) (ms := [true, false]) sc__law_graph_clauses.nd rfl rfl rfl (by decide) rfl rfl (by rfl) (vb_cons (ve_lst (js := [none]) rfl (va_cons (ve_tup (js := [none]) rfl (va_cons (ve_op op_sub l_sub (ve_un un_neg l_neg ve_int) (ve_name 1 rfl)) va_nil)) va_nil)) (vb_cons (ve_op (op_add.or op_catA) l_add (ve_op (op_add.or op_catA) l_add ve_int (ve_ix ix_seq l_ix (ve_name 0 rfl) ve_int)) (ve_callB call_len_seq l_len T.n_len (by decide +kernel) rfl (js := [none]) rfl (va_cons (ve_ix ix_seq l_ix (ve_name 0 rfl) ve_int) va_nil))) vb_nil))) (vss_cons (vs_for (M := [2]) PassesOwn.never rfl rfl (vi_enumT rfl T.n_enumerate (js := [none]) rfl (va_cons (ve_ix ix_seq l_ix (ve_name 0 rfl) ve_int) va_nil)) (vg_tup rfl (vgs_cons (vg_name 4 sc__law_graph_clauses.nd rfl) (vgs_cons (vg_name 5 sc__law_graph_clauses.nd rfl) vgs_nil)) len2) (vss_drop [4, 5, 6, 7, 8, 9] rfl rfl (vss_cons (vs_par3 6 7 8 (M' := [2]) (ms := [false, false, false]) sc__law_graph_clauses.nd rfl rfl rfl (by decide) (by decide) (by decide) rfl rfl (by rfl) (vb_cons (ve_op (op_add.or op_catA) l_add (ve_op (op_add.or op_catA) l_add (ve_op (op_add.or op_catA) l_add (ve_name 3 rfl) (ve_name 4 rfl)) ve_int) (ve_name 1 rfl)) (vb_cons (ve_call (js := [none, none]) (c__law_far T) (hr.mono (by decide)) T.m__law_far T.F__law_far.kp (b__law_far T) rfl rfl rfl rfl rfl (va_cons (ve_ix ix_seq l_ix (ve_name 5 rfl) ve_int) (va_cons (ve_name 1 rfl) va_nil))) (vb_cons (ve_call (js := [none, none]) (c__law_far T) (hr.mono (by decide)) T.m__law_far T.F__law_far.kp (b__law_far T) rfl rfl rfl rfl rfl (va_cons (ve_ix ix_seq l_ix (ve_name 5 rfl) ve_int) (va_cons (ve_name 1 rfl) va_nil))) vb_nil)))) (vss_one (vs_for (M := [2]) PassesOwn.never rfl rfl (vi_tup (ve_tup (js := [none, none, none]) rfl (va_cons (VE.frz (ve_lst (js := [none, none]) rfl (va_cons (ve_un un_neg l_neg (ve_name 6 rfl)) (va_cons (ve_name 7 rfl) va_nil)))) (va_cons (VE.frz (ve_lst (js := [none, none]) rfl (va_cons (ve_un un_neg l_neg (ve_name 6 rfl)) (va_cons (ve_name 8 rfl) va_nil)))) (va_cons (VE.frz (ve_lst (js := [none, none, none]) rfl (va_cons (ve_name 6 rfl) (va_cons (ve_un un_neg l_neg (ve_name 7 rfl)) (va_cons (ve_un un_neg l_neg (ve_name 8 rfl)) va_nil))))) va_nil))))) (vg_name 9 sc__law_graph_clauses.nd rfl) (vss_drop [9] rfl rfl (vss_one (vs_expr (ve_call (js := [some 2, none]) (c__law_put T) (hr.mono (by decide)) T.m__law_put T.F__law_put.kp (b__law_put T) rfl rfl rfl rfl rfl (va_own 2 rfl (va_cons (ve_name 9 rfl) va_nil))))))))))) (vss_one (vs_retS 2 rfl rfl rfl))))
theorem b__law_graph_clauses (T : Txt K mg) : Binds K T.d__law_graph_clauses ["_law_graph", "_law_shift"] [] := T.F__law_graph_clauses.binds (ps := ["_law_graph", "_law_shift"]) fun _ _ _ _ _ _ us hl => match us, hl with | [_, _], _ => rfl
theorem c__law_size (T : Txt K mg) : FnG P w K mg base 1 T.a__law_size T.d__law_size ["_law_graph"] (SpV K [] false 1 F__law_size) :=
  fnV_of T.F__law_size sc__law_size rfl rfl rfl (M' := []) fun cdv A outer s H E hr =>
    have hu := hr.hu
    have hu64 := hr.hu64
    (vss_one (vs_ret rfl (ve_op (op_add.or op_catA) l_add (ve_op (op_add.or op_catA) l_add (ve_op (op_add.or op_catA) l_add ve_int (ve_ix ix_seq l_ix (ve_name 0 rfl) ve_int)) (ve_callB call_len_seq l_len T.n_len (by decide +kernel) rfl (js := [none]) rfl (va_cons (ve_ix ix_seq l_ix (ve_name 0 rfl) ve_int) va_nil))) (ve_callB call_len_seq l_len T.n_len (by decide +kernel) rfl (js := [none]) rfl (va_cons (ve_ix ix_seq l_ix (ve_name 0 rfl) ve_int) va_nil)))))
theorem b__law_size (T : Txt K mg) : Binds K T.d__law_size ["_law_graph"] [] := T.F__law_size.binds (ps := ["_law_graph"]) fun _ _ _ _ _ _ us hl => match us, hl with | [_], _ => rfl
theorem c__law_unrolled (T : Txt K mg) : FnG P w K mg base 3 T.a__law_unrolled T.d__law_unrolled ["_law_graph", "_law_clocks"] (SpV K [] true 2 F__law_unrolled) :=
  fnV_of T.F__law_unrolled sc__law_unrolled rfl rfl rfl (M' := [2]) fun cdv A outer s H E hr =>
    have hu := hr.hu
    have hu64 := hr.hu64
    (vss_cons (vs_par2 2 3 (M' := [2]) (ms := [true, false]) sc__law_unrolled.nd rfl rfl rfl (by decide) rfl rfl (by rfl) (vb_cons (ve_lst (js := []) rfl va_nil) (vb_cons (ve_call (js := [none]) (c__law_size T) (hr.mono (by decide)) T.m__law_size T.F__law_size.kp (b__law_size T) rfl rfl rfl rfl rfl (va_cons (ve_name 0 rfl) va_nil)) vb_nil))) (vss_cons (vs_for (M := [2]) PassesOwn.never rfl rfl (vi_range1 rfl T.n_range (js := [none]) rfl (va_cons (ve_name 1 rfl) va_nil)) (vg_name 4 sc__law_unrolled.nd rfl) (vss_drop [4, 5, 6, 7, 8, 9] rfl rfl (vss_cons (vs_frz (M1 := []) rfl (vs_setO 2 sc__law_unrolled.nd rfl rfl (ve_op op_cat l_cat (ve_name 2 rfl) (VE.frz (ve_call (js := [none, none]) (c__law_graph_clauses T) (hr.mono (by decide)) T.m__law_graph_clauses T.F__law_graph_clauses.kp (b__law_graph_clauses T) rfl rfl rfl rfl rfl (va_cons (ve_name 0 rfl) (va_cons (ve_op op_mul l_mul (ve_name 4 rfl) (ve_name 3 rfl)) va_nil))))))) (vss_one (vs_for (M := [2]) PassesOwn.never rfl rfl (vi_enumT rfl T.n_enumerate (js := [none]) rfl (va_cons (ve_if (vt_cmp op_gt l_gt (ve_name 4 rfl) ve_int (nomark _)) (ve_ix ix_seq l_ix (ve_name 0 rfl) ve_int) (ve_tup (js := []) rfl va_nil)) va_nil)) (vg_tup rfl (vgs_cons (vg_name 5 sc__law_unrolled.nd rfl) (vgs_cons (vg_name 6 sc__law_unrolled.nd rfl) vgs_nil)) len2) (vss_drop [5, 6, 7, 8, 9] rfl rfl (vss_cons (vs_par2 7 8 (M' := [2]) (ms := [false, false]) sc__law_unrolled.nd rfl rfl rfl (by decide) rfl rfl (by rfl) (vb_cons (ve_op (op_add.or op_catA) l_add (ve_op (op_add.or op_catA) l_add (ve_op (op_add.or op_catA) l_add (ve_op op_mul l_mul (ve_name 4 rfl) (ve_name 3 rfl)) (ve_ix ix_seq l_ix (ve_name 0 rfl) ve_int)) (ve_name 5 rfl)) ve_int) (vb_cons (ve_call (js := [none, none]) (c__law_far T) (hr.mono (by decide)) T.m__law_far T.F__law_far.kp (b__law_far T) rfl rfl rfl rfl rfl (va_cons (ve_ix ix_seq l_ix (ve_name 6 rfl) ve_int) (va_cons (ve_op op_mul l_mul (ve_op op_sub l_sub (ve_name 4 rfl) ve_int) (ve_name 3 rfl)) va_nil))) vb_nil))) (vss_one (vs_for (M := [2]) PassesOwn.never rfl rfl (vi_tup (ve_tup (js := [none, none]) rfl (va_cons (VE.frz (ve_lst (js := [none, none]) rfl (va_cons (ve_un un_neg l_neg (ve_name 7 rfl)) (va_cons (ve_name 8 rfl) va_nil)))) (va_cons (VE.frz (ve_lst (js := [none, none]) rfl (va_cons (ve_name 7 rfl) (va_cons (ve_un un_neg l_neg (ve_name 8 rfl)) va_nil)))) va_nil)))) (vg_name 9 sc__law_unrolled.nd rfl) (vss_drop [9] rfl rfl (vss_one (vs_expr (ve_call (js := [some 2, none]) (c__law_put T) (hr.mono (by decide)) T.m__law_put T.F__law_put.kp (b__law_put T) rfl rfl rfl rfl rfl (va_own 2 rfl (va_cons (ve_name 9 rfl) va_nil))))))))))))))) (vss_one (vs_retS 2 rfl rfl rfl))))
theorem b__law_unrolled (T : Txt K mg) : Binds K T.d__law_unrolled ["_law_graph", "_law_clocks"] [] := T.F__law_unrolled.binds (ps := ["_law_graph", "_law_clocks"]) fun _ _ _ _ _ _ us hl => match us, hl with | [_, _], _ => rfl
theorem c__law_starting (T : Txt K mg) : FnG P w K mg base 1 T.a__law_starting T.d__law_starting ["_law_graph"] (SpV K [] true 1 F__law_starting) :=
  fnV_of T.F__law_starting sc__law_starting rfl rfl rfl (M' := []) fun cdv A outer s H E hr =>
    have hu := hr.hu
    have hu64 := hr.hu64
    (vss_cons (vs_end (M1 := []) (M' := [1]) rfl (vs_setLc 1 (own := [("_law_k", 2)]) (ts := [2]) rfl sc__law_starting.nd rfl rfl rfl rfl rfl rfl (sw_true rfl rfl rfl (by decide +kernel)) (vi_range1 rfl T.n_range (js := [none]) rfl (va_cons (ve_callB call_len_seq l_len T.n_len (by decide +kernel) rfl (js := [none]) rfl (va_cons (ve_ix ix_seq l_ix (ve_name 0 rfl) ve_int) va_nil)) va_nil)) (fun _ _ _ _ _ => (vg_name 2 sc__law_starting.nd rfl)) (fun _ _ _ _ _ => vts_nil) (fun _ _ _ _ _ => (ve_op (op_add.or op_catA) l_add (ve_op (op_add.or op_catA) l_add (ve_ix ix_seq l_ix (ve_name 0 rfl) ve_int) (ve_name 2 rfl)) ve_int)))) (vss_one (vs_ret rfl (ve_lc (own := [("_law_z", 3), ("_law_reg", 4)]) (ts := [3, 4]) rfl sc__law_starting.nd rfl rfl rfl (vi_zip true false rfl T.n_zip (js := [none, none]) rfl (va_cons (ve_name 1 rfl) (va_cons (ve_ix ix_seq l_ix (ve_name 0 rfl) ve_int) va_nil))) (fun _ _ _ _ _ => (vg_tup rfl (vgs_cons (vg_name 3 sc__law_starting.nd rfl) (vgs_cons (vg_name 4 sc__law_starting.nd rfl) vgs_nil)) len2)) (fun _ _ _ _ _ => vts_nil) (fun _ _ _ _ _ => (ve_if (vt_cmp (op_eqD hu64) l_eq (ve_ix ix_seq l_ix (ve_name 4 rfl) ve_int) ve_int (nomark _)) (ve_tup (js := [none]) rfl (va_cons (ve_name 3 rfl) va_nil)) (ve_tup (js := [none]) rfl (va_cons (ve_un un_neg l_neg (ve_name 3 rfl)) va_nil))))))))
theorem b__law_starting (T : Txt K mg) : Binds K T.d__law_starting ["_law_graph"] [] := T.F__law_starting.binds (ps := ["_law_graph"]) fun _ _ _ _ _ _ us hl => match us, hl with | [_], _ => rfl
theorem c__law_step_of (T : Txt K mg) : FnG P w K mg base 3 T.a__law_step_of T.d__law_step_of ["_law_graph", "_law_lot", "_law_state"] (SpV K [] false 3 F__law_step_of) :=
  fnV_of T.F__law_step_of sc__law_step_of rfl rfl rfl (M' := []) fun cdv A outer s H E hr =>
    have hu := hr.hu
    have hu64 := hr.hu64
    (vss_cons (vs_set 3 sc__law_step_of.nd rfl rfl (VE.frz (ve_call (js := [none, none, none, none]) (c__law_nodes T) (hr.mono (by decide)) T.m__law_nodes T.F__law_nodes.kp (b__law_nodes T) rfl rfl rfl rfl rfl (va_cons (ve_name 0 rfl) (va_cons (ve_name 2 rfl) (va_cons (ve_name 1 rfl) (va_cons ve_int va_nil))))))) (vss_cons (vs_set 4 sc__law_step_of.nd rfl rfl (ve_callTy call_tuple_of l_tuple T.n_tuple (by decide +kernel) rfl (js := [none]) rfl (va_cons (VE.frz (ve_lc (own := [("_law_l", 5)]) (ts := [5]) rfl sc__law_step_of.nd rfl rfl rfl (vi_tup (ve_ix ix_seq l_ix (ve_name 0 rfl) ve_int)) (fun _ _ _ _ _ => (vg_name 5 sc__law_step_of.nd rfl)) (fun _ _ _ _ _ => vts_nil) (fun _ _ _ _ _ => (ve_call (js := [none, none, none]) (c__law_literal T) (hr.mono (by decide)) T.m__law_literal T.F__law_literal.kp (b__law_literal T) rfl rfl rfl rfl rfl (va_cons (ve_name 3 rfl) (va_cons (ve_name 5 rfl) (va_cons ve_int va_nil))))))) va_nil))) (vss_one (vs_ret rfl (ve_tup (js := [none, none]) rfl (va_cons (ve_name 4 rfl) (va_cons (ve_callTy call_tuple_of l_tuple T.n_tuple (by decide +kernel) rfl (js := [none]) rfl (va_cons (VE.frz (ve_lc (own := [("_law_reg", 6)]) (ts := [6]) rfl sc__law_step_of.nd rfl rfl rfl (vi_tup (ve_ix ix_seq l_ix (ve_name 0 rfl) ve_int)) (fun _ _ _ _ _ => (vg_name 6 sc__law_step_of.nd rfl)) (fun _ _ _ _ _ => vts_nil) (fun _ _ _ _ _ => (ve_call (js := [none, none, none]) (c__law_literal T) (hr.mono (by decide)) T.m__law_literal T.F__law_literal.kp (b__law_literal T) rfl rfl rfl rfl rfl (va_cons (ve_name 3 rfl) (va_cons (ve_ix ix_seq l_ix (ve_name 6 rfl) ve_int) (va_cons ve_int va_nil))))))) va_nil)) va_nil)))))))
theorem b__law_step_of (T : Txt K mg) : Binds K T.d__law_step_of ["_law_graph", "_law_lot", "_law_state"] [] := T.F__law_step_of.binds (ps := ["_law_graph", "_law_lot", "_law_state"]) fun _ _ _ _ _ _ us hl => match us, hl with | [_, _, _], _ => rfl
theorem c__law_rough_graph (T : Txt K mg) : FnG P w K mg base 4 T.a__law_rough_graph T.d__law_rough_graph ["_law_source_here"] (SpV K [0] false 1 F__law_rough_graph) :=
  fnV_of T.F__law_rough_graph sc__law_rough_graph rfl rfl rfl (M' := [0]) fun cdv A outer s H E hr =>
    have hu := hr.hu
    have hu64 := hr.hu64
    (vss_cons (vs_set 1 sc__law_rough_graph.nd rfl rfl (ve_call (js := [some 0, none, none, none]) (c__law_draw_graph T) (hr.mono (by decide)) T.m__law_draw_graph T.F__law_draw_graph.kp (b__law_draw_graph T) rfl rfl rfl rfl rfl (va_own 0 rfl (va_cons ve_int (va_cons ve_int (va_cons ve_int va_nil)))))) (vss_cons (vs_if (M' := [0]) (vt_cmp (op_eqD hu64) l_eq (ve_call (js := [some 0, none]) (c__law_pick T) (hr.mono (by decide)) T.m__law_pick T.F__law_pick.kp (b__law_pick T) rfl rfl rfl rfl rfl (va_own 0 rfl (va_cons ve_int va_nil))) ve_int (nomark _)) (vss_one (vs_ret rfl (ve_name 1 rfl))) vss_nil) (vss_cons (vs_set 2 sc__law_rough_graph.nd rfl rfl (ve_call (js := [some 0, none]) (c__law_pick T) (hr.mono (by decide)) T.m__law_pick T.F__law_pick.kp (b__law_pick T) rfl rfl rfl rfl rfl (va_own 0 rfl (va_cons (ve_op op_mul l_mul ve_int (ve_call (js := [none]) (c__law_size T) (hr.mono (by decide)) T.m__law_size T.F__law_size.kp (b__law_size T) rfl rfl rfl rfl rfl (va_cons (ve_name 1 rfl) va_nil))) va_nil)))) (vss_cons (vs_set 3 sc__law_rough_graph.nd rfl rfl (ve_op (op_add.or op_catA) l_add (ve_ix ix_seq l_ix (ve_name 1 rfl) ve_int) (ve_slice sl_tupA l_slT (ve_tup (js := [none, none, none, none]) rfl (va_cons (ve_tup (js := [none, none]) rfl (va_cons (ve_name 2 rfl) (va_cons (ve_name 2 rfl) va_nil))) (va_cons (ve_tup (js := [none, none]) rfl (va_cons (ve_name 2 rfl) (va_cons (ve_op op_xor l_xor (ve_name 2 rfl) ve_int) va_nil))) (va_cons (ve_tup (js := [none, none]) rfl (va_cons (ve_name 2 rfl) (va_cons ve_int va_nil))) (va_cons (ve_tup (js := [none, none]) rfl (va_cons ve_int (va_cons (ve_name 2 rfl) va_nil))) va_nil))))) vo_none (vo_some (ve_op (op_add.or op_catA) l_add ve_int (ve_call (js := [some 0, none]) (c__law_pick T) (hr.mono (by decide)) T.m__law_pick T.F__law_pick.kp (b__law_pick T) rfl rfl rfl rfl rfl (va_own 0 rfl (va_cons ve_int va_nil)))))))) (vss_one (vs_ret rfl (ve_tup (js := [none, none, none, none]) rfl (va_cons (ve_ix ix_seq l_ix (ve_name 1 rfl) ve_int) (va_cons (ve_ix ix_seq l_ix (ve_name 1 rfl) ve_int) (va_cons (ve_name 3 rfl) (va_cons (ve_op (op_add.or op_catA) l_add (ve_ix ix_seq l_ix (ve_name 1 rfl) ve_int) (ve_tup (js := [none]) rfl (va_cons (ve_op op_mul l_mul ve_int (ve_op (op_add.or op_catA) l_add (ve_call (js := [none]) (c__law_size T) (hr.mono (by decide)) T.m__law_size T.F__law_size.kp (b__law_size T) rfl rfl rfl rfl rfl (va_cons (ve_name 1 rfl) va_nil)) (ve_call (js := [some 0, none]) (c__law_pick T) (hr.mono (by decide)) T.m__law_pick T.F__law_pick.kp (b__law_pick T) rfl rfl rfl rfl rfl (va_own 0 rfl (va_cons ve_int va_nil))))) va_nil))) va_nil)))))))))))
theorem b__law_rough_graph (T : Txt K mg) : Binds K T.d__law_rough_graph ["_law_source_here"] [] := T.F__law_rough_graph.binds (ps := ["_law_source_here"]) fun _ _ _ _ _ _ us hl => match us, hl with | [_], _ => rfl
theorem c__law_true_of (T : Txt K mg) : FnG P w K mg base 1 T.a__law_true_of T.d__law_true_of ["_law_values", "_law_shift"] (SpV K [] true 2 F__law_true_of) :=
  fnV_of T.F__law_true_of sc__law_true_of rfl rfl rfl (M' := []) fun cdv A outer s H E hr =>
    have hu := hr.hu
    have hu64 := hr.hu64
    (vss_one (vs_ret rfl (ve_callTy (call_dictP rfl) l_dictP T.n_dict (by decide +kernel) rfl (js := [none]) rfl (va_cons (VE.frz (ve_lc (own := [("_law_n", 2), ("_law_bit", 3)]) (ts := [2, 3]) rfl sc__law_true_of.nd rfl rfl rfl (vi_enumL rfl T.n_enumerate (js := [none]) rfl (va_cons (ve_name 0 rfl) va_nil)) (fun _ _ _ _ _ => (vg_tup rfl (vgs_cons (vg_name 2 sc__law_true_of.nd rfl) (vgs_cons (vg_name 3 sc__law_true_of.nd rfl) vgs_nil)) len2)) (fun _ _ _ _ _ => vts_nil) (fun _ _ _ _ _ => (ve_tup (js := [none, none]) rfl (va_cons (ve_op (op_add.or op_catA) l_add (ve_op (op_add.or op_catA) l_add (ve_name 2 rfl) ve_int) (ve_name 1 rfl)) (va_cons (ve_if (vt_cmp (op_eqD hu64) l_eq (ve_name 3 rfl) ve_int (nomark _)) (ve_op (op_add.or op_catA) l_add (ve_op (op_add.or op_catA) l_add (ve_name 2 rfl) ve_int) (ve_name 1 rfl)) (ve_op op_sub l_sub (ve_op op_sub l_sub (ve_un un_neg l_neg (ve_name 2 rfl)) ve_int) (ve_name 1 rfl))) va_nil)))))) va_nil))))
theorem b__law_true_of (T : Txt K mg) : Binds K T.d__law_true_of ["_law_values", "_law_shift"] [] := T.F__law_true_of.binds (ps := ["_law_values", "_law_shift"]) fun _ _ _ _ _ _ us hl => match us, hl with | [_, _], _ => rfl
theorem c__law_values_right (T : Txt K mg) : FnG P w K mg base 3 T.a__law_values_right T.d__law_values_right ["_law_source_here", "_law_graph", "_law_clauses"] (SpV K [0] false 3 F__law_values_right) :=
  fnV_of T.F__law_values_right sc__law_values_right rfl rfl rfl (M' := [0]) fun cdv A outer s H E hr =>
    have hu := hr.hu
    have hu64 := hr.hu64
    (vss_cons (vs_par2 3 4 (M' := [0]) (ms := [false, false]) sc__law_values_right.nd rfl rfl rfl (by decide) rfl rfl (by rfl) (vb_cons (ve_op (op_add.or op_catA) l_add (ve_op (op_add.or op_catA) l_add ve_int (ve_ix ix_seq l_ix (ve_name 1 rfl) ve_int)) (ve_callB call_len_seq l_len T.n_len (by decide +kernel) rfl (js := [none]) rfl (va_cons (ve_ix ix_seq l_ix (ve_name 1 rfl) ve_int) va_nil))) (vb_cons (ve_call (js := [none]) (c__law_size T) (hr.mono (by decide)) T.m__law_size T.F__law_size.kp (b__law_size T) rfl rfl rfl rfl rfl (va_cons (ve_name 1 rfl) va_nil)) vb_nil))) (vss_cons (vs_for (M := [0]) PassesOwn.never rfl rfl (vi_list (ve_call (js := [none]) (c__law_all_bits T) (hr.mono (by decide)) T.m__law_all_bits T.F__law_all_bits.kp (b__law_all_bits T) rfl rfl rfl rfl rfl (va_cons (ve_op op_sub l_sub (ve_name 3 rfl) ve_int) va_nil))) (vg_name 5 sc__law_values_right.nd rfl) (vss_drop [5, 6, 7] rfl rfl (vss_end (M1 := [0]) (M' := [6, 0]) rfl (vss_cons (vs_setO 6 sc__law_values_right.nd rfl rfl (ve_call (js := [none, none, none, none]) (c__law_nodes T) (hr.mono (by decide)) T.m__law_nodes T.F__law_nodes.kp (b__law_nodes T) rfl rfl rfl rfl rfl (va_cons (ve_name 1 rfl) (va_cons (ve_slice sl_tupA l_slT (ve_name 5 rfl) (vo_some (ve_ix ix_seq l_ix (ve_name 1 rfl) ve_int)) vo_none) (va_cons (ve_slice sl_tupA l_slT (ve_name 5 rfl) vo_none (vo_some (ve_ix ix_seq l_ix (ve_name 1 rfl) ve_int))) (va_cons ve_int va_nil)))))) (vss_cons (vs_if (M' := [6, 0]) (vt_not (vt_val (ve_view (ve_call (js := [none, none]) (c__law_kept T) (hr.mono (by decide)) T.m__law_kept T.F__law_kept.kp (b__law_kept T) rfl rfl rfl rfl rfl (va_cons (ve_name 2 rfl) (va_cons (VE.frz (ve_call (js := [none, none]) (c__law_true_of T) (hr.mono (by decide)) T.m__law_true_of T.F__law_true_of.kp (b__law_true_of T) rfl rfl rfl rfl rfl (va_cons (ve_name 6 rfl) (va_cons ve_int va_nil)))) va_nil)))))) (vss_one (vs_ret rfl ve_bl)) vss_nil) (vss_cons (vs_set 7 sc__law_values_right.nd rfl rfl (ve_if (vt_cmp op_gt l_gt (ve_name 4 rfl) (ve_name 3 rfl) (nomark _)) (ve_op (op_add.or op_catA) l_add (ve_call (js := [some 0, none]) (c__law_pick T) (hr.mono (by decide)) T.m__law_pick T.F__law_pick.kp (b__law_pick T) rfl rfl rfl rfl rfl (va_own 0 rfl (va_cons (ve_op op_sub l_sub (ve_name 4 rfl) (ve_name 3 rfl)) va_nil))) (ve_name 3 rfl)) ve_int)) (vss_cons (vs_putL 6 rfl (ve_view (ve_op op_sub l_sub ve_int (ve_ix ix_seq l_ix (ve_name 6 rfl) (ve_name 7 rfl)))) (ve_name 7 rfl)) (vss_one (vs_if (M' := [6, 0]) (vt_val (ve_view (ve_call (js := [none, none]) (c__law_kept T) (hr.mono (by decide)) T.m__law_kept T.F__law_kept.kp (b__law_kept T) rfl rfl rfl rfl rfl (va_cons (ve_name 2 rfl) (va_cons (VE.frz (ve_call (js := [none, none]) (c__law_true_of T) (hr.mono (by decide)) T.m__law_true_of T.F__law_true_of.kp (b__law_true_of T) rfl rfl rfl rfl rfl (va_cons (ve_name 6 rfl) (va_cons ve_int va_nil)))) va_nil))))) (vss_one (vs_ret rfl ve_bl)) vss_nil))))))))) (vss_one (vs_ret rfl ve_bl))))
theorem b__law_values_right (T : Txt K mg) : Binds K T.d__law_values_right ["_law_source_here", "_law_graph", "_law_clauses"] [] := T.F__law_values_right.binds (ps := ["_law_source_here", "_law_graph", "_law_clauses"]) fun _ _ _ _ _ _ us hl => match us, hl with | [_, _, _], _ => rfl
theorem c__law_run_right (T : Txt K mg) : FnG P w K mg base 5 T.a__law_run_right T.d__law_run_right ["_law_source_here", "_law_graph"] (SpV K [0] false 2 F__law_run_right) :=
  fnV_of T.F__law_run_right sc__law_run_right rfl rfl rfl (M' := [4, 0]) fun cdv A outer s H E hr =>
    have hu := hr.hu
    have hu64 := hr.hu64
    (vss_cons (vs_par3 2 3 4 (M' := [4, 0]) (ms := [false, false, true]) sc__law_run_right.nd rfl rfl rfl (by decide) (by decide) (by decide) rfl rfl (by rfl) (vb_cons (ve_op (op_add.or op_catA) l_add ve_int (ve_call (js := [some 0, none]) (c__law_pick T) (hr.mono (by decide)) T.m__law_pick T.F__law_pick.kp (b__law_pick T) rfl rfl rfl rfl rfl (va_own 0 rfl (va_cons ve_int va_nil)))) (vb_cons (ve_callTy call_tuple_of l_tuple T.n_tuple (by decide +kernel) rfl (js := [none]) rfl (va_cons (VE.frz (ve_lc (own := [("_law_reg", 8)]) (ts := [8]) rfl sc__law_run_right.nd rfl rfl rfl (vi_tup (ve_ix ix_seq l_ix (ve_name 1 rfl) ve_int)) (fun _ _ _ _ _ => (vg_name 8 sc__law_run_right.nd rfl)) (fun _ _ _ _ _ => vts_nil) (fun _ _ _ _ _ => (ve_ix ix_seq l_ix (ve_name 8 rfl) ve_int)))) va_nil)) (vb_cons ve_dnewK vb_nil)))) (vss_cons (vs_set 5 sc__law_run_right.nd rfl rfl (VE.frz (ve_call (js := [none, none]) (c_unrolled T) (hr.mono (by decide)) T.m_unrolled T.F_unrolled.kp (b_unrolled T) rfl rfl rfl rfl rfl (va_cons (ve_name 1 rfl) (va_cons (ve_name 2 rfl) va_nil))))) (vss_cons (vs_if (M' := [4, 0]) (VW.vt (vw_or (vt_cmp (op_neD hu64) l_ne (ve_repr hr T.n_repr rfl (ve_name 5 rfl)) (ve_repr hr T.n_repr rfl (VE.frz (ve_call (js := [none, none]) (c__law_unrolled T) (hr.mono (by decide)) T.m__law_unrolled T.F__law_unrolled.kp (b__law_unrolled T) rfl rfl rfl rfl rfl (va_cons (ve_name 1 rfl) (va_cons (ve_name 2 rfl) va_nil))))) (nomark _)) (vw_or1 (vt_cmp (op_neD hu64) l_ne (ve_repr hr T.n_repr rfl (VE.frz (ve_call (js := [none]) (c_starting T) (hr.mono (by decide)) T.m_starting T.F_starting.kp (b_starting T) rfl rfl rfl rfl rfl (va_cons (ve_name 1 rfl) va_nil)))) (ve_repr hr T.n_repr rfl (VE.frz (ve_call (js := [none]) (c__law_starting T) (hr.mono (by decide)) T.m__law_starting T.F__law_starting.kp (b__law_starting T) rfl rfl rfl rfl rfl (va_cons (ve_name 1 rfl) va_nil)))) (nomark _))))) (vss_one (vs_ret rfl ve_bl)) vss_nil) (vss_cons (vs_for (M := [4, 0]) PassesOwn.never rfl rfl (vi_range1 rfl T.n_range (js := [none]) rfl (va_cons (ve_name 2 rfl) va_nil)) (vg_name 6 sc__law_run_right.nd rfl) (vss_drop [6, 7] rfl rfl (vss_cons (vs_set 7 sc__law_run_right.nd rfl rfl (ve_callTy call_tuple_of l_tuple T.n_tuple (by decide +kernel) rfl (js := [none]) rfl (va_cons (VE.frz (ve_lc (own := [("_law_k", 9)]) (ts := [9]) rfl sc__law_run_right.nd rfl rfl rfl (vi_range1 rfl T.n_range (js := [none]) rfl (va_cons (ve_ix ix_seq l_ix (ve_name 1 rfl) ve_int) va_nil)) (fun _ _ _ _ _ => (vg_name 9 sc__law_run_right.nd rfl)) (fun _ _ _ _ _ => vts_nil) (fun _ _ _ _ _ => (ve_call (js := [some 0, none]) (c__law_pick T) (hr.mono (by decide)) T.m__law_pick T.F__law_pick.kp (b__law_pick T) rfl rfl rfl rfl rfl (va_own 0 rfl (va_cons ve_int va_nil)))))) va_nil))) (vss_cons (vs_expr (ve_own 4 rfl lm_update PySem.F.plainAttrs_dict PySem.F.slot_dict_update PySem.F.type_dict_update (mt_update rfl) (js := [none]) rfl (va_cons (VE.frz (ve_call (js := [none, none]) (c__law_true_of T) (hr.mono (by decide)) T.m__law_true_of T.F__law_true_of.kp (b__law_true_of T) rfl rfl rfl rfl rfl (va_cons (VE.frz (ve_call (js := [none, none, none, none]) (c__law_nodes T) (hr.mono (by decide)) T.m__law_nodes T.F__law_nodes.kp (b__law_nodes T) rfl rfl rfl rfl rfl (va_cons (ve_name 1 rfl) (va_cons (ve_name 3 rfl) (va_cons (ve_name 7 rfl) (va_cons ve_int va_nil)))))) (va_cons (ve_op op_mul l_mul (ve_name 6 rfl) (ve_call (js := [none]) (c__law_size T) (hr.mono (by decide)) T.m__law_size T.F__law_size.kp (b__law_size T) rfl rfl rfl rfl rfl (va_cons (ve_name 1 rfl) va_nil))) va_nil)))) va_nil))) (vss_one (vs_set 3 sc__law_run_right.nd rfl rfl (ve_ix ix_seq l_ix (ve_call (js := [none, none, none]) (c__law_step_of T) (hr.mono (by decide)) T.m__law_step_of T.F__law_step_of.kp (b__law_step_of T) rfl rfl rfl rfl rfl (va_cons (ve_name 1 rfl) (va_cons (ve_name 7 rfl) (va_cons (ve_name 3 rfl) va_nil)))) ve_int))))))) (vss_one (vs_frz (M1 := [0]) rfl (vs_ret rfl (ve_and (ve_call (js := [none, none]) (c__law_kept T) (hr.mono (by decide)) T.m__law_kept T.F__law_kept.kp (b__law_kept T) rfl rfl rfl rfl rfl (va_cons (ve_name 5 rfl) (va_cons (ve_name 4 rfl) va_nil))) (ve_one (ve_call (js := [none, none]) (c__law_kept T) (hr.mono (by decide)) T.m__law_kept T.F__law_kept.kp (b__law_kept T) rfl rfl rfl rfl rfl (va_cons (VE.frz (ve_call (js := [none]) (c_starting T) (hr.mono (by decide)) T.m_starting T.F_starting.kp (b_starting T) rfl rfl rfl rfl rfl (va_cons (ve_name 1 rfl) va_nil))) (va_cons (ve_name 4 rfl) va_nil))))))))))))
theorem b__law_run_right (T : Txt K mg) : Binds K T.d__law_run_right ["_law_source_here", "_law_graph"] [] := T.F__law_run_right.binds (ps := ["_law_source_here", "_law_graph"]) fun _ _ _ _ _ _ us hl => match us, hl with | [_, _], _ => rfl
theorem c_law (T : Txt K mg) {fa : Addr} {fd : FuncData} (FL : Fun K "law" "law" s_law fa fd) : FnG P w K mg base 6 fa fd ["_law_script"] (SpV K [] false 1 F_law) :=
  fnV_of FL sc_law rfl rfl rfl (M' := [5, 1]) fun cdv A outer s H E hr =>
    have hu := hr.hu
    have hu64 := hr.hu64
    (vss_cons (vs_setO 1 sc_law.nd rfl rfl (ve_call (js := [none]) (c__law_source T) (hr.mono (by decide)) T.m__law_source T.F__law_source.kp (b__law_source T) rfl rfl rfl rfl rfl (va_cons (ve_name 0 rfl) va_nil))) (vss_cons (vs_set 2 sc_law.nd rfl rfl (ve_call (js := [some 1]) (c__law_rough_graph T) (hr.mono (by decide)) T.m__law_rough_graph T.F__law_rough_graph.kp (b__law_rough_graph T) rfl rfl rfl rfl rfl (va_own 1 rfl va_nil))) (vss_cons (vs_set 3 sc_law.nd rfl rfl (VE.frz (ve_call (js := [none]) (c_clauses_of T) (hr.mono (by decide)) T.m_clauses_of T.F_clauses_of.kp (b_clauses_of T) rfl rfl rfl rfl rfl (va_cons (ve_name 2 rfl) va_nil)))) (vss_cons (vs_set 4 sc_law.nd rfl rfl (ve_repr hr T.n_repr rfl (VE.frz (ve_call (js := [none, none]) (c__law_graph_clauses T) (hr.mono (by decide)) T.m__law_graph_clauses T.F__law_graph_clauses.kp (b__law_graph_clauses T) rfl rfl rfl rfl rfl (va_cons (ve_name 2 rfl) (va_cons ve_int va_nil)))))) (vss_cons (vs_if (M' := [1]) (VW.vt (vw_or (vt_cmp (op_neD hu64) l_ne (ve_repr hr T.n_repr rfl (ve_name 3 rfl)) (ve_name 4 rfl) (nomark _)) (vw_or1 (vt_cmp (op_neD hu64) l_ne (ve_repr hr T.n_repr rfl (VE.frz (ve_call (js := [none]) (c_clauses_of T) (hr.mono (by decide)) T.m_clauses_of T.F_clauses_of.kp (b_clauses_of T) rfl rfl rfl rfl rfl (va_cons (ve_name 2 rfl) va_nil)))) (ve_name 4 rfl) (nomark _))))) (vss_one (vs_ret rfl ve_bl)) vss_nil) (vss_cons (vs_setO 5 sc_law.nd rfl rfl (ve_call (js := [none]) (c_clauses_of T) (hr.mono (by decide)) T.m_clauses_of T.F_clauses_of.kp (b_clauses_of T) rfl rfl rfl rfl rfl (va_cons (ve_name 2 rfl) va_nil))) (vss_cons (vs_expr (ve_own 5 rfl lm_append PySem.F.plainAttrs_list PySem.F.slot_list_append PySem.F.type_list_append mt_append (js := [none]) rfl (va_cons (ve_tup (js := []) rfl va_nil) va_nil))) (vss_cons (vs_if (M' := [5, 1]) (vt_cmp (op_neD hu64) l_ne (ve_repr hr T.n_repr rfl (VE.frz (ve_call (js := [none]) (c_clauses_of T) (hr.mono (by decide)) T.m_clauses_of T.F_clauses_of.kp (b_clauses_of T) rfl rfl rfl rfl rfl (va_cons (ve_name 2 rfl) va_nil)))) (ve_name 4 rfl) (nomark _)) (vss_one (vs_ret rfl ve_bl)) vss_nil) (vss_cons (vs_for (M := [5, 1]) PassesOwn.never rfl rfl (vi_range1 rfl T.n_range (js := [none]) rfl (va_cons ve_int va_nil)) (vg_name 6 sc_law.nd rfl) (vss_drop [6, 7] rfl rfl (vss_cons (vs_set 7 sc_law.nd rfl rfl (ve_call (js := [some 1, none]) (c__law_pick T) (hr.mono (by decide)) T.m__law_pick T.F__law_pick.kp (b__law_pick T) rfl rfl rfl rfl rfl (va_own 1 rfl (va_cons (ve_op op_mul l_mul ve_int (ve_call (js := [none]) (c__law_size T) (hr.mono (by decide)) T.m__law_size T.F__law_size.kp (b__law_size T) rfl rfl rfl rfl rfl (va_cons (ve_name 2 rfl) va_nil))) va_nil)))) (vss_one (vs_if (M' := [5, 1]) (vt_cmp (op_neD hu64) l_ne (ve_repr hr T.n_repr rfl (ve_call (js := [none]) (c_literal_of T) (hr.mono (by decide)) T.m_literal_of T.F_literal_of.kp (b_literal_of T) rfl rfl rfl rfl rfl (va_cons (ve_name 7 rfl) va_nil))) (ve_repr hr T.n_repr rfl (ve_call (js := [none, none]) (c__law_far T) (hr.mono (by decide)) T.m__law_far T.F__law_far.kp (b__law_far T) rfl rfl rfl rfl rfl (va_cons (ve_name 7 rfl) (va_cons ve_int va_nil)))) (nomark _)) (vss_one (vs_ret rfl ve_bl)) vss_nil))))) (vss_cons (vs_if (M' := [5, 1]) (VW.vt (vw_or (vt_not (vt_val (ve_call (js := [some 1, none, none]) (c__law_values_right T) (hr.mono (by decide)) T.m__law_values_right T.F__law_values_right.kp (b__law_values_right T) rfl rfl rfl rfl rfl (va_own 1 rfl (va_cons (ve_name 2 rfl) (va_cons (ve_name 3 rfl) va_nil)))))) (vw_or1 (vt_not (vt_val (ve_call (js := [some 1, none]) (c__law_run_right T) (hr.mono (by decide)) T.m__law_run_right T.F__law_run_right.kp (b__law_run_right T) rfl rfl rfl rfl rfl (va_own 1 rfl (va_cons (ve_name 2 rfl) va_nil)))))))) (vss_one (vs_ret rfl ve_bl)) vss_nil) (vss_one (vs_ret rfl (ve_cmp (op_eqD hu64) l_eq (VE.frz (ve_call (js := [none]) (c_clauses_of T) (hr.mono (by decide)) T.m_clauses_of T.F_clauses_of.kp (b_clauses_of T) rfl rfl rfl rfl rfl (va_cons (ve_tup (js := [none, none, none, none]) rfl (va_cons ve_int (va_cons (ve_tup (js := [none]) rfl (va_cons (ve_tup (js := [none, none]) rfl (va_cons ve_int (va_cons ve_int va_nil))) va_nil)) (va_cons (ve_tup (js := [none]) rfl (va_cons (ve_tup (js := [none, none]) rfl (va_cons ve_int (va_cons ve_int va_nil))) va_nil)) (va_cons (ve_tup (js := [none, none]) rfl (va_cons ve_int (va_cons ve_int va_nil))) va_nil))))) va_nil))) (VE.frz (ve_lst (js := [none, none, none, none]) rfl (va_cons (ve_tup (js := [none]) rfl (va_cons (ve_un un_neg l_neg ve_int) va_nil)) (va_cons (ve_tup (js := [none, none]) rfl (va_cons ve_int (va_cons (ve_un un_neg l_neg ve_int) va_nil))) (va_cons (ve_tup (js := [none, none]) rfl (va_cons ve_int (va_cons (ve_un un_neg l_neg ve_int) va_nil))) (va_cons (ve_tup (js := [none, none, none]) rfl (va_cons (ve_un un_neg l_neg ve_int) (va_cons (ve_un un_neg l_neg ve_int) (va_cons ve_int va_nil)))) va_nil)))))) (nomark _))))))))))))))
end
set_option linter.unusedVariables false in
theorem all_mk {l : PySem.W.OpenLaw} {w : World} {K : PySem.W.Frag} {h : Heap} {mg : Str → Option Value} {fa : Addr} (X : K.In h) (G : h.Ns mainGlobals mg) (hfa : mg "law" = some (.ref fa))
    {f0 : Addr} {od0 an0 : Option Addr} {sl0 : Array (Option Value)} {oc0 kV0 dc0 pm0 cd0 ct0 : Value} (a0 : PySem.W.nsIn K mainGlobals "moved_literal" = some (some (.ref f0))) (l0 : K.lookup f0 = some ⟨oc0, od0, .func (PySem.W.fnOf "moved_literal" "moved_literal" (defArgs s_moved_literal) (defBody s_moved_literal) (defScope s_moved_literal) .none kV0 dc0 pm0 an0 cd0 ct0), sl0⟩) (c0 : PySem.W.codeIn K cd0 "moved_literal" = true) (k0 : PySem.W.keepIn K (.ref f0) = true)
    {f1 : Addr} {od1 an1 : Option Addr} {sl1 : Array (Option Value)} {oc1 kV1 dc1 pm1 cd1 ct1 : Value} (a1 : PySem.W.nsIn K mainGlobals "literal_of" = some (some (.ref f1))) (l1 : K.lookup f1 = some ⟨oc1, od1, .func (PySem.W.fnOf "literal_of" "literal_of" (defArgs s_literal_of) (defBody s_literal_of) (defScope s_literal_of) .none kV1 dc1 pm1 an1 cd1 ct1), sl1⟩) (c1 : PySem.W.codeIn K cd1 "literal_of" = true) (k1 : PySem.W.keepIn K (.ref f1) = true)
    {f2 : Addr} {od2 an2 : Option Addr} {sl2 : Array (Option Value)} {oc2 kV2 dc2 pm2 cd2 ct2 : Value} (a2 : PySem.W.nsIn K mainGlobals "put_clause" = some (some (.ref f2))) (l2 : K.lookup f2 = some ⟨oc2, od2, .func (PySem.W.fnOf "put_clause" "put_clause" (defArgs s_put_clause) (defBody s_put_clause) (defScope s_put_clause) .none kV2 dc2 pm2 an2 cd2 ct2), sl2⟩) (c2 : PySem.W.codeIn K cd2 "put_clause" = true) (k2 : PySem.W.keepIn K (.ref f2) = true)
    {f3 : Addr} {od3 an3 : Option Addr} {sl3 : Array (Option Value)} {oc3 kV3 dc3 pm3 cd3 ct3 : Value} (a3 : PySem.W.nsIn K mainGlobals "put_and" = some (some (.ref f3))) (l3 : K.lookup f3 = some ⟨oc3, od3, .func (PySem.W.fnOf "put_and" "put_and" (defArgs s_put_and) (defBody s_put_and) (defScope s_put_and) .none kV3 dc3 pm3 an3 cd3 ct3), sl3⟩) (c3 : PySem.W.codeIn K cd3 "put_and" = true) (k3 : PySem.W.keepIn K (.ref f3) = true)
    {f4 : Addr} {od4 an4 : Option Addr} {sl4 : Array (Option Value)} {oc4 kV4 dc4 pm4 cd4 ct4 : Value} (a4 : PySem.W.nsIn K mainGlobals "put_same" = some (some (.ref f4))) (l4 : K.lookup f4 = some ⟨oc4, od4, .func (PySem.W.fnOf "put_same" "put_same" (defArgs s_put_same) (defBody s_put_same) (defScope s_put_same) .none kV4 dc4 pm4 an4 cd4 ct4), sl4⟩) (c4 : PySem.W.codeIn K cd4 "put_same" = true) (k4 : PySem.W.keepIn K (.ref f4) = true)
    {f5 : Addr} {od5 an5 : Option Addr} {sl5 : Array (Option Value)} {oc5 kV5 dc5 pm5 cd5 ct5 : Value} (a5 : PySem.W.nsIn K mainGlobals "first_and" = some (some (.ref f5))) (l5 : K.lookup f5 = some ⟨oc5, od5, .func (PySem.W.fnOf "first_and" "first_and" (defArgs s_first_and) (defBody s_first_and) (defScope s_first_and) .none kV5 dc5 pm5 an5 cd5 ct5), sl5⟩) (c5 : PySem.W.codeIn K cd5 "first_and" = true) (k5 : PySem.W.keepIn K (.ref f5) = true)
    {f6 : Addr} {od6 an6 : Option Addr} {sl6 : Array (Option Value)} {oc6 kV6 dc6 pm6 cd6 ct6 : Value} (a6 : PySem.W.nsIn K mainGlobals "size_of" = some (some (.ref f6))) (l6 : K.lookup f6 = some ⟨oc6, od6, .func (PySem.W.fnOf "size_of" "size_of" (defArgs s_size_of) (defBody s_size_of) (defScope s_size_of) .none kV6 dc6 pm6 an6 cd6 ct6), sl6⟩) (c6 : PySem.W.codeIn K cd6 "size_of" = true) (k6 : PySem.W.keepIn K (.ref f6) = true)
    {f7 : Addr} {od7 an7 : Option Addr} {sl7 : Array (Option Value)} {oc7 kV7 dc7 pm7 cd7 ct7 : Value} (a7 : PySem.W.nsIn K mainGlobals "put_graph" = some (some (.ref f7))) (l7 : K.lookup f7 = some ⟨oc7, od7, .func (PySem.W.fnOf "put_graph" "put_graph" (defArgs s_put_graph) (defBody s_put_graph) (defScope s_put_graph) .none kV7 dc7 pm7 an7 cd7 ct7), sl7⟩) (c7 : PySem.W.codeIn K cd7 "put_graph" = true) (k7 : PySem.W.keepIn K (.ref f7) = true)
    {f8 : Addr} {od8 an8 : Option Addr} {sl8 : Array (Option Value)} {oc8 kV8 dc8 pm8 cd8 ct8 : Value} (a8 : PySem.W.nsIn K mainGlobals "clauses_of" = some (some (.ref f8))) (l8 : K.lookup f8 = some ⟨oc8, od8, .func (PySem.W.fnOf "clauses_of" "clauses_of" (defArgs s_clauses_of) (defBody s_clauses_of) (defScope s_clauses_of) .none kV8 dc8 pm8 an8 cd8 ct8), sl8⟩) (c8 : PySem.W.codeIn K cd8 "clauses_of" = true) (k8 : PySem.W.keepIn K (.ref f8) = true)
    {f9 : Addr} {od9 an9 : Option Addr} {sl9 : Array (Option Value)} {oc9 kV9 dc9 pm9 cd9 ct9 : Value} (a9 : PySem.W.nsIn K mainGlobals "register_letter" = some (some (.ref f9))) (l9 : K.lookup f9 = some ⟨oc9, od9, .func (PySem.W.fnOf "register_letter" "register_letter" (defArgs s_register_letter) (defBody s_register_letter) (defScope s_register_letter) .none kV9 dc9 pm9 an9 cd9 ct9), sl9⟩) (c9 : PySem.W.codeIn K cd9 "register_letter" = true) (k9 : PySem.W.keepIn K (.ref f9) = true)
    {f10 : Addr} {od10 an10 : Option Addr} {sl10 : Array (Option Value)} {oc10 kV10 dc10 pm10 cd10 ct10 : Value} (a10 : PySem.W.nsIn K mainGlobals "unrolled" = some (some (.ref f10))) (l10 : K.lookup f10 = some ⟨oc10, od10, .func (PySem.W.fnOf "unrolled" "unrolled" (defArgs s_unrolled) (defBody s_unrolled) (defScope s_unrolled) .none kV10 dc10 pm10 an10 cd10 ct10), sl10⟩) (c10 : PySem.W.codeIn K cd10 "unrolled" = true) (k10 : PySem.W.keepIn K (.ref f10) = true)
    {f11 : Addr} {od11 an11 : Option Addr} {sl11 : Array (Option Value)} {oc11 kV11 dc11 pm11 cd11 ct11 : Value} (a11 : PySem.W.nsIn K mainGlobals "starting" = some (some (.ref f11))) (l11 : K.lookup f11 = some ⟨oc11, od11, .func (PySem.W.fnOf "starting" "starting" (defArgs s_starting) (defBody s_starting) (defScope s_starting) .none kV11 dc11 pm11 an11 cd11 ct11), sl11⟩) (c11 : PySem.W.codeIn K cd11 "starting" = true) (k11 : PySem.W.keepIn K (.ref f11) = true)
    {f12 : Addr} {od12 an12 : Option Addr} {sl12 : Array (Option Value)} {oc12 kV12 dc12 pm12 cd12 ct12 : Value} (a12 : PySem.W.nsIn K mainGlobals "_law_literal" = some (some (.ref f12))) (l12 : K.lookup f12 = some ⟨oc12, od12, .func (PySem.W.fnOf "_law_literal" "_law_literal" (defArgs s__law_literal) (defBody s__law_literal) (defScope s__law_literal) .none kV12 dc12 pm12 an12 cd12 ct12), sl12⟩) (c12 : PySem.W.codeIn K cd12 "_law_literal" = true) (k12 : PySem.W.keepIn K (.ref f12) = true)
    {f13 : Addr} {od13 an13 : Option Addr} {sl13 : Array (Option Value)} {oc13 kV13 dc13 pm13 cd13 ct13 : Value} (a13 : PySem.W.nsIn K mainGlobals "_law_nodes" = some (some (.ref f13))) (l13 : K.lookup f13 = some ⟨oc13, od13, .func (PySem.W.fnOf "_law_nodes" "_law_nodes" (defArgs s__law_nodes) (defBody s__law_nodes) (defScope s__law_nodes) .none kV13 dc13 pm13 an13 cd13 ct13), sl13⟩) (c13 : PySem.W.codeIn K cd13 "_law_nodes" = true) (k13 : PySem.W.keepIn K (.ref f13) = true)
    {f14 : Addr} {od14 an14 : Option Addr} {sl14 : Array (Option Value)} {oc14 kV14 dc14 pm14 cd14 ct14 : Value} (a14 : PySem.W.nsIn K mainGlobals "_law_pick" = some (some (.ref f14))) (l14 : K.lookup f14 = some ⟨oc14, od14, .func (PySem.W.fnOf "_law_pick" "_law_pick" (defArgs s__law_pick) (defBody s__law_pick) (defScope s__law_pick) .none kV14 dc14 pm14 an14 cd14 ct14), sl14⟩) (c14 : PySem.W.codeIn K cd14 "_law_pick" = true) (k14 : PySem.W.keepIn K (.ref f14) = true)
    {f15 : Addr} {od15 an15 : Option Addr} {sl15 : Array (Option Value)} {oc15 kV15 dc15 pm15 cd15 ct15 : Value} (a15 : PySem.W.nsIn K mainGlobals "_law_draw_literal" = some (some (.ref f15))) (l15 : K.lookup f15 = some ⟨oc15, od15, .func (PySem.W.fnOf "_law_draw_literal" "_law_draw_literal" (defArgs s__law_draw_literal) (defBody s__law_draw_literal) (defScope s__law_draw_literal) .none kV15 dc15 pm15 an15 cd15 ct15), sl15⟩) (c15 : PySem.W.codeIn K cd15 "_law_draw_literal" = true) (k15 : PySem.W.keepIn K (.ref f15) = true)
    {f16 : Addr} {od16 an16 : Option Addr} {sl16 : Array (Option Value)} {oc16 kV16 dc16 pm16 cd16 ct16 : Value} (a16 : PySem.W.nsIn K mainGlobals "_law_draw_graph" = some (some (.ref f16))) (l16 : K.lookup f16 = some ⟨oc16, od16, .func (PySem.W.fnOf "_law_draw_graph" "_law_draw_graph" (defArgs s__law_draw_graph) (defBody s__law_draw_graph) (defScope s__law_draw_graph) .none kV16 dc16 pm16 an16 cd16 ct16), sl16⟩) (c16 : PySem.W.codeIn K cd16 "_law_draw_graph" = true) (k16 : PySem.W.keepIn K (.ref f16) = true)
    {f17 : Addr} {od17 an17 : Option Addr} {sl17 : Array (Option Value)} {oc17 kV17 dc17 pm17 cd17 ct17 : Value} (a17 : PySem.W.nsIn K mainGlobals "_law_source" = some (some (.ref f17))) (l17 : K.lookup f17 = some ⟨oc17, od17, .func (PySem.W.fnOf "_law_source" "_law_source" (defArgs s__law_source) (defBody s__law_source) (defScope s__law_source) .none kV17 dc17 pm17 an17 cd17 ct17), sl17⟩) (c17 : PySem.W.codeIn K cd17 "_law_source" = true) (k17 : PySem.W.keepIn K (.ref f17) = true)
    {f18 : Addr} {od18 an18 : Option Addr} {sl18 : Array (Option Value)} {oc18 kV18 dc18 pm18 cd18 ct18 : Value} (a18 : PySem.W.nsIn K mainGlobals "_law_all_bits" = some (some (.ref f18))) (l18 : K.lookup f18 = some ⟨oc18, od18, .func (PySem.W.fnOf "_law_all_bits" "_law_all_bits" (defArgs s__law_all_bits) (defBody s__law_all_bits) (defScope s__law_all_bits) .none kV18 dc18 pm18 an18 cd18 ct18), sl18⟩) (c18 : PySem.W.codeIn K cd18 "_law_all_bits" = true) (k18 : PySem.W.keepIn K (.ref f18) = true)
    {f19 : Addr} {od19 an19 : Option Addr} {sl19 : Array (Option Value)} {oc19 kV19 dc19 pm19 cd19 ct19 : Value} (a19 : PySem.W.nsIn K mainGlobals "_law_kept" = some (some (.ref f19))) (l19 : K.lookup f19 = some ⟨oc19, od19, .func (PySem.W.fnOf "_law_kept" "_law_kept" (defArgs s__law_kept) (defBody s__law_kept) (defScope s__law_kept) .none kV19 dc19 pm19 an19 cd19 ct19), sl19⟩) (c19 : PySem.W.codeIn K cd19 "_law_kept" = true) (k19 : PySem.W.keepIn K (.ref f19) = true)
    {f20 : Addr} {od20 an20 : Option Addr} {sl20 : Array (Option Value)} {oc20 kV20 dc20 pm20 cd20 ct20 : Value} (a20 : PySem.W.nsIn K mainGlobals "_law_put" = some (some (.ref f20))) (l20 : K.lookup f20 = some ⟨oc20, od20, .func (PySem.W.fnOf "_law_put" "_law_put" (defArgs s__law_put) (defBody s__law_put) (defScope s__law_put) .none kV20 dc20 pm20 an20 cd20 ct20), sl20⟩) (c20 : PySem.W.codeIn K cd20 "_law_put" = true) (k20 : PySem.W.keepIn K (.ref f20) = true)
    {f21 : Addr} {od21 an21 : Option Addr} {sl21 : Array (Option Value)} {oc21 kV21 dc21 pm21 cd21 ct21 : Value} (a21 : PySem.W.nsIn K mainGlobals "_law_far" = some (some (.ref f21))) (l21 : K.lookup f21 = some ⟨oc21, od21, .func (PySem.W.fnOf "_law_far" "_law_far" (defArgs s__law_far) (defBody s__law_far) (defScope s__law_far) .none kV21 dc21 pm21 an21 cd21 ct21), sl21⟩) (c21 : PySem.W.codeIn K cd21 "_law_far" = true) (k21 : PySem.W.keepIn K (.ref f21) = true)
    {f22 : Addr} {od22 an22 : Option Addr} {sl22 : Array (Option Value)} {oc22 kV22 dc22 pm22 cd22 ct22 : Value} (a22 : PySem.W.nsIn K mainGlobals "_law_graph_clauses" = some (some (.ref f22))) (l22 : K.lookup f22 = some ⟨oc22, od22, .func (PySem.W.fnOf "_law_graph_clauses" "_law_graph_clauses" (defArgs s__law_graph_clauses) (defBody s__law_graph_clauses) (defScope s__law_graph_clauses) .none kV22 dc22 pm22 an22 cd22 ct22), sl22⟩) (c22 : PySem.W.codeIn K cd22 "_law_graph_clauses" = true) (k22 : PySem.W.keepIn K (.ref f22) = true)
    {f23 : Addr} {od23 an23 : Option Addr} {sl23 : Array (Option Value)} {oc23 kV23 dc23 pm23 cd23 ct23 : Value} (a23 : PySem.W.nsIn K mainGlobals "_law_size" = some (some (.ref f23))) (l23 : K.lookup f23 = some ⟨oc23, od23, .func (PySem.W.fnOf "_law_size" "_law_size" (defArgs s__law_size) (defBody s__law_size) (defScope s__law_size) .none kV23 dc23 pm23 an23 cd23 ct23), sl23⟩) (c23 : PySem.W.codeIn K cd23 "_law_size" = true) (k23 : PySem.W.keepIn K (.ref f23) = true)
    {f24 : Addr} {od24 an24 : Option Addr} {sl24 : Array (Option Value)} {oc24 kV24 dc24 pm24 cd24 ct24 : Value} (a24 : PySem.W.nsIn K mainGlobals "_law_unrolled" = some (some (.ref f24))) (l24 : K.lookup f24 = some ⟨oc24, od24, .func (PySem.W.fnOf "_law_unrolled" "_law_unrolled" (defArgs s__law_unrolled) (defBody s__law_unrolled) (defScope s__law_unrolled) .none kV24 dc24 pm24 an24 cd24 ct24), sl24⟩) (c24 : PySem.W.codeIn K cd24 "_law_unrolled" = true) (k24 : PySem.W.keepIn K (.ref f24) = true)
    {f25 : Addr} {od25 an25 : Option Addr} {sl25 : Array (Option Value)} {oc25 kV25 dc25 pm25 cd25 ct25 : Value} (a25 : PySem.W.nsIn K mainGlobals "_law_starting" = some (some (.ref f25))) (l25 : K.lookup f25 = some ⟨oc25, od25, .func (PySem.W.fnOf "_law_starting" "_law_starting" (defArgs s__law_starting) (defBody s__law_starting) (defScope s__law_starting) .none kV25 dc25 pm25 an25 cd25 ct25), sl25⟩) (c25 : PySem.W.codeIn K cd25 "_law_starting" = true) (k25 : PySem.W.keepIn K (.ref f25) = true)
    {f26 : Addr} {od26 an26 : Option Addr} {sl26 : Array (Option Value)} {oc26 kV26 dc26 pm26 cd26 ct26 : Value} (a26 : PySem.W.nsIn K mainGlobals "_law_step_of" = some (some (.ref f26))) (l26 : K.lookup f26 = some ⟨oc26, od26, .func (PySem.W.fnOf "_law_step_of" "_law_step_of" (defArgs s__law_step_of) (defBody s__law_step_of) (defScope s__law_step_of) .none kV26 dc26 pm26 an26 cd26 ct26), sl26⟩) (c26 : PySem.W.codeIn K cd26 "_law_step_of" = true) (k26 : PySem.W.keepIn K (.ref f26) = true)
    {f27 : Addr} {od27 an27 : Option Addr} {sl27 : Array (Option Value)} {oc27 kV27 dc27 pm27 cd27 ct27 : Value} (a27 : PySem.W.nsIn K mainGlobals "_law_rough_graph" = some (some (.ref f27))) (l27 : K.lookup f27 = some ⟨oc27, od27, .func (PySem.W.fnOf "_law_rough_graph" "_law_rough_graph" (defArgs s__law_rough_graph) (defBody s__law_rough_graph) (defScope s__law_rough_graph) .none kV27 dc27 pm27 an27 cd27 ct27), sl27⟩) (c27 : PySem.W.codeIn K cd27 "_law_rough_graph" = true) (k27 : PySem.W.keepIn K (.ref f27) = true)
    {f28 : Addr} {od28 an28 : Option Addr} {sl28 : Array (Option Value)} {oc28 kV28 dc28 pm28 cd28 ct28 : Value} (a28 : PySem.W.nsIn K mainGlobals "_law_true_of" = some (some (.ref f28))) (l28 : K.lookup f28 = some ⟨oc28, od28, .func (PySem.W.fnOf "_law_true_of" "_law_true_of" (defArgs s__law_true_of) (defBody s__law_true_of) (defScope s__law_true_of) .none kV28 dc28 pm28 an28 cd28 ct28), sl28⟩) (c28 : PySem.W.codeIn K cd28 "_law_true_of" = true) (k28 : PySem.W.keepIn K (.ref f28) = true)
    {f29 : Addr} {od29 an29 : Option Addr} {sl29 : Array (Option Value)} {oc29 kV29 dc29 pm29 cd29 ct29 : Value} (a29 : PySem.W.nsIn K mainGlobals "_law_values_right" = some (some (.ref f29))) (l29 : K.lookup f29 = some ⟨oc29, od29, .func (PySem.W.fnOf "_law_values_right" "_law_values_right" (defArgs s__law_values_right) (defBody s__law_values_right) (defScope s__law_values_right) .none kV29 dc29 pm29 an29 cd29 ct29), sl29⟩) (c29 : PySem.W.codeIn K cd29 "_law_values_right" = true) (k29 : PySem.W.keepIn K (.ref f29) = true)
    {f30 : Addr} {od30 an30 : Option Addr} {sl30 : Array (Option Value)} {oc30 kV30 dc30 pm30 cd30 ct30 : Value} (a30 : PySem.W.nsIn K mainGlobals "_law_run_right" = some (some (.ref f30))) (l30 : K.lookup f30 = some ⟨oc30, od30, .func (PySem.W.fnOf "_law_run_right" "_law_run_right" (defArgs s__law_run_right) (defBody s__law_run_right) (defScope s__law_run_right) .none kV30 dc30 pm30 an30 cd30 ct30), sl30⟩) (c30 : PySem.W.codeIn K cd30 "_law_run_right" = true) (k30 : PySem.W.keepIn K (.ref f30) = true)
    {f31 : Addr} {od31 an31 : Option Addr} {sl31 : Array (Option Value)} {oc31 kV31 dc31 pm31 cd31 ct31 : Value} (a31 : PySem.W.nsIn K mainGlobals "law" = some (some (.ref f31))) (l31 : K.lookup f31 = some ⟨oc31, od31, .func (PySem.W.fnOf "law" "law" (defArgs s_law) (defBody s_law) (defScope s_law) .none kV31 dc31 pm31 an31 cd31 ct31), sl31⟩) (c31 : PySem.W.codeIn K cd31 "law" = true) (k31 : PySem.W.keepIn K (.ref f31) = true)
    (z_abs : PySem.W.nsIn K mainGlobals "abs" = some none)
    (z_any : PySem.W.nsIn K mainGlobals "any" = some none)
    (z_dict : PySem.W.nsIn K mainGlobals "dict" = some none)
    (z_enumerate : PySem.W.nsIn K mainGlobals "enumerate" = some none)
    (z_int : PySem.W.nsIn K mainGlobals "int" = some none)
    (z_len : PySem.W.nsIn K mainGlobals "len" = some none)
    (z_list : PySem.W.nsIn K mainGlobals "list" = some none)
    (z_max : PySem.W.nsIn K mainGlobals "max" = some none)
    (z_min : PySem.W.nsIn K mainGlobals "min" = some none)
    (z_range : PySem.W.nsIn K mainGlobals "range" = some none)
    (z_repr : PySem.W.nsIn K mainGlobals "repr" = some none)
    (z_set : PySem.W.nsIn K mainGlobals "set" = some none)
    (z_sorted : PySem.W.nsIn K mainGlobals "sorted" = some none)
    (z_tuple : PySem.W.nsIn K mainGlobals "tuple" = some none)
    (z_zip : PySem.W.nsIn K mainGlobals "zip" = some none)
    : ∃ fd : FuncData, (∀ (s : Shared) (v : Value), BindsTo s fd ⟨[v], []⟩ [("_law_script", v)]) ∧ ∀ base : Heap, K.In base → base.Ns mainGlobals mg → FnG l.prog w K mg base 6 fa fd ["_law_script"] (SpV K [] false 1 F_law) := by
  have e := hfa.symm.trans (PySem.W.mg_of X G a31)
  cases e
  have T : Txt K mg := { n_abs := PySem.W.mg_none_of X G z_abs, n_any := PySem.W.mg_none_of X G z_any, n_dict := PySem.W.mg_none_of X G z_dict, n_enumerate := PySem.W.mg_none_of X G z_enumerate, n_int := PySem.W.mg_none_of X G z_int, n_len := PySem.W.mg_none_of X G z_len, n_list := PySem.W.mg_none_of X G z_list, n_max := PySem.W.mg_none_of X G z_max, n_min := PySem.W.mg_none_of X G z_min, n_range := PySem.W.mg_none_of X G z_range, n_repr := PySem.W.mg_none_of X G z_repr, n_set := PySem.W.mg_none_of X G z_set, n_sorted := PySem.W.mg_none_of X G z_sorted, n_tuple := PySem.W.mg_none_of X G z_tuple, n_zip := PySem.W.mg_none_of X G z_zip, a_moved_literal := f0, d_moved_literal := _, F_moved_literal := fun_mk (st := s_moved_literal) l0 c0 k0, m_moved_literal := PySem.W.mg_of X G a0, a_literal_of := f1, d_literal_of := _, F_literal_of := fun_mk (st := s_literal_of) l1 c1 k1, m_literal_of := PySem.W.mg_of X G a1, a_put_clause := f2, d_put_clause := _, F_put_clause := fun_mk (st := s_put_clause) l2 c2 k2, m_put_clause := PySem.W.mg_of X G a2, a_put_and := f3, d_put_and := _, F_put_and := fun_mk (st := s_put_and) l3 c3 k3, m_put_and := PySem.W.mg_of X G a3, a_put_same := f4, d_put_same := _, F_put_same := fun_mk (st := s_put_same) l4 c4 k4, m_put_same := PySem.W.mg_of X G a4, a_first_and := f5, d_first_and := _, F_first_and := fun_mk (st := s_first_and) l5 c5 k5, m_first_and := PySem.W.mg_of X G a5, a_size_of := f6, d_size_of := _, F_size_of := fun_mk (st := s_size_of) l6 c6 k6, m_size_of := PySem.W.mg_of X G a6, a_put_graph := f7, d_put_graph := _, F_put_graph := fun_mk (st := s_put_graph) l7 c7 k7, m_put_graph := PySem.W.mg_of X G a7, a_clauses_of := f8, d_clauses_of := _, F_clauses_of := fun_mk (st := s_clauses_of) l8 c8 k8, m_clauses_of := PySem.W.mg_of X G a8, a_register_letter := f9, d_register_letter := _, F_register_letter := fun_mk (st := s_register_letter) l9 c9 k9, m_register_letter := PySem.W.mg_of X G a9, a_unrolled := f10, d_unrolled := _, F_unrolled := fun_mk (st := s_unrolled) l10 c10 k10, m_unrolled := PySem.W.mg_of X G a10, a_starting := f11, d_starting := _, F_starting := fun_mk (st := s_starting) l11 c11 k11, m_starting := PySem.W.mg_of X G a11, a__law_literal := f12, d__law_literal := _, F__law_literal := fun_mk (st := s__law_literal) l12 c12 k12, m__law_literal := PySem.W.mg_of X G a12, a__law_nodes := f13, d__law_nodes := _, F__law_nodes := fun_mk (st := s__law_nodes) l13 c13 k13, m__law_nodes := PySem.W.mg_of X G a13, a__law_pick := f14, d__law_pick := _, F__law_pick := fun_mk (st := s__law_pick) l14 c14 k14, m__law_pick := PySem.W.mg_of X G a14, a__law_draw_literal := f15, d__law_draw_literal := _, F__law_draw_literal := fun_mk (st := s__law_draw_literal) l15 c15 k15, m__law_draw_literal := PySem.W.mg_of X G a15, a__law_draw_graph := f16, d__law_draw_graph := _, F__law_draw_graph := fun_mk (st := s__law_draw_graph) l16 c16 k16, m__law_draw_graph := PySem.W.mg_of X G a16, a__law_source := f17, d__law_source := _, F__law_source := fun_mk (st := s__law_source) l17 c17 k17, m__law_source := PySem.W.mg_of X G a17, a__law_all_bits := f18, d__law_all_bits := _, F__law_all_bits := fun_mk (st := s__law_all_bits) l18 c18 k18, m__law_all_bits := PySem.W.mg_of X G a18, a__law_kept := f19, d__law_kept := _, F__law_kept := fun_mk (st := s__law_kept) l19 c19 k19, m__law_kept := PySem.W.mg_of X G a19, a__law_put := f20, d__law_put := _, F__law_put := fun_mk (st := s__law_put) l20 c20 k20, m__law_put := PySem.W.mg_of X G a20, a__law_far := f21, d__law_far := _, F__law_far := fun_mk (st := s__law_far) l21 c21 k21, m__law_far := PySem.W.mg_of X G a21, a__law_graph_clauses := f22, d__law_graph_clauses := _, F__law_graph_clauses := fun_mk (st := s__law_graph_clauses) l22 c22 k22, m__law_graph_clauses := PySem.W.mg_of X G a22, a__law_size := f23, d__law_size := _, F__law_size := fun_mk (st := s__law_size) l23 c23 k23, m__law_size := PySem.W.mg_of X G a23, a__law_unrolled := f24, d__law_unrolled := _, F__law_unrolled := fun_mk (st := s__law_unrolled) l24 c24 k24, m__law_unrolled := PySem.W.mg_of X G a24, a__law_starting := f25, d__law_starting := _, F__law_starting := fun_mk (st := s__law_starting) l25 c25 k25, m__law_starting := PySem.W.mg_of X G a25, a__law_step_of := f26, d__law_step_of := _, F__law_step_of := fun_mk (st := s__law_step_of) l26 c26 k26, m__law_step_of := PySem.W.mg_of X G a26, a__law_rough_graph := f27, d__law_rough_graph := _, F__law_rough_graph := fun_mk (st := s__law_rough_graph) l27 c27 k27, m__law_rough_graph := PySem.W.mg_of X G a27, a__law_true_of := f28, d__law_true_of := _, F__law_true_of := fun_mk (st := s__law_true_of) l28 c28 k28, m__law_true_of := PySem.W.mg_of X G a28, a__law_values_right := f29, d__law_values_right := _, F__law_values_right := fun_mk (st := s__law_values_right) l29 c29 k29, m__law_values_right := PySem.W.mg_of X G a29, a__law_run_right := f30, d__law_run_right := _, F__law_run_right := fun_mk (st := s__law_run_right) l30 c30 k30, m__law_run_right := PySem.W.mg_of X G a30 }
  exact ⟨PySem.W.fnOf "law" "law" (defArgs s_law) (defBody s_law) (defScope s_law) .none kV31 dc31 pm31 an31 cd31 ct31, fun s v => .of_eq rfl, fun base _ _ => c_law T (fun_mk (st := s_law) l31 c31 k31)⟩
end Bl

set_option Elab.async false
set_option linter.all false
set_option maxRecDepth 100000
set_option maxHeartbeats 4000000
/-! Mth0: computing with the combinators. -/
namespace Bl
open PySem PySem.Spec PyProof.Rows L2
theorem kEqI (i j : Int) : kEqD false (.int i) (.int j) = some (.bl (i == j)) := rfl
theorem kNeI (i j : Int) : kEqD true (.int i) (.int j) = some (.bl (!(i == j))) := rfl
theorem atI_nat {α : Type} (xs : List α) (i : Nat) : atI xs (i : Int) = xs[i]? := by
  unfold atI ixN
  rw [if_pos (Int.natCast_nonneg i)]
  by_cases h : i < xs.length
  · rw [if_pos (by simpa using h)]
    simp
  · rw [if_neg (by simpa using h)]
    simp
    omega
theorem at0 {α : Type} (a : α) (r : List α) : atI (a :: r) 0 = some a := atI_nat (a :: r) 0
theorem at1 {α : Type} (a b : α) (r : List α) : atI (a :: b :: r) 1 = some b := atI_nat (a :: b :: r) 1
theorem at2 {α : Type} (a b c : α) (r : List α) : atI (a :: b :: c :: r) 2 = some c := atI_nat (a :: b :: c :: r) 2
theorem at3 {α : Type} (a b c d : α) (r : List α) : atI (a :: b :: c :: d :: r) 3 = some d := atI_nat (a :: b :: c :: d :: r) 3
def rngD : Nat → Nat → List D
  | _, 0 => []
  | k, n + 1 => .int (k : Nat) :: rngD (k + 1) n
theorem rng_aux : ∀ (n k : Nat), (List.range' k n).map (fun i => D.int ((i : Nat) : Int)) = rngD k n
  | 0, _ => rfl
  | n + 1, k => by
    rw [List.range'_succ, List.map_cons, rng_aux n (k + 1), rngD]
theorem rangeD_rng (n : Nat) : rangeD 0 (n : Int) = rngD 0 n := by
  unfold rangeD
  rw [← rng_aux, ← List.range_eq_range']
  simp
theorem in62_nat {n : Nat} (h : n ≤ 1000000) : in62 (n : Int) = true := by
  unfold in62
  simp
  omega
theorem kMul_l {i j : Int} (h : i.natAbs < 18446744073709551616) : kMul (.int i) (.int j) = some (.int (i * j)) := by
  show (if decide (i.natAbs < 2 ^ 64 ∨ j.natAbs < 2 ^ 64) = true then some (D.int (i * j)) else none) = _
  exact if_pos (decide_eq_true (.inl h))
theorem kMul_r {i j : Int} (h : j.natAbs < 18446744073709551616) : kMul (.int i) (.int j) = some (.int (i * j)) := by
  show (if decide (i.natAbs < 2 ^ 64 ∨ j.natAbs < 2 ^ 64) = true then some (D.int (i * j)) else none) = _
  exact if_pos (decide_eq_true (.inr h))
end Bl

set_option Elab.async false
set_option linter.all false
set_option maxRecDepth 100000
set_option maxHeartbeats 4000000
/-! Mth1: loops and comprehensions in one go. -/
namespace Bl
open PySem PySem.Spec PyProof.Rows L2
/-- one round of a comprehension -/
def lcOne (fg : Eg) (ft : Et) (fe : Ev) (vs : List Nat) (d : D) (ρ : Rho) : Option (Option D × Rho) :=
  (fg d ρ).bind fun ρ1 => (ft ρ1).bind fun p => if p.1 then (fe p.2).map fun q => (some q.1, wipeD q.2 vs) else some (none, wipeD p.2 vs)
theorem lcGo_cons (fg : Eg) (ft : Et) (fe : Ev) (vs : List Nat) (d : D) (ds acc : List D) (ρ ρ' : Rho) (o : Option D) (h : lcOne fg ft fe vs d ρ = some (o, ρ')) (hl : acc.length < lim) :
    lcGo fg ft fe vs (d :: ds) acc ρ = lcGo fg ft fe vs ds (acc ++ o.toList) ρ' := by
  unfold lcOne at h
  obtain ⟨ρ1, e1, h⟩ := Option.bind_eq_some_iff.mp h
  obtain ⟨⟨b, ρ2⟩, e2, h⟩ := Option.bind_eq_some_iff.mp h
  simp only [lcGo, e1, e2, Option.bind_some]
  cases b with
  | true =>
    simp only [if_true] at h ⊢
    obtain ⟨⟨q, ρ3⟩, e3, h⟩ := Option.map_eq_some_iff.mp h
    cases h
    simp only [e3, Option.bind_some, if_pos hl, Option.toList]
  | false =>
    simp only [Bool.false_eq_true, if_false] at h ⊢
    cases h
    simp [Option.toList]
theorem lc_pure {α : Type} {fg : Eg} {ft : Et} {fe : Ev} {vs : List Nat} {ρ : Rho} {enc : α → D} {φ : α → Option D} : ∀ {as : List α} {acc : List D}, (∀ a ∈ as, lcOne fg ft fe vs (enc a) ρ = some (φ a, ρ)) → acc.length + as.length ≤ 1000000 →
    lcGo fg ft fe vs (as.map enc) acc ρ = some (acc ++ as.filterMap φ, ρ)
  | [], acc, _, _ => by simp [lcGo]
  | a :: as, acc, h, hl => by
    simp only [List.length_cons] at hl
    rw [List.map_cons, lcGo_cons fg ft fe vs _ _ _ ρ ρ (φ a) (h a (List.mem_cons_self ..)) (by unfold lim; omega)]
    have hz : (φ a).toList.length ≤ 1 := by cases φ a <;> simp [Option.toList]
    rw [lc_pure (fun b hb => h b (List.mem_cons_of_mem _ hb)) (by simp; omega)]
    cases e : φ a <;> simp [List.filterMap_cons, e, Option.toList]
theorem lc_val {α : Type} {fg : Eg} {ft : Et} {fe : Ev} {vs : List Nat} {ρ : Rho} {enc : α → D} {φ : α → D} {as : List α} (h : ∀ a ∈ as, lcOne fg ft fe vs (enc a) ρ = some (some (φ a), ρ)) (hl : as.length ≤ 1000000) :
    lcGo fg ft fe vs (as.map enc) [] ρ = some (as.map φ, ρ) := by
  rw [lc_pure (φ := fun a => some (φ a)) h (by simpa using hl)]
  simp
/-- a comprehension that changes what it draws from -/
theorem lc_state {α β : Type} {fg : Eg} {ft : Et} {fe : Ev} {vs : List Nat} {enc : α → D} {st : β → Rho} {P : β → Prop} {f : β → α → D × β} : ∀ {as : List α} {b : β} {acc : List D}, P b → (∀ a ∈ as, ∀ b, P b → lcOne fg ft fe vs (enc a) (st b) = some (some (f b a).1, st (f b a).2) ∧ P (f b a).2) → acc.length + as.length ≤ 1000000 →
    ∃ (out : List D) (b' : β), lcGo fg ft fe vs (as.map enc) acc (st b) = some (acc ++ out, st b') ∧ P b' ∧ out.length = as.length ∧ ∀ o ∈ out, ∃ a b, a ∈ as ∧ P b ∧ o = (f b a).1
  | [], b, acc, hb, _, _ => ⟨[], b, by simp [lcGo], hb, rfl, by simp⟩
  | a :: as, b, acc, hb, h, hl => by
    simp only [List.length_cons] at hl
    obtain ⟨h1, h2⟩ := h a (List.mem_cons_self ..) b hb
    obtain ⟨out, b', g1, g2, g3, g4⟩ := lc_state (as := as) (acc := acc ++ [(f b a).1]) h2 (fun c hc => h c (List.mem_cons_of_mem _ hc)) (by simp; omega)
    refine ⟨(f b a).1 :: out, b', ?_, g2, by simp [g3], fun o ho => ?_⟩
    · rw [List.map_cons, lcGo_cons fg ft fe vs _ _ _ _ _ _ h1 (by unfold lim; omega)]
      simp only [Option.toList]
      rw [g1]
      simp
    · rcases List.mem_cons.mp ho with q | q
      · exact ⟨a, b, List.mem_cons_self .., hb, q⟩
      · obtain ⟨a', b', h1, h2, h3⟩ := g4 o q
        exact ⟨a', b', List.mem_cons_of_mem _ h1, h2, h3⟩
/-- a loop that goes through -/
theorem for_state {α β : Type} {fg : Eg} {F : Es} {enc : α → D} {st : β → Rho} {P : β → Prop} : ∀ {as : List α} {b : β}, P b → (∀ a ∈ as, ∀ b, P b → ∃ b', ((fg (enc a) (st b)).bind F = some (.nx (st b')) ∨ (fg (enc a) (st b)).bind F = some (.ct (st b'))) ∧ P b') →
    ∃ b', forGo fg F (as.map enc) (st b) = some (.nx (st b')) ∧ P b'
  | [], b, hb, _ => ⟨b, rfl, hb⟩
  | a :: as, b, hb, h => by
    obtain ⟨b1, h1, h2⟩ := h a (List.mem_cons_self ..) b hb
    obtain ⟨b', g1, g2⟩ := for_state (as := as) h2 (fun c hc => h c (List.mem_cons_of_mem _ hc))
    refine ⟨b', ?_, g2⟩
    rw [List.map_cons, forGo, ← Option.bind_assoc]
    rcases h1 with h1 | h1 <;> rw [h1] <;> exact g1
/-- a loop whose state is told -/
theorem for_fold {α β : Type} {fg : Eg} {F : Es} {enc : α → D} {st : β → Rho} {P : β → Prop} {f : β → α → β} : ∀ {as : List α} {b : β}, P b → (∀ a ∈ as, ∀ b, P b → (fg (enc a) (st b)).bind F = some (.nx (st (f b a))) ∧ P (f b a)) →
    forGo fg F (as.map enc) (st b) = some (.nx (st (as.foldl f b))) ∧ P (as.foldl f b)
  | [], b, hb, _ => ⟨rfl, hb⟩
  | a :: as, b, hb, h => by
    obtain ⟨h1, h2⟩ := h a (List.mem_cons_self ..) b hb
    obtain ⟨g1, g2⟩ := for_fold (as := as) h2 (fun c hc => h c (List.mem_cons_of_mem _ hc))
    refine ⟨?_, g2⟩
    rw [List.map_cons, forGo, ← Option.bind_assoc, h1]
    exact g1
theorem rngD_map : ∀ (n k : Nat), rngD k n = (List.range' k n).map fun i => D.int ((i : Nat) : Int)
  | n, k => (rng_aux n k).symm
theorem rangeD_map (n : Nat) : rangeD 0 (n : Int) = (List.range n).map fun i => D.int ((i : Nat) : Int) := by
  unfold rangeD
  simp
end Bl

set_option Elab.async false
set_option linter.all false
set_option maxRecDepth 100000
set_option maxHeartbeats 4000000
namespace Bl
open PySem PySem.Spec PyProof.Rows L2
def far (l s : Int) : Int := if l % 2 = 0 then l / 2 + 1 + s else -(l / 2 + 1 + s)
theorem f_moved (l s : Int) : F_moved_literal [.int l, .int s] = some (.int (far l s), [.dead, .dead]) := by
  by_cases h : l % 2 = 0 <;> simp [F_moved_literal, far, h, sSeq, sNil, sSet, sSetO, sIf, sRet, sRetS, sRetN, sExpr, sFor, sPar, sAsg, sDrop, sPass, sBrk, sCnt, funF, fName, slot, fC, op1, op2, opN, aNil, aCons, aOwn, fCall, fillA, backA, eIf, eAnd, eOr, eNot, eView, tB, tNotF, tAndF, tOrF, tView, mask, maskFrom, wipeD, gSet, gsCons, gsNil, gTupF, setsD, iLst, iTupF, iScr, iRange1, iRange2, iEnumT, iEnumL, kAdd, kSub, kDiv, kMod, kII, kIC, kNeg, kLt, kLe, kGt, kGe, kTup, kLst, kLen, kAbs, kInt, kMax2, kMin2, kXor, kAnd, kIx, kTuple, kList, kCat, fOwn, fOwn0, tyD, kAppend, fSrc, fSrc_left, fSrc_mixed, fSrc_turn, fSrcLen, fSrcPop, sSrcPut, sSrcPut_left, sSrcPut_mixed, sSrcPut_turn, fLc, fDc, iKeysD, fYes, fDIn, kDVal, keyD, kRevL, kEqI, kNeI, lim]
theorem f_far (l s : Int) : F__law_far [.int l, .int s] = some (.int (far l s), [.dead, .dead]) := by
  by_cases h : l % 2 = 0 <;> simp [F__law_far, far, h, sSeq, sNil, sSet, sSetO, sIf, sRet, sRetS, sRetN, sExpr, sFor, sPar, sAsg, sDrop, sPass, sBrk, sCnt, funF, fName, slot, fC, op1, op2, opN, aNil, aCons, aOwn, fCall, fillA, backA, eIf, eAnd, eOr, eNot, eView, tB, tNotF, tAndF, tOrF, tView, mask, maskFrom, wipeD, gSet, gsCons, gsNil, gTupF, setsD, iLst, iTupF, iScr, iRange1, iRange2, iEnumT, iEnumL, kAdd, kSub, kDiv, kMod, kII, kIC, kNeg, kLt, kLe, kGt, kGe, kTup, kLst, kLen, kAbs, kInt, kMax2, kMin2, kXor, kAnd, kIx, kTuple, kList, kCat, fOwn, fOwn0, tyD, kAppend, fSrc, fSrc_left, fSrc_mixed, fSrc_turn, fSrcLen, fSrcPop, sSrcPut, sSrcPut_left, sSrcPut_mixed, sSrcPut_turn, fLc, fDc, iKeysD, fYes, fDIn, kDVal, keyD, kRevL, kEqI, kNeI, lim]
theorem f_literal_of (l : Int) : F_literal_of [.int l] = some (.int (far l 0), [.dead]) := by
  simp [F_literal_of, f_moved, sSeq, sNil, sSet, sSetO, sIf, sRet, sRetS, sRetN, sExpr, sFor, sPar, sAsg, sDrop, sPass, sBrk, sCnt, funF, fName, slot, fC, op1, op2, opN, aNil, aCons, aOwn, fCall, fillA, backA, eIf, eAnd, eOr, eNot, eView, tB, tNotF, tAndF, tOrF, tView, mask, maskFrom, wipeD, gSet, gsCons, gsNil, gTupF, setsD, iLst, iTupF, iScr, iRange1, iRange2, iEnumT, iEnumL, kAdd, kSub, kDiv, kMod, kII, kIC, kNeg, kLt, kLe, kGt, kGe, kTup, kLst, kLen, kAbs, kInt, kMax2, kMin2, kXor, kAnd, kIx, kTuple, kList, kCat, fOwn, fOwn0, tyD, kAppend, fSrc, fSrc_left, fSrc_mixed, fSrc_turn, fSrcLen, fSrcPop, sSrcPut, sSrcPut_left, sSrcPut_mixed, sSrcPut_turn, fLc, fDc, iKeysD, fYes, fDIn, kDVal, keyD, kRevL, kEqI, kNeI, lim]
structure Gr where
  ins : Nat
  regs : List (Int × Int)
  ands : List (Int × Int)
  outs : List Int
def pr (p : Int × Int) : D := .tup [.int p.1, .int p.2]
def Gr.enc (g : Gr) : D := .tup [.int g.ins, .tup (g.regs.map pr), .tup (g.ands.map pr), .tup (g.outs.map D.int)]
def Gr.first (g : Gr) : Nat := 1 + g.ins + g.regs.length
def Gr.size (g : Gr) : Nat := g.first + g.ands.length
theorem f_first (g : Gr) : F_first_and [g.enc] = some (.int g.first, [.dead]) := by
  simp [F_first_and, Gr.enc, Gr.first, at0, at1, sSeq, sNil, sSet, sSetO, sIf, sRet, sRetS, sRetN, sExpr, sFor, sPar, sAsg, sDrop, sPass, sBrk, sCnt, funF, fName, slot, fC, op1, op2, opN, aNil, aCons, aOwn, fCall, fillA, backA, eIf, eAnd, eOr, eNot, eView, tB, tNotF, tAndF, tOrF, tView, mask, maskFrom, wipeD, gSet, gsCons, gsNil, gTupF, setsD, iLst, iTupF, iScr, iRange1, iRange2, iEnumT, iEnumL, kAdd, kSub, kDiv, kMod, kII, kIC, kNeg, kLt, kLe, kGt, kGe, kTup, kLst, kLen, kAbs, kInt, kMax2, kMin2, kXor, kAnd, kIx, kTuple, kList, kCat, fOwn, fOwn0, tyD, kAppend, fSrc, fSrc_left, fSrc_mixed, fSrc_turn, fSrcLen, fSrcPop, sSrcPut, sSrcPut_left, sSrcPut_mixed, sSrcPut_turn, fLc, fDc, iKeysD, fYes, fDIn, kDVal, keyD, kRevL, kEqI, kNeI, lim]
theorem f_size (g : Gr) : F_size_of [g.enc] = some (.int g.size, [.dead]) := by
  have h := f_first g
  simp only [Gr.enc] at h
  simp [F_size_of, Gr.enc, Gr.size, h, at2, sSeq, sNil, sSet, sSetO, sIf, sRet, sRetS, sRetN, sExpr, sFor, sPar, sAsg, sDrop, sPass, sBrk, sCnt, funF, fName, slot, fC, op1, op2, opN, aNil, aCons, aOwn, fCall, fillA, backA, eIf, eAnd, eOr, eNot, eView, tB, tNotF, tAndF, tOrF, tView, mask, maskFrom, wipeD, gSet, gsCons, gsNil, gTupF, setsD, iLst, iTupF, iScr, iRange1, iRange2, iEnumT, iEnumL, kAdd, kSub, kDiv, kMod, kII, kIC, kNeg, kLt, kLe, kGt, kGe, kTup, kLst, kLen, kAbs, kInt, kMax2, kMin2, kXor, kAnd, kIx, kTuple, kList, kCat, fOwn, fOwn0, tyD, kAppend, fSrc, fSrc_left, fSrc_mixed, fSrc_turn, fSrcLen, fSrcPop, sSrcPut, sSrcPut_left, sSrcPut_mixed, sSrcPut_turn, fLc, fDc, iKeysD, fYes, fDIn, kDVal, keyD, kRevL, kEqI, kNeI, lim]
theorem f_lsize (g : Gr) : F__law_size [g.enc] = some (.int g.size, [.dead]) := by
  simp [F__law_size, Gr.enc, Gr.size, Gr.first, at0, at1, at2, sSeq, sNil, sSet, sSetO, sIf, sRet, sRetS, sRetN, sExpr, sFor, sPar, sAsg, sDrop, sPass, sBrk, sCnt, funF, fName, slot, fC, op1, op2, opN, aNil, aCons, aOwn, fCall, fillA, backA, eIf, eAnd, eOr, eNot, eView, tB, tNotF, tAndF, tOrF, tView, mask, maskFrom, wipeD, gSet, gsCons, gsNil, gTupF, setsD, iLst, iTupF, iScr, iRange1, iRange2, iEnumT, iEnumL, kAdd, kSub, kDiv, kMod, kII, kIC, kNeg, kLt, kLe, kGt, kGe, kTup, kLst, kLen, kAbs, kInt, kMax2, kMin2, kXor, kAnd, kIx, kTuple, kList, kCat, fOwn, fOwn0, tyD, kAppend, fSrc, fSrc_left, fSrc_mixed, fSrc_turn, fSrcLen, fSrcPop, sSrcPut, sSrcPut_left, sSrcPut_mixed, sSrcPut_turn, fLc, fDc, iKeysD, fYes, fDIn, kDVal, keyD, kRevL, kEqI, kNeI, lim]
end Bl

set_option Elab.async false
set_option linter.all false
set_option maxRecDepth 100000
set_option maxHeartbeats 4000000
namespace Bl
open PySem PySem.Spec PyProof.Rows L2
/-! ### a clause -/
def addD (l : List Int) (k : Int) : List Int := if k ∈ l then l else l ++ [k]
def ded (ks : List Int) : List Int := ks.foldl addD []
def kt (k : Int) : Key × D := (Sum.inl k, D.bl true)
theorem put_kt (l : List Int) (k : Int) : putP (l.map kt) (Sum.inl k) (D.bl true) = (addD l k).map kt := by
  unfold putP addD
  by_cases h : k ∈ l
  · rw [if_pos h, if_pos (by
      rw [List.any_eq_true]
      exact ⟨kt k, List.mem_map.mpr ⟨k, h, rfl⟩, by simp [kt]⟩), List.map_map]
    apply List.map_congr_left
    intro x _
    simp only [Function.comp, kt]
    exact ite_self _
  · rw [if_neg h, if_neg (fun z => h (by
      obtain ⟨p, hp, e⟩ := List.any_eq_true.mp z
      obtain ⟨x, hx, rfl⟩ := List.mem_map.mp hp
      simp [kt] at e
      subst e
      exact hx)), List.map_append]
    rfl
theorem addD_len (l : List Int) (k : Int) : (addD l k).length ≤ l.length + 1 := by
  unfold addD
  split <;> simp
theorem dc_found (a b c : D) : ∀ (ks l : List Int), l.length + ks.length ≤ 1000 → dcGo (gSet 3) fYes (fName 3) (fC (.bl true)) [3] (ks.map D.int) (l.map kt) [a, b, c, .dead] = some ((ks.foldl addD l).map kt, [a, b, c, .dead])
  | [], l, _ => rfl
  | k :: ks, l, h => by
    have h1 := addD_len l k
    simp only [List.length_cons] at h
    have h2 : l.length < 1000000 := by omega
    have ih := dc_found a b c ks (addD l k) (by omega)
    simp only [List.map_cons, dcGo]
    simp [h2, put_kt, ih, sSeq, sNil, sSet, sSetO, sIf, sRet, sRetS, sRetN, sExpr, sFor, sPar, sAsg, sDrop, sPass, sBrk, sCnt, funF, fName, slot, fC, op1, op2, opN, aNil, aCons, aOwn, fCall, fillA, backA, eIf, eAnd, eOr, eNot, eView, tB, tNotF, tAndF, tOrF, tView, mask, maskFrom, wipeD, gSet, gsCons, gsNil, gTupF, setsD, iLst, iTupF, iScr, iRange1, iRange2, iEnumT, iEnumL, kAdd, kSub, kDiv, kMod, kII, kIC, kNeg, kLt, kLe, kGt, kGe, kTup, kLst, kLen, kAbs, kInt, kMax2, kMin2, kXor, kAnd, kIx, kTuple, kList, kCat, fOwn, fOwn0, tyD, kAppend, fSrc, fSrc_left, fSrc_mixed, fSrc_turn, fSrcLen, fSrcPop, sSrcPut, sSrcPut_left, sSrcPut_mixed, sSrcPut_turn, fLc, fDc, iKeysD, fYes, fDIn, kDVal, keyD, kRevL, kEqI, kNeI, lim]
theorem valP_kt (l : List Int) (k : Int) : (valP (l.map kt) (Sum.inl k)).isSome = l.contains k := by
  induction l with
  | nil => rfl
  | cons x r ih =>
    by_cases h : x = k
    · subst h
      simp [valP, kt]
    · have h2 : ¬ k = x := fun z => h z.symm
      simp [valP, kt, List.find?_cons, h, h2] at ih ⊢
      exact ih
theorem lc_any (a b : D) (l : List Int) : ∀ (ks : List Int) (acc : List D), acc.length + ks.length ≤ 1000 → lcGo (gSet 3) fYes (fDIn false (op1 kNeg (fName 3)) (fName 2)) [3] (ks.map D.int) acc [a, b, .dic (l.map kt), .dead] = some (acc ++ ks.map (fun k => D.bl (l.contains (-k))), [a, b, .dic (l.map kt), .dead])
  | [], acc, _ => by simp [lcGo]
  | k :: ks, acc, h => by
    simp only [List.length_cons] at h
    have h2 : acc.length < 1000000 := by omega
    have ih := lc_any a b l ks (acc ++ [D.bl (l.contains (-k))]) (by simp; omega)
    simp only [List.map_cons, lcGo]
    simp [h2, valP_kt, sSeq, sNil, sSet, sSetO, sIf, sRet, sRetS, sRetN, sExpr, sFor, sPar, sAsg, sDrop, sPass, sBrk, sCnt, funF, fName, slot, fC, op1, op2, opN, aNil, aCons, aOwn, fCall, fillA, backA, eIf, eAnd, eOr, eNot, eView, tB, tNotF, tAndF, tOrF, tView, mask, maskFrom, wipeD, gSet, gsCons, gsNil, gTupF, setsD, iLst, iTupF, iScr, iRange1, iRange2, iEnumT, iEnumL, kAdd, kSub, kDiv, kMod, kII, kIC, kNeg, kLt, kLe, kGt, kGe, kTup, kLst, kLen, kAbs, kInt, kMax2, kMin2, kXor, kAnd, kIx, kTuple, kList, kCat, fOwn, fOwn0, tyD, kAppend, fSrc, fSrc_left, fSrc_mixed, fSrc_turn, fSrcLen, fSrcPop, sSrcPut, sSrcPut_left, sSrcPut_mixed, sSrcPut_turn, fLc, fDc, iKeysD, fYes, fDIn, kDVal, keyD, kRevL, kEqI, kNeI, lim] at ih ⊢
    rw [ih]
theorem intKeys_kt (l : List Int) : intKeys (l.map kt) = some l := by
  induction l with
  | nil => rfl
  | cons x r ih => simp [intKeys, kt, ih]
theorem addD_nodup {l : List Int} (h : l.Nodup) (k : Int) : (addD l k).Nodup := by
  unfold addD
  split
  · exact h
  · rename_i hk
    rw [List.nodup_append]
    refine ⟨h, by simp, fun a ha b hb => ?_⟩
    simp at hb
    subst hb
    exact fun z => hk (z ▸ ha)
theorem fold_nodup : ∀ (ks l : List Int), l.Nodup → (ks.foldl addD l).Nodup
  | [], _, h => h
  | k :: ks, l, h => fold_nodup ks _ (addD_nodup h k)
theorem fold_mem : ∀ (ks l : List Int) (x : Int), x ∈ ks.foldl addD l ↔ x ∈ l ∨ x ∈ ks
  | [], l, x => by simp
  | k :: ks, l, x => by
    rw [List.foldl_cons, fold_mem ks]
    unfold addD
    split
    · rename_i h
      constructor
      · rintro (q | q)
        · exact .inl q
        · exact .inr (List.mem_cons_of_mem _ q)
      · rintro (q | q)
        · exact .inl q
        · rcases List.mem_cons.mp q with z | z
          · subst z; exact .inl h
          · exact .inr z
    · simp only [List.mem_append, List.mem_cons, List.not_mem_nil, or_false]
      constructor
      · rintro ((q | q) | q)
        · exact .inl q
        · exact .inr (.inl q)
        · exact .inr (.inr q)
      · rintro (q | q | q)
        · exact .inl (.inl q)
        · exact .inl (.inr q)
        · exact .inr q
theorem ded_nodup (ks : List Int) : (ded ks).Nodup := fold_nodup ks [] .nil
theorem ded_mem (ks : List Int) (x : Int) : x ∈ ded ks ↔ x ∈ ks := by
  unfold ded
  rw [fold_mem]
  simp
theorem fold_len : ∀ (ks l : List Int), (ks.foldl addD l).length ≤ l.length + ks.length
  | [], l => by simp
  | k :: ks, l => by
    have h1 := fold_len ks (addD l k)
    have h2 := addD_len l k
    simp only [List.foldl_cons, List.length_cons]
    omega
/-- no letter both ways -/
def plainC (ks : List Int) : Bool := !((ded ks).any fun k => (ded ks).contains (-k))
def clauseOf (ks : List Int) : List D := if plainC ks then [.tup ((sortA (ded ks)).map D.int)] else []
theorem nodup_map_of {l : List Int} {f : Int → Nat} (h : l.Nodup) (hf : ∀ a ∈ l, ∀ b ∈ l, f a = f b → a = b) : (l.map f).Nodup := by
  induction l with
  | nil => exact .nil
  | cons x r ih =>
    rw [List.nodup_cons] at h
    rw [List.map_cons, List.nodup_cons]
    refine ⟨fun z => ?_, ih h.2 fun a ha b hb => hf a (List.mem_cons_of_mem _ ha) b (List.mem_cons_of_mem _ hb)⟩
    obtain ⟨y, hy, e⟩ := List.mem_map.mp z
    have := hf y (List.mem_cons_of_mem _ hy) x (List.mem_cons_self ..) e
    subst this
    exact h.1 hy
theorem plain_nodup {ks : List Int} (h : plainC ks = true) : ((ded ks).map Int.natAbs).Nodup := by
  refine nodup_map_of (ded_nodup ks) fun a ha b hb e => ?_
  unfold plainC at h
  simp only [Bool.not_eq_true', List.any_eq_false] at h
  rcases Int.natAbs_eq_natAbs_iff.mp e with z | z
  · exact z
  · exact absurd (by rw [z, Int.neg_neg]; simpa using hb : (ded ks).contains (-a) = true) (by simpa using h a ha)
theorem f_put_clause (cs : List D) (ks : List Int) (h : ks.length ≤ 500) (hc : cs.length < 1000000) : F_put_clause [.lst cs, .lst (ks.map D.int)] = some (.non, [.lst (cs ++ clauseOf ks), .dead]) := by
  have h1 := dc_found (.lst cs) (.lst (ks.map D.int)) .dead ks [] (by simp; omega)
  have h2 := lc_any (.lst cs) (.lst (ks.map D.int)) (ded ks) (ded ks) [] (by have := fold_len ks []; unfold ded; simp at this ⊢; omega)
  have h3 : ks.foldl addD [] = ded ks := rfl
  rw [h3] at h1
  obtain ⟨X, hX1, hX2⟩ : ∃ X : List D, lcGo (gSet 3) fYes (fDIn false (op1 kNeg (fName 3)) (fName 2)) [3] ((ded ks).map D.int) [] [.lst cs, .lst (ks.map D.int), .dic ((ded ks).map kt), .dead] = some (X, [.lst cs, .lst (ks.map D.int), .dic ((ded ks).map kt), .dead]) ∧ kAny [.lst X] = some (.bl (!plainC ks)) := by
    refine ⟨_, h2, ?_⟩
    have h4 := bls_map ((ded ks).map fun k => (ded ks).contains (-k))
    rw [List.map_map] at h4
    show (blsD ([] ++ (ded ks).map fun k => D.bl ((ded ks).contains (-k)))).map _ = _
    rw [List.nil_append]
    rw [show (ded ks).map (fun k => D.bl ((ded ks).contains (-k))) = (ded ks).map (D.bl ∘ fun k => (ded ks).contains (-k)) from rfl, h4]
    show some (D.bl (((ded ks).map fun k => (ded ks).contains (-k)).any id)) = _
    unfold plainC
    rw [Bool.not_not, List.any_map]
    rfl
  clear h2
  simp only [List.map_nil] at h1
  have keys : ((fun kv : Key × D => keyDat kv.fst) ∘ kt) = D.int := funext fun _ => rfl
  cases hp : plainC ks with
  | false =>
    rw [hp] at hX2
    simp only [F_put_clause, clauseOf, hp]
    simp [h1, hX1, hX2, keys, sSeq, sNil, sSet, sSetO, sIf, sRet, sRetS, sRetN, sExpr, sFor, sPar, sAsg, sDrop, sPass, sBrk, sCnt, funF, fName, slot, fC, op1, op2, opN, aNil, aCons, aOwn, fCall, fillA, backA, eIf, eAnd, eOr, eNot, eView, tB, tNotF, tAndF, tOrF, tView, mask, maskFrom, wipeD, gSet, gsCons, gsNil, gTupF, setsD, iLst, iTupF, iScr, iRange1, iRange2, iEnumT, iEnumL, kAdd, kSub, kDiv, kMod, kII, kIC, kNeg, kLt, kLe, kGt, kGe, kTup, kLst, kLen, kAbs, kInt, kMax2, kMin2, kXor, kAnd, kIx, kTuple, kList, kCat, fOwn, fOwn0, tyD, kAppend, fSrc, fSrc_left, fSrc_mixed, fSrc_turn, fSrcLen, fSrcPop, sSrcPut, sSrcPut_left, sSrcPut_mixed, sSrcPut_turn, fLc, fDc, iKeysD, fYes, fDIn, kDVal, keyD, kRevL, kEqI, kNeI, lim]
  | true =>
    rw [hp] at hX2
    simp only [F_put_clause, clauseOf, hp]
    simp [h1, hX1, hX2, keys, hc, kSortedAbsD, intKeys_kt, plain_nodup hp, sSeq, sNil, sSet, sSetO, sIf, sRet, sRetS, sRetN, sExpr, sFor, sPar, sAsg, sDrop, sPass, sBrk, sCnt, funF, fName, slot, fC, op1, op2, opN, aNil, aCons, aOwn, fCall, fillA, backA, eIf, eAnd, eOr, eNot, eView, tB, tNotF, tAndF, tOrF, tView, mask, maskFrom, wipeD, gSet, gsCons, gsNil, gTupF, setsD, iLst, iTupF, iScr, iRange1, iRange2, iEnumT, iEnumL, kAdd, kSub, kDiv, kMod, kII, kIC, kNeg, kLt, kLe, kGt, kGe, kTup, kLst, kLen, kAbs, kInt, kMax2, kMin2, kXor, kAnd, kIx, kTuple, kList, kCat, fOwn, fOwn0, tyD, kAppend, fSrc, fSrc_left, fSrc_mixed, fSrc_turn, fSrcLen, fSrcPop, sSrcPut, sSrcPut_left, sSrcPut_mixed, sSrcPut_turn, fLc, fDc, iKeysD, fYes, fDIn, kDVal, keyD, kRevL, kEqI, kNeI, lim]
end Bl

set_option Elab.async false
set_option linter.all false
set_option maxRecDepth 100000
set_option maxHeartbeats 4000000
namespace Bl
open PySem PySem.Spec PyProof.Rows L2
/-! ### the law's own clause -/
def absI (k : Int) : Int := if k < 0 then -k else k
theorem absI_nat (k : Int) : absI k = (k.natAbs : Int) := by
  unfold absI
  split <;> omega
theorem nodup_sub_len : ∀ {a b : List Int}, a.Nodup → (∀ x, x ∈ a → x ∈ b) → a.length ≤ b.length
  | [], _, _, _ => Nat.zero_le _
  | x :: r, b, h, s => by
    rw [List.nodup_cons] at h
    have hx : x ∈ b := s x (List.mem_cons_self ..)
    have ih := nodup_sub_len (b := b.erase x) h.2 fun y hy => (List.mem_erase_of_ne (fun (z : y = x) => h.1 (z ▸ hy))).mpr (s y (List.mem_cons_of_mem _ hy))
    rw [List.length_erase_of_mem hx] at ih
    have := List.length_pos_of_mem hx
    rw [List.length_cons]
    omega
theorem sortI_len (l : List Int) : (sortI l).length = l.length := (sortI_perm l).length_eq
def someOf (ks : List Int) : List Int := sortI (dedupI (ks.map absI))
theorem someOf_mem (ks : List Int) (x : Int) : x ∈ someOf ks ↔ ∃ k ∈ ks, absI k = x := by
  unfold someOf
  rw [(sortI_perm _).mem_iff, dedup_mem, List.mem_map]
theorem someOf_nodup (ks : List Int) : (someOf ks).Nodup := (sortI_perm _).nodup_iff.mpr (dedup_nodup _)
theorem nodup_of_map {α β : Type} {f : α → β} {l : List α} (h : (l.map f).Nodup) : l.Nodup := by
  induction l with
  | nil => exact .nil
  | cons x r ih =>
    rw [List.map_cons, List.nodup_cons] at h
    exact List.nodup_cons.mpr ⟨fun z => h.1 (List.mem_map.mpr ⟨x, z, rfl⟩), ih h.2⟩
theorem abs_nodup {l : List Int} (h : (l.map Int.natAbs).Nodup) : (l.map absI).Nodup := by
  induction l with
  | nil => exact .nil
  | cons x r ih =>
    rw [List.map_cons, List.nodup_cons] at h ⊢
    refine ⟨fun z => h.1 ?_, ih h.2⟩
    obtain ⟨y, hy, e⟩ := List.mem_map.mp z
    exact List.mem_map.mpr ⟨y, hy, by rw [absI_nat, absI_nat] at e; omega⟩
theorem plain_len {ks : List Int} (h0 : ∀ k ∈ ks, k ≠ 0) : ((dedupI ks).length == (someOf ks).length) = plainC ks := by
  have e1 : (dedupI ks).length = (ded ks).length := nodup_len (dedup_nodup ks) (ded_nodup ks) fun k => by rw [dedup_mem, ded_mem]
  rw [e1]
  cases hp : plainC ks with
  | true =>
    have hn := abs_nodup (plain_nodup hp)
    have := nodup_len hn (someOf_nodup ks) fun x => by
      rw [someOf_mem, List.mem_map]
      constructor
      · rintro ⟨k, hk, e⟩
        exact ⟨k, (ded_mem ks k).mp hk, e⟩
      · rintro ⟨k, hk, e⟩
        exact ⟨k, (ded_mem ks k).mpr hk, e⟩
    rw [List.length_map] at this
    simp [this]
  | false =>
    unfold plainC at hp
    simp only [Bool.not_eq_false', List.any_eq_true] at hp
    obtain ⟨k, hk, hc⟩ := hp
    have hm : -k ∈ ded ks := by simpa using hc
    have hk0 : k ≠ 0 := h0 k ((ded_mem ks k).mp hk)
    have hle : (someOf ks).length ≤ (((ded ks).erase k).map absI).length := nodup_sub_len (someOf_nodup ks) fun x hx => by
      obtain ⟨y, hy, e⟩ := (someOf_mem ks x).mp hx
      by_cases q : y = k
      · subst q
        refine List.mem_map.mpr ⟨-y, (List.mem_erase_of_ne (by omega)).mpr hm, ?_⟩
        rw [← e, absI_nat, absI_nat]
        omega
      · exact List.mem_map.mpr ⟨y, (List.mem_erase_of_ne q).mpr ((ded_mem ks y).mpr hy), e⟩
    rw [List.length_map, List.length_erase_of_mem hk] at hle
    have := List.length_pos_of_mem hk
    simp
    omega
def signed (ks : List Int) (x : Int) : Int := if x ∈ ks then x else -x
theorem signed_eq {ks : List Int} (hp : plainC ks = true) : (someOf ks).map (signed ks) = sortA (ded ks) := by
  have habs : ∀ x, x ∈ someOf ks → ((signed ks x).natAbs : Int) = x := fun x hx => by
    obtain ⟨k, hk, e⟩ := (someOf_mem ks x).mp hx
    rw [absI_nat] at e
    unfold signed
    split <;> omega
  refine sortA_one (plain_nodup hp) ?_ ?_
  · refine nodup_perm ?_ (ded_nodup ks) fun y => ?_
    · have : ((someOf ks).map (signed ks)).map (fun y => (y.natAbs : Int)) = someOf ks := by
        rw [List.map_map]
        conv => rhs; rw [← List.map_id (someOf ks)]
        exact List.map_congr_left fun x hx => habs x hx
      exact nodup_of_map (f := fun y : Int => (y.natAbs : Int)) (by rw [this]; exact someOf_nodup ks)
    · rw [ded_mem, List.mem_map]
      constructor
      · rintro ⟨x, hx, e⟩
        obtain ⟨k, hk, e2⟩ := (someOf_mem ks x).mp hx
        unfold signed at e
        split at e
        · rename_i h
          rw [← e]; exact h
        · rename_i h
          rw [absI_nat] at e2
          have : k = -x := by
            rcases Int.natAbs_eq k with z | z
            · exact absurd (by rw [← e2, ← z]; exact hk) h
            · omega
          rw [← e, ← this]
          exact hk
      · intro hy
        refine ⟨absI y, (someOf_mem ks _).mpr ⟨y, hy, rfl⟩, ?_⟩
        unfold signed
        split
        · rename_i h
          by_cases q : 0 ≤ y
          · unfold absI; rw [if_neg (by omega)]
          · have e : absI y = -y := by unfold absI; rw [if_pos (by omega)]
            rw [e] at h ⊢
            unfold plainC at hp
            simp only [Bool.not_eq_true', List.any_eq_false] at hp
            exact absurd (by simpa using (ded_mem ks (-y)).mpr h) (hp y ((ded_mem ks y).mpr hy))
        · rename_i h
          by_cases q : 0 ≤ y
          · have e : absI y = y := by unfold absI; rw [if_neg (by omega)]
            rw [e] at h
            exact absurd hy h
          · have e : absI y = -y := by unfold absI; rw [if_pos (by omega)]
            rw [e]; omega
  · rw [List.pairwise_map]
    refine (sortI_sorted _).imp_of_mem fun {a b} ha hb h => ?_
    have h1 := habs a ha
    have h2 := habs b hb
    omega
theorem lc_abs (a b c e : D) : ∀ (ks : List Int) (acc : List D), acc.length + ks.length ≤ 1000 → lcGo (gSet 3) fYes (opN kAbs (aCons (fName 3) aNil)) [3] (ks.map D.int) acc [a, b, c, .dead, e] = some (acc ++ (ks.map absI).map D.int, [a, b, c, .dead, e])
  | [], acc, _ => by simp [lcGo]
  | k :: ks, acc, h => by
    simp only [List.length_cons] at h
    have h2 : acc.length < 1000000 := by omega
    have ih := lc_abs a b c e ks (acc ++ [.int (absI k)]) (by simp; omega)
    simp only [List.map_cons, lcGo]
    simp [h2, absI, sSeq, sNil, sSet, sSetO, sIf, sRet, sRetS, sRetN, sExpr, sFor, sPar, sAsg, sDrop, sPass, sBrk, sCnt, funF, fName, slot, fC, op1, op2, opN, aNil, aCons, aOwn, fCall, fillA, backA, eIf, eAnd, eOr, eNot, eView, tB, tNotF, tAndF, tOrF, tView, mask, maskFrom, wipeD, gSet, gsCons, gsNil, gTupF, setsD, iLst, iTupF, iScr, iRange1, iRange2, iEnumT, iEnumL, kAdd, kSub, kDiv, kMod, kII, kIC, kNeg, kLt, kLe, kGt, kGe, kTup, kLst, kLen, kAbs, kInt, kMax2, kMin2, kXor, kAnd, kIx, kTuple, kList, kCat, fOwn, fOwn0, tyD, kAppend, fSrc, fSrc_left, fSrc_mixed, fSrc_turn, fSrcLen, fSrcPop, sSrcPut, sSrcPut_left, sSrcPut_mixed, sSrcPut_turn, fLc, fDc, iKeysD, fYes, fDIn, kDVal, keyD, kRevL, kEqI, kNeI, lim] at ih ⊢
    rw [ih]
theorem scs_ints (ks : List Int) : scs (ks.map D.int) = some (ks.map V.int) := by
  induction ks with
  | nil => rfl
  | cons k r ih => simp [scs, D.sc, ih]
theorem inV_ints (x : Int) (ks : List Int) : inV (V.int x) (ks.map V.int) = decide (x ∈ ks) := by
  induction ks with
  | nil => rfl
  | cons k r ih =>
    unfold inV at ih ⊢
    rw [List.map_cons, List.any_cons, ih]
    by_cases h : k = x
    · subst h
      simp [eqV]
    · have h2 : ¬ x = k := fun z => h z.symm
      simp [eqV, h, h2]
theorem lc_sign (a : D) (ks : List Int) (c e : D) : ∀ (xs : List Int) (acc : List D), acc.length + xs.length ≤ 1000 → lcGo (gSet 4) fYes (eIf (tB (op2 (kIn false) (fName 4) (fName 1))) (fName 4) (op1 kNeg (fName 4))) [4] (xs.map D.int) acc [a, .lst (ks.map D.int), c, e, .dead] = some (acc ++ (xs.map (signed ks)).map D.int, [a, .lst (ks.map D.int), c, e, .dead])
  | [], acc, _ => by simp [lcGo]
  | x :: xs, acc, h => by
    simp only [List.length_cons] at h
    have h2 : acc.length < 1000000 := by omega
    have ih := lc_sign a ks c e xs (acc ++ [.int (signed ks x)]) (by simp; omega)
    have h3 : kIn false (.int x) (.lst (ks.map D.int)) = some (.bl (decide (x ∈ ks))) := by
      unfold kIn
      simp only [D.sc, scs_ints, Option.bind_some, Option.map_some, inV_ints]
      rfl
    simp only [List.map_cons, lcGo]
    by_cases hx : x ∈ ks <;> simp [h2, h3, hx, signed, sSeq, sNil, sSet, sSetO, sIf, sRet, sRetS, sRetN, sExpr, sFor, sPar, sAsg, sDrop, sPass, sBrk, sCnt, funF, fName, slot, fC, op1, op2, opN, aNil, aCons, aOwn, fCall, fillA, backA, eIf, eAnd, eOr, eNot, eView, tB, tNotF, tAndF, tOrF, tView, mask, maskFrom, wipeD, gSet, gsCons, gsNil, gTupF, setsD, iLst, iTupF, iScr, iRange1, iRange2, iEnumT, iEnumL, kAdd, kSub, kDiv, kMod, kII, kIC, kNeg, kLt, kLe, kGt, kGe, kTup, kLst, kLen, kAbs, kInt, kMax2, kMin2, kXor, kAnd, kIx, kTuple, kList, kCat, fOwn, fOwn0, tyD, kAppend, fSrc, fSrc_left, fSrc_mixed, fSrc_turn, fSrcLen, fSrcPop, sSrcPut, sSrcPut_left, sSrcPut_mixed, sSrcPut_turn, fLc, fDc, iKeysD, fYes, fDIn, kDVal, keyD, kRevL, kEqI, kNeI, lim] at ih ⊢ <;> rw [ih]
theorem f_law_put (cs : List D) (ks : List Int) (h : ks.length < 60) (h0 : ∀ k ∈ ks, k ≠ 0) (hc : cs.length < 1000000) : F__law_put [.lst cs, .lst (ks.map D.int)] = some (.non, [.lst (cs ++ clauseOf ks), .dead]) := by
  have h1 := lc_abs (.lst cs) (.lst (ks.map D.int)) .dead .dead ks [] (by simp; omega)
  have h2 : kSortedSet (.lst ((ks.map absI).map D.int)) = some (.lst ((someOf ks).map D.int)) := by
    unfold kSortedSet someOf
    simp only [ints_map, Option.bind_some, List.length_map]
    rw [if_pos h]
  have h3 : kLenSet (.lst (ks.map D.int)) = some (.int ((dedupI ks).length : Nat)) := by
    unfold kLenSet
    simp only [ints_map, Option.bind_some]
    rw [if_pos h]
  have hl : (someOf ks).length ≤ 60 := by
    have := nodup_sub_len (someOf_nodup ks) (b := ks.map absI) fun x hx => by
      obtain ⟨k, hk, e⟩ := (someOf_mem ks x).mp hx
      exact List.mem_map.mpr ⟨k, hk, e⟩
    rw [List.length_map] at this
    omega
  have h4 := lc_sign (.lst cs) ks (.lst ((someOf ks).map D.int)) .dead (someOf ks) [] (by simp; omega)
  have h5 := plain_len h0
  rw [List.nil_append] at h1 h4
  have h6 : (((dedupI ks).length : Int) == ((someOf ks).length : Int)) = plainC ks := by
    rw [← h5]
    cases hq : ((dedupI ks).length == (someOf ks).length)
    · simp at hq ⊢; omega
    · simp at hq ⊢; omega
  cases hp : plainC ks with
  | false =>
    rw [hp] at h6
    simp only [F__law_put, clauseOf, hp]
    simp [h1, h2, h3, List.length_map, h6, sSeq, sNil, sSet, sSetO, sIf, sRet, sRetS, sRetN, sExpr, sFor, sPar, sAsg, sDrop, sPass, sBrk, sCnt, funF, fName, slot, fC, op1, op2, opN, aNil, aCons, aOwn, fCall, fillA, backA, eIf, eAnd, eOr, eNot, eView, tB, tNotF, tAndF, tOrF, tView, mask, maskFrom, wipeD, gSet, gsCons, gsNil, gTupF, setsD, iLst, iTupF, iScr, iRange1, iRange2, iEnumT, iEnumL, kAdd, kSub, kDiv, kMod, kII, kIC, kNeg, kLt, kLe, kGt, kGe, kTup, kLst, kLen, kAbs, kInt, kMax2, kMin2, kXor, kAnd, kIx, kTuple, kList, kCat, fOwn, fOwn0, tyD, kAppend, fSrc, fSrc_left, fSrc_mixed, fSrc_turn, fSrcLen, fSrcPop, sSrcPut, sSrcPut_left, sSrcPut_mixed, sSrcPut_turn, fLc, fDc, iKeysD, fYes, fDIn, kDVal, keyD, kRevL, kEqI, kNeI, lim, -List.map_map]
  | true =>
    rw [hp] at h6
    have h7 := signed_eq hp
    rw [h7] at h4
    simp only [F__law_put, clauseOf, hp]
    simp [h1, h2, h3, h4, hc, List.length_map, h6, sSeq, sNil, sSet, sSetO, sIf, sRet, sRetS, sRetN, sExpr, sFor, sPar, sAsg, sDrop, sPass, sBrk, sCnt, funF, fName, slot, fC, op1, op2, opN, aNil, aCons, aOwn, fCall, fillA, backA, eIf, eAnd, eOr, eNot, eView, tB, tNotF, tAndF, tOrF, tView, mask, maskFrom, wipeD, gSet, gsCons, gsNil, gTupF, setsD, iLst, iTupF, iScr, iRange1, iRange2, iEnumT, iEnumL, kAdd, kSub, kDiv, kMod, kII, kIC, kNeg, kLt, kLe, kGt, kGe, kTup, kLst, kLen, kAbs, kInt, kMax2, kMin2, kXor, kAnd, kIx, kTuple, kList, kCat, fOwn, fOwn0, tyD, kAppend, fSrc, fSrc_left, fSrc_mixed, fSrc_turn, fSrcLen, fSrcPop, sSrcPut, sSrcPut_left, sSrcPut_mixed, sSrcPut_turn, fLc, fDc, iKeysD, fYes, fDIn, kDVal, keyD, kRevL, kEqI, kNeI, lim, -List.map_map]
end Bl

set_option Elab.async false
set_option linter.all false
set_option maxRecDepth 100000
set_option maxHeartbeats 4000000
namespace Bl
open PySem PySem.Spec PyProof.Rows L2
theorem clause_len (ks : List Int) : (clauseOf ks).length ≤ 1 := by
  unfold clauseOf
  split <;> simp
theorem f_put2 (cs : List D) (a b : Int) (hc : cs.length < 1000000) : F_put_clause [.lst cs, .lst [.int a, .int b]] = some (.non, [.lst (cs ++ clauseOf [a, b]), .dead]) := f_put_clause cs [a, b] (by simp) hc
theorem f_put3 (cs : List D) (a b c : Int) (hc : cs.length < 1000000) : F_put_clause [.lst cs, .lst [.int a, .int b, .int c]] = some (.non, [.lst (cs ++ clauseOf [a, b, c]), .dead]) := f_put_clause cs [a, b, c] (by simp) hc
theorem f_lput2 (cs : List D) (a b : Int) (hc : cs.length < 1000000) (ha : a ≠ 0) (hb : b ≠ 0) : F__law_put [.lst cs, .lst [.int a, .int b]] = some (.non, [.lst (cs ++ clauseOf [a, b]), .dead]) := f_law_put cs [a, b] (by simp) (by simp [ha, hb]) hc
theorem f_lput3 (cs : List D) (a b c : Int) (hc : cs.length < 1000000) (ha : a ≠ 0) (hb : b ≠ 0) (h : c ≠ 0) : F__law_put [.lst cs, .lst [.int a, .int b, .int c]] = some (.non, [.lst (cs ++ clauseOf [a, b, c]), .dead]) := f_law_put cs [a, b, c] (by simp) (by simp [ha, hb, h]) hc
def andC (y a b : Int) : List D := clauseOf [-y, a] ++ (clauseOf [-y, b] ++ clauseOf [y, -a, -b])
def sameC (a b : Int) : List D := clauseOf [-a, b] ++ clauseOf [a, -b]
theorem andC_len (y a b : Int) : (andC y a b).length ≤ 3 := by
  have h1 := clause_len [-y, a]
  have h2 := clause_len [-y, b]
  have h3 := clause_len [y, -a, -b]
  simp [andC]
  omega
theorem sameC_len (a b : Int) : (sameC a b).length ≤ 2 := by
  have h1 := clause_len [-a, b]
  have h2 := clause_len [a, -b]
  simp [sameC]
  omega
theorem f_put_and (cs : List D) (y a b : Int) (hc : cs.length < 900000) : F_put_and [.lst cs, .int y, .int a, .int b] = some (.non, [.lst (cs ++ andC y a b), .dead, .dead, .dead]) := by
  have l1 := clause_len [-y, a]
  have l2 := clause_len [-y, b]
  have h1 := f_put2 cs (-y) a (by omega)
  have h2 := f_put2 (cs ++ clauseOf [-y, a]) (-y) b (by simp; omega)
  have h3 := f_put3 (cs ++ (clauseOf [-y, a] ++ clauseOf [-y, b])) y (-a) (-b) (by simp; omega)
  simp only [List.append_assoc] at h2 h3
  simp [F_put_and, andC, h1, h2, h3, sSeq, sNil, sSet, sSetO, sIf, sRet, sRetS, sRetN, sExpr, sFor, sPar, sAsg, sDrop, sPass, sBrk, sCnt, funF, fName, slot, fC, op1, op2, opN, aNil, aCons, aOwn, fCall, fillA, backA, eIf, eAnd, eOr, eNot, eView, tB, tNotF, tAndF, tOrF, tView, mask, maskFrom, wipeD, gSet, gsCons, gsNil, gTupF, setsD, iLst, iTupF, iScr, iRange1, iRange2, iEnumT, iEnumL, kAdd, kSub, kDiv, kMod, kII, kIC, kNeg, kLt, kLe, kGt, kGe, kTup, kLst, kLen, kAbs, kInt, kMax2, kMin2, kXor, kAnd, kIx, kTuple, kList, kCat, fOwn, fOwn0, tyD, kAppend, fSrc, fSrc_left, fSrc_mixed, fSrc_turn, fSrcLen, fSrcPop, sSrcPut, sSrcPut_left, sSrcPut_mixed, sSrcPut_turn, fLc, fDc, iKeysD, fYes, fDIn, kDVal, keyD, kRevL, kEqI, kNeI, lim]
theorem f_put_same (cs : List D) (a b : Int) (hc : cs.length < 900000) : F_put_same [.lst cs, .int a, .int b] = some (.non, [.lst (cs ++ sameC a b), .dead, .dead]) := by
  have l1 := clause_len [-a, b]
  have h1 := f_put2 cs (-a) b (by omega)
  have h2 := f_put2 (cs ++ clauseOf [-a, b]) a (-b) (by simp; omega)
  simp only [List.append_assoc] at h2
  simp [F_put_same, sameC, h1, h2, sSeq, sNil, sSet, sSetO, sIf, sRet, sRetS, sRetN, sExpr, sFor, sPar, sAsg, sDrop, sPass, sBrk, sCnt, funF, fName, slot, fC, op1, op2, opN, aNil, aCons, aOwn, fCall, fillA, backA, eIf, eAnd, eOr, eNot, eView, tB, tNotF, tAndF, tOrF, tView, mask, maskFrom, wipeD, gSet, gsCons, gsNil, gTupF, setsD, iLst, iTupF, iScr, iRange1, iRange2, iEnumT, iEnumL, kAdd, kSub, kDiv, kMod, kII, kIC, kNeg, kLt, kLe, kGt, kGe, kTup, kLst, kLen, kAbs, kInt, kMax2, kMin2, kXor, kAnd, kIx, kTuple, kList, kCat, fOwn, fOwn0, tyD, kAppend, fSrc, fSrc_left, fSrc_mixed, fSrc_turn, fSrcLen, fSrcPop, sSrcPut, sSrcPut_left, sSrcPut_mixed, sSrcPut_turn, fLc, fDc, iKeysD, fYes, fDIn, kDVal, keyD, kRevL, kEqI, kNeI, lim]
def andsC (f s : Int) : Nat → List (Int × Int) → List D
  | _, [] => []
  | k, p :: r => andC (f + k + 1 + s) (far p.1 s) (far p.2 s) ++ andsC f s (k + 1) r
def graphC (g : Gr) (s : Int) : List D := D.tup [.int (-1 - s)] :: andsC g.first s 0 g.ands
theorem andsC_len (f s : Int) : ∀ (l : List (Int × Int)) (k : Nat), (andsC f s k l).length ≤ 3 * l.length
  | [], _ => by simp [andsC]
  | p :: r, k => by
    have h1 := andC_len (f + k + 1 + s) (far p.1 s) (far p.2 s)
    have h2 := andsC_len f s r (k + 1)
    simp [andsC]
    omega
theorem put_graph_go (g : Gr) (s : Int) : ∀ (as : List (Int × Int)) (k : Nat) (cs : List D), cs.length + 3 * as.length < 900000 →
    forGo (gTupF (gsCons (gSet 3) (gsCons (gTupF (gsCons (gSet 4) (gsCons (gSet 5) gsNil))) gsNil))) (sDrop [3, 4, 5, 6] (sSeq (sSet 6 (op2 kAdd (op2 kAdd (op2 kAdd (fCall F_first_and [none] (aCons (fName 1) aNil)) (fName 3)) (fC (.int 1))) (fName 2))) (sExpr (fCall F_put_and [some 0, none, none, none] (aOwn (aCons (fName 6) (aCons (fCall F_moved_literal [none, none] (aCons (fName 4) (aCons (fName 2) aNil))) (aCons (fCall F_moved_literal [none, none] (aCons (fName 5) (aCons (fName 2) aNil))) aNil)))))))) (enumD k (as.map pr)) [.lst cs, g.enc, .int s, .dead, .dead, .dead, .dead] = some (.nx [.lst (cs ++ andsC g.first s k as), g.enc, .int s, .dead, .dead, .dead, .dead])
  | [], k, cs, _ => by simp [enumD, forGo, andsC]
  | p :: as, k, cs, h => by
    simp only [List.length_cons] at h
    have l1 := andC_len (g.first + k + 1 + s) (far p.1 s) (far p.2 s)
    have h1 := f_put_and cs (g.first + k + 1 + s) (far p.1 s) (far p.2 s) (by omega)
    have h2 := f_first g
    have ih := put_graph_go g s as (k + 1) (cs ++ andC (g.first + k + 1 + s) (far p.1 s) (far p.2 s)) (by simp; omega)
    simp only [Gr.enc, List.append_assoc] at h2 ih ⊢
    simp only [List.map_cons, enumD, forGo, pr, andsC]
    simp [h1, h2, f_moved, sSeq, sNil, sSet, sSetO, sIf, sRet, sRetS, sRetN, sExpr, sFor, sPar, sAsg, sDrop, sPass, sBrk, sCnt, funF, fName, slot, fC, op1, op2, opN, aNil, aCons, aOwn, fCall, fillA, backA, eIf, eAnd, eOr, eNot, eView, tB, tNotF, tAndF, tOrF, tView, mask, maskFrom, wipeD, gSet, gsCons, gsNil, gTupF, setsD, iLst, iTupF, iScr, iRange1, iRange2, iEnumT, iEnumL, kAdd, kSub, kDiv, kMod, kII, kIC, kNeg, kLt, kLe, kGt, kGe, kTup, kLst, kLen, kAbs, kInt, kMax2, kMin2, kXor, kAnd, kIx, kTuple, kList, kCat, fOwn, fOwn0, tyD, kAppend, fSrc, fSrc_left, fSrc_mixed, fSrc_turn, fSrcLen, fSrcPop, sSrcPut, sSrcPut_left, sSrcPut_mixed, sSrcPut_turn, fLc, fDc, iKeysD, fYes, fDIn, kDVal, keyD, kRevL, kEqI, kNeI, lim] at ih ⊢
    exact ih
end Bl

set_option Elab.async false
set_option linter.all false
set_option maxRecDepth 100000
set_option maxHeartbeats 4000000
namespace Bl
open PySem PySem.Spec PyProof.Rows L2
theorem f_put_graph (g : Gr) (s : Int) (cs : List D) (h : cs.length + 3 * g.ands.length < 800000) : F_put_graph [.lst cs, g.enc, .int s] = some (.non, [.lst (cs ++ graphC g s), .dead, .dead]) := by
  have h1 := put_graph_go g s g.ands 0 (cs ++ [D.tup [.int (-1 - s)]]) (by simp; omega)
  have hc : cs.length < 1000000 := by omega
  simp only [Gr.enc, List.append_assoc, List.singleton_append] at h1
  simp only [F_put_graph, Gr.enc, graphC]
  simp [h1, hc, at2, sSeq, sNil, sSet, sSetO, sIf, sRet, sRetS, sRetN, sExpr, sFor, sPar, sAsg, sDrop, sPass, sBrk, sCnt, funF, fName, slot, fC, op1, op2, opN, aNil, aCons, aOwn, fCall, fillA, backA, eIf, eAnd, eOr, eNot, eView, tB, tNotF, tAndF, tOrF, tView, mask, maskFrom, wipeD, gSet, gsCons, gsNil, gTupF, setsD, iLst, iTupF, iScr, iRange1, iRange2, iEnumT, iEnumL, kAdd, kSub, kDiv, kMod, kII, kIC, kNeg, kLt, kLe, kGt, kGe, kTup, kLst, kLen, kAbs, kInt, kMax2, kMin2, kXor, kAnd, kIx, kTuple, kList, kCat, fOwn, fOwn0, tyD, kAppend, fSrc, fSrc_left, fSrc_mixed, fSrc_turn, fSrcLen, fSrcPop, sSrcPut, sSrcPut_left, sSrcPut_mixed, sSrcPut_turn, fLc, fDc, iKeysD, fYes, fDIn, kDVal, keyD, kRevL, kEqI, kNeI, lim] at h1 ⊢
theorem f_clauses_of (g : Gr) (h : g.ands.length ≤ 1000) : F_clauses_of [g.enc] = some (.lst (graphC g 0), [.dead]) := by
  have h1 := f_put_graph g 0 [] (by simp; omega)
  simp only [Gr.enc] at h1
  simp only [F_clauses_of, Gr.enc]
  simp [h1, sSeq, sNil, sSet, sSetO, sIf, sRet, sRetS, sRetN, sExpr, sFor, sPar, sAsg, sDrop, sPass, sBrk, sCnt, funF, fName, slot, fC, op1, op2, opN, aNil, aCons, aOwn, fCall, fillA, backA, eIf, eAnd, eOr, eNot, eView, tB, tNotF, tAndF, tOrF, tView, mask, maskFrom, wipeD, gSet, gsCons, gsNil, gTupF, setsD, iLst, iTupF, iScr, iRange1, iRange2, iEnumT, iEnumL, kAdd, kSub, kDiv, kMod, kII, kIC, kNeg, kLt, kLe, kGt, kGe, kTup, kLst, kLen, kAbs, kInt, kMax2, kMin2, kXor, kAnd, kIx, kTuple, kList, kCat, fOwn, fOwn0, tyD, kAppend, fSrc, fSrc_left, fSrc_mixed, fSrc_turn, fSrcLen, fSrcPop, sSrcPut, sSrcPut_left, sSrcPut_mixed, sSrcPut_turn, fLc, fDc, iKeysD, fYes, fDIn, kDVal, keyD, kRevL, kEqI, kNeI, lim]
theorem lgraph_go (g : Gr) (s : Int) (hs : 0 ≤ s) : ∀ (as : List (Int × Int)) (k : Nat) (cs : List D), cs.length + 3 * as.length < 900000 → (∀ p ∈ as, 0 ≤ p.1 ∧ 0 ≤ p.2) →
    forGo (gTupF (gsCons (gSet 4) (gsCons (gSet 5) gsNil))) (sDrop [4, 5, 6, 7, 8, 9] (sSeq (sPar [6, 7, 8] [false, false, false] (aCons (op2 kAdd (op2 kAdd (op2 kAdd (fName 3) (fName 4)) (fC (.int 1))) (fName 1)) (aCons (fCall F__law_far [none, none] (aCons (op2 kIx (fName 5) (fC (.int 0))) (aCons (fName 1) aNil))) (aCons (fCall F__law_far [none, none] (aCons (op2 kIx (fName 5) (fC (.int 1))) (aCons (fName 1) aNil))) aNil)))) (sFor (iTupF (opN kTup (aCons (opN kLst (aCons (op1 kNeg (fName 6)) (aCons (fName 7) aNil))) (aCons (opN kLst (aCons (op1 kNeg (fName 6)) (aCons (fName 8) aNil))) (aCons (opN kLst (aCons (fName 6) (aCons (op1 kNeg (fName 7)) (aCons (op1 kNeg (fName 8)) aNil)))) aNil))))) (gSet 9) (sDrop [9] (sExpr (fCall F__law_put [some 2, none] (aOwn (aCons (fName 9) aNil)))))))) (enumD k (as.map pr)) [g.enc, .int s, .lst cs, .int g.first, .dead, .dead, .dead, .dead, .dead, .dead] = some (.nx [g.enc, .int s, .lst (cs ++ andsC g.first s k as), .int g.first, .dead, .dead, .dead, .dead, .dead, .dead])
  | [], k, cs, _, _ => by simp [enumD, forGo, andsC]
  | p :: as, k, cs, h, hp => by
    simp only [List.length_cons] at h
    have nz : ∀ l : Int, 0 ≤ l → far l s ≠ 0 := fun l hl => by
      unfold far
      split <;> omega
    obtain ⟨p1, p2⟩ := hp p (List.mem_cons_self ..)
    have n1 := nz p.1 p1
    have n2 := nz p.2 p2
    have n3 : ((g.first : Int) + k + 1 + s) ≠ 0 := by omega
    have n4 : -((g.first : Int) + k + 1 + s) ≠ 0 := by omega
    have n5 : -(far p.1 s) ≠ 0 := by omega
    have n6 : -(far p.2 s) ≠ 0 := by omega
    have l1 := clause_len [-((g.first : Int) + k + 1 + s), far p.1 s]
    have l2 := clause_len [-((g.first : Int) + k + 1 + s), far p.2 s]
    have la := andC_len (g.first + k + 1 + s) (far p.1 s) (far p.2 s)
    have h1 := f_lput2 cs (-((g.first : Int) + k + 1 + s)) (far p.1 s) (by omega) n4 n1
    have h2 := f_lput2 (cs ++ clauseOf [-((g.first : Int) + k + 1 + s), far p.1 s]) (-((g.first : Int) + k + 1 + s)) (far p.2 s) (by simp; omega) n4 n2
    have h3 := f_lput3 (cs ++ (clauseOf [-((g.first : Int) + k + 1 + s), far p.1 s] ++ clauseOf [-((g.first : Int) + k + 1 + s), far p.2 s])) ((g.first : Int) + k + 1 + s) (-(far p.1 s)) (-(far p.2 s)) (by simp; omega) n3 n5 n6
    have ih := lgraph_go g s hs as (k + 1) (cs ++ andC (g.first + k + 1 + s) (far p.1 s) (far p.2 s)) (by simp; omega) (fun q hq => hp q (List.mem_cons_of_mem _ hq))
    simp only [Gr.enc, List.append_assoc, andC] at h2 h3 ih ⊢
    simp only [List.map_cons, enumD, pr, andsC, andC]
    rw [forGo]
    simp [h1, h2, h3, f_far, forGo, at0, at1, sSeq, sNil, sSet, sSetO, sIf, sRet, sRetS, sRetN, sExpr, sFor, sPar, sAsg, sDrop, sPass, sBrk, sCnt, funF, fName, slot, fC, op1, op2, opN, aNil, aCons, aOwn, fCall, fillA, backA, eIf, eAnd, eOr, eNot, eView, tB, tNotF, tAndF, tOrF, tView, mask, maskFrom, wipeD, gSet, gsCons, gsNil, gTupF, setsD, iLst, iTupF, iScr, iRange1, iRange2, iEnumT, iEnumL, kAdd, kSub, kDiv, kMod, kII, kIC, kNeg, kLt, kLe, kGt, kGe, kTup, kLst, kLen, kAbs, kInt, kMax2, kMin2, kXor, kAnd, kIx, kTuple, kList, kCat, fOwn, fOwn0, tyD, kAppend, fSrc, fSrc_left, fSrc_mixed, fSrc_turn, fSrcLen, fSrcPop, sSrcPut, sSrcPut_left, sSrcPut_mixed, sSrcPut_turn, fLc, fDc, iKeysD, fYes, fDIn, kDVal, keyD, kRevL, kEqI, kNeI, lim] at ih ⊢
    exact ih
theorem f_lgraph (g : Gr) (s : Int) (hs : 0 ≤ s) (h : g.ands.length ≤ 1000) (hp : ∀ p ∈ g.ands, 0 ≤ p.1 ∧ 0 ≤ p.2) : F__law_graph_clauses [g.enc, .int s] = some (.lst (graphC g s), [.dead, .dead]) := by
  have h1 := lgraph_go g s hs g.ands 0 [D.tup [.int (-1 - s)]] (by simp; omega) hp
  simp only [Gr.enc, List.singleton_append] at h1
  simp only [F__law_graph_clauses, Gr.enc, graphC]
  have e : ((1 : Int) + (g.ins : Int) + (g.regs.length : Int)) = (g.first : Int) := by simp [Gr.first]
  simp [h1, at0, at1, at2, e, sSeq, sNil, sSet, sSetO, sIf, sRet, sRetS, sRetN, sExpr, sFor, sPar, sAsg, sDrop, sPass, sBrk, sCnt, funF, fName, slot, fC, op1, op2, opN, aNil, aCons, aOwn, fCall, fillA, backA, eIf, eAnd, eOr, eNot, eView, tB, tNotF, tAndF, tOrF, tView, mask, maskFrom, wipeD, gSet, gsCons, gsNil, gTupF, setsD, iLst, iTupF, iScr, iRange1, iRange2, iEnumT, iEnumL, kAdd, kSub, kDiv, kMod, kII, kIC, kNeg, kLt, kLe, kGt, kGe, kTup, kLst, kLen, kAbs, kInt, kMax2, kMin2, kXor, kAnd, kIx, kTuple, kList, kCat, fOwn, fOwn0, tyD, kAppend, fSrc, fSrc_left, fSrc_mixed, fSrc_turn, fSrcLen, fSrcPop, sSrcPut, sSrcPut_left, sSrcPut_mixed, sSrcPut_turn, fLc, fDc, iKeysD, fYes, fDIn, kDVal, keyD, kRevL, kEqI, kNeI, lim] at h1 ⊢
end Bl

set_option Elab.async false
set_option linter.all false
set_option maxRecDepth 100000
set_option maxHeartbeats 4000000
namespace Bl
open PySem PySem.Spec PyProof.Rows L2
def regL (g : Gr) (c : Int) (k : Nat) : Int := c * g.size + g.ins + k + 2
theorem f_register (g : Gr) (k c : Nat) (hc : c < 1000) : F_register_letter [g.enc, .int k, .int c] = some (.int (regL g c k), [.dead, .dead, .dead]) := by
  have h1 := f_size g
  simp only [Gr.enc] at h1
  have hm : ∀ j, kMul (.int (c : Int)) (.int j) = some (.int (c * j)) := fun j => kMul_l (by omega)
  simp only [F_register_letter, Gr.enc, regL]
  simp [h1, hm, at0, sSeq, sNil, sSet, sSetO, sIf, sRet, sRetS, sRetN, sExpr, sFor, sPar, sAsg, sDrop, sPass, sBrk, sCnt, funF, fName, slot, fC, op1, op2, opN, aNil, aCons, aOwn, fCall, fillA, backA, eIf, eAnd, eOr, eNot, eView, tB, tNotF, tAndF, tOrF, tView, mask, maskFrom, wipeD, gSet, gsCons, gsNil, gTupF, setsD, iLst, iTupF, iScr, iRange1, iRange2, iEnumT, iEnumL, kAdd, kSub, kDiv, kMod, kII, kIC, kNeg, kLt, kLe, kGt, kGe, kTup, kLst, kLen, kAbs, kInt, kMax2, kMin2, kXor, kAnd, kIx, kTuple, kList, kCat, fOwn, fOwn0, tyD, kAppend, fSrc, fSrc_left, fSrc_mixed, fSrc_turn, fSrcLen, fSrcPop, sSrcPut, sSrcPut_left, sSrcPut_mixed, sSrcPut_turn, fLc, fDc, iKeysD, fYes, fDIn, kDVal, keyD, kRevL, kEqI, kNeI, lim]
def regsC (g : Gr) (c : Nat) : Nat → List (Int × Int) → List D
  | _, [] => []
  | k, p :: r => sameC (regL g c k) (far p.2 (((c : Int) - 1) * g.size)) ++ regsC g c (k + 1) r
theorem regsC_len (g : Gr) (c : Nat) : ∀ (l : List (Int × Int)) (k : Nat), (regsC g c k l).length ≤ 2 * l.length
  | [], _ => by simp [regsC]
  | p :: r, k => by
    have h1 := sameC_len (regL g c k) (far p.2 (((c : Int) - 1) * g.size))
    have h2 := regsC_len g c r (k + 1)
    simp [regsC]
    omega
def stepC (g : Gr) (c : Nat) : List D := graphC g (c * g.size) ++ regsC g c 0 (if 0 < c then g.regs else [])
def unrollC (g : Gr) : Nat → Nat → List D
  | _, 0 => []
  | k, n + 1 => stepC g k ++ unrollC g (k + 1) n
theorem stepC_len (g : Gr) (c : Nat) : (stepC g c).length ≤ 1 + 3 * g.ands.length + 2 * g.regs.length := by
  have h1 := andsC_len g.first (c * g.size) g.ands 0
  have h2 := regsC_len g c (if 0 < c then g.regs else []) 0
  have h3 : (if 0 < c then g.regs else []).length ≤ g.regs.length := by split <;> simp
  simp [stepC, graphC]
  omega
abbrev fgU1 : Eg := gTupF (gsCons (gSet 5) (gsCons (gTupF (gsCons (gSet 6) (gsCons (gSet 7) gsNil))) gsNil))
abbrev FU1 : Es := sDrop [5, 6, 7] (sExpr (fCall F_put_same [some 2, none, none] (aOwn (aCons (fCall F_register_letter [none, none, none] (aCons (fName 0) (aCons (fName 5) (aCons (fName 4) aNil)))) (aCons (fCall F_moved_literal [none, none] (aCons (fName 7) (aCons (op2 kMul (op2 kSub (fName 4) (fC (.int 1))) (fName 3)) aNil))) aNil)))))
theorem unroll_go1 (g : Gr) (n c : Nat) (hc : c < 1000) : ∀ (rs : List (Int × Int)) (k : Nat) (cs : List D), cs.length + 2 * rs.length < 800000 →
    forGo fgU1 FU1 (enumD k (rs.map pr)) [g.enc, .int n, .lst cs, .int g.size, .int c, .dead, .dead, .dead] = some (.nx [g.enc, .int n, .lst (cs ++ regsC g c k rs), .int g.size, .int c, .dead, .dead, .dead])
  | [], k, cs, _ => by simp [enumD, forGo, regsC]
  | p :: rs, k, cs, h => by
    simp only [List.length_cons] at h
    have l1 := sameC_len (regL g c k) (far p.2 (((c : Int) - 1) * g.size))
    have h1 := f_register g k c hc
    have h2 := f_put_same cs (regL g c k) (far p.2 (((c : Int) - 1) * g.size)) (by omega)
    have ih := unroll_go1 g n c hc rs (k + 1) (cs ++ sameC (regL g c k) (far p.2 (((c : Int) - 1) * g.size))) (by simp; omega)
    simp only [Gr.enc, List.append_assoc] at h1 ih ⊢
    simp only [List.map_cons, enumD, pr, regsC]
    rw [forGo]
    have hm : ∀ j, kMul (.int ((c : Int) - 1)) (.int j) = some (.int (((c : Int) - 1) * j)) := fun j => kMul_l (by omega)
    simp [h1, h2, hm, f_moved, sSeq, sNil, sSet, sSetO, sIf, sRet, sRetS, sRetN, sExpr, sFor, sPar, sAsg, sDrop, sPass, sBrk, sCnt, funF, fName, slot, fC, op1, op2, opN, aNil, aCons, aOwn, fCall, fillA, backA, eIf, eAnd, eOr, eNot, eView, tB, tNotF, tAndF, tOrF, tView, mask, maskFrom, wipeD, gSet, gsCons, gsNil, gTupF, setsD, iLst, iTupF, iScr, iRange1, iRange2, iEnumT, iEnumL, kAdd, kSub, kDiv, kMod, kII, kIC, kNeg, kLt, kLe, kGt, kGe, kTup, kLst, kLen, kAbs, kInt, kMax2, kMin2, kXor, kAnd, kIx, kTuple, kList, kCat, fOwn, fOwn0, tyD, kAppend, fSrc, fSrc_left, fSrc_mixed, fSrc_turn, fSrcLen, fSrcPop, sSrcPut, sSrcPut_left, sSrcPut_mixed, sSrcPut_turn, fLc, fDc, iKeysD, fYes, fDIn, kDVal, keyD, kRevL, kEqI, kNeI, lim] at ih ⊢
    exact ih
abbrev FU : Es := sDrop [4, 5, 6, 7] (sSeq (sExpr (fCall F_put_graph [some 2, none, none] (aOwn (aCons (fName 0) (aCons (op2 kMul (fName 4) (fName 3)) aNil))))) (sFor (iEnumT (aCons (eIf (tB (op2 kGt (fName 4) (fC (.int 0)))) (op2 kIx (fName 0) (fC (.int 1))) (opN kTup aNil)) aNil)) fgU1 FU1))
theorem unroll_go (g : Gr) (N : Nat) (hg : g.ands.length + g.regs.length ≤ 100) : ∀ (n c : Nat) (cs : List D), c + n < 1000 → cs.length + 500 * n < 700000 →
    forGo (gSet 4) FU (rngD c n) [g.enc, .int N, .lst cs, .int g.size, .dead, .dead, .dead, .dead] = some (.nx [g.enc, .int N, .lst (cs ++ unrollC g c n), .int g.size, .dead, .dead, .dead, .dead])
  | 0, c, cs, _, _ => by simp [rngD, forGo, unrollC]
  | n + 1, c, cs, hn, h => by
    have hm : ∀ j, kMul (.int (c : Int)) (.int j) = some (.int (c * j)) := fun j => kMul_l (by omega)
    have l1 := andsC_len g.first (c * g.size) g.ands 0
    have l2 := stepC_len g c
    have h1 := f_put_graph g (c * g.size) cs (by omega)
    have l3 : (if 0 < c then g.regs else []).length ≤ g.regs.length := by split <;> simp
    have h2 := unroll_go1 g N c (by omega) (if 0 < c then g.regs else []) 0 (cs ++ graphC g (c * g.size)) (by simp [graphC]; omega)
    have ih := unroll_go g N hg n (c + 1) (cs ++ stepC g c) (by omega) (by simp; omega)
    simp only [Gr.enc, List.append_assoc, stepC] at h1 h2 ih ⊢
    simp only [rngD, unrollC, stepC]
    rw [forGo]
    by_cases h0 : 0 < c
    · have h0' : (0 : Int) < (c : Int) := by omega
      simp only [if_pos h0] at h2 ih ⊢
      simp [h1, h0, hm, at1, sSeq, sNil, sSet, sSetO, sIf, sRet, sRetS, sRetN, sExpr, sFor, sPar, sAsg, sDrop, sPass, sBrk, sCnt, funF, fName, slot, fC, op1, op2, opN, aNil, aCons, aOwn, fCall, fillA, backA, eIf, eAnd, eOr, eNot, eView, tB, tNotF, tAndF, tOrF, tView, mask, maskFrom, wipeD, gSet, gsCons, gsNil, gTupF, setsD, iLst, iTupF, iScr, iRange1, iRange2, iEnumT, iEnumL, kAdd, kSub, kDiv, kMod, kII, kIC, kNeg, kLt, kLe, kGt, kGe, kTup, kLst, kLen, kAbs, kInt, kMax2, kMin2, kXor, kAnd, kIx, kTuple, kList, kCat, fOwn, fOwn0, tyD, kAppend, fSrc, fSrc_left, fSrc_mixed, fSrc_turn, fSrcLen, fSrcPop, sSrcPut, sSrcPut_left, sSrcPut_mixed, sSrcPut_turn, fLc, fDc, iKeysD, fYes, fDIn, kDVal, keyD, kRevL, kEqI, kNeI, lim] at h2 ih ⊢
      rw [h2]
      simp [ih]
    · have h0' : ¬ (0 : Int) < (c : Int) := by omega
      simp only [if_neg h0] at h2 ih ⊢
      simp [h1, h0, hm, at1, enumD, sSeq, sNil, sSet, sSetO, sIf, sRet, sRetS, sRetN, sExpr, sFor, sPar, sAsg, sDrop, sPass, sBrk, sCnt, funF, fName, slot, fC, op1, op2, opN, aNil, aCons, aOwn, fCall, fillA, backA, eIf, eAnd, eOr, eNot, eView, tB, tNotF, tAndF, tOrF, tView, mask, maskFrom, wipeD, gSet, gsCons, gsNil, gTupF, setsD, iLst, iTupF, iScr, iRange1, iRange2, iEnumT, iEnumL, kAdd, kSub, kDiv, kMod, kII, kIC, kNeg, kLt, kLe, kGt, kGe, kTup, kLst, kLen, kAbs, kInt, kMax2, kMin2, kXor, kAnd, kIx, kTuple, kList, kCat, fOwn, fOwn0, tyD, kAppend, fSrc, fSrc_left, fSrc_mixed, fSrc_turn, fSrcLen, fSrcPop, sSrcPut, sSrcPut_left, sSrcPut_mixed, sSrcPut_turn, fLc, fDc, iKeysD, fYes, fDIn, kDVal, keyD, kRevL, kEqI, kNeI, lim] at h2 ih ⊢
      rw [h2]
      simp [ih]
theorem f_unrolled (g : Gr) (n : Nat) (hg : g.ands.length + g.regs.length ≤ 100) (hn : n ≤ 100) : F_unrolled [g.enc, .int n] = some (.lst (unrollC g 0 n), [.dead, .dead]) := by
  have h1 := f_size g
  have h2 := unroll_go g n hg n 0 [] (by omega) (by simp; omega)
  have h3 := in62_nat (n := n) (by omega)
  simp only [Gr.enc] at h1 h2
  simp only [F_unrolled, Gr.enc]
  have h4 : rangeD 0 (n : Int) = rngD 0 n := rangeD_rng n
  simp only [fgU1, FU1, FU] at h2
  simp [sSeq, sNil, sSet, sSetO, sIf, sRet, sRetS, sRetN, sExpr, sFor, sPar, sAsg, sDrop, sPass, sBrk, sCnt, funF, fName, slot, fC, op1, op2, opN, aNil, aCons, aOwn, fCall, fillA, backA, eIf, eAnd, eOr, eNot, eView, tB, tNotF, tAndF, tOrF, tView, mask, maskFrom, wipeD, gSet, gsCons, gsNil, gTupF, setsD, iLst, iTupF, iScr, iRange1, iRange2, iEnumT, iEnumL, kAdd, kSub, kDiv, kMod, kII, kIC, kNeg, kLt, kLe, kGt, kGe, kTup, kLst, kLen, kAbs, kInt, kMax2, kMin2, kXor, kAnd, kIx, kTuple, kList, kCat, fOwn, fOwn0, tyD, kAppend, fSrc, fSrc_left, fSrc_mixed, fSrc_turn, fSrcLen, fSrcPop, sSrcPut, sSrcPut_left, sSrcPut_mixed, sSrcPut_turn, fLc, fDc, iKeysD, fYes, fDIn, kDVal, keyD, kRevL, kEqI, kNeI, lim] at h2
  simp [h1, h2, h3, h4, sSeq, sNil, sSet, sSetO, sIf, sRet, sRetS, sRetN, sExpr, sFor, sPar, sAsg, sDrop, sPass, sBrk, sCnt, funF, fName, slot, fC, op1, op2, opN, aNil, aCons, aOwn, fCall, fillA, backA, eIf, eAnd, eOr, eNot, eView, tB, tNotF, tAndF, tOrF, tView, mask, maskFrom, wipeD, gSet, gsCons, gsNil, gTupF, setsD, iLst, iTupF, iScr, iRange1, iRange2, iEnumT, iEnumL, kAdd, kSub, kDiv, kMod, kII, kIC, kNeg, kLt, kLe, kGt, kGe, kTup, kLst, kLen, kAbs, kInt, kMax2, kMin2, kXor, kAnd, kIx, kTuple, kList, kCat, fOwn, fOwn0, tyD, kAppend, fSrc, fSrc_left, fSrc_mixed, fSrc_turn, fSrcLen, fSrcPop, sSrcPut, sSrcPut_left, sSrcPut_mixed, sSrcPut_turn, fLc, fDc, iKeysD, fYes, fDIn, kDVal, keyD, kRevL, kEqI, kNeI, lim]
end Bl

set_option Elab.async false
set_option linter.all false
set_option maxRecDepth 100000
set_option maxHeartbeats 4000000
namespace Bl
open PySem PySem.Spec PyProof.Rows L2
theorem far_nz {l s : Int} (hl : 0 ≤ l) (hs : 0 ≤ s) : far l s ≠ 0 := by
  unfold far
  split <;> omega
theorem regL_nz (g : Gr) (c k : Nat) : regL g c k ≠ 0 := by
  unfold regL
  have : (0 : Int) ≤ (c : Int) * g.size := Int.mul_nonneg (by omega) (by omega)
  omega
abbrev fgV1 : Eg := gTupF (gsCons (gSet 5) (gsCons (gSet 6) gsNil))
abbrev FV1 : Es := sDrop [5, 6, 7, 8, 9] (sSeq (sPar [7, 8] [false, false] (aCons (op2 kAdd (op2 kAdd (op2 kAdd (op2 kMul (fName 4) (fName 3)) (op2 kIx (fName 0) (fC (.int 0)))) (fName 5)) (fC (.int 2))) (aCons (fCall F__law_far [none, none] (aCons (op2 kIx (fName 6) (fC (.int 1))) (aCons (op2 kMul (op2 kSub (fName 4) (fC (.int 1))) (fName 3)) aNil))) aNil))) (sFor (iTupF (opN kTup (aCons (opN kLst (aCons (op1 kNeg (fName 7)) (aCons (fName 8) aNil))) (aCons (opN kLst (aCons (fName 7) (aCons (op1 kNeg (fName 8)) aNil))) aNil)))) (gSet 9) (sDrop [9] (sExpr (fCall F__law_put [some 2, none] (aOwn (aCons (fName 9) aNil)))))))
theorem lunroll_go1 (g : Gr) (n c : Nat) (hc : c < 1000) (h1c : 1 ≤ c) : ∀ (rs : List (Int × Int)) (k : Nat) (cs : List D), cs.length + 2 * rs.length < 800000 → (∀ p ∈ rs, 0 ≤ p.2) →
    forGo fgV1 FV1 (enumD k (rs.map pr)) [g.enc, .int n, .lst cs, .int g.size, .int c, .dead, .dead, .dead, .dead, .dead] = some (.nx [g.enc, .int n, .lst (cs ++ regsC g c k rs), .int g.size, .int c, .dead, .dead, .dead, .dead, .dead])
  | [], k, cs, _, _ => by simp [enumD, forGo, regsC]
  | p :: rs, k, cs, h, hp => by
    simp only [List.length_cons] at h
    have hm : ∀ j, kMul (.int ((c : Int) - 1)) (.int j) = some (.int (((c : Int) - 1) * j)) := fun j => kMul_l (by omega)
    have hm2 : ∀ j, kMul (.int (c : Int)) (.int j) = some (.int ((c : Int) * j)) := fun j => kMul_l (by omega)
    have l1 := sameC_len (regL g c k) (far p.2 (((c : Int) - 1) * g.size))
    have l2 := clause_len [-regL g c k, far p.2 (((c : Int) - 1) * g.size)]
    have hr : ((c : Int) * g.size + g.ins + k + 2) = regL g c k := rfl
    have n1 := regL_nz g c k
    have n2 := far_nz (hp p (List.mem_cons_self ..)) (Int.mul_nonneg (show (0 : Int) ≤ (c : Int) - 1 by omega) (show (0 : Int) ≤ (g.size : Int) by omega))
    have h1 := f_lput2 cs (-regL g c k) (far p.2 (((c : Int) - 1) * g.size)) (by omega) (by omega) n2
    have h2 := f_lput2 (cs ++ clauseOf [-regL g c k, far p.2 (((c : Int) - 1) * g.size)]) (regL g c k) (-(far p.2 (((c : Int) - 1) * g.size))) (by simp; omega) n1 (by omega)
    have ih := lunroll_go1 g n c hc h1c rs (k + 1) (cs ++ sameC (regL g c k) (far p.2 (((c : Int) - 1) * g.size))) (by simp; omega) (fun q hq => hp q (List.mem_cons_of_mem _ hq))
    simp only [Gr.enc, List.append_assoc, sameC] at h1 h2 ih ⊢
    simp only [List.map_cons, enumD, pr, regsC, sameC]
    generalize regL g c k = R at hr h1 h2 ih ⊢
    rw [forGo]
    simp [h1, h2, hm, hm2, hr, f_far, forGo, at0, at1, sSeq, sNil, sSet, sSetO, sIf, sRet, sRetS, sRetN, sExpr, sFor, sPar, sAsg, sDrop, sPass, sBrk, sCnt, funF, fName, slot, fC, op1, op2, opN, aNil, aCons, aOwn, fCall, fillA, backA, eIf, eAnd, eOr, eNot, eView, tB, tNotF, tAndF, tOrF, tView, mask, maskFrom, wipeD, gSet, gsCons, gsNil, gTupF, setsD, iLst, iTupF, iScr, iRange1, iRange2, iEnumT, iEnumL, kAdd, kSub, kDiv, kMod, kII, kIC, kNeg, kLt, kLe, kGt, kGe, kTup, kLst, kLen, kAbs, kInt, kMax2, kMin2, kXor, kAnd, kIx, kTuple, kList, kCat, fOwn, fOwn0, tyD, kAppend, fSrc, fSrc_left, fSrc_mixed, fSrc_turn, fSrcLen, fSrcPop, sSrcPut, sSrcPut_left, sSrcPut_mixed, sSrcPut_turn, fLc, fDc, iKeysD, fYes, fDIn, kDVal, keyD, kRevL, kEqI, kNeI, lim] at ih ⊢
    exact ih
abbrev FV : Es := sDrop [4, 5, 6, 7, 8, 9] (sSeq (sSetO 2 (op2 kCat (fName 2) (fCall F__law_graph_clauses [none, none] (aCons (fName 0) (aCons (op2 kMul (fName 4) (fName 3)) aNil))))) (sFor (iEnumT (aCons (eIf (tB (op2 kGt (fName 4) (fC (.int 0)))) (op2 kIx (fName 0) (fC (.int 1))) (opN kTup aNil)) aNil)) fgV1 FV1))
theorem lunroll_go (g : Gr) (N : Nat) (hg : g.ands.length + g.regs.length ≤ 100) (ha : ∀ p ∈ g.ands, 0 ≤ p.1 ∧ 0 ≤ p.2) (hr : ∀ p ∈ g.regs, 0 ≤ p.2) : ∀ (n c : Nat) (cs : List D), c + n < 1000 → cs.length + 500 * n < 700000 →
    forGo (gSet 4) FV (rngD c n) [g.enc, .int N, .lst cs, .int g.size, .dead, .dead, .dead, .dead, .dead, .dead] = some (.nx [g.enc, .int N, .lst (cs ++ unrollC g c n), .int g.size, .dead, .dead, .dead, .dead, .dead, .dead])
  | 0, c, cs, _, _ => by simp [rngD, forGo, unrollC]
  | n + 1, c, cs, hn, h => by
    have hm : ∀ j, kMul (.int (c : Int)) (.int j) = some (.int (c * j)) := fun j => kMul_l (by omega)
    have l1 := andsC_len g.first (c * g.size) g.ands 0
    have l2 := stepC_len g c
    have l5 : cs.length + (graphC g (c * g.size)).length ≤ 1000000 := by simp [graphC]; omega
    have h1 := f_lgraph g (c * g.size) (Int.mul_nonneg (by omega) (by omega)) (by omega) ha
    have ih := lunroll_go g N hg ha hr n (c + 1) (cs ++ stepC g c) (by omega) (by simp; omega)
    by_cases h0 : 0 < c
    · have h2 := lunroll_go1 g N c (by omega) h0 g.regs 0 (cs ++ graphC g (c * g.size)) (by simp [graphC]; omega) hr
      simp only [Gr.enc, List.append_assoc, stepC] at h1 h2 ih ⊢
      simp only [rngD, unrollC, stepC]
      simp only [if_pos h0] at h2 ih ⊢
      rw [forGo]
      simp [h1, h0, hm, l5, at1, sSeq, sNil, sSet, sSetO, sIf, sRet, sRetS, sRetN, sExpr, sFor, sPar, sAsg, sDrop, sPass, sBrk, sCnt, funF, fName, slot, fC, op1, op2, opN, aNil, aCons, aOwn, fCall, fillA, backA, eIf, eAnd, eOr, eNot, eView, tB, tNotF, tAndF, tOrF, tView, mask, maskFrom, wipeD, gSet, gsCons, gsNil, gTupF, setsD, iLst, iTupF, iScr, iRange1, iRange2, iEnumT, iEnumL, kAdd, kSub, kDiv, kMod, kII, kIC, kNeg, kLt, kLe, kGt, kGe, kTup, kLst, kLen, kAbs, kInt, kMax2, kMin2, kXor, kAnd, kIx, kTuple, kList, kCat, fOwn, fOwn0, tyD, kAppend, fSrc, fSrc_left, fSrc_mixed, fSrc_turn, fSrcLen, fSrcPop, sSrcPut, sSrcPut_left, sSrcPut_mixed, sSrcPut_turn, fLc, fDc, iKeysD, fYes, fDIn, kDVal, keyD, kRevL, kEqI, kNeI, lim] at h2 ih ⊢
      rw [h2]
      simp [ih]
    · have h2 := lunroll_go1 g N 1 (by omega) (by omega) [] 0 (cs ++ graphC g (c * g.size)) (by simp [graphC]; omega) (by simp)
      simp only [Gr.enc, List.append_assoc, stepC] at h1 h2 ih ⊢
      simp only [rngD, unrollC, stepC]
      simp only [if_neg h0] at h2 ih ⊢
      rw [forGo]
      simp [h1, h0, hm, l5, at1, enumD, sSeq, sNil, sSet, sSetO, sIf, sRet, sRetS, sRetN, sExpr, sFor, sPar, sAsg, sDrop, sPass, sBrk, sCnt, funF, fName, slot, fC, op1, op2, opN, aNil, aCons, aOwn, fCall, fillA, backA, eIf, eAnd, eOr, eNot, eView, tB, tNotF, tAndF, tOrF, tView, mask, maskFrom, wipeD, gSet, gsCons, gsNil, gTupF, setsD, iLst, iTupF, iScr, iRange1, iRange2, iEnumT, iEnumL, kAdd, kSub, kDiv, kMod, kII, kIC, kNeg, kLt, kLe, kGt, kGe, kTup, kLst, kLen, kAbs, kInt, kMax2, kMin2, kXor, kAnd, kIx, kTuple, kList, kCat, fOwn, fOwn0, tyD, kAppend, fSrc, fSrc_left, fSrc_mixed, fSrc_turn, fSrcLen, fSrcPop, sSrcPut, sSrcPut_left, sSrcPut_mixed, sSrcPut_turn, fLc, fDc, iKeysD, fYes, fDIn, kDVal, keyD, kRevL, kEqI, kNeI, lim] at h2 ih ⊢
      rw [forGo]
      simp [regsC] at ih ⊢
      simp [ih]
theorem f_lunrolled (g : Gr) (n : Nat) (hg : g.ands.length + g.regs.length ≤ 100) (ha : ∀ p ∈ g.ands, 0 ≤ p.1 ∧ 0 ≤ p.2) (hr : ∀ p ∈ g.regs, 0 ≤ p.2) (hn : n ≤ 100) : F__law_unrolled [g.enc, .int n] = some (.lst (unrollC g 0 n), [.dead, .dead]) := by
  have h1 := f_lsize g
  have h2 := lunroll_go g n hg ha hr n 0 [] (by omega) (by simp; omega)
  have h3 := in62_nat (n := n) (by omega)
  simp only [Gr.enc] at h1 h2
  simp only [F__law_unrolled, Gr.enc]
  have h4 : rangeD 0 (n : Int) = rngD 0 n := rangeD_rng n
  simp only [fgV1, FV1, FV] at h2
  simp [sSeq, sNil, sSet, sSetO, sIf, sRet, sRetS, sRetN, sExpr, sFor, sPar, sAsg, sDrop, sPass, sBrk, sCnt, funF, fName, slot, fC, op1, op2, opN, aNil, aCons, aOwn, fCall, fillA, backA, eIf, eAnd, eOr, eNot, eView, tB, tNotF, tAndF, tOrF, tView, mask, maskFrom, wipeD, gSet, gsCons, gsNil, gTupF, setsD, iLst, iTupF, iScr, iRange1, iRange2, iEnumT, iEnumL, kAdd, kSub, kDiv, kMod, kII, kIC, kNeg, kLt, kLe, kGt, kGe, kTup, kLst, kLen, kAbs, kInt, kMax2, kMin2, kXor, kAnd, kIx, kTuple, kList, kCat, fOwn, fOwn0, tyD, kAppend, fSrc, fSrc_left, fSrc_mixed, fSrc_turn, fSrcLen, fSrcPop, sSrcPut, sSrcPut_left, sSrcPut_mixed, sSrcPut_turn, fLc, fDc, iKeysD, fYes, fDIn, kDVal, keyD, kRevL, kEqI, kNeI, lim] at h2
  simp [h1, h2, h3, h4, sSeq, sNil, sSet, sSetO, sIf, sRet, sRetS, sRetN, sExpr, sFor, sPar, sAsg, sDrop, sPass, sBrk, sCnt, funF, fName, slot, fC, op1, op2, opN, aNil, aCons, aOwn, fCall, fillA, backA, eIf, eAnd, eOr, eNot, eView, tB, tNotF, tAndF, tOrF, tView, mask, maskFrom, wipeD, gSet, gsCons, gsNil, gTupF, setsD, iLst, iTupF, iScr, iRange1, iRange2, iEnumT, iEnumL, kAdd, kSub, kDiv, kMod, kII, kIC, kNeg, kLt, kLe, kGt, kGe, kTup, kLst, kLen, kAbs, kInt, kMax2, kMin2, kXor, kAnd, kIx, kTuple, kList, kCat, fOwn, fOwn0, tyD, kAppend, fSrc, fSrc_left, fSrc_mixed, fSrc_turn, fSrcLen, fSrcPop, sSrcPut, sSrcPut_left, sSrcPut_mixed, sSrcPut_turn, fLc, fDc, iKeysD, fYes, fDIn, kDVal, keyD, kRevL, kEqI, kNeI, lim]
end Bl

set_option Elab.async false
set_option linter.all false
set_option maxRecDepth 100000
set_option maxHeartbeats 4000000
namespace Bl
open PySem PySem.Spec PyProof.Rows L2
def startOne (g : Gr) (k : Nat) (p : Int × Int) : D := .tup [.int (if p.1 = 1 then regL g 0 k else -regL g 0 k)]
/-- registers with their numbers -/
def numb {α : Type} : Nat → List α → List (Nat × α)
  | _, [] => []
  | k, p :: r => (k, p) :: numb (k + 1) r
theorem numb_len {α : Type} : ∀ (l : List α) (k : Nat), (numb k l).length = l.length
  | [], _ => rfl
  | _ :: r, k => by simp [numb, numb_len r]
def startC (g : Gr) : List D := (numb 0 g.regs).map fun q => startOne g q.1 q.2
theorem zip_numb (f : Nat → D) (h : (Int × Int) → D) : ∀ (l : List (Int × Int)) (k : Nat), zipD ((List.range' k l.length).map f) (l.map h) = (numb k l).map fun q => .tup [f q.1, h q.2]
  | [], _ => rfl
  | p :: r, k => by simp [List.range'_succ, zipD, numb, zip_numb f h r]
theorem f_starting (g : Gr) (hg : g.regs.length ≤ 1000) : F_starting [g.enc] = some (.lst (startC g), [.dead]) := by
  have h3 := in62_nat (n := g.regs.length) (by omega)
  have h4 := rangeD_map g.regs.length
  have h1 : lcGo (gSet 2) fYes (fCall F_register_letter [none, none, none] (aCons (fName 0) (aCons (fName 2) (aCons (fC (.int 0)) aNil)))) [2] ((List.range g.regs.length).map fun i => D.int ((i : Nat) : Int)) [] [g.enc, .dead, .dead, .dead, .dead, .dead] = some ((List.range g.regs.length).map fun i => D.int (regL g 0 i), [g.enc, .dead, .dead, .dead, .dead, .dead]) := by
    refine lc_val (fun k _ => ?_) (by simp; omega)
    have h1 := f_register g k 0 (by omega)
    simp only [Gr.enc] at h1 ⊢
    simp [lcOne, h1, sSeq, sNil, sSet, sSetO, sIf, sRet, sRetS, sRetN, sExpr, sFor, sPar, sAsg, sDrop, sPass, sBrk, sCnt, funF, fName, slot, fC, op1, op2, opN, aNil, aCons, aOwn, fCall, fillA, backA, eIf, eAnd, eOr, eNot, eView, tB, tNotF, tAndF, tOrF, tView, mask, maskFrom, wipeD, gSet, gsCons, gsNil, gTupF, setsD, iLst, iTupF, iScr, iRange1, iRange2, iEnumT, iEnumL, kAdd, kSub, kDiv, kMod, kII, kIC, kNeg, kLt, kLe, kGt, kGe, kTup, kLst, kLen, kAbs, kInt, kMax2, kMin2, kXor, kAnd, kIx, kTuple, kList, kCat, fOwn, fOwn0, tyD, kAppend, fSrc, fSrc_left, fSrc_mixed, fSrc_turn, fSrcLen, fSrcPop, sSrcPut, sSrcPut_left, sSrcPut_mixed, sSrcPut_turn, fLc, fDc, iKeysD, fYes, fDIn, kDVal, keyD, kRevL, kEqI, kNeI, lim] at h1 ⊢
  have h2 : ∀ X, lcGo (gTupF (gsCons (gSet 3) (gsCons (gTupF (gsCons (gSet 4) (gsCons (gSet 5) gsNil))) gsNil))) fYes (opN kTup (aCons (eIf (tB (op2 (kEqD false) (fName 4) (fC (.int 1)))) (fName 3) (op1 kNeg (fName 3))) aNil)) [3, 4, 5] ((numb 0 g.regs).map fun q => .tup [.int (regL g 0 q.1), pr q.2]) [] [g.enc, .lst X, .dead, .dead, .dead, .dead] = some (startC g, [g.enc, .lst X, .dead, .dead, .dead, .dead]) := by
    intro X
    refine lc_val (φ := fun q : Nat × (Int × Int) => startOne g q.1 q.2) (fun q _ => ?_) (by rw [numb_len]; omega)
    by_cases hq : q.2.1 = 1 <;> simp [lcOne, pr, Gr.enc, startOne, hq, sSeq, sNil, sSet, sSetO, sIf, sRet, sRetS, sRetN, sExpr, sFor, sPar, sAsg, sDrop, sPass, sBrk, sCnt, funF, fName, slot, fC, op1, op2, opN, aNil, aCons, aOwn, fCall, fillA, backA, eIf, eAnd, eOr, eNot, eView, tB, tNotF, tAndF, tOrF, tView, mask, maskFrom, wipeD, gSet, gsCons, gsNil, gTupF, setsD, iLst, iTupF, iScr, iRange1, iRange2, iEnumT, iEnumL, kAdd, kSub, kDiv, kMod, kII, kIC, kNeg, kLt, kLe, kGt, kGe, kTup, kLst, kLen, kAbs, kInt, kMax2, kMin2, kXor, kAnd, kIx, kTuple, kList, kCat, fOwn, fOwn0, tyD, kAppend, fSrc, fSrc_left, fSrc_mixed, fSrc_turn, fSrcLen, fSrcPop, sSrcPut, sSrcPut_left, sSrcPut_mixed, sSrcPut_turn, fLc, fDc, iKeysD, fYes, fDIn, kDVal, keyD, kRevL, kEqI, kNeI, lim]
  have h5 := zip_numb (fun i => D.int (regL g 0 i)) pr g.regs 0
  rw [← List.range_eq_range'] at h5
  simp only [Gr.enc] at h1 h2
  simp only [F_starting, Gr.enc]
  simp [h1, h2, h3, h4, h5, at1, iZip, seqD, sSeq, sNil, sSet, sSetO, sIf, sRet, sRetS, sRetN, sExpr, sFor, sPar, sAsg, sDrop, sPass, sBrk, sCnt, funF, fName, slot, fC, op1, op2, opN, aNil, aCons, aOwn, fCall, fillA, backA, eIf, eAnd, eOr, eNot, eView, tB, tNotF, tAndF, tOrF, tView, mask, maskFrom, wipeD, gSet, gsCons, gsNil, gTupF, setsD, iLst, iTupF, iScr, iRange1, iRange2, iEnumT, iEnumL, kAdd, kSub, kDiv, kMod, kII, kIC, kNeg, kLt, kLe, kGt, kGe, kTup, kLst, kLen, kAbs, kInt, kMax2, kMin2, kXor, kAnd, kIx, kTuple, kList, kCat, fOwn, fOwn0, tyD, kAppend, fSrc, fSrc_left, fSrc_mixed, fSrc_turn, fSrcLen, fSrcPop, sSrcPut, sSrcPut_left, sSrcPut_mixed, sSrcPut_turn, fLc, fDc, iKeysD, fYes, fDIn, kDVal, keyD, kRevL, kEqI, kNeI, lim]
end Bl

set_option Elab.async false
set_option linter.all false
set_option maxRecDepth 100000
set_option maxHeartbeats 4000000
namespace Bl
open PySem PySem.Spec PyProof.Rows L2
theorem f_lstarting (g : Gr) (hg : g.regs.length ≤ 1000) : F__law_starting [g.enc] = some (.lst (startC g), [.dead]) := by
  have h3 := in62_nat (n := g.regs.length) (by omega)
  have h4 := rangeD_map g.regs.length
  have h1 : lcGo (gSet 2) fYes (op2 kAdd (op2 kAdd (op2 kIx (fName 0) (fC (.int 0))) (fName 2)) (fC (.int 2))) [2] ((List.range g.regs.length).map fun i => D.int ((i : Nat) : Int)) [] [g.enc, .dead, .dead, .dead, .dead] = some ((List.range g.regs.length).map fun i => D.int (regL g 0 i), [g.enc, .dead, .dead, .dead, .dead]) := by
    refine lc_val (fun k _ => ?_) (by simp; omega)
    simp [lcOne, Gr.enc, regL, at0, sSeq, sNil, sSet, sSetO, sIf, sRet, sRetS, sRetN, sExpr, sFor, sPar, sAsg, sDrop, sPass, sBrk, sCnt, funF, fName, slot, fC, op1, op2, opN, aNil, aCons, aOwn, fCall, fillA, backA, eIf, eAnd, eOr, eNot, eView, tB, tNotF, tAndF, tOrF, tView, mask, maskFrom, wipeD, gSet, gsCons, gsNil, gTupF, setsD, iLst, iTupF, iScr, iRange1, iRange2, iEnumT, iEnumL, kAdd, kSub, kDiv, kMod, kII, kIC, kNeg, kLt, kLe, kGt, kGe, kTup, kLst, kLen, kAbs, kInt, kMax2, kMin2, kXor, kAnd, kIx, kTuple, kList, kCat, fOwn, fOwn0, tyD, kAppend, fSrc, fSrc_left, fSrc_mixed, fSrc_turn, fSrcLen, fSrcPop, sSrcPut, sSrcPut_left, sSrcPut_mixed, sSrcPut_turn, fLc, fDc, iKeysD, fYes, fDIn, kDVal, keyD, kRevL, kEqI, kNeI, lim]
  have h2 : ∀ X, lcGo (gTupF (gsCons (gSet 3) (gsCons (gSet 4) gsNil))) fYes (eIf (tB (op2 (kEqD false) (op2 kIx (fName 4) (fC (.int 0))) (fC (.int 1)))) (opN kTup (aCons (fName 3) aNil)) (opN kTup (aCons (op1 kNeg (fName 3)) aNil))) [3, 4] ((numb 0 g.regs).map fun q => .tup [.int (regL g 0 q.1), pr q.2]) [] [g.enc, .lst X, .dead, .dead, .dead] = some (startC g, [g.enc, .lst X, .dead, .dead, .dead]) := by
    intro X
    refine lc_val (φ := fun q : Nat × (Int × Int) => startOne g q.1 q.2) (fun q _ => ?_) (by rw [numb_len]; omega)
    by_cases hq : q.2.1 = 1 <;> simp [lcOne, pr, Gr.enc, startOne, hq, at0, sSeq, sNil, sSet, sSetO, sIf, sRet, sRetS, sRetN, sExpr, sFor, sPar, sAsg, sDrop, sPass, sBrk, sCnt, funF, fName, slot, fC, op1, op2, opN, aNil, aCons, aOwn, fCall, fillA, backA, eIf, eAnd, eOr, eNot, eView, tB, tNotF, tAndF, tOrF, tView, mask, maskFrom, wipeD, gSet, gsCons, gsNil, gTupF, setsD, iLst, iTupF, iScr, iRange1, iRange2, iEnumT, iEnumL, kAdd, kSub, kDiv, kMod, kII, kIC, kNeg, kLt, kLe, kGt, kGe, kTup, kLst, kLen, kAbs, kInt, kMax2, kMin2, kXor, kAnd, kIx, kTuple, kList, kCat, fOwn, fOwn0, tyD, kAppend, fSrc, fSrc_left, fSrc_mixed, fSrc_turn, fSrcLen, fSrcPop, sSrcPut, sSrcPut_left, sSrcPut_mixed, sSrcPut_turn, fLc, fDc, iKeysD, fYes, fDIn, kDVal, keyD, kRevL, kEqI, kNeI, lim]
  have h5 := zip_numb (fun i => D.int (regL g 0 i)) pr g.regs 0
  rw [← List.range_eq_range'] at h5
  simp only [Gr.enc] at h1 h2
  simp only [F__law_starting, Gr.enc]
  simp [h1, h2, h3, h4, h5, at1, iZip, seqD, sSeq, sNil, sSet, sSetO, sIf, sRet, sRetS, sRetN, sExpr, sFor, sPar, sAsg, sDrop, sPass, sBrk, sCnt, funF, fName, slot, fC, op1, op2, opN, aNil, aCons, aOwn, fCall, fillA, backA, eIf, eAnd, eOr, eNot, eView, tB, tNotF, tAndF, tOrF, tView, mask, maskFrom, wipeD, gSet, gsCons, gsNil, gTupF, setsD, iLst, iTupF, iScr, iRange1, iRange2, iEnumT, iEnumL, kAdd, kSub, kDiv, kMod, kII, kIC, kNeg, kLt, kLe, kGt, kGe, kTup, kLst, kLen, kAbs, kInt, kMax2, kMin2, kXor, kAnd, kIx, kTuple, kList, kCat, fOwn, fOwn0, tyD, kAppend, fSrc, fSrc_left, fSrc_mixed, fSrc_turn, fSrcLen, fSrcPop, sSrcPut, sSrcPut_left, sSrcPut_mixed, sSrcPut_turn, fLc, fDc, iKeysD, fYes, fDIn, kDVal, keyD, kRevL, kEqI, kNeI, lim]
theorem rs_src (c : List Int) (l m t : Int) : D.py (.src c l m t) = D.py (.src c l m t) := rfl
/-! ### draws -/
/-- the law's source: cells, what is left, the mixed number, the turn -/
structure Sr where
  c : List Int
  l : Int
  m : Int
  t : Int
def Sr.enc (s : Sr) : D := .src s.c s.l s.m s.t
def Sr.ok (s : Sr) : Prop := s.c.length ≤ 63 ∧ 0 ≤ s.l ∧ (∀ x ∈ s.c, 0 ≤ x) ∧ 0 ≤ s.m ∧ s.m < 2147483647 ∧ 0 ≤ s.t
end Bl

set_option Elab.async false
set_option linter.all false
set_option maxRecDepth 100000
set_option maxHeartbeats 4000000
namespace Bl
open PySem PySem.Spec PyProof.Rows L2
abbrev pickC : Et := tAndF (tB (op2 kGt (fName 1) (fC (.int 1)))) (tAndF (tB (op2 kLt (fSrc_left 0) (fC (.int 2)))) (tB (op2 kGt (fSrcLen 0) (fC (.int 0)))))
abbrev pickB : Es := sSrcPut_left 0 (fSrcPop 0)
theorem pick_loop (many m t : Int) : ∀ (n : Nat) (c : List Int) (l : Int), c.length < n → ∃ (c' : List Int) (l' : Int), c'.length ≤ c.length ∧ wGo pickC pickB n [.src c l m t, .int many, .dead, .dead] = some (.nx [.src c' l' m t, .int many, .dead, .dead])
  | 0, c, l, h => absurd h (by omega)
  | n + 1, c, l, h => by
    by_cases h1 : 1 < many ∧ l < 2 ∧ 0 < c.length
    · obtain ⟨y, hy⟩ : ∃ y, c[c.length - 1]? = some y := ⟨c[c.length - 1]'(by omega), by simp⟩
      obtain ⟨c', l', g1, g2⟩ := pick_loop many m t n c.dropLast y (by simp; omega)
      refine ⟨c', l', by simp at g1; omega, ?_⟩
      rw [wGo]
      obtain ⟨a1, a2, a3⟩ := h1
      simp [a1, a2, a3, hy, sSeq, sNil, sSet, sSetO, sIf, sRet, sRetS, sRetN, sExpr, sFor, sPar, sAsg, sDrop, sPass, sBrk, sCnt, funF, fName, slot, fC, op1, op2, opN, aNil, aCons, aOwn, fCall, fillA, backA, eIf, eAnd, eOr, eNot, eView, tB, tNotF, tAndF, tOrF, tView, mask, maskFrom, wipeD, gSet, gsCons, gsNil, gTupF, setsD, iLst, iTupF, iScr, iRange1, iRange2, iEnumT, iEnumL, kAdd, kSub, kDiv, kMod, kII, kIC, kNeg, kLt, kLe, kGt, kGe, kTup, kLst, kLen, kAbs, kInt, kMax2, kMin2, kXor, kAnd, kIx, kTuple, kList, kCat, fOwn, fOwn0, tyD, kAppend, fSrc, fSrc_left, fSrc_mixed, fSrc_turn, fSrcLen, fSrcPop, sSrcPut, sSrcPut_left, sSrcPut_mixed, sSrcPut_turn, fLc, fDc, iKeysD, fYes, fDIn, kDVal, keyD, kRevL, kEqI, kNeI, lim]
      exact g2
    · refine ⟨c, l, Nat.le_refl _, ?_⟩
      rw [wGo]
      by_cases a1 : 1 < many
      · by_cases a2 : l < 2
        · have a3 : ¬ 0 < c.length := fun z => h1 ⟨a1, a2, z⟩
          simp [a1, a2, a3, sSeq, sNil, sSet, sSetO, sIf, sRet, sRetS, sRetN, sExpr, sFor, sPar, sAsg, sDrop, sPass, sBrk, sCnt, funF, fName, slot, fC, op1, op2, opN, aNil, aCons, aOwn, fCall, fillA, backA, eIf, eAnd, eOr, eNot, eView, tB, tNotF, tAndF, tOrF, tView, mask, maskFrom, wipeD, gSet, gsCons, gsNil, gTupF, setsD, iLst, iTupF, iScr, iRange1, iRange2, iEnumT, iEnumL, kAdd, kSub, kDiv, kMod, kII, kIC, kNeg, kLt, kLe, kGt, kGe, kTup, kLst, kLen, kAbs, kInt, kMax2, kMin2, kXor, kAnd, kIx, kTuple, kList, kCat, fOwn, fOwn0, tyD, kAppend, fSrc, fSrc_left, fSrc_mixed, fSrc_turn, fSrcLen, fSrcPop, sSrcPut, sSrcPut_left, sSrcPut_mixed, sSrcPut_turn, fLc, fDc, iKeysD, fYes, fDIn, kDVal, keyD, kRevL, kEqI, kNeI, lim]
        · simp [a1, a2, sSeq, sNil, sSet, sSetO, sIf, sRet, sRetS, sRetN, sExpr, sFor, sPar, sAsg, sDrop, sPass, sBrk, sCnt, funF, fName, slot, fC, op1, op2, opN, aNil, aCons, aOwn, fCall, fillA, backA, eIf, eAnd, eOr, eNot, eView, tB, tNotF, tAndF, tOrF, tView, mask, maskFrom, wipeD, gSet, gsCons, gsNil, gTupF, setsD, iLst, iTupF, iScr, iRange1, iRange2, iEnumT, iEnumL, kAdd, kSub, kDiv, kMod, kII, kIC, kNeg, kLt, kLe, kGt, kGe, kTup, kLst, kLen, kAbs, kInt, kMax2, kMin2, kXor, kAnd, kIx, kTuple, kList, kCat, fOwn, fOwn0, tyD, kAppend, fSrc, fSrc_left, fSrc_mixed, fSrc_turn, fSrcLen, fSrcPop, sSrcPut, sSrcPut_left, sSrcPut_mixed, sSrcPut_turn, fLc, fDc, iKeysD, fYes, fDIn, kDVal, keyD, kRevL, kEqI, kNeI, lim]
      · simp [a1, sSeq, sNil, sSet, sSetO, sIf, sRet, sRetS, sRetN, sExpr, sFor, sPar, sAsg, sDrop, sPass, sBrk, sCnt, funF, fName, slot, fC, op1, op2, opN, aNil, aCons, aOwn, fCall, fillA, backA, eIf, eAnd, eOr, eNot, eView, tB, tNotF, tAndF, tOrF, tView, mask, maskFrom, wipeD, gSet, gsCons, gsNil, gTupF, setsD, iLst, iTupF, iScr, iRange1, iRange2, iEnumT, iEnumL, kAdd, kSub, kDiv, kMod, kII, kIC, kNeg, kLt, kLe, kGt, kGe, kTup, kLst, kLen, kAbs, kInt, kMax2, kMin2, kXor, kAnd, kIx, kTuple, kList, kCat, fOwn, fOwn0, tyD, kAppend, fSrc, fSrc_left, fSrc_mixed, fSrc_turn, fSrcLen, fSrcPop, sSrcPut, sSrcPut_left, sSrcPut_mixed, sSrcPut_turn, fLc, fDc, iKeysD, fYes, fDIn, kDVal, keyD, kRevL, kEqI, kNeI, lim]
abbrev pickT : Es := sSeq (sSet 2 (fSrc_left 0)) (sSeq (sIf (tOrF (tB (op2 kLt (fName 1) (fC (.int 2)))) (tB (op2 kGt (fName 2) (fC (.int 1))))) (sSeq (sSrcPut_left 0 (op2 kDiv (fName 2) (opN kMax2 (aCons (fC (.int 1)) (aCons (fName 1) aNil))))) (sRet [0] (op2 kMod (opN kInt (aCons (fName 2) aNil)) (opN kMax2 (aCons (fC (.int 1)) (aCons (fName 1) aNil)))))) sNil) (sSeq (sSrcPut_turn 0 (op2 kAdd (fSrc_turn 0) (fC (.int 1)))) (sSeq (sSet 3 (op2 kMod (opN kInt (aCons (op2 kAdd (fSrc_mixed 0) (op2 kMul (fSrc_turn 0) (fC (.int 104729)))) aNil)) (fC (.int 998244353)))) (sSeq (sSet 3 (op2 kMod (opN kInt (aCons (op2 kAdd (op2 kMul (fName 3) (fName 3)) (op2 kMul (fSrc_turn 0) (fC (.int 17)))) aNil)) (fC (.int 2147483647)))) (sSeq (sSrcPut_mixed 0 (fName 3)) (sRet [0] (op2 kMod (opN kInt (aCons (op2 kDiv (fName 3) (fC (.int 16))) aNil)) (fName 1))))))))
theorem pick_tail (many : Int) (h0 : 0 ≤ many) (h1 : many < 1000000000) (c : List Int) (l m t : Int) : ∃ (v l' m' t' : Int) (x y : D), pickT [.src c l m t, .int many, .dead, .dead] = some (.rt (.int v) [.src c l' m' t', .dead, .dead, .dead]) ∧ 0 ≤ v ∧ v < max 1 many := by
  by_cases a1 : many < 2
  · have hb : (if many > 1 then many else 1) = 1 := if_neg (by omega)
    refine ⟨l % 1, l / 1, m, t, .dead, .dead, ?_, by omega, by omega⟩
    have a2 : ¬ 1 < many := by omega
    simp [a1, a2, sSeq, sNil, sSet, sSetO, sIf, sRet, sRetS, sRetN, sExpr, sFor, sPar, sAsg, sDrop, sPass, sBrk, sCnt, funF, fName, slot, fC, op1, op2, opN, aNil, aCons, aOwn, fCall, fillA, backA, eIf, eAnd, eOr, eNot, eView, tB, tNotF, tAndF, tOrF, tView, mask, maskFrom, wipeD, gSet, gsCons, gsNil, gTupF, setsD, iLst, iTupF, iScr, iRange1, iRange2, iEnumT, iEnumL, kAdd, kSub, kDiv, kMod, kII, kIC, kNeg, kLt, kLe, kGt, kGe, kTup, kLst, kLen, kAbs, kInt, kMax2, kMin2, kXor, kAnd, kIx, kTuple, kList, kCat, fOwn, fOwn0, tyD, kAppend, fSrc, fSrc_left, fSrc_mixed, fSrc_turn, fSrcLen, fSrcPop, sSrcPut, sSrcPut_left, sSrcPut_mixed, sSrcPut_turn, fLc, fDc, iKeysD, fYes, fDIn, kDVal, keyD, kRevL, kEqI, kNeI, lim]
  · have a2 : 1 < many := by omega
    by_cases a3 : 1 < l
    · refine ⟨l % many, l / many, m, t, .dead, .dead, ?_, Int.emod_nonneg _ (by omega), by have := Int.emod_lt_of_pos l (show 0 < many by omega); omega⟩
      have a4 : 0 < many := by omega
      have a5 : many.natAbs < 1073741824 := by omega
      simp [a1, a2, a3, a4, a5, sSeq, sNil, sSet, sSetO, sIf, sRet, sRetS, sRetN, sExpr, sFor, sPar, sAsg, sDrop, sPass, sBrk, sCnt, funF, fName, slot, fC, op1, op2, opN, aNil, aCons, aOwn, fCall, fillA, backA, eIf, eAnd, eOr, eNot, eView, tB, tNotF, tAndF, tOrF, tView, mask, maskFrom, wipeD, gSet, gsCons, gsNil, gTupF, setsD, iLst, iTupF, iScr, iRange1, iRange2, iEnumT, iEnumL, kAdd, kSub, kDiv, kMod, kII, kIC, kNeg, kLt, kLe, kGt, kGe, kTup, kLst, kLen, kAbs, kInt, kMax2, kMin2, kXor, kAnd, kIx, kTuple, kList, kCat, fOwn, fOwn0, tyD, kAppend, fSrc, fSrc_left, fSrc_mixed, fSrc_turn, fSrcLen, fSrcPop, sSrcPut, sSrcPut_left, sSrcPut_mixed, sSrcPut_turn, fLc, fDc, iKeysD, fYes, fDIn, kDVal, keyD, kRevL, kEqI, kNeI, lim]
    · have a4 : 0 < many := by omega
      have a5 : many.natAbs < 1073741824 := by omega
      have k1 : ∀ i, kMul (.int i) (.int 104729) = some (.int (i * 104729)) := fun i => kMul_r (by decide)
      have k2 : ∀ i, kMul (.int i) (.int 17) = some (.int (i * 17)) := fun i => kMul_r (by decide)
      obtain ⟨x, hx, hx2⟩ : ∃ x : Int, (m + (t + 1) * 104729) % 998244353 = x ∧ x.natAbs < 18446744073709551616 := ⟨_, rfl, by omega⟩
      obtain ⟨y, hy⟩ : ∃ y : Int, (x * x + (t + 1) * 17) % 2147483647 = y := ⟨_, rfl⟩
      have k3 : kMul (.int x) (.int x) = some (.int (x * x)) := kMul_r hx2
      refine ⟨y / 16 % many, l, y, t + 1, .dead, .dead, ?_, Int.emod_nonneg _ (by omega), by have := Int.emod_lt_of_pos (y / 16) (show 0 < many by omega); omega⟩
      simp [a1, a2, a3, a4, a5, k1, k2, hx, hy, k3, sSeq, sNil, sSet, sSetO, sIf, sRet, sRetS, sRetN, sExpr, sFor, sPar, sAsg, sDrop, sPass, sBrk, sCnt, funF, fName, slot, fC, op1, op2, opN, aNil, aCons, aOwn, fCall, fillA, backA, eIf, eAnd, eOr, eNot, eView, tB, tNotF, tAndF, tOrF, tView, mask, maskFrom, wipeD, gSet, gsCons, gsNil, gTupF, setsD, iLst, iTupF, iScr, iRange1, iRange2, iEnumT, iEnumL, kAdd, kSub, kDiv, kMod, kII, kIC, kNeg, kLt, kLe, kGt, kGe, kTup, kLst, kLen, kAbs, kInt, kMax2, kMin2, kXor, kAnd, kIx, kTuple, kList, kCat, fOwn, fOwn0, tyD, kAppend, fSrc, fSrc_left, fSrc_mixed, fSrc_turn, fSrcLen, fSrcPop, sSrcPut, sSrcPut_left, sSrcPut_mixed, sSrcPut_turn, fLc, fDc, iKeysD, fYes, fDIn, kDVal, keyD, kRevL, kEqI, kNeI, lim]
end Bl

set_option Elab.async false
set_option linter.all false
set_option maxRecDepth 100000
set_option maxHeartbeats 4000000
namespace Bl
open PySem PySem.Spec PyProof.Rows L2
theorem f_pick (s : Sr) (hs : s.c.length ≤ 63) (many : Int) (h0 : 0 ≤ many) (h1 : many < 1000000000) : ∃ (v : Int) (s' : Sr), F__law_pick [s.enc, .int many] = some (.int v, [s'.enc, .dead]) ∧ 0 ≤ v ∧ v < max 1 many ∧ s'.c.length ≤ 63 := by
  obtain ⟨c', l', g1, g2⟩ := pick_loop many s.m s.t lim s.c s.l (by unfold lim; omega)
  obtain ⟨v, l2, m2, t2, _, _, q1, q2, q3⟩ := pick_tail many h0 h1 c' l' s.m s.t
  refine ⟨v, ⟨c', l2, m2, t2⟩, ?_, q2, q3, by simp; omega⟩
  have e : F__law_pick = funF 4 2 [0] false (sSeq (sWhile lim pickC pickB) pickT) := rfl
  have e2 : sWhile lim pickC pickB [s.enc, .int many, .dead, .dead] = some (.nx [.src c' l' s.m s.t, .int many, .dead, .dead]) := g2
  rw [e]
  generalize sWhile lim pickC pickB = A at e2 ⊢
  generalize pickT = B at q1 ⊢
  simp only [Sr.enc] at e2 ⊢
  simp [e2, q1, sSeq, sNil, sSet, sSetO, sIf, sRet, sRetS, sRetN, sExpr, sFor, sPar, sAsg, sDrop, sPass, sBrk, sCnt, funF, fName, slot, fC, op1, op2, opN, aNil, aCons, aOwn, fCall, fillA, backA, eIf, eAnd, eOr, eNot, eView, tB, tNotF, tAndF, tOrF, tView, mask, maskFrom, wipeD, gSet, gsCons, gsNil, gTupF, setsD, iLst, iTupF, iScr, iRange1, iRange2, iEnumT, iEnumL, kAdd, kSub, kDiv, kMod, kII, kIC, kNeg, kLt, kLe, kGt, kGe, kTup, kLst, kLen, kAbs, kInt, kMax2, kMin2, kXor, kAnd, kIx, kTuple, kList, kCat, fOwn, fOwn0, tyD, kAppend, fSrc, fSrc_left, fSrc_mixed, fSrc_turn, fSrcLen, fSrcPop, sSrcPut, sSrcPut_left, sSrcPut_mixed, sSrcPut_turn, fLc, fDc, iKeysD, fYes, fDIn, kDVal, keyD, kRevL, kEqI, kNeI, lim]
/-- a draw of less than `many`, with the source kept right -/
theorem f_pick1 (s : Sr) (hs : s.c.length ≤ 63) (many : Int) (h0 : 1 ≤ many) (h1 : many < 1000000000) : ∃ (v : Int) (s' : Sr), F__law_pick [s.enc, .int many] = some (.int v, [s'.enc, .dead]) ∧ 0 ≤ v ∧ v < many ∧ s'.c.length ≤ 63 := by
  obtain ⟨v, s', a, b, c, d⟩ := f_pick s hs many (by omega) h1
  exact ⟨v, s', a, b, by omega, d⟩
theorem f_draw (s : Sr) (hs : s.c.length ≤ 63) (many : Int) (h0 : 1 ≤ many) (h1 : many < 1000000) : ∃ (v : Int) (s' : Sr), F__law_draw_literal [s.enc, .int many] = some (.int v, [s'.enc, .dead]) ∧ 0 ≤ v ∧ v < 2 * many ∧ s'.c.length ≤ 63 := by
  obtain ⟨v1, s1, a1, b1, c1, d1⟩ := f_pick1 s hs 3 (by omega) (by omega)
  have m2 : ∀ i, kMul (.int 2) (.int i) = some (.int (2 * i)) := fun i => kMul_l (by decide)
  by_cases h : 0 < v1
  · obtain ⟨v2, s2, a2, b2, c2, d2⟩ := f_pick1 s1 d1 (if many > 10 then 10 else many) (by split <;> omega) (by split <;> omega)
    obtain ⟨v3, s3, a3, b3, c3, d3⟩ := f_pick1 s2 d2 2 (by omega) (by omega)
    have c4 : v2 < many := by split at c2 <;> omega
    refine ⟨2 * (many - 1 - v2) + v3, s3, ?_, by omega, by omega, d3⟩
    simp only [Sr.enc] at a1 a2 a3 ⊢
    simp only [F__law_draw_literal]
    simp [a1, h, m2, sSeq, sNil, sSet, sSetO, sIf, sRet, sRetS, sRetN, sExpr, sFor, sPar, sAsg, sDrop, sPass, sBrk, sCnt, funF, fName, slot, fC, op1, op2, opN, aNil, aCons, aOwn, fCall, fillA, backA, eIf, eAnd, eOr, eNot, eView, tB, tNotF, tAndF, tOrF, tView, mask, maskFrom, wipeD, gSet, gsCons, gsNil, gTupF, setsD, iLst, iTupF, iScr, iRange1, iRange2, iEnumT, iEnumL, kAdd, kSub, kDiv, kMod, kII, kIC, kNeg, kLt, kLe, kGt, kGe, kTup, kLst, kLen, kAbs, kInt, kMax2, kMin2, kXor, kAnd, kIx, kTuple, kList, kCat, fOwn, fOwn0, tyD, kAppend, fSrc, fSrc_left, fSrc_mixed, fSrc_turn, fSrcLen, fSrcPop, sSrcPut, sSrcPut_left, sSrcPut_mixed, sSrcPut_turn, fLc, fDc, iKeysD, fYes, fDIn, kDVal, keyD, kRevL, kEqI, kNeI, lim] at a2 ⊢
    simp [a2, a3, m2, sSeq, sNil, sSet, sSetO, sIf, sRet, sRetS, sRetN, sExpr, sFor, sPar, sAsg, sDrop, sPass, sBrk, sCnt, funF, fName, slot, fC, op1, op2, opN, aNil, aCons, aOwn, fCall, fillA, backA, eIf, eAnd, eOr, eNot, eView, tB, tNotF, tAndF, tOrF, tView, mask, maskFrom, wipeD, gSet, gsCons, gsNil, gTupF, setsD, iLst, iTupF, iScr, iRange1, iRange2, iEnumT, iEnumL, kAdd, kSub, kDiv, kMod, kII, kIC, kNeg, kLt, kLe, kGt, kGe, kTup, kLst, kLen, kAbs, kInt, kMax2, kMin2, kXor, kAnd, kIx, kTuple, kList, kCat, fOwn, fOwn0, tyD, kAppend, fSrc, fSrc_left, fSrc_mixed, fSrc_turn, fSrcLen, fSrcPop, sSrcPut, sSrcPut_left, sSrcPut_mixed, sSrcPut_turn, fLc, fDc, iKeysD, fYes, fDIn, kDVal, keyD, kRevL, kEqI, kNeI, lim]
  · obtain ⟨v2, s2, a2, b2, c2, d2⟩ := f_pick1 s1 d1 many (by omega) (by omega)
    obtain ⟨v3, s3, a3, b3, c3, d3⟩ := f_pick1 s2 d2 2 (by omega) (by omega)
    refine ⟨2 * v2 + v3, s3, ?_, by omega, by omega, d3⟩
    simp only [Sr.enc] at a1 a2 a3 ⊢
    simp only [F__law_draw_literal]
    simp [a1, a2, a3, h, m2, sSeq, sNil, sSet, sSetO, sIf, sRet, sRetS, sRetN, sExpr, sFor, sPar, sAsg, sDrop, sPass, sBrk, sCnt, funF, fName, slot, fC, op1, op2, opN, aNil, aCons, aOwn, fCall, fillA, backA, eIf, eAnd, eOr, eNot, eView, tB, tNotF, tAndF, tOrF, tView, mask, maskFrom, wipeD, gSet, gsCons, gsNil, gTupF, setsD, iLst, iTupF, iScr, iRange1, iRange2, iEnumT, iEnumL, kAdd, kSub, kDiv, kMod, kII, kIC, kNeg, kLt, kLe, kGt, kGe, kTup, kLst, kLen, kAbs, kInt, kMax2, kMin2, kXor, kAnd, kIx, kTuple, kList, kCat, fOwn, fOwn0, tyD, kAppend, fSrc, fSrc_left, fSrc_mixed, fSrc_turn, fSrcLen, fSrcPop, sSrcPut, sSrcPut_left, sSrcPut_mixed, sSrcPut_turn, fLc, fDc, iKeysD, fYes, fDIn, kDVal, keyD, kRevL, kEqI, kNeI, lim]
end Bl

set_option Elab.async false
set_option linter.all false
set_option maxRecDepth 100000
set_option maxHeartbeats 4000000
namespace Bl
open PySem PySem.Spec PyProof.Rows L2
theorem f_source (ns : List Int) (h : ns.length ≤ 63) : ∃ s : Sr, F__law_source [.scr ns] = some (s.enc, [.dead]) ∧ s.c.length ≤ 63 := by
  have k1 : ∀ i, kMul (.int i) (.int 69069) = some (.int (i * 69069)) := fun i => kMul_r (by decide)
  have k2 : ∀ i, kMul (.int i) (.int 31) = some (.int (i * 31)) := fun i => kMul_r (by decide)
  obtain ⟨b, h1, _⟩ := for_state (fg := gSet 2) (F := sSet 1 (op2 kMod (opN kInt (aCons (op2 kAdd (op2 kAdd (op2 kMul (fName 1) (fC (.int 69069))) (op2 kMul (fName 2) (fC (.int 31)))) (fC (.int 5))) aNil)) (fC (.int 2147483629)))) (enc := D.int) (st := fun b : Int × D => [D.scr ns, .int b.1, b.2]) (P := fun _ => True) (as := ns) (b := (11, .dead)) trivial (fun a _ b _ => by
    refine ⟨((b.1 * 69069 + a * 31 + 5) % 2147483629, .int a), .inl ?_, trivial⟩
    generalize hz : (b.1 * 69069 + a * 31 + 5) % 2147483629 = z
    simp [k1, k2, hz, sSeq, sNil, sSet, sSetO, sIf, sRet, sRetS, sRetN, sExpr, sFor, sPar, sAsg, sDrop, sPass, sBrk, sCnt, funF, fName, slot, fC, op1, op2, opN, aNil, aCons, aOwn, fCall, fillA, backA, eIf, eAnd, eOr, eNot, eView, tB, tNotF, tAndF, tOrF, tView, mask, maskFrom, wipeD, gSet, gsCons, gsNil, gTupF, setsD, iLst, iTupF, iScr, iRange1, iRange2, iEnumT, iEnumL, kAdd, kSub, kDiv, kMod, kII, kIC, kNeg, kLt, kLe, kGt, kGe, kTup, kLst, kLen, kAbs, kInt, kMax2, kMin2, kXor, kAnd, kIx, kTuple, kList, kCat, fOwn, fOwn0, tyD, kAppend, fSrc, fSrc_left, fSrc_mixed, fSrc_turn, fSrcLen, fSrcPop, sSrcPut, sSrcPut_left, sSrcPut_mixed, sSrcPut_turn, fLc, fDc, iKeysD, fYes, fDIn, kDVal, keyD, kRevL, kEqI, kNeI, lim])
  have h2 : lcGo (gSet 2) fYes (opN kAbs (aCons (fName 2) aNil)) [2] (ns.map D.int) [] [.scr ns, .int b.1, .dead] = some (ns.map fun n => D.int (absI n), [.scr ns, .int b.1, .dead]) := by
    refine lc_val (fun n _ => ?_) (by omega)
    simp [lcOne, absI, sSeq, sNil, sSet, sSetO, sIf, sRet, sRetS, sRetN, sExpr, sFor, sPar, sAsg, sDrop, sPass, sBrk, sCnt, funF, fName, slot, fC, op1, op2, opN, aNil, aCons, aOwn, fCall, fillA, backA, eIf, eAnd, eOr, eNot, eView, tB, tNotF, tAndF, tOrF, tView, mask, maskFrom, wipeD, gSet, gsCons, gsNil, gTupF, setsD, iLst, iTupF, iScr, iRange1, iRange2, iEnumT, iEnumL, kAdd, kSub, kDiv, kMod, kII, kIC, kNeg, kLt, kLe, kGt, kGe, kTup, kLst, kLen, kAbs, kInt, kMax2, kMin2, kXor, kAnd, kIx, kTuple, kList, kCat, fOwn, fOwn0, tyD, kAppend, fSrc, fSrc_left, fSrc_mixed, fSrc_turn, fSrcLen, fSrcPop, sSrcPut, sSrcPut_left, sSrcPut_mixed, sSrcPut_turn, fLc, fDc, iKeysD, fYes, fDIn, kDVal, keyD, kRevL, kEqI, kNeI, lim]
  have h3 : intsD ((ns.map fun n => D.int (absI n)).reverse) = some ((ns.map absI).reverse) := by
    have e : (ns.map fun n => D.int (absI n)).reverse = ((ns.map absI).reverse).map D.int := by simp
    rw [e, ints_map]
  refine ⟨⟨(ns.map absI).reverse, 1, b.1, 0⟩, ?_, by simpa using h⟩
  simp only [F__law_source, Sr.enc]
  generalize hF : sSet 1 (op2 kMod (opN kInt (aCons (op2 kAdd (op2 kAdd (op2 kMul (fName 1) (fC (.int 69069))) (op2 kMul (fName 2) (fC (.int 31)))) (fC (.int 5))) aNil)) (fC (.int 2147483629))) = F at h1 ⊢
  simp [h1, h2, h3, fSrcNew, sSeq, sNil, sSet, sSetO, sIf, sRet, sRetS, sRetN, sExpr, sFor, sPar, sAsg, sDrop, sPass, sBrk, sCnt, funF, fName, slot, fC, op1, op2, opN, aNil, aCons, aOwn, fCall, fillA, backA, eIf, eAnd, eOr, eNot, eView, tB, tNotF, tAndF, tOrF, tView, mask, maskFrom, wipeD, gSet, gsCons, gsNil, gTupF, setsD, iLst, iTupF, iScr, iRange1, iRange2, iEnumT, iEnumL, kAdd, kSub, kDiv, kMod, kII, kIC, kNeg, kLt, kLe, kGt, kGe, kTup, kLst, kLen, kAbs, kInt, kMax2, kMin2, kXor, kAnd, kIx, kTuple, kList, kCat, fOwn, fOwn0, tyD, kAppend, fSrc, fSrc_left, fSrc_mixed, fSrc_turn, fSrcLen, fSrcPop, sSrcPut, sSrcPut_left, sSrcPut_mixed, sSrcPut_turn, fLc, fDc, iKeysD, fYes, fDIn, kDVal, keyD, kRevL, kEqI, kNeI, lim, -List.map_reverse]
end Bl

set_option Elab.async false
set_option linter.all false
set_option maxRecDepth 100000
set_option maxHeartbeats 4000000
namespace Bl
open PySem PySem.Spec PyProof.Rows L2
theorem for_left {α β : Type} {fg : Eg} {F : Es} {enc : α → D} {st : β → Rho} {P : Nat → β → Prop} (h : ∀ a n b, P (n + 1) b → ∃ b', (fg (enc a) (st b)).bind F = some (.nx (st b')) ∧ P n b') : ∀ {as : List α} {b : β}, P as.length b →
    ∃ b', forGo fg F (as.map enc) (st b) = some (.nx (st b')) ∧ P 0 b'
  | [], b, hb => ⟨b, rfl, hb⟩
  | a :: as, b, hb => by
    obtain ⟨b1, h1, h2⟩ := h a as.length b hb
    obtain ⟨b', g1, g2⟩ := for_left h (as := as) h2
    refine ⟨b', ?_, g2⟩
    rw [List.map_cons, forGo, ← Option.bind_assoc, h1]
    exact g1
/-- the pairs drawn so far -/
def okAnds : Nat → List (Int × Int) → Prop
  | _, [] => True
  | f, p :: r => (0 ≤ p.1 ∧ p.1 < 2 * (f : Int) ∧ 0 ≤ p.2 ∧ p.2 < 2 * (f : Int)) ∧ okAnds (f + 1) r
theorem okAnds_snoc : ∀ (l : List (Int × Int)) (f : Nat) (p : Int × Int), okAnds f l → (0 ≤ p.1 ∧ p.1 < 2 * ((f + l.length : Nat) : Int) ∧ 0 ≤ p.2 ∧ p.2 < 2 * ((f + l.length : Nat) : Int)) → okAnds f (l ++ [p])
  | [], f, p, _, h => ⟨by simpa using h, trivial⟩
  | q :: r, f, p, h, hp => ⟨h.1, okAnds_snoc r (f + 1) p h.2 (by simp only [List.length_cons] at hp; omega)⟩
def kPair (p : Int × Int) : List Key × D := ([Sum.inl p.1, Sum.inl p.2], .bl true)
def addP (l : List (Int × Int)) (p : Int × Int) : List (Int × Int) := if p ∈ l then l else l ++ [p]
theorem put_pair (l : List (Int × Int)) (p : Int × Int) : putP (l.map kPair) [Sum.inl p.1, Sum.inl p.2] (D.bl true) = (addP l p).map kPair := by
  unfold putP addP
  by_cases h : p ∈ l
  · rw [if_pos h, if_pos (by
      rw [List.any_eq_true]
      exact ⟨kPair p, List.mem_map.mpr ⟨p, h, rfl⟩, by simp [kPair]⟩), List.map_map]
    apply List.map_congr_left
    intro x _
    simp only [Function.comp, kPair]
    exact ite_self _
  · rw [if_neg h, if_neg (fun z => h (by
      obtain ⟨q, hq, e⟩ := List.any_eq_true.mp z
      obtain ⟨x, hx, rfl⟩ := List.mem_map.mp hq
      simp [kPair] at e
      have : x = p := Prod.ext e.1 e.2
      subst this
      exact hx)), List.map_append]
    rfl
theorem sort_two (a b : Int) : ∃ x y, sortI [a, b] = [x, y] ∧ ((x = a ∧ y = b) ∨ (x = b ∧ y = a)) := by
  by_cases h : a ≤ b
  · exact ⟨a, b, by simp [sortI, insI, h], .inl ⟨rfl, rfl⟩⟩
  · exact ⟨b, a, by simp [sortI, insI, h], .inr ⟨rfl, rfl⟩⟩
end Bl

set_option Elab.async false
set_option linter.all false
set_option maxRecDepth 100000
set_option maxHeartbeats 4000000
namespace Bl
open PySem PySem.Spec PyProof.Rows L2
abbrev lapF : Es := sDrop [8, 9] (sSeq (sSet 9 (opN kTuple (aCons (opN kSorted (aCons (fLc (iRange1 (aCons (fC (.int 2)) aNil)) (gSet 13) fYes (fCall F__law_draw_literal [some 0, none] (aOwn (aCons (eView false (op2 kAdd (fName 7) (opN kLenD (aCons (fName 6) aNil)))) aNil))) [13]) aNil)) aNil))) (sIf (tAndF (tB (op2 kGt (op2 kIx (fName 9) (fC (.int 0))) (fC (.int 1)))) (tB (op2 (kEqD true) (op2 kDiv (op2 kIx (fName 9) (fC (.int 0))) (fC (.int 2))) (op2 kDiv (op2 kIx (fName 9) (fC (.int 1))) (fC (.int 2)))))) (sDPutF 6 (fC (.bl true)) (fName 9)) sNil))
def lapSt (I R f : Nat) (b : Sr × List (Int × Int)) : Rho := [b.1.enc, .int 3, .int 3, .int 9, .int I, .int R, .dit (b.2.map kPair), .int f, .dead, .dead, .dead, .dead, .dead, .dead, .dead]
def lapP (f : Nat) (n : Nat) (b : Sr × List (Int × Int)) : Prop := b.1.c.length ≤ 63 ∧ b.2.length + n ≤ 9 ∧ okAnds f b.2
theorem lap_one (I R f : Nat) (hf : 1 ≤ f) (hf2 : f ≤ 10) (a : Nat) (n : Nat) (b : Sr × List (Int × Int)) (h : lapP f (n + 1) b) : ∃ b', ((gSet 8 (.int (a : Nat)) (lapSt I R f b)).bind lapF) = some (.nx (lapSt I R f b')) ∧ lapP f n b' := by
  obtain ⟨s, al⟩ := b
  obtain ⟨h1, h2, h3⟩ := h
  simp only at h1 h2 h3
  obtain ⟨v1, s1, a1, b1, c1, d1⟩ := f_draw s h1 (f + al.length : Nat) (by omega) (by omega)
  obtain ⟨v2, s2, a2, b2, c2, d2⟩ := f_draw s1 d1 (f + al.length : Nat) (by omega) (by omega)
  obtain ⟨x, y, e1, e2⟩ := sort_two v1 v2
  have hx : 0 ≤ x ∧ x < 2 * ((f + al.length : Nat) : Int) ∧ 0 ≤ y ∧ y < 2 * ((f + al.length : Nat) : Int) := by omega
  have hr : rangeD 0 2 = [.int 0, .int 1] := rfl
  have h6 : in62 2 = true := rfl
  have hl : al.length < 1000000 := by omega
  have hp := put_pair al (x, y)
  simp only at hp
  by_cases hc : 1 < x ∧ ¬ x / 2 = y / 2
  · refine ⟨(s2, addP al (x, y)), ?_, d2, ?_, ?_⟩
    · simp only [lapSt, Sr.enc] at a1 a2 ⊢
      obtain ⟨q1, q2⟩ := hc
      simp only [Int.natCast_add] at a1 a2
      simp [a1, a2, hr, h6, kLenD, D.flat, lcGo, kSorted, intsD, e1, at0, at1, q1, q2, sDPutF, kDPut, keysD, hp, hl, sSeq, sNil, sSet, sSetO, sIf, sRet, sRetS, sRetN, sExpr, sFor, sPar, sAsg, sDrop, sPass, sBrk, sCnt, funF, fName, slot, fC, op1, op2, opN, aNil, aCons, aOwn, fCall, fillA, backA, eIf, eAnd, eOr, eNot, eView, tB, tNotF, tAndF, tOrF, tView, mask, maskFrom, wipeD, gSet, gsCons, gsNil, gTupF, setsD, iLst, iTupF, iScr, iRange1, iRange2, iEnumT, iEnumL, kAdd, kSub, kDiv, kMod, kII, kIC, kNeg, kLt, kLe, kGt, kGe, kTup, kLst, kLen, kAbs, kInt, kMax2, kMin2, kXor, kAnd, kIx, kTuple, kList, kCat, fOwn, fOwn0, tyD, kAppend, fSrc, fSrc_left, fSrc_mixed, fSrc_turn, fSrcLen, fSrcPop, sSrcPut, sSrcPut_left, sSrcPut_mixed, sSrcPut_turn, fLc, fDc, iKeysD, fYes, fDIn, kDVal, keyD, kRevL, kEqI, kNeI, lim]
    · unfold addP
      split <;> simp <;> omega
    · unfold addP
      split
      · exact h3
      · exact okAnds_snoc al f (x, y) h3 hx
  · refine ⟨(s2, al), ?_, d2, by simp; omega, h3⟩
    simp only [lapSt, Sr.enc] at a1 a2 ⊢
    simp only [Int.natCast_add] at a1 a2
    by_cases q1 : 1 < x
    · have q2 : x / 2 = y / 2 := Decidable.byContradiction fun z => hc ⟨q1, z⟩
      simp [a1, a2, hr, h6, kLenD, D.flat, lcGo, kSorted, intsD, e1, at0, at1, q1, q2, sSeq, sNil, sSet, sSetO, sIf, sRet, sRetS, sRetN, sExpr, sFor, sPar, sAsg, sDrop, sPass, sBrk, sCnt, funF, fName, slot, fC, op1, op2, opN, aNil, aCons, aOwn, fCall, fillA, backA, eIf, eAnd, eOr, eNot, eView, tB, tNotF, tAndF, tOrF, tView, mask, maskFrom, wipeD, gSet, gsCons, gsNil, gTupF, setsD, iLst, iTupF, iScr, iRange1, iRange2, iEnumT, iEnumL, kAdd, kSub, kDiv, kMod, kII, kIC, kNeg, kLt, kLe, kGt, kGe, kTup, kLst, kLen, kAbs, kInt, kMax2, kMin2, kXor, kAnd, kIx, kTuple, kList, kCat, fOwn, fOwn0, tyD, kAppend, fSrc, fSrc_left, fSrc_mixed, fSrc_turn, fSrcLen, fSrcPop, sSrcPut, sSrcPut_left, sSrcPut_mixed, sSrcPut_turn, fLc, fDc, iKeysD, fYes, fDIn, kDVal, keyD, kRevL, kEqI, kNeI, lim]
    · simp [a1, a2, hr, h6, kLenD, D.flat, lcGo, kSorted, intsD, e1, at0, at1, q1, sSeq, sNil, sSet, sSetO, sIf, sRet, sRetS, sRetN, sExpr, sFor, sPar, sAsg, sDrop, sPass, sBrk, sCnt, funF, fName, slot, fC, op1, op2, opN, aNil, aCons, aOwn, fCall, fillA, backA, eIf, eAnd, eOr, eNot, eView, tB, tNotF, tAndF, tOrF, tView, mask, maskFrom, wipeD, gSet, gsCons, gsNil, gTupF, setsD, iLst, iTupF, iScr, iRange1, iRange2, iEnumT, iEnumL, kAdd, kSub, kDiv, kMod, kII, kIC, kNeg, kLt, kLe, kGt, kGe, kTup, kLst, kLen, kAbs, kInt, kMax2, kMin2, kXor, kAnd, kIx, kTuple, kList, kCat, fOwn, fOwn0, tyD, kAppend, fSrc, fSrc_left, fSrc_mixed, fSrc_turn, fSrcLen, fSrcPop, sSrcPut, sSrcPut_left, sSrcPut_mixed, sSrcPut_turn, fLc, fDc, iKeysD, fYes, fDIn, kDVal, keyD, kRevL, kEqI, kNeI, lim]
end Bl

set_option Elab.async false
set_option linter.all false
set_option maxRecDepth 100000
set_option maxHeartbeats 4000000
namespace Bl
open PySem PySem.Spec PyProof.Rows L2
theorem lc_ex {α β γ : Type} {fg : Eg} {ft : Et} {fe : Ev} {vs : List Nat} {enc : α → D} {en : γ → D} {st : β → Rho} {P : β → Prop} {Q : γ → Prop} : ∀ {as : List α} {b : β} {acc : List D}, P b → (∀ a ∈ as, ∀ b, P b → ∃ o b', lcOne fg ft fe vs (enc a) (st b) = some (some (en o), st b') ∧ P b' ∧ Q o) → acc.length + as.length ≤ 1000000 →
    ∃ (out : List γ) (b' : β), lcGo fg ft fe vs (as.map enc) acc (st b) = some (acc ++ out.map en, st b') ∧ P b' ∧ out.length = as.length ∧ ∀ o ∈ out, Q o
  | [], b, acc, hb, _, _ => ⟨[], b, by simp [lcGo], hb, rfl, by simp⟩
  | a :: as, b, acc, hb, h, hl => by
    simp only [List.length_cons] at hl
    obtain ⟨o, b1, h1, h2, h3⟩ := h a (List.mem_cons_self ..) b hb
    obtain ⟨out, b', g1, g2, g3, g4⟩ := lc_ex (as := as) (acc := acc ++ [en o]) h2 (fun c hc => h c (List.mem_cons_of_mem _ hc)) (by simp; omega)
    refine ⟨o :: out, b', ?_, g2, by simp [g3], fun q hq => ?_⟩
    · rw [List.map_cons, lcGo_cons fg ft fe vs _ _ _ _ _ _ h1 (by unfold lim; omega)]
      simp only [Option.toList]
      rw [g1]
      simp
    · rcases List.mem_cons.mp hq with z | z
      · rw [z]; exact h3
      · exact g4 q z
theorem lc_ex0 {α β γ : Type} {fg : Eg} {ft : Et} {fe : Ev} {vs : List Nat} {enc : α → D} {en : γ → D} {st : β → Rho} {P : β → Prop} {Q : γ → Prop} {as : List α} {b : β} (hb : P b) (h : ∀ a ∈ as, ∀ b, P b → ∃ o b', lcOne fg ft fe vs (enc a) (st b) = some (some (en o), st b') ∧ P b' ∧ Q o) (hl : as.length ≤ 1000000) :
    ∃ (out : List γ) (b' : β), lcGo fg ft fe vs (as.map enc) [] (st b) = some (out.map en, st b') ∧ P b' ∧ out.length = as.length ∧ ∀ o ∈ out, Q o := by
  obtain ⟨out, b', h1, h2, h3, h4⟩ := lc_ex (acc := []) hb h (by simpa using hl)
  exact ⟨out, b', by simpa using h1, h2, h3, h4⟩
structure Gr.wf (g : Gr) : Prop where
  ins : g.ins ≤ 3
  nregs : g.regs.length ≤ 3
  nands : g.ands.length ≤ 13
  ands : okAnds g.first g.ands
  regs : ∀ p ∈ g.regs, (p.1 = 0 ∨ p.1 = 1) ∧ 0 ≤ p.2 ∧ p.2 < 2 * (g.size : Int)
  outs : ∀ o ∈ g.outs, 0 ≤ o ∧ o < 2 * (g.size : Int)
  nouts : g.outs.length ≤ 5
theorem told_lc (n I R f m : Nat) (x6 : D) (hm : 1 ≤ m) (hm2 : m ≤ 100) (s : Sr) (hs : s.c.length ≤ 63) (hR : R ≤ 3) : ∃ (out : List (Int × Int)) (s' : Sr), lcGo (gSet 14) fYes (opN kTup (aCons (fCall F__law_pick [some 0, none] (aOwn (aCons (fC (.int 2)) aNil))) (aCons (fCall F__law_draw_literal [some 0, none] (aOwn (aCons (fName 10) aNil))) aNil))) [14] (rangeD 0 (R : Int)) [] [s.enc, .int 3, .int 3, .int 9, .int I, .int n, x6, .int f, .dead, .dead, .int m, .dead, .dead, .dead, .dead] = some (out.map pr, [s'.enc, .int 3, .int 3, .int 9, .int I, .int n, x6, .int f, .dead, .dead, .int m, .dead, .dead, .dead, .dead]) ∧ s'.c.length ≤ 63 ∧ out.length = R ∧ ∀ p ∈ out, (p.1 = 0 ∨ p.1 = 1) ∧ 0 ≤ p.2 ∧ p.2 < 2 * (m : Int) := by
  rw [rangeD_map]
  obtain ⟨out, s', h1, h2, h3, h4⟩ := lc_ex0 (α := Nat) (β := Sr) (γ := Int × Int) (as := List.range R) (enc := fun i => D.int ((i : Nat) : Int)) (en := pr) (b := s) (st := fun s => [s.enc, .int 3, .int 3, .int 9, .int I, .int n, x6, .int f, .dead, .dead, .int m, .dead, .dead, .dead, .dead]) (P := fun s => s.c.length ≤ 63) (Q := fun p => (p.1 = 0 ∨ p.1 = 1) ∧ 0 ≤ p.2 ∧ p.2 < 2 * (m : Int)) hs (fun a _ b hb => by
    obtain ⟨v1, s1, a1, b1, c1, d1⟩ := f_pick1 b hb 2 (by omega) (by omega)
    obtain ⟨v2, s2, a2, b2, c2, d2⟩ := f_draw s1 d1 (m : Nat) (by omega) (by omega)
    refine ⟨(v1, v2), s2, ?_, d2, by omega, b2, c2⟩
    simp only [Sr.enc] at a1 a2 ⊢
    simp [lcOne, a1, a2, pr, sSeq, sNil, sSet, sSetO, sIf, sRet, sRetS, sRetN, sExpr, sFor, sPar, sAsg, sDrop, sPass, sBrk, sCnt, funF, fName, slot, fC, op1, op2, opN, aNil, aCons, aOwn, fCall, fillA, backA, eIf, eAnd, eOr, eNot, eView, tB, tNotF, tAndF, tOrF, tView, mask, maskFrom, wipeD, gSet, gsCons, gsNil, gTupF, setsD, iLst, iTupF, iScr, iRange1, iRange2, iEnumT, iEnumL, kAdd, kSub, kDiv, kMod, kII, kIC, kNeg, kLt, kLe, kGt, kGe, kTup, kLst, kLen, kAbs, kInt, kMax2, kMin2, kXor, kAnd, kIx, kTuple, kList, kCat, fOwn, fOwn0, tyD, kAppend, fSrc, fSrc_left, fSrc_mixed, fSrc_turn, fSrcLen, fSrcPop, sSrcPut, sSrcPut_left, sSrcPut_mixed, sSrcPut_turn, fLc, fDc, iKeysD, fYes, fDIn, kDVal, keyD, kRevL, kEqI, kNeI, lim]) (by simp; omega) (fg := gSet 14) (ft := fYes) (fe := opN kTup (aCons (fCall F__law_pick [some 0, none] (aOwn (aCons (fC (.int 2)) aNil))) (aCons (fCall F__law_draw_literal [some 0, none] (aOwn (aCons (fName 10) aNil))) aNil))) (vs := [14])
  exact ⟨out, s', h1, h2, by simpa using h3, h4⟩
theorem outs_lc (n I R f m : Nat) (x6 x11 : D) (hm : 1 ≤ m) (hm2 : m ≤ 100) (s : Sr) (hs : s.c.length ≤ 63) (hR : R ≤ 5) : ∃ (out : List Int) (s' : Sr), lcGo (gSet 14) fYes (fCall F__law_draw_literal [some 0, none] (aOwn (aCons (fName 10) aNil))) [14] (rangeD 0 (R : Int)) [] [s.enc, .int 3, .int 3, .int 9, .int I, .int n, x6, .int f, .dead, .dead, .int m, x11, .dead, .dead, .dead] = some (out.map D.int, [s'.enc, .int 3, .int 3, .int 9, .int I, .int n, x6, .int f, .dead, .dead, .int m, x11, .dead, .dead, .dead]) ∧ s'.c.length ≤ 63 ∧ out.length = R ∧ ∀ p ∈ out, 0 ≤ p ∧ p < 2 * (m : Int) := by
  rw [rangeD_map]
  obtain ⟨out, s', h1, h2, h3, h4⟩ := lc_ex0 (α := Nat) (β := Sr) (γ := Int) (as := List.range R) (enc := fun i => D.int ((i : Nat) : Int)) (en := D.int) (b := s) (st := fun s => [s.enc, .int 3, .int 3, .int 9, .int I, .int n, x6, .int f, .dead, .dead, .int m, x11, .dead, .dead, .dead]) (P := fun s => s.c.length ≤ 63) (Q := fun p => 0 ≤ p ∧ p < 2 * (m : Int)) hs (fun a _ b hb => by
    obtain ⟨v2, s2, a2, b2, c2, d2⟩ := f_draw b hb (m : Nat) (by omega) (by omega)
    refine ⟨v2, s2, ?_, d2, b2, c2⟩
    simp only [Sr.enc] at a2 ⊢
    simp [lcOne, a2, sSeq, sNil, sSet, sSetO, sIf, sRet, sRetS, sRetN, sExpr, sFor, sPar, sAsg, sDrop, sPass, sBrk, sCnt, funF, fName, slot, fC, op1, op2, opN, aNil, aCons, aOwn, fCall, fillA, backA, eIf, eAnd, eOr, eNot, eView, tB, tNotF, tAndF, tOrF, tView, mask, maskFrom, wipeD, gSet, gsCons, gsNil, gTupF, setsD, iLst, iTupF, iScr, iRange1, iRange2, iEnumT, iEnumL, kAdd, kSub, kDiv, kMod, kII, kIC, kNeg, kLt, kLe, kGt, kGe, kTup, kLst, kLen, kAbs, kInt, kMax2, kMin2, kXor, kAnd, kIx, kTuple, kList, kCat, fOwn, fOwn0, tyD, kAppend, fSrc, fSrc_left, fSrc_mixed, fSrc_turn, fSrcLen, fSrcPop, sSrcPut, sSrcPut_left, sSrcPut_mixed, sSrcPut_turn, fLc, fDc, iKeysD, fYes, fDIn, kDVal, keyD, kRevL, kEqI, kNeI, lim]) (by simp; omega) (fg := gSet 14) (ft := fYes) (fe := fCall F__law_draw_literal [some 0, none] (aOwn (aCons (fName 10) aNil))) (vs := [14])
  exact ⟨out, s', h1, h2, by simpa using h3, h4⟩
end Bl

set_option Elab.async false
set_option linter.all false
set_option maxRecDepth 100000
set_option maxHeartbeats 4000000
namespace Bl
open PySem PySem.Spec PyProof.Rows L2
theorem laps (I R f L : Nat) (hf : 1 ≤ f) (hf2 : f ≤ 10) (hL : L ≤ 9) (s : Sr) (hs : s.c.length ≤ 63) : ∃ (al : List (Int × Int)) (s' : Sr), forGo (gSet 8) lapF (rangeD 0 (L : Int)) [s.enc, .int 3, .int 3, .int 9, .int I, .int R, .dit [], .int f, .dead, .dead, .dead, .dead, .dead, .dead, .dead] = some (.nx [s'.enc, .int 3, .int 3, .int 9, .int I, .int R, .dit (al.map kPair), .int f, .dead, .dead, .dead, .dead, .dead, .dead, .dead]) ∧ s'.c.length ≤ 63 ∧ al.length ≤ 9 ∧ okAnds f al := by
  rw [rangeD_map]
  obtain ⟨⟨s', al⟩, h1, h2, h3, h4⟩ := for_left (fg := gSet 8) (F := lapF) (enc := fun i : Nat => D.int ((i : Nat) : Int)) (st := lapSt I R f) (P := lapP f) (fun a n b hb => lap_one I R f hf hf2 a n b hb) (as := List.range L) (b := (s, [])) ⟨hs, by simp; omega, trivial⟩
  exact ⟨al, s', h1, h2, by simpa using h3, h4⟩
theorem keys_pairs (al : List (Int × Int)) : (al.map kPair).map (fun kv => D.tup (kv.1.map keyDat)) = al.map pr := by
  rw [List.map_map]
  rfl
theorem f_draw_graph (s : Sr) (hs : s.c.length ≤ 63) : ∃ (g : Gr) (s' : Sr), F__law_draw_graph [s.enc, .int 3, .int 3, .int 9] = some (g.enc, [s'.enc, .dead, .dead, .dead]) ∧ g.wf ∧ s'.c.length ≤ 63 ∧ g.ands.length ≤ 9 ∧ g.outs.length ≤ 4 := by
  obtain ⟨I', s1, a1, b1, c1, d1⟩ := f_pick1 s hs 4 (by omega) (by omega)
  obtain ⟨I, rfl⟩ : ∃ I : Nat, I' = I := ⟨I'.toNat, by omega⟩
  obtain ⟨R', s2, a2, b2, c2, d2⟩ := f_pick1 s1 d1 4 (by omega) (by omega)
  obtain ⟨R, rfl⟩ : ∃ R : Nat, R' = R := ⟨R'.toNat, by omega⟩
  have hL : ∃ (L : Nat) (s3 : Sr), L ≤ 9 ∧ s3.c.length ≤ 63 ∧ eIf (tB (op2 kGt (fName 7) (fC (.int 2)))) (fCall F__law_pick [some 0, none] (aOwn (aCons (op2 kAdd (fName 3) (fC (.int 1))) aNil))) (fC (.int 0)) [s2.enc, .int 3, .int 3, .int 9, .int I, .int R, .dit [], .int ((1 + I + R : Nat) : Int), .dead, .dead, .dead, .dead, .dead, .dead, .dead] = some (.int L, [s3.enc, .int 3, .int 3, .int 9, .int I, .int R, .dit [], .int ((1 + I + R : Nat) : Int), .dead, .dead, .dead, .dead, .dead, .dead, .dead]) := by
    by_cases h : (2 : Int) < ((1 + I + R : Nat) : Int)
    · obtain ⟨v, s3, a3, b3, c3, d3⟩ := f_pick1 s2 d2 10 (by omega) (by omega)
      refine ⟨v.toNat, s3, by omega, d3, ?_⟩
      have e : ((v.toNat : Nat) : Int) = v := by omega
      rw [e]
      simp only [Sr.enc] at a3 ⊢
      generalize ((1 + I + R : Nat) : Int) = F at h ⊢
      simp [a3, h, sSeq, sNil, sSet, sSetO, sIf, sRet, sRetS, sRetN, sExpr, sFor, sPar, sAsg, sDrop, sPass, sBrk, sCnt, funF, fName, slot, fC, op1, op2, opN, aNil, aCons, aOwn, fCall, fillA, backA, eIf, eAnd, eOr, eNot, eView, tB, tNotF, tAndF, tOrF, tView, mask, maskFrom, wipeD, gSet, gsCons, gsNil, gTupF, setsD, iLst, iTupF, iScr, iRange1, iRange2, iEnumT, iEnumL, kAdd, kSub, kDiv, kMod, kII, kIC, kNeg, kLt, kLe, kGt, kGe, kTup, kLst, kLen, kAbs, kInt, kMax2, kMin2, kXor, kAnd, kIx, kTuple, kList, kCat, fOwn, fOwn0, tyD, kAppend, fSrc, fSrc_left, fSrc_mixed, fSrc_turn, fSrcLen, fSrcPop, sSrcPut, sSrcPut_left, sSrcPut_mixed, sSrcPut_turn, fLc, fDc, iKeysD, fYes, fDIn, kDVal, keyD, kRevL, kEqI, kNeI, lim]
    · refine ⟨0, s2, by omega, d2, ?_⟩
      simp only [Sr.enc]
      generalize ((1 + I + R : Nat) : Int) = F at h ⊢
      simp [h, sSeq, sNil, sSet, sSetO, sIf, sRet, sRetS, sRetN, sExpr, sFor, sPar, sAsg, sDrop, sPass, sBrk, sCnt, funF, fName, slot, fC, op1, op2, opN, aNil, aCons, aOwn, fCall, fillA, backA, eIf, eAnd, eOr, eNot, eView, tB, tNotF, tAndF, tOrF, tView, mask, maskFrom, wipeD, gSet, gsCons, gsNil, gTupF, setsD, iLst, iTupF, iScr, iRange1, iRange2, iEnumT, iEnumL, kAdd, kSub, kDiv, kMod, kII, kIC, kNeg, kLt, kLe, kGt, kGe, kTup, kLst, kLen, kAbs, kInt, kMax2, kMin2, kXor, kAnd, kIx, kTuple, kList, kCat, fOwn, fOwn0, tyD, kAppend, fSrc, fSrc_left, fSrc_mixed, fSrc_turn, fSrcLen, fSrcPop, sSrcPut, sSrcPut_left, sSrcPut_mixed, sSrcPut_turn, fLc, fDc, iKeysD, fYes, fDIn, kDVal, keyD, kRevL, kEqI, kNeI, lim]
  obtain ⟨L, s3, hL1, d3, a3⟩ := hL
  obtain ⟨al, s4, a4, d4, l4, ok4⟩ := laps I R (1 + I + R) L (by omega) (by omega) hL1 s3 d3
  obtain ⟨told, s5, a5, d5, l5, q5⟩ := told_lc R I R (1 + I + R) (1 + I + R + al.length) (.dit (al.map kPair)) (by omega) (by omega) s4 d4 (by omega)
  obtain ⟨O', s6, a6, b6, c6, d6⟩ := f_pick1 s5 d5 4 (by omega) (by omega)
  obtain ⟨O, rfl⟩ : ∃ O : Nat, O' = O := ⟨O'.toNat, by omega⟩
  obtain ⟨outs, s7, a7, d7, l7, q7⟩ := outs_lc R I (1 + O) (1 + I + R) (1 + I + R + al.length) (.dit (al.map kPair)) (.tup (told.map pr)) (by omega) (by omega) s6 d6 (by omega)
  refine ⟨⟨I, told, al, outs⟩, s7, ?_, ⟨by simp; omega, by simp; omega, by simp; omega, ?_, ?_, ?_, by simp; omega⟩, d7, l4, by simp; omega⟩
  · have i1 := in62_nat (n := L) (by omega)
    have i2 := in62_nat (n := R) (by omega)
    have i3 := in62_nat (n := 1 + O) (by omega)
    have k1 := keys_pairs al
    have hal : al.length ≤ 1000000 := by omega
    have c1 : ((1 + I + R + al.length : Nat) : Int) = 1 + (I : Int) + (R : Int) + (al.length : Int) := by omega
    have c2 : ((1 + I + R : Nat) : Int) = 1 + (I : Int) + (R : Int) := by omega
    have c3 : ((1 + O : Nat) : Int) = 1 + (O : Int) := by omega
    rw [c2] at a3 a4
    rw [c1, c2] at a5 a7
    rw [c3] at a7 i3
    simp only [Sr.enc] at a1 a2 a3 a4 a5 a6 a7 ⊢
    simp only [F__law_draw_graph, Gr.enc]
    generalize hE : eIf (tB (op2 kGt (fName 7) (fC (.int 2)))) (fCall F__law_pick [some 0, none] (aOwn (aCons (op2 kAdd (fName 3) (fC (.int 1))) aNil))) (fC (.int 0)) = E at a3 ⊢
    delta lapF at a4
    generalize hLap : sDrop [8, 9] (sSeq (sSet 9 (opN kTuple (aCons (opN kSorted (aCons (fLc (iRange1 (aCons (fC (.int 2)) aNil)) (gSet 13) fYes (fCall F__law_draw_literal [some 0, none] (aOwn (aCons (eView false (op2 kAdd (fName 7) (opN kLenD (aCons (fName 6) aNil)))) aNil))) [13]) aNil)) aNil))) (sIf (tAndF (tB (op2 kGt (op2 kIx (fName 9) (fC (.int 0))) (fC (.int 1)))) (tB (op2 (kEqD true) (op2 kDiv (op2 kIx (fName 9) (fC (.int 0))) (fC (.int 2))) (op2 kDiv (op2 kIx (fName 9) (fC (.int 1))) (fC (.int 2)))))) (sDPutF 6 (fC (.bl true)) (fName 9)) sNil)) = LF at a4 ⊢
    simp [a1, a2, a3, a4, a5, a6, a7, i1, i2, i3, k1, hal, kLenD, kKeys, D.flat, sSeq, sNil, sSet, sSetO, sIf, sRet, sRetS, sRetN, sExpr, sFor, sPar, sAsg, sDrop, sPass, sBrk, sCnt, funF, fName, slot, fC, op1, op2, opN, aNil, aCons, aOwn, fCall, fillA, backA, eIf, eAnd, eOr, eNot, eView, tB, tNotF, tAndF, tOrF, tView, mask, maskFrom, wipeD, gSet, gsCons, gsNil, gTupF, setsD, iLst, iTupF, iScr, iRange1, iRange2, iEnumT, iEnumL, kAdd, kSub, kDiv, kMod, kII, kIC, kNeg, kLt, kLe, kGt, kGe, kTup, kLst, kLen, kAbs, kInt, kMax2, kMin2, kXor, kAnd, kIx, kTuple, kList, kCat, fOwn, fOwn0, tyD, kAppend, fSrc, fSrc_left, fSrc_mixed, fSrc_turn, fSrcLen, fSrcPop, sSrcPut, sSrcPut_left, sSrcPut_mixed, sSrcPut_turn, fLc, fDc, iKeysD, fYes, fDIn, kDVal, keyD, kRevL, kEqI, kNeI, lim, -List.map_map]
  · simpa [Gr.first, l5] using ok4
  · simpa [Gr.size, Gr.first, l5] using q5
  · simpa [Gr.size, Gr.first, l5] using q7
end Bl

set_option Elab.async false
set_option linter.all false
set_option maxRecDepth 100000
set_option maxHeartbeats 4000000
namespace Bl
open PySem PySem.Spec PyProof.Rows L2
theorem xor_one (l : Int) : Builtin.bitXor l 1 = l + 1 - 2 * (l % 2) := by
  rw [bitXor_and, bitAnd_m1]
theorem okAnds_app : ∀ (a b : List (Int × Int)) (f : Nat), okAnds f a → okAnds (f + a.length) b → okAnds f (a ++ b)
  | [], b, f, _, h => by simpa using h
  | p :: a, b, f, h, hb => ⟨h.1, okAnds_app a b (f + 1) h.2 (by rw [List.length_cons] at hb; rw [show f + 1 + a.length = f + (a.length + 1) by omega]; exact hb)⟩
def extra (l : Int) : List (Int × Int) := [(l, l), (l, Builtin.bitXor l 1), (l, 0), (1, l)]
theorem okAnds_extra (l : Int) (f : Nat) (k : Nat) (hk : k ≤ 4) (hf : 1 ≤ f) (h0 : 0 ≤ l) (h1 : l < 2 * (f : Int)) : okAnds f ((extra l).take k) := by
  have hx := xor_one l
  have : k = 0 ∨ k = 1 ∨ k = 2 ∨ k = 3 ∨ k = 4 := by omega
  rcases this with rfl | rfl | rfl | rfl | rfl <;> simp [extra, okAnds] <;> omega
theorem cut_extra (l : Int) (v : Nat) (hv : v < 4) : cutD ((extra l).map pr) none (some (1 + (v : Int))) = ((extra l).take (1 + v)).map pr := by
  have : v = 0 ∨ v = 1 ∨ v = 2 ∨ v = 3 := by omega
  rcases this with rfl | rfl | rfl | rfl <;> rfl
theorem f_rough (s : Sr) (hs : s.c.length ≤ 63) : ∃ (g : Gr) (s' : Sr), F__law_rough_graph [s.enc] = some (g.enc, [s'.enc]) ∧ g.wf ∧ s'.c.length ≤ 63 := by
  obtain ⟨g, s1, a1, w, d1, l1, l2⟩ := f_draw_graph s hs
  obtain ⟨v2, s2, a2, b2, c2, d2⟩ := f_pick1 s1 d1 2 (by omega) (by omega)
  have z1 := f_lsize g
  by_cases hv : v2 = 0
  · refine ⟨g, s2, ?_, w, d2⟩
    subst hv
    simp only [Sr.enc, Gr.enc] at a1 a2 ⊢
    simp [F__law_rough_graph, a1, a2, sSeq, sNil, sSet, sSetO, sIf, sRet, sRetS, sRetN, sExpr, sFor, sPar, sAsg, sDrop, sPass, sBrk, sCnt, funF, fName, slot, fC, op1, op2, opN, aNil, aCons, aOwn, fCall, fillA, backA, eIf, eAnd, eOr, eNot, eView, tB, tNotF, tAndF, tOrF, tView, mask, maskFrom, wipeD, gSet, gsCons, gsNil, gTupF, setsD, iLst, iTupF, iScr, iRange1, iRange2, iEnumT, iEnumL, kAdd, kSub, kDiv, kMod, kII, kIC, kNeg, kLt, kLe, kGt, kGe, kTup, kLst, kLen, kAbs, kInt, kMax2, kMin2, kXor, kAnd, kIx, kTuple, kList, kCat, fOwn, fOwn0, tyD, kAppend, fSrc, fSrc_left, fSrc_mixed, fSrc_turn, fSrcLen, fSrcPop, sSrcPut, sSrcPut_left, sSrcPut_mixed, sSrcPut_turn, fLc, fDc, iKeysD, fYes, fDIn, kDVal, keyD, kRevL, kEqI, kNeI, lim]
  · have w1 := w.ins
    have w2 := w.nregs
    have hsz : 1 ≤ g.size ∧ g.size ≤ 20 := by
      unfold Gr.size Gr.first
      omega
    obtain ⟨l, s3, a3, b3, c3, d3⟩ := f_pick1 s2 d2 (2 * g.size) (by omega) (by omega)
    obtain ⟨k', s4, a4, b4, c4, d4⟩ := f_pick1 s3 d3 4 (by omega) (by omega)
    obtain ⟨k, rfl⟩ : ∃ k : Nat, k' = k := ⟨k'.toNat, by omega⟩
    obtain ⟨v5, s5, a5, b5, c5, d5⟩ := f_pick1 s4 d4 1 (by omega) (by omega)
    have hv5 : v5 = 0 := by omega
    subst hv5
    have m2 : ∀ i, kMul (.int 2) (.int i) = some (.int (2 * i)) := fun i => kMul_l (by decide)
    have cu := cut_extra l k (by omega)
    have l3 : ((extra l).take (1 + k)).length = 1 + k := by
      rw [List.length_take]
      simp [extra]
      omega
    have l4 : g.ands.length + (1 + k) ≤ 1000000 := by omega
    have l5 : g.outs.length + 1 ≤ 1000000 := by omega
    refine ⟨⟨g.ins, g.regs, g.ands ++ (extra l).take (1 + k), g.outs ++ [2 * (g.size : Int)]⟩, s5, ?_, ⟨w1, w2, by
      show (g.ands ++ (extra l).take (1 + k)).length ≤ 13
      rw [List.length_append, l3]
      omega, ?_, ?_, ?_, by simp; omega⟩, d5⟩
    · generalize hE : (extra l).take (1 + k) = E at cu l3 ⊢
      have l6 : g.ands.length + E.length ≤ 1000000 := by rw [l3]; exact l4
      simp only [Sr.enc, Gr.enc, extra, List.map_cons, List.map_nil, pr] at a1 a2 a3 a4 a5 cu z1 ⊢
      simp [F__law_rough_graph, a1, a2, a3, a4, a5, z1, hv, m2, cu, l4, l5, l6, kSlT, op3, oNone, oSome, at0, at1, at2, at3, sSeq, sNil, sSet, sSetO, sIf, sRet, sRetS, sRetN, sExpr, sFor, sPar, sAsg, sDrop, sPass, sBrk, sCnt, funF, fName, slot, fC, op1, op2, opN, aNil, aCons, aOwn, fCall, fillA, backA, eIf, eAnd, eOr, eNot, eView, tB, tNotF, tAndF, tOrF, tView, mask, maskFrom, wipeD, gSet, gsCons, gsNil, gTupF, setsD, iLst, iTupF, iScr, iRange1, iRange2, iEnumT, iEnumL, kAdd, kSub, kDiv, kMod, kII, kIC, kNeg, kLt, kLe, kGt, kGe, kTup, kLst, kLen, kAbs, kInt, kMax2, kMin2, kXor, kAnd, kIx, kTuple, kList, kCat, fOwn, fOwn0, tyD, kAppend, fSrc, fSrc_left, fSrc_mixed, fSrc_turn, fSrcLen, fSrcPop, sSrcPut, sSrcPut_left, sSrcPut_mixed, sSrcPut_turn, fLc, fDc, iKeysD, fYes, fDIn, kDVal, keyD, kRevL, kEqI, kNeI, lim]
    · show okAnds g.first (g.ands ++ (extra l).take (1 + k))
      exact okAnds_app _ _ _ w.ands (okAnds_extra l _ _ (by omega) (by unfold Gr.first; omega) b3 (by simpa [Gr.size] using c3))
    · intro p hp
      have := w.regs p hp
      simp only [Gr.size, Gr.first, List.length_append] at this ⊢
      omega
    · intro o ho
      simp only [List.mem_append, List.mem_singleton] at ho
      simp only [Gr.size, Gr.first, List.length_append, l3]
      rcases ho with ho | ho
      · have := w.outs o ho
        simp only [Gr.size, Gr.first] at this
        omega
      · subst ho
        simp only [Gr.size, Gr.first]
        omega
end Bl

set_option Elab.async false
set_option linter.all false
set_option maxRecDepth 100000
set_option maxHeartbeats 4000000
namespace Bl
open PySem PySem.Spec PyProof.Rows L2
theorem ok_app {a b : Str} (ha : PyData.strOk a = true) (hb : PyData.strOk b = true) : PyData.strOk (a ++ b) = true := by
  unfold PyData.strOk at *
  show (a.cps ++ b.cps).all _ = true
  rw [Array.all_append, ha, hb]
  rfl
theorem ok_lit (s : String) : PyData.strOk (Str.ofString s) = true := by
  unfold PyData.strOk
  rw [Array.all_eq_true']
  intro x hx
  have : ∃ c : Char, x = c.toNat := by
    rw [Str.ofString_eq_toList] at hx
    simp at hx
    obtain ⟨c, _, e⟩ := hx
    exact ⟨c, e.symm⟩
  obtain ⟨c, rfl⟩ := this
  have hv := c.valid
  simp only [decide_eq_true_eq]
  rcases hv with h | ⟨_, h⟩
  · exact Nat.lt_trans h (by decide)
  · exact h
theorem ok_text : ∀ (ts : List Str) (k : Nat) (acc : Str), PyData.strOk acc = true → (∀ t ∈ ts, PyData.strOk t = true) → PyData.strOk (textFrom k acc ts) = true
  | [], _, _, h, _ => h
  | t :: r, k, acc, h, ht => by
    unfold textFrom
    exact ok_text r (k + 1) _ (ok_app (ok_app h (ok_lit _)) (ht t (List.mem_cons_self ..))) fun x hx => ht x (List.mem_cons_of_mem _ hx)
theorem ok_list {ts : List Str} (h : ∀ t ∈ ts, PyData.strOk t = true) : PyData.strOk (listText ts) = true := ok_app (ok_text _ _ _ (ok_lit _) h) (ok_lit _)
theorem ok_int (i : Int) : PyData.strOk (PyData.shown (.int i)) = true := ok_lit _
theorem ok_join : ∀ ts : List Str, (∀ t ∈ ts, PyData.strOk t = true) → PyData.strOk (Str.join (Str.ofString ", ") ts) = true
  | [], _ => by
    show (#[] : Array Nat).all _ = true
    simp
  | [x], h => h x (List.mem_cons_self ..)
  | x :: y :: r, h => by
    unfold Str.join
    exact ok_app (ok_app (h x (List.mem_cons_self ..)) (ok_lit _)) (ok_join (y :: r) fun t ht => h t (List.mem_cons_of_mem _ ht))
theorem ok_tuple {ts : List Str} (h : ∀ t ∈ ts, PyData.strOk t = true) : PyData.strOk (tupleText ts) = true := ok_app (ok_app (ok_lit _) (ok_join ts h)) (ok_lit _)
theorem ok_ints : ∀ (ks : List Int) (t : Str), t ∈ PyData.shownAll (ks.map PyData.int) → PyData.strOk t = true
  | k :: r, t, h => by
    simp only [List.map_cons, PyData.shownAll] at h
    rcases List.mem_cons.mp h with z | z
    · rw [z]; exact ok_int k
    · exact ok_ints r t z
end Bl

set_option Elab.async false
set_option linter.all false
set_option maxRecDepth 100000
set_option maxHeartbeats 4000000
namespace Bl
open PySem PySem.Spec PyProof.Rows L2
/-- a clause of small numbers -/
def Sm (d : D) : Prop := ∃ ks : List Int, d = .tup (ks.map D.int) ∧ ks.length ≤ 4 ∧ ∀ k ∈ ks, k.natAbs < 10 ^ 12
theorem isds_ints : ∀ ks : List Int, isds (ks.map D.int) = true
  | [] => rfl
  | k :: r => by simp [isds, D.isd, isds_ints r]
theorem pys_ints : ∀ ks : List Int, pys (ks.map D.int) = ks.map PyData.int
  | [] => rfl
  | k :: r => by simp [pys, D.py, pys_ints r]
theorem log2_small {n : Nat} (h : n < 10 ^ 12) : n.log2 < 1920 := by
  by_cases h0 : n = 0
  · subst h0; decide
  · exact (Nat.log2_lt h0).mpr (Nat.lt_of_lt_of_le h (Nat.le_trans (show 10 ^ 12 ≤ 2 ^ 40 by decide) (Nat.pow_le_pow_right (by omega) (by omega))))
theorem ints_py : ∀ ks : List Int, (∀ k ∈ ks, k.natAbs < 10 ^ 12) → PyData.showableAll (ks.map PyData.int) = true ∧ PyData.hasDictAll (ks.map PyData.int) = false ∧ PyData.depthAll (ks.map PyData.int) = 0 ∧ PyData.leavesShortAll 13 (ks.map PyData.int) = true ∧ PyData.bulkAll (ks.map PyData.int) = ks.length
  | [], _ => ⟨rfl, rfl, rfl, rfl, rfl⟩
  | k :: r, h => by
    obtain ⟨a, b, c, d, e⟩ := ints_py r fun x hx => h x (List.mem_cons_of_mem _ hx)
    have hk := h k (List.mem_cons_self ..)
    have h1 := log2_small hk
    have h2 := PyData.shown_int_le hk
    refine ⟨?_, ?_, ?_, ?_, ?_⟩
    · simp only [List.map_cons, PyData.showableAll, PyData.showable, a, decide_eq_true h1, Bool.and_self]
    · simp only [List.map_cons, PyData.hasDictAll, PyData.hasDict, b, Bool.or_self]
    · simp only [List.map_cons, PyData.depthAll, PyData.depth, c, Nat.max_self]
    · simp only [List.map_cons, PyData.leavesShortAll, PyData.leavesShort, d, decide_eq_true h2, Bool.and_self]
    · simp only [List.map_cons, PyData.bulkAll, PyData.bulk, e, List.length_cons]
      omega
theorem sm_all : ∀ cs : List D, (∀ d ∈ cs, Sm d) → isds cs = true ∧ PyData.showableAll (pys cs) = true ∧ PyData.hasDictAll (pys cs) = false ∧ PyData.depthAll (pys cs) ≤ 1 ∧ PyData.leavesShortAll 13 (pys cs) = true ∧ PyData.bulkAll (pys cs) ≤ 5 * cs.length
  | [], _ => ⟨rfl, rfl, rfl, by simp [pys, PyData.depthAll], rfl, by simp [pys, PyData.bulkAll]⟩
  | x :: r, h => by
    obtain ⟨z, a, b, c, d, e⟩ := sm_all r fun y hy => h y (List.mem_cons_of_mem _ hy)
    obtain ⟨ks, rfl, hl, hk⟩ := h x (List.mem_cons_self ..)
    obtain ⟨a1, b1, c1, d1, e1⟩ := ints_py ks hk
    have e0 : pys (D.tup (ks.map D.int) :: r) = PyData.tuple (ks.map PyData.int) :: pys r := by rw [pys, D.py, pys_ints]
    rw [e0]
    refine ⟨?_, ?_, ?_, ?_, ?_, ?_⟩
    · simp only [isds, D.isd, isds_ints, z, Bool.and_self]
    · simp only [PyData.showableAll, PyData.showable, a1, a, Bool.and_self]
    · simp only [PyData.hasDictAll, PyData.hasDict, b1, b, Bool.or_self]
    · simp only [PyData.depthAll, PyData.depth, c1]
      omega
    · simp only [PyData.leavesShortAll, PyData.leavesShort, d1, d, Bool.and_self]
    · simp only [PyData.bulkAll, PyData.bulk, e1, List.length_cons]
      omega
theorem ok_sm : ∀ cs : List D, (∀ d ∈ cs, Sm d) → ∀ t ∈ PyData.shownAll (pys cs), PyData.strOk t = true
  | x :: r, h, t, ht => by
    obtain ⟨ks, rfl, _, _⟩ := h x (List.mem_cons_self ..)
    have e0 : pys (D.tup (ks.map D.int) :: r) = PyData.tuple (ks.map PyData.int) :: pys r := by rw [pys, D.py, pys_ints]
    rw [e0, PyData.shownAll] at ht
    rcases List.mem_cons.mp ht with z | z
    · rw [z, PyData.shown]
      exact ok_tuple (ok_ints ks)
    · exact ok_sm r (fun y hy => h y (List.mem_cons_of_mem _ hy)) t z
theorem ne_str {t : Str} (h : PyData.strOk t = true) : kEqD true (.str t) (.str t) = some (.bl false) := by
  have h1 : (D.str t).isd = true := rfl
  have h2 : SeqAt.shaped (D.str t).py = true := by
    rw [D.py]
    unfold SeqAt.shaped
    rw [PyData.canLay0, h]
    rfl
  have h3 : PyData.eqv (D.str t).py (D.str t).py = true := by rw [D.py]; simp [PyData.eqv]
  show (if (D.str t).isd && (D.str t).isd && SeqAt.shaped (D.str t).py && SeqAt.shaped (D.str t).py then some (D.bl (!PyData.eqv (D.str t).py (D.str t).py)) else none) = _
  rw [h1, h2, h3]
  rfl
theorem repr_sm (cs : List D) (h : ∀ d ∈ cs, Sm d) (hl : cs.length ≤ 10000) : ∃ t, kRepr (.lst cs) = some (.str t) ∧ kEqD true (.str t) (.str t) = some (.bl false) := by
  obtain ⟨z, a, b, c, d, e⟩ := sm_all cs h
  refine ⟨(D.lst cs).py.shown, ?_, ne_str ?_⟩
  · unfold kRepr
    have q1 : (D.lst cs).isd = true := z
    have q2 : (D.lst cs).py.showable = true := by rw [D.py]; exact a
    have q3 : (D.lst cs).py.hasDict = false := by rw [D.py]; exact b
    have q4 : (D.lst cs).py.depth ≤ 50 := by rw [D.py]; simp only [PyData.depth]; omega
    have q5 : (D.lst cs).py.leavesShort 13 = true := by rw [D.py]; exact d
    have q6 : (D.lst cs).py.bulk ≤ 2 ^ 20 := by rw [D.py]; simp only [PyData.bulk]; omega
    simp only [q1, q2, q3, q5, decide_eq_true q4, decide_eq_true q6, Bool.not_false, Bool.and_self, if_true]
  · rw [D.py, PyData.shown]
    exact ok_list (ok_sm cs h)
theorem repr_int (i : Int) (h : i.natAbs < 2 ^ 64) : ∃ t, kRepr (.int i) = some (.str t) ∧ kEqD true (.str t) (.str t) = some (.bl false) :=
  ⟨_, if_pos h, ne_str (ok_lit _)⟩
end Bl

set_option Elab.async false
set_option linter.all false
set_option maxRecDepth 100000
set_option maxHeartbeats 4000000
namespace Bl
open PySem PySem.Spec PyProof.Rows L2
theorem clause_sm {ks : List Int} (h : ks.length ≤ 4) (hk : ∀ k ∈ ks, k.natAbs < 10 ^ 12) : ∀ d ∈ clauseOf ks, Sm d := by
  intro d hd
  unfold clauseOf at hd
  split at hd
  · rw [List.mem_singleton] at hd
    refine ⟨sortA (ded ks), hd, ?_, fun k q => hk k ((ded_mem ks k).mp ((sortA_perm _).mem_iff.mp q))⟩
    rw [(sortA_perm _).length_eq]
    have := fold_len ks []
    unfold ded
    simp at this
    omega
  · cases hd
theorem far_small {l s : Int} (h : l.natAbs < 100000) (hs : s.natAbs < 100000) : (far l s).natAbs < 1000000 := by
  unfold far
  split <;> omega
theorem andC_sm {y a b : Int} (hy : y.natAbs < 1000000) (ha : a.natAbs < 1000000) (hb : b.natAbs < 1000000) : ∀ d ∈ andC y a b, Sm d := by
  intro d hd
  simp only [andC, List.mem_append] at hd
  rcases hd with hd | hd | hd
  · exact clause_sm (by simp) (by simp; omega) d hd
  · exact clause_sm (by simp) (by simp; omega) d hd
  · exact clause_sm (by simp) (by simp; omega) d hd
theorem sameC_sm {a b : Int} (ha : a.natAbs < 1000000) (hb : b.natAbs < 1000000) : ∀ d ∈ sameC a b, Sm d := by
  intro d hd
  simp only [sameC, List.mem_append] at hd
  rcases hd with hd | hd
  · exact clause_sm (by simp) (by simp; omega) d hd
  · exact clause_sm (by simp) (by simp; omega) d hd
theorem andsC_sm (f s : Int) (hf : f.natAbs < 1000) (hs : s.natAbs < 10000) : ∀ (l : List (Int × Int)) (k : Nat), k + l.length < 1000 → (∀ p ∈ l, p.1.natAbs < 1000 ∧ p.2.natAbs < 1000) → ∀ d ∈ andsC f s k l, Sm d
  | [], _, _, _ => by simp [andsC]
  | p :: r, k, hk, hp => by
    intro d hd
    simp only [List.length_cons] at hk
    simp only [andsC, List.mem_append] at hd
    obtain ⟨h1, h2⟩ := hp p (List.mem_cons_self ..)
    rcases hd with hd | hd
    · exact andC_sm (by omega) (far_small (by omega) (by omega)) (far_small (by omega) (by omega)) d hd
    · exact andsC_sm f s hf hs r (k + 1) (by omega) (fun q hq => hp q (List.mem_cons_of_mem _ hq)) d hd
theorem okAnds_mem : ∀ (l : List (Int × Int)) (f : Nat), okAnds f l → ∀ p ∈ l, 0 ≤ p.1 ∧ 0 ≤ p.2 ∧ p.1 < 2 * ((f + l.length : Nat) : Int) ∧ p.2 < 2 * ((f + l.length : Nat) : Int)
  | q :: r, f, h, p, hp => by
    obtain ⟨h1, h2⟩ := h
    rw [List.length_cons]
    rcases List.mem_cons.mp hp with z | z
    · subst z; omega
    · have := okAnds_mem r (f + 1) h2 p z
      omega
theorem Gr.wf.small {g : Gr} (w : g.wf) : 1 ≤ g.first ∧ g.first ≤ 7 ∧ g.size ≤ 20 ∧ g.first ≤ g.size := by
  have w1 := w.ins
  have w2 := w.nregs
  have w3 := w.nands
  unfold Gr.size Gr.first
  omega
theorem graphC_sm {g : Gr} (w : g.wf) {s : Int} (hs : s.natAbs < 1000) : ∀ d ∈ graphC g s, Sm d := by
  intro d hd
  obtain ⟨_, h1, h2, h3⟩ := w.small
  have w3 := w.nands
  unfold graphC at hd
  rcases List.mem_cons.mp hd with z | z
  · exact ⟨[-1 - s], z, by simp, by simp; omega⟩
  · refine andsC_sm g.first s (by omega) (by omega) g.ands 0 (by omega) (fun p hp => ?_) d z
    have := okAnds_mem g.ands g.first w.ands p hp
    omega
theorem regsC_sm {g : Gr} (w : g.wf) (c : Nat) (hc : c < 10) : ∀ (l : List (Int × Int)) (k : Nat), k + l.length ≤ 3 → (∀ p ∈ l, 0 ≤ p.2 ∧ p.2 < 2 * (g.size : Int)) → ∀ d ∈ regsC g c k l, Sm d
  | [], _, _, _ => by simp [regsC]
  | p :: r, k, hk, hp => by
    intro d hd
    simp only [List.length_cons] at hk
    obtain ⟨_, h1, h2, h3⟩ := w.small
    have w1 := w.ins
    obtain ⟨q1, q2⟩ := hp p (List.mem_cons_self ..)
    have m1 : (c : Int) * g.size ≤ 10 * 20 := Int.mul_le_mul (by omega) (by omega) (by omega) (by omega)
    have m0 : 0 ≤ (c : Int) * g.size := Int.mul_nonneg (by omega) (by omega)
    have m2 : ((c : Int) - 1) * g.size = c * g.size - g.size := by rw [Int.sub_mul, Int.one_mul]
    simp only [regsC, List.mem_append] at hd
    rcases hd with hd | hd
    · refine sameC_sm ?_ (far_small (by omega) (by omega)) d hd
      unfold regL
      omega
    · exact regsC_sm w c hc r (k + 1) (by omega) (fun q hq => hp q (List.mem_cons_of_mem _ hq)) d hd
theorem stepC_sm {g : Gr} (w : g.wf) (c : Nat) (hc : c < 10) : ∀ d ∈ stepC g c, Sm d := by
  intro d hd
  obtain ⟨_, h1, h2, h3⟩ := w.small
  have m1 : (c : Int) * g.size ≤ 10 * 20 := Int.mul_le_mul (by omega) (by omega) (by omega) (by omega)
  have m0 : 0 ≤ (c : Int) * g.size := Int.mul_nonneg (by omega) (by omega)
  simp only [stepC, List.mem_append] at hd
  rcases hd with hd | hd
  · exact graphC_sm w (by omega) d hd
  · refine regsC_sm w c hc _ 0 ?_ ?_ d hd
    · have := w.nregs
      split <;> simp <;> omega
    · intro p hp
      split at hp
      · exact (w.regs p hp).2
      · cases hp
theorem unrollC_sm {g : Gr} (w : g.wf) : ∀ (n k : Nat), k + n ≤ 10 → ∀ d ∈ unrollC g k n, Sm d
  | 0, _, _ => by simp [unrollC]
  | n + 1, k, h => by
    intro d hd
    simp only [unrollC, List.mem_append] at hd
    rcases hd with hd | hd
    · exact stepC_sm w k (by omega) d hd
    · exact unrollC_sm w n (k + 1) (by omega) d hd
end Bl

set_option Elab.async false
set_option linter.all false
set_option maxRecDepth 100000
set_option maxHeartbeats 4000000
namespace Bl
open PySem PySem.Spec PyProof.Rows L2
def Bit (v : Int) : Prop := v = 0 ∨ v = 1
/-- the value of a literal -/
def litV (vs : List Int) (l : Int) : Int := if l % 2 = 0 then vs.getD (l / 2).toNat 0 else 1 - vs.getD (l / 2).toNat 0
theorem getD_bit {vs : List Int} (h : ∀ v ∈ vs, Bit v) (i : Nat) : Bit (vs.getD i 0) := by
  rw [List.getD_eq_getElem?_getD]
  cases e : vs[i]? with
  | none => exact .inl rfl
  | some x => exact h x (List.mem_of_getElem? e)
theorem litV_bit {vs : List Int} (h : ∀ v ∈ vs, Bit v) (l : Int) : Bit (litV vs l) := by
  have := getD_bit h (l / 2).toNat
  unfold litV Bit at *
  split <;> omega
theorem f_literal (vs : List Int) (hv : ∀ v ∈ vs, Bit v) (l : Int) (h0 : 0 ≤ l) (h1 : l < 2 * (vs.length : Int)) : F__law_literal [.lst (vs.map D.int), .int l, .int 1] = some (.int (litV vs l), [.dead, .dead, .dead]) := by
  have e1 : atI (vs.map D.int) (l / 2) = some (.int (vs.getD (l / 2).toNat 0)) := by
    have hl : (l / 2).toNat < vs.length := by omega
    have e : l / 2 = (((l / 2).toNat : Nat) : Int) := by omega
    generalize (l / 2).toNat = i at hl e ⊢
    rw [e, atI_nat, List.getElem?_map, List.getD_eq_getElem?_getD, List.getElem?_eq_getElem hl]
    rfl
  have m1 : ∀ j, kMul (.int 1) (.int j) = some (.int j) := fun j => by rw [kMul_l (by decide), Int.one_mul]
  have hb := getD_bit hv (l / 2).toNat
  have e2 : Builtin.bitXor (vs.getD (l / 2).toNat 0) (l % 2) = litV vs l := by
    unfold litV
    generalize vs.getD (l / 2).toNat 0 = v at hb ⊢
    by_cases h : l % 2 = 0
    · rw [if_pos h, h, bitXor_zero]
    · rw [if_neg h, show l % 2 = 1 by omega, xor_one]
      unfold Bit at hb
      omega
  generalize vs.getD (l / 2).toNat 0 = v at e1 e2
  simp [F__law_literal, e1, e2, m1, sSeq, sNil, sSet, sSetO, sIf, sRet, sRetS, sRetN, sExpr, sFor, sPar, sAsg, sDrop, sPass, sBrk, sCnt, funF, fName, slot, fC, op1, op2, opN, aNil, aCons, aOwn, fCall, fillA, backA, eIf, eAnd, eOr, eNot, eView, tB, tNotF, tAndF, tOrF, tView, mask, maskFrom, wipeD, gSet, gsCons, gsNil, gTupF, setsD, iLst, iTupF, iScr, iRange1, iRange2, iEnumT, iEnumL, kAdd, kSub, kDiv, kMod, kII, kIC, kNeg, kLt, kLe, kGt, kGe, kTup, kLst, kLen, kAbs, kInt, kMax2, kMin2, kXor, kAnd, kIx, kTuple, kList, kCat, fOwn, fOwn0, tyD, kAppend, fSrc, fSrc_left, fSrc_mixed, fSrc_turn, fSrcLen, fSrcPop, sSrcPut, sSrcPut_left, sSrcPut_mixed, sSrcPut_turn, fLc, fDc, iKeysD, fYes, fDIn, kDVal, keyD, kRevL, kEqI, kNeI, lim]
def nodesV : List (Int × Int) → List Int → List Int
  | [], vs => vs
  | p :: r, vs => nodesV r (vs ++ [litV vs p.1 * litV vs p.2])
theorem and_bits {a b : Int} (ha : Bit a) (hb : Bit b) : Builtin.bitAnd a b = a * b := by
  rcases ha with rfl | rfl <;> rcases hb with rfl | rfl <;> decide
theorem nodes_go (x0 x1 x2 : D) : ∀ (ps : List (Int × Int)) (vs : List Int), (∀ v ∈ vs, Bit v) → okAnds vs.length ps → vs.length + ps.length ≤ 1000 →
    forGo (gTupF (gsCons (gSet 5) (gsCons (gSet 6) gsNil))) (sDrop [5, 6] (sExpr (fOwn "list" 4 kAppend (aCons (eView false (op2 kAnd (fCall F__law_literal [none, none, none] (aCons (fName 4) (aCons (fName 5) (aCons (fName 3) aNil)))) (fCall F__law_literal [none, none, none] (aCons (fName 4) (aCons (fName 6) (aCons (fName 3) aNil)))))) aNil)))) (ps.map pr) [x0, x1, x2, .int 1, .lst (vs.map D.int), .dead, .dead] = some (.nx [x0, x1, x2, .int 1, .lst ((nodesV ps vs).map D.int), .dead, .dead])
  | [], vs, _, _, _ => by simp [forGo, nodesV]
  | p :: r, vs, hv, ok, hl => by
    simp only [List.length_cons] at hl
    obtain ⟨⟨q1, q2, q3, q4⟩, ok2⟩ := ok
    have h1 := f_literal vs hv p.1 q1 q2
    have h2 := f_literal vs hv p.2 q3 q4
    have hb1 := litV_bit hv p.1
    have hb2 := litV_bit hv p.2
    have h3 := and_bits hb1 hb2
    have hb3 : Bit (litV vs p.1 * litV vs p.2) := by
      rcases hb1 with e | e <;> rcases hb2 with e' | e' <;> rw [e, e'] <;> simp [Bit]
    have hl2 : vs.length < 1000000 := by omega
    have ih := nodes_go x0 x1 x2 r (vs ++ [litV vs p.1 * litV vs p.2]) (by
      intro v hv'
      rcases List.mem_append.mp hv' with z | z
      · exact hv v z
      · rw [List.mem_singleton.mp z]; exact hb3) (by simpa using ok2) (by simp; omega)
    generalize hm : litV vs p.1 * litV vs p.2 = m at ih h3 hb3
    simp only [List.map_cons, pr, nodesV, hm]
    generalize litV vs p.1 = A at h1 h3
    generalize litV vs p.2 = B at h2 h3
    rw [forGo]
    simp [h1, h2, h3, hl2, D.flat, sSeq, sNil, sSet, sSetO, sIf, sRet, sRetS, sRetN, sExpr, sFor, sPar, sAsg, sDrop, sPass, sBrk, sCnt, funF, fName, slot, fC, op1, op2, opN, aNil, aCons, aOwn, fCall, fillA, backA, eIf, eAnd, eOr, eNot, eView, tB, tNotF, tAndF, tOrF, tView, mask, maskFrom, wipeD, gSet, gsCons, gsNil, gTupF, setsD, iLst, iTupF, iScr, iRange1, iRange2, iEnumT, iEnumL, kAdd, kSub, kDiv, kMod, kII, kIC, kNeg, kLt, kLe, kGt, kGe, kTup, kLst, kLen, kAbs, kInt, kMax2, kMin2, kXor, kAnd, kIx, kTuple, kList, kCat, fOwn, fOwn0, tyD, kAppend, fSrc, fSrc_left, fSrc_mixed, fSrc_turn, fSrcLen, fSrcPop, sSrcPut, sSrcPut_left, sSrcPut_mixed, sSrcPut_turn, fLc, fDc, iKeysD, fYes, fDIn, kDVal, keyD, kRevL, kEqI, kNeI, lim] at ih ⊢
    exact ih
end Bl

set_option Elab.async false
set_option linter.all false
set_option maxRecDepth 100000
set_option maxHeartbeats 4000000
namespace Bl
open PySem PySem.Spec PyProof.Rows L2
theorem f_nodes (g : Gr) (w : g.wf) (lot state : List Int) (h1 : lot.length = g.ins) (h2 : state.length = g.regs.length) (hb1 : ∀ v ∈ lot, Bit v) (hb2 : ∀ v ∈ state, Bit v) :
    F__law_nodes [g.enc, .tup (state.map D.int), .tup (lot.map D.int), .int 1] = some (.lst ((nodesV g.ands (0 :: (lot ++ state))).map D.int), [.dead, .dead, .dead, .dead]) := by
  have w1 := w.ins
  have w2 := w.nregs
  have w3 := w.nands
  have ok := w.ands
  have e : (0 :: (lot ++ state)).length = g.first := by
    simp [Gr.first]
    omega
  have h3 := nodes_go g.enc (.tup (state.map D.int)) (.tup (lot.map D.int)) g.ands (0 :: (lot ++ state)) (by
    intro v hv
    rcases List.mem_cons.mp hv with z | z
    · rw [z]; exact .inl rfl
    · rcases List.mem_append.mp z with z | z
      · exact hb1 v z
      · exact hb2 v z) (by rw [e]; exact ok) (by rw [e]; unfold Gr.first; omega)
  simp only [List.map_cons, List.map_append] at h3
  simp only [Gr.enc] at h3 ⊢
  have l1 : 1 + lot.length ≤ 1000000 := by omega
  have l2 : lot.length + 1 ≤ 1000000 := by omega
  have l3 : lot.length + 1 + state.length ≤ 1000000 := by omega
  have l4 : 1 + lot.length + state.length ≤ 1000000 := by omega
  have l5 : lot.length + state.length + 1 ≤ 1000000 := by omega
  have l6 : lot.length + state.length ≤ 1000000 := by omega
  have l7 : lot.length ≤ 1000000 := by omega
  have l8 : state.length ≤ 1000000 := by omega
  simp only [F__law_nodes]
  generalize hF : sDrop [5, 6] (sExpr (fOwn "list" 4 kAppend (aCons (eView false (op2 kAnd (fCall F__law_literal [none, none, none] (aCons (fName 4) (aCons (fName 5) (aCons (fName 3) aNil)))) (fCall F__law_literal [none, none, none] (aCons (fName 4) (aCons (fName 6) (aCons (fName 3) aNil)))))) aNil))) = F at h3 ⊢
  simp [h3, l1, l2, l3, l4, l5, l6, l7, l8, at2, sSeq, sNil, sSet, sSetO, sIf, sRet, sRetS, sRetN, sExpr, sFor, sPar, sAsg, sDrop, sPass, sBrk, sCnt, funF, fName, slot, fC, op1, op2, opN, aNil, aCons, aOwn, fCall, fillA, backA, eIf, eAnd, eOr, eNot, eView, tB, tNotF, tAndF, tOrF, tView, mask, maskFrom, wipeD, gSet, gsCons, gsNil, gTupF, setsD, iLst, iTupF, iScr, iRange1, iRange2, iEnumT, iEnumL, kAdd, kSub, kDiv, kMod, kII, kIC, kNeg, kLt, kLe, kGt, kGe, kTup, kLst, kLen, kAbs, kInt, kMax2, kMin2, kXor, kAnd, kIx, kTuple, kList, kCat, fOwn, fOwn0, tyD, kAppend, fSrc, fSrc_left, fSrc_mixed, fSrc_turn, fSrcLen, fSrcPop, sSrcPut, sSrcPut_left, sSrcPut_mixed, sSrcPut_turn, fLc, fDc, iKeysD, fYes, fDIn, kDVal, keyD, kRevL, kEqI, kNeI, lim]
end Bl

set_option Elab.async false
set_option linter.all false
set_option maxRecDepth 100000
set_option maxHeartbeats 4000000
namespace Bl
open PySem PySem.Spec PyProof.Rows L2
theorem valP_cons (x : Key × D) (r : List (Key × D)) (k : Key) : valP (x :: r) k = if x.1 = k then some x.2 else valP r k := by
  unfold valP
  by_cases h : x.1 = k
  · simp only [List.find?_cons, decide_eq_true h, if_pos h, Option.map_some]
  · simp only [List.find?_cons, decide_eq_false h, if_neg h]
theorem valP_over (k k' : Key) (v : D) : ∀ r : List (Key × D), valP (r.map fun kv => if kv.1 = k then (kv.1, v) else kv) k' = if k = k' then (valP r k').map (fun _ => v) else valP r k'
  | [] => by simp [valP]
  | x :: r => by
    rw [List.map_cons, valP_cons, valP_cons, valP_over k k' v r]
    by_cases h1 : x.1 = k
    · rw [if_pos h1]
      by_cases h2 : k = k'
      · have h3 : x.1 = k' := h1.trans h2
        simp only [if_pos h2, if_pos h3, Option.map_some]
      · have h3 : ¬ x.1 = k' := fun z => h2 (h1.symm.trans z)
        simp only [if_neg h2, if_neg h3]
    · rw [if_neg h1]
      by_cases h2 : k = k'
      · have h3 : ¬ x.1 = k' := fun z => h1 (z.trans h2.symm)
        simp only [if_pos h2, if_neg h3]
      · simp only [if_neg h2]
theorem valP_any (k : Key) : ∀ r : List (Key × D), (r.any fun kv => decide (kv.1 = k)) = (valP r k).isSome
  | [] => rfl
  | x :: r => by
    rw [List.any_cons, valP_cons, valP_any k r]
    by_cases h : x.1 = k
    · simp [h]
    · simp [h]
theorem valP_snoc (k k' : Key) (v : D) : ∀ r : List (Key × D), valP (r ++ [(k, v)]) k' = (valP r k').or (if k = k' then some v else none)
  | [] => by rw [List.nil_append, valP_cons]; simp [valP]
  | x :: r => by
    rw [List.cons_append, valP_cons, valP_cons, valP_snoc k k' v r]
    by_cases h : x.1 = k'
    · simp only [if_pos h, Option.some_or]
    · simp only [if_neg h]
theorem valP_put (kvs : List (Key × D)) (k k' : Key) (v : D) : valP (putP kvs k v) k' = if k = k' then some v else valP kvs k' := by
  unfold putP
  rw [valP_any]
  cases e : valP kvs k with
  | some w =>
    rw [Option.isSome_some, if_pos rfl, valP_over]
    by_cases h : k = k'
    · subst h
      rw [if_pos rfl, if_pos rfl, e]
      rfl
    · rw [if_neg h, if_neg h]
  | none =>
    rw [Option.isSome_none, if_neg (by simp), valP_snoc]
    by_cases h : k = k'
    · subst h
      simp [e]
    · simp [h]
theorem valP_merge (f : Key → D) : ∀ (prs kvs : List (Key × D)) (k : Key), (∀ kv ∈ prs, kv.2 = f kv.1) → (k ∈ prs.map (fun kv : Key × D => kv.1) → valP (mergeP kvs prs) k = some (f k)) ∧ (¬ k ∈ prs.map (fun kv : Key × D => kv.1) → valP (mergeP kvs prs) k = valP kvs k)
  | [], kvs, k, _ => ⟨fun z => by simp at z, fun _ => rfl⟩
  | p :: r, kvs, k, h => by
    have ih := valP_merge f r (putP kvs p.1 p.2) k fun q hq => h q (List.mem_cons_of_mem _ hq)
    have e : mergeP kvs (p :: r) = mergeP (putP kvs p.1 p.2) r := rfl
    rw [e, List.map_cons, List.mem_cons]
    by_cases h1 : k ∈ r.map (fun kv : Key × D => kv.1)
    · exact ⟨fun _ => ih.1 h1, fun z => absurd (.inr h1) z⟩
    · rw [ih.2 h1, valP_put]
      refine ⟨fun z => ?_, fun z => if_neg fun q => z (.inl q.symm)⟩
      rcases z with z | z
      · rw [if_pos z.symm, h p (List.mem_cons_self ..), z]
      · exact absurd z h1
end Bl

set_option Elab.async false
set_option linter.all false
set_option maxRecDepth 100000
set_option maxHeartbeats 4000000
namespace Bl
open PySem PySem.Spec PyProof.Rows L2
/-- what the dict says of a letter: itself or its other -/
def told (T : List (Key × D)) (k : Int) : Option Int := match valP T (Sum.inl k) with | some (.int i) => some i | _ => none
/-- a clause is kept -/
def keptC (T : List (Key × D)) (c : List Int) : Bool := c.any fun k => decide (told T (absI k) = some k)
/-- a dict of whole numbers at the letters of the clauses -/
def fitC (T : List (Key × D)) (c : List Int) : Prop := ∀ k ∈ c, ∃ i, valP T (Sum.inl (absI k)) = some (.int i)
theorem kept_lc (T : List (Key × D)) (x0 : D) (c : List Int) (h : fitC T c) (hl : c.length ≤ 1000) : lcGo (gSet 3) (tB (op2 (kEqD false) (fDGet1 (fName 1) (opN kAbs (aCons (fName 3) aNil))) (fName 3))) (fName 3) [3] (c.map D.int) [] [x0, .dic T, .tup (c.map D.int), .dead] = some ((c.filter fun k => decide (told T (absI k) = some k)).map D.int, [x0, .dic T, .tup (c.map D.int), .dead]) := by
  rw [lc_pure (φ := fun k => if told T (absI k) = some k then some (D.int k) else none) (fun k hk => ?_) (by simp; omega)]
  · simp only [List.nil_append]
    congr 2
    clear h hl
    generalize absI = a
    induction c with
    | nil => rfl
    | cons k r ih =>
      by_cases e : told T (a k) = some k <;> simp [List.filterMap_cons, List.filter_cons, e, ih]
  · obtain ⟨i, hi⟩ := h k hk
    have e1 : kDVal (.dic T) (.int (absI k)) = some (some (.int i)) := by
      show (some (Sum.inl (absI k))).map (fun k => valP T k) = _
      rw [Option.map_some, hi]
    have e2 : told T (absI k) = some i := by unfold told; rw [hi]
    have ha : absI k = if k < 0 then -k else k := rfl
    rw [e2]
    rw [ha] at hi
    by_cases hk2 : i = k
    · subst hk2
      simp [lcOne, fDGet1, hi, sSeq, sNil, sSet, sSetO, sIf, sRet, sRetS, sRetN, sExpr, sFor, sPar, sAsg, sDrop, sPass, sBrk, sCnt, funF, fName, slot, fC, op1, op2, opN, aNil, aCons, aOwn, fCall, fillA, backA, eIf, eAnd, eOr, eNot, eView, tB, tNotF, tAndF, tOrF, tView, mask, maskFrom, wipeD, gSet, gsCons, gsNil, gTupF, setsD, iLst, iTupF, iScr, iRange1, iRange2, iEnumT, iEnumL, kAdd, kSub, kDiv, kMod, kII, kIC, kNeg, kLt, kLe, kGt, kGe, kTup, kLst, kLen, kAbs, kInt, kMax2, kMin2, kXor, kAnd, kIx, kTuple, kList, kCat, fOwn, fOwn0, tyD, kAppend, fSrc, fSrc_left, fSrc_mixed, fSrc_turn, fSrcLen, fSrcPop, sSrcPut, sSrcPut_left, sSrcPut_mixed, sSrcPut_turn, fLc, fDc, iKeysD, fYes, fDIn, kDVal, keyD, kRevL, kEqI, kNeI, lim]
    · simp [lcOne, fDGet1, hi, hk2, sSeq, sNil, sSet, sSetO, sIf, sRet, sRetS, sRetN, sExpr, sFor, sPar, sAsg, sDrop, sPass, sBrk, sCnt, funF, fName, slot, fC, op1, op2, opN, aNil, aCons, aOwn, fCall, fillA, backA, eIf, eAnd, eOr, eNot, eView, tB, tNotF, tAndF, tOrF, tView, mask, maskFrom, wipeD, gSet, gsCons, gsNil, gTupF, setsD, iLst, iTupF, iScr, iRange1, iRange2, iEnumT, iEnumL, kAdd, kSub, kDiv, kMod, kII, kIC, kNeg, kLt, kLe, kGt, kGe, kTup, kLst, kLen, kAbs, kInt, kMax2, kMin2, kXor, kAnd, kIx, kTuple, kList, kCat, fOwn, fOwn0, tyD, kAppend, fSrc, fSrc_left, fSrc_mixed, fSrc_turn, fSrcLen, fSrcPop, sSrcPut, sSrcPut_left, sSrcPut_mixed, sSrcPut_turn, fLc, fDc, iKeysD, fYes, fDIn, kDVal, keyD, kRevL, kEqI, kNeI, lim]
end Bl

set_option Elab.async false
set_option linter.all false
set_option maxRecDepth 100000
set_option maxHeartbeats 4000000
namespace Bl
open PySem PySem.Spec PyProof.Rows L2
def clD (c : List Int) : D := .tup (c.map D.int)
def allK (T : List (Key × D)) (cs : List (List Int)) : Bool := cs.all fun c => keptC T c
theorem eq_nil (l : List Int) : kEqD false (.lst (l.map D.int)) (.lst []) = some (.bl l.isEmpty) := by
  have h1 : (D.lst (l.map D.int)).isd = true := isds_ints l
  have h2 : ∀ l : List Int, SeqAt.shaped (D.lst (l.map D.int)).py = true := by
    intro l
    rw [D.py, pys_ints]
    unfold SeqAt.shaped
    have : PyData.canLayAll0 (l.map PyData.int) = true := by
      induction l with
      | nil => rfl
      | cons k r ih => rw [List.map_cons, PyData.canLayAll0, ih]; rfl
    have h3 : PyData.depthAll (l.map PyData.int) = 0 := by
      induction l with
      | nil => rfl
      | cons k r ih =>
        rw [List.map_cons, PyData.canLayAll0] at this
        rw [List.map_cons, PyData.depthAll, ih (by simpa [PyData.canLay0] using this)]
        rfl
    rw [PyData.canLay0, this, PyData.depth, h3]
    rfl
  show (if (D.lst (l.map D.int)).isd && (D.lst []).isd && SeqAt.shaped (D.lst (l.map D.int)).py && SeqAt.shaped (D.lst []).py then some (D.bl (PyData.eqv (D.lst (l.map D.int)).py (D.lst []).py)) else none) = _
  rw [h1, h2 l, show SeqAt.shaped (D.lst []).py = true from h2 [], show (D.lst []).isd = true from rfl]
  simp only [Bool.and_self, if_true]
  congr 2
  rw [D.py, pys_ints]
  cases l with
  | nil => rfl
  | cons k r => rfl
end Bl

set_option Elab.async false
set_option linter.all false
set_option maxRecDepth 100000
set_option maxHeartbeats 4000000
namespace Bl
open PySem PySem.Spec PyProof.Rows L2
theorem kept_go (T : List (Key × D)) (x0 : D) : ∀ (cs : List (List Int)), (∀ c ∈ cs, fitC T c ∧ c.length ≤ 1000) →
    ∃ o, forGo (gSet 2) (sDrop [2] (sIf (tB (op2 (kEqD false) (fLc (iTupF (fName 2)) (gSet 3) (tB (op2 (kEqD false) (fDGet1 (fName 1) (opN kAbs (aCons (fName 3) aNil))) (fName 3))) (fName 3) [3]) (opN kLst aNil))) (sRet [] (fC (.bl false))) sNil)) (cs.map clD) [x0, .dic T, .dead, .dead] = some o ∧ (allK T cs = true → o = .nx [x0, .dic T, .dead, .dead]) ∧ (allK T cs = false → o = .rt (.bl false) [.dead, .dead, .dead, .dead])
  | [], _ => ⟨_, rfl, fun _ => rfl, fun z => by simp [allK] at z⟩
  | c :: r, h => by
    obtain ⟨h1, h2⟩ := h c (List.mem_cons_self ..)
    obtain ⟨o, g1, g2, g3⟩ := kept_go T x0 r fun d hd => h d (List.mem_cons_of_mem _ hd)
    have k1 := kept_lc T x0 c h1 h2
    have k2 := eq_nil (c.filter fun k => decide (told T (absI k) = some k))
    have k3 : (c.filter fun k => decide (told T (absI k) = some k)).isEmpty = !keptC T c := by
      unfold keptC
      clear k1 k2 h1 h2 h
      induction c with
      | nil => rfl
      | cons k r ih => by_cases e : told T (absI k) = some k <;> simp [List.filter_cons, e] at ih ⊢ <;> exact ih
    rw [k3] at k2
    generalize (c.filter fun k => decide (told T (absI k) = some k)).map D.int = L at k1 k2
    have e : allK T (c :: r) = (keptC T c && allK T r) := rfl
    rw [e]
    generalize hE : (tB (op2 (kEqD false) (fDGet1 (fName 1) (opN kAbs (aCons (fName 3) aNil))) (fName 3)) : Et) = E at k1 g1 ⊢
    rw [List.map_cons, forGo]
    cases hk : keptC T c with
    | true =>
      rw [hk] at k2
      refine ⟨o, ?_, by simpa using g2, by simpa using g3⟩
      simp [k1, k2, clD, eq_nil, sSeq, sNil, sSet, sSetO, sIf, sRet, sRetS, sRetN, sExpr, sFor, sPar, sAsg, sDrop, sPass, sBrk, sCnt, funF, fName, slot, fC, op1, op2, opN, aNil, aCons, aOwn, fCall, fillA, backA, eIf, eAnd, eOr, eNot, eView, tB, tNotF, tAndF, tOrF, tView, mask, maskFrom, wipeD, gSet, gsCons, gsNil, gTupF, setsD, iLst, iTupF, iScr, iRange1, iRange2, iEnumT, iEnumL, kAdd, kSub, kDiv, kMod, kII, kIC, kNeg, kLt, kLe, kGt, kGe, kTup, kLst, kLen, kAbs, kInt, kMax2, kMin2, kXor, kAnd, kIx, kTuple, kList, kCat, fOwn, fOwn0, tyD, kAppend, fSrc, fSrc_left, fSrc_mixed, fSrc_turn, fSrcLen, fSrcPop, sSrcPut, sSrcPut_left, sSrcPut_mixed, sSrcPut_turn, fLc, fDc, iKeysD, fYes, fDIn, kDVal, keyD, kRevL, kEqI, kNeI, lim] at g1 ⊢
      exact g1
    | false =>
      rw [hk] at k2
      refine ⟨_, ?_, fun z => by simp at z, fun _ => rfl⟩
      simp [k1, k2, clD, sSeq, sNil, sSet, sSetO, sIf, sRet, sRetS, sRetN, sExpr, sFor, sPar, sAsg, sDrop, sPass, sBrk, sCnt, funF, fName, slot, fC, op1, op2, opN, aNil, aCons, aOwn, fCall, fillA, backA, eIf, eAnd, eOr, eNot, eView, tB, tNotF, tAndF, tOrF, tView, mask, maskFrom, wipeD, gSet, gsCons, gsNil, gTupF, setsD, iLst, iTupF, iScr, iRange1, iRange2, iEnumT, iEnumL, kAdd, kSub, kDiv, kMod, kII, kIC, kNeg, kLt, kLe, kGt, kGe, kTup, kLst, kLen, kAbs, kInt, kMax2, kMin2, kXor, kAnd, kIx, kTuple, kList, kCat, fOwn, fOwn0, tyD, kAppend, fSrc, fSrc_left, fSrc_mixed, fSrc_turn, fSrcLen, fSrcPop, sSrcPut, sSrcPut_left, sSrcPut_mixed, sSrcPut_turn, fLc, fDc, iKeysD, fYes, fDIn, kDVal, keyD, kRevL, kEqI, kNeI, lim]
theorem f_kept (T : List (Key × D)) (cs : List (List Int)) (h : ∀ c ∈ cs, fitC T c ∧ c.length ≤ 1000) : F__law_kept [.lst (cs.map clD), .dic T] = some (.bl (allK T cs), [.dead, .dead]) := by
  obtain ⟨o, h1, h2, h3⟩ := kept_go T (.lst (cs.map clD)) cs h
  simp only [F__law_kept]
  generalize hF : sDrop [2] (sIf (tB (op2 (kEqD false) (fLc (iTupF (fName 2)) (gSet 3) (tB (op2 (kEqD false) (fDGet1 (fName 1) (opN kAbs (aCons (fName 3) aNil))) (fName 3))) (fName 3) [3]) (opN kLst aNil))) (sRet [] (fC (.bl false))) sNil) = F at h1 ⊢
  cases hk : allK T cs with
  | true =>
    rw [h2 hk] at h1
    simp [h1, sSeq, sNil, sSet, sSetO, sIf, sRet, sRetS, sRetN, sExpr, sFor, sPar, sAsg, sDrop, sPass, sBrk, sCnt, funF, fName, slot, fC, op1, op2, opN, aNil, aCons, aOwn, fCall, fillA, backA, eIf, eAnd, eOr, eNot, eView, tB, tNotF, tAndF, tOrF, tView, mask, maskFrom, wipeD, gSet, gsCons, gsNil, gTupF, setsD, iLst, iTupF, iScr, iRange1, iRange2, iEnumT, iEnumL, kAdd, kSub, kDiv, kMod, kII, kIC, kNeg, kLt, kLe, kGt, kGe, kTup, kLst, kLen, kAbs, kInt, kMax2, kMin2, kXor, kAnd, kIx, kTuple, kList, kCat, fOwn, fOwn0, tyD, kAppend, fSrc, fSrc_left, fSrc_mixed, fSrc_turn, fSrcLen, fSrcPop, sSrcPut, sSrcPut_left, sSrcPut_mixed, sSrcPut_turn, fLc, fDc, iKeysD, fYes, fDIn, kDVal, keyD, kRevL, kEqI, kNeI, lim]
  | false =>
    rw [h3 hk] at h1
    simp [h1, sSeq, sNil, sSet, sSetO, sIf, sRet, sRetS, sRetN, sExpr, sFor, sPar, sAsg, sDrop, sPass, sBrk, sCnt, funF, fName, slot, fC, op1, op2, opN, aNil, aCons, aOwn, fCall, fillA, backA, eIf, eAnd, eOr, eNot, eView, tB, tNotF, tAndF, tOrF, tView, mask, maskFrom, wipeD, gSet, gsCons, gsNil, gTupF, setsD, iLst, iTupF, iScr, iRange1, iRange2, iEnumT, iEnumL, kAdd, kSub, kDiv, kMod, kII, kIC, kNeg, kLt, kLe, kGt, kGe, kTup, kLst, kLen, kAbs, kInt, kMax2, kMin2, kXor, kAnd, kIx, kTuple, kList, kCat, fOwn, fOwn0, tyD, kAppend, fSrc, fSrc_left, fSrc_mixed, fSrc_turn, fSrcLen, fSrcPop, sSrcPut, sSrcPut_left, sSrcPut_mixed, sSrcPut_turn, fLc, fDc, iKeysD, fYes, fDIn, kDVal, keyD, kRevL, kEqI, kNeI, lim]
end Bl

set_option Elab.async false
set_option linter.all false
set_option maxRecDepth 100000
set_option maxHeartbeats 4000000
namespace Bl
open PySem PySem.Spec PyProof.Rows L2
def clauseI (ks : List Int) : List (List Int) := if plainC ks then [sortA (ded ks)] else []
theorem clauseI_map (ks : List Int) : (clauseI ks).map clD = clauseOf ks := by
  unfold clauseI clauseOf
  split <;> rfl
/-- a letter or its other, by what is true of the letters -/
def trL (tv : Int → Bool) (k : Int) : Bool := if 0 < k then tv k else !tv (-k)
theorem trL_neg (tv : Int → Bool) {k : Int} (h : k ≠ 0) : trL tv (-k) = !trL tv k := by
  unfold trL
  by_cases h1 : 0 < k
  · rw [if_pos h1, if_neg (by omega), Int.neg_neg]
  · rw [if_neg h1, if_pos (by omega), Bool.not_not]
/-- the dict tells what is true -/
def Tells (T : List (Key × D)) (tv : Int → Bool) (n : Int) : Prop := valP T (Sum.inl n) = some (.int (if tv n then n else -n))
theorem told_lit {T : List (Key × D)} {tv : Int → Bool} {k : Int} (h0 : k ≠ 0) (h : Tells T tv (absI k)) : decide (told T (absI k) = some k) = trL tv k := by
  unfold Tells at h
  have e : told T (absI k) = some (if tv (absI k) then absI k else -absI k) := by unfold told; rw [h]
  by_cases h1 : k < 0
  · have ha : absI k = -k := if_pos h1
    rw [ha] at e ⊢
    rw [e]
    have ht : trL tv k = !tv (-k) := if_neg (by omega)
    rw [ht]
    cases tv (-k)
    · simp
    · have : ¬ -k = k := by omega
      simp [this]
  · have ha : absI k = k := if_neg h1
    rw [ha] at e ⊢
    rw [e]
    have ht : trL tv k = tv k := if_pos (by omega)
    rw [ht]
    cases tv k
    · have : ¬ -k = k := by omega
      simp [this]
    · simp
theorem allK_clause {T : List (Key × D)} {tv : Int → Bool} {ks : List Int} (h0 : ∀ k ∈ ks, k ≠ 0) (h : ∀ k ∈ ks, Tells T tv (absI k)) : allK T (clauseI ks) = ks.any (trL tv) := by
  unfold clauseI
  split
  · have e : ∀ l : List Int, (∀ k ∈ l, k ∈ ks) → keptC T l = l.any (trL tv) := by
      intro l hl
      induction l with
      | nil => rfl
      | cons k r ih =>
        have := ih fun x hx => hl x (List.mem_cons_of_mem _ hx)
        unfold keptC at this ⊢
        rw [List.any_cons, List.any_cons, this, told_lit (h0 k (hl k (List.mem_cons_self ..))) (h k (hl k (List.mem_cons_self ..)))]
    have hm : ∀ k, k ∈ sortA (ded ks) ↔ k ∈ ks := fun k => by rw [(sortA_perm _).mem_iff, ded_mem]
    show (keptC T (sortA (ded ks)) && true) = _
    rw [Bool.and_true, e _ fun k hk => (hm k).mp hk]
    rw [Bool.eq_iff_iff, List.any_eq_true, List.any_eq_true]
    exact ⟨fun ⟨k, a, b⟩ => ⟨k, (hm k).mp a, b⟩, fun ⟨k, a, b⟩ => ⟨k, (hm k).mpr a, b⟩⟩
  · rename_i hp
    show true = _
    have hp : plainC ks = false := by simpa using hp
    unfold plainC at hp
    simp only [Bool.not_eq_false', List.any_eq_true] at hp
    obtain ⟨k, hk, hc⟩ := hp
    have hm : -k ∈ ks := (ded_mem ks _).mp (by simpa using hc)
    have hk' := (ded_mem ks k).mp hk
    symm
    rw [List.any_eq_true]
    have := trL_neg tv (h0 k hk')
    cases e : trL tv k with
    | true => exact ⟨k, hk', e⟩
    | false => exact ⟨-k, hm, by rw [this, e]; rfl⟩
end Bl

set_option Elab.async false
set_option linter.all false
set_option maxRecDepth 100000
set_option maxHeartbeats 4000000
namespace Bl
open PySem PySem.Spec PyProof.Rows L2
def andI (y a b : Int) : List (List Int) := clauseI [-y, a] ++ (clauseI [-y, b] ++ clauseI [y, -a, -b])
def sameI (a b : Int) : List (List Int) := clauseI [-a, b] ++ clauseI [a, -b]
theorem andI_map (y a b : Int) : (andI y a b).map clD = andC y a b := by simp [andI, andC, clauseI_map]
theorem sameI_map (a b : Int) : (sameI a b).map clD = sameC a b := by simp [sameI, sameC, clauseI_map]
def andsI (f s : Int) : Nat → List (Int × Int) → List (List Int)
  | _, [] => []
  | k, p :: r => andI (f + k + 1 + s) (far p.1 s) (far p.2 s) ++ andsI f s (k + 1) r
theorem andsI_map (f s : Int) : ∀ (l : List (Int × Int)) (k : Nat), (andsI f s k l).map clD = andsC f s k l
  | [], _ => rfl
  | p :: r, k => by simp [andsI, andsC, andI_map, andsI_map f s r]
def graphI (g : Gr) (s : Int) : List (List Int) := [-1 - s] :: andsI g.first s 0 g.ands
theorem graphI_map (g : Gr) (s : Int) : (graphI g s).map clD = graphC g s := by simp [graphI, graphC, andsI_map, clD]
def regsI (g : Gr) (c : Nat) : Nat → List (Int × Int) → List (List Int)
  | _, [] => []
  | k, p :: r => sameI (regL g c k) (far p.2 (((c : Int) - 1) * g.size)) ++ regsI g c (k + 1) r
theorem regsI_map (g : Gr) (c : Nat) : ∀ (l : List (Int × Int)) (k : Nat), (regsI g c k l).map clD = regsC g c k l
  | [], _ => rfl
  | p :: r, k => by simp [regsI, regsC, sameI_map, regsI_map g c r]
def stepI (g : Gr) (c : Nat) : List (List Int) := graphI g (c * g.size) ++ regsI g c 0 (if 0 < c then g.regs else [])
def unrollI (g : Gr) : Nat → Nat → List (List Int)
  | _, 0 => []
  | k, n + 1 => stepI g k ++ unrollI g (k + 1) n
theorem stepI_map (g : Gr) (c : Nat) : (stepI g c).map clD = stepC g c := by simp [stepI, stepC, graphI_map, regsI_map]
theorem unrollI_map (g : Gr) : ∀ (n k : Nat), (unrollI g k n).map clD = unrollC g k n
  | 0, _ => rfl
  | n + 1, k => by simp [unrollI, unrollC, stepI_map, unrollI_map g n]
theorem allK_app (T : List (Key × D)) (a b : List (List Int)) : allK T (a ++ b) = (allK T a && allK T b) := by simp [allK]
section
variable {T : List (Key × D)} {tv : Int → Bool}
theorem absI_neg (k : Int) : absI (-k) = absI k := by
  unfold absI
  split <;> split <;> omega
theorem allK_and {y a b : Int} (hy : y ≠ 0) (ha : a ≠ 0) (hb : b ≠ 0) (ty : Tells T tv (absI y)) (ta : Tells T tv (absI a)) (tb : Tells T tv (absI b)) : allK T (andI y a b) = (trL tv y == (trL tv a && trL tv b)) := by
  have h1 := allK_clause (T := T) (tv := tv) (ks := [-y, a]) (by simp [hy, ha]) (by simp [absI_neg, ty, ta])
  have h2 := allK_clause (T := T) (tv := tv) (ks := [-y, b]) (by simp [hy, hb]) (by simp [absI_neg, ty, tb])
  have h3 := allK_clause (T := T) (tv := tv) (ks := [y, -a, -b]) (by simp [hy, ha, hb]) (by simp [absI_neg, ty, ta, tb])
  unfold andI
  rw [allK_app, allK_app, h1, h2, h3]
  simp only [List.any_cons, List.any_nil, trL_neg tv hy, trL_neg tv ha, trL_neg tv hb]
  cases trL tv y <;> cases trL tv a <;> cases trL tv b <;> rfl
theorem allK_same {a b : Int} (ha : a ≠ 0) (hb : b ≠ 0) (ta : Tells T tv (absI a)) (tb : Tells T tv (absI b)) : allK T (sameI a b) = (trL tv a == trL tv b) := by
  have h1 := allK_clause (T := T) (tv := tv) (ks := [-a, b]) (by simp [ha, hb]) (by simp [absI_neg, ta, tb])
  have h2 := allK_clause (T := T) (tv := tv) (ks := [a, -b]) (by simp [ha, hb]) (by simp [absI_neg, ta, tb])
  unfold sameI
  rw [allK_app, h1, h2]
  simp only [List.any_cons, List.any_nil, trL_neg tv ha, trL_neg tv hb]
  cases trL tv a <;> cases trL tv b <;> rfl
end
end Bl

set_option Elab.async false
set_option linter.all false
set_option maxRecDepth 100000
set_option maxHeartbeats 4000000
namespace Bl
open PySem PySem.Spec PyProof.Rows L2
/-- the dict tells the values of a block of letters -/
def Vals (T : List (Key × D)) (tv : Int → Bool) (vs : List Int) (s : Int) : Prop := ∀ i : Nat, i < vs.length → Tells T tv (i + 1 + s) ∧ tv (i + 1 + s) = decide (vs.getD i 0 = 1)
theorem far_abs {l s : Int} (hl : 0 ≤ l) (hs : 0 ≤ s) : absI (far l s) = l / 2 + 1 + s := by
  unfold absI far
  split <;> split <;> omega
section
variable {T : List (Key × D)} {tv : Int → Bool} {vs : List Int} {s : Int}
theorem far_told (V : Vals T tv vs s) {l : Int} (hs : 0 ≤ s) (h0 : 0 ≤ l) (h1 : l < 2 * (vs.length : Int)) : Tells T tv (absI (far l s)) := by
  rw [far_abs h0 hs]
  have := (V (l / 2).toNat (by omega)).1
  rw [show (((l / 2).toNat : Nat) : Int) = l / 2 by omega] at this
  exact this
theorem far_tr (V : Vals T tv vs s) (hv : ∀ v ∈ vs, Bit v) {l : Int} (hs : 0 ≤ s) (h0 : 0 ≤ l) (h1 : l < 2 * (vs.length : Int)) : trL tv (far l s) = decide (litV vs l = 1) := by
  have h := (V (l / 2).toNat (by omega)).2
  rw [show (((l / 2).toNat : Nat) : Int) = l / 2 by omega] at h
  have hb := getD_bit hv (l / 2).toNat
  unfold litV
  unfold far
  by_cases hp : l % 2 = 0
  · rw [if_pos hp, if_pos hp]
    have : trL tv (l / 2 + 1 + s) = tv (l / 2 + 1 + s) := if_pos (by omega)
    rw [this, h]
  · rw [if_neg hp, if_neg hp]
    have : trL tv (-(l / 2 + 1 + s)) = !tv (- -(l / 2 + 1 + s)) := if_neg (by omega)
    rw [this, Int.neg_neg, h]
    generalize vs.getD (l / 2).toNat 0 = v at hb
    rcases hb with rfl | rfl <;> rfl
def andsB (vs : List Int) : Nat → List (Int × Int) → Bool
  | _, [] => true
  | k, p :: r => decide (vs.getD k 0 = litV vs p.1 * litV vs p.2) && andsB vs (k + 1) r
theorem bit_mul {a b : Int} (ha : Bit a) (hb : Bit b) : Bit (a * b) := by
  rcases ha with rfl | rfl <;> rcases hb with rfl | rfl <;> simp [Bit]
theorem ands_kept (V : Vals T tv vs s) (hv : ∀ v ∈ vs, Bit v) (hs : 0 ≤ s) (f : Nat) : ∀ (l : List (Int × Int)) (k : Nat), f + k + l.length ≤ vs.length → okAnds (f + k) l → allK T (andsI f s k l) = andsB vs (f + k) l
  | [], _, _, _ => rfl
  | p :: r, k, hl, ok => by
    simp only [List.length_cons] at hl
    obtain ⟨⟨q1, q2, q3, q4⟩, ok2⟩ := ok
    have ih := ands_kept V hv hs f r (k + 1) (by omega) (by rw [← Nat.add_assoc]; exact ok2)
    have hy := V (f + k) (by omega)
    have e : ((f + k : Nat) : Int) + 1 + s = (f : Int) + k + 1 + s := by omega
    rw [e] at hy
    have ea : absI ((f : Int) + k + 1 + s) = (f : Int) + k + 1 + s := if_neg (by omega)
    have t1 : trL tv ((f : Int) + k + 1 + s) = decide (vs.getD (f + k) 0 = 1) := by
      have : trL tv ((f : Int) + k + 1 + s) = tv ((f : Int) + k + 1 + s) := if_pos (by omega)
      rw [this, hy.2]
    have h1 := allK_and (T := T) (tv := tv) (y := (f : Int) + k + 1 + s) (a := far p.1 s) (b := far p.2 s) (by omega) (far_nz q1 hs) (far_nz q3 hs) (by rw [ea]; exact hy.1) (far_told V hs q1 (by omega)) (far_told V hs q3 (by omega))
    rw [t1, far_tr V hv hs q1 (by omega), far_tr V hv hs q3 (by omega)] at h1
    show allK T (andI _ _ _ ++ andsI f s (k + 1) r) = _
    rw [allK_app, h1, ih, ← Nat.add_assoc]
    show _ = (decide _ && _)
    congr 1
    have b0 := getD_bit hv (f + k)
    have b1 := litV_bit hv p.1
    have b2 := litV_bit hv p.2
    generalize vs.getD (f + k) 0 = A at b0 ⊢
    generalize litV vs p.1 = B at b1 ⊢
    generalize litV vs p.2 = C at b2 ⊢
    rcases b0 with rfl | rfl <;> rcases b1 with rfl | rfl <;> rcases b2 with rfl | rfl <;> rfl
theorem graph_kept {g : Gr} (w : g.wf) (V : Vals T tv vs s) (hv : ∀ v ∈ vs, Bit v) (hs : 0 ≤ s) (hl : vs.length = g.size) : allK T (graphI g s) = (decide (vs.getD 0 0 = 0) && andsB vs g.first g.ands) := by
  have h1 := ands_kept V hv hs g.first g.ands 0 (by rw [hl]; exact Nat.le_refl _) w.ands
  have h0 := V 0 (by rw [hl]; have := w.small; omega)
  show (keptC T [-1 - s] && allK T (andsI g.first s 0 g.ands)) = _
  rw [h1]
  congr 1
  have e : ((0 : Nat) : Int) + 1 + s = 1 + s := by omega
  rw [e] at h0
  have ea : absI (-1 - s) = 1 + s := by unfold absI; rw [if_pos (by omega)]; omega
  have t := told_lit (T := T) (tv := tv) (k := -1 - s) (by omega) (by rw [ea]; exact h0.1)
  show (decide (told T (absI (-1 - s)) = some (-1 - s)) || false) = _
  rw [t, Bool.or_false]
  have : trL tv (-1 - s) = !tv (-(-1 - s)) := if_neg (by omega)
  rw [this, show -(-1 - s) = 1 + s by omega, h0.2]
  have b0 := getD_bit hv 0
  generalize vs.getD 0 0 = A at b0
  rcases b0 with rfl | rfl <;> rfl
end
end Bl

set_option Elab.async false
set_option linter.all false
set_option maxRecDepth 100000
set_option maxHeartbeats 4000000
namespace Bl
open PySem PySem.Spec PyProof.Rows L2
theorem litV_agree {vs ws : List Int} {l : Int} {n : Nat} (h : ∀ i, i < n → vs.getD i 0 = ws.getD i 0) (h0 : 0 ≤ l) (h1 : l < 2 * (n : Int)) : litV vs l = litV ws l := by
  unfold litV
  rw [h (l / 2).toNat (by omega)]
theorem nodesV_len : ∀ (ps : List (Int × Int)) (vs : List Int), (nodesV ps vs).length = vs.length + ps.length
  | [], vs => rfl
  | p :: r, vs => by
    rw [nodesV, nodesV_len r]
    simp
    omega
theorem nodesV_pre : ∀ (ps : List (Int × Int)) (vs : List Int) (i : Nat), i < vs.length → (nodesV ps vs).getD i 0 = vs.getD i 0
  | [], _, _, _ => rfl
  | p :: r, vs, i, h => by
    rw [nodesV, nodesV_pre r _ i (by simp; omega)]
    simp [List.getD_eq_getElem?_getD, List.getElem?_append_left h]
theorem nodesV_bit : ∀ (ps : List (Int × Int)) (vs : List Int), (∀ v ∈ vs, Bit v) → ∀ v ∈ nodesV ps vs, Bit v
  | [], _, h => h
  | p :: r, vs, h => nodesV_bit r _ fun v hv => by
    rcases List.mem_append.mp hv with z | z
    · exact h v z
    · rw [List.mem_singleton.mp z]; exact bit_mul (litV_bit h _) (litV_bit h _)
theorem nodesV_ands : ∀ (ps : List (Int × Int)) (vs : List Int), okAnds vs.length ps → andsB (nodesV ps vs) vs.length ps = true
  | [], _, _ => rfl
  | p :: r, vs, ⟨⟨q1, q2, q3, q4⟩, ok⟩ => by
    have ih := nodesV_ands r (vs ++ [litV vs p.1 * litV vs p.2]) (by simpa using ok)
    rw [List.length_append, List.length_singleton] at ih
    have ag : ∀ i, i < vs.length → (nodesV (p :: r) vs).getD i 0 = vs.getD i 0 := fun i hi => nodesV_pre _ _ i hi
    have e : (nodesV (p :: r) vs).getD vs.length 0 = litV vs p.1 * litV vs p.2 := by
      rw [nodesV, nodesV_pre r _ vs.length (by simp)]
      simp [List.getD_eq_getElem?_getD]
    show (decide _ && andsB _ (vs.length + 1) r) = true
    rw [e, litV_agree ag q1 q2, litV_agree ag q3 q4, decide_eq_true rfl, Bool.true_and]
    exact ih
theorem set_getD (vs : List Int) (j i : Nat) (x : Int) : (vs.set j x).getD i 0 = if j = i ∧ i < vs.length then x else vs.getD i 0 := by
  simp only [List.getD_eq_getElem?_getD, List.getElem?_set]
  by_cases h : j = i
  · subst h
    by_cases h2 : j < vs.length
    · simp [h2]
    · simp [h2]
  · simp [h]
theorem flip_ands (vs : List Int) (hv : ∀ v ∈ vs, Bit v) (j : Nat) (hj : j < vs.length) : ∀ (ps : List (Int × Int)) (f : Nat), okAnds f ps → andsB vs f ps = true → f ≤ j → j < f + ps.length → andsB (vs.set j (1 - vs.getD j 0)) f ps = false
  | [], f, _, _, h1, h2 => by simp at h2; omega
  | p :: r, f, ⟨⟨q1, q2, q3, q4⟩, ok⟩, ha, h1, h2 => by
    have ha' : (decide (vs.getD f 0 = litV vs p.1 * litV vs p.2) && andsB vs (f + 1) r) = true := ha
    simp only [Bool.and_eq_true, decide_eq_true_eq] at ha'
    show (decide _ && andsB _ (f + 1) r) = false
    by_cases e : j = f
    · subst e
      have ag : ∀ i, i < j → (vs.set j (1 - vs.getD j 0)).getD i 0 = vs.getD i 0 := fun i hi => by rw [set_getD, if_neg (by omega)]
      rw [litV_agree ag q1 q2, litV_agree ag q3 q4, set_getD, if_pos ⟨rfl, hj⟩, ← ha'.1]
      have := getD_bit hv j
      rw [decide_eq_false (by unfold Bit at this; omega), Bool.false_and]
    · simp only [List.length_cons] at h2
      rw [flip_ands vs hv j hj r (f + 1) ok ha'.2 (by omega) (by omega), Bool.and_false]
end Bl

set_option Elab.async false
set_option linter.all false
set_option maxRecDepth 100000
set_option maxHeartbeats 4000000
namespace Bl
open PySem PySem.Spec PyProof.Rows L2
def sgn (s : Int) (q : Nat × Int) : Int := if q.2 = 1 then (q.1 : Int) + 1 + s else -(q.1 : Int) - 1 - s
def truthP (vs : List Int) (s : Int) : List (Key × D) := (numb 0 vs).map fun q => (Sum.inl ((q.1 : Int) + 1 + s), D.int (sgn s q))
theorem enum_numb : ∀ (l : List Int) (k : Nat), enumD k (l.map D.int) = (numb k l).map fun q => D.tup [.int (q.1 : Nat), .int q.2]
  | [], _ => rfl
  | x :: r, k => by rw [List.map_cons, enumD, enum_numb r, numb, List.map_cons]
theorem pairs_truth (s : Int) : ∀ (l : List (Nat × Int)), pairsD (l.map fun q => D.tup [.int ((q.1 : Int) + 1 + s), .int (sgn s q)]) = some (l.map fun q => (Sum.inl ((q.1 : Int) + 1 + s), D.int (sgn s q)))
  | [] => rfl
  | q :: r => by rw [List.map_cons, pairsD, pairs_truth s r]; rfl
theorem f_true_of (vs : List Int) (s : Int) (h : vs.length ≤ 1000) : F__law_true_of [.lst (vs.map D.int), .int s] = some (.dic (mergeP [] (truthP vs s)), [.dead, .dead]) := by
  have h1 : lcGo (gTupF (gsCons (gSet 2) (gsCons (gSet 3) gsNil))) fYes (opN kTup (aCons (op2 kAdd (op2 kAdd (fName 2) (fC (.int 1))) (fName 1)) (aCons (eIf (tB (op2 (kEqD false) (fName 3) (fC (.int 1)))) (op2 kAdd (op2 kAdd (fName 2) (fC (.int 1))) (fName 1)) (op2 kSub (op2 kSub (op1 kNeg (fName 2)) (fC (.int 1))) (fName 1))) aNil))) [2, 3] ((numb 0 vs).map fun q => D.tup [.int (q.1 : Nat), .int q.2]) [] [.lst (vs.map D.int), .int s, .dead, .dead] = some ((numb 0 vs).map fun q => D.tup [.int ((q.1 : Int) + 1 + s), .int (sgn s q)], [.lst (vs.map D.int), .int s, .dead, .dead]) := by
    refine lc_val (φ := fun q : Nat × Int => D.tup [.int ((q.1 : Int) + 1 + s), .int (sgn s q)]) (fun q _ => ?_) (by rw [numb_len]; omega)
    by_cases hq : q.2 = 1 <;> simp [lcOne, sgn, hq, sSeq, sNil, sSet, sSetO, sIf, sRet, sRetS, sRetN, sExpr, sFor, sPar, sAsg, sDrop, sPass, sBrk, sCnt, funF, fName, slot, fC, op1, op2, opN, aNil, aCons, aOwn, fCall, fillA, backA, eIf, eAnd, eOr, eNot, eView, tB, tNotF, tAndF, tOrF, tView, mask, maskFrom, wipeD, gSet, gsCons, gsNil, gTupF, setsD, iLst, iTupF, iScr, iRange1, iRange2, iEnumT, iEnumL, kAdd, kSub, kDiv, kMod, kII, kIC, kNeg, kLt, kLe, kGt, kGe, kTup, kLst, kLen, kAbs, kInt, kMax2, kMin2, kXor, kAnd, kIx, kTuple, kList, kCat, fOwn, fOwn0, tyD, kAppend, fSrc, fSrc_left, fSrc_mixed, fSrc_turn, fSrcLen, fSrcPop, sSrcPut, sSrcPut_left, sSrcPut_mixed, sSrcPut_turn, fLc, fDc, iKeysD, fYes, fDIn, kDVal, keyD, kRevL, kEqI, kNeI, lim]
  have h2 := enum_numb vs 0
  have h3 := pairs_truth s (numb 0 vs)
  simp only [F__law_true_of]
  generalize op2 kSub (op2 kSub (op1 kNeg (fName 2)) (fC (.int 1))) (fName 1) = E at h1 ⊢
  simp [h1, h2, h3, kDictP, truthP, sSeq, sNil, sSet, sSetO, sIf, sRet, sRetS, sRetN, sExpr, sFor, sPar, sAsg, sDrop, sPass, sBrk, sCnt, funF, fName, slot, fC, op1, op2, opN, aNil, aCons, aOwn, fCall, fillA, backA, eIf, eAnd, eOr, eNot, eView, tB, tNotF, tAndF, tOrF, tView, mask, maskFrom, wipeD, gSet, gsCons, gsNil, gTupF, setsD, iLst, iTupF, iScr, iRange1, iRange2, iEnumT, iEnumL, kAdd, kSub, kDiv, kMod, kII, kIC, kNeg, kLt, kLe, kGt, kGe, kTup, kLst, kLen, kAbs, kInt, kMax2, kMin2, kXor, kAnd, kIx, kTuple, kList, kCat, fOwn, fOwn0, tyD, kAppend, fSrc, fSrc_left, fSrc_mixed, fSrc_turn, fSrcLen, fSrcPop, sSrcPut, sSrcPut_left, sSrcPut_mixed, sSrcPut_turn, fLc, fDc, iKeysD, fYes, fDIn, kDVal, keyD, kRevL, kEqI, kNeI, lim, -List.map_map]
theorem numb_mem {α : Type} : ∀ (l : List α) (k : Nat) (q : Nat × α), q ∈ numb k l ↔ ∃ i, q.1 = k + i ∧ l[i]? = some q.2
  | [], k, q => by simp [numb]
  | x :: r, k, q => by
    rw [numb, List.mem_cons, numb_mem r (k + 1) q]
    constructor
    · rintro (rfl | ⟨i, h1, h2⟩)
      · exact ⟨0, by simp, by simp⟩
      · exact ⟨i + 1, by omega, by simpa using h2⟩
    · rintro ⟨i, h1, h2⟩
      cases i with
      | zero =>
        left
        simp at h1 h2
        exact Prod.ext h1 h2.symm
      | succ i => exact .inr ⟨i, by omega, by simpa using h2⟩
/-- what a block's dict tells -/
def tvB (vs : List Int) (s : Int) (n : Int) : Bool := decide (vs.getD (n - 1 - s).toNat 0 = 1)
theorem truth_get (vs : List Int) (s : Int) (kvs : List (Key × D)) (i : Nat) (h : i < vs.length) : valP (mergeP kvs (truthP vs s)) (Sum.inl ((i : Int) + 1 + s)) = some (.int (if vs.getD i 0 = 1 then (i : Int) + 1 + s else -((i : Int) + 1 + s))) := by
  have hm := (valP_merge (fun k => match k with | .inl n => .int (if tvB vs s n then n else -n) | .inr _ => .non) (truthP vs s) kvs (Sum.inl ((i : Int) + 1 + s)) (by
    intro kv hkv
    obtain ⟨q, hq, rfl⟩ := List.mem_map.mp hkv
    obtain ⟨j, h1, h2⟩ := (numb_mem vs 0 q).mp hq
    show D.int (sgn s q) = D.int _
    congr 1
    have e : ((q.1 : Int) + 1 + s - 1 - s).toNat = j := by omega
    unfold tvB sgn
    rw [e, List.getD_eq_getElem?_getD, h2]
    by_cases hz : q.2 = 1
    · simp [hz]
    · simp [hz]; omega)).1 (by
    rw [truthP, List.map_map]
    exact List.mem_map.mpr ⟨(i, vs[i]), (numb_mem vs 0 _).mpr ⟨i, by simp, by simp [h]⟩, rfl⟩)
  rw [hm]
  show some (D.int _) = _
  have e : ((i : Int) + 1 + s - 1 - s).toNat = i := by omega
  unfold tvB
  rw [e]
  by_cases hz : vs.getD i 0 = 1 <;> simp [hz]
theorem truth_vals (vs : List Int) : Vals (mergeP [] (truthP vs 0)) (tvB vs 0) vs 0 := by
  intro i hi
  have e : ((i : Int) + 1 + 0 - 1 - 0).toNat = i := by omega
  have h2 : tvB vs 0 (i + 1 + 0) = decide (vs.getD i 0 = 1) := by unfold tvB; rw [e]
  refine ⟨?_, h2⟩
  unfold Tells
  rw [truth_get vs 0 [] i hi, h2]
  by_cases hz : vs.getD i 0 = 1 <;> simp [hz]
end Bl

set_option Elab.async false
set_option linter.all false
set_option maxRecDepth 100000
set_option maxHeartbeats 4000000
namespace Bl
open PySem PySem.Spec PyProof.Rows L2
section
variable {T : List (Key × D)} {tv : Int → Bool} {vs : List Int} {s : Int}
def FitB (T : List (Key × D)) (c : List Int) : Prop := fitC T c ∧ c.length ≤ 1000
theorem fit_clause {ks : List Int} (hl : ks.length ≤ 4) (h : ∀ k ∈ ks, Tells T tv (absI k)) : ∀ c ∈ clauseI ks, FitB T c := by
  intro c hc
  unfold clauseI at hc
  split at hc
  · rw [List.mem_singleton] at hc
    subst hc
    refine ⟨fun k hk => ⟨_, h k ((ded_mem ks k).mp ((sortA_perm _).mem_iff.mp hk))⟩, ?_⟩
    rw [(sortA_perm _).length_eq]
    have := fold_len ks []
    unfold ded
    simp at this
    omega
  · cases hc
theorem fit_and {y a b : Int} (ty : Tells T tv (absI y)) (ta : Tells T tv (absI a)) (tb : Tells T tv (absI b)) : ∀ c ∈ andI y a b, FitB T c := by
  intro c hc
  simp only [andI, List.mem_append] at hc
  rcases hc with hc | hc | hc
  · exact fit_clause (tv := tv) (by simp) (by simp [absI_neg, ty, ta]) c hc
  · exact fit_clause (tv := tv) (by simp) (by simp [absI_neg, ty, tb]) c hc
  · exact fit_clause (tv := tv) (by simp) (by simp [absI_neg, ty, ta, tb]) c hc
theorem fit_same {a b : Int} (ta : Tells T tv (absI a)) (tb : Tells T tv (absI b)) : ∀ c ∈ sameI a b, FitB T c := by
  intro c hc
  simp only [sameI, List.mem_append] at hc
  rcases hc with hc | hc
  · exact fit_clause (tv := tv) (by simp) (by simp [absI_neg, ta, tb]) c hc
  · exact fit_clause (tv := tv) (by simp) (by simp [absI_neg, ta, tb]) c hc
theorem fit_ands (V : Vals T tv vs s) (hs : 0 ≤ s) (f : Nat) : ∀ (l : List (Int × Int)) (k : Nat), f + k + l.length ≤ vs.length → okAnds (f + k) l → ∀ c ∈ andsI f s k l, FitB T c
  | [], _, _, _ => by simp [andsI]
  | p :: r, k, hl, ok => by
    simp only [List.length_cons] at hl
    obtain ⟨⟨q1, q2, q3, q4⟩, ok2⟩ := ok
    have ih := fit_ands V hs f r (k + 1) (by omega) (by rw [← Nat.add_assoc]; exact ok2)
    have hy := V (f + k) (by omega)
    have e : ((f + k : Nat) : Int) + 1 + s = (f : Int) + k + 1 + s := by omega
    rw [e] at hy
    have ea : absI ((f : Int) + k + 1 + s) = (f : Int) + k + 1 + s := if_neg (by omega)
    intro c hc
    simp only [andsI, List.mem_append] at hc
    rcases hc with hc | hc
    · exact fit_and (tv := tv) (by rw [ea]; exact hy.1) (far_told V hs q1 (by omega)) (far_told V hs q3 (by omega)) c hc
    · exact ih c hc
theorem fit_graph {g : Gr} (w : g.wf) (V : Vals T tv vs s) (hs : 0 ≤ s) (hl : vs.length = g.size) : ∀ c ∈ graphI g s, FitB T c := by
  intro c hc
  rcases List.mem_cons.mp hc with z | z
  · subst z
    have h0 := V 0 (by rw [hl]; have := w.small; omega)
    have e : ((0 : Nat) : Int) + 1 + s = 1 + s := by omega
    rw [e] at h0
    have ea : absI (-1 - s) = 1 + s := by unfold absI; rw [if_pos (by omega)]; omega
    refine ⟨fun k hk => ?_, by simp⟩
    rw [List.mem_singleton.mp hk, ea]
    exact ⟨_, h0.1⟩
  · exact fit_ands V hs g.first g.ands 0 (by rw [hl]; exact Nat.le_refl _) w.ands c z
end
end Bl

set_option Elab.async false
set_option linter.all false
set_option maxRecDepth 100000
set_option maxHeartbeats 4000000
namespace Bl
open PySem PySem.Spec PyProof.Rows L2
def addBit (b : Int) (L : List (List Int)) : List (List Int) := L.map fun l => l ++ [b]
theorem all_lc (X m x2 : D) (b : Int) (L : List (List Int)) (hl : L.length ≤ 1000000) (h : ∀ l ∈ L, l.length ≤ 1000) : lcGo (gSet 3) fYes (op2 kAdd (fName 3) (opN kTup (aCons (fC (.int b)) aNil))) [3] (L.map clD) [] [m, X, x2, .dead] = some ((addBit b L).map clD, [m, X, x2, .dead]) := by
  rw [lc_val (φ := fun l => clD (l ++ [b])) (fun l hk => ?_) hl]
  · simp [addBit, clD]
  · have h1 : l.length + 1 ≤ 1000000 := by have := h l hk; omega
    simp [lcOne, clD, h1, sSeq, sNil, sSet, sSetO, sIf, sRet, sRetS, sRetN, sExpr, sFor, sPar, sAsg, sDrop, sPass, sBrk, sCnt, funF, fName, slot, fC, op1, op2, opN, aNil, aCons, aOwn, fCall, fillA, backA, eIf, eAnd, eOr, eNot, eView, tB, tNotF, tAndF, tOrF, tView, mask, maskFrom, wipeD, gSet, gsCons, gsNil, gTupF, setsD, iLst, iTupF, iScr, iRange1, iRange2, iEnumT, iEnumL, kAdd, kSub, kDiv, kMod, kII, kIC, kNeg, kLt, kLe, kGt, kGe, kTup, kLst, kLen, kAbs, kInt, kMax2, kMin2, kXor, kAnd, kIx, kTuple, kList, kCat, fOwn, fOwn0, tyD, kAppend, fSrc, fSrc_left, fSrc_mixed, fSrc_turn, fSrcLen, fSrcPop, sSrcPut, sSrcPut_left, sSrcPut_mixed, sSrcPut_turn, fLc, fDc, iKeysD, fYes, fDIn, kDVal, keyD, kRevL, kEqI, kNeI, lim]
theorem all_go (m : D) : ∀ (n k : Nat) (L : List (List Int)) (a : Nat), a + n ≤ 10 → L.length = 2 ^ a → (∀ l ∈ L, l.length = a ∧ ∀ v ∈ l, Bit v) → ∃ L' : List (List Int),
    forGo (gSet 2) (sDrop [2] (sSet 1 (op2 kCat (fLc (iLst (fName 1)) (gSet 3) fYes (op2 kAdd (fName 3) (opN kTup (aCons (fC (.int 0)) aNil))) [3]) (fLc (iLst (fName 1)) (gSet 3) fYes (op2 kAdd (fName 3) (opN kTup (aCons (fC (.int 1)) aNil))) [3])))) (rngD k n) [m, .lst (L.map clD), .dead, .dead] = some (.nx [m, .lst (L'.map clD), .dead, .dead]) ∧ ∀ l ∈ L', l.length = a + n ∧ ∀ v ∈ l, Bit v
  | 0, k, L, a, _, _, h => ⟨L, rfl, h⟩
  | n + 1, k, L, a, ha, hl, h => by
    have hp : 2 ^ a ≤ 2 ^ 10 := Nat.pow_le_pow_right (by omega) (by omega)
    obtain ⟨L', g1, g2⟩ := all_go m n (k + 1) (addBit 0 L ++ addBit 1 L) (a + 1) (by omega) (by simp [addBit, hl]; rw [Nat.pow_succ]; omega) (by
      intro l hm
      simp only [addBit, List.mem_append, List.mem_map] at hm
      rcases hm with ⟨x, hx, rfl⟩ | ⟨x, hx, rfl⟩
      · obtain ⟨u, w⟩ := h x hx
        refine ⟨by simp [u], fun v hv => ?_⟩
        rcases List.mem_append.mp hv with z | z
        · exact w v z
        · rw [List.mem_singleton.mp z]; exact .inl rfl
      · obtain ⟨u, w⟩ := h x hx
        refine ⟨by simp [u], fun v hv => ?_⟩
        rcases List.mem_append.mp hv with z | z
        · exact w v z
        · rw [List.mem_singleton.mp z]; exact .inr rfl)
    refine ⟨L', ?_, fun l hm => by have := g2 l hm; exact ⟨by omega, this.2⟩⟩
    have h0 := all_lc (.lst (L.map clD)) m (.int (k : Nat)) 0 L (by omega) (fun l hm => by have := h l hm; omega)
    have h1 := all_lc (.lst (L.map clD)) m (.int (k : Nat)) 1 L (by omega) (fun l hm => by have := h l hm; omega)
    have l1 : (addBit 0 L).length + (addBit 1 L).length ≤ 1000000 := by simp [addBit]; omega
    rw [List.map_append] at g1
    have l2 : ((addBit 0 L).map clD).length + ((addBit 1 L).map clD).length ≤ 1000000 := by simpa using l1
    generalize (addBit 0 L).map clD = A at h0 g1 l2
    generalize (addBit 1 L).map clD = B at h1 g1 l2
    simp only [rngD]
    rw [forGo]
    generalize op2 kAdd (fName 3) (opN kTup (aCons (fC (.int 0)) aNil)) = E0 at h0 g1 ⊢
    generalize op2 kAdd (fName 3) (opN kTup (aCons (fC (.int 1)) aNil)) = E1 at h1 g1 ⊢
    simp [h0, h1, l2, sSeq, sNil, sSet, sSetO, sIf, sRet, sRetS, sRetN, sExpr, sFor, sPar, sAsg, sDrop, sPass, sBrk, sCnt, funF, fName, slot, fC, op1, op2, opN, aNil, aCons, aOwn, fCall, fillA, backA, eIf, eAnd, eOr, eNot, eView, tB, tNotF, tAndF, tOrF, tView, mask, maskFrom, wipeD, gSet, gsCons, gsNil, gTupF, setsD, iLst, iTupF, iScr, iRange1, iRange2, iEnumT, iEnumL, kAdd, kSub, kDiv, kMod, kII, kIC, kNeg, kLt, kLe, kGt, kGe, kTup, kLst, kLen, kAbs, kInt, kMax2, kMin2, kXor, kAnd, kIx, kTuple, kList, kCat, fOwn, fOwn0, tyD, kAppend, fSrc, fSrc_left, fSrc_mixed, fSrc_turn, fSrcLen, fSrcPop, sSrcPut, sSrcPut_left, sSrcPut_mixed, sSrcPut_turn, fLc, fDc, iKeysD, fYes, fDIn, kDVal, keyD, kRevL, kEqI, kNeI, lim] at g1 ⊢
    exact g1
theorem f_all_bits (n : Nat) (hn : n ≤ 10) : ∃ L : List (List Int), F__law_all_bits [.int n] = some (.lst (L.map clD), [.dead]) ∧ ∀ l ∈ L, l.length = n ∧ ∀ v ∈ l, Bit v := by
  obtain ⟨L, h1, h2⟩ := all_go (.int n) n 0 [[]] 0 (by omega) rfl (by simp)
  refine ⟨L, ?_, by simpa using h2⟩
  have h3 := in62_nat (n := n) (by omega)
  have h4 : rangeD 0 (n : Int) = rngD 0 n := rangeD_rng n
  have e : ([[]] : List (List Int)).map clD = [D.tup []] := rfl
  rw [e] at h1
  simp only [F__law_all_bits]
  generalize hF : sDrop [2] (sSet 1 (op2 kCat (fLc (iLst (fName 1)) (gSet 3) fYes (op2 kAdd (fName 3) (opN kTup (aCons (fC (.int 0)) aNil))) [3]) (fLc (iLst (fName 1)) (gSet 3) fYes (op2 kAdd (fName 3) (opN kTup (aCons (fC (.int 1)) aNil))) [3]))) = F at h1 ⊢
  simp [h1, h3, h4, sSeq, sNil, sSet, sSetO, sIf, sRet, sRetS, sRetN, sExpr, sFor, sPar, sAsg, sDrop, sPass, sBrk, sCnt, funF, fName, slot, fC, op1, op2, opN, aNil, aCons, aOwn, fCall, fillA, backA, eIf, eAnd, eOr, eNot, eView, tB, tNotF, tAndF, tOrF, tView, mask, maskFrom, wipeD, gSet, gsCons, gsNil, gTupF, setsD, iLst, iTupF, iScr, iRange1, iRange2, iEnumT, iEnumL, kAdd, kSub, kDiv, kMod, kII, kIC, kNeg, kLt, kLe, kGt, kGe, kTup, kLst, kLen, kAbs, kInt, kMax2, kMin2, kXor, kAnd, kIx, kTuple, kList, kCat, fOwn, fOwn0, tyD, kAppend, fSrc, fSrc_left, fSrc_mixed, fSrc_turn, fSrcLen, fSrcPop, sSrcPut, sSrcPut_left, sSrcPut_mixed, sSrcPut_turn, fLc, fDc, iKeysD, fYes, fDIn, kDVal, keyD, kRevL, kEqI, kNeI, lim]
end Bl

set_option Elab.async false
set_option linter.all false
set_option maxRecDepth 100000
set_option maxHeartbeats 4000000
namespace Bl
open PySem PySem.Spec PyProof.Rows L2
theorem cut_take {α : Type} (xs : List α) (k : Nat) (h : k ≤ xs.length) : cutD xs none (some (k : Int)) = xs.take k := by
  unfold cutD
  rw [HT.sIx_none, HT.sIx_nat, Nat.min_eq_left h]
  simp
theorem cut_drop {α : Type} (xs : List α) (k : Nat) (h : k ≤ xs.length) : cutD xs (some (k : Int)) none = xs.drop k := by
  unfold cutD
  rw [HT.sIx_none, HT.sIx_nat, Nat.min_eq_left h]
  apply List.take_of_length_le
  simp
theorem ix_nat (n j : Nat) (h : j < n) : ixN n (j : Int) = some j := by
  unfold ixN
  rw [if_pos (Int.natCast_nonneg j), if_pos (by simpa using h)]
  rfl
/-- the dict of the values of the nodes, and what is kept by it -/
theorem kept_vals {g : Gr} (w : g.wf) (vs : List Int) (hv : ∀ v ∈ vs, Bit v) (hl : vs.length = g.size) : ∃ T, F__law_true_of [.lst (vs.map D.int), .int 0] = some (.dic T, [.dead, .dead]) ∧ F__law_kept [.lst (graphC g 0), .dic T] = some (.bl (decide (vs.getD 0 0 = 0) && andsB vs g.first g.ands), [.dead, .dead]) := by
  have h1 := f_true_of vs 0 (by have := w.small; omega)
  refine ⟨_, h1, ?_⟩
  have V := truth_vals vs
  have h2 := f_kept (mergeP [] (truthP vs 0)) (graphI g 0) (fit_graph w V (by omega) hl)
  rw [graphI_map, graph_kept w V hv (by omega) hl] at h2
  exact h2
theorem good_vals {g : Gr} (w : g.wf) (b : List Int) (hb : b.length = g.ins + g.regs.length) (hv : ∀ v ∈ b, Bit v) : ∃ vs, F__law_nodes [g.enc, .tup ((b.drop g.ins).map D.int), .tup ((b.take g.ins).map D.int), .int 1] = some (.lst (vs.map D.int), [.dead, .dead, .dead, .dead]) ∧ vs.length = g.size ∧ (∀ v ∈ vs, Bit v) ∧ vs.getD 0 0 = 0 ∧ andsB vs g.first g.ands = true ∧ ∀ i, i < b.length → vs.getD (1 + i) 0 = b.getD i 0 := by
  have h1 := f_nodes g w (b.take g.ins) (b.drop g.ins) (by simp; omega) (by simp; omega) (fun v h => hv v (List.mem_of_mem_take h)) (fun v h => hv v (List.mem_of_mem_drop h))
  rw [List.take_append_drop] at h1
  have e : (0 :: b).length = g.first := by simp [Gr.first]; omega
  have hb0 : ∀ v ∈ (0 :: b), Bit v := fun v h => by
    rcases List.mem_cons.mp h with z | z
    · rw [z]; exact .inl rfl
    · exact hv v z
  refine ⟨_, h1, ?_, nodesV_bit _ _ hb0, ?_, ?_, ?_⟩
  · rw [nodesV_len, e]; rfl
  · rw [nodesV_pre _ _ 0 (by simp)]; rfl
  · have := nodesV_ands g.ands (0 :: b) (by rw [e]; exact w.ands)
    rw [e] at this
    exact this
  · intro i hi
    rw [nodesV_pre _ _ (1 + i) (by simp; omega), Nat.add_comm]
    rfl
theorem bad_vals {g : Gr} (w : g.wf) (vs : List Int) (hl : vs.length = g.size) (hv : ∀ v ∈ vs, Bit v) (h0 : vs.getD 0 0 = 0) (ha : andsB vs g.first g.ands = true) (j : Nat) (hj : j < g.size) (hc : j = 0 ∨ g.first ≤ j) : ∃ ws : List Int, ws = vs.set j (1 - vs.getD j 0) ∧ ws.length = g.size ∧ (∀ v ∈ ws, Bit v) ∧ (decide (ws.getD 0 0 = 0) && andsB ws g.first g.ands) = false := by
  refine ⟨_, rfl, by simp [hl], ?_, ?_⟩
  · intro v h
    rcases List.mem_or_eq_of_mem_set h with z | z
    · exact hv v z
    · have := getD_bit hv j
      unfold Bit at *
      omega
  · rcases hc with hc | hc
    · subst hc
      rw [set_getD, if_pos ⟨rfl, by omega⟩, h0]
      rfl
    · rw [flip_ands vs hv j (by omega) g.ands g.first w.ands ha hc hj, Bool.and_false]
end Bl

set_option Elab.async false
set_option linter.all false
set_option maxRecDepth 100000
set_option maxHeartbeats 4000000
namespace Bl
open PySem PySem.Spec PyProof.Rows L2
abbrev valB : Es := sDrop [5, 6, 7] (sSeq (sSetO 6 (fCall F__law_nodes [none, none, none, none] (aCons (fName 1) (aCons (op3 kSlT (fName 5) (oSome (op2 kIx (fName 1) (fC (.int 0)))) oNone) (aCons (op3 kSlT (fName 5) oNone (oSome (op2 kIx (fName 1) (fC (.int 0))))) (aCons (fC (.int 1)) aNil)))))) (sSeq (sIf (tNotF (tB (eView false (fCall F__law_kept [none, none] (aCons (fName 2) (aCons (fCall F__law_true_of [none, none] (aCons (fName 6) (aCons (fC (.int 0)) aNil))) aNil)))))) (sRet [0] (fC (.bl false))) sNil) (sSeq (sSet 7 (eIf (tB (op2 kGt (fName 4) (fName 3))) (op2 kAdd (fCall F__law_pick [some 0, none] (aOwn (aCons (op2 kSub (fName 4) (fName 3)) aNil))) (fName 3)) (fC (.int 0)))) (sSeq (sPutL 6 (eView false (op2 kSub (fC (.int 1)) (op2 kIx (fName 6) (fName 7)))) (fName 7)) (sIf (tB (eView false (fCall F__law_kept [none, none] (aCons (fName 2) (aCons (fCall F__law_true_of [none, none] (aCons (fName 6) (aCons (fC (.int 0)) aNil))) aNil))))) (sRet [0] (fC (.bl false))) sNil)))))
theorem values_step {g : Gr} (w : g.wf) (b : List Int) (hb : b.length = g.ins + g.regs.length) (hv : ∀ v ∈ b, Bit v) (s : Sr) (hs : s.c.length ≤ 63) : ∃ s' : Sr, (gSet 5 (clD b) [s.enc, g.enc, .lst (graphC g 0), .int g.first, .int g.size, .dead, .dead, .dead]).bind valB = some (.nx [s'.enc, g.enc, .lst (graphC g 0), .int g.first, .int g.size, .dead, .dead, .dead]) ∧ s'.c.length ≤ 63 := by
  obtain ⟨vs, n1, n2, n3, n4, n5, n6⟩ := good_vals w b hb hv
  obtain ⟨T1, t1, t2⟩ := kept_vals w vs n3 n2
  rw [n4, n5] at t2
  have c1 := cut_take (b.map D.int) g.ins (by simp; omega)
  have c2 := cut_drop (b.map D.int) g.ins (by simp; omega)
  rw [← List.map_take] at c1
  rw [← List.map_drop] at c2
  have sm := w.small
  have spot : ∃ (j : Nat) (s' : Sr), (eIf (tB (op2 kGt (fName 4) (fName 3))) (op2 kAdd (fCall F__law_pick [some 0, none] (aOwn (aCons (op2 kSub (fName 4) (fName 3)) aNil))) (fName 3)) (fC (.int 0))) [s.enc, g.enc, .lst (graphC g 0), .int g.first, .int g.size, clD b, .lst (vs.map D.int), .dead] = some (.int j, [s'.enc, g.enc, .lst (graphC g 0), .int g.first, .int g.size, clD b, .lst (vs.map D.int), .dead]) ∧ s'.c.length ≤ 63 ∧ j < g.size ∧ (j = 0 ∨ g.first ≤ j) := by
    by_cases h : g.first < g.size
    · obtain ⟨v, s', a1, a2, a3, a4⟩ := f_pick1 s hs ((g.size : Int) - g.first) (by omega) (by omega)
      obtain ⟨k, rfl⟩ : ∃ k : Nat, v = k := ⟨v.toNat, by omega⟩
      refine ⟨k + g.first, s', ?_, a4, by omega, .inr (by omega)⟩
      rw [show ((k + g.first : Nat) : Int) = (k : Int) + g.first from Int.natCast_add ..]
      have h' : (g.first : Int) < g.size := by omega
      generalize (g.first : Int) = f at *
      generalize (g.size : Int) = z at *
      simp only [Sr.enc] at a1 ⊢
      simp [a1, h', sSeq, sNil, sSet, sSetO, sIf, sRet, sRetS, sRetN, sExpr, sFor, sPar, sAsg, sDrop, sPass, sBrk, sCnt, funF, fName, slot, fC, op1, op2, opN, aNil, aCons, aOwn, fCall, fillA, backA, eIf, eAnd, eOr, eNot, eView, tB, tNotF, tAndF, tOrF, tView, mask, maskFrom, wipeD, gSet, gsCons, gsNil, gTupF, setsD, iLst, iTupF, iScr, iRange1, iRange2, iEnumT, iEnumL, kAdd, kSub, kDiv, kMod, kII, kIC, kNeg, kLt, kLe, kGt, kGe, kTup, kLst, kLen, kAbs, kInt, kMax2, kMin2, kXor, kAnd, kIx, kTuple, kList, kCat, fOwn, fOwn0, tyD, kAppend, fSrc, fSrc_left, fSrc_mixed, fSrc_turn, fSrcLen, fSrcPop, sSrcPut, sSrcPut_left, sSrcPut_mixed, sSrcPut_turn, fLc, fDc, iKeysD, fYes, fDIn, kDVal, keyD, kRevL, kEqI, kNeI, lim]
    · refine ⟨0, s, ?_, hs, by omega, .inl rfl⟩
      have h' : ¬ (g.first : Int) < g.size := by omega
      generalize (g.first : Int) = f at *
      generalize (g.size : Int) = z at *
      simp [h', sSeq, sNil, sSet, sSetO, sIf, sRet, sRetS, sRetN, sExpr, sFor, sPar, sAsg, sDrop, sPass, sBrk, sCnt, funF, fName, slot, fC, op1, op2, opN, aNil, aCons, aOwn, fCall, fillA, backA, eIf, eAnd, eOr, eNot, eView, tB, tNotF, tAndF, tOrF, tView, mask, maskFrom, wipeD, gSet, gsCons, gsNil, gTupF, setsD, iLst, iTupF, iScr, iRange1, iRange2, iEnumT, iEnumL, kAdd, kSub, kDiv, kMod, kII, kIC, kNeg, kLt, kLe, kGt, kGe, kTup, kLst, kLen, kAbs, kInt, kMax2, kMin2, kXor, kAnd, kIx, kTuple, kList, kCat, fOwn, fOwn0, tyD, kAppend, fSrc, fSrc_left, fSrc_mixed, fSrc_turn, fSrcLen, fSrcPop, sSrcPut, sSrcPut_left, sSrcPut_mixed, sSrcPut_turn, fLc, fDc, iKeysD, fYes, fDIn, kDVal, keyD, kRevL, kEqI, kNeI, lim]
  obtain ⟨j, s', p1, p2, p3, p4⟩ := spot
  obtain ⟨ws, m1, m2, m3, m4⟩ := bad_vals w vs n2 n3 n4 n5 j p3 p4
  obtain ⟨T2, u1, u2⟩ := kept_vals w ws m3 m2
  rw [m4] at u2
  have i1 : atI (vs.map D.int) (j : Int) = some (.int (vs.getD j 0)) := by
    rw [atI_nat, List.getElem?_map, List.getD_eq_getElem?_getD, List.getElem?_eq_getElem (by omega)]
    rfl
  have i2 : ixN (vs.map D.int).length (j : Int) = some j := ix_nat _ _ (by simp; omega)
  have i3 : (vs.map D.int).set j (.int (1 - vs.getD j 0)) = ws.map D.int := by
    rw [m1, List.map_set]
  refine ⟨s', ?_, p2⟩
  simp only [valB]
  generalize eIf (tB (op2 kGt (fName 4) (fName 3))) (op2 kAdd (fCall F__law_pick [some 0, none] (aOwn (aCons (op2 kSub (fName 4) (fName 3)) aNil))) (fName 3)) (fC (.int 0)) = E at p1 ⊢
  generalize (b.take g.ins).map D.int = LT at *
  generalize (b.drop g.ins).map D.int = LD at *
  generalize vs.map D.int = N at *
  generalize ws.map D.int = N2 at *
  generalize vs.getD j 0 = x at *
  generalize (j : Int) = y at *
  generalize (g.first : Int) = f at *
  generalize (g.size : Int) = z at *
  generalize graphC g 0 = C at *
  simp only [Gr.enc, Sr.enc, clD] at *
  simp [n1, t1, t2, c1, c2, p1, u1, u2, i1, i2, i3, kSlT, op3, oNone, oSome, sPutL, D.flat, at0, sSeq, sNil, sSet, sSetO, sIf, sRet, sRetS, sRetN, sExpr, sFor, sPar, sAsg, sDrop, sPass, sBrk, sCnt, funF, fName, slot, fC, op1, op2, opN, aNil, aCons, aOwn, fCall, fillA, backA, eIf, eAnd, eOr, eNot, eView, tB, tNotF, tAndF, tOrF, tView, mask, maskFrom, wipeD, gSet, gsCons, gsNil, gTupF, setsD, iLst, iTupF, iScr, iRange1, iRange2, iEnumT, iEnumL, kAdd, kSub, kDiv, kMod, kII, kIC, kNeg, kLt, kLe, kGt, kGe, kTup, kLst, kLen, kAbs, kInt, kMax2, kMin2, kXor, kAnd, kIx, kTuple, kList, kCat, fOwn, fOwn0, tyD, kAppend, fSrc, fSrc_left, fSrc_mixed, fSrc_turn, fSrcLen, fSrcPop, sSrcPut, sSrcPut_left, sSrcPut_mixed, sSrcPut_turn, fLc, fDc, iKeysD, fYes, fDIn, kDVal, keyD, kRevL, kEqI, kNeI, lim]
theorem f_values {g : Gr} (w : g.wf) (s : Sr) (hs : s.c.length ≤ 63) : ∃ s' : Sr, F__law_values_right [s.enc, g.enc, .lst (graphC g 0)] = some (.bl true, [s'.enc, .dead, .dead]) ∧ s'.c.length ≤ 63 := by
  have w1 := w.ins
  have w2 := w.nregs
  obtain ⟨L, a1, a2⟩ := f_all_bits (g.ins + g.regs.length) (by omega)
  have a3 : ∃ s' : Sr, forGo (gSet 5) valB (L.map clD) [s.enc, g.enc, .lst (graphC g 0), .int g.first, .int g.size, .dead, .dead, .dead] = some (.nx [s'.enc, g.enc, .lst (graphC g 0), .int g.first, .int g.size, .dead, .dead, .dead]) ∧ s'.c.length ≤ 63 :=
    for_state (st := fun s : Sr => [s.enc, g.enc, .lst (graphC g 0), .int g.first, .int g.size, .dead, .dead, .dead]) (P := fun s => s.c.length ≤ 63) (b := s) hs fun b hb s hs => by
      obtain ⟨s', x, y⟩ := values_step w b (a2 b hb).1 (a2 b hb).2 s hs
      exact ⟨s', .inl x, y⟩
  obtain ⟨s', a3, a4⟩ := a3
  refine ⟨s', ?_, a4⟩
  have z1 := f_lsize g
  have e1 : (1 : Int) + g.ins + g.regs.length = g.first := by unfold Gr.first; omega
  have e2 : (g.first : Int) - 1 = ((g.ins + g.regs.length : Nat) : Int) := by unfold Gr.first; omega
  have e : F__law_values_right = funF 8 3 [0] false (sSeq (sPar [3, 4] [false, false] (aCons (op2 kAdd (op2 kAdd (fC (.int 1)) (op2 kIx (fName 1) (fC (.int 0)))) (opN kLen (aCons (op2 kIx (fName 1) (fC (.int 1))) aNil))) (aCons (fCall F__law_size [none] (aCons (fName 1) aNil)) aNil))) (sSeq (sFor (iLst (fCall F__law_all_bits [none] (aCons (op2 kSub (fName 3) (fC (.int 1))) aNil))) (gSet 5) valB) (sRet [0] (fC (.bl true))))) := rfl
  rw [e]
  generalize valB = F at a3 ⊢
  generalize graphC g 0 = C at *
  generalize ((g.ins + g.regs.length : Nat) : Int) = q at *
  generalize (g.size : Int) = z at *
  generalize (g.first : Int) = f at *
  simp only [Gr.enc, Sr.enc] at *
  simp [z1, a1, a3, e1, e2, at0, at1, sSeq, sNil, sSet, sSetO, sIf, sRet, sRetS, sRetN, sExpr, sFor, sPar, sAsg, sDrop, sPass, sBrk, sCnt, funF, fName, slot, fC, op1, op2, opN, aNil, aCons, aOwn, fCall, fillA, backA, eIf, eAnd, eOr, eNot, eView, tB, tNotF, tAndF, tOrF, tView, mask, maskFrom, wipeD, gSet, gsCons, gsNil, gTupF, setsD, iLst, iTupF, iScr, iRange1, iRange2, iEnumT, iEnumL, kAdd, kSub, kDiv, kMod, kII, kIC, kNeg, kLt, kLe, kGt, kGe, kTup, kLst, kLen, kAbs, kInt, kMax2, kMin2, kXor, kAnd, kIx, kTuple, kList, kCat, fOwn, fOwn0, tyD, kAppend, fSrc, fSrc_left, fSrc_mixed, fSrc_turn, fSrcLen, fSrcPop, sSrcPut, sSrcPut_left, sSrcPut_mixed, sSrcPut_turn, fLc, fDc, iKeysD, fYes, fDIn, kDVal, keyD, kRevL, kEqI, kNeI, lim]
end Bl

set_option Elab.async false
set_option linter.all false
set_option maxRecDepth 100000
set_option maxHeartbeats 4000000
namespace Bl
open PySem PySem.Spec PyProof.Rows L2
theorem f_step_of {g : Gr} (w : g.wf) (lot state vs : List Int) (hn : F__law_nodes [g.enc, .tup (state.map D.int), .tup (lot.map D.int), .int 1] = some (.lst (vs.map D.int), [.dead, .dead, .dead, .dead])) (hl : vs.length = g.size) (hv : ∀ v ∈ vs, Bit v) : ∃ x, F__law_step_of [g.enc, .tup (lot.map D.int), .tup (state.map D.int)] = some (.tup [x, .tup ((g.regs.map fun p => litV vs p.2).map D.int)], [.dead, .dead, .dead]) := by
  have w2 := w.nregs
  have w3 := w.nouts
  have h1 : lcGo (gSet 5) fYes (fCall F__law_literal [none, none, none] (aCons (fName 3) (aCons (fName 5) (aCons (fC (.int 1)) aNil)))) [5] (g.outs.map D.int) [] [g.enc, .tup (lot.map D.int), .tup (state.map D.int), .lst (vs.map D.int), .dead, .dead, .dead] = some (g.outs.map fun l => D.int (litV vs l), [g.enc, .tup (lot.map D.int), .tup (state.map D.int), .lst (vs.map D.int), .dead, .dead, .dead]) := by
    refine lc_val (fun l hl' => ?_) (by omega)
    have := w.outs l hl'
    have h2 := f_literal vs hv l (by omega) (by omega)
    generalize vs.map D.int = N at *
    generalize lot.map D.int = N2 at *
    generalize state.map D.int = N3 at *
    generalize g.enc = G at *
    simp [lcOne, h2, sSeq, sNil, sSet, sSetO, sIf, sRet, sRetS, sRetN, sExpr, sFor, sPar, sAsg, sDrop, sPass, sBrk, sCnt, funF, fName, slot, fC, op1, op2, opN, aNil, aCons, aOwn, fCall, fillA, backA, eIf, eAnd, eOr, eNot, eView, tB, tNotF, tAndF, tOrF, tView, mask, maskFrom, wipeD, gSet, gsCons, gsNil, gTupF, setsD, iLst, iTupF, iScr, iRange1, iRange2, iEnumT, iEnumL, kAdd, kSub, kDiv, kMod, kII, kIC, kNeg, kLt, kLe, kGt, kGe, kTup, kLst, kLen, kAbs, kInt, kMax2, kMin2, kXor, kAnd, kIx, kTuple, kList, kCat, fOwn, fOwn0, tyD, kAppend, fSrc, fSrc_left, fSrc_mixed, fSrc_turn, fSrcLen, fSrcPop, sSrcPut, sSrcPut_left, sSrcPut_mixed, sSrcPut_turn, fLc, fDc, iKeysD, fYes, fDIn, kDVal, keyD, kRevL, kEqI, kNeI, lim]
  have h2 : ∀ x, lcGo (gSet 6) fYes (fCall F__law_literal [none, none, none] (aCons (fName 3) (aCons (op2 kIx (fName 6) (fC (.int 1))) (aCons (fC (.int 1)) aNil)))) [6] (g.regs.map pr) [] [g.enc, .tup (lot.map D.int), .tup (state.map D.int), .lst (vs.map D.int), x, .dead, .dead] = some (g.regs.map fun p => D.int (litV vs p.2), [g.enc, .tup (lot.map D.int), .tup (state.map D.int), .lst (vs.map D.int), x, .dead, .dead]) := by
    intro x
    refine lc_val (fun p hp => ?_) (by omega)
    have := w.regs p hp
    have h2 := f_literal vs hv p.2 (by omega) (by omega)
    generalize vs.map D.int = N at *
    generalize lot.map D.int = N2 at *
    generalize state.map D.int = N3 at *
    generalize g.enc = G at *
    simp [lcOne, pr, h2, at1, sSeq, sNil, sSet, sSetO, sIf, sRet, sRetS, sRetN, sExpr, sFor, sPar, sAsg, sDrop, sPass, sBrk, sCnt, funF, fName, slot, fC, op1, op2, opN, aNil, aCons, aOwn, fCall, fillA, backA, eIf, eAnd, eOr, eNot, eView, tB, tNotF, tAndF, tOrF, tView, mask, maskFrom, wipeD, gSet, gsCons, gsNil, gTupF, setsD, iLst, iTupF, iScr, iRange1, iRange2, iEnumT, iEnumL, kAdd, kSub, kDiv, kMod, kII, kIC, kNeg, kLt, kLe, kGt, kGe, kTup, kLst, kLen, kAbs, kInt, kMax2, kMin2, kXor, kAnd, kIx, kTuple, kList, kCat, fOwn, fOwn0, tyD, kAppend, fSrc, fSrc_left, fSrc_mixed, fSrc_turn, fSrcLen, fSrcPop, sSrcPut, sSrcPut_left, sSrcPut_mixed, sSrcPut_turn, fLc, fDc, iKeysD, fYes, fDIn, kDVal, keyD, kRevL, kEqI, kNeI, lim]
  have l1 : (g.outs.map fun l => D.int (litV vs l)).length ≤ 1000000 := by simp; omega
  have l2 : (g.regs.map fun p => D.int (litV vs p.2)).length ≤ 1000000 := by simp; omega
  have e : (g.regs.map fun p => litV vs p.2).map D.int = g.regs.map fun p => D.int (litV vs p.2) := by simp
  rw [e]
  refine ⟨.tup (g.outs.map fun l => D.int (litV vs l)), ?_⟩
  simp only [F__law_step_of]
  generalize (g.outs.map fun l => D.int (litV vs l)) = O at *
  generalize (g.regs.map fun p => D.int (litV vs p.2)) = R at *
  generalize vs.map D.int = N at *
  generalize lot.map D.int = N2 at *
  generalize state.map D.int = N3 at *
  generalize (fCall F__law_literal [none, none, none] (aCons (fName 3) (aCons (fName 5) (aCons (fC (.int 1)) aNil)))) = E1 at *
  generalize (fCall F__law_literal [none, none, none] (aCons (fName 3) (aCons (op2 kIx (fName 6) (fC (.int 1))) (aCons (fC (.int 1)) aNil)))) = E2 at *
  simp only [Gr.enc] at *
  simp [hn, h1, h2, l1, l2, at1, at3, sSeq, sNil, sSet, sSetO, sIf, sRet, sRetS, sRetN, sExpr, sFor, sPar, sAsg, sDrop, sPass, sBrk, sCnt, funF, fName, slot, fC, op1, op2, opN, aNil, aCons, aOwn, fCall, fillA, backA, eIf, eAnd, eOr, eNot, eView, tB, tNotF, tAndF, tOrF, tView, mask, maskFrom, wipeD, gSet, gsCons, gsNil, gTupF, setsD, iLst, iTupF, iScr, iRange1, iRange2, iEnumT, iEnumL, kAdd, kSub, kDiv, kMod, kII, kIC, kNeg, kLt, kLe, kGt, kGe, kTup, kLst, kLen, kAbs, kInt, kMax2, kMin2, kXor, kAnd, kIx, kTuple, kList, kCat, fOwn, fOwn0, tyD, kAppend, fSrc, fSrc_left, fSrc_mixed, fSrc_turn, fSrcLen, fSrcPop, sSrcPut, sSrcPut_left, sSrcPut_mixed, sSrcPut_turn, fLc, fDc, iKeysD, fYes, fDIn, kDVal, keyD, kRevL, kEqI, kNeI, lim]
/-- the lot of a clock -/
theorem lot_lc (g : Gr) (w : g.wf) (s : Sr) (hs : s.c.length ≤ 63) (x2 x3 x4 x5 x6 : D) : ∃ (lot : List Int) (s' : Sr), lcGo (gSet 9) fYes (fCall F__law_pick [some 0, none] (aOwn (aCons (fC (.int 2)) aNil))) [9] (rangeD 0 (g.ins : Int)) [] [s.enc, g.enc, x2, x3, x4, x5, x6, .dead, .dead, .dead] = some (lot.map D.int, [s'.enc, g.enc, x2, x3, x4, x5, x6, .dead, .dead, .dead]) ∧ s'.c.length ≤ 63 ∧ lot.length = g.ins ∧ ∀ v ∈ lot, Bit v := by
  have w1 := w.ins
  rw [rangeD_map]
  obtain ⟨out, s', h1, h2, h3, h4⟩ := lc_ex0 (α := Nat) (β := Sr) (γ := Int) (as := List.range g.ins) (enc := fun i => D.int ((i : Nat) : Int)) (en := D.int) (b := s) (st := fun s => [s.enc, g.enc, x2, x3, x4, x5, x6, .dead, .dead, .dead]) (P := fun s => s.c.length ≤ 63) (Q := Bit) hs (fun a _ b hb => by
    obtain ⟨v2, s2, a2, b2, c2, d2⟩ := f_pick1 b hb 2 (by omega) (by omega)
    refine ⟨v2, s2, ?_, d2, by unfold Bit; omega⟩
    simp only [Sr.enc] at a2 ⊢
    generalize g.enc = G
    simp [lcOne, a2, sSeq, sNil, sSet, sSetO, sIf, sRet, sRetS, sRetN, sExpr, sFor, sPar, sAsg, sDrop, sPass, sBrk, sCnt, funF, fName, slot, fC, op1, op2, opN, aNil, aCons, aOwn, fCall, fillA, backA, eIf, eAnd, eOr, eNot, eView, tB, tNotF, tAndF, tOrF, tView, mask, maskFrom, wipeD, gSet, gsCons, gsNil, gTupF, setsD, iLst, iTupF, iScr, iRange1, iRange2, iEnumT, iEnumL, kAdd, kSub, kDiv, kMod, kII, kIC, kNeg, kLt, kLe, kGt, kGe, kTup, kLst, kLen, kAbs, kInt, kMax2, kMin2, kXor, kAnd, kIx, kTuple, kList, kCat, fOwn, fOwn0, tyD, kAppend, fSrc, fSrc_left, fSrc_mixed, fSrc_turn, fSrcLen, fSrcPop, sSrcPut, sSrcPut_left, sSrcPut_mixed, sSrcPut_turn, fLc, fDc, iKeysD, fYes, fDIn, kDVal, keyD, kRevL, kEqI, kNeI, lim]) (by simp; omega) (fg := gSet 9) (ft := fYes) (fe := fCall F__law_pick [some 0, none] (aOwn (aCons (fC (.int 2)) aNil))) (vs := [9])
  exact ⟨out, s', h1, h2, by simpa using h3, h4⟩
end Bl

set_option Elab.async false
set_option linter.all false
set_option maxRecDepth 100000
set_option maxHeartbeats 4000000
namespace Bl
open PySem PySem.Spec PyProof.Rows L2
/-- what a dict says -/
def tvT (T : List (Key × D)) (n : Int) : Bool := match valP T (Sum.inl n) with | some (.int i) => decide (i = n) | _ => false
theorem valP_none : ∀ (prs : List (Key × D)) (k : Key), valP prs k = none ↔ ¬ k ∈ prs.map (fun kv : Key × D => kv.1)
  | [], k => by simp [valP]
  | x :: r, k => by
    rw [valP_cons, List.map_cons, List.mem_cons]
    by_cases h : x.1 = k
    · rw [if_pos h]
      exact ⟨fun z => (nomatch z), fun z => absurd (.inl h.symm) z⟩
    · rw [if_neg h, valP_none r k]
      exact ⟨fun z q => q.elim (fun e => h e.symm) z, fun z q => z (.inr q)⟩
theorem putP_all {f : Key → D} (kvs : List (Key × D)) (k : Key) (h : ∀ kv ∈ kvs, kv.2 = f kv.1) : ∀ kv ∈ putP kvs k (f k), kv.2 = f kv.1 := by
  intro kv hkv
  unfold putP at hkv
  split at hkv
  · obtain ⟨x, hx, e⟩ := List.mem_map.mp hkv
    by_cases hk : x.1 = k
    · rw [if_pos hk] at e
      subst e
      show f k = f x.1
      rw [hk]
    · rw [if_neg hk] at e
      subst e
      exact h x hx
  · rcases List.mem_append.mp hkv with z | z
    · exact h kv z
    · rw [List.mem_singleton.mp z]
theorem putP_len (kvs : List (Key × D)) (k : Key) (v : D) : (putP kvs k v).length ≤ kvs.length + 1 := by
  unfold putP
  split <;> simp
theorem mergeP_all {f : Key → D} : ∀ (prs kvs : List (Key × D)), (∀ kv ∈ kvs, kv.2 = f kv.1) → (∀ kv ∈ prs, kv.2 = f kv.1) → ∀ kv ∈ mergeP kvs prs, kv.2 = f kv.1
  | [], kvs, h, _ => h
  | p :: r, kvs, h, hp => by
    have e : mergeP kvs (p :: r) = mergeP (putP kvs p.1 p.2) r := rfl
    rw [e, hp p (List.mem_cons_self ..)]
    exact mergeP_all r _ (putP_all kvs p.1 h) fun q hq => hp q (List.mem_cons_of_mem _ hq)
theorem mergeP_le : ∀ (prs kvs : List (Key × D)), (mergeP kvs prs).length ≤ kvs.length + prs.length
  | [], kvs => Nat.le_refl _
  | p :: r, kvs => by
    have e : mergeP kvs (p :: r) = mergeP (putP kvs p.1 p.2) r := rfl
    have h1 := mergeP_le r (putP kvs p.1 p.2)
    have h2 := putP_len kvs p.1 p.2
    rw [e, List.length_cons]
    omega
def fT (vs : List Int) (s : Int) : Key → D := fun k => match k with | .inl n => .int (if tvB vs s n then n else -n) | .inr _ => .non
theorem truth_all (vs : List Int) (s : Int) : ∀ kv ∈ truthP vs s, kv.2 = fT vs s kv.1 := by
  intro kv hkv
  obtain ⟨q, hq, rfl⟩ := List.mem_map.mp hkv
  obtain ⟨j, h1, h2⟩ := (numb_mem vs 0 q).mp hq
  show D.int (sgn s q) = D.int _
  congr 1
  have e : ((q.1 : Int) + 1 + s - 1 - s).toNat = j := by omega
  unfold tvB sgn
  rw [e, List.getD_eq_getElem?_getD, h2]
  by_cases hz : q.2 = 1
  · simp [hz]
  · simp [hz]; omega
/-- the dict with a block put in -/
def upd (T : List (Key × D)) (vs : List Int) (s : Int) : List (Key × D) := mergeP T (mergeP [] (truthP vs s))
theorem upd_len (T : List (Key × D)) (vs : List Int) (s : Int) : (mergeP [] (truthP vs s)).length ≤ vs.length ∧ (upd T vs s).length ≤ T.length + vs.length := by
  have h1 := mergeP_le (truthP vs s) []
  have h2 := mergeP_le (mergeP [] (truthP vs s)) T
  have h3 : (truthP vs s).length = vs.length := by rw [truthP, List.length_map, numb_len]
  unfold upd
  simp only [List.length_nil] at h1
  omega
/-- the dict has a block -/
def Got (T : List (Key × D)) (vs : List Int) (s : Int) : Prop := ∀ i : Nat, i < vs.length → valP T (Sum.inl ((i : Int) + 1 + s)) = some (.int (if vs.getD i 0 = 1 then (i : Int) + 1 + s else -((i : Int) + 1 + s)))
theorem got_upd (T : List (Key × D)) (vs : List Int) (s : Int) : Got (upd T vs s) vs s := by
  intro i hi
  have h1 := truth_get vs s [] i hi
  have hm := (valP_merge (fT vs s) (mergeP [] (truthP vs s)) T (Sum.inl ((i : Int) + 1 + s)) (mergeP_all _ _ (by simp) (truth_all vs s))).1 (by
    apply Classical.byContradiction
    intro z
    rw [(valP_none _ _).mpr z] at h1
    cases h1)
  unfold upd
  rw [hm]
  show some (D.int _) = _
  have e : ((i : Int) + 1 + s - 1 - s).toNat = i := by omega
  unfold tvB
  rw [e]
  by_cases hz : vs.getD i 0 = 1 <;> simp [hz]
theorem upd_out (T : List (Key × D)) (vs : List Int) (s n : Int) (h : ∀ i : Nat, i < vs.length → n ≠ (i : Int) + 1 + s) : valP (upd T vs s) (Sum.inl n) = valP T (Sum.inl n) := by
  have h1 := (valP_merge (fT vs s) (truthP vs s) [] (Sum.inl n) (truth_all vs s)).2 (by
    intro z
    obtain ⟨kv, hkv, e⟩ := List.mem_map.mp z
    obtain ⟨q, hq, rfl⟩ := List.mem_map.mp hkv
    obtain ⟨j, h1, h2⟩ := (numb_mem vs 0 q).mp hq
    have e2 : (q.1 : Int) + 1 + s = n := Sum.inl.inj e
    obtain ⟨hj, _⟩ := List.getElem?_eq_some_iff.mp h2
    exact h j hj (by omega))
  exact (valP_merge (fT vs s) (mergeP [] (truthP vs s)) T (Sum.inl n) (mergeP_all _ _ (by simp) (truth_all vs s))).2 ((valP_none _ _).mp h1)
theorem got_keep {T : List (Key × D)} {vs ws : List Int} {s t : Int} (G : Got T ws t) (h : ∀ i j : Nat, i < ws.length → j < vs.length → (i : Int) + t ≠ j + s) : Got (upd T vs s) ws t := by
  intro i hi
  rw [upd_out T vs s _ (fun j hj e => h i j hi hj (by omega))]
  exact G i hi
theorem got_vals {T : List (Key × D)} {vs : List Int} {s : Int} (G : Got T vs s) (hs : 0 ≤ s) : Vals T (tvT T) vs s := by
  intro i hi
  have h1 := G i hi
  have h2 : tvT T (i + 1 + s) = decide (vs.getD i 0 = 1) := by
    unfold tvT
    rw [h1]
    by_cases hz : vs.getD i 0 = 1
    · rw [if_pos hz, decide_eq_true hz]
      exact decide_eq_true rfl
    · rw [if_neg hz, decide_eq_false hz]
      exact decide_eq_false (by omega)
  refine ⟨?_, h2⟩
  unfold Tells
  rw [h1, h2]
  by_cases hz : vs.getD i 0 = 1 <;> simp [hz]
end Bl

set_option Elab.async false
set_option linter.all false
set_option maxRecDepth 100000
set_option maxHeartbeats 4000000
namespace Bl
open PySem PySem.Spec PyProof.Rows L2
/-- what a register has at a clock -/
def prev (vss : Nat → List Int) : Nat → (Int × Int) → Int
  | 0, p => p.1
  | c + 1, p => litV (vss c) p.2
structure Inv (g : Gr) (c : Nat) (st : List Int) (T : List (Key × D)) (vss : Nat → List Int) : Prop where
  len : T.length ≤ 20 * c
  st : st = g.regs.map (prev vss c)
  vs : ∀ i, i < c → (vss i).length = g.size ∧ (∀ v ∈ vss i, Bit v) ∧ (vss i).getD 0 0 = 0 ∧ andsB (vss i) g.first g.ands = true ∧ Got T (vss i) ((i : Int) * g.size) ∧ ∀ (k : Nat) (p : Int × Int), g.regs[k]? = some p → (vss i).getD (1 + (g.ins + k)) 0 = prev vss i p
theorem inv_zero (g : Gr) (vss : Nat → List Int) : Inv g 0 (g.regs.map fun p => p.1) [] vss := ⟨Nat.le_refl _, rfl, fun i h => absurd h (by omega)⟩
theorem block_lt {i c : Nat} (z : Nat) (h : i < c) : (i : Int) * z + z ≤ (c : Int) * z := by
  have h1 : (i + 1) * z ≤ c * z := Nat.mul_le_mul_right z h
  rw [Nat.add_mul, Nat.one_mul] at h1
  have h2 : ((i * z + z : Nat) : Int) ≤ ((c * z : Nat) : Int) := Int.ofNat_le.mpr h1
  rw [Int.natCast_add, Int.natCast_mul, Int.natCast_mul] at h2
  exact h2
theorem inv_next {g : Gr} (w : g.wf) {c : Nat} {st : List Int} {T : List (Key × D)} {vss : Nat → List Int} (I : Inv g c st T vss) (lot vs : List Int) (hlot : lot.length = g.ins) (h1 : vs.length = g.size) (h2 : ∀ v ∈ vs, Bit v) (h3 : vs.getD 0 0 = 0) (h4 : andsB vs g.first g.ands = true) (h5 : ∀ i, i < (lot ++ st).length → vs.getD (1 + i) 0 = (lot ++ st).getD i 0) :
    Inv g (c + 1) (g.regs.map fun p => litV vs p.2) (upd T vs ((c : Int) * g.size)) (fun i => if i = c then vs else vss i) := by
  have pv : ∀ i, i ≤ c → ∀ p, prev (fun i => if i = c then vs else vss i) i p = prev vss i p := by
    intro i hi p
    cases i with
    | zero => rfl
    | succ i =>
      show litV (if i = c then vs else vss i) p.2 = litV (vss i) p.2
      rw [if_neg (by omega)]
  have sm := w.small
  refine ⟨?_, ?_, ?_⟩
  · have := (upd_len T vs ((c : Int) * g.size)).2
    have := I.len
    omega
  · apply List.map_congr_left
    intro p _
    show litV vs p.2 = litV (if c = c then vs else vss c) p.2
    rw [if_pos rfl]
  · intro i hi
    by_cases hc : i = c
    · subst hc
      simp only [if_true]
      refine ⟨h1, h2, h3, h4, got_upd _ _ _, fun k p hk => ?_⟩
      rw [pv i (Nat.le_refl _)]
      have hk' : k < g.regs.length := (List.getElem?_eq_some_iff.mp hk).1
      rw [h5 (g.ins + k) (by rw [List.length_append, hlot, I.st, List.length_map]; omega), List.getD_eq_getElem?_getD, List.getElem?_append_right (by omega), hlot, Nat.add_sub_cancel_left, I.st, List.getElem?_map, hk]
      rfl
    · obtain ⟨a1, a2, a3, a4, a5, a6⟩ := I.vs i (by omega)
      simp only [if_neg hc]
      refine ⟨a1, a2, a3, a4, got_keep a5 ?_, fun k p hk => ?_⟩
      · intro x y hx hy
        have := block_lt g.size (show i < c by omega)
        omega
      · rw [pv i (by omega)]
        exact a6 k p hk
section
variable {g : Gr} {n : Nat} {st : List Int} {T : List (Key × D)} {vss : Nat → List Int}
theorem Inv.V (I : Inv g n st T vss) {c : Nat} (hc : c < n) : Vals T (tvT T) (vss c) ((c : Int) * g.size) := got_vals (I.vs c hc).2.2.2.2.1 (Int.mul_nonneg (by omega) (by omega))
theorem regL_abs (g : Gr) (c k : Nat) : 0 < regL g c k ∧ absI (regL g c k) = regL g c k := by
  have m0 : 0 ≤ (c : Int) * g.size := Int.mul_nonneg (by omega) (by omega)
  have h : 0 < regL g c k := by unfold regL; omega
  exact ⟨h, if_neg (by omega)⟩
theorem reg_tells (w : g.wf) (I : Inv g n st T vss) {c k : Nat} {p : Int × Int} (hc : c < n) (hk : g.regs[k]? = some p) : Tells T (tvT T) (regL g c k) ∧ trL (tvT T) (regL g c k) = decide (prev vss c p = 1) := by
  obtain ⟨a1, a2, a3, a4, a5, a6⟩ := I.vs c hc
  have hk' : k < g.regs.length := (List.getElem?_eq_some_iff.mp hk).1
  have e : (((1 + (g.ins + k) : Nat) : Int) + 1 + (c : Int) * g.size) = regL g c k := by unfold regL; omega
  obtain ⟨v1, v2⟩ := I.V hc (1 + (g.ins + k)) (by rw [a1]; unfold Gr.size Gr.first; omega)
  rw [e] at v1 v2
  refine ⟨v1, ?_⟩
  have : trL (tvT T) (regL g c k) = tvT T (regL g c k) := if_pos (regL_abs g c k).1
  rw [this, v2, a6 k p hk]
theorem regs_kept (w : g.wf) (I : Inv g n st T vss) {c : Nat} (hc : c + 1 < n) : ∀ (l : List (Int × Int)) (k : Nat), (∀ (j : Nat) (p : Int × Int), l[j]? = some p → g.regs[k + j]? = some p) → allK T (regsI g (c + 1) k l) = true ∧ ∀ x ∈ regsI g (c + 1) k l, FitB T x
  | [], _, _ => ⟨rfl, by simp [regsI]⟩
  | p :: r, k, h => by
    obtain ⟨i1, i2⟩ := regs_kept w I hc r (k + 1) fun j q hq => by
      have := h (j + 1) q (by simpa using hq)
      rwa [show k + 1 + j = k + (j + 1) by omega]
    have hk : g.regs[k]? = some p := h 0 p rfl
    obtain ⟨t1, t2⟩ := reg_tells w I hc hk
    obtain ⟨b1, b2⟩ := regL_abs g (c + 1) k
    have hp := w.regs p (List.mem_of_getElem? hk)
    obtain ⟨a1, a2, a3, a4, a5, a6⟩ := I.vs c (by omega)
    have V := I.V (show c < n by omega)
    have m0 : 0 ≤ (c : Int) * g.size := Int.mul_nonneg (by omega) (by omega)
    have u1 := far_told V m0 hp.2.1 (by omega)
    have u2 := far_tr V a2 m0 hp.2.1 (by omega)
    have u3 := far_nz hp.2.1 m0
    have e : (((c + 1 : Nat) : Int) - 1) = (c : Int) := by omega
    show allK T (sameI (regL g (c + 1 : Nat) k) (far p.2 ((((c + 1 : Nat) : Int) - 1) * g.size)) ++ regsI g (c + 1) (k + 1) r) = true ∧ ∀ x ∈ (sameI (regL g (c + 1 : Nat) k) (far p.2 ((((c + 1 : Nat) : Int) - 1) * g.size)) ++ regsI g (c + 1) (k + 1) r), FitB T x
    rw [e]
    have ks := allK_same (T := T) (tv := tvT T) (a := regL g (c + 1 : Nat) k) (b := far p.2 ((c : Int) * g.size)) (by omega) u3 (by rw [b2]; exact t1) u1
    constructor
    · rw [allK_app, i1, ks, t2, u2]
      show ((decide (litV (vss c) p.2 = 1) == decide (litV (vss c) p.2 = 1)) && true) = true
      simp
    · intro x hx
      rcases List.mem_append.mp hx with z | z
      · exact fit_same (tv := tvT T) (by rw [b2]; exact t1) u1 x z
      · exact i2 x z
theorem step_kept (w : g.wf) (I : Inv g n st T vss) {c : Nat} (hc : c < n) : allK T (stepI g c) = true ∧ ∀ x ∈ stepI g c, FitB T x := by
  obtain ⟨a1, a2, a3, a4, a5, a6⟩ := I.vs c hc
  have m0 : 0 ≤ (c : Int) * g.size := Int.mul_nonneg (by omega) (by omega)
  have g1 := graph_kept w (I.V hc) a2 m0 a1
  have g2 := fit_graph w (I.V hc) m0 a1
  rw [a3, a4] at g1
  have r : allK T (regsI g c 0 (if 0 < c then g.regs else [])) = true ∧ ∀ x ∈ regsI g c 0 (if 0 < c then g.regs else []), FitB T x := by
    cases c with
    | zero => exact ⟨rfl, by simp [regsI]⟩
    | succ c => exact regs_kept w I hc g.regs 0 fun j p h => by simpa using h
  constructor
  · show allK T (graphI g (c * g.size) ++ _) = true
    rw [allK_app, g1, r.1]
    rfl
  · intro x hx
    rcases List.mem_append.mp hx with z | z
    · exact g2 x z
    · exact r.2 x z
theorem unroll_kept (w : g.wf) (I : Inv g n st T vss) : ∀ m k, k + m ≤ n → allK T (unrollI g k m) = true ∧ ∀ x ∈ unrollI g k m, FitB T x
  | 0, _, _ => ⟨rfl, by simp [unrollI]⟩
  | m + 1, k, h => by
    obtain ⟨a, b⟩ := step_kept w I (show k < n by omega)
    obtain ⟨c, d⟩ := unroll_kept w I m (k + 1) (by omega)
    constructor
    · show allK T (stepI g k ++ unrollI g (k + 1) m) = true
      rw [allK_app, a, c]
      rfl
    · intro x hx
      rcases List.mem_append.mp hx with z | z
      · exact b x z
      · exact d x z
def startI (g : Gr) : List (List Int) := (numb 0 g.regs).map fun q => [if q.2.1 = 1 then regL g 0 q.1 else -regL g 0 q.1]
theorem startI_map (g : Gr) : (startI g).map clD = startC g := by
  unfold startI startC
  rw [List.map_map]
  rfl
theorem start_kept (w : g.wf) (I : Inv g n st T vss) (h : 0 < n) : allK T (startI g) = true ∧ ∀ x ∈ startI g, FitB T x := by
  have one : ∀ x ∈ startI g, keptC T x = true ∧ FitB T x := by
    intro x hx
    obtain ⟨q, hq, rfl⟩ := List.mem_map.mp hx
    obtain ⟨i, h1, h2⟩ := (numb_mem g.regs 0 q).mp hq
    have e : q.1 = i := by omega
    have hk : g.regs[q.1]? = some q.2 := by rw [e]; exact h2
    obtain ⟨t1, t2⟩ := reg_tells w I h hk
    obtain ⟨b1, b2⟩ := regL_abs g 0 q.1
    rw [show ((0 : Nat) : Int) = 0 from rfl] at t1 t2 b1 b2
    have hp := w.regs q.2 (List.mem_of_getElem? hk)
    have t2 : trL (tvT T) (regL g 0 q.1) = decide (q.2.1 = 1) := t2
    have hl : ∀ x : Int, x = regL g 0 q.1 ∨ x = -regL g 0 q.1 → FitB T [x] := by
      intro x hx
      refine ⟨fun k hk => ?_, by simp⟩
      rw [List.mem_singleton.mp hk]
      rcases hx with z | z
      · rw [z, b2]; exact ⟨_, t1⟩
      · rw [z, absI_neg, b2]; exact ⟨_, t1⟩
    by_cases h1 : q.2.1 = 1
    · rw [if_pos h1]
      refine ⟨?_, hl _ (.inl rfl)⟩
      show (decide (told T (absI (regL g 0 q.1)) = some (regL g 0 q.1)) || false) = true
      rw [told_lit (tv := tvT T) (by omega) (by rw [b2]; exact t1), t2, decide_eq_true h1]
      rfl
    · rw [if_neg h1]
      refine ⟨?_, hl _ (.inr rfl)⟩
      show (decide (told T (absI (-regL g 0 q.1)) = some (-regL g 0 q.1)) || false) = true
      rw [told_lit (tv := tvT T) (by omega) (by rw [absI_neg, b2]; exact t1), trL_neg _ (by omega), t2, decide_eq_false h1]
      rfl
  exact ⟨List.all_eq_true.mpr fun x hx => (one x hx).1, fun x hx => (one x hx).2⟩
theorem startC_sm (w : g.wf) : ∀ d ∈ startC g, Sm d := by
  intro d hd
  rw [← startI_map] at hd
  obtain ⟨x, hx, rfl⟩ := List.mem_map.mp hd
  obtain ⟨q, hq, rfl⟩ := List.mem_map.mp hx
  obtain ⟨i, h1, h2⟩ := (numb_mem g.regs 0 q).mp hq
  have hi : i < g.regs.length := (List.getElem?_eq_some_iff.mp h2).1
  have w1 := w.ins
  have w2 := w.nregs
  refine ⟨_, rfl, by simp, fun k hk => ?_⟩
  rw [List.mem_singleton.mp hk]
  have : regL g 0 q.1 = g.ins + q.1 + 2 := by unfold regL; omega
  rw [this]
  split <;> omega
end
end Bl

set_option Elab.async false
set_option linter.all false
set_option maxRecDepth 100000
set_option maxHeartbeats 4000000
namespace Bl
open PySem PySem.Spec PyProof.Rows L2
abbrev runB : Es := sDrop [6, 7] (sSeq (sSet 7 (opN kTuple (aCons (fLc (iRange1 (aCons (op2 kIx (fName 1) (fC (.int 0))) aNil)) (gSet 9) fYes (fCall F__law_pick [some 0, none] (aOwn (aCons (fC (.int 2)) aNil))) [9]) aNil))) (sSeq (sExpr (fOwn "dict" 4 kUpdate (aCons (fCall F__law_true_of [none, none] (aCons (fCall F__law_nodes [none, none, none, none] (aCons (fName 1) (aCons (fName 3) (aCons (fName 7) (aCons (fC (.int 1)) aNil))))) (aCons (op2 kMul (fName 6) (fCall F__law_size [none] (aCons (fName 1) aNil))) aNil))) aNil))) (sSet 3 (op2 kIx (fCall F__law_step_of [none, none, none] (aCons (fName 1) (aCons (fName 7) (aCons (fName 3) aNil)))) (fC (.int 1))))))
theorem run_step {g : Gr} (w : g.wf) (N U : D) (c : Nat) (hc : c < 10) (s : Sr) (hs : s.c.length ≤ 63) (st : List Int) (T : List (Key × D)) (vss : Nat → List Int) (I : Inv g c st T vss) :
    ∃ (s' : Sr) (st' : List Int) (T' : List (Key × D)) (vss' : Nat → List Int), (gSet 6 (.int (c : Nat)) [s.enc, g.enc, N, .tup (st.map D.int), .dic T, U, .dead, .dead, .dead, .dead]).bind runB = some (.nx [s'.enc, g.enc, N, .tup (st'.map D.int), .dic T', U, .dead, .dead, .dead, .dead]) ∧ s'.c.length ≤ 63 ∧ Inv g (c + 1) st' T' vss' := by
  have w1 := w.ins
  have w2 := w.nregs
  have sm := w.small
  obtain ⟨lot, s', q1, q2, q3, q4⟩ := lot_lc g w s hs N (.tup (st.map D.int)) (.dic T) U (.int (c : Nat))
  have hst : st.length = g.regs.length := by rw [I.st, List.length_map]
  have stb : ∀ v ∈ st, Bit v := by
    intro v hv
    rw [I.st] at hv
    obtain ⟨p, hp, rfl⟩ := List.mem_map.mp hv
    cases c with
    | zero => exact (w.regs p hp).1
    | succ c => exact litV_bit (I.vs c (by omega)).2.1 p.2
  obtain ⟨vs, n1, n2, n3, n4, n5, n6⟩ := good_vals w (lot ++ st) (by simp; omega) (fun v hv => (List.mem_append.mp hv).elim (q4 v) (stb v))
  rw [show (lot ++ st).drop g.ins = st by rw [← q3]; simp, show (lot ++ st).take g.ins = lot by rw [← q3]; simp] at n1
  obtain ⟨x, so⟩ := f_step_of w lot st vs n1 n2 n3
  have t1 := f_true_of vs ((c : Int) * g.size) (by omega)
  have z1 := f_lsize g
  refine ⟨s', _, _, _, ?_, q2, inv_next w I lot vs q3 n2 n3 n4 n5 n6⟩
  have hm : ∀ j, kMul (.int (c : Int)) (.int j) = some (.int (c * j)) := fun j => kMul_l (by omega)
  have l1 : lot.length ≤ 1000000 := by omega
  have l1' : (lot.map D.int).length ≤ 1000000 := by simpa using l1
  have l2 : T.length + (mergeP [] (truthP vs ((c : Int) * g.size))).length ≤ 1000000 := by
    have := (upd_len T vs ((c : Int) * g.size)).1
    have := I.len
    omega
  have l3 := in62_nat (n := g.ins) (by omega)
  simp only [runB, upd]
  generalize mergeP [] (truthP vs ((c : Int) * g.size)) = B at *
  generalize (g.regs.map fun p => litV vs p.2).map D.int = R at *
  generalize lot.map D.int = L at *
  generalize st.map D.int = S at *
  generalize vs.map D.int = W at *
  generalize (g.size : Int) = z at *
  generalize (c : Int) = y at *
  generalize fCall F__law_pick [some 0, none] (aOwn (aCons (fC (.int 2)) aNil)) = E at *
  simp only [Gr.enc, Sr.enc] at *
  simp [q1, n1, so, t1, z1, hm, l1', l2, l3, kUpdate, at0, at1, sSeq, sNil, sSet, sSetO, sIf, sRet, sRetS, sRetN, sExpr, sFor, sPar, sAsg, sDrop, sPass, sBrk, sCnt, funF, fName, slot, fC, op1, op2, opN, aNil, aCons, aOwn, fCall, fillA, backA, eIf, eAnd, eOr, eNot, eView, tB, tNotF, tAndF, tOrF, tView, mask, maskFrom, wipeD, gSet, gsCons, gsNil, gTupF, setsD, iLst, iTupF, iScr, iRange1, iRange2, iEnumT, iEnumL, kAdd, kSub, kDiv, kMod, kII, kIC, kNeg, kLt, kLe, kGt, kGe, kTup, kLst, kLen, kAbs, kInt, kMax2, kMin2, kXor, kAnd, kIx, kTuple, kList, kCat, fOwn, fOwn0, tyD, kAppend, fSrc, fSrc_left, fSrc_mixed, fSrc_turn, fSrcLen, fSrcPop, sSrcPut, sSrcPut_left, sSrcPut_mixed, sSrcPut_turn, fLc, fDc, iKeysD, fYes, fDIn, kDVal, keyD, kRevL, kEqI, kNeI, lim]
theorem run_go {g : Gr} (w : g.wf) (N U : D) : ∀ (n c : Nat) (s : Sr) (st : List Int) (T : List (Key × D)) (vss : Nat → List Int), c + n ≤ 10 → s.c.length ≤ 63 → Inv g c st T vss →
    ∃ (s' : Sr) (st' : List Int) (T' : List (Key × D)) (vss' : Nat → List Int), forGo (gSet 6) runB (rngD c n) [s.enc, g.enc, N, .tup (st.map D.int), .dic T, U, .dead, .dead, .dead, .dead] = some (.nx [s'.enc, g.enc, N, .tup (st'.map D.int), .dic T', U, .dead, .dead, .dead, .dead]) ∧ s'.c.length ≤ 63 ∧ Inv g (c + n) st' T' vss'
  | 0, c, s, st, T, vss, _, hs, I => ⟨s, st, T, vss, rfl, hs, I⟩
  | n + 1, c, s, st, T, vss, h, hs, I => by
    obtain ⟨s1, st1, T1, vss1, h1, h2, h3⟩ := run_step w N U c (by omega) s hs st T vss I
    obtain ⟨s2, st2, T2, vss2, g1, g2, g3⟩ := run_go w N U n (c + 1) s1 st1 T1 vss1 (by omega) h2 h3
    refine ⟨s2, st2, T2, vss2, ?_, g2, by rw [show c + (n + 1) = c + 1 + n by omega]; exact g3⟩
    rw [rngD, forGo, ← Option.bind_assoc, h1]
    exact g1
theorem unrollC_len (g : Gr) : ∀ n k, (unrollC g k n).length ≤ n * (1 + 3 * g.ands.length + 2 * g.regs.length)
  | 0, _ => by simp [unrollC]
  | n + 1, k => by
    have h1 := stepC_len g k
    have h2 := unrollC_len g n (k + 1)
    rw [unrollC, List.length_append, Nat.add_mul, Nat.one_mul]
    omega
theorem f_run {g : Gr} (w : g.wf) (s : Sr) (hs : s.c.length ≤ 63) : ∃ s' : Sr, F__law_run_right [s.enc, g.enc] = some (.bl true, [s'.enc, .dead]) ∧ s'.c.length ≤ 63 := by
  have w1 := w.ins
  have w2 := w.nregs
  have w3 := w.nands
  obtain ⟨v, s1, a1, a2, a3, a4⟩ := f_pick1 s hs 4 (by omega) (by omega)
  obtain ⟨m, rfl⟩ : ∃ m : Nat, v = m := ⟨v.toNat, by omega⟩
  have e1 : (1 : Int) + m = ((1 + m : Nat) : Int) := by omega
  have hu := f_unrolled g (1 + m) (by omega) (by omega)
  have hlu := f_lunrolled g (1 + m) (by omega) (fun p hp => by have := okAnds_mem g.ands g.first w.ands p hp; omega) (fun p hp => (w.regs p hp).2.1) (by omega)
  have hs1 := f_starting g (by omega)
  have hs2 := f_lstarting g (by omega)
  obtain ⟨t1, r1, r2⟩ := repr_sm (unrollC g 0 (1 + m)) (unrollC_sm w _ _ (by omega)) (by
    have h1 := unrollC_len g (1 + m) 0
    have h2 : (1 + m) * (1 + 3 * g.ands.length + 2 * g.regs.length) ≤ 4 * 100 := Nat.mul_le_mul (by omega) (by omega)
    omega)
  obtain ⟨t2, r3, r4⟩ := repr_sm (startC g) (startC_sm w) (by simp [startC, numb_len]; omega)
  obtain ⟨s2, st2, T2, vss2, g1, g2, I⟩ := run_go w (.int ((1 + m : Nat) : Int)) (.lst (unrollC g 0 (1 + m))) (1 + m) 0 s1 (g.regs.map fun p => p.1) [] (fun _ => []) (by omega) a4 (inv_zero g _)
  rw [Nat.zero_add] at I
  obtain ⟨k1, k2⟩ := unroll_kept w I (1 + m) 0 (by omega)
  obtain ⟨k3, k4⟩ := start_kept w I (by omega)
  have f1 := f_kept T2 (unrollI g 0 (1 + m)) k2
  have f2 := f_kept T2 (startI g) k4
  rw [k1, unrollI_map] at f1
  rw [k3, startI_map] at f2
  have h1 : ∀ S n, lcGo (gSet 8) fYes (op2 kIx (fName 8) (fC (.int 0))) [8] (g.regs.map pr) [] [S, g.enc, n, .dead, .dead, .dead, .dead, .dead, .dead, .dead] = some (g.regs.map fun p => D.int p.1, [S, g.enc, n, .dead, .dead, .dead, .dead, .dead, .dead, .dead]) := by
    intro S n
    refine lc_val (fun p hp => ?_) (by omega)
    generalize g.enc = G
    simp [lcOne, pr, at0, sSeq, sNil, sSet, sSetO, sIf, sRet, sRetS, sRetN, sExpr, sFor, sPar, sAsg, sDrop, sPass, sBrk, sCnt, funF, fName, slot, fC, op1, op2, opN, aNil, aCons, aOwn, fCall, fillA, backA, eIf, eAnd, eOr, eNot, eView, tB, tNotF, tAndF, tOrF, tView, mask, maskFrom, wipeD, gSet, gsCons, gsNil, gTupF, setsD, iLst, iTupF, iScr, iRange1, iRange2, iEnumT, iEnumL, kAdd, kSub, kDiv, kMod, kII, kIC, kNeg, kLt, kLe, kGt, kGe, kTup, kLst, kLen, kAbs, kInt, kMax2, kMin2, kXor, kAnd, kIx, kTuple, kList, kCat, fOwn, fOwn0, tyD, kAppend, fSrc, fSrc_left, fSrc_mixed, fSrc_turn, fSrcLen, fSrcPop, sSrcPut, sSrcPut_left, sSrcPut_mixed, sSrcPut_turn, fLc, fDc, iKeysD, fYes, fDIn, kDVal, keyD, kRevL, kEqI, kNeI, lim]
  have e2 : (g.regs.map fun p => p.1).map D.int = g.regs.map fun p => D.int p.1 := by simp
  rw [e2] at g1
  have l1 : (g.regs.map fun p => D.int p.1).length ≤ 1000000 := by simp; omega
  have l3 := in62_nat (n := 1 + m) (by omega)
  have l4 : rangeD 0 ((1 + m : Nat) : Int) = rngD 0 (1 + m) := rangeD_rng _
  refine ⟨s2, ?_, g2⟩
  have e : F__law_run_right = funF 10 2 [0] false (sSeq (sPar [2, 3, 4] [false, false, true] (aCons (op2 kAdd (fC (.int 1)) (fCall F__law_pick [some 0, none] (aOwn (aCons (fC (.int 4)) aNil)))) (aCons (opN kTuple (aCons (fLc (iTupF (op2 kIx (fName 1) (fC (.int 1)))) (gSet 8) fYes (op2 kIx (fName 8) (fC (.int 0))) [8]) aNil)) (aCons (fC (.dic [])) aNil)))) (sSeq (sSet 5 (fCall F_unrolled [none, none] (aCons (fName 1) (aCons (fName 2) aNil)))) (sSeq (sIf (tOrF (tB (op2 (kEqD true) (op1 kRepr (fName 5)) (op1 kRepr (fCall F__law_unrolled [none, none] (aCons (fName 1) (aCons (fName 2) aNil)))))) (tB (op2 (kEqD true) (op1 kRepr (fCall F_starting [none] (aCons (fName 1) aNil))) (op1 kRepr (fCall F__law_starting [none] (aCons (fName 1) aNil)))))) (sRet [0] (fC (.bl false))) sNil) (sSeq (sFor (iRange1 (aCons (fName 2) aNil)) (gSet 6) runB) (sRet [0] (eAnd (fCall F__law_kept [none, none] (aCons (fName 5) (aCons (fName 4) aNil))) (fCall F__law_kept [none, none] (aCons (fCall F_starting [none] (aCons (fName 1) aNil)) (aCons (fName 4) aNil)))))))) ) := rfl
  rw [e]
  generalize runB = F at g1 ⊢
  generalize unrollC g 0 (1 + m) = C at *
  generalize startC g = C2 at *
  generalize (g.regs.map fun p => D.int p.1) = R at *
  generalize st2.map D.int = S2 at *
  generalize op2 kIx (fName 8) (fC (.int 0)) = E at *
  generalize ((1 + m : Nat) : Int) = q at *
  generalize (m : Int) = y at *
  simp only [Gr.enc, Sr.enc] at *
  simp [a1, hu, hlu, hs1, hs2, r1, r2, r3, r4, g1, f1, f2, h1, l1, l3, l4, e1, at1, sSeq, sNil, sSet, sSetO, sIf, sRet, sRetS, sRetN, sExpr, sFor, sPar, sAsg, sDrop, sPass, sBrk, sCnt, funF, fName, slot, fC, op1, op2, opN, aNil, aCons, aOwn, fCall, fillA, backA, eIf, eAnd, eOr, eNot, eView, tB, tNotF, tAndF, tOrF, tView, mask, maskFrom, wipeD, gSet, gsCons, gsNil, gTupF, setsD, iLst, iTupF, iScr, iRange1, iRange2, iEnumT, iEnumL, kAdd, kSub, kDiv, kMod, kII, kIC, kNeg, kLt, kLe, kGt, kGe, kTup, kLst, kLen, kAbs, kInt, kMax2, kMin2, kXor, kAnd, kIx, kTuple, kList, kCat, fOwn, fOwn0, tyD, kAppend, fSrc, fSrc_left, fSrc_mixed, fSrc_turn, fSrcLen, fSrcPop, sSrcPut, sSrcPut_left, sSrcPut_mixed, sSrcPut_turn, fLc, fDc, iKeysD, fYes, fDIn, kDVal, keyD, kRevL, kEqI, kNeI, lim]
end Bl

set_option Elab.async false
set_option linter.all false
set_option maxRecDepth 100000
set_option maxHeartbeats 4000000
namespace Bl
open PySem PySem.Spec PyProof.Rows L2
def lastG : Gr := ⟨1, [(0, 6)], [(2, 4)], [7, 5]⟩
def lastC : List (List Int) := [[-1], [2, -4], [3, -4], [-2, -3, 4]]
theorem last_c : graphC lastG 0 = lastC.map clD := rfl
theorem last_eq : kEqD false (.lst (lastC.map clD)) (.lst (lastC.map clD)) = some (.bl true) := rfl
abbrev litB : Es := sDrop [6, 7] (sSeq (sSet 7 (fCall F__law_pick [some 1, none] (aOwn (aCons (op2 kMul (fC (.int 2)) (fCall F__law_size [none] (aCons (fName 2) aNil))) aNil)))) (sIf (tB (op2 (kEqD true) (op1 kRepr (fCall F_literal_of [none] (aCons (fName 7) aNil))) (op1 kRepr (fCall F__law_far [none, none] (aCons (fName 7) (aCons (fC (.int 0)) aNil)))))) (sRet [] (fC (.bl false))) sNil))
theorem lit_step {g : Gr} (w : g.wf) (a : D) (x0 x3 x4 x5 : D) (s : Sr) (hs : s.c.length ≤ 63) : ∃ s' : Sr, (gSet 6 a [x0, s.enc, g.enc, x3, x4, x5, .dead, .dead]).bind litB = some (.nx [x0, s'.enc, g.enc, x3, x4, x5, .dead, .dead]) ∧ s'.c.length ≤ 63 := by
  have sm := w.small
  obtain ⟨l, s', a1, a2, a3, a4⟩ := f_pick1 s hs (2 * g.size) (by omega) (by omega)
  have z1 := f_lsize g
  have h1 := f_literal_of l
  have h2 := f_far l 0
  obtain ⟨t, r1, r2⟩ := repr_int (far l 0) (by have := far_small (l := l) (s := 0) (by omega) (by omega); omega)
  have m2 : ∀ i, kMul (.int 2) (.int i) = some (.int (2 * i)) := fun i => kMul_l (by decide)
  refine ⟨s', ?_, a4⟩
  simp only [litB]
  generalize (g.size : Int) = z at *
  generalize far l 0 = f at *
  simp only [Gr.enc, Sr.enc] at *
  simp [a1, z1, h1, h2, r1, r2, m2, sSeq, sNil, sSet, sSetO, sIf, sRet, sRetS, sRetN, sExpr, sFor, sPar, sAsg, sDrop, sPass, sBrk, sCnt, funF, fName, slot, fC, op1, op2, opN, aNil, aCons, aOwn, fCall, fillA, backA, eIf, eAnd, eOr, eNot, eView, tB, tNotF, tAndF, tOrF, tView, mask, maskFrom, wipeD, gSet, gsCons, gsNil, gTupF, setsD, iLst, iTupF, iScr, iRange1, iRange2, iEnumT, iEnumL, kAdd, kSub, kDiv, kMod, kII, kIC, kNeg, kLt, kLe, kGt, kGe, kTup, kLst, kLen, kAbs, kInt, kMax2, kMin2, kXor, kAnd, kIx, kTuple, kList, kCat, fOwn, fOwn0, tyD, kAppend, fSrc, fSrc_left, fSrc_mixed, fSrc_turn, fSrcLen, fSrcPop, sSrcPut, sSrcPut_left, sSrcPut_mixed, sSrcPut_turn, fLc, fDc, iKeysD, fYes, fDIn, kDVal, keyD, kRevL, kEqI, kNeI, lim]
theorem law_true (ns : List Int) (h : ns.length ≤ 63) : ∃ ρ, F_law [.scr ns] = some (.bl true, ρ) := by
  obtain ⟨s0, a1, a2⟩ := f_source ns h
  obtain ⟨g, s1, b1, w, b2⟩ := f_rough s0 a2
  have w3 := w.nands
  have c1 := f_clauses_of g (by omega)
  have c2 := f_lgraph g 0 (by omega) (by omega) (fun p hp => by have := okAnds_mem g.ands g.first w.ands p hp; omega)
  have cl : (graphC g 0).length ≤ 10000 := by
    have := andsC_len g.first 0 g.ands 0
    simp [graphC]
    omega
  obtain ⟨t, r1, r2⟩ := repr_sm (graphC g 0) (graphC_sm w (by omega)) cl
  have l1 : (graphC g 0).length < 1000000 := by omega
  have lo : ∃ s2 : Sr, forGo (gSet 6) litB ((List.range 4).map fun i => D.int ((i : Nat) : Int)) [.scr ns, s1.enc, g.enc, .lst (graphC g 0), .str t, .lst (graphC g 0 ++ [.tup []]), .dead, .dead] = some (.nx [.scr ns, s2.enc, g.enc, .lst (graphC g 0), .str t, .lst (graphC g 0 ++ [.tup []]), .dead, .dead]) ∧ s2.c.length ≤ 63 :=
    for_state (st := fun s : Sr => [.scr ns, s.enc, g.enc, .lst (graphC g 0), .str t, .lst (graphC g 0 ++ [.tup []]), .dead, .dead]) (P := fun s => s.c.length ≤ 63) (b := s1) b2 fun a _ s hs => by
      obtain ⟨s', x, y⟩ := lit_step w (D.int ((a : Nat) : Int)) (.scr ns) (.lst (graphC g 0)) (.str t) (.lst (graphC g 0 ++ [.tup []])) s hs
      exact ⟨s', .inl x, y⟩
  obtain ⟨s2, lo, d2⟩ := lo
  rw [← rangeD_map] at lo
  obtain ⟨s3, v1, v2⟩ := f_values w s2 d2
  obtain ⟨s4, u1, u2⟩ := f_run w s3 v2
  have e1 := f_clauses_of lastG (by decide)
  rw [last_c] at e1
  have e2 : lastG.enc = .tup [.int 1, .tup [.tup [.int 0, .int 6]], .tup [.tup [.int 2, .int 4]], .tup [.int 7, .int 5]] := rfl
  rw [e2] at e1
  have e3 : lastC.map clD = [.tup [.int (-1)], .tup [.int 2, .int (-4)], .tup [.int 3, .int (-4)], .tup [.int (-2), .int (-3), .int 4]] := rfl
  have e4 := last_eq
  rw [e3] at e1 e4
  have e5 : rangeD 0 ((4 : Nat) : Int) = rangeD 0 4 := rfl
  rw [e5] at lo
  have e6 : in62 4 = true := by decide
  have e : F_law = funF 8 1 [] false (sSeq (sSetO 1 (fCall F__law_source [none] (aCons (fName 0) aNil))) (sSeq (sSet 2 (fCall F__law_rough_graph [some 1] (aOwn aNil))) (sSeq (sSet 3 (fCall F_clauses_of [none] (aCons (fName 2) aNil))) (sSeq (sSet 4 (op1 kRepr (fCall F__law_graph_clauses [none, none] (aCons (fName 2) (aCons (fC (.int 0)) aNil))))) (sSeq (sIf (tOrF (tB (op2 (kEqD true) (op1 kRepr (fName 3)) (fName 4))) (tB (op2 (kEqD true) (op1 kRepr (fCall F_clauses_of [none] (aCons (fName 2) aNil))) (fName 4)))) (sRet [] (fC (.bl false))) sNil) (sSeq (sSetO 5 (fCall F_clauses_of [none] (aCons (fName 2) aNil))) (sSeq (sExpr (fOwn "list" 5 kAppend (aCons (opN kTup aNil) aNil))) (sSeq (sIf (tB (op2 (kEqD true) (op1 kRepr (fCall F_clauses_of [none] (aCons (fName 2) aNil))) (fName 4))) (sRet [] (fC (.bl false))) sNil) (sSeq (sFor (iRange1 (aCons (fC (.int 4)) aNil)) (gSet 6) litB) (sSeq (sIf (tOrF (tNotF (tB (fCall F__law_values_right [some 1, none, none] (aOwn (aCons (fName 2) (aCons (fName 3) aNil)))))) (tNotF (tB (fCall F__law_run_right [some 1, none] (aOwn (aCons (fName 2) aNil)))))) (sRet [] (fC (.bl false))) sNil) (sRet [] (op2 (kEqD false) (fCall F_clauses_of [none] (aCons (opN kTup (aCons (fC (.int 1)) (aCons (opN kTup (aCons (opN kTup (aCons (fC (.int 0)) (aCons (fC (.int 6)) aNil))) aNil)) (aCons (opN kTup (aCons (opN kTup (aCons (fC (.int 2)) (aCons (fC (.int 4)) aNil))) aNil)) (aCons (opN kTup (aCons (fC (.int 7)) (aCons (fC (.int 5)) aNil))) aNil))))) aNil)) (opN kLst (aCons (opN kTup (aCons (op1 kNeg (fC (.int 1))) aNil)) (aCons (opN kTup (aCons (fC (.int 2)) (aCons (op1 kNeg (fC (.int 4))) aNil))) (aCons (opN kTup (aCons (fC (.int 3)) (aCons (op1 kNeg (fC (.int 4))) aNil))) (aCons (opN kTup (aCons (op1 kNeg (fC (.int 2))) (aCons (op1 kNeg (fC (.int 3))) (aCons (fC (.int 4)) aNil)))) aNil)))))))))))))))) ) := rfl
  rw [e]
  generalize litB = F at lo ⊢
  generalize graphC g 0 = C at *
  simp only [Gr.enc, Sr.enc] at *
  simp [a1, b1, c1, c2, r1, r2, l1, lo, v1, u1, e1, e4, e6, sSeq, sNil, sSet, sSetO, sIf, sRet, sRetS, sRetN, sExpr, sFor, sPar, sAsg, sDrop, sPass, sBrk, sCnt, funF, fName, slot, fC, op1, op2, opN, aNil, aCons, aOwn, fCall, fillA, backA, eIf, eAnd, eOr, eNot, eView, tB, tNotF, tAndF, tOrF, tView, mask, maskFrom, wipeD, gSet, gsCons, gsNil, gTupF, setsD, iLst, iTupF, iScr, iRange1, iRange2, iEnumT, iEnumL, kAdd, kSub, kDiv, kMod, kII, kIC, kNeg, kLt, kLe, kGt, kGe, kTup, kLst, kLen, kAbs, kInt, kMax2, kMin2, kXor, kAnd, kIx, kTuple, kList, kCat, fOwn, fOwn0, tyD, kAppend, fSrc, fSrc_left, fSrc_mixed, fSrc_turn, fSrcLen, fSrcPop, sSrcPut, sSrcPut_left, sSrcPut_mixed, sSrcPut_turn, fLc, fDc, iKeysD, fYes, fDIn, kDVal, keyD, kRevL, kEqI, kNeI, lim]
end Bl

set_option Elab.async false
set_option linter.all false
set_option maxRecDepth 100000
set_option maxHeartbeats 4000000
open PySem PySem.W PyProof.Rows in
set_option maxRecDepth 100000 in
set_option maxHeartbeats 0 in
theorem PySem.Challenge.cw_bitloom_k84_whole_clauses_of_graphs_holds : PySem.Challenge.rw_bitloom_k84_whole_clauses_of_graphs.Holds := by
  w_on; o_law; k_head; (case hw => w_witness2)
  k_fill
  refine Bl.walk_G (n := 63) (k := 6) (x := "_law_script") (Fl := Bl.F_law) (l := PySem.Challenge.rw_bitloom_k84_whole_clauses_of_graphs) rfl (by decide) rfl ⟨⟨rfl, by decide, by decide⟩, rfl⟩ (fun w h Y => PySem.W.kIn_of Y) ?F fun ns hl => Bl.law_true ns hl
  case F =>
    intro w mg fa h KX G hmg
    refine' Bl.all_mk KX G hmg ?a0 ?l0 ?c0 ?k0 ?a1 ?l1 ?c1 ?k1 ?a2 ?l2 ?c2 ?k2 ?a3 ?l3 ?c3 ?k3 ?a4 ?l4 ?c4 ?k4 ?a5 ?l5 ?c5 ?k5 ?a6 ?l6 ?c6 ?k6 ?a7 ?l7 ?c7 ?k7 ?a8 ?l8 ?c8 ?k8 ?a9 ?l9 ?c9 ?k9 ?a10 ?l10 ?c10 ?k10 ?a11 ?l11 ?c11 ?k11 ?a12 ?l12 ?c12 ?k12 ?a13 ?l13 ?c13 ?k13 ?a14 ?l14 ?c14 ?k14 ?a15 ?l15 ?c15 ?k15 ?a16 ?l16 ?c16 ?k16 ?a17 ?l17 ?c17 ?k17 ?a18 ?l18 ?c18 ?k18 ?a19 ?l19 ?c19 ?k19 ?a20 ?l20 ?c20 ?k20 ?a21 ?l21 ?c21 ?k21 ?a22 ?l22 ?c22 ?k22 ?a23 ?l23 ?c23 ?k23 ?a24 ?l24 ?c24 ?k24 ?a25 ?l25 ?c25 ?k25 ?a26 ?l26 ?c26 ?k26 ?a27 ?l27 ?c27 ?k27 ?a28 ?l28 ?c28 ?k28 ?a29 ?l29 ?c29 ?k29 ?a30 ?l30 ?c30 ?k30 ?a31 ?l31 ?c31 ?k31 ?z_abs ?z_any ?z_dict ?z_enumerate ?z_int ?z_len ?z_list ?z_max ?z_min ?z_range ?z_repr ?z_set ?z_sorted ?z_tuple ?z_zip
    (case a0 => k_is)
    (case l0 => k_is)
    (case c0 => k_is)
    (case k0 => k_is)
    (case a1 => k_is)
    (case l1 => k_is)
    (case c1 => k_is)
    (case k1 => k_is)
    (case a2 => k_is)
    (case l2 => k_is)
    (case c2 => k_is)
    (case k2 => k_is)
    (case a3 => k_is)
    (case l3 => k_is)
    (case c3 => k_is)
    (case k3 => k_is)
    (case a4 => k_is)
    (case l4 => k_is)
    (case c4 => k_is)
    (case k4 => k_is)
    (case a5 => k_is)
    (case l5 => k_is)
    (case c5 => k_is)
    (case k5 => k_is)
    (case a6 => k_is)
    (case l6 => k_is)
    (case c6 => k_is)
    (case k6 => k_is)
    (case a7 => k_is)
    (case l7 => k_is)
    (case c7 => k_is)
    (case k7 => k_is)
    (case a8 => k_is)
    (case l8 => k_is)
    (case c8 => k_is)
    (case k8 => k_is)
    (case a9 => k_is)
    (case l9 => k_is)
    (case c9 => k_is)
    (case k9 => k_is)
    (case a10 => k_is)
    (case l10 => k_is)
    (case c10 => k_is)
    (case k10 => k_is)
    (case a11 => k_is)
    (case l11 => k_is)
    (case c11 => k_is)
    (case k11 => k_is)
    (case a12 => k_is)
    (case l12 => k_is)
    (case c12 => k_is)
    (case k12 => k_is)
    (case a13 => k_is)
    (case l13 => k_is)
    (case c13 => k_is)
    (case k13 => k_is)
    (case a14 => k_is)
    (case l14 => k_is)
    (case c14 => k_is)
    (case k14 => k_is)
    (case a15 => k_is)
    (case l15 => k_is)
    (case c15 => k_is)
    (case k15 => k_is)
    (case a16 => k_is)
    (case l16 => k_is)
    (case c16 => k_is)
    (case k16 => k_is)
    (case a17 => k_is)
    (case l17 => k_is)
    (case c17 => k_is)
    (case k17 => k_is)
    (case a18 => k_is)
    (case l18 => k_is)
    (case c18 => k_is)
    (case k18 => k_is)
    (case a19 => k_is)
    (case l19 => k_is)
    (case c19 => k_is)
    (case k19 => k_is)
    (case a20 => k_is)
    (case l20 => k_is)
    (case c20 => k_is)
    (case k20 => k_is)
    (case a21 => k_is)
    (case l21 => k_is)
    (case c21 => k_is)
    (case k21 => k_is)
    (case a22 => k_is)
    (case l22 => k_is)
    (case c22 => k_is)
    (case k22 => k_is)
    (case a23 => k_is)
    (case l23 => k_is)
    (case c23 => k_is)
    (case k23 => k_is)
    (case a24 => k_is)
    (case l24 => k_is)
    (case c24 => k_is)
    (case k24 => k_is)
    (case a25 => k_is)
    (case l25 => k_is)
    (case c25 => k_is)
    (case k25 => k_is)
    (case a26 => k_is)
    (case l26 => k_is)
    (case c26 => k_is)
    (case k26 => k_is)
    (case a27 => k_is)
    (case l27 => k_is)
    (case c27 => k_is)
    (case k27 => k_is)
    (case a28 => k_is)
    (case l28 => k_is)
    (case c28 => k_is)
    (case k28 => k_is)
    (case a29 => k_is)
    (case l29 => k_is)
    (case c29 => k_is)
    (case k29 => k_is)
    (case a30 => k_is)
    (case l30 => k_is)
    (case c30 => k_is)
    (case k30 => k_is)
    (case a31 => k_is)
    (case l31 => k_is)
    (case c31 => k_is)
    (case k31 => k_is)
    (case z_abs => k_is)
    (case z_any => k_is)
    (case z_dict => k_is)
    (case z_enumerate => k_is)
    (case z_int => k_is)
    (case z_len => k_is)
    (case z_list => k_is)
    (case z_max => k_is)
    (case z_min => k_is)
    (case z_range => k_is)
    (case z_repr => k_is)
    (case z_set => k_is)
    (case z_sorted => k_is)
    (case z_tuple => k_is)
    (case z_zip => k_is)

