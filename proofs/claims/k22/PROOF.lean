import PyProof.Rows.All
import Wide.All
import OpenK.AllK
import Wide.FinOn
import HandS.ForMost
import HandS.Deep
import HandS.TupAny
import HandS.IsInst
import HandS.NoneIn
import HandS.Conv
import HandS.Wide
import HandS.Flow
import HandS.More
import KE.GoesEnum
import PySem.Challenge.RW_callmill_k22_whole_waits_by_turns
set_option Elab.async false
set_option linter.all false
set_option maxRecDepth 100000
set_option maxHeartbeats 4000000
/-! A layer over HandS: readings told at the level of plain data (PyData); lists that a def owns apart from what is frozen. -/
namespace Cm
open PySem PySem.Spec PyProof.Rows L2

/-! ### data at a value -/
mutual
inductive Da (K : PySem.W.Frag) (H : Hp) : V → PyData → Prop
  | non : Da K H .non .none
  | bl (b : Bool) : Da K H (.bl b) (.bool b)
  | int (i : Int) : Da K H (.int i) (.int i)
  | str (x : Str) : Da K H (.str x) (.str x)
  | lst {a : Addr} {xs : List V} {ds : List PyData} : H a = some (.lst xs) → Das K H xs ds → Da K H (.ref a) (.list ds)
  | tup {a : Addr} {xs : List V} {ds : List PyData} : SqT K H a xs → Das K H xs ds → Da K H (.ref a) (.tuple ds)
inductive Das (K : PySem.W.Frag) (H : Hp) : List V → List PyData → Prop
  | nil : Das K H [] []
  | cons {v : V} {vs : List V} {d : PyData} {ds : List PyData} : Da K H v d → Das K H vs ds → Das K H (v :: vs) (d :: ds)
end
theorem same_t {K : PySem.W.Frag} {H H' : Hp} {a : Addr} {xs : List V} (e : Same H H') (h : SqT K H a xs) : SqT K H' a xs := by
  rcases h with (h | ⟨o, h⟩) | h
  · exact .inl (.inl (e _ _ h))
  · exact .inl (.inr ⟨o, e _ _ h⟩)
  · exact .inr h
section
variable {K : PySem.W.Frag} {H H' : Hp}
mutual
theorem Da.mono (e : Same H H') : ∀ {v : V} {d : PyData}, Da K H v d → Da K H' v d
  | _, _, .non => .non
  | _, _, .bl b => .bl b
  | _, _, .int i => .int i
  | _, _, .str x => .str x
  | _, _, .lst h k => .lst (e _ _ h) (Das.mono e k)
  | _, _, .tup h k => .tup (same_t e h) (Das.mono e k)
theorem Das.mono (e : Same H H') : ∀ {v : List V} {d : List PyData}, Das K H v d → Das K H' v d
  | _, _, .nil => .nil
  | _, _, .cons h k => .cons (Da.mono e h) (Das.mono e k)
end
mutual
theorem Da.dp : ∀ {v : V} {d : PyData}, Da K H v d → Dp K H v d
  | _, _, .non => .non
  | _, _, .bl b => .bl b
  | _, _, .int i => .int i
  | _, _, .str x => .str x
  | _, _, .lst h k => .lst (.inl (.inl h)) (Das.dp k)
  | _, _, .tup h k => .tup h (Das.dp k)
theorem Das.dp : ∀ {v : List V} {d : List PyData}, Das K H v d → DpAll K H v d
  | _, _, .nil => .nil
  | _, _, .cons h k => .cons (Da.dp h) (Das.dp k)
end
theorem Das.length : ∀ {vs : List V} {ds : List PyData}, Das K H vs ds → vs.length = ds.length
  | _, _, .nil => rfl
  | _, _, .cons _ k => congrArg (· + 1) k.length
theorem Das.get : ∀ {vs : List V} {ds : List PyData} {i : Nat} {d : PyData}, Das K H vs ds → ds[i]? = some d → ∃ v, vs[i]? = some v ∧ Da K H v d
  | _, _, i, _, .nil, h => by simp at h
  | _, _, 0, d, .cons h _, e => by
    have e' := Option.some.inj e
    subst e'
    exact ⟨_, rfl, h⟩
  | _, _, i + 1, d, .cons _ k, e => Das.get (i := i) k e
theorem Das.getV : ∀ {vs : List V} {ds : List PyData} {i : Nat} {v : V}, Das K H vs ds → vs[i]? = some v → ∃ d, ds[i]? = some d ∧ Da K H v d
  | _, _, i, _, .nil, h => by simp at h
  | _, _, 0, d, .cons h _, e => by
    have e' := Option.some.inj e
    subst e'
    exact ⟨_, rfl, h⟩
  | _, _, i + 1, d, .cons _ k, e => Das.getV (i := i) k e
theorem Das.append : ∀ {vs : List V} {ds : List PyData} {us : List V} {es : List PyData}, Das K H vs ds → Das K H us es → Das K H (vs ++ us) (ds ++ es)
  | _, _, _, _, .nil, k => k
  | _, _, _, _, .cons h t, k => .cons h (t.append k)
theorem Das.take : ∀ {vs : List V} {ds : List PyData} (n : Nat), Das K H vs ds → Das K H (vs.take n) (ds.take n)
  | _, _, 0, _ => .nil
  | _, _, _ + 1, .nil => .nil
  | _, _, n + 1, .cons h t => .cons h (t.take n)
theorem Das.drop : ∀ {vs : List V} {ds : List PyData} (n : Nat), Das K H vs ds → Das K H (vs.drop n) (ds.drop n)
  | _, _, 0, k => k
  | _, _, _ + 1, .nil => .nil
  | _, _, n + 1, .cons _ t => t.drop n
theorem Das.dropLast : ∀ {vs : List V} {ds : List PyData}, Das K H vs ds → Das K H vs.dropLast ds.dropLast
  | _, _, .nil => .nil
  | _, _, .cons _ .nil => .nil
  | _, _, .cons h (.cons h2 t) => .cons h (Das.dropLast (.cons h2 t))
theorem Das.one {v : V} {d : PyData} (h : Da K H v d) : Das K H [v] [d] := .cons h .nil
theorem atI_map_len {vs : List V} {ds : List PyData} (k : Das K H vs ds) {i : Int} {d : PyData} (h : atI ds i = some d) : ∃ v, atI vs i = some v ∧ Da K H v d := by
  unfold atI at h ⊢
  rw [k.length]
  cases e : ixN ds.length i with
  | none => rw [e] at h; cases h
  | some j =>
    rw [e] at h
    obtain ⟨v, hv, hd⟩ := k.get (show ds[j]? = some d from h)
    exact ⟨v, hv, hd⟩
end

/-! ### what is frozen, what is new -/
/-- from (Hf, H) to (Hf', H'): the frozen part grows by fresh things alone -/
structure Fz (Hf H Hf' H' : Hp) : Prop where
  f : Same Hf Hf'
  h : Same H H'
  s : Same Hf' H'
  n : ∀ a, H a ≠ none → Hf a = none → Hf' a = none
theorem Fz.refl {Hf H : Hp} (e : Same Hf H) : Fz Hf H Hf H := ⟨Same.refl _, Same.refl _, e, fun _ _ h => h⟩
theorem Fz.trans {Hf H H1f H1 H2f H2 : Hp} (a : Fz Hf H H1f H1) (b : Fz H1f H1 H2f H2) : Fz Hf H H2f H2 :=
  ⟨a.f.trans b.f, a.h.trans b.h, b.s, fun c h1 h2 => b.n c (fun z => by
    cases q : H c with
    | none => exact h1 q
    | some o => rw [a.h c o q] at z; cases z) (a.n c h1 h2)⟩
/-- a new thing, frozen at once -/
theorem Fz.new {Hf H : Hp} (e : Same Hf H) {p : Addr} {o : HO} (hp : H p = none) : Fz Hf H (upd Hf p o) (upd H p o) := by
  have hf : Hf p = none := e.free hp
  refine ⟨fun a u h => ?_, fun a u h => ?_, fun a u h => ?_, fun a h1 h2 => ?_⟩
  · rw [upd_ne (ne_of_none h hf)]; exact h
  · rw [upd_ne (ne_of_none h hp)]; exact h
  · by_cases c : a = p
    · subst c; rw [upd_same] at h ⊢; exact h
    · rw [upd_ne c] at h ⊢; exact e a u h
  · have c : a ≠ p := fun z => h1 (z ▸ hp)
    rw [upd_ne c]; exact h2
/-- a new thing, not frozen -/
theorem Fz.own {Hf H : Hp} (e : Same Hf H) {p : Addr} {o : HO} (hp : H p = none) : Fz Hf H Hf (upd H p o) := by
  refine ⟨Same.refl _, fun a u h => ?_, fun a u h => ?_, fun a _ h2 => h2⟩
  · rw [upd_ne (ne_of_none h hp)]; exact h
  · rw [upd_ne (ne_of_none h (e.free hp))]; exact e a u h

/-! ### the slots -/
inductive Sl where
  /-- nothing is known -/
  | no
  /-- frozen data -/
  | d (x : PyData)
  /-- a list of the def's own, of frozen data -/
  | own (xs : List PyData)
  /-- a value -/
  | raw (v : V)
  /-- a value of which something is known of the frozen part, for good -/
  | p (φ : Hp → V → Prop)
structure Bs where
  fb : Hp
  hs : Hp
/-- a further stand: more is frozen -/
structure Bs.Le (B B' : Bs) : Prop where
  f : Same B.fb B'.fb
  h : B'.hs = B.hs
  n : ∀ a, B.hs a ≠ none → B.fb a = none → B'.fb a = none
theorem Bs.Le.refl (B : Bs) : B.Le B := ⟨Same.refl _, rfl, fun _ _ h => h⟩
theorem Bs.Le.trans {B B1 B2 : Bs} (a : B.Le B1) (b : B1.Le B2) : B.Le B2 :=
  ⟨a.f.trans b.f, b.h.trans a.h, fun c h1 h2 => b.n c (by rw [a.h]; exact h1) (a.n c h1 h2)⟩

def SlOk (K : PySem.W.Frag) (hs Hf H : Hp) (o : Option V) : Sl → Prop
  | .no => True
  | .d x => ∃ v, o = some v ∧ Da K Hf v x
  | .own xs => ∃ l vs, o = some (.ref l) ∧ hs l = none ∧ Hf l = none ∧ H l = some (.lst vs) ∧ Das K Hf vs xs
  | .raw v => o = some v
  | .p φ => ∃ v, o = some v ∧ ∀ Hf', Same Hf Hf' → φ Hf' v
structure Sx (K : PySem.W.Frag) (B : Bs) (Hf H : Hp) (σ : L2.St) (ε : List Sl) : Prop where
  fz : Fz B.fb B.hs Hf H
  len : σ.length = ε.length
  sl : ∀ (i : Nat) (s : Sl) (o : Option V), ε[i]? = some s → σ[i]? = some o → SlOk K B.hs Hf H o s
  dist : ∀ (i j : Nat) (xs ys : List PyData) (l : Addr), i ≠ j → ε[i]? = some (.own xs) → ε[j]? = some (.own ys) → σ[i]? = some (some (.ref l)) → σ[j]? = some (some (.ref l)) → False
section
variable {K : PySem.W.Frag} {B : Bs} {Hf H Hf' H' : Hp} {σ : L2.St} {ε : List Sl}
theorem SlOk.mono {hs : Hp} (e : Fz Hf H Hf' H') {o : Option V} : ∀ {s : Sl}, SlOk K hs Hf H o s → SlOk K hs Hf' H' o s
  | .no, _ => trivial
  | .d x, h => let ⟨v, h1, h2⟩ := h; ⟨v, h1, h2.mono e.f⟩
  | .own xs, h => let ⟨l, vs, h1, h0, h2, h3, h4⟩ := h; ⟨l, vs, h1, h0, e.n l (by rw [h3]; exact fun z => nomatch z) h2, e.h l _ h3, h4.mono e.f⟩
  | .raw v, h => h
  | .p φ, h => let ⟨v, h1, h2⟩ := h; ⟨v, h1, fun Hf2 s => h2 Hf2 (e.f.trans s)⟩
theorem Sx.mono (S : Sx K B Hf H σ ε) (e : Fz Hf H Hf' H') : Sx K B Hf' H' σ ε :=
  ⟨S.fz.trans e, S.len, fun i s o h1 h2 => (S.sl i s o h1 h2).mono e, S.dist⟩
theorem Sx.at (S : Sx K B Hf H σ ε) {i : Nat} {s : Sl} (h : ε[i]? = some s) : ∃ o, σ[i]? = some o ∧ SlOk K B.hs Hf H o s := by
  have hi : i < σ.length := by rw [S.len]; exact (List.getElem?_eq_some_iff.mp h).1
  exact ⟨σ[i], List.getElem?_eq_getElem hi, S.sl i s _ h (List.getElem?_eq_getElem hi)⟩
theorem Sx.d (S : Sx K B Hf H σ ε) {i : Nat} {x : PyData} (h : ε[i]? = some (.d x)) : ∃ v, σ[i]? = some (some v) ∧ Da K Hf v x := by
  obtain ⟨o, h1, v, e, hd⟩ := S.at h
  subst e
  exact ⟨v, h1, hd⟩
theorem Sx.raw (S : Sx K B Hf H σ ε) {i : Nat} {v : V} (h : ε[i]? = some (.raw v)) : σ[i]? = some (some v) := by
  obtain ⟨o, h1, e⟩ := S.at h
  have e' : o = some v := e
  rw [e'] at h1
  exact h1
theorem Sx.p (S : Sx K B Hf H σ ε) {i : Nat} {φ : Hp → V → Prop} (h : ε[i]? = some (.p φ)) : ∃ v, σ[i]? = some (some v) ∧ ∀ Hf', Same Hf Hf' → φ Hf' v := by
  obtain ⟨o, h1, v, e, hd⟩ := S.at h
  subst e
  exact ⟨v, h1, hd⟩
theorem Sx.own (S : Sx K B Hf H σ ε) {i : Nat} {xs : List PyData} (h : ε[i]? = some (.own xs)) : ∃ l vs, σ[i]? = some (some (.ref l)) ∧ B.hs l = none ∧ Hf l = none ∧ H l = some (.lst vs) ∧ Das K Hf vs xs := by
  obtain ⟨o, h1, l, vs, e, h2, h3, h4, h5⟩ := S.at h
  subst e
  exact ⟨l, vs, h1, h2, h3, h4, h5⟩
/-- a slot set to what is no list of one's own -/
theorem Sx.set (S : Sx K B Hf H σ ε) {i : Nat} {o : Option V} {s : Sl} (h : SlOk K B.hs Hf H o s) (hn : ∀ xs, s ≠ .own xs) : Sx K B Hf H (σ.set i o) (ε.set i s) := by
  refine ⟨S.fz, by rw [List.length_set, List.length_set]; exact S.len, fun j t p h1 h2 => ?_, fun j k xs ys l hjk h1 h2 h3 h4 => ?_⟩
  · by_cases e : i = j
    · subst e
      rw [List.getElem?_set] at h1 h2
      rw [if_pos rfl] at h1 h2
      split at h1
      · cases h1
        split at h2
        · cases h2; exact h
        · cases h2
      · cases h1
    · rw [List.getElem?_set_ne e] at h1 h2
      exact S.sl j t p h1 h2
  · by_cases e : i = j
    · subst e
      rw [List.getElem?_set, if_pos rfl] at h1
      split at h1
      · cases h1; exact hn _ rfl
      · cases h1
    · by_cases e2 : i = k
      · subst e2
        rw [List.getElem?_set, if_pos rfl] at h2
        split at h2
        · cases h2; exact hn _ rfl
        · cases h2
      · rw [List.getElem?_set_ne e] at h1 h3
        rw [List.getElem?_set_ne e2] at h2 h4
        exact S.dist j k xs ys l hjk h1 h2 h3 h4
theorem Sx.setD (S : Sx K B Hf H σ ε) {i : Nat} {v : V} {x : PyData} (h : Da K Hf v x) : Sx K B Hf H (σ.set i (some v)) (ε.set i (.d x)) := S.set ⟨v, rfl, h⟩ fun _ z => nomatch z
theorem Sx.setP (S : Sx K B Hf H σ ε) {i : Nat} {v : V} {φ : Hp → V → Prop} (h : ∀ Hf', Same Hf Hf' → φ Hf' v) : Sx K B Hf H (σ.set i (some v)) (ε.set i (.p φ)) := S.set ⟨v, rfl, h⟩ fun _ z => nomatch z
/-- a slot set to a new list of one's own: no slot has it yet -/
theorem Sx.setO (S : Sx K B Hf H σ ε) {i : Nat} {l : Addr} {vs : List V} {xs : List PyData} (h1 : B.hs l = none) (h2 : Hf l = none) (h3 : H l = some (.lst vs)) (h4 : Das K Hf vs xs)
    (hn : ∀ (j : Nat) (ys : List PyData), ε[j]? = some (.own ys) → σ[j]? ≠ some (some (.ref l))) : Sx K B Hf H (σ.set i (some (.ref l))) (ε.set i (.own xs)) := by
  refine ⟨S.fz, by rw [List.length_set, List.length_set]; exact S.len, fun j t p k1 k2 => ?_, fun j k as bs a hjk k1 k2 k3 k4 => ?_⟩
  · by_cases e : i = j
    · subst e
      rw [List.getElem?_set, if_pos rfl] at k1 k2
      split at k1
      · cases k1
        split at k2
        · cases k2; exact ⟨l, vs, rfl, h1, h2, h3, h4⟩
        · cases k2
      · cases k1
    · rw [List.getElem?_set_ne e] at k1 k2
      exact S.sl j t p k1 k2
  · by_cases e : i = j
    · subst e
      have e2 : i ≠ k := hjk
      rw [List.getElem?_set, if_pos rfl] at k3
      split at k3
      · cases k3
        rw [List.getElem?_set_ne e2] at k2 k4
        exact hn k bs k2 k4
      · cases k3
    · rw [List.getElem?_set_ne e] at k1 k3
      by_cases e2 : i = k
      · subst e2
        rw [List.getElem?_set, if_pos rfl] at k4
        split at k4
        · cases k4; exact hn j as k1 k3
        · cases k4
      · rw [List.getElem?_set_ne e2] at k2 k4
        exact S.dist j k as bs a hjk k1 k2 k3 k4
/-- a list that is fresh at the stand before can be taken as one's own -/
theorem Sx.taken (S : Sx K B Hf H σ ε) {i : Nat} {p : Addr} {vs : List V} {xs : List PyData} (e : Fz Hf H Hf' H') (hp : H p = none) (hf : Hf' p = none) (hh : H' p = some (.lst vs)) (hd : Das K Hf' vs xs) :
    Sx K B Hf' H' (σ.set i (some (.ref p))) (ε.set i (.own xs)) := by
  refine (S.mono e).setO (S.fz.h.free hp) hf hh hd fun j ys h1 h2 => ?_
  obtain ⟨l, us, k1, _, _, k3, _⟩ := S.own h1
  rw [h2] at k1
  cases k1
  rw [hp] at k3
  cases k3
/-- a list of one's own changes -/
theorem Sx.put (S : Sx K B Hf H σ ε) {i : Nat} {l : Addr} {us : List V} {xs zs : List PyData} (h : ε[i]? = some (.own xs)) (hl : σ[i]? = some (some (.ref l))) (hz : Das K Hf us zs) : Sx K B Hf (upd H l (.lst us)) σ (ε.set i (.own zs)) := by
  obtain ⟨l', vs, e1, h1, h2, h3, h4⟩ := S.own h
  rw [hl] at e1
  cases e1
  refine ⟨⟨S.fz.f, fun a o e => ?_, fun a o e => ?_, S.fz.n⟩, by rw [List.length_set]; exact S.len, fun j t p k1 k2 => ?_, fun j k as bs a hjk k1 k2 k3 k4 => ?_⟩
  · rw [upd_ne (ne_of_none e h1)]; exact S.fz.h a o e
  · rw [upd_ne (ne_of_none e h2)]; exact S.fz.s a o e
  · by_cases e : i = j
    · subst e
      rw [hl] at k2
      cases k2
      rw [List.getElem?_set, if_pos rfl] at k1
      split at k1
      · cases k1; exact ⟨l, us, rfl, h1, h2, upd_same, hz⟩
      · cases k1
    · rw [List.getElem?_set_ne e] at k1
      have q := S.sl j t p k1 k2
      cases t with
      | no => exact trivial
      | d x => exact q
      | raw v => exact q
      | p φ => exact q
      | own ys =>
        obtain ⟨l2, ws, e2, q1, q2, q3, q4⟩ := q
        subst e2
        have hne : l2 ≠ l := fun z => by
          subst z
          exact S.dist i j xs ys l2 e h k1 hl k2
        exact ⟨l2, ws, rfl, q1, q2, by rw [upd_ne hne]; exact q3, q4⟩
  · have back : ∀ {m : Nat} {cs : List PyData}, (ε.set i (.own zs))[m]? = some (.own cs) → ∃ cs', ε[m]? = some (.own cs') := fun {m cs} q => by
      by_cases e : i = m
      · subst e; exact ⟨xs, h⟩
      · rw [List.getElem?_set_ne e] at q; exact ⟨cs, q⟩
    obtain ⟨as', k1'⟩ := back k1
    obtain ⟨bs', k2'⟩ := back k2
    exact S.dist j k as' bs' a hjk k1' k2' k3 k4
theorem set_self_of {α : Type} : ∀ {l : List α} {i : Nat} {x : α}, l[i]? = some x → l.set i x = l
  | [], _, _, h => by simp at h
  | a :: r, 0, x, h => by
    have e := Option.some.inj h
    rw [← e]
    rfl
  | a :: r, i + 1, x, h => congrArg (a :: ·) (set_self_of (l := r) (i := i) h)
/-- a list of one's own is frozen -/
theorem Sx.freeze (S : Sx K B Hf H σ ε) {i : Nat} {xs : List PyData} (h : ε[i]? = some (.own xs)) : ∃ (l : Addr) (Hf' : Hp), σ[i]? = some (some (.ref l)) ∧ Fz B.fb B.hs Hf' H ∧ Da K Hf' (.ref l) (.list xs) ∧ Same Hf Hf' ∧ Sx K B Hf' H σ (ε.set i (.d (.list xs))) := by
  obtain ⟨l, vs, e1, h1, h2, h3, h4⟩ := S.own h
  have sf : Same Hf (upd Hf l (.lst vs)) := fun a o e => by rw [upd_ne (ne_of_none e h2)]; exact e
  have hd : Da K (upd Hf l (.lst vs)) (.ref l) (.list xs) := .lst upd_same (h4.mono sf)
  have fz : Fz B.fb B.hs (upd Hf l (.lst vs)) H := ⟨S.fz.f.trans sf, S.fz.h, fun a o e => by
      by_cases c : a = l
      · subst c; rw [upd_same] at e; rw [h3]; exact e
      · rw [upd_ne c] at e; exact S.fz.s a o e, fun a k1 k2 => by
      have c : a ≠ l := fun z => k1 (z ▸ h1)
      rw [upd_ne c]; exact S.fz.n a k1 k2⟩
  refine ⟨l, upd Hf l (.lst vs), e1, fz, hd, sf, fz, by rw [List.length_set]; exact S.len, fun j t p k1 k2 => ?_, fun j k as bs a hjk k1 k2 k3 k4 => ?_⟩
  · by_cases e : i = j
    · subst e
      rw [e1] at k2
      cases k2
      rw [List.getElem?_set, if_pos rfl] at k1
      split at k1
      · cases k1; exact ⟨_, rfl, hd⟩
      · cases k1
    · rw [List.getElem?_set_ne e] at k1
      have q := S.sl j t p k1 k2
      cases t with
      | no => exact trivial
      | d x => obtain ⟨v, q1, q2⟩ := q; exact ⟨v, q1, q2.mono sf⟩
      | raw v => exact q
      | p φ => obtain ⟨v, q1, q2⟩ := q; exact ⟨v, q1, fun Hf2 s => q2 Hf2 (sf.trans s)⟩
      | own ys =>
        obtain ⟨l2, ws, e2, q1, q2, q3, q4⟩ := q
        subst e2
        have hne : l2 ≠ l := fun z => by
          subst z
          exact S.dist i j xs ys l2 e h k1 e1 k2
        exact ⟨l2, ws, rfl, q1, by rw [upd_ne hne]; exact q2, q3, q4.mono sf⟩
  · have back : ∀ {m : Nat} {cs : List PyData}, (ε.set i (.d (.list xs)))[m]? = some (.own cs) → ε[m]? = some (.own cs) := fun {m cs} q => by
      by_cases e : i = m
      · subst e
        rw [List.getElem?_set, if_pos rfl] at q
        split at q <;> cases q
      · rw [List.getElem?_set_ne e] at q; exact q
    exact S.dist j k as bs a hjk (back k1) (back k2) k3 k4
/-- fewer slots known -/
theorem Sx.weak (S : Sx K B Hf H σ ε) {i : Nat} : Sx K B Hf H σ (ε.set i .no) := by
  refine ⟨S.fz, by rw [List.length_set]; exact S.len, fun j t p k1 k2 => ?_, fun j k as bs a hjk k1 k2 k3 k4 => ?_⟩
  · by_cases e : i = j
    · subst e
      rw [List.getElem?_set, if_pos rfl] at k1
      split at k1
      · cases k1; exact trivial
      · cases k1
    · rw [List.getElem?_set_ne e] at k1
      exact S.sl j t p k1 k2
  · have back : ∀ {m : Nat} {cs : List PyData}, (ε.set i .no)[m]? = some (.own cs) → ε[m]? = some (.own cs) := fun {m cs} q => by
      by_cases e : i = m
      · subst e
        rw [List.getElem?_set, if_pos rfl] at q
        split at q <;> cases q
      · rw [List.getElem?_set_ne e] at q; exact q
    exact S.dist j k as bs a hjk (back k1) (back k2) k3 k4
/-- at a further stand -/
theorem Sx.up {B' : Bs} (S : Sx K B Hf H σ ε) (e : B' = ⟨Hf, B.hs⟩) : Sx K B' Hf H σ ε := by
  subst e
  exact ⟨⟨Same.refl _, S.fz.h, S.fz.s, fun _ _ h => h⟩, S.len, S.sl, S.dist⟩
theorem Sx.le (S : Sx K B Hf H σ ε) : B.Le ⟨Hf, B.hs⟩ := ⟨S.fz.f, rfl, S.fz.n⟩
theorem Sx.down {B' : Bs} (S : Sx K B' Hf H σ ε) (e : B.Le B') : Sx K B Hf H σ ε := by
  refine ⟨⟨e.f.trans S.fz.f, by rw [← e.h]; exact S.fz.h, S.fz.s, fun a h1 h2 => S.fz.n a (by rw [e.h]; exact h1) (e.n a h1 h2)⟩, S.len, by rw [← e.h]; exact S.sl, S.dist⟩
end
end Cm

/-! What an expression is worth, what a block does: told over plain data. -/
namespace Cm
open PySem PySem.Spec PyProof.Rows L2

/-! ### readings -/
section
variable (K : PySem.W.Frag) (B : Bs) (ε : List Sl)
def EvP (t : TE) (P : Hp → V → Prop) : Prop := ∀ (Hf H : Hp) (σ : L2.St), Sx K B Hf H σ ε → ∀ Q : VK, (∀ v Hf' H', Fz Hf H Hf' H' → P Hf' v → Q v H') → t σ H Q
abbrev EvD (t : TE) (d : PyData) : Prop := EvP K B ε t fun Hf v => Da K Hf v d
/-- a new list, not frozen yet -/
def EvO (t : TE) (ds : List PyData) : Prop := ∀ (Hf H : Hp) (σ : L2.St), Sx K B Hf H σ ε → ∀ Q : VK,
  (∀ p vs Hf' H', Fz Hf H Hf' H' → H p = none → Hf' p = none → H' p = some (.lst vs) → Das K Hf' vs ds → Q (.ref p) H') → t σ H Q
def EvT (t : TT) (b : Bool) : Prop := ∀ (Hf H : Hp) (σ : L2.St), Sx K B Hf H σ ε → ∀ Q : Bool → Hp → Prop, (∀ Hf' H', Fz Hf H Hf' H' → Q b H') → t σ H Q
def EvA (t : TA) (ds : List PyData) : Prop := ∀ (Hf H : Hp) (σ : L2.St), Sx K B Hf H σ ε → ∀ Q : List V → Hp → Prop, (∀ vs Hf' H', Fz Hf H Hf' H' → Das K Hf' vs ds → Q vs H') → t σ H Q
def EvPo (t : TO) (o : Option Int) : Prop := ∀ (Hf H : Hp) (σ : L2.St), Sx K B Hf H σ ε → ∀ Q : Option Int → Hp → Prop, (∀ Hf' H', Fz Hf H Hf' H' → Q o H') → t σ H Q
/-- what holds of every state that is so -/
def OkN (N : L2.St → Hp → Prop) : Prop := ∀ (Hf H : Hp) (σ : L2.St), Sx K B Hf H σ ε → N σ H
end

/-! ### the widest readings -/
def cE (X : Cx) (e : Expr) : TE := fun σ H Q => ∃ t, PE X e t ∧ t σ H Q
def cT (X : Cx) (e : Expr) : TT := fun σ H Q => ∃ t, PT X e t ∧ t σ H Q
def cA (X : Cx) (es : List Expr) : TA := fun σ H Q => ∃ t, PA X es t ∧ t σ H Q
def cO (X : Cx) (e : Option Expr) : TO := fun σ H Q => ∃ t, PO X e t ∧ t σ H Q
def cS (X : Cx) (sts : List Stmt) : TS := fun D σ H => ∃ t, PSs X sts t ∧ t D σ H
def c1 (X : Cx) (st : Stmt) : TS := fun D σ H => ∃ t, PS X st t ∧ t D σ H
section
variable {X : Cx}
theorem peC {e : Expr} : PE X e (cE X e) := ⟨fun pins s σ H Q I ⟨_, h, q⟩ => h.run pins s σ H Q I q⟩
theorem ptC {e : Expr} : PT X e (cT X e) := ⟨fun pins s σ H Q I ⟨_, h, q⟩ => h.run pins s σ H Q I q⟩
theorem paC {es : List Expr} : PA X es (cA X es) := ⟨fun pos pins s σ H Q I ⟨_, h, q⟩ => h.run pos pins s σ H Q I q⟩
theorem poC {e : Option Expr} : PO X e (cO X e) := ⟨fun pins s σ H Q I ⟨_, h, q⟩ => h.run pins s σ H Q I q⟩
theorem pssC {sts : List Stmt} : PSs X sts (cS X sts) := ⟨fun pins s σ H D I ⟨_, h, q⟩ => h.run pins s σ H D I q⟩
theorem psC {st : Stmt} : PS X st (c1 X st) := ⟨fun pins s σ H D I ⟨_, h, q⟩ => h.run pins s σ H D I q⟩
end
section
variable (X : Cx) (B : Bs) (ε : List Sl)
abbrev XP (e : Expr) (P : Hp → V → Prop) : Prop := EvP X.K B ε (cE X e) P
abbrev XD (e : Expr) (d : PyData) : Prop := EvD X.K B ε (cE X e) d
abbrev XO (e : Expr) (ds : List PyData) : Prop := EvO X.K B ε (cE X e) ds
abbrev XT (e : Expr) (b : Bool) : Prop := EvT X.K B ε (cT X e) b
abbrev XA (es : List Expr) (ds : List PyData) : Prop := EvA X.K B ε (cA X es) ds
abbrev XPo (e : Option Expr) (o : Option Int) : Prop := EvPo X.K B ε (cO X e) o
abbrev XS (sts : List Stmt) (D : Ends) : Prop := OkN X.K B ε (cS X sts D)
abbrev X1 (st : Stmt) (D : Ends) : Prop := OkN X.K B ε (c1 X st D)
end
section
variable {X : Cx} {B : Bs} {ε : List Sl}
theorem ofP {e : Expr} {t : TE} {P : Hp → V → Prop} (h : PE X e t) (k : EvP X.K B ε t P) : XP X B ε e P := fun Hf H σ S Q q => ⟨t, h, k Hf H σ S Q q⟩
theorem ofO {e : Expr} {t : TE} {ds : List PyData} (h : PE X e t) (k : EvO X.K B ε t ds) : XO X B ε e ds := fun Hf H σ S Q q => ⟨t, h, k Hf H σ S Q q⟩
theorem ofT {e : Expr} {t : TT} {b : Bool} (h : PT X e t) (k : EvT X.K B ε t b) : XT X B ε e b := fun Hf H σ S Q q => ⟨t, h, k Hf H σ S Q q⟩
theorem ofA {e : List Expr} {t : TA} {ds : List PyData} (h : PA X e t) (k : EvA X.K B ε t ds) : XA X B ε e ds := fun Hf H σ S Q q => ⟨t, h, k Hf H σ S Q q⟩
theorem ofPo {e : Option Expr} {t : TO} {o : Option Int} (h : PO X e t) (k : EvPo X.K B ε t o) : XPo X B ε e o := fun Hf H σ S Q q => ⟨t, h, k Hf H σ S Q q⟩
theorem ofS {sts : List Stmt} {t : TS} {D : Ends} (h : PSs X sts t) (k : OkN X.K B ε (t D)) : XS X B ε sts D := fun Hf H σ S => ⟨t, h, k Hf H σ S⟩
theorem of1 {st : Stmt} {t : TS} {D : Ends} (h : PS X st t) (k : OkN X.K B ε (t D)) : X1 X B ε st D := fun Hf H σ S => ⟨t, h, k Hf H σ S⟩
theorem sCons {st : Stmt} {rest : List Stmt} {D : Ends} (h : X1 X B ε st { D with nx := cS X rest D }) : XS X B ε (st :: rest) D := ofS (pss_cons psC pssC) h
theorem sNil {D : Ends} (h : OkN X.K B ε D.nx) : XS X B ε [] D := ofS pss_nil h
end

/-! ### rules over readings -/
section
variable {K : PySem.W.Frag} {B : Bs} {ε : List Sl}
theorem EvP.imp {t : TE} {P P' : Hp → V → Prop} (h : EvP K B ε t P) (i : ∀ Hf v, P Hf v → P' Hf v) : EvP K B ε t P' := fun Hf H σ S Q q => h Hf H σ S Q fun v Hf' H' e p => q v Hf' H' e (i _ _ p)
theorem EvO.d {t : TE} {ds : List PyData} (h : EvO K B ε t ds) : EvD K B ε t (.list ds) := fun Hf H σ S Q q => h Hf H σ S Q fun p vs Hf' H' e hp hf hh hd => by
  have sf : Same Hf' (upd Hf' p (.lst vs)) := fun a o z => by rw [upd_ne (ne_of_none z hf)]; exact z
  refine q _ (upd Hf' p (.lst vs)) H' ⟨e.f.trans sf, e.h, fun a o z => ?_, fun a h1 h2 => ?_⟩ (.lst upd_same (hd.mono sf))
  · by_cases c : a = p
    · subst c; rw [upd_same] at z; rw [hh]; exact z
    · rw [upd_ne c] at z; exact e.s a o z
  · have c : a ≠ p := fun z => h1 (z ▸ hp)
    rw [upd_ne c]; exact e.n a h1 h2
theorem evVar {i : Nat} {d : PyData} (h : ε[i]? = some (.d d)) : EvD K B ε (tVar i) d := fun Hf H σ S Q q => by
  obtain ⟨v, hv, hd⟩ := S.d h
  exact ⟨v, hv, q v Hf H (Fz.refl S.fz.s) hd⟩
theorem evRaw {i : Nat} {v : V} (h : ε[i]? = some (.raw v)) : EvP K B ε (tVar i) (fun _ u => u = v) := fun Hf H σ S Q q => ⟨v, S.raw h, q v Hf H (Fz.refl S.fz.s) rfl⟩
/-- a constant's data -/
def flV : V → Option PyData
  | .non => some .none
  | .bl b => some (.bool b)
  | .int i => some (.int i)
  | .str x => some (.str x)
  | _ => none
theorem flV_da {Hf : Hp} : ∀ {v : V} {d : PyData}, flV v = some d → Da K Hf v d
  | .non, _, h => by cases h; exact .non
  | .bl b, _, h => by cases h; exact .bl b
  | .int i, _, h => by cases h; exact .int i
  | .str x, _, h => by cases h; exact .str x
  | .byt _, _, h => nomatch h
  | .flt _, _, h => nomatch h
  | .ref _, _, h => nomatch h
  | .ty _, _, h => nomatch h
theorem evC {v : V} {d : PyData} (h : flV v = some d) : EvD K B ε (tC v) d := fun Hf H σ S Q q => q v Hf H (Fz.refl S.fz.s) (flV_da h)
/-- an operator's rule at data -/
def RelOk (K : PySem.W.Frag) (r : R2) (d1 d2 : PyData) (P : Hp → V → Prop) : Prop :=
  ∀ (Hf H : Hp) (x y : V) (Q : VK), Same Hf H → Da K Hf x d1 → Da K Hf y d2 → (∀ v Hf' H', Fz Hf H Hf' H' → P Hf' v → Q v H') → r x y H Q
abbrev RelD (K : PySem.W.Frag) (r : R2) (d1 d2 d : PyData) : Prop := RelOk K r d1 d2 fun Hf v => Da K Hf v d
def RelO2 (K : PySem.W.Frag) (r : R2) (d1 d2 : PyData) (ds : List PyData) : Prop :=
  ∀ (Hf H : Hp) (x y : V) (Q : VK), Same Hf H → Da K Hf x d1 → Da K Hf y d2 → (∀ p vs Hf' H', Fz Hf H Hf' H' → H p = none → Hf' p = none → H' p = some (.lst vs) → Das K Hf' vs ds → Q (.ref p) H') → r x y H Q
theorem evOp {r : R2} {ta tb : TE} {d1 d2 : PyData} {P : Hp → V → Prop} (ha : EvD K B ε ta d1) (hb : EvD K B ε tb d2) (hr : RelOk K r d1 d2 P) : EvP K B ε (tOp r ta tb) P := fun Hf H σ S Q q =>
  ha Hf H σ S _ fun x Hf1 H1 e1 h1 => hb Hf1 H1 σ (S.mono e1) _ fun y Hf2 H2 e2 h2 => hr Hf2 H2 x y Q e2.s (h1.mono e2.f) h2 fun v Hf' H' e3 p => q v Hf' H' ((e1.trans e2).trans e3) p
theorem evOpO {r : R2} {ta tb : TE} {d1 d2 : PyData} {ds : List PyData} (ha : EvD K B ε ta d1) (hb : EvD K B ε tb d2) (hr : RelO2 K r d1 d2 ds) : EvO K B ε (tOp r ta tb) ds := fun Hf H σ S Q q =>
  ha Hf H σ S _ fun x Hf1 H1 e1 h1 => hb Hf1 H1 σ (S.mono e1) _ fun y Hf2 H2 e2 h2 => hr Hf2 H2 x y Q e2.s (h1.mono e2.f) h2 fun p vs Hf' H' e3 n1 n2 n3 n4 => q p vs Hf' H' ((e1.trans e2).trans e3) ((e1.trans e2).h.free n1) n2 n3 n4
theorem evTest {te : TE} {b : Bool} (h : EvD K B ε te (.bool b)) : EvT K B ε (tTest te) b := fun Hf H σ S Q q => h Hf H σ S _ fun v Hf' H' e hd => by
  cases hd
  exact ⟨b, rfl, q Hf' H' e⟩
theorem evTB {te : TE} {b : Bool} (h : EvD K B ε te (.bool b)) : EvT K B ε (tB te) b := evTest h
theorem evAnd {t u : TT} {a b : Bool} (h1 : EvT K B ε t a) (h2 : a = true → EvT K B ε u b) : EvT K B ε (tAnd t u) (a && b) := fun Hf H σ S Q q => h1 Hf H σ S _ fun Hf1 H1 e1 => by
  cases a with
  | true =>
    show u σ H1 Q
    exact h2 rfl Hf1 H1 σ (S.mono e1) Q fun Hf2 H2 e2 => q Hf2 H2 (e1.trans e2)
  | false => exact q Hf1 H1 e1
theorem evOr {t u : TT} {a b : Bool} (h1 : EvT K B ε t a) (h2 : a = false → EvT K B ε u b) : EvT K B ε (tOr t u) (a || b) := fun Hf H σ S Q q => h1 Hf H σ S _ fun Hf1 H1 e1 => by
  cases a with
  | true => exact q Hf1 H1 e1
  | false =>
    show u σ H1 Q
    exact h2 rfl Hf1 H1 σ (S.mono e1) Q fun Hf2 H2 e2 => q Hf2 H2 (e1.trans e2)
theorem evNotV {t : TE} {a : Bool} (h : EvD K B ε t (.bool a)) : EvD K B ε (tNotV t) (.bool (!a)) := fun Hf H σ S Q q => h Hf H σ S _ fun v Hf' H' e hd => by
  cases hd
  exact ⟨a, rfl, q _ Hf' H' e (.bl _)⟩
theorem evOrV {t u : TE} {a b : Bool} (h1 : EvD K B ε t (.bool a)) (h2 : a = false → EvD K B ε u (.bool b)) : EvD K B ε (tOrV t u) (.bool (a || b)) := fun Hf H σ S Q q => h1 Hf H σ S _ fun v Hf1 H1 e1 hd => by
  cases hd
  refine ⟨a, rfl, ?_⟩
  cases a with
  | true => exact q _ Hf1 H1 e1 (.bl _)
  | false =>
    show u σ H1 Q
    exact h2 rfl Hf1 H1 σ (S.mono e1) Q fun v Hf2 H2 e2 k => q v Hf2 H2 (e1.trans e2) k
theorem eaNil : EvA K B ε tNil [] := fun Hf H σ S Q q => q [] Hf H (Fz.refl S.fz.s) .nil
theorem eaCons {te : TE} {t : TA} {d : PyData} {ds : List PyData} (h : EvD K B ε te d) (k : EvA K B ε t ds) : EvA K B ε (tCons te t) (d :: ds) := fun Hf H σ S Q q =>
  h Hf H σ S _ fun v Hf1 H1 e1 h1 => k Hf1 H1 σ (S.mono e1) _ fun vs Hf2 H2 e2 h2 => q _ Hf2 H2 (e1.trans e2) (.cons (h1.mono e2.f) h2)
theorem evTup {t : TA} {ds : List PyData} (h : EvA K B ε t ds) (hl : ds.length ≤ 100000) : EvD K B ε (tTup t) (.tuple ds) := fun Hf H σ S Q q => h Hf H σ S _ fun vs Hf1 H1 e1 h1 => by
  refine ⟨by rw [h1.length]; exact Nat.le_trans hl (by decide), fun p hp => ?_⟩
  have e2 := Fz.new (o := .tup vs) e1.s hp
  exact q _ _ _ (e1.trans e2) (.tup (.inl (.inl upd_same)) (h1.mono e2.f))
theorem evLst {t : TA} {ds : List PyData} (h : EvA K B ε t ds) (hl : ds.length ≤ 100000) : EvO K B ε (tLst t) ds := fun Hf H σ S Q q => h Hf H σ S _ fun vs Hf1 H1 e1 h1 => by
  refine ⟨by rw [h1.length]; exact Nat.le_trans hl (by decide), fun p hp => ?_⟩
  exact q p vs Hf1 _ (e1.trans (Fz.own e1.s hp)) (e1.h.free hp) (e1.s.free hp) upd_same h1
/-- a call's rule on values, at data -/
def CalOk (K : PySem.W.Frag) (r : List V → Hp → VK → Prop) (ds : List PyData) (P : Hp → V → Prop) : Prop :=
  ∀ (Hf H : Hp) (vs : List V) (Q : VK), Same Hf H → Das K Hf vs ds → (∀ v Hf' H', Fz Hf H Hf' H' → P Hf' v → Q v H') → r vs H Q
def CalO (K : PySem.W.Frag) (r : List V → Hp → VK → Prop) (ds es : List PyData) : Prop :=
  ∀ (Hf H : Hp) (vs : List V) (Q : VK), Same Hf H → Das K Hf vs ds → (∀ p vs Hf' H', Fz Hf H Hf' H' → H p = none → Hf' p = none → H' p = some (.lst vs) → Das K Hf' vs es → Q (.ref p) H') → r vs H Q
theorem evCB {r : List V → Hp → VK → Prop} {t : TA} {ds : List PyData} {P : Hp → V → Prop} (h : EvA K B ε t ds) (k : CalOk K r ds P) : EvP K B ε (tCB r t) P := fun Hf H σ S Q q =>
  h Hf H σ S _ fun vs Hf1 H1 e1 h1 => k Hf1 H1 vs Q e1.s h1 fun v Hf2 H2 e2 p => q v Hf2 H2 (e1.trans e2) p
theorem evCBO {r : List V → Hp → VK → Prop} {t : TA} {ds es : List PyData} (h : EvA K B ε t ds) (k : CalO K r ds es) : EvO K B ε (tCB r t) es := fun Hf H σ S Q q =>
  h Hf H σ S _ fun vs Hf1 H1 e1 h1 => k Hf1 H1 vs Q e1.s h1 fun p vs Hf2 H2 e2 n1 n2 n3 n4 => q p vs Hf2 H2 (e1.trans e2) (e1.h.free n1) n2 n3 n4
/-- a promise at data: from ds to what P says -/
def SpOk (K : PySem.W.Frag) (sp : Sp) (ds : List PyData) (P : Hp → V → Prop) : Prop :=
  ∀ (Hf H : Hp) (vs : List V) (Q : VK) (E : XK), Same Hf H → Das K Hf vs ds → (∀ v Hf' H', Fz Hf H Hf' H' → P Hf' v → Q v H') → sp vs H Q E
theorem evCall {sp : Sp} {E : XK} {t : TA} {ds : List PyData} {P : Hp → V → Prop} (h : EvA K B ε t ds) (k : SpOk K sp ds P) : EvP K B ε (tCall sp [] E t) P := fun Hf H σ S Q q =>
  h Hf H σ S _ fun vs Hf1 H1 e1 h1 => by
    rw [List.append_nil]
    exact k Hf1 H1 vs Q E e1.s h1 fun v Hf2 H2 e2 p => q v Hf2 H2 (e1.trans e2) p
end

/-! ### a pure def's promise: from data to data -/
def SpD (K : PySem.W.Frag) (F : List PyData → PyData → Prop) : Sp := fun vs H Q _ => ∃ Hf ds r, Same Hf H ∧ Das K Hf vs ds ∧ F ds r ∧ ∀ v Hf' H', Fz Hf H Hf' H' → Da K Hf' v r → Q v H'
theorem spD_ok {K : PySem.W.Frag} {F : List PyData → PyData → Prop} {ds : List PyData} {r : PyData} (h : F ds r) : SpOk K (SpD K F) ds fun Hf v => Da K Hf v r := fun Hf H vs Q E s hd q => ⟨Hf, ds, r, s, hd, h, q⟩
/-- .. whose list is the caller's own -/
def SpL (K : PySem.W.Frag) (F : List PyData → List PyData → Prop) : Sp := fun vs H Q _ => ∃ Hf ds es, Same Hf H ∧ Das K Hf vs ds ∧ F ds es ∧ ∀ p us Hf' H', Fz Hf H Hf' H' → H p = none → Hf' p = none → H' p = some (.lst us) → Das K Hf' us es → Q (.ref p) H'
theorem evCallO {K : PySem.W.Frag} {B : Bs} {ε : List Sl} {F : List PyData → List PyData → Prop} {E : XK} {t : TA} {ds es : List PyData} (h : EvA K B ε t ds) (k : F ds es) : EvO K B ε (tCall (SpL K F) [] E t) es := fun Hf H σ S Q q =>
  h Hf H σ S _ fun vs Hf1 H1 e1 h1 => by
    rw [List.append_nil]
    exact ⟨Hf1, ds, es, e1.s, h1, k, fun p us Hf2 H2 e2 n1 n2 n3 n4 => q p us Hf2 H2 (e1.trans e2) (e1.h.free n1) n2 n3 n4⟩

/-! ### operators at data -/
section
variable {K : PySem.W.Frag}
theorem rkI0 {f : Int → Int → Int} {i j : Int} : RelD K (rI0 fun i j => .int (f i j)) (.int i) (.int j) (.int (f i j)) := fun Hf H x y Q s h1 h2 q => by
  cases h1; cases h2
  exact ⟨i, j, rfl, rfl, q _ Hf H (Fz.refl s) (.int _)⟩
theorem rkB0 {f : Int → Int → Bool} {i j : Int} : RelD K (rI0 fun i j => .bl (f i j)) (.int i) (.int j) (.bool (f i j)) := fun Hf H x y Q s h1 h2 q => by
  cases h1; cases h2
  exact ⟨i, j, rfl, rfl, q _ Hf H (Fz.refl s) (.bl _)⟩
theorem rkI {C : Int → Int → Prop} {f : Int → Int → Int} {i j : Int} (hc : C i j) : RelD K (rI C fun i j => .int (f i j)) (.int i) (.int j) (.int (f i j)) := fun Hf H x y Q s h1 h2 q => by
  cases h1; cases h2
  exact ⟨i, j, rfl, rfl, hc, q _ Hf H (Fz.refl s) (.int _)⟩
def rAddS : R2 := fun x y H Q => ∃ i j, x = .str i ∧ y = .str j ∧ i.length + j.length ≤ sizeLine ∧ Q (.str (i ++ j)) H
theorem op_addS {X : Cx} : OpR X (binaryOp .Add) rAddS := op_add_str
theorem rkAddS {a b : Str} (h : a.length + b.length ≤ 1000) : RelD K rAddS (.str a) (.str b) (.str (a ++ b)) := fun Hf H x y Q s h1 h2 q => by
  cases h1; cases h2
  exact ⟨a, b, rfl, rfl, Nat.le_trans h (by decide), q _ Hf H (Fz.refl s) (.str _)⟩
theorem dec_str (a b : Str) : decide (V.str a = V.str b) = decide (a = b) := by
  by_cases e : a = b
  · rw [decide_eq_true e, decide_eq_true (congrArg V.str e)]
  · rw [decide_eq_false e, decide_eq_false fun z => e (V.str.inj z)]
theorem dec_int (a b : Int) : decide (V.int a = V.int b) = decide (a = b) := by
  by_cases e : a = b
  · rw [decide_eq_true e, decide_eq_true (congrArg V.int e)]
  · rw [decide_eq_false e, decide_eq_false fun z => e (V.int.inj z)]
theorem rkEqS {a b : Str} : RelD K rEq (.str a) (.str b) (.bool (decide (a = b))) := fun Hf H x y Q s h1 h2 q => by
  cases h1; cases h2
  exact ⟨rfl, by rw [dec_str]; exact q _ Hf H (Fz.refl s) (.bl _)⟩
theorem rkEqI {a b : Int} : RelD K rEq (.int a) (.int b) (.bool (decide (a = b))) := fun Hf H x y Q s h1 h2 q => by
  cases h1; cases h2
  exact ⟨rfl, by rw [dec_int]; exact q _ Hf H (Fz.refl s) (.bl _)⟩
theorem rkNeS {a b : Str} : RelD K rNe (.str a) (.str b) (.bool (!decide (a = b))) := fun Hf H x y Q s h1 h2 q => by
  cases h1; cases h2
  exact ⟨rfl, by rw [dec_str]; exact q _ Hf H (Fz.refl s) (.bl _)⟩
theorem rkNeI {a b : Int} : RelD K rNe (.int a) (.int b) (.bool (!decide (a = b))) := fun Hf H x y Q s h1 h2 q => by
  cases h1; cases h2
  exact ⟨rfl, by rw [dec_int]; exact q _ Hf H (Fz.refl s) (.bl _)⟩
theorem rkEqD {a b : PyData} (ha : SeqAt.shaped a = true) (hb : SeqAt.shaped b = true) : RelD K (rEqD K) a b (.bool (PyData.eqv a b)) := fun Hf H x y Q s h1 h2 q =>
  ⟨a, b, (h1.mono s).dp, (h2.mono s).dp, ha, hb, q _ Hf H (Fz.refl s) (.bl _)⟩
theorem rkNeD {a b : PyData} (ha : SeqAt.shaped a = true) (hb : SeqAt.shaped b = true) : RelD K (rNeD K) a b (.bool (!PyData.eqv a b)) := fun Hf H x y Q s h1 h2 q =>
  ⟨a, b, (h1.mono s).dp, (h2.mono s).dp, ha, hb, q _ Hf H (Fz.refl s) (.bl _)⟩
theorem rkInD {a : PyData} {ds : List PyData} (ha : SeqAt.shaped a = true) (hb : SeqAt.shaped (.list ds) = true) : RelD K (rInD K) a (.list ds) (.bool (ds.any fun z => PyData.eqv z a)) := fun Hf H x y Q s h1 h2 q =>
  ⟨a, ds, (h1.mono s).dp, (h2.mono s).dp, ha, hb, q _ Hf H (Fz.refl s) (.bl _)⟩
def rIsN2 : R2 := fun x y H Q => y = .non ∧ Q (.bl (decide (x = .non))) H
theorem op_isN2 {X : Cx} : OpR X (compareOp .Is) rIsN2 := op_isN
def rNotN2 : R2 := fun x y H Q => y = .non ∧ Q (.bl (!decide (x = .non))) H
theorem op_notN2 {X : Cx} : OpR X (compareOp .IsNot) rNotN2 := op_notN
def isNon : PyData → Bool
  | .none => true
  | _ => false
theorem isNon_da {Hf : Hp} {x : V} {d : PyData} (h : Da K Hf x d) : decide (x = .non) = isNon d := by
  cases h <;> first | rfl | exact decide_eq_false (fun z => nomatch z)
theorem rkIsN {a : PyData} : RelD K rIsN2 a .none (.bool (isNon a)) := fun Hf H x y Q s h1 h2 q => by
  have e := isNon_da h1
  cases h2
  exact ⟨rfl, by rw [e]; exact q _ Hf H (Fz.refl s) (.bl _)⟩
theorem rkNotN {a : PyData} : RelD K rNotN2 a .none (.bool (!isNon a)) := fun Hf H x y Q s h1 h2 q => by
  have e := isNon_da h1
  cases h2
  exact ⟨rfl, by rw [e]; exact q _ Hf H (Fz.refl s) (.bl _)⟩
theorem rkIxT {ds : List PyData} {i : Int} {d : PyData} (h : atI ds i = some d) : RelD K (rIxT K) (.tuple ds) (.int i) d := fun Hf H x y Q s h1 h2 q => by
  cases h2
  cases h1 with
  | tup h1 k =>
    obtain ⟨v, hv, hd⟩ := atI_map_len k h
    exact ⟨_, _, i, v, rfl, rfl, same_t s h1, hv, q v Hf H (Fz.refl s) hd⟩
theorem rkIxL {ds : List PyData} {i : Int} {d : PyData} (h : atI ds i = some d) : RelD K (rIxL K) (.list ds) (.int i) d := fun Hf H x y Q s h1 h2 q => by
  cases h2
  cases h1 with
  | lst h1 k =>
    obtain ⟨v, hv, hd⟩ := atI_map_len k h
    exact ⟨_, _, i, v, rfl, rfl, .inl (.inl (s _ _ h1)), hv, q v Hf H (Fz.refl s) hd⟩
theorem rkIxS {z : Str} {i : Int} {c : Nat} (hz : z.length ≤ 1000) (h : atI z.cps.toList i = some c) : RelD K rIxS (.str z) (.int i) (.str ⟨#[c]⟩) := fun Hf H x y Q s h1 h2 q => by
  cases h1; cases h2
  exact ⟨z, i, c, rfl, rfl, Nat.le_trans hz (by decide), h, q _ Hf H (Fz.refl s) (.str _)⟩
theorem rkCatL {as bs : List PyData} (hz : as.length + bs.length ≤ 100000) : RelO2 K rCat (.list as) (.list bs) (as ++ bs) := fun Hf H x y Q s h1 h2 q => by
  cases h1 with
  | lst h1 k1 =>
    cases h2 with
    | lst h2 k2 =>
      refine ⟨_, _, _, _, rfl, rfl, s _ _ h1, s _ _ h2, by rw [k1.length, k2.length]; exact Nat.le_trans hz (by decide), fun p hp => ?_⟩
      exact q p _ Hf _ (Fz.own s hp) hp (s.free hp) upd_same (k1.append k2)
theorem rkCatT {as bs : List PyData} (hz : as.length + bs.length ≤ 100000) : RelD K (rCatA K) (.tuple as) (.tuple bs) (.tuple (as ++ bs)) := fun Hf H x y Q s h1 h2 q => by
  cases h1 with
  | @tup a1 u1 _ h1 k1 =>
    cases h2 with
    | @tup a2 u2 _ h2 k2 =>
      refine ⟨_, _, _, _, rfl, rfl, same_t s h1, same_t s h2, by rw [k1.length, k2.length]; exact Nat.le_trans hz (by decide), fun e => ?_, fun _ e => ?_, fun _ _ p hp => ?_⟩
      · subst e; cases k1
        exact q _ Hf H (Fz.refl s) (.tup h2 k2)
      · subst e; cases k2
        exact q _ Hf H (Fz.refl s) (by rw [List.append_nil]; exact .tup h1 k1)
      · have e2 := Fz.new (o := .tup (u1 ++ u2)) s hp
        exact q _ _ _ e2 (.tup (.inl (.inl upd_same)) ((k1.append k2).mono e2.f))
end

/-! ### built-ins at data -/
section
variable {K : PySem.W.Frag}
/-- the items of a list or a tuple -/
def itemsOf : PyData → Option (List PyData)
  | .list ds => some ds
  | .tuple ds => some ds
  | _ => none
theorem items_da {Hf H : Hp} {v : V} {d : PyData} {ds : List PyData} (s : Same Hf H) (h : Da K Hf v d) (e : itemsOf d = some ds) : ∃ p ys, v = .ref p ∧ (SqL K H p ys ∨ SqT K H p ys) ∧ Das K Hf ys ds := by
  cases h with
  | lst h k => cases e; exact ⟨_, _, rfl, .inl (.inl (.inl (s _ _ h))), k⟩
  | tup h k => cases e; exact ⟨_, _, rfl, .inr (same_t s h), k⟩
  | _ => cases e
def rLen2 (K : PySem.W.Frag) : List V → Hp → VK → Prop := fun xs H Q => ∃ p ys, xs = [.ref p] ∧ (SqL K H p ys ∨ SqT K H p ys) ∧ Q (.int ys.length) H
theorem call_len2 {X : Cx} : CallR X (.builtin "len") (rLen2 X.K) := call_len_seq
theorem ckLen {d : PyData} {ds : List PyData} (e : itemsOf d = some ds) : CalOk K (rLen2 K) [d] fun Hf v => Da K Hf v (.int ds.length) := fun Hf H vs Q s h q => by
  cases h with
  | cons h t =>
    cases t
    obtain ⟨p, ys, rfl, h1, k⟩ := items_da s h e
    exact ⟨p, ys, rfl, h1, q _ Hf H (Fz.refl s) (by rw [k.length]; exact .int _)⟩
def rList2 (K : PySem.W.Frag) : List V → Hp → VK → Prop := fun xs H Q => ∃ p ys, xs = [.ref p] ∧ (SqL K H p ys ∨ SqT K H p ys) ∧ ∀ l, H l = none → Q (.ref l) (upd H l (.lst ys))
theorem call_list2 {X : Cx} : CallR X (.type "list") (rList2 X.K) := call_list_of
theorem ckList {d : PyData} {ds : List PyData} (e : itemsOf d = some ds) : CalO K (rList2 K) [d] ds := fun Hf H vs Q s h q => by
  cases h with
  | cons h t =>
    cases t
    obtain ⟨p, ys, rfl, h1, k⟩ := items_da s h e
    exact ⟨p, ys, rfl, h1, fun l hl => q l ys Hf _ (Fz.own s hl) hl (s.free hl) upd_same k⟩
def rTuple2 (K : PySem.W.Frag) : List V → Hp → VK → Prop := fun xs H Q => ∃ p ys, xs = [.ref p] ∧ ((SqL K H p ys ∧ ∀ l, H l = none → Q (.ref l) (upd H l (.tup ys))) ∨ (SqT K H p ys ∧ Q (.ref p) H))
theorem call_tuple2 {X : Cx} : CallR X (.type "tuple") (rTuple2 X.K) := call_tuple_of
theorem ckTuple {ds : List PyData} : CalOk K (rTuple2 K) [.list ds] fun Hf v => Da K Hf v (.tuple ds) := fun Hf H vs Q s h q => by
  cases h with
  | cons h t =>
    cases t
    cases h with
    | @lst a us _ h k =>
      refine ⟨_, _, rfl, .inl ⟨.inl (.inl (s _ _ h)), fun l hl => ?_⟩⟩
      have e2 := Fz.new (o := .tup us) s hl
      exact q _ _ _ e2 (.tup (.inl (.inl upd_same)) (k.mono e2.f))
def rMaxI : List V → Hp → VK → Prop := fun xs H Q => ∃ i j, xs = [.int i, .int j] ∧ Q (.int (if j > i then j else i)) H
theorem call_maxI {X : Cx} (hc : X.calm = true) : CallR X (.builtin "max") rMaxI := call_max2 hc
theorem ckMax {i j : Int} : CalOk K rMaxI [.int i, .int j] fun Hf v => Da K Hf v (.int (if j > i then j else i)) := fun Hf H vs Q s h q => by
  cases h with
  | cons h t =>
    cases t with
    | cons h2 t =>
      cases t; cases h; cases h2
      exact ⟨i, j, rfl, q _ Hf H (Fz.refl s) (.int _)⟩
def rInt1 : List V → Hp → VK → Prop := fun xs H Q => (∃ i, xs = [.int i] ∧ Q (.int i) H) ∨ ∃ k, xs = [.bl k] ∧ Q (.int (if k then 1 else 0)) H
theorem call_intB {X : Cx} : CallR X (.type "int") rInt1 := call_int1
theorem ckIntB {b : Bool} : CalOk K rInt1 [.bool b] fun Hf v => Da K Hf v (.int (if b then 1 else 0)) := fun Hf H vs Q s h q => by
  cases h with
  | cons h t =>
    cases t; cases h
    exact .inr ⟨b, rfl, q _ Hf H (Fz.refl s) (.int _)⟩
def rIntS : List V → Hp → VK → Prop := fun xs H Q => ∃ a n, xs = [.str a] ∧ PySem.intText? a = some n ∧ a.length ≤ 640 ∧ Q (.int n) H
theorem call_intS {X : Cx} : CallR X (.type "int") rIntS := call_int_str
theorem ckIntS {a : Str} {n : Int} (h1 : PySem.intText? a = some n) (h2 : a.length ≤ 640) : CalOk K rIntS [.str a] fun Hf v => Da K Hf v (.int n) := fun Hf H vs Q s h q => by
  cases h with
  | cons h t =>
    cases t; cases h
    exact ⟨a, n, rfl, h1, h2, q _ Hf H (Fz.refl s) (.int _)⟩
def rStrI : List V → Hp → VK → Prop := fun xs H Q => ∃ i : Int, xs = [.int i] ∧ i.natAbs.log2 < 1920 ∧ Q (.str (toString i)) H
theorem call_strI {X : Cx} : CallR X (.type "str") rStrI := call_str_int
theorem ckStr {i : Int} (h1 : i.natAbs.log2 < 1920) : CalOk K rStrI [.int i] fun Hf v => Da K Hf v (.str (toString i)) := fun Hf H vs Q s h q => by
  cases h with
  | cons h t =>
    cases t; cases h
    exact ⟨i, rfl, h1, q _ Hf H (Fz.refl s) (.str _)⟩
theorem tyx_tup {H : Hp} {a : Addr} {xs : List V} (h : SqT K H a xs) : TyX K H (.ref a) (.type "tuple") := by
  rcases h with (h | ⟨o, h⟩) | ⟨_, _, _, h, hc, _⟩
  · exact .base (.tup h)
  · exact .fTuple h
  · exact .kTuple h hc
/-- the class of a data value -/
def tyD : PyData → Option String
  | .none => some "NoneType"
  | .bool _ => some "bool"
  | .int _ => some "int"
  | .str _ => some "str"
  | .list _ => some "list"
  | .tuple _ => some "tuple"
  | _ => none
theorem tyx_da {Hf H : Hp} {v : V} {d : PyData} {t : String} (s : Same Hf H) (h : Da K Hf v d) (e : tyD d = some t) : TyX K H v (.type t) := by
  cases h with
  | non => cases e; exact .base .non
  | bl b => cases e; exact .base (.bl b)
  | int i => cases e; exact .base (.int i)
  | str x => cases e; exact .base (.str x)
  | lst h k => cases e; exact .base (.lst (s _ _ h))
  | tup h k => cases e; exact tyx_tup (same_t s h)
/-- isinstance(x, T), T a built-in type -/
theorem ckIsi {K : PySem.W.Frag} {B : Bs} {ε : List Sl} {te tc : TE} {d : PyData} {t T : String} {b : Bool} (h : EvD K B ε te d) (ht : tyD d = some t) (hc : ∀ σ H Q, Q (.ty T) H → tc σ H Q) (hk : kitB t T = some b) :
    EvD K B ε (tCB (rIsi K) (tCons te (tCons tc tNil))) (.bool b) := fun Hf H σ S Q q => h Hf H σ S _ fun v Hf1 H1 e1 h1 => by
  refine hc σ H1 _ ?_
  exact ⟨v, .ty T, _, _, b, rfl, .ty T, tyx_da e1.s h1 ht, kit_ty hk, q _ Hf1 H1 e1 (.bl _)⟩
end
end Cm

/-! Rules over plain data for expressions and statements of the text. -/
namespace Cm
open PySem PySem.Spec PyProof.Rows L2

/-! ### expressions -/
section
variable {X : Cx} {B : Bs} {ε : List Sl} {pos : Pos}
theorem xv (i : Nat) {x : Str} {d : PyData} (h : ε[i]? = some (.d d)) (hN : X.N[i]? = some x := by rfl) (hv : Vis X.env.scope x := by first | exact Or.inl rfl | exact Or.inr (Or.inl rfl) | exact Or.inr (Or.inr rfl)) (hd : (x == ("__debug__" : Str)) = false := by decide)
    (hcd : (x == ("__classdict__" : Str)) = false := by decide) : XD X B ε (.Name x pos) d := ofP (pe_var hN hv hd hcd) (evVar h)
theorem xraw (i : Nat) {x : Str} {v : V} (h : ε[i]? = some (.raw v)) (hN : X.N[i]? = some x := by rfl) (hv : Vis X.env.scope x := by first | exact Or.inl rfl | exact Or.inr (Or.inl rfl) | exact Or.inr (Or.inr rfl)) (hd : (x == ("__debug__" : Str)) = false := by decide)
    (hcd : (x == ("__classdict__" : Str)) = false := by decide) : XP X B ε (.Name x pos) (fun _ u => u = v) := ofP (pe_var hN hv hd hcd) (evRaw h)
theorem xInt {i j} : XD X B ε (.Constant (.int i) j pos) (.int i) := ofP pe_int (evC rfl)
theorem xStr {i j} : XD X B ε (.Constant (.str i) j pos) (.str i) := ofP pe_str (evC rfl)
theorem xBool {i j} : XD X B ε (.Constant (.bool i) j pos) (.bool i) := ofP pe_bl (evC rfl)
theorem xNone {j} : XD X B ε (.Constant .none j pos) .none := ofP pe_non (evC rfl)
theorem xOp {op : Operator} {r : R2} {a b : Expr} {d1 d2 : PyData} {P : Hp → V → Prop} (ho : OpR X (binaryOp op) r) (ha : XD X B ε a d1) (hb : XD X B ε b d2) (hr : RelOk X.K r d1 d2 P) : XP X B ε (.BinOp a op b pos) P := ofP (pe_op ho peC peC) (evOp ha hb hr)
theorem xOpO {op : Operator} {r : R2} {a b : Expr} {d1 d2 : PyData} {ds : List PyData} (ho : OpR X (binaryOp op) r) (ha : XD X B ε a d1) (hb : XD X B ε b d2) (hr : RelO2 X.K r d1 d2 ds) : XO X B ε (.BinOp a op b pos) ds := ofO (pe_op ho peC peC) (evOpO ha hb hr)
theorem xAdd {a b : Expr} {i j : Int} (ha : XD X B ε a (.int i)) (hb : XD X B ε b (.int j)) : XD X B ε (.BinOp a .Add b pos) (.int (i + j)) := xOp op_add ha hb rkI0
theorem xSub {a b : Expr} {i j : Int} (ha : XD X B ε a (.int i)) (hb : XD X B ε b (.int j)) : XD X B ε (.BinOp a .Sub b pos) (.int (i - j)) := xOp op_sub ha hb rkI0
theorem xMod {a b : Expr} {i j : Int} (ha : XD X B ε a (.int i)) (hb : XD X B ε b (.int j)) (h : 0 < j) : XD X B ε (.BinOp a .Mod b pos) (.int (i % j)) := xOp op_mod ha hb (rkI h)
theorem xFdiv {a b : Expr} {i j : Int} (ha : XD X B ε a (.int i)) (hb : XD X B ε b (.int j)) (h : CDiv i j) : XD X B ε (.BinOp a .FloorDiv b pos) (.int (i / j)) := xOp op_fdiv ha hb (rkI h)
theorem xMul {a b : Expr} {i j : Int} (ha : XD X B ε a (.int i)) (hb : XD X B ε b (.int j)) (h : CMul i j) : XD X B ε (.BinOp a .Mult b pos) (.int (i * j)) := xOp op_mul ha hb (rkI h)
theorem xMulW {a b : Expr} {i j : Int} (ha : XD X B ε a (.int i)) (hb : XD X B ε b (.int j)) (h : CMulW i j) : XD X B ε (.BinOp a .Mult b pos) (.int (i * j)) := xOp op_mulW ha hb (rkI h)
theorem xPow {a b : Expr} {i j : Int} (ha : XD X B ε a (.int i)) (hb : XD X B ε b (.int j)) (h : CPow i j) : XD X B ε (.BinOp a .Pow b pos) (.int (i ^ j.toNat)) := xOp op_pow ha hb (rkI h)
theorem xAddS {a b : Expr} {i j : Str} (ha : XD X B ε a (.str i)) (hb : XD X B ε b (.str j)) (h : i.length + j.length ≤ 1000) : XD X B ε (.BinOp a .Add b pos) (.str (i ++ j)) := xOp op_addS ha hb (rkAddS h)
theorem xCatL {a b : Expr} {i j : List PyData} (ha : XD X B ε a (.list i)) (hb : XD X B ε b (.list j)) (h : i.length + j.length ≤ 100000) : XO X B ε (.BinOp a .Add b pos) (i ++ j) := xOpO op_cat ha hb (rkCatL h)
theorem xCatT {a b : Expr} {i j : List PyData} (ha : XD X B ε a (.tuple i)) (hb : XD X B ε b (.tuple j)) (h : i.length + j.length ≤ 100000) : XD X B ε (.BinOp a .Add b pos) (.tuple (i ++ j)) := xOp op_catA ha hb (rkCatT h)
theorem xIxT {a b : Expr} {ds : List PyData} {i : Int} {d : PyData} (ha : XD X B ε a (.tuple ds)) (hb : XD X B ε b (.int i)) (h : atI ds i = some d) (hs : PlainIx b := by exact fun _ _ => rfl) : XD X B ε (.Subscript a b pos) d := ofP (pe_ix ix_tup peC peC hs) (evOp ha hb (rkIxT h))
theorem xIxL {a b : Expr} {ds : List PyData} {i : Int} {d : PyData} (ha : XD X B ε a (.list ds)) (hb : XD X B ε b (.int i)) (h : atI ds i = some d) (hs : PlainIx b := by exact fun _ _ => rfl) : XD X B ε (.Subscript a b pos) d := ofP (pe_ix ix_list peC peC hs) (evOp ha hb (rkIxL h))
theorem xIxS {a b : Expr} {z : Str} {i : Int} {c : Nat} (ha : XD X B ε a (.str z)) (hb : XD X B ε b (.int i)) (hz : z.length ≤ 1000) (h : atI z.cps.toList i = some c) (hs : PlainIx b := by exact fun _ _ => rfl) : XD X B ε (.Subscript a b pos) (.str ⟨#[c]⟩) := ofP (pe_ix ix_str peC peC hs) (evOp ha hb (rkIxS hz h))
theorem xNil : XA X B ε [] [] := ofA pa_nil eaNil
theorem xCons {e : Expr} {es : List Expr} {d : PyData} {ds : List PyData} (h : XD X B ε e d) (k : XA X B ε es ds) (hs : starEach (e :: es) X.env = (false, eval e X.env) :: starEach es X.env := by rfl) : XA X B ε (e :: es) (d :: ds) := ofA (pa_cons peC paC hs) (eaCons h k)
theorem xTup {es : List Expr} {x1} {ds : List PyData} (h : XA X B ε es ds) (hl : ds.length ≤ 100000) : XD X B ε (.Tuple es x1 pos) (.tuple ds) := ofP (pe_tup paC) (evTup h hl)
theorem xLst {es : List Expr} {ds : List PyData} (h : XA X B ε es ds) (hl : ds.length ≤ 100000) : XO X B ε (.List es pos) ds := ofO (pe_lst paC) (evLst h hl)
/-- comparisons, as a value and as a test -/
theorem xcV {op : CmpOp} {r : R2} {a b : Expr} {d1 d2 : PyData} {c : Bool} (ho : OpR X (compareOp op) r) (hm : behindInMarks op b = false) (ha : XD X B ε a d1) (hb : XD X B ε b d2) (hr : RelD X.K r d1 d2 (.bool c)) : XD X B ε (.Compare a [op] [b] pos) (.bool c) := ofP (pe_cmpR ho peC peC hm) (evOp ha hb hr)
theorem xcT {op : CmpOp} {r : R2} {a b : Expr} {d1 d2 : PyData} {c : Bool} (ho : OpR X (compareOp op) r) (hm : behindInMarks op b = false) (ha : XD X B ε a d1) (hb : XD X B ε b d2) (hr : RelD X.K r d1 d2 (.bool c)) : XT X B ε (.Compare a [op] [b] pos) c := ofT (pt_cmpR ho peC peC hm) (evTest (evOp ha hb hr))
theorem tEqS {a b : Expr} {x y : Str} (ha : XD X B ε a (.str x)) (hb : XD X B ε b (.str y)) : XT X B ε (.Compare a [.Eq] [b] pos) (decide (x = y)) := xcT op_eq (nomark _) ha hb rkEqS
theorem tNeS {a b : Expr} {x y : Str} (ha : XD X B ε a (.str x)) (hb : XD X B ε b (.str y)) : XT X B ε (.Compare a [.NotEq] [b] pos) (!decide (x = y)) := xcT op_ne (nomark _) ha hb rkNeS
theorem tEqI {a b : Expr} {x y : Int} (ha : XD X B ε a (.int x)) (hb : XD X B ε b (.int y)) : XT X B ε (.Compare a [.Eq] [b] pos) (decide (x = y)) := xcT op_eq (nomark _) ha hb rkEqI
theorem tNeI {a b : Expr} {x y : Int} (ha : XD X B ε a (.int x)) (hb : XD X B ε b (.int y)) : XT X B ε (.Compare a [.NotEq] [b] pos) (!decide (x = y)) := xcT op_ne (nomark _) ha hb rkNeI
theorem tLt {a b : Expr} {x y : Int} (ha : XD X B ε a (.int x)) (hb : XD X B ε b (.int y)) : XT X B ε (.Compare a [.Lt] [b] pos) (decide (x < y)) := xcT op_lt (nomark _) ha hb rkB0
theorem tGt {a b : Expr} {x y : Int} (ha : XD X B ε a (.int x)) (hb : XD X B ε b (.int y)) : XT X B ε (.Compare a [.Gt] [b] pos) (decide (y < x)) := xcT op_gt (nomark _) ha hb rkB0
theorem vEqI {a b : Expr} {x y : Int} (ha : XD X B ε a (.int x)) (hb : XD X B ε b (.int y)) : XD X B ε (.Compare a [.Eq] [b] pos) (.bool (decide (x = y))) := xcV op_eq (nomark _) ha hb rkEqI
theorem vEqS {a b : Expr} {x y : Str} (ha : XD X B ε a (.str x)) (hb : XD X B ε b (.str y)) : XD X B ε (.Compare a [.Eq] [b] pos) (.bool (decide (x = y))) := xcV op_eq (nomark _) ha hb rkEqS
theorem tIsN {a : Expr} {x : PyData} {j p} (ha : XD X B ε a x) : XT X B ε (.Compare a [.Is] [.Constant .none j p] pos) (isNon x) := xcT op_isN2 (nomark _) ha xNone rkIsN
theorem tNotN {a : Expr} {x : PyData} {j p} (ha : XD X B ε a x) : XT X B ε (.Compare a [.IsNot] [.Constant .none j p] pos) (!isNon x) := xcT op_notN2 (nomark _) ha xNone rkNotN
theorem tNeD {a b : Expr} {x y : PyData} (hu : X.A.units + 64 < cLine) (ha : XD X B ε a x) (hb : XD X B ε b y) (sa : SeqAt.shaped x = true) (sb : SeqAt.shaped y = true) : XT X B ε (.Compare a [.NotEq] [b] pos) (!PyData.eqv x y) := xcT (op_neD hu) (nomark _) ha hb (rkNeD sa sb)
theorem tEqD {a b : Expr} {x y : PyData} (hu : X.A.units + 64 < cLine) (ha : XD X B ε a x) (hb : XD X B ε b y) (sa : SeqAt.shaped x = true) (sb : SeqAt.shaped y = true) : XT X B ε (.Compare a [.Eq] [b] pos) (PyData.eqv x y) := xcT (op_eqD hu) (nomark _) ha hb (rkEqD sa sb)
theorem vEqD {a b : Expr} {x y : PyData} (hu : X.A.units + 64 < cLine) (ha : XD X B ε a x) (hb : XD X B ε b y) (sa : SeqAt.shaped x = true) (sb : SeqAt.shaped y = true) : XD X B ε (.Compare a [.Eq] [b] pos) (.bool (PyData.eqv x y)) := xcV (op_eqD hu) (nomark _) ha hb (rkEqD sa sb)
theorem tInD {a b : Expr} {x : PyData} {ds : List PyData} (hu : X.A.units + 65 < cLine) (ha : XD X B ε a x) (hb : XD X B ε b (.list ds)) (sa : SeqAt.shaped x = true) (sb : SeqAt.shaped (.list ds) = true) (hm : behindInMarks .In b = false := by rfl) :
    XT X B ε (.Compare a [.In] [b] pos) (ds.any fun z => PyData.eqv z x) := xcT (op_inD hu) hm ha hb (rkInD sa sb)
theorem tAnd {a b : Expr} {x y : Bool} (ha : XT X B ε a x) (hb : x = true → XT X B ε b y) : XT X B ε (.BoolOp .And [a, b] pos) (x && y) := ofT (PW.pt (pw_and ptC (pw_and1 ptC))) (evAnd ha hb)
theorem tOr {a b : Expr} {x y : Bool} (ha : XT X B ε a x) (hb : x = false → XT X B ε b y) : XT X B ε (.BoolOp .Or [a, b] pos) (x || y) := ofT (PW.pt (pw_or ptC (pw_or1 ptC))) (evOr ha hb)
theorem vOr {a b : Expr} {x y : Bool} (ha : XD X B ε a (.bool x)) (hb : x = false → XD X B ε b (.bool y)) : XD X B ε (.BoolOp .Or [a, b] pos) (.bool (x || y)) := ofP (pe_or peC (pe_one peC)) (evOrV ha hb)
theorem vNot {a : Expr} {x : Bool} (ha : XD X B ε a (.bool x)) : XD X B ε (.UnaryOp .Not a pos) (.bool (!x)) := ofP (pe_not peC) (evNotV ha)
/-- a call, a subscript, a name as a test -/
theorem tVal {a : Expr} {x : Bool} (ha : XD X B ε a (.bool x)) (he : ∀ whole, isTrue a X.env whole = (do let v ← whole; standAt a.pos; holding [v] (truthy v)) := by intro _; rfl) : XT X B ε a x := ofT (pt_val peC he) (evTB ha)
/-- a built-in by its name -/
theorem xB {id : String} {r : List V → Hp → VK → Prop} {x : Str} {p : Pos} {e : Expr} {es : List Expr} {ds : List PyData} {P : Hp → V → Prop} (hc : CallR X (.builtin id) r) (hg : Gl X x) (hm : X.mg x = none) (hv : bootBuiltins x = some (.builtin id)) (ha : XA X B ε (e :: es) ds) (hk : CalOk X.K r ds P)
    (hn : x ≠ "__name__" := by decide) (hdb : (x == ("__debug__" : Str)) = false := by decide) (he : starEach (e :: es) X.env = (false, eval e X.env) :: starEach es X.env := by rfl) (hpl : (backTo pos (starEach es X.env)).any (·.1) = false := by rfl) :
    XP X B ε (.Call (.Name x p) (e :: es) [] pos) P := ofP (pe_callB hc hg hm hv paC hn hdb he hpl) (evCB ha hk)
theorem xTy {T : String} {r : List V → Hp → VK → Prop} {x : Str} {p : Pos} {e : Expr} {es : List Expr} {ds : List PyData} {P : Hp → V → Prop} (hc : CallR X (.type T) r) (hg : Gl X x) (hm : X.mg x = none) (hv : bootBuiltins x = some (.type T)) (ha : XA X B ε (e :: es) ds) (hk : CalOk X.K r ds P)
    (hn : x ≠ "__name__" := by decide) (hdb : (x == ("__debug__" : Str)) = false := by decide) (he : starEach (e :: es) X.env = (false, eval e X.env) :: starEach es X.env := by rfl) (hpl : (backTo pos (starEach es X.env)).any (·.1) = false := by rfl) :
    XP X B ε (.Call (.Name x p) (e :: es) [] pos) P := ofP (pe_callTy hc hg hm hv paC hn hdb he hpl) (evCB ha hk)
theorem xTyO {T : String} {r : List V → Hp → VK → Prop} {x : Str} {p : Pos} {e : Expr} {es : List Expr} {ds ys : List PyData} (hc : CallR X (.type T) r) (hg : Gl X x) (hm : X.mg x = none) (hv : bootBuiltins x = some (.type T)) (ha : XA X B ε (e :: es) ds) (hk : CalO X.K r ds ys)
    (hn : x ≠ "__name__" := by decide) (hdb : (x == ("__debug__" : Str)) = false := by decide) (he : starEach (e :: es) X.env = (false, eval e X.env) :: starEach es X.env := by rfl) (hpl : (backTo pos (starEach es X.env)).any (·.1) = false := by rfl) :
    XO X B ε (.Call (.Name x p) (e :: es) [] pos) ys := ofO (pe_callTy hc hg hm hv paC hn hdb he hpl) (evCBO ha hk)
theorem xLen {p : Pos} {e : Expr} {d : PyData} {ds : List PyData} (hg : Gl X "len") (hm : X.mg "len" = none) (ha : XD X B ε e d) (hi : itemsOf d = some ds) (he : starEach [e] X.env = [(false, eval e X.env)] := by rfl) : XD X B ε (.Call (.Name "len" p) [e] [] pos) (.int ds.length) :=
  xB call_len2 hg hm PySem.boot_len (xCons ha xNil he) (ckLen hi) (by decide) (by decide) he rfl
theorem xListOf {p : Pos} {e : Expr} {d : PyData} {ds : List PyData} (hg : Gl X "list") (hm : X.mg "list" = none) (ha : XD X B ε e d) (hi : itemsOf d = some ds) (he : starEach [e] X.env = [(false, eval e X.env)] := by rfl) : XO X B ε (.Call (.Name "list" p) [e] [] pos) ds :=
  xTyO call_list2 hg hm (by decide +kernel) (xCons ha xNil he) (ckList hi) (by decide) (by decide) he rfl
theorem xTupleOf {p : Pos} {e : Expr} {ds : List PyData} (hg : Gl X "tuple") (hm : X.mg "tuple" = none) (ha : XD X B ε e (.list ds)) (he : starEach [e] X.env = [(false, eval e X.env)] := by rfl) : XD X B ε (.Call (.Name "tuple" p) [e] [] pos) (.tuple ds) :=
  xTy call_tuple2 hg hm (by decide +kernel) (xCons ha xNil he) ckTuple (by decide) (by decide) he rfl
theorem xMax {p : Pos} {a b : Expr} {i j : Int} (hc : X.calm = true) (hg : Gl X "max") (hm : X.mg "max" = none) (ha : XD X B ε a (.int i)) (hb : XD X B ε b (.int j)) (he : starEach [a, b] X.env = (false, eval a X.env) :: starEach [b] X.env := by rfl) (he2 : starEach [b] X.env = [(false, eval b X.env)] := by rfl) :
    XD X B ε (.Call (.Name "max" p) [a, b] [] pos) (.int (if j > i then j else i)) := xB (call_maxI hc) hg hm (by decide +kernel) (xCons ha (xCons hb xNil he2) he) ckMax (by decide) (by decide) he (by rw [he2]; rfl)
theorem xIntB {p : Pos} {a : Expr} {b : Bool} (hg : Gl X "int") (hm : X.mg "int" = none) (ha : XD X B ε a (.bool b)) (he : starEach [a] X.env = [(false, eval a X.env)] := by rfl) : XD X B ε (.Call (.Name "int" p) [a] [] pos) (.int (if b then 1 else 0)) :=
  xTy call_intB hg hm (by decide +kernel) (xCons ha xNil he) ckIntB (by decide) (by decide) he rfl
theorem xIntS {p : Pos} {a : Expr} {z : Str} {n : Int} (hg : Gl X "int") (hm : X.mg "int" = none) (ha : XD X B ε a (.str z)) (h1 : PySem.intText? z = some n) (h2 : z.length ≤ 640) (he : starEach [a] X.env = [(false, eval a X.env)] := by rfl) : XD X B ε (.Call (.Name "int" p) [a] [] pos) (.int n) :=
  xTy call_intS hg hm (by decide +kernel) (xCons ha xNil he) (ckIntS h1 h2) (by decide) (by decide) he rfl
theorem xStrI {p : Pos} {a : Expr} {n : Int} (hg : Gl X "str") (hm : X.mg "str" = none) (ha : XD X B ε a (.int n)) (h1 : n.natAbs.log2 < 1920) (he : starEach [a] X.env = [(false, eval a X.env)] := by rfl) : XD X B ε (.Call (.Name "str" p) [a] [] pos) (.str (toString n)) :=
  xTy call_strI hg hm (by decide +kernel) (xCons ha xNil he) (ckStr h1) (by decide) (by decide) he rfl
theorem xIsi {p p2 : Pos} {a : Expr} {n : Str} {d : PyData} {t T : String} {b : Bool} (hg : Gl X "isinstance") (hm : X.mg "isinstance" = none) (hgT : Gl X n) (hmT : X.mg n = none) (hT : bootBuiltins n = some (.type T)) (ha : XD X B ε a d) (ht : tyD d = some t) (hk : kitB t T = some b)
    (he : starEach [a, .Name n p2] X.env = (false, eval a X.env) :: starEach [.Name n p2] X.env := by rfl) (hn : n ≠ "__name__" := by decide) (hdb : (n == ("__debug__" : Str)) = false := by decide) : XD X B ε (.Call (.Name "isinstance" p) [a, .Name n p2] [] pos) (.bool b) :=
  ofP (pe_callB call_isi hg hm (by decide +kernel) (pa_cons peC (pa_cons (pe_bltn hgT hmT hT (show RelV (.ty T) (.type T) from rfl) hn hdb) pa_nil) he) (by decide) (by decide) he rfl) (ckIsi ha ht (fun _ _ _ q => q) hk)
/-- a def by its name -/
theorem xCall {CX : CXT} {k : Nat} {f : Addr} {fd : FuncData} {ps : List Str} {sp : Sp} {x : Str} {p : Pos} {e : Expr} {es : List Expr} {ds : List PyData} {P : Hp → V → Prop} (F : FnOk X.prog X.w X.K X.mg X.base CX0 k f fd ps sp) (hr : Room k X.A) (hg : Gl X x) (hm : X.mg x = some (.ref f)) (hk : PySem.W.keepIn X.K (.ref f) = true) (hb : Binds X.K fd ps [])
    (ha : XA X B ε (e :: es) ds) (hsp : SpOk X.K sp ds P) (hd : (x == ("__debug__" : Str)) = false := by decide) (he : starEach (e :: es) X.env = (false, eval e X.env) :: starEach es X.env := by rfl) (hpl : (backTo pos (starEach es X.env)).any (·.1) = false := by rfl) :
    XP X B ε (.Call (.Name x p) (e :: es) [] pos) P := ofP (pe_call F hr hg hm hk hb .nil (pass0 (X := X)) paC hd he hpl) (evCall ha hsp)
theorem xCallO {CX : CXT} {k : Nat} {f : Addr} {fd : FuncData} {ps : List Str} {F' : List PyData → List PyData → Prop} {x : Str} {p : Pos} {e : Expr} {es : List Expr} {ds ys : List PyData} (F : FnOk X.prog X.w X.K X.mg X.base CX0 k f fd ps (SpL X.K F')) (hr : Room k X.A) (hg : Gl X x) (hm : X.mg x = some (.ref f)) (hk : PySem.W.keepIn X.K (.ref f) = true) (hb : Binds X.K fd ps [])
    (ha : XA X B ε (e :: es) ds) (hsp : F' ds ys) (hd : (x == ("__debug__" : Str)) = false := by decide) (he : starEach (e :: es) X.env = (false, eval e X.env) :: starEach es X.env := by rfl) (hpl : (backTo pos (starEach es X.env)).any (·.1) = false := by rfl) :
    XO X B ε (.Call (.Name x p) (e :: es) [] pos) ys := ofO (pe_call F hr hg hm hk hb .nil (pass0 (X := X)) paC hd he hpl) (evCallO ha hsp)
/-- slices -/
theorem poNone : XPo X B ε none none := ofPo po_none fun Hf H σ S Q q => q Hf H (Fz.refl S.fz.s)
theorem poSome {e : Expr} {i : Int} (h : XD X B ε e (.int i)) : XPo X B ε (some e) (some i) := ofPo (po_some peC) fun Hf H σ S Q q => h Hf H σ S _ fun v Hf' H' e hd => by
  cases hd
  exact ⟨i, rfl, q Hf' H' e⟩
def cutD (ds : List PyData) (lo hi : Option Int) : List PyData := (ds.drop (HT.sIx ds.length 0 lo)).take (HT.sIx ds.length ds.length hi - HT.sIx ds.length 0 lo)
theorem cut_da {K : PySem.W.Frag} {Hf : Hp} {vs : List V} {ds : List PyData} (h : Das K Hf vs ds) (lo hi : Option Int) : Das K Hf (cutV vs lo hi) (cutD ds lo hi) := by
  unfold cutV cutD
  rw [h.length]
  exact (h.drop _).take _
theorem xSlL {e : Expr} {lo hi : Option Expr} {p2 : Pos} {ds : List PyData} {i j : Option Int} (h : XD X B ε e (.list ds)) (hl : XPo X B ε lo i) (hh : XPo X B ε hi j) : XO X B ε (.Subscript e (.Slice lo hi none p2) pos) (cutD ds i j) :=
  ofO (pe_slice sl_list peC poC poC) fun Hf H σ S Q q => h Hf H σ S _ fun v Hf1 H1 e1 h1 => hl Hf1 H1 σ (S.mono e1) _ fun Hf2 H2 e2 => hh Hf2 H2 σ (S.mono (e1.trans e2)) _ fun Hf3 H3 e3 => by
    have e4 := (e1.trans e2).trans e3
    cases h1 with
    | lst h1 k =>
      exact ⟨_, _, rfl, .inl (.inl ((e2.trans e3).s _ _ ((e2.trans e3).f _ _ h1))), fun p hp => q p _ Hf3 _ (e4.trans (Fz.own e4.s hp)) (e4.h.free hp) (e4.s.free hp) upd_same (cut_da (k.mono (e2.trans e3).f) i j)⟩
theorem xSlT {e : Expr} {lo hi : Option Expr} {p2 : Pos} {ds : List PyData} {i j : Option Int} (h : XD X B ε e (.tuple ds)) (hl : XPo X B ε lo i) (hh : XPo X B ε hi j) : XD X B ε (.Subscript e (.Slice lo hi none p2) pos) (.tuple (cutD ds i j)) :=
  ofP (pe_slice sl_tupA peC poC poC) fun Hf H σ S Q q => h Hf H σ S _ fun v Hf1 H1 e1 h1 => hl Hf1 H1 σ (S.mono e1) _ fun Hf2 H2 e2 => hh Hf2 H2 σ (S.mono (e1.trans e2)) _ fun Hf3 H3 e3 => by
    have e4 := (e1.trans e2).trans e3
    cases h1 with
    | @tup a us _ h1 k =>
      refine ⟨_, _, rfl, same_t (e2.trans e3).s (same_t (e2.trans e3).f h1), fun hw => ?_, fun hw p hp => ?_⟩
      · have e5 : cutD ds i j = ds := by
          have hlen := k.length
          unfold cutD
          rw [← hlen, hw.1, hw.2, List.drop_zero, hlen, Nat.sub_zero, List.take_length]
        rw [e5] at q
        exact q _ Hf3 H3 e4 (.tup (same_t (e2.trans e3).f h1) (k.mono (e2.trans e3).f))
      · have e6 := Fz.new (o := .tup (cutV us i j)) e3.s hp
        exact q _ _ _ (e4.trans e6) (.tup (.inl (.inl upd_same)) ((cut_da (k.mono (e2.trans e3).f) i j).mono e6.f))
theorem xSlS {e : Expr} {lo hi : Option Expr} {p2 : Pos} {z : Str} {i j : Option Int} (h : XD X B ε e (.str z)) (hl : XPo X B ε lo i) (hh : XPo X B ε hi j) (hz : z.length ≤ 1000) : XD X B ε (.Subscript e (.Slice lo hi none p2) pos) (.str (cutS z i j)) :=
  ofP (pe_slice sl_str peC poC poC) fun Hf H σ S Q q => h Hf H σ S _ fun v Hf1 H1 e1 h1 => hl Hf1 H1 σ (S.mono e1) _ fun Hf2 H2 e2 => hh Hf2 H2 σ (S.mono (e1.trans e2)) _ fun Hf3 H3 e3 => by
    cases h1
    exact ⟨z, rfl, Nat.le_trans hz (by decide), q _ Hf3 H3 ((e1.trans e2).trans e3) (.str _)⟩
end

/-! ### a list of one's own, read -/
section
variable {K : PySem.W.Frag} {B : Bs} {ε : List Sl}
theorem Sx.asOwn {Hf H Hf' H' : Hp} {σ : L2.St} (S : Sx K B Hf H σ ε) (h : Same H H') : Fz Hf H Hf H' := ⟨Same.refl _, h, S.fz.s.trans h, fun _ _ z => z⟩
def isFlat : PyData → Bool
  | .none => true
  | .bool _ => true
  | .int _ => true
  | .str _ => true
  | _ => false
theorem da_flat {H H' : Hp} {v : V} {d : PyData} (h : Da K H v d) (f : isFlat d = true) : Da K H' v d := by
  cases h with
  | non => exact .non
  | bl b => exact .bl b
  | int i => exact .int i
  | str x => exact .str x
  | lst _ _ => cases f
  | tup _ _ => cases f
theorem evOwnD {t : TE} {i : Nat} {xs : List PyData} {d : PyData} (hi : ε[i]? = some (.own xs)) (h : EvD K B (ε.set i (.d (.list xs))) t d) (f : isFlat d = true) : EvD K B ε t d := fun Hf H σ S Q q => by
  obtain ⟨l, Hf', e1, _, _, sf, S'⟩ := S.freeze hi
  exact h Hf' H σ S' Q fun v Hf2 H2 e hd => q v Hf H2 (S.asOwn (Hf' := Hf) e.h) (da_flat hd f)
theorem evOwnT {t : TT} {i : Nat} {xs : List PyData} {b : Bool} (hi : ε[i]? = some (.own xs)) (h : EvT K B (ε.set i (.d (.list xs))) t b) : EvT K B ε t b := fun Hf H σ S Q q => by
  obtain ⟨l, Hf', e1, _, _, sf, S'⟩ := S.freeze hi
  exact h Hf' H σ S' Q fun Hf2 H2 e => q Hf H2 (S.asOwn (Hf' := Hf) e.h)
theorem frz {N : L2.St → Hp → Prop} (i : Nat) {xs : List PyData} (hi : ε[i]? = some (.own xs)) (h : OkN K B (ε.set i (.d (.list xs))) N) : OkN K B ε N := fun Hf H σ S => by
  obtain ⟨l, Hf', e1, _, _, sf, S'⟩ := S.freeze hi
  exact h Hf' H σ S'
theorem OkN.imp {N N' : L2.St → Hp → Prop} (h : OkN K B ε N) (i : ∀ σ H, N σ H → N' σ H) : OkN K B ε N' := fun Hf H σ S => i σ H (h Hf H σ S)
theorem forget {N : L2.St → Hp → Prop} (i : Nat) (h : OkN K B (ε.set i .no) N) : OkN K B ε N := fun Hf H σ S => h Hf H σ S.weak
end

/-! ### statements -/
def RetD (K : PySem.W.Frag) (B : Bs) (D : Ends) (d : PyData) : Prop := ∀ v Hf' H', Fz B.fb B.hs Hf' H' → Da K Hf' v d → D.rt v H'
def RetO (K : PySem.W.Frag) (B : Bs) (D : Ends) (ds : List PyData) : Prop := ∀ p us Hf' H', Fz B.fb B.hs Hf' H' → B.hs p = none → Hf' p = none → H' p = some (.lst us) → Das K Hf' us ds → D.rt (.ref p) H'
theorem RetD.up {K : PySem.W.Frag} {B B' : Bs} {D : Ends} {d : PyData} (h : RetD K B D d) (e : B.Le B') : RetD K B' D d := fun v Hf' H' z => h v Hf' H' ⟨e.f.trans z.f, by rw [← e.h]; exact z.h, z.s, fun a h1 h2 => z.n a (by rw [e.h]; exact h1) (e.n a h1 h2)⟩
theorem RetO.up {K : PySem.W.Frag} {B B' : Bs} {D : Ends} {d : List PyData} (h : RetO K B D d) (e : B.Le B') : RetO K B' D d := fun p us Hf' H' z n1 n2 n3 n4 => h p us Hf' H' ⟨e.f.trans z.f, by rw [← e.h]; exact z.h, z.s, fun a h1 h2 => z.n a (by rw [e.h]; exact h1) (e.n a h1 h2)⟩ (by rw [← e.h]; exact n1) n2 n3 n4
section
variable {X : Cx} {B : Bs} {ε : List Sl} {D : Ends} {pos : Pos}
theorem iSet (i : Nat) {x : Str} {pos' : Pos} {e : Expr} {d : PyData} (he : XD X B ε e d) (k : OkN X.K B (ε.set i (.d d)) D.nx) (hN : X.N.Nodup) (hi : X.N[i]? = some x := by rfl) (hx : Loc X.env.scope x := by first | exact Or.inl rfl | exact Or.inr rfl)
    (hs : swapsWith e (some (.Name x pos')) pos.line X.env = pure false := by rfl) (hf : X.fn x = true ∨ X.env.scope.names.lookup x = some .local := by first | exact .inl rfl | exact .inr rfl) : X1 X B ε (.Assign [.Name x pos'] e pos) D :=
  of1 (ps_set hN hi hx peC hs hf) fun Hf H σ S => he Hf H σ S _ fun v Hf' H' e1 hd => k Hf' H' _ ((S.mono e1).setD hd)
theorem iSetO (i : Nat) {x : Str} {pos' : Pos} {e : Expr} {ds : List PyData} (he : XO X B ε e ds) (k : OkN X.K B (ε.set i (.own ds)) D.nx) (hN : X.N.Nodup) (hi : X.N[i]? = some x := by rfl) (hx : Loc X.env.scope x := by first | exact Or.inl rfl | exact Or.inr rfl)
    (hs : swapsWith e (some (.Name x pos')) pos.line X.env = pure false := by rfl) (hf : X.fn x = true ∨ X.env.scope.names.lookup x = some .local := by first | exact .inl rfl | exact .inr rfl) : X1 X B ε (.Assign [.Name x pos'] e pos) D :=
  of1 (ps_set hN hi hx peC hs hf) fun Hf H σ S => he Hf H σ S _ fun p vs Hf' H' e1 n1 n2 n3 n4 => k Hf' H' _ (S.taken e1 n1 n2 n3 n4)
theorem iRet {e : Expr} {d : PyData} (he : XD X B ε e d) (k : RetD X.K B D d) : X1 X B ε (.Return (some e) pos) D := of1 (ps_ret peC) fun Hf H σ S => he Hf H σ S _ fun v Hf' H' e1 hd => k v Hf' H' (S.fz.trans e1) hd
theorem iRetO {e : Expr} {ds : List PyData} (he : XO X B ε e ds) (k : RetO X.K B D ds) : X1 X B ε (.Return (some e) pos) D := of1 (ps_ret peC) fun Hf H σ S => he Hf H σ S _ fun p us Hf' H' e1 n1 n2 n3 n4 => k p us Hf' H' (S.fz.trans e1) (S.fz.h.free n1) n2 n3 n4
/-- return xs, a list of one's own -/
theorem iRetOwn (i : Nat) {x : Str} {p : Pos} {ds : List PyData} (h : ε[i]? = some (.own ds)) (k : RetO X.K B D ds) (hN : X.N[i]? = some x := by rfl) (hv : Vis X.env.scope x := by first | exact Or.inl rfl | exact Or.inr (Or.inl rfl) | exact Or.inr (Or.inr rfl)) (hd : (x == ("__debug__" : Str)) = false := by decide)
    (hcd : (x == ("__classdict__" : Str)) = false := by decide) : X1 X B ε (.Return (some (.Name x p)) pos) D := of1 (ps_ret (pe_var hN hv hd hcd)) fun Hf H σ S => by
  obtain ⟨l, vs, e1, h1, h2, h3, h4⟩ := S.own h
  exact ⟨.ref l, e1, k l vs Hf H S.fz h1 h2 h3 h4⟩
theorem iIf {c : Expr} {a b : List Stmt} {t : Bool} (hc : XT X B ε c t) (ha : t = true → XS X B ε a D) (hb : t = false → XS X B ε b D) : X1 X B ε (.If c a b pos) D := of1 (ps_if ptC pssC pssC) fun Hf H σ S => hc Hf H σ S _ fun Hf' H' e => by
  cases t with
  | true => exact iteT (ha rfl Hf' H' σ (S.mono e))
  | false => exact iteF (hb rfl Hf' H' σ (S.mono e))
theorem iCont (h : OkN X.K B ε D.ct) : X1 X B ε (.Continue pos) D := of1 ps_continue h
/-- xs.append(e), xs a list of one's own -/
theorem iApp (i : Nat) {x : Str} {p apos cpos : Pos} {e : Expr} {xs : List PyData} {d : PyData} (h : ε[i]? = some (.own xs)) (he : XD X B ε e d) (hz : xs.length < 100000) (k : OkN X.K B (ε.set i (.own (xs ++ [d]))) D.nx)
    (hN : X.N[i]? = some x := by rfl) (hv : Vis X.env.scope x := by first | exact Or.inl rfl | exact Or.inr (Or.inl rfl) | exact Or.inr (Or.inr rfl)) (hd : (x == ("__debug__" : Str)) = false := by decide) (hcd : (x == ("__classdict__" : Str)) = false := by decide)
    (hs : swapsWith (.Call (.Attribute (.Name x p) "append" apos) [e] [] cpos) none pos.line X.env = pure false := by rfl)
    (hbase : attributeBase (.Name x p) "append" X.env (eval (.Name x p) X.env) = eval (.Name x p) X.env := by rfl)
    (hfew : ((backTo cpos (starEach [e] X.env)).all (fun x => !x.1) && (backToKw cpos (keywordEach [] X.env)).all (fun x => x.1.isSome)
      && decide (([e] : List Expr).length + ([] : List Keyword).length + (if ([] : List Keyword).isEmpty then 0 else 1) < 30)) = true := by rfl)
    (hline : (apos.endLine == cpos.line) = true := by rfl) (hst : starEach [e] X.env = [(false, eval e X.env)] := by rfl) :
    X1 X B ε (.Expr (.Call (.Attribute (.Name x p) "append" apos) [e] [] cpos) pos) D :=
  of1 (ps_expr (pe_bm PySem.F.plainAttrs_list PySem.F.slot_list_append PySem.F.type_list_append mt_append (pe_var hN hv hd hcd) (pa_cons peC pa_nil hst) hbase hfew hline hst rfl) hs) fun Hf H σ S => by
    obtain ⟨l, vs, e1, h1, h2, h3, h4⟩ := S.own h
    refine ⟨.ref l, e1, .inl ⟨rfl, vs, .inl (.inl h3)⟩, ?_⟩
    refine he Hf H σ S _ fun v Hf' H' e2 hd => ?_
    refine ⟨l, vs, v, rfl, rfl, e2.h _ _ h3, by rw [h4.length]; exact Nat.lt_of_lt_of_le hz (by decide), ?_⟩
    exact k Hf' _ σ ((S.mono e2).put h e1 ((h4.mono e2.f).append (.one hd)))
/-- xs.insert(i, e) -/
theorem iIns (i : Nat) {x : Str} {p apos cpos : Pos} {e1 e2 : Expr} {xs : List PyData} {n : Nat} {d : PyData} (h : ε[i]? = some (.own xs)) (h1 : XD X B ε e1 (.int (n : Int))) (h2 : XD X B ε e2 d) (hz : xs.length < 100000) (hn : n ≤ 100000) (k : OkN X.K B (ε.set i (.own (xs.take n ++ [d] ++ xs.drop n))) D.nx)
    (hN : X.N[i]? = some x := by rfl) (hv : Vis X.env.scope x := by first | exact Or.inl rfl | exact Or.inr (Or.inl rfl) | exact Or.inr (Or.inr rfl)) (hd : (x == ("__debug__" : Str)) = false := by decide) (hcd : (x == ("__classdict__" : Str)) = false := by decide)
    (hs : swapsWith (.Call (.Attribute (.Name x p) "insert" apos) [e1, e2] [] cpos) none pos.line X.env = pure false := by rfl)
    (hbase : attributeBase (.Name x p) "insert" X.env (eval (.Name x p) X.env) = eval (.Name x p) X.env := by rfl)
    (hfew : ((backTo cpos (starEach [e1, e2] X.env)).all (fun x => !x.1) && (backToKw cpos (keywordEach [] X.env)).all (fun x => x.1.isSome)
      && decide (([e1, e2] : List Expr).length + ([] : List Keyword).length + (if ([] : List Keyword).isEmpty then 0 else 1) < 30)) = true := by rfl)
    (hline : (apos.endLine == cpos.line) = true := by rfl) (hst : starEach [e1, e2] X.env = (false, eval e1 X.env) :: starEach [e2] X.env := by rfl) (hst2 : starEach [e2] X.env = [(false, eval e2 X.env)] := by rfl) :
    X1 X B ε (.Expr (.Call (.Attribute (.Name x p) "insert" apos) [e1, e2] [] cpos) pos) D :=
  of1 (ps_expr (pe_bm PySem.F.plainAttrs_list PySem.F.slot_list_insert PySem.F.type_list_insert mt_insert (pe_var hN hv hd hcd) (pa_cons peC (pa_cons peC pa_nil hst2) hst) hbase hfew hline hst (by rw [hst2]; rfl)) hs) fun Hf H σ S => by
    obtain ⟨l, vs, e1, q1, q2, q3, q4⟩ := S.own h
    refine ⟨.ref l, e1, .inl ⟨rfl, vs, .inl (.inl q3)⟩, ?_⟩
    refine h1 Hf H σ S _ fun v Hf' H' f1 hd1 => ?_
    refine h2 Hf' H' σ (S.mono f1) _ fun v2 Hf2 H2 f2 hd2 => ?_
    cases hd1
    have f3 := f1.trans f2
    refine ⟨l, vs, (n : Int), v2, rfl, rfl, f3.h _ _ q3, by rw [q4.length]; exact Nat.lt_of_lt_of_le hz (by decide), by omega, by omega, ?_⟩
    rw [Int.toNat_natCast]
    exact k Hf2 _ σ ((S.mono f3).put h e1 ((((q4.mono f3.f).take n).append (.one hd2)).append ((q4.mono f3.f).drop n)))
/-- xs.pop() alone -/
theorem iPop (i : Nat) {x : Str} {p apos cpos : Pos} {xs : List PyData} {d : PyData} (h : ε[i]? = some (.own (xs ++ [d]))) (k : OkN X.K B (ε.set i (.own xs)) D.nx)
    (hN : X.N[i]? = some x := by rfl) (hv : Vis X.env.scope x := by first | exact Or.inl rfl | exact Or.inr (Or.inl rfl) | exact Or.inr (Or.inr rfl)) (hd : (x == ("__debug__" : Str)) = false := by decide) (hcd : (x == ("__classdict__" : Str)) = false := by decide)
    (hs : swapsWith (.Call (.Attribute (.Name x p) "pop" apos) [] [] cpos) none pos.line X.env = pure false := by rfl)
    (hbase : attributeBase (.Name x p) "pop" X.env (eval (.Name x p) X.env) = eval (.Name x p) X.env := by rfl) (hline : (apos.endLine == cpos.line) = true := by rfl) :
    X1 X B ε (.Expr (.Call (.Attribute (.Name x p) "pop" apos) [] [] cpos) pos) D :=
  of1 (ps_expr (pe_bm0 PySem.F.plainAttrs_list PySem.F.slot_list_pop PySem.F.type_list_pop mt_pop (pe_var hN hv hd hcd) hbase hline) hs) fun Hf H σ S => by
    obtain ⟨l, vs, e1, q1, q2, q3, q4⟩ := S.own h
    obtain ⟨v, hv1, hv2⟩ := q4.get (i := xs.length) (d := d) (by simp)
    have hl : vs.length - 1 = xs.length := by rw [q4.length, List.length_append]; rfl
    refine ⟨.ref l, e1, .inl ⟨rfl, vs, .inl (.inl q3)⟩, l, vs, v, rfl, rfl, q3, by rw [hl]; exact hv1, ?_⟩
    have q5 := q4.dropLast
    rw [List.dropLast_concat] at q5
    exact k Hf _ σ (S.put h e1 q5)
end

/-! ### targets -/
def setL {α : Type} (σ : List α) : List Nat → List α → List α
  | [], _ => σ
  | _ :: _, [] => σ
  | i :: is, x :: xs => setL (σ.set i x) is xs
/-- what a target stores, and where -/
def Tgt (K : PySem.W.Frag) (g : TG) (is : List Nat) (f : PyData → Option (List PyData)) : Prop :=
  ∀ (Hf H : Hp) (v : V) (d : PyData) (ds : List PyData), Same Hf H → Da K Hf v d → f d = some ds → ∃ us, Das K Hf us ds ∧ us.length = is.length ∧ ∀ (σ : L2.St) (Q : L2.St → Hp → Prop), Q (setL σ is (us.map some)) H → g v σ H Q
def tg1 : PyData → Option (List PyData) := fun d => some [d]
def tgT (n : Nat) : PyData → Option (List PyData)
  | .tuple ds => if ds.length = n then some ds else none
  | _ => none
def tgU (n : Nat) : PyData → Option (List PyData)
  | .list ds => if ds.length = n then some ds else none
  | _ => none
def gNames : List Nat → TGs
  | [] => gNil
  | i :: is => gCons (gName i) (gNames is)
theorem gNames_ok : ∀ (is : List Nat) (us : List V) (σ : L2.St) (H : Hp) (Q : L2.St → Hp → Prop), us.length = is.length → Q (setL σ is (us.map some)) H → gNames is us σ H Q
  | [], [], σ, H, Q, _, q => ⟨rfl, q⟩
  | [], _ :: _, _, _, _, h, _ => nomatch h
  | _ :: _, [], _, _, _, h, _ => nomatch h
  | i :: is, u :: us, σ, H, Q, h, q => ⟨u, us, rfl, gNames_ok is us (σ.set i (some u)) H Q (Nat.succ.inj h) q⟩
section
variable {K : PySem.W.Frag} {B : Bs} {ε : List Sl}
theorem tgtName {i : Nat} : Tgt K (gName i) [i] tg1 := fun Hf H v d ds s hd e => by
  cases e
  exact ⟨[v], .one hd, rfl, fun σ Q q => q⟩
theorem tgtTup {is : List Nat} {n : Nat} (hn : is.length = n) : Tgt K (gTup K n (gNames is)) is (tgT n) := fun Hf H v d ds s hd e => by
  cases hd with
  | @tup a us es h k =>
    have e' : (if es.length = n then some es else none) = some ds := e
    split at e'
    · rename_i hl
      cases e'
      exact ⟨us, k, by rw [k.length, hl, hn], fun σ Q q => ⟨a, us, rfl, same_t s h, by rw [k.length, hl], gNames_ok is us σ H Q (by rw [k.length, hl, hn]) q⟩⟩
    · cases e'
  | _ => cases e
theorem tgtUnl {is : List Nat} {n : Nat} (hn : is.length = n) : Tgt K (gUnl K n (gNames is)) is (tgU n) := fun Hf H v d ds s hd e => by
  cases hd with
  | @lst a us es h k =>
    have e' : (if es.length = n then some es else none) = some ds := e
    split at e'
    · rename_i hl
      cases e'
      exact ⟨us, k, by rw [k.length, hl, hn], fun σ Q q => ⟨a, us, rfl, .inl (.inl (s _ _ h)), by rw [k.length, hl], gNames_ok is us σ H Q (by rw [k.length, hl, hn]) q⟩⟩
    · cases e'
  | _ => cases e
theorem Sx.setLD {Hf H : Hp} : ∀ {is : List Nat} {us : List V} {ds : List PyData} {σ : L2.St} {ε : List Sl}, Sx K B Hf H σ ε → Das K Hf us ds → Sx K B Hf H (setL σ is (us.map some)) (setL ε is (ds.map Sl.d))
  | [], _, _, _, _, S, _ => by
    rw [setL, setL]
    exact S
  | _ :: _, [], [], _, _, S, .nil => S
  | i :: is, u :: us, d :: ds, σ, ε, S, .cons h k => (S.setD (i := i) h).setLD (is := is) k
end
section
variable {X : Cx} {B : Bs} {ε : List Sl} {D : Ends} {pos : Pos}
/-- a, b = e -/
theorem iAsg {tg e : Expr} {g : TG} {is : List Nat} {f : PyData → Option (List PyData)} {d : PyData} {ds : List PyData} (hg : PG X tg g) (T : Tgt X.K g is f) (he : XD X B ε e d) (hf : f d = some ds) (k : OkN X.K B (setL ε is (ds.map .d)) D.nx)
    (hs : swapsWithSole [tg] e pos.line X.env = pure false := by rfl) (hw : swappedStores [tg] e X.env = pure none := by rfl) (h1 : (assignEach [tg] X.env).map (·.2) = [assign tg X.env] := by rfl) : X1 X B ε (.Assign [tg] e pos) D :=
  of1 (ps_asg peC hg hs hw h1) fun Hf H σ S => he Hf H σ S _ fun v Hf' H' e1 hd => by
    obtain ⟨us, h2, _, h3⟩ := T Hf' H' v d ds e1.s hd hf
    exact h3 σ D.nx (k Hf' H' _ ((S.mono e1).setLD h2))
/-- a, b, c = xs.pop() -/
theorem iPopAsg (i : Nat) {tg : Expr} {x : Str} {p apos cpos : Pos} {g : TG} {is : List Nat} {f : PyData → Option (List PyData)} {xs : List PyData} {d : PyData} {ds : List PyData} (hg : PG X tg g) (T : Tgt X.K g is f) (h : ε[i]? = some (.own (xs ++ [d]))) (hf : f d = some ds) (k : OkN X.K B (setL (ε.set i (.own xs)) is (ds.map .d)) D.nx)
    (hs : swapsWithSole [tg] (.Call (.Attribute (.Name x p) "pop" apos) [] [] cpos) pos.line X.env = pure false := by rfl) (hw : swappedStores [tg] (.Call (.Attribute (.Name x p) "pop" apos) [] [] cpos) X.env = pure none := by rfl) (h1 : (assignEach [tg] X.env).map (·.2) = [assign tg X.env] := by rfl)
    (hN : X.N[i]? = some x := by rfl) (hv : Vis X.env.scope x := by first | exact Or.inl rfl | exact Or.inr (Or.inl rfl) | exact Or.inr (Or.inr rfl)) (hd : (x == ("__debug__" : Str)) = false := by decide) (hcd : (x == ("__classdict__" : Str)) = false := by decide)
    (hbase : attributeBase (.Name x p) "pop" X.env (eval (.Name x p) X.env) = eval (.Name x p) X.env := by rfl) (hline : (apos.endLine == cpos.line) = true := by rfl) :
    X1 X B ε (.Assign [tg] (.Call (.Attribute (.Name x p) "pop" apos) [] [] cpos) pos) D :=
  of1 (ps_asg (pe_bm0 PySem.F.plainAttrs_list PySem.F.slot_list_pop PySem.F.type_list_pop mt_pop (pe_var hN hv hd hcd) hbase hline) hg hs hw h1) fun Hf H σ S => by
    obtain ⟨l, vs, e1, q1, q2, q3, q4⟩ := S.own h
    obtain ⟨v, hv1, hv2⟩ := q4.get (i := xs.length) (d := d) (by simp)
    have hl : vs.length - 1 = xs.length := by rw [q4.length, List.length_append]; rfl
    refine ⟨.ref l, e1, .inl ⟨rfl, vs, .inl (.inl q3)⟩, l, vs, v, rfl, rfl, q3, by rw [hl]; exact hv1, ?_⟩
    have q5 := q4.dropLast
    rw [List.dropLast_concat] at q5
    have S' := S.put h e1 q5
    obtain ⟨us, h2, _, h3⟩ := T Hf _ v d ds S'.fz.s hv2 hf
    exact h3 σ D.nx (k Hf _ _ (S'.setLD h2))
end
end Cm

/-! Comprehensions, loops, defs over plain data. -/
namespace Cm
open PySem PySem.Spec PyProof.Rows L2

/-! ### wiped slots -/
def wipeE (ε : List Sl) : List Nat → List Sl
  | [] => ε
  | v :: vs => (wipeE ε vs).set v .no
section
variable {K : PySem.W.Frag} {B : Bs} {Hf H : Hp} {σ : L2.St} {ε : List Sl}
theorem Sx.wipe (S : Sx K B Hf H σ ε) : ∀ vs : List Nat, Sx K B Hf H (L2.wipe σ vs) (wipeE ε vs)
  | [] => S
  | v :: vs => (S.wipe vs).set (s := .no) trivial fun _ z => nomatch z
theorem wipe_get (σ : L2.St) (i : Nat) : ∀ vs : List Nat, (L2.wipe σ vs)[i]? = if i ∈ vs then σ[i]?.map (fun _ => none) else σ[i]?
  | [] => by simp [L2.wipe]
  | v :: vs => by
    unfold L2.wipe
    rw [List.getElem?_set]
    by_cases e : v = i
    · subst e
      rw [if_pos rfl, if_pos List.mem_cons_self, wipe_length]
      by_cases hl : v < σ.length
      · rw [if_pos hl, List.getElem?_eq_getElem hl] <;> rfl
      · rw [if_neg hl, List.getElem?_eq_none (by omega)] <;> rfl
    · rw [if_neg e, wipe_get σ i vs]
      have hm : (i ∈ v :: vs) ↔ i ∈ vs := by
        rw [List.mem_cons]
        exact ⟨fun z => z.resolve_left fun q => e q.symm, Or.inr⟩
      by_cases h : i ∈ vs
      · rw [if_pos h, if_pos (hm.mpr h)]
      · rw [if_neg h, if_neg fun q => h (hm.mp q)]
theorem wipe_set {i : Nat} {o : Option V} {vs : List Nat} (h : i ∈ vs) : L2.wipe (σ.set i o) vs = L2.wipe σ vs := by
  apply List.ext_getElem?
  intro j
  rw [wipe_get, wipe_get]
  by_cases e : i = j
  · subst e
    rw [if_pos h, if_pos h, List.getElem?_set, if_pos rfl]
    by_cases hl : i < σ.length
    · rw [if_pos hl, List.getElem?_eq_getElem hl] <;> rfl
    · rw [if_neg hl, List.getElem?_eq_none (by omega)] <;> rfl
  · rw [List.getElem?_set_ne e]
theorem wipe_wipe (vs : List Nat) : L2.wipe (L2.wipe σ vs) vs = L2.wipe σ vs := by
  apply List.ext_getElem?
  intro j
  rw [wipe_get, wipe_get]
  by_cases h : j ∈ vs
  · rw [if_pos h, if_pos h]
    cases σ[j]? <;> rfl
  · rw [if_neg h, if_neg h]
theorem wipe_setL : ∀ {is : List Nat} {os : List (Option V)} {σ : L2.St} {vs : List Nat}, (∀ i ∈ is, i ∈ vs) → L2.wipe (setL σ is os) vs = L2.wipe σ vs
  | [], _, _, _, _ => by rw [setL]
  | _ :: _, [], _, _, _ => by rw [setL]
  | i :: is, o :: os, σ, vs, h => by
    rw [setL, wipe_setL fun j hj => h j (List.mem_cons_of_mem _ hj)]
    exact wipe_set (h i List.mem_cons_self)
end

/-! ### comprehensions -/
/-- one turn's doing: target, test, element -/
def LcTurn (K : PySem.W.Frag) (B : Bs) (ε : List Sl) (is : List Nat) (f : PyData → Option (List PyData)) (tt : TT) (te : TE) (keep : PyData → Bool) (rf : PyData → PyData) (d : PyData) : Prop :=
  ∃ ts, f d = some ts ∧ EvT K B (setL ε is (ts.map .d)) tt (keep d) ∧ (keep d = true → EvD K B (setL ε is (ts.map .d)) te (rf d))
def lcRes (ds : List PyData) (keep : PyData → Bool) (rf : PyData → PyData) : List PyData := (ds.filter keep).map rf
theorem lcRes_len (ds : List PyData) (keep : PyData → Bool) (rf : PyData → PyData) : (lcRes ds keep rf).length ≤ ds.length := by
  unfold lcRes
  rw [List.length_map]
  exact List.length_filter_le _ _
theorem lcRes_next {ds : List PyData} {keep : PyData → Bool} {rf : PyData → PyData} {i : Nat} {d : PyData} (h : ds[i]? = some d) :
    lcRes (ds.take (i + 1)) keep rf = lcRes (ds.take i) keep rf ++ (if keep d = true then [rf d] else []) := by
  unfold lcRes
  rw [List.take_add_one, h, List.filter_append, List.map_append]
  by_cases k : keep d = true
  · rw [if_pos k]
    show _ ++ List.map rf (List.filter keep [d]) = _
    rw [List.filter_cons, if_pos k]
    rfl
  · rw [if_neg k]
    show _ ++ List.map rf (List.filter keep [d]) = _
    rw [List.filter_cons, if_neg k]
    rfl
section
variable {K : PySem.W.Frag} {B : Bs} {ε : List Sl}
/-- the core: the walk of the turns, whatever the source -/
theorem lc_turns {g : TG} {tt : TT} {te : TE} {is vs : List Nat} {f : PyData → Option (List PyData)} {keep : PyData → Bool} {rf : PyData → PyData} {ds : List PyData} {us : List V} {Hf1 H1 : Hp} {σ : L2.St} {D : Addr}
    (T : Tgt K g is f) (his : ∀ i ∈ is, i ∈ vs) (hl : ds.length ≤ 100000) (ht : ∀ d ∈ ds, LcTurn K B (wipeE ε vs) is f tt te keep rf d) (S : Sx K B Hf1 H1 σ ε) (hus : Das K Hf1 us ds) (hD : H1 D = none)
    {i : Nat} {x : V} {H : Hp} (hx : us[i]? = some x)
    (p : ∃ Hfi acc, Fz Hf1 H1 Hfi H ∧ Hfi D = none ∧ H D = some (.lst acc) ∧ Das K Hfi acc (lcRes (ds.take i) keep rf)) :
    g x (L2.wipe σ vs) H fun σ2 H2 => L2.wipe σ2 vs = L2.wipe σ vs ∧ tt σ2 H2 fun b H3 => if b = true then te σ2 H3 fun y H4 => ∃ acc, H4 D = some (.lst acc) ∧ acc.length < sizeLine ∧
      (∃ Hfi acc', Fz Hf1 H1 Hfi (upd H4 D (.lst (acc ++ [y]))) ∧ Hfi D = none ∧ (upd H4 D (.lst (acc ++ [y]))) D = some (.lst acc') ∧ Das K Hfi acc' (lcRes (ds.take (i + 1)) keep rf))
      else (∃ Hfi acc', Fz Hf1 H1 Hfi H3 ∧ Hfi D = none ∧ H3 D = some (.lst acc') ∧ Das K Hfi acc' (lcRes (ds.take (i + 1)) keep rf)) := by
  obtain ⟨Hfi, acc, e, hfD, hHD, ha⟩ := p
  obtain ⟨d, hd, hdx⟩ := hus.getV hx
  obtain ⟨ts, hts, het, hee⟩ := ht d (List.mem_iff_getElem?.mpr ⟨i, hd⟩)
  obtain ⟨ws, hw1, hw2, hw3⟩ := T Hfi H x d ts e.s (hdx.mono e.f) hts
  have S2 : Sx K B Hfi H (setL (L2.wipe σ vs) is (ws.map some)) (setL (wipeE ε vs) is (ts.map .d)) := ((S.mono e).wipe vs).setLD hw1
  have nD : ∀ {Hg Hg' : Hp}, Fz Hfi H Hg Hg' → Hg D = none ∧ Hg' D = some (.lst acc) := fun {Hg Hg'} z => ⟨z.n D (by rw [hHD]; exact fun q => nomatch q) hfD, z.h D _ hHD⟩
  refine hw3 _ _ ⟨by rw [wipe_setL his, wipe_wipe], ?_⟩
  refine het Hfi H _ S2 _ fun Hf3 H3 e3 => ?_
  by_cases k : keep d = true
  · rw [if_pos k]
    refine hee k Hf3 H3 _ (S2.mono e3) _ fun y Hf4 H4 e4 hy => ?_
    have e5 := e3.trans e4
    obtain ⟨q1, q2⟩ := nD e5
    refine ⟨acc, q2, ?_, Hf4, acc ++ [y], ?_, q1, upd_same, ?_⟩
    · have h1 := lcRes_len (ds.take i) keep rf
      rw [← ha.length, List.length_take] at h1
      exact Nat.lt_of_le_of_lt (Nat.le_trans h1 (Nat.le_trans (Nat.min_le_right _ _) hl)) (by decide)
    · have e6 := e.trans e5
      refine ⟨e6.f, fun a o z => ?_, fun a o z => ?_, fun a z1 z2 => e6.n a z1 z2⟩
      · rw [upd_ne (ne_of_none z hD)]; exact e6.h a o z
      · rw [upd_ne (ne_of_none z q1)]; exact e6.s a o z
    · rw [lcRes_next hd, if_pos k]
      exact (ha.mono e5.f).append (.one hy)
  · rw [if_neg k]
    obtain ⟨q1, q2⟩ := nD e3
    refine ⟨Hf3, acc, e.trans e3, q1, q2, ?_⟩
    rw [lcRes_next hd, if_neg k, List.append_nil]
    exact ha.mono e3.f
theorem evLcL {tl : TE} {g : TG} {tt : TT} {te : TE} {is vs : List Nat} {f : PyData → Option (List PyData)} {keep : PyData → Bool} {rf : PyData → PyData} {ds : List PyData}
    (hi : EvD K B ε tl (.list ds)) (T : Tgt K g is f) (his : ∀ i ∈ is, i ∈ vs) (hl : ds.length ≤ 100000) (ht : ∀ d ∈ ds, LcTurn K B (wipeE ε vs) is f tt te keep rf d) : EvO K B ε (tLc (iList K tl) g tt te vs) (lcRes ds keep rf) := fun Hf H σ S Q q =>
  hi Hf H σ S _ fun v Hf1 H1 e1 hd => by
    cases hd with
    | @lst a us _ h k =>
      refine ⟨a, rfl, ⟨us, .inl (.inl (e1.s _ _ h))⟩, fun D hD => ?_⟩
      have S1 := S.mono e1
      refine lc_list (K := K) (a := a) (xs := us) (fun i H' => ∃ Hfi acc, Fz Hf1 H1 Hfi H' ∧ Hfi D = none ∧ H' D = some (.lst acc) ∧ Das K Hfi acc (lcRes (ds.take i) keep rf))
        ⟨Hf1, [], Fz.own e1.s hD, e1.s.free hD, upd_same, by rw [List.take_zero]; exact .nil⟩ (fun i H' _ ⟨Hfi, acc, e, _⟩ => .inl (.inl (e.s _ _ (e.f _ _ h)))) (fun i x H' hx p => ?_) fun H' ⟨Hfi, acc, e, n1, n2, n3⟩ => ?_
      · exact lc_turns T his hl ht S1 k hD hx p
      · rw [k.length, List.take_length] at n3
        exact q D acc Hfi H' (e1.trans e) (e1.h.free hD) n1 n2 n3
theorem evLcT {tl : TE} {g : TG} {tt : TT} {te : TE} {is vs : List Nat} {f : PyData → Option (List PyData)} {keep : PyData → Bool} {rf : PyData → PyData} {ds : List PyData}
    (hi : EvD K B ε tl (.tuple ds)) (T : Tgt K g is f) (his : ∀ i ∈ is, i ∈ vs) (hl : ds.length ≤ 100000) (ht : ∀ d ∈ ds, LcTurn K B (wipeE ε vs) is f tt te keep rf d) : EvO K B ε (tLc (iTup K tl) g tt te vs) (lcRes ds keep rf) := fun Hf H σ S Q q =>
  hi Hf H σ S _ fun v Hf1 H1 e1 hd => by
    cases hd with
    | @tup a us _ h k =>
      refine ⟨a, rfl, ⟨us, same_t e1.s h⟩, fun D hD => ?_⟩
      have S1 := S.mono e1
      refine lc_tup (K := K) (a := a) (xs := us) (fun i H' => ∃ Hfi acc, Fz Hf1 H1 Hfi H' ∧ Hfi D = none ∧ H' D = some (.lst acc) ∧ Das K Hfi acc (lcRes (ds.take i) keep rf))
        ⟨Hf1, [], Fz.own e1.s hD, e1.s.free hD, upd_same, by rw [List.take_zero]; exact .nil⟩ (fun i H' _ ⟨Hfi, acc, e, _⟩ => same_t e.s (same_t e.f h)) (fun i x H' hx p => ?_) fun H' ⟨Hfi, acc, e, n1, n2, n3⟩ => ?_
      · exact lc_turns T his hl ht S1 k hD hx p
      · rw [k.length, List.take_length] at n3
        exact q D acc Hfi H' (e1.trans e) (e1.h.free hD) n1 n2 n3
end
section
variable {X : Cx} {B : Bs} {ε : List Sl} {D : Ends} {pos : Pos}
/-- [elt for target in xs], xs a list (T: .inl) or a tuple (.inr) -/
theorem xLcL {elt tg iter : Expr} {ifs : List Expr} {scope : Scope} (own : List (Str × Nat)) {g : TG} {tt : TT} {te : TE} {is : List Nat} {f : PyData → Option (List PyData)} {keep : PyData → Bool} {rf : PyData → PyData} {ds : List PyData}
    (hi : XD X B ε iter (.list ds)) (ok : BlkOk X.N X.env.scope scope own) (hg : ∀ (s : Shared) (H : Hp) (C : Addr) (cl : List (Str × Addr)) (fp : List Addr), PG (X.blk s H scope (compEnvC scope cl C X.env) fp) tg g) (ht : ∀ (s : Shared) (H : Hp) (C : Addr) (cl : List (Str × Addr)) (fp : List Addr), PTs (X.blk s H scope (compEnvC scope cl C X.env) fp) ifs tt)
    (he : ∀ (s : Shared) (H : Hp) (C : Addr) (cl : List (Str × Addr)) (fp : List Addr), PE (X.blk s H scope (compEnvC scope cl C X.env) fp) elt te) (T : Tgt X.K g is f) (his : ∀ i ∈ is, i ∈ own.map (·.2)) (hl : ds.length ≤ 100000) (hturn : ∀ d ∈ ds, LcTurn X.K B (wipeE ε (own.map (·.2))) is f tt te keep rf d)
    (hN : X.N.Nodup) (hc : X.calm = true := by rfl) (hs : ∀ x, foldedSetIterable iter X.env x = pure x := by intro _; rfl) : XO X B ε (.ListComp elt [⟨tg, iter, ifs, 0⟩] scope pos) (lcRes ds keep rf) :=
  ofO (pe_lc hc hN (pi_list peC) ok hg ht he hs) (evLcL hi T his hl hturn)
theorem xLcT {elt tg iter : Expr} {ifs : List Expr} {scope : Scope} (own : List (Str × Nat)) {g : TG} {tt : TT} {te : TE} {is : List Nat} {f : PyData → Option (List PyData)} {keep : PyData → Bool} {rf : PyData → PyData} {ds : List PyData}
    (hi : XD X B ε iter (.tuple ds)) (ok : BlkOk X.N X.env.scope scope own) (hg : ∀ (s : Shared) (H : Hp) (C : Addr) (cl : List (Str × Addr)) (fp : List Addr), PG (X.blk s H scope (compEnvC scope cl C X.env) fp) tg g) (ht : ∀ (s : Shared) (H : Hp) (C : Addr) (cl : List (Str × Addr)) (fp : List Addr), PTs (X.blk s H scope (compEnvC scope cl C X.env) fp) ifs tt)
    (he : ∀ (s : Shared) (H : Hp) (C : Addr) (cl : List (Str × Addr)) (fp : List Addr), PE (X.blk s H scope (compEnvC scope cl C X.env) fp) elt te) (T : Tgt X.K g is f) (his : ∀ i ∈ is, i ∈ own.map (·.2)) (hl : ds.length ≤ 100000) (hturn : ∀ d ∈ ds, LcTurn X.K B (wipeE ε (own.map (·.2))) is f tt te keep rf d)
    (hN : X.N.Nodup) (hc : X.calm = true := by rfl) (hs : ∀ x, foldedSetIterable iter X.env x = pure x := by intro _; rfl) : XO X B ε (.ListComp elt [⟨tg, iter, ifs, 0⟩] scope pos) (lcRes ds keep rf) :=
  ofO (pe_lc hc hN (pi_tup peC) ok hg ht he hs) (evLcT hi T his hl hturn)
/-- y = [..] -/
theorem iLcL (i : Nat) {y : Str} {py spos : Pos} {elt tg iter : Expr} {ifs : List Expr} {scope : Scope} (own : List (Str × Nat)) {g : TG} {tt : TT} {te : TE} {is : List Nat} {f : PyData → Option (List PyData)} {keep : PyData → Bool} {rf : PyData → PyData} {ds : List PyData}
    (hi : XD X B ε iter (.list ds)) (ok : BlkOk X.N X.env.scope scope own) (hg : ∀ (s : Shared) (H : Hp) (C : Addr) (cl : List (Str × Addr)) (fp : List Addr), PG (X.blk s H scope (compEnvC scope cl C X.env) fp) tg g) (ht : ∀ (s : Shared) (H : Hp) (C : Addr) (cl : List (Str × Addr)) (fp : List Addr), PTs (X.blk s H scope (compEnvC scope cl C X.env) fp) ifs tt)
    (he : ∀ (s : Shared) (H : Hp) (C : Addr) (cl : List (Str × Addr)) (fp : List Addr), PE (X.blk s H scope (compEnvC scope cl C X.env) fp) elt te) (T : Tgt X.K g is f) (his : ∀ i ∈ is, i ∈ own.map (·.2)) (hl : ds.length ≤ 100000) (hturn : ∀ d ∈ ds, LcTurn X.K B (wipeE ε (own.map (·.2))) is f tt te keep rf d)
    (k : OkN X.K B (ε.set i (.own (lcRes ds keep rf))) D.nx) (hN : X.N.Nodup) (hsw : swapsWith (.ListComp elt [⟨tg, iter, ifs, 0⟩] scope pos) (some (.Name y py)) spos.line X.env = pure true) (hy : X.N[i]? = some y := by rfl) (hyl : X.env.scope.names.lookup y = some .local := by rfl) (hc : X.calm = true := by rfl) (hs : ∀ x, foldedSetIterable iter X.env x = pure x := by intro _; rfl) :
    X1 X B ε (.Assign [.Name y py] (.ListComp elt [⟨tg, iter, ifs, 0⟩] scope pos) spos) D :=
  of1 (ps_setLc hc hN hy hyl hsw (pi_list peC) ok hg ht he hs) fun Hf H σ S => evLcL hi T his hl hturn Hf H σ S _ fun p vs Hf' H' e1 n1 n2 n3 n4 => k Hf' H' _ (S.taken e1 n1 n2 n3 n4)
theorem iLcT (i : Nat) {y : Str} {py spos : Pos} {elt tg iter : Expr} {ifs : List Expr} {scope : Scope} (own : List (Str × Nat)) {g : TG} {tt : TT} {te : TE} {is : List Nat} {f : PyData → Option (List PyData)} {keep : PyData → Bool} {rf : PyData → PyData} {ds : List PyData}
    (hi : XD X B ε iter (.tuple ds)) (ok : BlkOk X.N X.env.scope scope own) (hg : ∀ (s : Shared) (H : Hp) (C : Addr) (cl : List (Str × Addr)) (fp : List Addr), PG (X.blk s H scope (compEnvC scope cl C X.env) fp) tg g) (ht : ∀ (s : Shared) (H : Hp) (C : Addr) (cl : List (Str × Addr)) (fp : List Addr), PTs (X.blk s H scope (compEnvC scope cl C X.env) fp) ifs tt)
    (he : ∀ (s : Shared) (H : Hp) (C : Addr) (cl : List (Str × Addr)) (fp : List Addr), PE (X.blk s H scope (compEnvC scope cl C X.env) fp) elt te) (T : Tgt X.K g is f) (his : ∀ i ∈ is, i ∈ own.map (·.2)) (hl : ds.length ≤ 100000) (hturn : ∀ d ∈ ds, LcTurn X.K B (wipeE ε (own.map (·.2))) is f tt te keep rf d)
    (k : OkN X.K B (ε.set i (.own (lcRes ds keep rf))) D.nx) (hN : X.N.Nodup) (hsw : swapsWith (.ListComp elt [⟨tg, iter, ifs, 0⟩] scope pos) (some (.Name y py)) spos.line X.env = pure true) (hy : X.N[i]? = some y := by rfl) (hyl : X.env.scope.names.lookup y = some .local := by rfl) (hc : X.calm = true := by rfl) (hs : ∀ x, foldedSetIterable iter X.env x = pure x := by intro _; rfl) :
    X1 X B ε (.Assign [.Name y py] (.ListComp elt [⟨tg, iter, ifs, 0⟩] scope pos) spos) D :=
  of1 (ps_setLc hc hN hy hyl hsw (pi_tup peC) ok hg ht he hs) fun Hf H σ S => evLcT hi T his hl hturn Hf H σ S _ fun p vs Hf' H' e1 n1 n2 n3 n4 => k Hf' H' _ (S.taken e1 n1 n2 n3 n4)
end

/-! ### loops -/
section
variable {X : Cx} {B : Bs} {ε : List Sl} {D : Ends} {pos : Pos}
/-- the body of a loop's turn: from ε, to some state that J tells -/
def Body (X : Cx) (B : Bs) (ε : List Sl) (body : List Stmt) (D : Ends) (J : List Sl → Prop) : Prop :=
  ∀ N : L2.St → Hp → Prop, (∀ ε', J ε' → OkN X.K B ε' N) → XS X B ε body { nx := N, rt := D.rt, bk := D.nx, ct := N }
theorem iForL {tg iter : Expr} {body : List Stmt} {g : TG} {is : List Nat} {f : PyData → Option (List PyData)} {ds : List PyData} (I : Nat → List Sl → Prop) (hi : XD X B ε iter (.list ds)) (hg : PG X tg g) (T : Tgt X.K g is f) (h0 : I 0 ε)
    (hs : ∀ B', B.Le B' → ∀ i d ε', ds[i]? = some d → I i ε' → ∃ ts, f d = some ts ∧ Body X B' (setL ε' is (ts.map .d)) body D (I (i + 1))) (hd : ∀ ε', I ds.length ε' → OkN X.K B ε' D.nx)
    (hp : PassesOwn (model X.prog X.w) X.A X.env X.xe) (hc : X.calm = true := by rfl) (hfs : ∀ x, foldedSetIterable iter X.env x = pure x := by intro _; rfl) : X1 X B ε (.For tg iter body [] pos) D :=
  of1 (ps_for hp hc (pi_list peC) hg pssC hfs) fun Hf H σ S => hi Hf H σ S _ fun v Hf1 H1 e1 hdv => by
    cases hdv with
    | @lst a us _ h k =>
      have S1 := S.mono e1
      refine ⟨a, rfl, ⟨us, .inl (.inl (e1.s _ _ h))⟩, for_list (K := X.K) (a := a) (xs := us) (fun i σ' H' => ∃ Hf' ε', Sx X.K ⟨Hf1, B.hs⟩ Hf' H' σ' ε' ∧ I i ε') ⟨Hf1, ε, S1.up rfl, h0⟩
        (fun i σ' H' _ ⟨Hf', ε', S', _⟩ => .inl (.inl (S'.fz.s _ _ (S'.fz.f _ _ h)))) (fun i x σ' H' hx ⟨Hf', ε', S', hI⟩ => ?_) fun σ' H' ⟨Hf', ε', S', hI⟩ => ?_⟩
      · obtain ⟨d, hd1, hd2⟩ := k.getV hx
        obtain ⟨ts, ht1, ht2⟩ := hs ⟨Hf1, B.hs⟩ S1.le i d ε' hd1 hI
        obtain ⟨ws, w1, _, w3⟩ := T Hf' H' x d ts S'.fz.s (hd2.mono S'.fz.f) ht1
        exact w3 σ' _ (ht2 _ (fun ε2 h2 Hf2 H2 σ2 S2 => ⟨Hf2, ε2, S2, h2⟩) Hf' H' _ (S'.setLD w1))
      · rw [k.length] at hI
        exact hd ε' hI Hf' H' σ' (S'.down S1.le)
theorem iForT {tg iter : Expr} {body : List Stmt} {g : TG} {is : List Nat} {f : PyData → Option (List PyData)} {ds : List PyData} (I : Nat → List Sl → Prop) (hi : XD X B ε iter (.tuple ds)) (hg : PG X tg g) (T : Tgt X.K g is f) (h0 : I 0 ε)
    (hs : ∀ B', B.Le B' → ∀ i d ε', ds[i]? = some d → I i ε' → ∃ ts, f d = some ts ∧ Body X B' (setL ε' is (ts.map .d)) body D (I (i + 1))) (hd : ∀ ε', I ds.length ε' → OkN X.K B ε' D.nx)
    (hp : PassesOwn (model X.prog X.w) X.A X.env X.xe) (hc : X.calm = true := by rfl) (hfs : ∀ x, foldedSetIterable iter X.env x = pure x := by intro _; rfl) : X1 X B ε (.For tg iter body [] pos) D :=
  of1 (ps_for hp hc (pi_tup peC) hg pssC hfs) fun Hf H σ S => hi Hf H σ S _ fun v Hf1 H1 e1 hdv => by
    cases hdv with
    | @tup a us _ h k =>
      have S1 := S.mono e1
      refine ⟨a, rfl, ⟨us, same_t e1.s h⟩, for_tup (K := X.K) (a := a) (xs := us) (fun i σ' H' => ∃ Hf' ε', Sx X.K ⟨Hf1, B.hs⟩ Hf' H' σ' ε' ∧ I i ε') ⟨Hf1, ε, S1.up rfl, h0⟩
        (fun i σ' H' _ ⟨Hf', ε', S', _⟩ => same_t S'.fz.s (same_t S'.fz.f h)) (fun i x σ' H' hx ⟨Hf', ε', S', hI⟩ => ?_) fun σ' H' ⟨Hf', ε', S', hI⟩ => ?_⟩
      · obtain ⟨d, hd1, hd2⟩ := k.getV hx
        obtain ⟨ts, ht1, ht2⟩ := hs ⟨Hf1, B.hs⟩ S1.le i d ε' hd1 hI
        obtain ⟨ws, w1, _, w3⟩ := T Hf' H' x d ts S'.fz.s (hd2.mono S'.fz.f) ht1
        exact w3 σ' _ (ht2 _ (fun ε2 h2 Hf2 H2 σ2 S2 => ⟨Hf2, ε2, S2, h2⟩) Hf' H' _ (S'.setLD w1))
      · rw [k.length] at hI
        exact hd ε' hI Hf' H' σ' (S'.down S1.le)
/-- for k in range(n) -/
theorem iForR {tg a : Expr} {p rpos : Pos} {body : List Stmt} {g : TG} {is : List Nat} {f : PyData → Option (List PyData)} {n : Nat} (I : Nat → List Sl → Prop) (hgl : Gl X "range") (hm : X.mg "range" = none) (ha : XD X B ε a (.int (n : Int))) (hn : n ≤ 100000) (hg : PG X tg g) (T : Tgt X.K g is f) (h0 : I 0 ε)
    (hs : ∀ B', B.Le B' → ∀ i ε', i < n → I i ε' → ∃ ts, f (.int (i : Int)) = some ts ∧ Body X B' (setL ε' is (ts.map .d)) body D (I (i + 1))) (hd : ∀ ε', I n ε' → OkN X.K B ε' D.nx)
    (hp : PassesOwn (model X.prog X.w) X.A X.env X.xe) (hc : X.calm = true := by rfl) (hst : starEach [a] X.env = [(false, eval a X.env)] := by rfl) (hfs : ∀ x, foldedSetIterable (.Call (.Name "range" p) [a] [] rpos) X.env x = pure x := by intro _; rfl) : X1 X B ε (.For tg (.Call (.Name "range" p) [a] [] rpos) body [] pos) D :=
  of1 (ps_for hp hc (pi_range1 hgl hm (pa_cons peC pa_nil hst) hst) hg pssC hfs) fun Hf H σ S => ha Hf H σ S _ fun v Hf1 H1 e1 hdv => by
    cases hdv
    have S1 := S.mono e1
    refine ⟨(n : Int), rfl, by omega, by omega, for_range (lo := 0) (n := (n : Int).toNat) (fun i σ' H' => ∃ Hf' ε', Sx X.K ⟨Hf1, B.hs⟩ Hf' H' σ' ε' ∧ I i ε') ⟨Hf1, ε, S1.up rfl, h0⟩ (fun i σ' H' hi ⟨Hf', ε', S', hI⟩ => ?_) fun σ' H' ⟨Hf', ε', S', hI⟩ => ?_⟩
    · rw [Int.zero_add]
      obtain ⟨ts, ht1, ht2⟩ := hs ⟨Hf1, B.hs⟩ S1.le i ε' (by omega) hI
      obtain ⟨ws, w1, _, w3⟩ := T Hf' H' (.int (i : Int)) (.int (i : Int)) ts S'.fz.s (.int _) ht1
      exact w3 σ' _ (ht2 _ (fun ε2 h2 Hf2 H2 σ2 S2 => ⟨Hf2, ε2, S2, h2⟩) Hf' H' _ (S'.setLD w1))
    · rw [Int.toNat_natCast] at hI
      exact hd ε' hI Hf' H' σ' (S'.down S1.le)
/-- for at in range(1, len(path), 2) and its like -/
theorem iForR3 {tg a b c : Expr} {p rpos : Pos} {body : List Stmt} {g : TG} {is : List Nat} {f : PyData → Option (List PyData)} {lo hi st : Int} {n : Nat} (I : Nat → List Sl → Prop) (hgl : Gl X "range") (hm : X.mg "range" = none) (ha : XD X B ε a (.int lo)) (hb : XD X B ε b (.int hi)) (hcx : XD X B ε c (.int st)) (hn : RgC lo hi st n) (hg : PG X tg g) (T : Tgt X.K g is f) (h0 : I 0 ε)
    (hs : ∀ B', B.Le B' → ∀ i ε', i < n → I i ε' → ∃ ts, f (.int (lo + (i : Nat) * st)) = some ts ∧ Body X B' (setL ε' is (ts.map .d)) body D (I (i + 1))) (hd : ∀ ε', I n ε' → OkN X.K B ε' D.nx)
    (hp : PassesOwn (model X.prog X.w) X.A X.env X.xe) (hc : X.calm = true := by rfl) (hst : starEach [a, b, c] X.env = (false, eval a X.env) :: starEach [b, c] X.env := by rfl) (hst2 : starEach [b, c] X.env = (false, eval b X.env) :: starEach [c] X.env := by rfl) (hst3 : starEach [c] X.env = [(false, eval c X.env)] := by rfl)
    (hpl : (backTo rpos (starEach [b, c] X.env)).any (·.1) = false := by rfl) (hfs : ∀ x, foldedSetIterable (.Call (.Name "range" p) [a, b, c] [] rpos) X.env x = pure x := by intro _; rfl) : X1 X B ε (.For tg (.Call (.Name "range" p) [a, b, c] [] rpos) body [] pos) D :=
  of1 (ps_for hp hc (pi_range3 hgl hm (pa_cons peC (pa_cons peC (pa_cons peC pa_nil hst3) hst2) hst) hst hpl) hg pssC hfs) fun Hf H σ S => ha Hf H σ S _ fun v Hf1 H1 e1 hdv => hb Hf1 H1 σ (S.mono e1) _ fun v2 Hf2 H2 e2 hdv2 => hcx Hf2 H2 σ (S.mono (e1.trans e2)) _ fun v3 Hf3 H3 e3 hdv3 => by
    cases hdv; cases hdv2; cases hdv3
    have S1 := S.mono ((e1.trans e2).trans e3)
    refine ⟨lo, hi, st, n, rfl, hn, for_rangeC (lo := lo) (c := st) (n := n) (fun i σ' H' => ∃ Hf' ε', Sx X.K ⟨Hf3, B.hs⟩ Hf' H' σ' ε' ∧ I i ε') ⟨Hf3, ε, S1.up rfl, h0⟩ (fun i σ' H' hi' ⟨Hf', ε', S', hI⟩ => ?_) fun σ' H' ⟨Hf', ε', S', hI⟩ => ?_⟩
    · obtain ⟨ts, ht1, ht2⟩ := hs ⟨Hf3, B.hs⟩ S1.le i ε' hi' hI
      obtain ⟨ws, w1, _, w3⟩ := T Hf' H' (.int (lo + (i : Nat) * st)) (.int (lo + (i : Nat) * st)) ts S'.fz.s (.int _) ht1
      exact w3 σ' _ (ht2 _ (fun ε2 h2 Hf2 H2 σ2 S2 => ⟨Hf2, ε2, S2, h2⟩) Hf' H' _ (S'.setLD w1))
    · exact hd ε' hI Hf' H' σ' (S'.down S1.le)
/-- for i, x in enumerate(xs), xs a list -/
theorem iForEn {e : Expr} {es : List Expr} {kk : Nat} {p rpos tpos : Pos} {body : List Stmt} {g : TG} {is : List Nat} {ds : List PyData} (I : Nat → List Sl → Prop) (hgl : Gl X "enumerate") (hm : X.mg "enumerate" = none) (ha : XD X B ε e (.list ds)) (hg : PG X (.Tuple es kk tpos) g) (T : Tgt X.K g is (tgT 2)) (h0 : I 0 ε)
    (hs : ∀ B', B.Le B' → ∀ i d ε', ds[i]? = some d → I i ε' → Body X B' (setL ε' is [.d (.int (i : Int)), .d d]) body D (I (i + 1))) (hd : ∀ ε', I ds.length ε' → OkN X.K B ε' D.nx)
    (hp : PassesOwn (model X.prog X.w) X.A X.env X.xe) (hc : X.calm = true := by rfl) (hst : starEach [e] X.env = [(false, eval e X.env)] := by rfl) (hfs : ∀ x, foldedSetIterable (.Call (.Name "enumerate" p) [e] [] rpos) X.env x = pure x := by intro _; rfl) :
    X1 X B ε (.For (.Tuple es kk tpos) (.Call (.Name "enumerate" p) [e] [] rpos) body [] pos) D :=
  of1 (ps_for hp hc (pi_enum hgl hm (pa_cons peC pa_nil hst) hst) hg pssC hfs) fun Hf H σ S => ha Hf H σ S _ fun v Hf1 H1 e1 hdv => by
    cases hdv with
    | @lst a us _ h k =>
      have S1 := S.mono e1
      refine ⟨a, us, rfl, .inl (.inl (e1.s _ _ h)), ?_⟩
      refine ⟨fun i m σ' H' => m = ds.length - i ∧ i ≤ ds.length ∧ ∃ Hf' ε', Sx X.K ⟨Hf1, B.hs⟩ Hf' H' σ' ε' ∧ I i ε', ⟨ds.length, by simp, Nat.zero_le _, Hf1, ε, S1.up rfl, h0⟩, ?_⟩
      rintro i m σ' H' ⟨rfl, hi, Hf', ε', S', hI⟩
      have hq : SqL X.K H' a us := .inl (.inl (S'.fz.s _ _ (S'.fz.f _ _ h)))
      by_cases hlt : i < ds.length
      · have hlu : i < us.length := by rw [k.length]; exact hlt
        refine .inr ⟨⟨us, us[i], hq, by simp [hlu]⟩, fun σ2 H2 => ∃ Hf2 ε2, Sx X.K ⟨Hf1, B.hs⟩ Hf2 H2 σ2 ε2 ∧ I (i + 1) ε2, fun σ2 H2 p' => ⟨ds.length - (i + 1), by omega, rfl, hlt, p'⟩, fun x H2 y => ?_⟩
        obtain ⟨Tt, z, rfl, hT, rfl, hz⟩ := y
        have hz' := hz us hq
        obtain ⟨d, hd1, hd2⟩ := k.getV hz'
        have e2 := Fz.new (o := .tup [.int (i : Nat), z]) S'.fz.s hT
        have S2 := S'.mono e2
        obtain ⟨ws, w1, _, w3⟩ := T _ _ (.ref Tt) (.tuple [.int (i : Int), d]) [.int (i : Int), d] e2.s (.tup (.inl (.inl upd_same)) (.cons (.int _) (.one (hd2.mono (S'.fz.f.trans e2.f))))) rfl
        exact w3 σ' _ (hs ⟨Hf1, B.hs⟩ S1.le i d ε' hd1 hI _ (fun ε2 h2 Hf2 H2 σ2 S2 => ⟨Hf2, ε2, S2, h2⟩) _ _ _ (S2.setLD w1))
      · have e' : i = ds.length := by omega
        subst e'
        exact .inl ⟨⟨us, hq, by rw [k.length]; exact Nat.le_refl _⟩, hd ε' hI Hf' H' σ' (S'.down S1.le)⟩
/-- while -/
theorem iWhile {c : Expr} {body : List Stmt} (I : Nat → List Sl → Prop) (m0 : Nat) (h0 : I m0 ε)
    (hs : ∀ m ε', I m ε' → ∃ b, XT X B ε' c b ∧ (b = true → Body X B ε' body D (fun ε2 => ∃ m', m' < m ∧ I m' ε2)) ∧ (b = false → OkN X.K B ε' D.nx))
    (hp : PassesOwn (model X.prog X.w) X.A X.env X.xe) : X1 X B ε (.While c body [] pos) D :=
  of1 (ps_while hp ptC pssC) fun Hf H σ S => by
    refine ⟨fun m σ' H' => ∃ Hf' ε', Sx X.K B Hf' H' σ' ε' ∧ I m ε', ⟨m0, Hf, ε, S, h0⟩, fun m σ' H' ⟨Hf', ε', S', hI⟩ => ?_⟩
    obtain ⟨b, hb, h1, h2⟩ := hs m ε' hI
    refine hb Hf' H' σ' S' _ fun Hf2 H2 e2 => ?_
    cases b with
    | true =>
      rw [if_pos rfl]
      refine ⟨fun σ3 H3 => ∃ m', m' < m ∧ ∃ Hf3 ε3, Sx X.K B Hf3 H3 σ3 ε3 ∧ I m' ε3, fun σ3 H3 ⟨m', hm, q⟩ => ⟨m', hm, q⟩, ?_⟩
      exact h1 rfl _ (fun ε3 ⟨m', hm, hI3⟩ Hf3 H3 σ3 S3 => ⟨m', hm, Hf3, ε3, S3, hI3⟩) Hf2 H2 σ' (S'.mono e2)
    | false =>
      rw [if_neg Bool.false_ne_true]
      exact h2 rfl Hf2 H2 σ' (S'.mono e2)
end

/-! ### defs -/
def startE (N : List Str) (ss : List Sl) : List Sl := ss ++ List.replicate (N.length - ss.length) .no
section
variable {K : PySem.W.Frag}
theorem start_get {N : List Str} {vs : List V} {i : Nat} {v : V} (h : vs[i]? = some v) : (L2.start N vs)[i]? = some (some v) := by
  have hi := (List.getElem?_eq_some_iff.mp h).1
  unfold L2.start
  rw [List.getElem?_append_left (by rw [List.length_map]; exact hi), List.getElem?_map, h]
  rfl
theorem das_map {Hf : Hp} : ∀ {vs : List V} {ds : List PyData}, Das K Hf vs ds → ∀ {i : Nat} {s : Sl}, (ds.map Sl.d)[i]? = some s → ∃ v d, vs[i]? = some v ∧ s = .d d ∧ Da K Hf v d := fun {vs ds} h {i s} e => by
  rw [List.getElem?_map] at e
  cases q : ds[i]? with
  | none => rw [q] at e; cases e
  | some d =>
    rw [q] at e
    have e' : Sl.d d = s := Option.some.inj e
    obtain ⟨v, hv, hd⟩ := h.get q
    exact ⟨v, d, hv, e'.symm, hd⟩
/-- at the entry -/
theorem sx_start {N : List Str} {Hf H : Hp} {vs : List V} {ss : List Sl} (s : Same Hf H) (hl : vs.length = ss.length) (hN : ss.length ≤ N.length)
    (h : ∀ (i : Nat) (x : Sl), ss[i]? = some x → ∃ v, vs[i]? = some v ∧ ((∃ d, x = .d d ∧ Da K Hf v d) ∨ x = .raw v)) : Sx K ⟨Hf, H⟩ Hf H (L2.start N vs) (startE N ss) := by
  refine ⟨⟨Same.refl _, Same.refl _, s, fun _ _ z => z⟩, ?_, fun i x o h1 h2 => ?_, fun i j xs ys l _ h1 _ _ _ => ?_⟩
  · unfold L2.start startE
    rw [List.length_append, List.length_append, List.length_map, List.length_replicate, List.length_replicate, hl]
  · unfold startE at h1
    by_cases hi : i < ss.length
    · rw [List.getElem?_append_left hi] at h1
      obtain ⟨v, hv, k⟩ := h i x h1
      rw [start_get hv] at h2
      cases h2
      rcases k with ⟨d, rfl, hd⟩ | rfl
      · exact ⟨v, rfl, hd⟩
      · rfl
    · rw [List.getElem?_append_right (by omega), List.getElem?_replicate] at h1
      split at h1
      · cases h1; exact trivial
      · cases h1
  · unfold startE at h1
    by_cases hi : i < ss.length
    · rw [List.getElem?_append_left hi] at h1
      obtain ⟨v, _, k⟩ := h i _ h1
      rcases k with ⟨d, e, _⟩ | e <;> cases e
    · rw [List.getElem?_append_right (by omega), List.getElem?_replicate] at h1
      split at h1 <;> cases h1
end
section
variable {P : Program} {w : World} {K : PySem.W.Frag} {mg : Str → Option Value} {base : Heap}
/-- the context of a def's body -/
abbrev BX (P : Program) (w : World) (K : PySem.W.Frag) (mg : Str → Option Value) (base : Heap) (N : List Str) (qual : Str) (st : Stmt) (f : Addr) (cdv : Value) (A : Around) (outer : List Env) (s : Shared) (H : Hp) (E : XK) : Cx :=
  (cxOf CX0 P w K mg base N qual (defScope st) f cdv A outer s H E).nox
theorem fnD {x qual : Str} {st : Stmt} {f : Addr} {fd : FuncData} {N ps : List Str} {k : Nat} {F : List PyData → PyData → Prop} (Fn : Fun K x qual st f fd) (S : FnScope N ps (defScope st)) (hN : ps.length ≤ N.length) (len : ∀ ds r, F ds r → ds.length = ps.length)
    (body : ∀ (cdv : Value) (A : Around) (outer : List Env) (s : Shared) (H : Hp) (E : XK), Room k (A.deeper (envOfC qual (defScope st) s.heap.objs.size f cdv)) → ∀ (B : Bs) (D : Ends) (ds : List PyData) (r : PyData), F ds r → RetD K B D r →
      XS (BX P w K mg base N qual st f cdv A outer s H E) B (startE N (ds.map .d)) (defBody st) D) : FnOk P w K mg base CX0 (k + 1) f fd ps (SpD K F) := by
  refine Fn.ok S (fun vs H Q E h => ?_) (fun cdv A outer s H vs Q E hr h => ?_)
  · obtain ⟨Hf, ds, r, _, hd, hF, _⟩ := h
    rw [hd.length, len ds r hF]
  · obtain ⟨Hf, ds, r, hs, hd, hF, q⟩ := h
    have hb := body cdv A outer s H E hr ⟨Hf, H⟩ { nx := fun _ H' => Q .non H', rt := Q } ds r hF (fun v Hf' H' e hv => q v Hf' H' e hv)
    obtain ⟨t, h1, h2⟩ := hb Hf H (L2.start N vs) (sx_start hs (by rw [List.length_map]; exact hd.length) (by rw [List.length_map, len ds r hF]; exact hN) fun i y hy => by
      obtain ⟨v, d, h1, h2, h3⟩ := das_map hd hy
      exact ⟨v, h1, .inl ⟨d, h2, h3⟩⟩)
    exact ⟨t, h1, h2⟩
theorem fnL {x qual : Str} {st : Stmt} {f : Addr} {fd : FuncData} {N ps : List Str} {k : Nat} {F : List PyData → List PyData → Prop} (Fn : Fun K x qual st f fd) (S : FnScope N ps (defScope st)) (hN : ps.length ≤ N.length) (len : ∀ ds r, F ds r → ds.length = ps.length)
    (body : ∀ (cdv : Value) (A : Around) (outer : List Env) (s : Shared) (H : Hp) (E : XK), Room k (A.deeper (envOfC qual (defScope st) s.heap.objs.size f cdv)) → ∀ (B : Bs) (D : Ends) (ds : List PyData) (r : List PyData), F ds r → RetO K B D r →
      XS (BX P w K mg base N qual st f cdv A outer s H E) B (startE N (ds.map .d)) (defBody st) D) : FnOk P w K mg base CX0 (k + 1) f fd ps (SpL K F) := by
  refine Fn.ok S (fun vs H Q E h => ?_) (fun cdv A outer s H vs Q E hr h => ?_)
  · obtain ⟨Hf, ds, r, _, hd, hF, _⟩ := h
    rw [hd.length, len ds r hF]
  · obtain ⟨Hf, ds, r, hs, hd, hF, q⟩ := h
    have hb := body cdv A outer s H E hr ⟨Hf, H⟩ { nx := fun _ H' => Q .non H', rt := Q } ds r hF (fun p us Hf' H' e n1 n2 n3 n4 => q p us Hf' H' e n1 n2 n3 n4)
    obtain ⟨t, h1, h2⟩ := hb Hf H (L2.start N vs) (sx_start hs (by rw [List.length_map]; exact hd.length) (by rw [List.length_map, len ds r hF]; exact hN) fun i y hy => by
      obtain ⟨v, d, h1, h2, h3⟩ := das_map hd hy
      exact ⟨v, h1, .inl ⟨d, h2, h3⟩⟩)
    exact ⟨t, h1, h2⟩
end
end Cm

/-! The text by places, the scopes of its defs. -/
namespace Cm
open PySem PySem.Spec PyProof.Rows L2
def topS (i : Nat) : Stmt := PySem.Challenge.pw_callmill_k22_whole_waits_by_turns.main.body.getD i (.Pass ⟨0, 0, 0, 0⟩)
abbrev sRun : Stmt := topS 2
abbrev sHandText : Stmt := topS 4
abbrev sWorth : Stmt := topS 6
abbrev sHolds : Stmt := topS 7
abbrev sFrozen : Stmt := topS 9
abbrev sPartOf : Stmt := topS 10
abbrev sBranchFor : Stmt := topS 11
abbrev sBranchNone : Stmt := topS 12
abbrev sCutTo : Stmt := topS 13
abbrev sTeller : Stmt := topS 14
abbrev sInit : Stmt := inClass sTeller 0
abbrev sBodyAt : Stmt := inClass sTeller 1
abbrev sBehind : Stmt := inClass sTeller 2
abbrev sPutIn : Stmt := inClass sTeller 3
abbrev sGo : Stmt := inClass sTeller 4
abbrev sBegin : Stmt := inClass sTeller 5
abbrev sStep : Stmt := inClass sTeller 6
abbrev sCell : Stmt := topS 16
abbrev sStir : Stmt := topS 17
abbrev sDrawn : Stmt := topS 18
abbrev sScript : Stmt := topS 19
abbrev sEvent : Stmt := topS 20
abbrev sRow : Stmt := topS 21
abbrev sTurn : Stmt := topS 22
abbrev sLaw : Stmt := topS 23
def Nm (l : List String) : List Str := l.map Str.ofString
theorem scRun : FnScope ["machine", "events", "said", "standing", "found", "event"] ["machine", "events"] (defScope sRun) := ⟨rfl, rfl, rfl, by decide +kernel, rfl, by decide +kernel, by decide +kernel⟩
theorem scHandText : FnScope ["line", "word"] ["line", "word"] (defScope sHandText) := ⟨rfl, rfl, rfl, by decide +kernel, rfl, by decide +kernel, by decide +kernel⟩
theorem scRow : FnScope ["rows", "pattern", "row"] ["rows", "pattern"] (defScope sRow) := ⟨rfl, rfl, rfl, by decide +kernel, rfl, by decide +kernel, by decide +kernel⟩
section
variable {P : Program} {w : World} {K : PySem.W.Frag} {mg : Str → Option Value} {base : Heap}
def handS (l : Int) (w : Str) : Str := (toString l : Str) ++ (":" : Str) ++ w
def FHand (ds : List PyData) (r : PyData) : Prop := ∃ (l : Int) (w : Str), ds = [.int l, .str w] ∧ r = .str (handS l w) ∧ 0 ≤ l ∧ l ≤ 9 ∧ w.length ≤ 100
theorem ok_hand {f : Addr} {fd : FuncData} {k : Nat} (F : Fun K "hand_text" "hand_text" sHandText f fd) (ms : mg "str" = none) : FnOk P w K mg base CX0 (k + 1) f fd ["line", "word"] (SpD K FHand) := by
  refine fnD F scHandText (by decide) (fun ds r h => ?_) fun cdv A outer s H E hr B D ds r h hR => ?_
  · obtain ⟨l, w, rfl, _⟩ := h
    rfl
  · obtain ⟨l, w, rfl, rfl, h0, h9, hw⟩ := h
    have hl : (toString l : Str).length ≤ 10 := by
      have : l = 0 ∨ l = 1 ∨ l = 2 ∨ l = 3 ∨ l = 4 ∨ l = 5 ∨ l = 6 ∨ l = 7 ∨ l = 8 ∨ l = 9 := by omega
      rcases this with h | h | h | h | h | h | h | h | h | h <;> subst h <;> decide +kernel
    refine sCons (iRet (xAddS (xAddS (xStrI rfl ms (xv 0 rfl) ?_) xStr ?_) (xv 1 rfl) ?_) hR)
    · have : l = 0 ∨ l = 1 ∨ l = 2 ∨ l = 3 ∨ l = 4 ∨ l = 5 ∨ l = 6 ∨ l = 7 ∨ l = 8 ∨ l = 9 := by omega
      rcases this with h | h | h | h | h | h | h | h | h | h <;> subst h <;> decide +kernel
    · have h1 : (":" : Str).length = 1 := by decide +kernel
      omega
    · have h1 : (":" : Str).length = 1 := by decide +kernel
      rw [PySem.Str.length_append]
      omega
end
end Cm

/-! The program's things as typed values, and their data. -/
namespace Cm
open PySem PySem.Spec PyProof.Rows L2
inductive Wd | yes | no | other | none | quiet | maybe
  deriving DecidableEq
def Wd.s : Wd → Str
  | .yes => "yes"
  | .no => "no"
  | .other => "other"
  | .none => "none"
  | .quiet => "quiet"
  | .maybe => "maybe"
inductive Pat | quiet | key (n : Int) | word (w : Wd) | other | none
  deriving DecidableEq
def Pat.d : Pat → PyData
  | .quiet => .tuple [.str "quiet"]
  | .key n => .tuple [.str "key", .int n]
  | .word w => .tuple [.str "word", .str w.s]
  | .other => .tuple [.str "other"]
  | .none => .tuple [.str "none"]
theorem wd_eqv (a b : Wd) : PyData.eqv (.str a.s) (.str b.s) = decide (a = b) := by
  cases a <;> cases b <;> decide +kernel
theorem eqv_tuple (xs ys : List PyData) : PyData.eqv (.tuple xs) (.tuple ys) = PyData.eqvAll xs ys := by simp only [PyData.eqv]
theorem eqv_list (xs ys : List PyData) : PyData.eqv (.list xs) (.list ys) = PyData.eqvAll xs ys := by simp only [PyData.eqv]
theorem eqvAll_cons (x y : PyData) (xs ys : List PyData) : PyData.eqvAll (x :: xs) (y :: ys) = (PyData.eqv x y && PyData.eqvAll xs ys) := by simp only [PyData.eqvAll]
theorem eqvAll_nil : PyData.eqvAll [] [] = true := by simp only [PyData.eqvAll]
theorem eqvAll_nc (x : PyData) (xs : List PyData) : PyData.eqvAll [] (x :: xs) = false := by simp only [PyData.eqvAll]
theorem eqvAll_cn (x : PyData) (xs : List PyData) : PyData.eqvAll (x :: xs) [] = false := by simp only [PyData.eqvAll]
theorem pat_eqv (p q : Pat) : PyData.eqv p.d q.d = decide (p = q) := by
  cases p with
  | key n =>
    cases q with
    | key m =>
      simp only [Pat.d, eqv_tuple, eqvAll_cons, eqvAll_nil, Bool.and_true]
      have h1 : PyData.eqv (.str "key") (.str "key") = true := by decide +kernel
      have h2 : PyData.eqv (.int n) (.int m) = (n == m) := by simp only [PyData.eqv]
      rw [h1, h2, Bool.true_and]
      by_cases e : n = m
      · subst e; simp
      · rw [beq_eq_false_iff_ne.mpr e, decide_eq_false fun z => e (Pat.key.inj z)]
    | word v =>
      simp only [Pat.d, eqv_tuple, eqvAll_cons, eqvAll_nil, Bool.and_true]
      have h1 : PyData.eqv (.str "key") (.str "word") = false := by decide +kernel
      rw [h1]; rfl
    | quiet =>
      simp only [Pat.d, eqv_tuple, eqvAll_cons, eqvAll_cn, Bool.and_false]
      rfl
    | other =>
      simp only [Pat.d, eqv_tuple, eqvAll_cons, eqvAll_cn, Bool.and_false]
      rfl
    | none =>
      simp only [Pat.d, eqv_tuple, eqvAll_cons, eqvAll_cn, Bool.and_false]
      rfl
  | word w =>
    cases q with
    | key m =>
      simp only [Pat.d, eqv_tuple, eqvAll_cons, eqvAll_nil, Bool.and_true]
      have h1 : PyData.eqv (.str "word") (.str "key") = false := by decide +kernel
      rw [h1]; rfl
    | word v =>
      simp only [Pat.d, eqv_tuple, eqvAll_cons, eqvAll_nil, Bool.and_true]
      have h1 : PyData.eqv (.str "word") (.str "word") = true := by decide +kernel
      rw [h1, wd_eqv, Bool.true_and]
      by_cases e : w = v
      · subst e; simp
      · rw [decide_eq_false e, decide_eq_false fun z => e (Pat.word.inj z)]
    | _ => cases w <;> decide +kernel
  | _ =>
    cases q with
    | key m =>
      simp only [Pat.d, eqv_tuple, eqvAll_cons, eqvAll_nc, Bool.and_false]
      rfl
    | word v => cases v <;> decide +kernel
    | _ => decide +kernel
/-! ### shapes -/
theorem shaped_of {d : PyData} (h1 : d.canLay0 = true) (h2 : d.depth ≤ 64) : SeqAt.shaped d = true := by
  show (d.canLay0 && decide (d.depth ≤ 64)) = true
  rw [h1, decide_eq_true h2]
  rfl
theorem lay_all {ds : List PyData} (h : ∀ d ∈ ds, d.canLay0 = true) : PyData.canLayAll0 ds = true := by
  induction ds with
  | nil => simp [PyData.canLayAll0]
  | cons d r ih =>
    simp only [PyData.canLayAll0, Bool.and_eq_true]
    exact ⟨h d List.mem_cons_self, ih fun x hx => h x (List.mem_cons_of_mem _ hx)⟩
theorem depth_all {ds : List PyData} {n : Nat} (h : ∀ d ∈ ds, d.depth ≤ n) : PyData.depthAll ds ≤ n := by
  induction ds with
  | nil => simp [PyData.depthAll]
  | cons d r ih =>
    simp only [PyData.depthAll]
    have h1 := h d List.mem_cons_self
    have h2 := ih fun x hx => h x (List.mem_cons_of_mem _ hx)
    omega
/-- a thing's form: laid out, of a depth -/
def Shp (n : Nat) (d : PyData) : Prop := d.canLay0 = true ∧ d.depth ≤ n
theorem Shp.mono {n m : Nat} {d : PyData} (h : Shp n d) (e : n ≤ m) : Shp m d := ⟨h.1, Nat.le_trans h.2 e⟩
theorem Shp.lst {n : Nat} {ds : List PyData} (h : ∀ d ∈ ds, Shp n d) : Shp (n + 1) (.list ds) := by
  refine ⟨by simp only [PyData.canLay0]; exact lay_all fun d hd => (h d hd).1, ?_⟩
  simp only [PyData.depth]
  have := depth_all (ds := ds) (n := n) fun d hd => (h d hd).2
  omega
theorem Shp.tup {n : Nat} {ds : List PyData} (h : ∀ d ∈ ds, Shp n d) : Shp (n + 1) (.tuple ds) := by
  refine ⟨by simp only [PyData.canLay0]; exact lay_all fun d hd => (h d hd).1, ?_⟩
  simp only [PyData.depth]
  have := depth_all (ds := ds) (n := n) fun d hd => (h d hd).2
  omega
theorem Shp.int (i : Int) : Shp 0 (.int i) := ⟨by simp only [PyData.canLay0], by simp [PyData.depth]⟩
theorem Shp.ok {n : Nat} {d : PyData} (h : Shp n d) (hn : n ≤ 64) : SeqAt.shaped d = true := shaped_of h.1 (Nat.le_trans h.2 hn)
theorem Shp.nil {n : Nat} : Shp (n + 1) (.list []) := Shp.lst fun _ h => nomatch h
theorem pat_shp (p : Pat) : Shp 1 p.d := by
  cases p with
  | key n =>
    refine Shp.tup fun d hd => ?_
    rcases List.mem_cons.mp hd with e | hd
    · subst e; exact ⟨by decide +kernel, by decide +kernel⟩
    · rcases List.mem_cons.mp hd with e | hd
      · subst e; exact Shp.int n
      · cases hd
  | word w => cases w <;> exact ⟨by decide +kernel, by decide +kernel⟩
  | _ => exact ⟨by decide +kernel, by decide +kernel⟩
theorem pats_shp (ps : List Pat) : Shp 2 (.list (ps.map Pat.d)) := Shp.lst fun d hd => by
  obtain ⟨p, _, rfl⟩ := List.mem_map.mp hd
  exact pat_shp p
/-! ### expressions, statements -/
inductive Ex | num (n : Int) | box | plus (a b : Ex)
def Ex.d : Ex → PyData
  | .num n => .tuple [.str "number", .int n]
  | .box => .tuple [.str "box", .str "n"]
  | .plus a b => .tuple [.str "plus", a.d, b.d]
def Ex.val (v : Int) : Ex → Int
  | .num n => n
  | .box => v
  | .plus a b => a.val v + b.val v
def Ex.dep : Ex → Nat
  | .plus a b => max a.dep b.dep + 1
  | _ => 0
mutual
inductive Stm
  | say (w : Str) | hand (l : Fin 10) | put (e : Ex) | test (a b : Ex) (t f : List Stm) | wait (lim : Int) (brs : List Br) | loop (b : List Stm) | again | leave | stop
inductive Br
  | mk (p : Pat) (b : List Stm)
end
def Br.p : Br → Pat
  | .mk p _ => p
def Br.b : Br → List Stm
  | .mk _ b => b
mutual
def encS : Stm → PyData
  | .say w => .tuple [.str "say", .str w]
  | .hand l => .tuple [.str "hand", .int (l.val : Int), .str "c"]
  | .put e => .tuple [.str "put", .str "n", e.d]
  | .test a b t f => .tuple [.str "test", .tuple [.str "same", a.d, b.d], .tuple (encB t), .tuple (encB f)]
  | .wait lim brs => .tuple [.str "wait", .int lim, .tuple (encR brs)]
  | .loop b => .tuple [.str "loop", .tuple (encB b)]
  | .again => .tuple [.str "again"]
  | .leave => .tuple [.str "leave"]
  | .stop => .tuple [.str "stop"]
def encB : List Stm → List PyData
  | [] => []
  | s :: r => encS s :: encB r
def encR : List Br → List PyData
  | [] => []
  | b :: r => encBr b :: encR r
def encBr : Br → PyData
  | .mk p b => .tuple [p.d, .tuple (encB b)]
end
theorem encB_map : ∀ b : List Stm, encB b = b.map encS
  | [] => by rw [encB]; rfl
  | s :: r => by rw [encB, encB_map r]; rfl
theorem encR_map : ∀ b : List Br, encR b = b.map encBr
  | [] => by rw [encR]; rfl
  | s :: r => by rw [encR, encR_map r]; rfl
theorem encBr_eq (b : Br) : encBr b = .tuple [b.p.d, .tuple (encB b.b)] := by cases b; rw [encBr]; rfl
end Cm

/-! The small defs of the package: frozen, part_of, branch_for, branch_for_none, cut_to, worth, holds. -/
namespace Cm
open PySem PySem.Spec PyProof.Rows L2
/-! ### a few more rules -/
section
variable {X : Cx} {B : Bs} {ε : List Sl} {D : Ends} {pos : Pos}
theorem sIfF {c : Expr} {a rest : List Stmt} {t : Bool} (hc : XT X B ε c t) (e : t = false) (k : XS X B ε rest D) : XS X B ε (.If c a [] pos :: rest) D :=
  sCons (iIf hc (fun h => by rw [e] at h; cases h) fun _ => sNil k)
theorem sIfE {c : Expr} {a b rest : List Stmt} {t : Bool} (hc : XT X B ε c t) (e : t = false) (k : XS X B ε b { D with nx := cS X rest D }) : XS X B ε (.If c a b pos :: rest) D :=
  sCons (iIf hc (fun h => by rw [e] at h; cases h) fun _ => k)
theorem sIfT {c : Expr} {a b rest : List Stmt} {t : Bool} (hc : XT X B ε c t) (e : t = true) (k : XS X B ε a { D with nx := cS X rest D }) : XS X B ε (.If c a b pos :: rest) D :=
  sCons (iIf hc (fun _ => k) fun h => by rw [e] at h; cases h)
theorem XT.is {c : Expr} {t t' : Bool} (h : XT X B ε c t) (e : t = t') : XT X B ε c t' := e ▸ h
theorem XD.is {c : Expr} {t t' : PyData} (h : XD X B ε c t) (e : t = t') : XD X B ε c t' := e ▸ h
theorem XO.is {c : Expr} {t t' : List PyData} (h : XO X B ε c t) (e : t = t') : XO X B ε c t' := e ▸ h
theorem XO.d {c : Expr} {t : List PyData} (h : XO X B ε c t) : XD X B ε c (.list t) := EvO.d h
theorem xNeg {a : Expr} {i : Int} (ha : XD X B ε a (.int i)) : XD X B ε (.UnaryOp .USub a pos) (.int (-i)) := ofP (pe_un un_neg peC) fun Hf H σ S Q q => ha Hf H σ S _ fun v Hf' H' e hd => by
  cases hd
  exact ⟨i, rfl, q _ Hf' H' e (.int _)⟩
/-- xs.index(e): the first place of an equal one -/
theorem xIndex {o e : Expr} {apos cpos : Pos} {ds : List PyData} {d z : PyData} {j : Nat} (hu : X.A.units + 65 < cLine) (ho : XD X B ε o (.list ds)) (he : XD X B ε e d) (s1 : SeqAt.shaped (.list ds) = true) (s2 : SeqAt.shaped d = true) (hj : ds[j]? = some z) (hz : PyData.eqv z d = true) (hn : ∀ (m : Nat) (z' : PyData), m < j → ds[m]? = some z' → PyData.eqv z' d = false)
    (hbase : attributeBase o "index" X.env (eval o X.env) = eval o X.env := by rfl)
    (hfew : ((backTo cpos (starEach [e] X.env)).all (fun x => !x.1) && (backToKw cpos (keywordEach [] X.env)).all (fun x => x.1.isSome)
      && decide (([e] : List Expr).length + ([] : List Keyword).length + (if ([] : List Keyword).isEmpty then 0 else 1) < 30)) = true := by rfl)
    (hline : (apos.endLine == cpos.line) = true := by rfl) (hst : starEach [e] X.env = [(false, eval e X.env)] := by rfl) :
    XD X B ε (.Call (.Attribute o "index" apos) [e] [] cpos) (.int (j : Int)) :=
  ofP (pe_bm PySem.F.plainAttrs_list PySem.F.slot_list_index PySem.F.type_list_index (mt_indexD hu) peC (pa_cons peC pa_nil hst) hbase hfew hline hst rfl) fun Hf H σ S Q q => ho Hf H σ S _ fun v Hf1 H1 e1 h1 => by
    cases h1 with
    | @lst a us _ h k =>
      refine ⟨.inl ⟨rfl, us, .inl (.inl (e1.s _ _ h))⟩, ?_⟩
      refine he Hf1 H1 σ (S.mono e1) _ fun v2 Hf2 H2 e2 h2 => ?_
      have e3 := e1.trans e2
      exact ⟨a, v2, d, ds, j, z, rfl, rfl, ((Da.lst h k).mono (e2.f.trans e2.s)).dp, (h2.mono e2.s).dp, s1, s2, hj, hz, hn, q _ Hf2 H2 e3 (.int _)⟩
end
theorem evYes {K : PySem.W.Frag} {B : Bs} {ε : List Sl} : EvT K B ε tYes true := fun Hf H σ S Q q => q Hf H (Fz.refl S.fz.s)
theorem lcRes_all (ds : List PyData) (rf : PyData → PyData) : lcRes ds (fun _ => true) rf = ds.map rf := by
  unfold lcRes
  rw [List.filter_eq_self.mpr fun _ _ => rfl]
theorem hu65 {A : Around} {k : Nat} (hr : Room k A) : A.units + 65 < cLine := by have := hr.un; omega

/-! ### frozen -/
mutual
def fz : PyData → PyData
  | .list xs => .tuple (fzs xs)
  | .tuple xs => .tuple (fzs xs)
  | .none => .none
  | .bool b => .bool b
  | .int i => .int i
  | .str s => .str s
  | .dict k => .dict k
def fzs : List PyData → List PyData
  | [] => []
  | x :: r => fz x :: fzs r
end
theorem fzs_map : ∀ xs : List PyData, fzs xs = xs.map fz
  | [] => by rw [fzs]; rfl
  | x :: r => by rw [fzs, fzs_map r]; rfl
theorem fz_items {d : PyData} {ds : List PyData} (h : itemsOf d = some ds) : fz d = .tuple (ds.map fz) := by
  cases d with
  | list xs => cases h; rw [fz, fzs_map]
  | tuple xs => cases h; rw [fz, fzs_map]
  | _ => cases h
theorem fz_flat {d : PyData} (h : isFlat d = true) : fz d = d := by
  cases d with
  | list _ => cases h
  | tuple _ => cases h
  | _ => rw [fz]
/-- a thing of lists and tuples, at most n within one another -/
def FOk : Nat → PyData → Prop
  | 0, d => isFlat d = true
  | n + 1, d => isFlat d = true ∨ ∃ ds, itemsOf d = some ds ∧ ds.length ≤ 1000 ∧ ∀ x ∈ ds, FOk n x
def FFz (n : Nat) (ds : List PyData) (r : PyData) : Prop := ∃ d, ds = [d] ∧ FOk n d ∧ r = fz d
theorem scFrozen : FnScope ["thing", "part"] ["thing"] (defScope sFrozen) := ⟨rfl, rfl, rfl, by decide +kernel, rfl, by decide +kernel, by decide +kernel⟩
section
variable {P : Program} {w : World} {K : PySem.W.Frag} {mg : Str → Option Value} {base : Heap}
structure FrozenAt (K : PySem.W.Frag) (mg : Str → Option Value) (f : Addr) (fd : FuncData) : Prop where
  F : Fun K "frozen" "frozen" sFrozen f fd
  b : Binds K fd ["thing"] []
  m : mg "frozen" = some (.ref f)
  isi : mg "isinstance" = none
  lst : mg "list" = none
  tup : mg "tuple" = none
theorem frozen_flat {f : Addr} {fd : FuncData} (T : FrozenAt K mg f fd) (cdv : Value) (A : Around) (outer : List Env) (s : Shared) (H : Hp) (E : XK) (B : Bs) (D : Ends) (d : PyData) (hd : isFlat d = true) (hR : RetD K B D d) :
    XS (BX P w K mg base ["thing", "part"] "frozen" sFrozen f cdv A outer s H E) B (startE ["thing", "part"] [.d d]) (defBody sFrozen) D := by
  have one : ∀ t, tyD d = some t → kitB t "list" = some false → kitB t "tuple" = some false → XS (BX P w K mg base ["thing", "part"] "frozen" sFrozen f cdv A outer s H E) B (startE ["thing", "part"] [.d d]) (defBody sFrozen) D := fun t ht h1 h2 =>
    sIfF (tOr (tVal (xIsi rfl T.isi rfl T.lst (by decide +kernel) (xv 0 rfl) ht h1)) fun _ => tVal (xIsi rfl T.isi rfl T.tup (by decide +kernel) (xv 0 rfl) ht h2)) rfl (sCons (iRet (xv 0 rfl) hR))
  cases d with
  | none => exact one "NoneType" rfl (by decide +kernel) (by decide +kernel)
  | bool b => exact one "bool" rfl (by decide +kernel) (by decide +kernel)
  | int i => exact one "int" rfl (by decide +kernel) (by decide +kernel)
  | str x => exact one "str" rfl (by decide +kernel) (by decide +kernel)
  | _ => cases hd
theorem ok_frozen {f : Addr} {fd : FuncData} (T : FrozenAt K mg f fd) : ∀ n : Nat, FnOk P w K mg base CX0 (n + 1) f fd ["thing"] (SpD K (FFz n))
  | 0 => by
    refine fnD T.F scFrozen (by decide) (fun ds r h => ?_) fun cdv A outer s H E hr B D ds r h hR => ?_
    · obtain ⟨d, rfl, _⟩ := h
      rfl
    · obtain ⟨d, rfl, hd, rfl⟩ := h
      rw [fz_flat hd] at hR
      exact frozen_flat T cdv A outer s H E B D d hd hR
  | n + 1 => by
    have G := ok_frozen T n
    refine fnD T.F scFrozen (by decide) (fun ds r h => ?_) fun cdv A outer s H E hr B D ds r h hR => ?_
    · obtain ⟨d, rfl, _⟩ := h
      rfl
    · obtain ⟨d, rfl, hd, rfl⟩ := h
      rcases hd with hd | ⟨ds, hi, hl, hx⟩
      · rw [fz_flat hd] at hR
        exact frozen_flat T cdv A outer s H E B D d hd hR
      · rw [fz_items hi] at hR
        have turn : ∀ x ∈ ds, LcTurn K B (wipeE (startE ["thing", "part"] [.d d]) [1]) [1] tg1 tYes (tCall (SpD K (FFz n)) [] E0 (tCons (tVar 1) tNil)) (fun _ => true) fz x := fun x hm =>
          ⟨[x], rfl, evYes, fun _ => evCall (eaCons (evVar rfl) eaNil) (spD_ok ⟨x, rfl, hx x hm, rfl⟩)⟩
        cases d with
        | list xs =>
          cases hi
          refine sIfT (tOr (tVal (xIsi (T := "list") rfl T.isi rfl T.lst (by decide +kernel) (xv 0 rfl) (t := "list") rfl (b := true) (by decide +kernel))) (y := false) fun h => nomatch h) rfl ?_
          refine sCons (iRet (xTupleOf rfl T.tup (XO.d (xLcL [("part", 1)] (xv 0 rfl) (blkOk_by (N := ["thing", "part"]) (sc := defScope sFrozen) (by decide +kernel)) (fun _ _ _ _ _ => pg_name (i := 1) scFrozen.nd rfl (Or.inl rfl)) (fun _ _ _ _ _ => pts_nil)
            (fun _ _ _ _ _ => pe_call G hr rfl T.m T.F.kp T.b .nil pass0 (pa_cons (pv 1) pa_nil)) tgtName (by decide) (Nat.le_trans hl (by decide)) turn scFrozen.nd))) ?_)
          rw [lcRes_all]
          exact hR
        | tuple xs =>
          cases hi
          refine sIfT (tOr (tVal (xIsi (T := "list") rfl T.isi rfl T.lst (by decide +kernel) (xv 0 rfl) (t := "tuple") rfl (b := false) (by decide +kernel))) fun _ => tVal (xIsi (T := "tuple") rfl T.isi rfl T.tup (by decide +kernel) (xv 0 rfl) (t := "tuple") rfl (b := true) (by decide +kernel))) rfl ?_
          refine sCons (iRet (xTupleOf rfl T.tup (XO.d (xLcT [("part", 1)] (xv 0 rfl) (blkOk_by (N := ["thing", "part"]) (sc := defScope sFrozen) (by decide +kernel)) (fun _ _ _ _ _ => pg_name (i := 1) scFrozen.nd rfl (Or.inl rfl)) (fun _ _ _ _ _ => pts_nil)
            (fun _ _ _ _ _ => pe_call G hr rfl T.m T.F.kp T.b .nil pass0 (pa_cons (pv 1) pa_nil)) tgtName (by decide) (Nat.le_trans hl (by decide)) turn scFrozen.nd))) ?_)
          rw [lcRes_all]
          exact hR
        | _ => cases hi
end
end Cm

/-! part_of, branch_for, branch_for_none, cut_to, worth, holds. -/
namespace Cm
open PySem PySem.Spec PyProof.Rows L2
/-! ### part_of -/
def partOf : Stm → Nat → Option (List Stm)
  | .test _ _ t f, k => if k = 0 then some t else if k = 1 then some f else none
  | .loop b, _ => some b
  | .wait _ brs, k => brs[k]?.map Br.b
  | _, _ => none
def FPart (ds : List PyData) (r : PyData) : Prop := ∃ (s : Stm) (k : Nat) (b : List Stm), ds = [encS s, .int (k : Int)] ∧ partOf s k = some b ∧ r = .tuple (encB b)
theorem scPartOf : FnScope ["statement", "number"] ["statement", "number"] (defScope sPartOf) := ⟨rfl, rfl, rfl, by decide +kernel, rfl, by decide +kernel, by decide +kernel⟩
theorem atI_of {α : Type} {xs : List α} {i : Int} {j : Nat} {v : α} (e : i = (j : Int)) (h : xs[j]? = some v) : atI xs i = some v := by
  rw [e]
  exact atI_nat h
section
variable {P : Program} {w : World} {K : PySem.W.Frag} {mg : Str → Option Value} {base : Heap}
theorem ok_part {f : Addr} {fd : FuncData} {k : Nat} (F : Fun K "part_of" "part_of" sPartOf f fd) : FnOk P w K mg base CX0 (k + 1) f fd ["statement", "number"] (SpD K FPart) := by
  refine fnD F scPartOf (by decide) (fun ds r h => ?_) fun cdv A outer s H E hr B D ds r h hR => ?_
  · obtain ⟨s, k, b, rfl, _⟩ := h
    rfl
  · obtain ⟨st, n, b, rfl, hp, rfl⟩ := h
    cases st with
    | test x y t f =>
      rw [encS]
      refine sIfT (tEqS (xIxT (xv 0 rfl) xInt (d := .str "test") rfl) xStr) (by decide +kernel) ?_
      have hn : n = 0 ∧ b = t ∨ n = 1 ∧ b = f := by
        have hp : (if n = 0 then some t else if n = 1 then some f else none) = some b := hp
        by_cases h0 : n = 0
        · rw [if_pos h0] at hp; exact .inl ⟨h0, (Option.some.inj hp).symm⟩
        · rw [if_neg h0] at hp
          by_cases h1 : n = 1
          · rw [if_pos h1] at hp; exact .inr ⟨h1, (Option.some.inj hp).symm⟩
          · rw [if_neg h1] at hp; cases hp
      rcases hn with ⟨rfl, rfl⟩ | ⟨rfl, rfl⟩
      · exact sCons (iRet (xIxT (xv 0 rfl) (xAdd xInt (xv 1 rfl)) rfl) hR)
      · exact sCons (iRet (xIxT (xv 0 rfl) (xAdd xInt (xv 1 rfl)) rfl) hR)
    | loop l =>
      rw [encS]
      refine sIfF (tEqS (xIxT (xv 0 rfl) xInt (d := .str "loop") rfl) xStr) (by decide +kernel) ?_
      refine sIfT (tEqS (xIxT (xv 0 rfl) xInt (d := .str "loop") rfl) xStr) (by decide +kernel) ?_
      have hb : l = b := Option.some.inj (show some l = some b from hp)
      subst hb
      exact sCons (iRet (xIxT (xv 0 rfl) xInt rfl) hR)
    | wait lim brs =>
      rw [encS]
      refine sIfF (tEqS (xIxT (xv 0 rfl) xInt (d := .str "wait") rfl) xStr) (by decide +kernel) ?_
      refine sIfF (tEqS (xIxT (xv 0 rfl) xInt (d := .str "wait") rfl) xStr) (by decide +kernel) ?_
      have hp' : brs[n]?.map Br.b = some b := hp
      obtain ⟨br, h1, h2⟩ := Option.map_eq_some_iff.mp hp'
      subst h2
      have h3 : (encR brs)[n]? = some (.tuple [br.p.d, .tuple (encB br.b)]) := by
        rw [encR_map, List.getElem?_map, h1, ← encBr_eq]
        rfl
      exact sCons (iRet (xIxT (xIxT (xIxT (xv 0 rfl) xInt (d := .tuple (encR brs)) rfl) (xv 1 rfl) (atI_nat h3)) xInt rfl) hR)
    | _ => cases hp
end

/-! ### branch_for -/
def findP (ps : List Pat) (e : Pat) : Option Nat := ps.findIdx? fun p => decide (p = e)
def oD : Option Nat → PyData
  | some n => .int (n : Int)
  | none => .none
def branchFor (ps : List Pat) (e : Pat) : Option Nat :=
  match findP ps e with
  | some n => some n
  | none => if e = .quiet then none else findP ps .other
theorem any_find (ps : List Pat) (e : Pat) : ((ps.map Pat.d).any fun z => PyData.eqv z e.d) = (findP ps e).isSome := by
  unfold findP
  rw [List.any_map, List.findIdx?_isSome]
  congr 1
  funext p
  exact pat_eqv p e
theorem findP_at {ps : List Pat} {e : Pat} {n : Nat} (h : findP ps e = some n) : (ps.map Pat.d)[n]? = some e.d ∧ PyData.eqv e.d e.d = true ∧ ∀ (m : Nat) (z : PyData), m < n → (ps.map Pat.d)[m]? = some z → PyData.eqv z e.d = false := by
  unfold findP at h
  rw [List.findIdx?_eq_some_iff_getElem] at h
  obtain ⟨h1, h2, h3⟩ := h
  refine ⟨?_, by rw [pat_eqv]; exact decide_eq_true rfl, fun m z hm hz => ?_⟩
  · rw [List.getElem?_map, List.getElem?_eq_getElem h1]
    exact congrArg (fun p => some (Pat.d p)) (of_decide_eq_true h2)
  · rw [List.getElem?_map, List.getElem?_eq_getElem (Nat.lt_trans hm h1)] at hz
    cases hz
    rw [pat_eqv]
    have := h3 m hm
    simpa using this
def FBranch (ds : List PyData) (r : PyData) : Prop := ∃ (lim : Int) (brs : List Br) (e : Pat), ds = [encS (.wait lim brs), e.d] ∧ r = oD (branchFor (brs.map Br.p) e) ∧ brs.length ≤ 1000
def FBrNone (ds : List PyData) (r : PyData) : Prop := ∃ (lim : Int) (brs : List Br), ds = [encS (.wait lim brs)] ∧ r = oD (findP (brs.map Br.p) .none) ∧ brs.length ≤ 1000
def firstD : PyData → PyData
  | .tuple (p :: _) => p
  | _ => .none
theorem first_br (b : Br) : firstD (encBr b) = b.p.d := by
  rw [encBr_eq]
  rfl
theorem pats_of (brs : List Br) : lcRes (encR brs) (fun _ => true) firstD = (brs.map Br.p).map Pat.d := by
  rw [lcRes_all, encR_map, List.map_map, List.map_map]
  exact List.map_congr_left fun b _ => first_br b
theorem scBranchFor : FnScope ["wait", "event", "patterns", "pattern", "body"] ["wait", "event"] (defScope sBranchFor) := ⟨rfl, rfl, rfl, by decide +kernel, rfl, by decide +kernel, by decide +kernel⟩
theorem scBranchNone : FnScope ["wait", "patterns", "pattern", "body"] ["wait"] (defScope sBranchNone) := ⟨rfl, rfl, rfl, by decide +kernel, rfl, by decide +kernel, by decide +kernel⟩
section
variable {P : Program} {w : World} {K : PySem.W.Frag} {mg : Str → Option Value} {base : Heap}
theorem br_turn {B : Bs} {ε : List Sl} {i : Nat} {brs : List Br} (h : ∀ x : PyData, ∀ y : PyData, (setL ε [i, i + 1] [.d x, .d y])[i]? = some (.d x)) : ∀ d ∈ encR brs, LcTurn K B ε [i, i + 1] (tgT 2) tYes (tVar i) (fun _ => true) firstD d := fun d hd => by
  rw [encR_map] at hd
  obtain ⟨b, _, rfl⟩ := List.mem_map.mp hd
  rw [encBr_eq]
  exact ⟨[b.p.d, .tuple (encB b.b)], rfl, evYes, fun _ => evVar (h _ _)⟩
theorem ok_branch {f : Addr} {fd : FuncData} {k : Nat} (F : Fun K "branch_for" "branch_for" sBranchFor f fd) : FnOk P w K mg base CX0 (k + 1) f fd ["wait", "event"] (SpD K FBranch) := by
  refine fnD F scBranchFor (by decide) (fun ds r h => ?_) fun cdv A outer s H E hr B D ds r h hR => ?_
  · obtain ⟨lim, brs, e, rfl, _⟩ := h
    rfl
  · obtain ⟨lim, brs, e, rfl, rfl, hl⟩ := h
    rw [encS]
    have hu := hu65 hr
    refine sCons (iLcT 2 [("pattern", 3), ("body", 4)] (xIxT (xv 0 rfl) xInt (d := .tuple (encR brs)) rfl) (blkOk_by (N := ["wait", "event", "patterns", "pattern", "body"]) (sc := defScope sBranchFor) (by decide +kernel))
      (fun _ _ _ _ _ => pg_tup rfl (pgs_cons (pg_name (i := 3) scBranchFor.nd rfl (Or.inl rfl)) (pgs_cons (pg_name (i := 4) scBranchFor.nd rfl (Or.inl rfl)) pgs_nil))) (fun _ _ _ _ _ => pts_nil) (fun _ _ _ _ _ => pv 3)
      (tgtTup (is := [3, 4]) rfl) (by decide) (by rw [encR_map, List.length_map]; omega) (br_turn fun _ _ => rfl) ?_ scBranchFor.nd (sw_true rfl rfl rfl (by decide +kernel)))
    rw [pats_of]
    refine frz 2 rfl ?_
    have hs := pats_shp (brs.map Br.p)
    have cond := any_find (brs.map Br.p) e
    cases hf : findP (brs.map Br.p) e with
    | some n =>
      obtain ⟨q1, q2, q3⟩ := findP_at hf
      have hr' : branchFor (brs.map Br.p) e = some n := by unfold branchFor; rw [hf]
      rw [hr'] at hR
      refine sIfT (tInD hu (xv 1 rfl) (xv 2 rfl) ((pat_shp e).ok (by decide)) (hs.ok (by decide))) (by rw [cond, hf]; rfl) ?_
      exact sCons (iRet (xIndex hu (xv 2 rfl) (xv 1 rfl) (hs.ok (by decide)) ((pat_shp e).ok (by decide)) q1 q2 q3) hR)
    | none =>
      refine sIfF (tInD hu (xv 1 rfl) (xv 2 rfl) ((pat_shp e).ok (by decide)) (hs.ok (by decide))) (by rw [cond, hf]; rfl) ?_
      have c1 : (!PyData.eqv e.d Pat.quiet.d) = !decide (e = .quiet) := by rw [pat_eqv]
      have cond2 := any_find (brs.map Br.p) .other
      by_cases hq : e = .quiet
      · have hr' : branchFor (brs.map Br.p) e = none := by unfold branchFor; rw [hf]; exact if_pos hq
        rw [hr'] at hR
        refine sIfF (tAnd (y := false) (tNeD hr.units (xv 1 rfl) (xTup (xCons xStr xNil) (by decide)) ((pat_shp e).ok (by decide)) ((pat_shp .quiet).ok (by decide))) fun h => ?_) ?_ ?_
        · exfalso
          have h' : (!PyData.eqv e.d Pat.quiet.d) = true := h
          rw [c1, decide_eq_true hq] at h'
          cases h'
        · exact Bool.and_false _
        · exact sCons (iRet xNone hR)
      · cases hg : findP (brs.map Br.p) .other with
        | some n =>
          obtain ⟨q1, q2, q3⟩ := findP_at hg
          have hr' : branchFor (brs.map Br.p) e = some n := by unfold branchFor; rw [hf]; exact (if_neg hq).trans hg
          rw [hr'] at hR
          refine sIfT (tAnd (tNeD hr.units (xv 1 rfl) (xTup (xCons xStr xNil) (by decide)) ((pat_shp e).ok (by decide)) ((pat_shp .quiet).ok (by decide))) fun h => tInD hu (xTup (xCons xStr xNil) (by decide)) (xv 2 rfl) ((pat_shp .other).ok (by decide)) (hs.ok (by decide))) ?_ ?_
          · show (!PyData.eqv e.d Pat.quiet.d && _) = true
            rw [c1, decide_eq_false hq]
            show (true && ((brs.map Br.p).map Pat.d).any fun z => PyData.eqv z Pat.other.d) = true
            rw [cond2, hg]
            rfl
          · exact sCons (iRet (xIndex hu (xv 2 rfl) (xTup (xCons xStr xNil) (by decide)) (hs.ok (by decide)) ((pat_shp .other).ok (by decide)) q1 q2 q3) hR)
        | none =>
          have hr' : branchFor (brs.map Br.p) e = none := by unfold branchFor; rw [hf]; exact (if_neg hq).trans hg
          rw [hr'] at hR
          refine sIfF (tAnd (tNeD hr.units (xv 1 rfl) (xTup (xCons xStr xNil) (by decide)) ((pat_shp e).ok (by decide)) ((pat_shp .quiet).ok (by decide))) fun h => tInD hu (xTup (xCons xStr xNil) (by decide)) (xv 2 rfl) ((pat_shp .other).ok (by decide)) (hs.ok (by decide))) ?_ ?_
          · show (_ && ((brs.map Br.p).map Pat.d).any fun z => PyData.eqv z Pat.other.d) = false
            rw [cond2, hg]
            exact Bool.and_false _
          · exact sCons (iRet xNone hR)
theorem ok_brNone {f : Addr} {fd : FuncData} {k : Nat} (F : Fun K "branch_for_none" "branch_for_none" sBranchNone f fd) : FnOk P w K mg base CX0 (k + 1) f fd ["wait"] (SpD K FBrNone) := by
  refine fnD F scBranchNone (by decide) (fun ds r h => ?_) fun cdv A outer s H E hr B D ds r h hR => ?_
  · obtain ⟨lim, brs, rfl, _⟩ := h
    rfl
  · obtain ⟨lim, brs, rfl, rfl, hl⟩ := h
    rw [encS]
    have hu := hu65 hr
    refine sCons (iLcT 1 [("pattern", 2), ("body", 3)] (xIxT (xv 0 rfl) xInt (d := .tuple (encR brs)) rfl) (blkOk_by (N := ["wait", "patterns", "pattern", "body"]) (sc := defScope sBranchNone) (by decide +kernel))
      (fun _ _ _ _ _ => pg_tup rfl (pgs_cons (pg_name (i := 2) scBranchNone.nd rfl (Or.inl rfl)) (pgs_cons (pg_name (i := 3) scBranchNone.nd rfl (Or.inl rfl)) pgs_nil))) (fun _ _ _ _ _ => pts_nil) (fun _ _ _ _ _ => pv 2)
      (tgtTup (is := [2, 3]) rfl) (by decide) (by rw [encR_map, List.length_map]; omega) (br_turn fun _ _ => rfl) ?_ scBranchNone.nd (sw_true rfl rfl rfl (by decide +kernel)))
    rw [pats_of]
    refine frz 1 rfl ?_
    have hs := pats_shp (brs.map Br.p)
    have cond := any_find (brs.map Br.p) .none
    cases hf : findP (brs.map Br.p) .none with
    | some n =>
      obtain ⟨q1, q2, q3⟩ := findP_at hf
      rw [hf] at hR
      refine sIfT (tInD hu (xTup (xCons xStr xNil) (by decide)) (xv 1 rfl) ((pat_shp .none).ok (by decide)) (hs.ok (by decide))) (by refine Eq.trans cond ?_; rw [hf]; rfl) ?_
      exact sCons (iRet (xIndex hu (xv 1 rfl) (xTup (xCons xStr xNil) (by decide)) (hs.ok (by decide)) ((pat_shp .none).ok (by decide)) q1 q2 q3) hR)
    | none =>
      rw [hf] at hR
      refine sIfF (tInD hu (xTup (xCons xStr xNil) (by decide)) (xv 1 rfl) ((pat_shp .none).ok (by decide)) (hs.ok (by decide))) (by refine Eq.trans cond ?_; rw [hf]; rfl) ?_
      exact sCons (iRet xNone hR)
end

/-! ### cut_to -/
inductive Kd | talk | loop | block
  deriving DecidableEq
def Kd.s : Kd → Str
  | .talk => "talk"
  | .loop => "loop"
  | .block => "block"
theorem kd_eq (a b : Kd) : decide (a.s = b.s) = decide (a = b) := by
  cases a <;> cases b <;> decide +kernel
structure Fr where
  path : List Nat
  at_ : Nat
  kind : Kd
def natD (n : Nat) : PyData := .int (n : Int)
def Fr.d (f : Fr) : PyData := .tuple [.tuple (f.path.map natD), .int (f.at_ : Int), .str f.kind.s]
/-- the frames as the program's list has them: the head is the last -/
def frD (fs : List Fr) : List PyData := fs.reverse.map Fr.d
theorem frD_cons (f : Fr) (fs : List Fr) : frD (f :: fs) = frD fs ++ [f.d] := by
  unfold frD
  rw [List.reverse_cons, List.map_append]
  rfl
theorem frD_len (fs : List Fr) : (frD fs).length = fs.length := by
  unfold frD
  rw [List.length_map, List.length_reverse]
def cutTo (k : Kd) : List Fr → Option (List Fr)
  | [] => none
  | f :: r => if f.kind = k then some (f :: r) else cutTo k r
def FCut (ds : List PyData) (es : List PyData) : Prop := ∃ (fs r : List Fr) (k : Kd), ds = [.list (frD fs), .str k.s] ∧ cutTo k fs = some r ∧ es = frD r ∧ fs.length ≤ 50000
theorem scCutTo : FnScope ["frames", "kind", "left"] ["frames", "kind"] (defScope sCutTo) := ⟨rfl, rfl, rfl, by decide +kernel, rfl, by decide +kernel, by decide +kernel⟩
section
variable {P : Program} {w : World} {K : PySem.W.Frag} {mg : Str → Option Value} {base : Heap}
theorem ok_cut {f : Addr} {fd : FuncData} {k : Nat} (F : Fun K "cut_to" "cut_to" sCutTo f fd) (ml : mg "list" = none) : FnOk P w K mg base CX0 (k + 1) f fd ["frames", "kind"] (SpL K FCut) := by
  refine fnL F scCutTo (by decide) (fun ds r h => ?_) fun cdv A outer s H E hr B D ds r h hR => ?_
  · obtain ⟨fs, r, k, rfl, _⟩ := h
    rfl
  · obtain ⟨fs, r, kd, rfl, hc, rfl, hl⟩ := h
    refine sCons (iSetO 2 (xListOf rfl ml (xv 0 rfl) rfl) ?_ scCutTo.nd)
    refine sCons (iWhile (fun m ε => ∃ fs', m = fs'.length ∧ cutTo kd fs' = some r ∧ ε = [.d (.list (frD fs)), .d (.str kd.s), .own (frD fs')]) fs.length ⟨fs, rfl, hc, rfl⟩ (fun m ε ⟨fs', hm, hcut, he⟩ => ?_) PassesOwn.never)
    subst he
    cases fs' with
    | nil => cases hcut
    | cons g gs =>
      refine ⟨_, evOwnT (i := 2) rfl (tNeS (xIxT (xIxL (xv 2 rfl) (xNeg xInt) (d := g.d) (by rw [frD_cons]; exact atI_last _ _)) xInt (d := .str g.kind.s) rfl) (xv 1 rfl)), fun hb => ?_, fun hb => ?_⟩
      · rw [kd_eq] at hb
        have hne : ¬ g.kind = kd := by simpa using hb
        rw [cutTo, if_neg hne] at hcut
        intro N hN
        refine sCons (iPop 2 (xs := frD gs) (d := g.d) (by rw [frD_cons]; rfl) ?_)
        exact sNil (hN _ ⟨gs.length, by rw [hm]; exact Nat.lt_succ_self _, gs, rfl, hcut, rfl⟩)
      · rw [kd_eq] at hb
        have heq : g.kind = kd := by simpa using hb
        rw [cutTo, if_pos heq] at hcut
        cases hcut
        exact sCons (iRetOwn 2 rfl hR)
end

/-! ### worth, holds -/
def boxD (size : Nat) : PyData := .tuple [.tuple [.str "n", .int (size : Int)]]
def FWorth (n : Nat) (ds : List PyData) (r : PyData) : Prop := ∃ (e : Ex) (size : Nat) (v : Int), ds = [e.d, boxD size, .tuple [.int v]] ∧ e.dep ≤ n ∧ r = .int (e.val v)
def FHolds (n : Nat) (ds : List PyData) (r : PyData) : Prop := ∃ (a b : Ex) (size : Nat) (v : Int), ds = [.tuple [.str "same", a.d, b.d], boxD size, .tuple [.int v]] ∧ a.dep ≤ n ∧ b.dep ≤ n ∧ r = .bool (decide (a.val v = b.val v))
theorem scWorth : FnScope ["expression", "boxes", "values", "kind", "names", "one", "other", "name", "size"] ["expression", "boxes", "values"] (defScope sWorth) := ⟨rfl, rfl, rfl, by decide +kernel, rfl, by decide +kernel, by decide +kernel⟩
theorem scHolds : FnScope ["condition", "boxes", "values", "kind", "one", "other"] ["condition", "boxes", "values"] (defScope sHolds) := ⟨rfl, rfl, rfl, by decide +kernel, rfl, by decide +kernel, by decide +kernel⟩
structure WorthAt (K : PySem.W.Frag) (mg : Str → Option Value) (f : Addr) (fd : FuncData) : Prop where
  F : Fun K "worth" "worth" sWorth f fd
  b : Binds K fd ["expression", "boxes", "values"] []
  m : mg "worth" = some (.ref f)
section
variable {P : Program} {w : World} {K : PySem.W.Frag} {mg : Str → Option Value} {base : Heap}
theorem n_shp : Shp 1 (.list [.str "n"]) := ⟨by decide +kernel, by decide +kernel⟩
theorem ok_worth {f : Addr} {fd : FuncData} (T : WorthAt K mg f fd) : ∀ n : Nat, FnOk P w K mg base CX0 (n + 1) f fd ["expression", "boxes", "values"] (SpD K (FWorth n)) := by
  have flat : ∀ (n : Nat) (cdv : Value) (A : Around) (outer : List Env) (s : Shared) (H : Hp) (E : XK), Room n (A.deeper (envOfC "worth" (defScope sWorth) s.heap.objs.size f cdv)) → ∀ (B : Bs) (D : Ends) (e : Ex) (size : Nat) (v : Int), (∀ a b, e ≠ .plus a b) → RetD K B D (.int (e.val v)) →
      XS (BX P w K mg base ["expression", "boxes", "values", "kind", "names", "one", "other", "name", "size"] "worth" sWorth f cdv A outer s H E) B (startE ["expression", "boxes", "values", "kind", "names", "one", "other", "name", "size"] [.d e.d, .d (boxD size), .d (.tuple [.int v])]) (defBody sWorth) D := fun n cdv A outer s H E hr B D e size v hp hR => by
    cases e with
    | num k =>
      refine sCons (iSet 3 (xIxT (xv 0 rfl) xInt (d := .str "number") rfl) ?_ scWorth.nd)
      refine sIfT (tEqS (xv 3 rfl) xStr) (by decide +kernel) ?_
      exact sCons (iRet (xIxT (xv 0 rfl) xInt rfl) hR)
    | box =>
      have hu := hu65 hr
      refine sCons (iSet 3 (xIxT (xv 0 rfl) xInt (d := .str "box") rfl) ?_ scWorth.nd)
      refine sIfF (tEqS (xv 3 rfl) xStr) (by decide +kernel) ?_
      refine sIfT (tEqS (xv 3 rfl) xStr) (by decide +kernel) ?_
      refine sCons (iLcT 4 [("name", 7), ("size", 8)] (xv 1 rfl) (blkOk_by (N := ["expression", "boxes", "values", "kind", "names", "one", "other", "name", "size"]) (sc := defScope sWorth) (by decide +kernel))
        (fun _ _ _ _ _ => pg_tup rfl (pgs_cons (pg_name (i := 7) scWorth.nd rfl (Or.inl rfl)) (pgs_cons (pg_name (i := 8) scWorth.nd rfl (Or.inl rfl)) pgs_nil))) (fun _ _ _ _ _ => pts_nil) (fun _ _ _ _ _ => pv 7)
        (tgtTup (is := [7, 8]) rfl) (keep := fun _ => true) (rf := firstD) (by decide) (by show 1 ≤ 100000; decide) (fun d hd => ?_) ?_ scWorth.nd (sw_true rfl rfl rfl (by decide +kernel)))
      · have e := List.mem_singleton.mp hd
        subst e
        exact ⟨[.str "n", .int (size : Int)], rfl, evYes, fun _ => evVar rfl⟩
      · rw [lcRes_all]
        refine frz 4 rfl ?_
        refine sCons (iRet (xIxT (xv 2 rfl) (xIndex hu (xv 4 rfl) (xIxT (xv 0 rfl) xInt (d := .str "n") rfl) (n_shp.ok (by decide)) (by decide +kernel) (j := 0) (z := .str "n") rfl (by decide +kernel) (fun m z hm => by omega)) rfl) hR)
    | plus a b => exact absurd rfl (hp a b)
  intro n
  induction n with
  | zero =>
    refine fnD T.F scWorth (by decide) (fun ds r h => ?_) fun cdv A outer s H E hr B D ds r h hR => ?_
    · obtain ⟨e, size, v, rfl, _⟩ := h
      rfl
    · obtain ⟨e, size, v, rfl, hd, rfl⟩ := h
      refine flat 0 cdv A outer s H E hr B D e size v (fun a b q => ?_) hR
      subst q
      simp [Ex.dep] at hd
  | succ n ih =>
    refine fnD T.F scWorth (by decide) (fun ds r h => ?_) fun cdv A outer s H E hr B D ds r h hR => ?_
    · obtain ⟨e, size, v, rfl, _⟩ := h
      rfl
    · obtain ⟨e, size, v, rfl, hd, rfl⟩ := h
      cases e with
      | plus a b =>
        have h1 : max a.dep b.dep + 1 ≤ n + 1 := hd
        refine sCons (iSet 3 (xIxT (xv 0 rfl) xInt (d := .str "plus") rfl) ?_ scWorth.nd)
        refine sIfF (tEqS (xv 3 rfl) xStr) (by decide +kernel) ?_
        refine sIfF (tEqS (xv 3 rfl) xStr) (by decide +kernel) ?_
        refine sCons (iSet 5 (xCall (CX := CX0) ih hr rfl T.m T.F.kp T.b (xCons (xIxT (xv 0 rfl) xInt (d := a.d) rfl) (xCons (xv 1 rfl) (xCons (xv 2 rfl) xNil))) (spD_ok ⟨a, size, v, rfl, by omega, rfl⟩)) ?_ scWorth.nd)
        refine sCons (iSet 6 (xCall (CX := CX0) ih hr rfl T.m T.F.kp T.b (xCons (xIxT (xv 0 rfl) xInt (d := b.d) rfl) (xCons (xv 1 rfl) (xCons (xv 2 rfl) xNil))) (spD_ok ⟨b, size, v, rfl, by omega, rfl⟩)) ?_ scWorth.nd)
        refine sIfT (tEqS (xv 3 rfl) xStr) (by decide +kernel) ?_
        exact sCons (iRet (xAdd (xv 5 rfl) (xv 6 rfl)) hR)
      | num k => exact flat _ cdv A outer s H E hr B D _ size v (fun a b q => nomatch q) hR
      | box => exact flat _ cdv A outer s H E hr B D _ size v (fun a b q => nomatch q) hR
theorem ok_holds {f g : Addr} {fd gd : FuncData} {n : Nat} (F : Fun K "holds" "holds" sHolds g gd) (T : WorthAt K mg f fd) : FnOk P w K mg base CX0 (n + 2) g gd ["condition", "boxes", "values"] (SpD K (FHolds n)) := by
  have G := ok_worth (P := P) (w := w) (base := base) T n
  refine fnD F scHolds (by decide) (fun ds r h => ?_) fun cdv A outer s H E hr B D ds r h hR => ?_
  · obtain ⟨a, b, size, v, rfl, _⟩ := h
    rfl
  · obtain ⟨a, b, size, v, rfl, h1, h2, rfl⟩ := h
    refine sCons (iSet 3 (xIxT (xv 0 rfl) xInt (d := .str "same") rfl) ?_ scHolds.nd)
    refine sIfF (tEqS (xv 3 rfl) xStr) (by decide +kernel) ?_
    refine sIfF (tEqS (xv 3 rfl) xStr) (by decide +kernel) ?_
    refine sCons (iSet 4 (xCall (CX := CX0) G hr rfl T.m T.F.kp T.b (xCons (xIxT (xv 0 rfl) xInt (d := a.d) rfl) (xCons (xv 1 rfl) (xCons (xv 2 rfl) xNil))) (spD_ok ⟨a, size, v, rfl, h1, rfl⟩)) ?_ scHolds.nd)
    refine sCons (iSet 5 (xCall (CX := CX0) G hr rfl T.m T.F.kp T.b (xCons (xIxT (xv 0 rfl) xInt (d := b.d) rfl) (xCons (xv 1 rfl) (xCons (xv 2 rfl) xNil))) (spD_ok ⟨b, size, v, rfl, h2, rfl⟩)) ?_ scHolds.nd)
    refine sIfT (tEqS (xv 3 rfl) xStr) (by decide +kernel) ?_
    exact sCons (iRet (vEqI (xv 4 rfl) (xv 5 rfl)) hR)
end
end Cm

/-! The teller's methods: body_at, behind, put_in. -/
namespace Cm
open PySem PySem.Spec PyProof.Rows L2
structure Prg where
  main : List Stm
  size : Nat
def talksD (g : Prg) : PyData := .tuple [.tuple [.str "main", .tuple (encB g.main)]]
/-- a teller of g stands at p -/
def TAt (K : PySem.W.Frag) (C : Addr) (Hf : Hp) (p : Addr) (g : Prg) : Prop := ∃ (dx : Addr) (vb vt vn : V), Hf p = some (.ins C dx [("boxes", vb), ("talks", vt), ("numbers", vn)]) ∧ Da K Hf vb (boxD g.size) ∧ Da K Hf vt (talksD g)
theorem TAt.mono {K : PySem.W.Frag} {C : Addr} {Hf Hf' : Hp} {p : Addr} {g : Prg} (h : TAt K C Hf p g) (e : Same Hf Hf') : TAt K C Hf' p g :=
  let ⟨dx, vb, vt, vn, h1, h2, h3⟩ := h
  ⟨dx, vb, vt, vn, e _ _ h1, h2.mono e, h3.mono e⟩
theorem look_b {a b c : V} : List.lookup ("boxes" : Str) [(("boxes" : Str), a), (("talks" : Str), b), (("numbers" : Str), c)] = some a := by
  rw [List.lookup, show (("boxes" : Str) == ("boxes" : Str)) = true from by decide +kernel]
theorem look_t {a b c : V} : List.lookup ("talks" : Str) [(("boxes" : Str), a), (("talks" : Str), b), (("numbers" : Str), c)] = some b := by
  rw [List.lookup, show (("talks" : Str) == ("boxes" : Str)) = false from by decide +kernel]
  show List.lookup ("talks" : Str) [(("talks" : Str), b), (("numbers" : Str), c)] = some b
  rw [List.lookup, show (("talks" : Str) == ("talks" : Str)) = true from by decide +kernel]
structure TxtT (K : PySem.W.Frag) (C : Addr) : Prop where
  cl : Cls K C
  nB : NoAttr K C "boxes"
  nT : NoAttr K C "talks"
  nN : NoAttr K C "numbers"
/-- a method's promise -/
def SpM (K : PySem.W.Frag) (C : Addr) (F : Prg → List PyData → PyData → Prop) : Sp := fun vs H Q _ => ∃ Hf p g us ds r, vs = .ref p :: us ∧ Same Hf H ∧ TAt K C Hf p g ∧ Das K Hf us ds ∧ F g ds r ∧ ∀ v Hf' H', Fz Hf H Hf' H' → Da K Hf' v r → Q v H'
def SpML (K : PySem.W.Frag) (C : Addr) (F : Prg → List PyData → List PyData → Prop) : Sp := fun vs H Q _ => ∃ Hf p g us ds es, vs = .ref p :: us ∧ Same Hf H ∧ TAt K C Hf p g ∧ Das K Hf us ds ∧ F g ds es ∧
  ∀ q ws Hf' H', Fz Hf H Hf' H' → H q = none → Hf' q = none → H' q = some (.lst ws) → Das K Hf' ws es → Q (.ref q) H'
section
variable {X : Cx} {B : Bs} {ε : List Sl} {D : Ends} {pos : Pos} {C : Addr}
theorem xFld {o : Expr} {f : Str} {p dx : Addr} {fs : List (Str × V)} {v : V} {d : PyData} (ho : XP X B ε o (fun _ u => u = .ref p)) (c : Cls X.K C) (n : NoAttr X.K C f) (hI : B.fb p = some (.ins C dx fs)) (hl : fs.lookup f = some v) (hd : Da X.K B.fb v d)
    (hb : attributeBase o f X.env (eval o X.env) = eval o X.env := by rfl) : XD X B ε (.Attribute o f pos) d :=
  ofP (pe_fld peC hb) fun Hf H σ S Q q => ho Hf H σ S _ fun u Hf1 H1 e1 hu => by
    have hu' : u = .ref p := hu
    have sf := S.fz.f.trans e1.f
    exact ⟨p, C, dx, fs, v, hu', e1.s _ _ (sf _ _ hI), c, n, hl, q v Hf1 H1 e1 (hd.mono sf)⟩
theorem xBoxes {o : Expr} {p : Addr} {g : Prg} (ho : XP X B ε o (fun _ u => u = .ref p)) (T : TxtT X.K C) (h : TAt X.K C B.fb p g) (hb : attributeBase o "boxes" X.env (eval o X.env) = eval o X.env := by rfl) : XD X B ε (.Attribute o "boxes" pos) (boxD g.size) := by
  obtain ⟨dx, vb, vt, vn, h1, h2, h3⟩ := h
  exact xFld ho T.cl T.nB h1 look_b h2 hb
theorem xTalks {o : Expr} {p : Addr} {g : Prg} (ho : XP X B ε o (fun _ u => u = .ref p)) (T : TxtT X.K C) (h : TAt X.K C B.fb p g) (hb : attributeBase o "talks" X.env (eval o X.env) = eval o X.env := by rfl) : XD X B ε (.Attribute o "talks" pos) (talksD g) := by
  obtain ⟨dx, vb, vt, vn, h1, h2, h3⟩ := h
  exact xFld ho T.cl T.nT h1 look_t h3 hb
def SpOkM (K : PySem.W.Frag) (B : Bs) (sp : Sp) (p : Addr) (ds : List PyData) (P : Hp → V → Prop) : Prop :=
  ∀ (Hf H : Hp) (vs : List V) (Q : VK) (E : XK), Same B.fb Hf → Same Hf H → Das K Hf vs ds → (∀ v Hf' H', Fz Hf H Hf' H' → P Hf' v → Q v H') → sp (.ref p :: vs) H Q E
theorem spM_ok {K : PySem.W.Frag} {F : Prg → List PyData → PyData → Prop} {p : Addr} {g : Prg} {ds : List PyData} {r : PyData} (T : TAt K C B.fb p g) (h : F g ds r) : SpOkM K B (SpM K C F) p ds fun Hf v => Da K Hf v r :=
  fun Hf H vs Q E s1 s2 hd q => ⟨Hf, p, g, vs, ds, r, rfl, s2, T.mono s1, hd, h, q⟩
theorem xMeth {o : Expr} {m : Str} {e : Expr} {es : List Expr} {apos : Pos} {k : Nat} {f p : Addr} {fd : FuncData} {ps : List Str} {sp : Sp} {ds : List PyData} {P : Hp → V → Prop} {g : Prg} (ho : XP X B ε o (fun _ u => u = .ref p)) (c : Cls X.K C) (hm : Meth X.K C m f) (F : FnOk X.prog X.w X.K X.mg X.base CX0 k f fd ps sp) (hr : Room k X.A) (hb : Binds X.K fd ps [])
    (hI : TAt X.K C B.fb p g) (hl : m ≠ "boxes" ∧ m ≠ "talks" ∧ m ≠ "numbers") (ha : XA X B ε (e :: es) ds) (hsp : SpOkM X.K B sp p ds P) {pl : Sem Bool}
    (hst : starEach (e :: es) X.env = (false, eval e X.env) :: starEach es X.env := by rfl) (hpl : (backTo pos (starEach es X.env)).any (·.1) = false := by rfl)
    (ht : eval (.Call (.Attribute o m apos) (e :: es) [] pos) X.env = (do
      let ov ← eval o X.env
      standAt apos.atName
      let (f, first) ← holding [ov] (getMethod ov m pl)
      callWith pos f first (backTo pos (starEach (e :: es) X.env)) (backToKw pos (keywordEach [] X.env))) := by rfl) : XP X B ε (.Call (.Attribute o m apos) (e :: es) [] pos) P :=
  ofP (pe_meth peC c hm F hr hb .nil (pass0 (X := X)) paC hst hpl ht) fun Hf H σ S Q q => ho Hf H σ S _ fun u Hf1 H1 e1 hu => by
    have hu' : u = .ref p := hu
    obtain ⟨dx, vb, vt, vn, h1, _, _⟩ := hI
    have sf := S.fz.f.trans e1.f
    refine ⟨p, dx, _, hu', e1.s _ _ (sf _ _ h1), ?_, ?_⟩
    · simp only [List.lookup]
      rw [beq_eq_false_iff_ne.mpr hl.1, beq_eq_false_iff_ne.mpr hl.2.1, beq_eq_false_iff_ne.mpr hl.2.2]
    · refine ha Hf1 H1 σ (S.mono e1) _ fun vs Hf2 H2 e2 hd => ?_
      rw [List.append_nil, hu']
      exact hsp Hf2 H2 vs Q _ (sf.trans e2.f) e2.s hd fun v Hf3 H3 e3 hp => q v Hf3 H3 ((e1.trans e2).trans e3) hp
theorem xMethO {o : Expr} {m : Str} {e : Expr} {es : List Expr} {apos : Pos} {k : Nat} {f p : Addr} {fd : FuncData} {ps : List Str} {FF : Prg → List PyData → List PyData → Prop} {ds ys : List PyData} {g : Prg} (ho : XP X B ε o (fun _ u => u = .ref p)) (c : Cls X.K C) (hm : Meth X.K C m f) (F : FnOk X.prog X.w X.K X.mg X.base CX0 k f fd ps (SpML X.K C FF)) (hr : Room k X.A) (hb : Binds X.K fd ps [])
    (hI : TAt X.K C B.fb p g) (hl : m ≠ "boxes" ∧ m ≠ "talks" ∧ m ≠ "numbers") (ha : XA X B ε (e :: es) ds) (hF : FF g ds ys) {pl : Sem Bool}
    (hst : starEach (e :: es) X.env = (false, eval e X.env) :: starEach es X.env := by rfl) (hpl : (backTo pos (starEach es X.env)).any (·.1) = false := by rfl)
    (ht : eval (.Call (.Attribute o m apos) (e :: es) [] pos) X.env = (do
      let ov ← eval o X.env
      standAt apos.atName
      let (f, first) ← holding [ov] (getMethod ov m pl)
      callWith pos f first (backTo pos (starEach (e :: es) X.env)) (backToKw pos (keywordEach [] X.env))) := by rfl) : XO X B ε (.Call (.Attribute o m apos) (e :: es) [] pos) ys :=
  ofO (pe_meth peC c hm F hr hb .nil (pass0 (X := X)) paC hst hpl ht) fun Hf H σ S Q q => ho Hf H σ S _ fun u Hf1 H1 e1 hu => by
    have hu' : u = .ref p := hu
    have hI' := hI
    obtain ⟨dx, vb, vt, vn, h1, _, _⟩ := hI'
    have sf := S.fz.f.trans e1.f
    refine ⟨p, dx, _, hu', e1.s _ _ (sf _ _ h1), ?_, ?_⟩
    · simp only [List.lookup]
      rw [beq_eq_false_iff_ne.mpr hl.1, beq_eq_false_iff_ne.mpr hl.2.1, beq_eq_false_iff_ne.mpr hl.2.2]
    · refine ha Hf1 H1 σ (S.mono e1) _ fun vs Hf2 H2 e2 hd => ?_
      rw [List.append_nil, hu']
      have e3 := e1.trans e2
      exact ⟨Hf2, p, g, vs, ds, ys, rfl, e2.s, hI.mono (sf.trans e2.f), hd, hF, fun r ws Hf4 H4 e4 n1 n2 n3 n4 => q r ws Hf4 H4 (e3.trans e4) (e3.h.free n1) n2 n3 n4⟩
end
section
variable {P : Program} {w : World} {K : PySem.W.Frag} {mg : Str → Option Value} {base : Heap} {C : Addr}
theorem fnM {x qual : Str} {st : Stmt} {f : Addr} {fd : FuncData} {N ps : List Str} {k : Nat} {F : Prg → List PyData → PyData → Prop} (Fn : Fun K x qual st f fd) (S : FnScope N ps (defScope st)) (hN : ps.length ≤ N.length) (len : ∀ g ds r, F g ds r → ds.length + 1 = ps.length)
    (body : ∀ (cdv : Value) (A : Around) (outer : List Env) (s : Shared) (H : Hp) (E : XK), Room k (A.deeper (envOfC qual (defScope st) s.heap.objs.size f cdv)) → ∀ (B : Bs) (D : Ends) (p : Addr) (g : Prg) (ds : List PyData) (r : PyData), TAt K C B.fb p g → F g ds r → RetD K B D r →
      XS (BX P w K mg base N qual st f cdv A outer s H E) B (startE N (.raw (.ref p) :: ds.map .d)) (defBody st) D) : FnOk P w K mg base CX0 (k + 1) f fd ps (SpM K C F) := by
  refine Fn.ok S (fun vs H Q E h => ?_) (fun cdv A outer s H vs Q E hr h => ?_)
  · obtain ⟨Hf, p, g, us, ds, r, rfl, _, _, hd, hF, _⟩ := h
    rw [List.length_cons, hd.length, len g ds r hF]
  · obtain ⟨Hf, p, g, us, ds, r, rfl, hs, hT, hd, hF, q⟩ := h
    have hb := body cdv A outer s H E hr ⟨Hf, H⟩ { nx := fun _ H' => Q .non H', rt := Q } p g ds r hT hF (fun v Hf' H' e hv => q v Hf' H' e hv)
    have hl := len g ds r hF
    obtain ⟨t, h1, h2⟩ := hb Hf H (L2.start N (.ref p :: us)) (sx_start hs (by rw [List.length_cons, List.length_cons, List.length_map, hd.length]) (by rw [List.length_cons, List.length_map, hl]; exact hN) fun i y hy => by
      cases i with
      | zero => cases hy; exact ⟨.ref p, rfl, .inr rfl⟩
      | succ i =>
        obtain ⟨v, d, h1, h2, h3⟩ := das_map hd (i := i) hy
        exact ⟨v, h1, .inl ⟨d, h2, h3⟩⟩)
    exact ⟨t, h1, h2⟩
theorem fnML {x qual : Str} {st : Stmt} {f : Addr} {fd : FuncData} {N ps : List Str} {k : Nat} {F : Prg → List PyData → List PyData → Prop} (Fn : Fun K x qual st f fd) (S : FnScope N ps (defScope st)) (hN : ps.length ≤ N.length) (len : ∀ g ds r, F g ds r → ds.length + 1 = ps.length)
    (body : ∀ (cdv : Value) (A : Around) (outer : List Env) (s : Shared) (H : Hp) (E : XK), Room k (A.deeper (envOfC qual (defScope st) s.heap.objs.size f cdv)) → ∀ (B : Bs) (D : Ends) (p : Addr) (g : Prg) (ds : List PyData) (r : List PyData), TAt K C B.fb p g → F g ds r → RetO K B D r →
      XS (BX P w K mg base N qual st f cdv A outer s H E) B (startE N (.raw (.ref p) :: ds.map .d)) (defBody st) D) : FnOk P w K mg base CX0 (k + 1) f fd ps (SpML K C F) := by
  refine Fn.ok S (fun vs H Q E h => ?_) (fun cdv A outer s H vs Q E hr h => ?_)
  · obtain ⟨Hf, p, g, us, ds, r, rfl, _, _, hd, hF, _⟩ := h
    rw [List.length_cons, hd.length, len g ds r hF]
  · obtain ⟨Hf, p, g, us, ds, r, rfl, hs, hT, hd, hF, q⟩ := h
    have hb := body cdv A outer s H E hr ⟨Hf, H⟩ { nx := fun _ H' => Q .non H', rt := Q } p g ds r hT hF (fun q' ws Hf' H' e n1 n2 n3 n4 => q q' ws Hf' H' e n1 n2 n3 n4)
    have hl := len g ds r hF
    obtain ⟨t, h1, h2⟩ := hb Hf H (L2.start N (.ref p :: us)) (sx_start hs (by rw [List.length_cons, List.length_cons, List.length_map, hd.length]) (by rw [List.length_cons, List.length_map, hl]; exact hN) fun i y hy => by
      cases i with
      | zero => cases hy; exact ⟨.ref p, rfl, .inr rfl⟩
      | succ i =>
        obtain ⟨v, d, h1, h2, h3⟩ := das_map hd (i := i) hy
        exact ⟨v, h1, .inl ⟨d, h2, h3⟩⟩)
    exact ⟨t, h1, h2⟩
end
end Cm

/-! body_at, behind, put_in. -/
namespace Cm
open PySem PySem.Spec PyProof.Rows L2
/-! ### body_at -/
def descend : List Stm → List Nat → Option (List Stm)
  | b, [] => some b
  | _, [_] => none
  | b, s :: k :: r => match b[s]? with
    | none => none
    | some st => match partOf st k with
      | none => none
      | some b' => descend b' r
def bodyAt (main : List Stm) : List Nat → Option (List Stm)
  | 0 :: r => descend main r
  | _ => none
theorem descend_even : ∀ {b b' : List Stm} {r : List Nat}, descend b r = some b' → ∃ n, r.length = 2 * n
  | _, _, [], _ => ⟨0, rfl⟩
  | _, _, [_], h => by rw [descend] at h; cases h
  | b, b', s :: k :: r, h => by
    rw [descend] at h
    cases e : b[s]? with
    | none => rw [e] at h; cases h
    | some st =>
      rw [e] at h
      simp only at h
      cases e2 : partOf st k with
      | none => rw [e2] at h; cases h
      | some b2 =>
        rw [e2] at h
        obtain ⟨n, hn⟩ := descend_even (r := r) h
        exact ⟨n + 1, by rw [List.length_cons, List.length_cons, hn]; omega⟩
theorem size_odd (n : Nat) : Builtin.Range.rangeSize 1 ((2 * n + 1 : Nat) : Int) 2 = n := by
  unfold Builtin.Range.rangeSize
  rw [if_pos (by decide)]
  by_cases h : (1 : Int) < ((2 * n + 1 : Nat) : Int)
  · rw [if_pos h]
    omega
  · rw [if_neg h]
    omega
theorem fits_small {k : Int} (h0 : 0 ≤ k) (h1 : k ≤ 1000000) : Builtin.Range.rangeFitsLong k = true := by
  unfold Builtin.Range.rangeFitsLong
  simp only [Bool.and_eq_true, decide_eq_true_eq]
  omega
theorem rgc_odd (n : Nat) (hn : n ≤ 1000) : RgC 1 ((2 * n + 1 : Nat) : Int) 2 n := by
  refine ⟨by decide, by decide, ?_, size_odd n⟩
  unfold Builtin.Range.small
  rw [size_odd, fits_small (by decide) (by decide), fits_small (by omega) (by omega), fits_small (by decide) (by decide), fits_small (by omega) (by omega), if_pos (by decide), fits_small (by omega) (by omega), Bool.or_true]
  rfl
def FBody (g : Prg) (ds : List PyData) (r : PyData) : Prop := ∃ (path : List Nat) (b : List Stm), ds = [.tuple (path.map natD)] ∧ bodyAt g.main path = some b ∧ r = .tuple (encB b) ∧ path.length ≤ 1000
theorem scBodyAt : FnScope ["self", "path", "body", "at"] ["self", "path"] (defScope sBodyAt) := ⟨rfl, rfl, rfl, by decide +kernel, rfl, by decide +kernel, by decide +kernel⟩
structure PartAt (K : PySem.W.Frag) (mg : Str → Option Value) (f : Addr) (fd : FuncData) : Prop where
  F : Fun K "part_of" "part_of" sPartOf f fd
  b : Binds K fd ["statement", "number"] []
  m : mg "part_of" = some (.ref f)
section
variable {P : Program} {w : World} {K : PySem.W.Frag} {mg : Str → Option Value} {base : Heap} {C : Addr}
theorem ok_body {f q : Addr} {fd qd : FuncData} {k : Nat} (F : Fun K "body_at" "Teller.body_at" sBodyAt f fd) (T : TxtT K C) (Q : PartAt K mg q qd) (mr : mg "range" = none) (ml : mg "len" = none) : FnOk P w K mg base CX0 (k + 2) f fd ["self", "path"] (SpM K C FBody) := by
  have G : FnOk P w K mg base CX0 (k + 1) q qd ["statement", "number"] (SpD K FPart) := ok_part Q.F
  refine fnM F scBodyAt (by decide) (fun g ds r h => ?_) fun cdv A outer s H E hr B D p g ds r hT h hR => ?_
  · obtain ⟨path, b, rfl, _⟩ := h
    rfl
  · obtain ⟨path, b, rfl, hb, rfl, hl⟩ := h
    cases path with
    | nil => cases hb
    | cons z rest =>
      cases z with
      | succ z => cases hb
      | zero =>
        have hb : descend g.main rest = some b := hb
        obtain ⟨n, hn⟩ := descend_even hb
        have hlen : ((0 :: rest).map natD).length = 2 * n + 1 := by rw [List.length_map, List.length_cons, hn]
        have hn1 : n ≤ 1000 := by rw [List.length_cons] at hl; omega
        refine sCons (iSet 2 (xIxT (xIxT (xTalks (xraw 0 rfl) T hT) (xIxT (xv 1 rfl) xInt (d := natD 0) (atI_of (j := 0) rfl rfl)) (d := .tuple [.str "main", .tuple (encB g.main)]) rfl) xInt (d := .tuple (encB g.main)) rfl) ?_ scBodyAt.nd)
        refine sCons (iForR3 (n := n) (fun i ε => ∃ (bi : List Stm) (x : Sl), descend bi (rest.drop (2 * i)) = some b ∧ ε = [.raw (.ref p), .d (.tuple ((0 :: rest).map natD)), .d (.tuple (encB bi)), x]) rfl mr xInt
          (XD.is (xLen rfl ml (xv 1 rfl) rfl) (by rw [hlen])) xInt (rgc_odd n hn1) (pg_name (i := 3) scBodyAt.nd rfl (Or.inl rfl)) tgtName ⟨g.main, .no, hb, rfl⟩ (fun B' hB i ε hi ⟨bi, x, hd, he⟩ => ?_) (fun ε ⟨bi, x, hd, he⟩ => ?_) PassesOwn.never)
        · subst he
          refine ⟨_, rfl, fun N hN => ?_⟩
          have hi2 : 2 * i + 1 < rest.length := by omega
          have e1 : rest.drop (2 * i) = rest[2 * i] :: rest[2 * i + 1] :: rest.drop (2 * (i + 1)) := by
            rw [List.drop_eq_getElem_cons (by omega), List.drop_eq_getElem_cons (i := 2 * i + 1) (by omega)]
            rfl
          rw [e1, descend] at hd
          cases e2 : bi[rest[2 * i]]? with
          | none => rw [e2] at hd; cases hd
          | some st =>
            rw [e2] at hd
            simp only at hd
            cases e3 : partOf st rest[2 * i + 1] with
            | none => rw [e3] at hd; cases hd
            | some b2 =>
              rw [e3] at hd
              have hd : descend b2 (rest.drop (2 * (i + 1))) = some b := hd
              have a1 : atI ((0 :: rest).map natD) (1 + (i : Nat) * 2) = some (natD rest[2 * i]) := by
                refine atI_of (j := 2 * i + 1) (by omega) ?_
                rw [List.map_cons, List.getElem?_cons_succ, List.getElem?_map, List.getElem?_eq_getElem (by omega)]
                rfl
              have a2 : atI ((0 :: rest).map natD) (1 + (i : Nat) * 2 + 1) = some (natD rest[2 * i + 1]) := by
                refine atI_of (j := 2 * i + 1 + 1) (by omega) ?_
                rw [List.map_cons, List.getElem?_cons_succ, List.getElem?_map, List.getElem?_eq_getElem (by omega)]
                rfl
              have a3 : atI (encB bi) ((rest[2 * i] : Nat) : Int) = some (encS st) := by
                refine atI_nat ?_
                rw [encB_map, List.getElem?_map, e2]
                rfl
              refine sCons (iSet 2 (xCall (CX := CX0) G hr rfl Q.m Q.F.kp Q.b (xCons (xIxT (xv 2 rfl) (xIxT (xv 1 rfl) (xv 3 rfl) a1) a3) (xCons (xIxT (xv 1 rfl) (xAdd (xv 3 rfl) xInt) a2) xNil)) (spD_ok ⟨st, _, b2, rfl, e3, rfl⟩)) ?_ scBodyAt.nd)
              exact sNil (hN _ ⟨b2, _, hd, rfl⟩)
        · subst he
          rw [← hn, List.drop_length, descend] at hd
          cases hd
          exact sCons (iRet (xv 2 rfl) hR)
end
/-! ### behind -/
def behind : Stm → List Nat → Nat → List Fr → Option (List Fr)
  | .loop _, path, at_, fs => some (⟨path ++ [at_, 0], 0, .loop⟩ :: fs)
  | .again, _, _, fs => match cutTo .loop fs with
    | some (f :: r) => some (⟨f.path, 0, .loop⟩ :: r)
    | _ => none
  | .leave, _, _, fs => match cutTo .loop fs with
    | some (_ :: r) => some r
    | _ => none
  | .stop, _, _, _ => some []
  | _, _, _, _ => none
def FBehind (g : Prg) (ds : List PyData) (es : List PyData) : Prop := ∃ (s : Stm) (path : List Nat) (at_ : Nat) (fs r : List Fr), ds = [encS s, .tuple (path.map natD), .int (at_ : Int), .list (frD fs)] ∧ behind s path at_ fs = some r ∧ es = frD r ∧ fs.length ≤ 40000 ∧ path.length ≤ 1000
theorem scBehind : FnScope ["self", "statement", "path", "at", "frames", "word", "left"] ["self", "statement", "path", "at", "frames"] (defScope sBehind) := ⟨rfl, rfl, rfl, by decide +kernel, rfl, by decide +kernel, by decide +kernel⟩
structure CutAt (K : PySem.W.Frag) (mg : Str → Option Value) (f : Addr) (fd : FuncData) : Prop where
  F : Fun K "cut_to" "cut_to" sCutTo f fd
  b : Binds K fd ["frames", "kind"] []
  m : mg "cut_to" = some (.ref f)
  lst : mg "list" = none
theorem cut_last (xs : List PyData) (x : PyData) : cutD (xs ++ [x]) none (some (-1)) = xs := by
  unfold cutD
  have h1 : HT.sIx (xs ++ [x]).length (xs ++ [x]).length (some (-1)) = xs.length := by
    rw [List.length_append, List.length_singleton]
    show (if (-1 : Int) < 0 then (-1 + ((xs.length + 1 : Nat) : Int)).toNat else min (-1 : Int).toNat (xs.length + 1)) = xs.length
    rw [if_pos (by decide)]
    omega
  rw [h1, HT.sIx_none, List.drop_zero, Nat.sub_zero, List.take_left]
theorem cutTo_len {k : Kd} : ∀ {fs r : List Fr}, cutTo k fs = some r → r.length ≤ fs.length
  | [], _, h => by rw [cutTo] at h; cases h
  | f :: fs, r, h => by
    rw [cutTo] at h
    by_cases e : f.kind = k
    · rw [if_pos e] at h; cases h; exact Nat.le_refl _
    · rw [if_neg e] at h
      exact Nat.le_succ_of_le (cutTo_len h)
section
variable {P : Program} {w : World} {K : PySem.W.Frag} {mg : Str → Option Value} {base : Heap} {C : Addr}
theorem ok_behind {f q : Addr} {fd qd : FuncData} {k : Nat} (F : Fun K "behind" "Teller.behind" sBehind f fd) (Q : CutAt K mg q qd) : FnOk P w K mg base CX0 (k + 2) f fd ["self", "statement", "path", "at", "frames"] (SpML K C FBehind) := by
  have G : FnOk P w K mg base CX0 (k + 1) q qd ["frames", "kind"] (SpL K FCut) := ok_cut Q.F Q.lst
  refine fnML F scBehind (by decide) (fun g ds r h => ?_) fun cdv A outer s H E hr B D p g ds r hT h hR => ?_
  · obtain ⟨_, _, _, _, _, rfl, _⟩ := h
    rfl
  · obtain ⟨st, path, at_, fs, r, rfl, hb, rfl, hl, hp⟩ := h
    cases st with
    | loop b =>
      rw [encS]
      have e : ⟨path ++ [at_, 0], 0, .loop⟩ :: fs = r := Option.some.inj hb
      subst e
      refine sCons (iSet 5 (xIxT (xv 1 rfl) xInt (d := .str "loop") rfl) ?_ scBehind.nd)
      refine sIfT (tEqS (xv 5 rfl) xStr) (by decide +kernel) ?_
      refine sCons (iRetO ((xCatL (xv 4 rfl) (XO.d (xLst (xCons (xTup (xCons (xCatT (xv 2 rfl) (xTup (xCons (xv 3 rfl) (xCons xInt xNil)) (by show 2 ≤ 100000; decide)) ?_) (xCons xInt (xCons xStr xNil))) (by show 3 ≤ 100000; decide)) xNil) (by show 1 ≤ 100000; decide))) ?_).is ?_) hR)
      · rw [List.length_map]
        show path.length + 2 ≤ 100000
        omega
      · rw [frD_len]
        show fs.length + 1 ≤ 100000
        omega
      · rw [frD_cons]
        show _ ++ [PyData.tuple [.tuple (path.map natD ++ [.int (at_ : Int), .int 0]), .int 0, .str "loop"]] = _ ++ [PyData.tuple [.tuple ((path ++ [at_, 0]).map natD), .int ((0 : Nat) : Int), .str Kd.loop.s]]
        rw [List.map_append]
        rfl
    | again =>
      rw [encS]
      rw [behind] at hb
      cases hc : cutTo .loop fs with
      | none => rw [hc] at hb; cases hb
      | some r1 =>
        cases r1 with
        | nil => rw [hc] at hb; cases hb
        | cons g1 r1 =>
          rw [hc] at hb
          have e : ⟨g1.path, 0, .loop⟩ :: r1 = r := Option.some.inj hb
          subst e
          have hlen := cutTo_len hc
          rw [List.length_cons] at hlen
          refine sCons (iSet 5 (xIxT (xv 1 rfl) xInt (d := .str "again") rfl) ?_ scBehind.nd)
          refine sIfF (tEqS (xv 5 rfl) xStr) (by decide +kernel) ?_
          refine sIfF (tEqS (xv 5 rfl) xStr) (by decide +kernel) ?_
          refine sIfT (tEqS (xv 5 rfl) xStr) (by decide +kernel) ?_
          refine sCons (iSetO 6 (xCallO (CX := CX0) G hr rfl Q.m Q.F.kp Q.b (xCons (xv 4 rfl) (xCons xStr xNil)) ⟨fs, g1 :: r1, .loop, rfl, hc, rfl, by omega⟩) ?_ scBehind.nd)
          rw [frD_cons]
          refine frz 6 rfl ?_
          refine sCons (iRetO ((xCatL (XO.d (xSlL (xv 6 rfl) poNone (poSome (xNeg xInt)))) (XO.d (xLst (xCons (xTup (xCons (xIxT (xIxL (xv 6 rfl) (xNeg xInt) (d := g1.d) (atI_last _ _)) xInt (d := .tuple (g1.path.map natD)) rfl) (xCons xInt (xCons xStr xNil))) (by show 3 ≤ 100000; decide)) xNil) (by show 1 ≤ 100000; decide))) ?_).is ?_) hR)
          · rw [cut_last, frD_len]
            show r1.length + 1 ≤ 100000
            omega
          · rw [cut_last, frD_cons]
            rfl
    | leave =>
      rw [encS]
      rw [behind] at hb
      cases hc : cutTo .loop fs with
      | none => rw [hc] at hb; cases hb
      | some r1 =>
        cases r1 with
        | nil => rw [hc] at hb; cases hb
        | cons g1 r1 =>
          rw [hc] at hb
          have e : r1 = r := Option.some.inj hb
          subst e
          refine sCons (iSet 5 (xIxT (xv 1 rfl) xInt (d := .str "leave") rfl) ?_ scBehind.nd)
          refine sIfF (tEqS (xv 5 rfl) xStr) (by decide +kernel) ?_
          refine sIfF (tEqS (xv 5 rfl) xStr) (by decide +kernel) ?_
          refine sIfF (tEqS (xv 5 rfl) xStr) (by decide +kernel) ?_
          refine sIfT (tEqS (xv 5 rfl) xStr) (by decide +kernel) ?_
          refine sCons (iRetO (XO.is (xSlL (XO.d (xCallO (CX := CX0) G hr rfl Q.m Q.F.kp Q.b (xCons (xv 4 rfl) (xCons xStr xNil)) ⟨fs, g1 :: r1, .loop, rfl, hc, rfl, by omega⟩)) poNone (poSome (xNeg xInt))) ?_) hR)
          rw [frD_cons]
          exact cut_last _ _
    | stop =>
      rw [encS]
      have e : [] = r := Option.some.inj hb
      subst e
      refine sCons (iSet 5 (xIxT (xv 1 rfl) xInt (d := .str "stop") rfl) ?_ scBehind.nd)
      refine sIfF (tEqS (xv 5 rfl) xStr) (by decide +kernel) ?_
      refine sIfF (tEqS (xv 5 rfl) xStr) (by decide +kernel) ?_
      refine sIfF (tEqS (xv 5 rfl) xStr) (by decide +kernel) ?_
      refine sIfF (tEqS (xv 5 rfl) xStr) (by decide +kernel) ?_
      refine sIfF (tEqS (xv 5 rfl) xStr) (by decide +kernel) ?_
      exact sCons (iRetO (xLst xNil (by decide)) hR)
    | _ => cases hb
end
/-! ### put_in -/
def FPut (g : Prg) (ds : List PyData) (r : PyData) : Prop := ∃ (e : Ex) (v : Int), ds = [.tuple [.int v], .str "n", e.d] ∧ e.dep ≤ 1 ∧ 0 < g.size ∧ r = .tuple [.int (e.val v % (g.size : Int))]
theorem scPutIn : FnScope ["self", "values", "name", "expression", "names", "at", "new", "box"] ["self", "values", "name", "expression"] (defScope sPutIn) := ⟨rfl, rfl, rfl, by decide +kernel, rfl, by decide +kernel, by decide +kernel⟩
section
variable {P : Program} {w : World} {K : PySem.W.Frag} {mg : Str → Option Value} {base : Heap} {C : Addr}
theorem ok_put {f q : Addr} {fd qd : FuncData} (F : Fun K "put_in" "Teller.put_in" sPutIn f fd) (T : TxtT K C) (Q : WorthAt K mg q qd) : FnOk P w K mg base CX0 3 f fd ["self", "values", "name", "expression"] (SpM K C FPut) := by
  have G := ok_worth (P := P) (w := w) (base := base) Q 1
  refine fnM F scPutIn (by decide) (fun g ds r h => ?_) fun cdv A outer s H E hr B D p g ds r hT h hR => ?_
  · obtain ⟨_, _, rfl, _⟩ := h
    rfl
  · obtain ⟨e, v, rfl, hd, h0, rfl⟩ := h
    have hu := hu65 hr
    refine sCons (iLcT 4 [("box", 7)] (xBoxes (xraw 0 rfl) T hT) (blkOk_by (N := ["self", "values", "name", "expression", "names", "at", "new", "box"]) (sc := defScope sPutIn) (by decide +kernel))
      (fun _ _ _ _ _ => pg_name (i := 7) scPutIn.nd rfl (Or.inl rfl)) (fun _ _ _ _ _ => pts_nil) (te := tOp (rIxT K) (tVar 7) (tC (.int 0))) (fun _ _ _ _ _ => pe_ix ix_tup (pv 7) pe_int (fun _ _ => rfl))
      tgtName (keep := fun _ => true) (rf := firstD) (by decide) (by show 1 ≤ 100000; decide) (fun d hd => ?_) ?_ scPutIn.nd (sw_true rfl rfl rfl (by decide +kernel)))
    · have e := List.mem_singleton.mp hd
      subst e
      exact ⟨[_], rfl, evYes, fun _ => evOp (evVar rfl) (evC (d := .int 0) rfl) (rkIxT rfl)⟩
    · rw [lcRes_all]
      refine frz 4 rfl ?_
      refine sCons (iSet 5 (xIndex hu (xv 4 rfl) (xv 2 rfl) (n_shp.ok (by decide)) (by decide +kernel) (j := 0) (z := .str "n") rfl (by decide +kernel) (fun m z hm => by omega)) ?_ scPutIn.nd)
      refine sCons (iSet 6 (xMod (xCall (CX := CX0) G hr rfl Q.m Q.F.kp Q.b (xCons (xv 3 rfl) (xCons (xBoxes (xraw 0 rfl) T hT) (xCons (xv 1 rfl) xNil))) (spD_ok ⟨e, g.size, v, rfl, hd, rfl⟩)) (xIxT (xIxT (xBoxes (xraw 0 rfl) T hT) (xv 5 rfl) (d := .tuple [.str "n", .int (g.size : Int)]) rfl) xInt (d := .int (g.size : Int)) rfl) (by omega)) ?_ scPutIn.nd)
      exact sCons (iRet (xCatT (xCatT (xSlT (xv 1 rfl) poNone (poSome (xv 5 rfl))) (xTup (xCons (xv 6 rfl) xNil) (by show 1 ≤ 100000; decide)) (by show 1 ≤ 100000; decide)) (xSlT (xv 1 rfl) (poSome (xAdd (xv 5 rfl) xInt)) poNone) (by show 1 ≤ 100000; decide)) hR)
end
end Cm

/-! go. -/
namespace Cm
open PySem PySem.Spec PyProof.Rows L2
structure Stand where
  fs : List Fr
  v : Int
  left : Int
abbrev Res := List Str × Option Stand
def saidD (said : List Str) : List PyData := said.map PyData.str
def standD : Option Stand → PyData
  | none => .none
  | some s => .tuple [.tuple (frD s.fs), .tuple [.int s.v], .int s.left]
def resD (r : Res) : PyData := .tuple [.list (saidD r.1), standD r.2]
def goN (g : Prg) : Nat → List Fr → Int → List Str → Option Res
  | 0, _, _, _ => none
  | _ + 1, [], _, said => some (said, none)
  | n + 1, f :: fs, v, said =>
    if 500 < f.path.length then none else
    match bodyAt g.main f.path with
    | none => none
    | some b =>
      if f.at_ = b.length then
        match f.kind with
        | .loop => goN g n (⟨f.path, 0, .loop⟩ :: fs) v said
        | _ => goN g n fs v said
      else
        match b[f.at_]? with
        | none => none
        | some st =>
          match st with
          | .wait lim _ => some (said, some ⟨⟨f.path, f.at_ + 1, f.kind⟩ :: fs, v, lim⟩)
          | .say w => goN g n (⟨f.path, f.at_ + 1, f.kind⟩ :: fs) v (said ++ [w])
          | .hand l => goN g n (⟨f.path, f.at_ + 1, f.kind⟩ :: fs) v (said ++ [handS (l.val : Int) "c"])
          | .put e => if e.dep ≤ 1 then goN g n (⟨f.path, f.at_ + 1, f.kind⟩ :: fs) (e.val v % (g.size : Int)) said else none
          | .test a b _ _ => if a.dep ≤ 1 ∧ b.dep ≤ 1 then goN g n (⟨f.path ++ [f.at_, if a.val v = b.val v then 0 else 1], 0, .block⟩ :: ⟨f.path, f.at_ + 1, f.kind⟩ :: fs) v said else none
          | .loop b => match behind (.loop b) f.path f.at_ (⟨f.path, f.at_ + 1, f.kind⟩ :: fs) with
            | none => none
            | some fs2 => goN g n fs2 v said
          | .again => match behind .again f.path f.at_ (⟨f.path, f.at_ + 1, f.kind⟩ :: fs) with
            | none => none
            | some fs2 => goN g n fs2 v said
          | .leave => match behind .leave f.path f.at_ (⟨f.path, f.at_ + 1, f.kind⟩ :: fs) with
            | none => none
            | some fs2 => goN g n fs2 v said
          | .stop => match behind .stop f.path f.at_ (⟨f.path, f.at_ + 1, f.kind⟩ :: fs) with
            | none => none
            | some fs2 => goN g n fs2 v said
def without (H : Hp) (l : Addr) : Hp := fun a => if a = l then none else H a
theorem without_at {H : Hp} {l : Addr} : without H l l = none := if_pos rfl
theorem without_ne {H : Hp} {l a : Addr} (h : a ≠ l) : without H l a = H a := if_neg h
theorem without_same {H : Hp} {l : Addr} : Same (without H l) H := fun a o e => by
  by_cases c : a = l
  · subst c; rw [without_at] at e; cases e
  · rw [without_ne c] at e; exact e
def SpGo (K : PySem.W.Frag) (C : Addr) : Sp := fun vs H Q _ => ∃ (Hf : Hp) (p l : Addr) (g : Prg) (lvs : List V) (v : V) (fs : List Fr) (n : Int) (m : Nat) (res : Res), vs = [.ref p, .ref l, v] ∧ Same Hf H ∧ TAt K C Hf p g ∧ Hf l = none ∧ H l = some (.lst lvs) ∧ Das K Hf lvs (frD fs) ∧ Da K Hf v (.tuple [.int n]) ∧
  goN g m fs n [] = some res ∧ fs.length + 2 * m ≤ 3000 ∧ 0 < g.size ∧ ∀ u Hf' H', Fz Hf (without H l) Hf' H' → Da K Hf' u (resD res) → Q u H'
theorem scGo : FnScope ["self", "frames", "values", "said", "path", "at", "kind", "body", "statement", "word", "way"] ["self", "frames", "values"] (defScope sGo) := ⟨rfl, rfl, rfl, by decide +kernel, rfl, by decide +kernel, by decide +kernel⟩
structure HandAt (K : PySem.W.Frag) (mg : Str → Option Value) (f : Addr) (fd : FuncData) : Prop where
  F : Fun K "hand_text" "hand_text" sHandText f fd
  b : Binds K fd ["line", "word"] []
  m : mg "hand_text" = some (.ref f)
  ms : mg "str" = none
structure HoldsAt (K : PySem.W.Frag) (mg : Str → Option Value) (f : Addr) (fd : FuncData) : Prop where
  F : Fun K "holds" "holds" sHolds f fd
  b : Binds K fd ["condition", "boxes", "values"] []
  m : mg "holds" = some (.ref f)
structure MethAt (K : PySem.W.Frag) (C : Addr) (m q : Str) (st : Stmt) (ps : List Str) (f : Addr) (fd : FuncData) : Prop where
  F : Fun K m q st f fd
  b : Binds K fd ps []
  M : Meth K C m f
theorem fr_shp {f : Fr} : Shp 2 f.d := by
  refine Shp.tup fun d hd => ?_
  rcases List.mem_cons.mp hd with e | hd
  · subst e
    refine Shp.tup fun d hd => ?_
    obtain ⟨n, _, rfl⟩ := List.mem_map.mp hd
    exact Shp.int _
  · rcases List.mem_cons.mp hd with e | hd
    · subst e; exact (Shp.int _).mono (by decide)
    · rcases List.mem_cons.mp hd with e | hd
      · subst e
        cases f.kind <;> exact ⟨by decide +kernel, by decide +kernel⟩
      · cases hd
theorem frs_shp (fs : List Fr) : Shp 3 (.list (frD fs)) := Shp.lst fun d hd => by
  obtain ⟨f, _, rfl⟩ := List.mem_map.mp hd
  exact fr_shp
theorem frD_nil_eqv (fs : List Fr) : (!PyData.eqv (.list (frD fs)) (.list [])) = !fs.isEmpty := by
  cases fs with
  | nil => simp only [eqv_list, frD, List.reverse_nil, List.map_nil, eqvAll_nil, List.isEmpty_nil]
  | cons f r =>
    have h : ∃ x xs, frD (f :: r) = x :: xs := by
      cases e : frD (f :: r) with
      | nil =>
        have := frD_len (f :: r)
        rw [e] at this
        cases this
      | cons x xs => exact ⟨x, xs, rfl⟩
    obtain ⟨x, xs, e⟩ := h
    rw [e, eqv_list, eqvAll_cn]
    rfl
section
variable {P : Program} {w : World} {K : PySem.W.Frag} {mg : Str → Option Value} {base : Heap} {C : Addr}
theorem behind_len {st : Stm} {path : List Nat} {at_ : Nat} {f : Fr} {fs r : List Fr} (h : behind st path at_ (f :: fs) = some r) : r.length ≤ fs.length + 2 := by
  cases st with
  | loop b => cases h; rw [List.length_cons, List.length_cons]; omega
  | again =>
    rw [behind] at h
    cases hc : cutTo .loop (f :: fs) with
    | none => rw [hc] at h; cases h
    | some r1 =>
      have hl := cutTo_len hc
      cases r1 with
      | nil => rw [hc] at h; cases h
      | cons g1 r1 =>
        rw [hc] at h
        cases h
        rw [List.length_cons, List.length_cons] at hl
        rw [List.length_cons]
        omega
  | leave =>
    rw [behind] at h
    cases hc : cutTo .loop (f :: fs) with
    | none => rw [hc] at h; cases h
    | some r1 =>
      have hl := cutTo_len hc
      cases r1 with
      | nil => rw [hc] at h; cases h
      | cons g1 r1 =>
        rw [hc] at h
        cases h
        rw [List.length_cons, List.length_cons] at hl
        omega
  | stop => cases h; exact Nat.zero_le _
  | _ => cases h
/-- the slots of go -/
def gE (p : Addr) (fs : List Fr) (n : Int) (said : List Str) (xs : List Sl) : List Sl := .raw (.ref p) :: .own (frD fs) :: .d (.tuple [.int n]) :: .own (saidD said) :: xs
theorem ok_go {f fB fE fP fH fO : Addr} {fd dB dE dP dH dO : FuncData} {fw fq fc : Addr} {dw dq dc : FuncData} (F : Fun K "go" "Teller.go" sGo f fd) (T : TxtT K C) (HA : HandAt K mg fH dH) (HO : HoldsAt K mg fO dO) (W : WorthAt K mg fw dw) (Qp : PartAt K mg fq dq) (Qc : CutAt K mg fc dc)
    (MB : MethAt K C "body_at" "Teller.body_at" sBodyAt ["self", "path"] fB dB) (ME : MethAt K C "behind" "Teller.behind" sBehind ["self", "statement", "path", "at", "frames"] fE dE) (MP : MethAt K C "put_in" "Teller.put_in" sPutIn ["self", "values", "name", "expression"] fP dP)
    (mr : mg "range" = none) (ml : mg "len" = none) (mt : mg "tuple" = none) (mi : mg "int" = none) : FnOk P w K mg base CX0 4 f fd ["self", "frames", "values"] (SpGo K C) := by
  have GB : FnOk P w K mg base CX0 3 fB dB ["self", "path"] (SpM K C FBody) := ok_body MB.F T Qp mr ml
  have GE : FnOk P w K mg base CX0 3 fE dE ["self", "statement", "path", "at", "frames"] (SpML K C FBehind) := ok_behind ME.F Qc
  have GP : FnOk P w K mg base CX0 3 fP dP ["self", "values", "name", "expression"] (SpM K C FPut) := ok_put MP.F T W
  have GH : FnOk P w K mg base CX0 3 fH dH ["line", "word"] (SpD K FHand) := ok_hand HA.F HA.ms
  have GO : FnOk P w K mg base CX0 3 fO dO ["condition", "boxes", "values"] (SpD K (FHolds 1)) := ok_holds HO.F W
  refine F.ok scGo (fun vs H Q E h => ?_) (fun cdv A outer s H vs Q E hr h => ?_)
  · obtain ⟨_, _, _, _, _, _, _, _, _, _, rfl, _⟩ := h
    rfl
  obtain ⟨Hf, p, l, g, lvs, v, fs, n, m, res, rfl, hs, hT, hl0, hl1, hlv, hv, hgo, hm, hg0, q⟩ := h
  have hB : TAt K C (Bs.fb ⟨Hf, without H l⟩) p g := hT
  suffices hb : XS (BX P w K mg base ["self", "frames", "values", "said", "path", "at", "kind", "body", "statement", "word", "way"] "Teller.go" sGo f cdv A outer s H E) ⟨Hf, without H l⟩
      [.raw (.ref p), .own (frD fs), .d (.tuple [.int n]), .no, .no, .no, .no, .no, .no, .no, .no] (defBody sGo) { nx := fun _ H' => Q .non H', rt := Q } by
    obtain ⟨t, h1, h2⟩ := hb Hf H [some (.ref p), some (.ref l), some v, none, none, none, none, none, none, none, none] (by
      have sm : Same Hf (without H l) := fun a o e => by
        rw [without_ne (ne_of_none e hl0)]
        exact hs a o e
      refine ⟨⟨Same.refl _, without_same, hs, fun _ _ z => z⟩, rfl, fun i x o e1 e2 => ?_, fun i j xs ys b hij e1 e2 _ _ => ?_⟩
      · match i with
        | 0 => cases e1; cases e2; exact rfl
        | 1 => cases e1; cases e2; exact ⟨l, lvs, rfl, without_at, hl0, hl1, hlv⟩
        | 2 => cases e1; cases e2; exact ⟨v, rfl, hv⟩
        | 3 | 4 | 5 | 6 | 7 | 8 | 9 | 10 => cases e1; exact trivial
        | i + 11 => cases e1
      · match i, j with
        | 1, 1 => exact hij rfl
        | 0, _ | 2, _ | 3, _ | 4, _ | 5, _ | 6, _ | 7, _ | 8, _ | 9, _ | 10, _ => cases e1
        | i + 11, _ => cases e1
        | 1, 0 | 1, 2 | 1, 3 | 1, 4 | 1, 5 | 1, 6 | 1, 7 | 1, 8 | 1, 9 | 1, 10 => cases e2
        | 1, j + 11 => cases e2)
    exact ⟨t, h1, h2⟩
  have hR : RetD K ⟨Hf, without H l⟩ { nx := fun _ H' => Q .non H', rt := Q } (resD res) := fun u Hf' H' e hd => q u Hf' H' e hd
  generalize hBdef : (⟨Hf, without H l⟩ : Bs) = B at hB hR
  generalize hDdef : ({ nx := fun _ H' => Q .non H', rt := Q } : Ends) = D at hR
  clear q hBdef hDdef
  refine sCons (iSetO 3 (xLst xNil (by decide)) ?_ scGo.nd)
  refine sCons (iWhile (fun m ε => ∃ (fs : List Fr) (n : Int) (said : List Str) (x4 x5 x6 x7 x8 x9 x10 : Sl), fs.length + 2 * m ≤ 3000 ∧ said.length + m ≤ 3000 ∧ goN g m fs n said = some res ∧ ε = gE p fs n said [x4, x5, x6, x7, x8, x9, x10])
    m ⟨fs, n, [], .no, .no, .no, .no, .no, .no, .no, hm, by show 0 + m ≤ 3000; omega, hgo, rfl⟩ (fun m ε hI => ?_) PassesOwn.never)
  obtain ⟨fs, n, said, x4, x5, x6, x7, x8, x9, x10, h1, h2, h3, he⟩ := hI
  subst he
  refine ⟨!fs.isEmpty, ?_, fun hb => ?_, fun hb => ?_⟩
  · rw [← frD_nil_eqv]
    exact evOwnT (i := 1) rfl (tNeD hr.units (xv 1 rfl) (XO.d (xLst xNil (by decide))) ((frs_shp fs).ok (by decide)) (Shp.nil (n := 3) |>.ok (by decide)))
  · cases fs with
    | nil => cases hb
    | cons f0 fs =>
      cases m with
      | zero => rw [goN] at h3; cases h3
      | succ m =>
        rw [goN] at h3
        by_cases hp5 : 500 < f0.path.length
        · rw [if_pos hp5] at h3; cases h3
        rw [if_neg hp5] at h3
        cases hbd : bodyAt g.main f0.path with
        | none => rw [hbd] at h3; cases h3
        | some b =>
          rw [hbd] at h3
          simp only at h3
          rw [List.length_cons] at h1
          intro N hN
          have next : ∀ (fs' : List Fr) (n' : Int) (said' : List Str) (x4 x5 x6 x7 x8 x9 x10 : Sl), fs'.length + 2 * m ≤ 3000 → said'.length + m ≤ 3000 → goN g m fs' n' said' = some res → OkN K B (gE p fs' n' said' [x4, x5, x6, x7, x8, x9, x10]) N :=
            fun fs' n' said' x4 x5 x6 x7 x8 x9 x10 k1 k2 k3 => hN _ ⟨m, Nat.lt_succ_self _, fs', n', said', x4, x5, x6, x7, x8, x9, x10, k1, k2, k3, rfl⟩
          unfold gE
          rw [frD_cons]
          refine sCons (iPopAsg 1 (pg_tup rfl (pgs_cons (pg_name (i := 4) scGo.nd rfl (Or.inl rfl)) (pgs_cons (pg_name (i := 5) scGo.nd rfl (Or.inl rfl)) (pgs_cons (pg_name (i := 6) scGo.nd rfl (Or.inl rfl)) pgs_nil)))) (tgtTup (is := [4, 5, 6]) rfl) rfl rfl ?_)
          refine sCons (iSet 7 (xMeth (xraw 0 rfl) T.cl MB.M GB hr MB.b hB (by decide +kernel) (xCons (xv 4 rfl) xNil) (spM_ok hB ⟨f0.path, b, rfl, hbd, rfl, by omega⟩)) ?_ scGo.nd)
          by_cases hat : f0.at_ = b.length
          · rw [if_pos hat] at h3
            refine sIfT (tEqI (xv 5 rfl) (xLen rfl ml (xv 7 rfl) rfl)) (decide_eq_true (by rw [encB_map, List.length_map, hat])) ?_
            cases hk : f0.kind with
            | loop =>
              rw [hk] at h3
              refine sIfT (tEqS (xv 6 rfl) xStr) (by decide +kernel) ?_
              refine sCons (iApp 1 rfl (xTup (xCons (xv 4 rfl) (xCons xInt (xCons (xv 6 rfl) xNil))) (by show 3 ≤ 100000; decide)) (by rw [frD_len]; omega) ?_)
              refine sNil (sCons (iCont ?_))
              have nn := next (⟨f0.path, 0, .loop⟩ :: fs) n said (.d (.tuple (f0.path.map natD))) (.d (.int (f0.at_ : Int))) (.d (.str Kd.loop.s)) (.d (.tuple (encB b))) x8 x9 x10 (by rw [List.length_cons]; omega) (by omega) h3
              unfold gE at nn
              rw [frD_cons] at nn
              exact nn
            | talk =>
              rw [hk] at h3
              refine sIfF (tEqS (xv 6 rfl) xStr) (by decide +kernel) ?_
              exact sCons (iCont (next fs n said (.d (.tuple (f0.path.map natD))) (.d (.int (f0.at_ : Int))) (.d (.str (Kd.s _))) (.d (.tuple (encB b))) x8 x9 x10 (by omega) (by omega) h3))
            | block =>
              rw [hk] at h3
              refine sIfF (tEqS (xv 6 rfl) xStr) (by decide +kernel) ?_
              exact sCons (iCont (next fs n said (.d (.tuple (f0.path.map natD))) (.d (.int (f0.at_ : Int))) (.d (.str (Kd.s _))) (.d (.tuple (encB b))) x8 x9 x10 (by omega) (by omega) h3))
          · rw [if_neg hat] at h3
            refine sIfF (tEqI (xv 5 rfl) (xLen rfl ml (xv 7 rfl) rfl)) (decide_eq_false (by rw [encB_map, List.length_map]; omega)) ?_
            cases hst : b[f0.at_]? with
            | none => rw [hst] at h3; cases h3
            | some st =>
              rw [hst] at h3
              simp only at h3
              have hix : atI (encB b) (f0.at_ : Int) = some (encS st) := atI_nat (by rw [encB_map, List.getElem?_map, hst]; rfl)
              refine sCons (iSet 8 (xIxT (xv 7 rfl) (xv 5 rfl) hix) ?_ scGo.nd)
              refine sCons (iApp 1 rfl (xTup (xCons (xv 4 rfl) (xCons (xAdd (xv 5 rfl) xInt) (xCons (xv 6 rfl) xNil))) (by show 3 ≤ 100000; decide)) (by rw [frD_len]; omega) ?_)
              have efr : frD fs ++ [PyData.tuple [.tuple (f0.path.map natD), .int ((f0.at_ : Int) + 1), .str f0.kind.s]] = frD (⟨f0.path, f0.at_ + 1, f0.kind⟩ :: fs) := by rw [frD_cons]; rfl
              refine (show OkN _ B [.raw (.ref p), .own (frD fs ++ [PyData.tuple [.tuple (f0.path.map natD), .int ((f0.at_ : Int) + 1), .str f0.kind.s]]), .d (.tuple [.int n]), .own (saidD said), .d (.tuple (f0.path.map natD)), .d (.int (f0.at_ : Int)), .d (.str f0.kind.s), .d (.tuple (encB b)), .d (encS st), x9, x10] _ from ?_)
              rw [efr]
              have hfl : (frD (⟨f0.path, f0.at_ + 1, f0.kind⟩ :: fs)).length = fs.length + 1 := frD_len _
              by_cases hj : ∃ (wd : Str) (rest : List PyData) (fs2 : List Fr), encS st = .tuple (.str wd :: rest) ∧ decide (wd = ("wait" : Str)) = false ∧ decide (wd = ("say" : Str)) = false ∧ decide (wd = ("hand" : Str)) = false ∧ decide (wd = ("put" : Str)) = false ∧ decide (wd = ("test" : Str)) = false ∧
                  behind st f0.path f0.at_ (⟨f0.path, f0.at_ + 1, f0.kind⟩ :: fs) = some fs2 ∧ fs2.length ≤ fs.length + 2 ∧ goN g m fs2 n said = some res
              · obtain ⟨wd, rest, fs2, es, n1, n2, n3, n4, n5, hbh, hl2, h3⟩ := hj
                refine sCons (iSet 9 (xIxT (XD.is (xv 8 rfl) es) xInt (atI_of (j := 0) rfl rfl)) ?_ scGo.nd)
                refine sIfF (tEqS (xv 9 rfl) xStr) n1 ?_
                refine sIfE (tEqS (xv 9 rfl) xStr) n2 ?_
                refine sIfE (tEqS (xv 9 rfl) xStr) n3 ?_
                refine sIfE (tEqS (xv 9 rfl) xStr) n4 ?_
                refine sIfE (tEqS (xv 9 rfl) xStr) n5 ?_
                refine frz 1 rfl ?_
                refine sCons (iSetO 1 (xMethO (xraw 0 rfl) T.cl ME.M GE hr ME.b hB (by decide +kernel) (xCons (xv 8 rfl) (xCons (xv 4 rfl) (xCons (xv 5 rfl) (xCons (xv 1 rfl) xNil)))) ⟨st, f0.path, f0.at_, _, fs2, rfl, hbh, rfl, by rw [List.length_cons]; omega, by omega⟩) ?_ scGo.nd)
                refine sNil (sNil (sNil (sNil (sNil ?_))))
                exact next fs2 n said _ _ _ _ _ _ _ (by omega) (by omega) h3
              cases st with
              | wait lim brs =>
                cases h3
                rw [encS]
                refine sCons (iSet 9 (xIxT (xv 8 rfl) xInt (d := .str "wait") rfl) ?_ scGo.nd)
                refine sIfT (tEqS (xv 9 rfl) xStr) (by decide +kernel) ?_
                refine frz 1 rfl (frz 3 rfl ?_)
                exact sCons (iRet (xTup (xCons (xv 3 rfl) (xCons (xTup (xCons (xTupleOf rfl mt (xv 1 rfl)) (xCons (xv 2 rfl) (xCons (xIxT (xv 8 rfl) xInt (d := .int lim) rfl) xNil))) (by show 3 ≤ 100000; decide)) xNil)) (by show 2 ≤ 100000; decide)) hR)
              | say w =>
                rw [encS]
                refine sCons (iSet 9 (xIxT (xv 8 rfl) xInt (d := .str "say") rfl) ?_ scGo.nd)
                refine sIfF (tEqS (xv 9 rfl) xStr) (by decide +kernel) ?_
                refine sIfT (tEqS (xv 9 rfl) xStr) (by decide +kernel) ?_
                refine sCons (iApp 3 rfl (xIxT (xv 8 rfl) xInt (d := .str w) rfl) (by rw [saidD, List.length_map]; omega) ?_)
                refine sNil (sNil ?_)
                have nn := next (⟨f0.path, f0.at_ + 1, f0.kind⟩ :: fs) n (said ++ [w]) (.d (.tuple (f0.path.map natD))) (.d (.int (f0.at_ : Int))) (.d (.str f0.kind.s)) (.d (.tuple (encB b))) (.d (.tuple [.str "say", .str w])) (.d (.str "say")) x10 (by rw [List.length_cons]; omega) (by rw [List.length_append, List.length_singleton]; omega) h3
                unfold gE saidD at nn
                rw [List.map_append] at nn
                exact nn
              | hand l =>
                rw [encS]
                refine sCons (iSet 9 (xIxT (xv 8 rfl) xInt (d := .str "hand") rfl) ?_ scGo.nd)
                refine sIfF (tEqS (xv 9 rfl) xStr) (by decide +kernel) ?_
                refine sIfE (tEqS (xv 9 rfl) xStr) (by decide +kernel) ?_
                refine sIfT (tEqS (xv 9 rfl) xStr) (by decide +kernel) ?_
                refine sCons (iApp 3 rfl (xCall (CX := CX0) GH hr rfl HA.m HA.F.kp HA.b (xCons (xIxT (xv 8 rfl) xInt (d := .int (l.val : Int)) rfl) (xCons (xIxT (xv 8 rfl) xInt (d := .str "c") rfl) xNil)) (spD_ok ⟨(l.val : Int), "c", rfl, rfl, by omega, by omega, by decide⟩)) (by rw [saidD, List.length_map]; omega) ?_)
                refine sNil (sNil (sNil ?_))
                have nn := next (⟨f0.path, f0.at_ + 1, f0.kind⟩ :: fs) n (said ++ [handS (l.val : Int) "c"]) (.d (.tuple (f0.path.map natD))) (.d (.int (f0.at_ : Int))) (.d (.str f0.kind.s)) (.d (.tuple (encB b))) (.d (.tuple [.str "hand", .int (l.val : Int), .str "c"])) (.d (.str "hand")) x10 (by rw [List.length_cons]; omega) (by rw [List.length_append, List.length_singleton]; omega) h3
                unfold gE saidD at nn
                rw [List.map_append] at nn
                exact nn
              | put e =>
                rw [encS]
                have h3 : (if e.dep ≤ 1 then goN g m (⟨f0.path, f0.at_ + 1, f0.kind⟩ :: fs) (e.val n % (g.size : Int)) said else none) = some res := h3
                by_cases hdep : e.dep ≤ 1
                · rw [if_pos hdep] at h3
                  refine sCons (iSet 9 (xIxT (xv 8 rfl) xInt (d := .str "put") rfl) ?_ scGo.nd)
                  refine sIfF (tEqS (xv 9 rfl) xStr) (by decide +kernel) ?_
                  refine sIfE (tEqS (xv 9 rfl) xStr) (by decide +kernel) ?_
                  refine sIfE (tEqS (xv 9 rfl) xStr) (by decide +kernel) ?_
                  refine sIfT (tEqS (xv 9 rfl) xStr) (by decide +kernel) ?_
                  refine sCons (iSet 2 (xMeth (xraw 0 rfl) T.cl MP.M GP hr MP.b hB (by decide +kernel) (xCons (xv 2 rfl) (xCons (xIxT (xv 8 rfl) xInt (d := .str "n") rfl) (xCons (xIxT (xv 8 rfl) xInt (d := e.d) rfl) xNil))) (spM_ok hB ⟨e, n, rfl, hdep, hg0, rfl⟩)) ?_ scGo.nd)
                  refine sNil (sNil (sNil (sNil ?_)))
                  exact next (⟨f0.path, f0.at_ + 1, f0.kind⟩ :: fs) (e.val n % (g.size : Int)) said (.d (.tuple (f0.path.map natD))) (.d (.int (f0.at_ : Int))) (.d (.str f0.kind.s)) (.d (.tuple (encB b))) (.d (.tuple [.str "put", .str "n", e.d])) (.d (.str "put")) x10 (by rw [List.length_cons]; omega) (by omega) h3
                · rw [if_neg hdep] at h3; cases h3
              | test ea eb tb fb =>
                rw [encS]
                have h3 : (if ea.dep ≤ 1 ∧ eb.dep ≤ 1 then goN g m (⟨f0.path ++ [f0.at_, if ea.val n = eb.val n then 0 else 1], 0, .block⟩ :: ⟨f0.path, f0.at_ + 1, f0.kind⟩ :: fs) n said else none) = some res := h3
                by_cases hdep : ea.dep ≤ 1 ∧ eb.dep ≤ 1
                · rw [if_pos hdep] at h3
                  refine sCons (iSet 9 (xIxT (xv 8 rfl) xInt (d := .str "test") rfl) ?_ scGo.nd)
                  refine sIfF (tEqS (xv 9 rfl) xStr) (by decide +kernel) ?_
                  refine sIfE (tEqS (xv 9 rfl) xStr) (by decide +kernel) ?_
                  refine sIfE (tEqS (xv 9 rfl) xStr) (by decide +kernel) ?_
                  refine sIfE (tEqS (xv 9 rfl) xStr) (by decide +kernel) ?_
                  refine sIfT (tEqS (xv 9 rfl) xStr) (by decide +kernel) ?_
                  refine sCons (iSet 10 (xIntB rfl mi (vNot (xCall (CX := CX0) GO hr rfl HO.m HO.F.kp HO.b (xCons (xIxT (xv 8 rfl) xInt (d := .tuple [.str "same", ea.d, eb.d]) rfl) (xCons (xBoxes (xraw 0 rfl) T hB) (xCons (xv 2 rfl) xNil))) (spD_ok ⟨ea, eb, g.size, n, rfl, hdep.1, hdep.2, rfl⟩)))) ?_ scGo.nd)
                  refine sCons (iApp 1 rfl (xTup (xCons (xCatT (xv 4 rfl) (xTup (xCons (xv 5 rfl) (xCons (xv 10 rfl) xNil)) (by show 2 ≤ 100000; decide)) (by rw [List.length_map]; show f0.path.length + 2 ≤ 100000; omega)) (xCons xInt (xCons xStr xNil))) (by show 3 ≤ 100000; decide)) (by rw [hfl]; omega) ?_)
                  refine sNil (sNil (sNil (sNil (sNil ?_))))
                  have nn := next (⟨f0.path ++ [f0.at_, if ea.val n = eb.val n then 0 else 1], 0, .block⟩ :: ⟨f0.path, f0.at_ + 1, f0.kind⟩ :: fs) n said (.d (.tuple (f0.path.map natD))) (.d (.int (f0.at_ : Int))) (.d (.str f0.kind.s)) (.d (.tuple (encB b))) (.d (.tuple [.str "test", .tuple [.str "same", ea.d, eb.d], .tuple (encB tb), .tuple (encB fb)])) (.d (.str "test"))
                    (.d (.int (if (!decide (ea.val n = eb.val n)) = true then 1 else 0))) (by rw [List.length_cons, List.length_cons]; omega) (by omega) h3
                  unfold gE at nn
                  rw [frD_cons (⟨f0.path ++ [f0.at_, if ea.val n = eb.val n then 0 else 1], 0, .block⟩ : Fr)] at nn
                  have ed : (⟨f0.path ++ [f0.at_, if ea.val n = eb.val n then 0 else 1], 0, .block⟩ : Fr).d = PyData.tuple [.tuple (f0.path.map natD ++ [.int (f0.at_ : Int), .int (if (!decide (ea.val n = eb.val n)) = true then 1 else 0)]), .int 0, .str "block"] := by
                    show PyData.tuple [.tuple ((f0.path ++ [f0.at_, if ea.val n = eb.val n then 0 else 1]).map natD), .int ((0 : Nat) : Int), .str Kd.block.s] = _
                    rw [List.map_append]
                    by_cases hc : ea.val n = eb.val n
                    · rw [if_pos hc, decide_eq_true hc]; rfl
                    · rw [if_neg hc, decide_eq_false hc]; rfl
                  rw [ed] at nn
                  exact nn
                · rw [if_neg hdep] at h3; cases h3
              | loop lb =>
                exfalso
                have h3 : (match behind (.loop lb) f0.path f0.at_ (⟨f0.path, f0.at_ + 1, f0.kind⟩ :: fs) with
                  | none => none
                  | some fs2 => goN g m fs2 n said) = some res := h3
                cases hbh : behind (.loop lb) f0.path f0.at_ (⟨f0.path, f0.at_ + 1, f0.kind⟩ :: fs) with
                | none => rw [hbh] at h3; cases h3
                | some fs2 =>
                  rw [hbh] at h3
                  exact hj ⟨"loop", _, fs2, by rw [encS], by decide +kernel, by decide +kernel, by decide +kernel, by decide +kernel, by decide +kernel, hbh, behind_len hbh, h3⟩
              | again =>
                exfalso
                have h3 : (match behind .again f0.path f0.at_ (⟨f0.path, f0.at_ + 1, f0.kind⟩ :: fs) with
                  | none => none
                  | some fs2 => goN g m fs2 n said) = some res := h3
                cases hbh : behind .again f0.path f0.at_ (⟨f0.path, f0.at_ + 1, f0.kind⟩ :: fs) with
                | none => rw [hbh] at h3; cases h3
                | some fs2 =>
                  rw [hbh] at h3
                  exact hj ⟨"again", _, fs2, by rw [encS], by decide +kernel, by decide +kernel, by decide +kernel, by decide +kernel, by decide +kernel, hbh, behind_len hbh, h3⟩
              | leave =>
                exfalso
                have h3 : (match behind .leave f0.path f0.at_ (⟨f0.path, f0.at_ + 1, f0.kind⟩ :: fs) with
                  | none => none
                  | some fs2 => goN g m fs2 n said) = some res := h3
                cases hbh : behind .leave f0.path f0.at_ (⟨f0.path, f0.at_ + 1, f0.kind⟩ :: fs) with
                | none => rw [hbh] at h3; cases h3
                | some fs2 =>
                  rw [hbh] at h3
                  exact hj ⟨"leave", _, fs2, by rw [encS], by decide +kernel, by decide +kernel, by decide +kernel, by decide +kernel, by decide +kernel, hbh, behind_len hbh, h3⟩
              | stop =>
                exfalso
                have h3 : (match behind .stop f0.path f0.at_ (⟨f0.path, f0.at_ + 1, f0.kind⟩ :: fs) with
                  | none => none
                  | some fs2 => goN g m fs2 n said) = some res := h3
                cases hbh : behind .stop f0.path f0.at_ (⟨f0.path, f0.at_ + 1, f0.kind⟩ :: fs) with
                | none => rw [hbh] at h3; cases h3
                | some fs2 =>
                  rw [hbh] at h3
                  exact hj ⟨"stop", _, fs2, by rw [encS], by decide +kernel, by decide +kernel, by decide +kernel, by decide +kernel, by decide +kernel, hbh, behind_len hbh, h3⟩
  · cases fs with
    | cons f0 fs => cases hb
    | nil =>
      cases m with
      | zero => rw [goN] at h3; cases h3
      | succ m =>
        rw [goN] at h3
        cases h3
        refine frz 3 rfl ?_
        exact sCons (iRet (xTup (xCons (xv 3 rfl) (xCons xNone xNil)) (by show 2 ≤ 100000; decide)) hR)
end
end Cm

/-! for i, x in enumerate(t), t a tuple. -/
namespace Cm
open PySem PySem.Spec PyProof.Rows L2
open Sem (wp)
open AutoSeq1 (wpAny_loadPart')
theorem meets_enum_newT (t : Addr) (items : Array Value) : Meets (Builtin.«enumerate.__new__» ⟨[.type "enumerate", .ref t], []⟩) (fun _ R s => s.heap.IsTuple t items ∧
      R (.ok (.ret (.ref (s.heap.push { cls := .type "tuple_iterator", data := .fields #[.ref t, .int 0 0] }).objs.size)))
        { s with heap := (s.heap.push { cls := .type "tuple_iterator", data := .fields #[.ref t, .int 0 0] }).push { cls := .type "enumerate", data := .fields #[.none, .bool false, .ref s.heap.objs.size, rawInt 0, .none, .none] } }) :=
  .of_wp fun prog w A R s h => by
    obtain ⟨hp, g, d, tk, os⟩ := s; obtain ⟨hl, h⟩ := h
    have hsub := sub_enumerate
    have hL : Heap.IsTuple (Shared.heap ⟨hp, g, d, tk, os⟩) t items := hl
    wp_walk using wpAny_pyIter_tuple hL
    refine wpAny_stack_any fun st => wpAny_pure ?_
    split
    · rename_i c _ _ _ _ _
      cases (c == Value.type "enumerate")
      · wp_walk using wpAny_pyIter_tuple hL
        exact ⟨_, rfl, h⟩
      · wp_walk using wpAny_pyIter_tuple hL
        exact ⟨_, rfl, h⟩
    · wp_walk using wpAny_pyIter_tuple hL
      exact ⟨_, rfl, h⟩
section
variable {prog : Program} {w : World} {A : Around} {E : Value → Shared → Prop} {s : Shared}
theorem call_enum_tuple {t : Addr} {items : Array Value} {Q : Value → Shared → Prop} (hL : s.heap.IsTuple t items)
    (h : ∀ h', IsEnum h' (s.heap.objs.size + 1) s.heap.objs.size 0 .none → h'.IsTupleIter s.heap.objs.size t 0 → h'.objs.size = s.heap.objs.size + 2 →
      (∀ b o, s.heap.get? b = some o → h'.get? b = some o) → Q (.ref (s.heap.objs.size + 1)) { s with heap := h' }) :
    wpAny (model prog w) A (call (.type "enumerate") [.ref t]) Q E s := by
  refine callType_new F.called_enumerate (by decide) (F.typeCall_enumerate_1 _) (F.newCall_enumerate_1 _) (fun obj => F.args_object_init_2 obj _) F.entry_enumerate_new
    (meets_enum_newT t items) ⟨hL, ?_⟩
  have hz : (s.heap.push { cls := .type "tuple_iterator", data := .fields #[.ref t, .int 0 0] }).objs.size = s.heap.objs.size + 1 := Heap.size_push ..
  show _ ∧ _
  rw [hz]
  have he : IsEnum ((s.heap.push { cls := .type "tuple_iterator", data := .fields #[.ref t, .int 0 0] }).push
      { cls := .type "enumerate", data := .fields #[.none, .bool false, .ref s.heap.objs.size, rawInt 0, .none, .none] }) (s.heap.objs.size + 1) s.heap.objs.size 0 .none := by
    have := Heap.get?_push_size (s.heap.push { cls := .type "tuple_iterator", data := .fields #[.ref t, .int 0 0] })
      (o := { cls := .type "enumerate", data := .fields #[.none, .bool false, .ref s.heap.objs.size, rawInt 0, .none, .none] }) rfl
    rw [hz] at this; exact this
  refine ⟨⟨_, he, rfl⟩, h _ he ⟨_, Heap.get?_push_of_some _ (Heap.get?_push_size _ rfl), rfl, rfl⟩ (by rw [Heap.size_push, hz]) fun b o x => Heap.get?_push_of_some _ (Heap.get?_push_of_some _ x)⟩
end
/-- the tuple at a, each item in a new pair -/
def ItT (K : PySem.W.Frag) (a : Addr) : It :=
  ⟨fun i H => ∃ (xs : List V) (x : V), SqT K H a xs ∧ xs[i]? = some x, fun i H v H' => ∃ T x, v = .ref T ∧ H T = none ∧ H' = upd H T (.tup [.int (i : Nat), x]) ∧ ∀ xs, SqT K H a xs → xs[i]? = some x, fun i H => ∃ xs : List V, SqT K H a xs ∧ xs.length = i⟩
theorem turn_enT {P : Program} {w : World} {K : PySem.W.Frag} {elts : List Expr} {kk : Nat} {tpos : Pos} (a e it : Addr) :
    Turn P w K (.Tuple elts kk tpos) (ItT K a) [e, it] e (fun i h => (∃ old, IsEnum h e it ((i : Nat) : Int) old) ∧ h.IsTupleIter it a i ∧ e ≠ it ∧ a ≠ it ∧ a ≠ e) where
  mem := by simp
  obj := fun i h st b hb => by
    obtain ⟨⟨old, he⟩, ⟨o, ho, hc, hd⟩, _⟩ := st
    have e' : b = e ∨ b = it := by simpa using hb
    rcases e' with z | z
    · rw [z]; exact ⟨_, he, fun v q => nomatch q⟩
    · rw [z]; exact ⟨o, ho, fun v q => by rw [hd] at q; cases q⟩
  keep := fun i h h' st k => let ⟨⟨old, he⟩, hi, hne⟩ := st; ⟨⟨old, k e (by simp) _ he⟩, hi.at fun o q => k it (by simp) o q, hne⟩
  item := by
    intro X hP hw hK hc i pins s σ H E I hf st hg
    subst hP hw hK
    obtain ⟨⟨old, he⟩, hit, hne, hai, hae⟩ := st
    obtain ⟨xs, x, hq, hx⟩ := hg
    obtain ⟨its, rv, p, hz⟩ := I.tuple hq
    obtain ⟨u, hu, ru⟩ := rv.get hx
    have hel : e < s.heap.objs.size := Heap.lt_size he
    have hil : it < s.heap.objs.size := by obtain ⟨_, q, _⟩ := hit; exact Heap.lt_size q
    have hlt : i < its.toArray.size := by
      have := (List.getElem?_eq_some_iff.mp hu).1
      simpa using this
    have D := Draws.tuple (prog := X.prog) (w := X.w) (A := X.A.in1) (I.ok.hd hc) it a hai its.toArray
    refine wpAny_pyNext_enum_itemC (n := its.toArray.size) (i := i) (c := ((i : Nat) : Int)) D he ⟨hit, p⟩ hlt hne (by simp only [List.mem_cons, List.not_mem_nil, or_false, not_or]; exact ⟨hne, fun z => hae z.symm⟩) fun x' h' tk hP ho hst hT hsz hk => ?_
    have ex : x' = u := by
      have h1 : its.toArray[i]? = some x' := hP
      rw [List.getElem?_toArray, hu] at h1
      exact (Option.some.inj h1).symm
    subst ex
    refine ⟨_, rfl, wpAny_letOwnedTupleGo_enum (s := { s with heap := h', toks := tk + 1 }) ho fun h'' he' sb => ?_⟩
    have hT2 : h''.get? s.heap.objs.size = some { cls := .type "tuple", data := .seq #[.int i tk, x'] } := (sb.2 _ (Nat.ne_of_gt hel)).trans hT
    have new : ObjOk X.prog X.w (upd H s.heap.objs.size (.tup [.int (i : Nat), x])) h'' s.heap.objs.size (.tup [.int (i : Nat), x]) :=
      ⟨by show 2 ≤ sizeLine; decide, [.int i tk, x'], .cons ⟨_, rfl⟩ (.cons ru .nil), ⟨_, hT2, rfl, _, rfl⟩⟩
    have I1 : Inv X pins σ (upd H s.heap.objs.size (.tup [.int (i : Nat), x])) { s with heap := h'', toks := tk + 1 } :=
      I.turnedNew (ch := [e, it]) (fun b ob hb q => (sb.2 b (fun z => hb (by simp [z]))).trans (hk b ob (fun z => hb (by simp [z])) (fun z => hb (by simp [z])) q)) hf (Nat.le_refl _) new
    refine ⟨.ref s.heap.objs.size, _, I1, rfl, ⟨_, x, rfl, I.hok.fresh (Nat.le_refl _), rfl, fun ys hy => by rw [I.tuple_inj hy hq]; exact hx⟩, ⟨⟨x', ?_⟩, hst.1.at fun o q => (sb.2 it (Ne.symm hne)).trans q, hne, hai, hae⟩, fun b hb => ?_⟩
    · have e1 : ((i + 1 : Nat) : Int) = (i : Int) + 1 := by omega
      rw [e1]; exact he'
    · have hb' : b < s.heap.objs.size := by
        have e' : b = e ∨ b = it := by simpa using hb
        rcases e' with z | z
        · rw [z]; exact hel
        · rw [z]; exact hil
      rw [upd_ne (Nat.ne_of_lt hb')]
      exact (hf b hb).1
  done := by
    intro X hP hw hK hc i pins s σ H E I hf st hg
    subst hP hw hK
    obtain ⟨⟨old, he⟩, hit, hne, hai, hae⟩ := st
    obtain ⟨xs, hq, hx⟩ := hg
    obtain ⟨its, rv, p, hz⟩ := I.tuple hq
    obtain ⟨f0, f1, f2, f3, f4, f5⟩ := hf it (by simp)
    have hl := rv.length
    have D := Draws.tuple (prog := X.prog) (w := X.w) (A := X.A.in1) (I.ok.hd hc) it a hai its.toArray
    have hsz : its.toArray.size = i := by rw [List.size_toArray, ← hl, hx]
    rw [← hsz] at hit he
    exact wpAny_pyNext_enum_endD D he ⟨hit, p⟩ fun h' eb => ⟨rfl, I.turned (t' := s.toks) (fun b o hb q => eb b o hb q) f0 f1 f3 f4 f5⟩
  self := fun A i s Q E st h => let ⟨⟨_, he⟩, _⟩ := st; wpAny_pyIter_enum he h
def iEnT (K : PySem.W.Frag) (ta : TA) : TI := fun σ H R => ta σ H fun vs H1 => ∃ a xs, vs = [.ref a] ∧ SqT K H1 a xs ∧ R (ItT K a) H1
theorem pi_enT {X : Cx} {e : Expr} {ta : TA} {p pos tpos : Pos} {elts : List Expr} {kk : Nat} (hg : Gl X "enumerate") (hm : X.mg "enumerate" = none) (ha : PA X [e] ta) (hs : starEach [e] X.env = [(false, eval e X.env)] := by rfl) :
    PI X (.Tuple elts kk tpos) (.Call (.Name "enumerate" p) [e] [] pos) (iEnT X.K ta) := by
  refine ⟨fun pins s σ H R I h => ?_⟩
  refine Call_ (ld_blt I hg hm boot_enumerate (PyProof.Rows.callWith_type1 (thn (ha.run pos pins s σ H _ I h) fun us s1 ⟨vs, H1, I1, r1, q1⟩ => ?_) hs rfl))
  obtain ⟨a, xs, ex, hq, q⟩ := q1
  subst ex
  cases r1 with
  | cons r rr =>
    cases rr
    cases r
    obtain ⟨its, rv, p', hz⟩ := I1.tuple hq
    have hal : a < s1.heap.objs.size := by obtain ⟨o, ho, _⟩ := p'; exact Heap.lt_size ho
    refine call_enum_tuple p' fun h' he hit hsz hk => wpAny_pyIter_enum he ?_
    have I2 : Inv X pins σ H1 { s1 with heap := h' } := I1.kept (t' := s1.toks) hk
    refine ⟨s1.heap.objs.size + 1, [s1.heap.objs.size + 1, s1.heap.objs.size], _, _, H1, rfl, I2, turn_enT a (s1.heap.objs.size + 1) s1.heap.objs.size, ⟨⟨.none, he⟩, hit, Nat.succ_ne_self _, Nat.ne_of_lt hal, Nat.ne_of_lt (Nat.lt_succ_of_lt hal)⟩, fun b hb => ?_, q⟩
    have e' : b = s1.heap.objs.size + 1 ∨ b = s1.heap.objs.size := by simpa using hb
    have hle : s1.heap.objs.size ≤ b := by
      rcases e' with z | z
      · rw [z]; exact Nat.le_add_right _ _
      · rw [z]; exact Nat.le_refl _
    exact I1.fpOk hle (I1.hok.fresh hle)
end Cm

/-! begin, step. -/
namespace Cm
open PySem PySem.Spec PyProof.Rows L2
section
variable {X : Cx} {B : Bs} {ε : List Sl} {D : Ends} {pos : Pos} {C : Addr}
/-- self.go(frames, values): frames a new list -/
theorem xGo {o e1 e2 : Expr} {apos : Pos} {k : Nat} {f p : Addr} {fd : FuncData} {ps : List Str} {g : Prg} {fs : List Fr} {n : Int} {m : Nat} {res : Res} (ho : XP X B ε o (fun _ u => u = .ref p)) (c : Cls X.K C) (hm : Meth X.K C "go" f) (F : FnOk X.prog X.w X.K X.mg X.base CX0 k f fd ps (SpGo X.K C)) (hr : Room k X.A) (hb : Binds X.K fd ps [])
    (hI : TAt X.K C B.fb p g) (h1 : XO X B ε e1 (frD fs)) (h2 : XD X B ε e2 (.tuple [.int n])) (hgo : goN g m fs n [] = some res) (hz : fs.length + 2 * m ≤ 3000) (h0 : 0 < g.size) {pl : Sem Bool}
    (hst : starEach [e1, e2] X.env = (false, eval e1 X.env) :: starEach [e2] X.env := by rfl) (hst2 : starEach [e2] X.env = [(false, eval e2 X.env)] := by rfl) (hpl : (backTo pos (starEach [e2] X.env)).any (·.1) = false := by rfl)
    (ht : eval (.Call (.Attribute o "go" apos) [e1, e2] [] pos) X.env = (do
      let ov ← eval o X.env
      standAt apos.atName
      let (f, first) ← holding [ov] (getMethod ov "go" pl)
      callWith pos f first (backTo pos (starEach [e1, e2] X.env)) (backToKw pos (keywordEach [] X.env))) := by rfl) : XD X B ε (.Call (.Attribute o "go" apos) [e1, e2] [] pos) (resD res) :=
  ofP (pe_meth peC c hm F hr hb .nil (pass0 (X := X)) (pa_cons peC (pa_cons peC pa_nil hst2) hst) hst hpl ht) fun Hf H σ S Q q => ho Hf H σ S _ fun u Hf1 H1 e1' hu => by
    have hu' : u = .ref p := hu
    have hI' := hI
    obtain ⟨dx, vb, vt, vn, q1, _, _⟩ := hI'
    have sf := S.fz.f.trans e1'.f
    refine ⟨p, dx, _, hu', e1'.s _ _ (sf _ _ q1), ?_, ?_⟩
    · rw [List.lookup, show (("go" : Str) == ("boxes" : Str)) = false from by decide +kernel]
      show List.lookup ("go" : Str) [(("talks" : Str), vt), (("numbers" : Str), vn)] = none
      rw [List.lookup, show (("go" : Str) == ("talks" : Str)) = false from by decide +kernel]
      show List.lookup ("go" : Str) [(("numbers" : Str), vn)] = none
      rw [List.lookup, show (("go" : Str) == ("numbers" : Str)) = false from by decide +kernel]
      rfl
    · refine h1 Hf1 H1 σ (S.mono e1') _ fun l lvs Hf2 H2 e2' n1 n2 n3 n4 => ?_
      refine h2 Hf2 H2 σ (S.mono (e1'.trans e2')) _ fun v Hf3 H3 e3 hv => ?_
      subst hu'
      have e4 := (e1'.trans e2').trans e3
      have m1 : Hf3 l = none := e3.n l (by rw [n3]; exact fun z => nomatch z) n2
      refine ⟨Hf3, p, l, g, lvs, v, fs, n, m, res, rfl, e3.s, hI.mono (S.fz.f.trans e4.f), m1, e3.h _ _ n3, n4.mono e3.f, hv, hgo, hz, h0, fun w Hf4 H4 e5 hw => ?_⟩
      refine q w Hf4 H4 ⟨e4.f.trans e5.f, fun a b z => e5.h a b ?_, e5.s, fun a z1 z2 => e5.n a ?_ (e4.n a z1 z2)⟩ hw
      · have hne : a ≠ l := ne_of_none z ((e1'.h).free n1)
        rw [without_ne hne]
        exact e4.h a b z
      · have hne : a ≠ l := fun c => z1 (by rw [c]; exact (e1'.h).free n1)
        rw [without_ne hne]
        cases hH : H a with
        | none => exact absurd hH z1
        | some b =>
          rw [e4.h a b hH]
          exact fun c => nomatch c
end
/-! ### begin -/
def begF : List Fr := [⟨[0], 0, .talk⟩]
def FBegin (g : Prg) (ds : List PyData) (r : PyData) : Prop := ∃ res, ds = [] ∧ goN g 1000 begF 0 [] = some res ∧ 0 < g.size ∧ r = resD res
theorem scBegin : FnScope ["self", "box"] ["self"] (defScope sBegin) := ⟨rfl, rfl, rfl, by decide +kernel, rfl, by decide +kernel, by decide +kernel⟩
def branchStep (g : Prg) (st : Stand) (path : List Nat) (at_ : Nat) (k : Option Nat) : Option Res :=
  match k with
  | none => goN g 1000 st.fs st.v []
  | some n => goN g 1000 (⟨path ++ [at_, n], 0, .block⟩ :: st.fs) st.v []
def stepM (g : Prg) (st : Option Stand) (e : Pat) : Option Res :=
  match st with
  | none => some ([], none)
  | some st =>
    match st.fs with
    | [] => none
    | f :: _ =>
      if 500 < f.path.length ∨ 500 < st.fs.length then none else
      match f.at_ with
      | 0 => none
      | at_ + 1 =>
        match bodyAt g.main f.path with
        | none => none
        | some b =>
          match b[at_]? with
          | some (.wait _ brs) =>
            if 1000 < brs.length then none else
            match branchFor (brs.map Br.p) e with
            | some n => branchStep g st f.path at_ (some n)
            | none => if st.left = 1 then branchStep g st f.path at_ (findP (brs.map Br.p) .none) else some ([], some ⟨st.fs, st.v, if st.left - 1 > 0 then st.left - 1 else 0⟩)
          | _ => none
def FStep (g : Prg) (ds : List PyData) (r : PyData) : Prop := ∃ (st : Option Stand) (e : Pat) (res : Res), ds = [standD st, e.d] ∧ stepM g st e = some res ∧ 0 < g.size ∧ r = resD res
theorem scStep : FnScope ["self", "standing", "event", "frames", "values", "left", "path", "at", "kind", "wait", "branch"] ["self", "standing", "event"] (defScope sStep) := ⟨rfl, rfl, rfl, by decide +kernel, rfl, by decide +kernel, by decide +kernel⟩
structure BrAt (K : PySem.W.Frag) (mg : Str → Option Value) (f : Addr) (fd : FuncData) : Prop where
  F : Fun K "branch_for" "branch_for" sBranchFor f fd
  b : Binds K fd ["wait", "event"] []
  m : mg "branch_for" = some (.ref f)
structure BnAt (K : PySem.W.Frag) (mg : Str → Option Value) (f : Addr) (fd : FuncData) : Prop where
  F : Fun K "branch_for_none" "branch_for_none" sBranchNone f fd
  b : Binds K fd ["wait"] []
  m : mg "branch_for_none" = some (.ref f)
theorem frD_cut {f : Fr} {r : List Fr} : atI (frD (f :: r)) (-1) = some f.d := by
  rw [frD_cons]
  exact atI_last _ _
section
variable {P : Program} {w : World} {K : PySem.W.Frag} {mg : Str → Option Value} {base : Heap} {C : Addr}
theorem ok_begin {f fG : Addr} {fd dG : FuncData} (F : Fun K "begin" "Teller.begin" sBegin f fd) (T : TxtT K C) (MG : MethAt K C "go" "Teller.go" sGo ["self", "frames", "values"] fG dG) (GG : FnOk P w K mg base CX0 4 fG dG ["self", "frames", "values"] (SpGo K C)) (mt : mg "tuple" = none) :
    FnOk P w K mg base CX0 5 f fd ["self"] (SpM K C FBegin) := by
  refine fnM F scBegin (by decide) (fun g ds r h => ?_) fun cdv A outer s H E hr B D p g ds r hT h hR => ?_
  · obtain ⟨_, rfl, _⟩ := h
    rfl
  · obtain ⟨res, rfl, hgo, h0, rfl⟩ := h
    refine sCons (iRet (xGo (fs := begF) (xraw 0 rfl) T.cl MG.M GG hr MG.b hT (xLst (xCons (xTup (xCons (xTup (xCons xInt xNil) (by show 1 ≤ 100000; decide)) (xCons xInt (xCons xStr xNil))) (by show 3 ≤ 100000; decide)) xNil) (by show 1 ≤ 100000; decide))
      (xTupleOf rfl mt (XO.d (xLcT [("box", 1)] (xBoxes (xraw 0 rfl) T hT) (blkOk_by (N := ["self", "box"]) (sc := defScope sBegin) (by decide +kernel)) (fun _ _ _ _ _ => pg_name (i := 1) scBegin.nd rfl (Or.inl rfl)) (fun _ _ _ _ _ => pts_nil)
        (te := tC (.int 0)) (fun _ _ _ _ _ => pe_int) tgtName (keep := fun _ => true) (rf := fun _ => .int 0) (by decide) (by show 1 ≤ 100000; decide) (fun d _ => ⟨[d], rfl, evYes, fun _ => evC rfl⟩) scBegin.nd))) hgo (by decide) h0) hR)
theorem ok_step {f fG fB fb fn fq : Addr} {fd dG dB db dn dq : FuncData} (F : Fun K "step" "Teller.step" sStep f fd) (T : TxtT K C) (MG : MethAt K C "go" "Teller.go" sGo ["self", "frames", "values"] fG dG) (GG : FnOk P w K mg base CX0 4 fG dG ["self", "frames", "values"] (SpGo K C))
    (MB : MethAt K C "body_at" "Teller.body_at" sBodyAt ["self", "path"] fB dB) (QB : BrAt K mg fb db) (QN : BnAt K mg fn dn) (Qp : PartAt K mg fq dq) (mt : mg "tuple" = none) (mr : mg "range" = none) (ml : mg "len" = none) (mx : mg "max" = none) (mls : mg "list" = none) :
    FnOk P w K mg base CX0 5 f fd ["self", "standing", "event"] (SpM K C FStep) := by
  have GB : FnOk P w K mg base CX0 4 fB dB ["self", "path"] (SpM K C FBody) := ok_body MB.F T Qp mr ml
  have Gb : FnOk P w K mg base CX0 4 fb db ["wait", "event"] (SpD K FBranch) := ok_branch QB.F
  have Gn : FnOk P w K mg base CX0 4 fn dn ["wait"] (SpD K FBrNone) := ok_brNone QN.F
  refine fnM F scStep (by decide) (fun g ds r h => ?_) fun cdv A outer s H E hr B D p g ds r hT h hR => ?_
  · obtain ⟨_, _, _, rfl, _⟩ := h
    rfl
  · obtain ⟨st, e, res, rfl, hst, h0, rfl⟩ := h
    cases st with
    | none =>
      have e1 : (([], none) : Res) = res := Option.some.inj hst
      subst e1
      refine sIfT (tIsN (xv 1 rfl)) rfl ?_
      exact sCons (iRet (xTup (xCons (XO.d (xLst xNil (by decide))) (xCons xNone xNil)) (by show 2 ≤ 100000; decide)) hR)
    | some st =>
      obtain ⟨fs, v, left⟩ := st
      cases fs with
      | nil => cases hst
      | cons f0 fs =>
        rw [stepM] at hst
        simp only at hst
        by_cases hbd : 500 < f0.path.length ∨ 500 < (f0 :: fs).length
        · rw [if_pos hbd] at hst; cases hst
        rw [if_neg hbd] at hst
        obtain ⟨path, at0, kind⟩ := f0
        cases at0 with
        | zero => cases hst
        | succ at_ =>
          simp only at hst
          cases hba : bodyAt g.main path with
          | none => rw [hba] at hst; cases hst
          | some b =>
            rw [hba] at hst
            simp only at hst
            cases hbs : b[at_]? with
            | none => rw [hbs] at hst; cases hst
            | some sw =>
              rw [hbs] at hst
              cases sw with
              | wait lim brs =>
                have hst : (if 1000 < brs.length then none else match branchFor (brs.map Br.p) e with
                  | some n => branchStep g ⟨⟨path, at_ + 1, kind⟩ :: fs, v, left⟩ path at_ (some n)
                  | none => if left = 1 then branchStep g ⟨⟨path, at_ + 1, kind⟩ :: fs, v, left⟩ path at_ (findP (brs.map Br.p) .none) else some ([], some ⟨⟨path, at_ + 1, kind⟩ :: fs, v, if left - 1 > 0 then left - 1 else 0⟩)) = some res := hst
                by_cases hbl : 1000 < brs.length
                · rw [if_pos hbl] at hst; cases hst
                rw [if_neg hbl] at hst
                have hbl2 : brs.length ≤ 1000 := by omega
                have hpl : path.length ≤ 500 := by
                  have : ¬ 500 < path.length := fun z => hbd (.inl z)
                  omega
                have hfl : (⟨path, at_ + 1, kind⟩ :: fs : List Fr).length ≤ 500 := by
                  have : ¬ 500 < (⟨path, at_ + 1, kind⟩ :: fs : List Fr).length := fun z => hbd (.inr z)
                  omega
                have hix : atI (encB b) (((at_ + 1 : Nat) : Int) - 1) = some (encS (.wait lim brs)) := atI_of (j := at_) (by omega) (by rw [encB_map, List.getElem?_map, hbs]; rfl)
                refine sIfF (tIsN (xv 1 rfl)) rfl ?_
                refine sCons (iAsg (pg_tup rfl (pgs_cons (pg_name (i := 3) scStep.nd rfl (Or.inl rfl)) (pgs_cons (pg_name (i := 4) scStep.nd rfl (Or.inl rfl)) (pgs_cons (pg_name (i := 5) scStep.nd rfl (Or.inl rfl)) pgs_nil)))) (tgtTup (is := [3, 4, 5]) rfl) (xv 1 rfl) rfl ?_)
                refine sCons (iAsg (pg_tup rfl (pgs_cons (pg_name (i := 6) scStep.nd rfl (Or.inl rfl)) (pgs_cons (pg_name (i := 7) scStep.nd rfl (Or.inl rfl)) (pgs_cons (pg_name (i := 8) scStep.nd rfl (Or.inl rfl)) pgs_nil)))) (tgtTup (is := [6, 7, 8]) rfl) (xIxT (xv 3 rfl) (xNeg xInt) frD_cut) rfl ?_)
                refine sCons (iSet 9 (xIxT (xMeth (xraw 0 rfl) T.cl MB.M GB hr MB.b hT (by decide +kernel) (xCons (xv 6 rfl) xNil) (spM_ok hT ⟨path, b, rfl, hba, rfl, by omega⟩)) (xSub (xv 7 rfl) xInt) hix) ?_ scStep.nd)
                refine sCons (iSet 10 (xCall (CX := CX0) Gb hr rfl QB.m QB.F.kp QB.b (xCons (xv 9 rfl) (xCons (xv 2 rfl) xNil)) (spD_ok ⟨lim, brs, e, rfl, rfl, hbl2⟩)) ?_ scStep.nd)
                cases hbr : branchFor (brs.map Br.p) e with
                | some n =>
                  rw [hbr] at hst
                  have hst : goN g 1000 (⟨path ++ [at_, n], 0, .block⟩ :: ⟨path, at_ + 1, kind⟩ :: fs) v [] = some res := hst
                  refine sIfF (tAnd (y := false) (tIsN (xv 10 rfl)) fun h => nomatch h) rfl ?_
                  refine sIfF (tIsN (xv 10 rfl)) rfl ?_
                  refine sIfF (tIsN (xv 10 rfl)) rfl ?_
                  refine sCons (iRet (xGo (xraw 0 rfl) T.cl MG.M GG hr MG.b hT (XO.is (xCatL (XO.d (xListOf rfl mls (xv 3 rfl) rfl)) (XO.d (xLst (xCons (xTup (xCons (xCatT (xv 6 rfl) (xTup (xCons (xSub (xv 7 rfl) xInt) (xCons (xv 10 rfl) xNil)) (by show 2 ≤ 100000; decide)) ?_) (xCons xInt (xCons xStr xNil))) (by show 3 ≤ 100000; decide)) xNil) (by show 1 ≤ 100000; decide))) ?_) ?_) (xv 4 rfl) hst (by rw [List.length_cons]; omega) h0) hR)
                  · rw [List.length_map]; show path.length + 2 ≤ 100000; omega
                  · rw [frD_len]; show (⟨path, at_ + 1, kind⟩ :: fs : List Fr).length + 1 ≤ 100000; omega
                  · rw [frD_cons (⟨path ++ [at_, n], 0, .block⟩ : Fr)]
                    show _ ++ [PyData.tuple [.tuple (path.map natD ++ [.int (((at_ + 1 : Nat) : Int) - 1), .int (n : Int)]), .int 0, .str "block"]] = _ ++ [PyData.tuple [.tuple ((path ++ [at_, n]).map natD), .int ((0 : Nat) : Int), .str Kd.block.s]]
                    rw [List.map_append, show ((at_ + 1 : Nat) : Int) - 1 = (at_ : Int) by omega]
                    rfl
                | none =>
                  rw [hbr] at hst
                  have hst : (if left = 1 then branchStep g ⟨⟨path, at_ + 1, kind⟩ :: fs, v, left⟩ path at_ (findP (brs.map Br.p) .none) else some ([], some ⟨⟨path, at_ + 1, kind⟩ :: fs, v, if left - 1 > 0 then left - 1 else 0⟩)) = some res := hst
                  by_cases hl1 : left = 1
                  · rw [if_pos hl1] at hst
                    refine sIfF (tAnd (tIsN (xv 10 rfl)) fun _ => tNeI (xv 5 rfl) xInt) (by show (true && !decide (left = 1)) = false; rw [decide_eq_true hl1]; rfl) ?_
                    refine sIfT (tIsN (xv 10 rfl)) rfl ?_
                    refine sCons (iSet 10 (xCall (CX := CX0) Gn hr rfl QN.m QN.F.kp QN.b (xCons (xv 9 rfl) xNil) (spD_ok ⟨lim, brs, rfl, rfl, hbl2⟩)) ?_ scStep.nd)
                    refine sNil ?_
                    cases hfn : findP (brs.map Br.p) .none with
                    | none =>
                      rw [hfn] at hst
                      have hst : goN g 1000 (⟨path, at_ + 1, kind⟩ :: fs) v [] = some res := hst
                      refine sIfT (tIsN (xv 10 rfl)) rfl ?_
                      exact sCons (iRet (xGo (xraw 0 rfl) T.cl MG.M GG hr MG.b hT (xListOf rfl mls (xv 3 rfl) rfl) (xv 4 rfl) hst (by show (⟨path, at_ + 1, kind⟩ :: fs : List Fr).length + 2 * 1000 ≤ 3000; omega) h0) hR)
                    | some n =>
                      rw [hfn] at hst
                      have hst : goN g 1000 (⟨path ++ [at_, n], 0, .block⟩ :: ⟨path, at_ + 1, kind⟩ :: fs) v [] = some res := hst
                      refine sIfF (tIsN (xv 10 rfl)) rfl ?_
                      refine sCons (iRet (xGo (xraw 0 rfl) T.cl MG.M GG hr MG.b hT (XO.is (xCatL (XO.d (xListOf rfl mls (xv 3 rfl) rfl)) (XO.d (xLst (xCons (xTup (xCons (xCatT (xv 6 rfl) (xTup (xCons (xSub (xv 7 rfl) xInt) (xCons (xv 10 rfl) xNil)) (by show 2 ≤ 100000; decide)) ?_) (xCons xInt (xCons xStr xNil))) (by show 3 ≤ 100000; decide)) xNil) (by show 1 ≤ 100000; decide))) ?_) ?_) (xv 4 rfl) hst (by rw [List.length_cons]; omega) h0) hR)
                      · rw [List.length_map]; show path.length + 2 ≤ 100000; omega
                      · rw [frD_len]; show (⟨path, at_ + 1, kind⟩ :: fs : List Fr).length + 1 ≤ 100000; omega
                      · rw [frD_cons (⟨path ++ [at_, n], 0, .block⟩ : Fr)]
                        show _ ++ [PyData.tuple [.tuple (path.map natD ++ [.int (((at_ + 1 : Nat) : Int) - 1), .int (n : Int)]), .int 0, .str "block"]] = _ ++ [PyData.tuple [.tuple ((path ++ [at_, n]).map natD), .int ((0 : Nat) : Int), .str Kd.block.s]]
                        rw [List.map_append, show ((at_ + 1 : Nat) : Int) - 1 = (at_ : Int) by omega]
                        rfl
                  · rw [if_neg hl1] at hst
                    have e1 := Option.some.inj hst
                    subst e1
                    refine sIfT (tAnd (tIsN (xv 10 rfl)) fun _ => tNeI (xv 5 rfl) xInt) (by show (true && !decide (left = 1)) = true; rw [decide_eq_false hl1]; rfl) ?_
                    exact sCons (iRet (xTup (xCons (XO.d (xLst xNil (by decide))) (xCons (xTup (xCons (xv 3 rfl) (xCons (xv 4 rfl) (xCons (xMax rfl rfl mx xInt (xSub (xv 5 rfl) xInt)) xNil))) (by show 3 ≤ 100000; decide)) xNil)) (by show 2 ≤ 100000; decide)) hR)
              | _ => cases hst
end
end Cm

/-! Teller.__init__. -/
namespace Cm
open PySem PySem.Spec PyProof.Rows L2
/-- o.f = .., as a target -/
def gFld (K : PySem.W.Frag) (to : TE) (f : Str) : TG := fun v σ H Q => to σ H fun x H1 => ∃ a C dx fs, x = .ref a ∧ H1 a = some (.ins C dx fs) ∧ Cls K C ∧ NoAttr K C f ∧ fs.length < 1000 ∧ Q σ (upd H1 a (.ins C dx (putF f v fs)))
theorem pg_fld {X : Cx} {o : Expr} {f : Str} {pos : Pos} {to : TE} (ho : PE X o to) : PG X (.Attribute o f pos) (gFld X.K to f) := by
  refine ⟨fun pins s σ H v u Q I r hw => ?_⟩
  refine PySem.W.kas_attr (thn (ho.run pins s σ H _ I hw) fun ov s1 ⟨x, H1, I1, r1, q1⟩ => ?_)
  obtain ⟨a, C, dx, fs, rfl, ha, c, n, hl, q⟩ := q1
  obtain rfl : ov = Value.ref a := r1
  exact setattr_ok I1 ha c n hl r fun s' I' => ⟨σ, _, I', q⟩
def SpInit (K : PySem.W.Frag) (C : Addr) (n : Nat) : Sp := fun vs H Q _ => ∃ (Hf : Hp) (x dx : Addr) (v : V) (d : PyData) (g : Prg), vs = [.ref x, v] ∧ Same Hf H ∧ Hf x = none ∧ H x = some (.ins C dx []) ∧ Da K Hf v d ∧ FOk n d ∧ fz d = .tuple [boxD g.size, talksD g] ∧
  ∀ (Hf' H' : Hp) (vb vt vn : V), Fz Hf (without H x) Hf' H' → Hf' x = none → H' x = some (.ins C dx [("boxes", vb), ("talks", vt), ("numbers", vn)]) → Da K Hf' vb (boxD g.size) → Da K Hf' vt (talksD g) → Q .non H'
theorem scInit : FnScope ["self", "script", "k", "talk"] ["self", "script"] (defScope sInit) := ⟨rfl, rfl, rfl, by decide +kernel, rfl, by decide +kernel, by decide +kernel⟩
theorem putF3 {a b c : V} : putF ("numbers" : Str) c (putF ("talks" : Str) b (putF ("boxes" : Str) a [])) = [(("boxes" : Str), a), (("talks" : Str), b), (("numbers" : Str), c)] := by
  have h1 : ¬ (("boxes" : Str) = ("talks" : Str)) := by decide +kernel
  have h2 : ¬ (("boxes" : Str) = ("numbers" : Str)) := by decide +kernel
  have h3 : ¬ (("talks" : Str) = ("numbers" : Str)) := by decide +kernel
  simp only [putF, if_neg h1, if_neg h2, if_neg h3]
theorem look_n {a b c : V} : List.lookup ("numbers" : Str) [(("boxes" : Str), a), (("talks" : Str), b), (("numbers" : Str), c)] = some c := by
  rw [List.lookup, show (("numbers" : Str) == ("boxes" : Str)) = false from by decide +kernel]
  show List.lookup ("numbers" : Str) [(("talks" : Str), b), (("numbers" : Str), c)] = some c
  rw [List.lookup, show (("numbers" : Str) == ("talks" : Str)) = false from by decide +kernel]
  show List.lookup ("numbers" : Str) [(("numbers" : Str), c)] = some c
  rw [List.lookup, show (("numbers" : Str) == ("numbers" : Str)) = true from by decide +kernel]
section
variable {P : Program} {w : World} {K : PySem.W.Frag} {mg : Str → Option Value} {base : Heap} {C : Addr}
theorem ok_init {f fz' : Addr} {fd dz : FuncData} {n : Nat} (F : Fun K "__init__" "Teller.__init__" sInit f fd) (T : TxtT K C) (Z : FrozenAt K mg fz' dz) (me : mg "enumerate" = none) : FnOk P w K mg base CX0 (n + 2) f fd ["self", "script"] (SpInit K C n) := by
  have G : FnOk P w K mg base CX0 (n + 1) fz' dz ["thing"] (SpD K (FFz n)) := ok_frozen Z n
  refine F.ok scInit (fun vs H Q E h => ?_) (fun cdv A outer s H vs Q E hr h => ?_)
  · obtain ⟨_, _, _, _, _, _, rfl, _⟩ := h
    rfl
  obtain ⟨Hf, x, dx, v, d, g, rfl, hs, hfx, hx, hv, hok, hfz, q⟩ := h
  have hu := hu_of hr
  refine ⟨_, pss_cons (ps_asg (pe_call G hr rfl Z.m Z.F.kp Z.b .nil pass0 (pa_cons (pv 1) pa_nil)) (pg_tup rfl (pgs_cons (pg_fld (pv 0)) (pgs_cons (pg_fld (pv 0)) pgs_nil))))
    (pss_cons (ps_fld (pv 0) pe_dnewK rfl)
    (pss_one (ps_for PassesOwn.never rfl (pi_enT rfl me (pa_cons (pe_fld (pv 0) rfl) pa_nil)) (pg_tup rfl (pgs_cons (pg_name (i := 2) scInit.nd rfl (Or.inl rfl)) (pgs_cons (pg_name (i := 3) scInit.nd rfl (Or.inl rfl)) pgs_nil)))
      (pss_one (ps_dput hu (pe_fld (pv 0) rfl) (pe_ix ix_tup (pv 3) pe_int (fun _ _ => rfl)) (pv 2) rfl))))), ?_⟩
  refine ⟨v, rfl, Hf, [d], fz d, hs, .one hv, ⟨d, rfl, hok, rfl⟩, fun u Hf1 H1 e1 hu1 => ?_⟩
  rw [hfz] at hu1
  cases hu1 with
  | @tup a us _ hq hk =>
    cases hk with
    | @cons vb _ _ _ hb hk =>
      cases hk with
      | @cons vt _ _ _ ht hk =>
        cases hk
        have hx1 : H1 x = some (.ins C dx []) := e1.h _ _ hx
        have hf1x : Hf1 x = none := e1.n x (by rw [hx]; exact fun z => nomatch z) hfx
        refine ⟨a, [vb, vt], rfl, same_t e1.s hq, rfl, vb, [vt], rfl, ?_⟩
        refine ⟨.ref x, rfl, x, C, dx, [], rfl, hx1, T.cl, T.nB, by decide, ?_⟩
        refine ⟨vt, [], rfl, .ref x, rfl, x, C, dx, _, rfl, upd_same, T.cl, T.nT, by show 1 < 1000; decide, rfl, ?_⟩
        rw [upd_upd]
        intro dn hdn
        have hne : dn ≠ x := fun z => by
          rw [z, upd_same] at hdn
          cases hdn
        have hdn1 : H1 dn = none := by rw [upd_ne hne] at hdn; exact hdn
        have hf1d : Hf1 dn = none := e1.s.free hdn1
        refine ⟨.ref x, rfl, x, C, dx, _, rfl, by rw [upd_ne hne.symm]; exact upd_same, T.cl, T.nN, by show 2 < 1000; decide, ?_⟩
        rw [putF3]
        -- the heap ahead of the loop
        have base1 : ∀ Hx : Hp, (∀ b, b ≠ x → b ≠ dn → H1 b ≠ none → Hx b = H1 b) → Same Hf1 Hx ∧ Same (without H x) Hx := fun Hx k => by
          refine ⟨fun b o e => ?_, fun b o e => ?_⟩
          · rw [k b (ne_of_none e hf1x) (ne_of_none e hf1d) (by rw [e1.s b o e]; exact fun z => nomatch z)]
            exact e1.s b o e
          · by_cases c : b = x
            · subst c; rw [without_at] at e; cases e
            · rw [without_ne c] at e
              have h1 := e1.h b o e
              rw [k b c (ne_of_none h1 hdn1) (by rw [h1]; exact fun z => nomatch z)]
              exact h1
        have ht' := ht
        cases ht' with
        | @tup at_ ts _ htq htk =>
          cases htk with
          | @cons v0 _ _ _ h0 htk =>
            cases htk
            have h0' := h0
            cases h0' with
            | @tup a0 us0 _ h0q h0k =>
              cases h0k with
              | @cons vm _ _ _ hm h0k =>
                cases h0k with
                | @cons vbd _ _ _ hbd h0k =>
                  cases h0k
                  cases hm
                  have start : ∀ Hx : Hp, Hx = upd (upd (upd H1 x (.ins C dx (putF "talks" (.ref at_) (putF "boxes" vb [])))) dn (.dK [])) x (.ins C dx [("boxes", vb), ("talks", .ref at_), ("numbers", .ref dn)]) → ∀ b, b ≠ x → b ≠ dn → H1 b ≠ none → Hx b = H1 b := fun Hx e b c1 c2 _ => by
                    rw [e, upd_ne c1, upd_ne c2, upd_ne c1]
                  refine ⟨.ref x, rfl, x, C, dx, _, .ref at_, rfl, upd_same, T.cl, T.nT, look_t, at_, [.ref a0], rfl, same_t (base1 _ (start _ rfl)).1 htq, ?_⟩
                  refine ⟨fun i m σ H' => m = 1 - i ∧ i ≤ 1 ∧ ∃ y2 y3 kvs, σ = [some (.ref x), some v, y2, y3] ∧ H' x = some (.ins C dx [("boxes", vb), ("talks", .ref at_), ("numbers", .ref dn)]) ∧ H' dn = some (.dK kvs) ∧ kvs.length ≤ i ∧ ∀ b, b ≠ x → b ≠ dn → H1 b ≠ none → H' b = H1 b,
                    ⟨1, rfl, by decide, none, none, [], rfl, upd_same, by rw [upd_ne hne, upd_same], Nat.le_refl _, start _ rfl⟩, fun i m σ H' hW => ?_⟩
                  obtain ⟨hm1, hi1, y2, y3, kvs, rfl, hx', hd', hkl, hkeep⟩ := hW
                  obtain ⟨s1, s2⟩ := base1 H' hkeep
                  have hq' : SqT K H' at_ [.ref a0] := same_t s1 htq
                  by_cases hi : i = 0
                  · subst hi
                    refine .inr ⟨⟨_, .ref a0, hq', rfl⟩, fun σ2 H2 => ∃ y2 y3 kvs, σ2 = [some (.ref x), some v, y2, y3] ∧ H2 x = some (.ins C dx [("boxes", vb), ("talks", .ref at_), ("numbers", .ref dn)]) ∧ H2 dn = some (.dK kvs) ∧ kvs.length ≤ 1 ∧ ∀ b, b ≠ x → b ≠ dn → H1 b ≠ none → H2 b = H1 b,
                      fun σ2 H2 p => ⟨0, by omega, rfl, by decide, p⟩, fun y H2 hy => ?_⟩
                    obtain ⟨Tt, z, rfl, hT, rfl, hz⟩ := hy
                    have ez : z = .ref a0 := by
                      have := hz _ hq'
                      exact (Option.some.inj this).symm
                    subst ez
                    have nx : x ≠ Tt := ne_of_none hx' hT
                    have nd : dn ≠ Tt := ne_of_none hd' hT
                    have hT1 : H1 Tt = none := by
                      cases hh : H1 Tt with
                      | none => rfl
                      | some o =>
                        rw [hkeep Tt nx.symm nd.symm (by rw [hh]; exact fun z => nomatch z), hh] at hT
                        cases hT
                    have kT : ∀ b, b ≠ x → b ≠ dn → H1 b ≠ none → (upd H' Tt (.tup [.int ((0 : Nat) : Int), .ref a0])) b = H1 b := fun b c1 c2 c3 => by
                      have c4 : b ≠ Tt := fun z => c3 (z ▸ hT1)
                      rw [upd_ne c4]
                      exact hkeep b c1 c2 c3
                    obtain ⟨s3, s4⟩ := base1 _ kT
                    refine ⟨Tt, [.int ((0 : Nat) : Int), .ref a0], rfl, .inl (.inl upd_same), rfl, .int ((0 : Nat) : Int), [.ref a0], rfl, .ref a0, [], rfl, rfl, ?_⟩
                    refine ⟨.int ((0 : Nat) : Int), rfl, .ref x, rfl, x, C, dx, _, .ref dn, rfl, by rw [upd_ne nx]; exact hx', T.cl, T.nN, look_n, .ref a0, rfl, a0, _, 0, .str "main", rfl, rfl, same_t s3 h0q, rfl, dn, _, rfl, DPut.k (k := Sum.inr ("main" : Str)) (by rw [upd_ne nd]; exact hd') (small1000 (by omega)), ?_⟩
                    refine ⟨_, _, _, rfl, by rw [upd_ne hne.symm, upd_ne nx]; exact hx', upd_same, ?_, fun b c1 c2 c3 => by rw [upd_ne c2]; exact kT b c1 c2 c3⟩
                    have e0 : kvs = [] := List.length_eq_zero_iff.mp (by omega)
                    subst e0
                    exact Nat.le_refl 1
                  · have e1' : i = 1 := by omega
                    subst e1'
                    refine .inl ⟨⟨_, hq', rfl⟩, ?_⟩
                    refine q Hf1 H' vb (.ref at_) (.ref dn) ⟨e1.f, s2, s1, fun b z1 z2 => e1.n b (fun z => ?_) z2⟩ hf1x hx' hb ht
                    by_cases c : b = x
                    · subst c; exact z1 without_at
                    · rw [without_ne c] at z1; exact z1 z
end
end Cm

/-! run, and a new teller. -/
namespace Cm
open PySem PySem.Spec PyProof.Rows L2
section
variable {X : Cx} {B : Bs} {ε : List Sl} {D : Ends} {pos : Pos} {C : Addr}
theorem xMeth0 {o : Expr} {m : Str} {apos : Pos} {k : Nat} {f p : Addr} {fd : FuncData} {ps : List Str} {sp : Sp} {P : Hp → V → Prop} {g : Prg} (ho : XP X B ε o (fun _ u => u = .ref p)) (c : Cls X.K C) (hm : Meth X.K C m f) (F : FnOk X.prog X.w X.K X.mg X.base CX0 k f fd ps sp) (hr : Room k X.A) (hb : Binds X.K fd ps [])
    (hI : TAt X.K C B.fb p g) (hl : m ≠ "boxes" ∧ m ≠ "talks" ∧ m ≠ "numbers") (hsp : SpOkM X.K B sp p [] P) {pl : Sem Bool}
    (ht : eval (.Call (.Attribute o m apos) [] [] pos) X.env = (do
      let ov ← eval o X.env
      standAt apos.atName
      let (f, first) ← holding [ov] (getMethod ov m pl)
      callWith pos f first (backTo pos (starEach [] X.env)) (backToKw pos (keywordEach [] X.env))) := by rfl) : XP X B ε (.Call (.Attribute o m apos) [] [] pos) P :=
  ofP (pe_meth0 peC c hm F hr hb .nil (pass0 (X := X)) ht) fun Hf H σ S Q q => ho Hf H σ S _ fun u Hf1 H1 e1 hu => by
    have hu' : u = .ref p := hu
    obtain ⟨dx, vb, vt, vn, h1, _, _⟩ := hI
    have sf := S.fz.f.trans e1.f
    refine ⟨p, dx, _, hu', e1.s _ _ (sf _ _ h1), ?_, ?_⟩
    · simp only [List.lookup]
      rw [beq_eq_false_iff_ne.mpr hl.1, beq_eq_false_iff_ne.mpr hl.2.1, beq_eq_false_iff_ne.mpr hl.2.2]
    · subst hu'
      exact hsp Hf1 H1 [] Q _ sf e1.s .nil fun v Hf3 H3 e3 hp => q v Hf3 H3 (e1.trans e3) hp
/-- Teller(made) -/
theorem xTeller {p : Pos} {e : Expr} {f : Addr} {fd : FuncData} {k n : Nat} {d : PyData} {g : Prg} (M : Mk X.K C f) (F : FnOk X.prog X.w X.K X.mg X.base CX0 k f fd ["self", "script"] (SpInit X.K C n)) (hr : Room (k + 1) X.A) (hg : Gl X "Teller") (hm : X.mg "Teller" = some (.ref C)) (hb : Binds X.K fd ["self", "script"] [])
    (he : XD X B ε e d) (hok : FOk n d) (hfz : fz d = .tuple [boxD g.size, talksD g]) (hst : starEach [e] X.env = [(false, eval e X.env)] := by rfl) :
    XP X B ε (.Call (.Name "Teller" p) [e] [] pos) (fun Hf u => ∃ x, u = .ref x ∧ TAt X.K C Hf x g) :=
  ofP (pe_make M F hr hg hm hb .nil (pass0 (X := X)) (pa_cons peC pa_nil hst) (by decide) hst rfl) fun Hf H σ S Q q => he Hf H σ S _ fun v Hf1 H1 e1 hv => by
    intro x dx hx hdx hne
    rw [List.append_nil]
    have s1 : Same Hf1 (upd (upd H1 dx (.own x)) x (.ins C dx [])) := fun b o z => by
      have h1 := e1.s b o z
      rw [upd_ne (ne_of_none h1 hx), upd_ne (ne_of_none h1 hdx)]
      exact h1
    refine ⟨Hf1, x, dx, v, d, g, rfl, s1, e1.s.free hx, upd_same, hv, hok, hfz, fun Hf' H' vb vt vn e2 hn hx' hb' ht' => ⟨rfl, ?_⟩⟩
    have sf : Same Hf' (upd Hf' x (.ins C dx [("boxes", vb), ("talks", vt), ("numbers", vn)])) := fun b o z => by rw [upd_ne (ne_of_none z hn)]; exact z
    refine q (.ref x) (upd Hf' x (.ins C dx [("boxes", vb), ("talks", vt), ("numbers", vn)])) H' (e1.trans ⟨e2.f.trans sf, fun b o z => ?_, fun b o z => ?_, fun b z1 z2 => ?_⟩) ⟨x, rfl, dx, vb, vt, vn, upd_same, hb'.mono sf, ht'.mono sf⟩
    · refine e2.h b o ?_
      rw [without_ne (ne_of_none z hx), upd_ne (ne_of_none z hx), upd_ne (ne_of_none z hdx)]
      exact z
    · by_cases c : b = x
      · subst c; rw [upd_same] at z; rw [hx']; exact z
      · rw [upd_ne c] at z; exact e2.s b o z
    · have c : b ≠ x := fun y => z1 (y ▸ hx)
      rw [upd_ne c]
      refine e2.n b ?_ z2
      rw [without_ne c, upd_ne c]
      have c2 : b ≠ dx := fun y => z1 (y ▸ hdx)
      rw [upd_ne c2]
      exact z1
end
/-! ### run -/
def runFrom (g : Prg) : Option Stand → List Pat → Option (List (List Str))
  | _, [] => some []
  | st, e :: r => match stepM g st e with
    | none => none
    | some res => match runFrom g res.2 r with
      | none => none
      | some out => some (res.1 :: out)
def runM (g : Prg) (evs : List Pat) : Option (List (List Str)) :=
  match goN g 1000 begF 0 [] with
  | none => none
  | some res => match runFrom g res.2 evs with
    | none => none
    | some out => some (res.1 :: out)
def outD (out : List (List Str)) : List PyData := out.map fun l => .list (saidD l)
def FRun (g : Prg) (ds : List PyData) (r : PyData) : Prop := ∃ (evs : List Pat) (out : List (List Str)), ds = [.list (evs.map Pat.d)] ∧ runM g evs = some out ∧ r = .list (outD out) ∧ evs.length ≤ 1000 ∧ 0 < g.size
section
variable {P : Program} {w : World} {K : PySem.W.Frag} {mg : Str → Option Value} {base : Heap} {C : Addr}
theorem ok_run {f fB fS : Addr} {fd dB dS : FuncData} (F : Fun K "run" "run" sRun f fd) (T : TxtT K C) (MB : MethAt K C "begin" "Teller.begin" sBegin ["self"] fB dB) (GB : FnOk P w K mg base CX0 5 fB dB ["self"] (SpM K C FBegin))
    (MS : MethAt K C "step" "Teller.step" sStep ["self", "standing", "event"] fS dS) (GS : FnOk P w K mg base CX0 5 fS dS ["self", "standing", "event"] (SpM K C FStep)) : FnOk P w K mg base CX0 6 f fd ["machine", "events"] (SpM K C FRun) := by
  refine fnM F scRun (by decide) (fun g ds r h => ?_) fun cdv A outer s H E hr B D p g ds r hT h hR => ?_
  · obtain ⟨_, _, rfl, _⟩ := h
    rfl
  · obtain ⟨evs, out, rfl, hrun, rfl, hl, h0⟩ := h
    rw [runM] at hrun
    cases hg : goN g 1000 begF 0 [] with
    | none => rw [hg] at hrun; cases hrun
    | some res =>
      rw [hg] at hrun
      simp only at hrun
      cases hrf : runFrom g res.2 evs with
      | none => rw [hrf] at hrun; cases hrun
      | some out1 =>
        rw [hrf] at hrun
        have e1 : res.1 :: out1 = out := Option.some.inj hrun
        subst e1
        refine sCons (iAsg (pg_tup rfl (pgs_cons (pg_name (i := 2) scRun.nd rfl (Or.inl rfl)) (pgs_cons (pg_name (i := 3) scRun.nd rfl (Or.inl rfl)) pgs_nil))) (tgtTup (is := [2, 3]) rfl) (xMeth0 (xraw 0 rfl) T.cl MB.M GB hr MB.b hT (by decide +kernel) (spM_ok hT ⟨res, rfl, hg, h0, rfl⟩)) rfl ?_)
        refine sCons (iSetO 4 (xLst (xCons (xv 2 rfl) xNil) (by show 1 ≤ 100000; decide)) ?_ scRun.nd)
        refine sCons (iForL (fun i ε => ∃ (st : Option Stand) (done outr : List (List Str)) (x2 x5 : Sl), runFrom g st (evs.drop i) = some outr ∧ done ++ outr = out1 ∧ ε = [.raw (.ref p), .d (.list (evs.map Pat.d)), x2, .d (standD st), .own (outD (res.1 :: done)), x5])
          (xv 1 rfl) (pg_name (i := 5) scRun.nd rfl (Or.inl rfl)) tgtName ⟨res.2, [], out1, _, .no, hrf, rfl, rfl⟩ (fun B' hB i d ε hd ⟨st, done, outr, x2, x5, h1, h2, he⟩ => ?_) (fun ε ⟨st, done, outr, x2, x5, h1, h2, he⟩ => ?_) PassesOwn.never)
        · subst he
          rw [List.getElem?_map] at hd
          cases hev : evs[i]? with
          | none => rw [hev] at hd; cases hd
          | some e =>
            rw [hev] at hd
            have ed : e.d = d := Option.some.inj hd
            subst ed
            have hi : i < evs.length := (List.getElem?_eq_some_iff.mp hev).1
            have e3 : evs.drop i = e :: evs.drop (i + 1) := by
              rw [List.drop_eq_getElem_cons hi]
              rw [List.getElem?_eq_getElem hi] at hev
              rw [Option.some.inj hev]
            rw [e3, runFrom] at h1
            cases hs : stepM g st e with
            | none => rw [hs] at h1; cases h1
            | some r1 =>
              rw [hs] at h1
              simp only at h1
              cases hr1 : runFrom g r1.2 (evs.drop (i + 1)) with
              | none => rw [hr1] at h1; cases h1
              | some outr1 =>
                rw [hr1] at h1
                have e4 : r1.1 :: outr1 = outr := Option.some.inj h1
                subst e4
                refine ⟨_, rfl, fun N hN => ?_⟩
                refine sCons (iAsg (pg_tup rfl (pgs_cons (pg_name (i := 2) scRun.nd rfl (Or.inl rfl)) (pgs_cons (pg_name (i := 3) scRun.nd rfl (Or.inl rfl)) pgs_nil))) (tgtTup (is := [2, 3]) rfl) (xMeth (xraw 0 rfl) T.cl MS.M GS hr MS.b (hT.mono hB.f) (by decide +kernel) (xCons (xv 3 rfl) (xCons (xv 5 rfl) xNil)) (spM_ok (hT.mono hB.f) ⟨st, e, r1, rfl, hs, h0, rfl⟩)) rfl ?_)
                have hlen : done.length ≤ i := by
                  have hrl : ∀ (evs : List Pat) (st : Option Stand) (o : List (List Str)), runFrom g st evs = some o → o.length = evs.length := by
                    intro evs
                    induction evs with
                    | nil => intro st o h; rw [runFrom] at h; cases h; rfl
                    | cons e r ih =>
                      intro st o h
                      rw [runFrom] at h
                      cases h1 : stepM g st e with
                      | none => rw [h1] at h; cases h
                      | some q =>
                        rw [h1] at h
                        simp only at h
                        cases h2 : runFrom g q.2 r with
                        | none => rw [h2] at h; cases h
                        | some o2 =>
                          rw [h2] at h
                          have := ih _ _ h2
                          cases h
                          rw [List.length_cons, List.length_cons, this]
                  have l1 := hrl _ _ _ hrf
                  have l2 := hrl _ _ _ hr1
                  rw [← h2, List.length_append, List.length_cons, l2, List.length_drop] at l1
                  omega
                refine sCons (iApp 4 rfl (xv 2 rfl) (by rw [outD, List.length_map, List.length_cons]; omega) ?_)
                refine sNil (hN _ ⟨r1.2, done ++ [r1.1], outr1, .d (.list (saidD r1.1)), .d e.d, hr1, by rw [← h2, List.append_assoc]; rfl, ?_⟩)
                show ([Sl.raw (.ref p), .d (.list (evs.map Pat.d)), .d (.list (saidD r1.1)), .d (standD r1.2), .own (outD (res.1 :: done) ++ [.list (saidD r1.1)]), .d e.d] : List Sl) = _
                unfold outD
                rw [List.map_cons, List.map_cons, List.map_append]
                rfl
        · subst he
          rw [List.length_map, List.drop_length, runFrom] at h1
          cases h1
          rw [List.append_nil] at h2
          subst h2
          refine frz 4 rfl ?_
          exact sCons (iRet (xv 4 rfl) hR)
end
end Cm

/-! The law's helpers: cells, draws. -/
namespace Cm
open PySem PySem.Spec PyProof.Rows L2
/-! ### the script -/
/-- a def whose first argument is the script -/
def SpS (K : PySem.W.Frag) (F : List Int → List PyData → PyData → Prop) : Sp := fun vs H Q _ => ∃ (Hf : Hp) (a : Addr) (ns : List Int) (us : List V) (ds : List PyData) (r : PyData), vs = .ref a :: us ∧ Same Hf H ∧ SqL K Hf a (ns.map V.int) ∧ Das K Hf us ds ∧ F ns ds r ∧ ∀ v Hf' H', Fz Hf H Hf' H' → Da K Hf' v r → Q v H'
section
variable {X : Cx} {B : Bs} {ε : List Sl} {D : Ends} {pos : Pos}
theorem xCallS {k : Nat} {f a : Addr} {fd : FuncData} {ps : List Str} {F' : List Int → List PyData → PyData → Prop} {x : Str} {p : Pos} {e : Expr} {es : List Expr} {ns : List Int} {ds : List PyData} {r : PyData} (F : FnOk X.prog X.w X.K X.mg X.base CX0 k f fd ps (SpS X.K F')) (hr : Room k X.A) (hg : Gl X x) (hm : X.mg x = some (.ref f)) (hk : PySem.W.keepIn X.K (.ref f) = true) (hb : Binds X.K fd ps [])
    (he : XP X B ε e (fun _ u => u = .ref a)) (hS : SqL X.K B.fb a (ns.map V.int)) (ha : XA X B ε es ds) (hF : F' ns ds r) (hd : (x == ("__debug__" : Str)) = false := by decide) (hst : starEach (e :: es) X.env = (false, eval e X.env) :: starEach es X.env := by rfl) (hpl : (backTo pos (starEach es X.env)).any (·.1) = false := by rfl) :
    XD X B ε (.Call (.Name x p) (e :: es) [] pos) r :=
  ofP (pe_call F hr hg hm hk hb .nil (pass0 (X := X)) (pa_cons peC paC hst) hd hst hpl) fun Hf H σ S Q q => he Hf H σ S _ fun u Hf1 H1 e1 hu => by
    have hu' : u = .ref a := hu
    subst hu'
    refine ha Hf1 H1 σ (S.mono e1) _ fun vs Hf2 H2 e2 hds => ?_
    refine (show SpS X.K F' (.ref a :: vs ++ []) H2 Q E0 from ?_)
    rw [List.append_nil]
    have e3 := e1.trans e2
    exact ⟨Hf2, a, ns, vs, ds, r, rfl, e2.s, (S.fz.f.trans e3.f).seq hS, hds, hF, fun v Hf' H' e4 hv => q v Hf' H' (e3.trans e4) hv⟩
end
section
variable {P : Program} {w : World} {K : PySem.W.Frag} {mg : Str → Option Value} {base : Heap}
theorem fnS {x qual : Str} {st : Stmt} {f : Addr} {fd : FuncData} {N ps : List Str} {k : Nat} {F : List Int → List PyData → PyData → Prop} (Fn : Fun K x qual st f fd) (S : FnScope N ps (defScope st)) (hN : ps.length ≤ N.length) (len : ∀ ns ds r, F ns ds r → ds.length + 1 = ps.length)
    (body : ∀ (cdv : Value) (A : Around) (outer : List Env) (s : Shared) (H : Hp) (E : XK), Room k (A.deeper (envOfC qual (defScope st) s.heap.objs.size f cdv)) → ∀ (B : Bs) (D : Ends) (a : Addr) (ns : List Int) (ds : List PyData) (r : PyData), SqL K B.fb a (ns.map V.int) → F ns ds r → RetD K B D r →
      XS (BX P w K mg base N qual st f cdv A outer s H E) B (startE N (.raw (.ref a) :: ds.map .d)) (defBody st) D) : FnOk P w K mg base CX0 (k + 1) f fd ps (SpS K F) := by
  refine Fn.ok S (fun vs H Q E h => ?_) (fun cdv A outer s H vs Q E hr h => ?_)
  · obtain ⟨Hf, a, ns, us, ds, r, rfl, _, _, hd, hF, _⟩ := h
    rw [List.length_cons, hd.length, len ns ds r hF]
  · obtain ⟨Hf, a, ns, us, ds, r, rfl, hs, hS, hd, hF, q⟩ := h
    have hb := body cdv A outer s H E hr ⟨Hf, H⟩ { nx := fun _ H' => Q .non H', rt := Q } a ns ds r hS hF (fun v Hf' H' e hv => q v Hf' H' e hv)
    have hl := len ns ds r hF
    obtain ⟨t, h1, h2⟩ := hb Hf H (L2.start N (.ref a :: us)) (sx_start hs (by rw [List.length_cons, List.length_cons, List.length_map, hd.length]) (by rw [List.length_cons, List.length_map, hl]; exact hN) fun i y hy => by
      cases i with
      | zero => cases hy; exact ⟨.ref a, rfl, .inr rfl⟩
      | succ i =>
        obtain ⟨v, d, h1, h2, h3⟩ := das_map hd (i := i) hy
        exact ⟨v, h1, .inl ⟨d, h2, h3⟩⟩)
    exact ⟨t, h1, h2⟩
end
def cellAt (ns : List Int) (k : Int) : Int := if 0 ≤ k ∧ k < (ns.length : Int) then ns.getD k.toNat 0 else 0
def FCell (ns : List Int) (ds : List PyData) (r : PyData) : Prop := ∃ k : Int, ds = [.int k] ∧ r = .int (cellAt ns k)
theorem scCell : FnScope ["script", "k"] ["script", "k"] (defScope sCell) := ⟨rfl, rfl, rfl, by decide +kernel, rfl, by decide +kernel, by decide +kernel⟩
section
variable {P : Program} {w : World} {K : PySem.W.Frag} {mg : Str → Option Value} {base : Heap}
theorem xLenS {X : Cx} {B : Bs} {ε : List Sl} {pos p : Pos} {e : Expr} {a : Addr} {ns : List Int} (hg : Gl X "len") (hm : X.mg "len" = none) (he : XP X B ε e (fun _ u => u = .ref a)) (hS : SqL X.K B.fb a (ns.map V.int)) (hst : starEach [e] X.env = [(false, eval e X.env)] := by rfl) :
    XD X B ε (.Call (.Name "len" p) [e] [] pos) (.int (ns.length : Int)) := ofP (pe_callB call_len2 hg hm PySem.boot_len (pa_cons peC pa_nil hst) (by decide) (by decide) hst rfl) fun Hf H σ S Q q => he Hf H σ S _ fun u Hf1 H1 e1 hu => by
  have hu' : u = .ref a := hu
  subst hu'
  refine ⟨a, ns.map V.int, rfl, .inl (e1.s.seq ((S.fz.f.trans e1.f).seq hS)), ?_⟩
  rw [List.length_map]
  exact q _ Hf1 H1 e1 (.int _)
theorem xIxRaw {X : Cx} {B : Bs} {ε : List Sl} {pos : Pos} {o e : Expr} {a : Addr} {ns : List Int} {j x : Int} (ho : XP X B ε o (fun _ u => u = .ref a)) (he : XD X B ε e (.int j)) (hS : SqL X.K B.fb a (ns.map V.int)) (h : atI ns j = some x) (hs : PlainIx e := by exact fun _ _ => rfl) : XD X B ε (.Subscript o e pos) (.int x) :=
  ofP (pe_ix ix_list peC peC hs) fun Hf H σ S Q q => ho Hf H σ S _ fun v1 Hf1 H1 e1 h1 => he Hf1 H1 σ (S.mono e1) _ fun v2 Hf2 H2 e2 h2 => by
    have h1' : v1 = .ref a := h1
    subst h1'
    cases h2
    have e3 := e1.trans e2
    refine ⟨a, ns.map V.int, j, .int x, rfl, rfl, e3.s.seq ((S.fz.f.trans e3.f).seq hS), ?_, q _ Hf2 H2 e3 (.int _)⟩
    unfold atI at h ⊢
    rw [List.length_map]
    cases e : ixN ns.length j with
    | none => rw [e] at h; cases h
    | some m =>
      rw [e] at h
      show (ns.map V.int)[m]? = _
      rw [List.getElem?_map, show ns[m]? = some x from h]
      rfl
theorem ok_cell {f : Addr} {fd : FuncData} {k : Nat} (F : Fun K "_law_cell" "_law_cell" sCell f fd) (ml : mg "len" = none) : FnOk P w K mg base CX0 (k + 1) f fd ["script", "k"] (SpS K FCell) := by
  refine fnS F scCell (by decide) (fun ns ds r h => ?_) fun cdv A outer s H E hr B D a ns ds r hS h hR => ?_
  · obtain ⟨_, rfl, _⟩ := h
    rfl
  · obtain ⟨j, rfl, rfl⟩ := h
    have chain : ∀ pos p1 p2 p3 p4 p5, XT (BX P w K mg base ["script", "k"] "_law_cell" sCell f cdv A outer s H E) B [.raw (.ref a), .d (.int j)] (.Compare (.Constant (.int 0) 0 p1) [.LtE, .Lt] [.Name "k" p2, .Call (.Name "len" p3) [.Name "script" p4] [] p5] pos) (decide (0 ≤ j ∧ j < (ns.length : Int))) := fun pos p1 p2 p3 p4 p5 =>
      ofT (pt_chain op_le op_lt peC peC peC) fun Hf H σ S Q q => (xInt (X := BX P w K mg base ["script", "k"] "_law_cell" sCell f cdv A outer s _ E) (B := B) (ε := [.raw (.ref a), .d (.int j)])) Hf H σ S _ fun v1 Hf1 H1 e1 h1 =>
        (xv (X := BX P w K mg base ["script", "k"] "_law_cell" sCell f cdv A outer s _ E) (B := B) (ε := [.raw (.ref a), .d (.int j)]) 1 rfl) Hf1 H1 σ (S.mono e1) _ fun v2 Hf2 H2 e2 h2 => by
        cases h1; cases h2
        refine ⟨_, _, rfl, rfl, _, rfl, ?_⟩
        by_cases c : (0 : Int) ≤ j
        · rw [decide_eq_true c, if_pos rfl]
          refine (xLenS (X := BX P w K mg base ["script", "k"] "_law_cell" sCell f cdv A outer s _ E) (B := B) (ε := [.raw (.ref a), .d (.int j)]) rfl ml (xraw 0 rfl) hS) Hf2 H2 σ (S.mono (e1.trans e2)) _ fun v3 Hf3 H3 e3 h3 => ?_
          cases h3
          refine ⟨_, _, rfl, rfl, _, rfl, ?_⟩
          have ee : decide (j < (ns.length : Int)) = decide (0 ≤ j ∧ j < (ns.length : Int)) := by
            by_cases c2 : j < (ns.length : Int)
            · rw [decide_eq_true c2, decide_eq_true (show 0 ≤ j ∧ j < (ns.length : Int) from ⟨c, c2⟩)]
            · rw [decide_eq_false c2, decide_eq_false fun z => c2 z.2]
          rw [ee]
          exact q Hf3 H3 ((e1.trans e2).trans e3)
        · rw [decide_eq_false c, if_neg Bool.false_ne_true]
          refine ⟨_, rfl, ?_⟩
          have ee : false = decide (0 ≤ j ∧ j < (ns.length : Int)) := (decide_eq_false fun z => c z.1).symm
          rw [ee]
          exact q Hf2 H2 (e1.trans e2)
    by_cases c : 0 ≤ j ∧ j < (ns.length : Int)
    · refine sIfT (chain _ _ _ _ _ _) (decide_eq_true c) ?_
      have hj : j.toNat < ns.length := by omega
      have ec : cellAt ns j = ns[j.toNat] := by
        unfold cellAt
        rw [if_pos c, List.getD_eq_getElem?_getD, List.getElem?_eq_getElem hj]
        rfl
      rw [ec] at hR
      exact sCons (iRet (xIxRaw (xraw 0 rfl) (xv 1 rfl) hS (atI_of (j := j.toNat) (by omega) (List.getElem?_eq_getElem hj))) hR)
    · refine sIfF (chain _ _ _ _ _ _) (decide_eq_false c) ?_
      have ec : cellAt ns j = 0 := by
        unfold cellAt
        rw [if_neg c]
      rw [ec] at hR
      exact sCons (iRet xInt hR)
end
/-! ### _law_stir -/
def mersB : Int := 170141183460469231731687303715884105727
def multB : Int := 27182818284590452353602874713527
def stirB (cell k : Int) : Int := (cell % (10 ^ (60 : Int).toNat) + 7919 * k + 1) * multB % mersB
def stir (cell k : Int) : Int := stirB cell k * stirB cell k % mersB / 5
def FStir (ds : List PyData) (r : PyData) : Prop := ∃ (cell k : Int), ds = [.int cell, .int k] ∧ 0 ≤ k ∧ k ≤ 100 ∧ r = .int (stir cell k)
theorem scStir : FnScope ["cell", "k", "number"] ["cell", "k"] (defScope sStir) := ⟨rfl, rfl, rfl, by decide +kernel, rfl, by decide +kernel, by decide +kernel⟩
theorem ten60 : (10 : Int) ^ (60 : Int).toNat = 1000000000000000000000000000000000000000000000000000000000000 := by decide +kernel
theorem natAbs_lt_of {i : Int} {n : Nat} (h0 : 0 ≤ i) (h1 : i < ((2 ^ n : Nat) : Int)) : i.natAbs < 2 ^ n := by omega
section
variable {P : Program} {w : World} {K : PySem.W.Frag} {mg : Str → Option Value} {base : Heap}
theorem ok_stir {f : Addr} {fd : FuncData} {k : Nat} (F : Fun K "_law_stir" "_law_stir" sStir f fd) : FnOk P w K mg base CX0 (k + 1) f fd ["cell", "k"] (SpD K FStir) := by
  refine fnD F scStir (by decide) (fun ds r h => ?_) fun cdv A outer s H E hr B D ds r h hR => ?_
  · obtain ⟨_, _, rfl, _⟩ := h
    rfl
  · obtain ⟨cell, j, rfl, h0, h1, rfl⟩ := h
    have b1 : 0 ≤ cell % (10 : Int) ^ (60 : Int).toNat := Int.emod_nonneg _ (by rw [ten60]; decide)
    have b2 : cell % (10 : Int) ^ (60 : Int).toNat < 1000000000000000000000000000000000000000000000000000000000000 := by
      have := Int.emod_lt_of_pos cell (show (0 : Int) < (10 : Int) ^ (60 : Int).toNat by rw [ten60]; decide)
      rw [ten60] at this ⊢
      exact this
    have p220 : ((2 ^ 220 : Nat) : Int) = 1684996666696914987166688442938726917102321526408785780068975640576 := by decide +kernel
    have m1 : CMulW (cell % (10 : Int) ^ (60 : Int).toNat + 7919 * j + 1) 27182818284590452353602874713527 := wide_mul (a := 220) (b := 110) (natAbs_lt_of (by omega) (by rw [p220]; omega)) (by decide +kernel) (by decide) (by decide) (by decide)
    have c1 : 0 ≤ stirB cell j := Int.emod_nonneg _ (by decide)
    have c2 : stirB cell j < mersB := Int.emod_lt_of_pos _ (by decide)
    have p127 : ((2 ^ 128 : Nat) : Int) = 340282366920938463463374607431768211456 := by decide +kernel
    have hm : mersB = 170141183460469231731687303715884105727 := rfl
    have m2 : CMulW (stirB cell j) (stirB cell j) := wide_mul (a := 128) (b := 128) (natAbs_lt_of c1 (by rw [p127]; omega)) (natAbs_lt_of c1 (by rw [p127]; omega)) (by decide) (by decide) (by decide)
    refine sCons (iSet 2 (xMulW (xAdd (xAdd (xMod (xv 0 rfl) (xPow xInt xInt ⟨by decide, by decide, by decide⟩) (by rw [ten60]; decide)) (xMul xInt (xv 1 rfl) (.inl ⟨by decide, by decide⟩))) xInt) xInt m1) ?_ scStir.nd)
    refine sCons (iSet 2 (d := .int (stirB cell j)) (xMod (xv 2 rfl) xInt (by decide)) ?_ scStir.nd)
    exact sCons (iRet (xFdiv (xMod (xMulW (xv 2 rfl) (xv 2 rfl) m2) xInt (by decide)) xInt ⟨by decide, by decide⟩) hR)
end
/-! ### _law_drawn -/
def drawGo (even : Bool) : Nat → Int → List Int → List Int
  | _, _, [] => []
  | k, rest, s :: r => if even = true then rest % s :: drawGo even (k + 1) (rest / s) r else stir rest (k : Int) % s :: drawGo even (k + 1) rest r
def drawn (cell : Int) (sizes : List Int) : List Int := drawGo (decide (cell % 2 = 0)) 0 (cell / 2) sizes
def intsD (l : List Int) : List PyData := l.map PyData.int
def SizesOk (sizes : List Int) : Prop := sizes.length ≤ 50 ∧ ∀ s ∈ sizes, 0 < s ∧ s < 1000
def FDrawn (ds : List PyData) (r : PyData) : Prop := ∃ (cell : Int) (sizes : List Int), ds = [.int cell, .list (intsD sizes)] ∧ SizesOk sizes ∧ r = .list (intsD (drawn cell sizes))
theorem scDrawn : FnScope ["cell", "sizes", "found", "rest", "k", "size"] ["cell", "sizes"] (defScope sDrawn) := ⟨rfl, rfl, rfl, by decide +kernel, rfl, by decide +kernel, by decide +kernel⟩
structure StirAt (K : PySem.W.Frag) (mg : Str → Option Value) (f : Addr) (fd : FuncData) : Prop where
  F : Fun K "_law_stir" "_law_stir" sStir f fd
  b : Binds K fd ["cell", "k"] []
  m : mg "_law_stir" = some (.ref f)
section
variable {P : Program} {w : World} {K : PySem.W.Frag} {mg : Str → Option Value} {base : Heap}
theorem ok_drawn {f q : Addr} {fd qd : FuncData} {k : Nat} (F : Fun K "_law_drawn" "_law_drawn" sDrawn f fd) (T : StirAt K mg q qd) (me : mg "enumerate" = none) : FnOk P w K mg base CX0 (k + 2) f fd ["cell", "sizes"] (SpD K FDrawn) := by
  have G : FnOk P w K mg base CX0 (k + 1) q qd ["cell", "k"] (SpD K FStir) := ok_stir T.F
  refine fnD F scDrawn (by decide) (fun ds r h => ?_) fun cdv A outer s H E hr B D ds r h hR => ?_
  · obtain ⟨_, _, rfl, _⟩ := h
    rfl
  · obtain ⟨cell, sizes, rfl, ⟨hl, hs⟩, rfl⟩ := h
    refine sCons (iSetO 2 (xLst xNil (by decide)) ?_ scDrawn.nd)
    refine sCons (iSet 3 (xFdiv (xv 0 rfl) xInt ⟨by decide, by decide⟩) ?_ scDrawn.nd)
    refine sCons (iForEn (fun i ε => ∃ (done : List Int) (rest : Int) (x4 x5 : Sl), done.length = i ∧ done ++ drawGo (decide (cell % 2 = 0)) i rest (sizes.drop i) = drawn cell sizes ∧ ε = [.d (.int cell), .d (.list (intsD sizes)), .own (intsD done), .d (.int rest), x4, x5]) rfl me (xv 1 rfl)
      (pg_tup rfl (pgs_cons (pg_name (i := 4) scDrawn.nd rfl (Or.inl rfl)) (pgs_cons (pg_name (i := 5) scDrawn.nd rfl (Or.inl rfl)) pgs_nil))) (tgtTup (is := [4, 5]) rfl) ⟨[], cell / 2, .no, .no, rfl, rfl, rfl⟩ (fun B' hB i d ε hd ⟨done, rest, x4, x5, h1, h2, he⟩ => ?_) (fun ε ⟨done, rest, x4, x5, h1, h2, he⟩ => ?_) PassesOwn.never)
    · subst he
      rw [intsD, List.getElem?_map] at hd
      cases hz : sizes[i]? with
      | none => rw [hz] at hd; cases hd
      | some z =>
        rw [hz] at hd
        have ed : PyData.int z = d := Option.some.inj hd
        subst ed
        have hi : i < sizes.length := (List.getElem?_eq_some_iff.mp hz).1
        have hz' : sizes[i] = z := by rw [List.getElem?_eq_getElem hi] at hz; exact Option.some.inj hz
        obtain ⟨z0, z1⟩ := hs z (List.mem_iff_getElem?.mpr ⟨i, hz⟩)
        have e3 : sizes.drop i = z :: sizes.drop (i + 1) := by
          rw [List.drop_eq_getElem_cons hi, hz']
        rw [e3, drawGo] at h2
        intro N hN
        by_cases hc : cell % 2 = 0
        · rw [if_pos (decide_eq_true hc)] at h2
          refine sIfT (tEqI (xMod (xv 0 rfl) xInt (by decide)) xInt) (decide_eq_true hc) ?_
          refine sCons (iApp 2 rfl (xMod (xv 3 rfl) (xv 5 rfl) z0) (by rw [intsD, List.length_map]; omega) ?_)
          refine sCons (iSet 3 (xFdiv (xv 3 rfl) (xv 5 rfl) ⟨z0, by omega⟩) ?_ scDrawn.nd)
          refine sNil (sNil (hN _ ⟨done ++ [rest % z], rest / z, .d (.int (i : Int)), .d (.int z), by rw [List.length_append, h1]; rfl, by rw [List.append_assoc]; exact h2, ?_⟩))
          show ([Sl.d (.int cell), .d (.list (intsD sizes)), .own (intsD done ++ [.int (rest % z)]), .d (.int (rest / z)), .d (.int (i : Int)), .d (.int z)] : List Sl) = _
          unfold intsD
          rw [List.map_append]
          rfl
        · rw [if_neg (by rw [decide_eq_false hc]; exact Bool.false_ne_true)] at h2
          refine sIfE (tEqI (xMod (xv 0 rfl) xInt (by decide)) xInt) (decide_eq_false hc) ?_
          refine sCons (iApp 2 rfl (xMod (xCall (CX := CX0) G hr rfl T.m T.F.kp T.b (xCons (xv 3 rfl) (xCons (xv 4 rfl) xNil)) (spD_ok ⟨rest, (i : Int), rfl, by omega, by omega, rfl⟩)) (xv 5 rfl) z0) (by rw [intsD, List.length_map]; omega) ?_)
          refine sNil (sNil (hN _ ⟨done ++ [stir rest (i : Int) % z], rest, .d (.int (i : Int)), .d (.int z), by rw [List.length_append, h1]; rfl, by rw [List.append_assoc]; exact h2, ?_⟩))
          show ([Sl.d (.int cell), .d (.list (intsD sizes)), .own (intsD done ++ [.int (stir rest (i : Int) % z)]), .d (.int rest), .d (.int (i : Int)), .d (.int z)] : List Sl) = _
          unfold intsD
          rw [List.map_append]
          rfl
    · subst he
      rw [intsD, List.length_map, List.drop_length, drawGo, List.append_nil] at h2
      subst h2
      refine frz 2 rfl ?_
      exact sCons (iRet (xv 2 rfl) hR)
/-- what is drawn: as many as sizes, each below its size -/
theorem drawGo_ok (even : Bool) : ∀ (sizes : List Int) (k : Nat) (rest : Int), (∀ s ∈ sizes, 0 < s) → (drawGo even k rest sizes).length = sizes.length ∧ ∀ (i : Nat) (x z : Int), (drawGo even k rest sizes)[i]? = some x → sizes[i]? = some z → 0 ≤ x ∧ x < z
  | [], _, _, _ => ⟨rfl, fun i x z h => by rw [drawGo] at h; simp at h⟩
  | s :: r, k, rest, h => by
    have h0 := h s List.mem_cons_self
    have hr : ∀ z ∈ r, 0 < z := fun z hz => h z (List.mem_cons_of_mem _ hz)
    rw [drawGo]
    by_cases c : even = true
    · rw [if_pos c]
      have ih := drawGo_ok even r (k + 1) (rest / s) hr
      refine ⟨by rw [List.length_cons, List.length_cons, ih.1], fun i x z h1 h2 => ?_⟩
      cases i with
      | zero =>
        cases h1; cases h2
        exact ⟨Int.emod_nonneg _ (by omega), Int.emod_lt_of_pos _ h0⟩
      | succ i => exact ih.2 i x z h1 h2
    · rw [if_neg c]
      have ih := drawGo_ok even r (k + 1) rest hr
      refine ⟨by rw [List.length_cons, List.length_cons, ih.1], fun i x z h1 h2 => ?_⟩
      cases i with
      | zero =>
        cases h1; cases h2
        exact ⟨Int.emod_nonneg _ (by omega), Int.emod_lt_of_pos _ h0⟩
      | succ i => exact ih.2 i x z h1 h2
end
end Cm

/-! The law's helpers: rows, turns, events. -/
namespace Cm
open PySem PySem.Spec PyProof.Rows L2
inductive Sd | a | bb | ho (l : Fin 10)
def Sd.s : Sd → Str
  | .a => "a"
  | .bb => "bb"
  | .ho l => handS (l.val : Int) "c"
inductive Wy | on | again | leave | stop
  deriving DecidableEq
def Wy.s : Wy → Str
  | .on => "on"
  | .again => "again"
  | .leave => "leave"
  | .stop => "stop"
def owS : Option Wy → Str
  | none => "rest"
  | some w => w.s
structure Rw where
  pat : Pat
  sd : Sd
  way : Wy
def Rw.d (r : Rw) : PyData := .tuple [r.pat.d, .str r.sd.s, .str r.way.s]
def rowsD (rows : List Rw) : PyData := .list (rows.map Rw.d)
def oRw : Option Rw → PyData
  | none => .none
  | some r => r.d
def findR (rows : List Rw) (p : Pat) : Option Rw := rows.find? fun r => decide (r.pat = p)
def FRow (ds : List PyData) (r : PyData) : Prop := ∃ (rows : List Rw) (p : Pat), ds = [rowsD rows, p.d] ∧ r = oRw (findR rows p)
section
variable {P : Program} {w : World} {K : PySem.W.Frag} {mg : Str → Option Value} {base : Heap}
theorem ok_row {f : Addr} {fd : FuncData} {k : Nat} (F : Fun K "_law_row" "_law_row" sRow f fd) : FnOk P w K mg base CX0 (k + 1) f fd ["rows", "pattern"] (SpD K FRow) := by
  refine fnD F scRow (by decide) (fun ds r h => ?_) fun cdv A outer s H E hr B D ds r h hR => ?_
  · obtain ⟨_, _, rfl, _⟩ := h
    rfl
  · obtain ⟨rows, p, rfl, rfl⟩ := h
    refine sCons (iForL (fun i ε => ∃ x : Sl, findR rows p = findR (rows.drop i) p ∧ ε = [.d (rowsD rows), .d p.d, x]) (xv 0 rfl) (pg_name (i := 2) scRow.nd rfl (Or.inl rfl)) tgtName ⟨.no, rfl, rfl⟩ (fun B' hB i d ε hd ⟨x, h1, he⟩ => ?_) (fun ε ⟨x, h1, he⟩ => ?_) PassesOwn.never)
    · subst he
      rw [List.getElem?_map] at hd
      cases hz : rows[i]? with
      | none => rw [hz] at hd; cases hd
      | some z =>
        rw [hz] at hd
        have ed : z.d = d := Option.some.inj hd
        subst ed
        have hi : i < rows.length := (List.getElem?_eq_some_iff.mp hz).1
        have e3 : rows.drop i = z :: rows.drop (i + 1) := by
          rw [List.drop_eq_getElem_cons hi]
          rw [List.getElem?_eq_getElem hi] at hz
          rw [Option.some.inj hz]
        refine ⟨_, rfl, fun N hN => ?_⟩
        have cond := pat_eqv z.pat p
        by_cases hc : z.pat = p
        · refine sIfT (tEqD hr.units (xIxT (xv 2 rfl) xInt (d := z.pat.d) rfl) (xv 1 rfl) ((pat_shp z.pat).ok (by decide)) ((pat_shp p).ok (by decide))) (by rw [cond]; exact decide_eq_true hc) ?_
          have e4 : findR rows p = some z := by
            rw [h1, e3]
            unfold findR
            rw [List.find?_cons_of_pos (by exact decide_eq_true hc)]
          rw [e4] at hR
          exact sCons (iRet (xv 2 rfl) (RetD.up hR hB))
        · refine sIfF (tEqD hr.units (xIxT (xv 2 rfl) xInt (d := z.pat.d) rfl) (xv 1 rfl) ((pat_shp z.pat).ok (by decide)) ((pat_shp p).ok (by decide))) (by rw [cond]; exact decide_eq_false hc) ?_
          refine sNil (hN _ ⟨.d z.d, ?_, rfl⟩)
          rw [h1, e3]
          unfold findR
          rw [List.find?_cons_of_neg (by rw [decide_eq_false hc]; exact Bool.false_ne_true)]
    · subst he
      rw [List.length_map, List.drop_length] at h1
      rw [h1] at hR
      exact sCons (iRet xNone hR)
end
/-! ### _law_turn -/
def rowOf (rows : List Rw) (e : Pat) : Option Rw := match findR rows e with
  | some r => some r
  | none => if e = .quiet then none else findR rows .other
def lawTurn (rows : List Rw) (limit left : Int) (e : Pat) : List Str × Option Wy × Int :=
  match rowOf rows e with
  | some r => ([r.sd.s], some r.way, limit)
  | none => if limit = 0 ∨ left > 1 then ([], none, left - 1) else
    match findR rows .none with
    | none => ([], some .on, limit)
    | some r => ([r.sd.s], some r.way, limit)
def turnD (t : List Str × Option Wy × Int) : PyData := .list [.list (saidD t.1), .str (owS t.2.1), .int t.2.2]
def FTurn (ds : List PyData) (r : PyData) : Prop := ∃ (rows : List Rw) (limit left : Int) (e : Pat), ds = [rowsD rows, .int limit, .int left, e.d] ∧ r = turnD (lawTurn rows limit left e)
theorem scTurn : FnScope ["rows", "limit", "left", "event", "row"] ["rows", "limit", "left", "event"] (defScope sTurn) := ⟨rfl, rfl, rfl, by decide +kernel, rfl, by decide +kernel, by decide +kernel⟩
structure RowAt (K : PySem.W.Frag) (mg : Str → Option Value) (f : Addr) (fd : FuncData) : Prop where
  F : Fun K "_law_row" "_law_row" sRow f fd
  b : Binds K fd ["rows", "pattern"] []
  m : mg "_law_row" = some (.ref f)
section
variable {P : Program} {w : World} {K : PySem.W.Frag} {mg : Str → Option Value} {base : Heap}
theorem ok_turn {f q : Addr} {fd qd : FuncData} {k : Nat} (F : Fun K "_law_turn" "_law_turn" sTurn f fd) (T : RowAt K mg q qd) : FnOk P w K mg base CX0 (k + 2) f fd ["rows", "limit", "left", "event"] (SpD K FTurn) := by
  have G : FnOk P w K mg base CX0 (k + 1) q qd ["rows", "pattern"] (SpD K FRow) := ok_row T.F
  refine fnD F scTurn (by decide) (fun ds r h => ?_) fun cdv A outer s H E hr B D ds r h hR => ?_
  · obtain ⟨_, _, _, _, rfl, _⟩ := h
    rfl
  · obtain ⟨rows, limit, left, e, rfl, rfl⟩ := h
    have he := pat_eqv e .quiet
    have hu := hr.units
    refine sCons (iSet 4 (xCall (CX := CX0) G hr rfl T.m T.F.kp T.b (xCons (xv 0 rfl) (xCons (xv 3 rfl) xNil)) (spD_ok ⟨rows, e, rfl, rfl⟩)) ?_ scTurn.nd)
    cases hf : findR rows e with
    | some r1 =>
      have hro : rowOf rows e = some r1 := by unfold rowOf; rw [hf]
      unfold lawTurn at hR
      rw [hro] at hR
      refine sIfF (tAnd (y := false) (tIsN (xv 4 rfl)) fun h => nomatch h) rfl ?_
      refine sIfT (tNotN (xv 4 rfl)) rfl ?_
      exact sCons (iRet (XO.d (xLst (xCons (XO.d (xLst (xCons (xIxT (xv 4 rfl) xInt (d := .str r1.sd.s) rfl) xNil) (by show 1 ≤ 100000; decide))) (xCons (xIxT (xv 4 rfl) xInt (d := .str r1.way.s) rfl) (xCons (xv 1 rfl) xNil))) (by show 3 ≤ 100000; decide))) hR)
    | none =>
      by_cases hq : e = .quiet
      · have hro : rowOf rows e = none := by unfold rowOf; rw [hf]; exact if_pos hq
        unfold lawTurn at hR
        rw [hro] at hR
        refine sIfF (tAnd (tIsN (xv 4 rfl)) fun _ => tNeD hu (xv 3 rfl) (xTup (xCons xStr xNil) (by show 1 ≤ 100000; decide)) ((pat_shp e).ok (by decide)) ((pat_shp .quiet).ok (by decide))) (by
          show (true && !PyData.eqv e.d Pat.quiet.d) = false
          rw [he, decide_eq_true hq]; rfl) ?_
        refine sIfF (tNotN (xv 4 rfl)) rfl ?_
        by_cases hl : limit = 0 ∨ left > 1
        · have hR : RetD K B D (turnD ([], none, left - 1)) := by
            have : (if limit = 0 ∨ left > 1 then (([], none, left - 1) : List Str × Option Wy × Int) else match findR rows .none with
              | none => ([], some .on, limit)
              | some r => ([r.sd.s], some r.way, limit)) = ([], none, left - 1) := if_pos hl
            rw [← this]
            exact hR
          refine sIfT (tOr (tEqI (xv 1 rfl) xInt) fun _ => tGt (xv 2 rfl) xInt) (by
            rcases hl with h | h
            · rw [decide_eq_true h]; rfl
            · rw [decide_eq_true (show (1 : Int) < left from h)]; exact Bool.or_true _) ?_
          exact sCons (iRet (XO.d (xLst (xCons (XO.d (xLst xNil (by decide))) (xCons xStr (xCons (xSub (xv 2 rfl) xInt) xNil))) (by show 3 ≤ 100000; decide))) hR)
        · refine sIfF (tOr (tEqI (xv 1 rfl) xInt) fun _ => tGt (xv 2 rfl) xInt) (by
            have h1 : ¬ limit = 0 := fun z => hl (.inl z)
            have h2 : ¬ (1 : Int) < left := fun z => hl (.inr z)
            rw [decide_eq_false h1, decide_eq_false h2]; rfl) ?_
          refine sCons (iSet 4 (xCall (CX := CX0) G hr rfl T.m T.F.kp T.b (xCons (xv 0 rfl) (xCons (xTup (xCons xStr xNil) (by show 1 ≤ 100000; decide)) xNil)) (spD_ok ⟨rows, .none, rfl, rfl⟩)) ?_ scTurn.nd)
          have hR : RetD K B D (turnD (match findR rows .none with
              | none => ([], some .on, limit)
              | some r => ([r.sd.s], some r.way, limit))) := by
            have : (if limit = 0 ∨ left > 1 then (([], none, left - 1) : List Str × Option Wy × Int) else match findR rows .none with
              | none => ([], some .on, limit)
              | some r => ([r.sd.s], some r.way, limit)) = (match findR rows .none with
              | none => ([], some .on, limit)
              | some r => ([r.sd.s], some r.way, limit)) := if_neg hl
            rw [← this]
            exact hR
          cases hn : findR rows .none with
          | none =>
            rw [hn] at hR
            refine sIfT (tIsN (xv 4 rfl)) rfl ?_
            exact sCons (iRet (XO.d (xLst (xCons (XO.d (xLst xNil (by decide))) (xCons xStr (xCons (xv 1 rfl) xNil))) (by show 3 ≤ 100000; decide))) hR)
          | some r1 =>
            rw [hn] at hR
            refine sIfF (tIsN (xv 4 rfl)) rfl ?_
            exact sCons (iRet (XO.d (xLst (xCons (XO.d (xLst (xCons (xIxT (xv 4 rfl) xInt (d := .str r1.sd.s) rfl) xNil) (by show 1 ≤ 100000; decide))) (xCons (xIxT (xv 4 rfl) xInt (d := .str r1.way.s) rfl) (xCons (xv 1 rfl) xNil))) (by show 3 ≤ 100000; decide))) hR)
      · refine sIfT (tAnd (tIsN (xv 4 rfl)) fun _ => tNeD hu (xv 3 rfl) (xTup (xCons xStr xNil) (by show 1 ≤ 100000; decide)) ((pat_shp e).ok (by decide)) ((pat_shp .quiet).ok (by decide))) (by
          show (true && !PyData.eqv e.d Pat.quiet.d) = true
          rw [he, decide_eq_false hq]; rfl) ?_
        refine sCons (iSet 4 (xCall (CX := CX0) G hr rfl T.m T.F.kp T.b (xCons (xv 0 rfl) (xCons (xTup (xCons xStr xNil) (by show 1 ≤ 100000; decide)) xNil)) (spD_ok ⟨rows, .other, rfl, rfl⟩)) ?_ scTurn.nd)
        refine sNil ?_
        have hro : rowOf rows e = findR rows .other := by unfold rowOf; rw [hf]; exact if_neg hq
        unfold lawTurn at hR
        rw [hro] at hR
        cases ho : findR rows .other with
        | some r1 =>
          rw [ho] at hR
          refine sIfT (tNotN (xv 4 rfl)) rfl ?_
          exact sCons (iRet (XO.d (xLst (xCons (XO.d (xLst (xCons (xIxT (xv 4 rfl) xInt (d := .str r1.sd.s) rfl) xNil) (by show 1 ≤ 100000; decide))) (xCons (xIxT (xv 4 rfl) xInt (d := .str r1.way.s) rfl) (xCons (xv 1 rfl) xNil))) (by show 3 ≤ 100000; decide))) hR)
        | none =>
          rw [ho] at hR
          refine sIfF (tNotN (xv 4 rfl)) rfl ?_
          by_cases hl : limit = 0 ∨ left > 1
          · have hR : RetD K B D (turnD ([], none, left - 1)) := by
              have : (if limit = 0 ∨ left > 1 then (([], none, left - 1) : List Str × Option Wy × Int) else match findR rows .none with
                | none => ([], some .on, limit)
                | some r => ([r.sd.s], some r.way, limit)) = ([], none, left - 1) := if_pos hl
              rw [← this]
              exact hR
            refine sIfT (tOr (tEqI (xv 1 rfl) xInt) fun _ => tGt (xv 2 rfl) xInt) (by
              rcases hl with h | h
              · rw [decide_eq_true h]; rfl
              · rw [decide_eq_true (show (1 : Int) < left from h)]; exact Bool.or_true _) ?_
            exact sCons (iRet (XO.d (xLst (xCons (XO.d (xLst xNil (by decide))) (xCons xStr (xCons (xSub (xv 2 rfl) xInt) xNil))) (by show 3 ≤ 100000; decide))) hR)
          · refine sIfF (tOr (tEqI (xv 1 rfl) xInt) fun _ => tGt (xv 2 rfl) xInt) (by
              have h1 : ¬ limit = 0 := fun z => hl (.inl z)
              have h2 : ¬ (1 : Int) < left := fun z => hl (.inr z)
              rw [decide_eq_false h1, decide_eq_false h2]; rfl) ?_
            refine sCons (iSet 4 (xCall (CX := CX0) G hr rfl T.m T.F.kp T.b (xCons (xv 0 rfl) (xCons (xTup (xCons xStr xNil) (by show 1 ≤ 100000; decide)) xNil)) (spD_ok ⟨rows, .none, rfl, rfl⟩)) ?_ scTurn.nd)
            have hR : RetD K B D (turnD (match findR rows .none with
                | none => ([], some .on, limit)
                | some r => ([r.sd.s], some r.way, limit))) := by
              have : (if limit = 0 ∨ left > 1 then (([], none, left - 1) : List Str × Option Wy × Int) else match findR rows .none with
                | none => ([], some .on, limit)
                | some r => ([r.sd.s], some r.way, limit)) = (match findR rows .none with
                | none => ([], some .on, limit)
                | some r => ([r.sd.s], some r.way, limit)) := if_neg hl
              rw [← this]
              exact hR
            cases hn : findR rows .none with
            | none =>
              rw [hn] at hR
              refine sIfT (tIsN (xv 4 rfl)) rfl ?_
              exact sCons (iRet (XO.d (xLst (xCons (XO.d (xLst xNil (by decide))) (xCons xStr (xCons (xv 1 rfl) xNil))) (by show 3 ≤ 100000; decide))) hR)
            | some r1 =>
              rw [hn] at hR
              refine sIfF (tIsN (xv 4 rfl)) rfl ?_
              exact sCons (iRet (XO.d (xLst (xCons (XO.d (xLst (xCons (xIxT (xv 4 rfl) xInt (d := .str r1.sd.s) rfl) xNil) (by show 1 ≤ 100000; decide))) (xCons (xIxT (xv 4 rfl) xInt (d := .str r1.way.s) rfl) (xCons (xv 1 rfl) xNil))) (by show 3 ≤ 100000; decide))) hR)
end
/-! ### _law_event -/
def isKW : Pat → Bool
  | .key _ => true
  | .word _ => true
  | _ => false
def wd5 (i : Int) : Wd := if i = 0 then .no else if i = 1 then .other else if i = 2 then .none else if i = 3 then .quiet else .maybe
def someOf (rows : List Rw) : List Pat := (rows.filter fun r => isKW r.pat).map Rw.pat
def evBy (way key at_ : Int) (some : List Pat) : Pat :=
  if way < 2 ∧ some ≠ [] then some.getD (at_ % (some.length : Int)).toNat .quiet
  else if way < 5 then .quiet
  else if at_ % 2 = 0 then .key key else .word (wd5 (at_ / 2 % 5))
def evOf (cell : Int) (rows : List Rw) : Pat := match drawn cell [6, 10, 12] with
  | [way, key, at_] => evBy way key at_ (someOf rows)
  | _ => .quiet
def FEvent (ds : List PyData) (r : PyData) : Prop := ∃ (cell : Int) (rows : List Rw), ds = [.int cell, rowsD rows] ∧ r = (evOf cell rows).d ∧ rows.length ≤ 1000
theorem scEvent : FnScope ["cell", "rows", "way", "key", "at", "some", "row"] ["cell", "rows"] (defScope sEvent) := ⟨rfl, rfl, rfl, by decide +kernel, rfl, by decide +kernel, by decide +kernel⟩
structure DrawnAt (K : PySem.W.Frag) (mg : Str → Option Value) (f : Addr) (fd : FuncData) : Prop where
  F : Fun K "_law_drawn" "_law_drawn" sDrawn f fd
  b : Binds K fd ["cell", "sizes"] []
  m : mg "_law_drawn" = some (.ref f)
theorem drawn_ok (cell : Int) (sizes : List Int) (h : ∀ s ∈ sizes, 0 < s) : (drawn cell sizes).length = sizes.length ∧ ∀ (i : Nat) (x z : Int), (drawn cell sizes)[i]? = some x → sizes[i]? = some z → 0 ≤ x ∧ x < z := drawGo_ok _ sizes 0 _ h
theorem drawn3 (cell a b c : Int) (h : 0 < a ∧ 0 < b ∧ 0 < c) : ∃ x y z, drawn cell [a, b, c] = [x, y, z] ∧ 0 ≤ x ∧ x < a ∧ 0 ≤ y ∧ y < b ∧ 0 ≤ z ∧ z < c := by
  obtain ⟨h1, h2⟩ := drawn_ok cell [a, b, c] (by
    intro s hs
    rcases List.mem_cons.mp hs with e | hs
    · subst e; exact h.1
    · rcases List.mem_cons.mp hs with e | hs
      · subst e; exact h.2.1
      · have e := List.mem_singleton.mp hs
        subst e; exact h.2.2)
  match e : drawn cell [a, b, c], h1 with
  | [x, y, z], _ =>
    rw [e] at h2
    have k0 := h2 0 x a rfl rfl
    have k1 := h2 1 y b rfl rfl
    have k2 := h2 2 z c rfl rfl
    exact ⟨x, y, z, rfl, k0.1, k0.2, k1.1, k1.2, k2.1, k2.2⟩
def keepKW : PyData → Bool
  | .tuple (.tuple (x :: _) :: _) => ([.str "key", .str "word"] : List PyData).any fun z => PyData.eqv z x
  | _ => false
def headD : PyData → PyData
  | .tuple (x :: _) => x
  | _ => .none
theorem keep_row (r : Rw) : keepKW r.d = isKW r.pat := by
  obtain ⟨pat, sd, way⟩ := r
  cases pat with
  | quiet =>
    show (([.str "key", .str "word"] : List PyData).any fun z => PyData.eqv z (.str "quiet")) = false
    decide +kernel
  | key n =>
    show (([.str "key", .str "word"] : List PyData).any fun z => PyData.eqv z (.str "key")) = true
    decide +kernel
  | word w =>
    show (([.str "key", .str "word"] : List PyData).any fun z => PyData.eqv z (.str "word")) = true
    decide +kernel
  | other =>
    show (([.str "key", .str "word"] : List PyData).any fun z => PyData.eqv z (.str "other")) = false
    decide +kernel
  | none =>
    show (([.str "key", .str "word"] : List PyData).any fun z => PyData.eqv z (.str "none")) = false
    decide +kernel
theorem some_res (rows : List Rw) : lcRes (rows.map Rw.d) keepKW firstD = (someOf rows).map Pat.d := by
  unfold lcRes someOf
  induction rows with
  | nil => rfl
  | cons r rs ih =>
    rw [List.map_cons, List.filter_cons, List.filter_cons, keep_row]
    by_cases h : isKW r.pat = true
    · rw [if_pos h, if_pos h, List.map_cons, List.map_cons, List.map_cons, ih]
      rfl
    · rw [if_neg h, if_neg h, ih]
theorem kw_shp : Shp 1 (.list [.str "key", .str "word"]) := ⟨by decide +kernel, by decide +kernel⟩
theorem pats_nil_eqv (ps : List Pat) : (!PyData.eqv (.list (ps.map Pat.d)) (.list [])) = decide (ps ≠ []) := by
  cases ps with
  | nil => simp only [eqv_list, List.map_nil, eqvAll_nil]; rfl
  | cons p r => rw [List.map_cons, eqv_list, eqvAll_cn]; rfl
section
variable {P : Program} {w : World} {K : PySem.W.Frag} {mg : Str → Option Value} {base : Heap}
theorem ok_event {f q qs : Addr} {fd qd qsd : FuncData} {k : Nat} (F : Fun K "_law_event" "_law_event" sEvent f fd) (T : DrawnAt K mg q qd) (TS : StirAt K mg qs qsd) (me : mg "enumerate" = none) (ml : mg "len" = none) : FnOk P w K mg base CX0 (k + 3) f fd ["cell", "rows"] (SpD K FEvent) := by
  have G : FnOk P w K mg base CX0 (k + 2) q qd ["cell", "sizes"] (SpD K FDrawn) := ok_drawn T.F TS me
  refine fnD F scEvent (by decide) (fun ds r h => ?_) fun cdv A outer s H E hr B D ds r h hR => ?_
  · obtain ⟨_, _, rfl, _⟩ := h
    rfl
  · obtain ⟨cell, rows, rfl, rfl, hlen⟩ := h
    have hu := hu65 hr
    obtain ⟨way, key, at_, hd, w0, w1, k0, k1, a0, a1⟩ := drawn3 cell 6 10 12 ⟨by decide, by decide, by decide⟩
    unfold evOf at hR
    rw [hd] at hR
    have hR : RetD K B D (evBy way key at_ (someOf rows)).d := hR
    refine sCons (iAsg (pg_unl rfl (pgs_cons (pg_name (i := 2) scEvent.nd rfl (Or.inl rfl)) (pgs_cons (pg_name (i := 3) scEvent.nd rfl (Or.inl rfl)) (pgs_cons (pg_name (i := 4) scEvent.nd rfl (Or.inl rfl)) pgs_nil)))) (tgtUnl (is := [2, 3, 4]) rfl)
      (XD.is (xCall (CX := CX0) G hr rfl T.m T.F.kp T.b (xCons (xv 0 rfl) (xCons (XO.d (xLst (xCons xInt (xCons xInt (xCons xInt xNil))) (by show 3 ≤ 100000; decide))) xNil)) (spD_ok ⟨cell, [6, 10, 12], rfl, ⟨by decide, by decide⟩, rfl⟩)) (by rw [hd]; rfl : PyData.list (intsD (drawn cell [6, 10, 12])) = .list [.int way, .int key, .int at_])) rfl ?_)
    refine sCons (iLcL 5 [("row", 6)] (xv 1 rfl) (blkOk_by (N := ["cell", "rows", "way", "key", "at", "some", "row"]) (sc := defScope sEvent) (by decide +kernel))
      (fun _ _ _ _ _ => pg_name (i := 6) scEvent.nd rfl (Or.inl rfl)) (tt := tTest (tOp (rInD K) (tOp (rIxT K) (tOp (rIxT K) (tVar 6) (tC (.int 0))) (tC (.int 0))) (tLst (tCons (tC (.str "key")) (tCons (tC (.str "word")) tNil)))))
      (fun _ _ _ _ _ => pts_one (pt_cmpR (op_inD hu) (pe_ix ix_tup (pe_ix ix_tup (pv 6) pe_int (fun _ _ => rfl)) pe_int (fun _ _ => rfl)) (pe_lst (pa_cons pe_str (pa_cons pe_str pa_nil))) rfl))
      (te := tOp (rIxT K) (tVar 6) (tC (.int 0))) (fun _ _ _ _ _ => pe_ix ix_tup (pv 6) pe_int (fun _ _ => rfl)) tgtName (keep := keepKW) (rf := firstD) (by decide) (by rw [List.length_map]; omega) (fun d hm => ?_) ?_ scEvent.nd (sw_true rfl rfl rfl (by decide +kernel)))
    · obtain ⟨r, _, rfl⟩ := List.mem_map.mp hm
      have hx : ∃ x rest, r.pat.d = .tuple (.str x :: rest) ∧ Shp 1 (.str x) := by
        cases r.pat with
        | quiet => exact ⟨"quiet", _, rfl, by decide +kernel, by decide +kernel⟩
        | key n => exact ⟨"key", _, rfl, by decide +kernel, by decide +kernel⟩
        | word v => exact ⟨"word", _, rfl, by decide +kernel, by decide +kernel⟩
        | other => exact ⟨"other", _, rfl, by decide +kernel, by decide +kernel⟩
        | none => exact ⟨"none", _, rfl, by decide +kernel, by decide +kernel⟩
      obtain ⟨x, rest, e, hs⟩ := hx
      have ek : keepKW r.d = ([.str "key", .str "word"] : List PyData).any fun z => PyData.eqv z (.str x) := by
        show keepKW (.tuple [r.pat.d, _, _]) = _
        rw [e]
        rfl
      refine ⟨[r.d], rfl, ?_, fun _ => ?_⟩
      · rw [ek]
        refine evTest (evOp (evOp (d1 := r.pat.d) (evOp (evVar (d := r.d) rfl) (evC (d := .int 0) rfl) (rkIxT rfl)) (evC (d := .int 0) rfl) (P := fun Hf v => Da K Hf v (.str x)) (by rw [e]; exact rkIxT (atI_of (j := 0) rfl rfl))) (EvO.d (evLst (eaCons (evC (d := .str "key") rfl) (eaCons (evC (d := .str "word") rfl) eaNil)) (by show 2 ≤ 100000; decide))) (rkInD (hs.ok (by decide)) (kw_shp.ok (by decide))))
      · exact evOp (evVar (d := r.d) rfl) (evC (d := .int 0) rfl) (rkIxT rfl)
    · rw [some_res]
      refine frz 5 rfl ?_
      have hsome : (someOf rows).length ≤ 1000 := by
        unfold someOf
        rw [List.length_map]
        exact Nat.le_trans (List.length_filter_le _ _) hlen
      have condS := pats_nil_eqv (someOf rows)
      by_cases hc : way < 2 ∧ someOf rows ≠ []
      · have ev : evBy way key at_ (someOf rows) = (someOf rows).getD (at_ % ((someOf rows).length : Int)).toNat .quiet := by unfold evBy; rw [if_pos hc]
        rw [ev] at hR
        have hpos : 0 < (someOf rows).length := List.length_pos_iff.mpr hc.2
        have hm0 : 0 ≤ at_ % ((someOf rows).length : Int) := Int.emod_nonneg _ (by omega)
        have hm1 : at_ % ((someOf rows).length : Int) < (someOf rows).length := Int.emod_lt_of_pos _ (by omega)
        refine sIfT (tAnd (tLt (xv 2 rfl) xInt) fun _ => tNeD hr.units (xv 5 rfl) (XO.d (xLst xNil (by decide))) ((pats_shp _).ok (by decide)) (Shp.nil (n := 3) |>.ok (by decide))) (by rw [condS, decide_eq_true hc.1, decide_eq_true hc.2]; rfl) ?_
        refine sCons (iRet (xIxL (xv 5 rfl) (xMod (xv 4 rfl) (xLen rfl ml (xv 5 rfl) rfl) (by rw [List.length_map]; omega)) (atI_of (j := (at_ % ((someOf rows).length : Int)).toNat) (by rw [List.length_map]; omega) ?_)) hR)
        rw [List.getElem?_map, List.getD_eq_getElem?_getD, List.getElem?_eq_getElem (by omega)]
        rfl
      · refine sIfF (tAnd (tLt (xv 2 rfl) xInt) fun _ => tNeD hr.units (xv 5 rfl) (XO.d (xLst xNil (by decide))) ((pats_shp _).ok (by decide)) (Shp.nil (n := 3) |>.ok (by decide))) (by
          rw [condS]
          by_cases h2 : way < 2
          · have h3 : ¬ someOf rows ≠ [] := fun z => hc ⟨h2, z⟩
            rw [decide_eq_false h3]
            exact Bool.and_false _
          · rw [decide_eq_false h2]
            rfl) ?_
        by_cases h5 : way < 5
        · have ev : evBy way key at_ (someOf rows) = .quiet := by unfold evBy; rw [if_neg hc, if_pos h5]
          rw [ev] at hR
          refine sIfT (tLt (xv 2 rfl) xInt) (decide_eq_true h5) ?_
          exact sCons (iRet (xTup (xCons xStr xNil) (by show 1 ≤ 100000; decide)) hR)
        · refine sIfF (tLt (xv 2 rfl) xInt) (decide_eq_false h5) ?_
          have w5 : atI ([.str "no", .str "other", .str "none", .str "quiet", .str "maybe"] : List PyData) (at_ / 2 % 5) = some (.str (wd5 (at_ / 2 % 5)).s) := by
            have : at_ / 2 % 5 = 0 ∨ at_ / 2 % 5 = 1 ∨ at_ / 2 % 5 = 2 ∨ at_ / 2 % 5 = 3 ∨ at_ / 2 % 5 = 4 := by omega
            rcases this with h | h | h | h | h <;> rw [h] <;> rfl
          have lst2 : ∀ j : Nat, j < 2 → at_ % 2 = (j : Int) → atI ([Pat.d (.key key), Pat.d (.word (wd5 (at_ / 2 % 5)))] : List PyData) (at_ % 2) = some (evBy way key at_ (someOf rows)).d := fun j hj he => by
            unfold evBy
            rw [if_neg hc, if_neg h5]
            match j, hj with
            | 0, _ => rw [if_pos (by rw [he]; rfl), he]; rfl
            | 1, _ => rw [if_neg (by rw [he]; decide), he]; rfl
          have hm : at_ % 2 = ((at_ % 2).toNat : Int) := by omega
          exact sCons (iRet (xIxL (XO.d (xLst (xCons (xTup (xCons xStr (xCons (xv 3 rfl) xNil)) (by show 2 ≤ 100000; decide)) (xCons (xTup (xCons xStr (xCons (xIxL (XO.d (xLst (xCons xStr (xCons xStr (xCons xStr (xCons xStr (xCons xStr xNil))))) (by show 5 ≤ 100000; decide))) (xMod (xFdiv (xv 4 rfl) xInt ⟨by decide, by decide⟩) xInt (by decide)) w5) xNil)) (by show 2 ≤ 100000; decide)) xNil)) (by show 2 ≤ 100000; decide))) (xMod (xv 4 rfl) xInt (by decide)) (lst2 (at_ % 2).toNat (by omega) hm)) hR)
end
end Cm

/-! The plain law: the teller's run of the script is what the law counts. -/
namespace Cm
open PySem PySem.Spec PyProof.Rows L2
def xyz : List Nat := [120, 121, 122, 117, 118]
def rnd (k : Nat) : Str := ("round" : Str) ++ ⟨#[xyz.getD k 0]⟩
def Sd.stm : Sd → Stm
  | .a => .say "a"
  | .bb => .say "bb"
  | .ho l => .hand l
def Wy.stms : Wy → List Stm
  | .on => []
  | .again => [.again]
  | .leave => [.leave]
  | .stop => [.stop]
def rwBr (r : Rw) : Br := .mk r.pat (r.sd.stm :: r.way.stms)
def testOf (k : Nat) : Stm := .test .box (.num (k : Int)) [.say (rnd k)] []
def bodyOf (N : Nat) (lim : Int) (brs : List Br) : List Stm := (List.range N).map testOf ++ [.put (.plus .box (.num 1)), .wait lim brs, .say "on"]
def prgOf (N : Nat) (lim : Int) (rows : List Rw) : Prg := ⟨[.loop (bodyOf N lim (rows.map rwBr)), .say "bye"], N⟩
def fL (at_ : Nat) : Fr := ⟨[0, 0, 0], at_, .loop⟩
def fT : Fr := ⟨[0], 1, .talk⟩
def Small (N : Nat) : Prop := N = 2 ∨ N = 3 ∨ N = 4 ∨ N = 5
section
variable {N : Nat} {lim : Int} {rows : List Rw} {rest : List Fr} {said : List Str}
theorem round_ok (hN : Small N) {v : Nat} (hv : v < N) (n : Nat) : goN (prgOf N lim rows) (n + 25) (fL 0 :: rest) (v : Int) said = some (said ++ [rnd v], some ⟨fL (N + 2) :: rest, (((v + 1) % N : Nat) : Int), lim⟩) := by
  rcases hN with h | h | h | h <;> subst h
  · match v, hv with
    | 0, _ => rfl
    | 1, _ => rfl
  · match v, hv with
    | 0, _ => rfl
    | 1, _ => rfl
    | 2, _ => rfl
  · match v, hv with
    | 0, _ => rfl
    | 1, _ => rfl
    | 2, _ => rfl
    | 3, _ => rfl
  · match v, hv with
    | 0, _ => rfl
    | 1, _ => rfl
    | 2, _ => rfl
    | 3, _ => rfl
    | 4, _ => rfl
theorem on_ok (hN : Small N) (v : Int) (n : Nat) : goN (prgOf N lim rows) (n + 2) (fL (N + 2) :: rest) v said = goN (prgOf N lim rows) n (fL 0 :: rest) v (said ++ [("on" : Str)]) := by
  rcases hN with h | h | h | h <;> subst h <;> rfl
theorem bye_ok (v : Int) (n : Nat) : goN (prgOf N lim rows) (n + 3) [fT] v said = some (said ++ [("bye" : Str)], none) := rfl
theorem begin_ok (hN : Small N) : goN (prgOf N lim rows) 1000 begF 0 [] = some ([rnd 0], some ⟨[fL (N + 2), fT], 1, lim⟩) := by
  rcases hN with h | h | h | h <;> subst h <;> rfl
theorem body_ok : bodyAt (prgOf N lim rows).main [0, 0, 0] = some (bodyOf N lim (rows.map rwBr)) := rfl
theorem wait_ok (hN : Small N) : (bodyOf N lim (rows.map rwBr))[N + 1]? = some (.wait lim (rows.map rwBr)) := by
  rcases hN with h | h | h | h <;> subst h <;> rfl
theorem branch_body (hN : Small N) {j : Nat} {r : Rw} (h : rows[j]? = some r) : bodyAt (prgOf N lim rows).main [0, 0, 0, N + 1, j] = some (r.sd.stm :: r.way.stms) := by
  have h2 : (rows.map rwBr)[j]? = some (rwBr r) := by rw [List.getElem?_map, h]; rfl
  have h3 : partOf (.wait lim (rows.map rwBr)) j = some (r.sd.stm :: r.way.stms) := by
    show ((rows.map rwBr)[j]?).map Br.b = _
    rw [h2]
    rfl
  show descend (bodyOf N lim (rows.map rwBr)) [N + 1, j] = _
  rw [descend, wait_ok hN]
  simp only
  rw [h3]
  rfl
end
/-! ### the steps of go -/
section
variable {g : Prg} {n : Nat} {f : Fr} {fs : List Fr} {v : Int} {said : List Str} {b : List Stm}
theorem go_end (hp : ¬ 500 < f.path.length) (hb : bodyAt g.main f.path = some b) (ha : f.at_ = b.length) (hk : f.kind = .block) : goN g (n + 1) (f :: fs) v said = goN g n fs v said := by
  rw [goN, if_neg hp, hb]
  simp only
  rw [if_pos ha, hk]
theorem go_say {w : Str} (hp : ¬ 500 < f.path.length) (hb : bodyAt g.main f.path = some b) (ha : ¬ f.at_ = b.length) (hs : b[f.at_]? = some (.say w)) : goN g (n + 1) (f :: fs) v said = goN g n (⟨f.path, f.at_ + 1, f.kind⟩ :: fs) v (said ++ [w]) := by
  rw [goN, if_neg hp, hb]
  simp only
  rw [if_neg ha, hs]
theorem go_hand {l : Fin 10} (hp : ¬ 500 < f.path.length) (hb : bodyAt g.main f.path = some b) (ha : ¬ f.at_ = b.length) (hs : b[f.at_]? = some (.hand l)) : goN g (n + 1) (f :: fs) v said = goN g n (⟨f.path, f.at_ + 1, f.kind⟩ :: fs) v (said ++ [handS (l.val : Int) "c"]) := by
  rw [goN, if_neg hp, hb]
  simp only
  rw [if_neg ha, hs]
theorem go_sd {sd : Sd} (hp : ¬ 500 < f.path.length) (hb : bodyAt g.main f.path = some b) (ha : ¬ f.at_ = b.length) (hs : b[f.at_]? = some sd.stm) : goN g (n + 1) (f :: fs) v said = goN g n (⟨f.path, f.at_ + 1, f.kind⟩ :: fs) v (said ++ [sd.s]) := by
  cases sd with
  | a => exact go_say hp hb ha hs
  | bb => exact go_say hp hb ha hs
  | ho l => exact go_hand hp hb ha hs
theorem go_again {fs2 : List Fr} (hp : ¬ 500 < f.path.length) (hb : bodyAt g.main f.path = some b) (ha : ¬ f.at_ = b.length) (hs : b[f.at_]? = some .again) (h : behind .again f.path f.at_ (⟨f.path, f.at_ + 1, f.kind⟩ :: fs) = some fs2) : goN g (n + 1) (f :: fs) v said = goN g n fs2 v said := by
  rw [goN, if_neg hp, hb]
  simp only
  rw [if_neg ha, hs]
  simp only
  rw [h]
theorem go_leave {fs2 : List Fr} (hp : ¬ 500 < f.path.length) (hb : bodyAt g.main f.path = some b) (ha : ¬ f.at_ = b.length) (hs : b[f.at_]? = some .leave) (h : behind .leave f.path f.at_ (⟨f.path, f.at_ + 1, f.kind⟩ :: fs) = some fs2) : goN g (n + 1) (f :: fs) v said = goN g n fs2 v said := by
  rw [goN, if_neg hp, hb]
  simp only
  rw [if_neg ha, hs]
  simp only
  rw [h]
theorem go_stop {fs2 : List Fr} (hp : ¬ 500 < f.path.length) (hb : bodyAt g.main f.path = some b) (ha : ¬ f.at_ = b.length) (hs : b[f.at_]? = some .stop) (h : behind .stop f.path f.at_ (⟨f.path, f.at_ + 1, f.kind⟩ :: fs) = some fs2) : goN g (n + 1) (f :: fs) v said = goN g n fs2 v said := by
  rw [goN, if_neg hp, hb]
  simp only
  rw [if_neg ha, hs]
  simp only
  rw [h]
theorem go_nil : goN g (n + 1) [] v said = some (said, none) := by rw [goN]
end
/-! ### what is said behind a branch -/
def moreOf : Option Wy → List Str
  | some .on => ["on"]
  | some .leave => ["bye"]
  | _ => []
def goesOn : Option Wy → Bool
  | some .on => true
  | some .again => true
  | _ => false
def isOver : Option Wy → Bool
  | some .leave => true
  | some .stop => true
  | _ => false
/-- where the teller is behind: the words, the standing -/
def behindWay (N : Nat) (lim : Int) (said : List Str) (way : Wy) (v : Nat) : Res :=
  ((said ++ moreOf (some way)) ++ (if goesOn (some way) = true then [rnd v] else []), if goesOn (some way) = true then some ⟨[fL (N + 2), fT], (((v + 1) % N : Nat) : Int), lim⟩ else none)
section
variable {N : Nat} {lim : Int} {rows : List Rw}
theorem branch_go (hN : Small N) {v : Nat} (hv : v < N) {j : Nat} {r : Rw} (h : rows[j]? = some r) :
    goN (prgOf N lim rows) 1000 (⟨[0, 0, 0, N + 1, j], 0, .block⟩ :: [fL (N + 2), fT]) (v : Int) [] = some (behindWay N lim [r.sd.s] r.way v) := by
  have hb := branch_body (lim := lim) hN h
  have hp : ¬ 500 < ([0, 0, 0, N + 1, j] : List Nat).length := by show ¬ 500 < 5; decide
  rw [show (1000 : Nat) = 999 + 1 from rfl, go_sd (f := ⟨[0, 0, 0, N + 1, j], 0, .block⟩) (sd := r.sd) hp hb (by show ¬ 0 = r.way.stms.length + 1; omega) rfl]
  show goN (prgOf N lim rows) 999 (⟨[0, 0, 0, N + 1, j], 1, .block⟩ :: [fL (N + 2), fT]) (v : Int) [r.sd.s] = _
  obtain ⟨pat, sd, way⟩ := r
  cases way with
  | on =>
    rw [show (999 : Nat) = 998 + 1 from rfl, go_end (f := ⟨[0, 0, 0, N + 1, j], 1, .block⟩) hp hb rfl rfl, show (998 : Nat) = 996 + 2 from rfl, on_ok hN, show (996 : Nat) = 971 + 25 from rfl, round_ok hN hv]
    rfl
  | again =>
    rw [show (999 : Nat) = 998 + 1 from rfl, go_again (f := ⟨[0, 0, 0, N + 1, j], 1, .block⟩) (fs2 := [fL 0, fT]) hp hb (by show ¬ 1 = 2; decide) rfl rfl, show (998 : Nat) = 973 + 25 from rfl, round_ok hN hv]
    rfl
  | leave =>
    rw [show (999 : Nat) = 998 + 1 from rfl, go_leave (f := ⟨[0, 0, 0, N + 1, j], 1, .block⟩) (fs2 := [fT]) hp hb (by show ¬ 1 = 2; decide) rfl rfl, show (998 : Nat) = 995 + 3 from rfl, bye_ok]
    rfl
  | stop =>
    rw [show (999 : Nat) = 998 + 1 from rfl, go_stop (f := ⟨[0, 0, 0, N + 1, j], 1, .block⟩) (fs2 := []) hp hb (by show ¬ 1 = 2; decide) rfl rfl, show (998 : Nat) = 997 + 1 from rfl, go_nil]
    rfl
theorem none_go (hN : Small N) {v : Nat} (hv : v < N) : goN (prgOf N lim rows) 1000 [fL (N + 2), fT] (v : Int) [] = some (behindWay N lim [] .on v) := by
  rw [show (1000 : Nat) = 998 + 2 from rfl, on_ok hN, show (998 : Nat) = 973 + 25 from rfl, round_ok hN hv]
  rfl
end
/-! ### which branch -/
theorem find_both (rows : List Rw) (e : Pat) : (findP (rows.map Rw.pat) e = none ∧ findR rows e = none) ∨ ∃ n r, findP (rows.map Rw.pat) e = some n ∧ findR rows e = some r ∧ rows[n]? = some r := by
  induction rows with
  | nil => exact .inl ⟨rfl, rfl⟩
  | cons r rs ih =>
    by_cases h : r.pat = e
    · refine .inr ⟨0, r, ?_, ?_, rfl⟩
      · unfold findP
        rw [List.map_cons, List.findIdx?_cons, decide_eq_true h]
        rfl
      · unfold findR
        rw [List.find?_cons_of_pos (by exact decide_eq_true h)]
    · have e1 : findP ((r :: rs).map Rw.pat) e = (findP (rs.map Rw.pat) e).map (· + 1) := by
        unfold findP
        rw [List.map_cons, List.findIdx?_cons, decide_eq_false h]
        rfl
      have e2 : findR (r :: rs) e = findR rs e := by
        unfold findR
        rw [List.find?_cons_of_neg (by rw [decide_eq_false h]; exact Bool.false_ne_true)]
      rw [e1, e2]
      rcases ih with ⟨h1, h2⟩ | ⟨n, q, h1, h2, h3⟩
      · rw [h1]
        exact .inl ⟨rfl, h2⟩
      · rw [h1]
        exact .inr ⟨n + 1, q, rfl, h2, h3⟩
theorem branch_both (rows : List Rw) (e : Pat) : (branchFor (rows.map Rw.pat) e = none ∧ rowOf rows e = none) ∨ ∃ n r, branchFor (rows.map Rw.pat) e = some n ∧ rowOf rows e = some r ∧ rows[n]? = some r := by
  unfold branchFor rowOf
  rcases find_both rows e with ⟨h1, h2⟩ | ⟨n, q, h1, h2, h3⟩
  · rw [h1, h2]
    simp only
    by_cases hq : e = .quiet
    · rw [if_pos hq, if_pos hq]
      exact .inl ⟨rfl, rfl⟩
    · rw [if_neg hq, if_neg hq]
      exact find_both rows .other
  · rw [h1, h2]
    exact .inr ⟨n, q, rfl, rfl, h3⟩
/-! ### the law's count -/
def dueFrom (rows : List Rw) (limit : Int) (N : Nat) : Nat → Int → Bool → List Pat → List (List Str)
  | _, _, _, [] => []
  | gone, left, true, _ :: r => [] :: dueFrom rows limit N gone left true r
  | gone, left, false, e :: r =>
    let t := lawTurn rows limit left e
    ((t.1 ++ moreOf t.2.1) ++ (if goesOn t.2.1 = true then [rnd (gone % N)] else [])) :: dueFrom rows limit N (if goesOn t.2.1 = true then gone + 1 else gone) t.2.2 (isOver t.2.1) r
theorem pats_map (rows : List Rw) : (rows.map rwBr).map Br.p = rows.map Rw.pat := by
  rw [List.map_map]
  exact List.map_congr_left fun r _ => rfl
section
variable {N : Nat} {lim : Int} {rows : List Rw}
theorem step_eq (hN : Small N) (hl : rows.length ≤ 1000) (v : Int) (tl : Int) (e : Pat) : stepM (prgOf N lim rows) (some ⟨[fL (N + 2), fT], v, tl⟩) e =
    match branchFor (rows.map Rw.pat) e with
    | some n => goN (prgOf N lim rows) 1000 (⟨[0, 0, 0, N + 1, n], 0, .block⟩ :: [fL (N + 2), fT]) v []
    | none => if tl = 1 then (match findP (rows.map Rw.pat) .none with
        | none => goN (prgOf N lim rows) 1000 [fL (N + 2), fT] v []
        | some n => goN (prgOf N lim rows) 1000 (⟨[0, 0, 0, N + 1, n], 0, .block⟩ :: [fL (N + 2), fT]) v [])
      else some ([], some ⟨[fL (N + 2), fT], v, if tl - 1 > 0 then tl - 1 else 0⟩) := by
  have hw := wait_ok (lim := lim) (rows := rows) hN
  have hb : bodyAt (prgOf N lim rows).main (fL (N + 2)).path = some (bodyOf N lim (rows.map rwBr)) := body_ok
  rw [stepM]
  simp only
  rw [if_neg (by show ¬ (500 < 3 ∨ 500 < 2); decide)]
  show (match bodyAt (prgOf N lim rows).main (fL (N + 2)).path with
    | none => none
    | some b => match b[N + 1]? with
      | some (.wait _ brs) => if 1000 < brs.length then none else match branchFor (brs.map Br.p) e with
        | some n => branchStep (prgOf N lim rows) ⟨[fL (N + 2), fT], v, tl⟩ [0, 0, 0] (N + 1) (some n)
        | none => if tl = 1 then branchStep (prgOf N lim rows) ⟨[fL (N + 2), fT], v, tl⟩ [0, 0, 0] (N + 1) (findP (brs.map Br.p) .none) else some ([], some ⟨[fL (N + 2), fT], v, if tl - 1 > 0 then tl - 1 else 0⟩)
      | _ => none) = _
  rw [hb]
  simp only
  rw [hw]
  simp only
  rw [if_neg (by rw [List.length_map]; omega), pats_map]
  cases branchFor (rows.map Rw.pat) e with
  | some n => rfl
  | none =>
    simp only
    by_cases h : tl = 1
    · rw [if_pos h, if_pos h]
      cases findP (rows.map Rw.pat) .none <;> rfl
    · rw [if_neg h, if_neg h]
theorem run_over (g : Prg) (gone : Nat) (left : Int) : ∀ evs : List Pat, runFrom g none evs = some (dueFrom rows lim N gone left true evs)
  | [] => rfl
  | e :: r => by
    rw [runFrom, stepM]
    simp only
    rw [run_over g gone left r, dueFrom]
/-- the teller's turns left and the law's -/
def LeftOk (lim tl ll : Int) : Prop := (lim = 0 ∧ tl = 0) ∨ (0 < lim ∧ tl = ll ∧ 1 ≤ ll)
theorem after_way (hN : Small N) (hl0 : 0 ≤ lim) (gone : Nat) (said : List Str) (way : Wy) (evs : List Pat)
    (ih : ∀ (gone : Nat) (tl ll : Int), LeftOk lim tl ll → runFrom (prgOf N lim rows) (some ⟨[fL (N + 2), fT], ((gone % N : Nat) : Int), tl⟩) evs = some (dueFrom rows lim N gone ll false evs)) :
    (match runFrom (prgOf N lim rows) (behindWay N lim said way (gone % N)).2 evs with
      | none => none
      | some out => some ((behindWay N lim said way (gone % N)).1 :: out)) = some (((said ++ moreOf (some way)) ++ (if goesOn (some way) = true then [rnd (gone % N)] else [])) :: dueFrom rows lim N (if goesOn (some way) = true then gone + 1 else gone) lim (isOver (some way)) evs) := by
  have hlo : LeftOk lim lim lim := by
    by_cases h : lim = 0
    · exact .inl ⟨h, h⟩
    · exact .inr ⟨by omega, rfl, by omega⟩
  have hmod : (gone % N + 1) % N = (gone + 1) % N := by
    rw [Nat.add_mod, Nat.mod_mod, ← Nat.add_mod]
  cases way with
  | on =>
    show (match runFrom (prgOf N lim rows) (some ⟨[fL (N + 2), fT], (((gone % N + 1) % N : Nat) : Int), lim⟩) evs with
      | none => none
      | some out => some _) = _
    rw [hmod, ih (gone + 1) lim lim hlo]
    rfl
  | again =>
    show (match runFrom (prgOf N lim rows) (some ⟨[fL (N + 2), fT], (((gone % N + 1) % N : Nat) : Int), lim⟩) evs with
      | none => none
      | some out => some _) = _
    rw [hmod, ih (gone + 1) lim lim hlo]
    rfl
  | leave =>
    show (match runFrom (prgOf N lim rows) none evs with
      | none => none
      | some out => some _) = _
    rw [run_over (rows := rows) (lim := lim) (N := N) _ gone lim evs]
    rfl
  | stop =>
    show (match runFrom (prgOf N lim rows) none evs with
      | none => none
      | some out => some _) = _
    rw [run_over (rows := rows) (lim := lim) (N := N) _ gone lim evs]
    rfl
theorem run_from (hN : Small N) (hl0 : 0 ≤ lim) (hl : rows.length ≤ 1000) : ∀ (evs : List Pat) (gone : Nat) (tl ll : Int), LeftOk lim tl ll →
    runFrom (prgOf N lim rows) (some ⟨[fL (N + 2), fT], ((gone % N : Nat) : Int), tl⟩) evs = some (dueFrom rows lim N gone ll false evs)
  | [], _, _, _, _ => rfl
  | e :: r, gone, tl, ll, hlo => by
    have ih := run_from hN hl0 hl r
    have hN0 : 0 < N := by rcases hN with h | h | h | h <;> omega
    have hv : gone % N < N := Nat.mod_lt _ hN0
    rw [runFrom, step_eq hN hl, dueFrom]
    unfold lawTurn
    rcases branch_both rows e with ⟨h1, h2⟩ | ⟨n, q, h1, h2, h3⟩
    · rw [h1, h2]
      simp only
      by_cases ht : tl = 1
      · have hc : ¬ (lim = 0 ∨ ll > 1) := by
          rcases hlo with ⟨_, h⟩ | ⟨h, h', h''⟩ <;> omega
        rw [if_pos ht, if_neg hc]
        rcases find_both rows .none with ⟨k1, k2⟩ | ⟨n, q, k1, k2, k3⟩
        · rw [k1, k2]
          simp only
          rw [none_go hN hv]
          simp only
          exact after_way hN hl0 gone [] .on r ih
        · rw [k1, k2]
          simp only
          rw [branch_go hN hv k3]
          simp only
          exact after_way hN hl0 gone [q.sd.s] q.way r ih
      · have hc : lim = 0 ∨ ll > 1 := by
          rcases hlo with ⟨h, _⟩ | ⟨h, h', h''⟩
          · exact .inl h
          · exact .inr (by omega)
        rw [if_neg ht, if_pos hc]
        have hlo' : LeftOk lim (if tl - 1 > 0 then tl - 1 else 0) (ll - 1) := by
          rcases hlo with ⟨h, h'⟩ | ⟨h, h', h''⟩
          · exact .inl ⟨h, by rw [h']; rfl⟩
          · refine .inr ⟨h, ?_, by omega⟩
            rw [if_pos (by omega)]
            omega
        show (match runFrom (prgOf N lim rows) (some ⟨[fL (N + 2), fT], ((gone % N : Nat) : Int), if tl - 1 > 0 then tl - 1 else 0⟩) r with
      | none => none
      | some out => some _) = _
        rw [ih gone _ (ll - 1) hlo']
        rfl
    · rw [h1, h2]
      simp only
      rw [branch_go hN hv h3]
      simp only
      exact after_way hN hl0 gone [q.sd.s] q.way r ih
theorem run_due (hN : Small N) (hl0 : 0 ≤ lim) (hl : rows.length ≤ 1000) (evs : List Pat) : runM (prgOf N lim rows) evs = some ([rnd 0] :: dueFrom rows lim N 1 lim false evs) := by
  rw [runM, begin_ok hN]
  simp only
  have h1 : ((1 : Nat) % N : Nat) = 1 := by rcases hN with h | h | h | h <;> subst h <;> rfl
  have h2 := run_from hN hl0 hl evs 1 lim lim (by
    by_cases h : lim = 0
    · exact .inl ⟨h, h⟩
    · exact .inr ⟨by omega, rfl, by omega⟩)
  rw [h1] at h2
  rw [show ((1 : Int)) = ((1 : Nat) : Int) from rfl, h2]
end
end Cm

/-! _law_script. -/
namespace Cm
open PySem PySem.Spec PyProof.Rows L2
/-! ### what the script is, as data -/
def cutG {α : Type} (ds : List α) (lo hi : Option Int) : List α := (ds.drop (HT.sIx ds.length 0 lo)).take (HT.sIx ds.length ds.length hi - HT.sIx ds.length 0 lo)
theorem cutG_map {α : Type} (f : α → PyData) (ds : List α) (lo hi : Option Int) : cutD (ds.map f) lo hi = (cutG ds lo hi).map f := by
  unfold cutD cutG
  rw [List.length_map, ← List.map_drop, ← List.map_take]
theorem cutG_len {α : Type} (ds : List α) (lo hi : Option Int) : (cutG ds lo hi).length ≤ ds.length := by
  unfold cutG
  rw [List.length_take, List.length_drop]
  omega
def sdD : Sd → PyData
  | .a => .tuple [.str "say", .str "a"]
  | .bb => .tuple [.str "say", .str "bb"]
  | .ho l => .tuple [.str "hand", .int (l.val : Int), .str "c"]
def wyD : Wy → List PyData
  | .on => []
  | .again => [.tuple [.str "again"]]
  | .leave => [.tuple [.str "leave"]]
  | .stop => [.tuple [.str "stop"]]
def brD (r : Rw) : PyData := .tuple [r.pat.d, .list (sdD r.sd :: wyD r.way)]
def tsD (k : Nat) : PyData := .tuple [.str "test", .tuple [.str "same", .tuple [.str "box", .str "n"], .tuple [.str "number", .int (k : Int)]], .list [.tuple [.str "say", .str (rnd k)]], .list []]
def bodyD (N : Nat) (lim : Int) (rows : List Rw) : List PyData := (List.range N).map tsD ++ [.tuple [.str "put", .str "n", .tuple [.str "plus", .tuple [.str "box", .str "n"], .tuple [.str "number", .int 1]]], .tuple [.str "wait", .int lim, .list (rows.map brD)], .tuple [.str "say", .str "on"]]
def madeD (N : Nat) (lim : Int) (rows : List Rw) : PyData := .tuple [.list [.tuple [.str "n", .int (N : Int)]], .list [.tuple [.str "main", .list [.tuple [.str "loop", .list (bodyD N lim rows)], .tuple [.str "say", .str "bye"]]]]]
theorem fz_pat (p : Pat) : fz p.d = p.d := by
  cases p <;> simp only [Pat.d, fz, fzs]
theorem fz_br (r : Rw) : fz (brD r) = encBr (rwBr r) := by
  obtain ⟨p, sd, way⟩ := r
  cases sd <;> cases way <;> simp only [brD, rwBr, Sd.stm, Wy.stms, sdD, wyD, fz, fzs, fz_pat, encBr, encB, encS, List.cons_append, List.nil_append]
theorem fz_ts (k : Nat) : fz (tsD k) = encS (testOf k) := by
  simp only [tsD, testOf, fz, fzs, encS, encB, Ex.d]
theorem fz_body (N : Nat) (lim : Int) (rows : List Rw) : fzs (bodyD N lim rows) = encB (bodyOf N lim (rows.map rwBr)) := by
  rw [fzs_map, encB_map]
  unfold bodyD bodyOf
  rw [List.map_append, List.map_append, List.map_map, List.map_map]
  have h1 : (List.range N).map (fz ∘ tsD) = (List.range N).map (encS ∘ testOf) := List.map_congr_left fun k _ => fz_ts k
  have h2 : fzs (rows.map brD) = encR (rows.map rwBr) := by
    rw [fzs_map, encR_map, List.map_map, List.map_map]
    exact List.map_congr_left fun r _ => fz_br r
  rw [h1]
  simp only [List.map_cons, List.map_nil, fz, fzs, encS, Ex.d, h2]
theorem fz_made (N : Nat) (lim : Int) (rows : List Rw) : fz (madeD N lim rows) = .tuple [boxD N, talksD (prgOf N lim rows)] := by
  unfold madeD talksD prgOf boxD
  simp only [fz, fzs, encB, encS, fz_body]
theorem fok_flat {d : PyData} (h : isFlat d = true) : ∀ n, FOk n d
  | 0 => h
  | _ + 1 => .inl h
theorem fok_tup {n : Nat} {ds : List PyData} (hl : ds.length ≤ 1000) (h : ∀ x ∈ ds, FOk n x) : FOk (n + 1) (.tuple ds) := .inr ⟨ds, rfl, hl, h⟩
theorem fok_lst {n : Nat} {ds : List PyData} (hl : ds.length ≤ 1000) (h : ∀ x ∈ ds, FOk n x) : FOk (n + 1) (.list ds) := .inr ⟨ds, rfl, hl, h⟩
theorem all_nil {n : Nat} : ∀ x ∈ ([] : List PyData), FOk n x := fun _ h => nomatch h
theorem all_cons {n : Nat} {d : PyData} {ds : List PyData} (h : FOk n d) (k : ∀ x ∈ ds, FOk n x) : ∀ x ∈ d :: ds, FOk n x := fun x hx => by
  rcases List.mem_cons.mp hx with e | hx
  · subst e; exact h
  · exact k x hx
theorem fok_pat (p : Pat) (n : Nat) : FOk (n + 1) p.d := by
  have two : ∀ (a b : PyData), isFlat a = true → isFlat b = true → FOk (n + 1) (.tuple [a, b]) := fun a b ha hb => fok_tup (by show 2 ≤ 1000; decide) (all_cons (fok_flat ha n) (all_cons (fok_flat hb n) all_nil))
  have one : ∀ (a : PyData), isFlat a = true → FOk (n + 1) (.tuple [a]) := fun a ha => fok_tup (by show 1 ≤ 1000; decide) (all_cons (fok_flat ha n) all_nil)
  cases p with
  | key n => exact two _ _ rfl rfl
  | word w => exact two _ _ rfl rfl
  | quiet => exact one _ rfl
  | other => exact one _ rfl
  | none => exact one _ rfl
theorem fok_br (r : Rw) (n : Nat) : FOk (n + 3) (brD r) := by
  obtain ⟨p, sd, way⟩ := r
  refine fok_tup (by show 2 ≤ 1000; decide) (all_cons (fok_pat p (n + 1)) (all_cons (fok_lst ?_ (all_cons ?_ ?_)) all_nil))
  · cases way with
    | on => show 1 ≤ 1000; decide
    | _ => show 2 ≤ 1000; decide
  · cases sd with
    | a => exact fok_tup (by show 2 ≤ 1000; decide) (all_cons (fok_flat rfl n) (all_cons (fok_flat rfl n) all_nil))
    | bb => exact fok_tup (by show 2 ≤ 1000; decide) (all_cons (fok_flat rfl n) (all_cons (fok_flat rfl n) all_nil))
    | ho l => exact fok_tup (by show 3 ≤ 1000; decide) (all_cons (fok_flat rfl n) (all_cons (fok_flat rfl n) (all_cons (fok_flat rfl n) all_nil)))
  · cases way with
    | on => exact all_nil
    | again => exact all_cons (fok_tup (by show 1 ≤ 1000; decide) (all_cons (fok_flat rfl n) all_nil)) all_nil
    | leave => exact all_cons (fok_tup (by show 1 ≤ 1000; decide) (all_cons (fok_flat rfl n) all_nil)) all_nil
    | stop => exact all_cons (fok_tup (by show 1 ≤ 1000; decide) (all_cons (fok_flat rfl n) all_nil)) all_nil
theorem fok_made {N : Nat} {lim : Int} {rows : List Rw} (hN : N ≤ 10) (hr : rows.length ≤ 20) : FOk 12 (madeD N lim rows) := by
  have t2 : ∀ {a b : PyData} {n : Nat}, FOk n a → FOk n b → FOk (n + 1) (.tuple [a, b]) := fun ha hb => fok_tup (by show 2 ≤ 1000; decide) (all_cons ha (all_cons hb all_nil))
  have t3 : ∀ {a b c : PyData} {n : Nat}, FOk n a → FOk n b → FOk n c → FOk (n + 1) (.tuple [a, b, c]) := fun ha hb hc => fok_tup (by show 3 ≤ 1000; decide) (all_cons ha (all_cons hb (all_cons hc all_nil)))
  have l1 : ∀ {a : PyData} {n : Nat}, FOk n a → FOk (n + 1) (.list [a]) := fun ha => fok_lst (by show 1 ≤ 1000; decide) (all_cons ha all_nil)
  have l2 : ∀ {a b : PyData} {n : Nat}, FOk n a → FOk n b → FOk (n + 1) (.list [a, b]) := fun ha hb => fok_lst (by show 2 ≤ 1000; decide) (all_cons ha (all_cons hb all_nil))
  have fl : ∀ {n : Nat} {s : Str}, FOk n (.str s) := fun {n s} => fok_flat rfl n
  have fi : ∀ {n : Nat} {s : Int}, FOk n (.int s) := fun {n s} => fok_flat rfl n
  refine t2 (l1 (t2 fl fi)) (l1 (t2 fl (l2 (t2 fl (fok_lst ?_ ?_)) (t2 fl fl))))
  · unfold bodyD
    rw [List.length_append, List.length_map, List.length_range]
    show N + 3 ≤ 1000
    omega
  · intro x hx
    unfold bodyD at hx
    rcases List.mem_append.mp hx with h | h
    · obtain ⟨k, _, rfl⟩ := List.mem_map.mp h
      exact fok_tup (by show 4 ≤ 1000; decide) (all_cons fl (all_cons (t3 fl (t2 fl fl) (t2 fl fi)) (all_cons (l1 (t2 fl fl)) (all_cons (fok_lst (by decide) all_nil) all_nil))))
    · refine all_cons (t3 fl fl (t3 fl (t2 fl fl) (t2 fl fi))) (all_cons (t3 fl fi (fok_lst ?_ ?_)) (all_cons (t2 fl fl) all_nil)) x h
      · rw [List.length_map]; omega
      · intro y hy
        obtain ⟨r, _, rfl⟩ := List.mem_map.mp hy
        exact fok_br r _
/-! ### a def whose argument is the script, that promises a property -/
def SpG (K : PySem.W.Frag) (G : PyData → Prop) : Sp := fun vs H Q _ => ∃ (Hf : Hp) (a : Addr) (ns : List Int), vs = [.ref a] ∧ Same Hf H ∧ SqL K Hf a (ns.map V.int) ∧ ∀ v Hf' H' r, G r → Fz Hf H Hf' H' → Da K Hf' v r → Q v H'
section
variable {X : Cx} {B : Bs} {ε : List Sl} {D : Ends} {pos : Pos}
theorem xCallG {k : Nat} {f a : Addr} {fd : FuncData} {ps : List Str} {G : PyData → Prop} {x : Str} {p : Pos} {e : Expr} {ns : List Int} (F : FnOk X.prog X.w X.K X.mg X.base CX0 k f fd ps (SpG X.K G)) (hr : Room k X.A) (hg : Gl X x) (hm : X.mg x = some (.ref f)) (hk : PySem.W.keepIn X.K (.ref f) = true) (hb : Binds X.K fd ps [])
    (he : XP X B ε e (fun _ u => u = .ref a)) (hS : SqL X.K B.fb a (ns.map V.int)) (hd : (x == ("__debug__" : Str)) = false := by decide) (hst : starEach [e] X.env = [(false, eval e X.env)] := by rfl) :
    XP X B ε (.Call (.Name x p) [e] [] pos) (fun Hf v => ∃ r, G r ∧ Da X.K Hf v r) :=
  ofP (pe_call F hr hg hm hk hb .nil (pass0 (X := X)) (pa_cons peC pa_nil hst) hd hst rfl) fun Hf H σ S Q q => he Hf H σ S _ fun u Hf1 H1 e1 hu => by
    have hu' : u = .ref a := hu
    subst hu'
    exact ⟨Hf1, a, ns, rfl, e1.s, (S.fz.f.trans e1.f).seq hS, fun v Hf' H' r hG e4 hv => q v Hf' H' (e1.trans e4) ⟨r, hG, hv⟩⟩
/-- a, b = e, e's data known by a property -/
theorem iAsgG {tg e : Expr} {g : TG} {is : List Nat} {f : PyData → Option (List PyData)} {G : PyData → Prop} (hg : PG X tg g) (T : Tgt X.K g is f) (he : XP X B ε e (fun Hf v => ∃ r, G r ∧ Da X.K Hf v r)) (k : ∀ r, G r → ∃ ds, f r = some ds ∧ OkN X.K B (setL ε is (ds.map .d)) D.nx)
    (hs : swapsWithSole [tg] e pos.line X.env = pure false := by rfl) (hw : swappedStores [tg] e X.env = pure none := by rfl) (h1 : (assignEach [tg] X.env).map (·.2) = [assign tg X.env] := by rfl) : X1 X B ε (.Assign [tg] e pos) D :=
  of1 (ps_asg peC hg hs hw h1) fun Hf H σ S => he Hf H σ S _ fun v Hf' H' e1 ⟨r, hG, hd⟩ => by
    obtain ⟨ds, hf, k⟩ := k r hG
    obtain ⟨us, h2, _, h3⟩ := T Hf' H' v r ds e1.s hd hf
    exact h3 σ D.nx (k Hf' H' _ ((S.mono e1).setLD h2))
end
section
variable {P : Program} {w : World} {K : PySem.W.Frag} {mg : Str → Option Value} {base : Heap}
theorem fnG {x qual : Str} {st : Stmt} {f : Addr} {fd : FuncData} {N : List Str} {p : Str} {k : Nat} {G : PyData → Prop} (Fn : Fun K x qual st f fd) (S : FnScope N [p] (defScope st)) (hN : 1 ≤ N.length)
    (body : ∀ (cdv : Value) (A : Around) (outer : List Env) (s : Shared) (H : Hp) (E : XK), Room k (A.deeper (envOfC qual (defScope st) s.heap.objs.size f cdv)) → ∀ (B : Bs) (D : Ends) (a : Addr) (ns : List Int), SqL K B.fb a (ns.map V.int) → (∀ r, G r → RetD K B D r) →
      XS (BX P w K mg base N qual st f cdv A outer s H E) B (startE N [.raw (.ref a)]) (defBody st) D) : FnOk P w K mg base CX0 (k + 1) f fd [p] (SpG K G) := by
  refine Fn.ok S (fun vs H Q E h => ?_) (fun cdv A outer s H vs Q E hr h => ?_)
  · obtain ⟨Hf, a, ns, rfl, _⟩ := h
    rfl
  · obtain ⟨Hf, a, ns, rfl, hs, hS, q⟩ := h
    have hb := body cdv A outer s H E hr ⟨Hf, H⟩ { nx := fun _ H' => Q .non H', rt := Q } a ns hS (fun r hG v Hf' H' e hv => q v Hf' H' r hG e hv)
    obtain ⟨t, h1, h2⟩ := hb Hf H (L2.start N [.ref a]) (sx_start hs rfl hN fun i y hy => by
      cases i with
      | zero => cases hy; exact ⟨.ref a, rfl, .inr rfl⟩
      | succ i => simp at hy)
    exact ⟨t, h1, h2⟩
end
def GScr (r : PyData) : Prop := ∃ (rows : List Rw) (lim : Int) (N : Nat), r = .list [rowsD rows, .int lim, .int (N : Int), madeD N lim rows] ∧ rows.length ≤ 20 ∧ 0 ≤ lim ∧ Small N
abbrev NS : List Str := ["script", "d", "limit", "size", "many", "word", "none", "start", "spoken", "said", "menu", "rows", "k", "way", "line", "handed", "branches", "pattern", "statement", "body"]
theorem scScript : FnScope NS ["script"] (defScope sScript) := ⟨rfl, rfl, rfl, by decide +kernel, rfl, by decide +kernel, by decide +kernel⟩
structure CellAt (K : PySem.W.Frag) (mg : Str → Option Value) (f : Addr) (fd : FuncData) : Prop where
  F : Fun K "_law_cell" "_law_cell" sCell f fd
  b : Binds K fd ["script", "k"] []
  m : mg "_law_cell" = some (.ref f)
end Cm

/-! _law_script: the walk. -/
namespace Cm
open PySem PySem.Spec PyProof.Rows L2
theorem rnd_at {k : Nat} (h : k < 5) : ∃ c : Nat, atI ("xyzuv" : Str).cps.toList (k : Int) = some c ∧ ("round" : Str) ++ (⟨#[c]⟩ : Str) = rnd k := by
  have : k = 0 ∨ k = 1 ∨ k = 2 ∨ k = 3 ∨ k = 4 := by omega
  rcases this with h | h | h | h | h <;> subst h
  · exact ⟨120, rfl, rfl⟩
  · exact ⟨121, rfl, rfl⟩
  · exact ⟨122, rfl, rfl⟩
  · exact ⟨117, rfl, rfl⟩
  · exact ⟨118, rfl, rfl⟩
section
variable {P : Program} {w : World} {K : PySem.W.Frag} {mg : Str → Option Value} {base : Heap}
abbrev SX (P : Program) (w : World) (K : PySem.W.Frag) (mg : Str → Option Value) (base : Heap) (f : Addr) (cdv : Value) (A : Around) (outer : List Env) (s : Shared) (H : Hp) (E : XK) : Cx := BX P w K mg base NS "_law_script" sScript f cdv A outer s H E
theorem xRnd {X : Cx} {B : Bs} {ε : List Sl} {pos p1 p2 p3 : Pos} {j1 j2} {e : Expr} {k : Nat} (h : XD X B ε e (.int (k : Int))) (hk : k < 5) (hs : PlainIx e := by exact fun _ _ => rfl) : XD X B ε (.BinOp (.Constant (.str "round") j1 p1) .Add (.Subscript (.Constant (.str "xyzuv") j2 p2) e p3) pos) (.str (rnd k)) := by
  obtain ⟨c, h1, h2⟩ := rnd_at hk
  rw [← h2]
  exact xAddS xStr (xIxS xStr h (by decide +kernel) h1 hs) (by show 5 + 1 ≤ 1000; decide)
theorem scr_end {f : Addr} (mr : mg "range" = none) (cdv : Value) (A : Around) (outer : List Env) (s : Shared) (H : Hp) (E : XK) (B : Bs) (D : Ends) {a : Addr} {x1 x4 x5 x6 x7 x8 x9 x10 x12 x13 x14 x15 x17 x18 x19 : Sl} {lim : Int} {sz : Nat} {rows : List Rw}
    (hsz : sz < 4) (hl0 : 0 ≤ lim) (hrl : rows.length ≤ 20) (hR : ∀ r, GScr r → RetD K B D r) :
    XS (SX P w K mg base f cdv A outer s H E) B [.raw (.ref a), x1, .d (.int lim), .d (.int (sz : Int)), x4, x5, x6, x7, x8, x9, x10, .d (rowsD rows), x12, x13, x14, x15, .d (.list (rows.map brD)), x17, x18, x19] ((defBody sScript).drop 11) D := by
  refine sCons (iSetO 19 (xLst xNil (by decide)) ?_ scScript.nd)
  refine sCons (iForR (n := sz + 2) (fun i ε => ∃ y12 : Sl, ε = [.raw (.ref a), x1, .d (.int lim), .d (.int (sz : Int)), x4, x5, x6, x7, x8, x9, x10, .d (rowsD rows), y12, x13, x14, x15, .d (.list (rows.map brD)), x17, x18, .own ((List.range i).map tsD)]) rfl mr
    (XD.is (xAdd (xv 3 rfl) xInt) rfl) (by omega) (pg_name (i := 12) scScript.nd rfl (Or.inl rfl)) tgtName ⟨x12, rfl⟩ (fun B' hB i ε hi ⟨y12, he⟩ => ?_) (fun ε ⟨y12, he⟩ => ?_) PassesOwn.never)
  · subst he
    refine ⟨_, rfl, fun N hN => ?_⟩
    refine sCons (iApp 19 rfl (d := tsD i) (xTup (xCons xStr (xCons (xTup (xCons xStr (xCons (xTup (xCons xStr (xCons xStr xNil)) (by show 2 ≤ 100000; decide)) (xCons (xTup (xCons xStr (xCons (xv 12 rfl) xNil)) (by show 2 ≤ 100000; decide)) xNil))) (by show 3 ≤ 100000; decide))
      (xCons (XO.d (xLst (xCons (xTup (xCons xStr (xCons (xRnd (xv 12 rfl) (by omega)) xNil)) (by show 2 ≤ 100000; decide)) xNil) (by show 1 ≤ 100000; decide))) (xCons (XO.d (xLst xNil (by decide))) xNil)))) (by show 4 ≤ 100000; decide)) (by rw [List.length_map, List.length_range]; omega) ?_)
    refine sNil (hN _ ⟨.d (.int (i : Int)), ?_⟩)
    show ([Sl.raw (.ref a), x1, .d (.int lim), .d (.int (sz : Int)), x4, x5, x6, x7, x8, x9, x10, .d (rowsD rows), .d (.int (i : Int)), x13, x14, x15, .d (.list (rows.map brD)), x17, x18, .own ((List.range i).map tsD ++ [tsD i])] : List Sl) = _
    rw [List.range_succ, List.map_append]
    rfl
  · subst he
    refine frz 19 rfl ?_
    refine sCons (iSetO 19 (ds := bodyD (sz + 2) lim rows) (xCatL (xv 19 rfl) (XO.d (xLst (xCons (xTup (xCons xStr (xCons xStr (xCons (xTup (xCons xStr (xCons (xTup (xCons xStr (xCons xStr xNil)) (by show 2 ≤ 100000; decide)) (xCons (xTup (xCons xStr (xCons xInt xNil)) (by show 2 ≤ 100000; decide)) xNil))) (by show 3 ≤ 100000; decide)) xNil))) (by show 3 ≤ 100000; decide))
      (xCons (xTup (xCons xStr (xCons (xv 2 rfl) (xCons (xv 16 rfl) xNil))) (by show 3 ≤ 100000; decide)) (xCons (xTup (xCons xStr (xCons xStr xNil)) (by show 2 ≤ 100000; decide)) xNil))) (by show 3 ≤ 100000; decide))) (by rw [List.length_map, List.length_range]; show sz + 2 + 3 ≤ 100000; omega)) ?_ scScript.nd)
    refine frz 19 rfl ?_
    refine sCons (iRet (XO.d (xLst (xCons (xv 11 rfl) (xCons (xv 2 rfl) (xCons (xAdd (xv 3 rfl) xInt) (xCons (xTup (xCons (XO.d (xLst (xCons (xTup (xCons xStr (xCons (xAdd (xv 3 rfl) xInt) xNil)) (by show 2 ≤ 100000; decide)) xNil) (by show 1 ≤ 100000; decide)))
      (xCons (XO.d (xLst (xCons (xTup (xCons xStr (xCons (XO.d (xLst (xCons (xTup (xCons xStr (xCons (xv 19 rfl) xNil)) (by show 2 ≤ 100000; decide)) (xCons (xTup (xCons xStr (xCons xStr xNil)) (by show 2 ≤ 100000; decide)) xNil)) (by show 2 ≤ 100000; decide))) xNil)) (by show 2 ≤ 100000; decide)) xNil) (by show 1 ≤ 100000; decide))) xNil)) (by show 2 ≤ 100000; decide)) xNil)))) (by show 4 ≤ 100000; decide))) ?_)
    refine hR _ ⟨rows, lim, sz + 2, rfl, hrl, hl0, ?_⟩
    unfold Small
    omega

def forBody : Stmt → List Stmt
  | .For _ _ b _ _ => b
  | _ => []
def keepOn : PyData → Bool
  | .str s => !decide (s = ("on" : Str))
  | _ => false
def tup1 (d : PyData) : PyData := .tuple [d]
theorem way_res (y : Wy) : lcRes [.str y.s] keepOn tup1 = wyD y := by
  cases y <;> rfl
def rIn1 : R2 := fun x y H Q => ∃ (c : Nat) (z : Str), x = .str ⟨#[c]⟩ ∧ y = .str z ∧ Q (.bl (decide (c ∈ z.cps.toList))) H
theorem op_in1 {X : Cx} : OpR X (compareOp .In) rIn1 := op_in_sign
theorem rkIn1 {c : Nat} {z : Str} : RelD K rIn1 (.str ⟨#[c]⟩) (.str z) (.bool (decide (c ∈ z.cps.toList))) := fun Hf H x y Q s h1 h2 q => by
  cases h1; cases h2
  exact ⟨c, z, rfl, rfl, q _ Hf H (Fz.refl s) (.bl _)⟩
theorem colon1 : (":" : Str) = ⟨#[58]⟩ := by decide +kernel
theorem tColon {X : Cx} {B : Bs} {ε : List Sl} {pos p : Pos} {j} {b : Expr} {z : Str} (hb : XD X B ε b (.str z)) (hm : behindInMarks .In b = false := by rfl) : XT X B ε (.Compare (.Constant (.str ":") j p) [.In] [b] pos) (decide (58 ∈ z.cps.toList)) := xcT op_in1 hm (XD.is xStr (congrArg PyData.str colon1)) hb rkIn1
theorem scr_br {f : Addr} (mr : mg "range" = none) (mi : mg "int" = none) (cdv : Value) (A : Around) (outer : List Env) (s : Shared) (H : Hp) (E : XK) (B : Bs) (D : Ends) {a : Addr} {x1 x4 x5 x6 x7 x8 x9 x10 x12 x13 x14 x15 x16 x17 x18 x19 : Sl} {lim : Int} {sz : Nat} {rows : List Rw}
    (hsz : sz < 4) (hl0 : 0 ≤ lim) (hrl : rows.length ≤ 20) (hR : ∀ r, GScr r → RetD K B D r) :
    XS (SX P w K mg base f cdv A outer s H E) B [.raw (.ref a), x1, .d (.int lim), .d (.int (sz : Int)), x4, x5, x6, x7, x8, x9, x10, .own (rows.map Rw.d), x12, x13, x14, x15, x16, x17, x18, x19] ((defBody sScript).drop 9) D := by
  refine frz 11 rfl ?_
  refine sCons (iSetO 16 (xLst xNil (by decide)) ?_ scScript.nd)
  refine sCons (iForL (fun i ε => ∃ y9 y13 y17 y18 : Sl, ε = [.raw (.ref a), x1, .d (.int lim), .d (.int (sz : Int)), x4, x5, x6, x7, x8, y9, x10, .d (rowsD rows), x12, y13, x14, x15, .own ((rows.take i).map brD), y17, y18, x19])
    (xv 11 rfl) (pg_tup rfl (pgs_cons (pg_name (i := 17) scScript.nd rfl (Or.inl rfl)) (pgs_cons (pg_name (i := 9) scScript.nd rfl (Or.inl rfl)) (pgs_cons (pg_name (i := 13) scScript.nd rfl (Or.inl rfl)) pgs_nil)))) (tgtTup (is := [17, 9, 13]) rfl) ⟨x9, x13, x17, x18, rfl⟩
    (fun B' hB i d ε hd ⟨y9, y13, y17, y18, he⟩ => ?_) (fun ε ⟨y9, y13, y17, y18, he⟩ => ?_) PassesOwn.never)
  · subst he
    rw [List.getElem?_map] at hd
    cases hz : rows[i]? with
    | none => rw [hz] at hd; cases hd
    | some r =>
      rw [hz] at hd
      have ed : r.d = d := Option.some.inj hd
      subst ed
      have hi : i < rows.length := (List.getElem?_eq_some_iff.mp hz).1
      refine ⟨[r.pat.d, .str r.sd.s, .str r.way.s], rfl, fun N hN => ?_⟩
      have rest : XS (SX P w K mg base f cdv A outer s H E) B' [.raw (.ref a), x1, .d (.int lim), .d (.int (sz : Int)), x4, x5, x6, x7, x8, .d (.str r.sd.s), x10, .d (rowsD rows), x12, .d (.str r.way.s), x14, x15, .own ((rows.take i).map brD), .d r.pat.d, .d (sdD r.sd), x19]
          ((forBody ((defBody sScript).getD 10 (.Pass ⟨0, 0, 0, 0⟩))).drop 2) { nx := N, rt := D.rt, bk := cS (SX P w K mg base f cdv A outer s H E) ((defBody sScript).drop 11) D, ct := N } := by
        refine sCons (iApp 16 rfl (d := brD r) (xTup (xCons (xv 17 rfl) (xCons (XO.d (XO.is (xCatL (XO.d (xLst (xCons (xv 18 rfl) xNil) (by show 1 ≤ 100000; decide))) (XO.d (xLcL [("word", 5)] (XO.d (xLst (xCons (xv 13 rfl) xNil) (by show 1 ≤ 100000; decide))) (blkOk_by (N := NS) (sc := defScope sScript) (by decide +kernel))
          (fun _ _ _ _ _ => pg_name (i := 5) scScript.nd rfl (Or.inl rfl)) (tt := tTest (tOp rNe (tVar 5) (tC (.str "on")))) (fun _ _ _ _ _ => pts_one (pt_cmpR op_ne (pv 5) pe_str (nomark _)))
          (te := tTup (tCons (tVar 5) tNil)) (fun _ _ _ _ _ => pe_tup (pa_cons (pv 5) pa_nil)) tgtName (keep := keepOn) (rf := tup1) (by decide) (by show 1 ≤ 100000; decide) (fun d hm => ?_) scScript.nd)) ?_) (by rw [way_res]; rfl))) xNil)) (by show 2 ≤ 100000; decide)) (by rw [List.length_map, List.length_take]; omega) ?_)
        · have e := List.mem_singleton.mp hm
          subst e
          exact ⟨_, rfl, evTest (evOp (evVar (d := .str r.way.s) rfl) (evC (d := .str "on") rfl) rkNeS), fun _ => evTup (eaCons (evVar (d := .str r.way.s) rfl) eaNil) (by show 1 ≤ 100000; decide)⟩
        · rw [way_res]
          cases r.way with
          | on => show 1 + 0 ≤ 100000; decide
          | _ => show 1 + 1 ≤ 100000; decide
        · refine sNil (hN _ ⟨.d (.str r.sd.s), .d (.str r.way.s), .d r.pat.d, .d (sdD r.sd), ?_⟩)
          show ([Sl.raw (.ref a), x1, .d (.int lim), .d (.int (sz : Int)), x4, x5, x6, x7, x8, .d (.str r.sd.s), x10, .d (rowsD rows), x12, .d (.str r.way.s), x14, x15, .own ((rows.take i).map brD ++ [brD r]), .d r.pat.d, .d (sdD r.sd), x19] : List Sl) = _
          rw [List.take_add_one, hz, List.map_append]
          rfl
      refine sCons (iSet 18 (xTup (xCons xStr (xCons (xv 9 rfl) xNil)) (by show 2 ≤ 100000; decide)) ?_ scScript.nd)
      cases hs : r.sd with
      | a =>
        rw [hs] at rest
        exact sIfF (tColon (xv 9 rfl)) (by decide +kernel) rest
      | bb =>
        rw [hs] at rest
        exact sIfF (tColon (xv 9 rfl)) (by decide +kernel) rest
      | ho l =>
        rw [hs] at rest
        have k1 : 58 ∈ (handS (l.val : Int) "c").cps.toList := by
          have : l.val = 0 ∨ l.val = 1 ∨ l.val = 2 ∨ l.val = 3 ∨ l.val = 4 ∨ l.val = 5 ∨ l.val = 6 ∨ l.val = 7 ∨ l.val = 8 ∨ l.val = 9 := by omega
          rcases this with h | h | h | h | h | h | h | h | h | h <;> rw [h] <;> decide +kernel
        obtain ⟨c, k2, k3⟩ : ∃ c : Nat, atI (handS (l.val : Int) "c").cps.toList 0 = some c ∧ PySem.intText? ⟨#[c]⟩ = some (l.val : Int) := by
          have : l.val = 0 ∨ l.val = 1 ∨ l.val = 2 ∨ l.val = 3 ∨ l.val = 4 ∨ l.val = 5 ∨ l.val = 6 ∨ l.val = 7 ∨ l.val = 8 ∨ l.val = 9 := by omega
          rcases this with h | h | h | h | h | h | h | h | h | h <;> rw [h]
          · exact ⟨48, by decide +kernel, by decide +kernel⟩
          · exact ⟨49, by decide +kernel, by decide +kernel⟩
          · exact ⟨50, by decide +kernel, by decide +kernel⟩
          · exact ⟨51, by decide +kernel, by decide +kernel⟩
          · exact ⟨52, by decide +kernel, by decide +kernel⟩
          · exact ⟨53, by decide +kernel, by decide +kernel⟩
          · exact ⟨54, by decide +kernel, by decide +kernel⟩
          · exact ⟨55, by decide +kernel, by decide +kernel⟩
          · exact ⟨56, by decide +kernel, by decide +kernel⟩
          · exact ⟨57, by decide +kernel, by decide +kernel⟩
        have k4 : (handS (l.val : Int) "c").length ≤ 1000 := by
          have : l.val = 0 ∨ l.val = 1 ∨ l.val = 2 ∨ l.val = 3 ∨ l.val = 4 ∨ l.val = 5 ∨ l.val = 6 ∨ l.val = 7 ∨ l.val = 8 ∨ l.val = 9 := by omega
          rcases this with h | h | h | h | h | h | h | h | h | h <;> rw [h] <;> decide +kernel
        have k5 : cutS (handS (l.val : Int) "c") (some 2) none = ("c" : Str) := by
          have : l.val = 0 ∨ l.val = 1 ∨ l.val = 2 ∨ l.val = 3 ∨ l.val = 4 ∨ l.val = 5 ∨ l.val = 6 ∨ l.val = 7 ∨ l.val = 8 ∨ l.val = 9 := by omega
          rcases this with h | h | h | h | h | h | h | h | h | h <;> rw [h] <;> decide +kernel
        refine sIfT (tColon (xv 9 rfl)) (decide_eq_true k1) ?_
        refine sCons (iSet 18 (d := sdD (.ho l)) (xTup (xCons xStr (xCons (xIntS rfl mi (xIxS (xv 9 rfl) xInt k4 k2) k3 (by show 1 ≤ 640; decide)) (xCons (XD.is (xSlS (xv 9 rfl) (poSome xInt) poNone k4) (congrArg PyData.str k5)) xNil))) (by show 3 ≤ 100000; decide)) ?_ scScript.nd)
        exact sNil rest
  · subst he
    have h1 : rows.take (rows.map Rw.d).length = rows := by rw [List.length_map, List.take_length]
    rw [h1]
    refine frz 16 rfl ?_
    exact scr_end mr cdv A outer s H E B D hsz hl0 hrl hR
end
end Cm

/-! _law_script: the walk, its first part. -/
namespace Cm
open PySem PySem.Spec PyProof.Rows L2
theorem sd_at {line handed : Int} (l0 : 0 ≤ line) (l1 : line < 10) (h0 : 0 ≤ handed) (h1 : handed < 3) : ∃ sd : Sd, atI ([.str "a", .str "bb", .str ((toString line : Str) ++ (":c" : Str))] : List PyData) handed = some (.str sd.s) := by
  have : handed = 0 ∨ handed = 1 ∨ handed = 2 := by omega
  rcases this with h | h | h <;> subst h
  · exact ⟨.a, rfl⟩
  · exact ⟨.bb, rfl⟩
  · have e : (toString line : Str) ++ (":c" : Str) = handS line "c" := by
      have : line = 0 ∨ line = 1 ∨ line = 2 ∨ line = 3 ∨ line = 4 ∨ line = 5 ∨ line = 6 ∨ line = 7 ∨ line = 8 ∨ line = 9 := by omega
      rcases this with h | h | h | h | h | h | h | h | h | h <;> subst h <;> decide +kernel
    refine ⟨.ho ⟨line.toNat, by omega⟩, ?_⟩
    rw [e]
    show some (PyData.str (handS line "c")) = some (.str (handS ((line.toNat : Nat) : Int) "c"))
    rw [Int.toNat_of_nonneg l0]
theorem wy_at {way : Int} (h0 : 0 ≤ way) (h1 : way < 4) : ∃ wy : Wy, atI ([.str "on", .str "again", .str "leave", .str "stop"] : List PyData) way = some (.str wy.s) := by
  have : way = 0 ∨ way = 1 ∨ way = 2 ∨ way = 3 := by omega
  rcases this with h | h | h | h <;> subst h
  · exact ⟨.on, rfl⟩
  · exact ⟨.again, rfl⟩
  · exact ⟨.leave, rfl⟩
  · exact ⟨.stop, rfl⟩
theorem wd_at {i : Int} (h0 : 0 ≤ i) (h1 : i < 5) : ∃ wd : Wd, atI ([.str "yes", .str "no", .str "other", .str "none", .str "quiet"] : List PyData) i = some (.str wd.s) := by
  have : i = 0 ∨ i = 1 ∨ i = 2 ∨ i = 3 ∨ i = 4 := by omega
  rcases this with h | h | h | h | h <;> subst h
  · exact ⟨.yes, rfl⟩
  · exact ⟨.no, rfl⟩
  · exact ⟨.other, rfl⟩
  · exact ⟨.none, rfl⟩
  · exact ⟨.quiet, rfl⟩
theorem drawn7 (cell : Int) : ∃ a b c d e f g : Int, drawn cell [10, 4, 4, 5, 2, 4, 5] = [a, b, c, d, e, f, g] ∧ (0 ≤ a ∧ a < 10) ∧ (0 ≤ b ∧ b < 4) ∧ (0 ≤ f ∧ f < 4) ∧ 0 ≤ g ∧ g < 5 := by
  obtain ⟨h1, h2⟩ := drawn_ok cell [10, 4, 4, 5, 2, 4, 5] (by decide)
  match e : drawn cell [10, 4, 4, 5, 2, 4, 5], h1 with
  | [a, b, c, d, e', f, g], _ =>
    rw [e] at h2
    exact ⟨a, b, c, d, e', f, g, rfl, h2 0 a 10 rfl rfl, h2 1 b 4 rfl rfl, h2 5 f 4 rfl rfl, h2 6 g 5 rfl rfl⟩
section
variable {P : Program} {w : World} {K : PySem.W.Frag} {mg : Str → Option Value} {base : Heap}
theorem scr_rows {f qc qd : Addr} {cd dd : FuncData} {k : Nat} (Tc : CellAt K mg qc cd) (Td : DrawnAt K mg qd dd) (Gc : FnOk P w K mg base CX0 k qc cd ["script", "k"] (SpS K FCell)) (Gd : FnOk P w K mg base CX0 k qd dd ["cell", "sizes"] (SpD K FDrawn))
    (mr : mg "range" = none) (mi : mg "int" = none) (ml : mg "len" = none) (ms : mg "str" = none) (cdv : Value) (A : Around) (outer : List Env) (s : Shared) (H : Hp) (E : XK) (hr : Room k (A.deeper (envOfC "_law_script" (defScope sScript) s.heap.objs.size f cdv))) (B : Bs) (D : Ends) {a : Addr} {ns : List Int} (hS : SqL K B.fb a (ns.map V.int)) {x1 x4 x5 x6 x7 x8 x9 x11 x12 x13 x14 x15 x16 x17 x18 x19 : Sl} {lim : Int} {sz : Nat} {menu : List Pat}
    (hsz : sz < 4) (hl0 : 0 ≤ lim) (hml : menu.length ≤ 20) (hR : ∀ r, GScr r → RetD K B D r) :
    XS (SX P w K mg base f cdv A outer s H E) B [.raw (.ref a), x1, .d (.int lim), .d (.int (sz : Int)), x4, x5, x6, x7, x8, x9, .own (menu.map Pat.d), x11, x12, x13, x14, x15, x16, x17, x18, x19] ((defBody sScript).drop 7) D := by
  refine frz 10 rfl ?_
  refine sCons (iSetO 11 (xLst xNil (by decide)) ?_ scScript.nd)
  refine sCons (iForR (n := (menu.map Pat.d).length) (fun i ε => ∃ (done : List Rw) (y12 y13 y14 y15 : Sl), done.length = i ∧ ε = [.raw (.ref a), x1, .d (.int lim), .d (.int (sz : Int)), x4, x5, x6, x7, x8, x9, .d (.list (menu.map Pat.d)), .own (done.map Rw.d), y12, y13, y14, y15, x16, x17, x18, x19]) rfl mr
    (xLen rfl ml (xv 10 rfl) rfl) (by rw [List.length_map]; omega) (pg_name (i := 12) scScript.nd rfl (Or.inl rfl)) tgtName ⟨[], x12, x13, x14, x15, rfl, rfl⟩ (fun B' hB i ε hi ⟨done, y12, y13, y14, y15, hdl, he⟩ => ?_) (fun ε ⟨done, y12, y13, y14, y15, hdl, he⟩ => ?_) PassesOwn.never)
  · subst he
    rw [List.length_map] at hi
    refine ⟨_, rfl, fun N hN => ?_⟩
    obtain ⟨way, line, handed, hd, w0, w1, l0, l1, h0, h1⟩ := drawn3 (cellAt ns (1 + (i : Int) % 3) + (i : Int) / 3) 4 10 3 ⟨by decide, by decide, by decide⟩
    obtain ⟨sd, hsd⟩ := sd_at l0 l1 h0 h1
    obtain ⟨wy, hwy⟩ := wy_at w0 w1
    have hlog : line.natAbs.log2 < 1920 := by
      have : line = 0 ∨ line = 1 ∨ line = 2 ∨ line = 3 ∨ line = 4 ∨ line = 5 ∨ line = 6 ∨ line = 7 ∨ line = 8 ∨ line = 9 := by omega
      rcases this with h | h | h | h | h | h | h | h | h | h <;> subst h <;> decide +kernel
    have hlen : (toString line : Str).length + (":c" : Str).length ≤ 1000 := by
      have : line = 0 ∨ line = 1 ∨ line = 2 ∨ line = 3 ∨ line = 4 ∨ line = 5 ∨ line = 6 ∨ line = 7 ∨ line = 8 ∨ line = 9 := by omega
      rcases this with h | h | h | h | h | h | h | h | h | h <;> subst h <;> decide +kernel
    refine sCons (iAsg (pg_unl rfl (pgs_cons (pg_name (i := 13) scScript.nd rfl (Or.inl rfl)) (pgs_cons (pg_name (i := 14) scScript.nd rfl (Or.inl rfl)) (pgs_cons (pg_name (i := 15) scScript.nd rfl (Or.inl rfl)) pgs_nil)))) (tgtUnl (is := [13, 14, 15]) rfl)
      (XD.is (xCall (CX := CX0) Gd hr rfl Td.m Td.F.kp Td.b (xCons (xAdd (xCallS Gc hr rfl Tc.m Tc.F.kp Tc.b (xraw 0 rfl) (hB.f.seq hS) (xCons (xAdd xInt (xMod (xv 12 rfl) xInt (by decide))) xNil) ⟨1 + (i : Int) % 3, rfl, rfl⟩) (xFdiv (xv 12 rfl) xInt ⟨by decide, by decide⟩)) (xCons (XO.d (xLst (xCons xInt (xCons xInt (xCons xInt xNil))) (by show 3 ≤ 100000; decide))) xNil)) (spD_ok ⟨_, [4, 10, 3], rfl, ⟨by decide, by decide⟩, rfl⟩)) (by rw [hd]; rfl : PyData.list (intsD (drawn (cellAt ns (1 + (i : Int) % 3) + (i : Int) / 3) [4, 10, 3])) = .list [.int way, .int line, .int handed])) rfl ?_)
    refine sCons (iApp 11 rfl (d := Rw.d ⟨menu[i], sd, wy⟩) (xTup (xCons (xIxL (xv 10 rfl) (xv 12 rfl) (atI_of (j := i) rfl (by rw [List.getElem?_map, List.getElem?_eq_getElem hi]; rfl))) (xCons (xIxL (XO.d (xLst (xCons xStr (xCons xStr (xCons (xAddS (xStrI rfl ms (xv 14 rfl) hlog) xStr hlen) xNil))) (by show 3 ≤ 100000; decide))) (xv 15 rfl) hsd)
      (xCons (xIxL (XO.d (xLst (xCons xStr (xCons xStr (xCons xStr (xCons xStr xNil)))) (by show 4 ≤ 100000; decide))) (xv 13 rfl) hwy) xNil))) (by show 3 ≤ 100000; decide)) (by rw [List.length_map]; omega) ?_)
    refine sNil (hN _ ⟨done ++ [⟨menu[i], sd, wy⟩], .d (.int (i : Int)), .d (.int way), .d (.int line), .d (.int handed), by rw [List.length_append, hdl]; rfl, ?_⟩)
    rw [List.map_append]
    rfl
  · subst he
    exact scr_br mr mi cdv A outer s H E B D hsz hl0 (by rw [List.length_map] at hdl; omega) hR
theorem ok_script {f qc qd qs : Addr} {fd cd dd sd : FuncData} {k : Nat} (F : Fun K "_law_script" "_law_script" sScript f fd) (Tc : CellAt K mg qc cd) (Td : DrawnAt K mg qd dd) (Ts : StirAt K mg qs sd) (mr : mg "range" = none) (mi : mg "int" = none) (ml : mg "len" = none) (ms : mg "str" = none) (me : mg "enumerate" = none) :
    FnOk P w K mg base CX0 (k + 3) f fd ["script"] (SpG K GScr) := by
  have Gc : FnOk P w K mg base CX0 (k + 2) qc cd ["script", "k"] (SpS K FCell) := ok_cell Tc.F ml
  have Gd : FnOk P w K mg base CX0 (k + 2) qd dd ["cell", "sizes"] (SpD K FDrawn) := ok_drawn Td.F Ts me
  refine fnG F scScript (by decide) fun cdv A outer s H E hr B D a ns hS hR => ?_
  obtain ⟨lim, size, many, word, non, start, spoken, hd, ⟨l0, l1⟩, ⟨s0, s1⟩, ⟨t0, t1⟩, p0, p1⟩ := drawn7 (cellAt ns 0)
  obtain ⟨sz, rfl⟩ : ∃ sz : Nat, size = (sz : Int) := ⟨size.toNat, (Int.toNat_of_nonneg s0).symm⟩
  obtain ⟨wd, hwd⟩ := wd_at p0 p1
  refine sCons (iSet 1 (d := .list [.int lim, .int (sz : Int), .int many, .int word, .int non, .int start, .int spoken]) (XD.is (xCall (CX := CX0) Gd hr rfl Td.m Td.F.kp Td.b (xCons (xCallS Gc hr rfl Tc.m Tc.F.kp Tc.b (xraw 0 rfl) hS (xCons xInt xNil) ⟨0, rfl, rfl⟩) (xCons (XO.d (xLst (xCons xInt (xCons xInt (xCons xInt (xCons xInt (xCons xInt (xCons xInt (xCons xInt xNil))))))) (by show 7 ≤ 100000; decide))) xNil)) (spD_ok ⟨cellAt ns 0, [10, 4, 4, 5, 2, 4, 5], rfl, ⟨by decide, by decide⟩, rfl⟩)) (by rw [hd]; rfl)) ?_ scScript.nd)
  refine sCons (iAsg (pg_unl rfl (pgs_cons (pg_name (i := 2) scScript.nd rfl (Or.inl rfl)) (pgs_cons (pg_name (i := 3) scScript.nd rfl (Or.inl rfl)) (pgs_cons (pg_name (i := 4) scScript.nd rfl (Or.inl rfl)) (pgs_cons (pg_name (i := 5) scScript.nd rfl (Or.inl rfl)) pgs_nil))))) (tgtUnl (is := [2, 3, 4, 5]) rfl)
    (XO.d (XO.is (xSlL (xv 1 rfl) poNone (poSome xInt)) (rfl : _ = [PyData.int lim, .int (sz : Int), .int many, .int word]))) rfl ?_)
  refine sCons (iAsg (pg_unl rfl (pgs_cons (pg_name (i := 6) scScript.nd rfl (Or.inl rfl)) (pgs_cons (pg_name (i := 7) scScript.nd rfl (Or.inl rfl)) (pgs_cons (pg_name (i := 8) scScript.nd rfl (Or.inl rfl)) pgs_nil)))) (tgtUnl (is := [6, 7, 8]) rfl)
    (XO.d (XO.is (xSlL (xv 1 rfl) (poSome xInt) poNone) (rfl : _ = [PyData.int non, .int start, .int spoken]))) rfl ?_)
  refine sCons (iSet 9 (xIxL (XO.d (xLst (xCons xStr (xCons xStr (xCons xStr (xCons xStr (xCons xStr xNil))))) (by show 5 ≤ 100000; decide))) (xv 8 rfl) hwd) ?_ scScript.nd)
  refine sCons (iSetO 10 (ds := [Pat.key word, .word wd, .other, .key (word + 3)].map Pat.d) (xLst (xCons (xTup (xCons xStr (xCons (xv 5 rfl) xNil)) (by show 2 ≤ 100000; decide)) (xCons (xTup (xCons xStr (xCons (xv 9 rfl) xNil)) (by show 2 ≤ 100000; decide)) (xCons (xTup (xCons xStr xNil) (by show 1 ≤ 100000; decide)) (xCons (xTup (xCons xStr (xCons (xAdd (xv 5 rfl) xInt) xNil)) (by show 2 ≤ 100000; decide)) xNil)))) (by show 4 ≤ 100000; decide)) ?_ scScript.nd)
  refine frz 10 rfl ?_
  generalize hm0 : [Pat.key word, .word wd, .other, .key (word + 3)] = m0
  have hm0l : m0.length ≤ 4 := by subst hm0; exact Nat.le_refl 4
  have c1 := cutG_len m0 (some start) none
  have c2 := cutG_len m0 none (some start)
  refine sCons (iSetO 10 (ds := (cutG (cutG m0 (some start) none ++ cutG m0 none (some start)) none (some many)).map Pat.d) (XO.is (xSlL (XO.d (XO.is (xCatL (XO.d (XO.is (xSlL (xv 10 rfl) (poSome (xv 7 rfl)) poNone) (cutG_map Pat.d m0 (some start) none))) (XO.d (XO.is (xSlL (xv 10 rfl) poNone (poSome (xv 7 rfl))) (cutG_map Pat.d m0 none (some start)))) (by rw [List.length_map, List.length_map]; omega)) List.map_append.symm)) poNone (poSome (xv 4 rfl))) (cutG_map Pat.d _ none (some many))) ?_ scScript.nd)
  have c3 := cutG_len (cutG m0 (some start) none ++ cutG m0 none (some start)) none (some many)
  rw [List.length_append] at c3
  generalize cutG (cutG m0 (some start) none ++ cutG m0 none (some start)) none (some many) = menu at c3
  by_cases hc : 0 < lim ∧ non = 1
  · refine sIfT (tAnd (tGt (xv 2 rfl) xInt) fun _ => tEqI (xv 6 rfl) xInt) (by rw [decide_eq_true hc.1, decide_eq_true hc.2]; rfl) ?_
    have hpos : (0 : Int) < ((menu.map Pat.d).length : Int) + 1 := by omega
    have hn0 : 0 ≤ start % (((menu.map Pat.d).length : Int) + 1) := Int.emod_nonneg _ (by omega)
    have hn1 : start % (((menu.map Pat.d).length : Int) + 1) < ((menu.map Pat.d).length : Int) + 1 := Int.emod_lt_of_pos _ hpos
    have hml : (menu.map Pat.d).length = menu.length := List.length_map ..
    refine sCons (iIns 10 rfl (n := (start % (((menu.map Pat.d).length : Int) + 1)).toNat) (d := Pat.none.d) (XD.is (evOwnD (i := 10) rfl (xMod (xv 7 rfl) (xAdd (xLen rfl ml (xv 10 rfl) rfl) xInt) hpos) rfl) (congrArg PyData.int (Int.toNat_of_nonneg hn0).symm)) (xTup (xCons xStr xNil) (by show 1 ≤ 100000; decide)) (by omega) (by omega) ?_)
    refine sNil ?_
    have e : (menu.map Pat.d).take (start % (((menu.map Pat.d).length : Int) + 1)).toNat ++ [Pat.none.d] ++ (menu.map Pat.d).drop (start % (((menu.map Pat.d).length : Int) + 1)).toNat = (menu.take (start % (((menu.map Pat.d).length : Int) + 1)).toNat ++ [Pat.none] ++ menu.drop (start % (((menu.map Pat.d).length : Int) + 1)).toNat).map Pat.d := by
      rw [List.map_append, List.map_append, List.map_take, List.map_drop]
      rfl
    rw [e]
    exact scr_rows Tc Td Gc Gd mr mi ml ms cdv A outer s H E hr B D hS (by omega) l0 (by rw [List.length_append, List.length_append, List.length_take, List.length_drop]; show _ + 1 + _ ≤ 20; omega) hR
  · refine sIfF (tAnd (tGt (xv 2 rfl) xInt) fun _ => tEqI (xv 6 rfl) xInt) (by
      by_cases h1 : 0 < lim
      · rw [decide_eq_false fun z => hc ⟨h1, z⟩]; exact Bool.and_false _
      · rw [decide_eq_false h1]; rfl) ?_
    exact scr_rows Tc Td Gc Gd mr mi ml ms cdv A outer s H E hr B D hS (by omega) l0 (by omega) hR
end
end Cm

/-! law: the rules it needs beyond the others. -/
namespace Cm
open PySem PySem.Spec PyProof.Rows L2
theorem das_ints {K : PySem.W.Frag} {H : Hp} : ∀ l : List Int, Das K H (l.map V.int) (intsD l)
  | [] => .nil
  | i :: r => .cons (.int i) (das_ints r)
section
variable {X : Cx} {B : Bs} {ε : List Sl} {D : Ends} {pos : Pos}
theorem xSlRaw {e : Expr} {lo hi : Option Expr} {p2 : Pos} {a : Addr} {ns : List Int} {i j : Option Int} (h : XP X B ε e (fun _ u => u = .ref a)) (hS : SqL X.K B.fb a (ns.map V.int)) (hl : XPo X B ε lo i) (hh : XPo X B ε hi j) : XO X B ε (.Subscript e (.Slice lo hi none p2) pos) (intsD (cutG ns i j)) :=
  ofO (pe_slice sl_list peC poC poC) fun Hf H σ S Q q => h Hf H σ S _ fun v Hf1 H1 e1 h1 => hl Hf1 H1 σ (S.mono e1) _ fun Hf2 H2 e2 => hh Hf2 H2 σ (S.mono (e1.trans e2)) _ fun Hf3 H3 e3 => by
    have hv : v = .ref a := h1
    subst hv
    have e4 := (e1.trans e2).trans e3
    have ec : cutV (ns.map V.int) i j = (cutG ns i j).map V.int := by
      unfold cutV cutG
      rw [List.length_map, ← List.map_drop, ← List.map_take]
    exact ⟨_, _, rfl, e4.s.seq ((S.fz.f.trans e4.f).seq hS), fun p hp => q p _ Hf3 _ (e4.trans (Fz.own e4.s hp)) (e4.h.free hp) (e4.s.free hp) upd_same (by rw [ec]; exact das_ints _)⟩
/-- f(x, ..), x an object of the class -/
theorem xCallM {k : Nat} {f C : Addr} {fd : FuncData} {ps : List Str} {F' : Prg → List PyData → PyData → Prop} {x : Str} {p : Pos} {e : Expr} {es : List Expr} {ds : List PyData} {r : PyData} {g : Prg} (F : FnOk X.prog X.w X.K X.mg X.base CX0 k f fd ps (SpM X.K C F')) (hr : Room k X.A) (hg : Gl X x) (hm : X.mg x = some (.ref f)) (hk : PySem.W.keepIn X.K (.ref f) = true) (hb : Binds X.K fd ps [])
    (he : XP X B ε e (fun Hf u => ∃ x, u = .ref x ∧ TAt X.K C Hf x g)) (ha : XA X B ε es ds) (hF : F' g ds r) (hd : (x == ("__debug__" : Str)) = false := by decide) (hst : starEach (e :: es) X.env = (false, eval e X.env) :: starEach es X.env := by rfl) (hpl : (backTo pos (starEach es X.env)).any (·.1) = false := by rfl) :
    XD X B ε (.Call (.Name x p) (e :: es) [] pos) r :=
  ofP (pe_call F hr hg hm hk hb .nil (pass0 (X := X)) (pa_cons peC paC hst) hd hst hpl) fun Hf H σ S Q q => he Hf H σ S _ fun u Hf1 H1 e1 hu => by
    obtain ⟨y, rfl, hT⟩ := hu
    refine ha Hf1 H1 σ (S.mono e1) _ fun vs Hf2 H2 e2 hds => ?_
    refine (show SpM X.K C F' (.ref y :: vs ++ []) H2 Q E0 from ?_)
    rw [List.append_nil]
    have e3 := e1.trans e2
    exact ⟨Hf2, y, g, vs, ds, r, rfl, e2.s, hT.mono e2.f, hds, hF, fun v Hf' H' e4 hv => q v Hf' H' (e3.trans e4) hv⟩
/-- y = e, of which something is known for good -/
theorem iSetP (i : Nat) {x : Str} {pos' : Pos} {e : Expr} {φ : Hp → V → Prop} (he : XP X B ε e (fun Hf v => ∀ Hf', Same Hf Hf' → φ Hf' v)) (k : OkN X.K B (ε.set i (.p φ)) D.nx) (hN : X.N.Nodup) (hi : X.N[i]? = some x := by rfl) (hx : Loc X.env.scope x := by first | exact Or.inl rfl | exact Or.inr rfl)
    (hs : swapsWith e (some (.Name x pos')) pos.line X.env = pure false := by rfl) (hf : X.fn x = true ∨ X.env.scope.names.lookup x = some .local := by first | exact .inl rfl | exact .inr rfl) : X1 X B ε (.Assign [.Name x pos'] e pos) D :=
  of1 (ps_set hN hi hx peC hs hf) fun Hf H σ S => he Hf H σ S _ fun v Hf' H' e1 hd => k Hf' H' _ ((S.mono e1).setP hd)
/-! ### the dict of what is said behind -/
def moreK (v1 v2 : V) : List (Key × V) := mergeK [] [(.inr ("on" : Str), v1), (.inr ("leave" : Str), v2)]
def MoreAt (K : PySem.W.Frag) (Hf : Hp) (v : V) : Prop := ∃ (a : Addr) (v1 v2 : V), v = .ref a ∧ Hf a = some (.dK (moreK v1 v2)) ∧ Da K Hf v1 (.list [.str "on"]) ∧ Da K Hf v2 (.list [.str "bye"])
theorem MoreAt.mono {K : PySem.W.Frag} {Hf Hf' : Hp} {v : V} (h : MoreAt K Hf v) (e : Same Hf Hf') : MoreAt K Hf' v := by
  obtain ⟨a, v1, v2, h0, h1, h2, h3⟩ := h
  exact ⟨a, v1, v2, h0, e _ _ h1, h2.mono e, h3.mono e⟩
theorem more_val (v1 v2 : V) (j : Key) : valV (moreK v1 v2) j = if j = .inr ("leave" : Str) then some v2 else if j = .inr ("on" : Str) then some v1 else none := by
  show valV (putK (putK [] (.inr ("on" : Str)) v1) (.inr ("leave" : Str)) v2) j = _
  rw [valV_put, valV_put, valV_nil]
theorem xMoreDict {j1 j2 : Nat} {p1 p2 p3 p4 p5 p6 : Pos} {j3 j4 : Nat} : XP X B ε (.Dict [some (.Constant (.str "on") j1 p1), some (.Constant (.str "leave") j2 p2)] [.List [.Constant (.str "on") j3 p3] p4, .List [.Constant (.str "bye") j4 p5] p6] pos) (fun Hf v => ∀ Hf', Same Hf Hf' → MoreAt X.K Hf' v) :=
  ofP (pe_disp (pps_cons pe_str peC (pps_cons pe_str peC pps_nil)) rfl rfl (fun h => nomatch h) (by show 2 ≤ 15; decide)) fun Hf H σ S Q q => fun p hp => by
    have e0 : Fz Hf H Hf (upd H p (.dK [])) := Fz.own S.fz.s hp
    refine (XO.d (xLst (xCons xStr xNil) (by show 1 ≤ 100000; decide)) : XD X B ε _ (.list [.str "on"])) Hf _ σ (S.mono e0) _ fun v1 Hf1 H1 e1 h1 => ?_
    refine (XO.d (xLst (xCons xStr xNil) (by show 1 ≤ 100000; decide)) : XD X B ε _ (.list [.str "bye"])) Hf1 H1 σ ((S.mono e0).mono e1) _ fun v2 Hf2 H2 e2 h2 => ?_
    have e3 := e1.trans e2
    have hpf : Hf p = none := S.fz.s.free hp
    have n2 : Hf2 p = none := e3.n p (by rw [upd_same]; exact fun z => nomatch z) hpf
    have n3 : H2 p = some (.dK []) := e3.h _ _ upd_same
    refine ⟨n3, [(.inr ("on" : Str), v1), (.inr ("leave" : Str), v2)], rfl, by show 2 ≤ 15; decide, ?_⟩
    have sf : Same Hf2 (upd Hf2 p (.dK (moreK v1 v2))) := fun b o z => by rw [upd_ne (ne_of_none z n2)]; exact z
    refine q (.ref p) (upd Hf2 p (.dK (moreK v1 v2))) _ ⟨(e0.trans e3).f.trans sf, fun b o z => ?_, fun b o z => ?_, fun b z1 z2 => ?_⟩ fun Hf' s => ?_
    · rw [upd_ne (ne_of_none z hp)]
      exact (e0.trans e3).h b o z
    · by_cases c : b = p
      · subst c; rw [upd_same] at z ⊢; exact z
      · rw [upd_ne c] at z ⊢; exact e3.s b o z
    · have c : b ≠ p := fun y => z1 (y ▸ hp)
      rw [upd_ne c]
      exact (e0.trans e3).n b z1 z2
    · have h1' : MoreAt X.K (upd Hf2 p (.dK (moreK v1 v2))) (.ref p) := ⟨p, v1, v2, rfl, upd_same, (h1.mono e2.f).mono sf, h2.mono sf⟩
      exact h1'.mono s
theorem xMoreGet (i : Nat) {x : Str} {p apos cpos : Pos} {e f : Expr} {w : Option Wy} (hu : X.A.units + 1 < cLine) (h : ε[i]? = some (.p (MoreAt X.K))) (he : XD X B ε e (.str (owS w))) (hf : XD X B ε f (.list []))
    (hN : X.N[i]? = some x := by rfl) (hv : Vis X.env.scope x := by first | exact Or.inl rfl | exact Or.inr (Or.inl rfl) | exact Or.inr (Or.inr rfl)) (hd : (x == ("__debug__" : Str)) = false := by decide) (hcd : (x == ("__classdict__" : Str)) = false := by decide) (m : M2 X (.Name x p) "get" apos e f cpos := by exact ⟨rfl, rfl, rfl, rfl⟩) :
    XD X B ε (.Call (.Attribute (.Name x p) "get" apos) [e, f] [] cpos) (.list (saidD (moreOf w))) :=
  ofP (pe_dget2 hu (pe_var hN hv hd hcd) peC peC m) fun Hf H σ S Q q => by
    obtain ⟨v, h1, h2⟩ := S.p h
    refine ⟨v, h1, ?_⟩
    obtain ⟨a, v1, v2, rfl, ha, d1, d2⟩ := h2 Hf (Same.refl _)
    refine ⟨a, rfl, .inl ⟨_, .inl (S.fz.s _ _ ha)⟩, ?_⟩
    refine he Hf H σ S _ fun y Hf1 H1 e1 hy => ?_
    cases hy
    refine hf Hf1 H1 σ (S.mono e1) _ fun z Hf2 H2 e2 hz => ?_
    have e3 := e1.trans e2
    refine ⟨_, DGet.k (k := .inr (owS w)) (e3.s _ _ (e3.f _ _ ha)), ?_⟩
    rw [more_val]
    have d1' := d1.mono e3.f
    have d2' := d2.mono e3.f
    cases w with
    | none =>
      rw [if_neg (by decide +kernel), if_neg (by decide +kernel)]
      exact q _ Hf2 H2 e3 hz
    | some w =>
      cases w with
      | on =>
        rw [if_neg (by decide +kernel), if_pos (by decide +kernel)]
        exact q _ Hf2 H2 e3 d1'
      | again =>
        rw [if_neg (by decide +kernel), if_neg (by decide +kernel)]
        exact q _ Hf2 H2 e3 hz
      | leave =>
        rw [if_pos (by decide +kernel)]
        exact q _ Hf2 H2 e3 d2'
      | stop =>
        rw [if_neg (by decide +kernel), if_neg (by decide +kernel)]
        exact q _ Hf2 H2 e3 hz
end
/-! ### what is said can be compared -/
def Good (s : Str) : Prop := PyData.canLay0 (.str s) = true
theorem good_rnd (k : Nat) : Good (rnd k) := by
  match k with
  | 0 => show PyData.canLay0 (.str (rnd 0)) = true; decide +kernel
  | 1 => show PyData.canLay0 (.str (rnd 1)) = true; decide +kernel
  | 2 => show PyData.canLay0 (.str (rnd 2)) = true; decide +kernel
  | 3 => show PyData.canLay0 (.str (rnd 3)) = true; decide +kernel
  | 4 => show PyData.canLay0 (.str (rnd 4)) = true; decide +kernel
  | n + 5 =>
    show PyData.canLay0 (.str (("round" : Str) ++ (⟨#[0]⟩ : Str))) = true
    decide +kernel
theorem good_sd (s : Sd) : Good s.s := by
  cases s with
  | a => show PyData.canLay0 (.str "a") = true; decide +kernel
  | bb => show PyData.canLay0 (.str "bb") = true; decide +kernel
  | ho l =>
    show PyData.canLay0 (.str (handS (l.val : Int) "c")) = true
    have : l.val = 0 ∨ l.val = 1 ∨ l.val = 2 ∨ l.val = 3 ∨ l.val = 4 ∨ l.val = 5 ∨ l.val = 6 ∨ l.val = 7 ∨ l.val = 8 ∨ l.val = 9 := by omega
    rcases this with h | h | h | h | h | h | h | h | h | h <;> rw [h] <;> decide +kernel
theorem good_more (w : Option Wy) : ∀ s ∈ moreOf w, Good s := by
  intro s hs
  have on : Good "on" := by show PyData.canLay0 (.str "on") = true; decide +kernel
  have bye : Good "bye" := by show PyData.canLay0 (.str "bye") = true; decide +kernel
  cases w with
  | none => cases hs
  | some w =>
    cases w with
    | on => rw [List.mem_singleton.mp hs]; exact on
    | leave => rw [List.mem_singleton.mp hs]; exact bye
    | again => cases hs
    | stop => cases hs
theorem good_turn (rows : List Rw) (limit left : Int) (e : Pat) : ∀ s ∈ (lawTurn rows limit left e).1, Good s := by
  unfold lawTurn
  have one : ∀ (r : Rw) (s : Str), s ∈ [r.sd.s] → Good s := fun r s hs => by
    rw [List.mem_singleton.mp hs]; exact good_sd _
  have nil : ∀ (s : Str), s ∈ ([] : List Str) → Good s := fun s hs => nomatch hs
  cases rowOf rows e with
  | some r => exact one r
  | none =>
    simp only
    split
    · exact nil
    · cases findR rows .none with
      | none => exact nil
      | some r => exact one r
theorem good_due (rows : List Rw) (limit : Int) (N : Nat) : ∀ (evs : List Pat) (gone : Nat) (left : Int) (over : Bool), ∀ l ∈ dueFrom rows limit N gone left over evs, ∀ s ∈ l, Good s
  | [], _, _, _, l, hl, s, hs => by rw [dueFrom] at hl; cases hl
  | _ :: r, gone, left, true, l, hl, s, hs => by
    rw [dueFrom] at hl
    rcases List.mem_cons.mp hl with h | h
    · subst h; cases hs
    · exact good_due rows limit N r gone left true l h s hs
  | e :: r, gone, left, false, l, hl, s, hs => by
    rw [dueFrom] at hl
    rcases List.mem_cons.mp hl with h | h
    · subst h
      rcases List.mem_append.mp hs with h | h
      · rcases List.mem_append.mp h with h | h
        · exact good_turn _ _ _ _ s h
        · exact good_more _ s h
      · split at h
        · rw [List.mem_singleton.mp h]; exact good_rnd _
        · cases h
    · exact good_due rows limit N r _ _ _ l h s hs
theorem due_shp {out : List (List Str)} (h : ∀ l ∈ out, ∀ s ∈ l, Good s) : Shp 2 (.list (outD out)) := Shp.lst fun d hd => by
  obtain ⟨l, hl, rfl⟩ := List.mem_map.mp hd
  exact Shp.lst fun d hd => by
    obtain ⟨s, hs, rfl⟩ := List.mem_map.mp hd
    exact ⟨h l hl s hs, by simp [PyData.depth]⟩
theorem eqv_all_refl : ∀ ds : List PyData, (∀ d ∈ ds, PyData.eqv d d = true) → PyData.eqvAll ds ds = true
  | [], _ => eqvAll_nil
  | d :: r, h => by
    rw [eqvAll_cons, h d List.mem_cons_self, eqv_all_refl r fun x hx => h x (List.mem_cons_of_mem _ hx)]
    rfl
theorem out_refl (out : List (List Str)) : PyData.eqv (.list (outD out)) (.list (outD out)) = true := by
  rw [eqv_list]
  refine eqv_all_refl _ fun d hd => ?_
  obtain ⟨l, _, rfl⟩ := List.mem_map.mp hd
  rw [eqv_list]
  refine eqv_all_refl _ fun d hd => ?_
  obtain ⟨s, _, rfl⟩ := List.mem_map.mp hd
  simp [PyData.eqv]
theorem due_len (rows : List Rw) (limit : Int) (N : Nat) : ∀ (evs : List Pat) (gone : Nat) (left : Int) (over : Bool), (dueFrom rows limit N gone left over evs).length = evs.length
  | [], _, _, _ => by rw [dueFrom]; rfl
  | _ :: r, gone, left, true => by rw [dueFrom, List.length_cons, due_len rows limit N r]; rfl
  | e :: r, gone, left, false => by rw [dueFrom, List.length_cons, due_len rows limit N r]; rfl
theorem cut63 (ns : List Int) : (cutG ns (some 4) (some 63)).length ≤ 63 := by
  unfold cutG
  rw [List.length_take, show (63 : Int) = ((63 : Nat) : Int) from rfl, HT.sIx_nat]
  omega
end Cm

/-! law. -/
namespace Cm
open PySem PySem.Spec PyProof.Rows L2
abbrev NL : List Str := ["script", "rows", "limit", "size", "made", "cell", "events", "due", "gone", "left", "over", "event", "said", "way", "more"]
theorem scLaw : FnScope NL ["script"] (defScope sLaw) := ⟨rfl, rfl, rfl, by decide +kernel, rfl, by decide +kernel, by decide +kernel⟩
def FLaw (ns : List Int) (ds : List PyData) (r : PyData) : Prop := ds = [] ∧ r = .bool true
/-- a def by its name -/
structure DefAt (K : PySem.W.Frag) (mg : Str → Option Value) (x : Str) (ps : List Str) (f : Addr) (fd : FuncData) : Prop where
  kp : PySem.W.keepIn K (.ref f) = true
  b : Binds K fd ps []
  m : mg x = some (.ref f)
def evD (rows : List Rw) : PyData → PyData
  | .int c => (evOf c rows).d
  | _ => .none
theorem ev_res (rows : List Rw) (l : List Int) : lcRes (intsD l) (fun _ => true) (evD rows) = (l.map fun c => evOf c rows).map Pat.d := by
  rw [lcRes_all]
  unfold intsD
  rw [List.map_map, List.map_map]
  rfl
section
variable {P : Program} {w : World} {K : PySem.W.Frag} {mg : Str → Option Value} {base : Heap} {C : Addr}
theorem ok_law {f fs fe ft fr fi : Addr} {fd sd ed td rd id : FuncData} (F : Fun K "law" "law" sLaw f fd)
    (Ts : DefAt K mg "_law_script" ["script"] fs sd) (Gs : FnOk P w K mg base CX0 15 fs sd ["script"] (SpG K GScr))
    (Te : DefAt K mg "_law_event" ["cell", "rows"] fe ed) (Ge : FnOk P w K mg base CX0 15 fe ed ["cell", "rows"] (SpD K FEvent))
    (Tt : DefAt K mg "_law_turn" ["rows", "limit", "left", "event"] ft td) (Gt : FnOk P w K mg base CX0 15 ft td ["rows", "limit", "left", "event"] (SpD K FTurn))
    (Tr : DefAt K mg "run" ["machine", "events"] fr rd) (Gr : FnOk P w K mg base CX0 6 fr rd ["machine", "events"] (SpM K C FRun))
    (M : Mk K C fi) (Gi : FnOk P w K mg base CX0 14 fi id ["self", "script"] (SpInit K C 12)) (hb : Binds K id ["self", "script"] []) (hm : mg "Teller" = some (.ref C)) :
    FnOk P w K mg base CX0 16 f fd ["script"] (SpS K FLaw) := by
  refine fnS F scLaw (by decide) (fun ns ds r h => ?_) fun cdv A outer s H E hr B D a ns ds r hS h hR => ?_
  · obtain ⟨rfl, _⟩ := h
    rfl
  obtain ⟨rfl, rfl⟩ := h
  refine sCons (iAsgG (pg_unl rfl (pgs_cons (pg_name (i := 1) scLaw.nd rfl (Or.inr rfl)) (pgs_cons (pg_name (i := 2) scLaw.nd rfl (Or.inl rfl)) (pgs_cons (pg_name (i := 3) scLaw.nd rfl (Or.inl rfl)) (pgs_cons (pg_name (i := 4) scLaw.nd rfl (Or.inl rfl)) pgs_nil))))) (tgtUnl (is := [1, 2, 3, 4]) rfl)
    (xCallG Gs hr rfl Ts.m Ts.kp Ts.b (xraw 0 rfl) hS) fun r hG => ?_)
  obtain ⟨rows, lim, N, rfl, hrl, hl0, hN⟩ := hG
  refine ⟨_, rfl, ?_⟩
  have hN0 : 0 < N ∧ N ≤ 5 := by rcases hN with h | h | h | h <;> omega
  have hcl := cut63 ns
  have hu := hr.units
  have hu1 : (BX P w K mg base NL "law" sLaw f cdv A outer s H E).A.units + 1 < cLine := by
    show (A.deeper (envOfC "law" (defScope sLaw) s.heap.objs.size f cdv)).units + 1 < cLine
    omega
  refine sCons (iLcL 6 [("cell", 5)] (XO.d (xSlRaw (xraw 0 rfl) hS (poSome xInt) (poSome xInt))) (blkOk_by (N := NL) (sc := defScope sLaw) (by decide +kernel))
    (fun _ _ _ _ _ => pg_name (i := 5) scLaw.nd rfl (Or.inl rfl)) (fun _ _ _ _ _ => pts_nil) (te := tCall (SpD K FEvent) [] E0 (tCons (tVar 5) (tCons (tVar 1) tNil))) (fun _ _ _ _ _ => pe_call Ge hr rfl Te.m Te.kp Te.b .nil pass0 (pa_cons (pv 5) (pa_cons (pv 1) pa_nil)))
    tgtName (keep := fun _ => true) (rf := evD rows) (by decide) (by unfold intsD; rw [List.length_map]; omega) (fun d hd => ?_) ?_ scLaw.nd (sw_true rfl rfl rfl (by decide +kernel)))
  · obtain ⟨c, _, rfl⟩ := List.mem_map.mp hd
    exact ⟨[.int c], rfl, evYes, fun _ => evCall (eaCons (evVar (d := .int c) rfl) (eaCons (evVar (d := rowsD rows) rfl) eaNil)) (spD_ok ⟨c, rows, rfl, rfl, by omega⟩)⟩
  rw [ev_res]
  have hel : ((cutG ns (some 4) (some 63)).map fun c => evOf c rows).length ≤ 63 := by rw [List.length_map]; exact hcl
  generalize (cutG ns (some 4) (some 63)).map (fun c => evOf c rows) = evs at hel
  refine frz 6 rfl ?_
  have hrun := run_due hN hl0 (by omega) evs (rows := rows)
  have hgood := good_due rows lim N evs 1 lim false
  refine sCons (iSetO 7 (ds := outD [[rnd 0]]) (xLst (xCons (XO.d (xLst (xCons (xRnd (k := 0) xInt (by decide)) xNil) (by show 1 ≤ 100000; decide))) xNil) (by show 1 ≤ 100000; decide)) ?_ scLaw.nd)
  refine sCons (iSet 8 (d := .int ((1 : Nat) : Int)) xInt ?_ scLaw.nd)
  refine sCons (iSet 9 (xv 2 rfl) ?_ scLaw.nd)
  refine sCons (iSet 10 xBool ?_ scLaw.nd)
  refine sCons (iForL (fun i ε => ∃ (done : List (List Str)) (gone : Nat) (left : Int) (over : Bool) (x11 x12 x13 x14 : Sl), done.length = i + 1 ∧ done ++ dueFrom rows lim N gone left over (evs.drop i) = [rnd 0] :: dueFrom rows lim N 1 lim false evs ∧
      ε = [.raw (.ref a), .d (rowsD rows), .d (.int lim), .d (.int (N : Int)), .d (madeD N lim rows), .no, .d (.list (evs.map Pat.d)), .own (outD done), .d (.int (gone : Int)), .d (.int left), .d (.bool over), x11, x12, x13, x14])
    (xv 6 rfl) (pg_name (i := 11) scLaw.nd rfl (Or.inl rfl)) tgtName ⟨[[rnd 0]], 1, lim, false, .no, .no, .no, .no, rfl, rfl, rfl⟩ (fun B' hB i d ε hd ⟨done, gone, left, over, x11, x12, x13, x14, h1, h2, he⟩ => ?_) (fun ε ⟨done, gone, left, over, x11, x12, x13, x14, h1, h2, he⟩ => ?_) PassesOwn.never)
  · subst he
    rw [List.getElem?_map] at hd
    cases hev : evs[i]? with
    | none => rw [hev] at hd; cases hd
    | some e =>
      rw [hev] at hd
      have ed : e.d = d := Option.some.inj hd
      subst ed
      have hi : i < evs.length := (List.getElem?_eq_some_iff.mp hev).1
      have e3 : evs.drop i = e :: evs.drop (i + 1) := by
        rw [List.drop_eq_getElem_cons hi]
        rw [List.getElem?_eq_getElem hi] at hev
        rw [Option.some.inj hev]
      rw [e3] at h2
      refine ⟨_, rfl, fun N2 hN2 => ?_⟩
      have hdl : (outD done).length < 100000 := by unfold outD; rw [List.length_map]; omega
      cases over with
      | true =>
        rw [dueFrom] at h2
        refine sIfT (tVal (xv 10 rfl)) rfl ?_
        refine sCons (iApp 7 rfl (d := .list []) (XO.d (xLst xNil (by decide))) hdl ?_)
        refine sCons (iCont (hN2 _ ⟨done ++ [[]], gone, left, true, .d e.d, x12, x13, x14, by rw [List.length_append, h1]; rfl, by rw [List.append_assoc]; exact h2, ?_⟩))
        unfold outD
        rw [List.map_append]
        rfl
      | false =>
        rw [dueFrom] at h2
        refine sIfF (tVal (xv 10 rfl)) rfl ?_
        generalize ht : lawTurn rows lim left e = t at h2
        obtain ⟨said, way, left2⟩ := t
        have h2 : done ++ (((said ++ moreOf way) ++ (if goesOn way = true then [rnd (gone % N)] else [])) :: dueFrom rows lim N (if goesOn way = true then gone + 1 else gone) left2 (isOver way) (evs.drop (i + 1))) = [rnd 0] :: dueFrom rows lim N 1 lim false evs := h2
        have hsl : said.length ≤ 1 := by
          have : said = (lawTurn rows lim left e).1 := by rw [ht]
          rw [this]
          unfold lawTurn
          cases rowOf rows e with
          | some r => exact Nat.le_refl 1
          | none =>
            simp only
            split
            · exact Nat.zero_le 1
            · cases findR rows .none with
              | none => exact Nat.zero_le 1
              | some r => exact Nat.le_refl 1
        have hml : (moreOf way).length ≤ 1 := by
          cases way with
          | none => exact Nat.zero_le 1
          | some y => cases y <;> decide
        refine sCons (iAsg (pg_unl rfl (pgs_cons (pg_name (i := 12) scLaw.nd rfl (Or.inl rfl)) (pgs_cons (pg_name (i := 13) scLaw.nd rfl (Or.inl rfl)) (pgs_cons (pg_name (i := 9) scLaw.nd rfl (Or.inl rfl)) pgs_nil)))) (tgtUnl (is := [12, 13, 9]) rfl)
          (xCall (CX := CX0) Gt hr rfl Tt.m Tt.kp Tt.b (xCons (xv 1 rfl) (xCons (xv 2 rfl) (xCons (xv 9 rfl) (xCons (xv 11 rfl) xNil)))) (spD_ok ⟨rows, lim, left, e, rfl, (by rw [ht] : turnD (said, way, left2) = turnD (lawTurn rows lim left e))⟩)) rfl ?_)
        refine sCons (iSetP 14 xMoreDict ?_ scLaw.nd)
        refine sCons (iSetO 12 (ds := saidD (said ++ moreOf way)) (XO.is (xCatL (xv 12 rfl) (xMoreGet 14 hu1 rfl (xv 13 rfl) (XO.d (xLst xNil (by decide)))) (by show (saidD said).length + (saidD (moreOf way)).length ≤ 100000; unfold saidD; rw [List.length_map, List.length_map]; omega)) List.map_append.symm) ?_ scLaw.nd)
        have hslen : (saidD (said ++ moreOf way)).length < 100000 := by unfold saidD; rw [List.length_map, List.length_append]; omega
        have rest : ∀ (said3 : List Str) (gone3 : Nat), said3 = (said ++ moreOf way) ++ (if goesOn way = true then [rnd (gone % N)] else []) → gone3 = (if goesOn way = true then gone + 1 else gone) →
            XS (BX P w K mg base NL "law" sLaw f cdv A outer s H E) B' [.raw (.ref a), .d (rowsD rows), .d (.int lim), .d (.int (N : Int)), .d (madeD N lim rows), .no, .d (.list (evs.map Pat.d)), .own (outD done), .d (.int (gone3 : Int)), .d (.int left2), .d (.bool false), .d e.d, .own (saidD said3), .d (.str (owS way)), .p (MoreAt K)]
              ((forBody ((defBody sLaw).getD 6 (.Pass ⟨0, 0, 0, 0⟩))).drop 5) { nx := N2, rt := D.rt, bk := cS (BX P w K mg base NL "law" sLaw f cdv A outer s H E) ((defBody sLaw).drop 7) D, ct := N2 } := fun said3 gone3 es eg => by
          refine sCons (iSet 10 (d := .bool (isOver way)) (XD.is (vOr (vEqS (xv 13 rfl) xStr) fun _ => vEqS (xv 13 rfl) xStr) ?_) ?_ scLaw.nd)
          · cases way with
            | none => rfl
            | some y => cases y <;> rfl
          refine frz 12 rfl ?_
          refine sCons (iApp 7 rfl (xv 12 rfl) hdl ?_)
          refine sNil (hN2 _ ⟨done ++ [said3], gone3, left2, isOver way, .d e.d, .d (.list (saidD said3)), .d (.str (owS way)), .p (MoreAt K), by rw [List.length_append, h1]; rfl, by rw [List.append_assoc, es, eg]; exact h2, ?_⟩)
          unfold outD
          rw [List.map_append]
          rfl
        have cond : ∀ (b : Bool), goesOn way = b → (decide (owS way = ("on" : Str)) || decide (owS way = ("again" : Str))) = b := fun b hb => by
          rw [← hb]
          cases way with
          | none => rfl
          | some y => cases y <;> rfl
        by_cases hg : goesOn way = true
        · refine sIfT (tOr (tEqS (xv 13 rfl) xStr) fun _ => tEqS (xv 13 rfl) xStr) (cond true hg) ?_
          refine sCons (iApp 12 rfl (d := .str (rnd (gone % N))) (xRnd ?_ (by have := Nat.mod_lt gone hN0.1; omega)) hslen ?_)
          · rw [Int.natCast_emod]
            exact xMod (xv 8 rfl) (xv 3 rfl) (by omega)
          refine sCons (iSet 8 (d := .int ((gone + 1 : Nat) : Int)) (XD.is (xAdd (xv 8 rfl) xInt) rfl) ?_ scLaw.nd)
          refine sNil ?_
          have k := rest ((said ++ moreOf way) ++ [rnd (gone % N)]) (gone + 1) (by rw [if_pos hg]) (by rw [if_pos hg])
          have es : saidD ((said ++ moreOf way) ++ [rnd (gone % N)]) = saidD (said ++ moreOf way) ++ [.str (rnd (gone % N))] := List.map_append
          rw [es] at k
          exact k
        · refine sIfF (tOr (tEqS (xv 13 rfl) xStr) fun _ => tEqS (xv 13 rfl) xStr) (cond false (by cases h : goesOn way with | true => exact absurd h hg | false => rfl)) ?_
          exact rest (said ++ moreOf way) gone (by rw [if_neg hg, List.append_nil]) (by rw [if_neg hg])
  · subst he
    rw [List.length_map, List.drop_length, dueFrom, List.append_nil] at h2
    subst h2
    refine frz 7 rfl ?_
    have hshp := due_shp (out := [rnd 0] :: dueFrom rows lim N 1 lim false evs) fun l hl s hs => by
      rcases List.mem_cons.mp hl with e | hl
      · subst e
        rw [List.mem_singleton.mp hs]
        exact good_rnd 0
      · exact hgood l hl s hs
    have hsz : N ≤ 10 := by omega
    refine sCons (iRet (XD.is (vEqD hu (xCallM Gr (hr.mono (by decide)) rfl Tr.m Tr.kp Tr.b (xTeller (g := prgOf N lim rows) M Gi hr rfl hm hb (xv 4 rfl) (fok_made hsz hrl) (fz_made N lim rows)) (xCons (xv 6 rfl) xNil) ⟨evs, _, rfl, hrun, rfl, by omega, hN0.1⟩) (xv 7 rfl) (hshp.ok (by decide)) (hshp.ok (by decide))) (congrArg PyData.bool (out_refl _))) hR)
end
end Cm

/-! What the top has written, and the claim. -/
namespace Cm
open PySem PySem.Spec PyProof.Rows L2
def spLaw (K : PySem.W.Frag) : Sp := SpS K FLaw
theorem all_mk {l : PySem.W.OpenLaw} {w : World} {K : PySem.W.Frag} {h : Heap} {mg : Str → Option Value} {fa C : Addr} (X : K.In h) (G : h.Ns mainGlobals mg) (hfa : mg "law" = some (.ref fa))
    {f1 f2 f3 f4 f5 f6 f7 f8 f9 f10 f11 f12 f13 f14 f15 f16 f17 f18 f19 f20 f21 f22 f23 f24 : Addr} {od1 an1 od2 an2 od3 an3 od4 an4 od5 an5 od6 an6 od7 an7 od8 an8 od9 an9 od10 an10 od11 an11 od12 an12 od13 an13 od14 an14 od15 an15 od16 an16 od17 an17 od18 an18 od19 an19 od20 an20 od21 an21 od22 an22 od23 an23 od24 an24 : Option Addr} {sl1 sl2 sl3 sl4 sl5 sl6 sl7 sl8 sl9 sl10 sl11 sl12 sl13 sl14 sl15 sl16 sl17 sl18 sl19 sl20 sl21 sl22 sl23 sl24 : Array (Option Value)}
    {oc1 kV1 dc1 pm1 cd1 ct1 oc2 kV2 dc2 pm2 cd2 ct2 oc3 kV3 dc3 pm3 cd3 ct3 oc4 kV4 dc4 pm4 cd4 ct4 oc5 kV5 dc5 pm5 cd5 ct5 oc6 kV6 dc6 pm6 cd6 ct6 oc7 kV7 dc7 pm7 cd7 ct7 oc8 kV8 dc8 pm8 cd8 ct8 oc9 kV9 dc9 pm9 cd9 ct9 oc10 kV10 dc10 pm10 cd10 ct10 oc11 kV11 dc11 pm11 cd11 ct11 oc12 kV12 dc12 pm12 cd12 ct12 oc13 kV13 dc13 pm13 cd13 ct13 oc14 kV14 dc14 pm14 cd14 ct14 oc15 kV15 dc15 pm15 cd15 ct15 oc16 kV16 dc16 pm16 cd16 ct16 oc17 kV17 dc17 pm17 cd17 ct17 oc18 kV18 dc18 pm18 cd18 ct18 oc19 kV19 dc19 pm19 cd19 ct19 oc20 kV20 dc20 pm20 cd20 ct20 oc21 kV21 dc21 pm21 cd21 ct21 oc22 kV22 dc22 pm22 cd22 ct22 oc23 kV23 dc23 pm23 cd23 ct23 oc24 kV24 dc24 pm24 cd24 ct24 : Value}
    (aC : PySem.W.nsIn K mainGlobals "Teller" = some (some (.ref C)))
    (a1 : PySem.W.nsIn K mainGlobals "run" = some (some (.ref f1))) (l1 : K.lookup f1 = some ⟨oc1, od1, .func (PySem.W.fnOf "run" "run" (defArgs sRun) (defBody sRun) (defScope sRun) .none kV1 dc1 pm1 an1 cd1 ct1), sl1⟩) (c1 : PySem.W.codeIn K cd1 "run" = true) (k1 : PySem.W.keepIn K (.ref f1) = true)
    (a2 : PySem.W.nsIn K mainGlobals "hand_text" = some (some (.ref f2))) (l2 : K.lookup f2 = some ⟨oc2, od2, .func (PySem.W.fnOf "hand_text" "hand_text" (defArgs sHandText) (defBody sHandText) (defScope sHandText) .none kV2 dc2 pm2 an2 cd2 ct2), sl2⟩) (c2 : PySem.W.codeIn K cd2 "hand_text" = true) (k2 : PySem.W.keepIn K (.ref f2) = true)
    (a3 : PySem.W.nsIn K mainGlobals "worth" = some (some (.ref f3))) (l3 : K.lookup f3 = some ⟨oc3, od3, .func (PySem.W.fnOf "worth" "worth" (defArgs sWorth) (defBody sWorth) (defScope sWorth) .none kV3 dc3 pm3 an3 cd3 ct3), sl3⟩) (c3 : PySem.W.codeIn K cd3 "worth" = true) (k3 : PySem.W.keepIn K (.ref f3) = true)
    (a4 : PySem.W.nsIn K mainGlobals "holds" = some (some (.ref f4))) (l4 : K.lookup f4 = some ⟨oc4, od4, .func (PySem.W.fnOf "holds" "holds" (defArgs sHolds) (defBody sHolds) (defScope sHolds) .none kV4 dc4 pm4 an4 cd4 ct4), sl4⟩) (c4 : PySem.W.codeIn K cd4 "holds" = true) (k4 : PySem.W.keepIn K (.ref f4) = true)
    (a5 : PySem.W.nsIn K mainGlobals "frozen" = some (some (.ref f5))) (l5 : K.lookup f5 = some ⟨oc5, od5, .func (PySem.W.fnOf "frozen" "frozen" (defArgs sFrozen) (defBody sFrozen) (defScope sFrozen) .none kV5 dc5 pm5 an5 cd5 ct5), sl5⟩) (c5 : PySem.W.codeIn K cd5 "frozen" = true) (k5 : PySem.W.keepIn K (.ref f5) = true)
    (a6 : PySem.W.nsIn K mainGlobals "part_of" = some (some (.ref f6))) (l6 : K.lookup f6 = some ⟨oc6, od6, .func (PySem.W.fnOf "part_of" "part_of" (defArgs sPartOf) (defBody sPartOf) (defScope sPartOf) .none kV6 dc6 pm6 an6 cd6 ct6), sl6⟩) (c6 : PySem.W.codeIn K cd6 "part_of" = true) (k6 : PySem.W.keepIn K (.ref f6) = true)
    (a7 : PySem.W.nsIn K mainGlobals "branch_for" = some (some (.ref f7))) (l7 : K.lookup f7 = some ⟨oc7, od7, .func (PySem.W.fnOf "branch_for" "branch_for" (defArgs sBranchFor) (defBody sBranchFor) (defScope sBranchFor) .none kV7 dc7 pm7 an7 cd7 ct7), sl7⟩) (c7 : PySem.W.codeIn K cd7 "branch_for" = true) (k7 : PySem.W.keepIn K (.ref f7) = true)
    (a8 : PySem.W.nsIn K mainGlobals "branch_for_none" = some (some (.ref f8))) (l8 : K.lookup f8 = some ⟨oc8, od8, .func (PySem.W.fnOf "branch_for_none" "branch_for_none" (defArgs sBranchNone) (defBody sBranchNone) (defScope sBranchNone) .none kV8 dc8 pm8 an8 cd8 ct8), sl8⟩) (c8 : PySem.W.codeIn K cd8 "branch_for_none" = true) (k8 : PySem.W.keepIn K (.ref f8) = true)
    (a9 : PySem.W.nsIn K mainGlobals "cut_to" = some (some (.ref f9))) (l9 : K.lookup f9 = some ⟨oc9, od9, .func (PySem.W.fnOf "cut_to" "cut_to" (defArgs sCutTo) (defBody sCutTo) (defScope sCutTo) .none kV9 dc9 pm9 an9 cd9 ct9), sl9⟩) (c9 : PySem.W.codeIn K cd9 "cut_to" = true) (k9 : PySem.W.keepIn K (.ref f9) = true)
    (a10 : PySem.W.nsIn K mainGlobals "_law_cell" = some (some (.ref f10))) (l10 : K.lookup f10 = some ⟨oc10, od10, .func (PySem.W.fnOf "_law_cell" "_law_cell" (defArgs sCell) (defBody sCell) (defScope sCell) .none kV10 dc10 pm10 an10 cd10 ct10), sl10⟩) (c10 : PySem.W.codeIn K cd10 "_law_cell" = true) (k10 : PySem.W.keepIn K (.ref f10) = true)
    (a11 : PySem.W.nsIn K mainGlobals "_law_stir" = some (some (.ref f11))) (l11 : K.lookup f11 = some ⟨oc11, od11, .func (PySem.W.fnOf "_law_stir" "_law_stir" (defArgs sStir) (defBody sStir) (defScope sStir) .none kV11 dc11 pm11 an11 cd11 ct11), sl11⟩) (c11 : PySem.W.codeIn K cd11 "_law_stir" = true) (k11 : PySem.W.keepIn K (.ref f11) = true)
    (a12 : PySem.W.nsIn K mainGlobals "_law_drawn" = some (some (.ref f12))) (l12 : K.lookup f12 = some ⟨oc12, od12, .func (PySem.W.fnOf "_law_drawn" "_law_drawn" (defArgs sDrawn) (defBody sDrawn) (defScope sDrawn) .none kV12 dc12 pm12 an12 cd12 ct12), sl12⟩) (c12 : PySem.W.codeIn K cd12 "_law_drawn" = true) (k12 : PySem.W.keepIn K (.ref f12) = true)
    (a13 : PySem.W.nsIn K mainGlobals "_law_script" = some (some (.ref f13))) (l13 : K.lookup f13 = some ⟨oc13, od13, .func (PySem.W.fnOf "_law_script" "_law_script" (defArgs sScript) (defBody sScript) (defScope sScript) .none kV13 dc13 pm13 an13 cd13 ct13), sl13⟩) (c13 : PySem.W.codeIn K cd13 "_law_script" = true) (k13 : PySem.W.keepIn K (.ref f13) = true)
    (a14 : PySem.W.nsIn K mainGlobals "_law_event" = some (some (.ref f14))) (l14 : K.lookup f14 = some ⟨oc14, od14, .func (PySem.W.fnOf "_law_event" "_law_event" (defArgs sEvent) (defBody sEvent) (defScope sEvent) .none kV14 dc14 pm14 an14 cd14 ct14), sl14⟩) (c14 : PySem.W.codeIn K cd14 "_law_event" = true) (k14 : PySem.W.keepIn K (.ref f14) = true)
    (a15 : PySem.W.nsIn K mainGlobals "_law_row" = some (some (.ref f15))) (l15 : K.lookup f15 = some ⟨oc15, od15, .func (PySem.W.fnOf "_law_row" "_law_row" (defArgs sRow) (defBody sRow) (defScope sRow) .none kV15 dc15 pm15 an15 cd15 ct15), sl15⟩) (c15 : PySem.W.codeIn K cd15 "_law_row" = true) (k15 : PySem.W.keepIn K (.ref f15) = true)
    (a16 : PySem.W.nsIn K mainGlobals "_law_turn" = some (some (.ref f16))) (l16 : K.lookup f16 = some ⟨oc16, od16, .func (PySem.W.fnOf "_law_turn" "_law_turn" (defArgs sTurn) (defBody sTurn) (defScope sTurn) .none kV16 dc16 pm16 an16 cd16 ct16), sl16⟩) (c16 : PySem.W.codeIn K cd16 "_law_turn" = true) (k16 : PySem.W.keepIn K (.ref f16) = true)
    (a17 : PySem.W.nsIn K mainGlobals "law" = some (some (.ref f17))) (l17 : K.lookup f17 = some ⟨oc17, od17, .func (PySem.W.fnOf "law" "law" (defArgs sLaw) (defBody sLaw) (defScope sLaw) .none kV17 dc17 pm17 an17 cd17 ct17), sl17⟩) (c17 : PySem.W.codeIn K cd17 "law" = true) (k17 : PySem.W.keepIn K (.ref f17) = true)
    (a18 : PySem.W.findIn K (.ref C) "__init__" = some (some (.ref f18))) (i18 : PySem.W.isFn K (.ref f18) = true) (l18 : K.lookup f18 = some ⟨oc18, od18, .func (PySem.W.fnOf "__init__" "Teller.__init__" (defArgs sInit) (defBody sInit) (defScope sInit) .none kV18 dc18 pm18 an18 cd18 ct18), sl18⟩) (c18 : PySem.W.codeIn K cd18 "Teller.__init__" = true) (k18 : PySem.W.keepIn K (.ref f18) = true)
    (a19 : PySem.W.findIn K (.ref C) "body_at" = some (some (.ref f19))) (i19 : PySem.W.isFn K (.ref f19) = true) (l19 : K.lookup f19 = some ⟨oc19, od19, .func (PySem.W.fnOf "body_at" "Teller.body_at" (defArgs sBodyAt) (defBody sBodyAt) (defScope sBodyAt) .none kV19 dc19 pm19 an19 cd19 ct19), sl19⟩) (c19 : PySem.W.codeIn K cd19 "Teller.body_at" = true) (k19 : PySem.W.keepIn K (.ref f19) = true)
    (a20 : PySem.W.findIn K (.ref C) "behind" = some (some (.ref f20))) (i20 : PySem.W.isFn K (.ref f20) = true) (l20 : K.lookup f20 = some ⟨oc20, od20, .func (PySem.W.fnOf "behind" "Teller.behind" (defArgs sBehind) (defBody sBehind) (defScope sBehind) .none kV20 dc20 pm20 an20 cd20 ct20), sl20⟩) (c20 : PySem.W.codeIn K cd20 "Teller.behind" = true) (k20 : PySem.W.keepIn K (.ref f20) = true)
    (a21 : PySem.W.findIn K (.ref C) "put_in" = some (some (.ref f21))) (i21 : PySem.W.isFn K (.ref f21) = true) (l21 : K.lookup f21 = some ⟨oc21, od21, .func (PySem.W.fnOf "put_in" "Teller.put_in" (defArgs sPutIn) (defBody sPutIn) (defScope sPutIn) .none kV21 dc21 pm21 an21 cd21 ct21), sl21⟩) (c21 : PySem.W.codeIn K cd21 "Teller.put_in" = true) (k21 : PySem.W.keepIn K (.ref f21) = true)
    (a22 : PySem.W.findIn K (.ref C) "go" = some (some (.ref f22))) (i22 : PySem.W.isFn K (.ref f22) = true) (l22 : K.lookup f22 = some ⟨oc22, od22, .func (PySem.W.fnOf "go" "Teller.go" (defArgs sGo) (defBody sGo) (defScope sGo) .none kV22 dc22 pm22 an22 cd22 ct22), sl22⟩) (c22 : PySem.W.codeIn K cd22 "Teller.go" = true) (k22 : PySem.W.keepIn K (.ref f22) = true)
    (a23 : PySem.W.findIn K (.ref C) "begin" = some (some (.ref f23))) (i23 : PySem.W.isFn K (.ref f23) = true) (l23 : K.lookup f23 = some ⟨oc23, od23, .func (PySem.W.fnOf "begin" "Teller.begin" (defArgs sBegin) (defBody sBegin) (defScope sBegin) .none kV23 dc23 pm23 an23 cd23 ct23), sl23⟩) (c23 : PySem.W.codeIn K cd23 "Teller.begin" = true) (k23 : PySem.W.keepIn K (.ref f23) = true)
    (a24 : PySem.W.findIn K (.ref C) "step" = some (some (.ref f24))) (i24 : PySem.W.isFn K (.ref f24) = true) (l24 : K.lookup f24 = some ⟨oc24, od24, .func (PySem.W.fnOf "step" "Teller.step" (defArgs sStep) (defBody sStep) (defScope sStep) .none kV24 dc24 pm24 an24 cd24 ct24), sl24⟩) (c24 : PySem.W.codeIn K cd24 "Teller.step" = true) (k24 : PySem.W.keepIn K (.ref f24) = true)
    (pg : PySem.W.plainGet K C Str.empty = true) (hd : PySem.W.hasDictIn K C = true) (po : PySem.W.plainOver K C = true) (sa : PySem.W.findIn K (.ref C) "__setattr__" = some (some (.builtin "object.__setattr__"))) (mk : PySem.W.makesIn K C = true) (kc : PySem.W.keepIn K (.ref C) = true)
    (nB : PySem.W.findIn K (.ref C) "boxes" = some none) (nT : PySem.W.findIn K (.ref C) "talks" = some none) (nN : PySem.W.findIn K (.ref C) "numbers" = some none)
    (z1 : PySem.W.nsIn K mainGlobals "str" = some none) (z2 : PySem.W.nsIn K mainGlobals "isinstance" = some none) (z3 : PySem.W.nsIn K mainGlobals "list" = some none) (z4 : PySem.W.nsIn K mainGlobals "tuple" = some none) (z5 : PySem.W.nsIn K mainGlobals "range" = some none) (z6 : PySem.W.nsIn K mainGlobals "len" = some none) (z7 : PySem.W.nsIn K mainGlobals "int" = some none) (z8 : PySem.W.nsIn K mainGlobals "max" = some none) (z9 : PySem.W.nsIn K mainGlobals "enumerate" = some none) :
    ∃ fd : FuncData, (∀ (s : Shared) (v : Value), BindsTo s fd ⟨[v], []⟩ [("script", v)]) ∧ ∀ base : Heap, K.In base → base.Ns mainGlobals mg → FnOk l.prog w K mg base CX0 16 fa fd ["script"] (spLaw K) := by
  have e := hfa.symm.trans (PySem.W.mg_of X G a17)
  cases e
  have T : TxtT K C := ⟨⟨pg, hd, po, sa⟩, nB, nT, nN⟩
  have F1 := fun_mk (st := sRun) l1 c1 k1
  have b1 := F1.binds (ps := ["machine", "events"]) fun _ _ _ _ _ _ us hl => match us, hl with | [_, _], _ => rfl
  have m1 := PySem.W.mg_of X G a1
  have F2 := fun_mk (st := sHandText) l2 c2 k2
  have b2 := F2.binds (ps := ["line", "word"]) fun _ _ _ _ _ _ us hl => match us, hl with | [_, _], _ => rfl
  have m2 := PySem.W.mg_of X G a2
  have F3 := fun_mk (st := sWorth) l3 c3 k3
  have b3 := F3.binds (ps := ["expression", "boxes", "values"]) fun _ _ _ _ _ _ us hl => match us, hl with | [_, _, _], _ => rfl
  have m3 := PySem.W.mg_of X G a3
  have F4 := fun_mk (st := sHolds) l4 c4 k4
  have b4 := F4.binds (ps := ["condition", "boxes", "values"]) fun _ _ _ _ _ _ us hl => match us, hl with | [_, _, _], _ => rfl
  have m4 := PySem.W.mg_of X G a4
  have F5 := fun_mk (st := sFrozen) l5 c5 k5
  have b5 := F5.binds (ps := ["thing"]) fun _ _ _ _ _ _ us hl => match us, hl with | [_], _ => rfl
  have m5 := PySem.W.mg_of X G a5
  have F6 := fun_mk (st := sPartOf) l6 c6 k6
  have b6 := F6.binds (ps := ["statement", "number"]) fun _ _ _ _ _ _ us hl => match us, hl with | [_, _], _ => rfl
  have m6 := PySem.W.mg_of X G a6
  have F7 := fun_mk (st := sBranchFor) l7 c7 k7
  have b7 := F7.binds (ps := ["wait", "event"]) fun _ _ _ _ _ _ us hl => match us, hl with | [_, _], _ => rfl
  have m7 := PySem.W.mg_of X G a7
  have F8 := fun_mk (st := sBranchNone) l8 c8 k8
  have b8 := F8.binds (ps := ["wait"]) fun _ _ _ _ _ _ us hl => match us, hl with | [_], _ => rfl
  have m8 := PySem.W.mg_of X G a8
  have F9 := fun_mk (st := sCutTo) l9 c9 k9
  have b9 := F9.binds (ps := ["frames", "kind"]) fun _ _ _ _ _ _ us hl => match us, hl with | [_, _], _ => rfl
  have m9 := PySem.W.mg_of X G a9
  have F10 := fun_mk (st := sCell) l10 c10 k10
  have b10 := F10.binds (ps := ["script", "k"]) fun _ _ _ _ _ _ us hl => match us, hl with | [_, _], _ => rfl
  have m10 := PySem.W.mg_of X G a10
  have F11 := fun_mk (st := sStir) l11 c11 k11
  have b11 := F11.binds (ps := ["cell", "k"]) fun _ _ _ _ _ _ us hl => match us, hl with | [_, _], _ => rfl
  have m11 := PySem.W.mg_of X G a11
  have F12 := fun_mk (st := sDrawn) l12 c12 k12
  have b12 := F12.binds (ps := ["cell", "sizes"]) fun _ _ _ _ _ _ us hl => match us, hl with | [_, _], _ => rfl
  have m12 := PySem.W.mg_of X G a12
  have F13 := fun_mk (st := sScript) l13 c13 k13
  have b13 := F13.binds (ps := ["script"]) fun _ _ _ _ _ _ us hl => match us, hl with | [_], _ => rfl
  have m13 := PySem.W.mg_of X G a13
  have F14 := fun_mk (st := sEvent) l14 c14 k14
  have b14 := F14.binds (ps := ["cell", "rows"]) fun _ _ _ _ _ _ us hl => match us, hl with | [_, _], _ => rfl
  have m14 := PySem.W.mg_of X G a14
  have F15 := fun_mk (st := sRow) l15 c15 k15
  have b15 := F15.binds (ps := ["rows", "pattern"]) fun _ _ _ _ _ _ us hl => match us, hl with | [_, _], _ => rfl
  have m15 := PySem.W.mg_of X G a15
  have F16 := fun_mk (st := sTurn) l16 c16 k16
  have b16 := F16.binds (ps := ["rows", "limit", "left", "event"]) fun _ _ _ _ _ _ us hl => match us, hl with | [_, _, _, _], _ => rfl
  have m16 := PySem.W.mg_of X G a16
  have F17 := fun_mk (st := sLaw) l17 c17 k17
  have b17 := F17.binds (ps := ["script"]) fun _ _ _ _ _ _ us hl => match us, hl with | [_], _ => rfl
  have m17 := PySem.W.mg_of X G a17
  have F18 := fun_mk (st := sInit) l18 c18 k18
  have b18 := F18.binds (ps := ["self", "script"]) fun _ _ _ _ _ _ us hl => match us, hl with | [_, _], _ => rfl
  have F19 := fun_mk (st := sBodyAt) l19 c19 k19
  have b19 := F19.binds (ps := ["self", "path"]) fun _ _ _ _ _ _ us hl => match us, hl with | [_, _], _ => rfl
  have F20 := fun_mk (st := sBehind) l20 c20 k20
  have b20 := F20.binds (ps := ["self", "statement", "path", "at", "frames"]) fun _ _ _ _ _ _ us hl => match us, hl with | [_, _, _, _, _], _ => rfl
  have F21 := fun_mk (st := sPutIn) l21 c21 k21
  have b21 := F21.binds (ps := ["self", "values", "name", "expression"]) fun _ _ _ _ _ _ us hl => match us, hl with | [_, _, _, _], _ => rfl
  have F22 := fun_mk (st := sGo) l22 c22 k22
  have b22 := F22.binds (ps := ["self", "frames", "values"]) fun _ _ _ _ _ _ us hl => match us, hl with | [_, _, _], _ => rfl
  have F23 := fun_mk (st := sBegin) l23 c23 k23
  have b23 := F23.binds (ps := ["self"]) fun _ _ _ _ _ _ us hl => match us, hl with | [_], _ => rfl
  have F24 := fun_mk (st := sStep) l24 c24 k24
  have b24 := F24.binds (ps := ["self", "standing", "event"]) fun _ _ _ _ _ _ us hl => match us, hl with | [_, _, _], _ => rfl
  have n_str := PySem.W.mg_none_of X G z1
  have n_isinstance := PySem.W.mg_none_of X G z2
  have n_list := PySem.W.mg_none_of X G z3
  have n_tuple := PySem.W.mg_none_of X G z4
  have n_range := PySem.W.mg_none_of X G z5
  have n_len := PySem.W.mg_none_of X G z6
  have n_int := PySem.W.mg_none_of X G z7
  have n_max := PySem.W.mg_none_of X G z8
  have n_enumerate := PySem.W.mg_none_of X G z9
  refine ⟨PySem.W.fnOf "law" "law" (defArgs sLaw) (defBody sLaw) (defScope sLaw) .none kV17 dc17 pm17 an17 cd17 ct17, fun s v => .of_eq rfl, fun base _ _ => ?_⟩
  have TF : FrozenAt K mg f5 _ := ⟨F5, b5, m5, n_isinstance, n_list, n_tuple⟩
  have TW : WorthAt K mg f3 _ := ⟨F3, b3, m3⟩
  have TO : HoldsAt K mg f4 _ := ⟨F4, b4, m4⟩
  have TH : HandAt K mg f2 _ := ⟨F2, b2, m2, n_str⟩
  have TP : PartAt K mg f6 _ := ⟨F6, b6, m6⟩
  have TC : CutAt K mg f9 _ := ⟨F9, b9, m9, n_list⟩
  have TB : BrAt K mg f7 _ := ⟨F7, b7, m7⟩
  have TN : BnAt K mg f8 _ := ⟨F8, b8, m8⟩
  have LC : CellAt K mg f10 _ := ⟨F10, b10, m10⟩
  have LS : StirAt K mg f11 _ := ⟨F11, b11, m11⟩
  have LD : DrawnAt K mg f12 _ := ⟨F12, b12, m12⟩
  have LR : RowAt K mg f15 _ := ⟨F15, b15, m15⟩
  have MB : MethAt K C "body_at" "Teller.body_at" sBodyAt ["self", "path"] f19 _ := ⟨F19, b19, ⟨a19, i19, k19⟩⟩
  have ME : MethAt K C "behind" "Teller.behind" sBehind ["self", "statement", "path", "at", "frames"] f20 _ := ⟨F20, b20, ⟨a20, i20, k20⟩⟩
  have MP : MethAt K C "put_in" "Teller.put_in" sPutIn ["self", "values", "name", "expression"] f21 _ := ⟨F21, b21, ⟨a21, i21, k21⟩⟩
  have MG : MethAt K C "go" "Teller.go" sGo ["self", "frames", "values"] f22 _ := ⟨F22, b22, ⟨a22, i22, k22⟩⟩
  have Mb : MethAt K C "begin" "Teller.begin" sBegin ["self"] f23 _ := ⟨F23, b23, ⟨a23, i23, k23⟩⟩
  have Ms : MethAt K C "step" "Teller.step" sStep ["self", "standing", "event"] f24 _ := ⟨F24, b24, ⟨a24, i24, k24⟩⟩
  have GG : FnOk l.prog w K mg base CX0 4 f22 _ ["self", "frames", "values"] (SpGo K C) := ok_go F22 T TH TO TW TP TC MB ME MP n_range n_len n_tuple n_int
  have Gb : FnOk l.prog w K mg base CX0 5 f23 _ ["self"] (SpM K C FBegin) := ok_begin F23 T MG GG n_tuple
  have Gs : FnOk l.prog w K mg base CX0 5 f24 _ ["self", "standing", "event"] (SpM K C FStep) := ok_step F24 T MG GG MB TB TN TP n_tuple n_range n_len n_max n_list
  have Gr : FnOk l.prog w K mg base CX0 6 f1 _ ["machine", "events"] (SpM K C FRun) := ok_run F1 T Mb Gb Ms Gs
  have Gi : FnOk l.prog w K mg base CX0 14 f18 _ ["self", "script"] (SpInit K C 12) := ok_init F18 T TF n_enumerate
  have Gx : FnOk l.prog w K mg base CX0 15 f13 _ ["script"] (SpG K GScr) := ok_script F13 LC LD LS n_range n_int n_len n_str n_enumerate
  have Ge : FnOk l.prog w K mg base CX0 15 f14 _ ["cell", "rows"] (SpD K FEvent) := ok_event F14 LD LS n_enumerate n_len
  have Gt : FnOk l.prog w K mg base CX0 15 f16 _ ["rows", "limit", "left", "event"] (SpD K FTurn) := ok_turn F16 LR
  exact ok_law F17 ⟨F13.kp, b13, m13⟩ Gx ⟨F14.kp, b14, m14⟩ Ge ⟨F16.kp, b16, m16⟩ Gt ⟨F1.kp, b1, m1⟩ Gr ⟨mk, a18, i18, kc⟩ Gi b18 (PySem.W.mg_of X G aC)
theorem walk {l : PySem.W.OpenLaw} {q : Program} {loose : List Str} {XP : (Str → Option Value) → Heap → Prop} {YP : World → Heap → Prop} {d : DefRec} {K : Params → PySem.W.Frag} (hn : l.most = some 63) (hdf : d.params.defaults = [])
    (hY : ∀ (w : World) (h : Heap), YP w h → (K w.params).In h)
    (F : ∀ (w : World) (mg : Str → Option Value) (fa : Addr) (h : Heap), (K w.params).In h → h.Ns mainGlobals mg → mg d.name = some (.ref fa) →
      ∃ fd : FuncData, (∀ (s : Shared) (u : Value), BindsTo s fd ⟨[u], []⟩ [("script", u)]) ∧ ∀ base : Heap, (K w.params).In base → base.Ns mainGlobals mg → FnOk l.prog w (K w.params) mg base CX0 16 fa fd ["script"] (spLaw (K w.params))) :
    PySem.W.WalkO q loose XP YP l.row.toRowW d [] (fun f vs => PySem.call f vs) :=
  L2.walk_of (n := 63) (k := 16) (x := "script") (CX := fun _ => CX0) (sp := fun w => spLaw (K w.params)) hn (by decide) hdf ⟨rfl, by decide, by decide⟩ hY F (fun _ H a ns hl E hS => ⟨H, a, ns, [], [], .bool true, rfl, Same.refl _, hS, .nil, ⟨rfl, rfl⟩, fun v Hf' H' _ hv => by cases hv; rfl⟩) fun _ _ _ _ _ z => z
end Cm
open PySem PySem.W PyProof.Rows
set_option maxRecDepth 100000 in
set_option maxHeartbeats 0 in
theorem PySem.Challenge.cw_callmill_k22_whole_waits_by_turns_holds : PySem.Challenge.rw_callmill_k22_whole_waits_by_turns.Holds := by
  w_on; o_law; k_head; (case hw => w_witness2)
  k_fill
  refine Cm.walk (l := PySem.Challenge.rw_callmill_k22_whole_waits_by_turns) rfl rfl (fun w h Y => PySem.W.kIn_of Y) ?F
  case F =>
    intro w mg fa h KX G hmg
    refine' Cm.all_mk KX G hmg ?aC ?a1 ?l1 ?c1 ?k1 ?a2 ?l2 ?c2 ?k2 ?a3 ?l3 ?c3 ?k3 ?a4 ?l4 ?c4 ?k4 ?a5 ?l5 ?c5 ?k5 ?a6 ?l6 ?c6 ?k6 ?a7 ?l7 ?c7 ?k7 ?a8 ?l8 ?c8 ?k8 ?a9 ?l9 ?c9 ?k9 ?a10 ?l10 ?c10 ?k10 ?a11 ?l11 ?c11 ?k11 ?a12 ?l12 ?c12 ?k12 ?a13 ?l13 ?c13 ?k13 ?a14 ?l14 ?c14 ?k14 ?a15 ?l15 ?c15 ?k15 ?a16 ?l16 ?c16 ?k16 ?a17 ?l17 ?c17 ?k17 ?a18 ?i18 ?l18 ?c18 ?k18 ?a19 ?i19 ?l19 ?c19 ?k19 ?a20 ?i20 ?l20 ?c20 ?k20 ?a21 ?i21 ?l21 ?c21 ?k21 ?a22 ?i22 ?l22 ?c22 ?k22 ?a23 ?i23 ?l23 ?c23 ?k23 ?a24 ?i24 ?l24 ?c24 ?k24 ?pg ?hd ?po ?sa ?mk ?kc ?nB ?nT ?nN ?z1 ?z2 ?z3 ?z4 ?z5 ?z6 ?z7 ?z8 ?z9
    (case aC => k_is); (case a1 => k_is); (case l1 => k_is); (case c1 => k_is); (case k1 => k_is); (case a2 => k_is); (case l2 => k_is); (case c2 => k_is)
    (case k2 => k_is); (case a3 => k_is); (case l3 => k_is); (case c3 => k_is); (case k3 => k_is); (case a4 => k_is); (case l4 => k_is); (case c4 => k_is)
    (case k4 => k_is); (case a5 => k_is); (case l5 => k_is); (case c5 => k_is); (case k5 => k_is); (case a6 => k_is); (case l6 => k_is); (case c6 => k_is)
    (case k6 => k_is); (case a7 => k_is); (case l7 => k_is); (case c7 => k_is); (case k7 => k_is); (case a8 => k_is); (case l8 => k_is); (case c8 => k_is)
    (case k8 => k_is); (case a9 => k_is); (case l9 => k_is); (case c9 => k_is); (case k9 => k_is); (case a10 => k_is); (case l10 => k_is); (case c10 => k_is)
    (case k10 => k_is); (case a11 => k_is); (case l11 => k_is); (case c11 => k_is); (case k11 => k_is); (case a12 => k_is); (case l12 => k_is); (case c12 => k_is)
    (case k12 => k_is); (case a13 => k_is); (case l13 => k_is); (case c13 => k_is); (case k13 => k_is); (case a14 => k_is); (case l14 => k_is); (case c14 => k_is)
    (case k14 => k_is); (case a15 => k_is); (case l15 => k_is); (case c15 => k_is); (case k15 => k_is); (case a16 => k_is); (case l16 => k_is); (case c16 => k_is)
    (case k16 => k_is); (case a17 => k_is); (case l17 => k_is); (case c17 => k_is); (case k17 => k_is); (case a18 => k_is); (case i18 => k_is); (case l18 => k_is)
    (case c18 => k_is); (case k18 => k_is); (case a19 => k_is); (case i19 => k_is); (case l19 => k_is); (case c19 => k_is); (case k19 => k_is); (case a20 => k_is)
    (case i20 => k_is); (case l20 => k_is); (case c20 => k_is); (case k20 => k_is); (case a21 => k_is); (case i21 => k_is); (case l21 => k_is); (case c21 => k_is)
    (case k21 => k_is); (case a22 => k_is); (case i22 => k_is); (case l22 => k_is); (case c22 => k_is); (case k22 => k_is); (case a23 => k_is); (case i23 => k_is)
    (case l23 => k_is); (case c23 => k_is); (case k23 => k_is); (case a24 => k_is); (case i24 => k_is); (case l24 => k_is); (case c24 => k_is); (case k24 => k_is)
    (case pg => k_is); (case hd => k_is); (case po => k_is); (case sa => k_is); (case mk => k_is); (case kc => k_is); (case nB => k_is); (case nT => k_is)
    (case nN => k_is); (case z1 => k_is); (case z2 => k_is); (case z3 => k_is); (case z4 => k_is); (case z5 => k_is); (case z6 => k_is); (case z7 => k_is)
    (case z8 => k_is); (case z9 => k_is)
#print axioms PySem.Challenge.cw_callmill_k22_whole_waits_by_turns_holds
